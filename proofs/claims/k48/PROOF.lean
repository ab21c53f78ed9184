import PyProof.Rows.All
import Wide.All
import OpenK.AllK
import Wide.FinOn
import KE.KStateDown
import HandS.ForMost
import HandS.Wide
import HandS.Zip
import HandS.Walk
import HandS.DictComp
import HandS.IsInst
import HandS.Property
import HandS.TupAny
import HandS.More
import KE.GoesNew
import KE.GoesMore
import HandS.SortKw
import HandS.WordsExc
import HandS.TryMany
import HandS.Star
import HandS.MethStar
import HandS.TupMul
import HandS.Deep
import HandS.Conv
import HandS.Strs
import HandS.SortInts
import HandS.SortRule
import HandS.MakeKwOnly
import HandS.Lambda
import KE.SortKeyHeap
import PyProof.Rows.Tup
import PyProof.Rows.TupReads
import HandS.GenCall
import HandS.GenList
import PyProof.CompFree
import PyProof.Walks
import HandS.Head0
import HandS.Head1
import HandS.Head2
import HandS.HeadEnd
import HandS.HeadHook1
import HandS.HeadHook2
import HandS.HeadWalk
import PySem.Challenge.RW_flipchoice_k48_whole_capped_words_follow
set_option Elab.async false
set_option linter.all false
set_option maxRecDepth 100000
set_option maxHeartbeats 4000000
set_option exponentiation.threshold 20000
namespace Fc
open PySem L2

/-! ## data without the heap; objects by address -/
inductive D where
  | non | bl (b : Bool) | int (i : Int) | str (s : Str) | tup (ds : List D) | ref (a : Addr) | ty (n : String)
  /-- a tuple of which is known that it has no dict -/
  | tupN (ds : List D)
inductive O where
  | lst (ds : List D) | dct (kvs : List (Key × D)) | ins (C dx : Addr) (fs : List (Str × D))
  /-- an empty table of code objects -/
  | tb0
abbrev Hl := List (Addr × O)

def TpN (H : Hp) (a : Addr) (xs : List V) : Prop := ∃ od : Obj, H a = some (.frz od (.tup xs)) ∧ od.dict = none
mutual
inductive Im (K : PySem.W.Frag) (H : Hp) : V → D → Prop where
  | non : Im K H .non .non
  | bl (b : Bool) : Im K H (.bl b) (.bl b)
  | int (i : Int) : Im K H (.int i) (.int i)
  | str (x : Str) : Im K H (.str x) (.str x)
  | ty (n : String) : Im K H (.ty n) (.ty n)
  | ref (a : Addr) : Im K H (.ref a) (.ref a)
  | tup {a : Addr} {xs : List V} {ds : List D} : SqT K H a xs → ImL K H xs ds → Im K H (.ref a) (.tup ds)
  | tupN {a : Addr} {xs : List V} {ds : List D} : TpN H a xs → ImL K H xs ds → Im K H (.ref a) (.tupN ds)
inductive ImL (K : PySem.W.Frag) (H : Hp) : List V → List D → Prop where
  | nil : ImL K H [] []
  | cons {x : V} {xs : List V} {d : D} {ds : List D} : Im K H x d → ImL K H xs ds → ImL K H (x :: xs) (d :: ds)
end

/-- tuples stay -/
structure TX (H H' : Hp) : Prop where
  tup : ∀ a xs, H a = some (.tup xs) → H' a = some (.tup xs)
  frz : ∀ a o xs, H a = some (.frz o (.tup xs)) → H' a = some (.frz o (.tup xs))
theorem TX.refl (H : Hp) : TX H H := ⟨fun _ _ h => h, fun _ _ _ h => h⟩
theorem TX.trans {H H1 H2 : Hp} (a : TX H H1) (b : TX H1 H2) : TX H H2 := ⟨fun p xs h => b.tup p xs (a.tup p xs h), fun p o xs h => b.frz p o xs (a.frz p o xs h)⟩
theorem Same.tx {H H' : Hp} (e : Same H H') : TX H H' := ⟨fun _ _ h => e _ _ h, fun _ _ _ h => e _ _ h⟩
theorem Same.new {H : Hp} {p : Addr} {o : HO} (h : H p = none) : Same H (upd H p o) := fun a u e => by
  rw [upd_ne (ne_of_none e h)]
  exact e
theorem TX.upd {H : Hp} {a : Addr} {o u : HO} (h : H a = some o) (h1 : ∀ xs, o ≠ .tup xs) (h2 : ∀ z xs, o ≠ .frz z (.tup xs)) : TX H (upd H a u) :=
  ⟨fun p xs e => by rw [upd_ne (fun q => by subst q; rw [h] at e; exact h1 _ (Option.some.inj e))]; exact e,
   fun p z xs e => by rw [upd_ne (fun q => by subst q; rw [h] at e; exact h2 _ _ (Option.some.inj e))]; exact e⟩
theorem SqT.tx {K : PySem.W.Frag} {H H' : Hp} {a : Addr} {xs : List V} (t : TX H H') (h : SqT K H a xs) : SqT K H' a xs := by
  rcases h with (h | ⟨o, h⟩) | h
  · exact .inl (.inl (t.tup _ _ h))
  · exact .inl (.inr ⟨o, t.frz _ _ _ h⟩)
  · exact .inr h
mutual
theorem Im.tx {K : PySem.W.Frag} {H H' : Hp} (t : TX H H') : ∀ (d : D) (v : V), Im K H v d → Im K H' v d
  | .non, _, .non => .non
  | .bl _, _, .bl _ => .bl _
  | .int _, _, .int _ => .int _
  | .str _, _, .str _ => .str _
  | .ty _, _, .ty _ => .ty _
  | .ref _, _, .ref _ => .ref _
  | .tup ds, _, .tup h hl => .tup (SqT.tx t h) (ImL.tx t ds _ hl)
  | .tupN ds, _, .tupN ⟨od, h, hd⟩ hl => .tupN ⟨od, t.frz _ _ _ h, hd⟩ (ImL.tx t ds _ hl)
theorem ImL.tx {K : PySem.W.Frag} {H H' : Hp} (t : TX H H') : ∀ (ds : List D) (vs : List V), ImL K H vs ds → ImL K H' vs ds
  | [], _, .nil => .nil
  | d :: ds, _, .cons h hl => .cons (Im.tx t d _ h) (ImL.tx t ds _ hl)
end
section
variable {K : PySem.W.Frag} {H H' : Hp}
theorem ImL.length : ∀ {vs : List V} {ds : List D}, ImL K H vs ds → vs.length = ds.length
  | _, _, .nil => rfl
  | _, _, .cons _ t => by rw [List.length_cons, List.length_cons, ImL.length t]
theorem ImL.get : ∀ {vs : List V} {ds : List D}, ImL K H vs ds → ∀ {i : Nat} {v : V}, vs[i]? = some v → ∃ d, ds[i]? = some d ∧ Im K H v d
  | _, _, .nil, _, _, e => by simp at e
  | _, _, .cons r _, 0, _, e => ⟨_, rfl, by simp at e; subst e; exact r⟩
  | _, _, .cons _ t, i + 1, v, e => by
    obtain ⟨d, h1, h2⟩ := ImL.get t (i := i) (v := v) (by simpa using e)
    exact ⟨d, by simpa using h1, h2⟩
theorem ImL.getD : ∀ {vs : List V} {ds : List D}, ImL K H vs ds → ∀ {i : Nat} {d : D}, ds[i]? = some d → ∃ v, vs[i]? = some v ∧ Im K H v d
  | _, _, .nil, _, _, e => by simp at e
  | _, _, .cons r _, 0, _, e => ⟨_, rfl, by simp at e; subst e; exact r⟩
  | _, _, .cons _ t, i + 1, v, e => by
    obtain ⟨d, h1, h2⟩ := ImL.getD t (i := i) (d := v) (by simpa using e)
    exact ⟨d, by simpa using h1, h2⟩
theorem ImL.append : ∀ {vs ws : List V} {ds es : List D}, ImL K H vs ds → ImL K H ws es → ImL K H (vs ++ ws) (ds ++ es)
  | _, _, _, _, .nil, s => s
  | _, _, _, _, .cons r t, s => .cons r (ImL.append t s)
theorem ImL.take : ∀ {vs : List V} {ds : List D} (n : Nat), ImL K H vs ds → ImL K H (vs.take n) (ds.take n)
  | _, _, 0, _ => .nil
  | _, _, _ + 1, .nil => .nil
  | _, _, n + 1, .cons r t => .cons r (ImL.take n t)
theorem ImL.drop : ∀ {vs : List V} {ds : List D} (n : Nat), ImL K H vs ds → ImL K H (vs.drop n) (ds.drop n)
  | _, _, 0, r => r
  | _, _, _ + 1, .nil => .nil
  | _, _, n + 1, .cons _ t => ImL.drop n t
theorem ImL.set {x : V} {d : D} (r : Im K H x d) : ∀ {vs : List V} {ds : List D} (i : Nat), ImL K H vs ds → ImL K H (vs.set i x) (ds.set i d)
  | _, _, _, .nil => .nil
  | _, _, 0, .cons _ t => .cons r t
  | _, _, i + 1, .cons q t => .cons q (ImL.set r i t)
theorem ImL.snoc {x : V} {d : D} {vs : List V} {ds : List D} (t : ImL K H vs ds) (r : Im K H x d) : ImL K H (vs ++ [x]) (ds ++ [d]) := t.append (.cons r .nil)
theorem ImL.ints : ∀ {vs : List V} {ns : List Int}, ImL K H vs (ns.map D.int) → vs = ns.map V.int
  | _, [], .nil => rfl
  | _, n :: ns, .cons r t => by cases r; rw [ImL.ints t]; rfl
theorem ImL.of_ints : ∀ (ns : List Int), ImL K H (ns.map V.int) (ns.map D.int)
  | [] => .nil
  | n :: ns => .cons (.int n) (ImL.of_ints ns)
theorem ImL.bls : ∀ {vs : List V} {ns : List Bool}, ImL K H vs (ns.map D.bl) → vs = ns.map V.bl
  | _, [], .nil => rfl
  | _, n :: ns, .cons r t => by cases r; rw [ImL.bls t]; rfl
theorem ImL.refs : ∀ {vs : List V} {ns : List Addr}, ImL K H vs (ns.map D.ref) → vs = ns.map V.ref
  | _, [], .nil => rfl
  | _, n :: ns, .cons r t => by cases r; rw [ImL.refs t]; rfl
theorem ImL.of_refs : ∀ (ns : List Addr), ImL K H (ns.map V.ref) (ns.map D.ref)
  | [] => .nil
  | n :: ns => .cons (.ref n) (ImL.of_refs ns)
end

abbrev PrI {κ : Type} (K : PySem.W.Frag) (H : Hp) : κ × V → κ × D → Prop := fun p q => p.1 = q.1 ∧ Im K H p.2 q.2
/-- an object of the abstract heap and what is told of it -/
def Ob (K : PySem.W.Frag) (H : Hp) : HO → O → Prop
  | .lst xs, .lst ds => ImL K H xs ds
  | .dK kvs, .dct kds => Paired (PrI K H) kvs kds
  | .ins C dx fs, .ins C' dx' fd => C = C' ∧ dx = dx' ∧ Paired (PrI K H) fs fd
  | .tbl ps, .tb0 => ps = #[]
  | _, _ => False
theorem Paired.tx {κ : Type} {K : PySem.W.Frag} {H H' : Hp} (t : TX H H') {l : List (κ × V)} {m : List (κ × D)} (h : Paired (PrI K H) l m) : Paired (PrI K H') l m :=
  Paired.mapP h fun _ _ r => ⟨r.1, r.2.tx t⟩
theorem Ob.tx {K : PySem.W.Frag} {H H' : Hp} (t : TX H H') {u : HO} {o : O} (h : Ob K H u o) : Ob K H' u o := by
  cases u <;> cases o <;> first | exact h.elim | exact ImL.tx t _ _ h | exact Paired.tx t h | exact ⟨h.1, h.2.1, Paired.tx t h.2.2⟩ | exact h
theorem Ob.notup {K : PySem.W.Frag} {H : Hp} {u : HO} {o : O} (h : Ob K H u o) : (∀ xs, u ≠ .tup xs) ∧ ∀ z xs, u ≠ .frz z (.tup xs) := by
  cases u <;> cases o <;> first | exact h.elim | exact ⟨fun _ e => (nomatch e), fun _ _ e => (nomatch e)⟩
def Hs (K : PySem.W.Frag) (H : Hp) (L : Hl) : Prop := ∀ p ∈ L, ∃ u, H p.1 = some u ∧ Ob K H u p.2
theorem Hs.same {K : PySem.W.Frag} {H H' : Hp} {L : Hl} (h : Hs K H L) (e : Same H H') : Hs K H' L := fun p hp => by
  obtain ⟨u, h1, h2⟩ := h p hp
  exact ⟨u, e _ _ h1, h2.tx (Same.tx e)⟩
theorem Hs.nil {K : PySem.W.Frag} {H : Hp} : Hs K H [] := fun _ h => nomatch h

/-- what may be read of an object -/
def Rdo (K : PySem.W.Frag) (H : Hp) (a : Addr) : O → Prop
  | .lst ds => ∃ xs, SqL K H a xs ∧ ImL K H xs ds
  | .dct kds => ∃ kvs, H a = some (.dK kvs) ∧ Paired (PrI K H) kvs kds
  | .ins C dx fd => ∃ fs, H a = some (.ins C dx fs) ∧ Paired (PrI K H) fs fd
  | .tb0 => H a = some (.tbl #[])
theorem Rdo.same {K : PySem.W.Frag} {H H' : Hp} {a : Addr} {o : O} (h : Rdo K H a o) (e : Same H H') : Rdo K H' a o := by
  cases o with
  | lst ds =>
    obtain ⟨xs, h1, h2⟩ := h
    exact ⟨xs, e.seq h1, h2.tx (Same.tx e)⟩
  | dct kds =>
    obtain ⟨kvs, h1, h2⟩ := h
    exact ⟨kvs, e _ _ h1, Paired.tx (Same.tx e) h2⟩
  | ins C dx fd => obtain ⟨fs, h1, h2⟩ := h; exact ⟨fs, e _ _ h1, Paired.tx (Same.tx e) h2⟩
  | tb0 => exact e _ _ h
theorem Hs.rdo {K : PySem.W.Frag} {H : Hp} {L : Hl} (h : Hs K H L) {p : Addr × O} (hp : p ∈ L) : Rdo K H p.1 p.2 := by
  obtain ⟨u, h1, h2⟩ := h p hp
  obtain ⟨a, o⟩ := p
  cases o with
  | lst ds => cases u <;> first | exact h2.elim | exact ⟨_, .inl (.inl h1), h2⟩
  | dct ds => cases u <;> first | exact h2.elim | exact ⟨_, h1, h2⟩
  | ins C dx ds =>
    cases u <;> first | exact h2.elim | skip
    obtain ⟨rfl, rfl, h3⟩ := h2
    exact ⟨_, h1, h3⟩
  | tb0 =>
    cases u <;> first | exact h2.elim | skip
    have h2 : _ = _ := h2
    subst h2
    exact h1
def Rds (K : PySem.W.Frag) (H : Hp) (L : Hl) : Prop := ∀ p ∈ L, Rdo K H p.1 p.2

/-- the heap part of a state: H0 stands, the objects of L are there, made since H0 -/
structure HS (K : PySem.W.Frag) (H0 : Hp) (L : Hl) (H : Hp) : Prop where
  ext : Same H0 H
  own : Hs K H L
  nd : (L.map (·.1)).Nodup
  new : ∀ p ∈ L, H0 p.1 = none
abbrev Ga := List (Option D)
def Vr (K : PySem.W.Frag) (H : Hp) (G : Ga) (σ : St) : Prop := σ.length = G.length ∧ ∀ (i : Nat) d, G[i]? = some (some d) → ∃ v, σ[i]? = some (some v) ∧ Im K H v d
structure Stt (K : PySem.W.Frag) (H0 : Hp) (G : Ga) (L : Hl) (σ : St) (H : Hp) : Prop where
  hs : HS K H0 L H
  vr : Vr K H G σ

theorem ix_inj {α : Type} {l : List α} (hN : l.Nodup) {i j : Nat} {x : α} (a : l[i]? = some x) (b : l[j]? = some x) : i = j := by
  obtain ⟨h1, e1⟩ := List.getElem?_eq_some_iff.mp a
  obtain ⟨h2, e2⟩ := List.getElem?_eq_some_iff.mp b
  exact (List.getElem_inj hN).mp (e1.trans e2.symm)
section
variable {K : PySem.W.Frag} {H0 H H' : Hp} {G : Ga} {L L' : Hl} {σ : St}
theorem HS.same (h : HS K H0 L H) (e : Same H H') : HS K H0 L H' := ⟨h.ext.trans e, h.own.same e, h.nd, h.new⟩
theorem HS.tl {p : Addr × O} (h : HS K H0 (p :: L) H) : HS K H0 L H :=
  ⟨h.ext, fun q hq => h.own q (List.mem_cons_of_mem _ hq), (List.nodup_cons.mp h.nd).2, fun q hq => h.new q (List.mem_cons_of_mem _ hq)⟩
theorem HS.sub (h : HS K H0 L H) (s : List.Sublist L' L) : HS K H0 L' H :=
  ⟨h.ext, fun q hq => h.own q (s.mem hq), (s.map _).nodup h.nd, fun q hq => h.new q (s.mem hq)⟩
theorem Vr.tx (h : Vr K H G σ) (t : TX H H') : Vr K H' G σ := ⟨h.1, fun i d e => let ⟨v, a, b⟩ := h.2 i d e; ⟨v, a, b.tx t⟩⟩
theorem Vr.set {v : V} {d : D} (h : Vr K H G σ) (r : Im K H v d) (i : Nat) : Vr K H (G.set i (some d)) (σ.set i (some v)) := by
  refine ⟨by rw [List.length_set, List.length_set, h.1], fun j e hj => ?_⟩
  by_cases hi : i = j
  · subst hi
    rw [List.getElem?_set_self'] at hj
    cases hg : G[i]? with
    | none => rw [hg] at hj; cases hj
    | some z =>
      rw [hg] at hj
      have : d = e := Option.some.inj (Option.some.inj hj)
      subst this
      refine ⟨v, ?_, r⟩
      have : i < σ.length := by rw [h.1]; exact (List.getElem?_eq_some_iff.mp hg).1
      exact List.getElem?_set_self this
  · rw [List.getElem?_set_ne hi] at hj ⊢
    exact h.2 j e hj
theorem Vr.clr (h : Vr K H G σ) (i : Nat) (o : Option V) : Vr K H (G.set i none) (σ.set i o) := by
  refine ⟨by rw [List.length_set, List.length_set, h.1], fun j e hj => ?_⟩
  by_cases hi : i = j
  · subst hi
    rw [List.getElem?_set_self'] at hj
    cases hg : G[i]? with
    | none => rw [hg] at hj; cases hj
    | some z => rw [hg] at hj; cases Option.some.inj hj
  · rw [List.getElem?_set_ne hi] at hj ⊢
    exact h.2 j e hj
theorem Stt.same (h : Stt K H0 G L σ H) (e : Same H H') : Stt K H0 G L σ H' := ⟨h.hs.same e, h.vr.tx (Same.tx e)⟩
theorem Stt.tl {p : Addr × O} (h : Stt K H0 G (p :: L) σ H) : Stt K H0 G L σ H := ⟨h.hs.tl, h.vr⟩
theorem Stt.sub (h : Stt K H0 G L σ H) (s : List.Sublist L' L) : Stt K H0 G L' σ H := ⟨h.hs.sub s, h.vr⟩
theorem Stt.set {v : V} {d : D} (h : Stt K H0 G L σ H) (r : Im K H v d) (i : Nat) : Stt K H0 (G.set i (some d)) L (σ.set i (some v)) H := ⟨h.hs, h.vr.set r i⟩
/-- new objects -/
theorem HS.add {N : Hl} (h : HS K H0 L H) (e : Same H H') (hf : ∀ p ∈ N, H p.1 = none) (hn : (N.map (·.1)).Nodup) (ho : Hs K H' N) : HS K H0 (N ++ L) H' := by
  refine ⟨h.ext.trans e, fun p hp => ?_, ?_, fun p hp => ?_⟩
  · rcases List.mem_append.mp hp with hp | hp
    · exact ho p hp
    · exact h.own.same e p hp
  · rw [List.map_append, List.nodup_append]
    refine ⟨hn, h.nd, fun a ha b hb => ?_⟩
    obtain ⟨p, hp, rfl⟩ := List.mem_map.mp ha
    obtain ⟨q, hq, rfl⟩ := List.mem_map.mp hb
    obtain ⟨u, hu, _⟩ := h.own q hq
    exact fun z => ne_of_none hu (hf p hp) z.symm
  · rcases List.mem_append.mp hp with hp | hp
    · exact h.ext.free (hf p hp)
    · exact h.new p hp
theorem Stt.add {N : Hl} (h : Stt K H0 G L σ H) (e : Same H H') (hf : ∀ p ∈ N, H p.1 = none) (hn : (N.map (·.1)).Nodup) (ho : Hs K H' N) : Stt K H0 G (N ++ L) σ H' := ⟨h.hs.add e hf hn ho, h.vr.tx (Same.tx e)⟩
/-- an object written -/
theorem HS.put {k : Nat} {a : Addr} {o o' : O} {u' : HO} (h : HS K H0 L H) (hk : L[k]? = some (a, o)) (hu : Ob K H u' o') : HS K H0 (L.set k (a, o')) (upd H a u') ∧ TX H (upd H a u') := by
  have hm : (a, o) ∈ L := List.mem_of_getElem? hk
  obtain ⟨u, h1, h2⟩ := h.own _ hm
  have hx : TX H (upd H a u') := TX.upd h1 h2.notup.1 h2.notup.2
  have h0 : H0 a = none := h.new _ hm
  have hml : (L.set k (a, o')).map (·.1) = L.map (·.1) := by
    rw [List.map_set]
    have : (L.map (·.1))[k]? = some a := by rw [List.getElem?_map, hk]; rfl
    obtain ⟨hlt, hv⟩ := List.getElem?_eq_some_iff.mp this
    rw [← hv]
    exact List.set_getElem_self hlt
  refine ⟨⟨fun b z e => ?_, fun p hp => ?_, by rw [hml]; exact h.nd, fun p hp => ?_⟩, hx⟩
  · rw [upd_ne (ne_of_none e h0)]
    exact h.ext b z e
  · by_cases hpa : p.1 = a
    · have : p = (a, o') := by
          obtain ⟨j, hj⟩ := List.getElem?_of_mem hp
          by_cases hjk : k = j
          · subst hjk
            rw [List.getElem?_set_self (List.getElem?_eq_some_iff.mp hk).1] at hj
            exact (Option.some.inj hj).symm
          · rw [List.getElem?_set_ne hjk] at hj
            have a1 : (L.map (·.1))[j]? = some a := by rw [List.getElem?_map, hj]; exact congrArg some hpa
            have a2 : (L.map (·.1))[k]? = some a := by rw [List.getElem?_map, hk]; rfl
            exact absurd (ix_inj h.nd a2 a1) hjk
      subst this
      exact ⟨u', upd_same, hu.tx hx⟩
    · have hq : p ∈ L := by
        rcases List.mem_or_eq_of_mem_set hp with q | q
        · exact q
        · exact absurd (by rw [q]) hpa
      obtain ⟨z, z1, z2⟩ := h.own p hq
      exact ⟨z, by rw [upd_ne hpa]; exact z1, z2.tx hx⟩
  · have : p.1 ∈ L.map (·.1) := by rw [← hml]; exact List.mem_map_of_mem hp
    obtain ⟨q, hq, e⟩ := List.mem_map.mp this
    rw [← e]
    exact h.new q hq
end
end Fc

namespace Fc
open PySem L2

/-! ## what evaluates to what -/
section
variable (K : PySem.W.Frag) (H0 : Hp)
/-- a value, nothing written -/
def EvP (G : Ga) (L : Hl) (te : TE) (d : D) : Prop := ∀ σ H, Stt K H0 G L σ H → ∀ Q : VK, (∀ v H', Same H H' → Im K H' v d → Q v H') → te σ H Q
/-- a value and new objects -/
def EvN (G : Ga) (L : Hl) (te : TE) (P : D → Hl → Prop) : Prop := ∀ σ H, Stt K H0 G L σ H → ∀ Q : VK,
  (∀ v H' d N, P d N → Same H H' → (∀ p ∈ N, H p.1 = none) → (N.map (·.1)).Nodup → Hs K H' N → Im K H' v d → Q v H') → te σ H Q
/-- a value; the objects of L may have changed -/
def EvM (G : Ga) (L : Hl) (te : TE) (P : D → Hl → Prop) : Prop := ∀ σ H, Stt K H0 G L σ H → ∀ Q : VK,
  (∀ v H' d L', P d L' → TX H H' → Stt K H0 G L' σ H' → Im K H' v d → Q v H') → te σ H Q
def EvT (G : Ga) (L : Hl) (tt : TT) (b : Bool) : Prop := ∀ σ H, Stt K H0 G L σ H → ∀ Q : Bool → Hp → Prop, (∀ H', Same H H' → Q b H') → tt σ H Q
def EvA (G : Ga) (L : Hl) (ta : TA) (ds : List D) : Prop := ∀ σ H, Stt K H0 G L σ H → ∀ Q : List V → Hp → Prop, (∀ vs H', Same H H' → ImL K H' vs ds → Q vs H') → ta σ H Q
def EvAN (G : Ga) (L : Hl) (ta : TA) (P : List D → Hl → Prop) : Prop := ∀ σ H, Stt K H0 G L σ H → ∀ Q : List V → Hp → Prop,
  (∀ vs H' ds N, P ds N → Same H H' → (∀ p ∈ N, H p.1 = none) → (N.map (·.1)).Nodup → Hs K H' N → ImL K H' vs ds → Q vs H') → ta σ H Q
/-- two-place, one-place operations, calls, by values -/
def RvP (L : Hl) (r : R2) (x y z : D) : Prop := ∀ H u v, HS K H0 L H → Im K H u x → Im K H v y → ∀ Q : VK, (∀ w H', Same H H' → Im K H' w z → Q w H') → r u v H Q
def RcP (L : Hl) (r : List V → Hp → VK → Prop) (xs : List D) (z : D) : Prop := ∀ H us, HS K H0 L H → ImL K H us xs → ∀ Q : VK, (∀ w H', Same H H' → Im K H' w z → Q w H') → r us H Q
def RcN (L : Hl) (r : List V → Hp → VK → Prop) (xs : List D) (P : D → Hl → Prop) : Prop := ∀ H us, HS K H0 L H → ImL K H us xs → ∀ Q : VK,
  (∀ w H' d N, P d N → Same H H' → (∀ p ∈ N, H p.1 = none) → (N.map (·.1)).Nodup → Hs K H' N → Im K H' w d → Q w H') → r us H Q
/-- an object that may be read: one of L, or of the base -/
def Lk (L : Hl) (a : Addr) (o : O) : Prop := (a, o) ∈ L ∨ Rdo K H0 a o
end
abbrev New1 (o : O) : D → Hl → Prop := fun d N => ∃ a, d = .ref a ∧ N = [(a, o)]

section
variable {K : PySem.W.Frag} {H0 H H' : Hp} {G : Ga} {L L' : Hl} {σ : St} {te ta tb tc : TE} {tt tu : TT} {r : R2} {d x y z : D} {ds : List D} {b c : Bool}
theorem Lk.rdo {a : Addr} {o : O} (h : Lk K H0 L a o) (s : HS K H0 L H) : Rdo K H a o := by
  rcases h with h | h
  · exact s.own.rdo h
  · exact h.same s.ext
theorem EvP.nw {P : D → Hl → Prop} (h : EvP K H0 G L te d) (hp : P d []) : EvN K H0 G L te P := fun σ H s Q q => h σ H s Q fun v H' e i => q v H' d [] hp e (fun _ z => nomatch z) .nil Hs.nil i
theorem EvP.fr {p : Addr × O} (h : EvP K H0 G L te d) : EvP K H0 G (p :: L) te d := fun σ H s => h σ H s.tl
theorem EvT.fr {p : Addr × O} (h : EvT K H0 G L tt b) : EvT K H0 G (p :: L) tt b := fun σ H s => h σ H s.tl
theorem EvN.fr {p : Addr × O} {P : D → Hl → Prop} (h : EvN K H0 G L te P) : EvN K H0 G (p :: L) te P := fun σ H s => h σ H s.tl
theorem EvN.imp {P P' : D → Hl → Prop} (h : EvN K H0 G L te P) (i : ∀ d N, P d N → P' d N) : EvN K H0 G L te P' := fun σ H s Q q => h σ H s Q fun v H' d N p => q v H' d N (i d N p)
/-- new objects that nobody names -/
theorem EvN.ev (h : EvN K H0 G L te fun d' N => d' = d) : EvP K H0 G L te d := fun σ H s Q q => h σ H s Q fun v H' d' N p e _ _ _ i => by subst p; exact q v H' e i
theorem EvP.cast (h : EvP K H0 G L te d) (e : d = x) : EvP K H0 G L te x := e ▸ h
theorem EvT.cast (h : EvT K H0 G L tt b) (e : b = c) : EvT K H0 G L tt c := e ▸ h

/-! ### names, constants -/
theorem ev_var {i : Nat} (h : G[i]? = some (some d)) : EvP K H0 G L (tVar i) d := fun σ H s Q q => by
  obtain ⟨v, e, m⟩ := s.vr.2 i d h
  exact ⟨v, e, q v H (Same.refl H) m⟩
theorem ev_int {i : Int} : EvP K H0 G L (tC (.int i)) (.int i) := fun σ H s Q q => q _ H (Same.refl H) (.int i)
theorem ev_bl {i : Bool} : EvP K H0 G L (tC (.bl i)) (.bl i) := fun σ H s Q q => q _ H (Same.refl H) (.bl i)
theorem ev_non : EvP K H0 G L (tC .non) .non := fun σ H s Q q => q _ H (Same.refl H) .non
theorem ev_str {i : Str} : EvP K H0 G L (tC (.str i)) (.str i) := fun σ H s Q q => q _ H (Same.refl H) (.str i)
theorem ev_ty {i : String} : EvP K H0 G L (tC (.ty i)) (.ty i) := fun σ H s Q q => q _ H (Same.refl H) (.ty i)
/-- a constant of the module -/
theorem ev_k {v : V} (h : ∀ H, Im K H v d) : EvP K H0 G L (tC v) d := fun σ H s Q q => q v H (Same.refl H) (h H)

/-! ### operators -/
theorem ev_op (ha : EvP K H0 G L ta x) (hb : EvP K H0 G L tb y) (hr : RvP K H0 L r x y z) : EvP K H0 G L (tOp r ta tb) z := fun σ H s Q q =>
  ha σ H s _ fun u H1 e1 i1 => hb σ H1 (s.same e1) _ fun v H2 e2 i2 => hr H2 u v ((s.same e1).same e2).hs (i1.tx (Same.tx e2)) i2 Q fun w H3 e3 i3 => q w H3 ((e1.trans e2).trans e3) i3
theorem rv_I0 {g : Int → Int → V} {i j : Int} (h : ∀ H, Im K H (g i j) z) : RvP K H0 L (rI0 g) (.int i) (.int j) z := fun H u v s h1 h2 Q q => by
  cases h1; cases h2
  exact ⟨i, j, rfl, rfl, q _ H (Same.refl H) (h H)⟩
theorem rv_I {C : Int → Int → Prop} {g : Int → Int → V} {i j : Int} (hc : C i j) (h : ∀ H, Im K H (g i j) z) : RvP K H0 L (rI C g) (.int i) (.int j) z := fun H u v s h1 h2 Q q => by
  cases h1; cases h2
  exact ⟨i, j, rfl, rfl, hc, q _ H (Same.refl H) (h H)⟩
theorem rv_add {i j : Int} : RvP K H0 L (rI0 fun i j => .int (i + j)) (.int i) (.int j) (.int (i + j)) := rv_I0 fun _ => .int _
theorem rv_sub {i j : Int} : RvP K H0 L (rI0 fun i j => .int (i - j)) (.int i) (.int j) (.int (i - j)) := rv_I0 fun _ => .int _
theorem rv_lt {i j : Int} : RvP K H0 L (rI0 fun i j => .bl (decide (i < j))) (.int i) (.int j) (.bl (decide (i < j))) := rv_I0 fun _ => .bl _
theorem rv_le {i j : Int} : RvP K H0 L (rI0 fun i j => .bl (decide (i ≤ j))) (.int i) (.int j) (.bl (decide (i ≤ j))) := rv_I0 fun _ => .bl _
theorem rv_gt {i j : Int} : RvP K H0 L (rI0 fun i j => .bl (decide (j < i))) (.int i) (.int j) (.bl (decide (j < i))) := rv_I0 fun _ => .bl _
theorem rv_ge {i j : Int} : RvP K H0 L (rI0 fun i j => .bl (decide (j ≤ i))) (.int i) (.int j) (.bl (decide (j ≤ i))) := rv_I0 fun _ => .bl _
theorem rv_mulW {i j : Int} (h : CMulW i j) : RvP K H0 L (rI CMulW fun i j => .int (i * j)) (.int i) (.int j) (.int (i * j)) := rv_I h fun _ => .int _
theorem rv_mul {i j : Int} (h : CMul i j) : RvP K H0 L (rI CMul fun i j => .int (i * j)) (.int i) (.int j) (.int (i * j)) := rv_I h fun _ => .int _
theorem rv_fdivW {i j : Int} (h : CDivW i j) : RvP K H0 L (rI CDivW fun i j => .int (i / j)) (.int i) (.int j) (.int (i / j)) := rv_I h fun _ => .int _
theorem rv_fdiv {i j : Int} (h : CDiv i j) : RvP K H0 L (rI CDiv fun i j => .int (i / j)) (.int i) (.int j) (.int (i / j)) := rv_I h fun _ => .int _
theorem rv_mod {i j : Int} (h : 0 < j) : RvP K H0 L (rI (fun _ j => 0 < j) fun i j => .int (i % j)) (.int i) (.int j) (.int (i % j)) := rv_I h fun _ => .int _
/-- == of what == tells apart as data does -/
def sc : D → Option V
  | .non => some .non | .bl b => some (.bl b) | .int i => some (.int i) | .str s => some (.str s) | _ => none
theorem sc_im {d : D} {u v : V} (h : sc d = some u) (i : Im K H v d) : v = u := by
  cases i <;> simp [sc] at h <;> exact h
theorem rv_eq {u v : V} (h1 : sc x = some u) (h2 : sc y = some v) (hs : scal u v = true) : RvP K H0 L rEq x y (.bl (decide (u = v))) := fun H a b s i1 i2 Q q => by
  rw [sc_im h1 i1, sc_im h2 i2]
  exact ⟨hs, q _ H (Same.refl H) (.bl _)⟩
theorem rv_ne {u v : V} (h1 : sc x = some u) (h2 : sc y = some v) (hs : scal u v = true) : RvP K H0 L rNe x y (.bl (!decide (u = v))) := fun H a b s i1 i2 Q q => by
  rw [sc_im h1 i1, sc_im h2 i2]
  exact ⟨hs, q _ H (Same.refl H) (.bl _)⟩
theorem dI {i j : Int} : decide (V.int i = V.int j) = decide (i = j) := by
  by_cases h : i = j
  · subst h; simp
  · rw [decide_eq_false h, decide_eq_false (fun e => h (V.int.inj e))]
theorem rv_eqI {i j : Int} : RvP K H0 L rEq (.int i) (.int j) (.bl (decide (i = j))) := by rw [← dI]; exact rv_eq rfl rfl rfl
theorem rv_neI {i j : Int} : RvP K H0 L rNe (.int i) (.int j) (.bl (!decide (i = j))) := by rw [← dI]; exact rv_ne rfl rfl rfl
/-- items -/
theorem rv_ixT {i : Int} (h : atI ds i = some z) : RvP K H0 L (rIxT K) (.tup ds) (.int i) z := fun H u v s h1 h2 Q q => by
  cases h2
  cases h1 with
  | tup hq hl =>
    obtain ⟨j, hj, hz⟩ := Option.bind_eq_some_iff.mp h
    obtain ⟨w, hw, iw⟩ := hl.getD hz
    refine ⟨_, _, i, w, rfl, rfl, hq, ?_, q w H (Same.refl H) iw⟩
    unfold atI
    rw [hl.length, hj]
    exact hw
theorem rv_ixL {a : Addr} {i : Int} (hk : Lk K H0 L a (.lst ds)) (h : atI ds i = some z) : RvP K H0 L (rIxL K) (.ref a) (.int i) z := fun H u v s h1 h2 Q q => by
  cases h2
  cases h1
  obtain ⟨xs, hq, hl⟩ := hk.rdo s
  obtain ⟨j, hj, hz⟩ := Option.bind_eq_some_iff.mp h
  obtain ⟨w, hw, iw⟩ := hl.getD hz
  refine ⟨_, _, i, w, rfl, rfl, hq, ?_, q w H (Same.refl H) iw⟩
  unfold atI
  rw [hl.length, hj]
  exact hw
theorem atN {α : Type} {l : List α} {j : Nat} {v : α} (h : l[j]? = some v) : atI l (j : Int) = some v := atI_nat h
theorem atZ {α : Type} {l : List α} {i : Int} {v : α} (h0 : 0 ≤ i) (h : l[i.toNat]? = some v) : atI l i = some v := by
  have := atI_nat h
  rwa [Int.toNat_of_nonneg h0] at this
theorem atM {α : Type} {l : List α} {v : α} (h : l.getLast? = some v) : atI l (-1) = some v := by
  obtain ⟨r, rfl⟩ := List.getLast?_eq_some_iff.mp h
  exact atI_last r v
/-- in -/
def fl : D → Bool
  | .non => true | .bl _ => true | .int _ => true | .str _ => true | _ => false
theorem fl_v {d : D} {v : V} (i : Im K H v d) : flatV v = fl d := by cases i <;> rfl
theorem fl_all : ∀ {vs : List V} {ds : List D}, ImL K H vs ds → vs.all flatV = ds.all fl
  | _, _, .nil => rfl
  | _, _, .cons r t => by rw [List.all_cons, List.all_cons, fl_v r, fl_all t]
theorem inV_ints (k : Int) : ∀ ns : List Int, inV (.int k) (ns.map V.int) = decide (k ∈ ns)
  | [] => rfl
  | n :: ns => by
    have ih := inV_ints k ns
    unfold inV at ih ⊢
    rw [List.map_cons, List.any_cons, ih]
    show ((n == k) || decide (k ∈ ns)) = decide (k ∈ n :: ns)
    by_cases h : n = k
    · subst h; simp
    · have h' : ¬ k = n := fun e => h e.symm
      simp [h, h']
theorem flat_ints : ∀ ns : List Int, (ns.map V.int).all flatV = true
  | [] => rfl
  | n :: ns => by rw [List.map_cons, List.all_cons, flat_ints ns]; rfl
theorem rv_inL {a : Addr} {neg : Bool} {k : Int} {ns : List Int} (hk : Lk K H0 L a (.lst (ns.map D.int))) : RvP K H0 L (rIn K neg) (.int k) (.ref a) (.bl (if neg then !decide (k ∈ ns) else decide (k ∈ ns))) := fun H u v s h1 h2 Q q => by
  cases h1
  cases h2
  obtain ⟨xs, hq, hl⟩ := hk.rdo s
  have e := hl.ints
  subst e
  refine ⟨a, _, rfl, .inl hq, rfl, flat_ints ns, ?_⟩
  rw [inV_ints]
  exact q _ H (Same.refl H) (.bl _)
theorem rv_isL {a : Addr} {k : Int} {ns : List Int} (hk : Lk K H0 L a (.lst (ns.map D.int))) : RvP K H0 L (rIn K false) (.int k) (.ref a) (.bl (decide (k ∈ ns))) := rv_inL (neg := false) hk
theorem rv_niL {a : Addr} {k : Int} {ns : List Int} (hk : Lk K H0 L a (.lst (ns.map D.int))) : RvP K H0 L (rIn K true) (.int k) (.ref a) (.bl (!decide (k ∈ ns))) := rv_inL (neg := true) hk
/-- tuples joined, cut -/
theorem rv_cat {es : List D} (hz : ds.length + es.length ≤ 100000) : RvP K H0 L (rCatA K) (.tup ds) (.tup es) (.tup (ds ++ es)) := fun H u v s h1 h2 Q q => by
  cases h1 with
  | tup hq hl =>
    cases h2 with
    | tup hq' hl' =>
      refine ⟨_, _, _, _, rfl, rfl, hq, hq', ?_, fun e => ?_, fun _ e => ?_, fun _ _ p hp => ?_⟩
      · rw [hl.length, hl'.length]
        exact Nat.le_trans hz (by decide)
      · subst e
        cases hl
        exact q _ H (Same.refl H) (.tup hq' hl')
      · subst e
        cases hl'
        rw [List.append_nil] at q
        exact q _ H (Same.refl H) (.tup hq hl)
      · exact q _ _ (Same.new hp) (.tup (SqT.of upd_same) ((hl.append hl').tx (Same.tx (Same.new hp))))
def cutD (ds : List D) (lo hi : Option Int) : List D := (ds.drop (HT.sIx ds.length 0 lo)).take (HT.sIx ds.length ds.length hi - HT.sIx ds.length 0 lo)
def EvO (K : PySem.W.Frag) (H0 : Hp) (G : Ga) (L : Hl) (to : TO) (o : Option Int) : Prop := ∀ σ H, Stt K H0 G L σ H → ∀ Q : Option Int → Hp → Prop, (∀ H', Same H H' → Q o H') → to σ H Q
theorem eo_none : EvO K H0 G L tNoPart none := fun σ H s Q q => q H (Same.refl H)
theorem eo_some {i : Int} (h : EvP K H0 G L te (.int i)) : EvO K H0 G L (tPart te) (some i) := fun σ H s Q q => h σ H s _ fun v H' e m => by
  cases m
  exact ⟨i, rfl, q H' e⟩
theorem ev_slT {tl th : TO} {lo hi : Option Int} (h : EvP K H0 G L te (.tup ds)) (hl : EvO K H0 G L tl lo) (hh : EvO K H0 G L th hi) : EvP K H0 G L (tSl (rSlA K) te tl th) (.tup (cutD ds lo hi)) := fun σ H s Q q =>
  h σ H s _ fun v H1 e1 i1 => hl σ H1 (s.same e1) _ fun H2 e2 => hh σ H2 ((s.same e1).same e2) _ fun H3 e3 => by
    have i3 := (i1.tx (Same.tx e2)).tx (Same.tx e3)
    have e13 := (e1.trans e2).trans e3
    cases i3 with
    | @tup a xs _ hq il =>
      refine ⟨_, _, rfl, hq, fun hw => ?_, fun hw p hp => ?_⟩
      · have : cutD ds lo hi = ds := by
          unfold cutD
          rw [← il.length, hw.1, hw.2, List.drop_zero, Nat.sub_zero, il.length, List.take_length]
        rw [this] at q
        exact q _ _ e13 (.tup hq il)
      · refine q _ _ (e13.trans (Same.new hp)) (.tup (SqT.of upd_same) ?_)
        unfold cutV cutD
        rw [← il.length]
        exact ImL.take _ (ImL.drop _ (il.tx (Same.tx (Same.new hp))))

/-! ### tests -/
theorem et_test (h : EvP K H0 G L te (.bl b)) : EvT K H0 G L (tTest te) b := fun σ H s Q q => h σ H s _ fun v H' e i => by cases i; exact ⟨b, rfl, q H' e⟩
theorem et_B (h : EvP K H0 G L te (.bl b)) : EvT K H0 G L (tB te) b := fun σ H s Q q => h σ H s _ fun v H' e i => by cases i; exact ⟨b, rfl, q H' e⟩
theorem et_and (h1 : EvT K H0 G L tt b) (h2 : b = true → EvT K H0 G L tu c) : EvT K H0 G L (tAnd tt tu) (b && c) := fun σ H s Q q => h1 σ H s _ fun H1 e1 => by
  cases b with
  | true => exact iteT (h2 rfl σ H1 (s.same e1) Q fun H2 e2 => q H2 (e1.trans e2))
  | false => exact iteF (q H1 e1)
theorem et_or (h1 : EvT K H0 G L tt b) (h2 : b = false → EvT K H0 G L tu c) : EvT K H0 G L (tOr tt tu) (b || c) := fun σ H s Q q => h1 σ H s _ fun H1 e1 => by
  cases b with
  | true => exact iteT (q H1 e1)
  | false => exact iteF (h2 rfl σ H1 (s.same e1) Q fun H2 e2 => q H2 (e1.trans e2))
theorem et_not (h1 : EvT K H0 G L tt b) : EvT K H0 G L (tNot tt) (!b) := fun σ H s Q q => h1 σ H s _ fun H1 e1 => q H1 e1
theorem ev_andV (h1 : EvP K H0 G L ta (.bl b)) (h2 : b = true → EvP K H0 G L tb (.bl c)) : EvP K H0 G L (tAndV ta tb) (.bl (b && c)) := fun σ H s Q q => h1 σ H s _ fun v H1 e1 i => by
  cases i
  refine ⟨b, rfl, ?_⟩
  cases b with
  | true => exact iteT (h2 rfl σ H1 (s.same e1) Q fun v H2 e2 i2 => q v H2 (e1.trans e2) i2)
  | false => exact iteF (q _ H1 e1 (.bl _))
theorem ev_orV (h1 : EvP K H0 G L ta (.bl b)) (h2 : b = false → EvP K H0 G L tb (.bl c)) : EvP K H0 G L (tOrV ta tb) (.bl (b || c)) := fun σ H s Q q => h1 σ H s _ fun v H1 e1 i => by
  cases i
  refine ⟨b, rfl, ?_⟩
  cases b with
  | true => exact iteT (q _ H1 e1 (.bl _))
  | false => exact iteF (h2 rfl σ H1 (s.same e1) Q fun v H2 e2 i2 => q v H2 (e1.trans e2) i2)
theorem ev_notV (h1 : EvP K H0 G L ta (.bl b)) : EvP K H0 G L (tNotV ta) (.bl (!b)) := fun σ H s Q q => h1 σ H s _ fun v H1 e1 i => by
  cases i
  exact ⟨b, rfl, q _ H1 e1 (.bl _)⟩
theorem ev_if (h : EvT K H0 G L tt b) (h1 : b = true → EvP K H0 G L ta d) (h2 : b = false → EvP K H0 G L tb d) : EvP K H0 G L (tIf tt ta tb) d := fun σ H s Q q => h σ H s _ fun H1 e1 => by
  cases b with
  | true => exact iteT (h1 rfl σ H1 (s.same e1) Q fun v H2 e2 i2 => q v H2 (e1.trans e2) i2)
  | false => exact iteF (h2 rfl σ H1 (s.same e1) Q fun v H2 e2 i2 => q v H2 (e1.trans e2) i2)
theorem ev_chain {r' : R2} (ha : EvP K H0 G L ta x) (hb : EvP K H0 G L tb y) (hr : RvP K H0 L r x y (.bl b)) (hc : b = true → EvP K H0 G L tc z) (hr' : b = true → RvP K H0 L r' y z (.bl c)) :
    EvP K H0 G L (tChain r r' ta tb tc) (.bl (b && c)) := fun σ H s Q q =>
  ha σ H s _ fun u H1 e1 i1 => hb σ H1 (s.same e1) _ fun v H2 e2 i2 => hr H2 u v ((s.same e1).same e2).hs (i1.tx (Same.tx e2)) i2 _ fun w H3 e3 i3 => by
    cases i3
    refine ⟨b, rfl, ?_⟩
    cases b with
    | true =>
      refine iteT (hc rfl σ H3 (((s.same e1).same e2).same e3) _ fun t H4 e4 i4 => ?_)
      exact hr' rfl H4 v t ((((s.same e1).same e2).same e3).same e4).hs (i2.tx (Same.tx (e3.trans e4))) i4 Q fun w H5 e5 i5 => q w H5 ((((e1.trans e2).trans e3).trans e4).trans e5) i5
    | false => exact iteF (q _ H3 ((e1.trans e2).trans e3) (.bl _))

/-! ### arguments, displays -/
theorem ea_nil : EvA K H0 G L tNil [] := fun σ H s Q q => q [] H (Same.refl H) .nil
theorem ea_cons {tr : TA} (h : EvP K H0 G L te d) (hr : EvA K H0 G L tr ds) : EvA K H0 G L (tCons te tr) (d :: ds) := fun σ H s Q q =>
  h σ H s _ fun v H1 e1 i1 => hr σ H1 (s.same e1) _ fun vs H2 e2 i2 => q (v :: vs) H2 (e1.trans e2) (.cons (i1.tx (Same.tx e2)) i2)
theorem EvA.nw {ta : TA} {P : List D → Hl → Prop} (h : EvA K H0 G L ta ds) (hp : P ds []) : EvAN K H0 G L ta P := fun σ H s Q q => h σ H s Q fun v H' e i => q v H' ds [] hp e (fun _ z => nomatch z) .nil Hs.nil i
theorem ean_one {P : D → Hl → Prop} (h : EvN K H0 G L te P) : EvAN K H0 G L (tCons te tNil) (fun ds N => ∃ d, ds = [d] ∧ P d N) := fun σ H s Q q =>
  h σ H s _ fun v H1 d N p e hf hn ho i => q [v] H1 [d] N ⟨d, rfl, p⟩ e hf hn ho (.cons i .nil)
theorem ev_tup {ta : TA} (h : EvA K H0 G L ta ds) (hl : ds.length ≤ 100000) : EvP K H0 G L (tTup ta) (.tup ds) := fun σ H s Q q =>
  h σ H s _ fun vs H1 e1 i1 => ⟨by rw [i1.length]; exact Nat.le_trans hl (by decide), fun p hp => q _ _ (e1.trans (Same.new hp)) (.tup (SqT.of upd_same) (i1.tx (Same.tx (Same.new hp))))⟩
theorem new1 {o : O} {u : HO} {a : Addr} (hn : H a = none) (ho : Ob K H u o) : Same H (upd H a u) ∧ (∀ p ∈ [(a, o)], H p.1 = none) ∧ (([(a, o)] : Hl).map (·.1)).Nodup ∧ Hs K (upd H a u) [(a, o)] := by
  refine ⟨Same.new hn, fun p hp => ?_, by simp, fun p hp => ?_⟩
  · rw [List.mem_singleton.mp hp]; exact hn
  · rw [List.mem_singleton.mp hp]; exact ⟨u, upd_same, ho.tx (Same.tx (Same.new hn))⟩
theorem en_lst {ta : TA} (h : EvA K H0 G L ta ds) (hl : ds.length ≤ 100000) : EvN K H0 G L (tLst ta) (New1 (.lst ds)) := fun σ H s Q q =>
  h σ H s _ fun vs H1 e1 i1 => ⟨by rw [i1.length]; exact Nat.le_trans hl (by decide), fun p hp => by
    obtain ⟨a1, a2, a3, a4⟩ := new1 (K := K) (u := .lst vs) (o := .lst ds) hp i1
    exact q _ _ (.ref p) [(p, .lst ds)] ⟨p, rfl, rfl⟩ (e1.trans a1) (fun z hz => e1.free (a2 z hz)) a3 a4 (.ref p)⟩
theorem en_dnew : EvN K H0 G L tDNewK (New1 (.dct [])) := fun σ H s Q q p hp => by
  obtain ⟨a1, a2, a3, a4⟩ := new1 (K := K) (u := .dK []) (o := .dct []) hp .nil
  exact q _ _ (.ref p) [(p, .dct [])] ⟨p, rfl, rfl⟩ a1 a2 a3 a4 (.ref p)
end
end Fc

namespace Fc
open PySem L2

/-! ## statements -/
structure Po where
  nx : Ga → Hl → Prop
  rt : D → Hl → Prop
  bk : Ga → Hl → Prop := fun _ _ => False
  ct : Ga → Hl → Prop := fun _ _ => False
section
variable (K : PySem.W.Frag) (H0 : Hp)
structure Sat (T : Hp) (p : Po) (E : Ends) : Prop where
  nx : ∀ G L σ H, p.nx G L → TX T H → Stt K H0 G L σ H → E.nx σ H
  rt : ∀ d L v H, p.rt d L → TX T H → HS K H0 L H → Im K H v d → E.rt v H
  bk : ∀ G L σ H, p.bk G L → TX T H → Stt K H0 G L σ H → E.bk σ H
  ct : ∀ G L σ H, p.ct G L → TX T H → Stt K H0 G L σ H → E.ct σ H
def Go (G : Ga) (L : Hl) (ts : TS) (p : Po) : Prop := ∀ T σ H E, TX T H → Stt K H0 G L σ H → Sat K H0 T p E → ts E σ H
/-- an iterator that gives ds while W holds of the objects -/
structure ItD (T : Hp) (J : It) (ds : List D) (W : Hl → Prop) : Prop where
  go : ∀ i L H, TX T H → HS K H0 L H → W L → i < ds.length → J.go i H
  stop : ∀ L H, TX T H → HS K H0 L H → W L → J.stop ds.length H
  yld : ∀ i L H x H', TX T H → HS K H0 L H → W L → i < ds.length → J.yld i H x H' → Same H H' ∧ ∃ d, ds[i]? = some d ∧ Im K H' x d
def EvI (G : Ga) (L : Hl) (wi : TI) (P : List D → (Hl → Prop) → Hl → Prop) : Prop := ∀ σ H, Stt K H0 G L σ H → ∀ R : It → Hp → Prop,
  (∀ J H' ds W N, P ds W N → Same H H' → (∀ p ∈ N, H p.1 = none) → (N.map (·.1)).Nodup → Hs K H' N → ItD K H0 H' J ds W → R J H') → wi σ H R
/-- a target -/
def EvG (G : Ga) (d : D) (g : TG) (G' : Ga) : Prop := ∀ L σ H v, Stt K H0 G L σ H → Im K H v d → ∀ Q : St → Hp → Prop, (∀ σ', Stt K H0 G' L σ' H → Q σ' H) → g v σ H Q
end
abbrev It0 (ds : List D) (W : Hl → Prop) : List D → (Hl → Prop) → Hl → Prop := fun ds' W' N => ds' = ds ∧ W' = W ∧ N = []
section
variable {K : PySem.W.Frag} {H0 H H' : Hp} {G G' : Ga} {L L' N : Hl} {σ : St} {te ta tb tc : TE} {tt tu : TT} {ts us vs : TS} {d x y z : D} {ds : List D} {b c : Bool} {p : Po} {g : TG} {wi : TI} {P : D → Hl → Prop}
theorem Sat.seq {T : Hp} {M : Ga → Hl → Prop} {E : Ends} (s : Sat K H0 T p E) (h : ∀ G' L', M G' L' → Go K H0 G' L' us p) : Sat K H0 T { p with nx := M } { E with nx := us E } :=
  ⟨fun G L σ H m t st => h G L m T σ H E t st s, s.rt, s.bk, s.ct⟩
theorem go_seq (M : Ga → Hl → Prop) (h1 : Go K H0 G L ts { p with nx := M }) (h2 : ∀ G' L', M G' L' → Go K H0 G' L' us p) : Go K H0 G L (tSeq ts us) p := fun T σ H E t st s => h1 T σ H _ t st (s.seq h2)
theorem go_cut (M : Ga → Hl → Prop) (h1 : Go K H0 G L ts { p with nx := M }) (h2 : ∀ G' L', M G' L' → Go K H0 G' L' us p) : Go K H0 G L (tSeq ts us) p := go_seq M h1 h2
theorem go_sub (s : List.Sublist L' L) (h : Go K H0 G L' ts p) : Go K H0 G L ts p := fun T σ H E t st => h T σ H E t (st.sub s)
theorem go_imp {p' : Po} (h : Go K H0 G L ts p) (h1 : ∀ G L, p.nx G L → p'.nx G L) (h2 : ∀ d L, p.rt d L → p'.rt d L) (h3 : ∀ G L, p.bk G L → p'.bk G L) (h4 : ∀ G L, p.ct G L → p'.ct G L) : Go K H0 G L ts p' := fun T σ H E t st s =>
  h T σ H E t st ⟨fun G L σ H m => s.nx G L σ H (h1 G L m), fun d L v H m => s.rt d L v H (h2 d L m), fun G L σ H m => s.bk G L σ H (h3 G L m), fun G L σ H m => s.ct G L σ H (h4 G L m)⟩
theorem go_next (h : p.nx G L) : Go K H0 G L tNext p := fun T σ H E t st s => s.nx G L σ H h t st
theorem go_break (h : p.bk G L) : Go K H0 G L tBreak p := fun T σ H E t st s => s.bk G L σ H h t st
theorem go_cont (h : p.ct G L) : Go K H0 G L tCont p := fun T σ H E t st s => s.ct G L σ H h t st
theorem go_ret (h : EvN K H0 G L te P) (hp : ∀ d N, P d N → ∃ L', List.Sublist L' (N ++ L) ∧ p.rt d L') : Go K H0 G L (tRet te) p := fun T σ H E t st s =>
  h σ H st _ fun v H' d N m e hf hn ho i => by
    obtain ⟨L', hs, hr⟩ := hp d N m
    exact s.rt d L' v H' hr (t.trans (Same.tx e)) ((st.add e hf hn ho).hs.sub hs) i
theorem go_retP (h : EvP K H0 G L te d) (hp : p.rt d []) : Go K H0 G L (tRet te) p := fun T σ H E t st s => h σ H st _ fun v H' e i => s.rt d [] v H' hp (t.trans (Same.tx e)) ((st.same e).hs.sub (List.nil_sublist _)) i
theorem go_retM {P : D → Hl → Prop} (h : EvM K H0 G L te P) (hp : ∀ d L', P d L' → p.rt d L') : Go K H0 G L (tRet te) p := fun T σ H E t st s => h σ H st _ fun v H' d L' m t' st' i => s.rt d L' v H' (hp d L' m) (t.trans t') st'.hs i
theorem go_retN (hp : p.rt .non []) : Go K H0 G L tRetN p := fun T σ H E t st s => s.rt .non [] .non H hp t (st.hs.sub (List.nil_sublist _)) .non
theorem go_if (h : EvT K H0 G L tt b) (h1 : b = true → Go K H0 G L ts p) (h2 : b = false → Go K H0 G L us p) : Go K H0 G L (tIfS tt ts us) p := fun T σ H E t st s => h σ H st _ fun H' e => by
  cases b with
  | true => exact iteT (h1 rfl T σ H' E (t.trans (Same.tx e)) (st.same e) s)
  | false => exact iteF (h2 rfl T σ H' E (t.trans (Same.tx e)) (st.same e) s)
/-- an if whose first branch leaves -/
theorem gq_if (h : EvT K H0 G L tt b) (h1 : b = true → Go K H0 G L ts { p with nx := fun G' L' => G' = G ∧ L' = L }) (h3 : b = false → Go K H0 G L us { p with nx := fun G' L' => G' = G ∧ L' = L }) (h2 : Go K H0 G L vs p) : Go K H0 G L (tSeq (tIfS tt ts us) vs) p :=
  go_seq (fun G' L' => G' = G ∧ L' = L) (go_if h h1 h3) fun G' L' e => by obtain ⟨rfl, rfl⟩ := e; exact h2
theorem go_no : False → Go K H0 G L ts p := fun h => h.elim

/-! ### targets -/
theorem eg_name {i : Nat} : EvG K H0 G d (gName i) (G.set i (some d)) := fun L σ H v st im Q q => q _ (st.set im i)
theorem eg_two {i j : Nat} : EvG K H0 G (.tup [x, y]) (gTup K 2 (gCons (gName i) (gCons (gName j) gNil))) ((G.set i (some x)).set j (some y)) := fun L σ H v st im Q q => by
  cases im with
  | tup hq il =>
    cases il with
    | cons i1 il =>
      cases il with
      | cons i2 il =>
        cases il
        exact ⟨_, _, rfl, hq, rfl, _, _, rfl, _, _, rfl, rfl, q _ ((st.set i1 i).set i2 j)⟩
theorem eg_three {i j k : Nat} : EvG K H0 G (.tup [x, y, z]) (gTup K 3 (gCons (gName i) (gCons (gName j) (gCons (gName k) gNil)))) (((G.set i (some x)).set j (some y)).set k (some z)) := fun L σ H v st im Q q => by
  cases im with
  | tup hq il =>
    cases il with
    | cons i1 il =>
      cases il with
      | cons i2 il =>
        cases il with
        | cons i3 il =>
          cases il
          exact ⟨_, _, rfl, hq, rfl, _, _, rfl, _, _, rfl, _, _, rfl, rfl, q _ (((st.set i1 i).set i2 j).set i3 k)⟩

/-! ### assignments -/
theorem go_setN (h : EvN K H0 G L te P) (hk : ∀ d N, P d N → ∃ G', EvG K H0 G d g G' ∧ p.nx G' (N ++ L)) : Go K H0 G L (tAsg te g) p := fun T σ H E t st s =>
  h σ H st _ fun v H' d N m e hf hn ho i => by
    obtain ⟨G', hg, hn'⟩ := hk d N m
    exact hg (N ++ L) σ H' v (st.add e hf hn ho) i _ fun σ' st' => s.nx G' _ σ' H' hn' (t.trans (Same.tx e)) st'
theorem gq_setN (h : EvN K H0 G L te P) (hk : ∀ d N, P d N → ∃ G', EvG K H0 G d g G' ∧ Go K H0 G' (N ++ L) us p) : Go K H0 G L (tSeq (tAsg te g) us) p := fun T σ H E t st s =>
  h σ H st _ fun v H' d N m e hf hn ho i => by
    obtain ⟨G', hg, hn'⟩ := hk d N m
    exact hg (N ++ L) σ H' v (st.add e hf hn ho) i _ fun σ' st' => hn' T σ' H' E (t.trans (Same.tx e)) st' s
theorem gq_set {i : Nat} (h : EvP K H0 G L te d) (hk : Go K H0 (G.set i (some d)) L us p) : Go K H0 G L (tSeq (tAsg te (gName i)) us) p := fun T σ H E t st s =>
  h σ H st _ fun v H' e im => hk T _ H' E (t.trans (Same.tx e)) ((st.same e).set im i) s
theorem go_set {i : Nat} (h : EvP K H0 G L te d) (hk : p.nx (G.set i (some d)) L) : Go K H0 G L (tAsg te (gName i)) p := fun T σ H E t st s =>
  h σ H st _ fun v H' e im => s.nx _ _ _ H' hk (t.trans (Same.tx e)) ((st.same e).set im i)
theorem gq_new {i : Nat} {o : O} (h : EvN K H0 G L te (New1 o)) (hk : ∀ a, Go K H0 (G.set i (some (.ref a))) ((a, o) :: L) us p) : Go K H0 G L (tSeq (tAsg te (gName i)) us) p :=
  gq_setN h fun d N m => by obtain ⟨a, rfl, rfl⟩ := m; exact ⟨_, eg_name, hk a⟩
theorem gq_setM {i : Nat} {P : D → Hl → Prop} (h : EvM K H0 G L te P) (hk : ∀ d L', P d L' → Go K H0 (G.set i (some d)) L' us p) : Go K H0 G L (tSeq (tAsg te (gName i)) us) p := fun T σ H E t st s =>
  h σ H st _ fun v H' d L' m t' st' im => hk d L' m T _ H' E (t.trans t') (st'.set im i) s
theorem go_dropM {P : D → Hl → Prop} (h : EvM K H0 G L te P) (hk : ∀ d L', P d L' → p.nx G L') : Go K H0 G L (tDrop te) p := fun T σ H E t st s => h σ H st _ fun v H' d L' m t' st' im => s.nx _ _ _ H' (hk d L' m) (t.trans t') st'
theorem gq_dropM {P : D → Hl → Prop} (h : EvM K H0 G L te P) (hk : ∀ d L', P d L' → Go K H0 G L' us p) : Go K H0 G L (tSeq (tDrop te) us) p := fun T σ H E t st s => h σ H st _ fun v H' d L' m t' st' im => hk d L' m T _ H' E (t.trans t') st' s
theorem gq_drop (h : EvP K H0 G L te d) (hk : Go K H0 G L us p) : Go K H0 G L (tSeq (tDrop te) us) p := fun T σ H E t st s => h σ H st _ fun v H' e im => hk T _ H' E (t.trans (Same.tx e)) (st.same e) s
theorem go_drop (h : EvP K H0 G L te d) (hk : p.nx G L) : Go K H0 G L (tDrop te) p := fun T σ H E t st s => h σ H st _ fun v H' e im => s.nx _ _ _ H' hk (t.trans (Same.tx e)) (st.same e)
theorem gq_par {i j : Nat} {ta : TA} (h : EvA K H0 G L ta [x, y]) (hk : Go K H0 ((G.set i (some x)).set j (some y)) L us p) : Go K H0 G L (tSeq (tPar i j ta) us) p := fun T σ H E t st s => h σ H st _ fun vs H' e im => by
  cases im with
  | cons i1 im =>
    cases im with
    | cons i2 im =>
      cases im
      exact ⟨_, _, rfl, hk T _ H' E (t.trans (Same.tx e)) (((st.same e).set i1 i).set i2 j) s⟩
theorem go_par {i j : Nat} {ta : TA} (h : EvA K H0 G L ta [x, y]) (hk : p.nx ((G.set i (some x)).set j (some y)) L) : Go K H0 G L (tPar i j ta) p := fun T σ H E t st s => h σ H st _ fun vs H' e im => by
  cases im with
  | cons i1 im =>
    cases im with
    | cons i2 im =>
      cases im
      exact ⟨_, _, rfl, s.nx _ _ _ H' hk (t.trans (Same.tx e)) (((st.same e).set i1 i).set i2 j)⟩
theorem gq_parN {i j : Nat} {ta : TA} {P : List D → Hl → Prop} (h : EvAN K H0 G L ta P) (hk : ∀ ds N, P ds N → ∃ x y, ds = [x, y] ∧ Go K H0 ((G.set i (some x)).set j (some y)) (N ++ L) us p) : Go K H0 G L (tSeq (tPar i j ta) us) p := fun T σ H E t st s => h σ H st _ fun vs H' ds N m e hf hn ho im => by
  obtain ⟨x, y, rfl, hk⟩ := hk ds N m
  cases im with
  | cons i1 im =>
    cases im with
    | cons i2 im =>
      cases im
      exact ⟨_, _, rfl, hk T _ H' E (t.trans (Same.tx e)) (((st.add e hf hn ho).set i1 i).set i2 j) s⟩
theorem gq_aug {i : Nat} {f : Int → Int → Int} {a c : Int} (h0 : G[i]? = some (some (.int a))) (h : EvP K H0 G L te (.int c)) (hk : Go K H0 (G.set i (some (.int (f a c)))) L us p) : Go K H0 G L (tSeq (tAug i te (ipI f)) us) p := fun T σ H E t st s => by
  obtain ⟨v, hv, iv⟩ := st.vr.2 i _ h0
  cases iv
  refine ⟨_, hv, h σ H st _ fun w H' e im => ?_⟩
  cases im
  exact ⟨a, c, rfl, rfl, hk T _ H' E (t.trans (Same.tx e)) ((st.same e).set (.int _) i) s⟩
theorem go_aug {i : Nat} {f : Int → Int → Int} {a c : Int} (h0 : G[i]? = some (some (.int a))) (h : EvP K H0 G L te (.int c)) (hk : p.nx (G.set i (some (.int (f a c)))) L) : Go K H0 G L (tAug i te (ipI f)) p := fun T σ H E t st s => by
  obtain ⟨v, hv, iv⟩ := st.vr.2 i _ h0
  cases iv
  refine ⟨_, hv, h σ H st _ fun w H' e im => ?_⟩
  cases im
  exact ⟨a, c, rfl, rfl, s.nx _ _ _ H' hk (t.trans (Same.tx e)) ((st.same e).set (.int _) i)⟩

/-! ### stores -/
theorem Stt.put {k : Nat} {a : Addr} {o o' : O} {u' : HO} (h : Stt K H0 G L σ H) (hk : L[k]? = some (a, o)) (hu : Ob K H u' o') : Stt K H0 G (L.set k (a, o')) σ (upd H a u') :=
  let q := h.hs.put hk hu
  ⟨q.1, h.vr.tx q.2⟩
theorem HS.lst {a : Addr} (h : HS K H0 L H) (hm : (a, O.lst ds) ∈ L) : ∃ xs, H a = some (.lst xs) ∧ ImL K H xs ds := by
  obtain ⟨u, h1, h2⟩ := h.own _ hm
  cases u <;> first | exact h2.elim | exact ⟨_, h1, h2⟩
theorem HS.dct {a : Addr} {ks : List (Key × D)} (h : HS K H0 L H) (hm : (a, O.dct ks) ∈ L) : ∃ xs, H a = some (.dK xs) ∧ Paired (PrI K H) xs ks := by
  obtain ⟨u, h1, h2⟩ := h.own _ hm
  cases u <;> first | exact h2.elim | exact ⟨_, h1, h2⟩
theorem HS.ins {a C dx : Addr} {fs : List (Str × D)} (h : HS K H0 L H) (hm : (a, O.ins C dx fs) ∈ L) : ∃ xs, H a = some (.ins C dx xs) ∧ Paired (PrI K H) xs fs := by
  obtain ⟨u, h1, h2⟩ := h.own _ hm
  cases u <;> first | exact h2.elim | skip
  obtain ⟨rfl, rfl, h3⟩ := h2
  exact ⟨_, h1, h3⟩
/-- l.append(e) -/
theorem em_append {a : Addr} {k : Nat} (hk : L[k]? = some (a, .lst ds)) (ha : EvP K H0 G L ta (.ref a)) (h : EvP K H0 G L te d) (hz : ds.length < 100000) :
    EvM K H0 G L (tBM K "list" rAppend ta (tCons te tNil)) (fun r L' => r = .non ∧ L' = L.set k (a, .lst (ds ++ [d]))) := fun σ H st Q q =>
  ha σ H st _ fun v H1 e1 i1 => by
    cases i1
    have hm := List.mem_of_getElem? hk
    obtain ⟨xs, hx, il⟩ := (st.same e1).hs.lst hm
    refine ⟨.inl ⟨rfl, xs, SqL.of hx⟩, h σ H1 (st.same e1) _ fun w H2 e2 i2 => ?_⟩
    have il2 := il.tx (Same.tx e2)
    refine ⟨a, xs, w, rfl, rfl, e2 _ _ hx, by rw [il.length]; exact Nat.lt_of_lt_of_le hz (by decide), ?_⟩
    have pu := ((st.same e1).same e2).hs.put (u' := .lst (xs ++ [w])) (o' := .lst (ds ++ [d])) hk (il2.snoc i2)
    exact q .non _ .non _ ⟨rfl, rfl⟩ (((Same.tx e1).trans (Same.tx e2)).trans pu.2) (((st.same e1).same e2).put hk (il2.snoc i2)) .non
theorem gq_append {a : Addr} {k : Nat} (hk : L[k]? = some (a, .lst ds)) (ha : EvP K H0 G L ta (.ref a)) (h : EvP K H0 G L te d) (hz : ds.length < 100000) (hn : Go K H0 G (L.set k (a, .lst (ds ++ [d]))) us p) :
    Go K H0 G L (tSeq (tDrop (tBM K "list" rAppend ta (tCons te tNil))) us) p := gq_dropM (em_append hk ha h hz) fun _ _ e => by obtain ⟨_, rfl⟩ := e; exact hn
theorem go_append {a : Addr} {k : Nat} (hk : L[k]? = some (a, .lst ds)) (ha : EvP K H0 G L ta (.ref a)) (h : EvP K H0 G L te d) (hz : ds.length < 100000) (hn : p.nx G (L.set k (a, .lst (ds ++ [d])))) :
    Go K H0 G L (tDrop (tBM K "list" rAppend ta (tCons te tNil))) p := go_dropM (em_append hk ha h hz) fun _ _ e => by obtain ⟨_, rfl⟩ := e; exact hn
/-- l[i] = e -/
theorem ixN_of {n j : Nat} (h : j < n) : ixN n (j : Int) = some j := by
  unfold ixN
  rw [if_pos (by omega), if_pos (by omega), Int.toNat_natCast]
theorem go_setLN {a : Addr} {k : Nat} {i : Int} {j : Nat} (h : EvN K H0 G L te P) (hk : L[k]? = some (a, .lst ds)) (ho : EvP K H0 G L ta (.ref a)) (hi : EvP K H0 G L tb (.int i)) (hj : ixN ds.length i = some j)
    (hn : ∀ d N, P d N → p.nx G (N ++ L.set k (a, .lst (ds.set j d)))) : Go K H0 G L (tAsg te (gSub ta tb rSetL)) p := fun T σ H E t st s =>
  h σ H st _ fun v H1 d N m e1 hf hnd ho1 i1 => ho σ H1 (st.same e1) _ fun w H2 e2 i2 => hi σ H2 ((st.same e1).same e2) _ fun u H3 e3 i3 => by
    cases i2; cases i3
    have hm := List.mem_of_getElem? hk
    have s3 := ((st.same e1).same e2).same e3
    obtain ⟨xs, hx, il⟩ := s3.hs.lst hm
    refine ⟨a, xs, i, j, rfl, rfl, hx, by rw [il.length]; exact hj, ?_⟩
    have i1' := (i1.tx (Same.tx e2)).tx (Same.tx e3)
    have sadd := ((st.add e1 hf hnd ho1).same e2).same e3
    have hk' : (N ++ L)[N.length + k]? = some (a, .lst ds) := by rw [List.getElem?_append_right (by omega), Nat.add_sub_cancel_left]; exact hk
    have sp := sadd.put (u' := .lst (xs.set j v)) (o' := .lst (ds.set j d)) hk' (ImL.set i1' j il)
    rw [List.set_append_right _ _ (by omega), Nat.add_sub_cancel_left] at sp
    have pu := sadd.hs.put (u' := .lst (xs.set j v)) (o' := .lst (ds.set j d)) hk' (ImL.set i1' j il)
    exact s.nx _ _ _ _ (hn d N m) ((((t.trans (Same.tx e1)).trans (Same.tx e2)).trans (Same.tx e3)).trans pu.2) sp
theorem gq_setLN {a : Addr} {k : Nat} {i : Int} {j : Nat} (h : EvN K H0 G L te P) (hk : L[k]? = some (a, .lst ds)) (ho : EvP K H0 G L ta (.ref a)) (hi : EvP K H0 G L tb (.int i)) (hj : ixN ds.length i = some j)
    (hn : ∀ d N, P d N → Go K H0 G (N ++ L.set k (a, .lst (ds.set j d))) us p) : Go K H0 G L (tSeq (tAsg te (gSub ta tb rSetL)) us) p :=
  go_seq (fun G' L' => ∃ d N, P d N ∧ G' = G ∧ L' = N ++ L.set k (a, .lst (ds.set j d))) (go_setLN h hk ho hi hj fun d N m => ⟨d, N, m, rfl, rfl⟩) fun G' L' e => by obtain ⟨d, N, m, rfl, rfl⟩ := e; exact hn d N m
theorem gq_setL {a : Addr} {k : Nat} {i : Int} {j : Nat} (h : EvP K H0 G L te d) (hk : L[k]? = some (a, .lst ds)) (ho : EvP K H0 G L ta (.ref a)) (hi : EvP K H0 G L tb (.int i)) (hj : ixN ds.length i = some j)
    (hn : Go K H0 G (L.set k (a, .lst (ds.set j d))) us p) : Go K H0 G L (tSeq (tAsg te (gSub ta tb rSetL)) us) p :=
  gq_setLN (P := fun d' N => d' = d ∧ N = []) (h.nw ⟨rfl, rfl⟩) hk ho hi hj fun d N e => by obtain ⟨rfl, rfl⟩ := e; exact hn
theorem go_setL {a : Addr} {k : Nat} {i : Int} {j : Nat} (h : EvP K H0 G L te d) (hk : L[k]? = some (a, .lst ds)) (ho : EvP K H0 G L ta (.ref a)) (hi : EvP K H0 G L tb (.int i)) (hj : ixN ds.length i = some j)
    (hn : p.nx G (L.set k (a, .lst (ds.set j d)))) : Go K H0 G L (tAsg te (gSub ta tb rSetL)) p :=
  go_setLN (P := fun d' N => d' = d ∧ N = []) (h.nw ⟨rfl, rfl⟩) hk ho hi hj fun d N e => by obtain ⟨rfl, rfl⟩ := e; exact hn

/-! ### loops -/
theorem go_while {m0 : Nat} (W : Nat → Ga → Hl → Prop) (h0 : W m0 G L)
    (hs : ∀ m G L, W m G L → ∃ b, EvT K H0 G L tt b ∧ (b = true → Go K H0 G L ts { p with nx := fun G' L' => ∃ m', m' < m ∧ W m' G' L', ct := fun G' L' => ∃ m', m' < m ∧ W m' G' L', bk := p.nx }) ∧ (b = false → p.nx G L)) :
    Go K H0 G L (tWhile tt ts) p := fun T σ H E t st s => by
  refine ⟨fun m σ H => ∃ G L, W m G L ∧ TX T H ∧ Stt K H0 G L σ H, ⟨m0, G, L, h0, t, st⟩, ?_⟩
  rintro m σ H ⟨G, L, w, t, st⟩
  obtain ⟨b, hb, h1, h2⟩ := hs m G L w
  refine hb σ H st _ fun H' e => ?_
  have t' := t.trans (Same.tx e)
  cases b with
  | false => exact iteF (s.nx _ _ _ _ (h2 rfl) t' (st.same e))
  | true =>
    refine iteT ⟨fun σ' H' => ∃ m' G' L', m' < m ∧ W m' G' L' ∧ TX T H' ∧ Stt K H0 G' L' σ' H', fun σ' H' ⟨m', G', L', a, b, c⟩ => ⟨m', a, G', L', b, c⟩, ?_⟩
    exact h1 rfl T σ H' _ t' (st.same e) ⟨fun G L σ H ⟨m', a, b⟩ t st => ⟨m', G, L, a, b, t, st⟩, s.rt, s.nx, fun G L σ H ⟨m', a, b⟩ t st => ⟨m', G, L, a, b, t, st⟩⟩
theorem ItD.walk {T : Hp} {J : It} {W : Hl → Prop} (h : ItD K H0 T J ds W) : Walk J ds.length (fun H => ∃ L, TX T H ∧ HS K H0 L H ∧ W L) (fun i H v H' => Same H H' ∧ ∃ d, ds[i]? = some d ∧ Im K H' v d) :=
  ⟨fun i H hi ⟨L, t, a, b⟩ => h.go i L H t a b hi, fun H ⟨L, t, a, b⟩ => h.stop L H t a b, fun i H v H' hi ⟨L, t, a, b⟩ y => h.yld i L H v H' t a b hi y⟩
theorem go_for {P : List D → (Hl → Prop) → Hl → Prop} (hw : EvI K H0 G L wi P)
    (h : ∀ ds W N, P ds W N → ∃ I : Nat → Ga → Hl → Prop, I 0 G (N ++ L) ∧ (∀ i G L, I i G L → W L) ∧
      (∀ i d G L, ds[i]? = some d → I i G L → ∃ G', EvG K H0 G d g G' ∧ Go K H0 G' L ts { p with nx := I (i + 1), ct := I (i + 1), bk := p.nx }) ∧ ∀ G L, I ds.length G L → p.nx G L) :
    Go K H0 G L (tFor wi g ts) p := fun T σ H E t st s => by
  refine hw σ H st _ fun J H' ds W N m e hf hn ho it => ?_
  obtain ⟨I, h0, hW, hs, hd⟩ := h ds W N m
  have tt := t.trans (Same.tx e)
  refine for_it it.walk (fun i σ H => ∃ G L, I i G L ∧ TX H' H ∧ Stt K H0 G L σ H) ⟨_, _, h0, TX.refl _, st.add e hf hn ho⟩ (fun i σ H _ ⟨G, L, a, t, b⟩ => ⟨L, t, b.hs, hW i G L a⟩) ?_ (fun σ H ⟨G, L, a, t, b⟩ => s.nx _ _ _ _ (hd G L a) (tt.trans t) b)
  rintro i v σ1 H1 H2 hi ⟨G1, L1, a, t1, b⟩ ⟨e2, d, hd', im⟩
  obtain ⟨G', hg, hb⟩ := hs i d G1 L1 hd' a
  refine hg L1 σ1 H2 v (b.same e2) im _ fun σ3 st3 => ?_
  exact hb H' σ3 H2 _ (t1.trans (Same.tx e2)) st3 ⟨fun G L σ H a t b => ⟨G, L, a, t, b⟩, fun d L v H a t b i => s.rt d L v H a (tt.trans t) b i, fun G L σ H a t b => s.nx G L σ H a (tt.trans t) b, fun G L σ H a t b => ⟨G, L, a, t, b⟩⟩
/-- over what is known, nothing new -/
theorem go_for0 {W : Hl → Prop} (hw : EvI K H0 G L wi (It0 ds W)) (I : Nat → Ga → Hl → Prop) (h0 : I 0 G L) (hW : ∀ i G L, I i G L → W L)
    (hs : ∀ i d G L, ds[i]? = some d → I i G L → ∃ G', EvG K H0 G d g G' ∧ Go K H0 G' L ts { p with nx := I (i + 1), ct := I (i + 1), bk := p.nx }) (hd : ∀ G L, I ds.length G L → p.nx G L) : Go K H0 G L (tFor wi g ts) p :=
  go_for hw fun ds' W' N e => by obtain ⟨rfl, rfl, rfl⟩ := e; exact ⟨I, h0, hW, hs, hd⟩
theorem gq_for0 {W : Hl → Prop} (hw : EvI K H0 G L wi (It0 ds W)) (I : Nat → Ga → Hl → Prop) (h0 : I 0 G L) (hW : ∀ i G L, I i G L → W L)
    (hs : ∀ i d G L, ds[i]? = some d → I i G L → ∃ G', EvG K H0 G d g G' ∧ Go K H0 G' L ts { p with nx := I (i + 1), ct := I (i + 1), bk := I ds.length }) (hd : ∀ G L, I ds.length G L → Go K H0 G L us p) : Go K H0 G L (tSeq (tFor wi g ts) us) p :=
  go_seq (I ds.length) (go_for0 hw I h0 hW hs fun _ _ h => h) hd

/-! ### what is walked -/
theorem ei_list {a : Addr} (h : EvP K H0 G L te (.ref a)) (hk : Lk K H0 L a (.lst ds)) : EvI K H0 G L (iList K te) (It0 ds fun L => Lk K H0 L a (.lst ds)) := fun σ H st R q => h σ H st _ fun v H' e i => by
  cases i
  obtain ⟨xs, hx, _⟩ := hk.rdo (st.same e).hs
  refine ⟨a, rfl, ⟨xs, hx⟩, q _ H' ds _ [] ⟨rfl, rfl, rfl⟩ e (fun _ z => nomatch z) .nil Hs.nil ⟨fun i L H t s w hi => ?_, fun L H t s w => ?_, fun i L H x H' t s w hi y => ?_⟩⟩
  · obtain ⟨xs, hx, il⟩ := w.rdo s
    have : i < xs.length := by rw [il.length]; exact hi
    exact ⟨xs, xs[i], hx, List.getElem?_eq_getElem this⟩
  · obtain ⟨xs, hx, il⟩ := w.rdo s
    exact ⟨xs, hx, by rw [il.length]; exact Nat.le_refl _⟩
  · obtain ⟨xs, hx, il⟩ := w.rdo s
    obtain ⟨rfl, y⟩ := y
    obtain ⟨d, hd, im⟩ := il.get (y xs hx)
    exact ⟨Same.refl _, d, hd, im⟩
/-- over a new list -/
theorem ei_listN (h : EvN K H0 G L te (New1 (.lst ds))) : EvI K H0 G L (iList K te) (fun ds' W N => ds' = ds ∧ ∃ a, N = [(a, .lst ds)] ∧ W = fun L => Lk K H0 L a (.lst ds)) := fun σ H st R q => h σ H st _ fun v H' d N m e hf hn ho i => by
  obtain ⟨a, rfl, rfl⟩ := m
  cases i
  have hk : Lk K H0 ([(a, O.lst ds)] ++ L) a (.lst ds) := .inl (List.mem_cons_self)
  obtain ⟨xs, hx, _⟩ := hk.rdo (st.add e hf hn ho).hs
  refine ⟨a, rfl, ⟨xs, hx⟩, q _ H' ds _ _ ⟨rfl, a, rfl, rfl⟩ e hf hn ho ⟨fun i L H t s w hi => ?_, fun L H t s w => ?_, fun i L H x H' t s w hi y => ?_⟩⟩
  · obtain ⟨xs, hx, il⟩ := w.rdo s
    have : i < xs.length := by rw [il.length]; exact hi
    exact ⟨xs, xs[i], hx, List.getElem?_eq_getElem this⟩
  · obtain ⟨xs, hx, il⟩ := w.rdo s
    exact ⟨xs, hx, by rw [il.length]; exact Nat.le_refl _⟩
  · obtain ⟨xs, hx, il⟩ := w.rdo s
    obtain ⟨rfl, y⟩ := y
    obtain ⟨d, hd, im⟩ := il.get (y xs hx)
    exact ⟨Same.refl _, d, hd, im⟩
theorem ei_tup (h : EvP K H0 G L te (.tup ds)) : EvI K H0 G L (iTup K te) (It0 ds fun _ => True) := fun σ H st R q => h σ H st _ fun v H' e i => by
  cases i with
  | @tup a xs _ hx il =>
    refine ⟨a, rfl, ⟨xs, hx⟩, q _ H' ds _ [] ⟨rfl, rfl, rfl⟩ e (fun _ z => nomatch z) .nil Hs.nil ⟨fun i L H t s w hi => ?_, fun L H t s w => ?_, fun i L H x H' t s w hi y => ?_⟩⟩
    · have : i < xs.length := by rw [il.length]; exact hi
      exact ⟨xs, xs[i], SqT.tx t hx, List.getElem?_eq_getElem this⟩
    · exact ⟨xs, SqT.tx t hx, by rw [il.length]; exact Nat.le_refl _⟩
    · obtain ⟨rfl, y⟩ := y
      obtain ⟨d, hd, im⟩ := (il.tx t).get (y xs (SqT.tx t hx))
      exact ⟨Same.refl _, d, hd, im⟩
def rngD (lo : Int) (n : Nat) : List D := (List.range n).map fun (k : Nat) => D.int (lo + (k : Int))
theorem rngD_len (lo : Int) (n : Nat) : (rngD lo n).length = n := by unfold rngD; rw [List.length_map, List.length_range]
theorem rngD_get {lo : Int} {n i : Nat} (h : i < n) : (rngD lo n)[i]? = some (.int (lo + (i : Int))) := by
  unfold rngD
  rw [List.getElem?_map, List.getElem?_range h]
  rfl
theorem itr_ok {T : Hp} {lo : Int} {n : Nat} : ItD K H0 T (Itr lo n) (rngD lo n) fun _ => True :=
  ⟨fun i L H t s w hi => by rw [rngD_len] at hi; exact hi, fun L H t s w => by rw [rngD_len]; exact Nat.le_refl _, fun i L H x H' t s w hi y => by
    obtain ⟨rfl, rfl⟩ := y
    rw [rngD_len] at hi
    exact ⟨Same.refl _, _, rngD_get hi, .int _⟩⟩
theorem ei_rng1 {ta : TA} {n : Int} (h : EvA K H0 G L ta [.int n]) (h1 : -(2 ^ 62) ≤ n) (h2 : n < 2 ^ 62) : EvI K H0 G L (iRng1 ta) (It0 (rngD 0 n.toNat) fun _ => True) := fun σ H st R q => h σ H st _ fun vs H' e i => by
  cases i with
  | cons i1 i =>
    cases i; cases i1
    exact ⟨n, rfl, h1, h2, q _ H' _ _ [] ⟨rfl, rfl, rfl⟩ e (fun _ z => nomatch z) .nil Hs.nil itr_ok⟩
theorem ei_rng2 {ta : TA} {m n : Int} (h : EvA K H0 G L ta [.int m, .int n]) (h1 : -(2 ^ 62) ≤ m ∧ m < 2 ^ 62 ∧ -(2 ^ 62) ≤ n ∧ n < 2 ^ 62) : EvI K H0 G L (iRng2 ta) (It0 (rngD m (n - m).toNat) fun _ => True) := fun σ H st R q => h σ H st _ fun vs H' e i => by
  cases i with
  | cons i1 i =>
    cases i with
    | cons i2 i =>
      cases i; cases i1; cases i2
      exact ⟨m, n, rfl, h1, q _ H' _ _ [] ⟨rfl, rfl, rfl⟩ e (fun _ z => nomatch z) .nil Hs.nil itr_ok⟩
/-- range(a, b, -1) -/
def dwnD (hi : Int) (n : Nat) : List D := (List.range n).map fun (k : Nat) => D.int (hi + (k : Int) * -1)
theorem dwnD_len (lo : Int) (n : Nat) : (dwnD lo n).length = n := by unfold dwnD; rw [List.length_map, List.length_range]
theorem dwnD_get {lo : Int} {n i : Nat} (h : i < n) : (dwnD lo n)[i]? = some (.int (lo + (i : Int) * -1)) := by
  unfold dwnD
  rw [List.getElem?_map, List.getElem?_range h]
  rfl
theorem ei_rng3 {ta : TA} {m n : Int} (h : EvA K H0 G L ta [.int m, .int n, .int (-1)]) (h1 : -(2 ^ 62) ≤ m ∧ m < 2 ^ 62 ∧ -(2 ^ 62) ≤ n ∧ n < 2 ^ 62) : EvI K H0 G L (iRng3 ta) (It0 (dwnD m (m - n).toNat) fun _ => True) := fun σ H st R q => h σ H st _ fun vs H' e i => by
  cases i with
  | cons i1 i =>
    cases i with
    | cons i2 i =>
      cases i with
      | cons i3 i =>
        cases i; cases i1; cases i2; cases i3
        refine ⟨m, n, -1, (m - n).toNat, rfl, RgC.neg h1.1 h1.2.1 h1.2.2.1 h1.2.2.2, q _ H' _ _ [] ⟨rfl, rfl, rfl⟩ e (fun _ z => nomatch z) .nil Hs.nil ?_⟩
        exact ⟨fun i L H t s w hi => by rw [dwnD_len] at hi; exact hi, fun L H t s w => by rw [dwnD_len]; exact Nat.le_refl _, fun i L H x H' t s w hi y => by
          obtain ⟨rfl, rfl⟩ := y
          rw [dwnD_len] at hi
          exact ⟨Same.refl _, _, dwnD_get hi, .int _⟩⟩

/-! ### list comprehensions -/
theorem wipe1 (σ : St) (i : Nat) (v : V) : wipe ((wipe σ [i]).set i (some v)) [i] = wipe σ [i] := by
  show (((σ.set i none).set i (some v)).set i none) = σ.set i none
  rw [List.set_set, List.set_set]
theorem Vr.wipe1 {i : Nat} (h : Vr K H G σ) : Vr K H (G.set i none) (wipe σ [i]) := h.clr i none
/-- the end: the list so far is acc -/
theorem lc_main {P : List D → (Hl → Prop) → Hl → Prop} {vs : List Nat} (f : D → Bool) (v : D → D) (hw : EvI K H0 G L wi P)
    (hP : ∀ ds' W N, P ds' W N → ds' = ds ∧ (∀ Z, W (Z :: (N ++ L))) ∧ ∀ d ∈ ds, ∀ Z, ∃ G', (∀ σ H x, Stt K H0 G (Z :: (N ++ L)) σ H → Im K H x d → ∀ Q : St → Hp → Prop, (∀ σ', Stt K H0 G' (Z :: (N ++ L)) σ' H → wipe σ' vs = wipe σ vs → Q σ' H) → g x (wipe σ vs) H Q) ∧
      EvT K H0 G' (N ++ L) tt (f d) ∧ (f d = true → EvP K H0 G' (N ++ L) te (v d))) (hz : ds.length ≤ 100000) : EvN K H0 G L (tLc wi g tt te vs) (New1 (.lst ((ds.filter f).map v))) := fun σ H st Q q => by
  refine hw σ H st _ fun J H1 ds' W N m e hf hn ho it Dl hD => ?_
  obtain ⟨rfl, hW, hel⟩ := hP ds' W N m
  have st1 := st.add e hf hn ho
  refine lc_it it.walk (fun i H' => Same H1 (upd H' Dl (.lst [])) ∧ TX H1 H' ∧ Stt K H0 G ((Dl, .lst (((ds'.take i).filter f).map v)) :: (N ++ L)) σ H') ?_ ?_ ?_ ?_
  · have n1 := new1 (K := K) (u := .lst []) (o := .lst []) hD .nil
    have := st1.add n1.1 n1.2.1 n1.2.2.1 n1.2.2.2
    refine ⟨?_, Same.tx n1.1, this⟩
    rw [upd_upd]
    exact n1.1
  · exact fun i H' _ ⟨_, t, s⟩ => ⟨_, t, s.hs, hW _⟩
  · rintro i x H2 H3 hi ⟨e1, t, s⟩ ⟨e2, d, hd, im⟩
    obtain ⟨G', hg, ht, hv⟩ := hel d (List.mem_of_getElem? hd) (Dl, .lst (((ds'.take i).filter f).map v))
    have s3 := s.same e2
    have tk : ds'.take (i + 1) = ds'.take i ++ [d] := by rw [List.take_succ, hd]; rfl
    have ext : ∀ {Ha Hb : Hp}, Same H1 (upd Ha Dl (.lst [])) → Same Ha Hb → Ha Dl ≠ none → Same H1 (upd Hb Dl (.lst [])) := fun {Ha Hb} a b hne c o hc => by
      have := a c o hc
      by_cases hcd : c = Dl
      · subst hcd; rw [hD] at hc; cases hc
      · rw [upd_ne hcd] at this ⊢; exact b _ _ this
    have hne : ∀ {Hx : Hp}, Stt K H0 G ((Dl, .lst (((ds'.take i).filter f).map v)) :: (N ++ L)) σ Hx → Hx Dl ≠ none := fun {Hx} sx z => by
      obtain ⟨xs, hx, _⟩ := sx.hs.lst List.mem_cons_self
      rw [hx] at z; cases z
    refine hg σ H3 x s3 im _ fun σ' s4 hwp => ⟨hwp, ?_⟩
    refine ht.fr σ' H3 s4 _ fun H4 e4 => ?_
    cases hb : f d with
    | false =>
      refine iteF ⟨ext (ext e1 e2 (hne s)) e4 (hne s3), (t.trans (Same.tx e2)).trans (Same.tx e4), ?_⟩
      rw [tk, List.filter_append, List.filter_cons, hb]
      simp only [Bool.false_eq_true, if_false, List.filter_nil, List.append_nil]
      exact (s3.same e4)
    | true =>
      refine iteT ((hv hb).fr σ' H4 (s4.same e4) _ fun y H5 e5 i5 => ?_)
      have s5 := (s3.same e4).same e5
      obtain ⟨xs, hx, il⟩ := s5.hs.lst List.mem_cons_self
      have hlen : xs.length < sizeLine := by
        rw [il.length, List.length_map]
        have h1 := List.length_filter_le f (ds'.take i)
        have h2 := List.length_take_le i ds'
        have h3 : (ds'.take i).length ≤ i := by rw [List.length_take]; omega
        exact Nat.lt_of_lt_of_le (show _ < 100001 by omega) (by decide)
      refine ⟨xs, hx, hlen, ?_, ?_⟩
      · rw [upd_upd]
        exact ext (ext (ext e1 e2 (hne s)) e4 (hne s3)) e5 (hne (s3.same e4))
      · have pu := s5.hs.put (k := 0) (u' := .lst (xs ++ [y])) (o' := .lst (((ds'.take i).filter f).map v ++ [v d])) rfl (il.snoc i5)
        refine ⟨(((t.trans (Same.tx e2)).trans (Same.tx e4)).trans (Same.tx e5)).trans pu.2, ?_⟩
        rw [tk, List.filter_append, List.filter_cons, hb, List.map_append]
        exact ⟨pu.1, s5.vr.tx pu.2⟩
  · rintro H2 ⟨e1, t, s⟩
    rw [List.take_length] at s
    obtain ⟨u, hu, ob⟩ := s.hs.own _ List.mem_cons_self
    refine q (.ref Dl) H2 (.ref Dl) _ ⟨Dl, rfl, rfl⟩ (fun c o hc => ?_) (fun z hz => ?_) (by simp) (fun z hz => ?_) (.ref Dl)
    · have h1 := e c o hc
      have := e1 c o h1
      rw [upd_ne (ne_of_none h1 hD)] at this
      exact this
    · rw [List.mem_singleton.mp hz]; exact e.free hD
    · rw [List.mem_singleton.mp hz]; exact ⟨u, hu, ob⟩
theorem en_lc {i : Nat} {W : Hl → Prop} (f : D → Bool) (v : D → D) (hw : EvI K H0 G L wi (It0 ds W)) (hW : ∀ Z, W (Z :: L)) (ht : ∀ d ∈ ds, EvT K H0 (G.set i (some d)) L tt (f d)) (he : ∀ d ∈ ds, f d = true → EvP K H0 (G.set i (some d)) L te (v d)) (hz : ds.length ≤ 100000) :
    EvN K H0 G L (tLc wi (gName i) tt te [i]) (New1 (.lst ((ds.filter f).map v))) :=
  lc_main f v hw (fun ds' W' N m => by
    obtain ⟨rfl, rfl, rfl⟩ := m
    refine ⟨rfl, hW, fun d hd Z => ⟨G.set i (some d), fun σ H x st im Q q => q _ ?_ (wipe1 σ i x), ht d hd, he d hd⟩⟩
    show Stt K H0 (G.set i (some d)) (Z :: L) ((σ.set i none).set i (some x)) H
    rw [List.set_set]
    exact st.set im i) hz
theorem et_yes : EvT K H0 G L tYes true := fun σ H s Q q => q H (Same.refl H)
theorem en_lcY {i : Nat} {W : Hl → Prop} (v : D → D) (hw : EvI K H0 G L wi (It0 ds W)) (hW : ∀ Z, W (Z :: L)) (he : ∀ d ∈ ds, EvP K H0 (G.set i (some d)) L te (v d)) (hz : ds.length ≤ 100000) : EvN K H0 G L (tLc wi (gName i) tYes te [i]) (New1 (.lst (ds.map v))) := by
  have := en_lc (K := K) (H0 := H0) (G := G) (L := L) (i := i) (tt := tYes) (te := te) (fun _ => true) v hw hW (fun _ _ => et_yes) (fun d hd _ => he d hd) hz
  rwa [List.filter_eq_self.mpr (fun _ _ => rfl)] at this
theorem en_lcN {i : Nat} (f : D → Bool) (v : D → D) (hw : EvI K H0 G L wi (fun ds' W N => ds' = ds ∧ ∃ a, N = [(a, .lst ds)] ∧ W = fun L => Lk K H0 L a (.lst ds))) (ht : ∀ d ∈ ds, EvT K H0 (G.set i (some d)) L tt (f d)) (he : ∀ d ∈ ds, f d = true → EvP K H0 (G.set i (some d)) L te (v d)) (hz : ds.length ≤ 100000) :
    EvN K H0 G L (tLc wi (gName i) tt te [i]) (New1 (.lst ((ds.filter f).map v))) :=
  lc_main f v hw (fun ds' W' N m => by
    obtain ⟨rfl, a, rfl, rfl⟩ := m
    refine ⟨rfl, fun Z => .inl (List.mem_cons_of_mem _ List.mem_cons_self), fun d hd Z => ⟨G.set i (some d), fun σ H x st im Q q => q _ ?_ (wipe1 σ i x), (ht d hd).fr, fun hb => (he d hd hb).fr⟩⟩
    show Stt K H0 (G.set i (some d)) (Z :: ([(a, O.lst ds')] ++ L)) ((σ.set i none).set i (some x)) H
    rw [List.set_set]
    exact st.set im i) hz
end
end Fc

namespace Fc
open PySem L2

/-! ## what a def promises -/
abbrev FS := Hl → List D → (D → Hl → Prop) → Prop
abbrev Val (d : D) : D → Hl → Prop := fun d' _ => d' = d
/-- reads, writes nothing that stood -/
def spF (K : PySem.W.Frag) (S : FS) : Sp := fun vs H Q _ => ∃ Z ds R, Rds K H Z ∧ ImL K H vs ds ∧ S Z ds R ∧
  ∀ v H' d N, R d N → Same H H' → (∀ p ∈ N, H p.1 = none) → (N.map (·.1)).Nodup → Hs K H' N → Im K H' v d → Q v H'
/-- may write the objects of Y -/
abbrev FM := Hl → Hl → List D → (D → Hl → Prop) → Prop
def spM (K : PySem.W.Frag) (S : FM) : Sp := fun vs H Q _ => ∃ Y Z ds R, Hs K H Y ∧ (Y.map (·.1)).Nodup ∧ Rds K H Z ∧ (∀ p ∈ Z, p.1 ∉ Y.map (·.1)) ∧ ImL K H vs ds ∧ S Y Z ds R ∧
  ∀ v H' d N, R d N → (∀ a o, H a = some o → a ∉ Y.map (·.1) → H' a = some o) → TX H H' → (∀ p ∈ N, H p.1 = none ∨ p.1 ∈ Y.map (·.1)) → (N.map (·.1)).Nodup → Hs K H' N → Im K H' v d → Q v H'
abbrev args (N : List Str) (ds : List D) : Ga := ds.map some ++ List.replicate (N.length - ds.length) none
section
variable {K : PySem.W.Frag} {H0 H H' : Hp} {G G' : Ga} {L L' N : Hl} {σ : St} {te ta tb tc : TE} {tt tu : TT} {ts us vs : TS} {d x y z : D} {ds : List D} {b c : Bool} {p : Po} {g : TG} {wi : TI} {P R : D → Hl → Prop}
theorem start_vr {N : List Str} : ∀ {vs : List V} {ds : List D}, ImL K H vs ds → Vr K H (args N ds) (L2.start N vs) := fun {vs ds} h => by
  have hl := h.length
  refine ⟨by unfold L2.start args; simp [hl], fun i d e => ?_⟩
  unfold args at e
  unfold L2.start
  by_cases hi : i < ds.length
  · rw [List.getElem?_append_left (by simpa using hi), List.getElem?_map] at e
    rw [List.getElem?_append_left (by simpa [hl] using hi), List.getElem?_map]
    cases hd : ds[i]? with
    | none => rw [hd] at e; cases e
    | some z =>
      rw [hd] at e
      cases (Option.some.inj (Option.some.inj e))
      obtain ⟨v, hv, im⟩ := h.getD hd
      exact ⟨v, by rw [hv]; rfl, im⟩
  · rw [List.getElem?_append_right (by simpa using hi)] at e
    rw [List.getElem?_replicate] at e
    split at e <;> cases e
theorem body_go {S : FS} {N : List Str} {t : TS} (h : ∀ Z ds R H0, Rds K H0 Z → S Z ds R → Go K H0 (args N ds) [] t { nx := fun _ L => R .non L, rt := R }) {vs : List V} {Q : VK} {E : XK} (hs : spF K S vs H Q E) :
    t { nx := fun _ H' => Q .non H', rt := Q } (L2.start N vs) H := by
  obtain ⟨Z, ds, R, hz, im, s, q⟩ := hs
  refine h Z ds R H hz s H _ H _ (TX.refl H) ⟨⟨Same.refl H, Hs.nil, .nil, fun _ z => nomatch z⟩, start_vr im⟩ ⟨fun G L σ H' r t st => ?_, fun d L v H' r t st i => ?_, fun _ _ _ _ z => z.elim, fun _ _ _ _ z => z.elim⟩
  · exact q .non H' .non L r st.hs.ext st.hs.new st.hs.nd st.hs.own .non
  · exact q v H' d L r st.ext st.new st.nd st.own i
theorem body_goM {S : FM} {N : List Str} {t : TS} (h : ∀ Y Z ds R H0, (∀ p ∈ Y, H0 p.1 = none) → Rds K H0 Z → S Y Z ds R → Go K H0 (args N ds) Y t { nx := fun _ L => R .non L, rt := R }) {vs : List V} {Q : VK} {E : XK} (hs : spM K S vs H Q E) :
    t { nx := fun _ H' => Q .non H', rt := Q } (L2.start N vs) H := by
  obtain ⟨Y, Z, ds, R, hy, hn, hz, hzy, im, s, q⟩ := hs
  let H0 : Hp := fun a => if a ∈ Y.map (·.1) then none else H a
  have h0 : ∀ a, a ∉ Y.map (·.1) → H0 a = H a := fun a ha => if_neg ha
  have h1 : ∀ p ∈ Y, H0 p.1 = none := fun p hp => if_pos (List.mem_map_of_mem hp)
  have hsm : Same H0 H := fun a o e => by
    by_cases ha : a ∈ Y.map (·.1)
    · rw [show H0 a = none from if_pos ha] at e; cases e
    · rw [h0 a ha] at e; exact e
  have htup : ∀ a xs, H a = some (.tup xs) → a ∉ Y.map (·.1) := fun a xs e ha => by
    obtain ⟨p, hp, rfl⟩ := List.mem_map.mp ha
    obtain ⟨u, hu, ho⟩ := hy p hp
    rw [e] at hu; cases hu
    exact ho.notup.1 _ rfl
  have hfrz : ∀ a o u, H a = some (.frz o u) → a ∉ Y.map (·.1) := fun a o u e ha => by
    obtain ⟨p, hp, rfl⟩ := List.mem_map.mp ha
    obtain ⟨w, hw, ho⟩ := hy p hp
    rw [e] at hw; cases hw
    cases hpp : p.2 <;> rw [hpp] at ho <;> exact ho
  have htx : TX H H0 := ⟨fun a xs e => by rw [h0 a (htup a xs e)]; exact e, fun a o xs e => by rw [h0 a (hfrz a o _ e)]; exact e⟩
  have hz0 : Rds K H0 Z := fun p hp => by
    have r := hz p hp
    have hp1 := hzy p hp
    obtain ⟨a, o⟩ := p
    cases o with
    | lst es =>
      obtain ⟨xs, hx, il⟩ := r
      refine ⟨xs, ?_, il.tx htx⟩
      rcases hx with (hx | ⟨o, hx⟩) | hx
      · exact .inl (.inl (by rw [h0 a hp1]; exact hx))
      · exact .inl (.inr ⟨o, by rw [h0 a hp1]; exact hx⟩)
      · exact .inr hx
    | dct es =>
      obtain ⟨xs, hx, il⟩ := r
      exact ⟨xs, by rw [h0 a hp1]; exact hx, Paired.tx htx il⟩
    | ins C dx es =>
      obtain ⟨xs, hx, il⟩ := r
      exact ⟨xs, by rw [h0 a hp1]; exact hx, Paired.tx htx il⟩
    | tb0 =>
      have hx : H a = some (.tbl #[]) := r
      show H0 a = _
      rw [h0 a hp1]; exact hx
  have fin : ∀ {v H' d L}, R d L → TX H H' → HS K H0 L H' → Im K H' v d → Q v H' := fun {v H' d L} r t st i =>
    q v H' d L r (fun a o e ha => st.ext a o (by rw [h0 a ha]; exact e)) t (fun p hp => by
      by_cases ha : p.1 ∈ Y.map (·.1)
      · exact .inr ha
      · exact .inl (by rw [← h0 _ ha]; exact st.new p hp)) st.nd st.own i
  exact h Y Z ds R H0 h1 hz0 s H _ H _ (TX.refl H) ⟨⟨hsm, hy, hn, h1⟩, start_vr im⟩ ⟨fun G L σ H' r t st => fin r t st.hs .non, fun d L v H' r t st i => fin r t st i, fun _ _ _ _ z => z.elim, fun _ _ _ _ z => z.elim⟩

/-! ### calls -/
theorem en_sp {S : FS} {Z : Hl} {E : XK} (hS : S Z ds R) (hr : ∀ p ∈ Z, Lk K H0 L p.1 p.2) {σ : St} {H : Hp} (st : Stt K H0 G L σ H) {vs : List V} (im : ImL K H vs ds) {Q : VK}
    (q : ∀ v H' d N, R d N → Same H H' → (∀ p ∈ N, H p.1 = none) → (N.map (·.1)).Nodup → Hs K H' N → Im K H' v d → Q v H') : spF K S vs H Q E :=
  ⟨Z, ds, R, fun p hp => (hr p hp).rdo st.hs, im, hS, q⟩
theorem en_call {S : FS} {Z : Hl} {E : XK} {ta : TA} (ha : EvA K H0 G L ta ds) (hS : S Z ds R) (hr : ∀ p ∈ Z, Lk K H0 L p.1 p.2) : EvN K H0 G L (tCall (spF K S) [] E ta) R := fun σ H st Q q =>
  ha σ H st _ fun vs H1 e1 i1 => by
    show spF K S (vs ++ []) H1 Q E
    rw [List.append_nil]
    exact en_sp hS hr (st.same e1) i1 fun v H' d N r e hf hn ho i => q v H' d N r (e1.trans e) (fun p hp => e1.free (hf p hp)) hn ho i
theorem noZ {φ : Addr × O → Prop} : ∀ p ∈ ([] : Hl), φ p := fun _ h => nomatch h
theorem ev_call {S : FS} {E : XK} {ta : TA} (ha : EvA K H0 G L ta ds) (hS : S [] ds (Val d)) : EvP K H0 G L (tCall (spF K S) [] E ta) d := (en_call ha hS noZ).ev
theorem ev_callR {S : FS} {Z : Hl} {E : XK} {ta : TA} (ha : EvA K H0 G L ta ds) (hS : S Z ds (Val d)) (hr : ∀ p ∈ Z, Lk K H0 L p.1 p.2) : EvP K H0 G L (tCall (spF K S) [] E ta) d := (en_call ha hS hr).ev
/-- a call with new objects among the arguments -/
theorem en_callN {S : FS} {Z : Hl} {E : XK} {ta : TA} {PA : List D → Hl → Prop} (ha : EvAN K H0 G L ta PA) (hS : ∀ ds N, PA ds N → S (N ++ Z) ds R) (hr : ∀ p ∈ Z, Lk K H0 L p.1 p.2) : EvN K H0 G L (tCall (spF K S) [] E ta) R := fun σ H st Q q =>
  ha σ H st _ fun vs H1 ds N m e1 hf hn ho i1 => by
    show spF K S (vs ++ []) H1 Q E
    rw [List.append_nil]
    refine ⟨N ++ Z, ds, R, fun p hp => ?_, i1, hS ds N m, fun v H' d N' r e hf' hn' ho' i => q v H' d N' r (e1.trans e) (fun p hp => e1.free (hf' p hp)) hn' ho' i⟩
    rcases List.mem_append.mp hp with hp | hp
    · exact ho.rdo hp
    · exact ((hr p hp).rdo st.hs).same e1
/-- o.m(..) that writes nothing -/
theorem en_meth {S : FS} {Z : Hl} {E : XK} {C a dx : Addr} {m : Str} {fs : List (Str × D)} {ta : TA} (ho : EvP K H0 G L te (.ref a)) (hk : Lk K H0 L a (.ins C dx fs)) (hm : ∀ xs : List (Str × V), xs.map (·.1) = fs.map (·.1) → xs.lookup m = none) (ha : EvA K H0 G L ta ds) (hS : S Z (.ref a :: ds) R) (hr : ∀ p ∈ Z, Lk K H0 L p.1 p.2) :
    EvN K H0 G L (tMeth C m (spF K S) [] E te ta) R := fun σ H st Q q => ho σ H st _ fun v H1 e1 i1 => by
  cases i1
  obtain ⟨xs, hx, hp⟩ := hk.rdo (st.same e1).hs
  have hkeys : xs.map (·.1) = fs.map (·.1) := by
    clear hx hm hk
    induction hp with
    | nil => rfl
    | cons r t ih => rw [List.map_cons, List.map_cons, ih, r.1]
  refine ⟨a, dx, xs, rfl, hx, hm xs hkeys, ha σ H1 (st.same e1) _ fun vs H2 e2 i2 => ?_⟩
  show spF K S (.ref a :: (vs ++ [])) H2 Q E
  rw [List.append_nil]
  exact en_sp hS hr ((st.same e1).same e2) (.cons (.ref a) i2) fun v H' d N r e hf hn ho i => q v H' d N r ((e1.trans e2).trans e) (fun p hp => (e1.trans e2).free (hf p hp)) hn ho i
theorem lookN {m : Str} {fs : List (Str × D)} (h : fs.lookup m = none) : ∀ xs : List (Str × V), xs.map (·.1) = fs.map (·.1) → xs.lookup m = none := by
  intro xs
  induction xs generalizing fs with
  | nil => intro _; rfl
  | cons q r ih =>
    intro e
    cases fs with
    | nil => cases e
    | cons q' r' =>
      rw [List.map_cons, List.map_cons] at e
      obtain ⟨e1, e2⟩ := List.cons.inj e
      obtain ⟨k, v⟩ := q
      obtain ⟨k', v'⟩ := q'
      rw [List.lookup_cons] at h ⊢
      have e1' : k = k' := e1
      subst e1'
      cases hb : (m == k) with
      | true => rw [hb] at h; cases h
      | false => rw [hb] at h; exact ih h e2
/-- o.m(..) that writes o -/
theorem em_meth {S : FM} {Z : Hl} {E : XK} {C a dx : Addr} {m : Str} {fs : List (Str × D)} {k : Nat} {ta : TA} (ho : EvP K H0 G L te (.ref a)) (hk : L[k]? = some (a, .ins C dx fs)) (hm : fs.lookup m = none) (ha : EvA K H0 G L ta ds)
    (hS : S [(a, .ins C dx fs)] Z (.ref a :: ds) R) (hr : ∀ p ∈ Z, Lk K H0 L p.1 p.2 ∧ p.1 ≠ a) (hR : ∀ d N, R d N → ∃ o' N', N = (a, o') :: N') : EvM K H0 G L (tMeth C m (spM K S) [] E te ta) (fun d L' => ∃ o' N', R d ((a, o') :: N') ∧ L' = N' ++ L.set k (a, o')) := fun σ H st Q q => ho σ H st _ fun v H1 e1 i1 => by
  cases i1
  have hmem := List.mem_of_getElem? hk
  obtain ⟨xs, hx, hp⟩ := (st.same e1).hs.ins hmem
  have hkeys : xs.map (·.1) = fs.map (·.1) := by
    clear hx hm hk hS hmem
    induction hp with
    | nil => rfl
    | cons r t ih => rw [List.map_cons, List.map_cons, ih, r.1]
  refine ⟨a, dx, xs, rfl, hx, lookN hm xs hkeys, ha σ H1 (st.same e1) _ fun vs H2 e2 i2 => ?_⟩
  show spM K S (.ref a :: (vs ++ [])) H2 Q E
  rw [List.append_nil]
  have s2 := (st.same e1).same e2
  refine ⟨_, Z, _, R, fun p hp => by rw [List.mem_singleton.mp hp]; exact s2.hs.own _ hmem, by simp, fun p hp => (hr p hp).1.rdo s2.hs, fun p hp => by simpa using (hr p hp).2, .cons (.ref a) i2, hS, fun v H' d N r e t hf hn hoN i => ?_⟩
  obtain ⟨o', N', rfl⟩ := hR d N r
  have ne : ∀ b, b ≠ a → b ∉ List.map (fun x => x.fst) [(a, O.ins C dx fs)] := fun b hb => by simpa using hb
  have a0 : H0 a = none := st.hs.new _ hmem
  have hlt : k < L.length := (List.getElem?_eq_some_iff.mp hk).1
  have hNa : ∀ p ∈ N', p.1 ≠ a := fun p hp z => by
    have := (List.nodup_cons.mp (by simpa using hn : (a :: N'.map (·.1)).Nodup)).1
    exact this (z ▸ List.mem_map_of_mem hp)
  have hNf : ∀ p ∈ N', H2 p.1 = none := fun p hp => by
    rcases hf p (List.mem_cons_of_mem _ hp) with z | z
    · exact z
    · exact absurd (by simpa using z) (hNa p hp)
  have hml : (L.set k (a, o')).map (·.1) = L.map (·.1) := by
    rw [List.map_set]
    have : (L.map (·.1))[k]? = some a := by rw [List.getElem?_map, hk]; rfl
    obtain ⟨hlt, hv⟩ := List.getElem?_eq_some_iff.mp this
    rw [← hv]
    exact List.set_getElem_self hlt
  have hnd' := (List.nodup_cons.mp (by simpa using hn : (a :: N'.map (·.1)).Nodup)).2
  refine q v H' d _ ⟨o', N', r, rfl⟩ (((Same.tx e1).trans (Same.tx e2)).trans t) ⟨⟨fun b u hb => ?_, fun p hp => ?_, ?_, fun p hp => ?_⟩, s2.vr.tx t⟩ i
  · exact e b u (s2.hs.ext b u hb) (ne b (ne_of_none hb a0))
  · rcases List.mem_append.mp hp with hp | hp
    · exact hoN p (List.mem_cons_of_mem _ hp)
    · rcases List.mem_or_eq_of_mem_set hp with hp | hp
      · by_cases hpa : p.1 = a
        · have : p.1 ∈ (L.set k (a, o')).map (·.1) := List.mem_map_of_mem ‹p ∈ L.set k (a, o')›
          obtain ⟨j, hj⟩ := List.getElem?_of_mem ‹p ∈ L.set k (a, o')›
          by_cases hjk : k = j
          · subst hjk
            rw [List.getElem?_set_self hlt] at hj
            cases hj
            exact hoN _ List.mem_cons_self
          · exfalso
            have a1 : ((L.set k (a, o')).map (·.1))[j]? = some a := by rw [List.getElem?_map, hj]; exact congrArg some hpa
            have a2 : ((L.set k (a, o')).map (·.1))[k]? = some a := by rw [List.getElem?_map, List.getElem?_set_self hlt]; rfl
            rw [hml] at a1 a2
            exact hjk (ix_inj s2.hs.nd a2 a1)
        · obtain ⟨u, hu, ob⟩ := s2.hs.own p hp
          exact ⟨u, e _ _ hu (ne _ hpa), ob.tx t⟩
      · subst hp
        exact hoN _ List.mem_cons_self
  · rw [List.map_append, List.nodup_append, hml]
    refine ⟨hnd', s2.hs.nd, fun b hb c hc => ?_⟩
    obtain ⟨p, hp, rfl⟩ := List.mem_map.mp hb
    obtain ⟨w, hw, rfl⟩ := List.mem_map.mp hc
    obtain ⟨u, hu, _⟩ := s2.hs.own w hw
    exact fun z => ne_of_none hu (hNf p hp) z.symm
  · rcases List.mem_append.mp hp with hp | hp
    · exact s2.hs.ext.free (hNf p hp)
    · have : p.1 ∈ L.map (·.1) := by rw [← hml]; exact List.mem_map_of_mem hp
      obtain ⟨w, hw, ew⟩ := List.mem_map.mp this
      rw [← ew]
      exact s2.hs.new w hw
/-- C(..) -/
theorem en_make {S : FM} {Z : Hl} {E : XK} {C : Addr} {ta : TA} (ha : EvA K H0 G L ta ds) (hS : ∀ x dx, ∃ R, S [(x, .ins C dx [])] Z (.ref x :: ds) R ∧ ∀ d N, R d N → d = .non ∧ ∃ o' N', N = (x, o') :: N' ∧ P (.ref x) N) (hr : ∀ p ∈ Z, Lk K H0 L p.1 p.2) (hZl : ∀ p ∈ Z, ∀ es, p.2 ≠ .lst es) :
    EvN K H0 G L (tMake C (spM K S) [] E ta) P := fun σ H st Q q => ha σ H st _ fun vs H1 e1 i1 x dx hx hdx hne => by
  show spM K S (.ref x :: (vs ++ [])) _ _ E
  rw [List.append_nil]
  obtain ⟨R, hS, hR⟩ := hS x dx
  have m1 : Same H1 (upd H1 dx (.own x)) := Same.new hdx
  have hx1 : (upd H1 dx (.own x)) x = none := by rw [upd_ne (Ne.symm hne)]; exact hx
  have m2 : Same H1 (upd (upd H1 dx (.own x)) x (.ins C dx [])) := m1.trans (Same.new hx1)
  have s2 := (st.same e1).same m2
  refine ⟨_, Z, _, R, fun p hp => ?_, by simp, fun p hp => (hr p hp).rdo s2.hs, fun p hp => ?_, .cons (.ref x) (i1.tx (Same.tx m2)), hS, fun v H' d N r e t hf hn ho i => ?_⟩
  · rw [List.mem_singleton.mp hp]; exact ⟨_, upd_same, rfl, rfl, .nil⟩
  · intro hm
    have hpx : p.1 = x := by simpa using hm
    have r := (hr p hp).rdo (st.same e1).hs
    rw [hpx] at r
    cases hpo : p.2 with
    | lst es => exact absurd hpo (hZl p hp es)
    | dct es =>
      rw [hpo] at r
      obtain ⟨xs, hq, _⟩ := r
      rw [hx] at hq; cases hq
    | ins C dx es =>
      rw [hpo] at r
      obtain ⟨xs, hq, _⟩ := r
      rw [hx] at hq; cases hq
    | tb0 =>
      rw [hpo] at r
      have r : H1 x = some (.tbl #[]) := r
      rw [hx] at r; cases r
  · obtain ⟨rfl, o', N', rfl, hP⟩ := hR d N r
    cases i
    have ne : ∀ b, b ≠ x → b ∉ List.map (fun z => z.fst) [(x, O.ins C dx [])] := fun b hb => by simpa using hb
    refine ⟨rfl, q (.ref x) H' (.ref x) _ hP (fun b u hb => ?_) (fun p hp => ?_) hn ho (.ref x)⟩
    · have h1 := e1 b u hb
      exact e b u (m2 b u h1) (ne b (ne_of_none h1 hx))
    · rcases hf p hp with z | z
      · exact (e1.trans m2).free z
      · rw [show p.1 = x by simpa using z]; exact e1.free hx
end
end Fc

namespace Fc
open PySem L2
section
variable {K : PySem.W.Frag} {H0 H H' : Hp} {G G' : Ga} {L L' N : Hl} {σ : St} {te ta tb tc td ty tx tv : TE} {tt tu : TT} {ts us vs : TS} {d x y z : D} {ds : List D} {b c : Bool} {p : Po} {g : TG} {wi : TI} {P R : D → Hl → Prop}

/-! ### built-ins -/
theorem ev_cb {r : List V → Hp → VK → Prop} {ta : TA} (ha : EvA K H0 G L ta ds) (hr : RcP K H0 L r ds z) : EvP K H0 G L (tCB r ta) z := fun σ H st Q q =>
  ha σ H st _ fun vs H1 e1 i1 => hr H1 vs (st.same e1).hs i1 Q fun w H2 e2 i2 => q w H2 (e1.trans e2) i2
theorem en_cb {r : List V → Hp → VK → Prop} {ta : TA} (ha : EvA K H0 G L ta ds) (hr : RcN K H0 L r ds P) : EvN K H0 G L (tCB r ta) P := fun σ H st Q q =>
  ha σ H st _ fun vs H1 e1 i1 => hr H1 vs (st.same e1).hs i1 Q fun w H2 d N p e2 hf hn ho i2 => q w H2 d N p (e1.trans e2) (fun z hz => e1.free (hf z hz)) hn ho i2
/-- of a new list -/
theorem ev_cbN {r : List V → Hp → VK → Prop} (ha : EvN K H0 G L te (New1 (.lst ds))) (hr : ∀ a, RcP K H0 ((a, O.lst ds) :: L) r [.ref a] z) : EvP K H0 G L (tCB r (tCons te tNil)) z := fun σ H st Q q =>
  ha σ H st _ fun v H1 d N m e1 hf hn ho i1 => by
    obtain ⟨a, rfl, rfl⟩ := m
    exact hr a H1 [v] (st.add e1 hf hn ho).hs (.cons i1 .nil) Q fun w H2 e2 i2 => q w H2 (e1.trans e2) i2
def rLen (K : PySem.W.Frag) : List V → Hp → VK → Prop := fun xs H Q => ∃ p ys, xs = [.ref p] ∧ (SqL K H p ys ∨ SqT K H p ys) ∧ Q (.int ys.length) H
theorem rc_lenT : RcP K H0 L (rLen K) [.tup ds] (.int (ds.length : Int)) := fun H us s i Q q => by
  cases i with
  | cons i1 i =>
    cases i
    cases i1 with
    | tup hq il => exact ⟨_, _, rfl, .inr hq, by rw [il.length]; exact q _ H (Same.refl H) (.int _)⟩
theorem rc_lenL {a : Addr} (hk : Lk K H0 L a (.lst ds)) : RcP K H0 L (rLen K) [.ref a] (.int (ds.length : Int)) := fun H us s i Q q => by
  cases i with
  | cons i1 i =>
    cases i
    cases i1
    obtain ⟨xs, hx, il⟩ := hk.rdo s
    exact ⟨_, _, rfl, .inl hx, by rw [il.length]; exact q _ H (Same.refl H) (.int _)⟩
theorem ev_lenN (ha : EvN K H0 G L te (New1 (.lst ds))) : EvP K H0 G L (tCB (rLen K) (tCons te tNil)) (.int (ds.length : Int)) := ev_cbN ha fun a => rc_lenL (.inl List.mem_cons_self)
def rTupOf (K : PySem.W.Frag) : List V → Hp → VK → Prop := fun xs H Q => ∃ p ys, xs = [.ref p] ∧ ((SqL K H p ys ∧ ∀ l, H l = none → Q (.ref l) (upd H l (.tup ys))) ∨ (SqT K H p ys ∧ Q (.ref p) H))
theorem rc_tupL {a : Addr} (hk : Lk K H0 L a (.lst ds)) : RcP K H0 L (rTupOf K) [.ref a] (.tup ds) := fun H us s i Q q => by
  cases i with
  | cons i1 i =>
    cases i
    cases i1
    obtain ⟨xs, hx, il⟩ := hk.rdo s
    exact ⟨_, _, rfl, .inl ⟨hx, fun l hl => q _ _ (Same.new hl) (.tup (SqT.of upd_same) (il.tx (Same.tx (Same.new hl))))⟩⟩
theorem ev_tupN (ha : EvN K H0 G L te (New1 (.lst ds))) : EvP K H0 G L (tCB (rTupOf K) (tCons te tNil)) (.tup ds) := ev_cbN ha fun a => rc_tupL (.inl List.mem_cons_self)
theorem rc_all {a : Addr} {bs : List Bool} (hk : Lk K H0 L a (.lst (bs.map D.bl))) : RcP K H0 L (rAll K) [.ref a] (.bl (bs.all id)) := fun H us s i Q q => by
  cases i with
  | cons i1 i =>
    cases i
    cases i1
    obtain ⟨xs, hx, il⟩ := hk.rdo s
    have e := il.bls
    subst e
    exact ⟨_, _, rfl, hx, q _ H (Same.refl H) (.bl _)⟩
theorem rc_any {a : Addr} {bs : List Bool} (hk : Lk K H0 L a (.lst (bs.map D.bl))) : RcP K H0 L (rAny K) [.ref a] (.bl (bs.any id)) := fun H us s i Q q => by
  cases i with
  | cons i1 i =>
    cases i
    cases i1
    obtain ⟨xs, hx, il⟩ := hk.rdo s
    have e := il.bls
    subst e
    exact ⟨_, _, rfl, hx, q _ H (Same.refl H) (.bl _)⟩
theorem rc_sum {a : Addr} {ns : List Int} (hk : Lk K H0 L a (.lst (ns.map D.int))) : RcP K H0 L (rSum K) [.ref a] (.int ns.sum) := fun H us s i Q q => by
  cases i with
  | cons i1 i =>
    cases i
    cases i1
    obtain ⟨xs, hx, il⟩ := hk.rdo s
    have e := il.ints
    subst e
    exact ⟨_, _, rfl, hx, q _ H (Same.refl H) (.int _)⟩
theorem ev_allN {f : D → Bool} {v : D → D} (ha : EvN K H0 G L te (New1 (.lst (ds.map v)))) (hv : ∀ d ∈ ds, v d = .bl (f d)) : EvP K H0 G L (tCB (rAll K) (tCons te tNil)) (.bl (ds.all f)) := by
  have e : ds.map v = (ds.map f).map D.bl := by rw [List.map_map]; exact List.map_congr_left fun d hd => hv d hd
  rw [e] at ha
  have := ev_cbN ha fun a => rc_all (K := K) (H0 := H0) (L := (a, O.lst ((ds.map f).map D.bl)) :: L) (.inl List.mem_cons_self)
  rwa [List.all_map] at this
theorem ev_anyN {f : D → Bool} {v : D → D} (ha : EvN K H0 G L te (New1 (.lst (ds.map v)))) (hv : ∀ d ∈ ds, v d = .bl (f d)) : EvP K H0 G L (tCB (rAny K) (tCons te tNil)) (.bl (ds.any f)) := by
  have e : ds.map v = (ds.map f).map D.bl := by rw [List.map_map]; exact List.map_congr_left fun d hd => hv d hd
  rw [e] at ha
  have := ev_cbN ha fun a => rc_any (K := K) (H0 := H0) (L := (a, O.lst ((ds.map f).map D.bl)) :: L) (.inl List.mem_cons_self)
  rwa [List.any_map] at this
def rAbs : List V → Hp → VK → Prop := fun xs H Q => ∃ i, xs = [.int i] ∧ Q (.int (if i < 0 then -i else i)) H
theorem rc_abs {i : Int} : RcP K H0 L rAbs [.int i] (.int (if i < 0 then -i else i)) := fun H us s im Q q => by
  cases im with
  | cons i1 im => cases im; cases i1; exact ⟨i, rfl, q _ H (Same.refl H) (.int _)⟩
def rInt1 : List V → Hp → VK → Prop := fun xs H Q => (∃ i, xs = [.int i] ∧ Q (.int i) H) ∨ ∃ k, xs = [.bl k] ∧ Q (.int (if k then 1 else 0)) H
theorem rc_intB : RcP K H0 L rInt1 [.bl b] (.int (if b then 1 else 0)) := fun H us s im Q q => by
  cases im with
  | cons i1 im => cases im; cases i1; exact .inr ⟨b, rfl, q _ H (Same.refl H) (.int _)⟩
/-- isinstance -/
def tyn : D → Option String
  | .non => some "NoneType" | .bl _ => some "bool" | .int _ => some "int" | .str _ => some "str" | .tup _ => some "tuple" | _ => none
theorem tyX_im {v : V} {n : String} (h : tyn d = some n) (i : Im K H v d) : TyX K H v (.type n) := by
  cases i with
  | non => cases h; exact .base .non
  | bl b => cases h; exact .base (.bl b)
  | int b => cases h; exact .base (.int b)
  | str b => cases h; exact .base (.str b)
  | ty n => cases h
  | ref a => cases h
  | tupN a b => cases h
  | tup hq il =>
    cases h
    rcases hq with (hq | ⟨o, hq⟩) | ⟨o, its, n, hk, hc, _⟩
    · exact .base (.tup hq)
    · exact .fTuple hq
    · exact .kTuple hk hc
theorem rc_isi {n m : String} (h : tyn d = some n) (hk : PySem.W.kitOne K (.type n) (.type m) = some b) : RcP K H0 L (rIsi K) [d, .ty m] (.bl b) := fun H us s im Q q => by
  cases im with
  | cons i1 im =>
    cases im with
    | cons i2 im =>
      cases im; cases i2
      exact ⟨_, _, _, _, b, rfl, .ty m, tyX_im h i1, hk, q _ H (Same.refl H) (.bl b)⟩

/-! ### instances -/
theorem Paired.look {κ : Type} [BEq κ] [LawfulBEq κ] {f : κ} : ∀ {l : List (κ × V)} {m : List (κ × D)}, Paired (PrI K H) l m → ∀ {d : D}, m.lookup f = some d → ∃ v, l.lookup f = some v ∧ Im K H v d
  | _, _, .nil, _, h => nomatch h
  | (k, v) :: l, (k', d') :: m, .cons r t, d, h => by
    obtain ⟨r1, r2⟩ := r
    have r1 : k = k' := r1
    subst r1
    rw [List.lookup_cons] at h ⊢
    cases hb : (f == k) with
    | true => rw [hb] at h; cases h; exact ⟨v, rfl, r2⟩
    | false => rw [hb] at h; exact Paired.look t h
theorem ev_fld {a C dx : Addr} {fs : List (Str × D)} {f : Str} (ho : EvP K H0 G L te (.ref a)) (hk : Lk K H0 L a (.ins C dx fs)) (c : Cls K C) (n : NoAttr K C f) (h : fs.lookup f = some d) : EvP K H0 G L (tFld K te f) d := fun σ H st Q q => ho σ H st _ fun v H1 e1 i1 => by
  cases i1
  obtain ⟨xs, hx, hp⟩ := hk.rdo (st.same e1).hs
  obtain ⟨v, hv, im⟩ := Paired.look hp h
  exact ⟨a, C, dx, xs, v, rfl, hx, c, n, hv, q v H1 e1 im⟩
def putFD (f : Str) (v : D) : List (Str × D) → List (Str × D)
  | [] => [(f, v)]
  | (g, x) :: r => if g = f then (g, v) :: r else (g, x) :: putFD f v r
theorem putF_rel {f : Str} {u : V} (i : Im K H u d) : ∀ {l : List (Str × V)} {m : List (Str × D)}, Paired (PrI K H) l m → Paired (PrI K H) (putF f u l) (putFD f d m)
  | _, _, .nil => .cons ⟨rfl, i⟩ .nil
  | (k, v) :: l, (k', d') :: m, .cons r t => by
    obtain ⟨r1, r2⟩ := r
    have r1 : k = k' := r1
    subst r1
    unfold putF putFD
    by_cases e : k = f
    · rw [if_pos e, if_pos e]; exact .cons ⟨rfl, i⟩ t
    · rw [if_neg e, if_neg e]; exact .cons ⟨rfl, r2⟩ (putF_rel i t)
theorem pr_len {κ : Type} : ∀ {l : List (κ × V)} {m : List (κ × D)}, Paired (PrI K H) l m → l.length = m.length
  | _, _, .nil => rfl
  | _, _, .cons _ t => by rw [List.length_cons, List.length_cons, pr_len t]
theorem gq_fldN {a C dx : Addr} {fs : List (Str × D)} {f : Str} {k : Nat} (hv : EvN K H0 G L tv P) (ho : EvP K H0 G L te (.ref a)) (hk : L[k]? = some (a, .ins C dx fs)) (c : Cls K C) (n : NoAttr K C f) (hl : fs.length < 1000)
    (hn : ∀ d N, P d N → Go K H0 G (N ++ L.set k (a, .ins C dx (putFD f d fs))) us p) : Go K H0 G L (tSeq (sFld K te tv f) us) p := fun T σ H E t st s => hv σ H st _ fun u H1 d N m e1 hf hnd hoN i1 => ho σ H1 (st.same e1) _ fun w H2 e2 i2 => by
  cases i2
  have s2 := (st.same e1).same e2
  obtain ⟨xs, hx, hp⟩ := s2.hs.ins (List.mem_of_getElem? hk)
  have hlen : xs.length = fs.length := pr_len hp
  refine ⟨a, C, dx, xs, rfl, hx, c, n, by rw [hlen]; exact hl, ?_⟩
  have sadd := (st.add e1 hf hnd hoN).same e2
  have hk' : (N ++ L)[N.length + k]? = some (a, .ins C dx fs) := by rw [List.getElem?_append_right (by omega), Nat.add_sub_cancel_left]; exact hk
  have ob : Ob K H2 (.ins C dx (putF f u xs)) (.ins C dx (putFD f d fs)) := ⟨rfl, rfl, putF_rel (i1.tx (Same.tx e2)) hp⟩
  have sp := sadd.put hk' ob
  have px := (sadd.hs.put hk' ob).2
  rw [List.set_append_right _ _ (by omega), Nat.add_sub_cancel_left] at sp
  exact hn d N m T _ _ E (((t.trans (Same.tx e1)).trans (Same.tx e2)).trans px) sp s
theorem gq_fld {a C dx : Addr} {fs : List (Str × D)} {f : Str} {k : Nat} (hv : EvP K H0 G L tv d) (ho : EvP K H0 G L te (.ref a)) (hk : L[k]? = some (a, .ins C dx fs)) (c : Cls K C) (n : NoAttr K C f) (hl : fs.length < 1000)
    (hn : Go K H0 G (L.set k (a, .ins C dx (putFD f d fs))) us p) : Go K H0 G L (tSeq (sFld K te tv f) us) p :=
  gq_fldN (P := fun d' N => d' = d ∧ N = []) (hv.nw ⟨rfl, rfl⟩) ho hk c n hl fun d N e => by obtain ⟨rfl, rfl⟩ := e; exact hn
theorem go_last (h : Go K H0 G L (tSeq ts tNext) p) : Go K H0 G L ts p := h
theorem go_last1 (h : p.nx G L) : Go K H0 G L tNext p := go_next h
/-- a property -/
theorem en_prop {S : FS} {Z : Hl} {E : XK} {C a dx : Addr} {fs : List (Str × D)} (ho : EvP K H0 G L te (.ref a)) (hk : Lk K H0 L a (.ins C dx fs)) (hS : S Z [.ref a] R) (hr : ∀ p ∈ Z, Lk K H0 L p.1 p.2) : EvN K H0 G L (tProp C (spF K S) [] E te) R := fun σ H st Q q => ho σ H st _ fun v H1 e1 i1 => by
  cases i1
  obtain ⟨xs, hx, hp⟩ := hk.rdo (st.same e1).hs
  exact ⟨a, dx, xs, rfl, hx, en_sp hS hr (st.same e1) (.cons (.ref a) .nil) fun v H' d N r e hf hn hoN i => q v H' d N r (e1.trans e) (fun p hp => e1.free (hf p hp)) hn hoN i⟩

/-! ### dicts -/
def valD (kvs : List (Key × D)) (k : Key) : Option D := (kvs.find? fun kv => decide (kv.1 = k)).map (·.2)
def putD (kvs : List (Key × D)) (k : Key) (v : D) : List (Key × D) :=
  if (kvs.any fun kv => decide (kv.1 = k)) = true then kvs.map (fun kv => if kv.1 = k then (kv.1, v) else kv) else kvs ++ [(k, v)]
def dropD (kvs : List (Key × D)) (k : Key) : List (Key × D) := kvs.filter fun kv => decide (kv.1 ≠ k)
theorem pr_val {k : Key} : ∀ {l : List (Key × V)} {m : List (Key × D)}, Paired (PrI K H) l m → (valV l k = none ∧ valD m k = none) ∨ ∃ v d, valV l k = some v ∧ valD m k = some d ∧ Im K H v d
  | _, _, .nil => .inl ⟨rfl, rfl⟩
  | (k1, v) :: l, (k2, d) :: m, .cons r t => by
    obtain ⟨r1, r2⟩ := r
    have r1 : k1 = k2 := r1
    subst r1
    by_cases e : k1 = k
    · refine .inr ⟨v, d, valV_pos e, ?_, r2⟩
      simp [valD, List.find?_cons, e]
    · have h1 : valV ((k1, v) :: l) k = valV l k := valV_neg e
      have h2 : valD ((k1, d) :: m) k = valD m k := by simp [valD, List.find?_cons, e]
      rw [h1, h2]
      exact pr_val t
theorem pr_any {k : Key} : ∀ {l : List (Key × V)} {m : List (Key × D)}, Paired (PrI K H) l m → (l.any fun kv => decide (kv.1 = k)) = m.any fun kv => decide (kv.1 = k)
  | _, _, .nil => rfl
  | _, _, .cons r t => by rw [List.any_cons, List.any_cons, pr_any t, r.1]
theorem pr_map {k : Key} {u : V} (i : Im K H u d) : ∀ {l : List (Key × V)} {m : List (Key × D)}, Paired (PrI K H) l m → Paired (PrI K H) (l.map fun kv => if kv.1 = k then (kv.1, u) else kv) (m.map fun kv => if kv.1 = k then (kv.1, d) else kv)
  | _, _, .nil => .nil
  | (k1, v) :: l, (k2, d2) :: m, .cons r t => by
    obtain ⟨r1, r2⟩ := r
    have r1 : k1 = k2 := r1
    subst r1
    rw [List.map_cons, List.map_cons]
    refine .cons ?_ (pr_map i t)
    by_cases e : k1 = k
    · rw [if_pos e, if_pos e]; exact ⟨rfl, i⟩
    · rw [if_neg e, if_neg e]; exact ⟨rfl, r2⟩
theorem pr_append {κ : Type} : ∀ {l l2 : List (κ × V)} {m m2 : List (κ × D)}, Paired (PrI K H) l m → Paired (PrI K H) l2 m2 → Paired (PrI K H) (l ++ l2) (m ++ m2)
  | _, _, _, _, .nil, s => s
  | _, _, _, _, .cons r t, s => .cons r (pr_append t s)
theorem pr_put {k : Key} {u : V} (i : Im K H u d) {l : List (Key × V)} {m : List (Key × D)} (h : Paired (PrI K H) l m) : Paired (PrI K H) (putK l k u) (putD m k d) := by
  unfold putK putD
  rw [pr_any h]
  split
  · exact pr_map i h
  · exact pr_append h (.cons ⟨rfl, i⟩ .nil)
theorem pr_drop {k : Key} : ∀ {l : List (Key × V)} {m : List (Key × D)}, Paired (PrI K H) l m → Paired (PrI K H) (dropK l k) (dropD m k)
  | _, _, .nil => .nil
  | (k1, v) :: l, (k2, d2) :: m, .cons r t => by
    obtain ⟨r1, r2⟩ := r
    have r1 : k1 = k2 := r1
    subst r1
    have ih := pr_drop (k := k) t
    unfold dropK dropD at ih ⊢
    rw [List.filter_cons, List.filter_cons]
    by_cases e : k1 = k
    · simpa [e] using ih
    · simp only [e, ne_eq, not_false_eq_true, decide_true, if_true]
      exact .cons ⟨rfl, r2⟩ ih
theorem ev_get2 {a : Addr} {ks : List (Key × D)} {i : Int} {o : D} (hd : EvP K H0 G L td (.ref a)) (hk : Lk K H0 L a (.dct ks)) (hy : EvP K H0 G L ty (.int i)) (hx : EvP K H0 G L tx d) (ho : (valD ks (.inl i)).getD d = o) : EvP K H0 G L (tDGet2 td ty tx) o := fun σ H st Q q => hd σ H st _ fun v H1 e1 i1 => by
  cases i1
  obtain ⟨kv, hkv, hp⟩ := hk.rdo (st.same e1).hs
  refine ⟨a, rfl, .inl ⟨kv, .inl hkv⟩, hy σ H1 (st.same e1) _ fun w H2 e2 i2 => hx σ H2 ((st.same e1).same e2) _ fun u H3 e3 i3 => ?_⟩
  cases i2
  obtain ⟨kv3, hkv3, hp3⟩ := hk.rdo (((st.same e1).same e2).same e3).hs
  refine ⟨_, .inl ⟨kv3, .inl i, .inl hkv3, rfl, rfl⟩, ?_⟩
  have e := (e1.trans e2).trans e3
  rcases pr_val (k := .inl i) hp3 with ⟨n1, n2⟩ | ⟨v, d', n1, n2, im⟩
  · rw [n1]; rw [n2] at ho; subst ho; exact q u H3 e i3
  · rw [n1]; rw [n2] at ho; subst ho; exact q v H3 e im
theorem ev_din {a : Addr} {ks : List (Key × D)} {i : Int} (hd : EvP K H0 G L td (.ref a)) (hk : Lk K H0 L a (.dct ks)) (hy : EvP K H0 G L ty (.int i)) : EvP K H0 G L (tDIn ty td) (.bl (valD ks (.inl i)).isSome) := fun σ H st Q q => hy σ H st _ fun w H1 e1 i1 => hd σ H1 (st.same e1) _ fun v H2 e2 i2 => by
  cases i1; cases i2
  obtain ⟨kv, hkv, hp⟩ := hk.rdo ((st.same e1).same e2).hs
  refine ⟨a, _, rfl, .inl ⟨kv, .inl i, .inl hkv, rfl, rfl⟩, ?_⟩
  have : (valV kv (.inl i)).isSome = (valD ks (.inl i)).isSome := by
    rcases pr_val (k := .inl i) hp with ⟨n1, n2⟩ | ⟨v, d', n1, n2, im⟩ <;> rw [n1, n2] <;> rfl
  rw [this]
  exact q _ H2 (e1.trans e2) (.bl _)
/-- d[k] = v -/
theorem gq_dput {a : Addr} {ks : List (Key × D)} {i : Int} {k : Nat} (hv : EvP K H0 G L tv d) (hd : EvP K H0 G L td (.ref a)) (hy : EvP K H0 G L ty (.int i)) (hk : L[k]? = some (a, .dct ks)) (hz : ks.length < 100000)
    (hn : Go K H0 G (L.set k (a, .dct (putD ks (.inl i) d))) us p) : Go K H0 G L (tSeq (sDPut td ty tv) us) p := fun T σ H E t st s => hv σ H st _ fun u H1 e1 i1 => hd σ H1 (st.same e1) _ fun w H2 e2 i2 => hy σ H2 ((st.same e1).same e2) _ fun r H3 e3 i3 => by
  cases i2; cases i3
  have s3 := ((st.same e1).same e2).same e3
  obtain ⟨xs, hx, hp⟩ := s3.hs.dct (List.mem_of_getElem? hk)
  refine ⟨a, _, rfl, .inl ⟨xs, .inl i, hx, rfl, by rw [pr_len hp]; exact Nat.lt_of_lt_of_le hz (by decide), rfl⟩, ?_⟩
  have ob : Ob K H3 (.dK (putK xs (.inl i) u)) (.dct (putD ks (.inl i) d)) := pr_put ((i1.tx (Same.tx e2)).tx (Same.tx e3)) hp
  exact hn T _ _ E ((((t.trans (Same.tx e1)).trans (Same.tx e2)).trans (Same.tx e3)).trans (s3.hs.put hk ob).2) (s3.put hk ob) s
/-- d.pop(k), there -/
theorem em_dpop {a : Addr} {ks : List (Key × D)} {i : Int} {k : Nat} (hd : EvP K H0 G L td (.ref a)) (hy : EvP K H0 G L ty (.int i)) (hk : L[k]? = some (a, .dct ks)) (hv : valD ks (.inl i) = some d) :
    EvM K H0 G L (tDPop1 td ty) (fun r L' => r = d ∧ L' = L.set k (a, .dct (dropD ks (.inl i)))) := fun σ H st Q q => hd σ H st _ fun w H1 e1 i1 => by
  cases i1
  have hm := List.mem_of_getElem? hk
  obtain ⟨x1, hx1, _⟩ := (st.same e1).hs.dct hm
  refine ⟨a, rfl, .inl ⟨x1, .inl hx1⟩, hy σ H1 (st.same e1) _ fun u H2 e2 i2 => ?_⟩
  cases i2
  have s2 := (st.same e1).same e2
  obtain ⟨xs, hx, hp⟩ := s2.hs.dct hm
  rcases pr_val (k := .inl i) hp with ⟨n1, n2⟩ | ⟨v, d', n1, n2, im⟩
  · rw [n2] at hv; cases hv
  · rw [n2] at hv; cases hv
    have ob : Ob K H2 (.dK (dropK xs (.inl i))) (.dct (dropD ks (.inl i))) := pr_drop hp
    have px := (s2.hs.put hk ob).2
    exact ⟨xs, .inl i, v, hx, rfl, n1, q v _ d _ ⟨rfl, rfl⟩ (((Same.tx e1).trans (Same.tx e2)).trans px) (s2.put hk ob) (im.tx px)⟩
/-- dict(d) -/
def rDictOf : List V → Hp → VK → Prop := fun xs H Q => ∃ (a : Addr) (kvs : List (Key × V)), xs = [.ref a] ∧ Rd H a (.dK kvs) ∧ ∀ p, H p = none → Q (.ref p) (upd H p (.dK kvs))
theorem rc_dict {a : Addr} {ks : List (Key × D)} (hk : Lk K H0 L a (.dct ks)) : RcN K H0 L rDictOf [.ref a] (New1 (.dct ks)) := fun H us s i Q q => by
  cases i with
  | cons i1 i =>
    cases i; cases i1
    obtain ⟨xs, hx, hp⟩ := hk.rdo s
    refine ⟨a, xs, rfl, .inl hx, fun p hpn => ?_⟩
    obtain ⟨a1, a2, a3, a4⟩ := new1 (K := K) (u := .dK xs) (o := .dct ks) hpn hp
    exact q _ _ (.ref p) [(p, .dct ks)] ⟨p, rfl, rfl⟩ a1 a2 a3 a4 (.ref p)
end
end Fc

/-! zip and enumerate over lists and tuples in any mix. -/
namespace Fc
open PySem PySem.Spec PyProof.Rows L2
/-- a list (true) or a tuple (false) -/
def SqB (k : Bool) (K : PySem.W.Frag) (H : Hp) (a : Addr) (xs : List V) : Prop := match k with | true => SqL K H a xs | false => SqT K H a xs
def ItB (k : Bool) (h : Heap) (it a : Addr) (i : Nat) : Prop := match k with | true => h.IsListIter it a i | false => h.IsTupleIter it a i
def HoB (k : Bool) (h : Heap) (a : Addr) (us : Array Value) : Prop := match k with | true => h.IsList a us | false => h.IsTuple a us
def obB (k : Bool) (a : Addr) : Obj := match k with | true => { cls := .type "list_iterator", data := .fields #[.ref a, .int 0 0] } | false => { cls := .type "tuple_iterator", data := .fields #[.ref a, .int 0 0] }
section
variable {X : Cx} {pins : List (Addr × Obj)} {σ : L2.St} {H : Hp} {s : Shared} {a it : Addr} {xs ys : List V} {k : Bool}
theorem sqB_at (I : Inv X pins σ H s) (h : SqB k X.K H a xs) : ∃ its : List Value, Vals xs its ∧ HoB k s.heap a its.toArray := by
  cases k with
  | true => obtain ⟨its, r, p, _⟩ := I.list h; exact ⟨its, r, p.isList⟩
  | false => obtain ⟨its, r, p, _⟩ := I.tuple h; exact ⟨its, r, p⟩
theorem sqB_inj (I : Inv X pins σ H s) (h : SqB k X.K H a xs) (h' : SqB k X.K H a ys) : xs = ys := by
  cases k with
  | true => exact I.list_inj h h'
  | false => exact I.tuple_inj h h'
theorem itB_obj {h : Heap} {i : Nat} (e : ItB k h it a i) : ∃ o, h.get? it = some o ∧ ∀ v, o.data ≠ .cell v := by
  cases k with
  | true => obtain ⟨o, ho, _, hd⟩ := e; exact ⟨o, ho, fun v q => by rw [hd] at q; cases q⟩
  | false => obtain ⟨o, ho, _, hd⟩ := e; exact ⟨o, ho, fun v q => by rw [hd] at q; cases q⟩
theorem itB_at {h h' : Heap} {i : Nat} (e : ItB k h it a i) (q : ∀ o, h.get? it = some o → h'.get? it = some o) : ItB k h' it a i := by
  cases k with
  | true => exact Heap.IsListIter.at e q
  | false => exact Heap.IsTupleIter.at e q
theorem hoB_lt {h : Heap} {us : Array Value} (e : HoB k h a us) : a < h.objs.size := by
  cases k with
  | true => obtain ⟨o, ho, _⟩ := e; exact Heap.lt_size ho
  | false => obtain ⟨o, ho, _⟩ := e; exact Heap.lt_size ho
theorem drawB {prog : Program} {w : World} {A : Around} (hh : A.handled = none) (hne : a ≠ it) (us : Array Value) :
    Draws prog w A it [it, a] us.size (fun i v => us[i]? = some v) (fun i h => ItB k h it a i ∧ HoB k h a us) := by
  cases k with
  | true => exact Draws.list hh it a hne us
  | false => exact Draws.tuple hh it a hne us
theorem beginB (us : Array Value) : Begins (.ref a) (obB k a) (fun h => HoB k h a us) := by
  cases k with
  | true => exact begins_list a us
  | false => exact begins_tuple a us
theorem startB {h : Heap} (e : h.get? it = some (obB k a)) : ItB k h it a 0 := by
  cases k with
  | true => exact ⟨_, e, rfl, rfl⟩
  | false => exact ⟨_, e, rfl, rfl⟩
end
theorem handled_in1 {A : Around} (h : A.handled = none) : A.in1.handled = none := h

/-! ### zip -/
def ItZ2 (K : PySem.W.Frag) (k l : Bool) (a b : Addr) : It where
  go := fun i H => ∃ (xs ys : List V) (x y : V), SqB k K H a xs ∧ SqB l K H b ys ∧ xs[i]? = some x ∧ ys[i]? = some y
  yld := fun i H v H' => ∃ T x y, v = .ref T ∧ H T = none ∧ H' = upd H T (.tup [x, y]) ∧ (∀ xs, SqB k K H a xs → xs[i]? = some x) ∧ ∀ ys, SqB l K H b ys → ys[i]? = some y
  stop := fun i H => ∃ xs ys : List V, SqB k K H a xs ∧ SqB l K H b ys ∧ min xs.length ys.length = i
/-- the state of a zip at turn i -/
def stZ (k l : Bool) (a b z TI TO i1 i2 : Addr) (i : Nat) (h : Heap) : Prop := IsZip h z TI TO .none ∧ IsTupOf2 h TI (.ref i1) (.ref i2) ∧ (∃ x y, IsTupOf2 h TO x y) ∧ ItB k h i1 a i ∧ ItB l h i2 b i
theorem four_of {z TI TO i1 i2 c : Addr} (h : c ∈ [z, TO, i1, i2]) : c ∈ [z, TI, TO, i1, i2] := by
  simp only [List.mem_cons, List.not_mem_nil, or_false] at h ⊢
  rcases h with h | h | h | h
  · exact .inl h
  · exact .inr (.inr (.inl h))
  · exact .inr (.inr (.inr (.inl h)))
  · exact .inr (.inr (.inr (.inr h)))
theorem turn_Z2 {P : Program} {w : World} {K : PySem.W.Frag} {elts : List Expr} {kk : Nat} {tpos : Pos} {k l : Bool} {a b z TI TO i1 i2 : Addr} (S : ZipSep2 z TI TO i1 i2 [i1, a] [i2, b]) (ha : a ≠ i1) (hb : b ≠ i2) :
    Turn P w K (.Tuple elts kk tpos) (ItZ2 K k l a b) [z, TI, TO, i1, i2] z (stZ k l a b z TI TO i1 i2) where
  mem := List.mem_cons_self
  obj := fun i h st c hc => by
    obtain ⟨hz, hTI, ⟨x, y, hTO⟩, h1, h2⟩ := st
    simp only [List.mem_cons, List.not_mem_nil, or_false] at hc
    rcases hc with rfl | rfl | rfl | rfl | rfl
    · exact ⟨_, hz, fun v q => nomatch q⟩
    · exact ⟨_, hTI, fun v q => nomatch q⟩
    · exact ⟨_, hTO, fun v q => nomatch q⟩
    · exact itB_obj h1
    · exact itB_obj h2
  keep := fun i h h' st q => by
    obtain ⟨hz, hTI, ⟨x, y, hTO⟩, h1, h2⟩ := st
    exact ⟨q z (by simp) _ hz, q TI (by simp) _ hTI, ⟨x, y, q TO (by simp) _ hTO⟩, itB_at h1 (q i1 (by simp)), itB_at h2 (q i2 (by simp))⟩
  item := by
    intro X hP hw hK hc i pins s σ H E I hf st hg
    subst hP hw hK
    obtain ⟨hz, hTI, hTO, h1, h2⟩ := st
    obtain ⟨xs, ys, x, y, hqx, hqy, hx, hy⟩ := hg
    obtain ⟨us, rx, px⟩ := sqB_at I hqx
    obtain ⟨vs, ry, py⟩ := sqB_at I hqy
    obtain ⟨u, hu, ru⟩ := rx.get hx
    obtain ⟨v, hv, rv⟩ := ry.get hy
    have hh := handled_in1 (I.ok.hd hc)
    have GO := GoesN.zip2 (prog := X.prog) (w := X.w) (A := X.A) (elts := elts) (x1 := kk) (pos := tpos) S (drawB (k := k) hh ha us.toArray) (drawB (k := l) hh hb vs.toArray)
    have hi1 : i < us.toArray.size := by rw [List.size_toArray]; exact (List.getElem?_eq_some_iff.mp hu).1
    have hi2 : i < vs.toArray.size := by rw [List.size_toArray]; exact (List.getElem?_eq_some_iff.mp hv).1
    refine wpAny_mono (GO.goes i s (fun u' s2 => ∃ x' H', Inv X pins σ H' s2 ∧ RelV x' u' ∧ (ItZ2 X.K k l a b).yld i H x' H' ∧ stZ k l a b z TI TO i1 i2 (i + 1) s2.heap ∧ ∀ c ∈ [z, TI, TO, i1, i2], H' c = none) E (by omega) ⟨hz, hTI, hTO, ⟨h1, px⟩, ⟨h2, py⟩⟩ fun v' h' tk hY st' hk htk => ?_) (fun r s1 q => q) fun _ _ q => q
    obtain ⟨T, u2, v2, rfl, hT, e1, e2, hTt⟩ := hY
    have e1' : u2 = u := by rw [List.getElem?_toArray, hu] at e1; exact (Option.some.inj e1).symm
    have e2' : v2 = v := by rw [List.getElem?_toArray, hv] at e2; exact (Option.some.inj e2).symm
    subst e1' e2'
    have new : ObjOk X.prog X.w (upd H T (.tup [x, y])) h' T (.tup [x, y]) := ⟨by show 2 ≤ sizeLine; decide, [u2, v2], .cons ru (.cons rv .nil), hTt⟩
    have hn : H T = none := I.hok.fresh hT
    have hlt : ∀ c ∈ [z, TI, TO, i1, i2], c < s.heap.objs.size := fun c hcm => by
      simp only [List.mem_cons, List.not_mem_nil, or_false] at hcm
      rcases hcm with rfl | rfl | rfl | rfl | rfl
      · exact Heap.lt_size hz
      · exact Heap.lt_size hTI
      · obtain ⟨_, _, q⟩ := hTO; exact Heap.lt_size q
      · obtain ⟨_, q, _⟩ := itB_obj h1; exact Heap.lt_size q
      · obtain ⟨_, q, _⟩ := itB_obj h2; exact Heap.lt_size q
    refine ⟨.ref T, _, I.turnedNew (t' := tk) (ch := [z, TO, i1, i2]) hk (fun c hcm => hf c (four_of hcm)) hT new, rfl, ⟨T, x, y, rfl, hn, rfl, fun zs hzs => by rw [sqB_inj I hzs hqx]; exact hx, fun zs hzs => by rw [sqB_inj I hzs hqy]; exact hy⟩, ⟨st'.1, st'.2.1, st'.2.2.1, st'.2.2.2.1.1, st'.2.2.2.2.1⟩, fun c hcm => ?_⟩
    rw [upd_ne (Nat.ne_of_lt (Nat.lt_of_lt_of_le (hlt c hcm) hT))]
    exact (hf c hcm).1
  done := by
    intro X hP hw hK hc i pins s σ H E I hf st hg
    subst hP hw hK
    obtain ⟨hz, hTI, hTO, h1, h2⟩ := st
    obtain ⟨xs, ys, hqx, hqy, hend⟩ := hg
    obtain ⟨us, rx, px⟩ := sqB_at I hqx
    obtain ⟨vs, ry, py⟩ := sqB_at I hqy
    have hh := handled_in1 (I.ok.hd hc)
    have GO := GoesN.zip2 (prog := X.prog) (w := X.w) (A := X.A) (elts := elts) (x1 := kk) (pos := tpos) S (drawB (k := k) hh ha us.toArray) (drawB (k := l) hh hb vs.toArray)
    have hn : min us.toArray.size vs.toArray.size = i := by rw [List.size_toArray, List.size_toArray, ← rx.length, ← ry.length]; exact hend
    refine GO.stops s (fun s1 => Inv X pins σ H s1) E (by rw [hn]; exact ⟨hz, hTI, hTO, ⟨h1, px⟩, ⟨h2, py⟩⟩) fun h' tk hk _ => ?_
    exact I.turnedL (t' := tk) (ch := [z, TO, i1, i2]) hk fun c hcm => hf c (four_of hcm)
  self := fun A i s Q E st h => wpAny_pyIter_zip st.1 h

def iZip2 (K : PySem.W.Frag) (ta : TA) : TI := fun σ H R => ta σ H fun vs H1 => ∃ k l a b xs ys, vs = [.ref a, .ref b] ∧ SqB k K H1 a xs ∧ SqB l K H1 b ys ∧ R (ItZ2 K k l a b) H1
theorem pi_zip2 {X : Cx} {e e2 : Expr} {ta : TA} {p pos tpos : Pos} {elts : List Expr} {kk : Nat} (hg : Gl X "zip") (hm : X.mg "zip" = none) (ha : PA X [e, e2] ta)
    (hs : starEach [e, e2] X.env = (false, eval e X.env) :: starEach [e2] X.env := by rfl) (hpl : (backTo pos (starEach [e2] X.env)).any (·.1) = false := by rfl) :
    PI X (.Tuple elts kk tpos) (.Call (.Name "zip" p) [e, e2] [] pos) (iZip2 X.K ta) := by
  refine ⟨fun pins s σ H R I h => ?_⟩
  refine Call_ (ld_blt I hg hm PyProof.Rows.boot_zip (PyProof.Rows.callWith_type1 (thn (ha.run pos pins s σ H _ I h) fun us s1 ⟨vs, H1, I1, r1, q1⟩ => ?_) hs hpl))
  obtain ⟨k, l, a, b, xs, ys, rfl, hqx, hqy, q⟩ := q1
  obtain ⟨u1, u2, rfl, ru1, ru2⟩ := vals2 r1
  cases ru1
  cases ru2
  obtain ⟨its, rv, p1⟩ := sqB_at I1 hqx
  obtain ⟨its2, rv2, p2⟩ := sqB_at I1 hqy
  have l1 := hoB_lt p1
  have l2 := hoB_lt p2
  refine zip_begins2 (beginB (k := k) its.toArray) (beginB (k := l) its2.toArray) p1 p2 fun h' hz hTI hTO h1 h2 hsz hk => wpAny_pyIter_zip hz ?_
  have I2 : Inv X pins σ H1 { s1 with heap := h' } := I1.kept (t' := s1.toks) hk
  generalize hn : s1.heap.objs.size = n at *
  have na : ∀ j, (n : Nat) + j ≠ a := fun j => Nat.ne_of_gt (Nat.lt_of_lt_of_le l1 (Nat.le_add_right _ _))
  have nb : ∀ j, (n : Nat) + j ≠ b := fun j => Nat.ne_of_gt (Nat.lt_of_lt_of_le l2 (Nat.le_add_right _ _))
  have ne : ∀ i j, i ≠ j → (n : Nat) + i ≠ n + j := fun i j h z => by omega
  have na0 : (n : Nat) ≠ a := Nat.ne_of_gt l1
  have nb0 : (n : Nat) ≠ b := Nat.ne_of_gt l2
  have ne0 : ∀ j, 0 < j → (n : Nat) + j ≠ n := fun j h z => by omega
  have S : ZipSep2 (n + 4) (n + 2) (n + 3) n (n + 1) [n, a] [n + 1, b] := by
    refine ⟨ne 2 4 (by decide), ne 3 4 (by decide), ne 2 3 (by decide), ne0 2 (by decide), List.mem_cons_self, ?_, ?_, ne 2 1 (by decide), List.mem_cons_self, ?_, ?_, ?_, ?_⟩
    · simp only [List.mem_cons, List.not_mem_nil, or_false, not_or]; exact ⟨ne0 4 (by decide), na 4⟩
    · simp only [List.mem_cons, List.not_mem_nil, or_false, not_or]; exact ⟨ne0 3 (by decide), na 3⟩
    · simp only [List.mem_cons, List.not_mem_nil, or_false, not_or]; exact ⟨ne 4 1 (by decide), nb 4⟩
    · simp only [List.mem_cons, List.not_mem_nil, or_false, not_or]; exact ⟨ne 3 1 (by decide), nb 3⟩
    · simp only [List.mem_cons, List.not_mem_nil, or_false, not_or]; exact ⟨(ne0 1 (by decide)).symm, nb0⟩
    · simp only [List.mem_cons, List.not_mem_nil, or_false, not_or]; exact ⟨ne0 1 (by decide), na 1⟩
  refine ⟨n + 4, [n + 4, n + 2, n + 3, n, n + 1], _, _, H1, rfl, I2, turn_Z2 S na0.symm (nb 1).symm, ⟨hz, hTI, ⟨_, _, hTO⟩, startB h1, startB h2⟩, fun c hcm => ?_, q⟩
  have hle : s1.heap.objs.size ≤ c := by
    rw [hn]
    simp only [List.mem_cons, List.not_mem_nil, or_false] at hcm
    rcases hcm with rfl | rfl | rfl | rfl | rfl
    · exact Nat.le_add_right _ _
    · exact Nat.le_add_right _ _
    · exact Nat.le_add_right _ _
    · exact Nat.le_refl _
    · exact Nat.le_add_right _ _
  exact I1.fpOk hle (I1.hok.fresh hle)
end Fc

namespace Fc
open PySem PySem.Spec PyProof.Rows L2
/-! ### enumerate -/
def ItE2 (K : PySem.W.Frag) (k : Bool) (a : Addr) : It where
  go := fun i H => ∃ (xs : List V) (x : V), SqB k K H a xs ∧ xs[i]? = some x
  yld := fun i H v H' => ∃ T x, v = .ref T ∧ H T = none ∧ H' = upd H T (.tup [.int (i : Int), x]) ∧ ∀ xs, SqB k K H a xs → xs[i]? = some x
  stop := fun i H => ∃ xs : List V, SqB k K H a xs ∧ xs.length = i
def stE (k : Bool) (a e it : Addr) (i : Nat) (h : Heap) : Prop := (∃ old, IsEnum h e it ((0 : Int) + (i : Int)) old) ∧ ItB k h it a i
theorem turn_E2 {P : Program} {w : World} {K : PySem.W.Frag} {elts : List Expr} {kk : Nat} {tpos : Pos} {k : Bool} {a e it : Addr} (hei : e ≠ it) (hea : e ≠ a) (hai : a ≠ it) :
    Turn P w K (.Tuple elts kk tpos) (ItE2 K k a) [e, it] e (stE k a e it) where
  mem := List.mem_cons_self
  obj := fun i h st c hc => by
    obtain ⟨⟨old, he⟩, hi⟩ := st
    simp only [List.mem_cons, List.not_mem_nil, or_false] at hc
    rcases hc with rfl | rfl
    · exact ⟨_, he, fun v q => nomatch q⟩
    · exact itB_obj hi
  keep := fun i h h' st q => let ⟨⟨old, he⟩, hi⟩ := st; ⟨⟨old, q e (by simp) _ he⟩, itB_at hi (q it (by simp))⟩
  item := by
    intro X hP hw hK hc i pins s σ H E I hf st hg
    subst hP hw hK
    obtain ⟨he, h1⟩ := st
    obtain ⟨xs, x, hqx, hx⟩ := hg
    obtain ⟨us, rx, px⟩ := sqB_at I hqx
    obtain ⟨u, hu, ru⟩ := rx.get hx
    have hh := handled_in1 (I.ok.hd hc)
    have GO := GoesN.enumFrom (prog := X.prog) (w := X.w) (A := X.A) (elts := elts) (x1 := kk) (pos := tpos) 0 (drawB (k := k) hh hai us.toArray) e hei (by simp only [List.mem_cons, List.not_mem_nil, or_false, not_or]; exact ⟨hei, hea⟩) List.mem_cons_self
    have hi1 : i < us.toArray.size := by rw [List.size_toArray]; exact (List.getElem?_eq_some_iff.mp hu).1
    refine wpAny_mono (GO.goes i s (fun u' s2 => ∃ x' H', Inv X pins σ H' s2 ∧ RelV x' u' ∧ (ItE2 X.K k a).yld i H x' H' ∧ stE k a e it (i + 1) s2.heap ∧ ∀ c ∈ [e, it], H' c = none) E hi1 ⟨he, h1, px⟩ fun v' h' tk hY st' hk htk => ?_) (fun r s1 q => q) fun _ _ q => q
    obtain ⟨T, t, u2, rfl, hT, e1, hTt⟩ := hY
    have e1' : u2 = u := by rw [List.getElem?_toArray, hu] at e1; exact (Option.some.inj e1).symm
    subst e1'
    have hz : (0 : Int) + (i : Int) = (i : Int) := Int.zero_add _
    rw [hz] at hTt
    have new : ObjOk X.prog X.w (upd H T (.tup [.int (i : Int), x])) h' T (.tup [.int (i : Int), x]) := ⟨by show 2 ≤ sizeLine; decide, [.int i t, u2], .cons ⟨_, rfl⟩ (.cons ru .nil), hTt⟩
    have hn : H T = none := I.hok.fresh hT
    have hlt : ∀ c ∈ [e, it], c < s.heap.objs.size := fun c hcm => by
      simp only [List.mem_cons, List.not_mem_nil, or_false] at hcm
      rcases hcm with rfl | rfl
      · obtain ⟨_, q⟩ := he; exact Heap.lt_size q
      · obtain ⟨_, q, _⟩ := itB_obj h1; exact Heap.lt_size q
    refine ⟨.ref T, _, I.turnedNew (t' := tk) (ch := [e, it]) hk hf hT new, rfl, ⟨T, x, rfl, hn, rfl, fun zs hzs => by rw [sqB_inj I hzs hqx]; exact hx⟩, ⟨st'.1, st'.2.1⟩, fun c hcm => ?_⟩
    rw [upd_ne (Nat.ne_of_lt (Nat.lt_of_lt_of_le (hlt c hcm) hT))]
    exact (hf c hcm).1
  done := by
    intro X hP hw hK hc i pins s σ H E I hf st hg
    subst hP hw hK
    obtain ⟨he, h1⟩ := st
    obtain ⟨xs, hqx, hend⟩ := hg
    obtain ⟨us, rx, px⟩ := sqB_at I hqx
    have hh := handled_in1 (I.ok.hd hc)
    have GO := GoesN.enumFrom (prog := X.prog) (w := X.w) (A := X.A) (elts := elts) (x1 := kk) (pos := tpos) 0 (drawB (k := k) hh hai us.toArray) e hei (by simp only [List.mem_cons, List.not_mem_nil, or_false, not_or]; exact ⟨hei, hea⟩) List.mem_cons_self
    have hn : us.toArray.size = i := by rw [List.size_toArray, ← rx.length]; exact hend
    refine GO.stops s (fun s1 => Inv X pins σ H s1) E (by rw [hn]; exact ⟨he, h1, px⟩) fun h' tk hk _ => ?_
    exact I.turnedL (t' := tk) (ch := [e, it]) hk hf
  self := fun A i s Q E st h => let ⟨⟨_, he⟩, _⟩ := st; wpAny_pyIter_enum he h
def iEnum2 (K : PySem.W.Frag) (ta : TA) : TI := fun σ H R => ta σ H fun vs H1 => ∃ k a xs, vs = [.ref a] ∧ SqB k K H1 a xs ∧ R (ItE2 K k a) H1
/-- enumerate(v) for whatever iter(v) makes -/
theorem meets_enum1 {v : Value} {ob : Obj} {W : Heap → Prop} (B : Begins v ob W) :
    Meets (Builtin.«enumerate.__new__» ⟨[.type "enumerate", v], []⟩) (fun _ R s1 => W s1.heap ∧
      R (.ok (.ret (.ref (s1.heap.push ob).objs.size))) { s1 with heap := (s1.heap.push ob).push { cls := .type "enumerate", data := .fields #[.none, .bool false, .ref s1.heap.objs.size, rawInt 0, .none, .none] } }) :=
  .of_wp fun prog w A R s1 hy => by
    obtain ⟨hp, gs, dr, tk, os⟩ := s1
    obtain ⟨hw, hy⟩ := hy
    have hsub := sub_enumerate
    have it1 : ∀ {A' : Around} {E' : Value → Shared → Prop} {Q : Value → Shared → Prop}, Q (.ref hp.objs.size) ⟨hp.push ob, gs, dr, tk, os⟩ → wpAny (model prog w) A' (pyIter v) Q E' ⟨hp, gs, dr, tk, os⟩ :=
      fun qq => B.iter prog w _ _ ⟨hp, gs, dr, tk, os⟩ _ hw qq
    wp_walk using it1
    refine wpAny_stack_any fun _ => wpAny_pure ?_
    split
    · rename_i c _ _ _ _ _
      cases (c == Value.type "enumerate")
      · wp_walk using it1
        exact ⟨_, rfl, hy⟩
      · wp_walk using it1
        exact ⟨_, rfl, hy⟩
    · wp_walk using it1
      exact ⟨_, rfl, hy⟩
theorem enumB_begins {prog : Program} {w : World} {A : Around} {E : Value → Shared → Prop} {s : Shared} {k : Bool} {a : Addr} {us : Array Value} {Q : Value → Shared → Prop} (p : HoB k s.heap a us)
    (h : ∀ h', IsEnum h' (s.heap.objs.size + 1) s.heap.objs.size 0 .none → h'.get? s.heap.objs.size = some (obB k a) → (∀ b o, s.heap.get? b = some o → h'.get? b = some o) → Q (.ref (s.heap.objs.size + 1)) { s with heap := h' }) :
    wpAny (model prog w) A (call (.type "enumerate") [.ref a]) Q E s := by
  have B := beginB (k := k) (a := a) us
  refine callType_new F.called_enumerate (by decide) (F.typeCall_enumerate_1 _) (F.newCall_enumerate_1 _) (fun obj => F.args_object_init_2 obj _) F.entry_enumerate_new (meets_enum1 B) ⟨p, ?_⟩
  have sz : (s.heap.push (obB k a)).objs.size = s.heap.objs.size + 1 := Heap.size_push ..
  have ie : IsEnum ((s.heap.push (obB k a)).push { cls := .type "enumerate", data := .fields #[.none, .bool false, .ref s.heap.objs.size, rawInt 0, .none, .none] }) (s.heap.objs.size + 1) s.heap.objs.size 0 .none := by
    have q := Heap.get?_push_size (s.heap.push (obB k a)) (o := { cls := .type "enumerate", data := .fields #[.none, .bool false, .ref s.heap.objs.size, rawInt 0, .none, .none] }) rfl
    rwa [sz] at q
  show _ ∧ _
  rw [sz]
  exact ⟨⟨_, ie, rfl⟩, h _ ie (Heap.get?_push_of_some _ (Heap.get?_push_size _ B.free)) fun b o x => Heap.get?_push_of_some _ (Heap.get?_push_of_some _ x)⟩
theorem pi_enum2 {X : Cx} {e : Expr} {ta : TA} {p pos tpos : Pos} {elts : List Expr} {kk : Nat} (hg : Gl X "enumerate") (hm : X.mg "enumerate" = none) (ha : PA X [e] ta) (hs : starEach [e] X.env = [(false, eval e X.env)] := by rfl) :
    PI X (.Tuple elts kk tpos) (.Call (.Name "enumerate" p) [e] [] pos) (iEnum2 X.K ta) := by
  refine ⟨fun pins s σ H R I h => ?_⟩
  refine Call_ (ld_blt I hg hm boot_enumerate (PyProof.Rows.callWith_type1 (thn (ha.run pos pins s σ H _ I h) fun us s1 ⟨vs, H1, I1, r1, q1⟩ => ?_) hs rfl))
  obtain ⟨k, a, xs, rfl, hqx, q⟩ := q1
  obtain ⟨u1, rfl, ru1⟩ := vals1 r1
  cases ru1
  obtain ⟨its, rv, p1⟩ := sqB_at I1 hqx
  have l1 := hoB_lt p1
  refine enumB_begins p1 fun h' he h1 hk => wpAny_pyIter_enum he ?_
  have I2 : Inv X pins σ H1 { s1 with heap := h' } := I1.kept (t' := s1.toks) hk
  generalize hn : s1.heap.objs.size = n at *
  have na : (n : Nat) + 1 ≠ a := Nat.ne_of_gt (Nat.lt_of_lt_of_le l1 (Nat.le_add_right _ _))
  refine ⟨n + 1, [n + 1, n], _, _, H1, rfl, I2, turn_E2 (Nat.succ_ne_self _) na (Nat.ne_of_lt l1), ⟨⟨.none, he⟩, startB h1⟩, fun c hcm => ?_, q⟩
  have hle : s1.heap.objs.size ≤ c := by
    rw [hn]
    simp only [List.mem_cons, List.not_mem_nil, or_false] at hcm
    rcases hcm with rfl | rfl
    · exact Nat.le_add_right _ _
    · exact Nat.le_refl _
  exact I1.fpOk hle (I1.hok.fresh hle)
end Fc

namespace Fc
open PySem L2
section
variable {K : PySem.W.Frag} {H0 H H' : Hp} {G G' : Ga} {L L' N : Hl} {σ : St} {te ta tb tc td ty tx tv tk : TE} {tt tu : TT} {ts us vs : TS} {d x y z : D} {ds es : List D} {b c : Bool} {p : Po} {g : TG} {wi : TI} {P R : D → Hl → Prop}

/-! ### zip, enumerate -/
/-- data that is walked: a tuple, or a list at an address -/
inductive Sq (K : PySem.W.Frag) (H0 : Hp) (L : Hl) : D → List D → Prop where
  | tup (ds : List D) : Sq K H0 L (.tup ds) ds
  | lst {a : Addr} {ds : List D} (h : Lk K H0 L a (.lst ds)) : Sq K H0 L (.ref a) ds
/-- it still stands -/
def SqW (K : PySem.W.Frag) (H0 : Hp) (d : D) (ds : List D) (L : Hl) : Prop := match d with
  | .ref a => Lk K H0 L a (.lst ds)
  | _ => True
theorem Sq.w (h : Sq K H0 L d ds) : SqW K H0 d ds L := by
  cases h with
  | tup => trivial
  | lst h => exact h
/-- at a heap -/
theorem sq_at {v : V} (h : Sq K H0 L d ds) (s : HS K H0 L H) (i : Im K H v d) : ∃ (k : Bool) (a : Addr) (xs : List V), v = .ref a ∧ SqB k K H a xs ∧ ImL K H xs ds ∧
    ∀ L' H', TX H H' → HS K H0 L' H' → SqW K H0 d ds L' → ∃ xs', SqB k K H' a xs' ∧ ImL K H' xs' ds := by
  cases h with
  | tup =>
    cases i with
    | tup hq il => exact ⟨false, _, _, rfl, hq, il, fun L' H' t _ _ => ⟨_, SqT.tx t hq, il.tx t⟩⟩
  | lst h =>
    cases i
    obtain ⟨xs, hx, il⟩ := h.rdo s
    exact ⟨true, _, _, rfl, hx, il, fun L' H' t s' w => by
      obtain ⟨xs', hx', il'⟩ := Lk.rdo (show Lk K H0 L' _ (.lst ds) from w) s'
      exact ⟨xs', hx', il'⟩⟩
def prs (ds es : List D) : List D := (ds.zip es).map fun q => .tup [q.1, q.2]
theorem prs_len : (prs ds es).length = min ds.length es.length := by unfold prs; rw [List.length_map, List.length_zip]
theorem prs_get {i : Nat} (h1 : ds[i]? = some x) (h2 : es[i]? = some y) : (prs ds es)[i]? = some (.tup [x, y]) := by
  unfold prs
  rw [List.getElem?_map, (List.getElem?_zip_eq_some (z := (x, y))).mpr ⟨h1, h2⟩]
  rfl
def nums (ds : List D) : List D := ds.zipIdx.map fun q => .tup [.int (q.2 : Int), q.1]
theorem nums_len : (nums ds).length = ds.length := by unfold nums; rw [List.length_map, List.length_zipIdx]
theorem nums_get {i : Nat} (h : ds[i]? = some x) : (nums ds)[i]? = some (.tup [.int (i : Int), x]) := by
  unfold nums
  rw [List.getElem?_map, List.getElem?_zipIdx, h]
  simp
theorem tup2 {T : Addr} {u v : V} (hT : H T = none) (i1 : Im K H u x) (i2 : Im K H v y) : Same H (upd H T (.tup [u, v])) ∧ Im K (upd H T (.tup [u, v])) (.ref T) (.tup [x, y]) :=
  ⟨Same.new hT, .tup (SqT.of upd_same) (.cons (i1.tx (Same.tx (Same.new hT))) (.cons (i2.tx (Same.tx (Same.new hT))) .nil))⟩
theorem ei_zip {ta : TA} (h : EvA K H0 G L ta [x, y]) (h1 : Sq K H0 L x ds) (h2 : Sq K H0 L y es) : EvI K H0 G L (iZip2 K ta) (It0 (prs ds es) fun L => SqW K H0 x ds L ∧ SqW K H0 y es L) := fun σ H st R q => h σ H st _ fun vs H' e i => by
  cases i with
  | cons i1 i =>
    cases i with
    | cons i2 i =>
      cases i
      have s1 := (st.same e).hs
      obtain ⟨k, a, xs, rfl, hx, ilx, sx⟩ := sq_at h1 s1 i1
      obtain ⟨l, b, ys, rfl, hy, ily, sy⟩ := sq_at h2 s1 i2
      refine ⟨k, l, a, b, xs, ys, rfl, hx, hy, q _ H' _ _ [] ⟨rfl, rfl, rfl⟩ e (fun _ z => nomatch z) .nil Hs.nil ⟨fun i L H t s w hi => ?_, fun L H t s w => ?_, fun i L H x H' t s w hi y => ?_⟩⟩
      · rw [prs_len] at hi
        obtain ⟨xs', hx', il'⟩ := sx L H t s w.1
        obtain ⟨ys', hy', jl'⟩ := sy L H t s w.2
        have a1 : i < xs'.length := by rw [il'.length]; omega
        have a2 : i < ys'.length := by rw [jl'.length]; omega
        exact ⟨xs', ys', _, _, hx', hy', List.getElem?_eq_getElem a1, List.getElem?_eq_getElem a2⟩
      · obtain ⟨xs', hx', il'⟩ := sx L H t s w.1
        obtain ⟨ys', hy', jl'⟩ := sy L H t s w.2
        exact ⟨xs', ys', hx', hy', by rw [prs_len, il'.length, jl'.length]⟩
      · obtain ⟨xs', hx', il'⟩ := sx L H t s w.1
        obtain ⟨ys', hy', jl'⟩ := sy L H t s w.2
        obtain ⟨T, u, v, rfl, hT, rfl, f1, f2⟩ := y
        obtain ⟨d1, hd1, m1⟩ := il'.get (f1 xs' hx')
        obtain ⟨d2, hd2, m2⟩ := jl'.get (f2 ys' hy')
        exact ⟨(tup2 hT m1 m2).1, _, prs_get hd1 hd2, (tup2 hT m1 m2).2⟩
theorem ei_enum {ta : TA} (h : EvA K H0 G L ta [x]) (h1 : Sq K H0 L x ds) : EvI K H0 G L (iEnum2 K ta) (It0 (nums ds) fun L => SqW K H0 x ds L) := fun σ H st R q => h σ H st _ fun vs H' e i => by
  cases i with
  | cons i1 i =>
    cases i
    have s1 := (st.same e).hs
    obtain ⟨k, a, xs, rfl, hx, ilx, sx⟩ := sq_at h1 s1 i1
    refine ⟨k, a, xs, rfl, hx, q _ H' _ _ [] ⟨rfl, rfl, rfl⟩ e (fun _ z => nomatch z) .nil Hs.nil ⟨fun i L H t s w hi => ?_, fun L H t s w => ?_, fun i L H x H' t s w hi y => ?_⟩⟩
    · rw [nums_len] at hi
      obtain ⟨xs', hx', il'⟩ := sx L H t s w
      have a1 : i < xs'.length := by rw [il'.length]; omega
      exact ⟨xs', _, hx', List.getElem?_eq_getElem a1⟩
    · obtain ⟨xs', hx', il'⟩ := sx L H t s w
      exact ⟨xs', hx', by rw [nums_len, il'.length]⟩
    · obtain ⟨xs', hx', il'⟩ := sx L H t s w
      obtain ⟨T, u, rfl, hT, rfl, f1⟩ := y
      obtain ⟨d1, hd1, m1⟩ := il'.get (f1 xs' hx')
      exact ⟨(tup2 hT (.int _) m1).1, _, nums_get hd1, (tup2 hT (.int _) m1).2⟩

/-! ### a comprehension whose target is a pair -/
theorem wipe2 (σ : St) (i j : Nat) (u v : V) (hij : i ≠ j) : wipe (((wipe σ [i, j]).set i (some u)).set j (some v)) [i, j] = wipe σ [i, j] := by
  show (((((σ.set j none).set i none).set i (some u)).set j (some v)).set j none).set i none = (σ.set j none).set i none
  rw [List.set_set, List.set_set, List.set_comm _ _ hij, List.set_set, List.set_set]
theorem eg_wipe2 {i j : Nat} (hij : i ≠ j) {Z : Hl} {σ : St} {v : V} (st : Stt K H0 G Z σ H) (im : Im K H v (.tup [x, y])) {Q : St → Hp → Prop} (q : ∀ σ', Stt K H0 ((G.set i (some x)).set j (some y)) Z σ' H → wipe σ' [i, j] = wipe σ [i, j] → Q σ' H) :
    gTup K 2 (gCons (gName i) (gCons (gName j) gNil)) v (wipe σ [i, j]) H Q := by
  cases im with
  | tup hq il =>
    cases il with
    | cons i1 il =>
      cases il with
      | cons i2 il =>
        cases il
        refine ⟨_, _, rfl, hq, rfl, _, _, rfl, _, _, rfl, rfl, q _ ?_ (wipe2 σ i j _ _ hij)⟩
        show Stt K H0 _ Z ((((σ.set j none).set i none).set i (some _)).set j (some _)) H
        rw [List.set_set, List.set_comm _ _ hij.symm, List.set_set]
        exact (st.set i1 i).set i2 j
theorem en_lc2 {i j : Nat} {W : Hl → Prop} (f : D → Bool) (v : D → D) (hij : i ≠ j) (hw : EvI K H0 G L wi (It0 ds W)) (hW : ∀ Z, W (Z :: L)) (hp : ∀ d ∈ ds, ∃ x y, d = .tup [x, y] ∧ EvT K H0 ((G.set i (some x)).set j (some y)) L tt (f d) ∧ (f d = true → EvP K H0 ((G.set i (some x)).set j (some y)) L te (v d))) (hz : ds.length ≤ 100000) :
    EvN K H0 G L (tLc wi (gTup K 2 (gCons (gName i) (gCons (gName j) gNil))) tt te [i, j]) (New1 (.lst ((ds.filter f).map v))) :=
  lc_main f v hw (fun ds' W' N m => by
    obtain ⟨rfl, rfl, rfl⟩ := m
    refine ⟨rfl, hW, fun d hd Z => ?_⟩
    obtain ⟨x, y, rfl, h1, h2⟩ := hp d hd
    exact ⟨_, fun σ H u st im Q q => eg_wipe2 hij st im q, h1, h2⟩) hz
theorem en_lc2Y {i j : Nat} {W : Hl → Prop} (v : D → D) (hij : i ≠ j) (hw : EvI K H0 G L wi (It0 ds W)) (hW : ∀ Z, W (Z :: L)) (hp : ∀ d ∈ ds, ∃ x y, d = .tup [x, y] ∧ EvP K H0 ((G.set i (some x)).set j (some y)) L te (v d)) (hz : ds.length ≤ 100000) :
    EvN K H0 G L (tLc wi (gTup K 2 (gCons (gName i) (gCons (gName j) gNil))) tYes te [i, j]) (New1 (.lst (ds.map v))) := by
  have := en_lc2 (K := K) (H0 := H0) (G := G) (L := L) (i := i) (j := j) (tt := tYes) (te := te) (fun _ => true) v hij hw hW (fun d hd => let ⟨x, y, e, h⟩ := hp d hd; ⟨x, y, e, et_yes, fun _ => h⟩) hz
  rwa [List.filter_eq_self.mpr (fun _ _ => rfl)] at this

/-! ### a dict that is walked -/
/-- the dict at a is locked, it holds ks -/
def Fz (K : PySem.W.Frag) (H0 : Hp) (a : Addr) (ks : List (Key × D)) : Prop := ∃ o kvs, H0 a = some (.frz o (.dK kvs)) ∧ Paired (PrI K H0) kvs ks
def kD : Key → D
  | .inl i => .int i
  | .inr s => .str s
def itms (ks : List (Key × D)) : List D := ks.map fun q => .tup [kD q.1, q.2]
theorem im_key (k : Key) : Im K H (kV k) (kD k) := by cases k with | inl i => exact .int i | inr s => exact .str s
theorem pr_get {κ : Type} : ∀ {l : List (κ × V)} {m : List (κ × D)}, Paired (PrI K H) l m → ∀ {i : Nat} {q : κ × V}, l[i]? = some q → ∃ r, m[i]? = some r ∧ PrI K H q r
  | _, _, .nil, _, _, e => by simp at e
  | _, _, .cons r _, 0, _, e => ⟨_, rfl, by simp at e; subst e; exact r⟩
  | _, _, .cons _ t, i + 1, v, e => by
    obtain ⟨d, h1, h2⟩ := pr_get t (i := i) (q := v) (by simpa using e)
    exact ⟨d, by simpa using h1, h2⟩
theorem ei_items {a : Addr} {ks : List (Key × D)} (h : EvP K H0 G L td (.ref a)) (hz : Fz K H0 a ks) : EvI K H0 G L (iItems td) (It0 (itms ks) fun _ => True) := fun σ H st R q => h σ H st _ fun v H' e i => by
  cases i
  obtain ⟨o, kvs, hk, hp⟩ := hz
  have at_ : ∀ {L H}, HS K H0 L H → H a = some (.frz o (.dK kvs)) ∧ Paired (PrI K H) kvs ks := fun {L H} s => ⟨s.ext _ _ hk, Paired.tx (Same.tx s.ext) hp⟩
  have hl : (itms ks).length = kvs.length := by unfold itms; rw [List.length_map, pr_len hp]
  refine ⟨a, o, kvs, rfl, (at_ (st.same e).hs).1, q _ H' _ _ [] ⟨rfl, rfl, rfl⟩ e (fun _ z => nomatch z) .nil Hs.nil ⟨fun i L H t s w hi => ⟨(at_ s).1, by rw [← hl]; exact hi⟩, fun L H t s w => ⟨(at_ s).1, by rw [hl]; exact Nat.le_refl _⟩, fun i L H x H' t s w hi y => ?_⟩⟩
  obtain ⟨T, k, v, hkv, rfl, hT, rfl⟩ := y
  obtain ⟨r, hr, e1, e2⟩ := pr_get (at_ s).2 hkv
  obtain ⟨k', d'⟩ := r
  have e1 : k = k' := e1
  subst e1
  have tp := tup2 hT (im_key (K := K) k) e2
  exact ⟨tp.1, _, by unfold itms; rw [List.getElem?_map, hr]; rfl, tp.2⟩
/-- a lock laid, taken away -/
theorem lock_on {a : Addr} {kvs : List (Key × V)} (od : Obj) (hx : H a = some (.dK kvs)) : TX H (upd H a (.frz od (.dK kvs))) := TX.upd hx (fun _ z => nomatch z) (fun _ _ z => nomatch z)
theorem lock_off {a : Addr} {kvs : List (Key × V)} {od : Obj} (hx : H a = some (.frz od (.dK kvs))) : TX H (upd H a (.dK kvs)) := TX.upd hx (fun _ z => nomatch z) (fun _ _ z => nomatch z)
theorem er_ne {a : Addr} {o : O} {k : Nat} (hn : (L.map (·.1)).Nodup) (hk : L[k]? = some (a, o)) {q : Addr × O} (hq : q ∈ L.eraseIdx k) : q.1 ≠ a := fun z => by
  obtain ⟨j, hj, hjk⟩ := List.mem_eraseIdx_iff_getElem?.mp hq
  have a1 : (L.map (·.1))[j]? = some a := by rw [List.getElem?_map, hjk]; exact congrArg some z
  have a2 : (L.map (·.1))[k]? = some a := by rw [List.getElem?_map, hk]; rfl
  exact hj (ix_inj hn a1 a2)
/-- the base with a put in, and all tuples that stand -/
def satu (H0 H : Hp) (a : Addr) (f : HO) : Hp := fun b => if b = a then some f else match H0 b with
  | some o => some o
  | none => match H b with
    | some (.tup xs) => some (.tup xs)
    | some (.frz o (.tup xs)) => some (.frz o (.tup xs))
    | _ => none
section
variable {a : Addr} {f : HO}
theorem satu_a : satu H0 H a f a = some f := if_pos rfl
theorem satu_keep {b : Addr} {o : HO} (hb : b ≠ a) (h : H0 b = some o) : satu H0 H a f b = some o := by unfold satu; rw [if_neg hb, h]
theorem satu_of {b : Addr} {o : HO} (hb : b ≠ a) (h : satu H0 H a f b = some o) : H0 b = some o ∨ H b = some o := by
  unfold satu at h
  rw [if_neg hb] at h
  cases h0 : H0 b with
  | some u => rw [h0] at h; exact .inl h
  | none =>
    rw [h0] at h
    right
    cases h1 : H b with
    | none => rw [h1] at h; cases h
    | some u =>
      rw [h1] at h
      cases u with
      | tup xs => exact h
      | frz z w => cases w with
        | tup xs => exact h
        | _ => cases h
      | _ => cases h
theorem satu_none {b : Addr} {u : HO} {o : O} (hb : b ≠ a) (h0 : H0 b = none) (hu : H b = some u) (ob : Ob K H u o) : satu H0 H a f b = none := by
  unfold satu
  rw [if_neg hb, h0, hu]
  cases u <;> first | rfl | (cases o <;> exact ob.elim)
theorem satu_old {b : Addr} (hb : b ≠ a) (h : satu H0 H a f b = none) : H0 b = none := by
  cases h0 : H0 b with
  | none => rfl
  | some o => rw [satu_keep hb h0] at h; cases h
theorem satu_tx (hs : Same H0 H) (ha : ∀ xs, H a ≠ some (.tup xs)) (ha2 : ∀ z xs, H a ≠ some (.frz z (.tup xs))) : TX H (satu H0 H a f) := by
  refine ⟨fun b xs e => ?_, fun b z xs e => ?_⟩
  · have hb : b ≠ a := fun q => ha xs (q ▸ e)
    unfold satu
    rw [if_neg hb]
    cases h0 : H0 b with
    | none => simp only [e]
    | some o => have := hs b o h0; rw [e] at this; cases this; rfl
  · have hb : b ≠ a := fun q => ha2 z xs (q ▸ e)
    unfold satu
    rw [if_neg hb]
    cases h0 : H0 b with
    | none => simp only [e]
    | some o => have := hs b o h0; rw [e] at this; cases this; rfl
end
structure Aft (H0 H0' : Hp) (a : Addr) : Prop where
  tx : TX H0 H0'
  at_ : ∀ b o, b ≠ a → H0 b = some o → H0' b = some o
theorem Rdo.aft {a b : Addr} {o : O} {H0' : Hp} (h : Rdo K H0 b o) (f : Aft H0 H0' a) (hb : b ≠ a) : Rdo K H0' b o := by
  cases o with
  | lst ds =>
    obtain ⟨xs, h1, h2⟩ := h
    exact ⟨xs, h1.elim (fun h1 => .inl (h1.elim (fun h1 => .inl (f.at_ b _ hb h1)) fun ⟨o, h1⟩ => .inr ⟨o, f.at_ b _ hb h1⟩)) .inr, h2.tx f.tx⟩
  | dct ks =>
    obtain ⟨xs, h1, h2⟩ := h
    exact ⟨xs, f.at_ b _ hb h1, Paired.tx f.tx h2⟩
  | ins C dx fs =>
    obtain ⟨xs, h1, h2⟩ := h
    exact ⟨xs, f.at_ b _ hb h1, Paired.tx f.tx h2⟩
  | tb0 => exact f.at_ b _ hb h
theorem Lk.aft {a b : Addr} {o : O} {H0' : Hp} (h : Lk K H0 L b o) (f : Aft H0 H0' a) (hb : b ≠ a) : Lk K H0' L b o := h.elim .inl fun h => .inr (h.aft f hb)
section
variable {a : Addr} {ks : List (Key × D)} {kvs : List (Key × V)} {k : Nat}
theorem lock_aft (od : Obj) (hs : Same H0 H) (hx : H a = some (.dK kvs)) (hp : Paired (PrI K H) kvs ks) : Aft H0 (satu H0 H a (.frz od (.dK kvs))) a ∧ Fz K (satu H0 H a (.frz od (.dK kvs))) a ks := by
  have t : TX H (satu H0 H a (.frz od (.dK kvs))) := satu_tx hs (fun xs e => by rw [hx] at e; cases e) (fun z xs e => by rw [hx] at e; cases e)
  exact ⟨⟨(Same.tx hs).trans t, fun b o hb h => satu_keep hb h⟩, od, kvs, satu_a, Paired.tx t hp⟩
/-- the locked state -/
theorem lock_in (od : Obj) (hm : List.Sublist L' L) (hne : ∀ q ∈ L', q.1 ≠ a) (st : Stt K H0 G L σ H) (hx : H a = some (.dK kvs)) : Stt K (satu H0 H a (.frz od (.dK kvs))) G L' σ (upd H a (.frz od (.dK kvs))) := by
  have t := lock_on od hx
  refine ⟨⟨fun b o e => ?_, fun q hq => ?_, (hm.map _).nodup st.hs.nd, fun q hq => ?_⟩, st.vr.tx t⟩
  · by_cases hb : b = a
    · subst hb; rw [satu_a] at e; rw [upd_same]; exact e
    · rw [upd_ne hb]
      rcases satu_of hb e with e | e
      · exact st.hs.ext b o e
      · exact e
  · obtain ⟨u, hu, ob⟩ := st.hs.own q (hm.mem hq)
    exact ⟨u, by rw [upd_ne (hne q hq)]; exact hu, ob.tx t⟩
  · obtain ⟨u, hu, ob⟩ := st.hs.own q (hm.mem hq)
    exact satu_none (hne q hq) (st.hs.new q (hm.mem hq)) hu ob
/-- the lock taken away -/
theorem lock_ne {H1 : Hp} {od : Obj} (s : HS K (satu H0 H a (.frz od (.dK kvs))) L H1) : ∀ q ∈ L, q.1 ≠ a := fun q hq z => by have := s.new q hq; rw [z, satu_a] at this; cases this
theorem lock_outB {H1 : Hp} {od : Obj} (hx : H0 a = some (.dK kvs)) (s : HS K (satu H0 H a (.frz od (.dK kvs))) L H1) : H1 a = some (.frz od (.dK kvs)) ∧ HS K H0 L (upd H1 a (.dK kvs)) := by
  have ha := s.ext a _ satu_a
  have t := lock_off ha
  have hne := lock_ne s
  refine ⟨ha, ⟨fun b o e => ?_, fun q hq => ?_, s.nd, fun q hq => satu_old (hne q hq) (s.new q hq)⟩⟩
  · by_cases hb : b = a
    · subst hb; rw [upd_same]; rw [hx] at e; exact e
    · rw [upd_ne hb]; exact s.ext b o (satu_keep hb e)
  · obtain ⟨u, hu, ob⟩ := s.own q hq
    exact ⟨u, by rw [upd_ne (hne q hq)]; exact hu, ob.tx t⟩
theorem lock_outO {H1 : Hp} {od : Obj} (h0 : H0 a = none) (s : HS K (satu H0 H a (.frz od (.dK kvs))) L H1) (hp : Paired (PrI K H1) kvs ks) : H1 a = some (.frz od (.dK kvs)) ∧ HS K H0 ((a, .dct ks) :: L) (upd H1 a (.dK kvs)) := by
  have ha := s.ext a _ satu_a
  have t := lock_off ha
  have hne := lock_ne s
  refine ⟨ha, ⟨fun b o e => ?_, fun q hq => ?_, ?_, fun q hq => ?_⟩⟩
  · have hb : b ≠ a := ne_of_none e h0
    rw [upd_ne hb]; exact s.ext b o (satu_keep hb e)
  · rcases List.mem_cons.mp hq with rfl | hq
    · exact ⟨_, upd_same, Paired.tx t hp⟩
    · obtain ⟨u, hu, ob⟩ := s.own q hq
      exact ⟨u, by rw [upd_ne (hne q hq)]; exact hu, ob.tx t⟩
  · rw [List.map_cons, List.nodup_cons]
    refine ⟨fun hm => ?_, s.nd⟩
    obtain ⟨q, hq, e⟩ := List.mem_map.mp hm
    exact hne q hq e
  · rcases List.mem_cons.mp hq with rfl | hq
    · exact h0
    · exact satu_old (hne q hq) (s.new q hq)
end
abbrev Po.with_ (p : Po) (q : Addr × O) : Po := ⟨fun G' L' => p.nx G' (q :: L'), fun d L' => p.rt d (q :: L'), fun G' L' => p.bk G' (q :: L'), fun G' L' => p.ct G' (q :: L')⟩
theorem go_lockO {a : Addr} {ks : List (Key × D)} {k : Nat} (hk : L[k]? = some (a, .dct ks)) (h : ∀ H0', Aft H0 H0' a → Fz K H0' a ks → Go K H0' G (L.eraseIdx k) ts (p.with_ (a, .dct ks))) : Go K H0 G L (tLock ts) p := fun T σ H E t st s => by
  have hm := List.mem_of_getElem? hk
  obtain ⟨kvs, hx, hp⟩ := st.hs.dct hm
  have h0 := st.hs.new _ hm
  refine ⟨a, .dK kvs, hx, trivial, fun od => ?_⟩
  have tx := lock_on od hx
  have tt := t.trans tx
  have af := lock_aft od st.hs.ext hx hp
  refine h _ af.1 af.2 (upd H a (.frz od (.dK kvs))) σ _ _ (TX.refl _) (lock_in od (List.eraseIdx_sublist L k) (fun q hq => er_ne st.hs.nd hk hq) st hx) ⟨fun G1 L1 σ1 H1 r1 t1 s1 => ?_, fun d1 L1 v1 H1 r1 t1 s1 i1 => ?_, fun G1 L1 σ1 H1 r1 t1 s1 => ?_, fun G1 L1 σ1 H1 r1 t1 s1 => ?_⟩
  · have o := lock_outO h0 s1.hs (Paired.tx (tx.trans t1) hp)
    exact ⟨o.1, s.nx _ _ _ _ r1 ((tt.trans t1).trans (lock_off o.1)) ⟨o.2, s1.vr.tx (lock_off o.1)⟩⟩
  · have o := lock_outO h0 s1 (Paired.tx (tx.trans t1) hp)
    exact ⟨o.1, s.rt _ _ _ _ r1 ((tt.trans t1).trans (lock_off o.1)) o.2 (i1.tx (lock_off o.1))⟩
  · have o := lock_outO h0 s1.hs (Paired.tx (tx.trans t1) hp)
    exact ⟨o.1, s.bk _ _ _ _ r1 ((tt.trans t1).trans (lock_off o.1)) ⟨o.2, s1.vr.tx (lock_off o.1)⟩⟩
  · have o := lock_outO h0 s1.hs (Paired.tx (tx.trans t1) hp)
    exact ⟨o.1, s.ct _ _ _ _ r1 ((tt.trans t1).trans (lock_off o.1)) ⟨o.2, s1.vr.tx (lock_off o.1)⟩⟩
/-- a dict of the base -/
def BD (K : PySem.W.Frag) (H0 : Hp) (a : Addr) (ks : List (Key × D)) : Prop := ∃ kvs, H0 a = some (.dK kvs) ∧ Paired (PrI K H0) kvs ks
theorem go_lockB {a : Addr} {ks : List (Key × D)} (hk : BD K H0 a ks) (h : ∀ H0', Aft H0 H0' a → Fz K H0' a ks → Go K H0' G L ts p) : Go K H0 G L (tLock ts) p := fun T σ H E t st s => by
  obtain ⟨kvs, hx0, hp0⟩ := hk
  have hx := st.hs.ext _ _ hx0
  have hp := Paired.tx (Same.tx st.hs.ext) hp0
  refine ⟨a, .dK kvs, hx, trivial, fun od => ?_⟩
  have tx := lock_on od hx
  have tt := t.trans tx
  have af := lock_aft od st.hs.ext hx hp
  refine h _ af.1 af.2 (upd H a (.frz od (.dK kvs))) σ _ _ (TX.refl _) (lock_in od (List.Sublist.refl L) (fun q hq z => by have := st.hs.new q hq; rw [z, hx0] at this; cases this) st hx) ⟨fun G1 L1 σ1 H1 r1 t1 s1 => ?_, fun d1 L1 v1 H1 r1 t1 s1 i1 => ?_, fun G1 L1 σ1 H1 r1 t1 s1 => ?_, fun G1 L1 σ1 H1 r1 t1 s1 => ?_⟩
  · have o := lock_outB hx0 s1.hs
    exact ⟨o.1, s.nx _ _ _ _ r1 ((tt.trans t1).trans (lock_off o.1)) ⟨o.2, s1.vr.tx (lock_off o.1)⟩⟩
  · have o := lock_outB hx0 s1
    exact ⟨o.1, s.rt _ _ _ _ r1 ((tt.trans t1).trans (lock_off o.1)) o.2 (i1.tx (lock_off o.1))⟩
  · have o := lock_outB hx0 s1.hs
    exact ⟨o.1, s.bk _ _ _ _ r1 ((tt.trans t1).trans (lock_off o.1)) ⟨o.2, s1.vr.tx (lock_off o.1)⟩⟩
  · have o := lock_outB hx0 s1.hs
    exact ⟨o.1, s.ct _ _ _ _ r1 ((tt.trans t1).trans (lock_off o.1)) ⟨o.2, s1.vr.tx (lock_off o.1)⟩⟩
/-- an expression under a lock -/
theorem en_lockO {a : Addr} {ks : List (Key × D)} {k : Nat} (hk : L[k]? = some (a, .dct ks)) (h : ∀ H0', Aft H0 H0' a → Fz K H0' a ks → EvN K H0' G (L.eraseIdx k) te P) : EvN K H0 G L (tLockE te) P := fun σ H st Q q => by
  have hm := List.mem_of_getElem? hk
  obtain ⟨kvs, hx, hp⟩ := st.hs.dct hm
  refine ⟨a, .dK kvs, hx, trivial, fun od => ?_⟩
  have af := lock_aft od st.hs.ext hx hp
  refine h _ af.1 af.2 σ _ (lock_in od (List.eraseIdx_sublist L k) (fun q hq => er_ne st.hs.nd hk hq) st hx) _ fun v H1 d N m e hf hn ho i => ?_
  have ha := e a _ upd_same
  have t := lock_off ha
  have hfa : ∀ q ∈ N, q.1 ≠ a := fun q hq z => by have := hf q hq; rw [z, upd_same] at this; cases this
  refine ⟨ha, q v _ d N m (fun b o hb => ?_) (fun q hq => by have := hf q hq; rwa [upd_ne (hfa q hq)] at this) hn (fun q hq => ?_) (i.tx t)⟩
  · by_cases hba : b = a
    · subst hba; rw [upd_same, ← hx]; exact hb
    · rw [upd_ne hba]; exact e b o (by rw [upd_ne hba]; exact hb)
  · obtain ⟨u, hu, ob⟩ := ho q hq
    exact ⟨u, by rw [upd_ne (hfa q hq)]; exact hu, ob.tx t⟩

/-! ### dict comprehensions -/
theorem dc_main {P : List D → (Hl → Prop) → Hl → Prop} {vs : List Nat} (kf : D → Int) (v : D → D) (hw : EvI K H0 G L wi P)
    (hP : ∀ ds' W N, P ds' W N → ds' = ds ∧ (∀ Z, W (Z :: (N ++ L))) ∧ ∀ d ∈ ds, ∀ Z, ∃ G', (∀ σ H x, Stt K H0 G (Z :: (N ++ L)) σ H → Im K H x d → ∀ Q : St → Hp → Prop, (∀ σ', Stt K H0 G' (Z :: (N ++ L)) σ' H → wipe σ' vs = wipe σ vs → Q σ' H) → g x (wipe σ vs) H Q) ∧
      EvP K H0 G' (N ++ L) tk (.int (kf d)) ∧ EvP K H0 G' (N ++ L) tv (v d)) (hz : ds.length ≤ 100000) : EvN K H0 G L (tDc wi g tYes tk tv vs) (New1 (.dct (ds.foldl (fun acc d => putD acc (.inl (kf d)) (v d)) []))) := fun σ H st Q q => by
  refine hw σ H st _ fun J H1 ds' W N m e hf hn ho it Dl hD => ?_
  obtain ⟨rfl, hW, hel⟩ := hP ds' W N m
  have st1 := st.add e hf hn ho
  have hlen : ∀ (l : List D) (acc : List (Key × D)), (l.foldl (fun acc d => putD acc (.inl (kf d)) (v d)) acc).length ≤ acc.length + l.length := by
    intro l
    induction l with
    | nil => intro acc; simp
    | cons d r ih =>
      intro acc
      rw [List.foldl_cons, List.length_cons]
      have h1 := ih (putD acc (.inl (kf d)) (v d))
      have h2 : (putD acc (.inl (kf d)) (v d)).length ≤ acc.length + 1 := by
        unfold putD
        split
        · rw [List.length_map]; omega
        · rw [List.length_append]; simp
      omega
  refine ⟨fun i m H' => m = ds'.length - i ∧ i ≤ ds'.length ∧ Same H1 (upd H' Dl (.dK [])) ∧ TX H1 H' ∧ Stt K H0 G ((Dl, .dct ((ds'.take i).foldl (fun acc d => putD acc (.inl (kf d)) (v d)) [])) :: (N ++ L)) σ H', ⟨ds'.length, rfl, Nat.zero_le _, ?_⟩, ?_⟩
  · have n1 := new1 (K := K) (u := .dK []) (o := .dct []) hD .nil
    have := st1.add n1.1 n1.2.1 n1.2.2.1 n1.2.2.2
    refine ⟨?_, Same.tx n1.1, this⟩
    rw [upd_upd]
    exact n1.1
  rintro i mm H2 ⟨rfl, hi, e1, t, s⟩
  by_cases hlt : i < ds'.length
  · refine .inr ⟨it.go i _ H2 t s.hs (hW _) hlt, fun H' => Same H1 (upd H' Dl (.dK [])) ∧ TX H1 H' ∧ Stt K H0 G ((Dl, .dct ((ds'.take (i + 1)).foldl (fun acc d => putD acc (.inl (kf d)) (v d)) [])) :: (N ++ L)) σ H', fun H' p' => ⟨ds'.length - (i + 1), by omega, rfl, hlt, p'⟩, fun x H3 hy => ?_⟩
    obtain ⟨e2, d, hd, im⟩ := it.yld i _ H2 x H3 t s.hs (hW _) hlt hy
    obtain ⟨G', hg, hk, hv⟩ := hel d (List.mem_of_getElem? hd) (Dl, .dct ((ds'.take i).foldl (fun acc d => putD acc (.inl (kf d)) (v d)) []))
    have s3 := s.same e2
    have tk' : ds'.take (i + 1) = ds'.take i ++ [d] := by rw [List.take_succ, hd]; rfl
    have ext : ∀ {Ha Hb : Hp}, Same H1 (upd Ha Dl (.dK [])) → Same Ha Hb → Same H1 (upd Hb Dl (.dK [])) := fun {Ha Hb} a b c o hc => by
      have := a c o hc
      by_cases hcd : c = Dl
      · subst hcd; rw [hD] at hc; cases hc
      · rw [upd_ne hcd] at this ⊢; exact b _ _ this
    refine hg σ H3 x s3 im _ fun σ' s4 hwp => ⟨hwp, ?_⟩
    refine et_yes (K := K) (H0 := H0) (G := G') (L := []) σ' H3 (s4.sub (List.nil_sublist _)) _ fun H3b e3b => iteT (hk.fr σ' H3b (s4.same e3b) _ fun y H4 e4' i4 => hv.fr σ' H4 ((s4.same e3b).same e4') _ fun z H5 e5 i5 => ?_)
    have e4 := e3b.trans e4'
    cases i4
    have s5 := (s3.same e4).same e5
    obtain ⟨xs, hx, hp⟩ := s5.hs.dct List.mem_cons_self
    have hl : xs.length < sizeLine := by
      rw [pr_len hp]
      have h1 := hlen (ds'.take i) []
      have h3 : (ds'.take i).length ≤ i := by rw [List.length_take]; omega
      have h4 : ([] : List (Key × D)).length = 0 := rfl
      exact Nat.lt_of_lt_of_le (show _ < 100001 by omega) (by decide)
    refine ⟨xs, .inl (kf d), rfl, hx, hl, ?_, ?_⟩
    · rw [upd_upd]
      exact ext (ext (ext e1 e2) e4) e5
    · have pu := s5.hs.put (k := 0) (u' := .dK (putK xs (.inl (kf d)) z)) (o' := .dct (putD ((ds'.take i).foldl (fun acc d => putD acc (.inl (kf d)) (v d)) []) (.inl (kf d)) (v d))) rfl (pr_put i5 hp)
      refine ⟨(((t.trans (Same.tx e2)).trans (Same.tx e4)).trans (Same.tx e5)).trans pu.2, ?_⟩
      rw [tk', List.foldl_append]
      exact ⟨pu.1, s5.vr.tx pu.2⟩
  · have ei : i = ds'.length := by omega
    subst ei
    rw [List.take_length] at s
    refine .inl ⟨it.stop _ H2 t s.hs (hW _), ?_⟩
    obtain ⟨u, hu, ob⟩ := s.hs.own _ List.mem_cons_self
    refine q (.ref Dl) H2 (.ref Dl) _ ⟨Dl, rfl, rfl⟩ (fun c o hc => ?_) (fun z hz => ?_) (by simp) (fun z hz => ?_) (.ref Dl)
    · have h1 := e c o hc
      have := e1 c o h1
      rw [upd_ne (ne_of_none h1 hD)] at this
      exact this
    · rw [List.mem_singleton.mp hz]; exact e.free hD
    · rw [List.mem_singleton.mp hz]; exact ⟨u, hu, ob⟩
theorem en_dc2 {i j : Nat} {W : Hl → Prop} (kf : D → Int) (v : D → D) (hij : i ≠ j) (hw : EvI K H0 G L wi (It0 ds W)) (hW : ∀ Z, W (Z :: L)) (hp : ∀ d ∈ ds, ∃ x y, d = .tup [x, y] ∧ EvP K H0 ((G.set i (some x)).set j (some y)) L tk (.int (kf d)) ∧ EvP K H0 ((G.set i (some x)).set j (some y)) L tv (v d)) (hz : ds.length ≤ 100000) :
    EvN K H0 G L (tDc wi (gTup K 2 (gCons (gName i) (gCons (gName j) gNil))) tYes tk tv [i, j]) (New1 (.dct (ds.foldl (fun acc d => putD acc (.inl (kf d)) (v d)) []))) :=
  dc_main kf v hw (fun ds' W' N m => by
    obtain ⟨rfl, rfl, rfl⟩ := m
    refine ⟨rfl, hW, fun d hd Z => ?_⟩
    obtain ⟨x, y, rfl, h1, h2⟩ := hp d hd
    exact ⟨_, fun σ H u st im Q q => eg_wipe2 hij st im q, h1, h2⟩) hz
end
end Fc

namespace Fc
open PySem PySem.Spec PyProof.Rows L2
/-! ## defs of the text -/
/-- the module's name x holds the def st -/
structure FunG (K : PySem.W.Frag) (mg : Str → Option Value) (x : Str) (st : Stmt) : Prop where
  ex : ∃ f fd, Fun K x x st f fd ∧ mg x = some (.ref f)
/-- what may be called by the name x -/
structure Pf (P : Program) (w : World) (K : PySem.W.Frag) (mg : Str → Option Value) (base : Heap) (x : Str) (k : Nat) (S : FS) : Prop where
  ex : ∃ f fd ps, FnOk P w K mg base CX0 k f fd ps (spF K S) ∧ mg x = some (.ref f) ∧ PySem.W.keepIn K (.ref f) = true ∧ Binds K fd ps []
structure PfM (P : Program) (w : World) (K : PySem.W.Frag) (mg : Str → Option Value) (base : Heap) (x : Str) (k : Nat) (S : FM) : Prop where
  ex : ∃ f fd ps, FnOk P w K mg base CX0 k f fd ps (spM K S) ∧ mg x = some (.ref f) ∧ PySem.W.keepIn K (.ref f) = true ∧ Binds K fd ps []
abbrev BindH (x : Str) (st : Stmt) (n : Nat) (ps : List Str) : Prop := ∀ (kV doc pm : Value) (an : Option Addr) (cdv ct : Value) (us : List Value), us.length = ps.length → bindArgs (PySem.W.fnOf x x (defArgs st) (defBody st) (defScope st) .none kV doc pm an cdv ct) ⟨us, []⟩ = pure (ps.zip us)
section
variable {P : Program} {w : World} {K : PySem.W.Frag} {mg : Str → Option Value} {base : Heap}
/-- the walk of a def: its body's derivation, and what it does -/
theorem pf_mk {x : Str} {st : Stmt} {N ps : List Str} {k : Nat} {S : FS} (F : FunG K mg x st) (sc : FnScope N ps (defScope st)) (bh : BindH x st 0 ps) (len : ∀ Z ds R, S Z ds R → ds.length = ps.length)
    (hb : ∀ (f : Addr) (cdv : Value) (A : Around) (outer : List Env) (s : Shared) (H : Hp) (E : XK), Room k (A.deeper (envOfC x (defScope st) s.heap.objs.size f cdv)) →
      ∃ t, PSs (cxOf CX0 P w K mg base N x (defScope st) f cdv A outer s H E).nox (defBody st) t ∧ ∀ Z ds R H0, Rds K H0 Z → S Z ds R → Go K H0 (args N ds) [] t { nx := fun _ L => R .non L, rt := R }) : Pf P w K mg base x (k + 1) S := by
  obtain ⟨f, fd, F1, hm⟩ := F.ex
  refine ⟨f, fd, ps, F1.ok sc (fun vs H Q E h => ?_) (fun cdv A outer s H vs Q E hr h => ?_), hm, F1.kp, F1.binds bh⟩
  · obtain ⟨Z, ds, R, _, im, s, _⟩ := h
    rw [im.length]
    exact len Z ds R s
  · obtain ⟨t, ht, hg⟩ := hb f cdv A outer s H E hr
    exact ⟨t, ht, body_go hg h⟩
/-- .. as the kit's promise of a def object that is known -/
theorem fn_mkF {x : Str} {st : Stmt} {N ps : List Str} {k : Nat} {S : FS} {f : Addr} {fd : FuncData} (F1 : Fun K x x st f fd) (sc : FnScope N ps (defScope st)) (len : ∀ Z ds R, S Z ds R → ds.length = ps.length)
    (hb : ∀ (f : Addr) (cdv : Value) (A : Around) (outer : List Env) (s : Shared) (H : Hp) (E : XK), Room k (A.deeper (envOfC x (defScope st) s.heap.objs.size f cdv)) →
      ∃ t, PSs (cxOf CX0 P w K mg base N x (defScope st) f cdv A outer s H E).nox (defBody st) t ∧ ∀ Z ds R H0, Rds K H0 Z → S Z ds R → Go K H0 (args N ds) [] t { nx := fun _ L => R .non L, rt := R }) : FnOk P w K mg base CX0 (k + 1) f fd ps (spF K S) :=
  F1.ok sc (fun vs H Q E h => by
    obtain ⟨Z, ds, R, _, im, s, _⟩ := h
    rw [im.length]
    exact len Z ds R s) (fun cdv A outer s H vs Q E hr h => by
    obtain ⟨t, ht, hg⟩ := hb f cdv A outer s H E hr
    exact ⟨t, ht, body_go hg h⟩)
theorem pfM_mk {x : Str} {st : Stmt} {N ps : List Str} {k : Nat} {S : FM} (F : FunG K mg x st) (sc : FnScope N ps (defScope st)) (bh : BindH x st 0 ps) (len : ∀ Y Z ds R, S Y Z ds R → ds.length = ps.length)
    (hb : ∀ (f : Addr) (cdv : Value) (A : Around) (outer : List Env) (s : Shared) (H : Hp) (E : XK), Room k (A.deeper (envOfC x (defScope st) s.heap.objs.size f cdv)) →
      ∃ t, PSs (cxOf CX0 P w K mg base N x (defScope st) f cdv A outer s H E).nox (defBody st) t ∧ ∀ Y Z ds R H0, (∀ p ∈ Y, H0 p.1 = none) → Rds K H0 Z → S Y Z ds R → Go K H0 (args N ds) Y t { nx := fun _ L => R .non L, rt := R }) : PfM P w K mg base x (k + 1) S := by
  obtain ⟨f, fd, F1, hm⟩ := F.ex
  refine ⟨f, fd, ps, F1.ok sc (fun vs H Q E h => ?_) (fun cdv A outer s H vs Q E hr h => ?_), hm, F1.kp, F1.binds bh⟩
  · obtain ⟨Y, Z, ds, R, _, _, _, _, im, s, _⟩ := h
    rw [im.length]
    exact len Y Z ds R s
  · obtain ⟨t, ht, hg⟩ := hb f cdv A outer s H E hr
    exact ⟨t, ht, body_goM hg h⟩
end
section
variable {X : Cx} {x : Str} {p pos : Pos} {e : Expr} {es : List Expr} {t : TA} {k j : Nat} {P : Program} {w : World} {K : PySem.W.Frag} {mg : Str → Option Value} {base : Heap}
theorem pe_pf {S : FS} (F : Pf P w K mg base x k S) (hr : Room j X.A) (hj : k ≤ j) (hg : Gl X x) (ha : PA X (e :: es) t) (hP : X.prog = P := by rfl) (hw : X.w = w := by rfl) (hK : X.K = K := by rfl) (hm : X.mg = mg := by rfl) (hb : X.base = base := by rfl) (hdb : (x == ("__debug__" : Str)) = false := by decide)
    (he : starEach (e :: es) X.env = (false, eval e X.env) :: starEach es X.env := by rfl) (hpl : (backTo pos (starEach es X.env)).any (·.1) = false := by rfl) : PE X (.Call (.Name x p) (e :: es) [] pos) (tCall (spF K S) [] E0 t) := by
  subst hP hw hK hm hb
  obtain ⟨f, fd, ps, F1, hm, hk, hb⟩ := F.ex
  exact pe_call F1 (hr.mono hj) hg hm hk hb .nil pass0 ha hdb he hpl
theorem pe_pfM {S : FM} (F : PfM P w K mg base x k S) (hr : Room j X.A) (hj : k ≤ j) (hg : Gl X x) (ha : PA X (e :: es) t) (hP : X.prog = P := by rfl) (hw : X.w = w := by rfl) (hK : X.K = K := by rfl) (hm : X.mg = mg := by rfl) (hb : X.base = base := by rfl) (hdb : (x == ("__debug__" : Str)) = false := by decide)
    (he : starEach (e :: es) X.env = (false, eval e X.env) :: starEach es X.env := by rfl) (hpl : (backTo pos (starEach es X.env)).any (·.1) = false := by rfl) : PE X (.Call (.Name x p) (e :: es) [] pos) (tCall (spM K S) [] E0 t) := by
  subst hP hw hK hm hb
  obtain ⟨f, fd, ps, F1, hm, hk, hb⟩ := F.ex
  exact pe_call F1 (hr.mono hj) hg hm hk hb .nil pass0 ha hdb he hpl
end
/-! ### built-ins by name -/
theorem b_abs : bootBuiltins "abs" = some (.builtin "abs") := by decide +kernel
theorem b_len : bootBuiltins "len" = some (.builtin "len") := by decide +kernel
theorem b_all : bootBuiltins "all" = some (.builtin "all") := by decide +kernel
theorem b_any : bootBuiltins "any" = some (.builtin "any") := by decide +kernel
theorem b_sum : bootBuiltins "sum" = some (.builtin "sum") := by decide +kernel
theorem b_sorted : bootBuiltins "sorted" = some (.builtin "sorted") := by decide +kernel
theorem b_max : bootBuiltins "max" = some (.builtin "max") := by decide +kernel
theorem b_min : bootBuiltins "min" = some (.builtin "min") := by decide +kernel
theorem b_isi : bootBuiltins "isinstance" = some (.builtin "isinstance") := by decide +kernel
theorem b_tuple : bootBuiltins "tuple" = some (.type "tuple") := by decide +kernel
theorem b_list : bootBuiltins "list" = some (.type "list") := by decide +kernel
theorem b_dict : bootBuiltins "dict" = some (.type "dict") := by decide +kernel
theorem b_int : bootBuiltins "int" = some (.type "int") := by decide +kernel
theorem b_bool : bootBuiltins "bool" = some (.type "bool") := by decide +kernel
theorem b_str : bootBuiltins "str" = some (.type "str") := by decide +kernel
/-- the module has not bound these -/
structure Bl (mg : Str → Option Value) : Prop where
  abs : mg "abs" = none
  len : mg "len" = none
  all : mg "all" = none
  any : mg "any" = none
  isi : mg "isinstance" = none
  tuple : mg "tuple" = none
  dict : mg "dict" = none
  int : mg "int" = none
  bool : mg "bool" = none
  str : mg "str" = none
  range : mg "range" = none
  zip : mg "zip" = none
  enum : mg "enumerate" = none
  sum : mg "sum" = none
  sorted : mg "sorted" = none
  list : mg "list" = none
  max : mg "max" = none
  min : mg "min" = none
section
variable {X : Cx} {p pos : Pos} {e : Expr} {es : List Expr} {t : TA} {K : PySem.W.Frag} {mg : Str → Option Value}
theorem pe_len (hK : X.K = K) (hM : X.mg = mg) (B : Bl mg) (hg : Gl X "len") (ha : PA X (e :: es) t) (he : starEach (e :: es) X.env = (false, eval e X.env) :: starEach es X.env := by rfl) (hpl : (backTo pos (starEach es X.env)).any (·.1) = false := by rfl) : PE X (.Call (.Name "len" p) (e :: es) [] pos) (tCB (rLen K) t) := by
  subst hK hM
  exact pe_callB (r := (rLen X.K)) call_len_seq hg B.len b_len ha (he := he) (hpl := hpl)
theorem pe_abs (hK : X.K = K) (hM : X.mg = mg) (B : Bl mg) (hg : Gl X "abs") (ha : PA X (e :: es) t) (he : starEach (e :: es) X.env = (false, eval e X.env) :: starEach es X.env := by rfl) (hpl : (backTo pos (starEach es X.env)).any (·.1) = false := by rfl) : PE X (.Call (.Name "abs" p) (e :: es) [] pos) (tCB rAbs t) := by
  subst hK hM
  exact pe_callB (r := rAbs) call_abs hg B.abs b_abs ha (he := he) (hpl := hpl)
theorem pe_all (hK : X.K = K) (hM : X.mg = mg) (B : Bl mg) (hc : X.calm = true) (hg : Gl X "all") (ha : PA X (e :: es) t) (he : starEach (e :: es) X.env = (false, eval e X.env) :: starEach es X.env := by rfl) (hpl : (backTo pos (starEach es X.env)).any (·.1) = false := by rfl) : PE X (.Call (.Name "all" p) (e :: es) [] pos) (tCB (rAll K) t) := by
  subst hK hM
  exact pe_callB (r := (rAll X.K)) (cr_all hc) hg B.all b_all ha (he := he) (hpl := hpl)
theorem pe_any (hK : X.K = K) (hM : X.mg = mg) (B : Bl mg) (hc : X.calm = true) (hg : Gl X "any") (ha : PA X (e :: es) t) (he : starEach (e :: es) X.env = (false, eval e X.env) :: starEach es X.env := by rfl) (hpl : (backTo pos (starEach es X.env)).any (·.1) = false := by rfl) : PE X (.Call (.Name "any" p) (e :: es) [] pos) (tCB (rAny K) t) := by
  subst hK hM
  exact pe_callB (r := (rAny X.K)) (cr_any hc) hg B.any b_any ha (he := he) (hpl := hpl)
theorem pe_sum (hK : X.K = K) (hM : X.mg = mg) (B : Bl mg) (hc : X.calm = true) (hg : Gl X "sum") (ha : PA X (e :: es) t) (he : starEach (e :: es) X.env = (false, eval e X.env) :: starEach es X.env := by rfl) (hpl : (backTo pos (starEach es X.env)).any (·.1) = false := by rfl) : PE X (.Call (.Name "sum" p) (e :: es) [] pos) (tCB (rSum K) t) := by
  subst hK hM
  exact pe_callB (r := (rSum X.K)) (cr_sum hc) hg B.sum b_sum ha (he := he) (hpl := hpl)
theorem pe_isi (hK : X.K = K) (hM : X.mg = mg) (B : Bl mg) (hg : Gl X "isinstance") (ha : PA X (e :: es) t) (he : starEach (e :: es) X.env = (false, eval e X.env) :: starEach es X.env := by rfl) (hpl : (backTo pos (starEach es X.env)).any (·.1) = false := by rfl) : PE X (.Call (.Name "isinstance" p) (e :: es) [] pos) (tCB (rIsi K) t) := by
  subst hK hM
  exact pe_callB (r := (rIsi X.K)) call_isi hg B.isi b_isi ha (he := he) (hpl := hpl)
theorem pe_tuple (hK : X.K = K) (hM : X.mg = mg) (B : Bl mg) (hg : Gl X "tuple") (ha : PA X (e :: es) t) (he : starEach (e :: es) X.env = (false, eval e X.env) :: starEach es X.env := by rfl) (hpl : (backTo pos (starEach es X.env)).any (·.1) = false := by rfl) : PE X (.Call (.Name "tuple" p) (e :: es) [] pos) (tCB (rTupOf K) t) := by
  subst hK hM
  exact pe_callTy (r := (rTupOf X.K)) call_tuple_of hg B.tuple b_tuple ha (he := he) (hpl := hpl)
theorem pe_int1 (hK : X.K = K) (hM : X.mg = mg) (B : Bl mg) (hg : Gl X "int") (ha : PA X (e :: es) t) (he : starEach (e :: es) X.env = (false, eval e X.env) :: starEach es X.env := by rfl) (hpl : (backTo pos (starEach es X.env)).any (·.1) = false := by rfl) : PE X (.Call (.Name "int" p) (e :: es) [] pos) (tCB rInt1 t) := by
  subst hK hM
  exact pe_callTy (r := rInt1) call_int1 hg B.int b_int ha (he := he) (hpl := hpl)
theorem pe_dict (hK : X.K = K) (hM : X.mg = mg) (B : Bl mg) (hg : Gl X "dict") (ha : PA X (e :: es) t) (he : starEach (e :: es) X.env = (false, eval e X.env) :: starEach es X.env := by rfl) (hpl : (backTo pos (starEach es X.env)).any (·.1) = false := by rfl) : PE X (.Call (.Name "dict" p) (e :: es) [] pos) (tCB rDictOf t) := by
  subst hK hM
  exact pe_callTy (r := rDictOf) call_dictD hg B.dict b_dict ha (he := he) (hpl := hpl)
theorem pe_ixT {a b : Expr} {ta tb : TE} (hK : X.K = K) (ha : PE X a ta) (hb : PE X b tb) (hs : PlainIx b) : PE X (.Subscript a b pos) (tOp (rIxT K) ta tb) := by subst hK; exact pe_ix ix_tup ha hb hs
theorem pe_ixL {a b : Expr} {ta tb : TE} (hK : X.K = K) (ha : PE X a ta) (hb : PE X b tb) (hs : PlainIx b) : PE X (.Subscript a b pos) (tOp (rIxL K) ta tb) := by subst hK; exact pe_ix ix_list ha hb hs
theorem op_inK (hK : X.K = K) : OpR X (compareOp .In) (rIn K false) := by subst hK; exact op_in_seq
theorem op_niK (hK : X.K = K) : OpR X (compareOp .NotIn) (rIn K true) := by subst hK; exact op_notIn_seq
theorem op_catK (hK : X.K = K) : OpR X (binaryOp .Add) (rCatA K) := by subst hK; exact op_catA
theorem sl_tupK (hK : X.K = K) : SlR X (rSlA K) := by subst hK; exact sl_tupA
theorem sl_listK (hK : X.K = K) : SlR X (rSlL K) := by subst hK; exact sl_list
theorem op_eqK (hK : X.K = K) (hu : X.A.units + 64 < cLine) : OpR X (compareOp .Eq) (rEqD K) := by subst hK; exact op_eqD hu
theorem op_neK (hK : X.K = K) (hu : X.A.units + 64 < cLine) : OpR X (compareOp .NotEq) (rNeD K) := by subst hK; exact op_neD hu
theorem pi_listK {tg l : Expr} {tl : TE} (hK : X.K = K) (hl : PE X l tl) : PI X tg l (iList K tl) := by subst hK; exact pi_list hl
theorem pi_tupK {tg l : Expr} {tl : TE} (hK : X.K = K) (hl : PE X l tl) : PI X tg l (iTup K tl) := by subst hK; exact pi_tup hl
theorem pe_fldK {o : Expr} {f : Str} {ta : TE} (hK : X.K = K) (he : PE X o ta) (hb : attributeBase o f X.env (eval o X.env) = eval o X.env) : PE X (.Attribute o f pos) (tFld K ta f) := by subst hK; exact pe_fld he hb
theorem pg_tupK {es : List Expr} {k : Nat} {t : TGs} {n : Nat} (hK : X.K = K) (hc : X.calm = true) (h : PGs X es t) (hn : (assignEach es X.env).length = n := by rfl) (hst : (assignEach es X.env).findIdx? (·.1) = none := by rfl) : PG X (.Tuple es k pos) (gTup K n t) := by subst hK; exact pg_tup hc h hn hst
theorem ps_fldK {o value : Expr} {f : Str} {pos' : Pos} {ta tv : TE} (hK : X.K = K) (ha : PE X o ta) (hv : PE X value tv) (hs : swapsWith value (some (.Attribute o f pos')) pos.line X.env = pure false) : PS X (.Assign [.Attribute o f pos'] value pos) (sFld K ta tv f) := by subst hK; exact ps_fld ha hv hs
theorem pi_zipK {e2 : Expr} {ta : TA} {tpos : Pos} {elts : List Expr} {kk : Nat} (hK : X.K = K) (hM : X.mg = mg) (B : Bl mg) (hg : Gl X "zip") (ha : PA X [e, e2] ta)
    (hs : starEach [e, e2] X.env = (false, eval e X.env) :: starEach [e2] X.env := by rfl) (hpl : (backTo pos (starEach [e2] X.env)).any (·.1) = false := by rfl) : PI X (.Tuple elts kk tpos) (.Call (.Name "zip" p) [e, e2] [] pos) (iZip2 K ta) := by subst hK hM; exact pi_zip2 hg B.zip ha hs hpl
theorem pi_enumK {ta : TA} {tpos : Pos} {elts : List Expr} {kk : Nat} (hK : X.K = K) (hM : X.mg = mg) (B : Bl mg) (hg : Gl X "enumerate") (ha : PA X [e] ta) (hs : starEach [e] X.env = [(false, eval e X.env)] := by rfl) :
    PI X (.Tuple elts kk tpos) (.Call (.Name "enumerate" p) [e] [] pos) (iEnum2 K ta) := by subst hK hM; exact pi_enum2 hg B.enum ha hs
theorem pe_tyT (hM : X.mg = mg) (B : Bl mg) (hg : Gl X "tuple") : PE X (.Name "tuple" p) (tC (.ty "tuple")) := by subst hM; exact pe_bltn hg B.tuple b_tuple rfl
theorem pe_tyI (hM : X.mg = mg) (B : Bl mg) (hg : Gl X "int") : PE X (.Name "int" p) (tC (.ty "int")) := by subst hM; exact pe_bltn hg B.int b_int rfl
theorem pe_tyB (hM : X.mg = mg) (B : Bl mg) (hg : Gl X "bool") : PE X (.Name "bool" p) (tC (.ty "bool")) := by subst hM; exact pe_bltn hg B.bool b_bool rfl
theorem pe_tyS (hM : X.mg = mg) (B : Bl mg) (hg : Gl X "str") : PE X (.Name "str" p) (tC (.ty "str")) := by subst hM; exact pe_bltn hg B.str b_str rfl
end
section
variable {K : PySem.W.Frag} {H0 H H' : Hp} {G G' : Ga} {L L' N : Hl} {σ : L2.St} {te ta tb : TE} {tt tu : TT} {ts us vs : TS} {d x y z : D} {ds : List D} {b c : Bool} {p : Po} {g : TG} {wi : TI} {P : D → Hl → Prop}
/-! ### a statement, the rest -/
theorem gq_ret (h : EvN K H0 G L te P) (hp : ∀ d N, P d N → ∃ L', List.Sublist L' (N ++ L) ∧ p.rt d L') : Go K H0 G L (tSeq (tRet te) us) p := fun T σ H E t st s => go_ret (p := { p with nx := fun G L => Go K H0 G L us p }) h hp T σ H _ t st ⟨fun G L σ H m t st => m T σ H E t st s, s.rt, s.bk, s.ct⟩
theorem gq_retP (h : EvP K H0 G L te d) (hp : p.rt d []) : Go K H0 G L (tSeq (tRet te) us) p := fun T σ H E t st s => h σ H st _ fun v H' e i => s.rt d [] v H' hp (t.trans (Same.tx e)) ((st.same e).hs.sub (List.nil_sublist _)) i
theorem gq_retA (h : EvP K H0 G L te d) (hp : p.rt d L) : Go K H0 G L (tSeq (tRet te) us) p := fun T σ H E t st s => h σ H st _ fun v H' e i => s.rt d L v H' hp (t.trans (Same.tx e)) (st.same e).hs i
/-- if c: leaves -/
theorem gq_ifL (h : EvT K H0 G L tt b) (h1 : b = true → Go K H0 G L ts { p with nx := fun _ _ => False }) (h2 : b = false → Go K H0 G L us p) : Go K H0 G L (tSeq (tIfS tt ts tNext) us) p :=
  fun T σ H E t st s => h σ H st _ fun H' e => by
    cases b with
    | true => exact iteT (h1 rfl T σ H' _ (t.trans (Same.tx e)) (st.same e) ⟨fun _ _ _ _ z => z.elim, s.rt, s.bk, s.ct⟩)
    | false => exact iteF (h2 rfl T σ H' E (t.trans (Same.tx e)) (st.same e) s)
/-- an if whose way is known -/
theorem gq_if2 (h : EvT K H0 G L tt b) (h1 : b = true → Go K H0 G L (tSeq ts vs) p) (h2 : b = false → Go K H0 G L (tSeq us vs) p) : Go K H0 G L (tSeq (tIfS tt ts us) vs) p :=
  fun T σ H E t st s => h σ H st _ fun H' e => by
    cases b with
    | true => exact iteT (h1 rfl T σ H' E (t.trans (Same.tx e)) (st.same e) s)
    | false => exact iteF (h2 rfl T σ H' E (t.trans (Same.tx e)) (st.same e) s)
theorem gq_nil (h : Go K H0 G L us p) : Go K H0 G L (tSeq tNext us) p := h
theorem gq_assoc (h : Go K H0 G L (tSeq ts (tSeq us vs)) p) : Go K H0 G L (tSeq (tSeq ts us) vs) p := h
theorem gq_ifJ (M : Ga → Hl → Prop) (h : EvT K H0 G L tt b) (h1 : b = true → Go K H0 G L ts { p with nx := M }) (h2 : b = false → Go K H0 G L us { p with nx := M }) (h3 : ∀ G' L', M G' L' → Go K H0 G' L' vs p) : Go K H0 G L (tSeq (tIfS tt ts us) vs) p := go_seq M (go_if h h1 h2) h3
theorem gq_while {m0 : Nat} (W : Nat → Ga → Hl → Prop) (h0 : W m0 G L) (M : Ga → Hl → Prop)
    (hs : ∀ m G L, W m G L → ∃ b, EvT K H0 G L tt b ∧ (b = true → Go K H0 G L ts { p with nx := fun G' L' => ∃ m', m' < m ∧ W m' G' L', ct := fun G' L' => ∃ m', m' < m ∧ W m' G' L', bk := M }) ∧ (b = false → M G L)) (hd : ∀ G L, M G L → Go K H0 G L us p) : Go K H0 G L (tSeq (tWhile tt ts) us) p :=
  go_seq M (go_while W h0 hs) hd
theorem gq_for {P : List D → (Hl → Prop) → Hl → Prop} (M : Ga → Hl → Prop) (hw : EvI K H0 G L wi P)
    (h : ∀ ds W N, P ds W N → ∃ I : Nat → Ga → Hl → Prop, I 0 G (N ++ L) ∧ (∀ i G L, I i G L → W L) ∧
      (∀ i d G L, ds[i]? = some d → I i G L → ∃ G', EvG K H0 G d g G' ∧ Go K H0 G' L ts { p with nx := I (i + 1), ct := I (i + 1), bk := M }) ∧ ∀ G L, I ds.length G L → M G L) (hd : ∀ G L, M G L → Go K H0 G L us p) : Go K H0 G L (tSeq (tFor wi g ts) us) p := go_seq M (go_for hw h) hd
theorem gq_seqL (h : Go K H0 G L (tSeq ts us) p) : Go K H0 G L (tSeq ts us) p := h
/-- what is known of the addresses -/
theorem go_known {φ : Prop} (h : ∀ H, HS K H0 L H → φ) (k : φ → Go K H0 G L ts p) : Go K H0 G L ts p := fun T σ H E t st s => k (h H st.hs) T σ H E t st s
theorem go_nd (k : (L.map (·.1)).Nodup → Go K H0 G L ts p) : Go K H0 G L ts p := go_known (fun _ h => h.nd) k

theorem ev_un1 {i : Int} (h : EvP K H0 G L te (.int i)) : EvP K H0 G L (tUn (rU fun i => .int (-i)) te) (.int (-i)) := fun σ H st Q q => h σ H st _ fun v H' e im => by
  cases im
  exact ⟨i, rfl, q _ H' e (.int _)⟩
/-! ### isinstance, the four types asked -/
def isTup : D → Bool | .tup _ => true | _ => false
def isInt : D → Bool | .int _ => true | .bl _ => true | _ => false
def isBool : D → Bool | .bl _ => true | _ => false
def isStr : D → Bool | .str _ => true | _ => false
theorem rc_isTup (h : (tyn d).isSome = true) : RcP K H0 L (rIsi K) [d, .ty "tuple"] (.bl (isTup d)) := by
  cases d with
  | non => exact rc_isi (b := false) rfl (kit_ty (by decide +kernel))
  | bl k => exact rc_isi (b := false) rfl (kit_ty (by decide +kernel))
  | int k => exact rc_isi (b := false) rfl (kit_ty (by decide +kernel))
  | str k => exact rc_isi (b := false) rfl (kit_ty (by decide +kernel))
  | tup k => exact rc_isi (b := true) rfl (kit_ty (by decide +kernel))
  | ref a => cases h
  | ty n => cases h
  | tupN n => cases h
theorem rc_isInt (h : (tyn d).isSome = true) : RcP K H0 L (rIsi K) [d, .ty "int"] (.bl (isInt d)) := by
  cases d with
  | non => exact rc_isi (b := false) rfl (kit_ty (by decide +kernel))
  | bl k => exact rc_isi (b := true) rfl (kit_ty (by decide +kernel))
  | int k => exact rc_isi (b := true) rfl (kit_ty (by decide +kernel))
  | str k => exact rc_isi (b := false) rfl (kit_ty (by decide +kernel))
  | tup k => exact rc_isi (b := false) rfl (kit_ty (by decide +kernel))
  | ref a => cases h
  | ty n => cases h
  | tupN n => cases h
theorem rc_isBool (h : (tyn d).isSome = true) : RcP K H0 L (rIsi K) [d, .ty "bool"] (.bl (isBool d)) := by
  cases d with
  | non => exact rc_isi (b := false) rfl (kit_ty (by decide +kernel))
  | bl k => exact rc_isi (b := true) rfl (kit_ty (by decide +kernel))
  | int k => exact rc_isi (b := false) rfl (kit_ty (by decide +kernel))
  | str k => exact rc_isi (b := false) rfl (kit_ty (by decide +kernel))
  | tup k => exact rc_isi (b := false) rfl (kit_ty (by decide +kernel))
  | ref a => cases h
  | ty n => cases h
  | tupN n => cases h
theorem rc_isStr (h : (tyn d).isSome = true) : RcP K H0 L (rIsi K) [d, .ty "str"] (.bl (isStr d)) := by
  cases d with
  | non => exact rc_isi (b := false) rfl (kit_ty (by decide +kernel))
  | bl k => exact rc_isi (b := false) rfl (kit_ty (by decide +kernel))
  | int k => exact rc_isi (b := false) rfl (kit_ty (by decide +kernel))
  | str k => exact rc_isi (b := true) rfl (kit_ty (by decide +kernel))
  | tup k => exact rc_isi (b := false) rfl (kit_ty (by decide +kernel))
  | ref a => cases h
  | ty n => cases h
  | tupN n => cases h
theorem ev_isTup (he : EvP K H0 G L te d) (h : (tyn d).isSome = true) : EvP K H0 G L (tCB (rIsi K) (tCons te (tCons (tC (.ty "tuple")) tNil))) (.bl (isTup d)) := ev_cb (ea_cons he (ea_cons ev_ty ea_nil)) (rc_isTup h)
theorem ev_isTupB (he : EvP K H0 G L te d) (h : (tyn d).isSome = true) (hb : isTup d = b) : EvP K H0 G L (tCB (rIsi K) (tCons te (tCons (tC (.ty "tuple")) tNil))) (.bl b) := hb ▸ ev_isTup he h
theorem ev_isInt (he : EvP K H0 G L te d) (h : (tyn d).isSome = true) : EvP K H0 G L (tCB (rIsi K) (tCons te (tCons (tC (.ty "int")) tNil))) (.bl (isInt d)) := ev_cb (ea_cons he (ea_cons ev_ty ea_nil)) (rc_isInt h)
theorem ev_isBool (he : EvP K H0 G L te d) (h : (tyn d).isSome = true) : EvP K H0 G L (tCB (rIsi K) (tCons te (tCons (tC (.ty "bool")) tNil))) (.bl (isBool d)) := ev_cb (ea_cons he (ea_cons ev_ty ea_nil)) (rc_isBool h)
theorem ev_isStr (he : EvP K H0 G L te d) (h : (tyn d).isSome = true) : EvP K H0 G L (tCB (rIsi K) (tCons te (tCons (tC (.ty "str")) tNil))) (.bl (isStr d)) := ev_cb (ea_cons he (ea_cons ev_ty ea_nil)) (rc_isStr h)
end
end Fc

namespace Fc
open PySem L2
section
variable {K : PySem.W.Frag} {H0 H H' : Hp} {G G' : Ga} {L L' L1 N : Hl} {σ : St} {te ta tb tc td ty tx tv tk : TE} {tt tu : TT} {ts us vs : TS} {d x y z : D} {ds es : List D} {b c : Bool} {p : Po} {g : TG} {wi : TI} {P R : D → Hl → Prop}
theorem EvN.sub {P : D → Hl → Prop} (h : EvN K H0 G L te P) (s : List.Sublist L L') : EvN K H0 G L' te P := fun σ H st => h σ H (st.sub s)
theorem EvP.sub (h : EvP K H0 G L te d) (s : List.Sublist L L') : EvP K H0 G L' te d := fun σ H st => h σ H (st.sub s)
theorem ean_two {P Q : D → Hl → Prop} (h1 : EvN K H0 G L ta P) (h2 : EvN K H0 G L tb Q) : EvAN K H0 G L (tCons ta (tCons tb tNil)) (fun ds N => ∃ x y N1 N2, ds = [x, y] ∧ P x N1 ∧ Q y N2 ∧ N = N2 ++ N1) := fun σ H st R q =>
  h1 σ H st _ fun v H1 d N m e hf hn ho i => (h2.sub (List.sublist_append_right N L)) σ H1 (st.add e hf hn ho) _ fun v2 H2 d2 N2 m2 e2 hf2 hn2 ho2 i2 =>
    q [v, v2] H2 [d, d2] (N2 ++ N) ⟨d, d2, N, N2, rfl, m, m2, rfl⟩ (e.trans e2) (fun p hp => (List.mem_append.mp hp).elim (fun h => e.free (hf2 p h)) (hf p))
      (by
        rw [List.map_append, List.nodup_append]
        refine ⟨hn2, hn, fun a ha b hb z => ?_⟩
        obtain ⟨p, hp, rfl⟩ := List.mem_map.mp ha
        obtain ⟨p', hp', rfl⟩ := List.mem_map.mp hb
        obtain ⟨u, hu, _⟩ := ho p' hp'
        exact ne_of_none hu (hf2 p hp) z.symm)
      (fun p hp => (List.mem_append.mp hp).elim (ho2 p) (fun h => ho.same e2 p h)) (.cons (i.tx (Same.tx e2)) (.cons i2 .nil))
/-- len of a new list whose length is known -/
theorem ev_lenX {n : Int} (ha : EvN K H0 G L te P) (h : ∀ d N, P d N → ∃ a ds, d = .ref a ∧ N = [(a, .lst ds)] ∧ (ds.length : Int) = n) : EvP K H0 G L (tCB (rLen K) (tCons te tNil)) (.int n) := fun σ H st Q q =>
  ha σ H st _ fun v H1 d N m e1 hf hn ho i1 => by
    obtain ⟨a, ds, rfl, rfl, rfl⟩ := h d N m
    exact rc_lenL (.inl List.mem_cons_self) H1 [v] (st.add e1 hf hn ho).hs (.cons i1 .nil) Q fun w H2 e2 i2 => q w H2 (e1.trans e2) i2
/-- a call whose second argument writes -/
theorem em_call2 {S : FS} {E : XK} (hx : EvP K H0 G L tx x) (hy : EvM K H0 G L ty (fun d L' => d = y ∧ L' = L1)) (hS : S [] [x, y] (Val z)) : EvM K H0 G L (tCall (spF K S) [] E (tCons tx (tCons ty tNil))) (fun d L' => d = z ∧ L' = L1) := fun σ H st Q q =>
  hx σ H st _ fun v H1 e1 i1 => hy σ H1 (st.same e1) _ fun w H2 d L2 m t2 s2 i2 => by
    obtain ⟨rfl, rfl⟩ := m
    show spF K S ([v, w] ++ []) H2 Q E
    refine ⟨[], [x, d], Val z, fun _ h => (nomatch h), .cons (i1.tx t2) (.cons i2 .nil), hS, fun u H3 d3 N r e hf hn ho i => ?_⟩
    obtain rfl := r
    exact q u H3 _ _ ⟨rfl, rfl⟩ (((Same.tx e1).trans t2).trans (Same.tx e)) (s2.same e) i
/-! ### members of a heaplet -/
theorem hl_inj {a : Addr} {o o' : O} (hn : (L.map (·.1)).Nodup) (h1 : (a, o) ∈ L) (h2 : (a, o') ∈ L) : o = o' := by
  obtain ⟨i, hi⟩ := List.getElem?_of_mem h1
  obtain ⟨j, hj⟩ := List.getElem?_of_mem h2
  have a1 : (L.map (·.1))[i]? = some a := by rw [List.getElem?_map, hi]; rfl
  have a2 : (L.map (·.1))[j]? = some a := by rw [List.getElem?_map, hj]; rfl
  have := ix_inj hn a1 a2
  subst this
  rw [hi] at hj
  cases hj
  rfl
theorem hl_keep {a b : Addr} {o o' u : O} {k : Nat} (hk : L[k]? = some (a, o)) (h : (b, u) ∈ L) (hb : b ≠ a) : (b, u) ∈ L.set k (a, o') := by
  obtain ⟨j, hj⟩ := List.getElem?_of_mem h
  have : k ≠ j := fun e => by
    subst e
    rw [hk] at hj
    cases hj
    exact hb rfl
  exact List.mem_of_getElem? (by rw [List.getElem?_set_ne this]; exact hj)
theorem hl_put {a : Addr} {o o' : O} {k : Nat} (hk : L[k]? = some (a, o)) : (a, o') ∈ L.set k (a, o') :=
  List.mem_of_getElem? (List.getElem?_set_self (List.getElem?_eq_some_iff.mp hk).1)
theorem hl_new {a b : Addr} {o u : O} (hn : ((N ++ L).map (·.1)).Nodup) (h1 : (a, o) ∈ N) (h2 : (b, u) ∈ L) : a ≠ b := fun e => by
  subst e
  rw [List.map_append, List.nodup_append] at hn
  exact hn.2.2 a (List.mem_map.mpr ⟨_, h1, rfl⟩) a (List.mem_map.mpr ⟨_, h2, rfl⟩) rfl
theorem hl_fst {a : Addr} {o o' : O} {k : Nat} (hk : L[k]? = some (a, o)) : (L.set k (a, o')).map (·.1) = L.map (·.1) := by
  rw [List.map_set]
  have : (L.map (·.1))[k]? = some a := by rw [List.getElem?_map, hk]; rfl
  obtain ⟨hlt, hv⟩ := List.getElem?_eq_some_iff.mp this
  rw [← hv]
  exact List.set_getElem_self hlt
/-- a[i], b[i] = e -/
theorem gq_set2 {A B : Addr} {k l vA vB vi j : Nat} {i : Int} {dA dB : List D} (h : EvN K H0 G L te P) (hP : ∀ d N, P d N → ∃ x y, d = .tup [x, y] ∧ Go K H0 G (N ++ (L.set k (A, .lst (dA.set j x))).set l (B, .lst (dB.set j y))) us p)
    (hk : L[k]? = some (A, .lst dA)) (hl : L[l]? = some (B, .lst dB)) (hkl : k ≠ l) (ho : G[vA]? = some (some (.ref A))) (hi : G[vi]? = some (some (.int i))) (ho' : G[vB]? = some (some (.ref B))) (hj : ixN dA.length i = some j) (hj' : ixN dB.length i = some j) :
    Go K H0 G L (tSeq (tAsg te (gTup K 2 (gCons (gSub (tVar vA) (tVar vi) rSetL) (gCons (gSub (tVar vB) (tVar vi) rSetL) gNil)))) us) p := fun T σ H E t st s =>
  h σ H st _ fun v H1 d N m e1 hf hnd ho1 i1 => by
    obtain ⟨x, y, rfl, hg⟩ := hP d N m
    cases i1 with
    | tup hq il =>
      cases il with
      | cons ix il =>
        cases il with
        | cons iy il =>
          cases il
          have s1 := st.add e1 hf hnd ho1
          have kA : (N ++ L)[N.length + k]? = some (A, .lst dA) := by rw [List.getElem?_append_right (by omega), Nat.add_sub_cancel_left]; exact hk
          obtain ⟨xs, hx, ilA⟩ := s1.hs.lst (List.mem_of_getElem? kA)
          obtain ⟨wA, eA, iA⟩ := s1.vr.2 vA _ ho
          obtain ⟨wi, ei, ii⟩ := s1.vr.2 vi _ hi
          obtain ⟨wB, eB, iB⟩ := s1.vr.2 vB _ ho'
          cases iA; cases ii; cases iB
          have obA : ∀ u, Im K H1 u x → Ob K H1 (.lst (xs.set j u)) (.lst (dA.set j x)) := fun u iu => ImL.set iu j ilA
          have pA := s1.hs.put kA (obA _ ix)
          have sA := s1.put kA (obA _ ix)
          rw [List.set_append_right _ _ (by omega), Nat.add_sub_cancel_left] at sA
          have hlB : (L.set k (A, .lst (dA.set j x)))[l]? = some (B, .lst dB) := by rw [List.getElem?_set_ne hkl]; exact hl
          have kB : (N ++ L.set k (A, .lst (dA.set j x)))[N.length + l]? = some (B, .lst dB) := by rw [List.getElem?_append_right (by omega), Nat.add_sub_cancel_left]; exact hlB
          obtain ⟨ys, hy, ilB⟩ := sA.hs.lst (List.mem_of_getElem? kB)
          have obB := ImL.set (iy.tx pA.2) j ilB
          have pB := sA.hs.put (u' := .lst (ys.set j _)) (o' := .lst (dB.set j y)) kB obB
          have sB := sA.put (u' := .lst (ys.set j _)) (o' := .lst (dB.set j y)) kB obB
          rw [List.set_append_right _ _ (by omega), Nat.add_sub_cancel_left] at sB
          refine ⟨_, _, rfl, hq, rfl, _, _, rfl, ?_⟩
          refine ⟨_, eA, _, ei, A, xs, i, j, rfl, rfl, hx, by rw [ilA.length]; exact hj, _, _, rfl, ?_⟩
          refine ⟨_, eB, _, ei, B, ys, i, j, rfl, rfl, hy, by rw [ilB.length]; exact hj', rfl, ?_⟩
          exact hg T _ _ E (((t.trans (Same.tx e1)).trans pA.2).trans pB.2) sB s
end
end Fc

namespace Fc
open PySem PySem.Spec PyProof.Rows L2
/-! ## methods; own errors -/
inductive Xo where
  | ret (R : D → Hl → Prop) | exc (C : Addr)
def Xo.rt : Xo → D → Hl → Prop
  | .ret R => R
  | .exc _ => fun _ _ => False
abbrev FX := Hl → Hl → List D → Xo → Prop
abbrev Rest (Y : Hl) (H H' : Hp) : Prop := ∀ a o, H a = some o → a ∉ Y.map (·.1) → H' a = some o
def XoOk (K : PySem.W.Frag) (Y : Hl) (H : Hp) (Q : VK) (E : XK) : Xo → Prop
  | .ret R => ∀ v H' d N, R d N → Rest Y H H' → TX H H' → (∀ p ∈ N, H p.1 = none ∨ p.1 ∈ Y.map (·.1)) → (N.map (·.1)).Nodup → Hs K H' N → Im K H' v d → Q v H'
  | .exc C => ∀ H', Rest Y H H' → Hs K H' Y → E (.ref C) none H'
/-- hands back, or raises an error of the class at C with all as it was -/
def spX (K : PySem.W.Frag) (S : FX) : Sp := fun vs H Q E => ∃ Y Z ds o, Hs K H Y ∧ (Y.map (·.1)).Nodup ∧ Rds K H Z ∧ (∀ p ∈ Z, p.1 ∉ Y.map (·.1)) ∧ ImL K H vs ds ∧ S Y Z ds o ∧ XoOk K Y H Q E o
section
variable {K : PySem.W.Frag} {H0 H H' : Hp} {G G' : Ga} {L L' N Y : Hl} {σ : L2.St} {te ta tb tc : TE} {ts us vs : TS} {d x y z : D} {ds : List D} {p : Po} {P R : D → Hl → Prop}
theorem rest_tx (h : Hs K H Y) (r : Rest Y H H') : TX H H' := by
  have nt : ∀ a o, H a = some o → a ∈ Y.map (·.1) → (∀ xs, o ≠ .tup xs) ∧ ∀ z xs, o ≠ .frz z (.tup xs) := fun a o e hm => by
    obtain ⟨q, hq, rfl⟩ := List.mem_map.mp hm
    obtain ⟨u, hu, ho⟩ := h q hq
    rw [e] at hu; cases hu
    exact ho.notup
  exact ⟨fun a xs e => r a _ e fun hm => (nt a _ e hm).1 _ rfl, fun a o xs e => r a _ e fun hm => (nt a _ e hm).2 _ _ rfl⟩
theorem body_goX {S : FX} {N : List Str} {t : TS} {E : XK} (h : ∀ Y Z ds o H0, (∀ p ∈ Y, H0 p.1 = none) → Rds K H0 Z → S Y Z ds o → (∀ C, o = .exc C → ∀ L H, HS K H0 L H → List.Sublist Y L → E (.ref C) none H) → Go K H0 (args N ds) Y t { nx := fun _ L => o.rt .non L, rt := o.rt }) {vs : List V} {Q : VK} (hs : spX K S vs H Q E) :
    t { nx := fun _ H' => Q .non H', rt := Q } (L2.start N vs) H := by
  obtain ⟨Y, Z, ds, o, hy, hn, hz, hzy, im, s, q⟩ := hs
  let H0 : Hp := fun a => if a ∈ Y.map (·.1) then none else H a
  have h0 : ∀ a, a ∉ Y.map (·.1) → H0 a = H a := fun a ha => if_neg ha
  have h1 : ∀ p ∈ Y, H0 p.1 = none := fun p hp => if_pos (List.mem_map_of_mem hp)
  have hsm : Same H0 H := fun a o e => by
    by_cases ha : a ∈ Y.map (·.1)
    · rw [show H0 a = none from if_pos ha] at e; cases e
    · rw [h0 a ha] at e; exact e
  have htx : TX H H0 := rest_tx hy fun a o e ha => by rw [h0 a ha]; exact e
  have hz0 : Rds K H0 Z := fun p hp => by
    have r := hz p hp
    have hp1 := hzy p hp
    obtain ⟨a, o⟩ := p
    cases o with
    | lst es =>
      obtain ⟨xs, hx, il⟩ := r
      refine ⟨xs, ?_, il.tx htx⟩
      rcases hx with (hx | ⟨o, hx⟩) | hx
      · exact .inl (.inl (by rw [h0 a hp1]; exact hx))
      · exact .inl (.inr ⟨o, by rw [h0 a hp1]; exact hx⟩)
      · exact .inr hx
    | dct es =>
      obtain ⟨xs, hx, il⟩ := r
      exact ⟨xs, by rw [h0 a hp1]; exact hx, Paired.tx htx il⟩
    | ins C dx es =>
      obtain ⟨xs, hx, il⟩ := r
      exact ⟨xs, by rw [h0 a hp1]; exact hx, Paired.tx htx il⟩
    | tb0 =>
      have hx : H a = some (.tbl #[]) := r
      show H0 a = _
      rw [h0 a hp1]; exact hx
  have fin : ∀ {v H' d L}, o.rt d L → TX H H' → HS K H0 L H' → Im K H' v d → Q v H' := fun {v H' d L} r t st i => by
    cases o with
    | exc C => exact r.elim
    | ret R =>
      exact q v H' d L r (fun a o e ha => st.ext a o (by rw [h0 a ha]; exact e)) t (fun p hp => by
        by_cases ha : p.1 ∈ Y.map (·.1)
        · exact .inr ha
        · exact .inl (by rw [← h0 _ ha]; exact st.new p hp)) st.nd st.own i
  refine h Y Z ds o H0 h1 hz0 s (fun C e L H' hs sub => ?_) H _ H _ (TX.refl H) ⟨⟨hsm, hy, hn, h1⟩, start_vr im⟩ ⟨fun G L σ H' r t st => fin r t st.hs .non, fun d L v H' r t st i => fin r t st i, fun _ _ _ _ z => z.elim, fun _ _ _ _ z => z.elim⟩
  subst e
  exact q H' (fun a o e ha => hs.ext a o (by rw [h0 a ha]; exact e)) fun p hp => hs.own p (sub.mem hp)
theorem spX_ofM {S : FX} {vs : List V} {Q : VK} {E : XK} (h : spM K (fun Y Z ds R => S Y Z ds (.ret R)) vs H Q E) : spX K S vs H Q E := by
  obtain ⟨Y, Z, ds, R, a, b, c, d, e, f, g⟩ := h
  exact ⟨Y, Z, ds, .ret R, a, b, c, d, e, f, g⟩
theorem spX_ofF {S : FX} {vs : List V} {Q : VK} {E : XK} (h : spF K (fun Z ds R => S [] Z ds (.ret R)) vs H Q E) : spX K S vs H Q E := by
  obtain ⟨Z, ds, R, a, b, c, d⟩ := h
  exact ⟨[], Z, ds, .ret R, Hs.nil, .nil, a, fun _ _ h => (nomatch h), b, c, fun v H' d' N r rest t hf hn ho i => d v H' d' N r (fun a o e => rest a o e fun h => nomatch h) (fun p hp => (hf p hp).resolve_right fun h => nomatch h) hn ho i⟩
theorem en_mx {S : FX} {Z : Hl} {E : XK} {C a dx : Addr} {m : Str} {fs : List (Str × D)} {ta : TA} (ho : EvP K H0 G L te (.ref a)) (hk : Lk K H0 L a (.ins C dx fs)) (hm : ∀ xs : List (Str × V), xs.map (·.1) = fs.map (·.1) → xs.lookup m = none) (ha : EvA K H0 G L ta ds) (hS : S [] Z (.ref a :: ds) (.ret R)) (hr : ∀ p ∈ Z, Lk K H0 L p.1 p.2) :
    EvN K H0 G L (tMeth C m (spX K S) [] E te ta) R := fun σ H st Q q => ho σ H st _ fun v H1 e1 i1 => by
  cases i1
  obtain ⟨xs, hx, hp⟩ := hk.rdo (st.same e1).hs
  have hkeys : xs.map (·.1) = fs.map (·.1) := by
    clear hx hm hk
    induction hp with
    | nil => rfl
    | cons r t ih => rw [List.map_cons, List.map_cons, ih, r.1]
  refine ⟨a, dx, xs, rfl, hx, hm xs hkeys, ha σ H1 (st.same e1) _ fun vs H2 e2 i2 => ?_⟩
  show spX K S (.ref a :: (vs ++ [])) H2 Q E
  rw [List.append_nil]
  exact spX_ofF (en_sp (S := fun Z ds R => S [] Z ds (.ret R)) hS hr ((st.same e1).same e2) (.cons (.ref a) i2) fun v H' d N r e hf hn ho i => q v H' d N r ((e1.trans e2).trans e) (fun p hp => (e1.trans e2).free (hf p hp)) hn ho i)

theorem em_mx {S : FX} {Z : Hl} {E : XK} {C a dx : Addr} {m : Str} {fs : List (Str × D)} {k : Nat} {ta : TA} (ho : EvP K H0 G L te (.ref a)) (hk : L[k]? = some (a, .ins C dx fs)) (hm : fs.lookup m = none) (ha : EvA K H0 G L ta ds)
    (hS : S [(a, .ins C dx fs)] Z (.ref a :: ds) (.ret R)) (hr : ∀ p ∈ Z, Lk K H0 L p.1 p.2 ∧ p.1 ≠ a) (hR : ∀ d N, R d N → ∃ o' N', N = (a, o') :: N') : EvM K H0 G L (tMeth C m (spX K S) [] E te ta) (fun d L' => ∃ o' N', R d ((a, o') :: N') ∧ L' = N' ++ L.set k (a, o')) := fun σ H st Q q => ho σ H st _ fun v H1 e1 i1 => by
  cases i1
  have hmem := List.mem_of_getElem? hk
  obtain ⟨xs, hx, hp⟩ := (st.same e1).hs.ins hmem
  have hkeys : xs.map (·.1) = fs.map (·.1) := by
    clear hx hm hk hS hmem
    induction hp with
    | nil => rfl
    | cons r t ih => rw [List.map_cons, List.map_cons, ih, r.1]
  refine ⟨a, dx, xs, rfl, hx, lookN hm xs hkeys, ha σ H1 (st.same e1) _ fun vs H2 e2 i2 => ?_⟩
  show spX K S (.ref a :: (vs ++ [])) H2 Q E
  rw [List.append_nil]
  have s2 := (st.same e1).same e2
  refine spX_ofM ⟨_, Z, _, R, fun p hp => by rw [List.mem_singleton.mp hp]; exact s2.hs.own _ hmem, by simp, fun p hp => (hr p hp).1.rdo s2.hs, fun p hp => by simpa using (hr p hp).2, .cons (.ref a) i2, hS, fun v H' d N r e t hf hn hoN i => ?_⟩
  obtain ⟨o', N', rfl⟩ := hR d N r
  have ne : ∀ b, b ≠ a → b ∉ List.map (fun x => x.fst) [(a, O.ins C dx fs)] := fun b hb => by simpa using hb
  have a0 : H0 a = none := st.hs.new _ hmem
  have hlt : k < L.length := (List.getElem?_eq_some_iff.mp hk).1
  have hNa : ∀ p ∈ N', p.1 ≠ a := fun p hp z => by
    have := (List.nodup_cons.mp (by simpa using hn : (a :: N'.map (·.1)).Nodup)).1
    exact this (z ▸ List.mem_map_of_mem hp)
  have hNf : ∀ p ∈ N', H2 p.1 = none := fun p hp => by
    rcases hf p (List.mem_cons_of_mem _ hp) with z | z
    · exact z
    · exact absurd (by simpa using z) (hNa p hp)
  have hml : (L.set k (a, o')).map (·.1) = L.map (·.1) := by
    rw [List.map_set]
    have : (L.map (·.1))[k]? = some a := by rw [List.getElem?_map, hk]; rfl
    obtain ⟨hlt, hv⟩ := List.getElem?_eq_some_iff.mp this
    rw [← hv]
    exact List.set_getElem_self hlt
  have hnd' := (List.nodup_cons.mp (by simpa using hn : (a :: N'.map (·.1)).Nodup)).2
  refine q v H' d _ ⟨o', N', r, rfl⟩ (((Same.tx e1).trans (Same.tx e2)).trans t) ⟨⟨fun b u hb => ?_, fun p hp => ?_, ?_, fun p hp => ?_⟩, s2.vr.tx t⟩ i
  · exact e b u (s2.hs.ext b u hb) (ne b (ne_of_none hb a0))
  · rcases List.mem_append.mp hp with hp | hp
    · exact hoN p (List.mem_cons_of_mem _ hp)
    · rcases List.mem_or_eq_of_mem_set hp with hp | hp
      · by_cases hpa : p.1 = a
        · have : p.1 ∈ (L.set k (a, o')).map (·.1) := List.mem_map_of_mem ‹p ∈ L.set k (a, o')›
          obtain ⟨j, hj⟩ := List.getElem?_of_mem ‹p ∈ L.set k (a, o')›
          by_cases hjk : k = j
          · subst hjk
            rw [List.getElem?_set_self hlt] at hj
            cases hj
            exact hoN _ List.mem_cons_self
          · exfalso
            have a1 : ((L.set k (a, o')).map (·.1))[j]? = some a := by rw [List.getElem?_map, hj]; exact congrArg some hpa
            have a2 : ((L.set k (a, o')).map (·.1))[k]? = some a := by rw [List.getElem?_map, List.getElem?_set_self hlt]; rfl
            rw [hml] at a1 a2
            exact hjk (ix_inj s2.hs.nd a2 a1)
        · obtain ⟨u, hu, ob⟩ := s2.hs.own p hp
          exact ⟨u, e _ _ hu (ne _ hpa), ob.tx t⟩
      · subst hp
        exact hoN _ List.mem_cons_self
  · rw [List.map_append, List.nodup_append, hml]
    refine ⟨hnd', s2.hs.nd, fun b hb c hc => ?_⟩
    obtain ⟨p, hp, rfl⟩ := List.mem_map.mp hb
    obtain ⟨w, hw, rfl⟩ := List.mem_map.mp hc
    obtain ⟨u, hu, _⟩ := s2.hs.own w hw
    exact fun z => ne_of_none hu (hNf p hp) z.symm
  · rcases List.mem_append.mp hp with hp | hp
    · exact s2.hs.ext.free (hNf p hp)
    · have : p.1 ∈ L.map (·.1) := by rw [← hml]; exact List.mem_map_of_mem hp
      obtain ⟨w, hw, ew⟩ := List.mem_map.mp this
      rw [← ew]
      exact s2.hs.new w hw

theorem en_makeX {S : FX} {Z : Hl} {E : XK} {C : Addr} {ta : TA} (ha : EvA K H0 G L ta ds) (hS : ∀ x dx, ∃ R, S [(x, .ins C dx [])] Z (.ref x :: ds) (.ret R) ∧ ∀ d N, R d N → d = .non ∧ ∃ o' N', N = (x, o') :: N' ∧ P (.ref x) N) (hr : ∀ p ∈ Z, Lk K H0 L p.1 p.2) (hZl : ∀ p ∈ Z, ∀ es, p.2 ≠ .lst es) :
    EvN K H0 G L (StX.tMakeR C (spX K S) E ta) P := fun σ H st Q q => ha σ H st _ fun vs H1 e1 i1 x dx hx hdx hne => by
  show spX K S (.ref x :: vs) _ _ E
  obtain ⟨R, hS, hR⟩ := hS x dx
  have m1 : Same H1 (upd H1 dx (.own x)) := Same.new hdx
  have hx1 : (upd H1 dx (.own x)) x = none := by rw [upd_ne (Ne.symm hne)]; exact hx
  have m2 : Same H1 (upd (upd H1 dx (.own x)) x (.ins C dx [])) := m1.trans (Same.new hx1)
  have s2 := (st.same e1).same m2
  refine spX_ofM ⟨_, Z, _, R, fun p hp => ?_, by simp, fun p hp => (hr p hp).rdo s2.hs, fun p hp => ?_, .cons (.ref x) (i1.tx (Same.tx m2)), hS, fun v H' d N r e t hf hn ho i => ?_⟩
  · rw [List.mem_singleton.mp hp]; exact ⟨_, upd_same, rfl, rfl, .nil⟩
  · intro hm
    have hpx : p.1 = x := by simpa using hm
    have r := (hr p hp).rdo (st.same e1).hs
    rw [hpx] at r
    cases hpo : p.2 with
    | lst es => exact absurd hpo (hZl p hp es)
    | dct es =>
      rw [hpo] at r
      obtain ⟨xs, hq, _⟩ := r
      rw [hx] at hq; cases hq
    | ins C dx es =>
      rw [hpo] at r
      obtain ⟨xs, hq, _⟩ := r
      rw [hx] at hq; cases hq
    | tb0 =>
      rw [hpo] at r
      have r : _ = some (HO.tbl #[]) := r
      rw [hx] at r; cases r
  · obtain ⟨rfl, o', N', rfl, hP⟩ := hR d N r
    cases i
    have ne : ∀ b, b ≠ x → b ∉ List.map (fun z => z.fst) [(x, O.ins C dx [])] := fun b hb => by simpa using hb
    refine ⟨rfl, q (.ref x) H' (.ref x) _ hP (fun b u hb => ?_) (fun p hp => ?_) hn ho (.ref x)⟩
    · have h1 := e1 b u hb
      exact e b u (m2 b u h1) (ne b (ne_of_none h1 hx))
    · rcases hf p hp with z | z
      · exact (e1.trans m2).free z
      · rw [show p.1 = x by simpa using z]; exact e1.free hx

/-- raises -/
theorem evx_mx {S : FX} {Z : Hl} {E : XK} {C a dx X : Addr} {m : Str} {fs : List (Str × D)} {ta : TA} (ho : EvP K H0 G L te (.ref a)) (hk : Lk K H0 L a (.ins C dx fs)) (hm : fs.lookup m = none) (ha : EvA K H0 G L ta ds) (hS : S Y Z (.ref a :: ds) (.exc X)) (hY : ∀ p ∈ Y, p ∈ L) (hn : (Y.map (·.1)).Nodup) (hr : ∀ p ∈ Z, Lk K H0 L p.1 p.2 ∧ p.1 ∉ Y.map (·.1))
    {σ : L2.St} {H : Hp} (st : Stt K H0 G L σ H) (hE : ∀ H', TX H H' → HS K H0 L H' → E (.ref X) none H') (Q : VK) : tMeth C m (spX K S) [] E te ta σ H Q := ho σ H st _ fun v H1 e1 i1 => by
  cases i1
  obtain ⟨xs, hx, hp⟩ := hk.rdo (st.same e1).hs
  have hkeys : xs.map (·.1) = fs.map (·.1) := by
    clear hx hm hk hS
    induction hp with
    | nil => rfl
    | cons r t ih => rw [List.map_cons, List.map_cons, ih, r.1]
  refine ⟨a, dx, xs, rfl, hx, lookN hm xs hkeys, ha σ H1 (st.same e1) _ fun vs H2 e2 i2 => ?_⟩
  show spX K S (.ref a :: (vs ++ [])) H2 Q E
  rw [List.append_nil]
  have s2 := (st.same e1).same e2
  have hYs : Hs K H2 Y := fun p hp => s2.hs.own p (hY p hp)
  refine ⟨Y, Z, _, .exc X, hYs, hn, fun p hp => (hr p hp).1.rdo s2.hs, fun p hp => (hr p hp).2, .cons (.ref a) i2, hS, fun H' rest ow => ?_⟩
  have tx := rest_tx hYs rest
  refine hE H' (((Same.tx e1).trans (Same.tx e2)).trans tx) ⟨fun b o e => ?_, fun p hp => ?_, s2.hs.nd, s2.hs.new⟩
  · refine rest b o (s2.hs.ext b o e) fun hm => ?_
    obtain ⟨q, hq, rfl⟩ := List.mem_map.mp hm
    have := s2.hs.new q (hY q hq)
    rw [this] at e; cases e
  · by_cases hm : p.1 ∈ Y.map (·.1)
    · obtain ⟨q, hq, e⟩ := List.mem_map.mp hm
      have : q = p := by
        obtain ⟨q1, q2⟩ := q
        obtain ⟨p1, p2⟩ := p
        have e : q1 = p1 := e
        subst e
        rw [hl_inj s2.hs.nd (hY _ hq) hp]
      subst this
      exact ow q hq
    · obtain ⟨u, hu, ho⟩ := s2.hs.own p hp
      exact ⟨u, rest _ _ hu hm, ho.tx tx⟩
/-- a property -/
theorem en_propX {S : FX} {Z : Hl} {E : XK} {C a dx : Addr} {fs : List (Str × D)} (ho : EvP K H0 G L te (.ref a)) (hk : Lk K H0 L a (.ins C dx fs)) (hS : S [] Z [.ref a] (.ret R)) (hr : ∀ p ∈ Z, Lk K H0 L p.1 p.2) : EvN K H0 G L (tProp C (spX K S) [] E te) R := fun σ H st Q q => ho σ H st _ fun v H1 e1 i1 => by
  cases i1
  obtain ⟨xs, hx, hp⟩ := hk.rdo (st.same e1).hs
  exact ⟨a, dx, xs, rfl, hx, spX_ofF (en_sp (S := fun Z ds R => S [] Z ds (.ret R)) hS hr (st.same e1) (.cons (.ref a) .nil) fun v H' d N r e hf hn hoN i => q v H' d N r (e1.trans e) (fun p hp => e1.free (hf p hp)) hn hoN i)⟩
end
/-! ### bundles -/
structure MethG (K : PySem.W.Frag) (C : Addr) (m qual : Str) (st : Stmt) : Prop where
  ex : ∃ f fd, Fun K m qual st f fd ∧ Meth K C m f
structure Px (P : Program) (w : World) (K : PySem.W.Frag) (mg : Str → Option Value) (base : Heap) (C : Addr) (m : Str) (k : Nat) (S : FX) : Prop where
  ex : ∃ f, Meth K C m f ∧ FnR P w K mg base (L2.CX P w) k f (spX K S)
structure MakeG (K : PySem.W.Frag) (mg : Str → Option Value) (x : Str) (C : Addr) (qual : Str) (st : Stmt) : Prop where
  ex : ∃ f fd, Fun K "__init__" qual st f fd ∧ Mk K C f ∧ mg x = some (.ref C)
structure Pk (P : Program) (w : World) (K : PySem.W.Frag) (mg : Str → Option Value) (base : Heap) (x : Str) (C : Addr) (k : Nat) (S : FX) : Prop where
  ex : ∃ f, Mk K C f ∧ FnR P w K mg base (L2.CX P w) k f (spX K S) ∧ mg x = some (.ref C)
structure PropG (K : PySem.W.Frag) (C : Addr) (m qual : Str) (st : Stmt) : Prop where
  ex : ∃ p f fd, Fun K m qual st f fd ∧ PropOf K C m p f
structure Pp (P : Program) (w : World) (K : PySem.W.Frag) (mg : Str → Option Value) (base : Heap) (C : Addr) (m : Str) (k : Nat) (S : FX) : Prop where
  ex : ∃ p f fd ps, PropOf K C m p f ∧ FnOk P w K mg base (L2.CX P w) k f fd ps (spX K S) ∧ Binds K fd ps []
/-- an own error's class -/
structure ErrG (K : PySem.W.Frag) (mg : Str → Option Value) (x : Str) (C : Addr) : Prop where
  gC : mg x = some (.ref C)
  exc : PySem.W.excIn K C [.type "ValueError", .type "Exception", .type "BaseException", .type "object"] "ValueError.__new__" = true
  kC : PySem.W.keepIn K (.ref C) = true
  sub : PySem.W.subIn K (.ref C) (.type "BaseException") = some true
  ty : PySem.W.typeIn K (.ref C) = some (.type "type")
abbrev BindM (x qual : Str) (st : Stmt) (ps : List Str) : Prop := ∀ (kV doc pm : Value) (an : Option Addr) (cdv ct : Value) (us : List Value), us.length = ps.length → bindArgs (PySem.W.fnOf x qual (defArgs st) (defBody st) (defScope st) .none kV doc pm an cdv ct) ⟨us, []⟩ = pure (ps.zip us)
section
variable {P : Program} {w : World} {K : PySem.W.Frag} {mg : Str → Option Value} {base : Heap} {C : Addr}
abbrev BodyX (P : Program) (w : World) (K : PySem.W.Frag) (mg : Str → Option Value) (base : Heap) (qual : Str) (st : Stmt) (N : List Str) (k : Nat) (S : FX) : Prop :=
  ∀ (f : Addr) (cdv : Value) (A : Around) (outer : List Env) (s : Shared) (H : Hp) (E : XK), Room k (A.deeper (envOfC qual (defScope st) s.heap.objs.size f cdv)) →
      ∃ t, PSs (cxOf (L2.CX P w) P w K mg base N qual (defScope st) f cdv A outer s H E) (defBody st) t ∧ ∀ Y Z ds o H0, (∀ p ∈ Y, H0 p.1 = none) → Rds K H0 Z → S Y Z ds o → (∀ C, o = .exc C → ∀ L H, HS K H0 L H → List.Sublist Y L → E (.ref C) none H) → Go K H0 (args N ds) Y t { nx := fun _ L => o.rt .non L, rt := o.rt }
theorem fn_mkX {x qual : Str} {st : Stmt} {f : Addr} {fd : FuncData} {N ps : List Str} {k : Nat} {S : FX} (F1 : Fun K x qual st f fd) (sc : FnScope N ps (defScope st)) (len : ∀ Y Z ds o, S Y Z ds o → ds.length = ps.length) (hb : BodyX P w K mg base qual st N k S) :
    FnOk P w K mg base (L2.CX P w) (k + 1) f fd ps (spX K S) :=
  F1.okX sc (fun vs H Q E h => by
    obtain ⟨Y, Z, ds, o, _, _, _, _, im, s, _⟩ := h
    rw [im.length]
    exact len Y Z ds o s) (fun cdv A outer s H vs Q E hr h => by
    obtain ⟨t, ht, hg⟩ := hb f cdv A outer s H E hr
    exact ⟨t, ht, body_goX hg h⟩)
theorem px_mk {m qual : Str} {st : Stmt} {N ps : List Str} {k : Nat} {S : FX} (F : MethG K C m qual st) (sc : FnScope N ps (defScope st)) (bh : BindM m qual st ps) (len : ∀ Y Z ds o, S Y Z ds o → ds.length = ps.length) (hb : BodyX P w K mg base qual st N k S) : Px P w K mg base C m (k + 1) S := by
  obtain ⟨f, fd, F1, hm⟩ := F.ex
  have r := (fn_mkX F1 sc len hb).raw (F1.binds bh) (ds := []) (dvs := []) .nil
  exact ⟨f, hm, r.imp fun vs H Q E h => by rw [List.append_nil]; exact h⟩
theorem pk_mk {x qual : Str} {st : Stmt} {N ps : List Str} {k : Nat} {S : FX} (F : MakeG K mg x C qual st) (sc : FnScope N ps (defScope st)) (bh : BindM "__init__" qual st ps) (len : ∀ Y Z ds o, S Y Z ds o → ds.length = ps.length) (hb : BodyX P w K mg base qual st N k S) : Pk P w K mg base x C (k + 1) S := by
  obtain ⟨f, fd, F1, hm, hg⟩ := F.ex
  have r := (fn_mkX F1 sc len hb).raw (F1.binds bh) (ds := []) (dvs := []) .nil
  exact ⟨f, hm, r.imp fun vs H Q E h => by rw [List.append_nil]; exact h, hg⟩
theorem pp_mk {m qual : Str} {st : Stmt} {N ps : List Str} {k : Nat} {S : FX} (F : PropG K C m qual st) (sc : FnScope N ps (defScope st)) (bh : BindM m qual st ps) (len : ∀ Y Z ds o, S Y Z ds o → ds.length = ps.length) (hb : BodyX P w K mg base qual st N k S) : Pp P w K mg base C m (k + 1) S := by
  obtain ⟨p, f, fd, F1, hm⟩ := F.ex
  exact ⟨p, f, fd, ps, hm, fn_mkX F1 sc len hb, F1.binds bh⟩
/-- def m(self, *v) -/
theorem px_star {m qual pv : Str} {st : Stmt} {N : List Str} {k : Nat} {S S' : FX} (F : MethG K C m qual st) (sc : FnScope N ["self", pv] (defScope st))
    (bh : ∀ (kV doc pm : Value) (an : Option Addr) (cdv ct : Value) (us rest : List Value), us.length = 1 → bindArgs (PySem.W.fnOf m qual (defArgs st) (defBody st) (defScope st) .none kV doc pm an cdv ct) ⟨us ++ rest, []⟩ = (newTuple rest >>= fun t => pure ((["self"] : List Str).zip us ++ [(pv, t)])))
    (hS : ∀ Y Z d ds o, S Y Z (d :: ds) o → S' Y Z [d, .tup ds] o ∧ ds.length ≤ 100000) (h1 : ∀ Y Z ds o, S Y Z ds o → ds ≠ []) (hb : BodyX P w K mg base qual st N k S') : Px P w K mg base C m (k + 1) S := by
  obtain ⟨f, fd, F1, hm⟩ := F.ex
  obtain ⟨oc, od, kV, doc, pm, an, cdv, ct, osl, rfl, lk, hcd⟩ := F1.ex
  refine ⟨f, hm, FnR.imp (StX.fn_star (ps := ["self"]) (pv := pv) (sp := spX K S') lk hcd sc StX.cxUp (bh kV doc pm an cdv ct) fun A outer s H vs Q E hr h => ?_) fun vs H Q E h => ?_⟩
  · obtain ⟨t, ht, hg⟩ := hb f cdv A outer s H E hr
    exact ⟨t, ht, body_goX hg h⟩
  · obtain ⟨Y, Z, ds, o, hy, hn, hz, hzy, im, s, q⟩ := h
    cases im with
    | nil => exact absurd rfl (h1 _ _ _ _ s)
    | @cons v vs d ds i1 im =>
      obtain ⟨s', hl⟩ := hS _ _ _ _ _ s
      refine ⟨[v], vs, rfl, rfl, by rw [im.length]; exact Nat.le_trans hl (by decide), fun p hp => ?_⟩
      have sm : Same H (upd H p (.tup vs)) := Same.new hp
      refine ⟨Y, Z, [d, .tup ds], o, hy.same sm, hn, fun q hq => (hz q hq).same sm, hzy, .cons (i1.tx (Same.tx sm)) (.cons (.tup (SqT.of upd_same) (im.tx (Same.tx sm))) .nil), s', ?_⟩
      cases o with
      | ret R => exact fun v H' d N r rest t hf hnN hoN i => q v H' d N r (fun a o e => rest a o (sm a o e)) ((Same.tx sm).trans t) (fun z hz => (hf z hz).imp (fun h => sm.free h) id) hnN hoN i
      | exc X => exact fun H' rest ow => q H' (fun a o e => rest a o (sm a o e)) ow
end
section
variable {X : Cx} {x m : Str} {p pos apos : Pos} {o e : Expr} {es : List Expr} {te : TE} {t : TA} {k j : Nat} {P : Program} {w : World} {K : PySem.W.Frag} {mg : Str → Option Value} {base : Heap} {C : Addr} {S : FX} {E : XK}
theorem pe_mx {pl : Sem Bool} (F : Px P w K mg base C m k S) (c : Cls K C) (hr : Room j X.A) (hj : k ≤ j) (hx : Passes (L2.CX P w) X E) (he : PE X o te) (ha : PA X (e :: es) t) (hP : X.prog = P := by rfl) (hw : X.w = w := by rfl) (hK : X.K = K := by rfl) (hm : X.mg = mg := by rfl) (hb : X.base = base := by rfl)
    (hst : starEach (e :: es) X.env = (false, eval e X.env) :: starEach es X.env := by rfl) (hpl : (backTo pos (starEach es X.env)).any (·.1) = false := by rfl)
    (ht : eval (.Call (.Attribute o m apos) (e :: es) [] pos) X.env = (do
      let ov ← eval o X.env
      standAt apos.atName
      let (f, first) ← holding [ov] (getMethod ov m pl)
      callWith pos f first (backTo pos (starEach (e :: es) X.env)) (backToKw pos (keywordEach [] X.env))) := by rfl) : PE X (.Call (.Attribute o m apos) (e :: es) [] pos) (tMeth C m (spX K S) [] E te t) := by
  subst hP hw hK hm hb
  obtain ⟨f, hm, F1⟩ := F.ex
  refine ⟨fun pins s σ H Q I h => ?_⟩
  refine PySem.W.methodCall_KW (pl := pl) (thn (he.run pins s σ H _ I h) fun u s1 ⟨x, H1, I1, rx, a, dx, fs, ex, ea, l, q⟩ => ?_) ht
  subst ex
  obtain rfl : u = Value.ref a := rx
  refine getmeth_ok I1 ea c hm l ?_
  refine PySem.W.callWith_K (first := [.ref a]) (h₀ := X.base) I.ok.mod.kin hm.kp (thn (ha.run pos pins s1 σ H1 _ I1 q) fun us s2 ⟨vs, H2, I2, r, q2⟩ => ⟨I2.kIn, ?_⟩) hst hpl
  have q2 : spX X.K S (V.ref a :: (vs ++ [])) H2 Q E := q2
  rw [List.append_nil] at q2
  exact wpAny_call (run_fnR (us := .ref a :: us) (vs := .ref a :: vs) (F1.mono hj) hr hx I2 (.cons rfl r) q2)
theorem pe_mx0 {pl : Sem Bool} (F : Px P w K mg base C m k S) (c : Cls K C) (hr : Room j X.A) (hj : k ≤ j) (hx : Passes (L2.CX P w) X E) (he : PE X o te) (hP : X.prog = P := by rfl) (hw : X.w = w := by rfl) (hK : X.K = K := by rfl) (hm : X.mg = mg := by rfl) (hb : X.base = base := by rfl)
    (ht : eval (.Call (.Attribute o m apos) [] [] pos) X.env = (do
      let ov ← eval o X.env
      standAt apos.atName
      let (f, first) ← holding [ov] (getMethod ov m pl)
      callWith pos f first (backTo pos (starEach [] X.env)) (backToKw pos (keywordEach [] X.env))) := by rfl) : PE X (.Call (.Attribute o m apos) [] [] pos) (tMeth C m (spX K S) [] E te tNil) := by
  subst hP hw hK hm hb
  obtain ⟨f, hm, F1⟩ := F.ex
  refine ⟨fun pins s σ H Q I h => ?_⟩
  refine PySem.W.methodCall_KW (pl := pl) (thn (he.run pins s σ H _ I h) fun u s1 ⟨x, H1, I1, rx, a, dx, fs, ex, ea, l, q⟩ => ?_) ht
  subst ex
  obtain rfl : u = Value.ref a := rx
  refine getmeth_ok I1 ea c hm l ?_
  exact PySem.W.callWith_K0 (first := [.ref a]) I1.kIn hm.kp (wpAny_call (run_fnR (us := [.ref a]) (vs := [.ref a]) (F1.mono hj) hr hx I1 (.cons rfl .nil) q))
theorem pe_mk (F : Pk P w K mg base x C k S) (hr : Room j X.A) (hj : k + 1 ≤ j) (hx : Passes (L2.CX P w) X E) (hg : Gl X x) (ha : PA X (e :: es) t) (hP : X.prog = P := by rfl) (hw : X.w = w := by rfl) (hK : X.K = K := by rfl) (hm : X.mg = mg := by rfl) (hb : X.base = base := by rfl) (hdb : (x == ("__debug__" : Str)) = false := by decide)
    (he : starEach (e :: es) X.env = (false, eval e X.env) :: starEach es X.env := by rfl) (hpl : (backTo pos (starEach es X.env)).any (·.1) = false := by rfl) : PE X (.Call (.Name x p) (e :: es) [] pos) (StX.tMakeR C (spX K S) E t) := by
  subst hP hw hK hm hb
  obtain ⟨f, M, F1, hC⟩ := F.ex
  exact StX.pe_makeR M F1 (hr.mono hj) hg hC hx ha hdb he hpl
theorem pe_pp {f : Str} (F : Pp P w K mg base C f k S) (c : Cls K C) (hr : Room j X.A) (hj : k + 1 ≤ j) (hx : Passes (L2.CX P w) X.nox E) (he : PE X e te) (hP : X.prog = P := by rfl) (hw : X.w = w := by rfl) (hK : X.K = K := by rfl) (hm : X.mg = mg := by rfl) (hb : X.base = base := by rfl) (hab : attributeBase e f X.env (eval e X.env) = eval e X.env := by rfl) : PE X (.Attribute e f pos) (tProp C (spX K S) [] E te) := by
  subst hP hw hK hm hb
  obtain ⟨q, f', fd, ps, hp, F1, hb⟩ := F.ex
  exact pe_prop he c hp F1 (hr.mono hj) hb .nil hx hab
theorem pmk_err {n : Nat} {p2 : Pos} {z : Str} (G : ErrG K mg x C) (hg : Gl X x) (hK : X.K = K := by rfl) (hm : X.mg = mg := by rfl) (hdb : (x == ("__debug__" : Str)) = false := by decide) : PMk X (.Call (.Name x p) [.Constant (.str z) n p2] [] pos) (fun _ H Q => Q (.ref C) none H) := by
  subst hK hm
  exact pmk_own F.excBase_ValueError G.exc G.gC G.kC (raises_own G.sub G.ty) hg hdb
end
/-- raise X('..') -/
def tRz (C : Addr) (W : WX) : TS := fun _ σ H => W (.ref C) none σ H
theorem ps_rz {X : Cx} {W : WX} {e : Expr} {C : Addr} {pos : Pos} (hc : X.calm = true) (tk : Takes X W) (he : PMk X e (fun _ H Q => Q (.ref C) none H)) : PS X (.Raise (some e) none pos) (tRz C W) := ps_raise hc tk he
theorem go_rz {K : PySem.W.Frag} {H0 : Hp} {G : Ga} {L : Hl} {C : Addr} {E : XK} {us : TS} {p : Po} (hE : ∀ H, HS K H0 L H → E (.ref C) none H) : Go K H0 G L (tSeq (tRz C fun cls d _ H => E cls d H) us) p := fun T σ H D t st s => hE H st.hs
theorem gq_asg {K : PySem.W.Frag} {H0 : Hp} {G G' : Ga} {L : Hl} {te : TE} {d : D} {g : TG} {us : TS} {p : Po} (h : EvP K H0 G L te d) (hg : EvG K H0 G d g G') (hk : Go K H0 G' L us p) : Go K H0 G L (tSeq (tAsg te g) us) p :=
  gq_setN (P := fun d' N => d' = d ∧ N = []) (h.nw ⟨rfl, rfl⟩) fun d N e => by obtain ⟨rfl, rfl⟩ := e; exact ⟨G', hg, hk⟩
/-- what raises -/
def EvX (K : PySem.W.Frag) (H0 : Hp) (G : Ga) (L : Hl) (te : TE) : Prop := ∀ σ H, Stt K H0 G L σ H → ∀ Q : VK, te σ H Q
section
variable {K : PySem.W.Frag} {H0 : Hp} {G : Ga} {L : Hl} {te ta tb : TE} {x : D} {p : Po} {us : TS} {r : R2} {g : TG}
theorem evx_op2 (ha : EvP K H0 G L ta x) (hb : EvX K H0 G L tb) : EvX K H0 G L (tOp r ta tb) := fun σ H s Q => ha σ H s _ fun u H1 e1 i1 => hb σ H1 (s.same e1) _
theorem evx_op1 (ha : EvX K H0 G L ta) : EvX K H0 G L (tOp r ta tb) := fun σ H s Q => ha σ H s _
theorem evx_sl {rs : V → Option Int → Option Int → Hp → VK → Prop} {tl th : TO} (ha : EvX K H0 G L ta) : EvX K H0 G L (tSl rs ta tl th) := fun σ H s Q => ha σ H s _
theorem gqx_drop (h : EvX K H0 G L te) : Go K H0 G L (tSeq (tDrop te) us) p := fun T σ H E t st s => h σ H st _
theorem gqx_ret (h : EvX K H0 G L te) : Go K H0 G L (tSeq (tRet te) us) p := fun T σ H E t st s => h σ H st _
theorem gqx_fld {f : Str} (h : EvX K H0 G L te) : Go K H0 G L (tSeq (sFld K ta te f) us) p := fun T σ H E t st s => h σ H st _
theorem evx_m {S : FX} {Y Z : Hl} {E : XK} {C a dx X : Addr} {m : Str} {fs : List (Str × D)} {ta : TA} {ds : List D} (ho : EvP K H0 G L te (.ref a)) (hk : Lk K H0 L a (.ins C dx fs)) (hm : fs.lookup m = none) (ha : EvA K H0 G L ta ds) (hS : S Y Z (.ref a :: ds) (.exc X)) (hY : ∀ p ∈ Y, p ∈ L) (hn : (Y.map (·.1)).Nodup) (hr : ∀ p ∈ Z, Lk K H0 L p.1 p.2 ∧ p.1 ∉ Y.map (·.1))
    (hE : ∀ H', HS K H0 L H' → E (.ref X) none H') : EvX K H0 G L (tMeth C m (spX K S) [] E te ta) := fun σ H st Q => evx_mx ho hk hm ha hS hY hn hr st (fun H' _ h => hE H' h) Q
end
end Fc

namespace Fc
open PySem PySem.Spec PyProof.Rows L2
section
variable {K : PySem.W.Frag} {H0 H H' : Hp} {G G' : Ga} {L L' N : Hl} {σ : L2.St} {te ta tb tc : TE} {d x y z : D} {ds xs ys : List D} {P R : D → Hl → Prop}
/-- a list, new or of L -/
def EvL (K : PySem.W.Frag) (H0 : Hp) (G : Ga) (L : Hl) (te : TE) (ds : List D) : Prop := EvN K H0 G L te (fun d N => ∃ a, d = .ref a ∧ ((a, O.lst ds) ∈ N ∨ (a, O.lst ds) ∈ L))
theorem el_new (h : EvN K H0 G L te (New1 (.lst ds))) : EvL K H0 G L te ds := h.imp fun d N ⟨a, e, m⟩ => ⟨a, e, .inl (by rw [m]; exact List.mem_cons_self)⟩
theorem el_old {a : Addr} (h : EvP K H0 G L te (.ref a)) (hk : (a, O.lst ds) ∈ L) : EvL K H0 G L te ds := h.nw ⟨a, rfl, .inr hk⟩
theorem en_cat (ha : EvL K H0 G L ta xs) (hb : EvL K H0 G L tb ys) (hz : xs.length + ys.length ≤ 100000) : EvN K H0 G L (tOp rCat ta tb) (New1 (.lst (xs ++ ys))) := fun σ H st Q q =>
  ha σ H st _ fun u H1 d1 N1 ⟨a, e1', m1⟩ e1 hf1 hn1 ho1 i1 => by
    subst e1'
    refine hb.sub (List.sublist_append_right N1 L) σ H1 (st.add e1 hf1 hn1 ho1) _ fun v H2 d2 N2 ⟨b, e2', m2⟩ e2 hf2 hn2 ho2 i2 => ?_
    subst e2'
    cases i1; cases i2
    have s2 := ((st.add e1 hf1 hn1 ho1).add e2 hf2 hn2 ho2).hs
    obtain ⟨us, hu, il⟩ := s2.lst (List.mem_append_right N2 (m1.elim (List.mem_append_left L) (List.mem_append_right N1)))
    obtain ⟨vs, hv, jl⟩ := s2.lst (m2.elim (fun h => List.mem_append_left (N1 ++ L) h) (fun h => List.mem_append_right N2 (List.mem_append_right N1 h)))
    refine ⟨a, b, us, vs, rfl, rfl, hu, hv, by rw [il.length, jl.length]; exact Nat.le_trans hz (by decide), fun p hp => ?_⟩
    obtain ⟨a1, a2, a3, a4⟩ := new1 (K := K) (u := .lst (us ++ vs)) (o := .lst (xs ++ ys)) hp (il.append jl)
    exact q _ _ (.ref p) [(p, .lst (xs ++ ys))] ⟨p, rfl, rfl⟩ ((e1.trans e2).trans a1) (fun z hz => (e1.trans e2).free (a2 z hz)) a3 a4 (.ref p)
theorem en_rep {k : Nat} (ha : EvL K H0 G L ta xs) (hk : EvP K H0 G L tb (.int (k : Int))) (hz : xs.length * k ≤ 100000) (hk2 : k ≤ 100000) : EvN K H0 G L (tOp rRep ta tb) (New1 (.lst (List.replicate k xs).flatten)) := fun σ H st Q q =>
  ha σ H st _ fun u H1 d1 N1 ⟨a, e1', m1⟩ e1 hf1 hn1 ho1 i1 => by
    subst e1'
    refine hk.sub (List.sublist_append_right N1 L) σ H1 (st.add e1 hf1 hn1 ho1) _ fun v H2 e2 i2 => ?_
    cases i1; cases i2
    have s2 := ((st.add e1 hf1 hn1 ho1).same e2).hs
    obtain ⟨us, hu, il⟩ := s2.lst (m1.elim (List.mem_append_left L) (List.mem_append_right N1))
    refine ⟨a, (k : Int), us, rfl, rfl, hu, by omega, by omega, by rw [il.length, Int.toNat_natCast]; exact Nat.le_trans hz (by decide), fun p hp => ?_⟩
    rw [Int.toNat_natCast]
    have fl : ∀ k, ImL K H2 (List.replicate k us).flatten (List.replicate k xs).flatten := fun k => by
      induction k with
      | zero => exact .nil
      | succ k ih => rw [List.replicate_succ, List.replicate_succ, List.flatten_cons, List.flatten_cons]; exact il.append ih
    obtain ⟨a1, a2, a3, a4⟩ := new1 (K := K) (u := .lst (List.replicate k us).flatten) (o := .lst (List.replicate k xs).flatten) hp (fl k)
    exact q _ _ (.ref p) [(p, .lst _)] ⟨p, rfl, rfl⟩ ((e1.trans e2).trans a1) (fun z hz => (e1.trans e2).free (a2 z hz)) a3 a4 (.ref p)
theorem en_slL {a : Addr} {tl th : TO} {lo hi : Option Int} (h : EvP K H0 G L te (.ref a)) (hk : Lk K H0 L a (.lst ds)) (hl : EvO K H0 G L tl lo) (hh : EvO K H0 G L th hi) : EvN K H0 G L (tSl (rSlL K) te tl th) (New1 (.lst (cutD ds lo hi))) := fun σ H s Q q =>
  h σ H s _ fun v H1 e1 i1 => hl σ H1 (s.same e1) _ fun H2 e2 => hh σ H2 ((s.same e1).same e2) _ fun H3 e3 => by
    cases i1
    obtain ⟨us, hu, il⟩ := hk.rdo (((s.same e1).same e2).same e3).hs
    refine ⟨a, us, rfl, hu, fun p hp => ?_⟩
    have cl : ImL K H3 (cutV us lo hi) (cutD ds lo hi) := by
      unfold cutV cutD
      rw [← il.length]
      exact ImL.take _ (ImL.drop _ il)
    obtain ⟨a1, a2, a3, a4⟩ := new1 (K := K) (u := .lst (cutV us lo hi)) (o := .lst (cutD ds lo hi)) hp cl
    have e13 := (e1.trans e2).trans e3
    exact q _ _ (.ref p) [(p, .lst _)] ⟨p, rfl, rfl⟩ (e13.trans a1) (fun z hz => e13.free (a2 z hz)) a3 a4 (.ref p)
/-- arguments: a value, then a new object -/
theorem ean_pn {P : D → Hl → Prop} (h1 : EvP K H0 G L ta x) (h2 : EvN K H0 G L tb P) : EvAN K H0 G L (tCons ta (tCons tb tNil)) (fun ds N => ∃ y, ds = [x, y] ∧ P y N) := fun σ H st R q =>
  h1 σ H st _ fun v H1 e i => h2 σ H1 (st.same e) _ fun v2 H2 d2 N2 m2 e2 hf2 hn2 ho2 i2 =>
    q [v, v2] H2 [x, d2] N2 ⟨d2, rfl, m2⟩ (e.trans e2) (fun p hp => e.free (hf2 p hp)) hn2 ho2 (.cons (i.tx (Same.tx e2)) (.cons i2 .nil))
theorem rv_pow {i j : Int} (h : CPow i j) : RvP K H0 L (rI CPow fun i j => .int (i ^ j.toNat)) (.int i) (.int j) (.int (i ^ j.toNat)) := rv_I h fun _ => .int _
end
end Fc

namespace Fc
open PySem PySem.Spec PyProof.Rows L2
section
variable {K : PySem.W.Frag} {H0 H H' : Hp} {G G' : Ga} {L L' N : Hl} {σ : L2.St} {te ta tb tc : TE} {d x y z : D} {ds xs ys : List D} {P R : D → Hl → Prop}
theorem em_callM {S : FM} {Z : Hl} {E : XK} {C a dx : Addr} {fs : List (Str × D)} {k : Nat} {ta : TA} (hk : L[k]? = some (a, .ins C dx fs)) (ha : EvA K H0 G L ta ds)
    (hS : S [(a, .ins C dx fs)] Z ds R) (hr : ∀ p ∈ Z, Lk K H0 L p.1 p.2 ∧ p.1 ≠ a) (hR : ∀ d N, R d N → ∃ o' N', N = (a, o') :: N') : EvM K H0 G L (tCall (spM K S) [] E ta) (fun d L' => ∃ o' N', R d ((a, o') :: N') ∧ L' = N' ++ L.set k (a, o')) := fun σ H st Q q => ha σ H st _ fun vs H2 e2 i2 => by
  have e1 : Same H H := Same.refl H
  have hmem := List.mem_of_getElem? hk
  show spM K S (vs ++ []) H2 Q E
  rw [List.append_nil]
  have s2 := (st.same e1).same e2
  refine ⟨_, Z, _, R, fun p hp => by rw [List.mem_singleton.mp hp]; exact s2.hs.own _ hmem, by simp, fun p hp => (hr p hp).1.rdo s2.hs, fun p hp => by simpa using (hr p hp).2, i2, hS, fun v H' d N r e t hf hn hoN i => ?_⟩
  obtain ⟨o', N', rfl⟩ := hR d N r
  have ne : ∀ b, b ≠ a → b ∉ List.map (fun x => x.fst) [(a, O.ins C dx fs)] := fun b hb => by simpa using hb
  have a0 : H0 a = none := st.hs.new _ hmem
  have hlt : k < L.length := (List.getElem?_eq_some_iff.mp hk).1
  have hNa : ∀ p ∈ N', p.1 ≠ a := fun p hp z => by
    have := (List.nodup_cons.mp (by simpa using hn : (a :: N'.map (·.1)).Nodup)).1
    exact this (z ▸ List.mem_map_of_mem hp)
  have hNf : ∀ p ∈ N', H2 p.1 = none := fun p hp => by
    rcases hf p (List.mem_cons_of_mem _ hp) with z | z
    · exact z
    · exact absurd (by simpa using z) (hNa p hp)
  have hml : (L.set k (a, o')).map (·.1) = L.map (·.1) := by
    rw [List.map_set]
    have : (L.map (·.1))[k]? = some a := by rw [List.getElem?_map, hk]; rfl
    obtain ⟨hlt, hv⟩ := List.getElem?_eq_some_iff.mp this
    rw [← hv]
    exact List.set_getElem_self hlt
  have hnd' := (List.nodup_cons.mp (by simpa using hn : (a :: N'.map (·.1)).Nodup)).2
  refine q v H' d _ ⟨o', N', r, rfl⟩ (((Same.tx e1).trans (Same.tx e2)).trans t) ⟨⟨fun b u hb => ?_, fun p hp => ?_, ?_, fun p hp => ?_⟩, s2.vr.tx t⟩ i
  · exact e b u (s2.hs.ext b u hb) (ne b (ne_of_none hb a0))
  · rcases List.mem_append.mp hp with hp | hp
    · exact hoN p (List.mem_cons_of_mem _ hp)
    · rcases List.mem_or_eq_of_mem_set hp with hp | hp
      · by_cases hpa : p.1 = a
        · have : p.1 ∈ (L.set k (a, o')).map (·.1) := List.mem_map_of_mem ‹p ∈ L.set k (a, o')›
          obtain ⟨j, hj⟩ := List.getElem?_of_mem ‹p ∈ L.set k (a, o')›
          by_cases hjk : k = j
          · subst hjk
            rw [List.getElem?_set_self hlt] at hj
            cases hj
            exact hoN _ List.mem_cons_self
          · exfalso
            have a1 : ((L.set k (a, o')).map (·.1))[j]? = some a := by rw [List.getElem?_map, hj]; exact congrArg some hpa
            have a2 : ((L.set k (a, o')).map (·.1))[k]? = some a := by rw [List.getElem?_map, List.getElem?_set_self hlt]; rfl
            rw [hml] at a1 a2
            exact hjk (ix_inj s2.hs.nd a2 a1)
        · obtain ⟨u, hu, ob⟩ := s2.hs.own p hp
          exact ⟨u, e _ _ hu (ne _ hpa), ob.tx t⟩
      · subst hp
        exact hoN _ List.mem_cons_self
  · rw [List.map_append, List.nodup_append, hml]
    refine ⟨hnd', s2.hs.nd, fun b hb c hc => ?_⟩
    obtain ⟨p, hp, rfl⟩ := List.mem_map.mp hb
    obtain ⟨w, hw, rfl⟩ := List.mem_map.mp hc
    obtain ⟨u, hu, _⟩ := s2.hs.own w hw
    exact fun z => ne_of_none hu (hNf p hp) z.symm
  · rcases List.mem_append.mp hp with hp | hp
    · exact s2.hs.ext.free (hNf p hp)
    · have : p.1 ∈ L.map (·.1) := by rw [← hml]; exact List.mem_map_of_mem hp
      obtain ⟨w, hw, ew⟩ := List.mem_map.mp this
      rw [← ew]
      exact s2.hs.new w hw

/-- an item of a new list -/
theorem ev_ixN {i : Int} (ha : EvN K H0 G L ta (New1 (.lst ds))) (hb : EvP K H0 G L tb (.int i)) (h : atI ds i = some z) : EvP K H0 G L (tOp (rIxL K) ta tb) z := fun σ H st Q q =>
  ha σ H st _ fun u H1 d1 N1 m e1 hf hn ho i1 => by
    obtain ⟨a, rfl, rfl⟩ := m
    have s1 := st.add e1 hf hn ho
    refine (hb.sub (List.sublist_append_right [(a, O.lst ds)] L)) σ H1 s1 _ fun v H2 e2 i2 => ?_
    exact rv_ixL (K := K) (H0 := H0) (L := [(a, O.lst ds)] ++ L) (.inl List.mem_cons_self) h H2 u v (s1.same e2).hs (i1.tx (Same.tx e2)) i2 Q fun w H3 e3 i3 => q w H3 ((e1.trans e2).trans e3) i3
end
end Fc

namespace Fc
/-! ## sums and determinants over the rationals, plain -/
def sm : Nat → (Nat → Rat) → Rat
  | 0, _ => 0
  | n + 1, f => sm n f + f n
theorem sm_congr {n : Nat} {f g : Nat → Rat} (h : ∀ i, i < n → f i = g i) : sm n f = sm n g := by
  induction n with
  | zero => rfl
  | succ n ih => rw [sm, sm, ih (fun i hi => h i (by omega)), h n (by omega)]
theorem sm_zero {n : Nat} {f : Nat → Rat} (h : ∀ i, i < n → f i = 0) : sm n f = 0 := by
  induction n with
  | zero => rfl
  | succ n ih => rw [sm, ih (fun i hi => h i (by omega)), h n (by omega)]; exact Rat.add_zero 0
theorem sm_add (n : Nat) (f g : Nat → Rat) : sm n (fun i => f i + g i) = sm n f + sm n g := by
  induction n with
  | zero => exact (Rat.add_zero 0).symm
  | succ n ih => rw [sm, sm, sm, ih]; grind
theorem sm_mul (n : Nat) (a : Rat) (f : Nat → Rat) : sm n (fun i => a * f i) = a * sm n f := by
  induction n with
  | zero => exact (Rat.mul_zero a).symm
  | succ n ih => rw [sm, sm, ih]; grind
theorem sm_le {n : Nat} {f g : Nat → Rat} (h : ∀ i, i < n → f i ≤ g i) : sm n f ≤ sm n g := by
  induction n with
  | zero => exact Rat.le_refl
  | succ n ih =>
    rw [sm, sm]
    have h1 := ih (fun i hi => h i (by omega))
    have h2 := h n (by omega)
    grind
theorem sm_nonneg {n : Nat} {f : Nat → Rat} (h : ∀ i, i < n → 0 ≤ f i) : 0 ≤ sm n f := by
  have := sm_le (f := fun _ => 0) (g := f) h
  rwa [sm_zero (fun _ _ => rfl)] at this
/-- one place apart -/
theorem sm_at {n k : Nat} {f : Nat → Rat} (hk : k < n) (h : ∀ i, i < n → i ≠ k → f i = 0) : sm n f = f k := by
  induction n with
  | zero => omega
  | succ n ih =>
    rw [sm]
    by_cases e : k = n
    · subst e
      rw [sm_zero (fun i hi => h i (by omega) (by omega))]; exact Rat.zero_add _
    · rw [ih (by omega) (fun i hi => h i (by omega)), h n (by omega) (by omega)]; exact Rat.add_zero _
theorem sm_two {n k : Nat} {f : Nat → Rat} (hk : k + 1 < n) (h : ∀ i, i < n → i ≠ k → i ≠ k + 1 → f i = 0) (e : f k + f (k + 1) = 0) : sm n f = 0 := by
  induction n with
  | zero => omega
  | succ n ih =>
    rw [sm]
    by_cases q : k + 1 = n
    · subst q
      rw [sm_at (k := k) (by omega) (fun i hi hne => h i (by omega) hne (by omega)), e]
    · rw [ih (by omega) (fun i hi => h i (by omega)), h n (by omega) (by omega) (by omega)]; exact Rat.add_zero 0
theorem sm_swap (n m : Nat) (f : Nat → Nat → Rat) : sm n (fun i => sm m (f i)) = sm m (fun j => sm n (fun i => f i j)) := by
  induction n with
  | zero => rw [sm]; exact (sm_zero (fun _ _ => rfl)).symm
  | succ n ih => rw [sm, ih, ← sm_add]; rfl
theorem sm_mul_right (n : Nat) (a : Rat) (f : Nat → Rat) : sm n (fun i => f i * a) = sm n f * a := by
  rw [Rat.mul_comm, ← sm_mul]; exact sm_congr fun i _ => Rat.mul_comm _ _

abbrev Mx := Nat → Nat → Rat
def sg : Nat → Rat
  | 0 => 1
  | n + 1 => - sg n
def mnr (B : Mx) (j : Nat) : Mx := fun r c => B (r + 1) (if c < j then c else c + 1)
def det : Nat → Mx → Rat
  | 0, _ => 1
  | k + 1, B => sm (k + 1) fun j => sg j * B 0 j * det k (mnr B j)
def setC (B : Mx) (t : Nat) (v : Nat → Rat) : Mx := fun r c => if c = t then v r else B r c
theorem det_congr : ∀ {k : Nat} {B C : Mx}, (∀ r c, r < k → c < k → B r c = C r c) → det k B = det k C
  | 0, _, _, _ => rfl
  | k + 1, B, C, h => by
    unfold det
    refine sm_congr fun j hj => ?_
    rw [h 0 j (by omega) hj, det_congr (C := mnr C j) fun r c hr hc => by unfold mnr; exact h _ _ (by omega) (by split <;> omega)]
theorem mnr_setC_self (B : Mx) (t : Nat) (v : Nat → Rat) : mnr (setC B t v) t = mnr B t := by
  funext r c
  unfold mnr setC
  rw [if_neg (by split <;> omega)]
theorem mnr_setC_ne (B : Mx) (t j : Nat) (v : Nat → Rat) (h : j ≠ t) : mnr (setC B t v) j = setC (mnr B j) (if t < j then t else t - 1) (fun r => v (r + 1)) := by
  funext r c
  unfold mnr setC
  by_cases hc : c < j
  · rw [if_pos hc]
    by_cases e : c = t
    · subst e; rw [if_pos rfl, if_pos hc, if_pos rfl]
    · rw [if_neg e, if_neg (by split <;> omega)]
      show _ = B (r + 1) (if c < j then c else c + 1)
      rw [if_pos hc]
  · rw [if_neg hc]
    by_cases e : c + 1 = t
    · rw [if_pos e, if_neg (show ¬ t < j by omega), if_pos (by omega)]
    · rw [if_neg e, if_neg (by split <;> omega)]
      show _ = B (r + 1) (if c < j then c else c + 1)
      rw [if_neg hc]
theorem det_lin : ∀ {k : Nat} (B : Mx) {t : Nat} (a : Rat) (u v : Nat → Rat), t < k → det k (setC B t fun r => a * u r + v r) = a * det k (setC B t u) + det k (setC B t v)
  | 0, _, _, _, _, _, h => by omega
  | k + 1, B, t, a, u, v, h => by
    unfold det
    rw [← sm_mul, ← sm_add]
    refine sm_congr fun j hj => ?_
    by_cases e : j = t
    · subst e
      rw [mnr_setC_self, mnr_setC_self, mnr_setC_self]
      have h1 : ∀ w : Nat → Rat, setC B j w 0 j = w 0 := fun w => if_pos rfl
      rw [h1, h1, h1]
      grind
    · rw [mnr_setC_ne _ _ _ _ e, mnr_setC_ne _ _ _ _ e, mnr_setC_ne _ _ _ _ e]
      have h1 : ∀ w : Nat → Rat, setC B t w 0 j = B 0 j := fun w => if_neg e
      rw [h1, h1, h1]
      rw [det_lin (mnr B j) a (fun r => u (r + 1)) (fun r => v (r + 1)) (by split <;> omega)]
      grind
theorem det_adj : ∀ {k : Nat} {B : Mx} {t : Nat}, t + 1 < k → (∀ r, B r t = B r (t + 1)) → det k B = 0
  | 0, _, _, h, _ => by omega
  | k + 1, B, t, h, e => by
    unfold det
    refine sm_two h (fun j hj h1 h2 => ?_) ?_
    · have : det k (mnr B j) = 0 := by
        by_cases hjt : j < t
        · refine det_adj (t := t - 1) (by omega) fun r => ?_
          unfold mnr
          rw [if_neg (by omega), if_neg (by omega), show t - 1 + 1 = t by omega]
          exact e _
        · refine det_adj (t := t) (by omega) fun r => ?_
          unfold mnr
          rw [if_pos (by omega), if_pos (by omega)]
          exact e _
      rw [this, Rat.mul_zero]
    · have : mnr B t = mnr B (t + 1) := by
        funext r c
        unfold mnr
        by_cases h1 : c < t
        · rw [if_pos h1, if_pos (by omega)]
        · by_cases h2 : c = t
          · subst h2; rw [if_neg h1, if_pos (by omega)]; exact (e _).symm
          · rw [if_neg h1, if_neg (by omega)]
      rw [this, e 0]
      show sg t * _ * _ + (- sg t) * _ * _ = 0
      grind
theorem setC_id (B : Mx) (t : Nat) : setC B t (fun r => B r t) = B := by
  funext r c
  unfold setC
  split
  · rename_i h; rw [h]
  · rfl
theorem setC_comm (B : Mx) {s t : Nat} (u v : Nat → Rat) (h : s ≠ t) : setC (setC B s u) t v = setC (setC B t v) s u := by
  funext r c
  unfold setC
  by_cases h1 : c = t
  · rw [if_pos h1, if_neg (by omega), if_pos h1]
  · rw [if_neg h1]
    by_cases h2 : c = s
    · rw [if_pos h2, if_pos h2]
    · rw [if_neg h2, if_neg h2, if_neg h1]
theorem det_lin0 {k : Nat} (B : Mx) {t : Nat} (u v : Nat → Rat) (h : t < k) : det k (setC B t fun r => u r + v r) = det k (setC B t u) + det k (setC B t v) := by
  have := det_lin B 1 u v h
  rw [Rat.one_mul] at this
  rw [← this]
  congr 1
  funext r c
  unfold setC
  simp only [Rat.one_mul]
/-- neighbouring columns changed about -/
theorem det_swap {k : Nat} (B : Mx) {t : Nat} (h : t + 1 < k) : det k (setC (setC B t fun r => B r (t + 1)) (t + 1) fun r => B r t) = - det k B := by
  let C := fun (u v : Nat → Rat) => setC (setC B t u) (t + 1) v
  have z : ∀ u, det k (C u u) = 0 := fun u => det_adj h fun r => by
    show setC (setC B t u) (t + 1) u r t = setC (setC B t u) (t + 1) u r (t + 1)
    unfold setC
    rw [if_neg (by omega), if_pos rfl, if_pos rfl]
  have l1 : ∀ u u' v, det k (C (fun r => u r + u' r) v) = det k (C u v) + det k (C u' v) := fun u u' v => by
    show det k (setC (setC B t _) (t + 1) v) = _
    rw [setC_comm _ _ _ (by omega), det_lin0 _ _ _ (by omega)]
    rw [setC_comm B v u (by omega), setC_comm B v u' (by omega)]
  have l2 : ∀ u v v', det k (C u (fun r => v r + v' r)) = det k (C u v) + det k (C u v') := fun u v v' => det_lin0 _ _ _ h
  let p := fun r => B r t
  let q := fun r => B r (t + 1)
  have e0 := z (fun r => p r + q r)
  rw [l1, l2, l2, z p, z q] at e0
  have eB : C p q = B := by
    funext r c
    show setC (setC B t p) (t + 1) q r c = B r c
    unfold setC
    by_cases h1 : c = t + 1
    · subst h1; rw [if_pos rfl]
    · rw [if_neg h1]
      by_cases h2 : c = t
      · subst h2; rw [if_pos rfl]
      · rw [if_neg h2]
  rw [eB] at e0
  show det k (C q p) = - det k B
  grind
/-- two equal columns -/
theorem det_eq : ∀ (d : Nat) {k : Nat} {B : Mx} {i j : Nat}, j = i + d + 1 → j < k → (∀ r, B r i = B r j) → det k B = 0
  | 0, k, B, i, j, hd, hj, e => det_adj (t := i) (by omega) (fun r => by rw [e, hd])
  | d + 1, k, B, i, j, hd, hj, e => by
    have sw := det_swap B (t := i + d + 1) (k := k) (by omega)
    have z : det k (setC (setC B (i + d + 1) fun r => B r (i + d + 1 + 1)) (i + d + 1 + 1) fun r => B r (i + d + 1)) = 0 :=
      det_eq d (i := i) (j := i + d + 1) rfl (by omega) fun r => by
        unfold setC
        rw [if_neg (by omega), if_neg (by omega), if_neg (by omega), if_pos rfl, e, hd]
        rfl
    rw [z] at sw
    grind
theorem det_eq2 {k : Nat} {B : Mx} {i j : Nat} (h : i ≠ j) (hi : i < k) (hj : j < k) (e : ∀ r, B r i = B r j) : det k B = 0 := by
  by_cases q : i < j
  · exact det_eq (j - i - 1) (by omega) hj e
  · exact det_eq (i - j - 1) (i := j) (j := i) (by omega) hi fun r => (e r).symm
/-- a sum of columns put in the place of t -/
theorem det_comb {k : Nat} (B : Mx) {t : Nat} (h : t < k) (y : Nat → Rat) (v : Nat → Rat) : ∀ m, m ≤ k → det k (setC B t fun r => sm m (fun e => y e * B r e) + v r) = (if t < m then y t * det k B else 0) + det k (setC B t v)
  | 0, _ => by
    rw [if_neg (by omega), Rat.zero_add]
    congr 1
    funext r c
    unfold setC sm
    simp only [Rat.zero_add]
  | m + 1, hm => by
    have ih := det_comb B h y v m (by omega)
    have e1 : (setC B t fun r => sm (m + 1) (fun e => y e * B r e) + v r) = setC B t fun r => y m * B r m + (sm m (fun e => y e * B r e) + v r) := by
      congr 1
      funext r
      rw [sm]
      grind
    rw [e1, det_lin B _ _ _ h, ih]
    by_cases q : m = t
    · subst q
      rw [setC_id, if_neg (by omega), if_pos (by omega)]
      grind
    · have z : det k (setC B t fun r => B r m) = 0 := det_eq2 (i := m) (j := t) q (by omega) h fun r => by
        unfold setC
        rw [if_neg q, if_pos rfl]
      rw [z]
      by_cases q2 : t < m
      · rw [if_pos q2, if_pos (by omega)]; grind
      · rw [if_neg q2, if_neg (by omega)]; grind
/-- Cramer -/
theorem cramer {k : Nat} {B : Mx} {y b : Nat → Rat} (h : ∀ r, r < k → sm k (fun e => B r e * y e) = b r) {t : Nat} (ht : t < k) : det k B * y t = det k (setC B t b) := by
  have c := det_comb B ht y (fun _ => 0) k (Nat.le_refl _)
  rw [if_pos ht] at c
  have z : det k (setC B t fun _ => 0) = 0 := by
    have := det_lin B (-1) (fun _ => 0) (fun _ => 0) ht
    have e : (fun (_ : Nat) => (-1 : Rat) * 0 + 0) = fun _ => 0 := by funext _; grind
    rw [e] at this
    grind
  rw [z, Rat.add_zero] at c
  rw [Rat.mul_comm, ← c]
  refine det_congr fun r cc hr hc => ?_
  unfold setC
  split
  · simp only [Rat.add_zero]
    rw [← h r hr]
    exact sm_congr fun i _ => Rat.mul_comm _ _
  · rfl
/-- the last column has one entry -/
theorem det_last : ∀ {k : Nat} {B : Mx}, (∀ r, r < k → B r k = 0) → det (k + 1) B = B k k * det k B
  | 0, B, h => by
    show 0 + 1 * B 0 0 * 1 = B 0 0 * 1
    grind
  | k + 1, B, h => by
    have e : det (k + 2) B = sm (k + 2) fun j => sg j * B 0 j * det (k + 1) (mnr B j) := rfl
    rw [e, sm, h 0 (by omega)]
    have z : sm (k + 1) (fun j => sg j * B 0 j * det (k + 1) (mnr B j)) = sm (k + 1) fun j => B (k + 1) (k + 1) * (sg j * B 0 j * det k (mnr B j)) := by
      refine sm_congr fun j hj => ?_
      rw [det_last (B := mnr B j) fun r hr => by
        unfold mnr
        rw [if_neg (by omega)]
        exact h _ (by omega)]
      have : mnr B j k k = B (k + 1) (k + 1) := by unfold mnr; rw [if_neg (by omega)]
      rw [this]
      grind
    rw [z, sm_mul]
    show B (k + 1) (k + 1) * det (k + 1) B + _ = _
    grind
/-- column t plus others -/
theorem det_addcol {k : Nat} (B : Mx) {t : Nat} (h : t < k) (y v : Nat → Rat) (hv : ∀ r, r < k → v r = B r t + sm k (fun e => if e = t then 0 else y e * B r e)) : det k (setC B t v) = det k B := by
  have c := det_comb B h (fun e => if e = t then 0 else y e) (fun r => B r t) k (Nat.le_refl _)
  simp only [if_pos h, if_true] at c
  rw [setC_id] at c
  have e : det k (setC B t v) = det k (setC B t fun r => sm k (fun e => (if e = t then 0 else y e) * B r e) + B r t) := det_congr fun r cc hr hc => by
    unfold setC
    split
    · rw [hv r hr, Rat.add_comm]
      congr 1
      refine sm_congr fun i _ => ?_
      split
      · exact (Rat.zero_mul _).symm
      · rfl
    · rfl
  rw [e, c]
  grind
end Fc

namespace Fc
/-! ## whole numbers and their size -/
def Iz (r : Rat) (b : Nat) : Prop := ∃ z : Int, r = (z : Rat) ∧ z.natAbs ≤ b
theorem Iz.mono {r : Rat} {a b : Nat} (h : Iz r a) (hb : a ≤ b) : Iz r b := let ⟨z, e, q⟩ := h; ⟨z, e, by omega⟩
theorem Iz.add {r q : Rat} {a b : Nat} (h : Iz r a) (g : Iz q b) : Iz (r + q) (a + b) := by
  obtain ⟨z, rfl, hz⟩ := h
  obtain ⟨y, rfl, hy⟩ := g
  exact ⟨z + y, (Rat.intCast_add z y).symm, by have := Int.natAbs_add_le z y; omega⟩
theorem Iz.neg {r : Rat} {a : Nat} (h : Iz r a) : Iz (-r) a := by
  obtain ⟨z, rfl, hz⟩ := h
  exact ⟨-z, (Rat.intCast_neg z).symm, by omega⟩
theorem Iz.mul {r q : Rat} {a b : Nat} (h : Iz r a) (g : Iz q b) : Iz (r * q) (a * b) := by
  obtain ⟨z, rfl, hz⟩ := h
  obtain ⟨y, rfl, hy⟩ := g
  exact ⟨z * y, (Rat.intCast_mul z y).symm, by rw [Int.natAbs_mul]; exact Nat.mul_le_mul hz hy⟩
theorem Iz.zero (b : Nat) : Iz 0 b := ⟨0, rfl, Nat.zero_le _⟩
theorem Iz.sm {b : Nat} {f : Nat → Rat} : ∀ {n : Nat}, (∀ i, i < n → Iz (f i) b) → Iz (sm n f) (n * b)
  | 0, _ => Iz.zero _
  | n + 1, h => by
    rw [Fc.sm, Nat.succ_mul]
    exact (Iz.sm fun i hi => h i (by omega)).add (h n (by omega))
def fc : Nat → Nat
  | 0 => 1
  | k + 1 => (k + 1) * fc k
theorem sg_iz : ∀ n, Iz (sg n) 1
  | 0 => ⟨1, rfl, by decide⟩
  | n + 1 => (sg_iz n).neg
theorem det_iz {m : Nat} : ∀ {k : Nat} {B : Mx}, (∀ r c, r < k → c < k → Iz (B r c) m) → Iz (det k B) (fc k * m ^ k)
  | 0, _, _ => ⟨1, rfl, by simp [fc]⟩
  | k + 1, B, h => by
    unfold det
    have := Iz.sm (b := 1 * m * (fc k * m ^ k)) (n := k + 1) (f := fun j => sg j * B 0 j * det k (mnr B j)) fun j hj =>
      ((sg_iz j).mul (h 0 j (by omega) hj)).mul (det_iz fun r c hr hc => by unfold mnr; exact h _ _ (by omega) (by split <;> omega))
    refine this.mono (Nat.le_of_eq ?_)
    rw [fc, Nat.pow_succ]
    grind
/-- a fraction by a multiple that is whole -/
theorem size_of {r e : Rat} {a b : Nat} (he : e ≠ 0) (h1 : Iz e a) (h2 : Iz (r * e) b) : r.num.natAbs ≤ b ∧ r.den ≤ a := by
  obtain ⟨y, rfl, hy⟩ := h1
  obtain ⟨z, hz, hzb⟩ := h2
  have hy0 : y ≠ 0 := fun q => he (by rw [q]; rfl)
  -- r.num * y = z * r.den
  have key : r.num * y = z * (r.den : Int) := by
    have hd : (r.den : Rat) ≠ 0 := fun q => r.den_nz (Rat.natCast_eq_zero_iff.mp q)
    have hr : r * (r.den : Rat) = (r.num : Rat) := by
      have q : r = (r.num : Rat) / (r.den : Rat) := by rw [← Rat.mkRat_eq_div, Rat.mkRat_self]
      conv => lhs; lhs; rw [q]
      exact Rat.div_mul_cancel hd
    have e1 : (r.num : Rat) * (y : Rat) = (z : Rat) * ((r.den : Int) : Rat) := by
      rw [← hr, ← hz, Rat.intCast_natCast]
      grind
    rw [← Rat.intCast_mul, ← Rat.intCast_mul] at e1
    exact Rat.intCast_inj.mp e1
  have cop : Nat.Coprime r.num.natAbs r.den := r.reduced
  have kn : r.num.natAbs * y.natAbs = z.natAbs * r.den := by
    have := congrArg Int.natAbs key
    rwa [Int.natAbs_mul, Int.natAbs_mul, Int.natAbs_natCast] at this
  have hden : r.den ∣ y.natAbs := by
    have : r.den ∣ r.num.natAbs * y.natAbs := ⟨z.natAbs, by rw [kn, Nat.mul_comm]⟩
    exact (Nat.Coprime.dvd_of_dvd_mul_left cop.symm this)
  have hnum : r.num.natAbs ∣ z.natAbs := by
    have : r.num.natAbs ∣ z.natAbs * r.den := ⟨y.natAbs, kn.symm⟩
    exact (Nat.Coprime.dvd_of_dvd_mul_right cop this)
  refine ⟨?_, Nat.le_trans (Nat.le_of_dvd (by omega) hden) hy⟩
  by_cases h0 : z = 0
  · subst h0
    have hn : r.num = 0 := by
      rw [Int.zero_mul] at key
      rcases Int.mul_eq_zero.mp key with q | q
      · exact q
      · exact absurd q hy0
    rw [hn]; exact Nat.zero_le _
  · exact Nat.le_trans (Nat.le_of_dvd (by omega) hnum) hzb

/-! ## the elimination -/
def dl (i c : Nat) : Rat := if i = c then 1 else 0
def nrm (p : Nat) (M : Mx) (c : Nat) : Rat := if c = p then 0 else M p c / (1 - M p p)
def stp (p : Nat) (M : Mx) : Mx := fun i c => if i = p then nrm p M c else if i < p then (if c = p then 0 else M i c + M i p * nrm p M c) else M i c
def el (n : Nat) (M : Mx) : Nat → Mx
  | 0 => M
  | k + 1 => stp (n - 1 - k) (el n M k)
/-- what is asked of the rows: nothing negative, strictly below a positive h -/
structure Sup (n : Nat) (M : Mx) (h : Nat → Rat) : Prop where
  nn : ∀ i c, 0 ≤ M i c
  pos : ∀ i, i < n → 0 < h i
  lt : ∀ i, i < n → sm n (fun c => M i c * h c) < h i
structure EI (n k : Nat) (M0 M : Mx) (h : Nat → Rat) : Prop where
  nn : ∀ i c, 0 ≤ M i c
  row : ∀ i, i < n - k → ∃ y : Nat → Rat, ∀ c, dl i c - M i c = (dl i c - M0 i c) + sm k (fun t => y t * (dl (n - 1 - t) c - M0 (n - 1 - t) c))
  zero : ∀ i, i < n - k → ∀ c, n - k ≤ c → c < n → M i c = 0
  lt : ∀ i, i < n - k → sm (n - k) (fun c => M i c * h c) < h i
  low : ∀ i, n - k ≤ i → i < n → ∀ c, i ≤ c → c < n → M i c = 0
theorem sm_pick {n p : Nat} {f : Nat → Rat} (hp : p < n) : sm n f = f p + sm n (fun c => if c = p then 0 else f c) := by
  have : sm n f = sm n (fun c => (if c = p then f p else 0) + (if c = p then 0 else f c)) := sm_congr fun i _ => by
    split
    · rename_i e; rw [e, Rat.add_zero]
    · rw [Rat.zero_add]
  rw [this, sm_add, sm_at (k := p) hp (fun i _ hi => if_neg hi), if_pos rfl]
theorem EI.piv {n k : Nat} {M0 M : Mx} {h : Nat → Rat} (E : EI n k M0 M h) (hp : ∀ i, i < n → 0 < h i) (hk : k < n) : M (n - 1 - k) (n - 1 - k) < 1 := by
  have hlt := E.lt (n - 1 - k) (by omega)
  have hh := hp (n - 1 - k) (by omega)
  rw [sm_pick (p := n - 1 - k) (by omega)] at hlt
  have h2 : 0 ≤ sm (n - k) (fun c => if c = n - 1 - k then 0 else M (n - 1 - k) c * h c) := sm_nonneg fun i hi => by
    split
    · exact Rat.le_refl
    · exact Rat.mul_nonneg (E.nn _ _) (Rat.le_of_lt (hp i (by omega)))
  have h3 : M (n - 1 - k) (n - 1 - k) * h (n - 1 - k) < 1 * h (n - 1 - k) := by grind
  exact Rat.lt_of_mul_lt_mul_right h3 (Rat.le_of_lt hh)
theorem EI.start {n : Nat} {M : Mx} {h : Nat → Rat} (s : Sup n M h) : EI n 0 M M h where
  nn := s.nn
  row := fun i _ => ⟨fun _ => 0, fun c => by rw [sm]; exact (Rat.add_zero _).symm⟩
  zero := fun i hi c h1 h2 => by omega
  lt := fun i hi => s.lt i (by omega)
  low := fun i h1 h2 => by omega
theorem EI.step {n k : Nat} {M0 M : Mx} {h : Nat → Rat} (E : EI n k M0 M h) (hp : ∀ i, i < n → 0 < h i) (hk : k < n) : EI n (k + 1) M0 (stp (n - 1 - k) M) h := by
  have pv := E.piv hp hk
  generalize hpp : n - 1 - k = p at *
  have hpn : p < n := by omega
  have hnk : n - k = p + 1 := by omega
  have hnk1 : n - (k + 1) = p := by omega
  have d0 : (1 : Rat) - M p p ≠ 0 := by grind
  have dp : (0 : Rat) < 1 - M p p := by grind
  have nn : ∀ c, 0 ≤ nrm p M c := fun c => by
    unfold nrm
    split
    · exact Rat.le_refl
    · rw [Rat.div_def]; exact Rat.mul_nonneg (E.nn _ _) (Rat.le_of_lt (Rat.inv_pos.mpr dp))
  have hst : ∀ i c, i < p → stp p M i c = if c = p then 0 else M i c + M i p * nrm p M c := fun i c hi => by
    unfold stp; rw [if_neg (by omega), if_pos hi]
  have hsum : sm p (fun c => nrm p M c * h c) < h p := by
    have hl := E.lt p (by omega)
    rw [hnk, sm] at hl
    have e : sm p (fun c => nrm p M c * h c) = sm p (fun c => M p c * h c) / (1 - M p p) := by
      rw [Rat.div_def, ← sm_mul_right]
      refine sm_congr fun c hc => ?_
      unfold nrm
      rw [if_neg (by omega), Rat.div_def]
      grind
    rw [e, Rat.div_lt_iff dp]
    grind
  refine ⟨fun i c => ?_, fun i hi => ?_, fun i hi c h1 h2 => ?_, fun i hi => ?_, fun i h1 h2 c h3 h4 => ?_⟩
  · unfold stp
    split
    · exact nn c
    · split
      · split
        · exact Rat.le_refl
        · exact Rat.add_nonneg (E.nn _ _) (Rat.mul_nonneg (E.nn _ _) (nn c))
      · exact E.nn _ _
  · rw [hnk1] at hi
    obtain ⟨y, hy⟩ := E.row i (by omega)
    obtain ⟨z, hz⟩ := E.row p (by omega)
    -- new row: old + f * row p
    refine ⟨fun t => if t = k then M i p / (1 - M p p) else y t + M i p / (1 - M p p) * z t, fun c => ?_⟩
    have e1 : dl i c - stp p M i c = (dl i c - M i c) + M i p / (1 - M p p) * (dl p c - M p c) := by
      rw [hst i c hi]
      by_cases hc : c = p
      · subst hc
        have e2 : dl c c = 1 := if_pos rfl
        have e3 : dl i c = 0 := if_neg (by omega)
        rw [if_pos rfl, e2, e3]
        have : M i c / (1 - M c c) * (1 - M c c) = M i c := Rat.div_mul_cancel d0
        grind
      · have e2 : dl p c = 0 := if_neg (by omega)
        rw [if_neg hc, e2]
        unfold nrm
        rw [if_neg hc, Rat.div_def, Rat.div_def]
        grind
    have e4 : sm (k + 1) (fun t => (if t = k then M i p / (1 - M p p) else y t + M i p / (1 - M p p) * z t) * (dl (n - 1 - t) c - M0 (n - 1 - t) c)) =
        sm k (fun t => y t * (dl (n - 1 - t) c - M0 (n - 1 - t) c)) + M i p / (1 - M p p) * sm k (fun t => z t * (dl (n - 1 - t) c - M0 (n - 1 - t) c)) + M i p / (1 - M p p) * (dl p c - M0 p c) := by
      rw [sm, ← sm_mul, ← sm_add, if_pos rfl, hpp]
      congr 1
      refine sm_congr fun t ht => ?_
      rw [if_neg (by omega)]
      grind
    rw [e1, hy c, hz c, e4]
    grind
  · rw [hnk1] at hi h1
    rw [hst i c hi]
    by_cases hc : c = p
    · rw [if_pos hc]
    · rw [if_neg hc, E.zero i (by omega) c (by omega) h2]
      unfold nrm
      rw [if_neg hc, E.zero p (by omega) c (by omega) h2, Rat.div_def]
      grind
  · rw [hnk1] at hi ⊢
    have hl := E.lt i (by omega)
    rw [hnk, sm] at hl
    have e : sm p (fun c => stp p M i c * h c) = sm p (fun c => M i c * h c) + M i p * sm p (fun c => nrm p M c * h c) := by
      rw [← sm_mul, ← sm_add]
      refine sm_congr fun c hc => ?_
      rw [hst i c hi, if_neg (by omega)]
      grind
    rw [e]
    have := Rat.mul_le_mul_of_nonneg_left (Rat.le_of_lt hsum) (E.nn i p)
    grind
  · rw [hnk1] at h1
    unfold stp
    by_cases hip : i = p
    · rw [if_pos hip]
      unfold nrm
      by_cases hc : c = p
      · rw [if_pos hc]
      · rw [if_neg hc, E.zero p (by omega) c (by omega) h4, Rat.div_def]; grind
    · rw [if_neg hip, if_neg (by omega)]
      exact E.low i (by omega) h2 c h3 h4
theorem el_ei {n : Nat} {M : Mx} {h : Nat → Rat} (s : Sup n M h) : ∀ k, k ≤ n → EI n k M (el n M k) h
  | 0, _ => EI.start s
  | k + 1, hk => (el_ei s k (by omega)).step s.pos (by omega)
/-- row p stays as it was made -/
theorem el_keep (n : Nat) (M : Mx) : ∀ {k : Nat} {i : Nat}, n - k ≤ i → k ≤ n → ∀ j, k ≤ j → j ≤ n → el n M j i = el n M k i
  | k, i, hi, hk, j, h1, h2 => by
    induction j with
    | zero => rw [show k = 0 by omega]
    | succ j ih =>
      by_cases e : k = j + 1
      · rw [e]
      · rw [← ih (by omega) (by omega)]
        funext c
        show stp (n - 1 - j) (el n M j) i c = el n M j i c
        unfold stp
        rw [if_neg (by omega), if_neg (by omega)]
theorem el_row (n : Nat) (M : Mx) {k : Nat} (hk : k < n) : el n M n (n - 1 - k) = nrm (n - 1 - k) (el n M k) := by
  rw [el_keep n M (k := k + 1) (i := n - 1 - k) (by omega) (by omega) n (by omega) (Nat.le_refl _)]
  funext c
  show stp (n - 1 - k) (el n M k) (n - 1 - k) c = _
  unfold stp
  rw [if_pos rfl]
end Fc

namespace Fc
/-! ## the size of what the elimination meets -/
structure Fit (n s : Nat) (M : Mx) : Prop where
  iz : ∀ i c, i < n → Iz ((s : Rat) * M i c) s
  s0 : 0 < s
def BM (n s : Nat) (M : Mx) : Mx := fun r t => (s : Rat) * (dl (n - 1 - t) (n - 1 - r) - M (n - 1 - t) (n - 1 - r))
theorem iz_dl (s i c : Nat) : Iz ((s : Rat) * dl i c) s := by
  unfold dl
  split
  · exact ⟨s, by rw [Rat.mul_one, Rat.intCast_natCast], by simp⟩
  · rw [Rat.mul_zero]; exact Iz.zero _
theorem Fit.row {n s : Nat} {M : Mx} (f : Fit n s M) {i : Nat} (hi : i < n) (c : Nat) : Iz ((s : Rat) * (dl i c - M i c)) (2 * s) := by
  have := (iz_dl s i c).add (f.iz i c hi).neg
  have e : (s : Rat) * (dl i c - M i c) = (s : Rat) * dl i c + -((s : Rat) * M i c) := by grind
  rw [e]
  exact this.mono (by omega)
theorem Fit.bm {n s : Nat} {M : Mx} (f : Fit n s M) {r t : Nat} (ht : t < n) : Iz (BM n s M r t) (2 * s) := f.row (by omega) _
theorem s_ne {n s : Nat} {M : Mx} (f : Fit n s M) : (s : Rat) ≠ 0 := fun e => by have := f.s0; rw [Rat.natCast_eq_zero_iff] at e; omega
section
variable {n s : Nat} {M : Mx} {h : Nat → Rat}
theorem det_ne (f : Fit n s M) (u : Sup n M h) : ∀ k, k ≤ n → det k (BM n s M) ≠ 0
  | 0, _ => by show (1 : Rat) ≠ 0; decide
  | k + 1, hk => by
    have E := el_ei u k (by omega)
    have pv := E.piv u.pos (by omega)
    have hs := s_ne f
    obtain ⟨y, hy⟩ := E.row (n - 1 - k) (by omega)
    let v : Nat → Rat := fun r => (s : Rat) * (dl (n - 1 - k) (n - 1 - r) - el n M k (n - 1 - k) (n - 1 - r))
    have e1 : det (k + 1) (setC (BM n s M) k v) = det (k + 1) (BM n s M) := det_addcol _ (by omega) y v fun r hr => by
      show (s : Rat) * _ = _
      rw [hy, sm, if_pos rfl, Rat.add_zero, Rat.mul_add, ← sm_mul]
      show BM n s M r k + _ = _
      congr 1
      refine sm_congr fun t ht => ?_
      rw [if_neg (by omega)]
      show _ = y t * ((s : Rat) * _)
      grind
    have e2 := det_last (k := k) (B := setC (BM n s M) k v) fun r hr => by
      unfold setC
      rw [if_pos rfl]
      show (s : Rat) * _ = 0
      rw [E.zero _ (by omega) _ (by omega) (by omega)]
      unfold dl
      rw [if_neg (by omega)]
      grind
    have e3 : det k (setC (BM n s M) k v) = det k (BM n s M) := det_congr fun r c hr hc => if_neg (by omega)
    rw [← e1, e2, e3]
    have e4 : setC (BM n s M) k v k k = (s : Rat) * (1 - el n M k (n - 1 - k) (n - 1 - k)) := by
      unfold setC
      rw [if_pos rfl]
      show (s : Rat) * (dl _ _ - _) = _
      unfold dl
      rw [if_pos rfl]
    rw [e4]
    intro q
    have ih := det_ne f u k (by omega)
    rcases Rat.mul_eq_zero.mp q with q | q
    · rcases Rat.mul_eq_zero.mp q with q | q
      · exact hs q
      · grind
    · exact ih q
abbrev bd (s k : Nat) : Nat := fc k * (2 * s) ^ k
/-- s D times a row -/
theorem row_iz (f : Fit n s M) (u : Sup n M h) {k : Nat} (hk : k ≤ n) {i : Nat} (hi : i < n - k) (c : Nat) : Iz ((s : Rat) * det k (BM n s M) * (dl i c - el n M k i c)) ((k + 1) * (bd s k * (2 * s))) := by
  have E := el_ei u k hk
  obtain ⟨y, hy⟩ := E.row i hi
  have cr : ∀ t, t < k → Iz (det k (BM n s M) * y t) (bd s k) := fun t ht => by
    rw [cramer (b := fun r => - ((s : Rat) * (dl i (n - 1 - r) - M i (n - 1 - r)))) (fun r hr => ?_) ht]
    · refine det_iz fun r c hr hc => ?_
      unfold setC
      split
      · exact (f.row (by omega) _).neg
      · exact f.bm (by omega)
    · have q := hy (n - 1 - r)
      rw [E.zero i hi _ (by omega) (by omega)] at q
      have z : dl i (n - 1 - r) = 0 := if_neg (by omega)
      have e : sm k (fun e => BM n s M r e * y e) = (s : Rat) * sm k (fun t => y t * (dl (n - 1 - t) (n - 1 - r) - M (n - 1 - t) (n - 1 - r))) := by
        rw [← sm_mul]
        refine sm_congr fun t _ => ?_
        show (s : Rat) * _ * _ = _
        grind
      rw [e]
      rw [z] at q ⊢
      have q2 : sm k (fun t => y t * (dl (n - 1 - t) (n - 1 - r) - M (n - 1 - t) (n - 1 - r))) = M i (n - 1 - r) := by grind
      rw [q2]
      grind
  have e : (s : Rat) * det k (BM n s M) * (dl i c - el n M k i c) = det k (BM n s M) * ((s : Rat) * (dl i c - M i c)) + sm k (fun t => (det k (BM n s M) * y t) * ((s : Rat) * (dl (n - 1 - t) c - M (n - 1 - t) c))) := by
    rw [hy c]
    have : sm k (fun t => (det k (BM n s M) * y t) * ((s : Rat) * (dl (n - 1 - t) c - M (n - 1 - t) c))) = (s : Rat) * det k (BM n s M) * sm k (fun t => y t * (dl (n - 1 - t) c - M (n - 1 - t) c)) := by
      rw [← sm_mul]
      exact sm_congr fun t _ => by grind
    rw [this]
    grind
  rw [e]
  have a := (det_iz (k := k) (B := BM n s M) (m := 2 * s) fun r c hr hc => f.bm (by omega)).mul (f.row (show i < n by omega) c)
  have b := Iz.sm (n := k) (b := bd s k * (2 * s)) (f := fun t => (det k (BM n s M) * y t) * ((s : Rat) * (dl (n - 1 - t) c - M (n - 1 - t) c))) fun t ht => (cr t ht).mul (f.row (by omega) c)
  refine (a.add b).mono ?_
  show bd s k * (2 * s) + k * (bd s k * (2 * s)) ≤ _
  generalize bd s k * (2 * s) = Q
  have e2 : (k + 1) * Q = k * Q + Q := Nat.succ_mul _ _
  omega
theorem sd_iz (f : Fit n s M) {k : Nat} (hk : k ≤ n) : Iz ((s : Rat) * det k (BM n s M)) (s * bd s k) :=
  (show Iz (s : Rat) s from ⟨s, by rw [Rat.intCast_natCast], by simp⟩).mul (det_iz fun r c hr hc => f.bm (by omega))
theorem sd_ne (f : Fit n s M) (u : Sup n M h) {k : Nat} (hk : k ≤ n) : (s : Rat) * det k (BM n s M) ≠ 0 := fun e => (Rat.mul_eq_zero.mp e).elim (s_ne f) (det_ne f u k hk)
/-- s D times an entry -/
theorem ent_iz (f : Fit n s M) (u : Sup n M h) {k : Nat} (hk : k ≤ n) {i : Nat} (hi : i < n - k) (c : Nat) : Iz (el n M k i c * ((s : Rat) * det k (BM n s M))) ((k + 2) * (bd s k * (2 * s))) := by
  have e : el n M k i c * ((s : Rat) * det k (BM n s M)) = ((s : Rat) * dl i c) * det k (BM n s M) + -((s : Rat) * det k (BM n s M) * (dl i c - el n M k i c)) := by grind
  rw [e]
  have a := (iz_dl s i c).mul (det_iz (k := k) (B := BM n s M) (m := 2 * s) fun r c hr hc => f.bm (by omega))
  refine (a.add (row_iz f u hk hi c).neg).mono ?_
  have : s * bd s k ≤ bd s k * (2 * s) := by rw [Nat.mul_comm s]; exact Nat.mul_le_mul_left _ (by omega)
  generalize bd s k * (2 * s) = Q at *
  have e2 : (k + 2) * Q = (k + 1) * Q + Q := Nat.succ_mul _ _
  have e3 : s * (fc k * (2 * s) ^ k) = s * bd s k := rfl
  rw [e2, e3]
  omega
/-- the same of a row that was made -/
def ep (n s : Nat) (M : Mx) (k : Nat) : Rat := (s : Rat) * det k (BM n s M) * (1 - el n M k (n - 1 - k) (n - 1 - k))
theorem ep_ne (f : Fit n s M) (u : Sup n M h) {k : Nat} (hk : k < n) : ep n s M k ≠ 0 := fun e => by
  have pv := (el_ei u k (by omega)).piv u.pos hk
  rcases Rat.mul_eq_zero.mp e with e | e
  · exact sd_ne f u (by omega) e
  · grind
theorem ep_iz (f : Fit n s M) (u : Sup n M h) {k : Nat} (hk : k < n) : Iz (ep n s M k) ((k + 1) * (bd s k * (2 * s))) := by
  have := row_iz f u (k := k) (by omega) (i := n - 1 - k) (by omega) (n - 1 - k)
  unfold dl at this
  rw [if_pos rfl] at this
  exact this
theorem nrm_iz (f : Fit n s M) (u : Sup n M h) {k : Nat} (hk : k < n) (c : Nat) : Iz (nrm (n - 1 - k) (el n M k) c * ep n s M k) ((k + 2) * (bd s k * (2 * s))) := by
  have pv := (el_ei u k (by omega)).piv u.pos hk
  unfold nrm
  split
  · rw [Rat.zero_mul]; exact Iz.zero _
  · have e : el n M k (n - 1 - k) c / (1 - el n M k (n - 1 - k) (n - 1 - k)) * ep n s M k = el n M k (n - 1 - k) c * ((s : Rat) * det k (BM n s M)) := by
      have d : (1 : Rat) - el n M k (n - 1 - k) (n - 1 - k) ≠ 0 := by grind
      unfold ep
      rw [Rat.div_def]
      have := Rat.inv_mul_cancel _ d
      grind
    rw [e]
    exact ent_iz f u (by omega) (by omega) c

/-! ## the solution -/
/-- the first p values -/
def sol (n : Nat) (R : Mx) (o : Nat) : Nat → Nat → Rat
  | 0 => fun _ => 0
  | p + 1 => fun j => if j = p then R p (n + o) + sm p (fun c => R p c * sol n R o p c) else sol n R o p j
theorem sol_keep (n : Nat) (R : Mx) (o : Nat) {j : Nat} : ∀ {p q : Nat}, j < p → p ≤ q → sol n R o q j = sol n R o p j := by
  intro p q hj hq
  induction q with
  | zero => omega
  | succ q ih =>
    by_cases e : p = q + 1
    · rw [e]
    · rw [← ih (by omega)]
      show (if j = q then _ else _) = _
      rw [if_neg (by omega)]
def X (n : Nat) (M : Mx) (o j : Nat) : Rat := sol n (el n M n) o n j
theorem X_eq (n : Nat) (M : Mx) (o : Nat) {p : Nat} (hp : p < n) : X n M o p = el n M n p (n + o) + sm p (fun c => el n M n p c * X n M o c) := by
  unfold X
  rw [sol_keep n _ o (p := p + 1) (by omega) (by omega)]
  show (if p = p then _ else _) = _
  rw [if_pos rfl]
  congr 1
  exact sm_congr fun c hc => by rw [sol_keep n _ o (p := p) (q := n) hc (by omega)]
/-- it solves each stage -/
theorem X_stage (u : Sup n M h) (o : Nat) : ∀ d k, k + d = n → ∀ i, i < n - k → X n M o i = sm (n - k) (fun c => el n M k i c * X n M o c) + el n M k i (n + o)
  | 0, k, hd, i, hi => by omega
  | d + 1, k, hd, i, hi => by
    have ih := X_stage u o d (k + 1) (by omega)
    have E := el_ei u k (by omega)
    have pv := E.piv u.pos (by omega)
    have xr := X_eq n M o (p := n - 1 - k) (by omega)
    rw [el_row n M (by omega)] at xr
    generalize hpp : n - 1 - k = p at *
    rw [show n - (k + 1) = p by omega] at ih
    rw [show n - k = p + 1 by omega, sm]
    have d0 : (1 : Rat) - el n M k p p ≠ 0 := by grind
    have hnp : n + o ≠ p := by omega
    by_cases e : i = p
    · subst e
      have q1 : sm i (fun c => nrm i (el n M k) c * X n M o c) = sm i (fun c => el n M k i c * X n M o c) / (1 - el n M k i i) := by
        rw [Rat.div_def, ← sm_mul_right]
        refine sm_congr fun c hc => ?_
        unfold nrm
        rw [if_neg (by omega), Rat.div_def]
        grind
      have q2 : nrm i (el n M k) (n + o) = el n M k i (n + o) / (1 - el n M k i i) := if_neg hnp
      rw [q1, q2] at xr
      have : X n M o i * (1 - el n M k i i) = el n M k i (n + o) + sm i (fun c => el n M k i c * X n M o c) := by
        rw [xr, Rat.add_mul, Rat.div_mul_cancel d0, Rat.div_mul_cancel d0]
      grind
    · have q := ih i (by omega)
      have st : ∀ c, el n M (k + 1) i c = if c = p then 0 else el n M k i c + el n M k i p * nrm p (el n M k) c := fun c => by
        show stp (n - 1 - k) (el n M k) i c = _
        rw [hpp]
        unfold stp
        rw [if_neg e, if_pos (by omega)]
      rw [st, if_neg hnp] at q
      have q1 : sm p (fun c => el n M (k + 1) i c * X n M o c) = sm p (fun c => el n M k i c * X n M o c) + el n M k i p * sm p (fun c => nrm p (el n M k) c * X n M o c) := by
        rw [← sm_mul, ← sm_add]
        refine sm_congr fun c hc => ?_
        rw [st, if_neg (by omega)]
        grind
      rw [q1] at q
      rw [q, xr]
      grind
theorem X_solves (u : Sup n M h) (o : Nat) {i : Nat} (hi : i < n) : X n M o i = sm n (fun c => M i c * X n M o c) + M i (n + o) := X_stage u o n 0 (by omega) i (by omega)
/-- a common multiple of all values -/
theorem X_iz (f : Fit n s M) (u : Sup n M h) (o : Nat) : ∀ p, p < n → Iz (X n M o p * ((s : Rat) * det n (BM n s M))) (n * (bd s n * (2 * s))) := by
  let Xc : Mx := fun p c => if c < n then 0 else X n M (c - n) p
  have key : ∀ m p, p < m → p < n → ∃ w : Nat → Rat, ∀ c, dl p c - Xc p c = sm n (fun t => w t * (dl (n - 1 - t) c - M (n - 1 - t) c)) := by
    intro m
    induction m with
    | zero => intro p hp; omega
    | succ m ih =>
      intro p hp hpn
      obtain ⟨k, hk⟩ : ∃ k, n - 1 - k = p ∧ k < n := ⟨n - 1 - p, by omega, by omega⟩
      obtain ⟨hkp, hkn⟩ := hk
      have E := el_ei u k (by omega)
      have En := el_ei u n (Nat.le_refl _)
      have pv := E.piv u.pos hkn
      obtain ⟨y, hy⟩ := E.row (n - 1 - k) (by omega)
      have rw1 := el_row n M hkn
      rw [hkp] at pv hy rw1
      have d0 : (1 : Rat) - el n M k p p ≠ 0 := by grind
      have W : ∃ W : Nat → Nat → Rat, ∀ j, j < p → ∀ c, dl j c - Xc j c = sm n (fun t => W j t * (dl (n - 1 - t) c - M (n - 1 - t) c)) := by
        refine ⟨fun j => if hj : j < p then Classical.choose (ih j (by omega) (by omega)) else fun _ => 0, fun j hj c => ?_⟩
        simp only [dif_pos hj]
        exact Classical.choose_spec (ih j (by omega) (by omega)) c
      obtain ⟨W, hW⟩ := W
      refine ⟨fun t => (if t < k then y t else if t = k then 1 else 0) * (1 - el n M k p p)⁻¹ + sm p (fun j => el n M n p j * W j t), fun c => ?_⟩
      -- the row that was made
      have e1 : dl p c - el n M n p c = (1 - el n M k p p)⁻¹ * (dl p c - el n M k p c) := by
        rw [rw1]
        unfold nrm
        by_cases hc : c = p
        · subst hc
          rw [if_pos rfl]
          have : dl c c = 1 := if_pos rfl
          rw [this, Rat.inv_mul_cancel _ d0]
          grind
        · rw [if_neg hc, Rat.div_def]
          have : dl p c = 0 := if_neg (by omega)
          rw [this]
          grind
      have e2 : dl p c - Xc p c = (dl p c - el n M n p c) + sm p (fun j => el n M n p j * (dl j c - Xc j c)) := by
        show dl p c - (if c < n then 0 else X n M (c - n) p) = _
        by_cases hc : c < n
        · rw [if_pos hc]
          have : sm p (fun j => el n M n p j * (dl j c - Xc j c)) = sm p (fun j => el n M n p j * dl j c) := sm_congr fun j _ => by
            show _ * (_ - (if c < n then 0 else _)) = _
            rw [if_pos hc]
            grind
          rw [this]
          by_cases hcp : c < p
          · rw [sm_at (k := c) hcp (fun j _ hj => by
              have : dl j c = 0 := if_neg hj
              rw [this, Rat.mul_zero])]
            have : dl c c = 1 := if_pos rfl
            rw [this]
            grind
          · rw [sm_zero (fun j hj => by
              have : dl j c = 0 := if_neg (by omega)
              rw [this, Rat.mul_zero]), En.low p (by omega) hpn c (by omega) hc]
            grind
        · rw [if_neg hc]
          have xq := X_eq n M (c - n) hpn
          rw [show n + (c - n) = c by omega] at xq
          rw [xq]
          have : sm p (fun j => el n M n p j * (dl j c - Xc j c)) = sm p (fun j => (-1) * (el n M n p j * X n M (c - n) j)) := sm_congr fun j hj => by
            show _ * (_ - (if c < n then 0 else _)) = _
            rw [if_neg hc]
            have : dl j c = 0 := if_neg (by omega)
            rw [this]
            grind
          rw [this, sm_mul]
          grind
      have e3 : sm p (fun j => el n M n p j * (dl j c - Xc j c)) = sm n (fun t => sm p (fun j => el n M n p j * W j t) * (dl (n - 1 - t) c - M (n - 1 - t) c)) := by
        have : sm p (fun j => el n M n p j * (dl j c - Xc j c)) = sm p (fun j => sm n (fun t => el n M n p j * W j t * (dl (n - 1 - t) c - M (n - 1 - t) c))) := sm_congr fun j hj => by
          rw [hW j hj c, ← sm_mul]
          exact sm_congr fun t _ => by grind
        rw [this, sm_swap]
        exact sm_congr fun t _ => by rw [sm_mul_right]
      have e4 : dl p c - el n M k p c = sm n (fun t => (if t < k then y t else if t = k then 1 else 0) * (dl (n - 1 - t) c - M (n - 1 - t) c)) := by
        rw [hy c]
        have sp : ∀ d, sm (k + 1 + d) (fun t => (if t < k then y t else if t = k then 1 else 0) * (dl (n - 1 - t) c - M (n - 1 - t) c)) = sm (k + 1) (fun t => (if t < k then y t else if t = k then 1 else 0) * (dl (n - 1 - t) c - M (n - 1 - t) c)) := by
          intro d
          induction d with
          | zero => rfl
          | succ d ih =>
            show sm (k + 1 + d) _ + _ = _
            rw [ih]
            show _ + (if k + 1 + d < k then y (k + 1 + d) else if k + 1 + d = k then 1 else 0) * _ = _
            rw [if_neg (by omega), if_neg (by omega)]
            grind
        have := sp (n - (k + 1))
        rw [show k + 1 + (n - (k + 1)) = n by omega] at this
        rw [this, sm, if_neg (by omega), if_pos rfl, hkp]
        have : sm k (fun t => (if t < k then y t else if t = k then 1 else 0) * (dl (n - 1 - t) c - M (n - 1 - t) c)) = sm k (fun t => y t * (dl (n - 1 - t) c - M (n - 1 - t) c)) := sm_congr fun t ht => by rw [if_pos ht]
        rw [this]
        grind
      rw [e2, e1, e3, e4, ← sm_mul, ← sm_add]
      exact sm_congr fun t _ => by grind
  intro p hp
  obtain ⟨w, hw⟩ := key (p + 1) p (by omega) hp
  have cr : ∀ t, t < n → Iz (det n (BM n s M) * w t) (bd s n) := fun t ht => by
    rw [cramer (b := fun r => (s : Rat) * dl p (n - 1 - r)) (fun r hr => ?_) ht]
    · refine det_iz fun r c hr hc => ?_
      unfold setC
      split
      · exact (iz_dl s _ _).mono (by omega)
      · exact f.bm (by omega)
    · have q := hw (n - 1 - r)
      have z : Xc p (n - 1 - r) = 0 := if_pos (by omega)
      rw [z] at q
      have e : sm n (fun e => BM n s M r e * w e) = (s : Rat) * sm n (fun t => w t * (dl (n - 1 - t) (n - 1 - r) - M (n - 1 - t) (n - 1 - r))) := by
        rw [← sm_mul]
        refine sm_congr fun t _ => ?_
        show (s : Rat) * _ * _ = _
        grind
      rw [e, ← q]
      grind
  have q := hw (n + o)
  have z : Xc p (n + o) = X n M o p := by
    show (if n + o < n then 0 else X n M (n + o - n) p) = _
    rw [if_neg (by omega), show n + o - n = o by omega]
  have z2 : dl p (n + o) = 0 := if_neg (by omega)
  rw [z, z2] at q
  have e : X n M o p * ((s : Rat) * det n (BM n s M)) = - sm n (fun t => (det n (BM n s M) * w t) * ((s : Rat) * (dl (n - 1 - t) (n + o) - M (n - 1 - t) (n + o)))) := by
    have : sm n (fun t => (det n (BM n s M) * w t) * ((s : Rat) * (dl (n - 1 - t) (n + o) - M (n - 1 - t) (n + o)))) = (s : Rat) * det n (BM n s M) * sm n (fun t => w t * (dl (n - 1 - t) (n + o) - M (n - 1 - t) (n + o))) := by
      rw [← sm_mul]
      exact sm_congr fun t _ => by grind
    rw [this, ← q]
    grind
  rw [e]
  exact (Iz.sm fun t ht => (cr t ht).mul (f.row (by omega) _)).neg
end
end Fc

namespace Fc
/-! ## tables, their matrix -/
inductive Rw where
  | fin (o : Nat) | go (l : List Nat)
def S2 (r : Rat) : Prop := r.num.natAbs < 2 ^ 2000 ∧ r.den < 2 ^ 2000
theorem fc_mono {a b : Nat} (h : a ≤ b) : fc a ≤ fc b := by
  induction b with
  | zero => rw [show a = 0 by omega]; exact Nat.le_refl _
  | succ b ih =>
    by_cases e : a = b + 1
    · rw [e]; exact Nat.le_refl _
    · exact Nat.le_trans (ih (by omega)) (by show fc b ≤ (b + 1) * fc b; exact Nat.le_mul_of_pos_left _ (by omega))
theorem fc_pos (a : Nat) : 0 < fc a := by
  induction a with
  | zero => decide
  | succ a ih => exact Nat.mul_pos (by omega) ih
theorem big : fc 100 * 12 ^ 100 < 2 ^ 885 := by decide +kernel
theorem bd_lt {s k : Nat} (hs : s ≤ 6) (hk : k ≤ 100) : bd s k < 2 ^ 885 := by
  refine Nat.lt_of_le_of_lt ?_ big
  refine Nat.mul_le_mul (fc_mono hk) ?_
  exact Nat.le_trans (Nat.pow_le_pow_left (by omega) k) (Nat.pow_le_pow_right (by omega) hk)
theorem bq_lt {s k : Nat} (hs : s ≤ 6) (hk : k ≤ 100) : (k + 2) * (bd s k * (2 * s)) < 2 ^ 896 := by
  have h := bd_lt hs hk
  have h1 : bd s k * (2 * s) ≤ 2 ^ 885 * 12 := Nat.mul_le_mul (by omega) (by omega)
  have h2 : (k + 2) * (bd s k * (2 * s)) ≤ 102 * (2 ^ 885 * 12) := Nat.mul_le_mul (by omega) h1
  exact Nat.lt_of_le_of_lt h2 (by decide +kernel)
theorem bq_lt1 {s k : Nat} (hs : s ≤ 6) (hk : k ≤ 100) : (k + 1) * (bd s k * (2 * s)) < 2 ^ 896 := Nat.lt_of_le_of_lt (Nat.mul_le_mul_right _ (by omega)) (bq_lt hs hk)
theorem sb_lt {s k : Nat} (hs : s ≤ 6) (hk : k ≤ 100) : s * bd s k < 2 ^ 896 := by
  have h := bd_lt hs hk
  exact Nat.lt_of_le_of_lt (Nat.mul_le_mul hs (Nat.le_of_lt h)) (by decide +kernel)
theorem p896 : (2 : Nat) ^ 896 < 2 ^ 2000 := by decide +kernel
theorem s2_of {r e : Rat} {a b : Nat} (he : e ≠ 0) (h1 : Iz e a) (h2 : Iz (r * e) b) (ha : a < 2 ^ 896) (hb : b < 2 ^ 896) : S2 r := by
  have := size_of he h1 h2
  have p := p896
  exact ⟨by omega, by omega⟩
section
variable {n s : Nat} {M : Mx} {h : Nat → Rat}
theorem ent_s2 (f : Fit n s M) (u : Sup n M h) (hs : s ≤ 6) (hn : n ≤ 100) {k i : Nat} (hi : i < n - k) (c : Nat) : S2 (el n M k i c) :=
  s2_of (sd_ne f u (by omega)) (sd_iz f (by omega)) (ent_iz f u (by omega) hi c) (sb_lt hs (by omega)) (bq_lt hs (by omega))
theorem rest_s2 (f : Fit n s M) (u : Sup n M h) (hs : s ≤ 6) (hn : n ≤ 100) {k : Nat} (hk : k < n) : S2 (1 - el n M k (n - 1 - k) (n - 1 - k)) := by
  have r := row_iz f u (k := k) (by omega) (i := n - 1 - k) (by omega) (n - 1 - k)
  have e : dl (n - 1 - k) (n - 1 - k) = 1 := if_pos rfl
  rw [e, Rat.mul_comm] at r
  exact s2_of (sd_ne f u (by omega)) (sd_iz f (by omega)) r (sb_lt hs (by omega)) (bq_lt1 hs (by omega))
theorem nrm_s2 (f : Fit n s M) (u : Sup n M h) (hs : s ≤ 6) (hn : n ≤ 100) {k : Nat} (hk : k < n) (c : Nat) : S2 (nrm (n - 1 - k) (el n M k) c) :=
  s2_of (ep_ne f u hk) (ep_iz f u hk) (nrm_iz f u hk c) (bq_lt1 hs (by omega)) (bq_lt hs (by omega))
theorem fin_s2 (f : Fit n s M) (u : Sup n M h) (hs : s ≤ 6) (hn : n ≤ 100) {p : Nat} (hp : p < n) (c : Nat) : S2 (el n M n p c) := by
  have := nrm_s2 f u hs hn (k := n - 1 - p) (by omega) c
  rw [show n - 1 - (n - 1 - p) = p by omega] at this
  have e := el_row n M (k := n - 1 - p) (by omega)
  rw [show n - 1 - (n - 1 - p) = p by omega] at e
  rwa [e]
theorem X_s2 (f : Fit n s M) (u : Sup n M h) (hs : s ≤ 6) (hn : n ≤ 100) (o : Nat) {p : Nat} (hp : p < n) : S2 (X n M o p) := by
  refine s2_of (sd_ne f u (Nat.le_refl n)) (sd_iz f (Nat.le_refl n)) (X_iz f u o p hp) (sb_lt hs hn) ?_
  exact Nat.lt_of_le_of_lt (Nat.mul_le_mul_right _ (by omega)) (bq_lt hs hn)
/-- a value on the way -/
def part (n : Nat) (M : Mx) (o p : Nat) (b : Nat → Bool) : Rat := el n M n p (n + o) + sm p (fun c => if b c = true then el n M n p c * X n M o c else 0)
theorem part_sz (f : Fit n s M) (u : Sup n M h) (hs : s ≤ 6) (hn : n ≤ 100) (o : Nat) {p : Nat} (hp : p < n) (b : Nat → Bool) : (part n M o p b).num.natAbs < 2 ^ 4000 ∧ (part n M o p b).den < 2 ^ 4000 := by
  let k := n - 1 - p
  have hk : k < n := by omega
  have hkp : n - 1 - k = p := by omega
  have e := el_row n M hk
  rw [hkp] at e
  have nz : ep n s M k * ((s : Rat) * det n (BM n s M)) ≠ 0 := fun q => (Rat.mul_eq_zero.mp q).elim (ep_ne f u hk) (sd_ne f u (Nat.le_refl n))
  have i1 := (ep_iz f u hk).mul (sd_iz (s := s) f (Nat.le_refl n))
  have q1 := (nrm_iz f u hk (n + o)).mul (sd_iz (s := s) f (Nat.le_refl n))
  have A : ∀ c, c < p → Iz ((if b c = true then el n M n p c * X n M o c else 0) * (ep n s M k * ((s : Rat) * det n (BM n s M)))) (((k + 2) * (bd s k * (2 * s))) * (n * (bd s n * (2 * s)))) := fun c hc => by
    split
    · have := (nrm_iz f u hk c).mul (X_iz f u o c (by omega))
      rw [hkp] at this
      rw [e]
      have e2 : nrm p (el n M k) c * X n M o c * (ep n s M k * ((s : Rat) * det n (BM n s M))) = nrm p (el n M k) c * ep n s M k * (X n M o c * ((s : Rat) * det n (BM n s M))) := by grind
      rw [e2]
      exact this
    · rw [Rat.zero_mul]; exact Iz.zero _
  have q2 := Iz.sm A
  rw [sm_mul_right] at q2
  rw [hkp] at q1
  have q := q1.add q2
  have e3 : nrm p (el n M k) (n + o) * ep n s M k * ((s : Rat) * det n (BM n s M)) + sm p (fun c => if b c = true then el n M n p c * X n M o c else 0) * (ep n s M k * ((s : Rat) * det n (BM n s M))) = part n M o p b * (ep n s M k * ((s : Rat) * det n (BM n s M))) := by
    unfold part
    rw [e]
    grind
  rw [e3] at q
  have sz := size_of nz i1 q
  have b1 := bq_lt (s := s) (k := k) hs (by omega)
  have b2 := bq_lt1 (s := s) (k := k) hs (by omega)
  have b3 := sb_lt (s := s) (k := n) hs hn
  have b4 : n * (bd s n * (2 * s)) < 2 ^ 896 := Nat.lt_of_le_of_lt (Nat.mul_le_mul_right _ (by omega)) (bq_lt hs hn)
  have c1 := Nat.mul_le_mul (Nat.le_of_lt b2) (Nat.le_of_lt b3)
  have c2 := Nat.mul_le_mul (Nat.le_of_lt b1) (Nat.le_of_lt b3)
  have c3 := Nat.mul_le_mul (show p ≤ 100 by omega) (Nat.mul_le_mul (Nat.le_of_lt b1) (Nat.le_of_lt b4))
  have p1 : (2 : Nat) ^ 896 * 2 ^ 896 < 2 ^ 4000 := by decide +kernel
  have p2 : (2 : Nat) ^ 896 * 2 ^ 896 + 100 * (2 ^ 896 * 2 ^ 896) < 2 ^ 4000 := by decide +kernel
  exact ⟨Nat.lt_of_le_of_lt sz.1 (Nat.lt_of_le_of_lt (Nat.add_le_add c2 c3) p2), Nat.lt_of_le_of_lt sz.2 (Nat.lt_of_le_of_lt c1 p1)⟩
end

/-! ### the matrix of a table -/
def cnt (l : List Nat) (c : Nat) : Nat := l.count c
def rowM (n s many : Nat) : Rw → Nat → Rat
  | .fin o, c => if c = n + o then 1 else 0
  | .go l, c => if c < n then (cnt l c : Rat) / (s : Rat) else if c = n + many then 1 else 0
def tabM (s many : Nat) (t : List Rw) : Mx := fun i c => match t[i]? with
  | some r => rowM t.length s many r c
  | none => 0
structure Tb (s many : Nat) (t : List Rw) : Prop where
  n1 : 1 ≤ t.length
  n2 : t.length ≤ 100
  s1 : 2 ≤ s
  s2 : s ≤ 6
  m1 : 1 ≤ many
  m2 : many ≤ 6
  fin : ∀ (i o : Nat), t[i]? = some (Rw.fin o) → o < many
  go : ∀ (i : Nat) (l : List Nat), t[i]? = some (Rw.go l) → l.length = s ∧ ∀ x ∈ l, x < t.length
/-- a rank that falls towards the ends -/
def Rk (t : List Rw) (d : Nat → Nat) : Prop := ∀ i l, t[i]? = some (.go l) → ∃ x ∈ l, d x < d i
def lsum (l : List Nat) (h : Nat → Rat) : Rat := l.foldr (fun x a => h x + a) 0
theorem cnt_sum (n : Nat) (h : Nat → Rat) : ∀ l : List Nat, (∀ x ∈ l, x < n) → sm n (fun c => (cnt l c : Rat) * h c) = lsum l h
  | [], _ => by
    rw [sm_zero (fun i _ => by
      show ((cnt [] i : Nat) : Rat) * h i = 0
      unfold cnt
      rw [List.count_nil]
      show (0 : Rat) * h i = 0
      rw [Rat.zero_mul])]
    rfl
  | x :: l, hl => by
    have ih := cnt_sum n h l (fun y hy => hl y (List.mem_cons_of_mem _ hy))
    have : sm n (fun c => (cnt (x :: l) c : Rat) * h c) = sm n (fun c => (if c = x then h x else 0) + (cnt l c : Rat) * h c) := sm_congr fun c _ => by
      unfold cnt
      rw [List.count_cons]
      by_cases e : x = c
      · subst e
        simp only [beq_self_eq_true, if_true, Rat.natCast_add]
        show ((List.count x l : Nat) + (1 : Rat)) * h x = _
        grind
      · have e2 : ¬ c = x := fun q => e q.symm
        have e3 : (x == c) = false := by simpa using e
        rw [e3, if_neg e2]
        simp only [Bool.false_eq_true, if_false, Nat.add_zero, Rat.zero_add]
    rw [this, sm_add, ih, sm_at (k := x) (hl x List.mem_cons_self) (fun i _ hi => if_neg hi), if_pos rfl]
    rfl
theorem lsum_le {l : List Nat} {h g : Nat → Rat} (e : ∀ x ∈ l, h x ≤ g x) : lsum l h ≤ lsum l g := by
  induction l with
  | nil => exact Rat.le_refl
  | cons x l ih =>
    show h x + lsum l h ≤ g x + lsum l g
    have h1 := ih fun y hy => e y (List.mem_cons_of_mem _ hy)
    have h2 := e x List.mem_cons_self
    grind
theorem lsum_const (l : List Nat) (a : Rat) : lsum l (fun _ => a) = (l.length : Rat) * a := by
  induction l with
  | nil => exact (Rat.zero_mul a).symm
  | cons x l ih =>
    show a + lsum l (fun _ => a) = _
    rw [ih, List.length_cons, Rat.natCast_add]
    show _ = ((l.length : Rat) + 1) * a
    grind
/-- one of them is lower -/
theorem lsum_lt {l : List Nat} {h : Nat → Rat} {a b : Rat} (e : ∀ x ∈ l, h x ≤ a) (x : Nat) (hx : x ∈ l) (hb : h x ≤ a - b) : lsum l h ≤ (l.length : Rat) * a - b := by
  induction l with
  | nil => cases hx
  | cons y l ih =>
    show h y + lsum l h ≤ _
    have hy := e y List.mem_cons_self
    have el : (((y :: l).length : Nat) : Rat) * a = (l.length : Rat) * a + a := by
      rw [List.length_cons, Rat.natCast_add]
      show ((l.length : Rat) + 1) * a = _
      grind
    rw [el]
    rcases List.mem_cons.mp hx with q | q
    · subst q
      have h1 := lsum_le (l := l) (h := h) (g := fun _ => a) fun z hz => e z (List.mem_cons_of_mem _ hz)
      rw [lsum_const] at h1
      grind
    · have h1 := ih (fun z hz => e z (List.mem_cons_of_mem _ hz)) q
      grind
def hgt (d : Nat → Nat) (i : Nat) : Rat := 2 - (1 / 8 : Rat) ^ (d i)
theorem e8_pos (k : Nat) : (0 : Rat) < (1 / 8 : Rat) ^ k := Rat.pow_pos (by grind)
theorem e8_le1 (k : Nat) : (1 / 8 : Rat) ^ k ≤ 1 := by
  induction k with
  | zero => rw [Rat.pow_zero]; exact Rat.le_refl
  | succ k ih =>
    rw [Rat.pow_succ]
    have := e8_pos k
    have : (1 / 8 : Rat) ^ k * (1 / 8) ≤ 1 * (1 / 8) := Rat.mul_le_mul_of_nonneg_right ih (by grind)
    grind
theorem e8_anti {a b : Nat} (h : a ≤ b) : (1 / 8 : Rat) ^ b ≤ (1 / 8 : Rat) ^ a := by
  induction b with
  | zero => rw [show a = 0 by omega]; exact Rat.le_refl
  | succ b ih =>
    by_cases e : a = b + 1
    · rw [e]; exact Rat.le_refl
    · have h1 := ih (by omega)
      rw [Rat.pow_succ]
      have := e8_pos b
      grind
theorem tab_go {s many : Nat} {t : List Rw} {i : Nat} {l : List Nat} (e : t[i]? = some (.go l)) {c : Nat} (hc : c < t.length) : tabM s many t i c = (cnt l c : Rat) / (s : Rat) := by
  unfold tabM
  rw [e]
  show (if c < t.length then _ else _) = _
  rw [if_pos hc]
theorem go_sum {s many : Nat} {t : List Rw} {i : Nat} {l : List Nat} (e : t[i]? = some (.go l)) (hl : ∀ x ∈ l, x < t.length) (h : Nat → Rat) : sm t.length (fun c => tabM s many t i c * h c) = lsum l h / (s : Rat) := by
  rw [← cnt_sum t.length h l hl, Rat.div_def, ← sm_mul_right]
  refine sm_congr fun c hc => ?_
  rw [tab_go e hc, Rat.div_def]
  grind
theorem Tb.fit {s many : Nat} {t : List Rw} (T : Tb s many t) : Fit t.length s (tabM s many t) := by
  have s0 : 0 < s := by have := T.s1; omega
  refine ⟨fun i c hi => ?_, s0⟩
  unfold tabM
  cases e : t[i]? with
  | none => rw [List.getElem?_eq_none_iff] at e; omega
  | some r =>
    cases r with
    | fin o =>
      show Iz ((s : Rat) * (if c = t.length + o then 1 else 0)) s
      split
      · exact ⟨s, by rw [Rat.mul_one, Rat.intCast_natCast], by simp⟩
      · rw [Rat.mul_zero]; exact Iz.zero _
    | go l =>
      show Iz ((s : Rat) * (if c < t.length then (cnt l c : Rat) / (s : Rat) else if c = t.length + many then 1 else 0)) s
      have hs : (s : Rat) ≠ 0 := fun q => by rw [Rat.natCast_eq_zero_iff] at q; omega
      split
      · have e2 : (s : Rat) * ((cnt l c : Rat) / (s : Rat)) = (cnt l c : Rat) := by rw [Rat.mul_comm, Rat.div_mul_cancel hs]
        rw [e2]
        refine ⟨cnt l c, by rw [Rat.intCast_natCast], ?_⟩
        have := List.count_le_length (a := c) (l := l)
        have h2 := (T.go i l e).1
        unfold cnt
        simp only [Int.natAbs_natCast]
        omega
      · split
        · exact ⟨s, by rw [Rat.mul_one, Rat.intCast_natCast], by simp⟩
        · rw [Rat.mul_zero]; exact Iz.zero _
theorem Tb.sup {s many : Nat} {t : List Rw} (T : Tb s many t) {d : Nat → Nat} (r : Rk t d) : Sup t.length (tabM s many t) (hgt d) := by
  have s0 : (0 : Rat) < (s : Rat) := Rat.natCast_pos.mpr (by have := T.s1; omega)
  have hp : ∀ i, 0 < hgt d i := fun i => by
    unfold hgt
    have := e8_le1 (d i)
    grind
  refine ⟨fun i c => ?_, fun i _ => hp i, fun i hi => ?_⟩
  · unfold tabM
    cases e : t[i]? with
    | none => exact Rat.le_refl
    | some r =>
      cases r with
      | fin o => show (0 : Rat) ≤ (if _ then 1 else 0); split <;> grind
      | go l =>
        show (0 : Rat) ≤ (if _ then _ else _)
        split
        · rw [Rat.div_def]; exact Rat.mul_nonneg Rat.natCast_nonneg (Rat.le_of_lt (Rat.inv_pos.mpr s0))
        · split <;> grind
  · cases e : t[i]? with
    | none => rw [List.getElem?_eq_none_iff] at e; omega
    | some q =>
      cases q with
      | fin o =>
        rw [sm_zero (fun c hc => by
          have : tabM s many t i c = 0 := by
            unfold tabM
            rw [e]
            show (if c = t.length + o then (1 : Rat) else 0) = 0
            rw [if_neg (by omega)]
          rw [this, Rat.zero_mul])]
        exact hp i
      | go l =>
        obtain ⟨hlen, hlt⟩ := T.go i l e
        rw [go_sum e hlt, Rat.div_lt_iff s0]
        obtain ⟨x, hx, hd⟩ := r i l e
        have h1 := lsum_lt (l := l) (h := hgt d) (a := 2) (b := (1 / 8 : Rat) ^ (d i - 1)) (fun y _ => by unfold hgt; have := e8_pos (d y); grind) x hx (by
          unfold hgt
          have := e8_anti (show d x ≤ d i - 1 by omega)
          grind)
        rw [hlen] at h1
        unfold hgt at h1 ⊢
        have h2 : (1 / 8 : Rat) ^ (d i) = (1 / 8 : Rat) ^ (d i - 1) * (1 / 8) := by rw [← Rat.pow_succ, show d i - 1 + 1 = d i by omega]
        have h3 := e8_pos (d i - 1)
        have h4 : (s : Rat) ≤ 6 := by have := Rat.natCast_le_natCast.mpr T.s2; exact this
        have h5 : (1 / 8 : Rat) ^ (d i - 1) * (s : Rat) ≤ (1 / 8 : Rat) ^ (d i - 1) * 6 := Rat.mul_le_mul_of_nonneg_left h4 (Rat.le_of_lt h3)
        rw [h2]
        grind
end Fc

namespace Fc
theorem div_le_i {a b c : Rat} (h : 0 < b) : a / b ≤ c ↔ a ≤ c * b := by
  have := Rat.lt_div_iff (a := c) (b := a) h
  rw [← Rat.not_lt, this, Rat.not_lt]
theorem le_div_i {a b c : Rat} (h : 0 < b) : c ≤ a / b ↔ c * b ≤ a := by
  have := Rat.div_lt_iff (a := a) (c := c) h
  rw [← Rat.not_lt, this, Rat.not_lt]
/-! ## the solution is the only one; nothing in it is negative; chances add up to 1 -/
theorem max_at (f : Nat → Rat) : ∀ n, 0 < n → ∃ i, i < n ∧ ∀ j, j < n → f j ≤ f i
  | 0, h => by omega
  | 1, _ => ⟨0, by omega, fun j hj => by rw [show j = 0 by omega]; exact Rat.le_refl⟩
  | n + 2, _ => by
    obtain ⟨i, hi, h⟩ := max_at f (n + 1) (by omega)
    rcases (Rat.le_total : f (n + 1) ≤ f i ∨ _) with e | e
    · refine ⟨i, by omega, fun j hj => ?_⟩
      by_cases q : j = n + 1
      · rw [q]; exact e
      · exact h j (by omega)
    · refine ⟨n + 1, by omega, fun j hj => ?_⟩
      by_cases q : j = n + 1
      · rw [q]; exact Rat.le_refl
      · exact Rat.le_trans (h j (by omega)) e
section
variable {n s m : Nat} {M : Mx} {h : Nat → Rat}
/-- what is below its own mean is not positive -/
theorem sup_le (u : Sup n M h) {z : Nat → Rat} (hz : ∀ i, i < n → z i ≤ sm n fun c => M i c * z c) {i : Nat} (hi : i < n) : z i ≤ 0 := by
  obtain ⟨k, hk, hm⟩ := max_at (fun j => z j / h j) n (by omega)
  have hpk := u.pos k hk
  have step : ∀ j, j < n → z j ≤ z k / h k * h j := fun j hj => by
    have := hm j hj
    have hj0 := u.pos j hj
    rw [div_le_i hj0] at this
    exact this
  have main : z k ≤ 0 := by
    rcases (Rat.le_total : z k ≤ 0 ∨ _) with e | e
    · exact e
    · have mu : 0 ≤ z k / h k := by rw [Rat.div_def]; exact Rat.mul_nonneg e (Rat.le_of_lt (Rat.inv_pos.mpr hpk))
      have h1 : sm n (fun c => M k c * z c) ≤ sm n fun c => z k / h k * (M k c * h c) := sm_le fun c hc => by
        have := Rat.mul_le_mul_of_nonneg_left (step c hc) (u.nn k c)
        grind
      rw [sm_mul] at h1
      have h2 := u.lt k hk
      have h3 := Rat.le_trans (hz k hk) h1
      have e2 : z k / h k * h k = z k := Rat.div_mul_cancel (by grind)
      by_cases q : z k / h k = 0
      · rw [q] at e2; grind
      · have mp : 0 < z k / h k := by grind
        have : z k / h k * sm n (fun c => M k c * h c) < z k / h k * h k := Rat.mul_lt_mul_of_pos_left h2 mp
        grind
  have := step i hi
  have h4 : z k / h k * h i ≤ 0 := by
    have mu : z k / h k ≤ 0 := by rw [div_le_i hpk]; grind
    have := Rat.mul_le_mul_of_nonneg_right mu (Rat.le_of_lt (u.pos i hi))
    grind
  exact Rat.le_trans this h4
theorem sm_neg (n : Nat) (f : Nat → Rat) : sm n (fun i => - f i) = - sm n f := by
  have := sm_mul n (-1) f
  have e : (fun i => (-1 : Rat) * f i) = fun i => - f i := by funext i; grind
  rw [e] at this
  rw [this]; grind
theorem sm_sub (n : Nat) (f g : Nat → Rat) : sm n (fun i => f i - g i) = sm n f - sm n g := by
  have e : (fun i => f i - g i) = fun i => f i + - g i := by funext i; grind
  rw [e, sm_add, sm_neg]; grind
/-- comparison -/
theorem X_le (u : Sup n M h) (o : Nat) {y : Nat → Rat} (hy : ∀ i, i < n → (sm n fun c => M i c * y c) + M i (n + o) ≤ y i) {i : Nat} (hi : i < n) : X n M o i ≤ y i := by
  have := sup_le u (z := fun i => X n M o i - y i) (fun i hi => by
    have e : sm n (fun c => M i c * (X n M o c - y c)) = sm n (fun c => M i c * X n M o c) - sm n (fun c => M i c * y c) := by
      rw [← sm_sub]; exact sm_congr fun c _ => by grind
    have h1 := X_solves u o hi
    have h2 := hy i hi
    show X n M o i - y i ≤ _
    rw [e]
    grind) hi
  grind
theorem X_ge (u : Sup n M h) (o : Nat) {y : Nat → Rat} (hy : ∀ i, i < n → y i ≤ (sm n fun c => M i c * y c) + M i (n + o)) {i : Nat} (hi : i < n) : y i ≤ X n M o i := by
  have := sup_le u (z := fun i => y i - X n M o i) (fun i hi => by
    have e : sm n (fun c => M i c * (y c - X n M o c)) = sm n (fun c => M i c * y c) - sm n (fun c => M i c * X n M o c) := by
      rw [← sm_sub]; exact sm_congr fun c _ => by grind
    have h1 := X_solves u o hi
    have h2 := hy i hi
    show y i - X n M o i ≤ _
    rw [e]
    grind) hi
  grind
theorem X_uni (u : Sup n M h) (o : Nat) {y : Nat → Rat} (hy : ∀ i, i < n → y i = (sm n fun c => M i c * y c) + M i (n + o)) {i : Nat} (hi : i < n) : X n M o i = y i :=
  Rat.le_antisymm (X_le u o (fun i hi => by rw [← hy i hi]; exact Rat.le_refl) hi) (X_ge u o (fun i hi => by rw [← hy i hi]; exact Rat.le_refl) hi)
theorem X_nn (u : Sup n M h) (o : Nat) {i : Nat} (hi : i < n) : 0 ≤ X n M o i :=
  X_ge u o (y := fun _ => 0) (fun i hi => by
    rw [sm_zero fun c _ => Rat.mul_zero _]
    have := u.nn i (n + o)
    grind) hi
end
section
variable {s m : Nat} {t : List Rw} {d : Nat → Nat}
/-- at an inner state -/
theorem X_go (T : Tb s m t) (r : Rk t d) {i : Nat} {l : List Nat} (e : t[i]? = some (.go l)) {o : Nat} (ho : o < m) : X t.length (tabM s m t) o i = lsum l (X t.length (tabM s m t) o) / (s : Rat) := by
  have hi : i < t.length := (List.getElem?_eq_some_iff.mp e).1
  have h1 := X_solves (T.sup r) o hi
  rw [go_sum e (T.go i l e).2] at h1
  have h2 : tabM s m t i (t.length + o) = 0 := by
    unfold tabM
    rw [e]
    show (if t.length + o < t.length then _ else if t.length + o = t.length + m then (1 : Rat) else 0) = 0
    rw [if_neg (by omega), if_neg (by omega)]
  rw [h2, Rat.add_zero] at h1
  exact h1
/-- the throws at an inner state -/
theorem X_goT (T : Tb s m t) (r : Rk t d) {i : Nat} {l : List Nat} (e : t[i]? = some (.go l)) : X t.length (tabM s m t) m i = lsum l (X t.length (tabM s m t) m) / (s : Rat) + 1 := by
  have hi : i < t.length := (List.getElem?_eq_some_iff.mp e).1
  have h1 := X_solves (T.sup r) m hi
  rw [go_sum e (T.go i l e).2] at h1
  have h2 : tabM s m t i (t.length + m) = 1 := by
    unfold tabM
    rw [e]
    show (if t.length + m < t.length then _ else if t.length + m = t.length + m then (1 : Rat) else 0) = 1
    rw [if_neg (by omega), if_pos rfl]
  rw [h2] at h1
  exact h1
/-- at a final state -/
theorem X_fin (T : Tb s m t) (r : Rk t d) {i a : Nat} (e : t[i]? = some (.fin a)) (o : Nat) : X t.length (tabM s m t) o i = if o = a then 1 else 0 := by
  have hi : i < t.length := (List.getElem?_eq_some_iff.mp e).1
  have h1 := X_solves (T.sup r) o hi
  have h2 : ∀ c, tabM s m t i c = if c = t.length + a then 1 else 0 := fun c => by
    unfold tabM
    rw [e]
    rfl
  rw [sm_zero (fun c hc => by rw [h2, if_neg (by omega), Rat.zero_mul]), h2, Rat.zero_add] at h1
  rw [h1]
  by_cases q : o = a
  · rw [if_pos q, if_pos (by omega)]
  · rw [if_neg q, if_neg (by omega)]
theorem lsum_at : ∀ (l : List Nat) (f : Nat → Rat), lsum l f = sm l.length fun j => f (l.getD j 0)
  | [], _ => rfl
  | x :: l, f => by
    have ih := lsum_at l f
    show f x + lsum l f = sm (l.length + 1) _
    have : ∀ n, sm (n + 1) (fun j => f ((x :: l).getD j 0)) = f x + sm n (fun j => f (l.getD j 0)) := fun n => by
      induction n with
      | zero => show (0 : Rat) + f x = f x + 0; grind
      | succ n ih => rw [sm, ih, sm]; show _ + sm n _ + f (l.getD n 0) = _; grind
    rw [this, ih]
theorem lsum_sm (l : List Nat) (m : Nat) (f : Nat → Nat → Rat) : sm m (fun o => lsum l (f o)) = lsum l (fun x => sm m fun o => f o x) := by
  induction l with
  | nil => exact sm_zero fun _ _ => rfl
  | cons x l ih =>
    show sm m (fun o => f o x + lsum l (f o)) = _
    rw [sm_add, ih]
    rfl
/-- uniqueness for a function given at the states -/
theorem tab_uni (T : Tb s m t) (r : Rk t d) {y : Nat → Rat} (hf : ∀ i a, t[i]? = some (.fin a) → y i = 0) (hg : ∀ i l, t[i]? = some (.go l) → y i = lsum l y / (s : Rat)) {i : Nat} (hi : i < t.length) : y i = 0 := by
  have key : ∀ z : Nat → Rat, (∀ i a, t[i]? = some (.fin a) → z i = 0) → (∀ i l, t[i]? = some (.go l) → z i = lsum l z / (s : Rat)) → z i ≤ 0 := fun z hf hg =>
    sup_le (T.sup r) (z := z) (fun i hi => by
      cases e : t[i] with
      | fin a =>
        have e' : t[i]? = some (.fin a) := by rw [List.getElem?_eq_getElem hi, e]
        have h2 : ∀ c, tabM s m t i c = if c = t.length + a then 1 else 0 := fun c => by unfold tabM; rw [e']; rfl
        rw [hf i a e', sm_zero (fun c hc => by rw [h2, if_neg (by omega), Rat.zero_mul])]
        exact Rat.le_refl
      | go l =>
        have e' : t[i]? = some (.go l) := by rw [List.getElem?_eq_getElem hi, e]
        rw [go_sum e' (T.go i l e').2, ← hg i l e']
        exact Rat.le_refl) hi
  have h1 := key y hf hg
  have h2 := key (fun i => - y i) (fun i a e => by rw [hf i a e]; grind) (fun i l e => by
    have : lsum l (fun i => - y i) = - lsum l y := by
      clear e
      induction l with
      | nil => show (0 : Rat) = -0; grind
      | cons x l ih => show - y x + lsum l (fun i => - y i) = - (y x + lsum l y); rw [ih]; grind
    rw [this, hg i l e, Rat.div_def, Rat.div_def]; grind)
  grind
theorem X_sum (T : Tb s m t) (r : Rk t d) {i : Nat} (hi : i < t.length) : sm m (fun o => X t.length (tabM s m t) o i) = 1 := by
  have s0 : (s : Rat) ≠ 0 := fun q => by rw [Rat.natCast_eq_zero_iff] at q; have := T.s1; omega
  have := tab_uni T r (y := fun i => sm m (fun o => X t.length (tabM s m t) o i) - 1) (fun i a e => by
    have ha := T.fin i a e
    have : sm m (fun o => X t.length (tabM s m t) o i) = 1 := by
      rw [sm_congr (fun o _ => X_fin T r e o), sm_at (k := a) ha (fun o _ ho => if_neg ho), if_pos rfl]
    show sm m (fun o => X t.length (tabM s m t) o i) - 1 = 0
    rw [this]; grind) (fun i l e => by
    have h1 : sm m (fun o => X t.length (tabM s m t) o i) = lsum l (fun x => sm m fun o => X t.length (tabM s m t) o x) / (s : Rat) := by
      rw [sm_congr (fun o ho => X_go T r e ho), Rat.div_def, ← lsum_sm, ← sm_mul_right]
      exact sm_congr fun o _ => Rat.div_def _ _
    have h2 : lsum l (fun x => sm m (fun o => X t.length (tabM s m t) o x) - 1) = lsum l (fun x => sm m fun o => X t.length (tabM s m t) o x) - (l.length : Rat) := by
      clear e h1
      induction l with
      | nil => show (0 : Rat) = 0 - ((0 : Nat) : Rat); grind
      | cons x l ih =>
        show sm m (fun o => X t.length (tabM s m t) o x) - 1 + lsum l _ = sm m (fun o => X t.length (tabM s m t) o x) + lsum l _ - (((l.length + 1 : Nat)) : Rat)
        rw [ih, Rat.natCast_add]
        show _ = _ - ((l.length : Rat) + 1)
        grind
    have h3 := Rat.mul_inv_cancel _ s0
    rw [h1, h2, (T.go i l e).1, Rat.div_def, Rat.div_def]
    grind) hi
  grind
end
end Fc

namespace Fc
/-! ## fractions: plain facts -/
theorem natgcd_step (a b : Nat) (h : 0 < b) : Nat.gcd b (a % b) = Nat.gcd a b := by rw [Nat.gcd_comm b, ← Nat.gcd_rec, Nat.gcd_comm]
theorem gcd_le_right (a b : Int) (h : 0 < b) : (Int.gcd a b : Int) ≤ b := by
  have := Int.gcd_dvd_right (a := a) (b := b)
  exact Int.le_of_dvd h this
theorem gcd_pos (a b : Int) (h : 0 < b) : (0 : Int) < (Int.gcd a b : Int) := by
  have : 0 < Int.gcd a b := Int.gcd_pos_of_ne_zero_right a (by omega)
  omega
theorem num_mk (a b : Int) (h : 0 < b) : (mkRat a b.toNat).num = a / (Int.gcd a b : Int) := by
  rw [Rat.num_mkRat, if_neg (by omega), Nat.gcd_comm]
  unfold Int.gcd
  rw [show b.natAbs = b.toNat by omega]
theorem den_mk (a b : Int) (h : 0 < b) : ((mkRat a b.toNat).den : Int) = b / (Int.gcd a b : Int) := by
  rw [Rat.den_mkRat, if_neg (by omega), Nat.gcd_comm]
  unfold Int.gcd
  rw [show b.natAbs = b.toNat by omega]
  rw [Int.natCast_ediv, Int.toNat_of_nonneg (by omega)]
theorem add_mk (r q : Rat) : mkRat (r.num * (q.den : Int) + q.num * (r.den : Int)) ((r.den : Int) * (q.den : Int)).toNat = r + q := by
  rw [Rat.add_def', show ((r.den : Int) * (q.den : Int)).toNat = r.den * q.den by rw [← Int.natCast_mul, Int.toNat_natCast]]
theorem sub_mk (r q : Rat) : mkRat (r.num * (q.den : Int) - q.num * (r.den : Int)) ((r.den : Int) * (q.den : Int)).toNat = r - q := by
  rw [Rat.sub_def', show ((r.den : Int) * (q.den : Int)).toNat = r.den * q.den by rw [← Int.natCast_mul, Int.toNat_natCast]]
theorem mul_mk (r q : Rat) : mkRat (r.num * q.num) ((r.den : Int) * (q.den : Int)).toNat = r * q := by
  rw [Rat.mul_def', show ((r.den : Int) * (q.den : Int)).toNat = r.den * q.den by rw [← Int.natCast_mul, Int.toNat_natCast]]
theorem div_mk (r q : Rat) (h : 0 < q) : mkRat (r.num * (q.den : Int)) ((r.den : Int) * q.num).toNat = r / q := by
  have hq : 0 < q.num := by have := (Rat.num_nonneg (q := q)).mpr (Rat.le_of_lt h); have h2 : q.num ≠ 0 := fun e => by rw [Rat.num_eq_zero] at e; subst e; exact Rat.lt_irrefl h
                            omega
  have hr : 0 < (r.den : Int) := by have := r.den_pos; omega
  have hb : 0 < (r.den : Int) * q.num := Int.mul_pos hr hq
  rw [Rat.mkRat_eq_div, ← Rat.intCast_natCast, Int.toNat_of_nonneg (by omega), ← Rat.divInt_eq_div]
  rw [Rat.div_def, Rat.inv_def]
  conv => rhs; rw [← Rat.num_divInt_den r]
  rw [Rat.divInt_mul_divInt]
end Fc

namespace Fc
open PySem PySem.Spec PyProof.Rows L2
def top (i : Nat) : Stmt := PySem.Challenge.pw_flipchoice_k48_whole_capped_words_follow.main.body.getD i (.Pass ⟨0, 0, 0, 0⟩)
abbrev s_is_integer : Stmt := top 13
theorem sc_is_integer : FnScope ["value"] ["value"] (defScope s_is_integer) := ⟨rfl, rfl, rfl, by decide +kernel, rfl, by decide +kernel, by decide +kernel⟩
abbrev s_is_between : Stmt := top 14
theorem sc_is_between : FnScope ["value", "low", "high"] ["value", "low", "high"] (defScope s_is_between) := ⟨rfl, rfl, rfl, by decide +kernel, rfl, by decide +kernel, by decide +kernel⟩
abbrev s_greatest_divisor : Stmt := top 15
theorem sc_greatest_divisor : FnScope ["one", "other"] ["one", "other"] (defScope s_greatest_divisor) := ⟨rfl, rfl, rfl, by decide +kernel, rfl, by decide +kernel, by decide +kernel⟩
abbrev s_ratio : Stmt := top 16
theorem sc_ratio : FnScope ["top", "bottom", "divisor"] ["top", "bottom"] (defScope s_ratio) := ⟨rfl, rfl, rfl, by decide +kernel, rfl, by decide +kernel, by decide +kernel⟩
abbrev s_plus : Stmt := top 18
theorem sc_plus : FnScope ["one", "other"] ["one", "other"] (defScope s_plus) := ⟨rfl, rfl, rfl, by decide +kernel, rfl, by decide +kernel, by decide +kernel⟩
abbrev s_minus : Stmt := top 19
theorem sc_minus : FnScope ["one", "other"] ["one", "other"] (defScope s_minus) := ⟨rfl, rfl, rfl, by decide +kernel, rfl, by decide +kernel, by decide +kernel⟩
abbrev s_times : Stmt := top 20
theorem sc_times : FnScope ["one", "other"] ["one", "other"] (defScope s_times) := ⟨rfl, rfl, rfl, by decide +kernel, rfl, by decide +kernel, by decide +kernel⟩
abbrev s_over : Stmt := top 21
theorem sc_over : FnScope ["one", "other"] ["one", "other"] (defScope s_over) := ⟨rfl, rfl, rfl, by decide +kernel, rfl, by decide +kernel, by decide +kernel⟩
abbrev s_power : Stmt := top 23
theorem sc_power : FnScope ["base", "exponent", "result", "turn"] ["base", "exponent"] (defScope s_power) := ⟨rfl, rfl, rfl, by decide +kernel, rfl, by decide +kernel, by decide +kernel⟩

def fr (r : Rat) : D := .tup [.int r.num, .int r.den]
def Sm (r : Rat) : Prop := r.num.natAbs < 2 ^ 4400 ∧ r.den < 2 ^ 4400
theorem Sm.den {r : Rat} (h : Sm r) : ((r.den : Int)).natAbs < 2 ^ 4400 := by simpa using h.2
def S_isint : FS := fun _ ds R => ∃ d, ds = [d] ∧ (tyn d).isSome = true ∧ R = Val (.bl (isInt d && !isBool d))
def S_between : FS := fun _ ds R => ∃ x lo hi : Int, ds = [.int x, .int lo, .int hi] ∧ R = Val (.bl (decide (lo ≤ x ∧ x ≤ hi)))
def S_gcd : FS := fun _ ds R => ∃ a b : Int, ds = [.int a, .int b] ∧ R = Val (.int (Int.gcd a b))
def S_ratio : FS := fun _ ds R => ∃ a b : Int, ds = [.int a, .int b] ∧ 0 < b ∧ b < 2 ^ 9000 ∧ R = Val (fr (mkRat a b.toNat))
def S_plus : FS := fun _ ds R => ∃ r q : Rat, ds = [fr r, fr q] ∧ Sm r ∧ Sm q ∧ R = Val (fr (r + q))
def S_minus : FS := fun _ ds R => ∃ r q : Rat, ds = [fr r, fr q] ∧ Sm r ∧ Sm q ∧ R = Val (fr (r - q))
def S_times : FS := fun _ ds R => ∃ r q : Rat, ds = [fr r, fr q] ∧ Sm r ∧ Sm q ∧ R = Val (fr (r * q))
def S_over : FS := fun _ ds R => ∃ r q : Rat, ds = [fr r, fr q] ∧ Sm r ∧ Sm q ∧ 0 < q ∧ R = Val (fr (r / q))
section
variable {P : Program} {w : World} {K : PySem.W.Frag} {mg : Str → Option Value} {base : Heap}
theorem ok_greatest_divisor (B : Bl mg) (F : FunG K mg "greatest_divisor" s_greatest_divisor)  : Pf P w K mg base "greatest_divisor" 1 S_gcd := by
  refine pf_mk F sc_greatest_divisor (fun _ _ _ _ _ _ us hl => match us, hl with | [_, _], _ => rfl) (fun Z ds R h => by obtain ⟨a, b, rfl, _⟩ := h; rfl) (fun f cdv A outer s H E hr => ⟨_, (pss_cons (ps_par (i := 0) (j := 1) rfl sc_greatest_divisor.nd rfl rfl (by decide) rfl rfl (pa_cons (pe_abs (K := K) rfl rfl B rfl (pa_cons (pv 0) pa_nil)) (pa_cons (pe_abs (K := K) rfl rfl B rfl (pa_cons (pv 1) pa_nil)) pa_nil)) (by rfl)) (pss_cons (ps_while PassesOwn.never (pt_cmpR op_gt (pv 1) pe_int (nomark _)) (pss_cons (ps_par (i := 0) (j := 1) rfl sc_greatest_divisor.nd rfl rfl (by decide) rfl rfl (pa_cons (pv 1) (pa_cons (pe_op op_mod (pv 0) (pv 1)) pa_nil)) (by rfl)) pss_nil)) (pss_cons (ps_ret (pv 0)) pss_nil))), fun Z ds R H0 hz hS => ?_⟩)
  obtain ⟨a, b, rfl, rfl⟩ := hS
  refine gq_par (ea_cons (ev_cb (ea_cons (ev_var rfl) ea_nil) rc_abs) (ea_cons (ev_cb (ea_cons (ev_var rfl) ea_nil) rc_abs) ea_nil)) ?_
  refine gq_while (m0 := b.natAbs) (fun y G L => ∃ x : Nat, G = [some (.int (x : Int)), some (.int (y : Int))] ∧ Nat.gcd x y = Int.gcd a b ∧ L = []) ⟨a.natAbs, ?_, rfl, rfl⟩
    (fun G L => G = [some (.int (Int.gcd a b)), some (.int 0)] ∧ L = []) (fun y G L hW => ?_) (fun G L hM => ?_)
  · show [some (D.int (if a < 0 then -a else a)), some (D.int (if b < 0 then -b else b))] = _
    rw [show (if a < 0 then -a else a) = (a.natAbs : Int) by split <;> omega, show (if b < 0 then -b else b) = (b.natAbs : Int) by split <;> omega]
  · obtain ⟨x, rfl, hg, rfl⟩ := hW
    refine ⟨_, et_test (ev_op (ev_var rfl) ev_int rv_gt), fun hb => ?_, fun hb => ?_⟩
    · have hy : 0 < y := by have := of_decide_eq_true hb; omega
      refine gq_par (ea_cons (ev_var rfl) (ea_cons (ev_op (ev_var rfl) (ev_var rfl) (rv_mod (by omega))) ea_nil)) (go_next ?_)
      refine ⟨x % y, Nat.mod_lt _ hy, y, ?_, ?_, rfl⟩
      · show [some (D.int (y : Int)), some (D.int ((x : Int) % (y : Int)))] = _
        rw [← Int.natCast_emod]
      · rw [natgcd_step x y hy, hg]
    · have hy : y = 0 := by have := of_decide_eq_false hb; omega
      subst hy
      rw [← hg, Nat.gcd_zero_right]
      exact ⟨rfl, rfl⟩
  · obtain ⟨rfl, rfl⟩ := hM
    exact gq_retP (ev_var rfl) rfl
theorem ok_ratio (B : Bl mg) (F : FunG K mg "ratio" s_ratio) (hG : Pf P w K mg base "greatest_divisor" 1 S_gcd) : Pf P w K mg base "ratio" 2 S_ratio := by
  refine pf_mk F sc_ratio (fun _ _ _ _ _ _ us hl => match us, hl with | [_, _], _ => rfl) (fun Z ds R h => by obtain ⟨a, b, rfl, _⟩ := h; rfl) (fun f cdv A outer s H E hr => ⟨_, (pss_cons (ps_set (i := 2) sc_ratio.nd rfl (.inl rfl) (pe_pf hG hr (by decide) rfl (pa_cons (pv 0) (pa_cons (pv 1) pa_nil)))) (pss_cons (ps_ret (pe_tup (pa_cons (pe_op op_fdivW (pv 0) (pv 2)) (pa_cons (pe_op op_fdivW (pv 1) (pv 2)) pa_nil)))) pss_nil)), fun Z ds R H0 hz hS => ?_⟩)
  obtain ⟨a, b, rfl, h0, h9, rfl⟩ := hS
  have hp := gcd_pos a b h0
  have hle := gcd_le_right a b h0
  refine gq_set (ev_call (ea_cons (ev_var rfl) (ea_cons (ev_var rfl) ea_nil)) ⟨a, b, rfl, rfl⟩) ?_
  have hw : ∀ i : Int, CDivW i (Int.gcd a b : Int) := fun i => wide_div (b := 9000) hp (by have : (Int.gcd a b : Int).natAbs ≤ b.natAbs := by omega
                                                                                           omega) (by decide) (by decide)
  refine gq_retP (ev_tup (ea_cons (ev_op (ev_var rfl) (ev_var rfl) (rv_fdivW (hw _))) (ea_cons (ev_op (ev_var rfl) (ev_var rfl) (rv_fdivW (hw _))) ea_nil)) (by show 2 ≤ 100000; decide)) ?_
  show D.tup _ = fr _
  unfold fr
  rw [num_mk a b h0, den_mk a b h0]
theorem wmul {i j : Int} (h1 : i.natAbs < 2 ^ 4400) (h2 : j.natAbs < 2 ^ 4400) : CMulW i j := wide_mul (a := 4400) (b := 4400) h1 h2 (by decide) (by decide) (by decide)
theorem den_pos' (r : Rat) : 0 < (r.den : Int) := by have := r.den_pos; omega
theorem denmul {r q : Rat} (h1 : Sm r) (h2 : Sm q) : 0 < (r.den : Int) * (q.den : Int) ∧ (r.den : Int) * (q.den : Int) < 2 ^ 9000 := by
  refine ⟨Int.mul_pos (den_pos' r) (den_pos' q), ?_⟩
  have := wide_lt h1.den h2.den
  have p : (0 : Int) < (r.den : Int) * (q.den : Int) := Int.mul_pos (den_pos' r) (den_pos' q)
  have e : (2 : Nat) ^ (4400 + 4400) < 2 ^ 9000 := Nat.pow_lt_pow_right (by decide) (by decide)
  have e2 : ((r.den : Int) * (q.den : Int)).natAbs < 2 ^ 9000 := Nat.lt_trans this e
  have e3 : (((r.den : Int) * (q.den : Int)).natAbs : Int) < ((2 ^ 9000 : Nat) : Int) := Int.ofNat_lt.mpr e2
  rw [Int.natCast_pow] at e3
  have e4 : (((r.den : Int) * (q.den : Int)).natAbs : Int) = (r.den : Int) * (q.den : Int) := Int.natAbs_of_nonneg (Int.le_of_lt p)
  rw [e4] at e3
  exact e3
theorem ix0 {x y : D} : atI [x, y] 0 = some x := rfl
theorem ix1 {x y : D} : atI [x, y] 1 = some y := rfl
theorem ev_i0 {H0 : Hp} {G : Ga} {L : Hl} {i : Nat} {r : Rat} (h : G[i]? = some (some (fr r))) : EvP K H0 G L (tOp (rIxT K) (tVar i) (tC (.int 0))) (.int r.num) := ev_op (ev_var h) ev_int (rv_ixT ix0)
theorem ev_i1 {H0 : Hp} {G : Ga} {L : Hl} {i : Nat} {r : Rat} (h : G[i]? = some (some (fr r))) : EvP K H0 G L (tOp (rIxT K) (tVar i) (tC (.int 1))) (.int r.den) := ev_op (ev_var h) ev_int (rv_ixT ix1)
theorem ok_plus (B : Bl mg) (F : FunG K mg "plus" s_plus) (hR : Pf P w K mg base "ratio" 2 S_ratio) : Pf P w K mg base "plus" 3 S_plus := by
  refine pf_mk F sc_plus (fun _ _ _ _ _ _ us hl => match us, hl with | [_, _], _ => rfl) (fun Z ds R h => by obtain ⟨a, b, rfl, _⟩ := h; rfl) (fun f cdv A outer s H E hr => ⟨_, (pss_cons (ps_ret (pe_pf hR hr (by decide) rfl (pa_cons (pe_op op_add (pe_op op_mulW (pe_ixT (K := K) rfl (pv 0) pe_int (fun _ _ => rfl)) (pe_ixT (K := K) rfl (pv 1) pe_int (fun _ _ => rfl))) (pe_op op_mulW (pe_ixT (K := K) rfl (pv 1) pe_int (fun _ _ => rfl)) (pe_ixT (K := K) rfl (pv 0) pe_int (fun _ _ => rfl)))) (pa_cons (pe_op op_mulW (pe_ixT (K := K) rfl (pv 0) pe_int (fun _ _ => rfl)) (pe_ixT (K := K) rfl (pv 1) pe_int (fun _ _ => rfl))) pa_nil)))) pss_nil), fun Z ds R H0 hz hS => ?_⟩)
  obtain ⟨r, q, rfl, h1, h2, rfl⟩ := hS
  have hd := denmul h1 h2
  rw [← add_mk r q]
  exact gq_retP (ev_call (ea_cons (ev_op (ev_op (ev_i0 rfl) (ev_i1 rfl) (rv_mulW (wmul h1.1 h2.den))) (ev_op (ev_i0 rfl) (ev_i1 rfl) (rv_mulW (wmul h2.1 h1.den))) rv_add) (ea_cons (ev_op (ev_i1 rfl) (ev_i1 rfl) (rv_mulW (wmul h1.den h2.den))) ea_nil)) ⟨_, _, rfl, hd.1, hd.2, rfl⟩) rfl
theorem ok_minus (B : Bl mg) (F : FunG K mg "minus" s_minus) (hR : Pf P w K mg base "ratio" 2 S_ratio) : Pf P w K mg base "minus" 3 S_minus := by
  refine pf_mk F sc_minus (fun _ _ _ _ _ _ us hl => match us, hl with | [_, _], _ => rfl) (fun Z ds R h => by obtain ⟨a, b, rfl, _⟩ := h; rfl) (fun f cdv A outer s H E hr => ⟨_, (pss_cons (ps_ret (pe_pf hR hr (by decide) rfl (pa_cons (pe_op op_sub (pe_op op_mulW (pe_ixT (K := K) rfl (pv 0) pe_int (fun _ _ => rfl)) (pe_ixT (K := K) rfl (pv 1) pe_int (fun _ _ => rfl))) (pe_op op_mulW (pe_ixT (K := K) rfl (pv 1) pe_int (fun _ _ => rfl)) (pe_ixT (K := K) rfl (pv 0) pe_int (fun _ _ => rfl)))) (pa_cons (pe_op op_mulW (pe_ixT (K := K) rfl (pv 0) pe_int (fun _ _ => rfl)) (pe_ixT (K := K) rfl (pv 1) pe_int (fun _ _ => rfl))) pa_nil)))) pss_nil), fun Z ds R H0 hz hS => ?_⟩)
  obtain ⟨r, q, rfl, h1, h2, rfl⟩ := hS
  have hd := denmul h1 h2
  rw [← sub_mk r q]
  exact gq_retP (ev_call (ea_cons (ev_op (ev_op (ev_i0 rfl) (ev_i1 rfl) (rv_mulW (wmul h1.1 h2.den))) (ev_op (ev_i0 rfl) (ev_i1 rfl) (rv_mulW (wmul h2.1 h1.den))) rv_sub) (ea_cons (ev_op (ev_i1 rfl) (ev_i1 rfl) (rv_mulW (wmul h1.den h2.den))) ea_nil)) ⟨_, _, rfl, hd.1, hd.2, rfl⟩) rfl
theorem ok_times (B : Bl mg) (F : FunG K mg "times" s_times) (hR : Pf P w K mg base "ratio" 2 S_ratio) : Pf P w K mg base "times" 3 S_times := by
  refine pf_mk F sc_times (fun _ _ _ _ _ _ us hl => match us, hl with | [_, _], _ => rfl) (fun Z ds R h => by obtain ⟨a, b, rfl, _⟩ := h; rfl) (fun f cdv A outer s H E hr => ⟨_, (pss_cons (ps_ret (pe_pf hR hr (by decide) rfl (pa_cons (pe_op op_mulW (pe_ixT (K := K) rfl (pv 0) pe_int (fun _ _ => rfl)) (pe_ixT (K := K) rfl (pv 1) pe_int (fun _ _ => rfl))) (pa_cons (pe_op op_mulW (pe_ixT (K := K) rfl (pv 0) pe_int (fun _ _ => rfl)) (pe_ixT (K := K) rfl (pv 1) pe_int (fun _ _ => rfl))) pa_nil)))) pss_nil), fun Z ds R H0 hz hS => ?_⟩)
  obtain ⟨r, q, rfl, h1, h2, rfl⟩ := hS
  have hd := denmul h1 h2
  rw [← mul_mk r q]
  exact gq_retP (ev_call (ea_cons (ev_op (ev_i0 rfl) (ev_i0 rfl) (rv_mulW (wmul h1.1 h2.1))) (ea_cons (ev_op (ev_i1 rfl) (ev_i1 rfl) (rv_mulW (wmul h1.den h2.den))) ea_nil)) ⟨_, _, rfl, hd.1, hd.2, rfl⟩) rfl
theorem ok_over (B : Bl mg) (F : FunG K mg "over" s_over) (hR : Pf P w K mg base "ratio" 2 S_ratio) : Pf P w K mg base "over" 3 S_over := by
  refine pf_mk F sc_over (fun _ _ _ _ _ _ us hl => match us, hl with | [_, _], _ => rfl) (fun Z ds R h => by obtain ⟨a, b, rfl, _⟩ := h; rfl) (fun f cdv A outer s H E hr => ⟨_, (pss_cons (ps_ret (pe_pf hR hr (by decide) rfl (pa_cons (pe_op op_mulW (pe_ixT (K := K) rfl (pv 0) pe_int (fun _ _ => rfl)) (pe_ixT (K := K) rfl (pv 1) pe_int (fun _ _ => rfl))) (pa_cons (pe_op op_mulW (pe_ixT (K := K) rfl (pv 0) pe_int (fun _ _ => rfl)) (pe_ixT (K := K) rfl (pv 1) pe_int (fun _ _ => rfl))) pa_nil)))) pss_nil), fun Z ds R H0 hz hS => ?_⟩)
  obtain ⟨r, q, rfl, h1, h2, h0, rfl⟩ := hS
  have hq : 0 < q.num := by
    have h3 := (Rat.num_nonneg (q := q)).mpr (Rat.le_of_lt h0)
    have h4 : q.num ≠ 0 := fun e => by rw [Rat.num_eq_zero] at e; subst e; exact Rat.lt_irrefl h0
    omega
  have hp : 0 < (r.den : Int) * q.num := Int.mul_pos (den_pos' r) hq
  have hlt : (r.den : Int) * q.num < 2 ^ 9000 := by
    have := wide_lt h1.den h2.1
    have e : (2 : Nat) ^ (4400 + 4400) < 2 ^ 9000 := Nat.pow_lt_pow_right (by decide) (by decide)
    have e3 : (((r.den : Int) * q.num).natAbs : Int) < ((2 ^ 9000 : Nat) : Int) := Int.ofNat_lt.mpr (Nat.lt_trans this e)
    rw [Int.natCast_pow, Int.natAbs_of_nonneg (Int.le_of_lt hp)] at e3
    exact e3
  rw [← div_mk r q h0]
  exact gq_retP (ev_call (ea_cons (ev_op (ev_i0 rfl) (ev_i1 rfl) (rv_mulW (wmul h1.1 h2.den))) (ea_cons (ev_op (ev_i1 rfl) (ev_i0 rfl) (rv_mulW (wmul h1.den h2.1))) ea_nil)) ⟨_, _, rfl, hp, hlt, rfl⟩) rfl
theorem ok_is_integer (B : Bl mg) (F : FunG K mg "is_integer" s_is_integer)  : Pf P w K mg base "is_integer" 1 S_isint := by
  refine pf_mk F sc_is_integer (fun _ _ _ _ _ _ us hl => match us, hl with | [_], _ => rfl) (fun Z ds R h => by obtain ⟨a, rfl, _⟩ := h; rfl) (fun f cdv A outer s H E hr => ⟨_, (pss_cons (ps_ret (pe_and (pe_isi (K := K) rfl rfl B rfl (pa_cons (pv 0) (pa_cons (pe_tyI rfl B rfl) pa_nil))) (pe_one (pe_not (pe_isi (K := K) rfl rfl B rfl (pa_cons (pv 0) (pa_cons (pe_tyB rfl B rfl) pa_nil))))))) pss_nil), fun Z ds R H0 hz hS => ?_⟩)
  obtain ⟨d, rfl, ht, rfl⟩ := hS
  exact gq_retP (ev_andV (ev_isInt (ev_var rfl) ht) (fun _ => ev_notV (ev_isBool (ev_var rfl) ht))) rfl
theorem ok_is_between (B : Bl mg) (F : FunG K mg "is_between" s_is_between) (hI : Pf P w K mg base "is_integer" 1 S_isint) : Pf P w K mg base "is_between" 2 S_between := by
  refine pf_mk F sc_is_between (fun _ _ _ _ _ _ us hl => match us, hl with | [_, _, _], _ => rfl) (fun Z ds R h => by obtain ⟨a, b, c, rfl, _⟩ := h; rfl) (fun f cdv A outer s H E hr => ⟨_, (pss_cons (ps_ret (pe_and (pe_pf hI hr (by decide) rfl (pa_cons (pv 0) pa_nil)) (pe_one (pe_chain op_le op_le (pv 1) (pv 0) (pv 2))))) pss_nil), fun Z ds R H0 hz hS => ?_⟩)
  obtain ⟨x, lo, hi, rfl, rfl⟩ := hS
  refine gq_retP (ev_andV (b := true) (c := decide (lo ≤ x) && decide (x ≤ hi)) (ev_call (ea_cons (ev_var rfl) ea_nil) ⟨.int x, rfl, rfl, rfl⟩) (fun _ => ev_chain (z := .int hi) (ev_var rfl) (ev_var rfl) rv_le (fun _ => ev_var rfl) (fun _ => rv_le))) ?_
  show D.bl _ = D.bl _
  rw [Bool.true_and, Bool.decide_and]
def S_power : FS := fun _ ds R => ∃ (b : Int) (n : Nat), ds = [.int b, .int (n : Int)] ∧ b.natAbs < 2 ^ 60 ∧ n ≤ 200 ∧ R = Val (.int (b ^ n))
theorem pow_small {b : Int} (h : b.natAbs < 2 ^ 60) : ∀ n : Nat, (b ^ n).natAbs < 2 ^ (60 * n + 1)
  | 0 => by simp
  | n + 1 => by
    have ih := pow_small h n
    rw [Int.pow_succ, Int.natAbs_mul]
    have : (b ^ n).natAbs * b.natAbs < 2 ^ (60 * n + 1) * 2 ^ 60 := Nat.mul_lt_mul'' ih h
    rw [← Nat.pow_add] at this
    exact this
theorem ok_power (B : Bl mg) (F : FunG K mg "power" s_power)  : Pf P w K mg base "power" 1 S_power := by
  refine pf_mk F sc_power (fun _ _ _ _ _ _ us hl => match us, hl with | [_, _], _ => rfl) (fun Z ds R h => by obtain ⟨a, b, rfl, _⟩ := h; rfl) (fun f cdv A outer s H E hr => ⟨_, (pss_cons (ps_set (i := 2) sc_power.nd rfl (.inl rfl) pe_int) (pss_cons (ps_for PassesOwn.never rfl (pi_range1 rfl B.range (pa_cons (pv 1) pa_nil)) (pg_name (i := 3) sc_power.nd rfl (.inl rfl)) (pss_cons (ps_set (i := 2) sc_power.nd rfl (.inl rfl) (pe_op op_mulW (pv 2) (pv 0))) pss_nil)) (pss_cons (ps_ret (pv 2)) pss_nil))), fun Z ds R H0 hz hS => ?_⟩)
  obtain ⟨b, n, rfl, hb, hn, rfl⟩ := hS
  refine gq_set ev_int ?_
  refine gq_for0 (ei_rng1 (ea_cons (ev_var rfl) ea_nil) (by omega) (by omega)) (fun i G L => ∃ o, G = [some (.int b), some (.int (n : Int)), some (.int (b ^ i)), o] ∧ L = [] ∧ i ≤ n) ⟨none, by rw [Int.pow_zero]; rfl, rfl, Nat.zero_le _⟩ (fun _ _ _ _ => trivial) (fun i d G L hd hI => ?_) (fun G L hI => ?_)
  · obtain ⟨o, rfl, rfl, hi⟩ := hI
    have hlt : i < n := by
      have := (List.getElem?_eq_some_iff.mp hd).1
      rw [rngD_len] at this; omega
    refine ⟨_, eg_name, gq_set (ev_op (ev_var rfl) (ev_var rfl) (rv_mulW (wide_mul (pow_small hb i) hb (by omega) (by decide) (by omega)))) (go_next ⟨some d, ?_, rfl, hlt⟩)⟩
    rw [Int.pow_succ]
    rfl
  · obtain ⟨o, rfl, rfl, _⟩ := hI
    refine gq_retP (ev_var rfl) ?_
    rw [rngD_len]
    show D.int (b ^ (Int.toNat (n : Int))) = _
    rw [Int.toNat_natCast]
end
end Fc

namespace Fc
open PySem PySem.Spec PyProof.Rows L2
abbrev s_check_sides : Stmt := top 34
theorem sc_check_sides : FnScope ["value"] ["value"] (defScope s_check_sides) := ⟨rfl, rfl, rfl, by decide +kernel, rfl, by decide +kernel, by decide +kernel⟩
abbrev s_check_many : Stmt := top 44
theorem sc_check_many : FnScope ["value"] ["value"] (defScope s_check_many) := ⟨rfl, rfl, rfl, by decide +kernel, rfl, by decide +kernel, by decide +kernel⟩
abbrev s_is_state : Stmt := top 45
theorem sc_is_state : FnScope ["sides", "many", "size", "value", "later"] ["sides", "many", "size", "value"] (defScope s_is_state) := ⟨rfl, rfl, rfl, by decide +kernel, rfl, by decide +kernel, by decide +kernel⟩
abbrev s_reached_from : Stmt := top 46
theorem sc_reached_from : FnScope ["table", "start", "result", "done", "state", "later"] ["table", "start"] (defScope s_reached_from) := ⟨rfl, rfl, rfl, by decide +kernel, rfl, by decide +kernel, by decide +kernel⟩
abbrev s_deciding : Stmt := top 47
theorem sc_deciding : FnScope ["table", "result", "before", "place", "state", "later"] ["table"] (defScope s_deciding) := ⟨rfl, rfl, rfl, by decide +kernel, rfl, by decide +kernel, by decide +kernel⟩
abbrev s_is_table_by : Stmt := top 48
theorem sc_is_table_by : FnScope ["sides", "many", "value", "state"] ["sides", "many", "value"] (defScope s_is_table_by) := ⟨rfl, rfl, rfl, by decide +kernel, rfl, by decide +kernel, by decide +kernel⟩

/-- the module's constants -/
structure Cs (K : PySem.W.Frag) (mg : Str → Option Value) : Prop where
  ls : ∃ u, mg "LEAST_SIDES" = some u ∧ RelV (.int 2) u
  ms : ∃ u, mg "MOST_SIDES" = some u ∧ RelV (.int 6) u
  mo : ∃ u, mg "MOST_OUTCOMES" = some u ∧ RelV (.int 6) u
  mst : ∃ u, mg "MOST_STATES" = some u ∧ RelV (.int 100) u
  zero : ∃ a, mg "ZERO" = some (.ref a) ∧ ∀ H, Im K H (.ref a) (fr 0)
  one : ∃ a, mg "ONE" = some (.ref a) ∧ ∀ H, Im K H (.ref a) (fr 1)
theorem pe_cst {X : Cx} {x : Str} {v : V} {pos : Pos} (h : ∃ u, X.mg x = some u ∧ RelV v u) (hg : Gl X x) (hd : (x == ("__debug__" : Str)) = false := by decide) : PE X (.Name x pos) (tC v) := by
  obtain ⟨u, h1, h2⟩ := h
  exact pe_glob hg h1 h2 hd
theorem pe_cref {X : Cx} {x : Str} {a : Addr} {pos : Pos} (h : X.mg x = some (.ref a)) (hg : Gl X x) (hd : (x == ("__debug__" : Str)) = false := by decide) : PE X (.Name x pos) (tC (.ref a)) := pe_glob hg h rfl hd
def rwD : Rw → D
  | .fin o => .int (o : Int)
  | .go l => .tup (l.map fun (x : Nat) => D.int (x : Int))
def tbD (t : List Rw) : D := .tup (t.map rwD)
theorem tyn_rw (r : Rw) : (tyn (rwD r)).isSome = true := by cases r <;> rfl
def nD (l : List Nat) : List D := l.map fun (x : Nat) => D.int (x : Int)
theorem nD_ints (l : List Nat) : nD l = (l.map fun (x : Nat) => (x : Int)).map D.int := by unfold nD; rw [List.map_map]; rfl
theorem tb_get {t : List Rw} {i : Nat} {r : Rw} (h : t[i]? = some r) : (t.map rwD)[i]? = some (rwD r) := by rw [List.getElem?_map, h]; rfl
theorem tb_of {t : List Rw} {i : Nat} {d : D} (h : (t.map rwD)[i]? = some d) : ∃ r, t[i]? = some r ∧ d = rwD r := by
  rw [List.getElem?_map] at h
  cases e : t[i]? with
  | none => rw [e] at h; cases h
  | some r => rw [e] at h; exact ⟨r, rfl, (Option.some.inj h).symm⟩
theorem nD_of {l : List Nat} {i : Nat} {d : D} (h : (nD l)[i]? = some d) : ∃ x : Nat, l[i]? = some x ∧ d = .int (x : Int) := by
  unfold nD at h
  rw [List.getElem?_map] at h
  cases e : l[i]? with
  | none => rw [e] at h; cases h
  | some r => rw [e] at h; exact ⟨r, rfl, (Option.some.inj h).symm⟩
theorem mem_cast {l : List Nat} {x : Nat} : ((x : Int) ∈ l.map fun (y : Nat) => (y : Int)) ↔ x ∈ l := by
  rw [List.mem_map]
  exact ⟨fun ⟨y, hy, e⟩ => by have : y = x := by omega
                              rw [← this]; exact hy, fun h => ⟨x, h, rfl⟩⟩
def succ (t : List Rw) (i : Nat) : List Nat := match t[i]? with
  | some (.go l) => l
  | _ => []
/-- what reached_from hands back: the start is in it, it is closed -/
structure Rch (t : List Rw) (st : Nat) (r : List Nat) : Prop where
  nd : r.Nodup
  lt : ∀ x ∈ r, x < t.length
  st : st ∈ r
  cl : ∀ x ∈ r, ∀ y ∈ succ t x, y ∈ r
structure Dcd (t : List Rw) (r : List Nat) : Prop where
  nd : r.Nodup
  lt : ∀ x ∈ r, x < t.length
  fin : ∀ (i o : Nat), t[i]? = some (Rw.fin o) → i ∈ r
  cl : ∀ (i : Nat) (l : List Nat), t[i]? = some (Rw.go l) → (∃ y ∈ l, y ∈ r) → i ∈ r
def S_sides : FS := fun _ ds R => ∃ s : Int, ds = [.int s] ∧ 2 ≤ s ∧ s ≤ 6 ∧ R = Val .non
def S_many : FS := fun _ ds R => ∃ s : Int, ds = [.int s] ∧ 1 ≤ s ∧ s ≤ 6 ∧ R = Val .non
def S_state : FS := fun _ ds R => ∃ (s m n : Nat) (r : Rw), ds = [.int (s : Int), .int (m : Int), .int (n : Int), rwD r] ∧ (match r with | .fin o => o < m | .go l => l.length = s ∧ (∀ x ∈ l, x < n) ∧ l.length ≤ 100) ∧ R = Val (.bl true)
def S_reach : FS := fun _ ds R => ∃ (s many : Nat) (t : List Rw) (st : Nat), ds = [tbD t, .int (st : Int)] ∧ Tb s many t ∧ st < t.length ∧ R = fun d N => ∃ r, Rch t st r ∧ New1 (.lst (nD r)) d N
def S_decid : FS := fun _ ds R => ∃ (s many : Nat) (t : List Rw), ds = [tbD t] ∧ Tb s many t ∧ R = fun d N => ∃ r, Dcd t r ∧ New1 (.lst (nD r)) d N
section
variable {P : Program} {w : World} {K : PySem.W.Frag} {mg : Str → Option Value} {base : Heap}
theorem ok_check_sides (B : Bl mg) (F : FunG K mg "check_sides" s_check_sides) (C : Cs K mg) (hB : Pf P w K mg base "is_between" 2 S_between) : Pf P w K mg base "check_sides" 3 S_sides := by
  refine pf_mk F sc_check_sides (fun _ _ _ _ _ _ us hl => match us, hl with | [_], _ => rfl) (fun Z ds R h => by obtain ⟨s, rfl, _⟩ := h; rfl) (fun f cdv A outer s H E hr => ⟨_, (pss_cons (ps_if (pt_not (pt_val (pe_pf hB hr (by decide) rfl (pa_cons (pv 0) (pa_cons (pe_cst C.ls rfl) (pa_cons (pe_cst C.ms rfl) pa_nil)))))) pss_never pss_nil) pss_nil), fun Z ds R H0 hz hS => ?_⟩)
  obtain ⟨s, rfl, h1, h2, rfl⟩ := hS
  refine gq_ifL (b := false) (EvT.cast (et_not (tt := tB _) (et_B (ev_call (ea_cons (ev_var rfl) (ea_cons ev_int (ea_cons ev_int ea_nil))) ⟨s, 2, 6, rfl, rfl⟩))) ?_) (fun h => by cases h) (fun _ => go_next rfl)
  rw [decide_eq_true ⟨h1, h2⟩]
  rfl
theorem ok_check_many (B : Bl mg) (F : FunG K mg "check_many" s_check_many) (C : Cs K mg) (hB : Pf P w K mg base "is_between" 2 S_between) : Pf P w K mg base "check_many" 3 S_many := by
  refine pf_mk F sc_check_many (fun _ _ _ _ _ _ us hl => match us, hl with | [_], _ => rfl) (fun Z ds R h => by obtain ⟨s, rfl, _⟩ := h; rfl) (fun f cdv A outer s H E hr => ⟨_, (pss_cons (ps_if (pt_not (pt_val (pe_pf hB hr (by decide) rfl (pa_cons (pv 0) (pa_cons pe_int (pa_cons (pe_cst C.mo rfl) pa_nil)))))) pss_never pss_nil) pss_nil), fun Z ds R H0 hz hS => ?_⟩)
  obtain ⟨s, rfl, h1, h2, rfl⟩ := hS
  refine gq_ifL (b := false) (EvT.cast (et_not (tt := tB _) (et_B (ev_call (ea_cons (ev_var rfl) (ea_cons ev_int (ea_cons ev_int ea_nil))) ⟨s, 1, 6, rfl, rfl⟩))) ?_) (fun h => by cases h) (fun _ => go_next rfl)
  rw [decide_eq_true ⟨h1, h2⟩]
  rfl
theorem ok_is_state (B : Bl mg) (F : FunG K mg "is_state" s_is_state) (hB : Pf P w K mg base "is_between" 2 S_between) : Pf P w K mg base "is_state" 3 S_state := by
  refine pf_mk F sc_is_state (fun _ _ _ _ _ _ us hl => match us, hl with | [_, _, _, _], _ => rfl) (fun Z ds R h => by obtain ⟨s, m, n, r, rfl, _⟩ := h; rfl) (fun f cdv A outer s H E hr => ⟨_, (pss_cons (ps_if (pt_not (pt_val (pe_isi (K := K) rfl rfl B rfl (pa_cons (pv 3) (pa_cons (pe_tyT rfl B rfl) pa_nil))))) (pss_cons (ps_ret (pe_pf hB hr (by decide) rfl (pa_cons (pv 3) (pa_cons pe_int (pa_cons (pe_op op_sub (pv 1) pe_int) pa_nil))))) pss_nil) pss_nil) (pss_cons (ps_ret (pe_and (pe_cmpR op_eq (pe_len (K := K) rfl rfl B rfl (pa_cons (pv 3) pa_nil)) (pv 0) (nomark _)) (pe_one (pe_all (K := K) rfl rfl B rfl rfl (pa_cons (pe_lc (own := [("later", 4)]) (g := gName 4) rfl sc_is_state.nd (pi_tupK (K := K) rfl (pv 3)) (blkOk_by (own := [("later", 4)]) (N := ["sides", "many", "size", "value", "later"]) (sc := defScope (s_is_state)) (by decide +kernel)) (fun _ _ _ _ _ => (pg_name (i := 4) sc_is_state.nd rfl (.inl rfl))) (fun _ _ _ _ _ => pts_nil) (fun _ _ _ _ _ => (pe_pf hB hr (by decide) rfl (pa_cons (pv 4) (pa_cons pe_int (pa_cons (pe_op op_sub (pv 2) pe_int) pa_nil)))))) pa_nil))))) pss_nil)), fun Z ds R H0 hz hS => ?_⟩)
  obtain ⟨s, m, n, r, rfl, hr2, rfl⟩ := hS
  cases r with
  | fin o =>
    have ho : o < m := hr2
    refine gq_ifL (b := true) (et_not (tt := tB _) (et_B (b := false) (ev_isTupB (ev_var rfl) rfl rfl))) (fun _ => ?_) (fun h => by cases h)
    refine gq_retP (EvP.cast (ev_call (ea_cons (ev_var rfl) (ea_cons ev_int (ea_cons (ev_op (ev_var rfl) ev_int rv_sub) ea_nil))) ⟨(o : Int), 0, (m : Int) - 1, rfl, rfl⟩) ?_) rfl
    rw [decide_eq_true ⟨by omega, by omega⟩]
  | go l =>
    obtain ⟨h1, h2, h3⟩ := hr2
    refine gq_ifL (b := false) (et_not (tt := tB _) (et_B (b := true) (ev_isTupB (ev_var rfl) rfl rfl))) (fun h => by cases h) (fun _ => ?_)
    refine gq_retP (EvP.cast (ev_andV (b := true) (c := true) (EvP.cast (ev_op (ev_cb (ea_cons (ev_var rfl) ea_nil) rc_lenT) (ev_var rfl) rv_eqI) ?_) (fun _ => EvP.cast (ev_allN (f := fun _ => true) (v := fun _ => .bl true) (en_lcY (v := fun _ => .bl true) (ei_tup (ev_var rfl)) (fun _ => trivial) (fun d hd => ?_) (by rw [List.length_map]; omega)) (fun _ _ => rfl)) ?_)) rfl) rfl
    · rw [List.length_map, h1, decide_eq_true rfl]
    · obtain ⟨x, hx, rfl⟩ := List.mem_map.mp hd
      have := h2 x hx
      refine EvP.cast (ev_call (ea_cons (ev_var rfl) (ea_cons ev_int (ea_cons (ev_op (ev_var rfl) ev_int rv_sub) ea_nil))) ⟨(x : Int), 0, (n : Int) - 1, rfl, rfl⟩) ?_
      rw [decide_eq_true ⟨by omega, by omega⟩]
    · congr 1
      exact List.all_eq_true.mpr fun _ _ => rfl
theorem nodup_len {r : List Nat} {n : Nat} (h : r.Nodup) (hl : ∀ x ∈ r, x < n) : r.length ≤ n := by
  have := List.Nodup.length_le_of_subset (l₁ := r) (l₂ := List.range n) h fun x hx => List.mem_range.mpr (hl x hx)
  simpa using this
theorem nodup_snoc {r : List Nat} {x : Nat} (h : r.Nodup) (hx : x ∉ r) : (r ++ [x]).Nodup := by
  rw [List.nodup_append]
  refine ⟨h, by simp, fun a ha b hb e => ?_⟩
  rw [List.mem_singleton.mp hb] at e
  exact hx (e ▸ ha)
theorem nD_snoc (r : List Nat) (x : Nat) : nD r ++ [D.int (x : Int)] = nD (r ++ [x]) := by unfold nD; rw [List.map_append]; rfl
theorem nD_len (r : List Nat) : (nD r).length = r.length := by unfold nD; rw [List.length_map]
theorem nD_get {r : List Nat} {i x : Nat} (h : r[i]? = some x) : (nD r)[i]? = some (.int (x : Int)) := by unfold nD; rw [List.getElem?_map, h]; rfl
theorem ok_reached_from (B : Bl mg) (F : FunG K mg "reached_from" s_reached_from)  : Pf P w K mg base "reached_from" 1 S_reach := by
  refine pf_mk F sc_reached_from (fun _ _ _ _ _ _ us hl => match us, hl with | [_, _], _ => rfl) (fun Z ds R h => by obtain ⟨s, m, n, r, rfl, _⟩ := h; rfl) (fun f cdv A outer s H E hr => ⟨_, (pss_cons (ps_set (i := 2) sc_reached_from.nd rfl (.inl rfl) (pe_lst (pa_cons (pv 1) pa_nil))) (pss_cons (ps_set (i := 3) sc_reached_from.nd rfl (.inl rfl) pe_int) (pss_cons (ps_while PassesOwn.never (pt_cmpR op_lt (pv 3) (pe_len (K := K) rfl rfl B rfl (pa_cons (pv 2) pa_nil)) (nomark _)) (pss_cons (ps_set (i := 4) sc_reached_from.nd rfl (.inl rfl) (pe_ixT (K := K) rfl (pv 0) (pe_ixL (K := K) rfl (pv 2) (pv 3) (fun _ _ => rfl)) (fun _ _ => rfl))) (pss_cons (ps_for PassesOwn.never rfl (pi_tupK (K := K) rfl (pe_ifExp (pt_val (pe_isi (K := K) rfl rfl B rfl (pa_cons (pv 4) (pa_cons (pe_tyT rfl B rfl) pa_nil)))) (pv 4) (pe_tup pa_nil))) (pg_name (i := 5) sc_reached_from.nd rfl (.inl rfl)) (pss_cons (ps_if (pt_cmpR (op_niK (K := K) rfl) (pv 5) (pv 2) rfl) (pss_cons (ps_expr (pe_bm PySem.F.plainAttrs_list PySem.F.slot_list_append PySem.F.type_list_append mt_append (pv 2) (pa_cons (pv 5) pa_nil))) pss_nil) pss_nil) pss_nil)) (pss_cons (ps_aug (i := 3) sc_reached_from.nd rfl (.inl rfl) pe_int ip_add) pss_nil)))) (pss_cons (ps_ret (pv 2)) pss_nil)))), fun Z ds R H0 hz hS => ?_⟩)
  obtain ⟨s, many, t, st, rfl, T, hst, rfl⟩ := hS
  refine gq_new (en_lst (ea_cons (ev_var rfl) ea_nil) (by show 1 ≤ 100000; decide)) fun a => ?_
  refine gq_set ev_int ?_
  -- places below done are closed
  let I : List Nat → Nat → Prop := fun r k => r.Nodup ∧ (∀ x ∈ r, x < t.length) ∧ st ∈ r ∧ k ≤ r.length ∧ ∀ i x, i < k → r[i]? = some x → ∀ y ∈ succ t x, y ∈ r
  refine gq_while (m0 := t.length) (fun m G L => ∃ (r : List Nat) (k : Nat) (v1 v2 : Option D), G = [some (tbD t), some (.int (st : Int)), some (.ref a), some (.int (k : Int)), v1, v2] ∧ L = [(a, .lst (nD r))] ∧ I r k ∧ m = t.length - k)
    ⟨[st], 0, none, none, rfl, rfl, ⟨by simp, fun x hx => by rw [List.mem_singleton.mp hx]; exact hst, List.mem_singleton.mpr rfl, Nat.zero_le _, fun i x hi => by omega⟩, rfl⟩
    (fun G L => ∃ (r : List Nat) (v1 v2 v3 : Option D), G = [some (tbD t), some (.int (st : Int)), some (.ref a), v1, v2, v3] ∧ L = [(a, .lst (nD r))] ∧ Rch t st r) (fun m G L hW => ?_) (fun G L hM => ?_)
  · obtain ⟨r, k, v1, v2, rfl, rfl, ⟨i1, i2, i3, i4, i5⟩, rfl⟩ := hW
    have hrl := nodup_len i1 i2
    refine ⟨_, et_test (ev_op (ev_var rfl) (ev_cb (ea_cons (ev_var rfl) ea_nil) (rc_lenL (.inl List.mem_cons_self))) rv_lt), fun hb => ?_, fun hb => ?_⟩
    · have hk : k < r.length := by have := of_decide_eq_true hb; rw [nD_len] at this; omega
      obtain ⟨x, hx⟩ : ∃ x, r[k]? = some x := ⟨r[k], List.getElem?_eq_getElem hk⟩
      have hxl := i2 x (List.mem_of_getElem? hx)
      obtain ⟨q, hq⟩ : ∃ q, t[x]? = some q := ⟨t[x], List.getElem?_eq_getElem hxl⟩
      refine gq_set (d := rwD q) (ev_op (ev_var rfl) (ev_op (ev_var rfl) (ev_var rfl) (rv_ixL (.inl List.mem_cons_self) (atN (nD_get hx)))) (rv_ixT (atN (tb_get hq)))) ?_
      -- the successors
      have hsd : ∃ l, (match q with | .go l => l | .fin _ => []) = l ∧ succ t x = l ∧ (∀ y ∈ l, y < t.length) ∧ l.length ≤ 6 := by
        cases q with
        | fin o => exact ⟨[], rfl, by unfold succ; rw [hq], fun y hy => (nomatch hy), by simp⟩
        | go l => exact ⟨l, rfl, by unfold succ; rw [hq], (T.go x l hq).2, by rw [(T.go x l hq).1]; exact T.s2⟩
      obtain ⟨l, hl1, hl2, hl3, hl4⟩ := hsd
      refine gq_for0 (ds := nD l) (W := fun _ => True) (ei_tup ?_) (fun i G L => ∃ (r' : List Nat) (v2 : Option D), G = [some (tbD t), some (.int (st : Int)), some (.ref a), some (.int (k : Int)), some (rwD q), v2] ∧ L = [(a, .lst (nD r'))] ∧ (∀ x ∈ r, x ∈ r') ∧ r'.take r.length = r ∧ r'.Nodup ∧ (∀ x ∈ r', x < t.length) ∧ ∀ j y, j < i → l[j]? = some y → y ∈ r')
        ⟨r, v2, rfl, rfl, fun _ h => h, List.take_length, i1, i2, fun j y hj => by omega⟩ (fun _ _ _ _ => trivial) (fun i d G L hd hI => ?_) (fun G L hI => ?_)
      · cases q with
        | fin o =>
          have : l = [] := hl1.symm
          subst this
          exact ev_if (b := false) (et_B (ev_isTupB (ev_var rfl) rfl rfl)) (fun h => by cases h) (fun _ => ev_tup ea_nil (by show 0 ≤ 100000; decide))
        | go l' =>
          have : l = l' := hl1.symm
          subst this
          exact ev_if (b := true) (et_B (ev_isTupB (ev_var rfl) rfl rfl)) (fun _ => ev_var rfl) (fun h => by cases h)
      · obtain ⟨r', v2, rfl, rfl, j0, jt, j1, j2, j3⟩ := hI
        obtain ⟨y, hy, rfl⟩ := nD_of hd
        have hyl := hl3 y (List.mem_of_getElem? hy)
        have hrl' := nodup_len j1 j2
        refine ⟨_, eg_name, ?_⟩
        refine gq_if2 (b := !decide ((y : Int) ∈ r'.map fun (z : Nat) => (z : Int))) (et_test (ev_op (ev_var rfl) (ev_var rfl) (rv_niL (.inl (by rw [← nD_ints]; exact List.mem_cons_self))))) (fun hb => ?_) (fun hb => ?_)
        · have hn : y ∉ r' := fun h => by rw [decide_eq_true (mem_cast.mpr h)] at hb; cases hb
          refine gq_assoc (gq_append (k := 0) rfl (ev_var rfl) (ev_var rfl) (by rw [nD_len]; have := T.n2; omega) (gq_nil (go_next ?_)))
          rw [nD_snoc]
          refine ⟨r' ++ [y], _, rfl, rfl, fun x hx => List.mem_append_left _ (j0 x hx), ?_, nodup_snoc j1 hn, fun x hx => ?_, fun j z hj hz => ?_⟩
          · have hlen : r.length ≤ r'.length := by rw [← jt, List.length_take]; omega
            rw [List.take_append_of_le_length hlen, jt]
          · rcases List.mem_append.mp hx with hx | hx
            · exact j2 x hx
            · rw [List.mem_singleton.mp hx]; exact hyl
          · by_cases e : j = i
            · subst e; rw [hy] at hz; cases hz; exact List.mem_append_right _ (List.mem_singleton.mpr rfl)
            · exact List.mem_append_left _ (j3 j z (by omega) hz)
        · have hn : y ∈ r' := by
            by_cases h : y ∈ r'
            · exact h
            · rw [decide_eq_false (fun z => h (mem_cast.mp z))] at hb; cases hb
          refine gq_nil (go_next ⟨r', _, rfl, rfl, j0, jt, j1, j2, fun j z hj hz => ?_⟩)
          by_cases e : j = i
          · subst e; rw [hy] at hz; cases hz; exact hn
          · exact j3 j z (by omega) hz
      · obtain ⟨r', v2, rfl, rfl, j0, jt, j1, j2, j3⟩ := hI
        have hlen : r.length ≤ r'.length := by rw [← jt, List.length_take]; omega
        have hrl' := nodup_len j1 j2
        have pre : ∀ i, i < r.length → r'[i]? = r[i]? := fun i hi => by rw [← List.getElem?_take_of_lt hi (l := r'), jt]
        refine gq_aug (a := (k : Int)) (c := 1) rfl ev_int (go_next ⟨t.length - (k + 1), by omega, r', k + 1, _, _, rfl, rfl, ⟨j1, j2, j0 _ i3, by omega, fun i z hi hz => ?_⟩, rfl⟩)
        by_cases e : i = k
        · subst e
          rw [pre _ hk, hx] at hz
          cases hz
          rw [hl2]
          intro y hy
          obtain ⟨j, hj⟩ := List.getElem?_of_mem hy
          exact j3 j y (by rw [nD_len]; exact (List.getElem?_eq_some_iff.mp hj).1) hj
        · rw [pre i (by omega)] at hz
          exact fun y hy => j0 y (i5 i z (by omega) hz y hy)
    · have hk : k = r.length := by have := of_decide_eq_false hb; rw [nD_len] at this; omega
      refine ⟨r, _, _, _, rfl, rfl, i1, i2, i3, fun x hx => ?_⟩
      obtain ⟨j, hj⟩ := List.getElem?_of_mem hx
      exact i5 j x (by rw [hk]; exact (List.getElem?_eq_some_iff.mp hj).1) hj
  · obtain ⟨r, v1, v2, v3, rfl, rfl, hr⟩ := hM
    exact gq_retA (ev_var rfl) ⟨r, hr, a, rfl, rfl⟩
/-- the final places among the first i -/
def fins (t : List Rw) (i : Nat) : List Nat := (List.range i).filter fun k => match t[k]? with | some (.fin _) => true | _ => false
def numT (t : List Rw) : List D := nums (t.map rwD)
theorem numT_get {t : List Rw} {i : Nat} {d : D} (h : (numT t)[i]? = some d) : ∃ r, t[i]? = some r ∧ d = .tup [.int (i : Int), rwD r] := by
  have hi : i < t.length := by have := (List.getElem?_eq_some_iff.mp h).1; unfold numT at this; rwa [nums_len, List.length_map] at this
  obtain ⟨r, hr⟩ : ∃ r, t[i]? = some r := ⟨t[i], List.getElem?_eq_getElem hi⟩
  have := nums_get (tb_get hr)
  unfold numT at h
  rw [this] at h
  exact ⟨r, hr, (Option.some.inj h).symm⟩
theorem numT_fins (t : List Rw) : ((numT t).filter fun d => match d with | .tup [_, .int _] => true | _ => false).map (fun d => match d with | .tup [x, _] => x | _ => .non) = nD (fins t t.length) := by
  have key : ∀ i, i ≤ t.length → (((numT t).take i).filter fun d => match d with | .tup [_, .int _] => true | _ => false).map (fun d => match d with | .tup [x, _] => x | _ => .non) = nD (fins t i) := by
    intro i
    induction i with
    | zero => intro _; rfl
    | succ i ih =>
      intro hi
      obtain ⟨r, hr⟩ : ∃ r, t[i]? = some r := ⟨t[i], List.getElem?_eq_getElem (by omega)⟩
      have hn : (numT t)[i]? = some (.tup [.int (i : Int), rwD r]) := nums_get (tb_get hr)
      rw [List.take_succ, hn, List.filter_append, List.map_append, ih (by omega)]
      unfold fins
      rw [List.range_succ, List.filter_append]
      cases r with
      | fin o =>
        simp only [Option.toList_some, rwD, List.filter_cons, List.filter_nil, if_true, List.map_cons, List.map_nil, hr]
        exact nD_snoc _ i
      | go l =>
        simp only [Option.toList_some, rwD, List.filter_cons, List.filter_nil, Bool.false_eq_true, if_false, List.map_nil, List.append_nil, hr]
  have := key t.length (Nat.le_refl _)
  rwa [List.take_of_length_le (by unfold numT; rw [nums_len, List.length_map]; exact Nat.le_refl _)] at this
theorem fins_nd (t : List Rw) (i : Nat) : (fins t i).Nodup := List.nodup_range.filter _
theorem fins_lt (t : List Rw) (i : Nat) : ∀ x ∈ fins t i, x < i := fun x hx => List.mem_range.mp (List.mem_filter.mp hx).1
theorem fins_mem {t : List Rw} {i x o : Nat} (h : t[x]? = some (.fin o)) (hx : x < i) : x ∈ fins t i := List.mem_filter.mpr ⟨List.mem_range.mpr hx, by rw [h]⟩
theorem ok_deciding (B : Bl mg) (F : FunG K mg "deciding" s_deciding)  : Pf P w K mg base "deciding" 1 S_decid := by
  refine pf_mk F sc_deciding (fun _ _ _ _ _ _ us hl => match us, hl with | [_], _ => rfl) (fun Z ds R h => by obtain ⟨s, m, n, rfl, _⟩ := h; rfl) (fun f cdv A outer s H E hr => ⟨_, (pss_cons (ps_set (i := 1) sc_deciding.nd rfl (.inr rfl) (pe_lc (own := [("place", 3), ("state", 4)]) (g := gTup K 2 (gCons (gName 3) (gCons (gName 4) gNil))) rfl sc_deciding.nd (pi_enumK (K := K) rfl rfl B rfl (pa_cons (pv 0) pa_nil)) (blkOk_by (own := [("place", 3), ("state", 4)]) (N := ["table", "result", "before", "place", "state", "later"]) (sc := defScope (s_deciding)) (by decide +kernel)) (fun _ _ _ _ _ => (pg_tupK (K := K) rfl rfl (pgs_cons (pg_name (i := 3) sc_deciding.nd rfl (.inl rfl)) (pgs_cons (pg_name (i := 4) sc_deciding.nd rfl (.inl rfl)) pgs_nil)))) (fun _ _ _ _ _ => pts_one (pt_not (pt_val (pe_isi (K := K) rfl rfl B rfl (pa_cons (pv 4) (pa_cons (pe_tyT rfl B rfl) pa_nil)))))) (fun _ _ _ _ _ => (pv 3)))) (pss_cons (ps_set (i := 2) sc_deciding.nd rfl (.inl rfl) (pe_un un_neg pe_int)) (pss_cons (ps_while PassesOwn.never (pt_cmpR op_ne (pv 2) (pe_len (K := K) rfl rfl B rfl (pa_cons (pv 1) pa_nil)) (nomark _)) (pss_cons (ps_set (i := 2) sc_deciding.nd rfl (.inl rfl) (pe_len (K := K) rfl rfl B rfl (pa_cons (pv 1) pa_nil))) (pss_cons (ps_for PassesOwn.never rfl (pi_enumK (K := K) rfl rfl B rfl (pa_cons (pv 0) pa_nil)) (pg_tupK (K := K) rfl rfl (pgs_cons (pg_name (i := 3) sc_deciding.nd rfl (.inl rfl)) (pgs_cons (pg_name (i := 4) sc_deciding.nd rfl (.inl rfl)) pgs_nil))) (pss_cons (ps_if (PW.pt (pw_and (pt_cmpR (op_niK (K := K) rfl) (pv 3) (pv 1) rfl) (pw_and1 (pt_val (pe_any (K := K) rfl rfl B rfl rfl (pa_cons (pe_lc (own := [("later", 5)]) (g := gName 5) rfl sc_deciding.nd (pi_tupK (K := K) rfl (pv 4)) (blkOk_by (own := [("later", 5)]) (N := ["table", "result", "before", "place", "state", "later"]) (sc := defScope (s_deciding)) (by decide +kernel)) (fun _ _ _ _ _ => (pg_name (i := 5) sc_deciding.nd rfl (.inl rfl))) (fun _ _ _ _ _ => pts_nil) (fun _ _ _ _ _ => (pe_cmpR (op_inK (K := K) rfl) (pv 5) (pv 1) rfl))) pa_nil)))))) (pss_cons (ps_expr (pe_bm PySem.F.plainAttrs_list PySem.F.slot_list_append PySem.F.type_list_append mt_append (pv 1) (pa_cons (pv 3) pa_nil))) pss_nil) pss_nil) pss_nil)) pss_nil))) (pss_cons (ps_ret (pv 1)) pss_nil)))), fun Z ds R H0 hz hS => ?_⟩)
  obtain ⟨s, many, t, rfl, T, rfl⟩ := hS
  have hlen : (numT t).length = t.length := by unfold numT; rw [nums_len, List.length_map]
  refine gq_new (en_lc2 (ds := numT t) (fun d => match d with | .tup [_, .int _] => true | _ => false) (fun d => match d with | .tup [x, _] => x | _ => .non) (by decide) (ei_enum (ea_cons (ev_var rfl) ea_nil) (.tup _)) (fun _ => trivial) (fun d hd => ?_) (by rw [hlen]; have := T.n2; omega)) fun a => ?_
  · obtain ⟨i, hi⟩ := List.getElem?_of_mem hd
    obtain ⟨r, hr, rfl⟩ := numT_get hi
    refine ⟨_, _, rfl, ?_, fun _ => ev_var rfl⟩
    cases r with
    | fin o => exact et_not (tt := tB _) (et_B (b := false) (ev_isTupB (ev_var rfl) rfl rfl))
    | go l => exact et_not (tt := tB _) (et_B (b := true) (ev_isTupB (ev_var rfl) rfl rfl))
  rw [numT_fins t]
  refine gq_set (ev_un1 ev_int) ?_
  let I : List Nat → Prop := fun r => r.Nodup ∧ (∀ x ∈ r, x < t.length) ∧ ∀ (i o : Nat), t[i]? = some (Rw.fin o) → i ∈ r
  refine gq_while (m0 := t.length + 1) (fun m G L => ∃ (r : List Nat) (bf : Int) (v1 v2 v3 : Option D), G = [some (tbD t), some (.ref a), some (.int bf), v1, v2, v3] ∧ L = [(a, .lst (nD r))] ∧ I r ∧ bf ≤ r.length ∧ -1 ≤ bf ∧ (m : Int) = t.length - bf ∧ (bf = r.length → Dcd t r))
    ⟨fins t t.length, -1, none, none, none, rfl, rfl, ⟨fins_nd _ _, fins_lt _ _, fun i o h => fins_mem h (List.getElem?_eq_some_iff.mp h).1⟩, by omega, by omega, by omega, fun h => by omega⟩
    (fun G L => ∃ (r : List Nat) (v1 v2 v3 v4 : Option D), G = [some (tbD t), some (.ref a), v1, v2, v3, v4] ∧ L = [(a, .lst (nD r))] ∧ Dcd t r) (fun m G L hW => ?_) (fun G L hM => ?_)
  · obtain ⟨r, bf, v1, v2, v3, rfl, rfl, ⟨i1, i2, i3⟩, hb1, hb2, hm, hc⟩ := hW
    have hrl := nodup_len i1 i2
    refine ⟨_, et_test (ev_op (ev_var rfl) (ev_cb (ea_cons (ev_var rfl) ea_nil) (rc_lenL (.inl List.mem_cons_self))) rv_neI), fun hb => ?_, fun hb => ?_⟩
    · have hne : bf ≠ r.length := by rw [nD_len] at hb; intro e; rw [decide_eq_true e] at hb; cases hb
      refine gq_set (ev_cb (ea_cons (ev_var rfl) ea_nil) (rc_lenL (.inl List.mem_cons_self))) ?_
      rw [nD_len]
      refine gq_for0 (ds := numT t) (ei_enum (ea_cons (ev_var rfl) ea_nil) (.tup _)) (fun i G L => ∃ (r' : List Nat) (v1 v2 v3 : Option D), G = [some (tbD t), some (.ref a), some (.int (r.length : Int)), v1, v2, v3] ∧ L = [(a, .lst (nD r'))] ∧ I r' ∧ r.length ≤ r'.length ∧ (∀ x ∈ r, x ∈ r') ∧
          (r'.length = r.length → r' = r ∧ ∀ j l, j < i → t[j]? = some (Rw.go l) → (∃ y ∈ l, y ∈ r) → j ∈ r))
        ⟨r, _, _, _, rfl, rfl, ⟨i1, i2, i3⟩, Nat.le_refl _, fun _ h => h, fun _ => ⟨rfl, fun j l hj => by omega⟩⟩ (fun _ _ _ _ => trivial) (fun i d G L hd hI => ?_) (fun G L hI => ?_)
      · obtain ⟨r', v1, v2, v3, rfl, rfl, ⟨j1, j2, j3⟩, j4, j5, j6⟩ := hI
        obtain ⟨q, hq, rfl⟩ := numT_get hd
        have hiq := (List.getElem?_eq_some_iff.mp hq).1
        have hrl' := nodup_len j1 j2
        refine ⟨_, eg_two, ?_⟩
        -- the test
        have tst : ∃ b, EvT K H0 [some (tbD t), some (.ref a), some (.int (r.length : Int)), some (.int (i : Int)), some (rwD q), v3] [(a, .lst (nD r'))] (tAnd (tTest (tOp (rIn K true) (tVar 3) (tVar 1))) (tB (tCB (rAny K) (tCons (tLc (iTup K (tVar 4)) (gName 5) tYes (tOp (rIn K false) (tVar 5) (tVar 1)) [5]) tNil)))) b ∧
            (b = true → i ∉ r') ∧ (b = false → i ∈ r' ∨ ∃ l, q = .go l ∧ ∀ y ∈ l, y ∉ r') := by
          have t1 : EvT K H0 [some (tbD t), some (.ref a), some (.int (r.length : Int)), some (.int (i : Int)), some (rwD q), v3] [(a, .lst (nD r'))] (tTest (tOp (rIn K true) (tVar 3) (tVar 1))) (!decide ((i : Int) ∈ r'.map fun (z : Nat) => (z : Int))) :=
            et_test (ev_op (ev_var rfl) (ev_var rfl) (rv_niL (.inl (by rw [← nD_ints]; exact List.mem_cons_self))))
          by_cases hin : i ∈ r'
          · rw [decide_eq_true (mem_cast.mpr hin)] at t1
            exact ⟨_, et_and (c := true) t1 (fun h => by cases h), fun h => (by cases h), fun _ => .inl hin⟩
          · rw [decide_eq_false (fun z => hin (mem_cast.mp z))] at t1
            cases q with
            | fin o => exact absurd (j3 i o hq) hin
            | go l =>
              have h5 := (T.go i l hq).1
              have h6 := T.s2
              refine ⟨_, et_and t1 (fun _ => et_B (ev_anyN (ds := nD l) (f := fun d => match d with | .int k => decide (k ∈ r'.map fun (z : Nat) => (z : Int)) | _ => false) (v := fun d => .bl (match d with | .int k => decide (k ∈ r'.map fun (z : Nat) => (z : Int)) | _ => false)) (en_lcY _ (ei_tup (ev_var rfl)) (fun _ => trivial) (fun d hd => ?_) (by rw [nD_len]; omega)) (fun _ _ => rfl))), fun _ => hin, fun hb => .inr ⟨l, rfl, fun y hy hyr => ?_⟩⟩
              · obtain ⟨k, hk⟩ := List.getElem?_of_mem hd
                obtain ⟨y, hy, rfl⟩ := nD_of hk
                exact ev_op (ev_var rfl) (ev_var rfl) (rv_isL (.inl (by rw [← nD_ints]; exact List.mem_cons_self)))
              · have : ((nD l).any fun d => match d with | .int k => decide (k ∈ r'.map fun (z : Nat) => (z : Int)) | _ => false) = true := by
                  rw [List.any_eq_true]
                  exact ⟨.int (y : Int), List.mem_map.mpr ⟨y, hy, rfl⟩, decide_eq_true (mem_cast.mpr hyr)⟩
                rw [this] at hb
                cases hb
        obtain ⟨b, tb, tt1, tt2⟩ := tst
        refine gq_if2 tb (fun hb => ?_) (fun hb => ?_)
        · have hn := tt1 hb
          refine gq_assoc (gq_append (k := 0) rfl (ev_var rfl) (ev_var rfl) (by rw [nD_len]; have := T.n2; omega) (gq_nil (go_next ?_)))
          rw [nD_snoc]
          refine ⟨r' ++ [i], _, _, _, rfl, rfl, ⟨nodup_snoc j1 hn, fun x hx => ?_, fun k o hk => List.mem_append_left _ (j3 k o hk)⟩, by rw [List.length_append]; omega, fun x hx => List.mem_append_left _ (j5 x hx), fun he => ?_⟩
          · rcases List.mem_append.mp hx with hx | hx
            · exact j2 x hx
            · rw [List.mem_singleton.mp hx]; exact hiq
          · rw [List.length_append, List.length_singleton] at he; omega
        · refine gq_nil (go_next ⟨r', _, _, _, rfl, rfl, ⟨j1, j2, j3⟩, j4, j5, fun he => ⟨(j6 he).1, fun j l hj hjl hy => ?_⟩⟩)
          by_cases e : j = i
          · subst e
            rw [hjl] at hq
            cases hq
            rcases tt2 hb with h | ⟨l', hl', hno⟩
            · rw [← (j6 he).1]; exact h
            · cases hl'
              obtain ⟨y, hy1, hy2⟩ := hy
              exact absurd (j5 y hy2) (hno y hy1)
          · exact (j6 he).2 j l (by omega) hjl hy
      · obtain ⟨r', v1, v2, v3, rfl, rfl, ⟨j1, j2, j3⟩, j4, j5, j6⟩ := hI
        have hrl' := nodup_len j1 j2
        refine go_next ⟨t.length - r.length, by omega, r', (r.length : Int), _, _, _, rfl, rfl, ⟨j1, j2, j3⟩, by omega, by omega, by omega, fun he => ?_⟩
        have he' : r'.length = r.length := by omega
        obtain ⟨e1, e2⟩ := j6 he'
        subst e1
        exact ⟨j1, j2, j3, fun i l hi hy => e2 i l (by rw [hlen]; exact (List.getElem?_eq_some_iff.mp hi).1) hi hy⟩
    · have he : bf = r.length := by
        rw [nD_len] at hb
        by_cases h : bf = r.length
        · exact h
        · rw [decide_eq_false h] at hb; cases hb
      exact ⟨r, _, _, _, _, rfl, rfl, hc he⟩
  · obtain ⟨r, v1, v2, v3, v4, rfl, rfl, hr⟩ := hM
    exact gq_retA (ev_var rfl) ⟨r, hr, a, rfl, rfl⟩
end
inductive Ra (t : List Rw) (st : Nat) : Nat → Prop where
  | st : Ra t st st
  | step {x y : Nat} : Ra t st x → y ∈ succ t x → Ra t st y
theorem Rch.all {t : List Rw} {st : Nat} {r : List Nat} (h : Rch t st r) {x : Nat} (a : Ra t st x) : x ∈ r := by
  induction a with
  | st => exact h.st
  | step _ hy ih => exact h.cl _ ih _ hy
theorem len_all {r : List Nat} {n : Nat} (h : r.Nodup) (hl : ∀ x ∈ r, x < n) (ha : ∀ x, x < n → x ∈ r) : r.length = n := by
  refine Nat.le_antisymm (nodup_len h hl) ?_
  have := List.Nodup.length_le_of_subset (l₁ := List.range n) (l₂ := r) List.nodup_range fun x hx => ha x (List.mem_range.mp hx)
  simpa using this
theorem Dcd.all {s many : Nat} {t : List Rw} {r : List Nat} {d : Nat → Nat} (T : Tb s many t) (h : Dcd t r) (k : Rk t d) : ∀ n i, d i < n → i < t.length → i ∈ r := by
  intro n
  induction n with
  | zero => intro i hi; omega
  | succ n ih =>
    intro i hi hl
    obtain ⟨q, hq⟩ : ∃ q, t[i]? = some q := ⟨t[i], List.getElem?_eq_getElem hl⟩
    cases q with
    | fin o => exact h.fin i o hq
    | go l =>
      obtain ⟨x, hx, hd⟩ := k i l hq
      exact h.cl i l hq ⟨x, hx, ih x (by omega) ((T.go i l hq).2 x hx)⟩
def S_istab : FS := fun _ ds R => ∃ (s m : Nat) (t : List Rw) (d : Nat → Nat), ds = [.int (s : Int), .int (m : Int), tbD t] ∧ Tb s m t ∧ Rk t d ∧ (∀ i, i < t.length → Ra t 0 i) ∧ R = Val (.bl true)
section
variable {P : Program} {w : World} {K : PySem.W.Frag} {mg : Str → Option Value} {base : Heap}
theorem ok_is_table_by (B : Bl mg) (F : FunG K mg "is_table_by" s_is_table_by) (C : Cs K mg) (hS1 : Pf P w K mg base "is_state" 3 S_state) (hRF : Pf P w K mg base "reached_from" 1 S_reach) (hDE : Pf P w K mg base "deciding" 1 S_decid) : Pf P w K mg base "is_table_by" 4 S_istab := by
  refine pf_mk F sc_is_table_by (fun _ _ _ _ _ _ us hl => match us, hl with | [_, _, _], _ => rfl) (fun Z ds R h => by obtain ⟨s, m, t, d, rfl, _⟩ := h; rfl) (fun f cdv A outer s H E hr => ⟨_, (pss_cons (ps_if (PW.pt (pw_or (pt_not (pt_val (pe_isi (K := K) rfl rfl B rfl (pa_cons (pv 2) (pa_cons (pe_tyT rfl B rfl) pa_nil))))) (pw_or1 (pt_not (pt_chain op_le op_le pe_int (pe_len (K := K) rfl rfl B rfl (pa_cons (pv 2) pa_nil)) (pe_cst C.mst rfl)))))) (pss_cons (ps_ret pe_bl) pss_nil) pss_nil) (pss_cons (ps_if (pt_not (pt_val (pe_all (K := K) rfl rfl B rfl rfl (pa_cons (pe_lc (own := [("state", 3)]) (g := gName 3) rfl sc_is_table_by.nd (pi_tupK (K := K) rfl (pv 2)) (blkOk_by (own := [("state", 3)]) (N := ["sides", "many", "value", "state"]) (sc := defScope (s_is_table_by)) (by decide +kernel)) (fun _ _ _ _ _ => (pg_name (i := 3) sc_is_table_by.nd rfl (.inl rfl))) (fun _ _ _ _ _ => pts_nil) (fun _ _ _ _ _ => (pe_pf hS1 hr (by decide) rfl (pa_cons (pv 0) (pa_cons (pv 1) (pa_cons (pe_len (K := K) rfl rfl B rfl (pa_cons (pv 2) pa_nil)) (pa_cons (pv 3) pa_nil))))))) pa_nil)))) (pss_cons (ps_ret pe_bl) pss_nil) pss_nil) (pss_cons (ps_ret (pe_and (pe_cmpR op_eq (pe_len (K := K) rfl rfl B rfl (pa_cons (pe_pf hRF hr (by decide) rfl (pa_cons (pv 2) (pa_cons pe_int pa_nil))) pa_nil)) (pe_len (K := K) rfl rfl B rfl (pa_cons (pv 2) pa_nil)) (nomark _)) (pe_one (pe_cmpR op_eq (pe_len (K := K) rfl rfl B rfl (pa_cons (pe_pf hDE hr (by decide) rfl (pa_cons (pv 2) pa_nil)) pa_nil)) (pe_len (K := K) rfl rfl B rfl (pa_cons (pv 2) pa_nil)) (nomark _))))) pss_nil))), fun Z ds R H0 hz hS => ?_⟩)
  obtain ⟨s, m, t, d, rfl, T, hk, hra, rfl⟩ := hS
  have hl : (t.map rwD).length = t.length := List.length_map ..
  have n1 := T.n1
  have n2 := T.n2
  refine gq_ifL (b := false) (et_or (b := false) (c := false) (et_not (tt := tB _) (et_B (b := true) (ev_isTupB (ev_var rfl) rfl rfl))) (fun _ => et_not (b := true) (EvT.cast (et_test (ev_chain ev_int (ev_cb (ea_cons (ev_var rfl) ea_nil) rc_lenT) rv_le (fun _ => ev_int) (fun _ => rv_le))) ?_))) (fun h => by cases h) (fun _ => ?_)
  · rw [hl, decide_eq_true (by omega), decide_eq_true (by omega)]; rfl
  refine gq_ifL (b := false) (et_not (tt := tB _) (et_B (b := true) (EvP.cast (ev_allN (f := fun _ => true) (v := fun _ => .bl true) (en_lcY (v := fun _ => .bl true) (ei_tup (ev_var rfl)) (fun _ => trivial) (fun x hx => ?_) (by rw [hl]; omega)) (fun _ _ => rfl)) ?_))) (fun h => by cases h) (fun _ => ?_)
  · obtain ⟨i, hi⟩ := List.getElem?_of_mem hx
    obtain ⟨q, hq, rfl⟩ := tb_of hi
    refine ev_call (ea_cons (ev_var rfl) (ea_cons (ev_var rfl) (ea_cons (ev_cb (ea_cons (ev_var rfl) ea_nil) rc_lenT) (ea_cons (ev_var rfl) ea_nil)))) ⟨s, m, t.length, q, by rw [hl], ?_, rfl⟩
    cases q with
    | fin o => exact T.fin i o hq
    | go l => exact ⟨(T.go i l hq).1, (T.go i l hq).2, by rw [(T.go i l hq).1]; have := T.s2; omega⟩
  · congr 1
    exact List.all_eq_true.mpr fun _ _ => rfl
  refine gq_retP (EvP.cast (ev_andV (b := true) (c := true) (EvP.cast (ev_op (ev_lenX (n := t.length) (en_call (ea_cons (ev_var rfl) (ea_cons ev_int ea_nil)) ⟨s, m, t, 0, rfl, T, n1, rfl⟩ noZ) ?_) (ev_cb (ea_cons (ev_var rfl) ea_nil) rc_lenT) rv_eqI) ?_) (fun _ => EvP.cast (ev_op (ev_lenX (n := t.length) (en_call (ea_cons (ev_var rfl) ea_nil) ⟨s, m, t, rfl, T, rfl⟩ noZ) ?_) (ev_cb (ea_cons (ev_var rfl) ea_nil) rc_lenT) rv_eqI) ?_)) rfl) rfl
  · rintro d N ⟨r, hr, a, rfl, rfl⟩
    exact ⟨a, _, rfl, rfl, by rw [nD_len, len_all hr.nd hr.lt fun x hx => hr.all (hra x hx)]⟩
  · rw [hl, decide_eq_true rfl]
  · rintro d' N ⟨r, hr, a, rfl, rfl⟩
    exact ⟨a, _, rfl, rfl, by rw [nD_len, len_all hr.nd hr.lt fun x hx => hr.all T hk (d x + 1) x (by omega) hx]⟩
  · rw [hl, decide_eq_true rfl]
end
end Fc

namespace Fc
open PySem PySem.Spec PyProof.Rows L2
/-! ## dicts of shares -/
def enc (kl : List (Nat × Rat)) : List (Key × D) := kl.map fun q => ((.inl (q.1 : Int) : Key), fr q.2)
def unfr : D → Rat
  | .tup [.int a, .int b] => mkRat a b.toNat
  | _ => 0
theorem unfr_fr (r : Rat) : unfr (fr r) = r := by
  show mkRat r.num ((r.den : Int)).toNat = r
  rw [Int.toNat_natCast]
  exact Rat.mkRat_self r
structure DR (b n : Nat) (ks : List (Key × D)) (f : Nat → Rat) : Prop where
  ex : ∃ kl : List (Nat × Rat), ks = enc kl ∧ (kl.map (·.1)).Nodup ∧ (∀ q ∈ kl, q.1 < b ∧ q.2 = f q.1) ∧ ∀ c, c < n → c ∉ kl.map (·.1) → f c = 0
theorem enc_in {f : Nat → Rat} {c : Nat} : ∀ {kl : List (Nat × Rat)}, (∀ q ∈ kl, q.2 = f q.1) → c ∈ kl.map (·.1) → valD (enc kl) (.inl (c : Int)) = some (fr (f c))
  | [], _, h => nomatch h
  | q :: r, h, hc => by
    by_cases e : q.1 = c
    · have := h q List.mem_cons_self
      rw [← e, ← this]
      simp [valD, enc, List.find?_cons]
    · have ih := enc_in (kl := r) (fun x hx => h x (List.mem_cons_of_mem _ hx)) ((List.mem_cons.mp hc).resolve_left fun z => e z.symm)
      have e2 : valD (enc (q :: r)) (.inl (c : Int)) = valD (enc r) (.inl (c : Int)) := by
        have ne : ¬ ((Sum.inl (q.1 : Int) : Key) = Sum.inl (c : Int)) := fun z => e (by have := Sum.inl.inj z; omega)
        simp only [valD, enc, List.map_cons, List.find?_cons, ne, decide_false]
      rw [e2, ih]
theorem enc_out {c : Nat} : ∀ {kl : List (Nat × Rat)}, c ∉ kl.map (·.1) → valD (enc kl) (.inl (c : Int)) = none
  | [], _ => rfl
  | q :: r, hc => by
    rw [List.map_cons, List.mem_cons, not_or] at hc
    have e : ¬ q.1 = c := fun z => hc.1 z.symm
    have ih := enc_out (kl := r) hc.2
    have ne : ¬ ((Sum.inl (q.1 : Int) : Key) = Sum.inl (c : Int)) := fun z => e (by have := Sum.inl.inj z; omega)
    have e2 : valD (enc (q :: r)) (.inl (c : Int)) = valD (enc r) (.inl (c : Int)) := by
      simp only [valD, enc, List.map_cons, List.find?_cons, ne, decide_false]
    rw [e2, ih]
theorem enc_any {c : Nat} (kl : List (Nat × Rat)) : ((enc kl).any fun kv => decide (kv.1 = .inl (c : Int))) = decide (c ∈ kl.map (·.1)) := by
  induction kl with
  | nil => rfl
  | cons q r ih =>
    unfold enc at ih ⊢
    rw [List.map_cons, List.any_cons, ih, List.map_cons]
    by_cases e : q.1 = c
    · subst e; simp
    · have ne : ¬ ((Sum.inl (q.1 : Int) : Key) = Sum.inl (c : Int)) := fun z => e (by have := Sum.inl.inj z; omega)
      have e' : ¬ c = q.1 := fun z => e z.symm
      rw [decide_eq_false ne, Bool.false_or]
      simp only [List.mem_cons, e', false_or]
section
variable {b n : Nat} {ks : List (Key × D)} {f g : Nat → Rat}
theorem DR.nil (h : ∀ c, c < n → f c = 0) : DR b n [] f := ⟨[], rfl, .nil, fun _ h => (nomatch h), fun c hc _ => h c hc⟩
theorem DR.get (h : DR b n ks f) {c : Nat} (hc : c < n) : (valD ks (.inl (c : Int))).getD (fr 0) = fr (f c) := by
  obtain ⟨kl, rfl, h1, h2, h3⟩ := h
  by_cases hm : c ∈ kl.map (·.1)
  · rw [enc_in (fun q hq => (h2 q hq).2) hm]; rfl
  · rw [enc_out hm, h3 c hc hm]; rfl
theorem DR.some (h : DR b n ks f) {c : Nat} (hs : (valD ks (.inl (c : Int))).isSome = true) : valD ks (.inl (c : Int)) = .some (fr (f c)) := by
  obtain ⟨kl, rfl, h1, h2, h3⟩ := h
  by_cases hm : c ∈ kl.map (·.1)
  · exact enc_in (fun q hq => (h2 q hq).2) hm
  · rw [enc_out hm] at hs; cases hs
theorem DR.none (h : DR b n ks f) {c : Nat} (hc : c < n) (hs : (valD ks (.inl (c : Int))).isSome = false) : f c = 0 := by
  obtain ⟨kl, rfl, h1, h2, h3⟩ := h
  by_cases hm : c ∈ kl.map (·.1)
  · rw [enc_in (fun q hq => (h2 q hq).2) hm] at hs; cases hs
  · exact h3 c hc hm
theorem DR.shrink (h : DR (b + 1) n ks f) (hs : (valD ks (.inl (b : Int))).isSome = false) : DR b n ks f := by
  obtain ⟨kl, rfl, h1, h2, h3⟩ := h
  refine ⟨kl, rfl, h1, fun q hq => ⟨?_, (h2 q hq).2⟩, h3⟩
  have h4 := (h2 q hq).1
  by_cases e : q.1 = b
  · have hm : b ∈ kl.map (·.1) := List.mem_map.mpr ⟨q, hq, e⟩
    rw [enc_in (fun q hq => (h2 q hq).2) hm] at hs; cases hs
  · omega
theorem DR.congr (h : DR b n ks f) (hb : b ≤ n) (e : ∀ c, c < n → f c = g c) : DR b n ks g := by
  obtain ⟨kl, rfl, h1, h2, h3⟩ := h
  exact ⟨kl, rfl, h1, fun q hq => ⟨(h2 q hq).1, by rw [← e q.1 (by have := (h2 q hq).1; omega)]; exact (h2 q hq).2⟩, fun c hc hm => by rw [← e c hc]; exact h3 c hc hm⟩
theorem DR.len (h : DR b n ks f) : ks.length ≤ b := by
  obtain ⟨kl, rfl, h1, h2, h3⟩ := h
  have := nodup_len h1 (n := b) fun x hx => by obtain ⟨q, hq, rfl⟩ := List.mem_map.mp hx; exact (h2 q hq).1
  unfold enc
  rw [List.length_map] at this ⊢
  exact this
theorem put_in' {c : Nat} {v : Rat} {kl : List (Nat × Rat)} (hm : c ∈ kl.map (·.1)) : putD (enc kl) (.inl (c : Int)) (fr v) = enc (kl.map fun q => if q.1 = c then (c, v) else q) := by
  unfold putD
  rw [enc_any, decide_eq_true hm, if_pos rfl]
  unfold enc
  rw [List.map_map, List.map_map]
  refine List.map_congr_left fun q hq => ?_
  show (if (Sum.inl (q.1 : Int) : Key) = .inl (c : Int) then ((.inl (q.1 : Int) : Key), fr v) else ((.inl (q.1 : Int) : Key), fr q.2)) = _
  by_cases e : q.1 = c
  · show _ = ((.inl (((if q.1 = c then (c, v) else q).1 : Nat) : Int) : Key), fr (if q.1 = c then (c, v) else q).2)
    rw [if_pos e, if_pos (by rw [e]), e]
  · show _ = ((.inl (((if q.1 = c then (c, v) else q).1 : Nat) : Int) : Key), fr (if q.1 = c then (c, v) else q).2)
    rw [if_neg e, if_neg fun z => e (by have := Sum.inl.inj z; omega)]
theorem put_out' {c : Nat} {v : Rat} {kl : List (Nat × Rat)} (hm : c ∉ kl.map (·.1)) : putD (enc kl) (.inl (c : Int)) (fr v) = enc (kl ++ [(c, v)]) := by
  unfold putD
  rw [enc_any, decide_eq_false hm, if_neg Bool.false_ne_true]
  unfold enc
  rw [List.map_append]
  rfl
theorem DR.put (h : DR b n ks f) {c : Nat} (hc : c < b) (v : Rat) : DR b n (putD ks (.inl (c : Int)) (fr v)) (fun x => if x = c then v else f x) := by
  obtain ⟨kl, rfl, h1, h2, h3⟩ := h
  by_cases hm : c ∈ kl.map (·.1)
  · rw [put_in' hm]
    have hk : (kl.map fun q => if q.1 = c then (c, v) else q).map (·.1) = kl.map (·.1) := by
      rw [List.map_map]
      refine List.map_congr_left fun q hq => ?_
      show (if q.1 = c then (c, v) else q).1 = q.1
      split
      · rename_i e; exact e.symm
      · rfl
    refine ⟨_, rfl, by rw [hk]; exact h1, fun q hq => ?_, fun x hx hxm => ?_⟩
    · obtain ⟨r, hr, rfl⟩ := List.mem_map.mp hq
      by_cases e : r.1 = c
      · rw [if_pos e]; exact ⟨hc, (if_pos rfl).symm⟩
      · rw [if_neg e]; exact ⟨(h2 r hr).1, by rw [(h2 r hr).2, if_neg e]⟩
    · rw [hk] at hxm
      have hxc : x ≠ c := fun e => hxm (by rw [e]; exact hm)
      rw [if_neg hxc]
      exact h3 x hx hxm
  · rw [put_out' hm]
    refine ⟨_, rfl, ?_, fun q hq => ?_, fun x hx hxm => ?_⟩
    · rw [List.map_append]; exact nodup_snoc h1 hm
    · rcases List.mem_append.mp hq with hq | hq
      · have : q.1 ≠ c := fun e => hm (by rw [← e]; exact List.mem_map_of_mem hq)
        exact ⟨(h2 q hq).1, by rw [(h2 q hq).2, if_neg this]⟩
      · rw [List.mem_singleton.mp hq]; exact ⟨hc, (if_pos rfl).symm⟩
    · rw [List.map_append, List.mem_append, not_or] at hxm
      have : x ≠ c := fun e => hxm.2 (by rw [e]; exact List.mem_singleton.mpr rfl)
      rw [if_neg this]
      exact h3 x hx hxm.1
theorem drop_enc {c : Nat} (kl : List (Nat × Rat)) : dropD (enc kl) (.inl (c : Int)) = enc (kl.filter fun q => decide (q.1 ≠ c)) := by
  unfold dropD enc
  rw [List.filter_map]
  congr 1
  refine List.filter_congr fun q _ => ?_
  show decide ((Sum.inl (q.1 : Int) : Key) ≠ .inl (c : Int)) = decide (q.1 ≠ c)
  by_cases e : q.1 = c
  · rw [e]; simp
  · have ne : ¬ ((Sum.inl (q.1 : Int) : Key) = .inl (c : Int)) := fun z => e (by have := Sum.inl.inj z; omega)
    simp only [ne_eq, ne, e, not_false_eq_true, decide_true]
theorem DR.drop (h : DR (b + 1) n ks f) : DR b n (dropD ks (.inl (b : Int))) (fun x => if x = b then 0 else f x) := by
  obtain ⟨kl, rfl, h1, h2, h3⟩ := h
  rw [drop_enc]
  refine ⟨_, rfl, ?_, fun q hq => ?_, fun x hx hxm => ?_⟩
  · exact ((List.filter_sublist).map _).nodup h1
  · obtain ⟨h4, h5⟩ := List.mem_filter.mp hq
    have : q.1 ≠ b := of_decide_eq_true h5
    exact ⟨by have := (h2 q h4).1; omega, by rw [(h2 q h4).2, if_neg this]⟩
  · by_cases e : x = b
    · rw [if_pos e]
    · rw [if_neg e]
      refine h3 x hx fun hm => hxm ?_
      obtain ⟨q, hq, rfl⟩ := List.mem_map.mp hm
      exact List.mem_map.mpr ⟨q, List.mem_filter.mpr ⟨hq, decide_eq_true e⟩, rfl⟩
end
theorem fold_enc (g : Rat → Rat) : ∀ (kl acc : List (Nat × Rat)), ((acc ++ kl).map (·.1)).Nodup → kl.foldl (fun a q => putD a (.inl (q.1 : Int)) (fr (g q.2))) (enc acc) = enc (acc ++ kl.map fun q => (q.1, g q.2))
  | [], acc, _ => by rw [List.map_nil, List.append_nil]; rfl
  | q :: r, acc, h => by
    rw [List.foldl_cons]
    have hq : q.1 ∉ acc.map (·.1) := fun hm => by
      rw [List.map_append, List.nodup_append] at h
      exact h.2.2 q.1 hm q.1 (by rw [List.map_cons]; exact List.mem_cons_self) rfl
    rw [put_out' hq, fold_enc g r (acc ++ [(q.1, g q.2)]) (by simpa using h), List.append_assoc]
    rfl
def kpD : D → Int
  | .tup [.int c, _] => c
  | _ => 0
def vpD (g : Rat → Rat) : D → D
  | .tup [_, x] => fr (g (unfr x))
  | _ => .non
theorem itms_enc (kl : List (Nat × Rat)) : itms (enc kl) = kl.map fun q => D.tup [.int (q.1 : Int), fr q.2] := by
  unfold itms enc
  rw [List.map_map]
  rfl
theorem itms_of {kl : List (Nat × Rat)} {i : Nat} {d : D} (h : (itms (enc kl))[i]? = some d) : ∃ q, kl[i]? = some q ∧ d = .tup [.int (q.1 : Int), fr q.2] := by
  rw [itms_enc, List.getElem?_map] at h
  cases e : kl[i]? with
  | none => rw [e] at h; cases h
  | some q => rw [e] at h; exact ⟨q, rfl, (Option.some.inj h).symm⟩
theorem DR.over {b n : Nat} {ks : List (Key × D)} {f : Nat → Rat} (h : DR b n ks f) (r : Rat) : DR b n ((itms ks).foldl (fun acc d => putD acc (.inl (kpD d)) (vpD (· / r) d)) []) (fun c => f c / r) := by
  obtain ⟨kl, rfl, h1, h2, h3⟩ := h
  rw [itms_enc, List.foldl_map]
  have := fold_enc (· / r) kl [] (by simpa using h1)
  rw [List.nil_append] at this
  have e : kl.foldl (fun x y => putD x (.inl (kpD (.tup [.int (y.1 : Int), fr y.2]))) (vpD (· / r) (.tup [.int (y.1 : Int), fr y.2]))) [] = kl.foldl (fun a q => putD a (.inl (q.1 : Int)) (fr (q.2 / r))) (enc []) := by
    show _ = kl.foldl _ []
    congr 1
    funext a q
    show putD a (.inl (q.1 : Int)) (fr (unfr (fr q.2) / r)) = _
    rw [unfr_fr]
  rw [e]
  refine ⟨_, this, ?_, fun q hq => ?_, fun c hc hm => ?_⟩
  · rw [List.map_map]; exact h1
  · obtain ⟨q', hq', rfl⟩ := List.mem_map.mp hq
    exact ⟨(h2 q' hq').1, by show q'.2 / r = _; rw [(h2 q' hq').2]⟩
  · rw [h3 c hc (by rw [List.map_map] at hm; exact hm), Rat.div_def, Rat.zero_mul]

/-! ## the constants of a row -/
def kn (n m : Nat) (f : Nat → Rat) : List D := (List.range (m + 1)).map fun o => fr (f (n + o))
theorem kn_len {n m : Nat} {f : Nat → Rat} : (kn n m f).length = m + 1 := by unfold kn; rw [List.length_map, List.length_range]
theorem kn_get {n m o : Nat} {f : Nat → Rat} (h : o < m + 1) : (kn n m f)[o]? = some (fr (f (n + o))) := by
  unfold kn
  rw [List.getElem?_map, List.getElem?_range h]
  rfl
theorem kn_of {n m : Nat} {f : Nat → Rat} {d : D} (h : d ∈ kn n m f) : ∃ o, o < m + 1 ∧ d = fr (f (n + o)) := by
  obtain ⟨o, ho, rfl⟩ := List.mem_map.mp h
  exact ⟨o, List.mem_range.mp ho, rfl⟩
theorem kn_map {n m : Nat} {f g : Nat → Rat} {v : D → D} (h : ∀ o, o < m + 1 → v (fr (f (n + o))) = fr (g (n + o))) : (kn n m f).map v = kn n m g := by
  unfold kn
  rw [List.map_map]
  exact List.map_congr_left fun o ho => h o (List.mem_range.mp ho)
theorem kn_congr {n m : Nat} {f g : Nat → Rat} (h : ∀ o, o < m + 1 → f (n + o) = g (n + o)) : kn n m f = kn n m g := by
  unfold kn
  exact List.map_congr_left fun o ho => by rw [h o (List.mem_range.mp ho)]
theorem kn_prs {n m : Nat} {f g h : Nat → Rat} {v : D → D} (e : ∀ o, o < m + 1 → v (.tup [fr (f (n + o)), fr (g (n + o))]) = fr (h (n + o))) : (prs (kn n m f) (kn n m g)).map v = kn n m h := by
  unfold prs kn
  rw [List.zip_map', List.map_map, List.map_map]
  exact List.map_congr_left fun o ho => e o (List.mem_range.mp ho)
theorem prs_of {xs ys : List D} {d : D} (h : d ∈ prs xs ys) : ∃ x y, x ∈ xs ∧ y ∈ ys ∧ d = .tup [x, y] := by
  obtain ⟨q, hq, rfl⟩ := List.mem_map.mp h
  exact ⟨q.1, q.2, (List.of_mem_zip (a := q.1) (b := q.2) hq).1, (List.of_mem_zip (a := q.1) (b := q.2) hq).2, rfl⟩
theorem kn_prs_of {n m : Nat} {f g : Nat → Rat} {d : D} (h : d ∈ prs (kn n m f) (kn n m g)) : ∃ o, o < m + 1 ∧ d = .tup [fr (f (n + o)), fr (g (n + o))] := by
  unfold prs kn at h
  rw [List.zip_map', List.map_map] at h
  obtain ⟨o, ho, rfl⟩ := List.mem_map.mp h
  exact ⟨o, List.mem_range.mp ho, rfl⟩
def plD (s : Rat) : D → D
  | .tup [x, y] => fr (unfr x + s * unfr y)
  | _ => .non
theorem rep_set {n m o : Nat} (ho : o < m + 1) {f : Nat → Rat} (h : ∀ x, x < m + 1 → f (n + x) = if x = o then 1 else 0) : (List.replicate (m + 1) (fr 0)).set o (fr 1) = kn n m f := by
  refine List.ext_getElem? fun i => ?_
  by_cases hi : i < m + 1
  · rw [kn_get hi, h i hi]
    by_cases e : i = o
    · subst e; rw [List.getElem?_set_self (by rw [List.length_replicate]; exact hi), if_pos rfl]
    · rw [List.getElem?_set_ne fun z => e z.symm, List.getElem?_replicate, if_pos hi, if_neg e]
  · rw [List.getElem?_eq_none (by rw [List.length_set, List.length_replicate]; omega), List.getElem?_eq_none (by rw [kn_len]; omega)]

/-! ## the rows in the heap -/
abbrev rfs (as : List Addr) : List D := as.map D.ref
structure RowsW (n m q : Nat) (bd : Nat → Nat) (M : Mx) (A B : Addr) (as bs : List Addr) (L : Hl) : Prop where
  la : as.length = q
  lb : bs.length = q
  nd : as.Nodup
  mA : (A, .lst (rfs as)) ∈ L
  mB : (B, .lst (rfs bs)) ∈ L
  ab : A ≠ B
  ra : ∀ (i : Nat) (a : Addr), as[i]? = some a → ∃ ks, (a, .dct ks) ∈ L ∧ DR (bd i) n ks (M i)
  rb : ∀ (i : Nat) (b : Addr), bs[i]? = some b → b ≠ A ∧ b ≠ B ∧ (b, .lst (kn n m (M i))) ∈ L
theorem rfs_get {as : List Addr} {i : Nat} {a : Addr} (h : as[i]? = some a) : (rfs as)[i]? = some (.ref a) := by rw [List.getElem?_map, h]; rfl
theorem RowsW.keep {n m q : Nat} {bd : Nat → Nat} {M : Mx} {A B : Addr} {as bs : List Addr} {L L' : Hl} (h : RowsW n m q bd M A B as bs L) (k : ∀ p ∈ L, p ∈ L') : RowsW n m q bd M A B as bs L' :=
  ⟨h.la, h.lb, h.nd, k _ h.mA, k _ h.mB, h.ab, fun i a e => let ⟨ks, h1, h2⟩ := h.ra i a e; ⟨ks, k _ h1, h2⟩, fun i b e => let ⟨h1, h2, h3⟩ := h.rb i b e; ⟨h1, h2, k _ h3⟩⟩
theorem RowsW.congr {n m q : Nat} {bd bd' : Nat → Nat} {M M' : Mx} {A B : Addr} {as bs : List Addr} {L : Hl} (h : RowsW n m q bd M A B as bs L) (e1 : ∀ i, i < q → bd i = bd' i) (e2 : ∀ i, i < q → bd i ≤ n ∧ ∀ c, c < n + m + 1 → M i c = M' i c) : RowsW n m q bd' M' A B as bs L :=
  ⟨h.la, h.lb, h.nd, h.mA, h.mB, h.ab, fun i a e => by
    have hi : i < q := by rw [← h.la]; exact (List.getElem?_eq_some_iff.mp e).1
    obtain ⟨ks, h1, h2⟩ := h.ra i a e
    rw [e1 i hi] at h2
    exact ⟨ks, h1, h2.congr (by rw [← e1 i hi]; exact (e2 i hi).1) fun c hc => (e2 i hi).2 c (by omega)⟩, fun i b e => by
    have hi : i < q := by rw [← h.lb]; exact (List.getElem?_eq_some_iff.mp e).1
    obtain ⟨h1, h2, h3⟩ := h.rb i b e
    exact ⟨h1, h2, by rw [← kn_congr (f := M i) (g := M' i) fun o ho => (e2 i hi).2 (n + o) (by omega)]; exact h3⟩⟩
/-- a row written anew -/
theorem RowsW.set {n m q p : Nat} {bd bd' : Nat → Nat} {M M' : Mx} {A B a b a0 : Addr} {as bs : List Addr} {L L' : Hl} {ks : List (Key × D)} (h : RowsW n m q bd M A B as bs L) (hnd : (L.map (·.1)).Nodup) (ha0 : as[p]? = some a0) (ha : a ∉ as) (hb : b ≠ A ∧ b ≠ B)
    (mA : (A, .lst (rfs (as.set p a))) ∈ L') (mB : (B, .lst (rfs (bs.set p b))) ∈ L') (ma : (a, .dct ks) ∈ L') (dr : DR (bd' p) n ks (M' p)) (mb : (b, .lst (kn n m (M' p))) ∈ L')
    (k : ∀ c u, (c, u) ∈ L → c ≠ A → c ≠ B → c ≠ a0 → (c, u) ∈ L') (e1 : ∀ i, i ≠ p → bd i = bd' i ∧ M i = M' i) : RowsW n m q bd' M' A B (as.set p a) (bs.set p b) L' := by
  have hp : p < as.length := (List.getElem?_eq_some_iff.mp ha0).1
  refine ⟨by rw [List.length_set]; exact h.la, by rw [List.length_set]; exact h.lb, ?_, mA, mB, h.ab, fun i x e => ?_, fun i x e => ?_⟩
  · refine List.pairwise_iff_getElem.mpr fun i j hi hj hij z => ?_
    have zz : (as.set p a)[i]? = (as.set p a)[j]? := by rw [List.getElem?_eq_getElem hi, List.getElem?_eq_getElem hj, z]
    rw [List.length_set] at hi hj
    have ne : ∀ r, as[r]? ≠ some a := fun r z => ha (List.mem_of_getElem? z)
    by_cases e : p = i
    · subst e
      rw [List.getElem?_set_self hp, List.getElem?_set_ne (by omega)] at zz
      exact ne j zz.symm
    · by_cases e' : p = j
      · subst e'
        rw [List.getElem?_set_self hp, List.getElem?_set_ne e] at zz
        exact ne i zz
      · rw [List.getElem?_set_ne e, List.getElem?_set_ne e'] at zz
        obtain ⟨x, hx⟩ : ∃ x, as[i]? = some x := ⟨as[i], List.getElem?_eq_getElem hi⟩
        have := ix_inj h.nd hx (zz ▸ hx)
        omega
  · by_cases e' : p = i
    · subst e'
      rw [List.getElem?_set_self hp] at e
      cases e
      exact ⟨ks, ma, dr⟩
    · rw [List.getElem?_set_ne e'] at e
      obtain ⟨ks', h1, h2⟩ := h.ra i x e
      refine ⟨ks', k x _ h1 (fun z => ?_) (fun z => ?_) (fun z => ?_), ?_⟩
      · subst z; have := hl_inj hnd h1 h.mA; cases this
      · subst z; have := hl_inj hnd h1 h.mB; cases this
      · subst z; exact e' (ix_inj h.nd ha0 e)
      · rw [← (e1 i (Ne.symm e')).1, ← (e1 i (Ne.symm e')).2]; exact h2
  · by_cases e' : p = i
    · subst e'
      rw [List.getElem?_set_self (by rw [h.lb, ← h.la]; exact hp)] at e
      cases e
      exact ⟨hb.1, hb.2, mb⟩
    · rw [List.getElem?_set_ne e'] at e
      obtain ⟨h1, h2, h3⟩ := h.rb i x e
      refine ⟨h1, h2, ?_⟩
      rw [← (e1 i (Ne.symm e')).2]
      refine k x _ h3 h1 h2 fun z => ?_
      subst z
      obtain ⟨ks', h4, _⟩ := h.ra p x ha0
      have := hl_inj hnd h3 h4
      cases this
/-- a row more -/
theorem RowsW.snoc {n m q : Nat} {bd : Nat → Nat} {M : Mx} {A B a b : Addr} {as bs : List Addr} {L L' : Hl} {ks : List (Key × D)} (h : RowsW n m q bd M A B as bs L) (hnd : (L.map (·.1)).Nodup) (ha : a ∉ as) (hb : b ≠ A ∧ b ≠ B)
    (mA : (A, .lst (rfs (as ++ [a]))) ∈ L') (mB : (B, .lst (rfs (bs ++ [b]))) ∈ L') (ma : (a, .dct ks) ∈ L') (dr : DR (bd q) n ks (M q)) (mb : (b, .lst (kn n m (M q))) ∈ L')
    (k : ∀ c u, (c, u) ∈ L → c ≠ A → c ≠ B → (c, u) ∈ L') : RowsW n m (q + 1) bd M A B (as ++ [a]) (bs ++ [b]) L' := by
  have sn : ∀ {l : List Addr} {x y : Addr} {i : Nat}, (l ++ [x])[i]? = some y → l[i]? = some y ∨ (i = l.length ∧ x = y) := fun {l x y i} e => by
    by_cases hi : i < l.length
    · rw [List.getElem?_append_left hi] at e; exact .inl e
    · rw [List.getElem?_append_right (by omega)] at e
      by_cases h0 : i - l.length = 0
      · rw [h0] at e; exact .inr ⟨by omega, Option.some.inj e⟩
      · rw [List.getElem?_eq_none (by simp; omega)] at e; cases e
  refine ⟨by rw [List.length_append, h.la]; rfl, by rw [List.length_append, h.lb]; rfl, ?_, mA, mB, h.ab, fun i x e => ?_, fun i x e => ?_⟩
  · rw [List.nodup_append]
    refine ⟨h.nd, by simp, fun x hx y hy z => ?_⟩
    rw [List.mem_singleton.mp hy] at z
    exact ha (z ▸ hx)
  · rcases sn e with e | ⟨e9, rfl⟩
    · obtain ⟨ks', h1, h2⟩ := h.ra i x e
      refine ⟨ks', k x _ h1 (fun z => ?_) (fun z => ?_), h2⟩
      · subst z; have := hl_inj hnd h1 h.mA; cases this
      · subst z; have := hl_inj hnd h1 h.mB; cases this
    · rw [e9, h.la]; exact ⟨ks, ma, dr⟩
  · rcases sn e with e | ⟨e9, rfl⟩
    · obtain ⟨h1, h2, h3⟩ := h.rb i x e
      exact ⟨h1, h2, k x _ h3 h1 h2⟩
    · rw [e9, h.lb]; exact ⟨hb.1, hb.2, mb⟩
end Fc

namespace Fc
open PySem PySem.Spec PyProof.Rows L2
abbrev s_equations : Stmt := top 49
theorem sc_equations : FnScope ["sides", "many", "table", "state", "shares", "constants", "own", "known", "later", "outcome"] ["sides", "many", "table"] (defScope s_equations) := ⟨rfl, rfl, rfl, by decide +kernel, rfl, by decide +kernel, by decide +kernel⟩
abbrev s_put_in : Stmt := top 50
theorem sc_put_in : FnScope ["shares", "constants", "place", "other", "own", "share", "known", "later", "part", "mine", "its"] ["shares", "constants", "place", "other"] (defScope s_put_in) := ⟨rfl, rfl, rfl, by decide +kernel, rfl, by decide +kernel, by decide +kernel⟩
abbrev s_solved : Stmt := top 51
theorem sc_solved : FnScope ["sides", "many", "table", "place", "result", "shares", "constants", "own", "before", "known", "rest", "later", "part", "mine", "its"] ["sides", "many", "table"] (defScope s_solved) := ⟨rfl, rfl, rfl, by decide +kernel, rfl, by decide +kernel, by decide +kernel⟩

theorem S2.sm {r : Rat} (h : S2 r) : Sm r := ⟨Nat.lt_of_lt_of_le h.1 (Nat.pow_le_pow_right (by decide) (by decide)), Nat.lt_of_lt_of_le h.2 (Nat.pow_le_pow_right (by decide) (by decide))⟩
theorem S4.sm {r : Rat} (h : r.num.natAbs < 2 ^ 4000 ∧ r.den < 2 ^ 4000) : Sm r := ⟨Nat.lt_of_lt_of_le h.1 (Nat.pow_le_pow_right (by decide) (by decide)), Nat.lt_of_lt_of_le h.2 (Nat.pow_le_pow_right (by decide) (by decide))⟩
theorem s2_zero : S2 0 := ⟨Nat.pos_of_ne_zero (by simp), by show 1 < 2 ^ 2000; exact Nat.one_lt_two_pow (by decide)⟩
theorem s2_one : S2 1 := ⟨by show 1 < 2 ^ 2000; exact Nat.one_lt_two_pow (by decide), by show 1 < 2 ^ 2000; exact Nat.one_lt_two_pow (by decide)⟩
theorem mul_den (r : Rat) : r * (r.den : Rat) = (r.num : Rat) := by
  have hd : (r.den : Rat) ≠ 0 := fun q => r.den_nz (Rat.natCast_eq_zero_iff.mp q)
  have q : r = (r.num : Rat) / (r.den : Rat) := by rw [← Rat.mkRat_eq_div, Rat.mkRat_self]
  conv => lhs; lhs; rw [q]
  exact Rat.div_mul_cancel hd
theorem s2_mul {r q : Rat} (h : S2 r) (g : S2 q) : Sm (r * q) := by
  have p : (2 : Nat) ^ 2000 * 2 ^ 2000 = 2 ^ 4000 := by rw [← Nat.pow_add]
  have e1 : Iz ((r.den * q.den : Nat) : Rat) (r.den * q.den) := ⟨(r.den * q.den : Nat), by rfl, by rw [Int.natAbs_natCast]; exact Nat.le_refl _⟩
  have e2 : r * q * ((r.den * q.den : Nat) : Rat) = ((r.num * q.num : Int) : Rat) := by
    have h1 := mul_den r
    have h2 := mul_den q
    rw [Rat.natCast_mul, Rat.intCast_mul, ← h1, ← h2]
    grind
  have sz := size_of (r := r * q) (e := ((r.den * q.den : Nat) : Rat)) (fun z => by
    rw [Rat.natCast_eq_zero_iff] at z
    have a1 := r.den_pos
    have a2 := q.den_pos
    have := Nat.mul_pos a1 a2
    omega) e1 ⟨_, e2, Nat.le_of_eq (Int.natAbs_mul _ _)⟩
  have b1 : r.num.natAbs * q.num.natAbs < 2 ^ 4000 := by rw [← p]; exact Nat.mul_lt_mul'' h.1 g.1
  have b2 : r.den * q.den < 2 ^ 4000 := by rw [← p]; exact Nat.mul_lt_mul'' h.2 g.2
  exact S4.sm ⟨Nat.lt_of_le_of_lt sz.1 b1, Nat.lt_of_le_of_lt sz.2 b2⟩
def S_equ : FS := fun _ ds R => ∃ (s m : Nat) (t : List Rw), ds = [.int (s : Int), .int (m : Int), tbD t] ∧ Tb s m t ∧ R = fun d N => ∃ A B as bs, d = .tup [.ref A, .ref B] ∧ RowsW t.length m t.length (fun _ => t.length) (tabM s m t) A B as bs N
theorem cnt_take {l : List Nat} {j x c : Nat} (h : l[j]? = some x) : cnt (l.take (j + 1)) c = cnt (l.take j) c + if c = x then 1 else 0 := by
  unfold cnt
  rw [List.take_succ, h, List.count_append]
  show _ + List.count c [x] = _
  rw [List.count_singleton]
  by_cases e : c = x
  · subst e; simp
  · have : ¬ x = c := fun z => e z.symm
    simp [e, this]
theorem s2_cnt {s n : Nat} (h1 : 2 ≤ s) (h2 : s ≤ 6) (hn : n ≤ 100) : S2 ((n : Rat) / (s : Rat)) := by
  have hs : (s : Rat) ≠ 0 := fun e => by rw [Rat.natCast_eq_zero_iff] at e; omega
  refine s2_of (e := (s : Rat)) (a := s) (b := n) hs ⟨(s : Int), rfl, by rw [Int.natAbs_natCast]; exact Nat.le_refl _⟩ ⟨(n : Int), by rw [Rat.div_mul_cancel hs]; rfl, by rw [Int.natAbs_natCast]; exact Nat.le_refl _⟩ (Nat.lt_of_le_of_lt h2 (Nat.lt_of_lt_of_le (by decide) (Nat.pow_le_pow_right (n := 2) (by decide) (show 8 ≤ 896 by decide)))) (Nat.lt_of_le_of_lt hn (Nat.lt_of_lt_of_le (by decide) (Nat.pow_le_pow_right (n := 2) (by decide) (show 8 ≤ 896 by decide))))
theorem mk1_s {s : Nat} : mkRat 1 ((s : Int)).toNat = 1 / (s : Rat) := by
  rw [Int.toNat_natCast, Rat.mkRat_eq_div]
  rfl
section
variable {P : Program} {w : World} {K : PySem.W.Frag} {mg : Str → Option Value} {base : Heap}
theorem ok_equations (B : Bl mg) (F : FunG K mg "equations" s_equations) (C : Cs K mg) (hP : Pf P w K mg base "plus" 3 S_plus) (hR : Pf P w K mg base "ratio" 2 S_ratio) : Pf P w K mg base "equations" 4 S_equ := by
  obtain ⟨z0, hZ, iZ⟩ := C.zero
  obtain ⟨z1, hO, iO⟩ := C.one
  refine pf_mk F sc_equations (fun _ _ _ _ _ _ us hl => match us, hl with | [_, _, _], _ => rfl) (fun Z ds R h => by obtain ⟨s, m, t, rfl, _⟩ := h; rfl) (fun f cdv A outer s H E hr => ⟨_, (pss_cons (ps_par (i := 4) (j := 5) rfl sc_equations.nd rfl rfl (by decide) rfl rfl (pa_cons (pe_lst pa_nil) (pa_cons (pe_lst pa_nil) pa_nil)) (by rfl)) (pss_cons (ps_for PassesOwn.never rfl (pi_tupK (K := K) rfl (pv 2)) (pg_name (i := 3) sc_equations.nd rfl (.inl rfl)) (pss_cons (ps_set (i := 6) sc_equations.nd rfl (.inl rfl) pe_dnewK) (pss_cons (ps_setLc (i := 7) (own := [("outcome", 9)]) (g := gName 9) rfl sc_equations.nd rfl rfl (sw_true rfl rfl rfl (by decide +kernel)) (pi_range1 rfl B.range (pa_cons (pe_op op_add (pv 1) pe_int) pa_nil)) (blkOk_by (own := [("outcome", 9)]) (N := ["sides", "many", "table", "state", "shares", "constants", "own", "known", "later", "outcome"]) (sc := defScope (s_equations)) (by decide +kernel)) (fun _ _ _ _ _ => (pg_name (i := 9) sc_equations.nd rfl (.inl rfl))) (fun _ _ _ _ _ => pts_nil) (fun _ _ _ _ _ => (pe_cref hZ rfl))) (pss_cons (ps_if (pt_val (pe_isi (K := K) rfl rfl B rfl (pa_cons (pv 3) (pa_cons (pe_tyT rfl B rfl) pa_nil)))) (pss_cons (ps_asg (pe_cref hO rfl) (pg_sub (pv 7) (pv 1) set_list)) (pss_cons (ps_for PassesOwn.never rfl (pi_tupK (K := K) rfl (pv 3)) (pg_name (i := 8) sc_equations.nd rfl (.inl rfl)) (pss_cons (ps_dput (hu_of hr) (pv 6) (pv 8) (pe_pf hP hr (by decide) rfl (pa_cons (pe_dget2 (hu_of hr) (pv 6) (pv 8) (pe_cref hZ rfl) ⟨rfl, rfl, rfl, rfl⟩) (pa_cons (pe_pf hR hr (by decide) rfl (pa_cons pe_int (pa_cons (pv 0) pa_nil))) pa_nil))) rfl) pss_nil)) pss_nil)) (pss_cons (ps_asg (pe_cref hO rfl) (pg_sub (pv 7) (pv 3) set_list)) pss_nil)) (pss_cons (ps_expr (pe_bm PySem.F.plainAttrs_list PySem.F.slot_list_append PySem.F.type_list_append mt_append (pv 4) (pa_cons (pv 6) pa_nil))) (pss_cons (ps_expr (pe_bm PySem.F.plainAttrs_list PySem.F.slot_list_append PySem.F.type_list_append mt_append (pv 5) (pa_cons (pv 7) pa_nil))) pss_nil)))))) (pss_cons (ps_ret (pe_tup (pa_cons (pv 4) (pa_cons (pv 5) pa_nil)))) pss_nil))), fun Z ds R H0 hz hS => ?_⟩)
  obtain ⟨s, m, t, rfl, T, rfl⟩ := hS
  have n1 := T.n1
  have n2 := T.n2
  have m2 := T.m2
  refine gq_parN (ean_two (en_lst ea_nil (by decide)) (en_lst ea_nil (by decide))) fun ds N hN => ?_
  obtain ⟨_, _, N1, N2, rfl, ⟨A, rfl, rfl⟩, ⟨Bd, rfl, rfl⟩, rfl⟩ := hN
  refine ⟨_, _, rfl, go_nd fun hAB => ?_⟩
  have hne : A ≠ Bd := fun e => by subst e; simp at hAB
  refine gq_for0 (ds := t.map rwD) (ei_tup (ev_var rfl)) (fun i G L => ∃ (v3 v6 v7 v8 v9 : Option D) (as bs : List Addr), G = [some (.int (s : Int)), some (.int (m : Int)), some (tbD t), v3, some (.ref A), some (.ref Bd), v6, v7, v8, v9] ∧ RowsW t.length m i (fun _ => t.length) (tabM s m t) A Bd as bs L)
    ⟨none, none, none, none, none, [], [], rfl, rfl, rfl, .nil, by simp, by simp, hne, fun i a e => by simp at e, fun i a e => by simp at e⟩ (fun _ _ _ _ => trivial) (fun i d G L hd hI => ?_) (fun G L hI => ?_)
  · obtain ⟨v3, v6, v7, v8, v9, as, bs, rfl, W⟩ := hI
    obtain ⟨r, hr, rfl⟩ := tb_of hd
    have hi : i < t.length := (List.getElem?_eq_some_iff.mp hr).1
    refine ⟨_, eg_name, ?_⟩
    refine gq_new en_dnew fun a => ?_
    refine gq_new (en_lcY (v := fun _ => fr 0) (ei_rng1 (n := (m : Int) + 1) (ea_cons (ev_op (ev_var rfl) ev_int rv_add) ea_nil) (by omega) (by omega)) (fun _ => trivial) (fun _ _ => ev_k iZ) (by rw [rngD_len]; omega)) fun b => ?_
    have e0 : (rngD 0 ((m : Int) + 1).toNat).map (fun _ => fr 0) = List.replicate (m + 1) (fr 0) := by
      rw [show ((m : Int) + 1).toNat = m + 1 by omega, List.map_const', rngD_len]
    rw [e0]
    refine go_nd fun hnd => ?_
    have hnd' := (List.nodup_cons.mp hnd).2
    have hndL := (List.nodup_cons.mp hnd').2
    have hfa : ∀ c u, (c, u) ∈ L → c ≠ a := fun c u hm z => (List.nodup_cons.mp hnd').1 (List.mem_map.mpr ⟨(c, u), hm, z⟩)
    have hfb : ∀ c u, (c, u) ∈ L → c ≠ b := fun c u hm z => (List.nodup_cons.mp hnd).1 (List.mem_map.mpr ⟨(c, u), List.mem_cons_of_mem _ hm, z⟩)
    -- the two objects filled
    refine gq_ifJ (fun G' L' => ∃ (v8 v9 : Option D) (ks : List (Key × D)), G' = [some (.int (s : Int)), some (.int (m : Int)), some (tbD t), some (rwD r), some (.ref A), some (.ref Bd), some (.ref a), some (.ref b), v8, v9] ∧ L' = (b, .lst (kn t.length m (tabM s m t i))) :: (a, .dct ks) :: L ∧ DR t.length t.length ks (tabM s m t i)) (b := isTup (rwD r)) (et_B (ev_isTup (ev_var rfl) (tyn_rw r))) (fun hb => ?_) (fun hb => ?_) (fun G' L' hM => ?_)
    · cases r with
      | fin o => cases hb
      | go l =>
        obtain ⟨g1, g2⟩ := T.go i l hr
        have hrow : ∀ c, c < t.length → tabM s m t i c = (cnt l c : Rat) / (s : Rat) := fun c hc => tab_go hr hc
        refine gq_setL (k := 0) (i := (m : Int)) (j := m) (ev_k iO) rfl (ev_var rfl) (ev_var rfl) (ixN_of (by rw [List.length_replicate]; omega)) ?_
        have ek : (List.replicate (m + 1) (fr 0)).set m (fr 1) = kn t.length m (tabM s m t i) := rep_set (by omega) fun x hx => by
          unfold tabM
          rw [hr]
          show (if t.length + x < t.length then _ else if t.length + x = t.length + m then (1 : Rat) else 0) = _
          rw [if_neg (by omega)]
          by_cases e : x = m
          · rw [if_pos (by omega), if_pos e]
          · rw [if_neg (by omega), if_neg e]
        show Go K H0 _ ((b, .lst ((List.replicate (m + 1) (fr 0)).set m (fr 1))) :: (a, .dct []) :: L) _ _
        rw [ek]
        refine go_last ?_
        refine gq_for0 (ds := nD l) (ei_tup (ev_var rfl)) (fun j G' L' => ∃ (v8 v9 : Option D) (ks : List (Key × D)), G' = [some (.int (s : Int)), some (.int (m : Int)), some (tbD t), some (rwD (.go l)), some (.ref A), some (.ref Bd), some (.ref a), some (.ref b), v8, v9] ∧ L' = (b, .lst (kn t.length m (tabM s m t i))) :: (a, .dct ks) :: L ∧ DR t.length t.length ks (fun c => (cnt (l.take j) c : Rat) / (s : Rat)))
          ⟨_, _, [], rfl, rfl, DR.nil fun c hc => by rw [List.take_zero]; show ((0 : Nat) : Rat) / _ = 0; rw [Rat.div_def]; exact Rat.zero_mul _⟩ (fun _ _ _ _ => trivial) (fun j d G' L' hd hI => ?_) (fun G' L' hI => ?_)
        · obtain ⟨v8, v9, ks, rfl, rfl, dr⟩ := hI
          obtain ⟨x, hx, rfl⟩ := nD_of hd
          have hxl := g2 x (List.mem_of_getElem? hx)
          have hc1 : cnt (l.take j) x ≤ 100 := by
            have h1 : cnt (l.take j) x ≤ (l.take j).length := List.count_le_length
            rw [List.length_take] at h1
            have := T.s2
            omega
          refine ⟨_, eg_name, ?_⟩
          refine go_last (gq_dput (i := (x : Int)) (k := 1) (ev_call (ea_cons (ev_get2 (i := (x : Int)) (ev_var rfl) (.inl (List.mem_cons_of_mem _ List.mem_cons_self)) (ev_var rfl) (ev_k iZ) (dr.get hxl)) (ea_cons (ev_call (ea_cons ev_int (ea_cons (ev_var rfl) ea_nil)) ⟨1, (s : Int), rfl, by have := T.s1; omega, Int.lt_of_le_of_lt (show (s : Int) ≤ 6 by have := T.s2; omega) (by decide +kernel), rfl⟩) ea_nil)) ⟨(cnt (l.take j) x : Rat) / (s : Rat), 1 / (s : Rat), by rw [mk1_s], (s2_cnt T.s1 T.s2 hc1).sm, by have := (s2_cnt (n := 1) T.s1 T.s2 (by decide)).sm; exact this, rfl⟩) (ev_var rfl) (ev_var rfl) rfl (by have := dr.len; omega) (go_next ⟨_, _, _, rfl, rfl, ?_⟩))
          refine (dr.put hxl _).congr (Nat.le_refl _) fun c hc => ?_
          rw [cnt_take hx]
          by_cases e : c = x
          · subst e
            rw [if_pos rfl, if_pos rfl, Rat.natCast_add, Rat.div_def, Rat.div_def, Rat.div_def, Rat.add_mul]
            rfl
          · rw [if_neg e, if_neg e, Nat.add_zero]
        · obtain ⟨v8, v9, ks, rfl, rfl, dr⟩ := hI
          refine go_next ⟨_, _, ks, rfl, rfl, dr.congr (Nat.le_refl _) fun c hc => ?_⟩
          rw [nD_len, List.take_length, hrow c hc]
    · cases r with
      | go l => cases hb
      | fin q =>
        have hq := T.fin i q hr
        refine go_last (gq_setL (k := 0) (i := (q : Int)) (j := q) (ev_k iO) rfl (ev_var rfl) (ev_var rfl) (ixN_of (by rw [List.length_replicate]; omega)) (go_next ⟨_, _, [], rfl, ?_, DR.nil fun c hc => ?_⟩))
        · show (b, O.lst ((List.replicate (m + 1) (fr 0)).set q (fr 1))) :: (a, .dct []) :: L = _
          rw [rep_set (f := tabM s m t i) (n := t.length) (by omega) fun x hx => ?_]
          unfold tabM
          rw [hr]
          show (if t.length + x = t.length + q then (1 : Rat) else 0) = _
          by_cases e : x = q
          · rw [if_pos (by omega), if_pos e]
          · rw [if_neg (by omega), if_neg e]
        · unfold tabM
          rw [hr]
          show (if c = t.length + q then (1 : Rat) else 0) = 0
          rw [if_neg (by omega)]
    · obtain ⟨v8, v9, ks, rfl, rfl, dr⟩ := hM
      obtain ⟨k1, hk1⟩ := List.getElem?_of_mem (List.mem_cons_of_mem (b, O.lst (kn t.length m (tabM s m t i))) (List.mem_cons_of_mem (a, O.dct ks) W.mA))
      refine gq_append hk1 (ev_var rfl) (ev_var rfl) (by rw [List.length_map, W.la]; omega) ?_
      have mB1 := hl_keep (o' := .lst (rfs as ++ [.ref a])) hk1 (List.mem_cons_of_mem (b, O.lst (kn t.length m (tabM s m t i))) (List.mem_cons_of_mem (a, O.dct ks) W.mB)) W.ab.symm
      obtain ⟨k2, hk2⟩ := List.getElem?_of_mem mB1
      refine go_last (gq_append hk2 (ev_var rfl) (ev_var rfl) (by rw [List.length_map, W.lb]; omega) (go_next ⟨_, _, _, _, _, as ++ [a], bs ++ [b], rfl, ?_⟩))
      have aA : A ≠ a := hfa _ _ W.mA
      have aB : Bd ≠ a := hfa _ _ W.mB
      have bA : A ≠ b := hfb _ _ W.mA
      have bB : Bd ≠ b := hfb _ _ W.mB
      refine RowsW.snoc W hndL (fun hm => ?_) ⟨bA.symm, bB.symm⟩ (hl_keep hk2 ?_ W.ab) ?_ (hl_keep hk2 (hl_keep hk1 (List.mem_cons_of_mem _ List.mem_cons_self) aA.symm) aB.symm) dr (hl_keep hk2 (hl_keep hk1 List.mem_cons_self bA.symm) bB.symm) fun c u hm h1 h2 => hl_keep hk2 (hl_keep hk1 (List.mem_cons_of_mem _ (List.mem_cons_of_mem _ hm)) h1) h2
      · obtain ⟨j, hj⟩ := List.getElem?_of_mem hm
        obtain ⟨ks', h1, _⟩ := W.ra j a hj
        exact hfa _ _ h1 rfl
      · have := hl_put (o' := .lst (rfs as ++ [.ref a])) hk1
        unfold rfs at this ⊢
        rw [List.map_append]
        exact this
      · have := hl_put (o' := .lst (rfs bs ++ [.ref b])) hk2
        unfold rfs at this ⊢
        rw [List.map_append]
        exact this
  · obtain ⟨v3, v6, v7, v8, v9, as, bs, rfl, W⟩ := hI
    rw [List.length_map] at W
    exact gq_retA (ev_tup (ea_cons (ev_var rfl) (ea_cons (ev_var rfl) ea_nil)) (by show 2 ≤ 100000; decide)) ⟨A, Bd, as, bs, rfl, W⟩
end
def putH (p : Nat) (f g : Nat → Rat) (c : Nat) : Rat := if c = p then 0 else f c + f p * g c
def S_put : FS := fun Z ds R => ∃ (A B : Addr) (dA dB : List D) (i p n m : Nat) (ai ap bi bp : Addr) (ki kp : List (Key × D)) (f g : Nat → Rat), ds = [.ref A, .ref B, .int (i : Int), .int (p : Int)] ∧
  Z = [(A, .lst dA), (B, .lst dB), (ai, .dct ki), (ap, .dct kp), (bi, .lst (kn n m f)), (bp, .lst (kn n m g))] ∧ dA[i]? = some (.ref ai) ∧ dA[p]? = some (.ref ap) ∧ dB[i]? = some (.ref bi) ∧ dB[p]? = some (.ref bp) ∧
  DR (p + 1) n ki f ∧ DR p n kp g ∧ (valD ki (.inl (p : Int))).isSome = true ∧ p < n ∧ n ≤ 100 ∧ m ≤ 6 ∧ A ≠ ap ∧ (∀ c, c < n + m + 1 → S2 (f c) ∧ S2 (g c)) ∧
  R = fun d N => ∃ a b ks, d = .tup [.ref a, .ref b] ∧ N = [(b, .lst (kn n m (putH p f g))), (a, .dct ks)] ∧ DR p n ks (putH p f g)
section
variable {P : Program} {w : World} {K : PySem.W.Frag} {mg : Str → Option Value} {base : Heap}
theorem ok_put_in (B : Bl mg) (F : FunG K mg "put_in" s_put_in) (C : Cs K mg) (hP : Pf P w K mg base "plus" 3 S_plus) (hT : Pf P w K mg base "times" 3 S_times) : Pf P w K mg base "put_in" 4 S_put := by
  obtain ⟨z0, hZ, iZ⟩ := C.zero
  obtain ⟨z1, hO, iO⟩ := C.one
  refine pf_mk F sc_put_in (fun _ _ _ _ _ _ us hl => match us, hl with | [_, _, _, _], _ => rfl) (fun Z ds R h => by obtain ⟨A, B, dA, dB, i, p, n, m, ai, ap, bi, bp, ki, kp, f, g, rfl, _⟩ := h; rfl) (fun f cdv A outer s H E hr => ⟨_, (pss_cons (ps_set (i := 4) sc_put_in.nd rfl (.inl rfl) (pe_dict (K := K) rfl rfl B rfl (pa_cons (pe_ixL (K := K) rfl (pv 0) (pv 2) (fun _ _ => rfl)) pa_nil))) (pss_cons (ps_set (i := 5) sc_put_in.nd rfl (.inr rfl) (pe_dpop1 (pv 4) (pv 3) ⟨rfl, rfl, rfl, rfl⟩)) (pss_cons (ps_lock (ps_for PassesOwn.never rfl (pi_items (pe_ixL (K := K) rfl (pv 0) (pv 3) (fun _ _ => rfl))) (pg_tupK (K := K) rfl rfl (pgs_cons (pg_name (i := 7) sc_put_in.nd rfl (.inl rfl)) (pgs_cons (pg_name (i := 8) sc_put_in.nd rfl (.inl rfl)) pgs_nil))) (pss_cons (ps_dput (hu_of hr) (pv 4) (pv 7) (pe_pf hP hr (by decide) rfl (pa_cons (pe_dget2 (hu_of hr) (pv 4) (pv 7) (pe_cref hZ rfl) ⟨rfl, rfl, rfl, rfl⟩) (pa_cons (pe_pf hT hr (by decide) rfl (pa_cons (pv 5) (pa_cons (pv 8) pa_nil))) pa_nil))) rfl) pss_nil))) (pss_cons (ps_setLc (i := 6) (own := [("mine", 9), ("its", 10)]) (g := gTup K 2 (gCons (gName 9) (gCons (gName 10) gNil))) rfl sc_put_in.nd rfl rfl (sw_true rfl rfl rfl (by decide +kernel)) (pi_zipK (K := K) rfl rfl B rfl (pa_cons (pe_ixL (K := K) rfl (pv 1) (pv 2) (fun _ _ => rfl)) (pa_cons (pe_ixL (K := K) rfl (pv 1) (pv 3) (fun _ _ => rfl)) pa_nil))) (blkOk_by (own := [("mine", 9), ("its", 10)]) (N := ["shares", "constants", "place", "other", "own", "share", "known", "later", "part", "mine", "its"]) (sc := defScope (s_put_in)) (by decide +kernel)) (fun _ _ _ _ _ => (pg_tupK (K := K) rfl rfl (pgs_cons (pg_name (i := 9) sc_put_in.nd rfl (.inl rfl)) (pgs_cons (pg_name (i := 10) sc_put_in.nd rfl (.inl rfl)) pgs_nil)))) (fun _ _ _ _ _ => pts_nil) (fun _ _ _ _ _ => (pe_pf hP hr (by decide) rfl (pa_cons (pv 9) (pa_cons (pe_pf hT hr (by decide) rfl (pa_cons (pv 5) (pa_cons (pv 10) pa_nil))) pa_nil))))) (pss_cons (ps_ret (pe_tup (pa_cons (pv 4) (pa_cons (pv 6) pa_nil)))) pss_nil))))), fun Z ds R H0 hz hS => ?_⟩)
  obtain ⟨A, Bd, dA, dB, i, p, n, m, ai, ap, bi, bp, ki, kp, f, g, rfl, rfl, hai, hap, hbi, hbp, dri, drp, hs, hpn, hn, hm, hAap, sz, rfl⟩ := hS
  have rA := hz _ (List.mem_cons_self)
  have rB := hz _ (List.mem_cons_of_mem _ List.mem_cons_self)
  have rai := hz _ (List.mem_cons_of_mem _ (List.mem_cons_of_mem _ List.mem_cons_self))
  have rap := hz _ (List.mem_cons_of_mem _ (List.mem_cons_of_mem _ (List.mem_cons_of_mem _ List.mem_cons_self)))
  have rbi := hz _ (List.mem_cons_of_mem _ (List.mem_cons_of_mem _ (List.mem_cons_of_mem _ (List.mem_cons_of_mem _ List.mem_cons_self))))
  have rbp := hz _ (List.mem_cons_of_mem _ (List.mem_cons_of_mem _ (List.mem_cons_of_mem _ (List.mem_cons_of_mem _ (List.mem_cons_of_mem _ List.mem_cons_self)))))
  refine gq_new (en_cb (ea_cons (ev_op (ev_var rfl) (ev_var rfl) (rv_ixL (.inr rA) (atN hai))) ea_nil) (rc_dict (.inr rai))) fun a => ?_
  refine gq_setM (em_dpop (ev_var rfl) (ev_var rfl) (k := 0) rfl (dri.some hs)) fun d L' e => ?_
  obtain ⟨rfl, rfl⟩ := e
  have szp := (sz p (by omega)).1
  obtain ⟨kl, rfl, kn1, kn2, kn3⟩ := drp
  let fj : Nat → Nat → Rat := fun j c => (if c = p then 0 else f c) + f p * (if c ∈ (kl.take j).map (·.1) then g c else 0)
  refine go_seq (fun G' L' => ∃ (v7 v8 : Option D) (ks : List (Key × D)), G' = [some (.ref A), some (.ref Bd), some (.int (i : Int)), some (.int (p : Int)), some (.ref a), some (fr (f p)), none, v7, v8, none, none] ∧ L' = [(a, .dct ks)] ∧ DR p n ks (putH p f g)) (go_lockB (ks := enc kl) rap fun H0' af fz => ?_) fun G' L' hM => ?_
  · refine go_for0 (ei_items (ev_op (ev_var rfl) (ev_var rfl) (rv_ixL (.inr (Rdo.aft rA af hAap)) (atN hap))) fz) (fun j G' L' => ∃ (v7 v8 : Option D) (ks : List (Key × D)), G' = [some (.ref A), some (.ref Bd), some (.int (i : Int)), some (.int (p : Int)), some (.ref a), some (fr (f p)), none, v7, v8, none, none] ∧ L' = [(a, .dct ks)] ∧ DR p n ks (fj j))
      ⟨none, none, _, rfl, rfl, dri.drop.congr (by omega) fun c hc => ?_⟩ (fun _ _ _ _ => trivial) (fun j d G' L' hd hI => ?_) (fun G' L' hI => ?_)
    · show _ = (if c = p then 0 else f c) + f p * (if c ∈ ([] : List (Nat × Rat)).map (·.1) then g c else 0)
      have e0 : (if c ∈ ([] : List (Nat × Rat)).map (·.1) then g c else 0) = (0 : Rat) := if_neg (fun h => nomatch h)
      rw [e0, Rat.mul_zero, Rat.add_zero]
    · obtain ⟨v7, v8, ks, rfl, rfl, dr⟩ := hI
      obtain ⟨q, hq, rfl⟩ := itms_of hd
      have hqm := List.mem_of_getElem? hq
      obtain ⟨hqp, hqg⟩ := kn2 q hqm
      have hnot : q.1 ∉ (kl.take j).map (·.1) := fun hm => by
        have h2 : (kl.map (·.1))[j]? = some q.1 := by rw [List.getElem?_map, hq]; rfl
        rw [List.map_take] at hm
        obtain ⟨x, hx⟩ := List.getElem?_of_mem hm
        rw [List.getElem?_take] at hx
        split at hx
        · rename_i hlt
          have := ix_inj kn1 hx h2
          omega
        · cases hx
      have hfj : fj j q.1 = f q.1 := by
        show (if q.1 = p then 0 else f q.1) + f p * (if q.1 ∈ (kl.take j).map (·.1) then g q.1 else 0) = _
        rw [if_neg (by omega), if_neg hnot, Rat.mul_zero, Rat.add_zero]
      have szq := sz q.1 (by omega)
      refine ⟨_, eg_two, ?_⟩
      refine go_last (gq_dput (i := (q.1 : Int)) (k := 0) (ev_call (ea_cons (ev_get2 (i := (q.1 : Int)) (ev_var rfl) (.inl List.mem_cons_self) (ev_var rfl) (ev_k iZ) (dr.get (by omega))) (ea_cons (ev_call (ea_cons (ev_var rfl) (ea_cons (ev_var rfl) ea_nil)) ⟨f p, q.2, rfl, szp.sm, by rw [hqg]; exact szq.2.sm, rfl⟩) ea_nil)) ⟨fj j q.1, f p * q.2, rfl, by rw [hfj]; exact szq.1.sm, by rw [hqg]; exact s2_mul szp szq.2, rfl⟩) (ev_var rfl) (ev_var rfl) rfl (by have := dr.len; omega) (go_next ⟨_, _, _, rfl, rfl, ?_⟩))
      refine (dr.put hqp _).congr (by omega) fun c hc => ?_
      have ht : kl.take (j + 1) = kl.take j ++ [q] := by rw [List.take_succ, hq]; rfl
      show (if c = q.1 then fj j q.1 + f p * q.2 else fj j c) = (if c = p then 0 else f c) + f p * (if c ∈ (kl.take (j + 1)).map (·.1) then g c else 0)
      rw [ht, List.map_append]
      by_cases e : c = q.1
      · subst e
        have e0 : q.1 ∈ (kl.take j).map (·.1) ++ [q].map (·.1) := List.mem_append_right _ (List.mem_singleton.mpr rfl)
        rw [if_pos rfl, hfj, if_neg (by omega), if_pos e0, hqg]
      · rw [if_neg e]
        have : (c ∈ (kl.take j).map (·.1) ++ [q].map (·.1)) ↔ c ∈ (kl.take j).map (·.1) := by
          rw [List.mem_append]
          exact ⟨fun h => h.elim id fun h => absurd (List.mem_singleton.mp h) e, .inl⟩
        simp only [this]
        rfl
    · obtain ⟨v7, v8, ks, rfl, rfl, dr⟩ := hI
      refine ⟨_, _, ks, rfl, rfl, dr.congr (by omega) fun c hc => ?_⟩
      have hl : (itms (enc kl)).length = kl.length := by rw [itms_enc, List.length_map]
      show (if c = p then 0 else f c) + f p * (if c ∈ (kl.take (itms (enc kl)).length).map (·.1) then g c else 0) = putH p f g c
      rw [hl, List.take_length]
      unfold putH
      by_cases e : c = p
      · rw [if_pos e, if_pos e, if_neg (fun hm => ?_), Rat.mul_zero, Rat.add_zero]
        obtain ⟨q, hq, hqc⟩ := List.mem_map.mp hm
        have := (kn2 q hq).1
        omega
      · rw [if_neg e, if_neg e]
        by_cases hm : c ∈ kl.map (·.1)
        · rw [if_pos hm]
        · rw [if_neg hm, kn3 c hc hm]
  · obtain ⟨v7, v8, ks, rfl, rfl, dr⟩ := hM
    refine gq_new (en_lc2Y (v := plD (f p)) (by decide) (ei_zip (ea_cons (ev_op (ev_var rfl) (ev_var rfl) (rv_ixL (.inr rB) (atN hbi))) (ea_cons (ev_op (ev_var rfl) (ev_var rfl) (rv_ixL (.inr rB) (atN hbp))) ea_nil)) (.lst (.inr rbi)) (.lst (.inr rbp))) (fun _ => ⟨.inr rbi, .inr rbp⟩) (fun d hd => ?_) (by rw [prs_len, kn_len, kn_len]; omega)) fun b => ?_
    · obtain ⟨o, ho, rfl⟩ := kn_prs_of hd
      have s1 := sz (n + o) (by omega)
      refine ⟨_, _, rfl, EvP.cast (ev_call (ea_cons (ev_var rfl) (ea_cons (ev_call (ea_cons (ev_var rfl) (ea_cons (ev_var rfl) ea_nil)) ⟨f p, g (n + o), rfl, szp.sm, s1.2.sm, rfl⟩) ea_nil)) ⟨f (n + o), f p * g (n + o), rfl, s1.1.sm, s2_mul szp s1.2, rfl⟩) ?_⟩
      show _ = fr (unfr (fr (f (n + o))) + f p * unfr (fr (g (n + o))))
      rw [unfr_fr, unfr_fr]
    · rw [kn_prs (h := putH p f g) fun o ho => ?_]
      · exact gq_retA (ev_tup (ea_cons (ev_var rfl) (ea_cons (ev_var rfl) ea_nil)) (by show 2 ≤ 100000; decide)) ⟨a, b, ks, rfl, rfl, dr⟩
      · show fr (unfr (fr (f (n + o))) + f p * unfr (fr (g (n + o)))) = _
        rw [unfr_fr, unfr_fr]
        unfold putH
        rw [if_neg (by omega)]
end
theorem hl_er {L : Hl} {a b : Addr} {o u : O} {k : Nat} (hk : L[k]? = some (a, o)) (h : (b, u) ∈ L) (hb : b ≠ a) : (b, u) ∈ L.eraseIdx k := by
  obtain ⟨j, hj⟩ := List.getElem?_of_mem h
  refine List.mem_eraseIdx_iff_getElem?.mpr ⟨j, fun e => ?_, hj⟩
  subst e
  rw [hk] at hj
  cases hj
  exact hb rfl
theorem RowsW.row {n m q p : Nat} {bd bd' : Nat → Nat} {M M' : Mx} {A B a0 : Addr} {as bs : List Addr} {L : Hl} {ks0 : List (Key × D)} (h : RowsW n m q bd M A B as bs L) (ha0 : as[p]? = some a0) (h0 : (a0, .dct ks0) ∈ L) (dr : DR (bd' p) n ks0 (M' p)) (hk : kn n m (M p) = kn n m (M' p))
    (e1 : ∀ i, i ≠ p → bd i = bd' i ∧ M i = M' i) : RowsW n m q bd' M' A B as bs L :=
  ⟨h.la, h.lb, h.nd, h.mA, h.mB, h.ab, fun i a e => by
    by_cases hi : i = p
    · subst hi
      rw [ha0] at e
      cases e
      exact ⟨ks0, h0, dr⟩
    · obtain ⟨ks, h1, h2⟩ := h.ra i a e
      rw [(e1 i hi).1, (e1 i hi).2] at h2
      exact ⟨ks, h1, h2⟩, fun i b e => by
    obtain ⟨h1, h2, h3⟩ := h.rb i b e
    refine ⟨h1, h2, ?_⟩
    by_cases hi : i = p
    · subst hi; rw [← hk]; exact h3
    · rw [← (e1 i hi).2]; exact h3⟩
theorem part_step {b b' : Nat → Bool} {n : Nat} {M : Mx} {o p c : Nat} (hc : c < p) (hb : b c = false) (hb' : ∀ x, b' x = (b x || decide (x = c))) : part n M o p b' = part n M o p b + el n M n p c * X n M o c := by
  unfold part
  have e : sm p (fun x => if b' x = true then el n M n p x * X n M o x else 0) = sm p (fun x => (if b x = true then el n M n p x * X n M o x else 0) + (if x = c then el n M n p x * X n M o x else 0)) := sm_congr fun x _ => by
    rw [hb' x]
    by_cases hx : x = c
    · subst hx; rw [hb, if_pos (by simp), if_neg (by simp), if_pos rfl, Rat.zero_add]
    · cases hbx : b x with
      | true => rw [if_pos (by simp), if_pos rfl, if_neg hx, Rat.add_zero]
      | false => rw [if_neg (by simp [hx]), if_neg (by simp), if_neg hx, Rat.add_zero]
  rw [e, sm_add, sm_at (k := c) hc fun i _ hi => if_neg hi, if_pos rfl, Rat.add_assoc]
def Xf (n : Nat) (M : Mx) (i x : Nat) : Rat := X n M (x - n) i
def resD (n m : Nat) (M : Mx) (j : Nat) : List D := (List.range j).map fun i => .tup (kn n m (Xf n M i))
theorem resD_get {n m j i : Nat} {M : Mx} (h : i < j) : (resD n m M j)[i]? = some (.tup (kn n m (Xf n M i))) := by unfold resD; rw [List.getElem?_map, List.getElem?_range h]; rfl
theorem resD_len {n m j : Nat} {M : Mx} : (resD n m M j).length = j := by unfold resD; rw [List.length_map, List.length_range]
theorem resD_succ {n m j : Nat} {M : Mx} : resD n m M j ++ [.tup (kn n m (Xf n M j))] = resD n m M (j + 1) := by unfold resD; rw [List.range_succ, List.map_append]; rfl
/-- the answers of a table -/
def ansD (s m : Nat) (t : List Rw) : List D := resD t.length m (tabM s m t) t.length
def S_solved : FS := fun _ ds R => ∃ (s m : Nat) (t : List Rw) (d : Nat → Nat), ds = [.int (s : Int), .int (m : Int), tbD t] ∧ Tb s m t ∧ Rk t d ∧ R = New1 (.lst (ansD s m t))
def bdk (n k : Nat) (r : Nat) : Nat := if r < n - k then n - k else r
def bd2 (n k p i : Nat) (r : Nat) : Nat := if r = p ∨ r < i then p else bdk n k r
def Mi (p i : Nat) (E : Mx) : Mx := fun r c => if r = p then nrm p E c else if r < i then stp p E r c else E r c
abbrev Gs (s m : Nat) (t : List Rw) (v3 v4 : Option D) (A B : Addr) (v7 v8 v9 v10 v11 v12 : Option D) : Ga := [some (.int (s : Int)), some (.int (m : Int)), some (tbD t), v3, v4, some (.ref A), some (.ref B), v7, v8, v9, v10, v11, v12, none, none]
section
variable {P : Program} {w : World} {K : PySem.W.Frag} {mg : Str → Option Value} {base : Heap}
theorem ok_solved (B : Bl mg) (F : FunG K mg "solved" s_solved) (C : Cs K mg) (hP : Pf P w K mg base "plus" 3 S_plus) (hM : Pf P w K mg base "minus" 3 S_minus) (hT : Pf P w K mg base "times" 3 S_times) (hV : Pf P w K mg base "over" 3 S_over) (hE : Pf P w K mg base "equations" 4 S_equ) (hPI : Pf P w K mg base "put_in" 4 S_put) : Pf P w K mg base "solved" 5 S_solved := by
  obtain ⟨z0, hZ, iZ⟩ := C.zero
  obtain ⟨z1, hO, iO⟩ := C.one
  refine pf_mk F sc_solved (fun _ _ _ _ _ _ us hl => match us, hl with | [_, _, _], _ => rfl) (fun Z ds R h => by obtain ⟨s, m, t, d, rfl, _⟩ := h; rfl) (fun f cdv A outer s H E hr => ⟨_, (pss_cons (ps_asg (pe_pf hE hr (by decide) rfl (pa_cons (pv 0) (pa_cons (pv 1) (pa_cons (pv 2) pa_nil)))) (pg_tupK (K := K) rfl rfl (pgs_cons (pg_name (i := 5) sc_solved.nd rfl (.inl rfl)) (pgs_cons (pg_name (i := 6) sc_solved.nd rfl (.inl rfl)) pgs_nil)))) (pss_cons (ps_for PassesOwn.never rfl (pi_range3 rfl B.range (pa_cons (pe_op op_sub (pe_len (K := K) rfl rfl B rfl (pa_cons (pv 2) pa_nil)) pe_int) (pa_cons (pe_un un_neg pe_int) (pa_cons (pe_un un_neg pe_int) pa_nil)))) (pg_name (i := 3) sc_solved.nd rfl (.inl rfl)) (pss_cons (ps_set (i := 7) sc_solved.nd rfl (.inl rfl) (pe_ixL (K := K) rfl (pv 5) (pv 3) (fun _ _ => rfl))) (pss_cons (ps_if (pt_cmp (pc_din (hu_of hr) (pv 3) (pv 7))) (pss_cons (ps_set (i := 10) sc_solved.nd rfl (.inr rfl) (pe_pf hM hr (by decide) rfl (pa_cons (pe_cref hO rfl) (pa_cons (pe_dpop1 (pv 7) (pv 3) ⟨rfl, rfl, rfl, rfl⟩) pa_nil)))) (pss_cons (ps_asg (pe_lock (pe_dc (own := [("later", 11), ("part", 12)]) (g := gTup K 2 (gCons (gName 11) (gCons (gName 12) gNil))) rfl sc_solved.nd (pi_items (pv 7)) (blkOk_by (own := [("later", 11), ("part", 12)]) (N := ["sides", "many", "table", "place", "result", "shares", "constants", "own", "before", "known", "rest", "later", "part", "mine", "its"]) (sc := defScope (s_solved)) (by decide +kernel)) (fun _ _ _ _ _ => (pg_tupK (K := K) rfl rfl (pgs_cons (pg_name (i := 11) sc_solved.nd rfl (.inl rfl)) (pgs_cons (pg_name (i := 12) sc_solved.nd rfl (.inl rfl)) pgs_nil)))) (fun _ _ _ _ _ => pts_nil) (fun _ _ _ _ _ => (pv 11)) (fun _ _ _ _ _ => (pe_pf hV hr (by decide) rfl (pa_cons (pv 12) (pa_cons (pv 10) pa_nil)))))) (pg_sub (pv 5) (pv 3) set_list)) (pss_cons (ps_asg (pe_lc (own := [("part", 12)]) (g := gName 12) rfl sc_solved.nd (pi_listK (K := K) rfl (pe_ixL (K := K) rfl (pv 6) (pv 3) (fun _ _ => rfl))) (blkOk_by (own := [("part", 12)]) (N := ["sides", "many", "table", "place", "result", "shares", "constants", "own", "before", "known", "rest", "later", "part", "mine", "its"]) (sc := defScope (s_solved)) (by decide +kernel)) (fun _ _ _ _ _ => (pg_name (i := 12) sc_solved.nd rfl (.inl rfl))) (fun _ _ _ _ _ => pts_nil) (fun _ _ _ _ _ => (pe_pf hV hr (by decide) rfl (pa_cons (pv 12) (pa_cons (pv 10) pa_nil))))) (pg_sub (pv 6) (pv 3) set_list)) pss_nil))) pss_nil) (pss_cons (ps_for PassesOwn.never rfl (pi_range1 rfl B.range (pa_cons (pv 3) pa_nil)) (pg_name (i := 8) sc_solved.nd rfl (.inl rfl)) (pss_cons (ps_if (pt_cmp (pc_din (hu_of hr) (pv 3) (pe_ixL (K := K) rfl (pv 5) (pv 8) (fun _ _ => rfl)))) (pss_cons (ps_asg (pe_pf hPI hr (by decide) rfl (pa_cons (pv 5) (pa_cons (pv 6) (pa_cons (pv 8) (pa_cons (pv 3) pa_nil))))) (pg_tupK (K := K) rfl rfl (pgs_cons (pg_sub (pv 5) (pv 8) set_list) (pgs_cons (pg_sub (pv 6) (pv 8) set_list) pgs_nil)))) pss_nil) pss_nil) pss_nil)) pss_nil)))) (pss_cons (ps_set (i := 4) sc_solved.nd rfl (.inl rfl) (pe_lst pa_nil)) (pss_cons (ps_for PassesOwn.never rfl (pi_range1 rfl B.range (pa_cons (pe_len (K := K) rfl rfl B rfl (pa_cons (pv 2) pa_nil)) pa_nil)) (pg_name (i := 3) sc_solved.nd rfl (.inl rfl)) (pss_cons (ps_set (i := 9) sc_solved.nd rfl (.inl rfl) (pe_ixL (K := K) rfl (pv 6) (pv 3) (fun _ _ => rfl))) (pss_cons (ps_lock (ps_for PassesOwn.never rfl (pi_items (pe_ixL (K := K) rfl (pv 5) (pv 3) (fun _ _ => rfl))) (pg_tupK (K := K) rfl rfl (pgs_cons (pg_name (i := 11) sc_solved.nd rfl (.inl rfl)) (pgs_cons (pg_name (i := 12) sc_solved.nd rfl (.inr rfl)) pgs_nil))) (pss_cons (ps_setLc (i := 9) (own := [("mine", 13), ("its", 14)]) (g := gTup K 2 (gCons (gName 13) (gCons (gName 14) gNil))) rfl sc_solved.nd rfl rfl (sw_true rfl rfl rfl (by decide +kernel)) (pi_zipK (K := K) rfl rfl B rfl (pa_cons (pv 9) (pa_cons (pe_ixL (K := K) rfl (pv 4) (pv 11) (fun _ _ => rfl)) pa_nil))) (blkOk_by (own := [("mine", 13), ("its", 14)]) (N := ["sides", "many", "table", "place", "result", "shares", "constants", "own", "before", "known", "rest", "later", "part", "mine", "its"]) (sc := defScope (s_solved)) (by decide +kernel)) (fun _ _ _ _ _ => (pg_tupK (K := K) rfl rfl (pgs_cons (pg_name (i := 13) sc_solved.nd rfl (.inl rfl)) (pgs_cons (pg_name (i := 14) sc_solved.nd rfl (.inl rfl)) pgs_nil)))) (fun _ _ _ _ _ => pts_nil) (fun _ _ _ _ _ => (pe_pf hP hr (by decide) rfl (pa_cons (pv 13) (pa_cons (pe_pf hT hr (by decide) rfl (pa_cons (pv 12) (pa_cons (pv 14) pa_nil))) pa_nil))))) pss_nil))) (pss_cons (ps_expr (pe_bm PySem.F.plainAttrs_list PySem.F.slot_list_append PySem.F.type_list_append mt_append (pv 4) (pa_cons (pe_tuple (K := K) rfl rfl B rfl (pa_cons (pv 9) pa_nil)) pa_nil))) pss_nil)))) (pss_cons (ps_ret (pv 4)) pss_nil))))), fun Z ds R H0 hz hS => ?_⟩)
  obtain ⟨s, m, t, dd, rfl, T, rk, rfl⟩ := hS
  have n1 := T.n1
  have n2 := T.n2
  have m1 := T.m1
  have m2 := T.m2
  have hs6 := T.s2
  have ft := T.fit
  have su := T.sup rk
  have hlt : (t.map rwD).length = t.length := List.length_map ..
  unfold ansD
  generalize hM0 : tabM s m t = M at *
  generalize hnn : t.length = n at *
  refine gq_setN (en_call (ea_cons (ev_var rfl) (ea_cons (ev_var rfl) (ea_cons (ev_var rfl) ea_nil))) ⟨s, m, t, rfl, T, rfl⟩ noZ) fun d N hN => ?_
  obtain ⟨A, Bd, as, bs, rfl, W0⟩ := hN
  rw [hM0, hnn] at W0
  refine ⟨_, eg_two, ?_⟩
  rw [List.append_nil]
  -- the elimination
  refine gq_for0 (ei_rng3 (m := ((t.map rwD).length : Int) - 1) (n := -1) (ea_cons (ev_op (ev_cb (ea_cons (ev_var rfl) ea_nil) rc_lenT) ev_int rv_sub) (ea_cons (ev_un1 ev_int) (ea_cons (ev_un1 ev_int) ea_nil))) (by rw [hlt]; omega)) (fun k G' L' => ∃ (v3 v7 v8 v10 : Option D) (as bs : List Addr), G' = Gs s m t v3 none A Bd v7 v8 none v10 none none ∧ RowsW n m n (bdk n k) (el n M k) A Bd as bs L')
    ⟨none, none, none, none, as, bs, rfl, W0.congr (fun i hi => by unfold bdk; rw [if_pos (by omega)]; rfl) (fun i hi => ⟨Nat.le_refl _, fun c hc => rfl⟩)⟩ (fun _ _ _ _ => trivial) (fun k d G' L' hd hI => ?_) (fun G' L' hI => ?_)
  · obtain ⟨v3, v7, v8, v10, as, bs, rfl, W⟩ := hI
    have hk : k < n := by
      have h1 := (List.getElem?_eq_some_iff.mp hd).1
      rw [dwnD_len, hlt] at h1
      omega
    obtain ⟨p, hp⟩ : ∃ p, n - 1 - k = p := ⟨_, rfl⟩
    have hpn : p < n := by omega
    have hnk : n - k = p + 1 := by omega
    have hdp : d = .int (p : Int) := by
      have h2 := dwnD_get (lo := ((t.map rwD).length : Int) - 1) (n := (((t.map rwD).length : Int) - 1 - -1).toNat) (i := k) (by rw [hlt]; omega)
      rw [h2] at hd
      rw [← Option.some.inj hd, hlt]
      congr 1
      omega
    subst hdp
    obtain ⟨E, hE0⟩ : ∃ E, el n M k = E := ⟨_, rfl⟩
    rw [hE0] at W
    have ei := el_ei su k (by omega)
    rw [hE0] at ei
    have entS : ∀ i c, i < n - k → S2 (E i c) := fun i c hi => by rw [← hE0]; exact ent_s2 ft su hs6 n2 hi c
    have nrmS : ∀ c, S2 (nrm p E c) := fun c => by rw [← hE0, ← hp]; exact nrm_s2 ft su hs6 n2 hk c
    have restS : S2 (1 - E p p) := by rw [← hE0, ← hp]; exact rest_s2 ft su hs6 n2 hk
    have piv : E p p < 1 := by have := ei.piv su.pos hk; rwa [hp] at this
    have hstp : el n M (k + 1) = stp p E := by rw [← hE0, ← hp]; rfl
    refine ⟨_, eg_name, go_nd fun hnd => ?_⟩
    obtain ⟨a0, ha0⟩ : ∃ a, as[p]? = some a := ⟨as[p]'(by rw [W.la]; exact hpn), List.getElem?_eq_getElem _⟩
    obtain ⟨b0, hb0⟩ : ∃ b, bs[p]? = some b := ⟨bs[p]'(by rw [W.lb]; exact hpn), List.getElem?_eq_getElem _⟩
    obtain ⟨ks0, m0, dr0⟩ := W.ra p a0 ha0
    obtain ⟨b0A, b0B, mb0⟩ := W.rb p b0 hb0
    have hbd : bdk n k p = p + 1 := by unfold bdk; rw [if_pos (by omega)]; exact hnk
    rw [hbd] at dr0
    refine gq_set (d := .ref a0) (ev_op (ev_var rfl) (ev_var rfl) (rv_ixL (.inl W.mA) (atN (rfs_get ha0)))) ?_
    refine gq_ifJ (fun G' L' => ∃ (v7 v8 v10 : Option D) (as bs : List Addr), G' = Gs s m t (some (.int (p : Int))) none A Bd v7 v8 none v10 none none ∧ RowsW n m n (bd2 n k p 0) (Mi p 0 E) A Bd as bs L') (et_B (ev_din (ev_var rfl) (.inl m0) (ev_var rfl))) (fun hb => ?_) (fun hb => ?_) (fun G' L' hMid => ?_)
    · obtain ⟨k0, hk0⟩ := List.getElem?_of_mem m0
      refine gq_setM (em_call2 (ev_k iO) (em_dpop (ev_var rfl) (ev_var rfl) hk0 (dr0.some hb)) ⟨1, E p p, rfl, s2_one.sm, (entS p p (by omega)).sm, rfl⟩) fun d L2 e => ?_
      obtain ⟨rfl, rfl⟩ := e
      have dr1 := dr0.drop
      have a0A : A ≠ a0 := fun z => by subst z; have := hl_inj hnd W.mA m0; cases this
      obtain ⟨kl, hkl, kl1, kl2, kl3⟩ := dr1
      have kll : kl.length ≤ 100000 := by
        have h3 := nodup_len kl1 (n := p) fun x hx => by
          obtain ⟨q, hq, rfl⟩ := List.mem_map.mp hx
          exact (kl2 q hq).1
        rw [List.length_map] at h3
        omega
      have hrp : 0 < 1 - E p p := by have := (Rat.lt_iff_sub_pos (E p p) 1).mp piv; exact this
      have lk1 : (L'.set k0 (a0, O.dct (dropD ks0 (.inl (p : Int)))))[k0]? = some (a0, .dct (dropD ks0 (.inl (p : Int)))) := List.getElem?_set_self (List.getElem?_eq_some_iff.mp hk0).1
      obtain ⟨kA, hkA⟩ := List.getElem?_of_mem (hl_keep (o' := .dct (dropD ks0 (.inl (p : Int)))) hk0 W.mA a0A)
      have f1 : (L'.set k0 (a0, O.dct (dropD ks0 (.inl (p : Int))))).map (·.1) = L'.map (·.1) := hl_fst hk0
      refine gq_setLN (P := New1 (.dct ((itms (dropD ks0 (.inl (p : Int)))).foldl (fun acc d => putD acc (.inl (kpD d)) (vpD (· / (1 - E p p)) d)) []))) (en_lockO lk1 fun H0' af fz => en_dc2 (i := 11) (j := 12) (kf := kpD) (v := vpD (· / (1 - E p p))) (by decide) (ei_items (ev_var rfl) fz) (fun _ => trivial) (fun d hd => ?_) (by rw [hkl, itms_enc, List.length_map]; exact kll)) hkA (ev_var rfl) (ev_var rfl) (ixN_of (by rw [List.length_map, W.la]; exact hpn)) fun d N hN => ?_
      · obtain ⟨i, hi⟩ := List.getElem?_of_mem hd
        rw [hkl] at hi
        obtain ⟨q, hq, rfl⟩ := itms_of hi
        obtain ⟨q1, q2⟩ := kl2 q (List.mem_of_getElem? hq)
        rw [if_neg (by omega)] at q2
        refine ⟨_, _, rfl, ev_var rfl, EvP.cast (ev_call (ea_cons (ev_var rfl) (ea_cons (ev_var rfl) ea_nil)) ⟨q.2, 1 - E p p, rfl, by rw [q2]; exact (entS p q.1 (by omega)).sm, restS.sm, hrp, rfl⟩) ?_⟩
        show _ = fr (unfr (fr q.2) / (1 - E p p))
        rw [unfr_fr]
      · obtain ⟨a, rfl, rfl⟩ := hN
        refine go_nd fun hnd2 => ?_
        rw [List.singleton_append, List.map_cons, hl_fst hkA, f1] at hnd2
        have aL : ∀ c u, (c, u) ∈ L' → c ≠ a := fun c u hm z => (List.nodup_cons.mp hnd2).1 (List.mem_map.mpr ⟨(c, u), hm, z⟩)
        have kp2 : ∀ c u, (c, u) ∈ L' → c ≠ A → c ≠ a0 → (c, u) ∈ (a, O.dct ((itms (dropD ks0 (.inl (p : Int)))).foldl (fun acc d => putD acc (.inl (kpD d)) (vpD (· / (1 - E p p)) d)) [])) :: (L'.set k0 (a0, O.dct (dropD ks0 (.inl (p : Int))))).set kA (A, .lst ((rfs as).set p (.ref a))) := fun c u hm h1 h2 => List.mem_cons_of_mem _ (hl_keep hkA (hl_keep hk0 hm h2) h1)
        have b0a0 : b0 ≠ a0 := fun z => by subst z; have := hl_inj hnd mb0 m0; cases this
        have mB2 := kp2 _ _ W.mB W.ab.symm (fun z => by subst z; have := hl_inj hnd W.mB m0; cases this)
        have mb2 := kp2 _ _ mb0 b0A b0a0
        obtain ⟨kB, hkB⟩ := List.getElem?_of_mem mB2
        refine go_last (gq_setLN (P := New1 (.lst ((kn n m (E p)).map fun x => fr (unfr x / (1 - E p p))))) (en_lcY (v := fun x => fr (unfr x / (1 - E p p))) (ei_list (ev_op (ev_var rfl) (ev_var rfl) (rv_ixL (.inl mB2) (atN (rfs_get hb0)))) (.inl mb2)) (fun _ => .inl (List.mem_cons_of_mem _ mb2)) (fun d hd => ?_) (by rw [kn_len]; omega)) hkB (ev_var rfl) (ev_var rfl) (ixN_of (by rw [List.length_map, W.lb]; exact hpn)) fun d N hN => ?_)
        · obtain ⟨o, ho, rfl⟩ := kn_of hd
          refine EvP.cast (ev_call (ea_cons (ev_var rfl) (ea_cons (ev_var rfl) ea_nil)) ⟨E p (n + o), 1 - E p p, rfl, (entS p (n + o) (by omega)).sm, restS.sm, hrp, rfl⟩) ?_
          rw [unfr_fr]
        · obtain ⟨b, rfl, rfl⟩ := hN
          refine go_nd fun hnd3 => go_next ⟨_, _, _, as.set p a, bs.set p b, rfl, ?_⟩
          simp only [List.singleton_append] at hnd3
          rw [List.map_cons, hl_fst hkB, List.map_cons, hl_fst hkA, f1] at hnd3
          have bL : ∀ c u, (c, u) ∈ L' → c ≠ b := fun c u hm z => (List.nodup_cons.mp hnd3).1 (List.mem_cons_of_mem _ (List.mem_map.mpr ⟨(c, u), hm, z⟩))
          refine RowsW.set W hnd ha0 (fun hm => ?_) ⟨(bL _ _ W.mA).symm, (bL _ _ W.mB).symm⟩ (List.mem_cons_of_mem _ (hl_keep hkB (List.mem_cons_of_mem _ ?_) W.ab)) (List.mem_cons_of_mem _ ?_) (List.mem_cons_of_mem _ (hl_keep hkB List.mem_cons_self (aL _ _ W.mB).symm)) ?_ (List.mem_cons.mpr (.inl ?_)) (fun c u hm h1 h2 h3 => List.mem_cons_of_mem _ (hl_keep hkB (kp2 c u hm h1 h3) h2)) fun i hi => ⟨by unfold bd2; rw [if_neg (by omega)], by unfold Mi; funext c; rw [if_neg hi, if_neg (by omega)]⟩
          · obtain ⟨j, hj⟩ := List.getElem?_of_mem hm
            obtain ⟨ks', h1, _⟩ := W.ra j a hj
            exact aL _ _ h1 rfl
          · have := hl_put (o' := .lst ((rfs as).set p (.ref a))) hkA
            unfold rfs at this ⊢
            rw [List.map_set]
            exact this
          · have := hl_put (o' := .lst ((rfs bs).set p (.ref b))) hkB
            unfold rfs at this ⊢
            rw [List.map_set]
            exact this
          · have := (DR.mk ⟨kl, hkl, kl1, kl2, kl3⟩ : DR p n (dropD ks0 (.inl (p : Int))) (fun x => if x = p then 0 else E p x)).over (1 - E p p)
            unfold bd2
            rw [if_pos (.inl rfl)]
            refine this.congr (by omega) fun c hc => ?_
            unfold Mi nrm
            rw [if_pos rfl]
            by_cases e : c = p
            · rw [if_pos e, if_pos e, Rat.div_def, Rat.zero_mul]
            · rw [if_neg e, if_neg e]
          · congr 2
            rw [kn_map (g := Mi p 0 E p) fun o ho => ?_]
            rw [unfr_fr]
            unfold Mi nrm
            rw [if_pos rfl, if_neg (by omega)]
    · have z0 : E p p = 0 := dr0.none hpn hb
      refine go_next ⟨_, _, _, as, bs, rfl, W.row ha0 m0 ?_ ?_ fun i hi => ⟨by unfold bd2; rw [if_neg (by omega)], by unfold Mi; funext c; rw [if_neg hi, if_neg (by omega)]⟩⟩
      · unfold bd2
        rw [if_pos (.inl rfl)]
        refine (dr0.shrink hb).congr (by omega) fun c hc => ?_
        unfold Mi nrm
        rw [if_pos rfl, z0]
        by_cases e : c = p
        · rw [if_pos e, e, z0]
        · rw [if_neg e]; grind
      · refine kn_congr fun o ho => ?_
        unfold Mi nrm
        rw [if_pos rfl, if_neg (by omega), z0]
        grind
    · obtain ⟨v7, v8, v10, as, bs, rfl, W⟩ := hMid
      refine go_last (gq_for0 (ei_rng1 (n := (p : Int)) (ea_cons (ev_var rfl) ea_nil) (by omega) (by omega)) (fun i G' L' => ∃ (v8 : Option D) (as bs : List Addr), G' = Gs s m t (some (.int (p : Int))) none A Bd v7 v8 none v10 none none ∧ RowsW n m n (bd2 n k p i) (Mi p i E) A Bd as bs L') ⟨v8, as, bs, rfl, W⟩ (fun _ _ _ _ => trivial) (fun i d G' L' hd hI => ?_) (fun G' L' hI => ?_))
      · obtain ⟨v8, as, bs, rfl, W⟩ := hI
        have hip : i < p := by have h1 := (List.getElem?_eq_some_iff.mp hd).1; rw [rngD_len] at h1; omega
        rw [rngD_get (by omega)] at hd
        have hdi : d = .int (i : Int) := by rw [← Option.some.inj hd, Int.zero_add]
        subst hdi
        refine ⟨_, eg_name, ?_⟩
        refine go_nd fun hnd => ?_
        obtain ⟨ai, hai⟩ : ∃ a, as[i]? = some a := ⟨as[i]'(by rw [W.la]; omega), List.getElem?_eq_getElem _⟩
        obtain ⟨bi, hbi⟩ : ∃ b, bs[i]? = some b := ⟨bs[i]'(by rw [W.lb]; omega), List.getElem?_eq_getElem _⟩
        obtain ⟨ap, hap⟩ : ∃ a, as[p]? = some a := ⟨as[p]'(by rw [W.la]; exact hpn), List.getElem?_eq_getElem _⟩
        obtain ⟨bp, hbp⟩ : ∃ b, bs[p]? = some b := ⟨bs[p]'(by rw [W.lb]; exact hpn), List.getElem?_eq_getElem _⟩
        obtain ⟨ki, mi, dri⟩ := W.ra i ai hai
        obtain ⟨kp, mp, drp⟩ := W.ra p ap hap
        obtain ⟨biA, biB, mbi⟩ := W.rb i bi hbi
        obtain ⟨bpA, bpB, mbp⟩ := W.rb p bp hbp
        have e1 : bd2 n k p i i = p + 1 := by unfold bd2 bdk; rw [if_neg (by omega), if_pos (by omega)]; exact hnk
        have e2 : bd2 n k p i p = p := by unfold bd2; rw [if_pos (.inl rfl)]
        have e3 : Mi p i E i = E i := by funext c; unfold Mi; rw [if_neg (by omega), if_neg (by omega)]
        have e4 : Mi p i E p = nrm p E := by funext c; unfold Mi; rw [if_pos rfl]
        have e5 : bd2 n k p (i + 1) i = p := by unfold bd2; rw [if_pos (.inr (by omega))]
        have e6 : Mi p (i + 1) E i = putH p (E i) (nrm p E) := by
          funext c
          unfold Mi stp putH
          rw [if_neg (by omega), if_pos (by omega), if_neg (by omega), if_pos (by omega)]
        rw [e1, e3] at dri
        rw [e2, e4] at drp
        rw [e3] at mbi
        rw [e4] at mbp
        have oth : ∀ r, r ≠ i → bd2 n k p i r = bd2 n k p (i + 1) r ∧ Mi p i E r = Mi p (i + 1) E r := fun r hr => by
          constructor
          · unfold bd2
            by_cases h : r = p ∨ r < i
            · rw [if_pos h, if_pos (by omega)]
            · rw [if_neg h, if_neg (by omega)]
          · funext c
            unfold Mi
            by_cases h : r = p
            · rw [if_pos h, if_pos h]
            · rw [if_neg h, if_neg h]
              by_cases h : r < i
              · rw [if_pos h, if_pos (by omega)]
              · rw [if_neg h, if_neg (by omega)]
        refine gq_if2 (et_B (ev_din (ev_op (ev_var rfl) (ev_var rfl) (rv_ixL (.inl W.mA) (atN (rfs_get hai)))) (.inl mi) (ev_var rfl))) (fun hb => ?_) (fun hb => ?_)
        · obtain ⟨kA, hkA⟩ := List.getElem?_of_mem W.mA
          obtain ⟨kB, hkB⟩ := List.getElem?_of_mem W.mB
          have kAB : kA ≠ kB := fun z => by subst z; rw [hkA] at hkB; exact W.ab (congrArg Prod.fst (Option.some.inj hkB))
          refine gq_assoc (gq_set2 (en_call (ea_cons (ev_var rfl) (ea_cons (ev_var rfl) (ea_cons (ev_var rfl) (ea_cons (ev_var rfl) ea_nil)))) ⟨A, Bd, rfs as, rfs bs, i, p, n, m, ai, ap, bi, bp, ki, kp, E i, nrm p E, rfl, rfl, rfs_get hai, rfs_get hap, rfs_get hbi, rfs_get hbp, dri, drp, hb, hpn, n2, m2, (fun z => by subst z; have := hl_inj hnd W.mA mp; cases this), fun c _ => ⟨entS i c (by omega), nrmS c⟩, rfl⟩ fun q hq => ?_) (fun d N hN => ?_) hkA hkB kAB rfl rfl rfl (ixN_of (by rw [List.length_map, W.la]; omega)) (ixN_of (by rw [List.length_map, W.lb]; omega)))
          · simp only [List.mem_cons, List.not_mem_nil, or_false] at hq
            rcases hq with rfl | rfl | rfl | rfl | rfl | rfl
            · exact .inl W.mA
            · exact .inl W.mB
            · exact .inl mi
            · exact .inl mp
            · exact .inl mbi
            · exact .inl mbp
          · obtain ⟨a, b, ks, rfl, rfl, dr⟩ := hN
            refine ⟨_, _, rfl, gq_nil (go_nd fun hnd3 => go_next ⟨_, as.set i a, bs.set i b, rfl, ?_⟩)⟩
            have hkB' : (L'.set kA (A, .lst ((rfs as).set i (.ref a))))[kB]? = some (Bd, .lst (rfs bs)) := by rw [List.getElem?_set_ne kAB]; exact hkB
            have f3 : (((L'.set kA (A, .lst ((rfs as).set i (.ref a)))).set kB (Bd, .lst ((rfs bs).set i (.ref b)))).map (·.1)) = L'.map (·.1) := by rw [hl_fst hkB', hl_fst hkA]
            rw [List.map_append, f3] at hnd3
            have hnd4 : (b :: a :: L'.map (·.1)).Nodup := hnd3
            have bL : ∀ c u, (c, u) ∈ L' → c ≠ b := fun c u hm z => (List.nodup_cons.mp hnd4).1 (List.mem_cons_of_mem _ (List.mem_map.mpr ⟨(c, u), hm, z⟩))
            have aL : ∀ c u, (c, u) ∈ L' → c ≠ a := fun c u hm z => (List.nodup_cons.mp (List.nodup_cons.mp hnd4).2).1 (List.mem_map.mpr ⟨(c, u), hm, z⟩)
            refine RowsW.set W hnd hai (fun hm => ?_) ⟨(bL _ _ W.mA).symm, (bL _ _ W.mB).symm⟩ (List.mem_append_right _ (hl_keep hkB' ?_ W.ab)) (List.mem_append_right _ ?_) (List.mem_append_left _ (List.mem_cons_of_mem _ List.mem_cons_self)) (by rw [e5, e6]; exact dr) (List.mem_append_left _ (by rw [e6]; exact List.mem_cons_self)) (fun c u hm h1 h2 h3 => List.mem_append_right _ (hl_keep hkB' (hl_keep hkA hm h1) h2)) fun r hr => oth r hr
            · obtain ⟨j, hj⟩ := List.getElem?_of_mem hm
              obtain ⟨ks', h1, _⟩ := W.ra j a hj
              exact aL _ _ h1 rfl
            · have := hl_put (o' := .lst ((rfs as).set i (.ref a))) hkA
              unfold rfs at this ⊢
              rw [List.map_set]
              exact this
            · have := hl_put (o' := .lst ((rfs bs).set i (.ref b))) hkB'
              unfold rfs at this ⊢
              rw [List.map_set]
              exact this
        · have z0 : E i p = 0 := dri.none hpn hb
          refine gq_nil (gq_nil (go_next ⟨_, as, bs, rfl, W.row hai mi ?_ ?_ fun r hr => oth r hr⟩))
          · rw [e5, e6]
            refine (dri.shrink hb).congr (by omega) fun c hc => ?_
            unfold putH
            rw [z0, Rat.zero_mul, Rat.add_zero]
            by_cases e : c = p
            · rw [if_pos e, e, z0]
            · rw [if_neg e]
          · rw [e3, e6]
            refine kn_congr fun o ho => ?_
            unfold putH
            rw [if_neg (by omega), z0, Rat.zero_mul, Rat.add_zero]
      · obtain ⟨v8, as, bs, rfl, W⟩ := hI
        rw [rngD_len] at W
        refine go_next ⟨_, _, _, _, as, bs, rfl, W.congr (fun r hr => ?_) (fun r hr => ⟨?_, fun c hc => ?_⟩)⟩
        · unfold bd2 bdk
          by_cases h : r = p ∨ r < (p : Int).toNat
          · rw [if_pos h]
            by_cases h2 : r = p
            · rw [if_neg (by omega), h2]
            · rw [if_pos (by omega)]; omega
          · rw [if_neg h, if_neg (by omega), if_neg (by omega)]
        · unfold bd2 bdk
          split
          · omega
          · split <;> omega
        · rw [hstp]
          unfold Mi stp
          by_cases h : r = p
          · rw [if_pos h, if_pos h]
          · rw [if_neg h, if_neg h]
            by_cases h2 : r < p
            · rw [if_pos (by omega)]
            · rw [if_neg (by omega), if_neg h2]
  · obtain ⟨v3, v7, v8, v10, as, bs, rfl, W⟩ := hI
    have hend : (((t.map rwD).length : Int) - 1 - -1).toNat = n := by rw [hlt]; omega
    rw [dwnD_len, hend] at W
    refine gq_new (en_lst ea_nil (by decide)) fun Rr => go_nd fun hnd => ?_
    have hR : ∀ q ∈ L', q.1 ≠ Rr := fun q hq z => (List.nodup_cons.mp hnd).1 (List.mem_map.mpr ⟨q, hq, z⟩)
    have hndL := (List.nodup_cons.mp hnd).2
    refine gq_for0 (ei_rng1 (n := ((t.map rwD).length : Int)) (ea_cons (ev_cb (ea_cons (ev_var rfl) ea_nil) rc_lenT) ea_nil) (by omega) (by omega)) (fun j G2 L2 => ∃ (v3 v7 v8 v9 v10 v11 v12 : Option D), G2 = Gs s m t v3 (some (.ref Rr)) A Bd v7 v8 v9 v10 v11 v12 ∧ (Rr, .lst (resD n m M j)) ∈ L2 ∧ ∀ q ∈ L', q ∈ L2)
      ⟨v3, v7, v8, none, v10, none, none, rfl, List.mem_cons_self, fun q hq => List.mem_cons_of_mem _ hq⟩ (fun _ _ _ _ => trivial) (fun p d G2 L2 hd hI => ?_) (fun G2 L2 hI => ?_)
    · obtain ⟨v3, v7, v8, v9, v10, v11, v12, rfl, mR, hL⟩ := hI
      have hpn : p < n := by have h1 := (List.getElem?_eq_some_iff.mp hd).1; rw [rngD_len, hlt] at h1; omega
      rw [rngD_get (by rw [hlt]; omega)] at hd
      have hdi : d = .int (p : Int) := by rw [← Option.some.inj hd, Int.zero_add]
      subst hdi
      have W2 := W.keep hL
      obtain ⟨a0, ha0⟩ : ∃ a, as[p]? = some a := ⟨as[p]'(by rw [W.la]; exact hpn), List.getElem?_eq_getElem _⟩
      obtain ⟨b0, hb0⟩ : ∃ b, bs[p]? = some b := ⟨bs[p]'(by rw [W.lb]; exact hpn), List.getElem?_eq_getElem _⟩
      obtain ⟨ks0, m0, dr0⟩ := W2.ra p a0 ha0
      obtain ⟨b0A, b0B, mb0⟩ := W2.rb p b0 hb0
      have hbd : bdk n n p = p := by unfold bdk; rw [if_neg (by omega)]
      rw [hbd] at dr0
      obtain ⟨kl, rfl, kl1, kl2, kl3⟩ := dr0
      refine ⟨_, eg_name, go_nd fun hnd2 => ?_⟩
      obtain ⟨k0, hk0⟩ := List.getElem?_of_mem m0
      have nl : ∀ c ds, (c, O.lst ds) ∈ L2 → c ≠ a0 := fun c ds hm z => by subst z; have := hl_inj hnd2 hm m0; cases this
      let F : Nat → Nat → Rat := fun i x => part n M (x - n) p (fun c => decide (c ∈ (kl.take i).map (·.1)))
      have hF : ∀ i o, F i (n + o) = part n M o p (fun c => decide (c ∈ (kl.take i).map (·.1))) := fun i o => by show part n M (n + o - n) p _ = _; rw [Nat.add_sub_cancel_left]
      have hX : ∀ i o, Xf n M i (n + o) = X n M o i := fun i o => by unfold Xf; rw [Nat.add_sub_cancel_left]
      refine gq_set (d := .ref b0) (ev_op (ev_var rfl) (ev_var rfl) (rv_ixL (.inl W2.mB) (atN (rfs_get hb0)))) ?_
      refine go_seq (fun G3 L3 => ∃ (v11 v12 : Option D) (b : Addr), G3 = Gs s m t (some (.int (p : Int))) (some (.ref Rr)) A Bd v7 v8 (some (.ref b)) v10 v11 v12 ∧ (b, .lst (kn n m (Xf n M p))) ∈ L3 ∧ ∀ q ∈ L2, q ∈ L3) (go_lockO hk0 fun H0' af fz => ?_) fun G3 L3 hM3 => ?_
      · refine go_for0 (ei_items (ev_op (ev_var rfl) (ev_var rfl) (rv_ixL (.inl (hl_er hk0 W2.mA (nl _ _ W2.mA))) (atN (rfs_get ha0)))) fz) (fun i G3 L3 => ∃ (v11 v12 : Option D) (b : Addr), G3 = Gs s m t (some (.int (p : Int))) (some (.ref Rr)) A Bd v7 v8 (some (.ref b)) v10 v11 v12 ∧ (b, .lst (kn n m (F i))) ∈ L3 ∧ ∀ q ∈ L2.eraseIdx k0, q ∈ L3)
          ⟨v11, v12, b0, rfl, ?_, fun q hq => hq⟩ (fun _ _ _ _ => trivial) (fun i d G3 L3 hd hI => ?_) (fun G3 L3 hI => ?_)
        · rw [kn_congr (f := F 0) (g := el n M n p) fun o ho => ?_]
          · exact hl_er hk0 mb0 (nl _ _ mb0)
          · rw [hF]
            unfold part
            rw [sm_zero fun c _ => if_neg (by simp), Rat.add_zero]
        · obtain ⟨v11, v12, b, rfl, mb, hL3⟩ := hI
          obtain ⟨q, hq, rfl⟩ := itms_of hd
          have hqm := List.mem_of_getElem? hq
          obtain ⟨hqp, hqg⟩ := kl2 q hqm
          have hnot : q.1 ∉ (kl.take i).map (·.1) := fun hm => by
            have h2 : (kl.map (·.1))[i]? = some q.1 := by rw [List.getElem?_map, hq]; rfl
            rw [List.map_take] at hm
            obtain ⟨x, hx⟩ := List.getElem?_of_mem hm
            rw [List.getElem?_take] at hx
            split at hx
            · rename_i hlt
              have := ix_inj kl1 hx h2
              omega
            · cases hx
          have mR3 := hL3 _ (hl_er hk0 mR (nl _ _ mR))
          have sq := fin_s2 ft su hs6 n2 hpn q.1
          refine ⟨_, eg_two, ?_⟩
          refine go_last (gq_new (en_lc2Y (i := 13) (j := 14) (v := plD q.2) (by decide) (ei_zip (ea_cons (ev_var rfl) (ea_cons (ev_op (ev_var rfl) (ev_var rfl) (rv_ixL (.inl mR3) (atN (resD_get hqp)))) ea_nil)) (.lst (.inl mb)) (.tup _)) (fun _ => ⟨.inl (List.mem_cons_of_mem _ mb), trivial⟩) (fun d hd => ?_) (by rw [prs_len, kn_len, kn_len]; omega)) fun b' => ?_)
          · obtain ⟨o, ho, rfl⟩ := kn_prs_of hd
            have s1 : Sm (F i (n + o)) := by rw [hF]; exact S4.sm (part_sz ft su hs6 n2 o hpn _)
            have s2 : S2 (Xf n M q.1 (n + o)) := by rw [hX]; exact X_s2 ft su hs6 n2 o (by omega)
            refine ⟨_, _, rfl, EvP.cast (ev_call (ea_cons (ev_var rfl) (ea_cons (ev_call (ea_cons (ev_var rfl) (ea_cons (ev_var rfl) ea_nil)) ⟨q.2, Xf n M q.1 (n + o), rfl, by rw [hqg]; exact sq.sm, s2.sm, rfl⟩) ea_nil)) ⟨F i (n + o), q.2 * Xf n M q.1 (n + o), rfl, s1, by rw [hqg]; exact s2_mul sq s2, rfl⟩) ?_⟩
            show _ = fr (unfr (fr (F i (n + o))) + q.2 * unfr (fr (Xf n M q.1 (n + o))))
            rw [unfr_fr, unfr_fr]
          · rw [kn_prs (h := F (i + 1)) fun o ho => ?_]
            · exact go_next ⟨_, _, b', rfl, List.mem_cons_self, fun q hq => List.mem_cons_of_mem _ (hL3 q hq)⟩
            · show fr (unfr (fr (F i (n + o))) + q.2 * unfr (fr (Xf n M q.1 (n + o)))) = _
              have st := part_step (b := fun c => decide (c ∈ (kl.take i).map (·.1))) (b' := fun c => decide (c ∈ (kl.take (i + 1)).map (·.1))) (n := n) (M := M) (o := o) hqp (decide_eq_false hnot) fun x => by
                have ht : kl.take (i + 1) = kl.take i ++ [q] := by rw [List.take_succ, hq]; rfl
                rw [ht, List.map_append, Bool.eq_iff_iff]
                simp only [List.mem_append, Bool.or_eq_true, decide_eq_true_iff]
                exact or_congr Iff.rfl ⟨fun h => List.mem_singleton.mp h, fun h => List.mem_singleton.mpr h⟩
              rw [unfr_fr, unfr_fr, hF, hF, hX, hqg, st]
        · obtain ⟨v11, v12, b, rfl, mb, hL3⟩ := hI
          have hl : (itms (enc kl)).length = kl.length := by rw [itms_enc, List.length_map]
          refine ⟨_, _, b, rfl, List.mem_cons_of_mem _ ?_, fun q hq => ?_⟩
          · rw [kn_congr (f := Xf n M p) (g := F (itms (enc kl)).length) fun o ho => ?_]
            · exact mb
            · rw [hX, hF, hl, List.take_length, X_eq n M o hpn]
              unfold part
              congr 1
              refine sm_congr fun c hc => ?_
              by_cases h : c ∈ kl.map (·.1)
              · rw [if_pos (decide_eq_true h)]
              · rw [if_neg (show ¬ decide (c ∈ kl.map (·.1)) = true by rw [decide_eq_false h]; exact Bool.false_ne_true), kl3 c (by omega) h, Rat.zero_mul]
          · by_cases hqa : q.1 = a0
            · have : q.2 = .dct (enc kl) := hl_inj hnd2 (show (a0, q.2) ∈ L2 by rw [← hqa]; exact hq) m0
              rw [← hqa, ← this]
              exact List.mem_cons_self
            · exact List.mem_cons_of_mem _ (hL3 q (hl_er (u := q.2) hk0 hq hqa))
      · obtain ⟨v11, v12, b, rfl, mb, hL3⟩ := hM3
        obtain ⟨kR, hkR⟩ := List.getElem?_of_mem (hL3 _ mR)
        refine go_last (gq_append hkR (ev_var rfl) (ev_cb (ea_cons (ev_var rfl) ea_nil) (rc_tupL (.inl mb))) (by rw [resD_len]; omega) ?_)
        rw [resD_succ]
        exact go_next ⟨_, _, _, _, _, _, _, rfl, hl_put hkR, fun q hq => hl_keep (u := q.2) hkR (hL3 q (hL q hq)) (hR q hq)⟩
    · obtain ⟨v3, v7, v8, v9, v10, v11, v12, rfl, mR, hL⟩ := hI
      rw [rngD_len, hlt, Int.toNat_natCast] at mR
      exact gq_ret (P := fun d N => d = .ref Rr ∧ N = []) ((ev_var rfl).nw ⟨rfl, rfl⟩) fun d N e => by
        obtain ⟨rfl, rfl⟩ := e
        exact ⟨[(Rr, .lst (resD n m M n))], List.singleton_sublist.mpr mR, Rr, rfl, rfl⟩
end
end Fc

namespace Fc
open PySem PySem.Spec PyProof.Rows L2
/-! ## words -/
def stepT (t : List Rw) (x s : Nat) : Nat := match t[x]? with
  | some (.go l) => l.getD s 0
  | _ => x
def isGo (t : List Rw) (x : Nat) : Bool := match t[x]? with
  | some (.go _) => true
  | _ => false
def wk (t : List Rw) (x : Nat) (w : List Nat) : Nat := w.foldl (stepT t) x
def wlen (t : List Rw) (x : Nat) (w : List Nat) : Nat := match w with
  | [] => 0
  | s :: r => (if isGo t x then 1 else 0) + wlen t (stepT t x s) r
def pths (t : List Rw) : Nat → List Nat → List Nat
  | x, [] => [x]
  | x, s :: r => x :: pths t (stepT t x s) r
def decd (t : List Rw) : Nat → List Nat → Bool
  | _, [] => false
  | x, s :: r => if isGo t x then decd t (stepT t x s) r else true
theorem wk_append (t : List Rw) (x : Nat) (w v : List Nat) : wk t x (w ++ v) = wk t (wk t x w) v := by unfold wk; rw [List.foldl_append]
theorem wk_snoc (t : List Rw) (x : Nat) (w : List Nat) (s : Nat) : wk t x (w ++ [s]) = stepT t (wk t x w) s := by rw [wk_append]; rfl
theorem wlen_snoc (t : List Rw) : ∀ (w : List Nat) (x s : Nat), wlen t x (w ++ [s]) = wlen t x w + if isGo t (wk t x w) then 1 else 0
  | [], x, s => by show (if isGo t x then 1 else 0) + 0 = 0 + _; rw [Nat.add_zero, Nat.zero_add]; rfl
  | a :: r, x, s => by
    show (if isGo t x then 1 else 0) + wlen t (stepT t x a) (r ++ [s]) = (if isGo t x then 1 else 0) + wlen t (stepT t x a) r + _
    rw [wlen_snoc t r (stepT t x a) s, Nat.add_assoc]
    rfl
theorem pths_snoc (t : List Rw) : ∀ (w : List Nat) (x s : Nat), pths t x (w ++ [s]) = pths t x w ++ [stepT t (wk t x w) s]
  | [], x, s => rfl
  | a :: r, x, s => by
    show x :: pths t (stepT t x a) (r ++ [s]) = x :: (pths t (stepT t x a) r ++ _)
    rw [pths_snoc t r (stepT t x a) s]
    rfl
theorem pths_len (t : List Rw) : ∀ (w : List Nat) (x : Nat), (pths t x w).length = w.length + 1
  | [], x => rfl
  | a :: r, x => by show (pths t (stepT t x a) r).length + 1 = _; rw [pths_len t r]; rfl
theorem pths_last (t : List Rw) (x : Nat) (w : List Nat) : (pths t x w).getLast? = some (wk t x w) := by
  rcases List.eq_nil_or_concat w with rfl | ⟨r, s, rfl⟩
  · rfl
  · rw [List.concat_eq_append, pths_snoc, List.getLast?_concat, wk_snoc]
theorem decd_append (t : List Rw) : ∀ (w v : List Nat) (x : Nat), decd t x (w ++ v) = (decd t x w || decd t (wk t x w) v)
  | [], v, x => by show decd t x v = (false || decd t x v); rw [Bool.false_or]
  | a :: r, v, x => by
    show (if isGo t x then decd t (stepT t x a) (r ++ v) else true) = ((if isGo t x then decd t (stepT t x a) r else true) || decd t (wk t (stepT t x a) r) v)
    cases isGo t x with
    | true => exact decd_append t r v (stepT t x a)
    | false => rfl
theorem step_lt {s many : Nat} {t : List Rw} (T : Tb s many t) {x y : Nat} (h : x < t.length) : stepT t x y < t.length := by
  unfold stepT
  cases e : t[x]? with
  | none => exact h
  | some r =>
    cases r with
    | fin o => exact h
    | go l =>
      show l.getD y 0 < t.length
      rw [List.getD_eq_getElem?_getD]
      cases hy : l[y]? with
      | none => exact T.n1
      | some z => exact (T.go x l e).2 z (List.mem_of_getElem? hy)
theorem wk_lt {s many : Nat} {t : List Rw} (T : Tb s many t) : ∀ {w : List Nat} {x : Nat}, x < t.length → wk t x w < t.length
  | [], _, h => h
  | _ :: r, _, h => wk_lt T (w := r) (step_lt T h)
theorem row_at {t : List Rw} {x : Nat} (h : x < t.length) : ∃ r, t[x]? = some r := ⟨t[x], List.getElem?_eq_getElem h⟩
theorem isGo_eq {t : List Rw} {x : Nat} {r : Rw} (h : t[x]? = some r) : isGo t x = isTup (rwD r) := by
  unfold isGo
  rw [h]
  cases r <;> rfl
theorem nD_last {l : List Nat} {x : Nat} (h : l.getLast? = some x) : (nD l).getLast? = some (.int (x : Int)) := by unfold nD; rw [List.getLast?_map, h]; rfl
theorem nD_app (a b : List Nat) : nD a ++ nD b = nD (a ++ b) := by unfold nD; rw [List.map_append]
theorem Stt.perm {K : PySem.W.Frag} {H0 H : Hp} {G : Ga} {L L' : Hl} {σ : L2.St} (h : Stt K H0 G L σ H) (p : L.Perm L') : Stt K H0 G L' σ H :=
  ⟨⟨h.hs.ext, fun q hq => h.hs.own q (p.mem_iff.mpr hq), (p.map _).nodup_iff.mp h.hs.nd, fun q hq => h.hs.new q (p.mem_iff.mpr hq)⟩, h.vr⟩
theorem go_perm {K : PySem.W.Frag} {H0 : Hp} {G : Ga} {L L' : Hl} {ts : TS} {p : Po} (q : L.Perm L') (h : Go K H0 G L' ts p) : Go K H0 G L ts p := fun T σ H E t st s => h T σ H E t (st.perm q) s
theorem cut_last (ds : List D) (x : D) : cutD (ds ++ [x]) none (some (-1)) = ds := by
  have e : HT.sIx (ds ++ [x]).length (ds ++ [x]).length (some (-1)) = ds.length := by
    rw [List.length_append, List.length_singleton]
    show (if (-1 : Int) < 0 then ((-1 : Int) + ((ds.length + 1 : Nat) : Int)).toNat else min (-1 : Int).toNat (ds.length + 1)) = ds.length
    rw [if_pos (by decide)]
    omega
  unfold cutD
  rw [e]
  show ((ds ++ [x]).drop 0).take (ds.length - 0) = ds
  rw [List.drop_zero, Nat.sub_zero, List.take_left]
theorem eqv_nil (w : List Nat) : PyData.eqv (.tuple (w.map fun (x : Nat) => PyData.int (x : Int))) (.tuple []) = decide (w = []) := by
  cases w with
  | nil => simp [PyData.eqv, PyData.eqvAll]
  | cons a r => simp [PyData.eqv, PyData.eqvAll]
theorem shaped_ints (w : List Nat) : SeqAt.shaped (.tuple (w.map fun (x : Nat) => PyData.int (x : Int))) = true := by
  have h1 : PyData.canLayAll0 (w.map fun (x : Nat) => PyData.int (x : Int)) = true := by
    induction w with
    | nil => rfl
    | cons a r ih => simp [PyData.canLayAll0, PyData.canLay0, ih]
  have h2 : PyData.depthAll (w.map fun (x : Nat) => PyData.int (x : Int)) ≤ 60 := by
    induction w with
    | nil => simp [PyData.depthAll]
    | cons a r ih => simp [PyData.depthAll, PyData.depth, ih (by simpa [PyData.canLayAll0, PyData.canLay0] using h1)]
  unfold SeqAt.shaped
  rw [Bool.and_eq_true]
  exact ⟨by simpa [PyData.canLay0] using h1, by simp [PyData.depth]; omega⟩
theorem dp_ints {K : PySem.W.Frag} {H : Hp} : ∀ {w : List Nat} {vs : List V}, ImL K H vs (nD w) → DpAll K H vs (w.map fun (x : Nat) => PyData.int (x : Int))
  | [], _, .nil => .nil
  | _ :: _, _, .cons r t => by cases r; exact .cons (.int _) (dp_ints t)
theorem rv_eqE {K : PySem.W.Frag} {H0 : Hp} {L : Hl} (w : List Nat) : RvP K H0 L (rEqD K) (.tup (nD w)) (.tup []) (.bl (decide (w = []))) := fun H u v s h1 h2 Q q => by
  cases h1 with
  | tup a1 i1 =>
    cases h2 with
    | tup a2 i2 =>
      cases i2
      refine ⟨_, .tuple [], .tup a1 (dp_ints i1), .tup a2 .nil, shaped_ints w, shaped_ints [], ?_⟩
      rw [eqv_nil]
      exact q _ H (Same.refl H) (.bl _)
theorem rv_neE {K : PySem.W.Frag} {H0 : Hp} {L : Hl} (w : List Nat) : RvP K H0 L (rNeD K) (.tup (nD w)) (.tup []) (.bl (!decide (w = []))) := fun H u v s h1 h2 Q q => by
  cases h1 with
  | tup a1 i1 =>
    cases h2 with
    | tup a2 i2 =>
      cases i2
      refine ⟨_, .tuple [], .tup a1 (dp_ints i1), .tup a2 .nil, shaped_ints w, shaped_ints [], ?_⟩
      rw [eqv_nil]
      exact q _ H (Same.refl H) (.bl _)
def isNon : D → Bool | .non => true | _ => false
theorem im_non {K : PySem.W.Frag} {H : Hp} {v : V} {d : D} (i : Im K H v d) : decide (v = .non) = isNon d := by
  cases i <;> first | exact decide_eq_true rfl | exact decide_eq_false (fun h => nomatch h)
theorem ev_isN {K : PySem.W.Frag} {H0 : Hp} {G : Ga} {L : Hl} {te : TE} {d : D} (h : EvP K H0 G L te d) : EvP K H0 G L (tIsN te) (.bl (isNon d)) := fun σ H st Q q => h σ H st _ fun v H' e i => by
  rw [im_non i]
  exact q _ H' e (.bl _)
theorem ev_notN {K : PySem.W.Frag} {H0 : Hp} {G : Ga} {L : Hl} {te : TE} {d : D} (h : EvP K H0 G L te d) : EvP K H0 G L (tNotN te) (.bl (!isNon d)) := fun σ H st Q q => h σ H st _ fun v H' e i => by
  rw [im_non i]
  exact q _ H' e (.bl _)
/-! ## the objects -/
abbrev chF (s m : Nat) (t : List Rw) (ans : Addr) : List (Str × D) := [("side_count", .int (s : Int)), ("outcome_count", .int (m : Int)), ("rows", tbD t), ("answers", .ref ans)]
abbrev fzF (s : Nat) (t : List Rw) (ans : Addr) : List (Str × D) := [("side_count", .int (s : Int)), ("rows", tbD t), ("answers", .ref ans)]
abbrev hdF (t : List Rw) (fz : Addr) (w : List Nat) : List (Str × D) := [("course", .ref fz), ("line", .tup (nD w)), ("path", .tup (nD (pths t 0 w)))]
/-- the chances behind state i -/
def chs (s m : Nat) (t : List Rw) (i : Nat) : D := .tup (cutD (kn t.length m (Xf t.length (tabM s m t) i)) none (some (-1)))
structure ClsA (K : PySem.W.Frag) (C : Addr) (fs : List Str) : Prop where
  cls : Cls K C
  no : ∀ f ∈ fs, NoAttr K C f
/-- the classes -/
structure Kl (K : PySem.W.Frag) (CC CF CH : Addr) : Prop where
  ch : ClsA K CC ["side_count", "outcome_count", "rows", "answers"]
  fz : ClsA K CF ["side_count", "rows", "answers"]
  hd : ClsA K CH ["course", "line", "path"]
end Fc

namespace Fc
open PySem PySem.Spec PyProof.Rows L2
/-! ## == of data made of ints, None and tuples -/
mutual
def pd : D → PyData
  | .non => .none
  | .bl b => .bool b
  | .int i => .int i
  | .str x => .str x
  | .tup ds => .tuple (pdl ds)
  | .ref _ => .none
  | .ty _ => .none
  | .tupN _ => .none
def pdl : List D → List PyData
  | [] => []
  | d :: ds => pd d :: pdl ds
end
mutual
def pok : Nat → D → Bool
  | _, .non => true
  | _, .int _ => true
  | n + 1, .tup ds => pokl n ds
  | _, _ => false
def pokl : Nat → List D → Bool
  | _, [] => true
  | n, d :: ds => pok n d && pokl n ds
end
theorem pokl_mem {n : Nat} : ∀ {ds : List D}, (∀ d ∈ ds, pok n d = true) → pokl n ds = true
  | [], _ => by rw [pokl]
  | d :: ds, h => by rw [pokl, h d List.mem_cons_self, pokl_mem fun x hx => h x (List.mem_cons_of_mem _ hx)]; rfl
theorem pok_tup {n : Nat} {ds : List D} (h : ∀ d ∈ ds, pok n d = true) : pok (n + 1) (.tup ds) = true := by rw [pok]; exact pokl_mem h
mutual
theorem pok_lay : ∀ (d : D) (n : Nat), pok n d = true → (pd d).canLay0 = true ∧ (pd d).depth ≤ n + 1
  | .non, n, _ => by simp [pd, PyData.canLay0, PyData.depth]
  | .int i, n, _ => by simp [pd, PyData.canLay0, PyData.depth]
  | .tup ds, 0, h => by simp [pok] at h
  | .tup ds, n + 1, h => by
    rw [pok] at h
    have := pokl_lay ds n h
    simp only [pd, PyData.canLay0, PyData.depth]
    exact ⟨this.1, by omega⟩
  | .bl b, n, h => by cases n <;> simp [pok] at h
  | .str b, n, h => by cases n <;> simp [pok] at h
  | .ref b, n, h => by cases n <;> simp [pok] at h
  | .ty b, n, h => by cases n <;> simp [pok] at h
  | .tupN b, n, h => by cases n <;> simp [pok] at h
theorem pokl_lay : ∀ (ds : List D) (n : Nat), pokl n ds = true → PyData.canLayAll0 (pdl ds) = true ∧ PyData.depthAll (pdl ds) ≤ n + 1
  | [], n, _ => by simp [pdl, PyData.canLayAll0, PyData.depthAll]
  | d :: ds, n, h => by
    rw [pokl, Bool.and_eq_true] at h
    have h1 := pok_lay d n h.1
    have h2 := pokl_lay ds n h.2
    simp only [pdl, PyData.canLayAll0, PyData.depthAll, Bool.and_eq_true]
    exact ⟨⟨h1.1, h2.1⟩, by omega⟩
end
mutual
theorem eqv_pd : ∀ (x y : D) (n m : Nat), pok n x = true → pok m y = true → (PyData.eqv (pd x) (pd y) = true ↔ x = y)
  | .non, y, n, m, _, hy => by cases y <;> cases m <;> simp [pd, PyData.eqv, pok] at hy ⊢
  | .int i, y, n, m, _, hy => by cases y <;> cases m <;> simp [pd, PyData.eqv, pok] at hy ⊢
  | .tup ds, y, 0, m, hx, _ => by simp [pok] at hx
  | .tup ds, y, n + 1, m, hx, hy => by
    cases y with
    | tup es =>
      cases m with
      | zero => simp [pok] at hy
      | succ m =>
        rw [pok] at hx hy
        have := eqvl_pd ds es n m hx hy
        simp only [pd, PyData.eqv]
        rw [this]
        exact ⟨fun h => by rw [h], fun h => D.tup.inj h⟩
    | _ => cases m <;> simp [pd, PyData.eqv, pok] at hy ⊢
  | .bl b, _, n, _, h, _ => by cases n <;> simp [pok] at h
  | .str b, _, n, _, h, _ => by cases n <;> simp [pok] at h
  | .ref b, _, n, _, h, _ => by cases n <;> simp [pok] at h
  | .ty b, _, n, _, h, _ => by cases n <;> simp [pok] at h
  | .tupN b, _, n, _, h, _ => by cases n <;> simp [pok] at h
theorem eqvl_pd : ∀ (xs ys : List D) (n m : Nat), pokl n xs = true → pokl m ys = true → (PyData.eqvAll (pdl xs) (pdl ys) = true ↔ xs = ys)
  | [], ys, n, m, _, _ => by cases ys <;> simp [pdl, PyData.eqvAll]
  | x :: xs, [], n, m, _, _ => by simp [pdl, PyData.eqvAll]
  | x :: xs, y :: ys, n, m, hx, hy => by
    rw [pokl, Bool.and_eq_true] at hx hy
    have h1 := eqv_pd x y n m hx.1 hy.1
    have h2 := eqvl_pd xs ys n m hx.2 hy.2
    simp only [pdl, PyData.eqvAll, Bool.and_eq_true]
    rw [h1, h2]
    exact ⟨fun h => by rw [h.1, h.2], fun h => ⟨(List.cons.inj h).1, (List.cons.inj h).2⟩⟩
end
mutual
theorem dp_of {K : PySem.W.Frag} {H : Hp} : ∀ (d : D) (v : V) (n : Nat), pok n d = true → Im K H v d → Dp K H v (pd d)
  | .non, _, n, _, i => by cases i; exact .non
  | .int z, _, n, _, i => by cases i; exact .int z
  | .tup ds, _, 0, h, _ => by simp [pok] at h
  | .tup ds, _, n + 1, h, i => by
    rw [pok] at h
    cases i with
    | tup hq il => rw [pd]; exact .tup hq (dpl_of ds _ n h il)
  | .bl b, _, n, h, _ => by cases n <;> simp [pok] at h
  | .str b, _, n, h, _ => by cases n <;> simp [pok] at h
  | .ref b, _, n, h, _ => by cases n <;> simp [pok] at h
  | .ty b, _, n, h, _ => by cases n <;> simp [pok] at h
  | .tupN b, _, n, h, _ => by cases n <;> simp [pok] at h
theorem dpl_of {K : PySem.W.Frag} {H : Hp} : ∀ (ds : List D) (vs : List V) (n : Nat), pokl n ds = true → ImL K H vs ds → DpAll K H vs (pdl ds)
  | [], _, n, _, i => by cases i; rw [pdl]; exact .nil
  | d :: ds, _, n, h, i => by
    rw [pokl, Bool.and_eq_true] at h
    cases i with
    | cons i1 i2 => rw [pdl]; exact .cons (dp_of d _ n h.1 i1) (dpl_of ds _ n h.2 i2)
end
theorem pok_sh {n : Nat} {d : D} (h : pok n d = true) (hn : n ≤ 60) : SeqAt.shaped (pd d) = true := by
  have := pok_lay d n h
  unfold SeqAt.shaped
  rw [Bool.and_eq_true]
  exact ⟨this.1, decide_eq_true (by omega)⟩
section
variable {K : PySem.W.Frag} {H0 : Hp} {L : Hl} {x y : D} {n m : Nat} {b : Bool}
theorem bool_of {b c : Bool} {p : Prop} (h : b = true ↔ p) (h' : c = true ↔ p) : b = c := by
  cases b <;> cases c <;> simp_all
theorem rv_eqD (hx : pok n x = true) (hy : pok m y = true) (hn : n ≤ 60) (hm : m ≤ 60) (hb : b = true ↔ x = y) : RvP K H0 L (rEqD K) x y (.bl b) := fun H u v s h1 h2 Q q => by
  refine ⟨_, _, dp_of x u n hx h1, dp_of y v m hy h2, pok_sh hx hn, pok_sh hy hm, ?_⟩
  rw [bool_of (eqv_pd x y n m hx hy) hb]
  exact q _ H (Same.refl H) (.bl _)
theorem rv_neD (hx : pok n x = true) (hy : pok m y = true) (hn : n ≤ 60) (hm : m ≤ 60) (hb : b = true ↔ x = y) : RvP K H0 L (rNeD K) x y (.bl (!b)) := fun H u v s h1 h2 Q q => by
  refine ⟨_, _, dp_of x u n hx h1, dp_of y v m hy h2, pok_sh hx hn, pok_sh hy hm, ?_⟩
  rw [bool_of (eqv_pd x y n m hx hy) hb]
  exact q _ H (Same.refl H) (.bl _)
end
end Fc

namespace Fc
open PySem PySem.Spec PyProof.Rows L2
section
variable {K : PySem.W.Frag} {H0 H H' : Hp} {G G' : Ga} {L L' N : Hl} {σ : L2.St} {te ta tb tc : TE} {d x y z : D} {ds xs ys : List D} {P R : D → Hl → Prop} {a : Addr} {us : List V}
/-- tuple(..) of a new list of which something is known -/
theorem en_tupN2 {P : List D → Prop} (ha : EvN K H0 G L te R) (h : ∀ d N, R d N → ∃ a ds, d = .ref a ∧ N = [(a, O.lst ds)] ∧ P ds) : EvN K H0 G L (tCB (rTupOf K) (tCons te tNil)) (fun d N => ∃ ds, d = .tup ds ∧ N = [] ∧ P ds) := fun σ H st Q q =>
  ha σ H st _ fun v H1 d N m e1 hf hn ho i1 => by
    obtain ⟨a, ds, rfl, rfl, hp⟩ := h d N m
    exact rc_tupL (K := K) (H0 := H0) (L := (a, O.lst ds) :: L) (.inl List.mem_cons_self) H1 [v] (st.add e1 hf hn ho).hs (.cons i1 .nil) _ fun w H2 e2 i2 => q w H2 _ [] ⟨ds, rfl, rfl, hp⟩ (e1.trans e2) (fun _ z => nomatch z) .nil Hs.nil i2
/-- a tuple, of which something is known, walked -/
theorem ei_tupN {P : List D → Prop} (h : EvN K H0 G L te R) (hR : ∀ d N, R d N → ∃ ds, d = .tup ds ∧ N = [] ∧ P ds) : EvI K H0 G L (iTup K te) (fun ds W N => P ds ∧ W = (fun _ => True) ∧ N = []) := fun σ H st R q => h σ H st _ fun v H' d N m e hf hn ho i => by
  obtain ⟨ds, rfl, rfl, hp⟩ := hR d N m
  cases i with
  | @tup a xs _ hx il =>
    refine ⟨a, rfl, ⟨xs, hx⟩, q _ H' ds _ [] ⟨hp, rfl, rfl⟩ e (fun _ z => nomatch z) .nil Hs.nil ⟨fun i L H t s w hi => ?_, fun L H t s w => ?_, fun i L H x H' t s w hi y => ?_⟩⟩
    · have : i < xs.length := by rw [il.length]; exact hi
      exact ⟨xs, xs[i], SqT.tx t hx, List.getElem?_eq_getElem this⟩
    · exact ⟨xs, SqT.tx t hx, by rw [il.length]; exact Nat.le_refl _⟩
    · obtain ⟨rfl, y⟩ := y
      obtain ⟨d, hd, im⟩ := (il.tx t).get (y xs (SqT.tx t hx))
      exact ⟨Same.refl _, d, hd, im⟩
/-- a tuple without a dict is a tuple -/
theorem TpN.sq (h : ∃ od : Obj, H a = some (.frz od (.tup us)) ∧ od.dict = none) : SqT K H a us := let ⟨od, e, _⟩ := h; .inl (.inr ⟨od, e⟩)
theorem EvP.tN (h : EvP K H0 G L te (.tupN ds)) : EvP K H0 G L te (.tup ds) := fun σ H st Q q => h σ H st Q fun v H' e i => by
  cases i with
  | tupN a b => exact q _ H' e (.tup (TpN.sq a) b)
/-- tuple(l), what is made has no dict -/
def rTupN (K : PySem.W.Frag) : List V → Hp → VK → Prop := fun xs H Q => ∃ p ys, xs = [.ref p] ∧ SqL K H p ys ∧ ∀ (l : Addr) (od : Obj), H l = none → od.dict = none → Q (.ref l) (upd H l (.frz od (.tup ys)))
theorem call_tupN {X : Cx} : CallR X (.type "tuple") (rTupN X.K) := by
  intro pins s σ H xs us Q I r ⟨p, ys, e, hq, q⟩
  subst e
  obtain ⟨u, rfl, rx⟩ := vals1 r
  cases rx
  obtain ⟨its, r', pl, hz⟩ := I.list hq
  have hlen := r'.length
  refine call_tuple_list pl.isList (fun h' kp => ?_) (by simp only [List.size_toArray] <;> omega)
  have I1 : Inv X pins σ H { s with heap := h' } := I.kept (t' := s.toks) kp
  have nw : (h'.push { cls := .type "tuple", data := .seq its.toArray }).get? h'.objs.size = some { cls := .type "tuple", data := .seq its.toArray } := Heap.get?_push_size _ rfl
  exact ⟨.ref h'.objs.size, _, I1.laid (t' := s.toks) (o := .frz { cls := .type "tuple", data := .seq its.toArray } (.tup ys)) (fun b o e => Heap.get?_push_of_some _ e) (Nat.le_refl _) ⟨nw, hz, its, r', IsTup.new _ _⟩, rfl, q _ _ (I1.hok.fresh (Nat.le_refl _)) rfl⟩
theorem pe_tupleN {X : Cx} {mg : Str → Option Value} {e : Expr} {es : List Expr} {t : TA} {p pos : Pos} (hK : X.K = K) (hM : X.mg = mg) (B : Bl mg) (hg : Gl X "tuple") (ha : PA X (e :: es) t) (he : starEach (e :: es) X.env = (false, eval e X.env) :: starEach es X.env := by rfl) (hpl : (backTo pos (starEach es X.env)).any (·.1) = false := by rfl) : PE X (.Call (.Name "tuple" p) (e :: es) [] pos) (tCB (rTupN K) t) := by
  subst hK hM
  exact pe_callTy (r := rTupN X.K) call_tupN hg B.tuple b_tuple ha (he := he) (hpl := hpl)
theorem ev_tupNN (ha : EvN K H0 G L te (New1 (.lst ds))) : EvP K H0 G L (tCB (rTupN K) (tCons te tNil)) (.tupN ds) := ev_cbN ha fun a H us s i Q q => by
  cases i with
  | cons i1 i =>
    cases i
    cases i1
    obtain ⟨xs, hx, il⟩ := (show Lk K H0 ((a, O.lst ds) :: L) a (.lst ds) from .inl List.mem_cons_self).rdo s
    exact ⟨_, _, rfl, hx, fun l od hl hd => q _ _ (Same.new hl) (.tupN ⟨od, upd_same, hd⟩ (il.tx (Same.tx (Same.new hl))))⟩
end
end Fc

namespace Fc
open PySem PySem.Spec PyProof.Rows L2
section
variable {K : PySem.W.Frag} {H0 H H' : Hp} {G G' : Ga} {L L' N : Hl} {σ : L2.St} {te ta tb tc td ty tv : TE} {ts us vs : TS} {d x y z : D} {ds es xs ys : List D} {p : Po} {P R : D → Hl → Prop} {b : Bool} {n m : Nat}
/-! ### l.extend(e), e a new list -/
theorem em_extend {a : Addr} {k : Nat} {Pf : List D → Prop} (hk : L[k]? = some (a, .lst xs)) (ha : EvP K H0 G L ta (.ref a)) (h : EvN K H0 G L te R) (hR : ∀ d N, R d N → ∃ b ys, d = .ref b ∧ N = [(b, O.lst ys)] ∧ Pf ys ∧ xs.length + ys.length ≤ 100000) :
    EvM K H0 G L (tBM K "list" rExtend ta (tCons te tNil)) (fun r L' => r = .non ∧ ∃ ys, Pf ys ∧ L' = L.set k (a, .lst (xs ++ ys))) := fun σ H st Q q =>
  ha σ H st _ fun v H1 e1 i1 => by
    cases i1
    have hm := List.mem_of_getElem? hk
    obtain ⟨us, hx, _⟩ := (st.same e1).hs.lst hm
    refine ⟨.inl ⟨rfl, us, SqL.of hx⟩, h σ H1 (st.same e1) _ fun w H2 d N m e2 hf hn ho i2 => ?_⟩
    obtain ⟨c, ys, rfl, rfl, hp, hz⟩ := hR d N m
    cases i2
    have s2 := (st.same e1).add e2 hf hn ho
    have hk2 : ([(c, O.lst ys)] ++ L)[k + 1]? = some (a, .lst xs) := by rw [List.singleton_append, List.getElem?_cons_succ]; exact hk
    obtain ⟨vs, hx2, il⟩ := s2.hs.lst (List.mem_of_getElem? hk2)
    obtain ⟨ws, hw, jl⟩ := s2.hs.lst (show (c, O.lst ys) ∈ [(c, O.lst ys)] ++ L from List.mem_cons_self)
    refine ⟨a, c, vs, ws, rfl, rfl, hx2, hw, by rw [il.length, jl.length]; exact Nat.le_trans hz (by decide), ?_⟩
    have pu := s2.hs.put (u' := .lst (vs ++ ws)) (o' := .lst (xs ++ ys)) hk2 (il.append jl)
    have ps := s2.put (u' := .lst (vs ++ ws)) (o' := .lst (xs ++ ys)) hk2 (il.append jl)
    rw [List.singleton_append, List.set_cons_succ] at ps
    exact q .non _ .non _ ⟨rfl, ys, hp, rfl⟩ (((Same.tx e1).trans (Same.tx e2)).trans pu.2) ps.tl .non
theorem gq_extend {a : Addr} {k : Nat} {Pf : List D → Prop} (hk : L[k]? = some (a, .lst xs)) (ha : EvP K H0 G L ta (.ref a)) (h : EvN K H0 G L te R) (hR : ∀ d N, R d N → ∃ b ys, d = .ref b ∧ N = [(b, O.lst ys)] ∧ Pf ys ∧ xs.length + ys.length ≤ 100000)
    (hn : ∀ ys, Pf ys → Go K H0 G (L.set k (a, .lst (xs ++ ys))) us p) : Go K H0 G L (tSeq (tDrop (tBM K "list" rExtend ta (tCons te tNil))) us) p :=
  gq_dropM (em_extend hk ha h hR) fun _ _ e => by obtain ⟨_, ys, hp, rfl⟩ := e; exact hn ys hp
/-! ### l[i] += e -/
def rGetN (K : PySem.W.Frag) : V → V → Hp → VK → Prop := fun o i H Q => ∃ (a : Addr) (xs : List V) (j : Nat) (v : V), o = .ref a ∧ i = .int (j : Int) ∧ SqL K H a xs ∧ xs[j]? = some v ∧ Q v H
theorem pget_l {X : Cx} {K : PySem.W.Frag} (hK : X.K = K) : PGet X (rGetN K) := by
  subst hK
  intro pins s σ H o i ov iv Q I ro ri h
  obtain ⟨a, xs, j, v, rfl, rfl, hq, hj, q⟩ := h
  cases ro
  obtain ⟨t, rfl⟩ := ri
  obtain ⟨its, r, pl, hz⟩ := I.list hq
  obtain ⟨w, ew, rw'⟩ := r.get hj
  have hlt : j < its.length := (List.getElem?_eq_some_iff.mp ew).1
  have h63 := line63
  have hsz := sizeLine_eq
  have hl := r.length
  exact wpAny_getItem_list pl.isList (by omega) (by omega) (x := w) (by rw [Int.toNat_natCast]; simpa using ew) ⟨v, H, I, rw', q⟩
theorem go_augS {a : Addr} {k j : Nat} {f : Int → Int → Int} {c e : Int} (hk : L[k]? = some (a, .lst ds)) (ho : EvP K H0 G L ta (.ref a)) (hi : EvP K H0 G L tb (.int (j : Int))) (hj : ds[j]? = some (.int c)) (he : EvP K H0 G L te (.int e))
    (hn : p.nx G (L.set k (a, .lst (ds.set j (.int (f c e)))))) : Go K H0 G L (tAugS ta tb te (rGetN K) (ipI f) rSetL) p := fun T σ H E t st s =>
  ho σ H st _ fun v H1 e1 i1 => hi σ H1 (st.same e1) _ fun w H2 e2 i2 => by
    cases i1; cases i2
    have hm := List.mem_of_getElem? hk
    have s2 := (st.same e1).same e2
    obtain ⟨xs, hx, il⟩ := s2.hs.lst hm
    obtain ⟨u, hu, iu⟩ := il.getD hj
    cases iu
    refine ⟨a, xs, j, .int c, rfl, rfl, SqL.of hx, hu, he σ H2 s2 _ fun y H3 e3 i3 => ?_⟩
    cases i3
    refine ⟨c, e, rfl, rfl, ?_⟩
    have s3 := s2.same e3
    obtain ⟨ys, hy, jl⟩ := s3.hs.lst hm
    have hjl : j < ys.length := by rw [jl.length]; exact (List.getElem?_eq_some_iff.mp hj).1
    refine ⟨a, ys, (j : Int), j, rfl, rfl, hy, ixN_of hjl, ?_⟩
    have obj := ImL.set (Im.int (K := K) (H := H3) (f c e)) j jl
    exact s.nx _ _ _ _ hn ((((t.trans (Same.tx e1)).trans (Same.tx e2)).trans (Same.tx e3)).trans (s3.hs.put (u' := .lst _) (o' := .lst _) hk obj).2) (s3.put (u' := .lst _) (o' := .lst _) hk obj)
theorem gq_augS {a : Addr} {k j : Nat} {f : Int → Int → Int} {c e : Int} (hk : L[k]? = some (a, .lst ds)) (ho : EvP K H0 G L ta (.ref a)) (hi : EvP K H0 G L tb (.int (j : Int))) (hj : ds[j]? = some (.int c)) (he : EvP K H0 G L te (.int e))
    (hn : Go K H0 G (L.set k (a, .lst (ds.set j (.int (f c e))))) us p) : Go K H0 G L (tSeq (tAugS ta tb te (rGetN K) (ipI f) rSetL) us) p :=
  go_seq (fun G' L' => G' = G ∧ L' = L.set k (a, .lst (ds.set j (.int (f c e))))) (go_augS hk ho hi hj he ⟨rfl, rfl⟩) fun G' L' h => by obtain ⟨rfl, rfl⟩ := h; exact hn
/-! ### d[k], a dict with int keys -/
theorem ev_dget {a : Addr} {ks : List (Key × D)} {i : Int} (hd : EvP K H0 G L td (.ref a)) (hk : Lk K H0 L a (.dct ks)) (hy : EvP K H0 G L ty (.int i)) (ho : valD ks (.inl i) = some z) : EvP K H0 G L (tDGet td ty) z := fun σ H st Q q => hd σ H st _ fun v H1 e1 i1 => by
  cases i1
  refine hy σ H1 (st.same e1) _ fun w H2 e2 i2 => ?_
  cases i2
  obtain ⟨kv, hkv, hp⟩ := hk.rdo ((st.same e1).same e2).hs
  rcases pr_val (k := .inl i) hp with ⟨n1, n2⟩ | ⟨v, d', n1, n2, im⟩
  · rw [n2] at ho; cases ho
  · rw [n2] at ho; cases ho
    exact ⟨a, v, rfl, .inl ⟨kv, .inl i, .inl hkv, rfl, n1.symm⟩, q v H2 (e1.trans e2) im⟩
/-! ### list(range(a, b)), list(d) -/
theorem rgV_D {a b : Int} : ImL K H (rgV a b) (rngD a (b - a).toNat) := by
  have e : rgV a b = ((List.range (b - a).toNat).map fun i : Nat => (a + (i : Int))).map V.int := by unfold rgV; rw [List.map_map]; rfl
  have e2 : rngD a (b - a).toNat = ((List.range (b - a).toNat).map fun i : Nat => (a + (i : Int))).map D.int := by unfold rngD; rw [List.map_map]; rfl
  rw [e, e2]
  exact ImL.of_ints _
theorem en_lrng2 {i j : Int} (ha : EvP K H0 G L ta (.int i)) (hb : EvP K H0 G L tb (.int j)) (h0 : 0 ≤ i) (h1 : i ≤ 100000) (h2 : 0 ≤ j) (h3 : j ≤ 100000) : EvN K H0 G L (tLstRg (tRg2 ta tb)) (New1 (.lst (rngD i (j - i).toNat))) := fun σ H st Q q =>
  ha σ H st _ fun v H1 e1 i1 => hb σ H1 (st.same e1) _ fun w H2 e2 i2 => by
    cases i1; cases i2
    refine ⟨i, j, rfl, rfl, RgOk.of_le h0 (by omega) (by omega) h2, fun c hc => ?_⟩
    obtain ⟨a1, a2, a3, a4⟩ := new1 (K := K) (u := .lst (rgV i j)) (o := .lst (rngD i (j - i).toNat)) hc rgV_D
    exact q _ _ (.ref c) [(c, .lst _)] ⟨c, rfl, rfl⟩ ((e1.trans e2).trans a1) (fun z hz => (e1.trans e2).free (a2 z hz)) a3 a4 (.ref c)
theorem en_lrng1 {j : Int} (hb : EvP K H0 G L tb (.int j)) (h2 : 0 ≤ j) (h3 : j ≤ 100000) : EvN K H0 G L (tLstRg (tRg1 tb)) (New1 (.lst (rngD 0 j.toNat))) := fun σ H st Q q =>
  hb σ H st _ fun w H2 e2 i2 => by
    cases i2
    refine ⟨j, rfl, RgOk.of_le (by omega) (by omega) (by omega) h2, fun c hc => ?_⟩
    have im : ImL K H2 (rgV 0 j) (rngD 0 j.toNat) := by have := rgV_D (K := K) (H := H2) (a := 0) (b := j); rwa [Int.sub_zero] at this
    obtain ⟨a1, a2, a3, a4⟩ := new1 (K := K) (u := .lst (rgV 0 j)) (o := .lst (rngD 0 j.toNat)) hc im
    exact q _ _ (.ref c) [(c, .lst _)] ⟨c, rfl, rfl⟩ (e2.trans a1) (fun z hz => e2.free (a2 z hz)) a3 a4 (.ref c)
def rLstD : List V → Hp → VK → Prop := fun xs H Q => ∃ (a : Addr) (kvs : List (Key × V)), xs = [.ref a] ∧ Rd H a (.dK kvs) ∧ ∀ p, H p = none → Q (.ref p) (upd H p (.lst (kvs.map fun kv => kV kv.1)))
theorem im_keys : ∀ {l : List (Key × V)} {m : List (Key × D)}, Paired (PrI K H) l m → ImL K H (l.map fun kv => kV kv.1) (m.map fun kv => kD kv.1)
  | _, _, .nil => .nil
  | (k1, v) :: l, (k2, d2) :: m, .cons r t => by
    obtain ⟨r1, _⟩ := r
    have r1 : k1 = k2 := r1
    subst r1
    exact .cons (im_key k1) (im_keys t)
theorem rc_lstD {a : Addr} {ks : List (Key × D)} (hk : Lk K H0 L a (.dct ks)) : RcN K H0 L rLstD [.ref a] (New1 (.lst (ks.map fun kv => kD kv.1))) := fun H us s i Q q => by
  cases i with
  | cons i1 i =>
    cases i; cases i1
    obtain ⟨xs, hx, hp⟩ := hk.rdo s
    refine ⟨a, xs, rfl, .inl hx, fun p hpn => ?_⟩
    obtain ⟨a1, a2, a3, a4⟩ := new1 (K := K) (u := .lst (xs.map fun kv : Key × V => kV kv.1)) (o := .lst (ks.map fun kv : Key × D => kD kv.1)) hpn (im_keys hp)
    exact q _ _ (.ref p) [(p, .lst _)] ⟨p, rfl, rfl⟩ a1 a2 a3 a4 (.ref p)
def rLstOf (K : PySem.W.Frag) : List V → Hp → VK → Prop := fun xs H Q => ∃ p ys, xs = [.ref p] ∧ (SqL K H p ys ∨ SqT K H p ys) ∧ ∀ l, H l = none → Q (.ref l) (upd H l (.lst ys))
theorem rc_lstT : RcN K H0 L (rLstOf K) [.tup ds] (New1 (.lst ds)) := fun H us s i Q q => by
  cases i with
  | cons i1 i =>
    cases i
    cases i1 with
    | tup hq il =>
      refine ⟨_, _, rfl, .inr hq, fun p hpn => ?_⟩
      obtain ⟨a1, a2, a3, a4⟩ := new1 (K := K) (u := .lst _) (o := .lst ds) hpn il
      exact q _ _ (.ref p) [(p, .lst _)] ⟨p, rfl, rfl⟩ a1 a2 a3 a4 (.ref p)
/-! ### in, index of nested data -/
theorem pdl_map : ∀ ds : List D, pdl ds = ds.map pd
  | [] => by rw [pdl]; rfl
  | d :: ds => by rw [pdl, pdl_map ds]; rfl
theorem pokl_of : ∀ {ds : List D} {n : Nat}, pokl n ds = true → ∀ d ∈ ds, pok n d = true
  | [], _, _, _, h => nomatch h
  | d :: ds, n, h, x, hx => by
    rw [pokl, Bool.and_eq_true] at h
    rcases List.mem_cons.mp hx with rfl | hx
    · exact h.1
    · exact pokl_of h.2 x hx
theorem any_eqv {ds : List D} {n m : Nat} (hds : ∀ d ∈ ds, pok n d = true) (hx : pok m x = true) (hb : b = true ↔ x ∈ ds) : ((pdl ds).any fun z => PyData.eqv z (pd x)) = b := by
  refine bool_of (p := x ∈ ds) ?_ hb
  rw [pdl_map, List.any_map, List.any_eq_true]
  refine ⟨fun ⟨d, hd, e⟩ => ?_, fun h => ⟨x, h, (eqv_pd x x m m hx hx).mpr rfl⟩⟩
  rw [(eqv_pd d x n m (hds d hd) hx).mp e] at hd
  exact hd
theorem sh_list {ds : List D} {n : Nat} (hds : ∀ d ∈ ds, pok n d = true) (hn : n ≤ 60) : SeqAt.shaped (.list (pdl ds)) = true := by
  have := pokl_lay ds n (pokl_mem hds)
  unfold SeqAt.shaped
  rw [Bool.and_eq_true]
  refine ⟨by simpa [PyData.canLay0] using this.1, decide_eq_true ?_⟩
  simp only [PyData.depth]
  omega
theorem sh_tup {ds : List D} {n : Nat} (hds : ∀ d ∈ ds, pok n d = true) (hn : n ≤ 60) : SeqAt.shaped (.tuple (pdl ds)) = true := by
  have := pokl_lay ds n (pokl_mem hds)
  unfold SeqAt.shaped
  rw [Bool.and_eq_true]
  refine ⟨by simpa [PyData.canLay0] using this.1, decide_eq_true ?_⟩
  simp only [PyData.depth]
  omega
theorem rv_inLD {a : Addr} (hk : Lk K H0 L a (.lst ds)) (hds : ∀ d ∈ ds, pok n d = true) (hx : pok m x = true) (hn : n ≤ 60) (hm : m ≤ 60) (hb : b = true ↔ x ∈ ds) : RvP K H0 L (rInD K) x (.ref a) (.bl b) := fun H u v s h1 h2 Q q => by
  cases h2
  obtain ⟨vs, hq, il⟩ := hk.rdo s
  refine ⟨_, _, dp_of x u m hx h1, .lst hq (dpl_of ds vs n (pokl_mem hds) il), pok_sh hx hm, sh_list hds hn, ?_⟩
  rw [any_eqv hds hx hb]
  exact q _ H (Same.refl H) (.bl _)
theorem rv_niLD {a : Addr} (hk : Lk K H0 L a (.lst ds)) (hds : ∀ d ∈ ds, pok n d = true) (hx : pok m x = true) (hn : n ≤ 60) (hm : m ≤ 60) (hb : b = true ↔ x ∈ ds) : RvP K H0 L (rNotInD K) x (.ref a) (.bl (!b)) := fun H u v s h1 h2 Q q => by
  cases h2
  obtain ⟨vs, hq, il⟩ := hk.rdo s
  refine ⟨_, _, dp_of x u m hx h1, .lst hq (dpl_of ds vs n (pokl_mem hds) il), pok_sh hx hm, sh_list hds hn, ?_⟩
  rw [any_eqv hds hx hb]
  exact q _ H (Same.refl H) (.bl _)
def rInT (K : PySem.W.Frag) : R2 := fun x y H Q => ∃ d ds, Dp K H x d ∧ Dp K H y (.tuple ds) ∧ SeqAt.shaped d = true ∧ SeqAt.shaped (.tuple ds) = true ∧ Q (.bl (ds.any fun z => PyData.eqv z d)) H
theorem op_inT {X : Cx} {K : PySem.W.Frag} (hK : X.K = K) (hu : X.A.units + 65 < cLine) : OpR X (compareOp .In) (rInT K) := by
  subst hK
  intro pins s σ H x y v u Q I rx ry ⟨d, ds, hd, he, sd, se, q⟩
  obtain ⟨_, r1⟩ := Dp.reads I d x v hd rx
  obtain ⟨_, r2⟩ := Dp.reads I (.tuple ds) y u he ry
  have cl : PyData.canLayAll0 ds = true := by have := SeqAt.canLay_of_shaped se; simpa [PyData.canLay0] using this
  exact SeqAt.in_tuple_reads r2 r1 cl (SeqAt.canLay_of_shaped sd) (room_in_shaped sd hu) ⟨.bl _, H, I, rfl, q⟩
theorem op_inLD {X : Cx} {K : PySem.W.Frag} (hK : X.K = K) (hu : X.A.units + 65 < cLine) : OpR X (compareOp .In) (rInD K) := by subst hK; exact op_inD hu
theorem op_niLD {X : Cx} {K : PySem.W.Frag} (hK : X.K = K) (hu : X.A.units + 65 < cLine) : OpR X (compareOp .NotIn) (rNotInD K) := by subst hK; exact op_notInD hu
theorem rv_inT (hds : ∀ d ∈ ds, pok n d = true) (hx : pok m x = true) (hn : n ≤ 60) (hm : m ≤ 60) (hb : b = true ↔ x ∈ ds) : RvP K H0 L (rInT K) x (.tup ds) (.bl b) := fun H u v s h1 h2 Q q => by
  cases h2 with
  | tup hq il =>
    refine ⟨_, _, dp_of x u m hx h1, .tup hq (dpl_of ds _ n (pokl_mem hds) il), pok_sh hx hm, sh_tup hds hn, ?_⟩
    rw [any_eqv hds hx hb]
    exact q _ H (Same.refl H) (.bl _)
theorem ne_before {ds : List D} {j : Nat} (hf : ∀ i, i < j → ds[i]? ≠ some x) (hds : ∀ d ∈ ds, pok n d = true) (hx : pok m x = true) : ∀ (i : Nat) (z : PyData), i < j → (pdl ds)[i]? = some z → PyData.eqv z (pd x) = false := fun i z hi hz => by
  rw [pdl_map, List.getElem?_map] at hz
  cases e : ds[i]? with
  | none => rw [e] at hz; cases hz
  | some d =>
    rw [e] at hz
    cases hz
    cases q : PyData.eqv (pd d) (pd x) with
    | false => rfl
    | true =>
      have := (eqv_pd d x n m (hds d (List.mem_of_getElem? e)) hx).mp q
      rw [this] at e
      exact absurd e (hf i hi)
theorem pdl_get {ds : List D} {j : Nat} (h : ds[j]? = some x) : (pdl ds)[j]? = some (pd x) := by rw [pdl_map, List.getElem?_map, h]; rfl
/-- l.index(x), nested data -/
theorem ev_indexL {a : Addr} {j : Nat} (ho : EvP K H0 G L ta (.ref a)) (hk : Lk K H0 L a (.lst ds)) (he : EvP K H0 G L te x) (hj : ds[j]? = some x) (hf : ∀ i, i < j → ds[i]? ≠ some x) (hds : ∀ d ∈ ds, pok n d = true) (hx : pok m x = true) (hn : n ≤ 60) (hm : m ≤ 60) :
    EvP K H0 G L (tBM K "list" (rIndexD K) ta (tCons te tNil)) (.int (j : Int)) := fun σ H st Q q => ho σ H st _ fun v H1 e1 i1 => by
  cases i1
  obtain ⟨vs, hq, _⟩ := hk.rdo (st.same e1).hs
  refine ⟨.inl ⟨rfl, vs, hq⟩, he σ H1 (st.same e1) _ fun w H2 e2 i2 => ?_⟩
  obtain ⟨ws, hw, il⟩ := hk.rdo ((st.same e1).same e2).hs
  exact ⟨a, w, pd x, pdl ds, j, pd x, rfl, rfl, .lst hw (dpl_of ds ws n (pokl_mem hds) il), dp_of x w m hx i2, sh_list hds hn, pok_sh hx hm, pdl_get hj, (eqv_pd x x m m hx hx).mpr rfl, ne_before hf hds hx, q _ H2 (e1.trans e2) (.int _)⟩
def rIdxT (K : PySem.W.Frag) : V → List V → Hp → VK → Prop := fun x xs H Q => ∃ (a : Addr) (y : V) (d : PyData) (ds : List PyData) (j : Nat) (z : PyData), x = V.ref a ∧ xs = [y] ∧ Dp K H (V.ref a) (.tuple ds) ∧ Dp K H y d ∧
  SeqAt.shaped (.tuple ds) = true ∧ SeqAt.shaped d = true ∧ ds[j]? = some z ∧ PyData.eqv z d = true ∧ (∀ (m : Nat) (z' : PyData), m < j → ds[m]? = some z' → PyData.eqv z' d = false) ∧ Q (.int (j : Nat)) H
theorem mt_idxT {X : Cx} {K : PySem.W.Frag} (hK : X.K = K) (hu : X.A.units + 65 < cLine) : MtR X "tuple.index" (rIdxT K) := by
  subst hK
  intro pins s σ H x xs v us Q I rx rxs ⟨a, y, d, ds, j, z, e1, e2, hl, hy, sl, sd, hz, hzj, hno, q⟩
  subst e1 e2
  cases rx
  obtain ⟨uy, rfl, ry⟩ := vals1 rxs
  obtain ⟨bs, r1⟩ := Dp.reads I d y uy hy ry
  have cl : PyData.canLayAll0 ds = true := by have := SeqAt.canLay_of_shaped sl; simpa [PyData.canLay0] using this
  have room := room_in_shaped (xs := ds) sd hu
  cases hl with
  | tup hs ha =>
    obtain ⟨its, rv, ⟨⟨cls, dd, data, sls⟩, ho, hc, n, hd⟩, hlen⟩ := I.tuple hs
    have hc : cls = .type "tuple" := hc
    have hd : data = .seq its.toArray n := hd
    subst hc hd
    obtain ⟨as, h4⟩ := Dp.readsAll I ds _ its ha rv
    have hn2 : its.length = ds.length := SeqAt.ReadsAll.length ds its as h4
    have hmap : its.map (SeqAt.readOf s.heap) = ds := SeqAt.readsAll_map ds its as cl h4
    have rd : ∀ (i : Nat) (hi : i < its.toArray.size) (z' : PyData), ds[i]? = some z' → SeqAt.readOf s.heap its.toArray[i] = z' := fun i hi z' hz' => by
      have hil : i < its.length := by simpa using hi
      have e : (its.map (SeqAt.readOf s.heap))[i]? = some z' := by rw [hmap]; exact hz'
      rw [List.getElem?_map, List.getElem?_eq_getElem hil] at e
      have := Option.some.inj e
      simpa using this
    have hjs : j < its.toArray.size := by have := (List.getElem?_eq_some_iff.mp hz).1; rw [List.size_toArray]; omega
    refine call_meets PySem.F.slot_tuple_index ⟨_, ho, rfl⟩ PySem.F.entry_tuple_index (PySem.F.args_tuple_index_2 _ _) (TI.tuple_indexAt a its.toArray n dd sls uy (fun u => PyData.eqv (SeqAt.readOf s.heap u) d) j hjs ?_ fun i hi hij => ?_)
      ⟨ho, SeqAt.items_eqAt (vs := its.toArray) (show ReadsAll s.heap its.toArray.toList ds as from h4) r1 cl (SeqAt.canLay_of_shaped sd) room, .int (j : Nat), H, I.tok _, ⟨_, rfl⟩, q⟩
    · show PyData.eqv _ d = true
      rw [rd j hjs z hz]; exact hzj
    · have hid : i < ds.length := by rw [List.size_toArray] at hi; omega
      show PyData.eqv _ d = false
      rw [rd i hi _ (List.getElem?_eq_getElem hid)]
      exact hno i _ hij (List.getElem?_eq_getElem hid)
/-- o.m(..), o a tuple without a dict -/
def tTM (r : V → List V → Hp → VK → Prop) (to : TE) (t : TA) : TE := fun σ H Q => to σ H fun x H1 => (∃ a us, x = .ref a ∧ TpN H1 a us) ∧ t σ H1 fun xs H2 => r x xs H2 Q
theorem pe_tm {X : Cx} {o e : Expr} {es : List Expr} {to : TE} {t : TA} {name : Str} {apos cpos : Pos} {id : String} {r : V → List V → Hp → VK → Prop} (slot : Slot "tuple" name id) (hty : typeOf (.builtin id) = pure (.type "method_descriptor")) (hm : MtR X id r) (ho : PE X o to) (ha : PA X (e :: es) t)
    (hbase : attributeBase o name X.env (eval o X.env) = eval o X.env := by rfl)
    (few : ((backTo cpos (starEach (e :: es) X.env)).all (fun x => !x.1) && (backToKw cpos (keywordEach [] X.env)).all (fun x => x.1.isSome) && decide ((e :: es).length + ([] : List Keyword).length + (if ([] : List Keyword).isEmpty then 0 else 1) < 30)) = true := by rfl)
    (line : (apos.endLine == cpos.line) = true := by rfl) (hs : starEach (e :: es) X.env = (false, eval e X.env) :: starEach es X.env := by rfl) (plain : (backTo cpos (starEach es X.env)).any (·.1) = false := by rfl) :
    PE X (.Call (.Attribute o name apos) (e :: es) [] cpos) (tTM r to t) := by
  refine ⟨fun pins s σ H Q I h => wpAny_Call_method_late hbase few line rfl (thn (ho.run pins s σ H _ I h) fun v s1 ⟨x, H1, I1, r1, ⟨a, us, e1, od, hq, hd⟩, q1⟩ => ?_)⟩
  subst e1
  cases r1
  have hob : ObjOk X.prog X.w H1 s1.heap a (.frz od (.tup us)) := I1.hok a _ hq
  have hget : s1.heap.get? a = some od := hob.1
  obtain ⟨its, _, ⟨o', ho', hc', n', hd'⟩, _⟩ := I1.tuple (show SqT X.K H1 a us from .inl (.inr ⟨od, hq⟩))
  refine ⟨"tuple", id, PySem.F.plainAttrs_tuple, slot, hty, ⟨o', ho', hc'⟩, fun c e => ?_, ?_⟩
  · cases e
    exact ⟨od, hget, hd⟩
  · have args := ha.run cpos pins s1 σ H1 _ I1 q1
    rw [hs] at args ⊢
    refine Calls.callWith_builtin ?_ (Calls.evalArgs_plain (thn args fun us s2 ⟨vs, H2, I2, r2, q2⟩ => hm pins s2 σ H2 (.ref a) vs (.ref a) us Q I2 rfl r2 q2))
    show (false || (backTo cpos (starEach es X.env)).any (·.1)) = false
    rw [plain] <;> rfl
theorem ev_indexT {j : Nat} (ho : EvP K H0 G L ta (.tupN ds)) (he : EvP K H0 G L te x) (hj : ds[j]? = some x) (hf : ∀ i, i < j → ds[i]? ≠ some x) (hds : ∀ d ∈ ds, pok n d = true) (hx : pok m x = true) (hn : n ≤ 60) (hm : m ≤ 60) :
    EvP K H0 G L (tTM (rIdxT K) ta (tCons te tNil)) (.int (j : Int)) := fun σ H st Q q => ho σ H st _ fun v H1 e1 i1 => by
  cases i1 with
  | @tupN a vs _ hq il =>
    refine ⟨⟨a, vs, rfl, hq⟩, he σ H1 (st.same e1) _ fun w H2 e2 i2 => ?_⟩
    have t2 := Same.tx e2
    exact ⟨a, w, pd x, pdl ds, j, pd x, rfl, rfl, .tup (SqT.tx t2 (TpN.sq hq)) (dpl_of ds vs n (pokl_mem hds) (il.tx t2)), dp_of x w m hx i2, sh_tup hds hn, pok_sh hx hm, pdl_get hj, (eqv_pd x x m m hx hx).mpr rfl, ne_before hf hds hx, q _ H2 (e1.trans e2) (.int _)⟩
end
end Fc

namespace Fc
open PySem PySem.Spec PyProof.Rows L2
section
variable {K : PySem.W.Frag} {H0 H H' : Hp} {G G' : Ga} {L L' N : Hl} {σ : L2.St} {te ta tb tc td ty tv : TE} {ts us vs : TS} {d x y z : D} {ds es xs ys : List D} {p : Po} {P R : D → Hl → Prop} {b : Bool} {n m : Nat}
/-! ### sorted -/
theorem en_sortI {ns : List Int} (ha : EvL K H0 G L te (ns.map D.int)) : EvN K H0 G L (tCB (rSortedI K) (tCons te tNil)) (fun d N => ∃ (a : Addr) (ns' : List Int), d = .ref a ∧ N = [(a, .lst (ns'.map D.int))] ∧ ns'.Perm ns ∧ ns'.Pairwise (· ≤ ·)) := fun σ H st Q q =>
  ha σ H st _ fun v H1 d N m e1 hf hn ho i1 => by
    obtain ⟨a, rfl, m⟩ := m
    cases i1
    obtain ⟨xs, hx, il⟩ := (st.add e1 hf hn ho).hs.lst (List.mem_append.mpr m)
    have e := il.ints
    subst e
    refine ⟨a, ns, rfl, SqL.of hx, fun ns' p hp hs hpn => ?_⟩
    obtain ⟨a1, a2, a3, a4⟩ := new1 (K := K) (u := .lst (ns'.map V.int)) (o := .lst (ns'.map D.int)) hpn (ImL.of_ints ns')
    exact q _ _ (.ref p) [(p, .lst _)] ⟨p, ns', rfl, rfl, hp, hs⟩ (e1.trans a1) (fun z hz => e1.free (a2 z hz)) a3 a4 (.ref p)
def prD (q : Int × Int) : D := .tup [.int q.1, .int q.2]
/-- the pair that stands at an address -/
def pairAt (h : Heap) : Value → Int × Int
  | .ref t => match h.get? t with
    | some o => match o.data with
      | .seq its _ => match its.toList with
        | [.int i _, .int j _] => (i, j)
        | _ => (0, 0)
      | _ => (0, 0)
    | none => (0, 0)
  | _ => (0, 0)
def rSortP (K : PySem.W.Frag) : List V → Hp → VK → Prop := fun vs H Q => ∃ (a : Addr) (xs : List V) (ps : List (Int × Int)), vs = [V.ref a] ∧ SqL K H a xs ∧ ImL K H xs (ps.map prD) ∧
  ∀ (ps' : List (Int × Int)) (ys : List V) (p : Addr), ps'.Perm ps → ps'.Pairwise (fun q r => SrtO.lexB r q = false) → ImL K H ys (ps'.map prD) → H p = none → Q (.ref p) (upd H p (.lst ys))
theorem pair_im {X : Cx} {pins : List (Addr × Obj)} {σ : L2.St} {s : Shared} (I : Inv X pins σ H s) {v : V} {u : Value} {q : Int × Int} (i : Im X.K H v (prD q)) (r : RelV v u) : pairAt s.heap u = q ∧ ∃ t, v = .ref t ∧ u = .ref t ∧ Srt.IsPair s.heap u q.1 q.2 := by
  generalize hd : prD q = d at i
  cases i with
  | @tup t us ds hq il =>
    have hd : ds = [.int q.1, .int q.2] := (D.tup.inj hd).symm
    subst hd
    have e : us = [V.int q.1, V.int q.2] := by
      have := ImL.ints (ns := [q.1, q.2]) il
      exact this
    subst e
    cases r
    obtain ⟨its, r2, ⟨o, ho, hc, n, hdt⟩, _⟩ := I.tuple hq
    obtain ⟨u1, u2, rfl, ri, rj⟩ := vals2 r2
    obtain ⟨t1, rfl⟩ := ri
    obtain ⟨t2, rfl⟩ := rj
    refine ⟨?_, t, rfl, rfl, t, o, t1, t2, n, rfl, ho, hc, hdt⟩
    unfold pairAt
    simp only [ho, hdt]
  | _ => exact absurd hd (by unfold prD; intro h; cases h)
theorem cr_sortP {X : Cx} : CallR X (.builtin "sorted") (rSortP X.K) := by
  intro pins s σ H vs us Q I r ⟨a, xs, ps, e, hs, il, q⟩
  subst e
  obtain ⟨its, rv, hl, hz⟩ := I.list hs
  obtain ⟨u, rfl, ru⟩ := vals1 r
  cases ru
  have all : ∀ {xs : List V} {its : List Value} {ps : List (Int × Int)}, Vals xs its → ImL X.K H xs (ps.map prD) → its.map (pairAt s.heap) = ps ∧ ∀ u ∈ its, ∃ t, u = .ref t ∧ Im X.K H (.ref t) (prD (pairAt s.heap u)) ∧ Srt.IsPair s.heap u (pairAt s.heap u).1 (pairAt s.heap u).2 := by
    intro xs its ps rv
    induction rv generalizing ps with
    | nil =>
      intro il
      cases ps with
      | nil => exact ⟨rfl, fun u h => nomatch h⟩
      | cons q r => cases il
    | cons r1 r2 ih =>
      intro il
      cases ps with
      | nil => cases il
      | cons q ps =>
        cases il with
        | cons i1 i2 =>
          obtain ⟨e1, t, e2, e3, e4⟩ := pair_im I i1 r1
          obtain ⟨e5, e6⟩ := ih i2
          refine ⟨by rw [List.map_cons, e1, e5], fun u hu => ?_⟩
          rcases List.mem_cons.mp hu with rfl | hu
          · exact ⟨t, e3, by rw [e1, ← e2]; exact i1, by rw [e1]; exact e4⟩
          · exact e6 u hu
  obtain ⟨ek, ea⟩ := all rv il
  refine SrtO.sorted_pairsO (k := pairAt s.heap) hl.isList (by rw [← rv.length]; exact hz) (fun v hv => let ⟨_, _, _, e⟩ := ea v hv; e) fun h' dd out h1 h2 kp hd hn => ?_
  have ho : ∀ u ∈ out, ∃ t, u = Value.ref t := fun u hu => let ⟨t, e, _⟩ := ea u (h2.perm.mem_iff.mp hu); ⟨t, e⟩
  obtain ⟨n, hn⟩ := hn
  have hlen : (out.map backV).length ≤ sizeLine := by rw [List.length_map, h2.perm.length_eq, ← rv.length]; exact hz
  refine ⟨.ref dd, upd H dd (.lst (out.map backV)), I.laid (t' := s.toks) kp hd ⟨hlen, out, n, vals_back ho, hn⟩, rfl, q (out.map (pairAt s.heap)) _ dd ?_ (List.pairwise_map.mpr h1) ?_ (I.hok.fresh hd)⟩
  · rw [← ek]; exact h2.perm.map _
  · have : ∀ l : List Value, (∀ u ∈ l, u ∈ its) → ImL X.K H (l.map backV) ((l.map (pairAt s.heap)).map prD) := fun l => by
      induction l with
      | nil => intro _; exact .nil
      | cons u l ih =>
        intro hm
        obtain ⟨t, rfl, i, _⟩ := ea u (hm u List.mem_cons_self)
        exact .cons i (ih fun v hv => hm v (List.mem_cons_of_mem _ hv))
    exact this out fun u hu => h2.perm.mem_iff.mp hu
theorem pe_sortI {X : Cx} {mg : Str → Option Value} {e : Expr} {es : List Expr} {t : TA} {p pos : Pos} (hK : X.K = K) (hM : X.mg = mg) (B : Bl mg) (hg : Gl X "sorted") (ha : PA X (e :: es) t) (he : starEach (e :: es) X.env = (false, eval e X.env) :: starEach es X.env := by rfl) (hpl : (backTo pos (starEach es X.env)).any (·.1) = false := by rfl) : PE X (.Call (.Name "sorted" p) (e :: es) [] pos) (tCB (rSortedI K) t) := by
  subst hK hM
  exact pe_callB (r := rSortedI X.K) cr_sortedI hg B.sorted b_sorted ha (he := he) (hpl := hpl)
theorem pe_sortP {X : Cx} {mg : Str → Option Value} {e : Expr} {es : List Expr} {t : TA} {p pos : Pos} (hK : X.K = K) (hM : X.mg = mg) (B : Bl mg) (hg : Gl X "sorted") (ha : PA X (e :: es) t) (he : starEach (e :: es) X.env = (false, eval e X.env) :: starEach es X.env := by rfl) (hpl : (backTo pos (starEach es X.env)).any (·.1) = false := by rfl) : PE X (.Call (.Name "sorted" p) (e :: es) [] pos) (tCB (rSortP K) t) := by
  subst hK hM
  exact pe_callB (r := rSortP X.K) cr_sortP hg B.sorted b_sorted ha (he := he) (hpl := hpl)
/-- list(..) of a list, a tuple, a dict -/
theorem pe_lstOf {X : Cx} {mg : Str → Option Value} {e : Expr} {es : List Expr} {t : TA} {p pos : Pos} (hK : X.K = K) (hM : X.mg = mg) (B : Bl mg) (hg : Gl X "list") (ha : PA X (e :: es) t) (he : starEach (e :: es) X.env = (false, eval e X.env) :: starEach es X.env := by rfl) (hpl : (backTo pos (starEach es X.env)).any (·.1) = false := by rfl) : PE X (.Call (.Name "list" p) (e :: es) [] pos) (tCB (rLstOf K) t) := by
  subst hK hM
  exact pe_callTy (r := rLstOf X.K) call_list_of hg B.list b_list ha (he := he) (hpl := hpl)
theorem pe_lstD {X : Cx} {mg : Str → Option Value} {e : Expr} {es : List Expr} {t : TA} {p pos : Pos} (hc : X.calm = true) (hM : X.mg = mg) (B : Bl mg) (hg : Gl X "list") (ha : PA X (e :: es) t) (he : starEach (e :: es) X.env = (false, eval e X.env) :: starEach es X.env := by rfl) (hpl : (backTo pos (starEach es X.env)).any (·.1) = false := by rfl) : PE X (.Call (.Name "list" p) (e :: es) [] pos) (tCB rLstD t) := by
  subst hM
  exact pe_callTy (r := rLstD) (call_listD hc) hg B.list b_list ha (he := he) (hpl := hpl)
theorem pe_lrg {X : Cx} {mg : Str → Option Value} {e : Expr} {te : L2.St → Hp → (Int → Int → Hp → Prop) → Prop} {p pos : Pos} (hc : X.calm = true) (hM : X.mg = mg) (B : Bl mg) (hg : Gl X "list") (he : PRg X e te) (na : starEach [e] X.env = (false, eval e X.env) :: starEach [] X.env := by rfl) : PE X (.Call (.Name "list" p) [e] [] pos) (tLstRg te) := by
  subst hM
  exact pe_listRg hc hg B.list he na
theorem en_sortP {ps : List (Int × Int)} (ha : EvL K H0 G L te (ps.map prD)) : EvN K H0 G L (tCB (rSortP K) (tCons te tNil)) (fun d N => ∃ (a : Addr) (ps' : List (Int × Int)), d = .ref a ∧ N = [(a, .lst (ps'.map prD))] ∧ ps'.Perm ps ∧ ps'.Pairwise (fun q r => SrtO.lexB r q = false)) := fun σ H st Q q =>
  ha σ H st _ fun v H1 d N m e1 hf hn ho i1 => by
    obtain ⟨a, rfl, m⟩ := m
    cases i1
    obtain ⟨xs, hx, il⟩ := (st.add e1 hf hn ho).hs.lst (List.mem_append.mpr m)
    refine ⟨a, xs, ps, rfl, SqL.of hx, il, fun ps' ys p hp hs jl hpn => ?_⟩
    obtain ⟨a1, a2, a3, a4⟩ := new1 (K := K) (u := .lst ys) (o := .lst (ps'.map prD)) hpn jl
    exact q _ _ (.ref p) [(p, .lst _)] ⟨p, ps', rfl, rfl, hp, hs⟩ (e1.trans a1) (fun z hz => e1.free (a2 z hz)) a3 a4 (.ref p)
/-! ### zip where an argument is a new list -/
theorem ei_zipN {ta : TA} {PA : List D → Hl → Prop} {Pd : List D → List D → Prop} (h : EvAN K H0 G L ta PA) (hP : ∀ as N, PA as N → ∃ x y ds es, as = [x, y] ∧ Sq K H0 (N ++ L) x ds ∧ Sq K H0 (N ++ L) y es ∧ Pd ds es) :
    EvI K H0 G L (iZip2 K ta) (fun dl W N => ∃ x y ds es, PA [x, y] N ∧ Pd ds es ∧ dl = prs ds es ∧ Sq K H0 (N ++ L) x ds ∧ Sq K H0 (N ++ L) y es ∧ W = fun L => SqW K H0 x ds L ∧ SqW K H0 y es L) := fun σ H st R q => h σ H st _ fun vs H' as N m e hf hn ho i => by
  obtain ⟨x, y, ds, es, rfl, h1, h2, hp⟩ := hP as N m
  cases i with
  | cons i1 i =>
    cases i with
    | cons i2 i =>
      cases i
      have s1 := (st.add e hf hn ho).hs
      obtain ⟨k, a, xs, rfl, hx, ilx, sx⟩ := sq_at h1 s1 i1
      obtain ⟨l, b, ys, rfl, hy, ily, sy⟩ := sq_at h2 s1 i2
      refine ⟨k, l, a, b, xs, ys, rfl, hx, hy, q _ H' _ _ N ⟨x, y, ds, es, m, hp, rfl, h1, h2, rfl⟩ e hf hn ho ⟨fun i L H t s w hi => ?_, fun L H t s w => ?_, fun i L H x H' t s w hi y => ?_⟩⟩
      · rw [prs_len] at hi
        obtain ⟨xs', hx', il'⟩ := sx L H t s w.1
        obtain ⟨ys', hy', jl'⟩ := sy L H t s w.2
        have a1 : i < xs'.length := by rw [il'.length]; omega
        have a2 : i < ys'.length := by rw [jl'.length]; omega
        exact ⟨xs', ys', _, _, hx', hy', List.getElem?_eq_getElem a1, List.getElem?_eq_getElem a2⟩
      · obtain ⟨xs', hx', il'⟩ := sx L H t s w.1
        obtain ⟨ys', hy', jl'⟩ := sy L H t s w.2
        exact ⟨xs', ys', hx', hy', by rw [prs_len, il'.length, jl'.length]⟩
      · obtain ⟨xs', hx', il'⟩ := sx L H t s w.1
        obtain ⟨ys', hy', jl'⟩ := sy L H t s w.2
        obtain ⟨T, u, v, rfl, hT, rfl, f1, f2⟩ := y
        obtain ⟨d1, hd1, m1⟩ := il'.get (f1 xs' hx')
        obtain ⟨d2, hd2, m2⟩ := jl'.get (f2 ys' hy')
        exact ⟨(tup2 hT m1 m2).1, _, prs_get hd1 hd2, (tup2 hT m1 m2).2⟩
/-- a list that a call has made, walked -/
theorem ei_listR {Pd : List D → Prop} (h : EvN K H0 G L te R) (hR : ∀ d N, R d N → ∃ a ds, d = .ref a ∧ N = [(a, O.lst ds)] ∧ Pd ds) : EvI K H0 G L (iList K te) (fun ds W N => Pd ds ∧ ∃ a, N = [(a, .lst ds)] ∧ W = fun L => Lk K H0 L a (.lst ds)) := fun σ H st RR q => h σ H st _ fun v H' d N m e hf hn ho i => by
  obtain ⟨a, ds, rfl, rfl, hp⟩ := hR d N m
  cases i
  have hk : Lk K H0 ([(a, O.lst ds)] ++ L) a (.lst ds) := .inl (List.mem_cons_self)
  obtain ⟨xs, hx, _⟩ := hk.rdo (st.add e hf hn ho).hs
  refine ⟨a, rfl, ⟨xs, hx⟩, q _ H' ds _ _ ⟨hp, a, rfl, rfl⟩ e hf hn ho ⟨fun i L H t s w hi => ?_, fun L H t s w => ?_, fun i L H x H' t s w hi y => ?_⟩⟩
  · obtain ⟨xs, hx, il⟩ := w.rdo s
    have : i < xs.length := by rw [il.length]; exact hi
    exact ⟨xs, xs[i], hx, List.getElem?_eq_getElem this⟩
  · obtain ⟨xs, hx, il⟩ := w.rdo s
    exact ⟨xs, hx, by rw [il.length]; exact Nat.le_refl _⟩
  · obtain ⟨xs, hx, il⟩ := w.rdo s
    obtain ⟨rfl, y⟩ := y
    obtain ⟨d, hd, im⟩ := il.get (y xs hx)
    exact ⟨Same.refl _, d, hd, im⟩
end
/-! ### C(.., k = v) -/
structure PkK (P : Program) (w : World) (K : PySem.W.Frag) (mg : Str → Option Value) (base : Heap) (x : Str) (C : Addr) (n : Nat) (ks : List Str) (k : Nat) (S : FX) : Prop where
  ex : ∃ f fd ps g, Mk K C f ∧ FnOk P w K mg base (L2.CX P w) k f fd ps (spX K S) ∧ KBn K fd ps (n + 1) ks g (fun vs zs => vs ++ zs) ∧ mg x = some (.ref C)
abbrev BindK (qual : Str) (st : Stmt) (n : Nat) (ks ps : List Str) : Prop := ∀ (kV doc pm : Value) (an : Option Addr) (cdv ct : Value) (us ws : List Value), us.length = n → ws.length = ks.length → bindArgs (PySem.W.fnOf "__init__" qual (defArgs st) (defBody st) (defScope st) .none kV doc pm an cdv ct) ⟨us, ks.zip ws⟩ = pure (ps.zip (us ++ ws))
theorem vals_app : ∀ {vs zs : List V} {us ws : List Value}, Vals vs us → Vals zs ws → Vals (vs ++ zs) (us ++ ws)
  | _, _, _, _, .nil, h => h
  | _, _, _, _, .cons r t, h => .cons r (vals_app t h)
theorem pkK_mk {P : Program} {w : World} {K : PySem.W.Frag} {mg : Str → Option Value} {base : Heap} {C : Addr} {x qual : Str} {st : Stmt} {N ps ks : List Str} {n k : Nat} {S : FX} (F : MakeG K mg x C qual st) (sc : FnScope N ps (defScope st)) (bk : BindK qual st (n + 1) ks ps) (len : ∀ Y Z ds o, S Y Z ds o → ds.length = ps.length) (hb : BodyX P w K mg base qual st N k S) : PkK P w K mg base x C n ks (k + 1) S := by
  obtain ⟨f, fd, F1, hm, hg⟩ := F.ex
  obtain ⟨oc, od, kV, doc, pm, an, cdv, ct, osl, e, _⟩ := id F1.ex
  refine ⟨f, fd, ps, fun us ws => us ++ ws, hm, fn_mkX F1 sc len hb, ⟨fun s us ws _ l1 l2 => ?_, fun r1 r2 => vals_app r1 r2⟩, hg⟩
  subst e
  exact .of_eq (bk kV doc pm an cdv ct us ws l1 l2)
theorem pe_mkK {X : Cx} {x : Str} {p pos : Pos} {e : Expr} {es : List Expr} {kws : List Keyword} {t tk : TA} {k j n : Nat} {P : Program} {w : World} {K : PySem.W.Frag} {mg : Str → Option Value} {base : Heap} {C : Addr} {S : FX} {E : XK} {ks : List Str} (F : PkK P w K mg base x C n ks k S) (hr : Room j X.A) (hj : k + 1 ≤ j) (hx : Passes (L2.CX P w) X E) (hg : Gl X x) (ha : PA X (e :: es) t) (hkw : PK X kws tk) (hP : X.prog = P := by rfl) (hw : X.w = w := by rfl) (hK : X.K = K := by rfl) (hm : X.mg = mg := by rfl) (hb : X.base = base := by rfl)
    (hall : (backToKw pos (keywordEach kws X.env)).all (·.1.isSome) = true := by rfl) (hks : (backToKw pos (keywordEach kws X.env)).filterMap (·.1) = ks := by rfl) (hdb : (x == ("__debug__" : Str)) = false := by decide) (he : starEach (e :: es) X.env = (false, eval e X.env) :: starEach es X.env := by rfl)
    (hpl : ((backTo pos (starEach (e :: es) X.env)).any (·.1) || (backToKw pos (keywordEach kws X.env)).any (·.1.isNone)) = false := by rfl) : PE X (.Call (.Name x p) (e :: es) kws pos) (tMakeK C n ks.length (spX K S) (fun vs zs => vs ++ zs) E t tk) := by
  subst hP hw hK hm hb
  obtain ⟨f, fd, ps, g, M, F1, hbd, hC⟩ := F.ex
  exact pe_makeK M F1 (hr.mono hj) hg hC hbd hx ha hkw hall hks hdb he hpl
theorem en_makeK {K : PySem.W.Frag} {H0 : Hp} {G : Ga} {L : Hl} {S : FX} {Z : Hl} {E : XK} {C : Addr} {n mm : Nat} {ta tk : TA} {ds es : List D} {P : D → Hl → Prop} (ha : EvA K H0 G L ta ds) (hk : EvA K H0 G L tk es) (hl : ds.length = n) (hl2 : es.length = mm) (hS : ∀ x dx, ∃ R, S [(x, .ins C dx [])] Z (.ref x :: (ds ++ es)) (.ret R) ∧ ∀ d N, R d N → d = .non ∧ ∃ o' N', N = (x, o') :: N' ∧ P (.ref x) N) (hr : ∀ p ∈ Z, Lk K H0 L p.1 p.2) (hZl : ∀ p ∈ Z, ∀ es, p.2 ≠ .lst es) :
    EvN K H0 G L (tMakeK C n mm (spX K S) (fun vs zs => vs ++ zs) E ta tk) P := fun σ H st Q q => ha σ H st _ fun vs H0' e0 i0 => hk σ H0' (st.same e0) _ fun zs H1 e1 j1 => by
  refine ⟨by rw [i0.length]; exact hl, by rw [j1.length]; exact hl2, ?_⟩
  intro x dx hx hdx hne
  have i1 := ((i0.tx (Same.tx e1)).append j1)
  obtain ⟨R, hS, hR⟩ := hS x dx
  have m1 : Same H1 (upd H1 dx (.own x)) := Same.new hdx
  have hx1 : (upd H1 dx (.own x)) x = none := by rw [upd_ne (Ne.symm hne)]; exact hx
  have m2 : Same H1 (upd (upd H1 dx (.own x)) x (.ins C dx [])) := m1.trans (Same.new hx1)
  have s2 := ((st.same e0).same e1).same m2
  show spX K S (.ref x :: (vs ++ zs)) _ _ E
  refine spX_ofM ⟨_, Z, _, R, fun p hp => ?_, by simp, fun p hp => (hr p hp).rdo s2.hs, fun p hp => ?_, .cons (.ref x) (i1.tx (Same.tx m2)), hS, fun v H' d N r e t hf hn ho i => ?_⟩
  · rw [List.mem_singleton.mp hp]; exact ⟨_, upd_same, rfl, rfl, .nil⟩
  · intro hm
    have hpx : p.1 = x := by simpa using hm
    have r := (hr p hp).rdo ((st.same e0).same e1).hs
    rw [hpx] at r
    cases hpo : p.2 with
    | lst es => exact absurd hpo (hZl p hp es)
    | dct es =>
      rw [hpo] at r
      obtain ⟨xs, hq, _⟩ := r
      rw [hx] at hq; cases hq
    | ins C dx es =>
      rw [hpo] at r
      obtain ⟨xs, hq, _⟩ := r
      rw [hx] at hq; cases hq
    | tb0 =>
      rw [hpo] at r
      have r : _ = some (HO.tbl #[]) := r
      rw [hx] at r; cases r
  · obtain ⟨rfl, o', N', rfl, hP⟩ := hR d N r
    cases i
    have ne : ∀ b, b ≠ x → b ∉ List.map (fun z => z.fst) [(x, O.ins C dx [])] := fun b hb => by simpa using hb
    refine ⟨rfl, q (.ref x) H' (.ref x) _ hP (fun b u hb => ?_) (fun p hp => ?_) hn ho (.ref x)⟩
    · have h1 := e1 b u (e0 b u hb)
      exact e b u (m2 b u h1) (ne b (ne_of_none h1 hx))
    · rcases hf p hp with z | z
      · exact ((e0.trans e1).trans m2).free z
      · rw [show p.1 = x by simpa using z]; exact (e0.trans e1).free hx
theorem un65 {k : Nat} {A : Around} (r : Room k A) : A.units + 65 < cLine := by have := r.un; omega
theorem mt_idxL {X : Cx} {K : PySem.W.Frag} (hK : X.K = K) (hu : X.A.units + 65 < cLine) : MtR X "list.index" (rIndexD K) := by subst hK; exact mt_indexD hu
section
variable {K : PySem.W.Frag} {H0 H H' : Hp} {G G' : Ga} {L L' N : Hl} {σ : L2.St} {te ta tb tc td ty tv : TE} {ts us vs : TS} {d x y z : D} {ds es xs ys : List D} {p : Po} {P R : D → Hl → Prop} {b : Bool} {n m : Nat}
/-- a built-in of a list that a call has made -/
theorem ev_cbX {r : List V → Hp → VK → Prop} (ha : EvN K H0 G L te R) (h : ∀ d N, R d N → ∃ a ds, d = .ref a ∧ N = [(a, O.lst ds)] ∧ RcP K H0 ((a, O.lst ds) :: L) r [.ref a] z) : EvP K H0 G L (tCB r (tCons te tNil)) z := fun σ H st Q q =>
  ha σ H st _ fun v H1 d N m e1 hf hn ho i1 => by
    obtain ⟨a, ds, rfl, rfl, hr⟩ := h d N m
    exact hr H1 [v] (st.add e1 hf hn ho).hs (.cons i1 .nil) Q fun w H2 e2 i2 => q w H2 (e1.trans e2) i2
/-- an item of a list that a call has made -/
theorem ev_sumN {ns : List Int} (ha : EvN K H0 G L te (New1 (.lst (ns.map D.int)))) : EvP K H0 G L (tCB (rSum K) (tCons te tNil)) (.int ns.sum) := ev_cbX ha fun d N ⟨a, e1, e2⟩ => ⟨a, _, e1, e2, rc_sum (.inl List.mem_cons_self)⟩
/-! ### a, (b, c) = .. -/
theorem eg_nest {i j k : Nat} : EvG K H0 G (.tup [x, .tup [y, z]]) (gTup K 2 (gCons (gName i) (gCons (gTup K 2 (gCons (gName j) (gCons (gName k) gNil))) gNil))) (((G.set i (some x)).set j (some y)).set k (some z)) := fun L σ H v st im Q q => by
  cases im with
  | tup hq il =>
    cases il with
    | cons i1 il =>
      cases il with
      | cons i2 il =>
        cases il
        cases i2 with
        | tup hq2 jl =>
          cases jl with
          | cons j1 jl =>
            cases jl with
            | cons j2 jl =>
              cases jl
              exact ⟨_, _, rfl, hq, rfl, _, _, rfl, _, _, rfl, ⟨_, _, rfl, hq2, rfl, _, _, rfl, _, _, rfl, rfl, rfl, q _ (((st.set i1 i).set j1 j).set j2 k)⟩⟩
theorem wipe3 (σ : L2.St) (i j k : Nat) (u v w : V) (hij : i ≠ j) (hik : i ≠ k) (hjk : j ≠ k) : wipe ((((wipe σ [i, j, k]).set i (some u)).set j (some v)).set k (some w)) [i, j, k] = wipe σ [i, j, k] := by
  show (((((((σ.set k none).set j none).set i none).set i (some u)).set j (some v)).set k (some w)).set k none |>.set j none |>.set i none) = ((σ.set k none).set j none).set i none
  refine List.ext_getElem? fun q => ?_
  simp only [List.getElem?_set, List.length_set]
  by_cases h1 : i = q
  · subst h1; simp
  · by_cases h2 : j = q
    · subst h2; simp [h1]
    · by_cases h3 : k = q
      · subst h3; simp [h1, h2]
      · simp [h1, h2, h3]
theorem Vr.wipe3 {i j k : Nat} {u v w : V} (h : Vr K H G σ) (i1 : Im K H u x) (i2 : Im K H v y) (i3 : Im K H w z) (hij : i ≠ j) (hik : i ≠ k) (hjk : j ≠ k) : Vr K H (((G.set i (some x)).set j (some y)).set k (some z)) ((((wipe σ [i, j, k]).set i (some u)).set j (some v)).set k (some w)) := by
  have e : (((wipe σ [i, j, k]).set i (some u)).set j (some v)).set k (some w) = ((σ.set i (some u)).set j (some v)).set k (some w) := by
    show ((((((σ.set k none).set j none).set i none).set i (some u)).set j (some v)).set k (some w)) = _
    refine List.ext_getElem? fun q => ?_
    simp only [List.getElem?_set, List.length_set]
    by_cases h3 : k = q
    · subst h3; simp
    · by_cases h2 : j = q
      · subst h2; simp [h3]
      · by_cases h1 : i = q
        · subst h1; simp [h2, h3]
        · simp [h1, h2, h3]
  rw [e]
  exact ((h.set i1 i).set i2 j).set i3 k
theorem en_lcNest {i j k : Nat} {W : Hl → Prop} {wi : TI} (v : D → D) (hij : i ≠ j) (hik : i ≠ k) (hjk : j ≠ k) (hw : EvI K H0 G L wi (It0 ds W)) (hW : ∀ Z, W (Z :: L)) (hp : ∀ d ∈ ds, ∃ x y z, d = .tup [x, .tup [y, z]] ∧ EvP K H0 (((G.set i (some x)).set j (some y)).set k (some z)) L te (v d)) (hz : ds.length ≤ 100000) :
    EvN K H0 G L (tLc wi (gTup K 2 (gCons (gName i) (gCons (gTup K 2 (gCons (gName j) (gCons (gName k) gNil))) gNil))) tYes te [i, j, k]) (New1 (.lst (ds.map v))) := by
  have := lc_main (K := K) (H0 := H0) (G := G) (L := L) (wi := wi) (g := gTup K 2 (gCons (gName i) (gCons (gTup K 2 (gCons (gName j) (gCons (gName k) gNil))) gNil))) (tt := tYes) (te := te) (vs := [i, j, k]) (ds := ds) (fun _ => true) v hw (fun ds' W' N m => by
    obtain ⟨rfl, rfl, rfl⟩ := m
    refine ⟨rfl, hW, fun d hd Z => ?_⟩
    obtain ⟨x, y, z, rfl, h1⟩ := hp d hd
    refine ⟨_, fun σ H u st im Q q => ?_, et_yes, fun _ => h1⟩
    cases im with
    | tup hq il =>
      cases il with
      | cons i1 il =>
        cases il with
        | cons i2 il =>
          cases il
          cases i2 with
          | tup hq2 jl =>
            cases jl with
            | cons j1 jl =>
              cases jl with
              | cons j2 jl =>
                cases jl
                exact ⟨_, _, rfl, hq, rfl, _, _, rfl, _, _, rfl, ⟨_, _, rfl, hq2, rfl, _, _, rfl, _, _, rfl, rfl, rfl, q _ ⟨st.hs, Vr.wipe3 st.vr i1 j1 j2 hij hik hjk⟩ (wipe3 σ i j k _ _ _ hij hik hjk)⟩⟩) hz
  rwa [List.filter_eq_self.mpr (fun _ _ => rfl)] at this
/-- a slice of a list that a call has made -/
theorem en_slN {tl th : TO} {lo hi : Option Int} {Pd : List D → Prop} (h : EvN K H0 G L te R) (hR : ∀ d N, R d N → ∃ a ds, d = .ref a ∧ N = [(a, O.lst ds)] ∧ Pd ds) (hl : EvO K H0 G L tl lo) (hh : EvO K H0 G L th hi) : EvN K H0 G L (tSl (rSlL K) te tl th) (fun d N => ∃ a ds, Pd ds ∧ d = .ref a ∧ N = [(a, O.lst (cutD ds lo hi))]) := fun σ H s Q q =>
  h σ H s _ fun v H1 d N m e1 hf hn ho i1 => by
    obtain ⟨a, ds, rfl, rfl, hp⟩ := hR d N m
    have s1 := s.add e1 hf hn ho
    refine hl σ H1 (s1.tl) _ fun H2 e2 => hh σ H2 ((s1.same e2).tl) _ fun H3 e3 => ?_
    cases i1
    have s3 := (s1.same e2).same e3
    obtain ⟨us, hu, il⟩ := s3.hs.lst (show (a, O.lst ds) ∈ [(a, O.lst ds)] ++ L from List.mem_cons_self)
    refine ⟨a, us, rfl, SqL.of hu, fun p hpn => ?_⟩
    have cl : ImL K H3 (cutV us lo hi) (cutD ds lo hi) := by
      unfold cutV cutD
      rw [← il.length]
      exact ImL.take _ (ImL.drop _ il)
    obtain ⟨a1, a2, a3, a4⟩ := new1 (K := K) (u := .lst (cutV us lo hi)) (o := .lst (cutD ds lo hi)) hpn cl
    have e13 := (e1.trans e2).trans e3
    exact q _ _ (.ref p) [(p, .lst _)] ⟨p, ds, hp, rfl, rfl⟩ (e13.trans a1) (fun z hz => e13.free (a2 z hz)) a3 a4 (.ref p)
/-- a comprehension whose target is a pair, over a new list -/
theorem en_lc2R {i j : Nat} {wi : TI} (v : D → D) (hij : i ≠ j) (hw : EvI K H0 G L wi (fun ds' W N => ds' = ds ∧ ∃ a, N = [(a, O.lst ds')] ∧ W = fun L => Lk K H0 L a (.lst ds'))) (hp : ∀ d ∈ ds, ∃ x y, d = .tup [x, y] ∧ EvP K H0 ((G.set i (some x)).set j (some y)) L te (v d)) (hz : ds.length ≤ 100000) :
    EvN K H0 G L (tLc wi (gTup K 2 (gCons (gName i) (gCons (gName j) gNil))) tYes te [i, j]) (New1 (.lst (ds.map v))) := by
  have := lc_main (K := K) (H0 := H0) (G := G) (L := L) (wi := wi) (g := gTup K 2 (gCons (gName i) (gCons (gName j) gNil))) (tt := tYes) (te := te) (vs := [i, j]) (ds := ds) (fun _ => true) v hw (fun ds' W' N m => by
    obtain ⟨rfl, a, rfl, rfl⟩ := m
    refine ⟨rfl, fun Z => .inl (List.mem_cons_of_mem _ List.mem_cons_self), fun d hd Z => ?_⟩
    obtain ⟨x, y, rfl, h2⟩ := hp d hd
    exact ⟨_, fun σ H u st im Q q => eg_wipe2 hij st im q, et_yes, fun _ => h2.fr⟩) hz
  rwa [List.filter_eq_self.mpr (fun _ _ => rfl)] at this
/-- .. over a zip whose part is new -/
theorem en_lc2Z {i j : Nat} {wi : TI} {P : List D → (Hl → Prop) → Hl → Prop} (v : D → D) (hij : i ≠ j) (hw : EvI K H0 G L wi P) (hP : ∀ ds' W N, P ds' W N → ds' = ds ∧ (∀ Z, W (Z :: (N ++ L))) ∧ ∃ a o, N = [(a, o)]) (hp : ∀ d ∈ ds, ∃ x y, d = .tup [x, y] ∧ EvP K H0 ((G.set i (some x)).set j (some y)) L te (v d)) (hz : ds.length ≤ 100000) :
    EvN K H0 G L (tLc wi (gTup K 2 (gCons (gName i) (gCons (gName j) gNil))) tYes te [i, j]) (New1 (.lst (ds.map v))) := by
  have := lc_main (K := K) (H0 := H0) (G := G) (L := L) (wi := wi) (g := gTup K 2 (gCons (gName i) (gCons (gName j) gNil))) (tt := tYes) (te := te) (vs := [i, j]) (ds := ds) (fun _ => true) v hw (fun ds' W' N m => by
    obtain ⟨rfl, hW, a, o, rfl⟩ := hP ds' W' N m
    refine ⟨rfl, hW, fun d hd Z => ?_⟩
    obtain ⟨x, y, rfl, h2⟩ := hp d hd
    exact ⟨_, fun σ H u st im Q q => eg_wipe2 hij st im q, et_yes, fun _ => h2.fr⟩) hz
  rwa [List.filter_eq_self.mpr (fun _ _ => rfl)] at this
theorem EvI.imp {wi : TI} {P P' : List D → (Hl → Prop) → Hl → Prop} (h : EvI K H0 G L wi P) (i : ∀ ds W N, P ds W N → P' ds W N) : EvI K H0 G L wi P' := fun σ H st R q => h σ H st R fun J H' ds W N m => q J H' ds W N (i ds W N m)
end
end Fc

namespace Fc
open PySem PySem.Spec PyProof.Rows L2
theorem pe_bmK {X : Cx} {K : PySem.W.Frag} {name : Str} {T id : String} {r : V → List V → Hp → VK → Prop} {o e : Expr} {es : List Expr} {to : TE} {t : TA} {apos cpos : Pos} (hK : X.K = K) (pa : PlainAttrs T) (slot : Slot T name id) (hty : typeOf (.builtin id) = pure (.type "method_descriptor")) (hm : MtR X id r) (ho : PE X o to) (ha : PA X (e :: es) t)
    (hbase : attributeBase o name X.env (eval o X.env) = eval o X.env := by rfl)
    (hfew : ((backTo cpos (starEach (e :: es) X.env)).all (fun x => !x.1) && (backToKw cpos (keywordEach [] X.env)).all (fun x => x.1.isSome)
      && decide ((e :: es).length + ([] : List Keyword).length + (if ([] : List Keyword).isEmpty then 0 else 1) < 30)) = true := by rfl)
    (hline : (apos.endLine == cpos.line) = true := by rfl) (hs : starEach (e :: es) X.env = (false, eval e X.env) :: starEach es X.env := by rfl) (hplain : (backTo cpos (starEach es X.env)).any (·.1) = false := by rfl) :
    PE X (.Call (.Attribute o name apos) (e :: es) [] cpos) (tBM K T r to t) := by
  subst hK
  exact pe_bm pa slot hty hm ho ha hbase hfew hline hs hplain
end Fc

namespace Fc
open PySem PySem.Spec PyProof.Rows L2
/-! ## a comprehension with two clauses -/
section
variable {K : PySem.W.Frag} {H0 H H' : Hp} {G G' : Ga} {L L' N : Hl} {σ : L2.St} {te : TE} {wi wi1 : TI} {g g1 : TG} {d x y z : D} {ds es : List D}
theorem ext_put {H1 Ha Hb : Hp} {Dl : Addr} (hD : H1 Dl = none) (a : Same H1 (upd Ha Dl (.lst []))) (b : Same Ha Hb) (hne : Ha Dl ≠ none) : Same H1 (upd Hb Dl (.lst [])) := fun c o hc => by
  have := a c o hc
  by_cases hcd : c = Dl
  · subst hcd; rw [hD] at hc; cases hc
  · rw [upd_ne hcd] at this ⊢; exact b _ _ this
/-- what a target does in a block -/
def EgB (K : PySem.W.Frag) (H0 : Hp) (G : Ga) (Lz : Hl) (g : TG) (vs : List Nat) (d : D) (G' : Ga) : Prop := ∀ σ H x, Stt K H0 G Lz σ H → Im K H x d → ∀ Q : L2.St → Hp → Prop, (∀ σ', Stt K H0 G' Lz σ' H → wipe σ' vs = wipe σ vs → Q σ' H) → g x (wipe σ vs) H Q
def flat2 (inner : D → List D) (v : D → D → D) (ds : List D) : List D := (ds.map fun d => (inner d).map (v d)).flatten
theorem flat2_snoc (inner : D → List D) (v : D → D → D) (ds : List D) (d : D) : flat2 inner v (ds ++ [d]) = flat2 inner v ds ++ (inner d).map (v d) := by
  unfold flat2
  rw [List.map_append, List.flatten_append]
  simp
theorem en_lc22 {W : Hl → Prop} {vs vs1 : List Nat} (inner : D → List D) (v : D → D → D) (hw : EvI K H0 G L wi (It0 ds W)) (hW : ∀ Z, W (Z :: L))
    (hp : ∀ d ∈ ds, ∀ Z, ∃ G' W1, EgB K H0 G (Z :: L) g vs d G' ∧ EvI K H0 G' (Z :: L) wi1 (It0 (inner d) W1) ∧ (∀ Z', W1 (Z' :: L)) ∧ ∀ e ∈ inner d, ∀ Z', ∃ G'', EgB K H0 G' (Z' :: L) g1 vs1 e G'' ∧ EvP K H0 G'' L te (v d e))
    (hz : (flat2 inner v ds).length ≤ 100000) : EvN K H0 G L (tLc2 wi g tYes wi1 g1 tYes te vs vs1) (New1 (.lst (flat2 inner v ds))) := fun σ H st Q q => by
  refine hw σ H st _ fun J H1 ds' W' N m e hf hn ho it Dl hD => ?_
  obtain ⟨rfl, rfl, rfl⟩ := m
  have st1 := st.same e
  have hne : ∀ {G : Ga} {σ : L2.St} {Hx : Hp} {l : List D}, Stt K H0 G ((Dl, .lst l) :: L) σ Hx → Hx Dl ≠ none := fun {G σ Hx l} sx z => by
    obtain ⟨xs, hx, _⟩ := sx.hs.lst List.mem_cons_self
    rw [hx] at z; cases z
  have pre : ∀ i, (flat2 inner v (ds'.take i)).length ≤ 100000 := fun i => by
    refine Nat.le_trans ?_ hz
    have : flat2 inner v ds' = flat2 inner v (ds'.take i) ++ flat2 inner v (ds'.drop i) := by
      unfold flat2
      rw [← List.flatten_append, ← List.map_append, List.take_append_drop]
    rw [this, List.length_append]
    omega
  refine ⟨fun i m H' => m = ds'.length - i ∧ i ≤ ds'.length ∧ Same H1 (upd H' Dl (.lst [])) ∧ TX H1 H' ∧ Stt K H0 G ((Dl, .lst (flat2 inner v (ds'.take i))) :: L) σ H', ⟨_, rfl, Nat.zero_le _, ?_⟩, ?_⟩
  · have n1 := new1 (K := K) (u := .lst []) (o := .lst []) hD .nil
    have := st1.add n1.1 n1.2.1 n1.2.2.1 n1.2.2.2
    refine ⟨?_, Same.tx n1.1, this⟩
    rw [upd_upd]
    exact n1.1
  rintro i m H2 ⟨rfl, hi, e1, t, s⟩
  by_cases hlt : i < ds'.length
  · refine .inr ⟨it.go i _ H2 t s.hs (hW _) hlt, fun H' => Same H1 (upd H' Dl (.lst [])) ∧ TX H1 H' ∧ Stt K H0 G ((Dl, .lst (flat2 inner v (ds'.take (i + 1)))) :: L) σ H', fun H' h => ⟨_, by omega, rfl, hlt, h⟩, fun x H3 yl => ?_⟩
    obtain ⟨e2, d, hd, im⟩ := it.yld i _ H2 x H3 t s.hs (hW _) hlt yl
    obtain ⟨G', W1, hg, hw1, hW1, hin⟩ := hp d (List.mem_of_getElem? hd) (Dl, .lst (flat2 inner v (ds'.take i)))
    have s3 := s.same e2
    have tk : ds'.take (i + 1) = ds'.take i ++ [d] := by rw [List.take_succ, hd]; rfl
    refine hg σ H3 x s3 im _ fun σ2 s4 hwp => ⟨hwp, ?_⟩
    refine et_yes σ2 H3 s4 (fun b H3 => if b = true then _ else _) fun H3y e3y => iteT ?_
    refine hw1 σ2 H3y (s4.same e3y) _ fun J1 H4 es W2 N2 m2 e4 hf2 hn2 ho2 it1 => ?_
    obtain ⟨m2a, m2b, m2c⟩ := m2
    subst m2b m2c
    have e24 := (e2.trans e3y).trans e4
    generalize hes : inner d = es0 at m2a hin
    subst m2a
    refine ⟨fun j k H' => k = es.length - j ∧ j ≤ es.length ∧ Same H1 (upd H' Dl (.lst [])) ∧ TX H4 H' ∧ Stt K H0 G' ((Dl, .lst (flat2 inner v (ds'.take i) ++ (es.take j).map (v d))) :: L) σ2 H' ∧ Vr K H' G σ, ⟨_, rfl, Nat.zero_le _, ext_put hD e1 e24 (hne s), TX.refl _, ?_, (s3.same e3y).vr.tx (Same.tx e4)⟩, ?_⟩
    · rw [List.take_zero, List.map_nil, List.append_nil]
      exact (s4.same e3y).same e4
    rintro j k H5 ⟨rfl, hj, e5, t5, s5, vr5⟩
    by_cases hjl : j < es.length
    · refine .inr ⟨it1.go j _ H5 t5 s5.hs (hW1 _) hjl, fun H' => Same H1 (upd H' Dl (.lst [])) ∧ TX H4 H' ∧ Stt K H0 G' ((Dl, .lst (flat2 inner v (ds'.take i) ++ (es.take (j + 1)).map (v d))) :: L) σ2 H' ∧ Vr K H' G σ, fun H' h => ⟨_, by omega, rfl, hjl, h⟩, fun x1 H6 yl1 => ?_⟩
      obtain ⟨e6, e, he, im1⟩ := it1.yld j _ H5 x1 H6 t5 s5.hs (hW1 _) hjl yl1
      obtain ⟨G'', hg1, hv⟩ := hin e (List.mem_of_getElem? he) (Dl, .lst (flat2 inner v (ds'.take i) ++ (es.take j).map (v d)))
      have s6 := s5.same e6
      have tk1 : es.take (j + 1) = es.take j ++ [e] := by rw [List.take_succ, he]; rfl
      refine hg1 σ2 H6 x1 s6 im1 _ fun σ3 s7 hwp1 => ⟨hwp1, ?_⟩
      refine et_yes σ3 H6 s7 (fun b H6 => if b = true then _ else _) fun H6y e6y => iteT ?_
      refine hv.fr σ3 H6y (s7.same e6y) _ fun y H7 e7 i7 => ?_
      have s8 := (s6.same e6y).same e7
      obtain ⟨xs, hx, il⟩ := s8.hs.lst List.mem_cons_self
      have hb := pre (i + 1)
      rw [tk, flat2_snoc, List.length_append, List.length_map, hes] at hb
      have hlen : xs.length < sizeLine := by
        rw [il.length, List.length_append, List.length_map, List.length_take]
        exact Nat.lt_of_lt_of_le (show _ < 100001 by omega) (by decide)
      refine ⟨xs, hx, hlen, ?_, ?_⟩
      · rw [upd_upd]
        exact ext_put hD (ext_put hD e5 (e6.trans e6y) (hne s5)) e7 (hne (s6.same e6y))
      · have pu := s8.hs.put (k := 0) (u' := .lst (xs ++ [y])) (o' := .lst (flat2 inner v (ds'.take i) ++ (es.take j).map (v d) ++ [v d e])) rfl (il.snoc i7)
        refine ⟨((t5.trans (Same.tx (e6.trans e6y))).trans (Same.tx e7)).trans pu.2, ?_, ((vr5.tx (Same.tx (e6.trans e6y))).tx (Same.tx e7)).tx pu.2⟩
        rw [tk1, List.map_append, ← List.append_assoc]
        exact ⟨pu.1, s8.vr.tx pu.2⟩
    · have ej : j = es.length := by omega
      subst ej
      refine .inl ⟨it1.stop _ H5 t5 s5.hs (hW1 _), e5, (t.trans (Same.tx e24)).trans t5, ?_⟩
      rw [tk, flat2_snoc, hes]
      rw [List.take_length] at s5
      exact ⟨s5.hs, vr5⟩
  · have ei : i = ds'.length := by omega
    subst ei
    rw [List.take_length] at s
    obtain ⟨u, hu, ob⟩ := s.hs.own _ List.mem_cons_self
    refine .inl ⟨it.stop _ H2 t s.hs (hW _), q (.ref Dl) H2 (.ref Dl) _ ⟨Dl, rfl, rfl⟩ (fun c o hc => ?_) (fun z hz => ?_) (by simp) (fun z hz => ?_) (.ref Dl)⟩
    · have h1 := e c o hc
      have := e1 c o h1
      rw [upd_ne (ne_of_none h1 hD)] at this
      exact this
    · rw [List.mem_singleton.mp hz]; exact e.free hD
    · rw [List.mem_singleton.mp hz]; exact ⟨u, hu, ob⟩
end
end Fc

namespace Fc
open PySem PySem.Spec PyProof.Rows L2
/-! ## sorted(l, key=lambda x: (len(x), x)), x a tuple of ints -/
/-- the key of such an item -/
def kyT (b : V × List Int) : PyData := .tuple [.int (b.2.length : Int), .tuple (b.2.map .int)]
section
variable {X : Cx} {x : Str} {p0 p1 p2 p3 p4 p5 p6 : Pos} {kk : Nat}
/-- the lambda's body -/
abbrev lamB (x : Str) (p1 p2 p3 p4 p5 : Pos) (kk : Nat) : Expr := .Tuple [.Call (.Name "len" p1) [.Name x p2] [] p3, .Name x p4] kk p5
/-- its value at one item -/
theorem lam_turn {pins : List (Addr × Obj)} {σ : L2.St} {H : Hp} {s : Shared} {A : Around} {f c' : Addr} {params : Arguments} {scope : Scope} {pm ctv : Value} {qual : Str} {h : Heap} {tk : Nat} {b : V × List Int} {t : Addr} {v : Value}
    (I : Inv X pins σ H s) (kp : ∀ b o, s.heap.get? b = some o → h.get? b = some o) (hb0 : b.1 = .ref t) (ht : SqT X.K H t (b.2.map V.int)) (rv : RelV b.1 v) (hd : A.depth < recursionLimit)
    (hf : s.heap.get? f = some (PySem.W.kla_obj "<lambda>" qual params (lamB x p1 p2 p3 p4 p5 kk) scope [] pm c' ctv)) (hc : H c' = some (LamX.CodeO c' qual))
    (hbind : ∀ u, bindArgs (PySem.W.kla_fn "<lambda>" qual params (lamB x p1 p2 p3 p4 p5 kk) scope [] pm (.ref c') ctv) ⟨[u], []⟩ = pure [(x, u)])
    (hk : scope.kind = .function) (hco : scope.isCoroutine = false) (hgen : scope.isGenerator = false) (hcell : ∀ y ∈ scope.names, y.2 ≠ .cell) (hx : scope.names.lookup x = some .local) (hlen : scope.names.lookup ("len" : Str) = some .globalImplicit) (hdb : (x == ("__debug__" : Str)) = false)
    (hm : X.mg ("len" : Str) = none) (hsz : b.2.length ≤ 100000) :
    wpAny (model X.prog X.w) A (call (.ref f) [v]) (PySem.W.KeyPure (kyT b) { s with heap := h, toks := tk }) (fun _ _ => False) { s with heap := h, toks := tk } := by
  obtain ⟨bv, ns⟩ := b
  have hb0 : bv = V.ref t := hb0
  rw [show (bv, ns).1 = V.ref t from hb0] at rv
  have ht : SqT X.K H t (ns.map V.int) := ht
  have hsz : ns.length ≤ 100000 := hsz
  obtain rfl : v = Value.ref t := rv
  obtain ⟨its, r, tp, _⟩ := I.tuple ht
  have hi := r.ints
  have hof : h.get? f = some (PySem.W.kla_obj "<lambda>" qual params (lamB x p1 p2 p3 p4 p5 kk) scope [] pm c' ctv) := kp _ _ hf
  obtain ⟨⟨oc, vs, tq, hoc, hdc, hvc⟩, _, _⟩ := I.hok c' _ hc
  obtain ⟨mb, hmb1, hmb2⟩ := I.mod.blt
  have G : h.Ns mainGlobals X.mg := (I.mod.glob.keeps I.bk).keeps kp
  have Bn : h.Ns builtinsNs mb := (hmb1.keeps I.bk).keeps kp
  have lim : h.NoLimit := (I.nolimit).keeps kp
  have tph : IsTup h t its.toArray := by
    obtain ⟨o, ho, rest⟩ := tp
    exact ⟨o, kp _ _ ho, rest⟩
  have iz : its.toArray.size = ns.length := by rw [List.size_toArray, ← r.length, List.length_map]
  refine wpAny_call (PySem.W.kla_callFunE hd hof rfl hco hgen rfl ⟨c', oc, vs, tq, rfl, kp _ _ hoc, hdc, hvc⟩ ?_)
  rw [hbind]
  refine wpAny_pure (wpAny_newFunctionEnv hcell (fun y hy => by rw [List.mem_singleton.mp hy]; exact hx) (fun h₁ hns hsb => ⟨lim.fresh _ hsb, ?_⟩) hk)
  show codeAny _ _ (.expr (lamB x p1 p2 p3 p4 p5 kk) (PySem.W.envX qual scope h.objs.size f (.ref c') [])) _ _
  have k1 : ∀ b o, h.get? b = some o → h₁.get? b = some o := fun b o e => hsb.extBut b o (Nat.ne_of_lt (Heap.lt_size e)) (Heap.get?_push_of_some _ e)
  have hxk : (PySem.W.envX qual scope h.objs.size f (.ref c') []).kindOf x = some .local := hx
  have hlk : (PySem.W.envX qual scope h.objs.size f (.ref c') []).kindOf "len" = some .globalImplicit := hlen
  have ldx : ∀ {E : Value → Shared → Prop} {Q : Value → Shared → Prop} {pos : Pos} {s' : Shared}, s'.heap = h₁ → Q (.ref t) s' → wpAny (model X.prog X.w) (A.deeper (PySem.W.envX qual scope h.objs.size f (.ref c') [])) (eval (.Name x pos) (PySem.W.envX qual scope h.objs.size f (.ref c') [])) Q E s' := fun {E Q pos s'} es q =>
    wpAny_Name (hd := hdb) (wpAny_loadName_local (m := fun y => ([(x, Value.ref t)] : List (Str × Value)).reverse.lookup y) hk hxk (by rw [es]; exact hns) (by simp) q)
  refine PySem.W.kla_codeExpr (wpAny_Tuple_spliced ?_)
  show wpAny _ _ (spliced ((false, eval (.Call (.Name "len" p1) [.Name x p2] [] p3) (PySem.W.envX qual scope h.objs.size f (.ref c') [])) :: backTo p5 (starEach [.Name x p4] (PySem.W.envX qual scope h.objs.size f (.ref c') [])))) _ _ _
  refine Calls.spliced_cons (wpAny_Call_Name_kw ?_)
  refine Calls.Name_function_global hk hlk (Calls.loadGlobal_builtin (mg := X.mg) (mb := mb) (G.keeps k1) hm (Bn.keeps k1) ((hmb2 "len" (by decide)).trans b_len) ?_)
  refine PyProof.Rows.callWith_builtin1 ?_
  show wpAny _ _ (spliced ((false, eval (.Name x p2) (PySem.W.envX qual scope h.objs.size f (.ref c') [])) :: backTo p3 (starEach [] (PySem.W.envX qual scope h.objs.size f (.ref c') [])))) _ _ _
  refine Calls.spliced_cons (ldx rfl (Calls.spliced_nil ?_))
  have tp1 : IsTup h₁ t its.toArray := by
    obtain ⟨o, ho, rest⟩ := tph
    exact ⟨o, k1 _ _ ho, rest⟩
  refine PyProof.Rows.len_tuple tp1 (by rw [iz]; omega) ?_
  show wpAny _ _ (spliced ((false, eval (.Name x p4) (PySem.W.envX qual scope h.objs.size f (.ref c') [])) :: backTo p5 (starEach [] (PySem.W.envX qual scope h.objs.size f (.ref c') [])))) _ _ _
  refine Calls.spliced_cons (ldx rfl (Calls.spliced_nil ⟨by show 2 ≤ sizeLine; decide, ?_⟩))
  refine ⟨h₁.push { cls := .type "tuple", data := .seq [Value.int (its.toArray.size : Int) (tk + 1 + 1), Value.ref t].toArray }, tk + 1 + 1 + 1, rfl, fun b o e => Heap.get?_push_of_some _ (k1 b o e), ?_⟩
  obtain ⟨o, ho, hoc', n, hod⟩ := tp1
  have rd : ReadsAll (h₁.push { cls := .type "tuple", data := .seq [Value.int (its.toArray.size : Int) (tk + 1 + 1), Value.ref t].toArray }) [Value.int (its.toArray.size : Int) (tk + 1 + 1), Value.ref t] [.int (ns.length : Int), .tuple (ns.map .int)] ([] ++ ([] ++ [])) := by
    rw [iz]
    exact .cons (.int _ _) (.cons (.tuple (Heap.get?_push_of_some _ ho) hoc' hod (hi.reads _)) .nil)
  exact Reads.tuple (Heap.get?_push_size _ rfl) rfl rfl rd
/-- items and what is told of them -/
def Ky (K : PySem.W.Frag) (H : Hp) (b : V × List Int) : Prop := ∃ t, b.1 = .ref t ∧ SqT K H t (b.2.map V.int) ∧ b.2.length ≤ 100000
/-- sorted(l, key=lambda x: (len(x), x)) of a list that is in this order; the table of the lambda's code object grows -/
def tSortLam (K : PySem.W.Frag) (P : Addr) (tl : TA) : TE := fun σ H Q => tl σ H fun vs H1 => ∃ (a : Addr) (ps : List (V × List Int)), vs = [.ref a] ∧ SqL K H1 a (ps.map (·.1)) ∧ (∀ b ∈ ps, Ky K H1 b) ∧ ps.mergeSort (PySem.W.dataLe false kyT) = ps ∧ H1 P = some (.tbl #[]) ∧
  ∀ H2 q, (∀ b o, b ≠ P → H1 b = some o → H2 b = some o) → H2 q = none → Q (.ref q) (upd H2 q (.lst (ps.map (·.1))))
theorem each_vals : ∀ (ps : List (V × List Int)) (its : List Value), Vals (ps.map (·.1)) its → PySem.W.EachIs (fun u (b : V × List Int) => RelV b.1 u) its ps
  | [], _, h => by cases h; exact .nil
  | _ :: ps, _, h => by cases h with | cons r t => exact .cons r (each_vals ps _ t)
theorem vals_each : ∀ {its : List Value} {ps : List (V × List Int)}, PySem.W.EachIs (fun u (b : V × List Int) => RelV b.1 u) its ps → Vals (ps.map (·.1)) its
  | _, _, .nil => .nil
  | _, _, .cons r t => .cons r (vals_each t)
theorem pe_sortLam {j : Nat} {e : Expr} {params : Arguments} {scope : Scope} {lp kp pos : Pos} {ta : TA} {c P : Addr} {mg : Str → Option Value} (hr : Room j X.A) (hM : X.mg = mg) (B : Bl mg) (hg : Gl X "sorted") (hge : X.env.globals = mainGlobals) (ha : PA X [e] ta)
    (TB : LamX.TabB X.base X.mg c P) (hcode : X.env.code = .ref c) (hdef : defaultsOf params X.env = ([], []))
    (hbind : ∀ (qual : Str) (pm ctv u : Value) (c' : Addr), bindArgs (PySem.W.kla_fn "<lambda>" qual params (lamB x p1 p2 p3 p4 p5 kk) scope [] pm (.ref c') ctv) ⟨[u], []⟩ = pure [(x, u)])
    (hk : scope.kind = .function) (hco : scope.isCoroutine = false) (hgen : scope.isGenerator = false) (hcell : ∀ y ∈ scope.names, y.2 ≠ .cell) (hfree : ∀ y ∈ scope.names, y.2 ≠ .free) (hx : scope.names.lookup x = some .local) (hlen : scope.names.lookup ("len" : Str) = some .globalImplicit) (hdb : (x == ("__debug__" : Str)) = false)
    (he : backTo pos (starEach [e] X.env) = (false, eval e X.env) :: backTo pos (starEach [] X.env) := by rfl) (hpl : (backTo pos (starEach [e] X.env)).any (·.1) = false := by rfl) :
    PE X (.Call (.Name "sorted" p0) [e] [⟨some "key", .Lambda params (lamB x p1 p2 p3 p4 p5 kk) scope lp, kp⟩] pos) (tSortLam X.K P ta) := by
  refine ⟨fun pins s σ H Q I h => ?_⟩
  refine wpAny_Call_Name_kw (ld_blt I hg (by rw [hM]; exact B.sorted) b_sorted ?_)
  refine PyProof.Rows.callWith_kw (thn (ha.run pos pins s σ H _ I h) fun us s1 ⟨vs, H1, I1, r1, a, ps, ev, hS, hps, hsrt, hP, q⟩ => ?_) he hpl rfl rfl
  subst ev
  obtain rfl := Vals.ref1 r1
  show wpAny _ _ (evalAll ((do let v ← eval (.Lambda params (lamB x p1 p2 p3 p4 p5 kk) scope lp) X.env; standAt pos; pure v) :: [])) _ _ s1
  refine wpAny_evalAll_cons (wpAny_bind (PySem.W.kla_eval hdef ?_))
  have hP' : s1.heap.get? P = some { cls := .none, data := .fields #[] } := I1.hok P _ hP
  have clo : closureFor scope X.env = pure (cloFrom X.env.cells scope.names []) := closure_ok fun y hy e => absurd e (hfree y hy)
  have clo0 : cloFrom X.env.cells scope.names [] = [] := by
    cases hq : cloFrom X.env.cells scope.names [] with
    | nil => rfl
    | cons y ys =>
      obtain ⟨n, cc⟩ := y
      rcases cloFrom_mem (show (n, cc) ∈ cloFrom X.env.cells scope.names [] by rw [hq]; exact List.mem_cons_self) with hm | ⟨h1, _⟩
      · cases hm
      · exact absurd rfl (hfree _ h1)
  rw [clo0] at clo
  refine PySem.W.kla_makeFunction (mg := X.mg) (c := c) (P := P) (ps := #[]) clo hge (I1.mod.glob.keeps I1.bk) hcode (TB.code.keeps I1.bk) hP' trivial rfl TB.gP (TB.bm.keeps I1.bk) fun c' ctv h' tk hxx hge' hlt hrec htb => ?_
  obtain ⟨c2, oc, vs2, t2, e2, hoc, hd2, hv2⟩ := hrec
  cases e2
  have hsz : s1.heap.objs.size ≤ h'.objs.size := Nat.le_trans hge' (Nat.le_of_lt hlt)
  have nC : H1 c' = none := I1.hok.fresh hge'
  have nPc : P ≠ c' := ne_of_none hP nC
  generalize hFo : PySem.W.kla_obj "<lambda>" (X.env.qual ++ "<lambda>") params (lamB x p1 p2 p3 p4 p5 kk) scope [] ((X.mg "__name__").getD .none) c' ctv = Fo
  have I2 := LamX.inv_table (t' := tk) (more := #[rawInt lp.line, rawInt lp.col, .ref c']) (h' := h'.push Fo) I1 hP
    (fun b o hb e => Heap.get?_push_of_some _ (hxx b o hb e)) (Heap.get?_push_of_some _ htb) hge' ⟨oc, vs2, t2, Heap.get?_push_of_some _ hoc, hd2, hv2⟩
  generalize hH2 : upd (upd H1 P (.tbl (#[] ++ #[rawInt lp.line, rawInt lp.col, .ref c']))) c' (LamX.CodeO c' (X.env.qual ++ "<lambda>")) = H2 at I2
  have keepH : ∀ b o, b ≠ P → H1 b = some o → H2 b = some o := fun b o hb e => by
    rw [← hH2, upd_ne (ne_of_none e nC), upd_ne hb]
    exact e
  have hcd : H2 c' = some (LamX.CodeO c' (X.env.qual ++ "<lambda>")) := by rw [← hH2, upd_same]
  have hfo : (h'.push Fo).get? h'.objs.size = some Fo := Heap.get?_push_size _ (by rw [← hFo]; rfl)
  generalize hs2 : ({ s1 with heap := h'.push Fo, toks := tk } : Shared) = s2 at I2
  have hfo2 : s2.heap.get? h'.objs.size = some Fo := by rw [← hs2]; exact hfo
  refine wpAny_bind (wpAny_standAt (wpAny_pure (wpAny_evalAll_nil ?_)))
  show wpAny _ _ (call (.builtin "sorted") [.ref a] [(Str.ofString "key", .ref h'.objs.size)]) _ _ _
  have neP : ∀ {b : Addr} {o : HO}, H1 b = some o → (∀ ps, o ≠ .tbl ps) → b ≠ P := fun {b o} e n z => by
    rw [z, hP] at e
    exact n _ (Option.some.inj e).symm
  have hS2 : SqL X.K H2 a (ps.map (·.1)) := by
    rcases hS with (z | ⟨o, z⟩) | z
    · exact .inl (.inl (keepH _ _ (neP z fun ps z => nomatch z) z))
    · exact .inl (.inr ⟨o, keepH _ _ (neP z fun ps z => nomatch z) z⟩)
    · exact .inr z
  have hps2 : ∀ b ∈ ps, Ky X.K H2 b := fun b hb => by
    obtain ⟨t, e1, e2, e3⟩ := hps b hb
    refine ⟨t, e1, ?_, e3⟩
    rcases e2 with (z | ⟨o, z⟩) | z
    · exact .inl (.inl (keepH _ _ (neP z fun ps z => nomatch z) z))
    · exact .inl (.inr ⟨o, keepH _ _ (neP z fun ps z => nomatch z) z⟩)
    · exact .inr z
  obtain ⟨its, rv, hl, hz⟩ := I2.list hS2
  have hdep : ∀ b, (kyT b).depth ≤ 3 := fun b => by
    have := PySem.W.depth_ints b.2
    simp [kyT, PyData.depth, PyData.depthAll, this]
  refine PySem.W.sorted_key_data (b := false) (R := fun u (b : V × List Int) => RelV b.1 u) kyT hl.isList (each_vals _ _ rv) ?_ ?_ (by rw [← List.length_map (f := (·.1))]; exact hz) (fun b _ => by have := hdep b; have := hr.un; omega) (PyProof.Rows.ksk_s1 _ _) (fun _ => PyProof.Rows.ksk_l1 _ _) (fun _ => PyProof.Rows.ksk_t1 _ _) (fun v b rb hb h tk kp => ?_) (fun out c hh tk2 kp fr hq hlen hout => ?_)
  · exact PySem.W.AllAlike.of fun b b' => by
      have := PySem.W.alike_ints b.2 b'.2
      simp [kyT, PySem.W.alike, PySem.W.alikeAll, this]
  · exact PySem.W.Sortable.tuples fun b => ⟨_, _, rfl⟩
  · obtain ⟨t, e1, e2, e3⟩ := hps2 b hb
    exact lam_turn I2 kp e1 e2 rb (show X.A.depth < _ by have := hr.dp; omega) (by rw [hfo2, ← hFo]) hcd (fun u => hbind _ _ _ u _) hk hco hgen hcell hx hlen hdb (by rw [hM]; exact B.len) e3
  · rw [hsrt] at hout
    have vo := vals_each hout
    have nL : H2 (s2.heap.objs.size + 1) = none := I2.hok.fresh (Nat.le_succ _)
    refine ⟨.ref (s2.heap.objs.size + 1), upd H2 (s2.heap.objs.size + 1) (.lst (ps.map (·.1))), I2.laid (t' := tk2) kp (Nat.le_succ _) ⟨hz, out, c, vo, hq⟩, rfl, q H2 _ keepH nL⟩
end
end Fc

namespace Fc
open PySem PySem.Spec PyProof.Rows L2
/-! ## the order (length, words) -/
/-- at the first place where they differ the one is smaller -/
def lx (m n : List Nat) : Prop := ∃ p a b q r, m = p ++ a :: q ∧ n = p ++ b :: r ∧ a < b
/-- shorter, or as long and smaller -/
def wLe (m n : List Nat) : Prop := m.length < n.length ∨ (m.length = n.length ∧ lx m n)
abbrev zI (m : List Nat) : List Int := m.map fun (x : Nat) => (x : Int)
theorem lx_not {m n : List Nat} (h : lx m n) : ¬ zI n < zI m := by
  obtain ⟨p, a, b, q, r, rfl, rfl, hab⟩ := h
  induction p with
  | nil =>
    intro h
    have h : List.Lex (· < ·) ((b : Int) :: zI r) ((a : Int) :: zI q) := h
    cases h with
    | cons h => omega
    | rel h => omega
  | cons x p ih =>
    intro h
    have h : List.Lex (· < ·) ((x : Int) :: zI (p ++ b :: r)) ((x : Int) :: zI (p ++ a :: q)) := h
    cases h with
    | cons h => exact ih h
    | rel h => omega
theorem dataLe_w {u v : V} {m n : List Nat} (h : wLe m n) : PySem.W.dataLe false kyT (u, zI m) (v, zI n) = true := by
  have e : PySem.W.dataLe false kyT (u, zI m) (v, zI n) = !PySem.W.dataLt (kyT (v, zI n)) (kyT (u, zI m)) := rfl
  rw [e]
  have hal : PySem.W.alike (.tuple ((zI n).map .int)) (.tuple ((zI m).map .int)) = true := by
    have := PySem.W.alike_ints (zI n) (zI m)
    simpa [PySem.W.alike] using this
  unfold kyT
  rw [PySem.W.dataLt_pair (by simp [PySem.W.alike]) hal]
  have lt : PySem.W.dataLt (.tuple ((zI n).map .int)) (.tuple ((zI m).map .int)) = decide (zI n < zI m) := PySem.W.dataLt_ints (zI n) (zI m)
  rw [PySem.W.dataLt_int, lt]
  have ln : (zI n).length = n.length := List.length_map ..
  have lm : (zI m).length = m.length := List.length_map ..
  show (!(if PyData.eqv (.int ((zI n).length : Int)) (.int ((zI m).length : Int)) = true then _ else _)) = true
  rw [ln, lm]
  rcases h with h | ⟨h1, h2⟩
  · rw [if_neg (by simp only [PyData.eqv, beq_iff_eq]; omega), decide_eq_false (by omega)]
    rfl
  · rw [if_pos (by simp only [PyData.eqv, beq_iff_eq]; omega)]
    split
    · rfl
    · rw [decide_eq_false (lx_not h2)]
      rfl
theorem sorted_w : ∀ {vs : List V} {ws : List (List Nat)}, vs.length = ws.length → ws.Pairwise wLe → ((vs.zip (ws.map zI)).mergeSort (PySem.W.dataLe false kyT)) = vs.zip (ws.map zI) := fun {vs ws} hl hp => by
  refine List.mergeSort_of_pairwise ?_
  induction ws generalizing vs with
  | nil => rw [List.map_nil, List.zip_nil_right]; exact .nil
  | cons w ws ih =>
    cases vs with
    | nil => exact .nil
    | cons v vs =>
      rw [List.map_cons, List.zip_cons_cons]
      obtain ⟨h1, h2⟩ := List.pairwise_cons.mp hp
      refine List.pairwise_cons.mpr ⟨fun b hb => ?_, ih (by simpa using hl) h2⟩
      obtain ⟨u, y⟩ := b
      obtain ⟨z, hz, rfl⟩ := List.mem_map.mp (List.of_mem_zip hb).2
      exact dataLe_w (h1 z hz)
/-! ## the readings -/
section
variable {K : PySem.W.Frag} {H0 H H' : Hp} {G G' : Ga} {L L' N L1 : Hl} {σ : L2.St} {te tu : TE} {d x y z : D} {ds : List D} {b c : Bool} {r : R2}
/-- words as data -/
abbrev wD (w : List Nat) : D := .tup ((zI w).map D.int)
theorem im_words : ∀ {vs : List V} {ws : List (List Nat)}, ImL K H vs (ws.map wD) → (∀ w ∈ ws, w.length ≤ 100000) → ∀ b ∈ vs.zip (ws.map zI), Ky K H b
  | _, [], .nil, _, b, hb => by simp at hb
  | _ :: _, w :: ws, .cons i t, hw, b, hb => by
    rw [List.map_cons, List.zip_cons_cons] at hb
    rcases List.mem_cons.mp hb with rfl | hb
    · cases i with
      | tup hq il =>
        have e := il.ints
        subst e
        exact ⟨_, rfl, hq, by show (zI w).length ≤ _; rw [List.length_map]; exact hw w List.mem_cons_self⟩
    · exact im_words t (fun w h => hw w (List.mem_cons_of_mem _ h)) b hb
theorem em_sortLam {ta : TA} {a P : Addr} {k : Nat} {ws : List (List Nat)} (ha : EvA K H0 G L ta [.ref a]) (hk : Lk K H0 L a (.lst (ws.map wD))) (hP : L[k]? = some (P, .tb0)) (hw : ∀ w ∈ ws, w.length ≤ 100000) (hs : ws.Pairwise wLe) :
    EvM K H0 G L (tSortLam K P ta) (fun d L' => ∃ q, d = .ref q ∧ L' = (q, .lst (ws.map wD)) :: L.eraseIdx k) := fun σ H st Q q => ha σ H st _ fun vs H1 e1 i1 => by
  have st1 := st.same e1
  cases i1 with
  | cons i0 i1 =>
  cases i1
  cases i0
  obtain ⟨xs, hx, il⟩ := hk.rdo st1.hs
  obtain ⟨u, hu, ob⟩ := st1.hs.own _ (List.mem_of_getElem? hP)
  have hu0 : H1 P = some (.tbl #[]) := by
    cases u <;> first | exact ob.elim | skip
    have ob : _ = _ := ob
    subst ob
    exact hu
  have hlen : xs.length = ws.length := by rw [il.length, List.length_map]
  have em : (xs.zip (ws.map zI)).map (·.1) = xs := List.map_fst_zip (by rw [List.length_map]; omega)
  refine ⟨a, xs.zip (ws.map zI), rfl, by rw [em]; exact hx, im_words il hw, sorted_w hlen hs, hu0, fun H2 p keep hp => ?_⟩
  rw [em]
  have hPn : H0 P = none := st1.hs.new _ (List.mem_of_getElem? hP)
  have tx : TX H1 H2 := ⟨fun b z e => keep b _ (fun q => by rw [q, hu0] at e; cases e) e, fun b o z e => keep b _ (fun q => by rw [q, hu0] at e; cases e) e⟩
  have hs2 : HS K H0 (L.eraseIdx k) H2 := by
    refine ⟨fun b o e => keep b o (ne_of_none e hPn) (st1.hs.ext b o e), fun z hz => ?_, ?_, fun z hz => st1.hs.new z (List.mem_of_mem_eraseIdx hz)⟩
    · obtain ⟨u, h1, h2⟩ := st1.hs.own z (List.mem_of_mem_eraseIdx hz)
      exact ⟨u, keep _ _ (er_ne st1.hs.nd hP hz) h1, h2.tx tx⟩
    · exact ((List.eraseIdx_sublist L k).map _).nodup st1.hs.nd
  have sm : Same H2 (upd H2 p (.lst xs)) := Same.new hp
  have st2 : Stt K H0 G (L.eraseIdx k) σ H2 := ⟨hs2, st1.vr.tx tx⟩
  have il2 := il.tx (tx.trans (Same.tx sm))
  exact q (.ref p) _ (.ref p) _ ⟨p, rfl, rfl⟩ ((Same.tx e1).trans (tx.trans (Same.tx sm))) (st2.add (N := [(p, .lst (ws.map wD))]) sm (fun z hz => by rw [List.mem_singleton.mp hz]; exact hp) (by simp) (fun z hz => by rw [List.mem_singleton.mp hz]; exact ⟨_, upd_same, il2⟩)) (.ref p)
/-- the second of two writes -/
theorem em_op {P : D → Hl → Prop} (ha : EvP K H0 G L te x) (hb : EvM K H0 G L tu P) (hr : ∀ d L', P d L' → RvP K H0 L' r x d z) : EvM K H0 G L (tOp r te tu) (fun d L' => d = z ∧ ∃ d', P d' L') := fun σ H st Q q =>
  ha σ H st _ fun u H1 e1 i1 => hb σ H1 (st.same e1) _ fun v H2 d L' p t st2 i2 => hr d L' p H2 u v st2.hs (i1.tx t) i2 _ fun w H3 e3 i3 =>
    q w H3 z L' ⟨rfl, d, p⟩ (((Same.tx e1).trans t).trans (Same.tx e3)) (st2.same e3) i3
theorem em_andV {P : D → Hl → Prop} (ha : EvP K H0 G L te (.bl b)) (h2 : b = true → EvM K H0 G L tu (fun d L' => d = .bl c ∧ P d L')) (h3 : b = false → P (.bl false) L) : EvM K H0 G L (tAndV te tu) (fun d L' => d = .bl (b && c) ∧ P d L') := fun σ H st Q q => ha σ H st _ fun v H1 e1 i => by
  cases i
  refine ⟨b, rfl, ?_⟩
  cases b with
  | true => exact iteT (h2 rfl σ H1 (st.same e1) _ fun v H2 d L' p t st2 i2 => q v H2 d L' p ((Same.tx e1).trans t) st2 i2)
  | false => exact iteF (q _ H1 (.bl false) L ⟨rfl, h3 rfl⟩ (Same.tx e1) (st.same e1) (.bl _))
/-- == of lists -/
theorem rv_eqL {a a' : Addr} {n : Nat} (h1 : Lk K H0 L a (.lst ds)) (h2 : Lk K H0 L a' (.lst ds)) (hds : ∀ d ∈ ds, pok n d = true) (hn : n ≤ 60) : RvP K H0 L (rEqD K) (.ref a) (.ref a') (.bl true) := fun H u v s i1 i2 Q q => by
  cases i1
  cases i2
  obtain ⟨xs, hx, il⟩ := h1.rdo s
  obtain ⟨ys, hy, jl⟩ := h2.rdo s
  refine ⟨_, _, .lst hx (dpl_of ds xs n (pokl_mem hds) il), .lst hy (dpl_of ds ys n (pokl_mem hds) jl), sh_list hds hn, sh_list hds hn, ?_⟩
  have : PyData.eqv (.list (pdl ds)) (.list (pdl ds)) = true := by
    have := (eqvl_pd ds ds n n (pokl_mem hds) (pokl_mem hds)).mpr rfl
    simpa [PyData.eqv] using this
  rw [this]
  exact q _ H (Same.refl H) (.bl _)
end
end Fc

namespace Fc
open PySem PySem.Spec PyProof.Rows L2 GenW
/-! ## a generator whose items a list comprehension takes: for, if and yield in its body; two objects are the consumer's: the list S, the namespace C -/
/-- while the generator sleeps: the item goes behind the list, the namespace changes, all else is kept -/
structure Slp (S C : Addr) (v : Value) (s s' : Shared) : Prop where
  os : s'.os = s.os
  bare : AllBare s'.gens
  keep : ∀ b o, b ≠ S → b ≠ C → s.heap.get? b = some o → s'.heap.get? b = some o
  own : ∀ acc c, s.heap.get? S = some (lstObj acc c) → ∃ c', s'.heap.get? S = some (lstObj (acc.push v) c')
  oth : ∀ o, s.heap.get? C = some o → ∃ o', s'.heap.get? C = some o' ∧ ∀ v, o'.data ≠ .cell v
def GIc (X : Cx) (S C : Addr) (oc : Obj) (ip : List (Addr × Obj)) (ys : List V) (σ : L2.St) (H : Hp) (s : Shared) : Prop :=
  ∃ (acc : Array Value) (c : Nat), Vals ys acc.toList ∧ Inv X ((S, lstObj acc c) :: (C, oc) :: ip) σ H s
theorem GIc.woken {X : Cx} {S C : Addr} {oc : Obj} {ip : List (Addr × Obj)} {ys : List V} {x : V} {v : Value} {σ : L2.St} {H : Hp} {s s' : Shared} (hpn : ∀ p ∈ X.pn, p.1 ≠ S ∧ p.1 ≠ C) (hip : ∀ p ∈ ip, p.1 ≠ S ∧ p.1 ≠ C) (hA : Apart X S) (hB : Apart X C) (h : GIc X S C oc ip ys σ H s) (rv : RelV x v) (z : Slp S C v s s') :
    ∃ oc', s'.heap.get? C = some oc' ∧ GIc X S C oc' ip (ys ++ [x]) σ H s' := by
  obtain ⟨acc, c, r, I⟩ := h
  obtain ⟨eS, hS0, hSL, hSf, _⟩ := I.pin (S, lstObj acc c) (List.mem_append_right _ List.mem_cons_self)
  obtain ⟨eC, hC0, hCL, hCf, hCd⟩ := I.pin (C, oc) (List.mem_append_right _ (List.mem_cons_of_mem _ List.mem_cons_self))
  have I0 : Inv X ip σ H s := I.pins_of fun p hp => I.pin p (List.mem_append_right _ (List.mem_cons_of_mem _ (List.mem_cons_of_mem _ hp)))
  have nS : ∀ b u, H b = some u → b ≠ S := fun b u q hb => by rw [hb, hS0] at q; cases q
  have nC : ∀ b u, H b = some u → b ≠ C := fun b u q hb => by rw [hb, hC0] at q; cases q
  obtain ⟨z1, z2, z3, z4, z5⟩ := z
  obtain ⟨c', eS'⟩ := z4 acc c eS
  obtain ⟨oc', eC', hd'⟩ := z5 oc eC
  have nc : ∀ b, b ∉ [S, C] → b ≠ S ∧ b ≠ C := fun b hb => ⟨fun e => hb (by rw [e]; exact List.mem_cons_self), fun e => hb (by rw [e]; exact List.mem_cons_of_mem _ List.mem_cons_self)⟩
  have J : Inv X ip σ H s' := by
    refine I0.call' (ch := [S, C]) z1 ⟨fun b ob q _ _ hx => z3 b ob (nc b hx).1 (nc b hx).2 q, fun b ob q _ _ hx => ⟨ob.slots, z3 b ob (nc b hx).1 (nc b hx).2 q⟩, fun b ob q n hx => n, fun b ob q hx => ⟨ob, z3 b ob (nc b hx).1 (nc b hx).2 q⟩, fun _ _ q => q, fun _ _ _ q => q, fun b ps q => ⟨#[], by rw [q]; simp⟩⟩ (fun b u q => ?_) z2 (fun b hb => ?_)
    · refine (I0.hok b u q).stay (fun c v hc y => ?_) (fun _ y => y) fun _ _ y => y
      have hc' : H c ≠ none := by
        rcases hc with y | y
        · rw [y, q]; exact fun z => nomatch z
        · rw [y]; exact fun z => nomatch z
      cases e : H c with
      | none => exact absurd e hc'
      | some w => exact z3 c v (nS c w e) (nC c w e) y
    · have key : ∀ T, Apart X T → (∀ p ∈ X.pn, p.1 ≠ T) → (∀ p ∈ ip, p.1 ≠ T) → (T ∈ X.ex ∨ X.s_0.heap.objs.size ≤ T) ∧ T ≠ X.env.locals ∧ (∀ x c, X.env.cells.lookup x = some c → c ≠ T) ∧ ∀ p ∈ X.pn ++ ip, p.1 ≠ T := fun T hT h1 h2 =>
        ⟨.inr hT.1, hT.2.1, hT.2.2, fun p hp => (List.mem_append.mp hp).elim (h1 p) (h2 p)⟩
      rcases List.mem_cons.mp hb with rfl | hb
      · exact key _ hA (fun p hp => (hpn p hp).1) (fun p hp => (hip p hp).1)
      · rw [List.mem_singleton.mp hb]
        exact key _ hB (fun p hp => (hpn p hp).2) (fun p hp => (hip p hp).2)
  refine ⟨oc', eC', acc.push v, c', ?_, J.pins_of fun p hp => ?_⟩
  · rw [Array.toList_push]
    exact r.append (.cons rv .nil)
  · rcases List.mem_cons.mp hp with hp | hp
    · rw [hp]
      exact ⟨eS', hS0, hSL, hSf, fun v q => by cases q⟩
    · rcases List.mem_cons.mp hp with hp | hp
      · rw [hp]
        exact ⟨eC', hC0, hCL, hCf, hd'⟩
      · exact J.pin p (List.mem_append_right _ hp)
/-! ### the protocol -/
def GYc (X : Cx) (S C : Addr) : Protocol := fun n s₀ v s kap =>
  ∃ ys x oc ip σ H, n + 1 + ys.length = sizeLine ∧ RelV x v ∧ s₀.heap.get? C = some oc ∧ GIc X S C oc ip ys σ H s ∧ ∀ s', Slp S C v s s' → kap (.send .none) s'
def GRc (X : Cx) (S C : Addr) (Q : List V → VK) (F : Value → Shared → Prop) : GenEnd := fun n s₀ r s => match r with
  | .ok (.ret u) => ∃ ys v oc ip σ H, n + ys.length = sizeLine ∧ s₀.heap.get? C = some oc ∧ GIc X S C oc ip ys σ H s ∧ RelV v u ∧ Q ys v H
  | .ok _ => False
  | .error e => F e s
def GSPc (X : Cx) (S C : Addr) (oc : Obj) (ip : List (Addr × Obj)) (D : GEnds) (ys : List V) (f : Flow) (s : Shared) : Prop :=
  match f with
  | .next => ∃ σ H, GIc X S C oc ip ys σ H s ∧ D.nx ys σ H
  | .brk => ∃ σ H, GIc X S C oc ip ys σ H s ∧ D.bk ys σ H
  | .cont => ∃ σ H, GIc X S C oc ip ys σ H s ∧ D.ct ys σ H
  | .ret u => ∃ v σ H, GIc X S C oc ip ys σ H s ∧ RelV v u ∧ D.rt ys v H
structure GCc (X : Cx) (S C : Addr) (ip : List (Addr × Obj)) (A : Around) (c : Code) (fs : List Frame) (gd : Bool → Bool) : Prop where
  pn : ∀ p ∈ X.pn, p.1 ≠ S ∧ p.1 ≠ C
  ip : ∀ p ∈ ip, p.1 ≠ S ∧ p.1 ≠ C
  apS : Apart X S
  apC : Apart X C
  over : A.over c fs = X.A
  split : splitAtGen fs = none
  guard : fs.any Frame.guarded = false
  gd : gd false = false
structure GKc (X : Cx) (S C : Addr) (ip : List (Addr × Obj)) (A : Around) (R : GenEnd) (c : Code) (fs : List Frame) (K : Flow → Sem PySem.Fin) (J : Value → Sem PySem.Fin) (D : GEnds) : Prop where
  ok : ∀ (n : Nat) (ys : List V) (oc : Obj) (s₀ s : Shared) (f : Flow), n + ys.length = sizeLine → s₀.heap.get? C = some oc → GSPc X S C oc ip D ys f s → Seg (model X.prog X.w) A R (GYc X S C) n s₀ c (K f) fs s
  exc : ∀ (n : Nat) (s₀ : Shared) (e : Value) (s : Shared), X.xe e s → Seg (model X.prog X.w) A R (GYc X S C) n s₀ c (J e) fs s
structure GSc (X : Cx) (st : Stmt) (t : TGn) : Prop where
  run : ∀ (A : Around) (S C : Addr) (oc : Obj) (ip : List (Addr × Obj)) (R : GenEnd) (n : Nat) (ys : List V) (s₀ : Shared) (c : Code) (fs : List Frame) (K : Flow → Sem PySem.Fin) (J : Value → Sem PySem.Fin) (gd : Bool → Bool) (lv : List Value → List Value) (s : Shared) (σ : L2.St) (H : Hp) (D : GEnds),
    GCc X S C ip A c fs gd → n + ys.length = sizeLine → s₀.heap.get? C = some oc → GKc X S C ip A R c fs K J D → GIc X S C oc ip ys σ H s → t D ys σ H →
    Seg (model X.prog X.w) A R (GYc X S C) n s₀ c ((exec st X.env).wrap K J gd lv) fs s
structure GScs (X : Cx) (st : List Stmt) (t : TGn) : Prop where
  run : ∀ (A : Around) (S C : Addr) (oc : Obj) (ip : List (Addr × Obj)) (R : GenEnd) (n : Nat) (ys : List V) (s₀ : Shared) (c : Code) (fs : List Frame) (K : Flow → Sem PySem.Fin) (J : Value → Sem PySem.Fin) (gd : Bool → Bool) (lv : List Value → List Value) (s : Shared) (σ : L2.St) (H : Hp) (D : GEnds),
    GCc X S C ip A c fs gd → n + ys.length = sizeLine → s₀.heap.get? C = some oc → GKc X S C ip A R c fs K J D → GIc X S C oc ip ys σ H s → t D ys σ H →
    Seg (model X.prog X.w) A R (GYc X S C) n s₀ c ((execs st X.env).wrap K J gd lv) fs s
section
variable {X : Cx} {st : Stmt} {rest : List Stmt}
theorem sp_gspc {S C : Addr} {oc : Obj} {acc : Array Value} {c : Nat} {ip : List (Addr × Obj)} {s : Shared} {D : GEnds} {ys : List V} {f : Flow} (r : Vals ys acc.toList) (h : SP X ((S, lstObj acc c) :: (C, oc) :: ip) (D.at ys) f s) : GSPc X S C oc ip D ys f s := by
  cases f with
  | next => obtain ⟨σ, H, I, q⟩ := h; exact ⟨σ, H, ⟨acc, c, r, I⟩, q⟩
  | brk => obtain ⟨σ, H, I, q⟩ := h; exact ⟨σ, H, ⟨acc, c, r, I⟩, q⟩
  | cont => obtain ⟨σ, H, I, q⟩ := h; exact ⟨σ, H, ⟨acc, c, r, I⟩, q⟩
  | ret u => obtain ⟨v, σ, H, I, r1, q⟩ := h; exact ⟨v, σ, H, ⟨acc, c, r, I⟩, r1, q⟩
theorem gsc_ps {t : TS} (h : PS X st t) : GSc X st (tPlain t) := by
  refine ⟨fun A S C oc ip R n ys s₀ c fs K J gd lv s σ H D g hn h0 k hI ht => ?_⟩
  obtain ⟨acc, cc, r, I⟩ := hI
  refine seg_wrap ?_
  rw [g.over]
  exact wpAny_mono (h.run _ s σ H (D.at ys) I ht) (fun f s' hs => k.ok n ys oc s₀ s' f hn h0 (sp_gspc r hs)) fun x s' hx => k.exc n s₀ x s' hx
theorem gscs_nil : GScs X [] tG0 := by
  refine ⟨fun A S C oc ip R n ys s₀ c fs K J gd lv s σ H D g hn h0 k hI ht => ?_⟩
  exact seg_execs_nil (k.ok n ys oc s₀ s .next hn h0 ⟨σ, H, hI, ht⟩)
theorem gscs_cons {t u : TGn} (a : GSc X st t) (b : GScs X rest u) : GScs X (st :: rest) (tGThen t u) := by
  refine ⟨fun A S C oc ip R n ys s₀ c fs K J gd lv s σ H D g hn h0 k hI ht => ?_⟩
  refine seg_execs_cons ?_
  refine a.run A S C oc ip R n ys s₀ c fs _ J gd lv s σ H { D with nx := fun ys' σ' H' => u D ys' σ' H' } g hn h0 ⟨fun n' ys' oc' s₀' s' f hn' h0' hs => ?_, k.exc⟩ hI ht
  cases f with
  | next =>
    obtain ⟨σ', H', I', q⟩ := hs
    exact b.run A S C oc' ip R n' ys' s₀' c fs K J gd lv s' σ' H' D g hn' h0' k I' q
  | brk => exact k.ok n' ys' oc' s₀' s' .brk hn' h0' hs
  | cont => exact k.ok n' ys' oc' s₀' s' .cont hn' h0' hs
  | ret u => exact k.ok n' ys' oc' s₀' s' (.ret u) hn' h0' hs
theorem gsc_yield {e : Expr} {yp pos : Pos} {te : TE} (he : PE X e te) (hco : X.env.scope.isCoroutine = false := by rfl) (hi : interactive X.env = false := by rfl) : GSc X (.Expr (.Yield (some e) yp) pos) (tGYield te) := by
  refine ⟨fun A S C oc ip R n ys s₀ c fs K J gd lv s σ H D g hn h0 k hI ht => ?_⟩
  obtain ⟨hlt, ht⟩ := ht
  obtain ⟨n, rfl⟩ : ∃ m, n = m + 1 := ⟨n - 1, by omega⟩
  obtain ⟨acc, cc, r, I⟩ := hI
  refine seg_Expr_Yield g.split g.gd g.guard ?_ hco hi
  rw [g.over]
  refine wpAny_mono (he.run _ s σ H _ I ht) (fun v s' hv => ?_) fun x s' hx => k.exc _ s₀ x s' hx
  obtain ⟨x, H1, I1, rv, q⟩ := hv
  have G1 : GIc X S C oc ip ys σ H1 s' := ⟨acc, cc, r, I1⟩
  intro kap hk
  refine ⟨ys, x, oc, ip, σ, H1, hn, rv, h0, G1, fun s'' z => hk .none s'' ?_⟩
  obtain ⟨oc', e', G2⟩ := G1.woken g.pn g.ip g.apS g.apC rv z
  refine k.ok n (ys ++ [x]) oc' s'' s'' .next ?_ e' ⟨σ, H1, G2, q⟩
  rw [List.length_append, List.length_singleton]; omega
/-! ### if -/
def tGIf (c : TT) (t u : TGn) : TGn := fun D ys σ H => c σ H fun b H1 => if b = true then t D ys σ H1 else u D ys σ H1
theorem gsc_if {test : Expr} {body orelse : List Stmt} {pos : Pos} {c : TT} {t u : TGn} (hc : PT X test c) (a : GScs X body t) (b : GScs X orelse u) : GSc X (.If test body orelse pos) (tGIf c t u) := by
  refine ⟨fun A S C oc ip R n ys s₀ cd fs K J gd lv s σ H D g hn h0 k hI ht => ?_⟩
  obtain ⟨acc, cc, r, I⟩ := hI
  refine seg_at ?_
  refine seg_bind_wrap (wpAny_pure ?_)
  refine seg_bind_wrap ?_
  rw [g.over]
  refine wpAny_mono (hc.run _ s σ H _ I ht) (fun v s' hv => ?_) fun x s' hx => k.exc _ s₀ x s' hx
  obtain ⟨H1, I1, q⟩ := hv
  cases v with
  | true =>
    rw [if_pos rfl] at q
    exact a.run A S C oc ip R n ys s₀ cd fs K J gd lv s' σ H1 D g hn h0 k ⟨acc, cc, r, I1⟩ q
  | false =>
    rw [if_neg Bool.false_ne_true] at q
    exact b.run A S C oc ip R n ys s₀ cd fs K J gd lv s' σ H1 D g hn h0 k ⟨acc, cc, r, I1⟩ q
end
/-! ### for -/
abbrev HXc (env : Env) (e : Value) : Sem PySem.Fin := (do noteFrame e env; theTreesLotGoes e : Sem Unit).bind fun _ => .raise e
abbrev loopK (c : Code) (f : Flow) : Sem PySem.Fin := match f with
  | .next | .cont => .pure (.again c)
  | .brk => .pure (.done .next)
  | .ret v => .pure (.done (.ret v))
theorem seg_forLoop {prog : Program} {w : World} {A : Around} {R : GenEnd} {Y : Protocol} {n : Nat} {s₀ : Shared} {fs : List Frame} {s : Shared} {env : Env} {target : Expr} {it : Value} {body : List Stmt}
    (h : wpAny (model prog w) (A.over (.forLoop target it body [] env) fs) (pyNext it) (fun r s' => match r with
      | none => Seg (model prog w) A R Y n s₀ (.forLoop target it body [] env) (.pure (.again (.block [] env))) fs s'
      | some v => wpAny (model prog w) (A.over (.forLoop target it body [] env) fs) (letOwnedTupleGo target it v) (fun _ s1 => wpAny (model prog w) (A.over (.forLoop target it body [] env) fs) (assign target env v) (fun _ s2 =>
          Seg (model prog w) A R Y n s₀ (.forLoop target it body [] env) ((execs body env).wrap (loopK (.forLoop target it body [] env)) (HXc env) id id) fs s2)
          (fun x s' => Seg (model prog w) A R Y n s₀ (.forLoop target it body [] env) (HXc env x) fs s') s1) (fun x s' => Seg (model prog w) A R Y n s₀ (.forLoop target it body [] env) (HXc env x) fs s') s')
      (fun x s' => Seg (model prog w) A R Y n s₀ (.forLoop target it body [] env) (HXc env x) fs s') s) :
    Seg (model prog w) A R Y n s₀ (.forLoop target it body [] env) ((model prog w).den (.forLoop target it body [] env)) fs s := by
  show Seg _ A R Y n s₀ _ ((forTurn target it body [] env).onRaise (fun x => do noteFrame x env; theTreesLotGoes x)) fs s
  rw [Sem.onRaise_eq_wrap]
  unfold forTurn
  refine seg_bind_wrap (wpAny_standAt ?_)
  refine seg_bind_wrap (wpAny_onRaise (wpAny_mono h (fun r s' hr => ?_) fun x s' hx => wpAny_standAt hx))
  cases r with
  | none => exact hr
  | some v =>
    refine seg_bind_wrap (wpAny_mono hr (fun _ s1 h1 => ?_) fun _ _ e => e)
    refine seg_bind_wrap (wpAny_mono h1 (fun _ s2 h2 => ?_) fun _ _ e => e)
    rw [Sem.bind_eq_wrap', Sem.wrap_wrap]
    rw [Sem.wrap_congr (execs body env) _ _ (K' := loopK (.forLoop target it body [] env)) (H' := HXc env) (fun f => by cases f <;> rfl) (fun e => by rfl)]
    exact h2
section
variable {X : Cx}
theorem gcc_loop {S C : Addr} {ip : List (Addr × Obj)} {A : Around} {c c' : Code} {fs : List Frame} {gd : Bool → Bool} {k : Result → Sem PySem.Fin} {l kp : List Value} {p : Pos} (g : GCc X S C ip A c fs gd) (hw : c'.weight = 0) (hu : c'.cUnits = 0) {ip' : List (Addr × Obj)} (hip : ∀ p ∈ ip', p.1 ≠ S ∧ p.1 ≠ C) :
    GCc X S C ip' A c' (.ret k none (gd false) l c p kp :: fs) id where
  pn := g.pn
  ip := hip
  apS := g.apS
  apC := g.apC
  over := (over_loop hw hu).trans g.over
  split := by
    show (splitAtGen fs).map _ = none
    rw [g.split]; rfl
  guard := by
    show (gd false || fs.any Frame.guarded) = false
    rw [g.gd, g.guard]; rfl
  gd := rfl
theorem seg_back {S C : Addr} {ip : List (Addr × Obj)} {A : Around} {R : GenEnd} {c : Code} {fs : List Frame} {K : Flow → Sem PySem.Fin} {J : Value → Sem PySem.Fin} {gd : Bool → Bool} {lv : List Value → List Value} {D : GEnds} {n : Nat} {s₀ s : Shared} {e : Value}
    (g : GCc X S C ip A c fs gd) (k : GKc X S C ip A R c fs K J D) (h : cameBackBy (model X.prog X.w) X.A X.env X.xe e s) :
    Seg (model X.prog X.w) A R (GYc X S C) n s₀ c (((Sem.raise e : Sem Flow).onRaise (cameBack X.env)).wrap K J gd lv) fs s := by
  show Seg _ _ _ _ _ _ _ (((cameBack X.env e).bind fun _ => (Sem.raise e : Sem Flow)).wrap K J gd lv) _ _
  rw [Sem.bind_eq_wrap, Sem.wrap_wrap]
  refine seg_wrap ?_
  rw [g.over]
  exact wpAny_mono h (fun _ s' hx => k.exc n s₀ e s' hx) fun x s' hx => k.exc n s₀ x s' hx
def tGFor (wi : TI) (g : TG) (tb : TGn) : TGn := fun D ys σ H => wi σ H fun J H1 => ∃ W : Nat → Nat → List V → L2.St → Hp → Prop, (∃ m, W 0 m ys σ H1) ∧ ∀ i m ys σ H, W i m ys σ H →
  (J.stop i H ∧ D.nx ys σ H) ∨ (J.go i H ∧ ∃ N : List V → L2.St → Hp → Prop, (∀ ys' σ' H', N ys' σ' H' → ∃ m', m' < m ∧ W (i + 1) m' ys' σ' H') ∧ ∀ x H', J.yld i H x H' → g x σ H' fun σ2 H2 => tb { D with nx := N, ct := N, bk := D.nx } ys σ2 H2)
theorem fpOk_pins {pins pins' : List (Addr × Obj)} {H H' : Hp} {b : Addr} (h : FpOk X pins H b) (e : pins.map (·.1) = pins'.map (·.1)) (n : H' b = none) : FpOk X pins' H' b := by
  obtain ⟨_, h2, h3, h4, h5, h6⟩ := h
  refine ⟨n, h2, h3, h4, h5, fun p hp => ?_⟩
  rcases List.mem_append.mp hp with hp | hp
  · exact h6 p (List.mem_append_left _ hp)
  · have : p.1 ∈ pins.map (·.1) := by rw [e]; exact List.mem_map.mpr ⟨p, hp, rfl⟩
    obtain ⟨q, hq, eq⟩ := List.mem_map.mp this
    rw [← eq]
    exact h6 q (List.mem_append_right _ hq)
theorem gsc_for {tg iter : Expr} {body : List Stmt} {wi : TI} {g : TG} {tb : TGn} {pos : Pos} (hp : PassesOwn (model X.prog X.w) X.A X.env X.xe) (hc : X.calm = true) (hi : PI X tg iter wi) (hg : PG X tg g) (hb : GScs X body tb)
    (hs : ∀ x, foldedSetIterable iter X.env x = pure x := by intro _; rfl) : GSc X (.For tg iter body [] pos) (tGFor wi g tb) := by
  refine ⟨fun A S C oc ip R n ys s₀ c fs K J gd lv s σ H D G hn h0 k hI ht => ?_⟩
  obtain ⟨acc, cc, r, I⟩ := hI
  refine seg_at ?_
  refine seg_bind_wrap (wpAny_pure ?_)
  refine seg_bind_wrap ?_
  rw [G.over]
  refine wpAny_mono (hi.run _ s σ H _ I ht) (fun v s1 h1 => ?_) fun x s' hx => k.exc _ s₀ x s' hx
  refine seg_bind_wrap (wpAny_of_eq (hs v) ?_)
  refine seg_bind_wrap (wpAny_standAt ?_)
  refine seg_bind_wrap (wpAny_holding ?_)
  rw [G.over]
  refine wpAny_mono h1 (fun itv s2 h2 => ?_) fun x s' hx => k.exc _ s₀ x s' hx
  obtain ⟨it, fp, tn, Jt, H2, e, I2, T, st2, f2, W, ⟨m0, w0⟩, turn⟩ := h2
  subst e
  refine seg_call fun p => ?_
  have gl := fun (kk : Result → Sem PySem.Fin) (ip' : List (Addr × Obj)) (hip : ∀ p ∈ ip', p.1 ≠ S ∧ p.1 ≠ C) => gcc_loop (k := kk) (c' := .forLoop tg (.ref it) body [] X.env) (l := lv []) (kp := []) (p := p) G rfl rfl hip
  have fS : ∀ b ∈ fp, b ≠ S ∧ b ≠ C := fun b hb => by
    obtain ⟨_, _, _, _, _, h6⟩ := f2 b hb
    exact ⟨fun e => h6 (S, lstObj acc cc) (List.mem_append_right _ List.mem_cons_self) e.symm, fun e => h6 (C, oc) (List.mem_append_right _ (List.mem_cons_of_mem _ List.mem_cons_self)) e.symm⟩
  have loop : ∀ (m i n : Nat) (ys : List V) (oc : Obj) (s₀ s : Shared) (σ : L2.St) (H : Hp), n + ys.length = sizeLine → s₀.heap.get? C = some oc → W i m ys σ H → GIc X S C oc ip ys σ H s → tn i s.heap → (∀ b ∈ fp, H b = none) →
      Seg (model X.prog X.w) A R (GYc X S C) n s₀ (.forLoop tg (.ref it) body [] X.env) ((model X.prog X.w).den (.forLoop tg (.ref it) body [] X.env))
        (.ret (fun r => ((match r with | .ok f => (.pure f : Sem Flow) | .error e => .raise e).onRaise (cameBack X.env)).wrap K J gd lv) none (gd false) (lv []) c p [] :: fs) s := by
    intro m
    induction m using Nat.strongRecOn with
    | ind m ih =>
      intro i n ys oc' s₀ s σ H hn h0 w hI st fr
      obtain ⟨acc', cc', r', I'⟩ := hI
      have ee : ∀ (n : Nat) (s₀ : Shared) (x : Value) (s' : Shared), X.xe x s' → Seg (model X.prog X.w) A R (GYc X S C) n s₀ (.forLoop tg (.ref it) body [] X.env) (HXc X.env x)
          (.ret (fun r => ((match r with | .ok f => (.pure f : Sem Flow) | .error e => .raise e).onRaise (cameBack X.env)).wrap K J gd lv) none (gd false) (lv []) c p [] :: fs) s' := fun n s₀ x s' hx => by
        show Seg _ _ _ _ _ _ _ ((do noteFrame x X.env; theTreesLotGoes x : Sem Unit).bind fun _ => .raise x) _ _
        rw [Sem.bind_eq_wrap]
        refine seg_wrap ?_
        rw [(gl _ ip G.ip).over]
        refine wpAny_bind (wpAny_mono (hp x s' hx) (fun _ s'' hcb => wpAny_theTreesLotGoes ?_) fun y s'' hcb => ?_)
        · exact seg_leaf (.error x) (seg_back G k hcb)
        · exact seg_leaf (.error y) (seg_back G k hcb)
      have stat : ∀ {H' : Hp}, (∀ b ∈ fp, H' b = none) → ∀ b ∈ fp, FpOk X ((S, lstObj acc' cc') :: (C, oc') :: ip) H' b := fun hn b hb => fpOk_pins (f2 b hb) rfl (hn b hb)
      refine seg_forLoop ?_
      rw [(gl _ ip G.ip).over]
      rcases turn i m ys σ H w with ⟨stop, qn⟩ | ⟨go, N, hN, step⟩
      · refine wpAny_mono (T.done X rfl rfl rfl hc i _ s σ H X.xe I' (stat fr) st stop) (fun r s4 h4 => ?_) fun x s' hx => ee n s₀ x s' hx
        obtain ⟨hr, I4⟩ := h4
        subst hr
        refine seg_again rfl ?_
        exact seg_leaf (.ok .next) (k.ok n ys oc' s₀ s4 .next hn h0 ⟨σ, H, ⟨acc', cc', r', I4⟩, qn⟩)
      · refine wpAny_mono (T.item X rfl rfl rfl hc i _ s σ H X.xe I' (stat fr) st go) (fun r s4 h4 => ?_) fun x s' hx => ee n s₀ x s' hx
        obtain ⟨u, hr, h4⟩ := h4
        subst hr
        refine wpAny_mono h4 (fun _ s5 h5 => ?_) fun x s' hx => ee n s₀ x s' hx
        obtain ⟨x, H5, I5, r5, y5, st5, fr5⟩ := h5
        have I5' := I5.pinned (stat fr5) (T.obj _ _ st5)
        refine wpAny_mono (hg.run _ s5 σ H5 x u _ I5' r5 (step x H5 y5)) (fun _ s6 h6 => ?_) fun x s' hx => ee n s₀ x s' hx
        obtain ⟨σ6, H6, I6, q6⟩ := h6
        have pn : ∀ b ∈ fp, ∃ o, (b, o) ∈ pinsAt fp s5.heap ∧ s5.heap.get? b = some o := fun b hb => by
          obtain ⟨o, e, d⟩ := T.obj _ _ st5 b hb
          exact ⟨o, mem_pinsAt hb e, e⟩
        have ipA : ∀ q ∈ ip ++ pinsAt fp s5.heap, q.1 ≠ S ∧ q.1 ≠ C := fun q hq => by
          rcases List.mem_append.mp hq with h | h
          · exact G.ip q h
          · exact fS q.1 (of_pinsAt h).1
        refine hb.run A S C oc' (ip ++ pinsAt fp s5.heap) R n ys s₀ _ _ _ _ id id s6 σ6 H6 { D with nx := N, ct := N, bk := D.nx } (gl _ _ ipA) hn h0 ⟨fun n' ys' oc2 s₀' s7 f hn' h0' hs => ?_, fun n' s₀' x s3 hx => ee n' s₀' x s3 hx⟩ ⟨acc', cc', r', I6⟩ q6
        have unp : ∀ {σ7 : L2.St} {H7 : Hp}, GIc X S C oc2 (ip ++ pinsAt fp s5.heap) ys' σ7 H7 s7 → GIc X S C oc2 ip ys' σ7 H7 s7 := fun ⟨a7, c7, r7, I7⟩ => ⟨a7, c7, r7, Inv.unpinned (pins := (S, lstObj a7 c7) :: (C, oc2) :: ip) I7⟩
        have again : ∀ {σ7 : L2.St} {H7 : Hp}, GIc X S C oc2 (ip ++ pinsAt fp s5.heap) ys' σ7 H7 s7 → N ys' σ7 H7 → Seg (model X.prog X.w) A R (GYc X S C) n' s₀' (.forLoop tg (.ref it) body [] X.env) (.pure (.again (.forLoop tg (.ref it) body [] X.env)))
            (.ret (fun r => ((match r with | .ok f => (.pure f : Sem Flow) | .error e => .raise e).onRaise (cameBack X.env)).wrap K J gd lv) none (gd false) (lv []) c p [] :: fs) s7 := fun {σ7 H7} I7 n7 => by
          obtain ⟨m', hm, w7⟩ := hN ys' σ7 H7 n7
          refine seg_again rfl (ih m' hm (i + 1) n' ys' oc2 s₀' s7 σ7 H7 hn' h0' w7 (unp I7) ?_ fun b hb => ?_)
          · obtain ⟨a7, c7, r7, I7⟩ := I7
            refine T.keep _ _ _ st5 fun b hb o e => ?_
            exact (I7.pin (b, o) (List.mem_append_right _ (List.mem_cons_of_mem _ (List.mem_cons_of_mem _ (List.mem_append_right _ (mem_pinsAt hb e)))))).1
          · obtain ⟨a7, c7, r7, I7⟩ := I7
            obtain ⟨o, hm2, e⟩ := pn b hb
            exact (I7.pin (b, o) (List.mem_append_right _ (List.mem_cons_of_mem _ (List.mem_cons_of_mem _ (List.mem_append_right _ hm2))))).2.1
        cases f with
        | next => obtain ⟨σ7, H7, I7, n7⟩ := hs; exact again I7 n7
        | cont => obtain ⟨σ7, H7, I7, n7⟩ := hs; exact again I7 n7
        | brk =>
          obtain ⟨σ7, H7, I7, q7⟩ := hs
          exact seg_leaf (.ok .next) (k.ok n' ys' oc2 s₀' s7 .next hn' h0' ⟨σ7, H7, unp I7, q7⟩)
        | ret v =>
          obtain ⟨v7, σ7, H7, I7, r7, q7⟩ := hs
          exact seg_leaf (.ok (.ret v)) (k.ok n' ys' oc2 s₀' s7 (.ret v) hn' h0' ⟨v7, σ7, H7, unp I7, r7, q7⟩)
  exact loop m0 0 n ys oc s₀ s2 σ H2 hn h0 w0 ⟨acc, cc, r, I2⟩ st2 fun b hb => (f2 b hb).1
end
end Fc

namespace Fc
open PySem PySem.Spec PyProof.Rows L2 GenW
/-- the end of a run -/
def REc (P : Program) (w : World) (outer : List Env) (H : Hp) (s : Shared) (S C a : Addr) (g : Nat) (Q : List V → Hp → Prop) (E : XK) : GenEnd := fun n s₀ r s1 =>
  ((r = .ok (.ret .none) ∨ r = .ok .next) ∧ ∃ H' ys acc c, s1.os = s.os ∧ AllBare s1.gens ∧ Un (frs outer) [] H H' s.heap s1.heap ∧ HOk P w H' s1.heap ∧ H' S = none ∧ s1.heap.get? S = some (lstObj acc c) ∧ Vals ys acc.toList ∧ ys.length ≤ sizeLine ∧ (∃ oc, s₀.heap.get? C = some oc ∧ s1.heap.get? C = some oc) ∧ H' C = none ∧ Q ys H') ∨
  ∃ e, r = .error e ∧ CX P w outer H s E e s1 ∧ s1.heap.IsGen a g
/-- an item; the namespace C stands as it did at the resume -/
def YIc (s : Shared) (S C a : Addr) (g : Nat) : Protocol := fun n s₀ v s1 kap =>
  s1.os = s.os ∧ AllBare s1.gens ∧ s1.heap.NoLimit ∧ s1.heap.IsGen a g ∧ (∃ (acc : Array Value) (c : Nat), s1.heap.get? S = some (lstObj acc c) ∧ n + 1 + acc.size = sizeLine) ∧ (∃ oc, s₀.heap.get? C = some oc ∧ s1.heap.get? C = some oc) ∧ ∀ s', Slp S C v s1 s' → kap (.send .none) s'
/-- what a call gives: a generator that has not begun -/
def GMc (P : Program) (w : World) (k : Nat) (outer : List Env) (H : Hp) (s : Shared) (Q : List V → Hp → Prop) (E : XK) (u : Value) (s' : Shared) : Prop :=
  ∃ (a : Addr) (g : Nat) (c : Code), u = .ref a ∧ s.heap.objs.size ≤ a ∧ a < s'.heap.objs.size ∧ s'.heap.IsGen a g ∧ s'.gens[g]? = some (.fresh c) ∧ s'.os = s.os ∧ AllBare s'.gens ∧ s'.heap.NoLimit ∧ (∀ b o, s.heap.get? b = some o → s'.heap.get? b = some o) ∧
    ∀ (A : Around) (S C : Addr) (s2 : Shared), Room k A → A.frames = some outer → s'.heap.objs.size ≤ S → s'.heap.objs.size ≤ C → S ≠ C → (∀ b o, s'.heap.get? b = some o → s2.heap.get? b = some o) → (∃ c, s2.heap.get? S = some (lstObj #[] c)) → (∃ oc, s2.heap.get? C = some oc ∧ ∀ v, oc.data ≠ .cell v) → s2.os = s.os → AllBare s2.gens →
      Seg (model P w) A (REc P w outer H s S C a g Q E) (YIc s S C a g) sizeLine s2 c ((model P w).den c) [] s2
structure GFc (P : Program) (w : World) (K : PySem.W.Frag) (mg : Str → Option Value) (base : Heap) (k : Nat) (f : Addr) (fd : FuncData) (ps : List Str) (sp : SpG) : Prop where
  len : ∀ vs H Q E, sp vs H Q E → vs.length = ps.length
  run : ∀ (A : Around) (outer : List Env) (s : Shared) (H : Hp) (args : Args) (us : List Value) (vs : List V) (Q : List V → Hp → Prop) (E : XK), Room k A → Env0 P w K mg base A outer s H → BindsTo s fd args (ps.zip us) → Vals vs us → sp vs H Q E →
    codeAny (model P w) A (.call (.ref f) args) (fun r s' => match r with | .ok (.ret u) => GMc P w k outer H s Q E u s' | _ => False) s
/-- a generator def, by its body -/
theorem gfc_of {P : Program} {w : World} {K : PySem.W.Frag} {mg : Str → Option Value} {base : Heap} {k : Nat} {f : Addr} {name qual : Str} {params : Arguments} {body : List Stmt} {scope : Scope} {dV kV doc pm cdv ct oc : Value} {an od : Option Addr}
    {osl : Array (Option Value)} {N ps : List Str} {sp : SpG} (lk : K.lookup f = some ⟨oc, od, .func (PySem.W.fnOf name qual params body scope dV kV doc pm an cdv ct), osl⟩) (hcd : PySem.W.codeIn K cdv qual = true) (S : GScope N ps scope)
    (len : ∀ vs H Q E, sp vs H Q E → vs.length = ps.length)
    (hbody : ∀ (A : Around) (outer : List Env) (s : Shared) (H : Hp) (vs : List V) (Q : List V → Hp → Prop) (E : XK) (pn : List (Addr × Obj)), Room k (A.deeper (envOfC qual scope s.heap.objs.size f cdv)) → sp vs H Q E →
      ∃ t, GScs (gcxOf P w K mg base N qual scope f cdv A outer s H E pn) body t ∧ t { nx := fun ys _ H' => Q ys H', rt := fun ys v H' => v = .non ∧ Q ys H' } [] (start N vs) H) :
    GFc P w K mg base (k + 1) f (PySem.W.fnOf name qual params body scope dV kV doc pm an cdv ct) ps sp := by
  refine ⟨len, fun A outer s H args us vs Q E hr e0 hb r hsp => ?_⟩
  have hl := len _ _ _ _ hsp
  have KX : K.In s.heap := e0.mod.kin.keeps fun b o e => (e0.bs b o e).1
  have lim : s.heap.NoLimit := e0.mod.nolimit.keeps fun b o e => (e0.bs b o e).1
  have hkind : ∀ y ∈ ps.zip us, scope.names.lookup y.1 = some .local ∨ (scope.names.lookup y.1 = some .cell ∧ ((cellsFrom (s.heap.objs.size + 1) scope.names []).lookup y.1).isSome = true) := fun ⟨n, v⟩ hy => by
    rcases S.par n (List.of_mem_zip hy).1 with q | q
    · exact .inl q
    · exact .inr ⟨q, PySem.W.cellsFrom_some _ _ _ (.inl q)⟩
  refine codeAny_call_generator hr.depth (KX _ _ lk) rfl S.co S.gen rfl (PySem.W.codeRec_of KX hcd) (hb _ _ _ _ ?_)
  refine wpAny_newFunctionEnv_cells S.kind hkind fun env he s1 x => ?_
  subst he
  have lim1 : s1.heap.NoLimit := lim.keeps x.toInCall.keep
  refine ⟨lim1, ?_⟩
  obtain ⟨h1, tk, es1, hk1⟩ := x.done
  have os1 : s1.os = s.os := by rw [es1]
  have gen1 : s1.gens = s.gens := by rw [es1]
  have lt1 : s.heap.objs.size < s1.heap.objs.size := x.toInCall.ns.lt
  have sz1 : s.heap.objs.size ≤ s1.heap.objs.size := Nat.le_of_lt lt1
  have kp1 : ∀ b o, s.heap.get? b = some o → s1.heap.get? b = some o := x.toInCall.keep
  have main : ∀ (go : Obj) (nm qn : Value) (tk2 : Nat), go.cls = .type "generator" → go.data = .fields #[.int s1.gens.size 0, nm, qn] → go.slots = #[] → (∀ h : Heap, (h.push go).get? h.objs.size = some go) →
      GMc P w (k + 1) outer H s Q E (.ref s1.heap.objs.size) { s1 with gens := s1.gens.push (.fresh (.func body (envOfC qual scope s.heap.objs.size f cdv))), toks := tk2, heap := s1.heap.push go } := by
    intro go nm qn tk2 hgc hgd0 hgs hgp
    have hgen : ∀ h : Heap, h.get? s1.heap.objs.size = some go → h.IsGen s1.heap.objs.size s1.gens.size := fun h e => ⟨go, nm, qn, e, hgc, hgd0, hgs⟩
    have hpushed : (s1.heap.push go).get? s1.heap.objs.size = some go := hgp _
    refine ⟨s1.heap.objs.size, s1.gens.size, _, rfl, sz1, ?_, hgen _ hpushed, Array.getElem?_push_size .., os1, ?_, lim1.keeps fun b o e => Heap.get?_push_of_some _ e, fun b o e => Heap.get?_push_of_some _ (kp1 b o e), ?_⟩
    · show _ < (s1.heap.push _).objs.size
      rw [Heap.size_push]; exact Nat.lt_succ_self _
    · exact AllBare.push (by rw [gen1]; exact e0.bare) rfl
    intro Aw Sx Cx2 s2 hrw hfr hSx hCx hSC hk2 hSo hCo hos hba
    have e0w : Env0 P w K mg base Aw outer s H := ⟨hfr, e0.mod, e0.bs, e0.bsz, e0.funs, e0.frf, e0.hok, e0.bare⟩
    obtain ⟨t, ht, hq⟩ := hbody Aw outer s H vs Q E [(s1.heap.objs.size, go)] (hrw.deeper _) hsp
    have I1 : Inv (gcxOf P w K mg base N qual scope f cdv Aw outer s H E []) [] (start N vs) H s1 := inv_startG S hrw.hd e0w hl r x
    have kp2 : ∀ b o, s1.heap.get? b = some o → s2.heap.get? b = some o := fun b o e => hk2 b o (Heap.get?_push_of_some _ e)
    have I2 : Inv (gcxOf P w K mg base N qual scope f cdv Aw outer s H E []) [] (start N vs) H s2 :=
      I1.call' (ch := []) (hos.trans os1.symm) (Un.kept kp2) (I1.hok.kept kp2) hba fun b z => by simp at z
    have szp : s1.heap.objs.size < (s1.heap.push go).objs.size := by rw [Heap.size_push]; exact Nat.lt_succ_self _
    have hSz : s1.heap.objs.size < Sx := Nat.lt_of_lt_of_le szp hSx
    have hCz : s1.heap.objs.size < Cx2 := Nat.lt_of_lt_of_le szp hCx
    obtain ⟨cS, heS⟩ := hSo
    obtain ⟨oC, heC, hCd⟩ := hCo
    have hea : s2.heap.get? s1.heap.objs.size = some go := hk2 s1.heap.objs.size go hpushed
    have hgd : ∀ v, go.data ≠ .cell v := fun v q => by rw [hgd0] at q; cases q
    have young : ∀ b, s1.heap.objs.size ≤ b → H b = none ∧ b ≠ s.heap.objs.size ∧ b ∉ frs outer ∧ s.heap.objs.size ≤ b ∧ ∀ y c, (cellsFrom (s.heap.objs.size + 1) scope.names []).lookup y = some c → c ≠ b := fun b hb => by
      refine ⟨I1.hok.fresh hb, Nat.ne_of_gt (Nat.lt_of_lt_of_le lt1 hb), I1.nofs hb, Nat.le_trans sz1 hb, fun y c e z => ?_⟩
      obtain ⟨v, ob, ho, _⟩ := I1.cell y c e
      have := Heap.lt_size ho
      rw [z] at this
      exact absurd (Nat.lt_of_lt_of_le this hb) (Nat.lt_irrefl _)
    have hG : GIc (gcxOf P w K mg base N qual scope f cdv Aw outer s H E [(s1.heap.objs.size, go)]) Sx Cx2 oC [] [] (start N vs) H s2 := by
      refine ⟨#[], cS, .nil, Inv.pinnedG I2 fun p hp => ?_⟩
      rcases List.mem_append.mp hp with z | z
      · rw [List.mem_singleton.mp z]
        obtain ⟨y1, y2, y3, _, _⟩ := young s1.heap.objs.size (Nat.le_refl _)
        exact ⟨hea, y1, y2, y3, hgd⟩
      · rcases List.mem_cons.mp z with z | z
        · rw [z]
          obtain ⟨y1, y2, y3, _, _⟩ := young Sx (Nat.le_of_lt hSz)
          exact ⟨heS, y1, y2, y3, fun v q => by cases q⟩
        · rw [List.mem_singleton.mp z]
          obtain ⟨y1, y2, y3, _, _⟩ := young Cx2 (Nat.le_of_lt hCz)
          exact ⟨heC, y1, y2, y3, hCd⟩
    have hAp : ∀ T, s1.heap.objs.size < T → Apart (gcxOf P w K mg base N qual scope f cdv Aw outer s H E [(s1.heap.objs.size, go)]) T := fun T hT => by
      obtain ⟨_, y2, _, y4, y5⟩ := young T (Nat.le_of_lt hT)
      exact ⟨y4, y2, y5⟩
    have hpn : ∀ p ∈ [(s1.heap.objs.size, go)], p.1 ≠ Sx ∧ p.1 ≠ Cx2 := fun p hp => by
      rw [List.mem_singleton.mp hp]
      exact ⟨Nat.ne_of_lt hSz, Nat.ne_of_lt hCz⟩
    have pinned : ∀ {oc : Obj} {ip : List (Addr × Obj)} {ys : List V} {s' : Shared} {σ' : L2.St} {H' : Hp}, GIc (gcxOf P w K mg base N qual scope f cdv Aw outer s H E [(s1.heap.objs.size, go)]) Sx Cx2 oc ip ys σ' H' s' → s'.heap.IsGen s1.heap.objs.size s1.gens.size := fun {oc ip ys s' σ' H'} hI => by
      obtain ⟨acc, cc, _, J⟩ := hI
      exact hgen _ (J.pin (s1.heap.objs.size, go) (List.mem_append_left _ (List.mem_singleton.mpr rfl))).1
    refine seg_func ?_
    refine seg_imp (R := GRc (gcxOf P w K mg base N qual scope f cdv Aw outer s H E [(s1.heap.objs.size, go)]) Sx Cx2 (fun ys v H' => v = .non ∧ Q ys H') fun e s' => CX P w outer H s E e s' ∧ ∀ p ∈ [(s1.heap.objs.size, go)], s'.heap.get? p.1 = some p.2)
      (Y := GYc (gcxOf P w K mg base N qual scope f cdv Aw outer s H E [(s1.heap.objs.size, go)]) Sx Cx2) (fun n s₀ r s1' hR => ?_) (fun n s₀ v s1' kap kap' hkk hY => ?_) sizeLine ?_
    · cases r with
      | error e =>
        obtain ⟨q1, q2⟩ := hR
        exact .inr ⟨e, rfl, q1, hgen _ (q2 (s1.heap.objs.size, go) (List.mem_singleton.mpr rfl))⟩
      | ok fl =>
        cases fl with
        | next => exact False.elim hR
        | brk => exact False.elim hR
        | cont => exact False.elim hR
        | ret u =>
          obtain ⟨ys, v, oc2, ip, σ', H', hn, h0, hI, rv, ev, hQ⟩ := hR
          subst ev
          have eu : u = Value.none := rv
          subst eu
          obtain ⟨acc, cc, ra, J⟩ := hI
          obtain ⟨ea, a1, _⟩ := J.pin (Sx, lstObj acc cc) (List.mem_append_right _ List.mem_cons_self)
          obtain ⟨eC, c1, _⟩ := J.pin (Cx2, oc2) (List.mem_append_right _ (List.mem_cons_of_mem _ List.mem_cons_self))
          exact .inl ⟨.inl rfl, H', ys, acc, cc, J.os, J.bare, J.base, J.hok, a1, ea, ra, by omega, ⟨oc2, h0, eC⟩, c1, hQ⟩
    · obtain ⟨ys, xx, oc2, ip, σ', H', hn, h2, h0, hI, h3⟩ := hY
      have hg := pinned hI
      obtain ⟨acc, cc, ra, J⟩ := hI
      obtain ⟨ea, _⟩ := J.pin (Sx, lstObj acc cc) (List.mem_append_right _ List.mem_cons_self)
      obtain ⟨eC, _⟩ := J.pin (Cx2, oc2) (List.mem_append_right _ (List.mem_cons_of_mem _ List.mem_cons_self))
      have hsz : acc.size = ys.length := by
        have e1 := ra.length
        have e2 : acc.toList.length = acc.size := by simp
        omega
      exact ⟨J.os, J.bare, J.nolimit, hg, ⟨acc, cc, ea, by rw [hsz]; exact hn⟩, ⟨oc2, h0, eC⟩, fun s' z => hkk _ _ (h3 s' z)⟩
    · refine ht.run Aw Sx Cx2 oC [] _ sizeLine [] s2 _ [] _ _ id id s2 (start N vs) H _ ⟨hpn, fun p hp => (by simp at hp), hAp _ hSz, hAp _ hCz, over_func, rfl, rfl, rfl⟩ (Nat.add_zero _) heC ⟨fun n ys oc2 s₀ s' fl hn h0 hs => ?_, fun n s₀ e s' hx => ?_⟩ hG hq
      · cases fl with
        | next =>
          obtain ⟨σ', H', hI, hQ⟩ := hs
          exact seg_end (.ok (.ret .none)) ⟨ys, .non, oc2, [], σ', H', hn, h0, hI, rfl, rfl, hQ⟩
        | brk => obtain ⟨_, _, _, q⟩ := hs; exact False.elim q
        | cont => obtain ⟨_, _, _, q⟩ := hs; exact False.elim q
        | ret u =>
          obtain ⟨v, σ', H', hI, rv, ev, hQ⟩ := hs
          exact seg_end (.ok (.ret u)) ⟨ys, v, oc2, [], σ', H', hn, h0, hI, rv, ev, hQ⟩
      · refine seg_wrap ?_
        rw [over_func]
        refine wpAny_mono (show wpAny (model P w) (Aw.deeper (envOfC qual scope s.heap.objs.size f cdv)) (leaving (envOfC qual scope s.heap.objs.size f cdv) e) (fun _ s'' => CX P w outer H s E e s'' ∧ ∀ p ∈ [(s1.heap.objs.size, go)], s''.heap.get? p.1 = some p.2) (fun _ _ => False) s' from hx) (fun _ s'' q => ?_) fun _ s'' q => q.elim
        exact seg_end (.error e) q
  exact main _ _ _ _ rfl rfl rfl fun h => Heap.get?_push_size _ rfl
end Fc

namespace Fc
open PySem PySem.Spec PyProof.Rows L2 GenW
/-- an expression whose value is such a generator, not begun -/
structure PGc (X : Cx) (k : Nat) (e : Expr) (tg : TGen) (E : XK) : Prop where
  run : ∀ (pins : List (Addr × Obj)) (s : Shared) (σ : L2.St) (H : Hp) (cont : List V → Hp → Prop), Inv X pins σ H s → tg σ H cont → wpAny (model X.prog X.w) X.A (eval e X.env)
    (fun u s' => ∃ H1 sc, Inv X pins σ H1 sc ∧ GMc X.prog X.w k X.stack H1 sc cont E u s') X.xe s
section
variable {X : Cx} {k : Nat} {f C : Addr} {fd : FuncData} {ps : List Str} {sp : SpG} {dvs : List V} {ds : List Value} {x m : Str} {p pos pos' apos : Pos} {o : Expr} {ta : TE}
theorem run_gfc {pins : List (Addr × Obj)} {σ : L2.St} {H : Hp} {s : Shared} {us : List Value} {vs : List V} {cont : List V → Hp → Prop} {E : XK} {E1 : Value → Shared → Prop} (F : GFc X.prog X.w X.K X.mg X.base k f fd ps sp) (hr : Room k X.A) (hb : Binds X.K fd ps ds) (hd : Vals dvs ds)
    (I : Inv X pins σ H s) (r : Vals vs us) (h : sp (vs ++ dvs) H cont E) :
    wpAny (model X.prog X.w) X.A (call (.ref f) us) (fun u s' => ∃ H1 sc, Inv X pins σ H1 sc ∧ GMc X.prog X.w k X.stack H1 sc cont E u s') E1 s := by
  have r2 : Vals (vs ++ dvs) (us ++ ds) := r.append hd
  have hl2 : (us ++ ds).length = ps.length := by rw [← r2.length]; exact F.len _ _ _ _ h
  refine wpAny_call (codeAny_mono (F.run X.A X.stack s H ⟨us, []⟩ (us ++ ds) (vs ++ dvs) cont E hr I.env0 (hb s us I.kIn hl2) r2 h) fun r s' hq => ?_)
  cases r with
  | error e => exact False.elim hq
  | ok fl =>
    cases fl with
    | ret u => exact ⟨H, s, I, hq⟩
    | next => exact False.elim hq
    | brk => exact False.elim hq
    | cont => exact False.elim hq
/-- o.m(e, ..) of a generator method -/
theorem pgc_meth {E : XK} {pl : Sem Bool} {e : Expr} {es : List Expr} {t : TA} (he : PE X o ta) (c : Cls X.K C) (hm : Meth X.K C m f) (F : GFc X.prog X.w X.K X.mg X.base k f fd ps sp) (hr : Room k X.A) (hb : Binds X.K fd ps ds) (hd : Vals dvs ds) (ha : PA X (e :: es) t)
    (hst : starEach (e :: es) X.env = (false, eval e X.env) :: starEach es X.env := by rfl) (hpl : (backTo pos' (starEach es X.env)).any (·.1) = false := by rfl)
    (ht : eval (.Call (.Attribute o m apos) (e :: es) [] pos') X.env = (do
      let ov ← eval o X.env
      standAt apos.atName
      let (f, first) ← holding [ov] (getMethod ov m pl)
      callWith pos' f first (backTo pos' (starEach (e :: es) X.env)) (backToKw pos' (keywordEach [] X.env))) := by rfl) :
    PGc X k (.Call (.Attribute o m apos) (e :: es) [] pos') (tMethG C m sp dvs E ta t) E := by
  refine ⟨fun pins s σ H cont I h => ?_⟩
  refine PySem.W.methodCall_KW (pl := pl) (thn (he.run pins s σ H _ I h) fun u s1 ⟨x, H1, I1, rx, a, dx, fs, ex, ea, l, q⟩ => ?_) ht
  subst ex
  obtain rfl : u = Value.ref a := rx
  refine getmeth_ok I1 ea c hm l ?_
  refine PySem.W.callWith_K (first := [.ref a]) (h₀ := X.base) I.ok.mod.kin hm.kp (thn (ha.run pos' pins s1 σ H1 _ I1 q) fun us s2 ⟨vs, H2, I2, r, q2⟩ => ⟨I2.kIn, ?_⟩) hst hpl
  exact run_gfc (us := .ref a :: us) (vs := .ref a :: vs) F hr hb hd I2 (.cons rfl r) q2
end
end Fc

namespace Fc
open PySem PySem.Spec PyProof.Rows L2 GenW
/-! ## [x for x in g], g such a generator -/
theorem ns_dict {h : Heap} {a : Addr} {m} (hn : h.Ns a m) : ∃ o, h.get? a = some o ∧ ∀ v, o.data ≠ .cell v := by
  obtain ⟨o, es, ep, ho, hd, _⟩ := hn
  exact ⟨o, ho, fun v q => by rw [hd] at q; cases q⟩
theorem slp_push {S C : Addr} {v : Value} {s : Shared} {acc : Array Value} {c : Nat} {m} (hS : s.heap.get? S = some (lstObj acc c)) (hG : AllBare s.gens) (hC : s.heap.Ns C m) (hSC : S ≠ C) :
    Slp S C v s { s with heap := s.heap.update S (Obj.mapSeq (·.push v)) } where
  os := rfl
  bare := hG
  keep := fun b o hb _ e => (Heap.get?_update_other _ _ (Ne.symm hb)).trans e
  own := fun acc' c' e => by
    rw [hS] at e
    cases e
    exact ⟨_, Heap.get?_update_self _ hS rfl⟩
  oth := fun o e => by
    obtain ⟨o', e', hd⟩ := ns_dict hC
    rw [e] at e'
    cases e'
    exact ⟨o, (Heap.get?_update_other _ _ hSC).trans e, hd⟩
section
variable {X : Cx} {k : Nat}
theorem glc_core {pins : List (Addr × Obj)} {s : Shared} {σ : L2.St} {H : Hp} {Q : VK} {y : Str} {py ty : Pos} {iter : Expr} {scope : Scope} {pos pos' : Pos} {tg : TGen} {use : Option (Value → Sem Unit)} {Qf : Value → Shared → Prop}
    (I : Inv X pins σ H s) (hi : PGc X k iter tg fun _ _ _ => False) (hr : Room (k + 3) X.A) (hkind : scope.kind = .function) (huniq : ∀ x ∈ scope.names, x.2 = .local → scope.names.lookup x.1 = some .local)
    (hcl : ∀ x ∈ scope.names, x.2 ≠ .free) (hy : scope.names.lookup y = some .local) (hdb : (y == ("__debug__" : Str)) = false) (hs : ∀ x, foldedSetIterable iter X.env x = pure x)
    (h : tg σ H fun out H2 => ∀ p, H2 p = none → Q (.ref p) (upd H2 p (.lst out)))
    (hRR : ∀ D C s' m H', Inv X pins σ H' s' → Q (.ref D) H' → s'.heap.Ns C m → FpOk X pins H' C → compPost (model X.prog X.w) X.A X.xe use Qf (.ref D) C (.ok .next) s') :
    wpAny (model X.prog X.w) X.A (comprehension (.ListComp (.Name y py) [⟨.Name y ty, iter, [], 0⟩] scope pos) scope X.env pos' (newList []) false (eval iter X.env) use) Qf X.xe s := by
  refine wpAny_comprehension_free (use := use) rfl hs (closure_ok fun x hx e => absurd e (hcl x hx)) hkind huniq (thn (hi.run pins s σ H _ I h) fun u s1 ⟨H1, sc, I1, hG⟩ => ?_)
  obtain ⟨a, g, c, rfl, ha1, ha2, hg, hgs, hos, hb, hl, hkp, wake⟩ := hG
  refine wpAny_pyIter_gen hg ?_
  refine wpAny_newObj_type (newEnv_comp ?_) (by show 0 ≤ sizeLine; decide)
  generalize hSd : s1.heap.objs.size = S
  generalize hs3 : ({ s1 with heap := s1.heap.push { cls := .type "list", data := .seq ([] : List Value).toArray } } : Shared) = s3
  have h3 : s3.heap = s1.heap.push { cls := .type "list", data := .seq ([] : List Value).toArray } := by rw [← hs3]
  have z3 : s3.heap.objs.size = S + 1 := by rw [h3, Heap.size_push, hSd]
  generalize hCd : s3.heap.objs.size = C
  have hCS : C = S + 1 := by rw [← hCd, z3]
  have hSC : S ≠ C := by rw [hCS]; exact Nat.ne_of_lt (Nat.lt_succ_self S)
  generalize hce : compEnvC scope (cellsFrom (C + 1) scope.names (cloFrom X.env.cells scope.names [])) C X.env = ce
  have cL : ce.locals = C := by rw [← hce]; rfl
  have cK : ce.kindOf y = some .local := by rw [← hce]; exact lookup_relabel_local hy
  have cF : ce.scope.kind = .function := by rw [← hce]; exact hkind
  generalize hs4 : ({ s3 with heap := pushCells (s3.heap.push { cls := .type "dict", data := .dict #[] }) scope.names } : Shared) = s4
  have kp4 : ∀ b o, s3.heap.get? b = some o → s4.heap.get? b = some o := fun b o e => by rw [← hs4]; exact pushCells_keeps _ _ _ _ (Heap.get?_push_of_some _ e)
  have kp1 : ∀ b o, s1.heap.get? b = some o → s4.heap.get? b = some o := fun b o e => kp4 b o (by rw [h3]; exact Heap.get?_push_of_some _ e)
  have ns4 : s4.heap.Ns C (fun _ => none) := by
    rw [← hs4, ← hCd]
    exact Heap.Ns.keeps (Heap.Ns.new ..) fun b o e => pushCells_keeps _ _ _ _ e
  have S4 : s4.heap.get? S = some (lstObj #[] 0) := kp4 _ _ (by rw [h3, ← hSd]; exact Heap.get?_push_size _ rfl)
  have g4 : s4.gens = s1.gens := by rw [← hs4, ← hs3]
  have o4 : s4.os = s1.os := by rw [← hs4, ← hs3]
  have Sc : sc.heap.objs.size ≤ S := by rw [← hSd]; exact Nat.le_trans ha1 (Nat.le_of_lt ha2)
  have Cc : sc.heap.objs.size ≤ C := by rw [hCS]; exact Nat.le_succ_of_le Sc
  have hSa : S ≠ a := by rw [← hSd]; exact Nat.ne_of_gt ha2
  have hCa : C ≠ a := by rw [hCS, ← hSd]; exact Nat.ne_of_gt (Nat.lt_succ_of_lt ha2)
  have hst : cStatics < S := by
    obtain ⟨mc, hn, _⟩ := hl
    rw [← hSd]; exact hn.lt
  have hSs : S ≠ cStatics := Nat.ne_of_gt hst
  have hCs : C ≠ cStatics := by rw [hCS]; exact Nat.ne_of_gt (Nat.lt_succ_of_lt hst)
  -- the loop
  have loop : codeAny (model X.prog X.w) X.A (.compLoop (.ListComp (.Name y py) [⟨.Name y ty, iter, [], 0⟩] scope pos) 0 (.ref a) (.ref S) ce) (compPost (model X.prog X.w) X.A X.xe use Qf (.ref S) C) s4 := by
    refine compLoop_any (fun n s' => s'.os = sc.os ∧ AllBare s'.gens ∧ s'.heap.NoLimit ∧ s'.heap.IsGen a g ∧ (∃ gs, s'.gens[g]? = some gs ∧ gs.Goes (model X.prog X.w) X.A.in1 (REc X.prog X.w X.stack H1 sc S C a g (fun out H2 => ∀ p, H2 p = none → Q (.ref p) (upd H2 p (.lst out))) fun _ _ _ => False) (YIc sc S C a g) n (.send .none) (s'.setGen g .running)) ∧ ∃ m, s'.heap.Ns C m) ?_ sizeLine ?_
    · rintro n s5 ⟨os5, b5, l5, g5, ⟨gs, hgs5, hgo⟩, m5, n5⟩
      have goes : ∀ {gs : GenState} {B : Around} {n : Nat} {r : Resume} {s : Shared}, gs.Goes (model X.prog X.w) B (REc X.prog X.w X.stack H1 sc S C a g (fun out H2 => ∀ p, H2 p = none → Q (.ref p) (upd H2 p (.lst out))) fun _ _ _ => False) (YIc sc S C a g) n r s →
          gs.Goes (model X.prog X.w) B (fun n s₀ r s1 => ((r = .ok (.ret .none) ∨ r = .ok .next) ∧ (∃ H' ys acc c, s1.os = sc.os ∧ AllBare s1.gens ∧ Un (frs X.stack) [] H1 H' sc.heap s1.heap ∧ HOk X.prog X.w H' s1.heap ∧ H' S = none ∧ s1.heap.get? S = some (lstObj acc c) ∧ Vals ys acc.toList ∧ ys.length ≤ sizeLine ∧ (∃ oc, s₀.heap.get? C = some oc ∧ s1.heap.get? C = some oc) ∧ H' C = none ∧ ∀ p, H' p = none → Q (.ref p) (upd H' p (.lst ys)))) ∨
            ∃ e, r = .error e ∧ (CX X.prog X.w X.stack H1 sc (fun _ _ _ => False) e s1 ∧ s1.heap.IsGen a g)) (YIc sc S C a g) n r s := fun h => h
      have hgl : g < s5.gens.size := (Array.getElem?_eq_some_iff.mp hgs5).1
      refine wpAny_gsz (n := g + 1) hgl (next_genG (A := X.A) hr.hd l5 (by have := hr.dp; omega) g5 hgs5 (goes hgo) (fun v s₁ gs' hbare hv => ?_) (fun s₁ hp h' hk => ?_) fun e s₁ he => ?_)
      · intro hsz
        obtain ⟨os6, b6, l6, g6, ⟨acc, cc, hS6, hsz6⟩, ⟨oc, e0, e1⟩, hk⟩ := hv
        have n6 : s₁.heap.Ns C m5 := n5.at' fun o e => by
          have e' : (s5.setGen g .running).heap.get? C = some o := e
          rw [e0] at e'; cases e'; exact e1
        cases n with
        | zero => exact False.elim (hk _ (slp_push hS6 b6 n6 hSC))
        | succ n =>
          have hsz1 : g < s₁.gens.size := by
            have q : (s₁.setGen g gs').gens.size = s₁.gens.size := setGen_size _ _ _
            have hsz' : g + 1 ≤ (s₁.setGen g gs').gens.size := hsz
            omega
          refine wpAny_pure ?_
          refine wpAny_assign_Name (wpAny_storeName_local (m := m5) cK (by rw [cL]; exact n6) (fun h7 n7 sb7 => ?_) (by rw [cF]; rfl))
          rw [cL] at n7 sb7
          refine wpAny_tests_nil ?_
          rw [if_pos rfl]
          refine wpAny_Name (hd := hdb) (wpAny_loadName_local (m := fun x => if x = y then some v else m5 x) (v := v) cF cK (by rw [cL]; exact n7) (if_pos rfl) ?_)
          have S7 : h7.get? S = some (lstObj acc cc) := (sb7.2 S hSC).trans hS6
          refine append_at (its := acc) (n := cc) (hsz := by simp only [Nat.add_sub_cancel] at hsz6; omega) S7 fun h8 sb8 hS8 => ?_
          have keep8 : ∀ b o, b ≠ S → b ≠ C → s₁.heap.get? b = some o → h8.get? b = some o := fun b o h1 h2 e => (sb8.2 b h1).trans ((sb7.2 b h2).trans e)
          have n8 : h8.Ns C (fun x => if x = y then some v else m5 x) := n7.at' fun o e => (sb8.2 C (Ne.symm hSC)).trans e
          have b8 : AllBare (s₁.setGen g gs').gens := allBare_setGen b6 hbare
          refine ⟨n, Nat.lt_succ_self n, os6, b8, ?_, ?_, ⟨gs', setGen_at hsz1, ?_⟩, _, n8⟩
          · obtain ⟨mc, hns, hnn⟩ := l6
            exact ⟨mc, hns.at' fun o e => keep8 _ o (Ne.symm hSs) (Ne.symm hCs) e, hnn⟩
          · obtain ⟨o, nm, qn, ho, r⟩ := g6
            exact ⟨o, nm, qn, keep8 a o (Ne.symm hSa) (Ne.symm hCa) ho, r⟩
          · refine hk _ ⟨rfl, allBare_setGen b8 rfl, keep8, fun acc' c' e => ?_, fun o e => ?_⟩
            · rw [hS6] at e
              cases e
              exact ⟨_, hS8⟩
            · exact ns_dict n8
      · intro hsz
        obtain ⟨H', ys, acc, cc, os1, hb1, un, hok, hSn, hS1, hv, hle, ⟨oc, e0, e1⟩, hCn, hQ⟩ := hp
        have I9 : Inv X pins σ (upd H' S (.lst ys)) { s₁.setGen g .finished with heap := h' } :=
          I1.drained (s' := { s₁.setGen g .finished with heap := h' }) Sc hle (hk _ _ hS1) hv .nil os1 (allBare_setGen hb1 rfl) (un.trans (Un.kept hk)) (hok.kept hk) hSn
        have n9 : h'.Ns C m5 := n5.at' fun o e => by
          have e' : (s5.setGen g .running).heap.get? C = some o := e
          rw [e0] at e'; cases e'; exact hk _ _ e1
        exact hRR S C _ m5 _ I9 (hQ S hSn) n9 (I1.fpOk Cc (by rw [upd_ne (Ne.symm hSC)]; exact hCn))
      · obtain ⟨hc, hg1⟩ := he
        obtain ⟨_, _, _, _, _, _, _, _, _, _, _, _, z⟩ := hc
        exact z.elim
    · refine ⟨o4.trans hos, by rw [g4]; exact hb, hl.keeps kp1, hg.keeps kp1, ⟨.fresh c, by rw [g4]; exact hgs, rfl, ?_⟩, _, ns4⟩
      refine wake X.A.in1 S C _ ⟨hr.hd, ?_, ?_⟩ I1.ok.frames (Nat.le_of_eq hSd) (by rw [hCS, ← hSd]; exact Nat.le_succ _) hSC kp1 ⟨_, S4⟩ (ns_dict ns4) (o4.trans hos) (allBare_setGen (by rw [g4]; exact hb) rfl)
      · have := hr.dp
        show X.A.depth + 3 * k + 5 < _
        omega
      · have := hr.un
        show X.A.units + 1 + 16 * k + 200 < _
        omega
  show codeAny _ _ (.compStart (.ListComp (.Name y py) [⟨.Name y ty, iter, [], 0⟩] scope pos) 0 (.ref a) (.ref S) (compEnvC scope (cellsFrom (C + 1) scope.names (cloFrom X.env.cells scope.names [])) C X.env)) (compPost (model X.prog X.w) X.A X.xe use Qf (.ref S) C) s4
  rw [hce]
  exact codeAny_compStart_list loop (wpAny_pyIter_gen (hg.keeps kp1) loop)
/-- as a value -/
theorem pe_glc {y : Str} {py ty : Pos} {iter : Expr} {scope : Scope} {pos : Pos} {tg : TGen} (hi : PGc X k iter tg fun _ _ _ => False) (hr : Room (k + 3) X.A) (hkind : scope.kind = .function) (huniq : ∀ x ∈ scope.names, x.2 = .local → scope.names.lookup x.1 = some .local)
    (hcl : ∀ x ∈ scope.names, x.2 ≠ .free) (hy : scope.names.lookup y = some .local) (hdb : (y == ("__debug__" : Str)) = false) (hs : ∀ x, foldedSetIterable iter X.env x = pure x := by intro _; rfl) :
    PE X (.ListComp (.Name y py) [⟨.Name y ty, iter, [], 0⟩] scope pos) (tListG tg) := by
  refine ⟨fun pins s σ H Q I h => ?_⟩
  rw [eval_ListComp]
  refine glc_core I hi hr hkind huniq hcl hy hdb hs h fun D C s' m H' I' q hn f => ⟨m, hn, fun h'' sb => ?_⟩
  obtain ⟨f0, f1, f2, f3, f4, f5⟩ := f
  exact ⟨.ref D, H', I'.turned (t' := s'.toks) (fun b o hb e => (sb.2 b hb).trans e) f0 f1 f3 f4 f5, rfl, q⟩
/-- name = [..] on one line, the name a local -/
theorem ps_setGlc {i : Nat} {z : Str} {pz : Pos} {y : Str} {py ty : Pos} {iter : Expr} {scope : Scope} {pos spos : Pos} {tg : TGen} (hN : X.N.Nodup) (hz : X.N[i]? = some z) (hzl : X.env.scope.names.lookup z = some .local)
    (hsw : swapsWith (.ListComp (.Name y py) [⟨.Name y ty, iter, [], 0⟩] scope pos) (some (.Name z pz)) spos.line X.env = pure true)
    (hi : PGc X k iter tg fun _ _ _ => False) (hr : Room (k + 3) X.A) (hkind : scope.kind = .function) (huniq : ∀ x ∈ scope.names, x.2 = .local → scope.names.lookup x.1 = some .local)
    (hcl : ∀ x ∈ scope.names, x.2 ≠ .free) (hy : scope.names.lookup y = some .local) (hdb : (y == ("__debug__" : Str)) = false) (hs : ∀ x, foldedSetIterable iter X.env x = pure x := by intro _; rfl) :
    PS X (.Assign [.Name z pz] (.ListComp (.Name y py) [⟨.Name y ty, iter, [], 0⟩] scope pos) spos) (tAsg (tListG tg) (gName i)) := by
  refine ⟨fun pins s σ H D I h => ?_⟩
  rw [exec_Assign_Name_used _ _ _ _ hsw]
  refine wpAny_bind (wpAny_standAt (wpAny_bind ?_))
  show wpAny _ X.A (do let _ ← comprehension (.ListComp (.Name y py) [⟨.Name y ty, iter, [], 0⟩] scope pos) scope X.env (firstIterPos [⟨.Name y ty, iter, [], 0⟩] pos) (newList []) false (eval iter X.env) (some (assign (.Name z pz) X.env))) _ _ s
  have h : tListG tg σ H (fun x H1 => gName i x σ H1 D.nx) := h
  refine wpAny_bind (thn (glc_core (Q := fun x H1 => gName i x σ H1 D.nx) (Qf := fun _ s' => SP X pins D .next s') I hi hr hkind huniq hcl hy hdb hs h fun L C s' m H' I' q hn f => ?_) fun _ s' hq => wpAny_pure (wpAny_pure hq))
  show wpAny _ _ (assign (.Name z pz) X.env (.ref L)) _ _ _
  refine wpAny_assign_Name (store_ok2 (v := V.ref L) I' hN hz (.inl hzl) rfl (fun s2 I2 ⟨a, sb, ha⟩ => ?_) (.inr hzl))
  obtain ⟨f0, f1, f2, f3, f4, f5⟩ := f
  have haC : C ≠ a := by
    rcases ha with z | z
    · rw [z]; exact f1
    · exact fun e => f4 _ a z e.symm
  refine ⟨m, hn.sameBut sb haC, fun h3 sb3 => ?_⟩
  exact ⟨_, H', I2.turned (t' := s2.toks) (fun b o hb e => (sb3.2 b hb).trans e) f0 f1 f3 f4 f5, q⟩
end
end Fc

namespace Fc
open PySem PySem.Spec PyProof.Rows L2 GenW
/-! ## generators by data -/
structure PoG where
  nx : List D → Ga → Hl → Prop
  bk : List D → Ga → Hl → Prop := fun _ _ _ => False
  ct : List D → Ga → Hl → Prop := fun _ _ _ => False
section
variable (K : PySem.W.Frag) (H0 : Hp)
structure SatG (T : Hp) (p : PoG) (E : GEnds) : Prop where
  nx : ∀ ys G L vs σ H, p.nx ys G L → TX T H → Stt K H0 G L σ H → ImL K H vs ys → E.nx vs σ H
  bk : ∀ ys G L vs σ H, p.bk ys G L → TX T H → Stt K H0 G L σ H → ImL K H vs ys → E.bk vs σ H
  ct : ∀ ys G L vs σ H, p.ct ys G L → TX T H → Stt K H0 G L σ H → ImL K H vs ys → E.ct vs σ H
def GoG (ys : List D) (G : Ga) (L : Hl) (t : TGn) (p : PoG) : Prop := ∀ T σ H vs E, TX T H → Stt K H0 G L σ H → ImL K H vs ys → SatG K H0 T p E → t E vs σ H
end
section
variable {K : PySem.W.Frag} {H0 H H' : Hp} {G G' : Ga} {L L' N : Hl} {σ : L2.St} {te : TE} {tt : TT} {ts : TS} {t u v : TGn} {d x y z : D} {ds ys : List D} {b c : Bool} {p : PoG} {g : TG} {wi : TI} {P : D → Hl → Prop}
/-- a statement that hands out nothing -/
theorem gg_plain (h : Go K H0 G L ts { nx := p.nx ys, rt := fun _ _ => False, bk := p.bk ys, ct := p.ct ys }) : GoG K H0 ys G L (tPlain ts) p := fun T σ H vs E t st im s =>
  h H σ H (E.at vs) (TX.refl H) st ⟨fun G L σ' H' m t' st' => s.nx ys G L vs σ' H' m (t.trans t') st' (im.tx t'), fun _ _ _ _ z => z.elim, fun G L σ' H' m t' st' => s.bk ys G L vs σ' H' m (t.trans t') st' (im.tx t'), fun G L σ' H' m t' st' => s.ct ys G L vs σ' H' m (t.trans t') st' (im.tx t')⟩
theorem gg_nil (h : p.nx ys G L) : GoG K H0 ys G L tG0 p := fun T σ H vs E t st im s => s.nx ys G L vs σ H h t st im
theorem gg_then (M : List D → Ga → Hl → Prop) (h1 : GoG K H0 ys G L t { p with nx := M }) (h2 : ∀ ys' G' L', M ys' G' L' → GoG K H0 ys' G' L' u p) : GoG K H0 ys G L (tGThen t u) p := fun T σ H vs E tx st im s =>
  h1 T σ H vs _ tx st im ⟨fun ys' G' L' vs' σ' H' m t' st' im' => h2 ys' G' L' m T σ' H' vs' E t' st' im' s, s.bk, s.ct⟩
theorem gg_seq (h1 : GoG K H0 ys G L t { p with nx := fun ys' G' L' => GoG K H0 ys' G' L' u p }) : GoG K H0 ys G L (tGThen t u) p := gg_then _ h1 fun _ _ _ h => h
theorem gg_if (h : EvT K H0 G L tt b) (h1 : b = true → GoG K H0 ys G L t p) (h2 : b = false → GoG K H0 ys G L u p) : GoG K H0 ys G L (tGIf tt t u) p := fun T σ H vs E tx st im s => h σ H st _ fun H' e => by
  cases b with
  | true =>
    show (if true = true then _ else _)
    rw [if_pos rfl]
    exact h1 rfl T σ H' vs E (tx.trans (Same.tx e)) (st.same e) (im.tx (Same.tx e)) s
  | false =>
    show (if false = true then _ else _)
    rw [if_neg Bool.false_ne_true]
    exact h2 rfl T σ H' vs E (tx.trans (Same.tx e)) (st.same e) (im.tx (Same.tx e)) s
theorem gg_yield (h : EvP K H0 G L te d) (hz : ys.length ≤ 100000) (hk : p.nx (ys ++ [d]) G L) : GoG K H0 ys G L (tGYield te) p := fun T σ H vs E tx st im s => by
  refine ⟨by rw [im.length]; exact Nat.lt_of_le_of_lt hz (by decide), h σ H st _ fun v H' e i => ?_⟩
  exact s.nx _ G L _ σ H' hk (tx.trans (Same.tx e)) (st.same e) ((im.tx (Same.tx e)).snoc i)
theorem gg_for {P : List D → (Hl → Prop) → Hl → Prop} (hw : EvI K H0 G L wi P)
    (h : ∀ ds W N, P ds W N → ∃ I : Nat → List D → Ga → Hl → Prop, I 0 ys G (N ++ L) ∧ (∀ i ys G L, I i ys G L → W L) ∧
      (∀ i d ys G L, ds[i]? = some d → I i ys G L → ∃ G', EvG K H0 G d g G' ∧ GoG K H0 ys G' L t { nx := I (i + 1), ct := I (i + 1), bk := p.nx }) ∧ ∀ ys G L, I ds.length ys G L → p.nx ys G L) :
    GoG K H0 ys G L (tGFor wi g t) p := fun T σ H vs E tx st im s => by
  refine hw σ H st _ fun J H' ds W N m e hf hn ho it => ?_
  obtain ⟨I, h0, hW, hs, hd⟩ := h ds W N m
  have tt := tx.trans (Same.tx e)
  refine ⟨fun i m vs σ H => m = ds.length - i ∧ i ≤ ds.length ∧ ∃ ys G L, I i ys G L ∧ TX H' H ∧ Stt K H0 G L σ H ∧ ImL K H vs ys, ⟨_, rfl, Nat.zero_le _, ys, _, _, h0, TX.refl _, st.add e hf hn ho, im.tx (Same.tx e)⟩, ?_⟩
  rintro i m vs1 σ1 H1 ⟨rfl, hi, ys1, G1, L1, a, t1, st1, im1⟩
  by_cases hlt : i < ds.length
  · refine .inr ⟨it.go i L1 H1 t1 st1.hs (hW i ys1 G1 L1 a) hlt, fun vs2 σ2 H2 => ∃ ys G L, I (i + 1) ys G L ∧ TX H' H2 ∧ Stt K H0 G L σ2 H2 ∧ ImL K H2 vs2 ys, fun vs2 σ2 H2 q => ⟨_, by omega, rfl, hlt, q⟩, fun x H2 yl => ?_⟩
    obtain ⟨e2, d, hd', im2⟩ := it.yld i L1 H1 x H2 t1 st1.hs (hW i ys1 G1 L1 a) hlt yl
    obtain ⟨G', hg, hb⟩ := hs i d ys1 G1 L1 hd' a
    refine hg L1 σ1 H2 x (st1.same e2) im2 _ fun σ3 st3 => ?_
    refine hb H' σ3 H2 vs1 _ (t1.trans (Same.tx e2)) st3 (im1.tx (Same.tx e2)) ⟨fun ys G L vs σ H a t b i => ⟨ys, G, L, a, t, b, i⟩, fun ys G L vs σ H a t b i => s.nx ys G L vs σ H a (tt.trans t) b i, fun ys G L vs σ H a t b i => ⟨ys, G, L, a, t, b, i⟩⟩
  · have e : i = ds.length := by omega
    subst e
    exact .inl ⟨it.stop L1 H1 t1 st1.hs (hW _ ys1 G1 L1 a), s.nx ys1 G1 L1 vs1 σ1 H1 (hd ys1 G1 L1 a) (tt.trans t1) st1 im1⟩
/-! ### a generator def by data -/
abbrev FG := Hl → List D → (List D → Prop) → Prop
/-- hands out data, writes nothing that stood -/
def spG (K : PySem.W.Frag) (S : FG) : SpG := fun vs H Q E => ∃ Z ds R, Rds K H Z ∧ ImL K H vs ds ∧ S Z ds R ∧ ∀ out H' od, R od → Same H H' → ImL K H' out od → Q out H'
theorem body_goG {S : FG} {N : List Str} {t : TGn} (h : ∀ Z ds R H0, Rds K H0 Z → S Z ds R → GoG K H0 [] (args N ds) [] t { nx := fun ys _ _ => R ys }) {vs : List V} {Q : List V → Hp → Prop} {E : XK} (hs : spG K S vs H Q E) :
    t { nx := fun ys _ H' => Q ys H', rt := fun ys v H' => v = .non ∧ Q ys H' } [] (L2.start N vs) H := by
  obtain ⟨Z, ds, R, hz, im, s, q⟩ := hs
  refine h Z ds R H hz s H _ H [] _ (TX.refl H) ⟨⟨Same.refl H, Hs.nil, .nil, fun _ z => nomatch z⟩, start_vr im⟩ .nil ⟨fun ys G L vs σ H' r t st i => ?_, fun _ _ _ _ _ _ z => z.elim, fun _ _ _ _ _ _ z => z.elim⟩
  exact q vs H' ys r st.hs.ext i
theorem pr_keysG : ∀ {l : List (Str × V)} {m : List (Str × D)}, Paired (PrI K H) l m → l.map (·.1) = m.map (·.1)
  | _, _, .nil => rfl
  | _, _, .cons r t => by rw [List.map_cons, List.map_cons, pr_keysG t, r.1]
/-- [x for x in o.m(..)] -/
theorem en_glc {S : FG} {R : List D → Prop} {Z : Hl} {E : XK} {C a dx : Addr} {m : Str} {fs : List (Str × D)} {ta : TA} (ho : EvP K H0 G L te (.ref a)) (hk : Lk K H0 L a (.ins C dx fs)) (hm : ∀ xs : List (Str × V), xs.map (·.1) = fs.map (·.1) → xs.lookup m = none) (ha : EvA K H0 G L ta ds) (hS : S Z (.ref a :: ds) R) (hr : ∀ p ∈ Z, Lk K H0 L p.1 p.2) :
    EvN K H0 G L (tListG (tMethG C m (spG K S) [] E te ta)) (fun d N => ∃ a out, R out ∧ d = .ref a ∧ N = [(a, .lst out)]) := fun σ H st Q q => ho σ H st _ fun v H1 e1 i1 => by
  cases i1
  obtain ⟨xs, hx, hp⟩ := hk.rdo (st.same e1).hs
  refine ⟨a, dx, xs, rfl, hx, hm xs (pr_keysG hp), ha σ H1 (st.same e1) _ fun vs H2 e2 i2 => ?_⟩
  have st2 := (st.same e1).same e2
  refine ⟨Z, _, R, fun p hp => (hr p hp).rdo st2.hs, .cons (.ref a) (by rw [List.append_nil]; exact i2), hS, fun out H3 od r e3 i3 p hp => ?_⟩
  have sm : Same H3 (upd H3 p (.lst out)) := Same.new hp
  have e03 := (e1.trans e2).trans e3
  refine q (.ref p) _ (.ref p) [(p, .lst od)] ⟨p, od, r, rfl, rfl⟩ (e03.trans sm) (fun z hz => by rw [List.mem_singleton.mp hz]; exact e03.free hp) (by simp) (fun z hz => ?_) (.ref p)
  rw [List.mem_singleton.mp hz]
  exact ⟨_, upd_same, i3.tx (Same.tx sm)⟩
end
/-! ### bundles -/
structure Pg (P : Program) (w : World) (K : PySem.W.Frag) (mg : Str → Option Value) (base : Heap) (C : Addr) (m : Str) (k : Nat) (S : FG) : Prop where
  ex : ∃ f fd ps, Meth K C m f ∧ GFc P w K mg base k f fd ps (spG K S) ∧ Binds K fd ps []
section
variable {P : Program} {w : World} {K : PySem.W.Frag} {mg : Str → Option Value} {base : Heap} {C : Addr}
abbrev BodyG (P : Program) (w : World) (K : PySem.W.Frag) (mg : Str → Option Value) (base : Heap) (qual : Str) (st : Stmt) (N : List Str) (k : Nat) (S : FG) : Prop :=
  ∀ (f : Addr) (cdv : Value) (A : Around) (outer : List Env) (s : Shared) (H : Hp) (E : XK) (pn : List (Addr × Obj)), Room k (A.deeper (envOfC qual (defScope st) s.heap.objs.size f cdv)) →
      ∃ t, GScs (gcxOf P w K mg base N qual (defScope st) f cdv A outer s H E pn) (defBody st) t ∧ ∀ Z ds R H0, Rds K H0 Z → S Z ds R → GoG K H0 [] (args N ds) [] t { nx := fun ys _ _ => R ys }
theorem pg_mk {m qual : Str} {st : Stmt} {N ps : List Str} {k : Nat} {S : FG} (F : MethG K C m qual st) (sc : GScope N ps (defScope st)) (bh : BindM m qual st ps) (len : ∀ Z ds R, S Z ds R → ds.length = ps.length) (hb : BodyG P w K mg base qual st N k S) : Pg P w K mg base C m (k + 1) S := by
  obtain ⟨f, fd, F1, hm⟩ := F.ex
  have hbd := F1.binds bh
  obtain ⟨oc, od, kV, doc, pm, an, cdv, ct, osl, rfl, lk, hcd⟩ := F1.ex
  refine ⟨f, _, ps, hm, gfc_of lk hcd sc (fun vs H Q E h => ?_) (fun A outer s H vs Q E pn hr h => ?_), hbd⟩
  · obtain ⟨Z, ds, R, _, im, s, _⟩ := h
    rw [im.length]
    exact len Z ds R s
  · obtain ⟨t, ht, hg⟩ := hb f cdv A outer s H E pn hr
    exact ⟨t, ht, body_goG hg h⟩
end
theorem GFc.mono {P : Program} {w : World} {K : PySem.W.Frag} {mg : Str → Option Value} {base : Heap} {j k : Nat} {f : Addr} {fd : FuncData} {ps : List Str} {sp : SpG} (F : GFc P w K mg base k f fd ps sp) (h : k ≤ j) : GFc P w K mg base j f fd ps sp :=
  ⟨F.len, fun A outer s H args us vs Q E hr e0 hb r hs => codeAny_mono (F.run A outer s H args us vs Q E (hr.mono h) e0 hb r hs) fun r s' hq => by
    cases r with
    | error e => exact hq
    | ok fl =>
      cases fl with
      | ret u =>
        obtain ⟨a, g, c, h1, h2, h3, h4, h5, h6, h7, h8, h9, wake⟩ := hq
        exact ⟨a, g, c, h1, h2, h3, h4, h5, h6, h7, h8, h9, fun A S C s2 hr => wake A S C s2 (hr.mono h)⟩
      | next => exact hq
      | brk => exact hq
      | cont => exact hq⟩
section
variable {X : Cx} {m : Str} {pos apos : Pos} {o e : Expr} {es : List Expr} {te : TE} {t : TA} {k j : Nat} {P : Program} {w : World} {K : PySem.W.Frag} {mg : Str → Option Value} {base : Heap} {C : Addr} {S : FG} {E : XK}
theorem pgc_pg {pl : Sem Bool} (F : Pg P w K mg base C m k S) (c : Cls K C) (hr : Room j X.A) (hj : k ≤ j) (he : PE X o te) (ha : PA X (e :: es) t) (hP : X.prog = P := by rfl) (hw : X.w = w := by rfl) (hK : X.K = K := by rfl) (hm : X.mg = mg := by rfl) (hb : X.base = base := by rfl)
    (hst : starEach (e :: es) X.env = (false, eval e X.env) :: starEach es X.env := by rfl) (hpl : (backTo pos (starEach es X.env)).any (·.1) = false := by rfl)
    (ht : eval (.Call (.Attribute o m apos) (e :: es) [] pos) X.env = (do
      let ov ← eval o X.env
      standAt apos.atName
      let (f, first) ← holding [ov] (getMethod ov m pl)
      callWith pos f first (backTo pos (starEach (e :: es) X.env)) (backToKw pos (keywordEach [] X.env))) := by rfl) : PGc X j (.Call (.Attribute o m apos) (e :: es) [] pos) (tMethG C m (spG K S) [] E te t) E := by
  subst hP hw hK hm hb
  obtain ⟨f, fd, ps, hm, F1, hbd⟩ := F.ex
  exact pgc_meth (pl := pl) he c hm (F1.mono hj) hr hbd .nil ha hst hpl ht
end
end Fc

namespace Fc
open PySem PySem.Spec PyProof.Rows L2
section
variable {K : PySem.W.Frag} {H0 H H' : Hp} {G G' : Ga} {L L' N : Hl} {σ : L2.St} {te : TE} {d x y z : D} {ds : List D} {R : D → Hl → Prop}
/-- o.m(..) with new objects among the arguments -/
theorem en_mxN {S : FX} {Z : Hl} {E : XK} {C a dx : Addr} {m : Str} {fs : List (Str × D)} {ta : TA} {PA : List D → Hl → Prop} (ho : EvP K H0 G L te (.ref a)) (hk : Lk K H0 L a (.ins C dx fs)) (hm : ∀ xs : List (Str × V), xs.map (·.1) = fs.map (·.1) → xs.lookup m = none) (ha : EvAN K H0 G L ta PA) (hS : ∀ ds N, PA ds N → S [] (N ++ Z) (.ref a :: ds) (.ret R)) (hr : ∀ p ∈ Z, Lk K H0 L p.1 p.2) :
    EvN K H0 G L (tMeth C m (spX K S) [] E te ta) R := fun σ H st Q q => ho σ H st _ fun v H1 e1 i1 => by
  cases i1
  obtain ⟨xs, hx, hp⟩ := hk.rdo (st.same e1).hs
  refine ⟨a, dx, xs, rfl, hx, hm xs (pr_keysG hp), ha σ H1 (st.same e1) _ fun vs H2 ds N p e2 hf hn ho2 i2 => ?_⟩
  show spX K S (.ref a :: (vs ++ [])) H2 Q E
  rw [List.append_nil]
  have st2 := (st.same e1).add e2 hf hn ho2
  refine spX_ofF (en_sp (S := fun Z ds R => S [] Z ds (.ret R)) (Z := N ++ Z) (hS ds N p) (fun z hz => ?_) st2 (.cons (.ref a) i2) fun v H' d N' r e hf' hn' ho' i => q v H' d N' r ((e1.trans e2).trans e) (fun p hp => (e1.trans e2).free (hf' p hp)) hn' ho' i)
  rcases List.mem_append.mp hz with h | h
  · exact .inl (List.mem_append_left _ h)
  · rcases hr z h with h | h
    · exact .inl (List.mem_append_right _ h)
    · exact .inr h
end
end Fc

namespace Fc
/-! ## words counted at the states of a table -/
def smN : Nat → (Nat → Nat) → Nat
  | 0, _ => 0
  | n + 1, f => smN n f + f n
theorem smN_congr {n : Nat} {f g : Nat → Nat} (h : ∀ i, i < n → f i = g i) : smN n f = smN n g := by
  induction n with
  | zero => rfl
  | succ n ih => rw [smN, smN, ih (fun i hi => h i (by omega)), h n (by omega)]
theorem smN_zero {n : Nat} {f : Nat → Nat} (h : ∀ i, i < n → f i = 0) : smN n f = 0 := by
  induction n with
  | zero => rfl
  | succ n ih => rw [smN, ih (fun i hi => h i (by omega)), h n (by omega)]
theorem smN_add (n : Nat) (f g : Nat → Nat) : smN n (fun i => f i + g i) = smN n f + smN n g := by
  induction n with
  | zero => rfl
  | succ n ih => rw [smN, smN, smN, ih]; omega
theorem smN_mul (n : Nat) (a : Nat) (f : Nat → Nat) : smN n (fun i => a * f i) = a * smN n f := by
  induction n with
  | zero => rfl
  | succ n ih => rw [smN, smN, ih, Nat.mul_add]
theorem smN_at {n k : Nat} {f : Nat → Nat} (hk : k < n) (h : ∀ i, i < n → i ≠ k → f i = 0) : smN n f = f k := by
  induction n with
  | zero => omega
  | succ n ih =>
    rw [smN]
    by_cases e : k = n
    · subst e
      rw [smN_zero (fun i hi => h i (by omega) (by omega)), Nat.zero_add]
    · rw [ih (by omega) (fun i hi => h i (by omega)), h n (by omega) (by omega)]; rfl
theorem smN_swap (n m : Nat) (f : Nat → Nat → Nat) : smN n (fun i => smN m (f i)) = smN m (fun j => smN n (fun i => f i j)) := by
  induction n with
  | zero => exact (smN_zero (fun _ _ => rfl)).symm
  | succ n ih => rw [smN, ih, ← smN_add]; rfl
theorem smN_le {n : Nat} {f g : Nat → Nat} (h : ∀ i, i < n → f i ≤ g i) : smN n f ≤ smN n g := by
  induction n with
  | zero => exact Nat.le_refl _
  | succ n ih => exact Nat.add_le_add (ih fun i hi => h i (by omega)) (h n (by omega))
theorem smN_split (a b : Nat) (f : Nat → Nat) : smN (a + b) f = smN a f + smN b (fun i => f (a + i)) := by
  induction b with
  | zero => rfl
  | succ b ih => show smN (a + b) f + f (a + b) = _; rw [ih, smN]; omega
/-- only a window of the places counts -/
theorem smN_win {n a b : Nat} {f : Nat → Nat} (h : a + b ≤ n) (hf : ∀ i, i < n → (i < a ∨ a + b ≤ i) → f i = 0) : smN n f = smN b (fun i => f (a + i)) := by
  rw [show n = a + b + (n - a - b) by omega, smN_split, smN_split, smN_zero (n := a) (fun i hi => hf i (by omega) (.inl hi)), smN_zero (n := n - a - b) (fun i hi => hf _ (by omega) (.inr (by omega)))]
  omega
theorem smN_cast (n : Nat) (f : Nat → Nat) : ((smN n f : Nat) : Rat) = sm n (fun i => (f i : Rat)) := by
  induction n with
  | zero => rfl
  | succ n ih => rw [smN, sm, Rat.natCast_add, ih]
theorem smN_list (l : List Nat) : l.sum = smN l.length fun i => l.getD i 0 := by
  induction l with
  | nil => rfl
  | cons x l ih =>
    have : ∀ n, smN (n + 1) (fun i => (x :: l).getD i 0) = x + smN n (fun i => l.getD i 0) := fun n => by
      induction n with
      | zero => show 0 + x = x + 0; omega
      | succ n ih => rw [smN, ih, smN]; show _ + smN n _ + l.getD n 0 = _; omega
    rw [List.sum_cons, List.length_cons, this, ih]
/-- counts of an item in the pieces of a list -/
theorem count_pieces (s y : Nat) : ∀ (n : Nat) (l : List Nat), l.length = n * s → smN n (fun j => ((l.drop (j * s)).take s).count y) = l.count y := by
  intro n
  induction n with
  | zero => intro l h; rw [Nat.zero_mul] at h; rw [List.eq_nil_of_length_eq_zero h]; rfl
  | succ n ih =>
    intro l h
    have h1 : l = l.take (n * s) ++ l.drop (n * s) := (List.take_append_drop _ _).symm
    have hn : (n + 1) * s = n * s + s := Nat.succ_mul n s
    have h2 : (l.take (n * s)).length = n * s := by rw [List.length_take]; omega
    rw [smN]
    have h3 : smN n (fun j => ((l.drop (j * s)).take s).count y) = (l.take (n * s)).count y := by
      rw [← ih _ h2]
      refine smN_congr fun j hj => ?_
      congr 1
      rw [List.drop_take, List.take_take]
      have : (j + 1) * s ≤ n * s := Nat.mul_le_mul_right s (by omega)
      rw [Nat.succ_mul] at this
      congr 1
      omega
    have h4 : (l.drop (n * s)).take s = l.drop (n * s) := List.take_of_length_le (by rw [List.length_drop]; omega)
    rw [h3, h4]
    conv => rhs; rw [h1, List.count_append]

/-- words of length k that lead to x; those that decided are counted where they did -/
def cntT (s : Nat) (t : List Rw) : Nat → Nat → Nat
  | 0, x => if x = 0 then 1 else 0
  | k + 1, y => smN t.length (fun x => match t[x]? with | some (.go l) => cntT s t k x * l.count y | _ => 0) + match t[y]? with | some (.fin _) => s * cntT s t k y | _ => 0
/-- of these the open ones, those decided on o -/
def opnT (s : Nat) (t : List Rw) (k : Nat) : Nat := smN t.length fun x => match t[x]? with | some (.go _) => cntT s t k x | _ => 0
def decT (s : Nat) (t : List Rw) (k o : Nat) : Nat := smN t.length fun x => match t[x]? with | some (.fin a) => if a = o then cntT s t k x else 0 | _ => 0
section
variable {s m : Nat} {t : List Rw} {d : Nat → Nat}
/-- one throw more, for any weights of the states -/
theorem cnt_step (T : Tb s m t) (k : Nat) (X : Nat → Rat) : sm t.length (fun y => (cntT s t (k + 1) y : Rat) * X y) = sm t.length (fun x => (cntT s t k x : Rat) * (match t[x]? with | some (.go l) => lsum l X | _ => (s : Rat) * X x)) := by
  have e1 : ∀ y, y < t.length → (cntT s t (k + 1) y : Rat) * X y = sm t.length (fun x => (match t[x]? with | some (.go l) => (cntT s t k x : Rat) * ((cnt l y : Rat) * X y) | _ => 0)) + (match t[y]? with | some (.fin _) => (cntT s t k y : Rat) * ((s : Rat) * X y) | _ => 0) := fun y _ => by
    rw [cntT, Rat.natCast_add, smN_cast, Rat.add_mul, ← sm_mul_right]
    congr 1
    · refine sm_congr fun x _ => ?_
      split
      · rename_i l e
        rw [Rat.natCast_mul, Rat.mul_assoc]; rfl
      · exact Rat.zero_mul _
    · split
      · rw [Rat.natCast_mul]; grind
      · exact Rat.zero_mul _
  rw [sm_congr e1, sm_add, sm_swap, ← sm_add]
  refine sm_congr fun x hx => ?_
  obtain ⟨q, hq⟩ : ∃ q, t[x]? = some q := ⟨t[x], List.getElem?_eq_getElem hx⟩
  rw [hq]
  cases q with
  | fin a =>
    rw [sm_zero (fun _ _ => rfl), Rat.zero_add]
  | go l =>
    show sm t.length (fun y => (cntT s t k x : Rat) * ((cnt l y : Rat) * X y)) + 0 = _
    rw [sm_mul, cnt_sum _ _ _ (T.go x l hq).2, Rat.add_zero]
theorem cnt_start (T : Tb s m t) (X : Nat → Rat) : sm t.length (fun x => (cntT s t 0 x : Rat) * X x) = X 0 := by
  rw [sm_at (k := 0) T.n1 (fun i _ hi => by
    have : cntT s t 0 i = 0 := if_neg hi
    rw [this]; exact Rat.zero_mul _)]
  have : cntT s t 0 0 = 1 := if_pos rfl
  rw [this]
  exact Rat.one_mul _
theorem s_pos (T : Tb s m t) : (0 : Rat) < (s : Rat) := Rat.natCast_pos.mpr (by have := T.s1; omega)
/-- chances are kept -/
theorem cnt_X (T : Tb s m t) (r : Rk t d) {o : Nat} (ho : o < m) : ∀ k, sm t.length (fun x => (cntT s t k x : Rat) * X t.length (tabM s m t) o x) = (s : Rat) ^ k * X t.length (tabM s m t) o 0
  | 0 => by rw [cnt_start T, Rat.pow_zero, Rat.one_mul]
  | k + 1 => by
    have s0 := s_pos T
    rw [cnt_step T, Rat.pow_succ]
    have e : sm t.length (fun x => (cntT s t k x : Rat) * (match t[x]? with | some (.go l) => lsum l (X t.length (tabM s m t) o) | _ => (s : Rat) * X t.length (tabM s m t) o x)) = sm t.length (fun x => (s : Rat) * ((cntT s t k x : Rat) * X t.length (tabM s m t) o x)) := sm_congr fun x hx => by
      obtain ⟨q, hq⟩ : ∃ q, t[x]? = some q := ⟨t[x], List.getElem?_eq_getElem hx⟩
      rw [hq]
      cases q with
      | fin a => show _ * (_ * _) = _; grind
      | go l =>
        show _ * lsum l _ = _
        have := X_go T r hq ho
        have h2 : lsum l (X t.length (tabM s m t) o) = (s : Rat) * X t.length (tabM s m t) o x := by rw [this, Rat.mul_comm, Rat.div_mul_cancel (by grind)]
        rw [h2]; grind
    rw [e, sm_mul, cnt_X T r ho k]
    grind
/-- all words -/
theorem cnt_all (T : Tb s m t) : ∀ k, smN t.length (cntT s t k) = s ^ k := by
  have key : ∀ k, sm t.length (fun x => (cntT s t k x : Rat) * 1) = (s : Rat) ^ k := fun k => by
    induction k with
    | zero => rw [cnt_start T, Rat.pow_zero]
    | succ k ih =>
      have e0 : (s : Rat) ^ (k + 1) = sm t.length (fun x => (s : Rat) * ((cntT s t k x : Rat) * 1)) := by rw [sm_mul, ih, Rat.pow_succ, Rat.mul_comm]
      rw [cnt_step T, e0]
      refine sm_congr fun x hx => ?_
      obtain ⟨q, hq⟩ : ∃ q, t[x]? = some q := ⟨t[x], List.getElem?_eq_getElem hx⟩
      rw [hq]
      cases q with
      | fin a => show _ * (_ * _) = _; grind
      | go l =>
        show _ * lsum l (fun _ => 1) = _
        rw [lsum_const, (T.go x l hq).1]
        grind
  intro k
  have := key k
  have e : ((smN t.length (cntT s t k) : Nat) : Rat) = ((s ^ k : Nat) : Rat) := by
    rw [smN_cast, Rat.natCast_pow, ← this]
    exact sm_congr fun x _ => (Rat.mul_one _).symm
  exact Rat.natCast_inj.mp e
theorem opn_dec (T : Tb s m t) (k : Nat) : opnT s t k + smN m (decT s t k) = s ^ k := by
  rw [← cnt_all T k]
  unfold opnT
  have : smN m (decT s t k) = smN t.length fun x => match t[x]? with | some (.fin a) => cntT s t k x | _ => 0 := by
    show smN m (fun o => decT s t k o) = _
    unfold decT
    rw [smN_swap]
    refine smN_congr fun x hx => ?_
    obtain ⟨q, hq⟩ : ∃ q, t[x]? = some q := ⟨t[x], List.getElem?_eq_getElem hx⟩
    rw [hq]
    cases q with
    | go l => exact smN_zero fun _ _ => rfl
    | fin a =>
      show smN m (fun o => if a = o then cntT s t k x else 0) = cntT s t k x
      rw [smN_at (k := a) (T.fin x a hq) (fun i _ hi => if_neg (fun e => hi e.symm)), if_pos rfl]
  rw [this, ← smN_add]
  refine smN_congr fun x hx => ?_
  obtain ⟨q, hq⟩ : ∃ q, t[x]? = some q := ⟨t[x], List.getElem?_eq_getElem hx⟩
  rw [hq]
  cases q with
  | go l => exact Nat.add_zero _
  | fin a => exact Nat.zero_add _
/-- what is decided in time is at most the chance -/
theorem dec_le (T : Tb s m t) (r : Rk t d) {o : Nat} (ho : o < m) (k : Nat) : (decT s t k o : Rat) ≤ (s : Rat) ^ k * X t.length (tabM s m t) o 0 := by
  rw [← cnt_X T r ho k]
  unfold decT
  rw [smN_cast]
  refine sm_le fun x hx => ?_
  obtain ⟨q, hq⟩ : ∃ q, t[x]? = some q := ⟨t[x], List.getElem?_eq_getElem hx⟩
  have nn := X_nn (T.sup r) o hx
  have c0 : (0 : Rat) ≤ (cntT s t k x : Rat) := Rat.natCast_nonneg
  have h0 : (0 : Rat) ≤ (cntT s t k x : Rat) * X t.length (tabM s m t) o x := Rat.mul_nonneg c0 nn
  rw [hq]
  cases q with
  | go l => exact h0
  | fin a =>
    show (((if a = o then cntT s t k x else 0 : Nat)) : Rat) ≤ _
    by_cases e : a = o
    · subst e
      rw [if_pos rfl, X_fin T r hq, if_pos rfl, Rat.mul_one]
      exact Rat.le_refl
    · rw [if_neg e]; exact h0
/-- .. and the rest is open -/
theorem dec_gap (T : Tb s m t) (r : Rk t d) {o : Nat} (ho : o < m) (k : Nat) : (s : Rat) ^ k * X t.length (tabM s m t) o 0 ≤ (decT s t k o : Rat) + (opnT s t k : Rat) := by
  rw [← cnt_X T r ho k]
  unfold decT opnT
  rw [smN_cast, smN_cast, ← sm_add]
  refine sm_le fun x hx => ?_
  obtain ⟨q, hq⟩ : ∃ q, t[x]? = some q := ⟨t[x], List.getElem?_eq_getElem hx⟩
  have c0 : (0 : Rat) ≤ (cntT s t k x : Rat) := Rat.natCast_nonneg
  have x1 : X t.length (tabM s m t) o x ≤ 1 := by
    have h1 := X_sum T r hx
    have h2 : X t.length (tabM s m t) o x ≤ sm m (fun o => X t.length (tabM s m t) o x) := by
      have := sm_le (n := m) (f := fun i => if i = o then X t.length (tabM s m t) o x else 0) (g := fun o => X t.length (tabM s m t) o x) fun i _ => by
        by_cases e : i = o
        · subst e; rw [if_pos rfl]; exact Rat.le_refl
        · rw [if_neg e]; exact X_nn (T.sup r) i hx
      rwa [sm_at (k := o) ho (fun i _ hi => if_neg hi), if_pos rfl] at this
    rw [h1] at h2
    exact h2
  have h0 : (cntT s t k x : Rat) * X t.length (tabM s m t) o x ≤ (cntT s t k x : Rat) * 1 := Rat.mul_le_mul_of_nonneg_left x1 c0
  rw [Rat.mul_one] at h0
  rw [hq]
  cases q with
  | go l => show _ ≤ ((0 : Nat) : Rat) + (cntT s t k x : Rat); have : ((0 : Nat) : Rat) = 0 := rfl; rw [this, Rat.zero_add]; exact h0
  | fin a =>
    show _ ≤ (((if a = o then cntT s t k x else 0 : Nat)) : Rat) + ((0 : Nat) : Rat)
    have z0 : ((0 : Nat) : Rat) = 0 := rfl
    rw [z0, Rat.add_zero, X_fin T r hq]
    by_cases e : o = a
    · subst e; rw [if_pos rfl, if_pos rfl, Rat.mul_one]; exact Rat.le_refl
    · rw [if_neg e, if_neg (fun z => e z.symm), Rat.mul_zero]; exact Rat.le_refl
/-- throws -/
theorem cnt_T (T : Tb s m t) (r : Rk t d) : ∀ k, sm t.length (fun x => (cntT s t k x : Rat) * X t.length (tabM s m t) m x) + sm k (fun j => (s : Rat) ^ (k - j) * (opnT s t j : Rat)) = (s : Rat) ^ k * X t.length (tabM s m t) m 0
  | 0 => by rw [cnt_start T, Rat.pow_zero, Rat.one_mul]; exact Rat.add_zero _
  | k + 1 => by
    have s0 := s_pos T
    have e : sm t.length (fun y => (cntT s t (k + 1) y : Rat) * X t.length (tabM s m t) m y) = (s : Rat) * sm t.length (fun x => (cntT s t k x : Rat) * X t.length (tabM s m t) m x) - (s : Rat) * (opnT s t k : Rat) := by
      rw [cnt_step T]
      unfold opnT
      rw [smN_cast, ← sm_mul, ← sm_mul, ← sm_sub]
      refine sm_congr fun x hx => ?_
      obtain ⟨q, hq⟩ : ∃ q, t[x]? = some q := ⟨t[x], List.getElem?_eq_getElem hx⟩
      rw [hq]
      cases q with
      | fin a =>
        show _ * (_ * _) = _ - (s : Rat) * ((0 : Nat) : Rat)
        have : ((0 : Nat) : Rat) = 0 := rfl
        rw [this]; grind
      | go l =>
        show _ * lsum l _ = _ - (s : Rat) * (cntT s t k x : Rat)
        have := X_goT T r hq
        have h2 : lsum l (X t.length (tabM s m t) m) = (s : Rat) * (X t.length (tabM s m t) m x - 1) := by
          have h3 : X t.length (tabM s m t) m x - 1 = lsum l (X t.length (tabM s m t) m) / (s : Rat) := by rw [this]; grind
          rw [h3, Rat.mul_comm, Rat.div_mul_cancel (by grind)]
        rw [h2]; grind
    have e2 : sm (k + 1) (fun j => (s : Rat) ^ (k + 1 - j) * (opnT s t j : Rat)) = (s : Rat) * sm k (fun j => (s : Rat) ^ (k - j) * (opnT s t j : Rat)) + (s : Rat) * (opnT s t k : Rat) := by
      rw [sm, ← sm_mul]
      congr 1
      · refine sm_congr fun j hj => ?_
        rw [show k + 1 - j = (k - j) + 1 by omega, Rat.pow_succ]
        grind
      · rw [show k + 1 - k = 0 + 1 by omega, Rat.pow_succ, Rat.pow_zero, Rat.one_mul]
    rw [e, e2, Rat.pow_succ]
    have ih := cnt_T T r k
    grind
end
end Fc

namespace Fc
/-! ## digits, rests; best tables -/
def rst (s N k a : Nat) : Nat := s ^ k * a % N
def flr (s N k a : Nat) : Nat := s ^ k * a / N
/-- the digit at place k + 1 -/
def dig (s N k a : Nat) : Nat := s * rst s N k a / N
section
variable {s N k a : Nat}
theorem rst_lt (h : 0 < N) : rst s N k a < N := Nat.mod_lt _ h
theorem flr_rst : N * flr s N k a + rst s N k a = s ^ k * a := Nat.div_add_mod _ _
theorem rst_dig : N * dig s N k a + s * rst s N k a % N = s * rst s N k a := Nat.div_add_mod _ _
theorem pow_step : s ^ (k + 1) * a = s * (s ^ k * a) := by rw [Nat.pow_succ, Nat.mul_assoc, Nat.mul_left_comm]
theorem rst_succ : rst s N (k + 1) a = s * rst s N k a % N := by
  unfold rst
  rw [pow_step, Nat.mul_mod_mod]
theorem flr_succ (h : 0 < N) : flr s N (k + 1) a = s * flr s N k a + dig s N k a := by
  have h1 : s ^ (k + 1) * a = N * (s * flr s N k a + dig s N k a) + rst s N (k + 1) a := by
    rw [pow_step, ← flr_rst (N := N), Nat.mul_add, ← rst_dig (s := s) (N := N) (k := k) (a := a), ← rst_succ, Nat.mul_add, Nat.mul_left_comm]
    omega
  unfold flr at *
  rw [h1, Nat.mul_add_div h, Nat.div_eq_of_lt (rst_lt h)]
  rfl
theorem dig_rst (h : 0 < N) : N * dig s N k a + rst s N (k + 1) a = s * rst s N k a := by rw [rst_succ]; exact rst_dig
end
def opn (s N : Nat) (as : List Nat) (k : Nat) : Nat := (as.map (rst s N k)).sum / N
theorem sum_le_of {α : Type} (l : List α) (f g : α → Nat) (h : ∀ x ∈ l, f x ≤ g x) : (l.map f).sum ≤ (l.map g).sum := by
  induction l with
  | nil => exact Nat.le_refl _
  | cons x l ih =>
    rw [List.map_cons, List.map_cons, List.sum_cons, List.sum_cons]
    exact Nat.add_le_add (h x List.mem_cons_self) (ih fun y hy => h y (List.mem_cons_of_mem _ hy))
theorem sum_add_of {α : Type} (l : List α) (f g : α → Nat) : (l.map fun x => f x + g x).sum = (l.map f).sum + (l.map g).sum := by
  induction l with
  | nil => rfl
  | cons x l ih => rw [List.map_cons, List.map_cons, List.map_cons, List.sum_cons, List.sum_cons, List.sum_cons, ih]; omega
theorem sum_mul_of {α : Type} (l : List α) (c : Nat) (f : α → Nat) : (l.map fun x => c * f x).sum = c * (l.map f).sum := by
  induction l with
  | nil => rfl
  | cons x l ih => rw [List.map_cons, List.map_cons, List.sum_cons, List.sum_cons, ih, Nat.mul_add]
theorem sum_const_of {α : Type} (l : List α) (c : Nat) : (l.map fun _ => c).sum = l.length * c := by
  induction l with
  | nil => exact (Nat.zero_mul c).symm
  | cons x l ih => rw [List.map_cons, List.sum_cons, ih, List.length_cons, Nat.succ_mul]; omega
/-- chances over a common bottom -/
structure Ch (N : Nat) (as : List Nat) : Prop where
  sum : as.sum = N
  pos : 0 < N
  l1 : 1 ≤ as.length
  l6 : as.length ≤ 6
section
variable {s N k : Nat} {as : List Nat}
theorem Ch.le (h : Ch N as) {a : Nat} (ha : a ∈ as) : a ≤ N := by
  rw [← h.sum]
  clear h
  induction as with
  | nil => cases ha
  | cons x l ih =>
    rw [List.sum_cons]
    rcases List.mem_cons.mp ha with rfl | ha
    · omega
    · have := ih ha; omega
theorem opn_flr (h : Ch N as) : (as.map (flr s N k)).sum + opn s N as k = s ^ k ∧ (as.map (rst s N k)).sum = N * opn s N as k := by
  have e : N * (as.map (flr s N k)).sum + (as.map (rst s N k)).sum = s ^ k * N := by
    rw [← sum_mul_of, ← sum_add_of, show (fun x => N * flr s N k x + rst s N k x) = fun x => s ^ k * x from funext fun x => flr_rst, sum_mul_of, List.map_id', h.sum]
  have h1 : (as.map (rst s N k)).sum = N * (s ^ k - (as.map (flr s N k)).sum) := by
    rw [Nat.mul_sub, Nat.mul_comm N (s ^ k)]
    omega
  have hle : (as.map (flr s N k)).sum ≤ s ^ k := by
    have : N * (as.map (flr s N k)).sum ≤ N * s ^ k := by rw [Nat.mul_comm N (s ^ k)]; omega
    exact Nat.le_of_mul_le_mul_left this h.pos
  have h2 : opn s N as k = s ^ k - (as.map (flr s N k)).sum := by
    unfold opn
    rw [h1, Nat.mul_div_cancel_left _ h.pos]
  exact ⟨by omega, by rw [h1, h2]⟩
theorem opn_succ (h : Ch N as) : opn s N as (k + 1) + (as.map (dig s N k)).sum = s * opn s N as k := by
  have h1 := (opn_flr (s := s) (k := k) h).1
  have h2 := (opn_flr (s := s) (k := k + 1) h).1
  have h3 : (as.map (flr s N (k + 1))).sum = s * (as.map (flr s N k)).sum + (as.map (dig s N k)).sum := by
    rw [← sum_mul_of, ← sum_add_of]
    congr 1
    exact List.map_congr_left fun x _ => flr_succ h.pos
  rw [h3, Nat.pow_succ, Nat.mul_comm (s ^ k) s, ← h1, Nat.mul_add] at h2
  omega
theorem opn_lt (h : Ch N as) : opn s N as k < as.length := by
  have h2 := (opn_flr (s := s) (k := k) h).2
  have h3 : (as.map (rst s N k)).sum ≤ as.length * (N - 1) := by
    rw [← sum_const_of as (N - 1)]
    exact sum_le_of _ _ _ fun x _ => by have := rst_lt (s := s) (k := k) (a := x) h.pos; omega
  have h4 : N * opn s N as k < N * as.length := by
    rw [← h2]
    refine Nat.lt_of_le_of_lt h3 ?_
    rw [Nat.mul_comm N]
    exact Nat.mul_lt_mul_of_pos_left (by have := h.pos; omega) (by have := h.l1; omega)
  exact Nat.lt_of_mul_lt_mul_left h4
end
/-! ### lists of levels -/
theorem flat_len {α : Type} (f : Nat → List α) (n : Nat) : ((List.range n).map f).flatten.length = smN n fun k => (f k).length := by
  induction n with
  | zero => rfl
  | succ n ih => rw [List.range_succ, List.map_append, List.flatten_append, List.length_append, ih]; simp [smN]
theorem smN_mono {n m : Nat} (f : Nat → Nat) (h : n ≤ m) : smN n f ≤ smN m f := by
  induction m with
  | zero => rw [show n = 0 by omega]; exact Nat.le_refl _
  | succ m ih =>
    by_cases e : n = m + 1
    · rw [e]; exact Nat.le_refl _
    · exact Nat.le_trans (ih (by omega)) (Nat.le_add_right _ _)
theorem flat_get {α : Type} (f : Nat → List α) {n k j : Nat} (hk : k < n) (hj : j < (f k).length) : ((List.range n).map f).flatten[(smN k fun k => (f k).length) + j]? = (f k)[j]? := by
  induction n with
  | zero => omega
  | succ n ih =>
    rw [List.range_succ, List.map_append, List.flatten_append]
    by_cases e : k = n
    · subst e
      rw [List.getElem?_append_right (by rw [flat_len]; omega), flat_len, Nat.add_sub_cancel_left]
      simp
    · have h1 : (smN k fun k => (f k).length) + j < ((List.range n).map f).flatten.length := by
        rw [flat_len]
        have : (smN (k + 1) fun k => (f k).length) ≤ smN n fun k => (f k).length := smN_mono _ (by omega)
        rw [smN] at this
        omega
      rw [List.getElem?_append_left h1]
      exact ih (by omega)
/-- the level of a place -/
def kk (f : Nat → Nat) : Nat → Nat → Nat
  | 0, _ => 0
  | n + 1, i => if smN n f ≤ i then n else kk f n i
theorem kk_at (f : Nat → Nat) {k i : Nat} (h1 : smN k f ≤ i) (h2 : i < smN (k + 1) f) : ∀ {n : Nat}, k < n → kk f n i = k
  | 0, h => by omega
  | n + 1, h => by
    unfold kk
    by_cases e : k = n
    · subst e; rw [if_pos h1]
    · have := smN_mono f (show k + 1 ≤ n by omega)
      rw [if_neg (by omega)]
      exact kk_at f h1 h2 (by omega)
theorem kk_of (f : Nat → Nat) : ∀ {n i : Nat}, i < smN n f → ∃ k j, k < n ∧ j < f k ∧ i = smN k f + j
  | 0, i, h => by cases h
  | n + 1, i, h => by
    by_cases e : smN n f ≤ i
    · exact ⟨n, i - smN n f, by omega, by rw [smN] at h; omega, by omega⟩
    · obtain ⟨k, j, a, b, c⟩ := kk_of f (n := n) (i := i) (by omega)
      exact ⟨k, j, by omega, b, c⟩

/-! ### the best table -/
def fo (as : List Nat) : List Nat := (List.range as.length).filter fun o => decide (as.getD o 0 ≠ 0)
theorem fo_mem {as : List Nat} {o : Nat} : o ∈ fo as ↔ o < as.length ∧ as.getD o 0 ≠ 0 := by
  unfold fo
  rw [List.mem_filter, List.mem_range]
  simp
theorem fo_nd (as : List Nat) : (fo as).Nodup := List.Nodup.sublist List.filter_sublist List.nodup_range
theorem fo_len (as : List Nat) : (fo as).length ≤ as.length := by
  unfold fo
  have := List.length_filter_le (fun o => decide (as.getD o 0 ≠ 0)) (List.range as.length)
  rwa [List.length_range] at this
section
variable (s N : Nat) (as : List Nat) (n b : Nat)
def nxB (k : Nat) : Nat := if k + 1 < n then k + 1 else b
def levB : Nat → Nat
  | 0 => 0
  | k + 1 => nxB n b (levB k)
abbrev fsB (k : Nat) : Nat := smN k (opn s N as)
/-- the numbers of the finals that a level decides on, in order -/
def dcB (k : Nat) : List Nat := ((List.range as.length).map fun o => List.replicate (dig s N k (as.getD o 0)) (fsB s N as n + (fo as).idxOf o)).flatten
def ltB (k : Nat) : List Nat := dcB s N as n k ++ (List.range (s * opn s N as k - (dcB s N as n k).length)).map fun j => fsB s N as (nxB n b k) + j
def rowB (k j : Nat) : List Nat := ((ltB s N as n b k).drop (j * s)).take s
def lvB (k : Nat) : List Rw := (List.range (opn s N as k)).map fun j => Rw.go (rowB s N as n b k j)
def bestB : List Rw := ((List.range n).map (lvB s N as n b)).flatten ++ (fo as).map Rw.fin
end
/-- what the course has found: level n is level b again -/
structure Cr (s N : Nat) (as : List Nat) (n b : Nat) : Prop where
  lt : b < n
  eq : ∀ a ∈ as, rst s N n a = rst s N b a
theorem map_getD (as : List Nat) (f : Nat → Nat) : ((List.range as.length).map fun o => f (as.getD o 0)) = as.map f := by
  refine List.ext_getElem? fun i => ?_
  rw [List.getElem?_map, List.getElem?_map]
  by_cases h : i < as.length
  · rw [List.getElem?_range h, List.getElem?_eq_getElem h]
    show some (f (as.getD i 0)) = some (f as[i])
    rw [List.getD_eq_getElem?_getD, List.getElem?_eq_getElem h]
    rfl
  · rw [List.getElem?_eq_none (by rw [List.length_range]; omega), List.getElem?_eq_none (by omega)]
    rfl
theorem getD_mem {as : List Nat} {o : Nat} (h : o < as.length) : as.getD o 0 ∈ as := by
  rw [List.getD_eq_getElem?_getD, List.getElem?_eq_getElem h]
  exact List.getElem_mem h
section
variable {s N : Nat} {as : List Nat} {n b : Nat}
theorem dcB_len (k : Nat) : (dcB s N as n k).length = (as.map (dig s N k)).sum := by
  unfold dcB
  rw [List.length_flatten, List.map_map, ← map_getD as (dig s N k)]
  congr 1
  exact List.map_congr_left fun o _ => List.length_replicate
theorem ltB_len (h : Ch N as) (k : Nat) : (ltB s N as n b k).length = opn s N as k * s := by
  unfold ltB
  rw [List.length_append, List.length_map, List.length_range, dcB_len]
  have := opn_succ (s := s) (k := k) h
  rw [Nat.mul_comm (opn s N as k)]
  omega
theorem opn_cr (h : Ch N as) (C : Cr s N as n b) (k : Nat) (hk : k < n) : opn s N as (nxB n b k) = opn s N as (k + 1) := by
  unfold nxB
  by_cases e : k + 1 < n
  · rw [if_pos e]
  · rw [if_neg e, show k + 1 = n by omega]
    unfold opn
    congr 2
    exact List.map_congr_left fun a ha => (C.eq a ha).symm
theorem ltB_rest (h : Ch N as) (C : Cr s N as n b) {k : Nat} (hk : k < n) : s * opn s N as k - (dcB s N as n k).length = opn s N as (nxB n b k) := by
  rw [dcB_len, opn_cr h C k hk]
  have := opn_succ (s := s) (k := k) h
  omega
theorem nxB_lt (C : b < n) (k : Nat) : nxB n b k < n := by unfold nxB; split <;> omega
theorem levB_lt (C : b < n) : ∀ k, levB n b k < n
  | 0 => by show 0 < n; omega
  | k + 1 => nxB_lt C _
theorem levB_rst (C : Cr s N as n b) : ∀ (k : Nat) (a : Nat), a ∈ as → rst s N (levB n b k) a = rst s N k a
  | 0, _, _ => rfl
  | k + 1, a, ha => by
    have ih := levB_rst C k a ha
    rw [rst_succ, ← ih, ← rst_succ]
    show rst s N (nxB n b (levB n b k)) a = _
    unfold nxB
    split
    · rfl
    · have := levB_lt C.lt k
      rw [show levB n b k + 1 = n by omega]
      exact (C.eq a ha).symm
theorem levB_opn (C : Cr s N as n b) (k : Nat) : opn s N as (levB n b k) = opn s N as k := by
  unfold opn
  congr 2
  exact List.map_congr_left fun a ha => levB_rst C k a ha
theorem levB_dig (C : Cr s N as n b) (k : Nat) {a : Nat} (ha : a ∈ as) : dig s N (levB n b k) a = dig s N k a := by
  unfold dig
  rw [levB_rst C k a ha]
theorem lvB_len (k : Nat) : (lvB s N as n b k).length = opn s N as k := by unfold lvB; rw [List.length_map, List.length_range]
theorem fs_eq (k : Nat) : (smN k fun k => (lvB s N as n b k).length) = fsB s N as k := smN_congr fun i _ => lvB_len i
theorem fs_succ (k : Nat) : fsB s N as (k + 1) = fsB s N as k + opn s N as k := rfl
theorem fs_mono {k j : Nat} (h : k ≤ j) : fsB s N as k ≤ fsB s N as j := smN_mono _ h
theorem bestB_len : (bestB s N as n b).length = fsB s N as n + (fo as).length := by
  unfold bestB
  rw [List.length_append, flat_len, fs_eq, List.length_map]
theorem bestB_go {k j : Nat} (hk : k < n) (hj : j < opn s N as k) : (bestB s N as n b)[fsB s N as k + j]? = some (.go (rowB s N as n b k j)) := by
  have hl : fsB s N as k + j < fsB s N as n := by
    have := fs_mono (s := s) (N := N) (as := as) (show k + 1 ≤ n by omega)
    rw [fs_succ] at this
    omega
  unfold bestB
  rw [List.getElem?_append_left (by rw [flat_len, fs_eq]; exact hl), ← fs_eq (b := b) (n := n) k, flat_get _ hk (by rw [lvB_len]; exact hj)]
  unfold lvB
  rw [List.getElem?_map, List.getElem?_range hj]
  rfl
theorem bestB_fin {r : Nat} : (bestB s N as n b)[fsB s N as n + r]? = (fo as)[r]?.map Rw.fin := by
  unfold bestB
  rw [List.getElem?_append_right (by rw [flat_len, fs_eq]; omega), flat_len, fs_eq, Nat.add_sub_cancel_left, List.getElem?_map]
/-- each place is one or the other -/
theorem bestB_at {i : Nat} (h : i < (bestB s N as n b).length) : (∃ k j, k < n ∧ j < opn s N as k ∧ i = fsB s N as k + j) ∨ ∃ r, r < (fo as).length ∧ i = fsB s N as n + r := by
  rw [bestB_len] at h
  by_cases e : i < fsB s N as n
  · exact .inl (kk_of _ e)
  · exact .inr ⟨i - fsB s N as n, by omega, by omega⟩
theorem fs_lt {k j : Nat} (hk : k < n) (hj : j < opn s N as k) : fsB s N as k + j < fsB s N as n := by
  have := fs_mono (s := s) (N := N) (as := as) (show k + 1 ≤ n by omega)
  rw [fs_succ] at this
  omega
theorem dcB_mem {k x : Nat} (h : x ∈ dcB s N as n k) : fsB s N as n ≤ x ∧ x < fsB s N as n + (fo as).length := by
  unfold dcB at h
  obtain ⟨l, hl, hx⟩ := List.mem_flatten.mp h
  obtain ⟨o, ho, rfl⟩ := List.mem_map.mp hl
  have hr := List.eq_of_mem_replicate hx
  have hd : dig s N k (as.getD o 0) ≠ 0 := fun z => by rw [z] at hx; cases hx
  have hm : o ∈ fo as := fo_mem.mpr ⟨List.mem_range.mp ho, fun z => hd (by rw [z]; unfold dig rst; simp)⟩
  have := List.idxOf_lt_length_of_mem hm
  omega
theorem ltB_mem (h : Ch N as) (C : Cr s N as n b) {k x : Nat} (hk : k < n) (hx : x ∈ ltB s N as n b k) : x < (bestB s N as n b).length := by
  rw [bestB_len]
  unfold ltB at hx
  rcases List.mem_append.mp hx with hx | hx
  · exact (dcB_mem hx).2
  · obtain ⟨j, hj, rfl⟩ := List.mem_map.mp hx
    rw [ltB_rest h C hk] at hj
    have := fs_lt (nxB_lt C.lt k) (List.mem_range.mp hj)
    omega
theorem rowB_mem {k j x : Nat} (h : x ∈ rowB s N as n b k j) : x ∈ ltB s N as n b k := List.mem_of_mem_drop (List.mem_of_mem_take h)
theorem rowB_len (h : Ch N as) {k j : Nat} (hj : j < opn s N as k) : (rowB s N as n b k j).length = s := by
  unfold rowB
  rw [List.length_take, List.length_drop, ltB_len h]
  have : (j + 1) * s ≤ opn s N as k * s := Nat.mul_le_mul_right s (by omega)
  rw [Nat.succ_mul] at this
  omega
theorem bestB_rowlen (h : Ch N as) {i : Nat} {l : List Nat} (e : (bestB s N as n b)[i]? = some (.go l)) : ∃ k j, k < n ∧ j < opn s N as k ∧ i = fsB s N as k + j ∧ l = rowB s N as n b k j := by
  rcases bestB_at (List.getElem?_eq_some_iff.mp e).1 with ⟨k, j, hk, hj, rfl⟩ | ⟨r, hr, rfl⟩
  · rw [bestB_go hk hj] at e
    cases e
    exact ⟨k, j, hk, hj, rfl, rfl⟩
  · rw [bestB_fin, List.getElem?_eq_getElem hr] at e
    cases e
theorem bestB_finat {i o : Nat} (e : (bestB s N as n b)[i]? = some (.fin o)) : ∃ r, i = fsB s N as n + r ∧ (fo as)[r]? = some o := by
  rcases bestB_at (List.getElem?_eq_some_iff.mp e).1 with ⟨k, j, hk, hj, rfl⟩ | ⟨r, hr, rfl⟩
  · rw [bestB_go hk hj] at e
    cases e
  · rw [bestB_fin, List.getElem?_eq_getElem hr] at e
    cases e
    exact ⟨r, rfl, List.getElem?_eq_getElem hr⟩
theorem bestB_tb (h : Ch N as) (C : Cr s N as n b) (hs1 : 2 ≤ s) (hs2 : s ≤ 6) (hz : fsB s N as n + as.length ≤ 100) (h0 : 1 ≤ (bestB s N as n b).length) : Tb s as.length (bestB s N as n b) := by
  refine ⟨h0, ?_, hs1, hs2, h.l1, h.l6, fun i o e => ?_, fun i l e => ?_⟩
  · rw [bestB_len]
    have := fo_len as
    omega
  · obtain ⟨r, _, e2⟩ := bestB_finat e
    exact (fo_mem.mp (List.mem_of_getElem? e2)).1
  · obtain ⟨k, j, hk, hj, rfl, rfl⟩ := bestB_rowlen h e
    exact ⟨rowB_len h hj, fun x hx => ltB_mem h C hk (rowB_mem hx)⟩
/-- the rank: the fewer open states stand behind -/
def rkB (s N : Nat) (as : List Nat) (n i : Nat) : Nat := if i < fsB s N as n then 10 - (fsB s N as (kk (opn s N as) n i + 1) - i) else 0
theorem rkB_at {k j : Nat} (hk : k < n) (hj : j < opn s N as k) : rkB s N as n (fsB s N as k + j) = 10 - (opn s N as k - j) := by
  unfold rkB
  have e : kk (opn s N as) n (fsB s N as k + j) = k := kk_at (opn s N as) (Nat.le_add_right _ _) (by
    show fsB s N as k + j < fsB s N as k + opn s N as k
    omega) hk
  rw [if_pos (fs_lt hk hj), e, fs_succ]
  congr 1
  omega
/-- the first successor of a state -/
theorem rowB_fst (h : Ch N as) (C : Cr s N as n b) (hs : 2 ≤ s) {k j : Nat} (hk : k < n) (hj : j < opn s N as k) : ∃ x ∈ rowB s N as n b k j, rkB s N as n x < rkB s N as n (fsB s N as k + j) := by
  have ho := opn_lt (s := s) (k := k) h
  have ho2 := opn_lt (s := s) (k := k + 1) h
  have h6 := h.l6
  have hjs : (j + 1) * s ≤ opn s N as k * s := Nat.mul_le_mul_right s (by omega)
  rw [Nat.succ_mul] at hjs
  have hl := ltB_len (n := n) (b := b) (s := s) h k
  have hlt : j * s < (ltB s N as n b k).length := by omega
  have hx : (rowB s N as n b k j)[0]? = some (ltB s N as n b k)[j * s] := by
    unfold rowB
    rw [List.getElem?_take_of_lt (by omega), List.getElem?_drop, Nat.add_zero, List.getElem?_eq_getElem hlt]
  refine ⟨_, List.mem_of_getElem? hx, ?_⟩
  rw [rkB_at hk hj]
  have hd : (dcB s N as n k).length + opn s N as (nxB n b k) = s * opn s N as k := by
    rw [dcB_len, opn_cr h C k hk]
    have := opn_succ (s := s) (k := k) h
    omega
  have hon := opn_lt (s := s) (k := nxB n b k) h
  by_cases e : j * s < (dcB s N as n k).length
  · have e2 : (ltB s N as n b k)[j * s]? = (dcB s N as n k)[j * s]? := by
      unfold ltB
      rw [List.getElem?_append_left e]
    have this : (ltB s N as n b k)[j * s] = (dcB s N as n k)[j * s] := by
      rw [List.getElem?_eq_getElem hlt, List.getElem?_eq_getElem e] at e2
      exact Option.some.inj e2
    rw [this]
    have hm := dcB_mem (List.getElem_mem e)
    unfold rkB
    rw [if_neg (by omega)]
    omega
  · have e2 : (ltB s N as n b k)[j * s]? = some (fsB s N as (nxB n b k) + (j * s - (dcB s N as n k).length)) := by
      unfold ltB
      rw [List.getElem?_append_right (by omega), List.getElem?_map, ltB_rest h C hk, List.getElem?_range]
      · rfl
      · have : j * s + s ≤ s * opn s N as k := by rw [Nat.mul_comm s]; omega
        omega
    have e3 : (ltB s N as n b k)[j * s] = fsB s N as (nxB n b k) + (j * s - (dcB s N as n k).length) := by
      rw [List.getElem?_eq_getElem hlt] at e2
      exact Option.some.inj e2
    have hj2 : j * s - (dcB s N as n k).length < opn s N as (nxB n b k) := by
      have : j * s + s ≤ s * opn s N as k := by rw [Nat.mul_comm s]; omega
      omega
    rw [e3, rkB_at (nxB_lt C.lt k) hj2]
    have g1 : opn s N as (nxB n b k) - (j * s - (dcB s N as n k).length) = s * (opn s N as k - j) := by
      rw [Nat.mul_sub, Nat.mul_comm s j]
      omega
    have g2 : 2 * (opn s N as k - j) ≤ s * (opn s N as k - j) := Nat.mul_le_mul_right _ hs
    omega
theorem bestB_rk (h : Ch N as) (C : Cr s N as n b) (hs : 2 ≤ s) : Rk (bestB s N as n b) (rkB s N as n) := fun i l e => by
  obtain ⟨k, j, hk, hj, rfl, rfl⟩ := bestB_rowlen h e
  exact rowB_fst h C hs hk hj
end
end Fc

namespace Fc
/-! ## what a best table decides -/
theorem count_map_range (y c f : Nat) : ((List.range c).map fun j => f + j).count y = if f ≤ y ∧ y < f + c then 1 else 0 := by
  induction c with
  | zero => rw [if_neg (by omega)]; rfl
  | succ c ih =>
    rw [List.range_succ, List.map_append, List.count_append, ih]
    show _ + List.count y [f + c] = _
    rw [List.count_singleton]
    by_cases e : f + c = y
    · subst e
      have a1 : ¬ (f ≤ f + c ∧ f + c < f + c) := by omega
      have a2 : f ≤ f + c ∧ f + c < f + (c + 1) := by omega
      rw [if_neg a1, if_pos a2]
      simp
    · rw [show (f + c == y) = false by simpa using e]
      by_cases e2 : f ≤ y ∧ y < f + c
      · have a2 : f ≤ y ∧ y < f + (c + 1) := by omega
        rw [if_pos e2, if_pos a2]; rfl
      · have a2 : ¬ (f ≤ y ∧ y < f + (c + 1)) := by omega
        rw [if_neg e2, if_neg a2]; rfl
theorem count_flat (y : Nat) (g h : Nat → Nat) : ∀ n, (((List.range n).map fun o => List.replicate (g o) (h o)).flatten).count y = smN n fun o => if h o = y then g o else 0
  | 0 => rfl
  | n + 1 => by
    rw [List.range_succ, List.map_append, List.flatten_append, List.count_append, count_flat y g h n, smN]
    congr 1
    show (List.replicate (g n) (h n) ++ []).count y = _
    rw [List.append_nil, List.count_replicate]
    by_cases e : h n = y
    · rw [if_pos e, if_pos (by simpa using e)]
    · rw [if_neg e, if_neg (by simpa using e)]
section
variable {s N : Nat} {as : List Nat} {n b : Nat}
theorem ix_inj' {α : Type} {l : List α} (hN : l.Nodup) {i j : Nat} {x : α} (a : l[i]? = some x) (b : l[j]? = some x) : i = j := by
  obtain ⟨h1, e1⟩ := List.getElem?_eq_some_iff.mp a
  obtain ⟨h2, e2⟩ := List.getElem?_eq_some_iff.mp b
  exact (List.getElem_inj hN).mp (e1.trans e2.symm)
theorem dig_zero (k : Nat) : dig s N k 0 = 0 := by unfold dig rst; simp
/-- a final state among those that a level decides -/
theorem dc_count (k : Nat) {r o : Nat} (ho : (fo as)[r]? = some o) : (dcB s N as n k).count (fsB s N as n + r) = dig s N k (as.getD o 0) := by
  have hom := List.mem_of_getElem? ho
  obtain ⟨h1, h2⟩ := fo_mem.mp hom
  obtain ⟨hr, hro⟩ := List.getElem?_eq_some_iff.mp ho
  have hix : (fo as).idxOf o = r := by rw [← hro]; exact List.Nodup.idxOf_getElem (fo_nd as) r hr
  unfold dcB
  rw [count_flat, smN_at (k := o) h1 (fun i hi hne => ?_), if_pos (by rw [hix])]
  by_cases e : fsB s N as n + (fo as).idxOf i = fsB s N as n + r
  · rw [if_pos e]
    by_cases z : as.getD i 0 = 0
    · rw [z]; exact dig_zero k
    · exfalso
      have hm : i ∈ fo as := fo_mem.mpr ⟨hi, z⟩
      have h3 := List.idxOf_lt_length_of_mem hm
      have h4 : (fo as)[(fo as).idxOf i]'h3 = i := List.getElem_idxOf h3
      have h5 : (fo as).idxOf i = r := by omega
      have h6 : (fo as)[r]? = some i := by rw [← h5, List.getElem?_eq_getElem h3, h4]
      rw [ho] at h6
      exact hne (Option.some.inj h6).symm
  · rw [if_neg e]
theorem lt_count_fin (h : Ch N as) (C : Cr s N as n b) {k : Nat} (hk : k < n) {r o : Nat} (ho : (fo as)[r]? = some o) : (ltB s N as n b k).count (fsB s N as n + r) = dig s N k (as.getD o 0) := by
  unfold ltB
  rw [List.count_append, dc_count k ho, count_map_range, ltB_rest h C hk, if_neg]
  · rfl
  · intro z
    have := fs_mono (s := s) (N := N) (as := as) (show nxB n b k + 1 ≤ n from nxB_lt C.lt k)
    rw [fs_succ] at this
    omega
theorem lt_count_go (h : Ch N as) (C : Cr s N as n b) {k y : Nat} (hk : k < n) (hy : y < fsB s N as n) : (ltB s N as n b k).count y = if fsB s N as (nxB n b k) ≤ y ∧ y < fsB s N as (nxB n b k) + opn s N as (nxB n b k) then 1 else 0 := by
  unfold ltB
  rw [List.count_append, count_map_range, ltB_rest h C hk, List.count_eq_zero.mpr (fun z => by have := (dcB_mem z).1; omega), Nat.zero_add]
/-- the counts at all states -/
structure CtB (s N : Nat) (as : List Nat) (n b k : Nat) : Prop where
  go : ∀ y, y < fsB s N as n → cntT s (bestB s N as n b) k y = if fsB s N as (levB n b k) ≤ y ∧ y < fsB s N as (levB n b k) + opn s N as (levB n b k) then 1 else 0
  fin : ∀ r o, (fo as)[r]? = some o → cntT s (bestB s N as n b) k (fsB s N as n + r) = flr s N k (as.getD o 0)
theorem ct_sum (h : Ch N as) (C : Cr s N as n b) {k : Nat} (c : CtB s N as n b k) (y : Nat) :
    smN (bestB s N as n b).length (fun x => match (bestB s N as n b)[x]? with | some (.go l) => cntT s (bestB s N as n b) k x * l.count y | _ => 0) = (ltB s N as n b (levB n b k)).count y := by
  have hl := levB_lt C.lt k
  have hf := fs_mono (s := s) (N := N) (as := as) (show levB n b k + 1 ≤ n from hl)
  rw [fs_succ] at hf
  have hlen := bestB_len (s := s) (N := N) (as := as) (n := n) (b := b)
  rw [smN_win (a := fsB s N as (levB n b k)) (b := opn s N as (levB n b k)) (by omega) (fun i hi hw => ?_)]
  · rw [← count_pieces s y (opn s N as (levB n b k)) _ (ltB_len h _)]
    refine smN_congr fun j hj => ?_
    rw [bestB_go hl hj]
    show cntT s (bestB s N as n b) k (fsB s N as (levB n b k) + j) * _ = _
    rw [c.go _ (by omega), if_pos ⟨by omega, by omega⟩, Nat.one_mul]
    rfl
  · cases e : (bestB s N as n b)[i]? with
    | none => rfl
    | some q =>
      cases q with
      | fin o => rfl
      | go l =>
        obtain ⟨k', j, hk', hj, rfl, _⟩ := bestB_rowlen h e
        have := fs_lt hk' hj
        show cntT s (bestB s N as n b) k (fsB s N as k' + j) * _ = 0
        rw [c.go _ this, if_neg (by omega), Nat.zero_mul]
theorem ctB (h : Ch N as) (h1 : ∀ a ∈ as, a < N) (C : Cr s N as n b) : ∀ k, CtB s N as n b k
  | 0 => by
    have e : opn s N as 0 = 1 := by
      have := (opn_flr (s := s) (k := 0) h).1
      rw [Nat.pow_zero] at this
      have z : (as.map (flr s N 0)).sum = 0 := by
        have := sum_le_of as (flr s N 0) (fun _ => 0) fun a ha => by unfold flr; rw [Nat.pow_zero, Nat.one_mul, Nat.div_eq_of_lt (h1 a ha)]; exact Nat.le_refl _
        rw [sum_const_of] at this
        omega
      omega
    refine ⟨fun y hy => ?_, fun r o ho => ?_⟩
    · show (if y = 0 then 1 else 0) = _
      show _ = if 0 ≤ y ∧ y < 0 + opn s N as 0 then 1 else 0
      rw [e]
      by_cases q : y = 0
      · rw [if_pos q, if_pos (by omega)]
      · rw [if_neg q, if_neg (by omega)]
    · show (if fsB s N as n + r = 0 then 1 else 0) = _
      have hf := fs_mono (s := s) (N := N) (as := as) (show 0 + 1 ≤ n by have := C.lt; omega)
      rw [fs_succ, e] at hf
      rw [if_neg (by omega)]
      unfold flr
      rw [Nat.pow_zero, Nat.one_mul, Nat.div_eq_of_lt (h1 _ (getD_mem (fo_mem.mp (List.mem_of_getElem? ho)).1))]
  | k + 1 => by
    have c := ctB h h1 C k
    have hl := levB_lt C.lt k
    refine ⟨fun y hy => ?_, fun r o ho => ?_⟩
    · have e0 : cntT s (bestB s N as n b) (k + 1) y = (ltB s N as n b (levB n b k)).count y + (match (bestB s N as n b)[y]? with | some (.fin _) => s * cntT s (bestB s N as n b) k y | _ => 0) := congrArg (· + _) (ct_sum h C c y)
      rw [e0, lt_count_go h C hl hy]
      obtain ⟨k', j, hk', hj, rfl⟩ := kk_of (opn s N as) hy
      have hg := bestB_go (b := b) hk' hj
      rw [show smN k' (opn s N as) + j = fsB s N as k' + j from rfl, hg]
      rfl
    · have e0 : cntT s (bestB s N as n b) (k + 1) (fsB s N as n + r) = (ltB s N as n b (levB n b k)).count (fsB s N as n + r) + (match (bestB s N as n b)[fsB s N as n + r]? with | some (.fin _) => s * cntT s (bestB s N as n b) k (fsB s N as n + r) | _ => 0) := congrArg (· + _) (ct_sum h C c _)
      rw [e0, lt_count_fin h C hl ho, bestB_fin, ho]
      show _ + s * cntT s (bestB s N as n b) k (fsB s N as n + r) = _
      rw [c.fin r o ho, flr_succ h.pos, levB_dig C k (getD_mem (fo_mem.mp (List.mem_of_getElem? ho)).1)]
      omega
theorem best_opn (h : Ch N as) (h1 : ∀ a ∈ as, a < N) (C : Cr s N as n b) (k : Nat) : opnT s (bestB s N as n b) k = opn s N as k := by
  have c := ctB h h1 C k
  have hl := levB_lt C.lt k
  have hf := fs_mono (s := s) (N := N) (as := as) (show levB n b k + 1 ≤ n from hl)
  rw [fs_succ] at hf
  have hlen := bestB_len (s := s) (N := N) (as := as) (n := n) (b := b)
  unfold opnT
  rw [smN_win (a := fsB s N as (levB n b k)) (b := opn s N as (levB n b k)) (by omega) (fun i hi hw => ?_)]
  · rw [← levB_opn C k]
    have : ∀ c, smN c (fun _ => 1) = c := fun c => by induction c with | zero => rfl | succ c ih => rw [smN, ih]
    rw [← this (opn s N as (levB n b k))]
    rw [this]
    conv => rhs; rw [← this (opn s N as (levB n b k))]
    refine smN_congr fun j hj => ?_
    rw [bestB_go hl hj]
    show cntT s (bestB s N as n b) k (fsB s N as (levB n b k) + j) = 1
    rw [c.go _ (by omega), if_pos ⟨by omega, by omega⟩]
  · cases e : (bestB s N as n b)[i]? with
    | none => rfl
    | some q =>
      cases q with
      | fin o => rfl
      | go l =>
        obtain ⟨k', j, hk', hj, rfl, _⟩ := bestB_rowlen h e
        have := fs_lt hk' hj
        show cntT s (bestB s N as n b) k (fsB s N as k' + j) = 0
        rw [c.go _ this, if_neg (by omega)]
theorem best_dec (h : Ch N as) (h1 : ∀ a ∈ as, a < N) (C : Cr s N as n b) (k : Nat) {o : Nat} (ho : o < as.length) : decT s (bestB s N as n b) k o = flr s N k (as.getD o 0) := by
  have c := ctB h h1 C k
  unfold decT
  by_cases z : as.getD o 0 = 0
  · rw [z, smN_zero (fun i hi => ?_)]
    · unfold flr; simp
    · cases e : (bestB s N as n b)[i]? with
      | none => rfl
      | some q =>
        cases q with
        | go l => rfl
        | fin a =>
          obtain ⟨r, _, hr⟩ := bestB_finat e
          show (if a = o then _ else 0) = 0
          rw [if_neg]
          intro q
          subst q
          exact (fo_mem.mp (List.mem_of_getElem? hr)).2 z
  · obtain ⟨r, hr⟩ := List.getElem?_of_mem (fo_mem.mpr ⟨ho, z⟩)
    have hrl := (List.getElem?_eq_some_iff.mp hr).1
    rw [smN_at (k := fsB s N as n + r) (by rw [bestB_len]; omega) (fun i hi hne => ?_)]
    · rw [bestB_fin, hr]
      show (if o = o then _ else 0) = _
      rw [if_pos rfl, c.fin r o hr]
    · cases e : (bestB s N as n b)[i]? with
      | none => rfl
      | some q =>
        cases q with
        | go l => rfl
        | fin a =>
          obtain ⟨r', hi', hr'⟩ := bestB_finat e
          show (if a = o then _ else 0) = 0
          rw [if_neg]
          intro q
          subst q
          exact hne (by rw [hi', ix_inj' (fo_nd as) hr' hr])
end
/-- powers pass every bound -/
theorem arch {s : Nat} (hs : 2 ≤ s) {z c : Rat} (h : ∀ k : Nat, (s : Rat) ^ k * z ≤ c) : z ≤ 0 := by
  rcases (Rat.le_total : z ≤ 0 ∨ 0 ≤ z) with e | e
  · exact e
  · by_cases q : z = 0
    · rw [q]; exact Rat.le_refl
    · have zp : 0 < z := by grind
      exfalso
      have pk : ∀ k : Nat, (k : Rat) ≤ (s : Rat) ^ k := fun k => by
        rw [← Rat.natCast_pow]
        exact Rat.natCast_le_natCast.mpr (Nat.le_of_lt (Nat.lt_pow_self (by omega)))
      let k : Nat := ((c / z).floor + 1).toNat
      have h1 : c / z < (((c / z).floor + 1 : Int) : Rat) := Rat.lt_floor_add_one _
      have h2 : (((c / z).floor + 1 : Int) : Rat) ≤ (k : Rat) := by
        rw [← Rat.intCast_natCast, Rat.intCast_le_intCast]
        exact Int.self_le_toNat _
      have h3 : c / z < (k : Rat) := by grind
      rw [Rat.div_lt_iff zp] at h3
      have h4 : (k : Rat) * z ≤ (s : Rat) ^ k * z := Rat.mul_le_mul_of_nonneg_right (pk k) e
      have := h k
      grind
section
variable {s N : Nat} {as : List Nat} {m : Nat} {t : List Rw} {d : Nat → Nat}
theorem flr_le (h : 0 < N) (k a : Nat) : (flr s N k a : Rat) ≤ (s : Rat) ^ k * ((a : Rat) / (N : Rat)) ∧ (s : Rat) ^ k * ((a : Rat) / (N : Rat)) ≤ (flr s N k a : Rat) + 1 := by
  have n0 : (0 : Rat) < (N : Rat) := Rat.natCast_pos.mpr h
  have e : ((N * flr s N k a + rst s N k a : Nat) : Rat) = ((s ^ k * a : Nat) : Rat) := by rw [flr_rst]
  rw [Rat.natCast_add, Rat.natCast_mul, Rat.natCast_mul, Rat.natCast_pow] at e
  have r0 : (0 : Rat) ≤ (rst s N k a : Rat) := Rat.natCast_nonneg
  have r1 : (rst s N k a : Rat) ≤ (N : Rat) := Rat.natCast_le_natCast.mpr (Nat.le_of_lt (rst_lt h))
  have e2 : (s : Rat) ^ k * ((a : Rat) / (N : Rat)) = ((s : Rat) ^ k * (a : Rat)) / (N : Rat) := by rw [Rat.div_def, Rat.div_def, Rat.mul_assoc]
  rw [e2, le_div_i n0, div_le_i n0]
  constructor <;> grind
/-- a chooser that decides as the digits say has these chances -/
theorem X_of_dec (T : Tb s m t) (r : Rk t d) (h : 0 < N) {o a : Nat} (ho : o < m) (hd : ∀ k, decT s t k o = flr s N k a) (c : Nat) (hc : ∀ k, opnT s t k ≤ c) : X t.length (tabM s m t) o 0 = (a : Rat) / (N : Rat) := by
  have k1 : ∀ k : Nat, (s : Rat) ^ k * (X t.length (tabM s m t) o 0 - (a : Rat) / (N : Rat)) ≤ ((c : Nat) : Rat) := fun k => by
    have h1 := dec_gap T r ho k
    have h2 := (flr_le (s := s) h k a).1
    have h3 : (opnT s t k : Rat) ≤ (c : Rat) := Rat.natCast_le_natCast.mpr (hc k)
    rw [hd k] at h1
    generalize (a : Rat) / (N : Rat) = q at *
    grind
  have k2 : ∀ k : Nat, (s : Rat) ^ k * ((a : Rat) / (N : Rat) - X t.length (tabM s m t) o 0) ≤ 1 := fun k => by
    have h1 := dec_le T r ho k
    have h2 := (flr_le (s := s) h k a).2
    rw [hd k] at h1
    generalize (a : Rat) / (N : Rat) = q at *
    grind
  have a1 := arch T.s1 k1
  have a2 := arch T.s1 k2
  grind
/-- what is decided in time is at most the floor of the chance -/
theorem dec_flr (T : Tb s m t) (r : Rk t d) (h : 0 < N) {o a : Nat} (ho : o < m) (hX : X t.length (tabM s m t) o 0 = (a : Rat) / (N : Rat)) (k : Nat) : decT s t k o ≤ flr s N k a := by
  have h1 := dec_le T r ho k
  rw [hX] at h1
  have n0 : (0 : Rat) < (N : Rat) := Rat.natCast_pos.mpr h
  have e2 : (s : Rat) ^ k * ((a : Rat) / (N : Rat)) = ((s : Rat) ^ k * (a : Rat)) / (N : Rat) := by rw [Rat.div_def, Rat.div_def, Rat.mul_assoc]
  rw [e2, le_div_i n0] at h1
  have h2 : ((decT s t k o * N : Nat) : Rat) ≤ ((s ^ k * a : Nat) : Rat) := by
    rw [Rat.natCast_mul, Rat.natCast_mul, Rat.natCast_pow]; exact h1
  have h3 := Rat.natCast_le_natCast.mp h2
  exact (Nat.le_div_iff_mul_le h).mpr h3
theorem smN_getD (as : List Nat) (f : Nat → Nat) : smN as.length (fun o => f (as.getD o 0)) = (as.map f).sum := by
  rw [smN_list, List.length_map]
  refine smN_congr fun i hi => ?_
  rw [List.getD_eq_getElem?_getD, List.getD_eq_getElem?_getD, List.getElem?_map, List.getElem?_eq_getElem hi]
  rfl
/-- no chooser with these chances leaves fewer words open -/
theorem opn_least (T : Tb s as.length t) (r : Rk t d) (h : Ch N as) (hX : ∀ o, o < as.length → X t.length (tabM s as.length t) o 0 = (as.getD o 0 : Rat) / (N : Rat)) (k : Nat) : opn s N as k ≤ opnT s t k := by
  have h1 := opn_dec T k
  have h2 : smN as.length (decT s t k) ≤ (as.map (flr s N k)).sum := by
    rw [← smN_getD]
    exact smN_le fun o ho => dec_flr T r h.pos ho (hX o ho) k
  have h3 := (opn_flr (s := s) (k := k) h).1
  omega
/-- the throws of two choosers, the one never behind the other -/
theorem throws_le {t2 : List Rw} {d2 : Nat → Nat} {m2 : Nat} (T : Tb s m t) (r : Rk t d) (T2 : Tb s m2 t2) (r2 : Rk t2 d2) (hle : ∀ k, opnT s t k ≤ opnT s t2 k) (c : Nat) (hc : ∀ k, opnT s t k ≤ c) : X t.length (tabM s m t) m 0 ≤ X t2.length (tabM s m2 t2) m2 0 := by
  obtain ⟨i0, hi0, hM⟩ := max_at (fun x => X t.length (tabM s m t) m x) t.length T.n1
  have key : ∀ k : Nat, (s : Rat) ^ k * (X t.length (tabM s m t) m 0 - X t2.length (tabM s m2 t2) m2 0) ≤ (c : Rat) * X t.length (tabM s m t) m i0 := fun k => by
    have e1 := cnt_T T r k
    have e2 := cnt_T T2 r2 k
    have p1 : sm k (fun j => (s : Rat) ^ (k - j) * (opnT s t j : Rat)) ≤ sm k (fun j => (s : Rat) ^ (k - j) * (opnT s t2 j : Rat)) := sm_le fun j _ => by
      refine Rat.mul_le_mul_of_nonneg_left (Rat.natCast_le_natCast.mpr (hle j)) ?_
      rw [← Rat.natCast_pow]; exact Rat.natCast_nonneg
    have p2 : 0 ≤ sm t2.length (fun x => (cntT s t2 k x : Rat) * X t2.length (tabM s m2 t2) m2 x) := sm_nonneg fun x hx => Rat.mul_nonneg Rat.natCast_nonneg (X_nn (T2.sup r2) m2 hx)
    have p3 : sm t.length (fun x => (cntT s t k x : Rat) * X t.length (tabM s m t) m x) ≤ (opnT s t k : Rat) * X t.length (tabM s m t) m i0 := by
      unfold opnT
      rw [smN_cast, ← sm_mul_right]
      refine sm_le fun x hx => ?_
      obtain ⟨q, hq⟩ : ∃ q, t[x]? = some q := ⟨t[x], List.getElem?_eq_getElem hx⟩
      rw [hq]
      cases q with
      | fin a =>
        show _ ≤ ((0 : Nat) : Rat) * _
        rw [X_fin T r hq, if_neg (by have := T.fin x a hq; omega), Rat.mul_zero]
        have : ((0 : Nat) : Rat) = 0 := rfl
        rw [this, Rat.zero_mul]
        exact Rat.le_refl
      | go l => exact Rat.mul_le_mul_of_nonneg_left (hM x hx) Rat.natCast_nonneg
    have p4 : (opnT s t k : Rat) * X t.length (tabM s m t) m i0 ≤ (c : Rat) * X t.length (tabM s m t) m i0 := Rat.mul_le_mul_of_nonneg_right (Rat.natCast_le_natCast.mpr (hc k)) (X_nn (T.sup r) m hi0)
    grind
  have := arch T.s1 key
  grind
end
end Fc

namespace Fc
/-! ## sizes of best tables -/
def rho (N s : Nat) : Nat := ((List.range 31).find? fun J => (List.range J).any fun i => s ^ i % N == s ^ J % N).getD 0
def chk (N s : Nat) : Bool := decide (rho N s < 31) && ((List.range (rho N s)).any fun i => s ^ i % N == s ^ rho N s % N) && (List.range (N + 1)).all fun a => decide (6 * smN (rho N s) (fun k => s ^ k * a % N) + 6 * N ≤ 100 * N)
theorem small_course0 : ((List.range 30).all fun N => (List.range 5).all fun s => chk (N + 1) (s + 2)) = true := by decide +kernel
theorem small_course (N : Nat) (h : N < 31) (h0 : 0 < N) (s : Nat) (h1 : s < 7) (h2 : 2 ≤ s) : ∃ J, J < 31 ∧ (∃ i, i < J ∧ s ^ i % N = s ^ J % N) ∧ ∀ a, a < N + 1 → 6 * smN J (fun k => s ^ k * a % N) + 6 * N ≤ 100 * N := by
  have h3 := List.all_eq_true.mp (List.all_eq_true.mp small_course0 (N - 1) (List.mem_range.mpr (by omega))) (s - 2) (List.mem_range.mpr (by omega))
  rw [show N - 1 + 1 = N by omega, show s - 2 + 2 = s by omega] at h3
  unfold chk at h3
  rw [Bool.and_eq_true, Bool.and_eq_true] at h3
  obtain ⟨⟨a, b⟩, c⟩ := h3
  obtain ⟨i, hi, e⟩ := List.any_eq_true.mp b
  exact ⟨_, of_decide_eq_true a, ⟨i, List.mem_range.mp hi, by simpa using e⟩, fun a ha => of_decide_eq_true (List.all_eq_true.mp c a (List.mem_range.mpr ha))⟩
/-- what is asked of the bottom: it is small, or a power of the sides is a multiple of it -/
def Sml (s N : Nat) : Prop := N ≤ 30 ∨ ∃ c, c ≤ 6 ∧ s ^ c % N = 0
section
variable {s N : Nat} {as : List Nat} {n : Nat}
theorem rst_of_pow {i j a : Nat} (h : s ^ i % N = s ^ j % N) : rst s N i a = rst s N j a := by
  unfold rst
  rw [Nat.mul_mod, h, ← Nat.mul_mod]
theorem dist_le (hN : 0 < N) (hs1 : 2 ≤ s) (hs2 : s ≤ 6) (S : Sml s N) (hd : ∀ i j, i < j → j < n → ∃ a ∈ as, rst s N i a ≠ rst s N j a) : n ≤ 30 := by
  rcases S with h | ⟨c, hc, hz⟩
  · obtain ⟨J, hJ, ⟨i, hi, e⟩, _⟩ := small_course N (by omega) hN s (by omega) hs1
    by_cases q : J < n
    · obtain ⟨a, _, ne⟩ := hd i J hi q
      exact absurd (rst_of_pow e) ne
    · omega
  · by_cases q : c + 1 < n
    · obtain ⟨a, _, ne⟩ := hd c (c + 1) (by omega) q
      exact absurd (rst_of_pow (by rw [Nat.pow_succ, Nat.mul_mod, hz, Nat.zero_mul, Nat.zero_mod])) ne
    · omega
theorem best_size (h : Ch N as) (hs1 : 2 ≤ s) (hs2 : s ≤ 6) (S : Sml s N) (hd : ∀ i j, i < j → j < n → ∃ a ∈ as, rst s N i a ≠ rst s N j a) : fsB s N as n + as.length ≤ 100 := by
  have h6 := h.l6
  rcases S with hN | ⟨c, hc, hz⟩
  · obtain ⟨J, hJ, ⟨i, hi, e⟩, hb⟩ := small_course N (by omega) h.pos s (by omega) hs1
    have hn : n ≤ J := by
      by_cases q : J < n
      · obtain ⟨a, _, ne⟩ := hd i J hi q
        exact absurd (rst_of_pow e) ne
      · omega
    have h1 := fs_mono (s := s) (N := N) (as := as) hn
    have h2 : N * fsB s N as J = (as.map fun a => smN J fun k => rst s N k a).sum := by
      show N * smN J (opn s N as) = _
      rw [← smN_mul, smN_congr (fun k _ => ((opn_flr (s := s) (k := k) h).2).symm)]
      clear h h6 hd hb h1
      induction as with
      | nil => exact smN_zero fun _ _ => rfl
      | cons x l ih =>
        rw [List.map_cons, List.sum_cons, ← ih, ← smN_add]
        exact smN_congr fun k _ => by rw [List.map_cons, List.sum_cons]
    have h3 : 6 * (as.map fun a => smN J fun k => rst s N k a).sum ≤ as.length * (94 * N) := by
      rw [← sum_mul_of, ← sum_const_of]
      refine sum_le_of _ _ _ fun a ha => ?_
      have := hb a (by have := h.le ha; omega)
      show 6 * smN J (fun k => s ^ k * a % N) ≤ 94 * N
      omega
    have h4 : as.length * (94 * N) ≤ 6 * (94 * N) := Nat.mul_le_mul_right _ h6
    have h5 : N * fsB s N as J ≤ N * 94 := by rw [h2]; omega
    have := Nat.le_of_mul_le_mul_left h5 h.pos
    omega
  · have hn : n ≤ 7 := by
      by_cases q : c + 1 < n
      · obtain ⟨a, _, ne⟩ := hd c (c + 1) (by omega) q
        exact absurd (rst_of_pow (by rw [Nat.pow_succ, Nat.mul_mod, hz, Nat.zero_mul, Nat.zero_mod])) ne
      · omega
    have h1 := fs_mono (s := s) (N := N) (as := as) hn
    have h2 : fsB s N as 7 ≤ smN 7 fun _ => 5 := smN_le fun k _ => by
      have := opn_lt (s := s) (k := k) h
      omega
    have h3 : smN 7 (fun _ => 5) = 35 := rfl
    omega
end

/-! ## rounds -/
def geo (s k : Nat) : Nat := smN k fun i => s ^ i
theorem geo_succ (s k : Nat) : geo s (k + 1) = geo s k + s ^ k := rfl
theorem geo_mul (s k : Nat) : geo s (k + 1) = s * geo s k + 1 := by
  induction k with
  | zero => show 0 + s ^ 0 = s * 0 + 1; rw [Nat.pow_zero, Nat.mul_zero]
  | succ k ih =>
    rw [geo_succ s (k + 1), ih]
    have e := geo_succ s k
    rw [ih] at e
    rw [e, Nat.mul_add, Nat.pow_succ, Nat.mul_comm (s ^ k) s]
    omega
/-- the outcome of each number -/
def numR (as : List Nat) : List Nat := ((List.range as.length).map fun o => List.replicate (as.getD o 0) o).flatten
section
variable (s N : Nat) (as : List Nat) (r : Nat)
def endR : List Nat := (numR as).map (fun o => geo s r + (fo as).idxOf o) ++ List.replicate (s ^ r - N) 0
def ltR : List Nat := (List.range (geo s r - 1)).map (1 + ·) ++ endR s N as r
def rowR (x : Nat) : List Nat := ((ltR s N as r).drop (x * s)).take s
def rndR : List Rw := (List.range (geo s r)).map (fun x => Rw.go (rowR s N as r x)) ++ (fo as).map Rw.fin
end
/-- the length of a round -/
structure Rd1 (s N r : Nat) : Prop where
  le : N ≤ s ^ r
  lt : ∀ k, k < r → s ^ k < N
section
variable {s N : Nat} {as : List Nat} {r : Nat}
theorem numR_len (h : Ch N as) : (numR as).length = N := by
  unfold numR
  have e := map_getD as (fun a => a)
  rw [List.map_id'] at e
  rw [List.length_flatten, List.map_map, ← h.sum]
  conv => rhs; rw [← e]
  congr 1
  exact List.map_congr_left fun o _ => List.length_replicate
theorem numR_mem {o : Nat} (h : o ∈ numR as) : o ∈ fo as := by
  unfold numR at h
  obtain ⟨l, hl, hx⟩ := List.mem_flatten.mp h
  obtain ⟨o', ho, rfl⟩ := List.mem_map.mp hl
  have hr := List.eq_of_mem_replicate hx
  subst hr
  exact fo_mem.mpr ⟨List.mem_range.mp ho, fun z => by rw [z] at hx; cases hx⟩
theorem numR_count (o : Nat) (h : o < as.length) : (numR as).count o = as.getD o 0 := by
  unfold numR
  rw [count_flat, smN_at (k := o) h (fun i _ hne => if_neg hne), if_pos rfl]
theorem endR_len (h : Ch N as) (hr : Rd1 s N r) : (endR s N as r).length = s ^ r := by
  unfold endR
  rw [List.length_append, List.length_map, numR_len h, List.length_replicate]
  have := hr.le
  omega
theorem geo_pos (hr : 0 < r) : 1 ≤ geo s r := by
  have := smN_mono (fun i => s ^ i) (show 1 ≤ r by omega)
  have e : smN 1 (fun i => s ^ i) = 1 := by show 0 + s ^ 0 = 1; rw [Nat.pow_zero]
  have : 1 ≤ smN r fun i => s ^ i := by omega
  exact this
theorem ltR_len (h : Ch N as) (hr : Rd1 s N r) (r0 : 0 < r) : (ltR s N as r).length = geo s r * s := by
  unfold ltR
  rw [List.length_append, List.length_map, List.length_range, endR_len h hr]
  have h1 := geo_succ s r
  have h2 := geo_mul s r
  have h3 := geo_pos (s := s) r0
  rw [Nat.mul_comm]
  omega
theorem rndR_len : (rndR s N as r).length = geo s r + (fo as).length := by
  unfold rndR
  rw [List.length_append, List.length_map, List.length_range, List.length_map]
theorem rndR_go {x : Nat} (hx : x < geo s r) : (rndR s N as r)[x]? = some (.go (rowR s N as r x)) := by
  unfold rndR
  rw [List.getElem?_append_left (by rw [List.length_map, List.length_range]; exact hx), List.getElem?_map, List.getElem?_range hx]
  rfl
theorem rndR_fin {i : Nat} : (rndR s N as r)[geo s r + i]? = (fo as)[i]?.map Rw.fin := by
  unfold rndR
  rw [List.getElem?_append_right (by rw [List.length_map, List.length_range]; omega), List.length_map, List.length_range, Nat.add_sub_cancel_left, List.getElem?_map]
theorem rndR_goat {x : Nat} {l : List Nat} (e : (rndR s N as r)[x]? = some (.go l)) : x < geo s r ∧ l = rowR s N as r x := by
  by_cases hx : x < geo s r
  · rw [rndR_go hx] at e
    cases e
    exact ⟨hx, rfl⟩
  · rw [show x = geo s r + (x - geo s r) by omega, rndR_fin] at e
    cases q : (fo as)[x - geo s r]? with
    | none => rw [q] at e; cases e
    | some o => rw [q] at e; cases e
theorem rndR_finat {x o : Nat} (e : (rndR s N as r)[x]? = some (.fin o)) : ∃ i, x = geo s r + i ∧ (fo as)[i]? = some o := by
  by_cases hx : x < geo s r
  · rw [rndR_go hx] at e
    cases e
  · rw [show x = geo s r + (x - geo s r) by omega, rndR_fin] at e
    cases q : (fo as)[x - geo s r]? with
    | none => rw [q] at e; cases e
    | some z =>
      rw [q] at e
      cases e
      exact ⟨_, by omega, q⟩
theorem ltR_mem (hs : 2 ≤ s) (h : Ch N as) (r0 : 0 < r) {x : Nat} (hx : x ∈ ltR s N as r) : x < geo s r + (fo as).length := by
  have gp := geo_pos (s := s) r0
  unfold ltR at hx
  rcases List.mem_append.mp hx with hx | hx
  · obtain ⟨j, hj, rfl⟩ := List.mem_map.mp hx
    have := List.mem_range.mp hj
    omega
  · unfold endR at hx
    rcases List.mem_append.mp hx with hx | hx
    · obtain ⟨o, ho, rfl⟩ := List.mem_map.mp hx
      have := List.idxOf_lt_length_of_mem (numR_mem ho)
      omega
    · rw [List.eq_of_mem_replicate hx]; omega
theorem geo_bd (hs : 2 ≤ s) (hr : Rd1 s N r) (hN : N ≤ 30) : geo s r ≤ 60 := by
  cases r with
  | zero => show 0 ≤ 60; omega
  | succ k =>
    have h1 := hr.lt k (by omega)
    have h2 : ∀ k, geo s k ≤ s ^ k := fun k => by
      induction k with
      | zero => show 0 ≤ _; omega
      | succ k ih =>
        rw [geo_succ, Nat.pow_succ]
        have : s ^ k * 2 ≤ s ^ k * s := Nat.mul_le_mul_left _ hs
        omega
    have := h2 k
    rw [geo_succ]
    omega
theorem rowR_len (h : Ch N as) (hr : Rd1 s N r) (r0 : 0 < r) {x : Nat} (hx : x < geo s r) : (rowR s N as r x).length = s := by
  unfold rowR
  rw [List.length_take, List.length_drop, ltR_len h hr r0]
  have : (x + 1) * s ≤ geo s r * s := Nat.mul_le_mul_right s (by omega)
  rw [Nat.succ_mul] at this
  omega
theorem rndR_tb (hs1 : 2 ≤ s) (hs2 : s ≤ 6) (h : Ch N as) (hr : Rd1 s N r) (r0 : 0 < r) (hN : N ≤ 30) : Tb s as.length (rndR s N as r) := by
  have gp := geo_pos (s := s) r0
  refine ⟨by rw [rndR_len]; omega, ?_, hs1, hs2, h.l1, h.l6, fun i o e => ?_, fun i l e => ?_⟩
  · rw [rndR_len]
    have := fo_len as
    have := geo_bd hs1 hr hN
    have := h.l6
    omega
  · obtain ⟨j, _, e2⟩ := rndR_finat e
    exact (fo_mem.mp (List.mem_of_getElem? e2)).1
  · obtain ⟨hx, rfl⟩ := rndR_goat e
    refine ⟨rowR_len h hr r0 hx, fun x hx => ?_⟩
    rw [rndR_len]
    exact ltR_mem hs1 h r0 (List.mem_of_mem_drop (List.mem_of_mem_take hx))
/-- the rank -/
def rkR (s r x : Nat) : Nat := if x < geo s r then (if x = geo s (kk (fun i => s ^ i) r x) then r - kk (fun i => s ^ i) r x else 2 * r + 1 - kk (fun i => s ^ i) r x) else 0
theorem geo_lt {k j : Nat} (hk : k < r) (hj : j < s ^ k) : geo s k + j < geo s r := by
  have : geo s (k + 1) ≤ geo s r := smN_mono _ hk
  rw [geo_succ] at this
  omega
theorem rkR_at {k j : Nat} (hk : k < r) (hj : j < s ^ k) : rkR s r (geo s k + j) = if j = 0 then r - k else 2 * r + 1 - k := by
  unfold rkR
  have e : kk (fun i => s ^ i) r (geo s k + j) = k := kk_at (fun i => s ^ i) (Nat.le_add_right _ _) (by
    show geo s k + j < geo s k + s ^ k
    omega) hk
  rw [if_pos (geo_lt hk hj), e]
  by_cases q : j = 0
  · rw [if_pos q, if_pos (by omega)]
  · rw [if_neg q, if_neg (by omega)]
theorem ltR_in (r0 : 0 < r) {p : Nat} (hp : p + 1 < geo s r) : (ltR s N as r)[p]? = some (p + 1) := by
  unfold ltR
  rw [List.getElem?_append_left (by rw [List.length_map, List.length_range]; omega), List.getElem?_map, List.getElem?_range (by omega)]
  show some (1 + p) = _
  rw [Nat.add_comm]
theorem ltR_end {q : Nat} : (ltR s N as r)[geo s r - 1 + q]? = (endR s N as r)[q]? := by
  unfold ltR
  rw [List.getElem?_append_right (by rw [List.length_map, List.length_range]; omega), List.length_map, List.length_range, Nat.add_sub_cancel_left]
theorem endR_lo (h : Ch N as) {q : Nat} (hq : q < N) : ∃ o ∈ fo as, (endR s N as r)[q]? = some (geo s r + (fo as).idxOf o) := by
  have hl := numR_len h
  refine ⟨(numR as)[q], numR_mem (List.getElem_mem (by omega)), ?_⟩
  unfold endR
  rw [List.getElem?_append_left (by rw [List.length_map]; omega), List.getElem?_map, List.getElem?_eq_getElem (by omega)]
  rfl
theorem endR_hi (h : Ch N as) {q : Nat} (hq : N ≤ q) (hq2 : q < s ^ r) : (endR s N as r)[q]? = some 0 := by
  unfold endR
  rw [List.getElem?_append_right (by rw [List.length_map, numR_len h]; omega), List.length_map, numR_len h, List.getElem?_replicate, if_pos (by omega)]
theorem rndR_rk (hs : 2 ≤ s) (h : Ch N as) (hr : Rd1 s N r) (r0 : 0 < r) : Rk (rndR s N as r) (rkR s r) := fun x l e => by
  obtain ⟨hx, rfl⟩ := rndR_goat e
  obtain ⟨k, j, hk, hj, hxe⟩ := kk_of (fun i => s ^ i) hx
  have hxe : x = geo s k + j := hxe
  subst hxe
  have hj : j < s ^ k := hj
  have hps : s ^ (k + 1) = s ^ k * s := Nat.pow_succ _ _
  have hg : geo s (k + 1) = s * geo s k + 1 := geo_mul s k
  have hjs : (j + 1) * s ≤ s ^ k * s := Nat.mul_le_mul_right s (by omega)
  rw [Nat.succ_mul, ← hps] at hjs
  have fst : ∀ y, (ltR s N as r)[(geo s k + j) * s]? = some y → y ∈ rowR s N as r (geo s k + j) := fun y hy => by
    refine List.mem_of_getElem? (i := 0) ?_
    unfold rowR
    rw [List.getElem?_take_of_lt (by omega), List.getElem?_drop, Nat.add_zero]
    exact hy
  have ep : (geo s k + j) * s + 1 = geo s (k + 1) + j * s := by rw [hg, Nat.add_mul, Nat.mul_comm (geo s k) s]; omega
  rw [rkR_at hk hj]
  by_cases hk1 : k + 1 < r
  · have hlt := geo_lt (s := s) (j := j * s) hk1 (by omega)
    refine ⟨geo s (k + 1) + j * s, fst _ (by rw [ltR_in r0 (by omega), ep]), ?_⟩
    rw [rkR_at hk1 (by omega)]
    by_cases q : j = 0
    · subst q
      rw [if_pos rfl, if_pos (by omega)]; omega
    · have : j * s ≠ 0 := by
        have : 0 < j * s := Nat.mul_pos (by omega) (by omega)
        omega
      rw [if_neg q, if_neg this]; omega
  · have hk2 : k + 1 = r := by omega
    have gp := geo_pos (s := s) r0
    rw [hk2] at ep
    have e2 : (geo s k + j) * s = geo s r - 1 + j * s := by omega
    by_cases q : j * s < N
    · obtain ⟨o, ho, e3⟩ := endR_lo (s := s) (r := r) h q
      refine ⟨_, fst _ (by rw [e2, ltR_end, e3]), ?_⟩
      unfold rkR
      rw [if_neg (by omega)]
      split <;> omega
    · have hj0 : j ≠ 0 := fun z => by rw [z, Nat.zero_mul] at q; exact q h.pos
      refine ⟨0, fst _ (by rw [e2, ltR_end, endR_hi h (by omega) (by rw [← hk2]; omega)]), ?_⟩
      have := rkR_at (s := s) (r := r) (k := 0) (j := 0) r0 (by rw [Nat.pow_zero]; omega)
      have e0 : geo s 0 + 0 = 0 := rfl
      rw [e0, if_pos rfl] at this
      rw [this, if_neg hj0]
      omega
/-- what a level leads to -/
theorem sgR (h : Ch N as) (hr : Rd1 s N r) (r0 : 0 < r) {k : Nat} (hk : k < r) (ih : ∀ y, y < (rndR s N as r).length → cntT s (rndR s N as r) k y = if geo s k ≤ y ∧ y < geo s (k + 1) then 1 else 0) (y : Nat) :
    smN (rndR s N as r).length (fun x => match (rndR s N as r)[x]? with | some (.go l) => cntT s (rndR s N as r) k x * l.count y | _ => 0) = (((ltR s N as r).drop (geo s k * s)).take (s ^ k * s)).count y := by
  have hg : geo s (k + 1) ≤ geo s r := smN_mono _ hk
  have hg2 := geo_succ s k
  have hlen := rndR_len (s := s) (N := N) (as := as) (r := r)
  rw [smN_win (a := geo s k) (b := s ^ k) (by omega) (fun i hi hw => ?_)]
  · have hl : (((ltR s N as r).drop (geo s k * s)).take (s ^ k * s)).length = s ^ k * s := by
      rw [List.length_take, List.length_drop, ltR_len h hr r0]
      have : (geo s k + s ^ k) * s ≤ geo s r * s := Nat.mul_le_mul_right s (by omega)
      rw [Nat.add_mul] at this
      omega
    rw [← count_pieces s y (s ^ k) _ hl]
    refine smN_congr fun j hj => ?_
    rw [rndR_go (by omega)]
    show cntT s (rndR s N as r) k (geo s k + j) * _ = _
    rw [ih _ (by omega), if_pos ⟨by omega, by omega⟩, Nat.one_mul]
    unfold rowR
    congr 1
    have hjs : (j + 1) * s ≤ s ^ k * s := Nat.mul_le_mul_right s (by omega)
    rw [Nat.succ_mul] at hjs
    rw [List.drop_take, List.take_take, List.drop_drop, Nat.add_mul]
    congr 1
    omega
  · cases e : (rndR s N as r)[i]? with
    | none => rfl
    | some q =>
      cases q with
      | fin o => rfl
      | go l =>
        show cntT s (rndR s N as r) k i * _ = 0
        rw [ih i hi, if_neg (by omega), Nat.zero_mul]
theorem sg_in (h : Ch N as) (hr : Rd1 s N r) (r0 : 0 < r) {k : Nat} (hk : k + 1 < r) : ((ltR s N as r).drop (geo s k * s)).take (s ^ k * s) = (List.range (s ^ (k + 1))).map fun j => geo s (k + 1) + j := by
  have hg : geo s (k + 1 + 1) ≤ geo s r := smN_mono _ hk
  have hg2 := geo_succ s (k + 1)
  have hm := geo_mul s k
  refine List.ext_getElem? fun i => ?_
  by_cases hi : i < s ^ (k + 1)
  · rw [List.getElem?_take_of_lt (by rw [← Nat.pow_succ]; exact hi), List.getElem?_drop, ltR_in r0 (by rw [Nat.mul_comm]; omega), List.getElem?_map, List.getElem?_range hi]
    show some (geo s k * s + i + 1) = some (geo s (k + 1) + i)
    rw [hm, Nat.mul_comm s]
    congr 1
    omega
  · rw [List.getElem?_eq_none (by rw [List.length_take, ← Nat.pow_succ]; show min (s ^ (k + 1)) _ ≤ i; omega), List.getElem?_eq_none (by rw [List.length_map, List.length_range]; omega)]
theorem sg_end (h : Ch N as) (hr : Rd1 s N r) {k : Nat} (hk : k + 1 = r) : ((ltR s N as r).drop (geo s k * s)).take (s ^ k * s) = endR s N as r := by
  have hm := geo_mul s k
  rw [hk] at hm
  refine List.ext_getElem? fun i => ?_
  by_cases hi : i < s ^ r
  · rw [List.getElem?_take_of_lt (by rw [← Nat.pow_succ, Nat.succ_eq_add_one, hk]; exact hi), List.getElem?_drop, show geo s k * s = geo s r - 1 by rw [hm, Nat.mul_comm]; omega, ltR_end]
  · rw [List.getElem?_eq_none (by rw [List.length_take, ← Nat.pow_succ, Nat.succ_eq_add_one, hk]; omega), List.getElem?_eq_none (by rw [endR_len h hr]; omega)]
/-- the counts within a round -/
theorem ctR (h : Ch N as) (hr : Rd1 s N r) (r0 : 0 < r) : ∀ k, k < r → ∀ y, y < (rndR s N as r).length → cntT s (rndR s N as r) k y = if geo s k ≤ y ∧ y < geo s (k + 1) then 1 else 0
  | 0, _, y, _ => by
    show (if y = 0 then 1 else 0) = if 0 ≤ y ∧ y < geo s 1 then 1 else 0
    have : geo s 1 = 1 := by show 0 + s ^ 0 = 1; rw [Nat.pow_zero]
    rw [this]
    by_cases q : y = 0
    · rw [if_pos q, if_pos (by omega)]
    · rw [if_neg q, if_neg (by omega)]
  | k + 1, hk, y, hy => by
    have ih := ctR h hr r0 k (by omega)
    have e0 : cntT s (rndR s N as r) (k + 1) y = (((ltR s N as r).drop (geo s k * s)).take (s ^ k * s)).count y + (match (rndR s N as r)[y]? with | some (.fin _) => s * cntT s (rndR s N as r) k y | _ => 0) := congrArg (· + _) (sgR h hr r0 (by omega) ih y)
    have hg : geo s (k + 1) ≤ geo s r := smN_mono _ (by omega)
    rw [e0, sg_in h hr r0 hk, count_map_range, ← geo_succ]
    cases e : (rndR s N as r)[y]? with
    | none => rfl
    | some q =>
      cases q with
      | go l => rfl
      | fin o =>
        obtain ⟨i, rfl, _⟩ := rndR_finat e
        show _ + s * cntT s (rndR s N as r) k (geo s r + i) = _
        rw [ih _ hy, if_neg (show ¬ (geo s k ≤ geo s r + i ∧ geo s r + i < geo s (k + 1)) by omega)]
        rfl
theorem end_count (h : Ch N as) (r0 : 0 < r) {i o : Nat} (ho : (fo as)[i]? = some o) : (endR s N as r).count (geo s r + i) = as.getD o 0 := by
  have gp := geo_pos (s := s) r0
  obtain ⟨hi, hio⟩ := List.getElem?_eq_some_iff.mp ho
  unfold endR
  rw [List.count_append, List.count_replicate, if_neg (by simpa using (show ¬ 0 = geo s r + i by omega)), Nat.add_zero, ← numR_count o (fo_mem.mp (List.mem_of_getElem? ho)).1]
  have key : ∀ l : List Nat, (∀ x ∈ l, x ∈ fo as) → (l.map fun o => geo s r + (fo as).idxOf o).count (geo s r + i) = l.count o := by
    intro l
    induction l with
    | nil => intro _; rfl
    | cons x l ih =>
      intro hl
      rw [List.map_cons, List.count_cons, List.count_cons, ih fun y hy => hl y (List.mem_cons_of_mem _ hy)]
      congr 1
      have hx := hl x List.mem_cons_self
      have hxl := List.idxOf_lt_length_of_mem hx
      by_cases e : x = o
      · subst e
        have : (fo as).idxOf x = i := by rw [← hio]; exact List.Nodup.idxOf_getElem (fo_nd as) i hi
        rw [this]
        simp
      · have : (fo as).idxOf x ≠ i := fun z => by
          have h4 : (fo as)[(fo as).idxOf x]'hxl = x := List.getElem_idxOf hxl
          have h6 : (fo as)[i]? = some x := by rw [← z, List.getElem?_eq_getElem hxl, h4]
          rw [ho] at h6
          exact e (Option.some.inj h6).symm
        rw [show (geo s r + (fo as).idxOf x == geo s r + i) = false by simpa using this, show (x == o) = false by simpa using e]
  exact key _ fun x hx => numR_mem hx
theorem end_count0 (h : Ch N as) (r0 : 0 < r) {y : Nat} (hy : y < geo s r) : (endR s N as r).count y = if y = 0 then s ^ r - N else 0 := by
  unfold endR
  rw [List.count_append, List.count_replicate, List.count_eq_zero.mpr (fun z => by obtain ⟨o, _, e⟩ := List.mem_map.mp z; omega), Nat.zero_add]
  by_cases q : y = 0
  · rw [if_pos q, if_pos (by simpa using q.symm)]
  · rw [if_neg q, if_neg (by simpa using (fun z => q z.symm))]
/-- the chances of the rounds -/
theorem rndR_X (hs1 : 2 ≤ s) (hs2 : s ≤ 6) (h : Ch N as) (hr : Rd1 s N r) (r0 : 0 < r) (hN : N ≤ 30) {o : Nat} (ho : o < as.length) : X (rndR s N as r).length (tabM s as.length (rndR s N as r)) o 0 = (as.getD o 0 : Rat) / (N : Rat) := by
  have T := rndR_tb hs1 hs2 h hr r0 hN
  have R := rndR_rk hs1 h hr r0
  obtain ⟨k, hk⟩ : ∃ k, k + 1 = r := ⟨r - 1, by omega⟩
  have ih := ctR h hr r0 k (by omega)
  have cn : ∀ y, cntT s (rndR s N as r) r y = (endR s N as r).count y + (match (rndR s N as r)[y]? with | some (.fin _) => s * cntT s (rndR s N as r) k y | _ => 0) := fun y => by
    have e0 : cntT s (rndR s N as r) (k + 1) y = (((ltR s N as r).drop (geo s k * s)).take (s ^ k * s)).count y + (match (rndR s N as r)[y]? with | some (.fin _) => s * cntT s (rndR s N as r) k y | _ => 0) := congrArg (· + _) (sgR h hr r0 (by omega) ih y)
    rw [sg_end h hr hk] at e0
    rw [← e0, hk]
  have cx := cnt_X T R ho r
  have gp := geo_pos (s := s) r0
  have gk : geo s (k + 1) = geo s r := by rw [hk]
  generalize hX : X (rndR s N as r).length (tabM s as.length (rndR s N as r)) o = Xo at cx ⊢
  have split : ∀ (a b : Nat) (f : Nat → Rat), sm (a + b) f = sm a f + sm b fun i => f (a + i) := fun a b f => by
    induction b with
    | zero => exact (Rat.add_zero _).symm
    | succ b ih => show sm (a + b) f + f (a + b) = _; rw [ih, sm]; grind
  rw [rndR_len, split] at cx
  have p1 : sm (geo s r) (fun x => (cntT s (rndR s N as r) r x : Rat) * Xo x) = ((s ^ r - N : Nat) : Rat) * Xo 0 := by
    rw [sm_at (k := 0) (by omega) (fun i hi hne => ?_)]
    · rw [cn, end_count0 h r0 (by omega), if_pos rfl, rndR_go (by omega)]
      rfl
    · rw [cn, end_count0 h r0 hi, if_neg hne, rndR_go hi]
      exact Rat.zero_mul _
  have p2 : sm (fo as).length (fun i => (cntT s (rndR s N as r) r (geo s r + i) : Rat) * Xo (geo s r + i)) = (as.getD o 0 : Rat) := by
    have e : ∀ i, i < (fo as).length → (cntT s (rndR s N as r) r (geo s r + i) : Rat) * Xo (geo s r + i) = if (fo as)[i]? = some o then (as.getD o 0 : Rat) else 0 := fun i hi => by
      have hio := List.getElem?_eq_getElem hi
      have hfin : (rndR s N as r)[geo s r + i]? = some (.fin (fo as)[i]) := by rw [rndR_fin, hio]; rfl
      have hc : cntT s (rndR s N as r) r (geo s r + i) = as.getD (fo as)[i] 0 := by
        rw [cn, end_count h r0 hio, hfin]
        show _ + s * cntT s (rndR s N as r) k (geo s r + i) = _
        rw [ih _ (by rw [rndR_len]; omega), if_neg (show ¬ (geo s k ≤ geo s r + i ∧ geo s r + i < geo s (k + 1)) by omega)]
        rfl
      rw [hc, ← hX, X_fin T R hfin o, hio]
      by_cases q : o = (fo as)[i]
      · rw [if_pos q, if_pos (by rw [q]), ← q, Rat.mul_one]
      · rw [if_neg q, if_neg (fun z => q (Option.some.inj z).symm), Rat.mul_zero]
    rw [sm_congr e]
    by_cases z : as.getD o 0 = 0
    · rw [z]
      exact sm_zero fun i _ => by split <;> rfl
    · obtain ⟨i, hi⟩ := List.getElem?_of_mem (fo_mem.mpr ⟨ho, z⟩)
      rw [sm_at (k := i) (List.getElem?_eq_some_iff.mp hi).1 (fun j _ hne => if_neg fun q => hne (ix_inj' (fo_nd as) q hi)), if_pos hi]
  rw [p1, p2] at cx
  have hle := hr.le
  have e3 : ((s ^ r - N : Nat) : Rat) = (s : Rat) ^ r - (N : Rat) := by
    have : ((s ^ r : Nat) : Rat) = ((s ^ r - N : Nat) : Rat) + (N : Rat) := by rw [← Rat.natCast_add]; congr 1; omega
    rw [Rat.natCast_pow] at this
    rw [this]; grind
  rw [e3] at cx
  have n0 : (N : Rat) ≠ 0 := fun z => by have := Rat.natCast_eq_zero_iff.mp z; have := h.pos; omega
  have e4 : Xo 0 * (N : Rat) = (as.getD o 0 : Rat) := by grind
  rw [← e4, Rat.mul_div_cancel n0]
end
end Fc

namespace Fc
/-! ## shares, their common bottom -/
section
variable {s N k a : Nat}
theorem gcd_parts (h : 0 < N) : ∃ g a' d : Nat, g = Nat.gcd a N ∧ 0 < g ∧ 0 < d ∧ a = g * a' ∧ N = g * d ∧ a / Nat.gcd a N = a' ∧ N / Nat.gcd a N = d ∧ Nat.gcd a' d = 1 := by
  have g0 : 0 < Nat.gcd a N := Nat.gcd_pos_of_pos_right _ h
  obtain ⟨a', ha⟩ := Nat.gcd_dvd_left a N
  obtain ⟨d, hd⟩ := Nat.gcd_dvd_right a N
  have e1 : a / Nat.gcd a N = a' := by conv => lhs; lhs; rw [ha]
                                       exact Nat.mul_div_cancel_left _ g0
  have e2 : N / Nat.gcd a N = d := by conv => lhs; lhs; rw [hd]
                                      exact Nat.mul_div_cancel_left _ g0
  refine ⟨_, a', d, rfl, g0, ?_, ha, hd, e1, e2, ?_⟩
  · rcases Nat.eq_zero_or_pos d with z | z
    · rw [z, Nat.mul_zero] at hd; omega
    · exact z
  · have := Nat.gcd_div (Nat.gcd_dvd_left a N) (Nat.gcd_dvd_right a N)
    rw [e1, e2, Nat.div_self g0] at this
    exact this
theorem mk_num (h : 0 < N) : (mkRat (a : Int) N).num = ((a / Nat.gcd a N : Nat) : Int) := by
  have := num_mk (a : Int) (N : Int) (by omega)
  rw [Int.toNat_natCast] at this
  rw [this, Int.gcd_natCast_natCast, Int.natCast_ediv]
theorem mk_den (h : 0 < N) : (mkRat (a : Int) N).den = N / Nat.gcd a N := by
  have := den_mk (a : Int) (N : Int) (by omega)
  rw [Int.toNat_natCast, Int.gcd_natCast_natCast] at this
  have e : ((N : Int) / ((Nat.gcd a N : Nat) : Int)) = ((N / Nat.gcd a N : Nat) : Int) := (Int.natCast_ediv _ _).symm
  rw [e] at this
  exact Int.natCast_inj.mp this
theorem mk_div : mkRat (a : Int) N = (a : Rat) / (N : Rat) := by rw [Rat.mkRat_eq_div, Rat.intCast_natCast]
/-- the floor, by the reduced fraction -/
theorem flr_red (h : 0 < N) : s ^ k * (a / Nat.gcd a N) / (N / Nat.gcd a N) = flr s N k a := by
  obtain ⟨g, a', d, e, g0, d0, ha, hd, e1, e2, _⟩ := gcd_parts (a := a) h
  rw [e1, e2]
  unfold flr
  rw [ha, hd, Nat.mul_left_comm, Nat.mul_div_mul_left _ _ g0]
theorem own_red (h : 0 < N) : N / (N / Nat.gcd a N) = Nat.gcd a N := by
  obtain ⟨g, a', d, e, g0, d0, ha, hd, e1, e2, _⟩ := gcd_parts (a := a) h
  rw [e2, ← e, hd, Nat.mul_div_cancel _ d0]
theorem rst_red (h : 0 < N) : s ^ k * (a / Nat.gcd a N) * Nat.gcd a N % N = rst s N k a := by
  obtain ⟨g, a', d, e, g0, d0, ha, hd, e1, e2, _⟩ := gcd_parts (a := a) h
  rw [e1, ← e, Nat.mul_assoc, Nat.mul_comm a' g, ← ha]
  rfl
theorem rst_red2 (h : 0 < N) : s ^ k * (a / Nat.gcd a N) % (N / Nat.gcd a N) * Nat.gcd a N = rst s N k a := by
  obtain ⟨g, a', d, e, g0, d0, ha, hd, e1, e2, _⟩ := gcd_parts (a := a) h
  rw [e1, e2, ← e]
  unfold rst
  rw [ha, hd, Nat.mul_comm g d, Nat.mul_comm g a', ← Nat.mul_assoc, Nat.mul_mod_mul_right]
end
/-- the common bottom of shares of N -/
def cbN (N : Nat) (as : List Nat) : Nat := as.foldl (fun r a => Nat.lcm r (N / Nat.gcd a N)) 1
theorem cb_dvd (N : Nat) (h : 0 < N) (as : List Nat) (r : Nat) (hr : r ∣ N) (r0 : 0 < r) : (as.foldl (fun r a => Nat.lcm r (N / Nat.gcd a N)) r) ∣ N ∧ 0 < (as.foldl (fun r a => Nat.lcm r (N / Nat.gcd a N)) r) ∧ r ∣ (as.foldl (fun r a => Nat.lcm r (N / Nat.gcd a N)) r) ∧ ∀ a ∈ as, (N / Nat.gcd a N) ∣ (as.foldl (fun r a => Nat.lcm r (N / Nat.gcd a N)) r) := by
  induction as generalizing r with
  | nil => exact ⟨hr, r0, Nat.dvd_refl _, fun _ h => nomatch h⟩
  | cons x l ih =>
    have hx : N / Nat.gcd x N ∣ N := Nat.div_dvd_of_dvd (Nat.gcd_dvd_right x N)
    have x0 : 0 < N / Nat.gcd x N := by obtain ⟨g, a', d, e, g0, d0, ha, hd, e1, e2, _⟩ := gcd_parts (a := x) h; rw [e2]; exact d0
    obtain ⟨a1, a2, a3, a4⟩ := ih (Nat.lcm r (N / Nat.gcd x N)) (Nat.lcm_dvd hr hx) (Nat.lcm_pos r0 x0)
    refine ⟨a1, a2, Nat.dvd_trans (Nat.dvd_lcm_left _ _) a3, fun a ha => ?_⟩
    rcases List.mem_cons.mp ha with rfl | ha
    · exact Nat.dvd_trans (Nat.dvd_lcm_right _ _) a3
    · exact a4 a ha
/-- shares brought to their common bottom -/
def redS (W : Nat) (sh : List Nat) : List Nat := sh.map fun a => a * cbN W sh / W
section
variable {W : Nat} {sh : List Nat}
theorem red_at (h : 0 < W) {a : Nat} (ha : a ∈ sh) : ∃ q a' d : Nat, 0 < q ∧ 0 < d ∧ cbN W sh = d * q ∧ a * cbN W sh / W = a' * q ∧ a / Nat.gcd a W = a' ∧ W / Nat.gcd a W = d ∧ Nat.gcd a' d = 1 ∧ a * cbN W sh = W * (a' * q) := by
  obtain ⟨g, a', d, e, g0, d0, ea, hd, e1, e2, e3⟩ := gcd_parts (a := a) h
  obtain ⟨c1, c2, _, c4⟩ := cb_dvd W h sh 1 (Nat.one_dvd _) (by decide)
  obtain ⟨q, hq⟩ := c4 a ha
  rw [e2] at hq
  have hq : cbN W sh = d * q := hq
  have q0 : 0 < q := by
    rcases Nat.eq_zero_or_pos q with z | z
    · rw [z, Nat.mul_zero] at hq
      have c2 : 0 < cbN W sh := c2
      omega
    · exact z
  have em : a * cbN W sh = W * (a' * q) := by
    rw [hq]
    conv => lhs; rw [ea]
    conv => rhs; rw [hd]
    simp only [Nat.mul_assoc, Nat.mul_left_comm, Nat.mul_comm]
  exact ⟨q, a', d, q0, d0, hq, by rw [em, Nat.mul_div_cancel_left _ h], e1, e2, e3, em⟩
theorem cbN_pos (h : 0 < W) : 0 < cbN W sh := (cb_dvd W h sh 1 (Nat.one_dvd _) (by decide)).2.1
theorem cbN_dvd (h : 0 < W) : cbN W sh ∣ W := (cb_dvd W h sh 1 (Nat.one_dvd _) (by decide)).1
theorem red_ch (hs : sh.sum = W) (h : 0 < W) (l1 : 1 ≤ sh.length) (l6 : sh.length ≤ 6) : Ch (cbN W sh) (redS W sh) := by
  refine ⟨?_, cbN_pos h, by unfold redS; rw [List.length_map]; exact l1, by unfold redS; rw [List.length_map]; exact l6⟩
  have e : W * (redS W sh).sum = W * cbN W sh := by
    unfold redS
    rw [← sum_mul_of, List.map_congr_left (g := fun a => cbN W sh * a) (fun a ha => ?_), sum_mul_of, List.map_id', hs, Nat.mul_comm]
    obtain ⟨q, a', d, q0, d0, hq, eq, e1, e2, e3, em⟩ := red_at h ha
    rw [eq, ← em, Nat.mul_comm]
  exact Nat.eq_of_mul_eq_mul_left h e
theorem red_mk (h : 0 < W) {a : Nat} (ha : a ∈ sh) : mkRat ((a * cbN W sh / W : Nat) : Int) (cbN W sh) = mkRat (a : Int) W := by
  obtain ⟨q, a', d, q0, d0, hq, eq, e1, e2, e3, em⟩ := red_at h ha
  have w0 : (W : Rat) ≠ 0 := fun z => by have := Rat.natCast_eq_zero_iff.mp z; omega
  have m0 : (cbN W sh : Rat) ≠ 0 := fun z => by have := Rat.natCast_eq_zero_iff.mp z; have := cbN_pos (sh := sh) h; omega
  rw [mk_div, mk_div, eq]
  have c : ((a * cbN W sh : Nat) : Rat) = ((W * (a' * q) : Nat) : Rat) := by rw [em]
  rw [Rat.natCast_mul, Rat.natCast_mul] at c
  have h1 : ((a' * q : Nat) : Rat) / (cbN W sh : Rat) * ((cbN W sh : Rat) * (W : Rat)) = (a : Rat) / (W : Rat) * ((cbN W sh : Rat) * (W : Rat)) := by
    have x1 : ((a' * q : Nat) : Rat) / (cbN W sh : Rat) * (cbN W sh : Rat) = ((a' * q : Nat) : Rat) := Rat.div_mul_cancel m0
    have x2 : (a : Rat) / (W : Rat) * (W : Rat) = (a : Rat) := Rat.div_mul_cancel w0
    rw [← Rat.mul_assoc, x1, Rat.mul_comm (cbN W sh : Rat), ← Rat.mul_assoc, x2, c, Rat.mul_comm]
  have n0 : (cbN W sh : Rat) * (W : Rat) ≠ 0 := fun z => (Rat.mul_eq_zero.mp z).elim m0 w0
  have := congrArg (· / ((cbN W sh : Rat) * (W : Rat))) h1
  simpa only [Rat.mul_div_cancel n0] using this
theorem red_cb (h : 0 < W) : cbN (cbN W sh) (redS W sh) = cbN W sh := by
  have key : ∀ (l : List Nat) (r : Nat), (∀ a ∈ l, a ∈ sh) → (l.map fun a => a * cbN W sh / W).foldl (fun r a => Nat.lcm r (cbN W sh / Nat.gcd a (cbN W sh))) r = l.foldl (fun r a => Nat.lcm r (W / Nat.gcd a W)) r := by
    intro l
    induction l with
    | nil => intro r _; rfl
    | cons x l ih =>
      intro r hl
      rw [List.map_cons, List.foldl_cons, List.foldl_cons, ih _ fun a ha => hl a (List.mem_cons_of_mem _ ha)]
      congr 2
      obtain ⟨q, a', d, q0, d0, hq, eq, e1, e2, e3, em⟩ := red_at h (hl x List.mem_cons_self)
      rw [eq, e2, hq, Nat.gcd_mul_right, e3, Nat.one_mul, Nat.mul_div_cancel _ q0]
  exact key sh 1 fun a ha => ha
theorem red_rst {s k : Nat} (h : 0 < W) {a : Nat} (ha : a ∈ sh) : s ^ k * a % W = W / cbN W sh * rst s (cbN W sh) k (a * cbN W sh / W) ∧ s ^ k * a / W = flr s (cbN W sh) k (a * cbN W sh / W) := by
  obtain ⟨q, a', d, q0, d0, hq, eq, e1, e2, e3, em⟩ := red_at h ha
  obtain ⟨c, hc⟩ := cbN_dvd (sh := sh) h
  have m0 := cbN_pos (sh := sh) h
  have ec : W / cbN W sh = c := by conv => lhs; lhs; rw [hc]
                                   exact Nat.mul_div_cancel_left _ m0
  have c0 : 0 < c := by
    rcases Nat.eq_zero_or_pos c with z | z
    · rw [z, Nat.mul_zero] at hc; omega
    · exact z
  have ea : a = c * (a' * q) := by
    have em2 : cbN W sh * a = cbN W sh * (c * (a' * q)) := by
      rw [Nat.mul_comm, em]
      conv => lhs; lhs; rw [hc]
      exact Nat.mul_assoc _ _ _
    exact Nat.eq_of_mul_eq_mul_left m0 em2
  rw [ec, eq]
  unfold rst flr
  constructor
  · conv => lhs; rw [ea, hc, Nat.mul_left_comm, Nat.mul_comm (cbN W sh) c, Nat.mul_mod_mul_left]
  · conv => lhs; rw [ea, hc, Nat.mul_left_comm, Nat.mul_comm (cbN W sh) c, Nat.mul_div_mul_left _ _ c0]
end
/-! ## ranks -/
def rnk (f : Nat → Nat) (m o : Nat) : Nat := ((List.range m).filter fun i => decide (f o < f i ∨ (f i = f o ∧ i < o))).length
theorem rnk_scale {f g : Nat → Nat} {c : Nat} (h0 : 0 < c) {m : Nat} (h : ∀ i, i < m → g i = c * f i) {o : Nat} (ho : o < m) : rnk g m o = rnk f m o := by
  unfold rnk
  congr 1
  refine List.filter_congr fun i hi => ?_
  have hi := List.mem_range.mp hi
  rw [h i hi, h o ho]
  congr 1
  apply propext
  constructor
  · rintro (q | ⟨q, r⟩)
    · exact .inl (Nat.lt_of_mul_lt_mul_left q)
    · exact .inr ⟨Nat.eq_of_mul_eq_mul_left h0 q, r⟩
  · rintro (q | ⟨q, r⟩)
    · exact .inl (Nat.mul_lt_mul_of_pos_left q h0)
    · exact .inr ⟨by rw [q], r⟩
/-- b comes before a -/
def bef (b a : Int × Int) : Prop := b.1 < a.1 ∨ (b.1 = a.1 ∧ b.2 < a.2)
instance (b a : Int × Int) : Decidable (bef b a) := by unfold bef; exact inferInstance
theorem pos_count : ∀ (l : List (Int × Int)) (x : Int × Int), l.Pairwise (fun p q => ¬ bef q p) → l.Nodup → x ∈ l → l[(l.filter fun y => decide (bef y x)).length]? = some x
  | [], x, _, _, h => nomatch h
  | y :: l, x, hp, hn, hx => by
    rw [List.pairwise_cons] at hp
    rw [List.nodup_cons] at hn
    rcases List.mem_cons.mp hx with rfl | hx
    · have : (List.filter (fun y => decide (bef y x)) (x :: l)) = [] := by
        refine List.filter_eq_nil_iff.mpr fun z hz => ?_
        rw [decide_eq_true_eq]
        rcases List.mem_cons.mp hz with rfl | hz
        · unfold bef; omega
        · exact hp.1 z hz
      rw [this]
      rfl
    · have hyx : bef y x := by
        have h1 := hp.1 x hx
        have h2 : y ≠ x := fun e => hn.1 (e ▸ hx)
        unfold bef at h1 ⊢
        by_cases e1 : y.1 = x.1
        · have : y.2 ≠ x.2 := fun e2 => h2 (Prod.ext e1 e2)
          omega
        · omega
      rw [List.filter_cons_of_pos (by rw [decide_eq_true hyx]), List.length_cons, List.getElem?_cons_succ]
      exact pos_count l x hp.2 hn.2 hx
theorem sorted_rank {f : Nat → Nat} {m : Nat} {ps : List (Int × Int)} (hp : ps.Perm ((List.range m).map fun i => (-(f i : Int), (i : Int)))) (hs : ps.Pairwise (fun p q => ¬ bef q p)) {o : Nat} (ho : o < m) : ps[rnk f m o]? = some (-(f o : Int), (o : Int)) := by
  have nd : ps.Nodup := by
    refine hp.symm.nodup ?_
    refine List.pairwise_map.mpr (List.nodup_range (n := m) |>.imp fun {a b} hne e => hne ?_)
    have := (Prod.mk.inj e).2
    omega
  have hm : (-(f o : Int), (o : Int)) ∈ ps := hp.symm.mem_iff.mp (List.mem_map.mpr ⟨o, List.mem_range.mpr ho, rfl⟩)
  have := pos_count ps _ hs nd hm
  have e : (ps.filter fun y => decide (bef y (-(f o : Int), (o : Int)))).length = rnk f m o := by
    rw [(hp.filter _).length_eq, List.filter_map, List.length_map]
    unfold rnk
    congr 1
    refine List.filter_congr fun i _ => ?_
    show decide (bef (-(f i : Int), (i : Int)) (-(f o : Int), (o : Int))) = _
    congr 1
    unfold bef
    apply propext
    show (-(f i : Int) < -(f o : Int) ∨ (-(f i : Int) = -(f o : Int) ∧ (i : Int) < (o : Int))) ↔ _
    omega
  rw [e] at this
  exact this
theorem rnk_lt (f : Nat → Nat) {m o : Nat} (ho : o < m) : rnk f m o < m := by
  have h1 := List.length_filter_le (fun i => decide (f o < f i ∨ (f i = f o ∧ i < o))) (List.range m)
  rw [List.length_range] at h1
  have h2 : rnk f m o ≠ m := fun e => by
    have := List.length_filter_eq_length_iff.mp (show ((List.range m).filter fun i => decide (f o < f i ∨ (f i = f o ∧ i < o))).length = (List.range m).length by rw [List.length_range]; exact e)
    have := this o (List.mem_range.mpr ho)
    simp at this
  have : rnk f m o ≤ m := h1
  omega
theorem rnk_inj (f : Nat → Nat) {m : Nat} : ∀ i j, i < m → j < m → rnk f m i = rnk f m j → i = j := fun i j hi hj e => by
  obtain ⟨ps, hp, hs⟩ : ∃ ps : List (Int × Int), ps.Perm ((List.range m).map fun i => (-(f i : Int), (i : Int))) ∧ ps.Pairwise (fun p q => ¬ bef q p) := by
    refine ⟨((List.range m).map fun i => (-(f i : Int), (i : Int))).mergeSort (fun a b => !decide (bef b a)), List.mergeSort_perm _ _, ?_⟩
    have := List.pairwise_mergeSort (le := fun a b => !decide (bef b a)) (fun a b c h1 h2 => by
      simp only [Bool.not_eq_true', decide_eq_false_iff_not] at *
      unfold bef at *
      omega) (fun a b => by
      simp only [Bool.or_eq_true, Bool.not_eq_true', decide_eq_false_iff_not]
      unfold bef
      omega) ((List.range m).map fun i => (-(f i : Int), (i : Int)))
    refine this.imp fun {a b} h => ?_
    simpa using h
  have h1 := sorted_rank hp hs hi
  have h2 := sorted_rank hp hs hj
  rw [e, h2] at h1
  have := (Prod.mk.inj (Option.some.inj h1)).2
  omega
theorem perm_uniq : ∀ {l m : List (Int × Int)}, l.Perm m → l.Pairwise (fun p q => ¬ bef q p) → m.Pairwise (fun p q => ¬ bef q p) → l = m
  | [], m, h, _, _ => (List.Perm.eq_nil h.symm).symm
  | x :: l, [], h, _, _ => absurd h.length_eq (by simp)
  | x :: l, y :: m, h, hl, hm => by
    rw [List.pairwise_cons] at hl hm
    have e : x = y := by
      rcases List.mem_cons.mp (h.mem_iff.mp (List.mem_cons_self (a := x) (l := l))) with e | hx
      · exact e
      · rcases List.mem_cons.mp (h.symm.mem_iff.mp (List.mem_cons_self (a := y) (l := m))) with e | hy
        · exact e.symm
        · have a1 := hl.1 y hy
          have a2 := hm.1 x hx
          unfold bef at a1 a2
          exact Prod.ext (by omega) (by omega)
    subst e
    rw [perm_uniq h.cons_inv hl.2 hm.2]
/-- the pairs in order -/
def srtR (f : Nat → Nat) (m : Nat) : List (Int × Int) := ((List.range m).map fun i => (-(f i : Int), (i : Int))).mergeSort (fun a b => !decide (bef b a))
theorem srtR_ok (f : Nat → Nat) (m : Nat) : (srtR f m).Perm ((List.range m).map fun i => (-(f i : Int), (i : Int))) ∧ (srtR f m).Pairwise (fun p q => ¬ bef q p) := by
  refine ⟨List.mergeSort_perm _ _, ?_⟩
  have := List.pairwise_mergeSort (le := fun a b => !decide (bef b a)) (fun a b c h1 h2 => by
    simp only [Bool.not_eq_true', decide_eq_false_iff_not] at *
    unfold bef at *
    omega) (fun a b => by
    simp only [Bool.or_eq_true, Bool.not_eq_true', decide_eq_false_iff_not]
    unfold bef
    omega) ((List.range m).map fun i => (-(f i : Int), (i : Int)))
  refine this.imp fun {a b} h => ?_
  simpa using h
theorem srtR_len (f : Nat → Nat) (m : Nat) : (srtR f m).length = m := by rw [(srtR_ok f m).1.length_eq, List.length_map, List.length_range]
theorem srtR_rank (f : Nat → Nat) {m o : Nat} (ho : o < m) : (srtR f m)[rnk f m o]? = some (-(f o : Int), (o : Int)) := sorted_rank (srtR_ok f m).1 (srtR_ok f m).2 ho
theorem srtR_at (f : Nat → Nat) {m i : Nat} (hi : i < m) : ∃ o, o < m ∧ rnk f m o = i ∧ (srtR f m)[i]? = some (-(f o : Int), (o : Int)) := by
  have hl : i < (srtR f m).length := by rw [srtR_len]; exact hi
  have hm := (srtR_ok f m).1.mem_iff.mp (List.getElem_mem hl)
  obtain ⟨o, ho, e⟩ := List.mem_map.mp hm
  have ho := List.mem_range.mp ho
  have h1 := srtR_rank f ho
  have h2 : (srtR f m)[i]? = some (-(f o : Int), (o : Int)) := by rw [List.getElem?_eq_getElem hl, e]
  have nd : (srtR f m).Nodup := by
    refine (srtR_ok f m).1.symm.nodup ?_
    refine List.pairwise_map.mpr (List.nodup_range (n := m) |>.imp fun {a b} hne e => hne ?_)
    have := (Prod.mk.inj e).2
    omega
  exact ⟨o, ho, ix_inj' nd h1 h2, h2⟩
/-- which are raised -/
theorem raised_iff (f : Nat → Nat) {m o c : Nat} (hc : c ≤ m) (ho : o < m) : (o : Int) ∈ ((srtR f m).take c).map (·.2) ↔ rnk f m o < c := by
  constructor
  · intro h
    obtain ⟨p, hp, e⟩ := List.mem_map.mp h
    obtain ⟨i, hi⟩ := List.getElem?_of_mem hp
    have hic : i < c := by
      have := (List.getElem?_eq_some_iff.mp hi).1
      rw [List.length_take] at this
      omega
    rw [List.getElem?_take_of_lt hic] at hi
    obtain ⟨o', ho', hr, h2⟩ := srtR_at f (show i < m by omega)
    rw [h2] at hi
    have : o' = o := by
      have := Option.some.inj hi
      rw [← this] at e
      have e : (o' : Int) = (o : Int) := e
      omega
    subst this
    omega
  · intro h
    refine List.mem_map.mpr ⟨(-(f o : Int), (o : Int)), List.mem_of_getElem? (i := rnk f m o) ?_, rfl⟩
    rw [List.getElem?_take_of_lt h]
    exact srtR_rank f ho
/-- the nearest counts -/
def near (s N k : Nat) (as : List Nat) : List Nat := (List.range as.length).map fun o => flr s N k (as.getD o 0) + if rnk (fun i => rst s N k (as.getD i 0)) as.length o < opn s N as k then 1 else 0
theorem perm_sum {l m : List Nat} (h : l.Perm m) : l.sum = m.sum := by
  induction h with
  | nil => rfl
  | cons x _ ih => rw [List.sum_cons, List.sum_cons, ih]
  | swap x y l => rw [List.sum_cons, List.sum_cons, List.sum_cons, List.sum_cons]; omega
  | trans _ _ a b => rw [a, b]
theorem count_lt (g : Nat → Nat) : ∀ (m c : Nat), c ≤ m → (∀ i, i < m → g i < m) → (∀ i j, i < m → j < m → g i = g j → i = j) → smN m (fun o => if g o < c then 1 else 0) = c := fun m c hc hlt hinj => by
  have hp : ((List.range m).map g).Perm (List.range m) := by
    refine (List.perm_ext_iff_of_nodup ?_ List.nodup_range).mpr fun x => ?_
    · refine List.pairwise_map.mpr ?_
      have := List.nodup_range (n := m)
      refine this.imp_of_mem fun {a b} ha hb hne e => hne (hinj a b (List.mem_range.mp ha) (List.mem_range.mp hb) e)
    · constructor
      · intro h
        obtain ⟨i, hi, rfl⟩ := List.mem_map.mp h
        exact List.mem_range.mpr (hlt i (List.mem_range.mp hi))
      · have hnd : ((List.range m).map g).Nodup := by
          refine List.pairwise_map.mpr ?_
          have := List.nodup_range (n := m)
          exact this.imp_of_mem fun {a b} ha hb hne e => hne (hinj a b (List.mem_range.mp ha) (List.mem_range.mp hb) e)
        intro hx
        by_cases hm : x ∈ (List.range m).map g
        · exact hm
        · exfalso
          have h1 : ((List.range m).map g ++ [x]).Nodup := by
            rw [List.nodup_append]
            exact ⟨hnd, by simp, fun a ha b hb e => by rw [List.mem_singleton.mp hb] at e; exact hm (e ▸ ha)⟩
          have h2 := List.Nodup.length_le_of_subset (l₁ := (List.range m).map g ++ [x]) (l₂ := List.range m) h1 fun y hy => by
            rcases List.mem_append.mp hy with hy | hy
            · obtain ⟨i, hi, rfl⟩ := List.mem_map.mp hy
              exact List.mem_range.mpr (hlt i (List.mem_range.mp hi))
            · rw [List.mem_singleton.mp hy]; exact hx
          rw [List.length_append, List.length_map, List.length_range] at h2
          have h3 : m + 1 ≤ m := h2
          omega
  have e1 : smN m (fun o => if g o < c then 1 else 0) = (((List.range m).map g).map fun x => if x < c then 1 else 0).sum := by
    rw [smN_list, List.length_map, List.length_map, List.length_range]
    refine smN_congr fun i hi => ?_
    rw [List.getD_eq_getElem?_getD, List.getElem?_map, List.getElem?_map, List.getElem?_range hi]
    rfl
  rw [e1, perm_sum (hp.map _), smN_list, List.length_map, List.length_range]
  have e2 : smN m (fun i => ((List.range m).map fun x => if x < c then 1 else 0).getD i 0) = smN m (fun i => if i < c then 1 else 0) := smN_congr fun i hi => by
    rw [List.getD_eq_getElem?_getD, List.getElem?_map, List.getElem?_range hi]
    rfl
  rw [e2, show m = c + (m - c) by omega, smN_split, smN_zero (n := m - c) fun i _ => if_neg (by omega)]
  have : ∀ n, n ≤ c → smN n (fun i => if i < c then 1 else 0) = n := fun n => by
    induction n with
    | zero => intro _; rfl
    | succ n ih => intro h; rw [smN, ih (by omega), if_pos (by omega)]
  rw [this c (Nat.le_refl _)]
  omega
theorem near_ch {s N k : Nat} {as : List Nat} (hs : 0 < s) (h : Ch N as) : Ch (s ^ k) (near s N k as) := by
  refine ⟨?_, Nat.pow_pos hs, by unfold near; rw [List.length_map, List.length_range]; exact h.l1, by unfold near; rw [List.length_map, List.length_range]; exact h.l6⟩
  have e : (near s N k as).sum = smN as.length (fun o => flr s N k (as.getD o 0)) + smN as.length (fun o => if rnk (fun i => rst s N k (as.getD i 0)) as.length o < opn s N as k then 1 else 0) := by
    rw [← smN_add, smN_list]
    unfold near
    rw [List.length_map, List.length_range]
    refine smN_congr fun i hi => ?_
    rw [List.getD_eq_getElem?_getD, List.getElem?_map, List.getElem?_range hi]
    rfl
  rw [e, smN_getD as (flr s N k), count_lt _ _ _ (Nat.le_of_lt (opn_lt h)) (fun i hi => rnk_lt _ hi) (fun i j hi hj e => rnk_inj _ i j hi hj e)]
  exact (opn_flr h).1
end Fc

namespace Fc
/-! ## the table that best_table makes -/
/-- what is asked of chances -/
structure Okc (s N : Nat) (as : List Nat) : Prop where
  ch : Ch N as
  n5 : N ≤ 50000
  cb : cbN N as = N
  s1 : 2 ≤ s
  s2 : s ≤ 6
  sm : Sml s N
inductive BT (s N : Nat) (as : List Nat) : List Rw → Prop where
  | one {o : Nat} : o < as.length → as.getD o 0 = N → BT s N as [.fin o]
  | go {n b : Nat} : (∀ a ∈ as, a < N) → Cr s N as n b → (∀ i j, i < j → j < n → ∃ a ∈ as, rst s N i a ≠ rst s N j a) → BT s N as (bestB s N as n b)
theorem one_only {N : Nat} {as : List Nat} (h : Ch N as) {o p : Nat} (ho : o < as.length) (hp : p < as.length) (e : as.getD o 0 = N) (hne : p ≠ o) : as.getD p 0 = 0 := by
  have h1 : smN as.length (fun i => as.getD i 0) = N := by rw [← smN_list, h.sum]
  have h2 : smN as.length (fun i => (if i = o then N else 0) + if i = p then as.getD p 0 else 0) ≤ smN as.length fun i => as.getD i 0 := smN_le fun i hi => by
    by_cases e1 : i = o
    · subst e1
      rw [if_pos rfl, if_neg (fun z => hne z.symm), e]; omega
    · rw [if_neg e1]
      by_cases e2 : i = p
      · subst e2; rw [if_pos rfl]; omega
      · rw [if_neg e2]; omega
  rw [smN_add, smN_at (k := o) ho (fun i _ hi => if_neg hi), smN_at (k := p) hp (fun i _ hi => if_neg hi), if_pos rfl, if_pos rfl, h1] at h2
  omega
theorem BT.uniq {s N : Nat} {as : List Nat} (h : Ch N as) {t u : List Rw} (a : BT s N as t) (b : BT s N as u) : t = u := by
  cases a with
  | @one o ho e =>
    cases b with
    | @one p hp e2 =>
      by_cases q : p = o
      · rw [q]
      · have := one_only h ho hp e q
        have := h.pos
        omega
    | go hl _ _ => have := hl _ (getD_mem ho); omega
  | @go n b1 hl c1 d1 =>
    cases b with
    | @one p hp e2 => have := hl _ (getD_mem hp); omega
    | @go n2 b2 _ c2 d2 =>
      have en : n = n2 := by
        rcases Nat.lt_trichotomy n n2 with q | q | q
        · obtain ⟨a, ha, ne⟩ := d2 b1 n c1.lt q
          exact absurd (c1.eq a ha).symm ne
        · exact q
        · obtain ⟨a, ha, ne⟩ := d1 b2 n2 c2.lt q
          exact absurd (c2.eq a ha).symm ne
      subst en
      have eb : b1 = b2 := by
        rcases Nat.lt_trichotomy b1 b2 with q | q | q
        · obtain ⟨a, ha, ne⟩ := d1 b1 b2 q c2.lt
          exact absurd ((c1.eq a ha).symm.trans (c2.eq a ha)) ne
        · exact q
        · obtain ⟨a, ha, ne⟩ := d1 b2 b1 q c1.lt
          exact absurd ((c2.eq a ha).symm.trans (c1.eq a ha)) ne
      rw [eb]
open Classical in
noncomputable def bestT (s N : Nat) (as : List Nat) : List Rw := if h : ∃ t, BT s N as t then Classical.choose h else []
theorem bestT_of {s N : Nat} {as : List Nat} (h : Ch N as) {t : List Rw} (a : BT s N as t) : bestT s N as = t := by
  unfold bestT
  rw [dif_pos ⟨t, a⟩]
  exact BT.uniq h (Classical.choose_spec (⟨t, a⟩ : ∃ t, BT s N as t)) a
/-- there is one -/
theorem BT.ex {s N : Nat} {as : List Nat} (h : Okc s N as) : ∃ t, BT s N as t := by
  by_cases q : ∃ o, o < as.length ∧ as.getD o 0 = N
  · obtain ⟨o, ho, e⟩ := q
    exact ⟨_, .one ho e⟩
  · have hl : ∀ a ∈ as, a < N := fun a ha => by
      have := h.ch.le ha
      obtain ⟨o, ho⟩ := List.getElem?_of_mem ha
      have hol := (List.getElem?_eq_some_iff.mp ho).1
      have : a ≠ N := fun e => q ⟨o, hol, by rw [List.getD_eq_getElem?_getD, ho, ← e]; rfl⟩
      omega
    have h0 : ∃ n, n ≤ 31 ∧ ∃ b, b < n ∧ ∀ a ∈ as, rst s N n a = rst s N b a := by
      refine Classical.byContradiction fun z => ?_
      have := dist_le (n := 32) (as := as) h.ch.pos h.s1 h.s2 h.sm fun i j hij hj => Classical.byContradiction fun y => z ⟨j, by omega, i, hij, fun a ha => Classical.byContradiction fun x => y ⟨a, ha, fun e => x e.symm⟩⟩
      omega
    obtain ⟨n0, _, hn0⟩ := h0
    have least : ∀ n, (∃ b, b < n ∧ ∀ a ∈ as, rst s N n a = rst s N b a) → ∃ m b, b < m ∧ (∀ a ∈ as, rst s N m a = rst s N b a) ∧ ∀ k, k < m → ¬ ∃ b, b < k ∧ ∀ a ∈ as, rst s N k a = rst s N b a := fun n => by
      induction n using Nat.strongRecOn with
      | ind n ih =>
        intro hb
        by_cases z : ∃ k, k < n ∧ ∃ b, b < k ∧ ∀ a ∈ as, rst s N k a = rst s N b a
        · obtain ⟨k, hk, hb'⟩ := z
          exact ih k hk hb'
        · obtain ⟨b, h1, h2⟩ := hb
          exact ⟨n, b, h1, h2, fun k hk y => z ⟨k, hk, y⟩⟩
    obtain ⟨n, b, hb, he, hmin⟩ := least n0 hn0
    refine ⟨_, .go hl ⟨hb, he⟩ fun i j hij hj => Classical.byContradiction fun y => hmin j hj ⟨i, hij, fun a ha => Classical.byContradiction fun x => y ⟨a, ha, fun e => x e.symm⟩⟩⟩
theorem tb_one {s m o : Nat} (s1 : 2 ≤ s) (s2 : s ≤ 6) (ho : o < m) (hm : m ≤ 6) : Tb s m [Rw.fin o] where
  n1 := Nat.le_refl 1
  n2 := by show 1 ≤ 100; decide
  s1 := s1
  s2 := s2
  m1 := by omega
  m2 := hm
  fin := fun i p q => by
    cases i with
    | zero => cases q; exact ho
    | succ i => exact (nomatch q)
  go := fun i l q => by cases i <;> exact (nomatch q)
theorem rk_one (o : Nat) : Rk [Rw.fin o] (fun _ => 0) := fun i l q => by cases i <;> exact (nomatch q)
/-- all that is used of it -/
structure Bst (s N : Nat) (as : List Nat) (t : List Rw) (d : Nat → Nat) : Prop where
  tb : Tb s as.length t
  rk : Rk t d
  opn : ∀ k, opnT s t k = opn s N as k
  dec : ∀ k o, o < as.length → decT s t k o = flr s N k (as.getD o 0)
  X : ∀ o, o < as.length → X t.length (tabM s as.length t) o 0 = (as.getD o 0 : Rat) / (N : Rat)
theorem one_opn {s N : Nat} {as : List Nat} (h : Ch N as) {o : Nat} (ho : o < as.length) (e : as.getD o 0 = N) (k : Nat) : Fc.opn s N as k = 0 := by
  have h1 := (opn_flr (s := s) (k := k) h).1
  have h2 : smN as.length (fun i => flr s N k (as.getD i 0)) = s ^ k := by
    rw [smN_at (k := o) ho (fun i hi hne => by rw [one_only h ho hi e hne]; unfold flr; simp), e]
    unfold flr
    exact Nat.mul_div_cancel _ h.pos
  rw [smN_getD as (flr s N k)] at h2
  omega
theorem bst_of {s N : Nat} {as : List Nat} (h : Okc s N as) : ∃ d, Bst s N as (bestT s N as) d := by
  obtain ⟨t, ht⟩ := BT.ex h
  rw [bestT_of h.ch ht]
  have l6 := h.ch.l6
  cases ht with
  | @one o ho e =>
    have T := tb_one h.s1 h.s2 ho l6
    have R := rk_one o
    have c : ∀ k, cntT s [Rw.fin o] k 0 = s ^ k := fun k => by
      have := cnt_all T k
      have e2 : smN [Rw.fin o].length (cntT s [Rw.fin o] k) = 0 + cntT s [Rw.fin o] k 0 := rfl
      omega
    have dc : ∀ k p, p < as.length → decT s [Rw.fin o] k p = flr s N k (as.getD p 0) := fun k p hp => by
      show 0 + (if o = p then cntT s [Rw.fin o] k 0 else 0) = _
      rw [c]
      by_cases q : o = p
      · subst q
        rw [if_pos rfl, e]
        unfold flr
        rw [Nat.mul_div_cancel _ h.ch.pos]; omega
      · rw [if_neg q, one_only h.ch ho hp e (fun z => q z.symm)]
        unfold flr; simp
    have op : ∀ k, opnT s [Rw.fin o] k = Fc.opn s N as k := fun k => by rw [one_opn h.ch ho e]; rfl
    exact ⟨_, T, R, op, dc, fun p hp => X_of_dec T R h.ch.pos hp (fun k => dc k p hp) 0 fun k => by rw [op, one_opn h.ch ho e]; exact Nat.le_refl _⟩
  | @go n b hl C dd =>
    have sz := best_size h.ch h.s1 h.s2 h.sm dd
    have h0 : 1 ≤ (bestB s N as n b).length := by
      rw [bestB_len]
      have := (ctB (s := s) (n := n) (b := b) h.ch hl C 0).go
      have f1 := fs_mono (s := s) (N := N) (as := as) (show 0 + 1 ≤ n by have := C.lt; omega)
      have o1 : Fc.opn s N as 0 = 1 := by
        have := (opn_flr (s := s) (k := 0) h.ch).1
        rw [Nat.pow_zero] at this
        have z : (as.map (flr s N 0)).sum = 0 := by
          have := sum_le_of as (flr s N 0) (fun _ => 0) fun a ha => by unfold flr; rw [Nat.pow_zero, Nat.one_mul, Nat.div_eq_of_lt (hl a ha)]; exact Nat.le_refl _
          rw [sum_const_of] at this
          omega
        omega
      rw [fs_succ, o1] at f1
      omega
    have T := bestB_tb h.ch C h.s1 h.s2 sz h0
    have R := bestB_rk h.ch C h.s1
    exact ⟨_, T, R, best_opn h.ch hl C, fun k o ho => best_dec h.ch hl C k ho, fun o ho => X_of_dec T R h.ch.pos ho (fun k => best_dec h.ch hl C k ho) as.length fun k => by rw [best_opn h.ch hl C]; exact Nat.le_of_lt (opn_lt h.ch)⟩
/-! ### rounds -/
def rndT (s N : Nat) (as : List Nat) (r : Nat) : List Rw := if r = 0 then [.fin ((numR as).getD 0 0)] else rndR s N as r
theorem rd_ex {s N : Nat} (hs : 2 ≤ s) : ∃ r, Rd1 s N r ∧ r ≤ N := by
  have h : N ≤ s ^ N := Nat.le_of_lt (Nat.lt_pow_self (by omega))
  have least : ∀ n, N ≤ s ^ n → ∃ r, r ≤ n ∧ N ≤ s ^ r ∧ ∀ k, k < r → s ^ k < N := fun n => by
    induction n using Nat.strongRecOn with
    | ind n ih =>
      intro hb
      by_cases z : ∃ k, k < n ∧ N ≤ s ^ k
      · obtain ⟨k, hk, h2⟩ := z
        obtain ⟨r, a, b, c⟩ := ih k hk h2
        exact ⟨r, by omega, b, c⟩
      · exact ⟨n, Nat.le_refl _, hb, fun k hk => by
          have : ¬ N ≤ s ^ k := fun y => z ⟨k, hk, y⟩
          omega⟩
  obtain ⟨r, a, b, c⟩ := least N h
  exact ⟨r, ⟨b, c⟩, a⟩
structure Rnd (s N : Nat) (as : List Nat) (t : List Rw) (d : Nat → Nat) : Prop where
  tb : Tb s as.length t
  rk : Rk t d
  X : ∀ o, o < as.length → X t.length (tabM s as.length t) o 0 = (as.getD o 0 : Rat) / (N : Rat)
theorem rnd_of {s N : Nat} {as : List Nat} (h : Ch N as) (hs1 : 2 ≤ s) (hs2 : s ≤ 6) (hN : N ≤ 30) {r : Nat} (hr : Rd1 s N r) : ∃ d, Rnd s N as (rndT s N as r) d := by
  unfold rndT
  by_cases r0 : r = 0
  · subst r0
    rw [if_pos rfl]
    have n1 : N = 1 := by have := hr.le; rw [Nat.pow_zero] at this; have := h.pos; omega
    have hlen := numR_len h
    have hm : (numR as).getD 0 0 ∈ numR as := getD_mem (by omega)
    have hfo := fo_mem.mp (numR_mem hm)
    generalize (numR as).getD 0 0 = o at hm hfo
    have e : as.getD o 0 = N := by have := h.le (getD_mem hfo.1); omega
    have T := tb_one hs1 hs2 hfo.1 h.l6
    have R := rk_one o
    refine ⟨_, T, R, fun p hp => ?_⟩
    rw [X_fin T R (a := o) rfl]
    have n0 : (N : Rat) ≠ 0 := fun z => by have := Rat.natCast_eq_zero_iff.mp z; omega
    by_cases q : p = o
    · subst q
      rw [if_pos rfl, e, Rat.div_def, Rat.mul_inv_cancel _ n0]
    · rw [if_neg q, one_only h hfo.1 hp e q, Rat.div_def]
      show (0 : Rat) = ((0 : Nat) : Rat) * _
      rw [show ((0 : Nat) : Rat) = 0 from rfl, Rat.zero_mul]
  · rw [if_neg r0]
    exact ⟨_, rndR_tb hs1 hs2 h hr (by omega) hN, rndR_rk hs1 h hr (by omega), fun o ho => rndR_X hs1 hs2 h hr (by omega) hN ho⟩
end Fc

namespace Fc
open PySem PySem.Spec PyProof.Rows L2
abbrev s_is_fraction : Stmt := top 17
theorem sc_is_fraction : FnScope ["value"] ["value"] (defScope s_is_fraction) := ⟨rfl, rfl, rfl, by decide +kernel, rfl, by decide +kernel, by decide +kernel⟩
abbrev s_added : Stmt := top 22
theorem sc_added : FnScope ["values", "result", "value"] ["values"] (defScope s_added) := ⟨rfl, rfl, rfl, by decide +kernel, rfl, by decide +kernel, by decide +kernel⟩
abbrev s_common_bottom : Stmt := top 24
theorem sc_common_bottom : FnScope ["values", "result", "top", "bottom"] ["values"] (defScope s_common_bottom) := ⟨rfl, rfl, rfl, by decide +kernel, rfl, by decide +kernel, by decide +kernel⟩
abbrev s_is_chances : Stmt := top 32
theorem sc_is_chances : FnScope ["value", "chance"] ["value"] (defScope s_is_chances) := ⟨rfl, rfl, rfl, by decide +kernel, rfl, by decide +kernel, by decide +kernel⟩
abbrev s_check_chances : Stmt := top 33
theorem sc_check_chances : FnScope ["value"] ["value"] (defScope s_check_chances) := ⟨rfl, rfl, rfl, by decide +kernel, rfl, by decide +kernel, by decide +kernel⟩
abbrev s_check_throws : Stmt := top 35
theorem sc_check_throws : FnScope ["value", "most"] ["value", "most"] (defScope s_check_throws) := ⟨rfl, rfl, rfl, by decide +kernel, rfl, by decide +kernel, by decide +kernel⟩
abbrev s_floors : Stmt := top 36
theorem sc_floors : FnScope ["chances", "sides", "throws", "scale", "top", "bottom"] ["chances", "sides", "throws"] (defScope s_floors) := ⟨rfl, rfl, rfl, by decide +kernel, rfl, by decide +kernel, by decide +kernel⟩
abbrev s_open_at_least : Stmt := top 37
theorem sc_open_at_least : FnScope ["chances", "sides", "throws"] ["chances", "sides", "throws"] (defScope s_open_at_least) := ⟨rfl, rfl, rfl, by decide +kernel, rfl, by decide +kernel, by decide +kernel⟩
abbrev s_digits_at : Stmt := top 38
theorem sc_digits_at : FnScope ["chances", "sides", "place", "later", "own", "before"] ["chances", "sides", "place"] (defScope s_digits_at) := ⟨rfl, rfl, rfl, by decide +kernel, rfl, by decide +kernel, by decide +kernel⟩
abbrev s_rests : Stmt := top 39
theorem sc_rests : FnScope ["chances", "sides", "throws", "bottom", "scale", "top", "own"] ["chances", "sides", "throws"] (defScope s_rests) := ⟨rfl, rfl, rfl, by decide +kernel, rfl, by decide +kernel, by decide +kernel⟩
abbrev s_course : Stmt := top 40
theorem sc_course : FnScope ["chances", "sides", "seen", "own"] ["chances", "sides"] (defScope s_course) := ⟨rfl, rfl, rfl, by decide +kernel, rfl, by decide +kernel, by decide +kernel⟩
abbrev s_nearest_by : Stmt := top 41
theorem sc_nearest_by : FnScope ["chances", "sides", "throws", "scale", "counts", "missing", "bottom", "ranks", "raised", "chance", "outcome", "lack", "top", "own", "count"] ["chances", "sides", "throws"] (defScope s_nearest_by) := ⟨rfl, rfl, rfl, by decide +kernel, rfl, by decide +kernel, by decide +kernel⟩

/-- more of the module's constants -/
structure Cs2 (mg : Str → Option Value) : Prop where
  mb : ∃ u, mg "MOST_BOTTOM" = some u ∧ RelV (.int 30) u
  mt : ∃ u, mg "MOST_THROWS" = some u ∧ RelV (.int 60) u
def cf (N a : Nat) : D := fr (mkRat (a : Int) N)
def chL (N : Nat) (as : List Nat) : List D := as.map (cf N)
theorem cf_eq {N a : Nat} (h : 0 < N) : cf N a = .tup [.int ((a / Nat.gcd a N : Nat) : Int), .int ((N / Nat.gcd a N : Nat) : Int)] := by
  unfold cf fr
  rw [mk_num h, mk_den h]
theorem chL_map {N : Nat} {as : List Nat} {v : D → D} {f : Nat → Nat} (h : ∀ a ∈ as, v (cf N a) = .int (f a : Int)) : (chL N as).map v = nD (as.map f) := by
  unfold chL nD
  rw [List.map_map, List.map_map]
  exact List.map_congr_left h
theorem chL_mem {N : Nat} {as : List Nat} {d : D} (h : d ∈ chL N as) : ∃ a ∈ as, d = cf N a := by
  obtain ⟨a, ha, rfl⟩ := List.mem_map.mp h
  exact ⟨a, ha, rfl⟩
theorem chL_of {N : Nat} {as : List Nat} {i : Nat} {d : D} (h : (chL N as)[i]? = some d) : ∃ a, as[i]? = some a ∧ d = cf N a := by
  unfold chL at h
  rw [List.getElem?_map] at h
  cases e : as[i]? with
  | none => rw [e] at h; cases h
  | some a => rw [e] at h; exact ⟨a, rfl, (Option.some.inj h).symm⟩
theorem chL_len {N : Nat} {as : List Nat} : (chL N as).length = as.length := by unfold chL; rw [List.length_map]
theorem pw_cast (s k : Nat) : ((s : Int) ^ k) = ((s ^ k : Nat) : Int) := (Int.natCast_pow s k).symm
theorem pw_sz {s : Nat} (hs : s ≤ 6) (k : Nat) : s ^ k < 2 ^ (60 * k + 1) := by
  have := pow_small (b := (s : Int)) (by show (s : Int).natAbs < 2 ^ 60; rw [Int.natAbs_natCast]; exact Nat.lt_of_le_of_lt hs (by decide)) k
  rw [pw_cast, Int.natAbs_natCast] at this
  exact this
theorem gq_le {N a : Nat} (h : 0 < N) (hN : N ≤ 50000) (ha : a ≤ N) : a / Nat.gcd a N ≤ 50000 ∧ 1 ≤ N / Nat.gcd a N ∧ N / Nat.gcd a N ≤ 50000 ∧ 1 ≤ Nat.gcd a N ∧ Nat.gcd a N ≤ 50000 := by
  have g0 : 0 < Nat.gcd a N := Nat.gcd_pos_of_pos_right _ h
  have g1 : Nat.gcd a N ≤ N := Nat.gcd_le_right _ h
  refine ⟨Nat.le_trans (Nat.div_le_self _ _) (by omega), Nat.div_pos g1 g0, Nat.le_trans (Nat.div_le_self _ _) hN, g0, by omega⟩
def S_isfrac : FS := fun _ ds R => ∃ r : Rat, ds = [fr r] ∧ R = Val (.bl true)
def S_added : FS := fun _ ds R => ∃ rs : List Rat, ds = [.tup (rs.map fr)] ∧ rs.length ≤ 1000 ∧ (∀ i, i ≤ rs.length → Sm (sm i fun i => rs.getD i 0)) ∧ (∀ r ∈ rs, Sm r) ∧ R = Val (fr (sm rs.length fun i => rs.getD i 0))
def S_cb : FS := fun _ ds R => ∃ (N : Nat) (as : List Nat), ds = [.tup (chL N as)] ∧ Ch N as ∧ N ≤ 50000 ∧ R = Val (.int (cbN N as : Int))
def S_isch : FS := fun _ ds R => ∃ (N : Nat) (as : List Nat), ds = [.tup (chL N as)] ∧ Ch N as ∧ N ≤ 50000 ∧ cbN N as ≤ 30 ∧ R = Val (.bl true)
def S_kch : FS := fun _ ds R => ∃ (N : Nat) (as : List Nat), ds = [.tup (chL N as)] ∧ Ch N as ∧ N ≤ 50000 ∧ cbN N as ≤ 30 ∧ R = Val .non
def S_kth : FS := fun _ ds R => ∃ (v m : Nat), ds = [.int (v : Int), .int (m : Int)] ∧ v ≤ m ∧ R = Val .non
/-- arguments of most of these -/
structure Arg (N : Nat) (as : List Nat) (s k : Nat) : Prop where
  ch : Ch N as
  n5 : N ≤ 50000
  s1 : 2 ≤ s
  s2 : s ≤ 6
  k2 : k ≤ 100
def S_floors : FS := fun _ ds R => ∃ (N : Nat) (as : List Nat) (s k : Nat), ds = [.tup (chL N as), .int (s : Int), .int (k : Int)] ∧ Arg N as s k ∧ R = New1 (.lst (nD (as.map (flr s N k))))
def S_oal : FS := fun _ ds R => ∃ (N : Nat) (as : List Nat) (s k : Nat), ds = [.tup (chL N as), .int (s : Int), .int (k : Int)] ∧ Arg N as s k ∧ R = Val (.int (opn s N as k : Int))
def dgt (s N : Nat) : Nat → Nat → Nat
  | 0, a => flr s N 0 a
  | k + 1, a => dig s N k a
def S_digs : FS := fun _ ds R => ∃ (N : Nat) (as : List Nat) (s k : Nat), ds = [.tup (chL N as), .int (s : Int), .int (k : Int)] ∧ Arg N as s k ∧ R = Val (.tup (nD (as.map (dgt s N k))))
def S_rests : FS := fun _ ds R => ∃ (N : Nat) (as : List Nat) (s k : Nat), ds = [.tup (chL N as), .int (s : Int), .int (k : Int)] ∧ Arg N as s k ∧ cbN N as = N ∧ R = Val (.tup (nD (as.map (rst s N k))))
def snL (s N : Nat) (as : List Nat) (n : Nat) : List D := (List.range n).map fun k => .tup (nD (as.map (rst s N k)))
def S_course : FS := fun _ ds R => ∃ (N : Nat) (as : List Nat) (s : Nat), ds = [.tup (chL N as), .int (s : Int)] ∧ Arg N as s 0 ∧ cbN N as = N ∧ Sml s N ∧ R = fun d N' => ∃ l n b, d = .tup [.ref l, .int (b : Int)] ∧ N' = [(l, .lst (snL s N as n))] ∧ Cr s N as n b ∧ (∀ i j, i < j → j < n → ∃ a ∈ as, rst s N i a ≠ rst s N j a)
def S_near : FS := fun _ ds R => ∃ (N : Nat) (as : List Nat) (s k : Nat), ds = [.tup (chL N as), .int (s : Int), .int (k : Int)] ∧ Arg N as s k ∧ k ≤ 6 ∧ cbN N as = N ∧ R = Val (.tupN (chL (s ^ k) (near s N k as)))
theorem nD_inj : ∀ {l m : List Nat}, nD l = nD m → l = m
  | [], [], _ => rfl
  | [], _ :: _, h => by cases h
  | _ :: _, [], h => by cases h
  | x :: l, y :: m, h => by
    have h1 := (List.cons.inj h).1
    have h2 := nD_inj (List.cons.inj h).2
    have : x = y := by have := D.int.inj h1; omega
    rw [this, h2]
theorem map_ne {as : List Nat} {f g : Nat → Nat} (h : as.map f ≠ as.map g) : ∃ a ∈ as, f a ≠ g a := by
  by_cases e : ∀ a ∈ as, f a = g a
  · exact absurd (List.map_congr_left e) h
  · simp only [Classical.not_forall] at e
    obtain ⟨a, ha, e⟩ := e
    exact ⟨a, ha, e⟩
theorem pok_nD (l : List Nat) : pok 1 (.tup (nD l)) = true := pok_tup fun d hd => by
  obtain ⟨x, _, rfl⟩ := List.mem_map.mp hd
  rfl
theorem sm_mk {N : Nat} (h : 0 < N) (as : List Nat) : ∀ i, i ≤ as.length → (sm i fun i => (as.map fun a => mkRat ((a : Nat) : Int) N).getD i 0) = mkRat ((smN i fun i => as.getD i 0 : Nat) : Int) N
  | 0, _ => by rw [mk_div]; show (0 : Rat) = ((0 : Nat) : Rat) / _; rw [show ((0 : Nat) : Rat) = 0 from rfl, Rat.div_def, Rat.zero_mul]
  | i + 1, hi => by
    have e1 : (as.map fun a => mkRat ((a : Nat) : Int) N).getD i 0 = mkRat ((as.getD i 0 : Nat) : Int) N := by
      rw [List.getD_eq_getElem?_getD, List.getD_eq_getElem?_getD, List.getElem?_map, List.getElem?_eq_getElem (by omega)]
      rfl
    rw [sm, sm_mk h as i (by omega), e1, smN, mk_div, mk_div, mk_div, Rat.natCast_add, Rat.div_def, Rat.div_def, Rat.div_def, Rat.add_mul]
theorem mk_sm {N a : Nat} (h : 0 < N) (hN : N ≤ 50000) (ha : a ≤ 10 ^ 9) : Sm (mkRat (a : Int) N) := by
  have g1 : a / Nat.gcd a N ≤ 10 ^ 9 := Nat.le_trans (Nat.div_le_self _ _) ha
  have g2 : N / Nat.gcd a N ≤ 50000 := Nat.le_trans (Nat.div_le_self _ _) hN
  have p1 : (10 : Nat) ^ 9 < 2 ^ 4400 := Nat.lt_of_lt_of_le (show (10 : Nat) ^ 9 < 2 ^ 30 by decide) (Nat.pow_le_pow_right (by decide) (by decide))
  refine ⟨?_, ?_⟩
  · rw [mk_num h, Int.natAbs_natCast]
    omega
  · rw [mk_den h]
    exact Nat.lt_of_le_of_lt g2 (Nat.lt_trans (by decide) p1)
section
variable {P : Program} {w : World} {K : PySem.W.Frag} {mg : Str → Option Value} {base : Heap}
theorem ok_is_fraction (B : Bl mg) (F : FunG K mg "is_fraction" s_is_fraction) (hI : Pf P w K mg base "is_integer" 1 S_isint) (hG : Pf P w K mg base "greatest_divisor" 1 S_gcd) : Pf P w K mg base "is_fraction" 2 S_isfrac := by
  refine pf_mk F sc_is_fraction (fun _ _ _ _ _ _ us hl => match us, hl with | [_], _ => rfl) (fun Z ds R h => by obtain ⟨r, rfl, _⟩ := h; rfl) (fun f cdv A outer s H E hr => ⟨_, (pss_cons (ps_if (PW.pt (pw_or (pt_not (pt_val (pe_isi (K := K) rfl rfl B rfl (pa_cons (pv 0) (pa_cons (pe_tyT rfl B rfl) pa_nil))))) (pw_or1 (pt_cmpR op_ne (pe_len (K := K) rfl rfl B rfl (pa_cons (pv 0) pa_nil)) pe_int (nomark _))))) (pss_cons (ps_ret pe_bl) pss_nil) pss_nil) (pss_cons (ps_if (PW.pt (pw_or (pt_not (pt_val (pe_pf hI hr (by decide) rfl (pa_cons (pe_ixT (K := K) rfl (pv 0) pe_int (fun _ _ => rfl)) pa_nil)))) (pw_or (pt_not (pt_val (pe_pf hI hr (by decide) rfl (pa_cons (pe_ixT (K := K) rfl (pv 0) pe_int (fun _ _ => rfl)) pa_nil)))) (pw_or1 (pt_cmpR op_lt (pe_ixT (K := K) rfl (pv 0) pe_int (fun _ _ => rfl)) pe_int (nomark _)))))) (pss_cons (ps_ret pe_bl) pss_nil) pss_nil) (pss_cons (ps_ret (pe_cmpR op_eq (pe_pf hG hr (by decide) rfl (pa_cons (pe_ixT (K := K) rfl (pv 0) pe_int (fun _ _ => rfl)) (pa_cons (pe_ixT (K := K) rfl (pv 0) pe_int (fun _ _ => rfl)) pa_nil))) pe_int (nomark _))) pss_nil))), fun Z ds R H0 hz hS => ?_⟩)
  obtain ⟨r, rfl, rfl⟩ := hS
  have d0 : 1 ≤ r.den := Nat.pos_of_ne_zero r.den_nz
  refine gq_ifL (b := false) (et_or (b := false) (c := false) (et_not (tt := tB _) (et_B (b := true) (ev_isTupB (ev_var rfl) rfl rfl))) (fun _ => EvT.cast (et_test (ev_op (ev_cb (ea_cons (ev_var rfl) ea_nil) rc_lenT) ev_int rv_neI)) rfl)) (fun h => by cases h) (fun _ => ?_)
  refine gq_ifL (b := false) (et_or (b := false) (c := false) (et_not (tt := tB _) (et_B (b := true) (ev_call (ea_cons (ev_op (ev_var rfl) ev_int (rv_ixT (z := .int r.num) rfl)) ea_nil) ⟨.int r.num, rfl, rfl, rfl⟩))) (fun _ => et_or (b := false) (c := false) (et_not (tt := tB _) (et_B (b := true) (ev_call (ea_cons (ev_op (ev_var rfl) ev_int (rv_ixT (z := .int (r.den : Int)) rfl)) ea_nil) ⟨.int (r.den : Int), rfl, rfl, rfl⟩))) (fun _ => EvT.cast (et_test (ev_op (ev_op (ev_var rfl) ev_int (rv_ixT (z := .int (r.den : Int)) rfl)) ev_int rv_lt)) (decide_eq_false (by omega))))) (fun h => by cases h) (fun _ => ?_)
  refine gq_retP (EvP.cast (ev_op (ev_call (ea_cons (ev_op (ev_var rfl) ev_int (rv_ixT (z := .int r.num) rfl)) (ea_cons (ev_op (ev_var rfl) ev_int (rv_ixT (z := .int (r.den : Int)) rfl)) ea_nil)) ⟨r.num, (r.den : Int), rfl, rfl⟩) ev_int rv_eqI) ?_) rfl
  have e : Int.gcd r.num (r.den : Int) = 1 := r.reduced
  rw [e]
  rfl
theorem ok_added (B : Bl mg) (F : FunG K mg "added" s_added) (C : Cs K mg) (hP : Pf P w K mg base "plus" 3 S_plus) : Pf P w K mg base "added" 4 S_added := by
  obtain ⟨za, hzm, hz0⟩ := C.zero
  refine pf_mk F sc_added (fun _ _ _ _ _ _ us hl => match us, hl with | [_], _ => rfl) (fun Z ds R h => by obtain ⟨rs, rfl, _⟩ := h; rfl) (fun f cdv A outer s H E hr => ⟨_, (pss_cons (ps_set (i := 1) sc_added.nd rfl (.inl rfl) (pe_cref hzm rfl)) (pss_cons (ps_for PassesOwn.never rfl (pi_tupK (K := K) rfl (pv 0)) (pg_name (i := 2) sc_added.nd rfl (.inl rfl)) (pss_cons (ps_set (i := 1) sc_added.nd rfl (.inl rfl) (pe_pf hP hr (by decide) rfl (pa_cons (pv 1) (pa_cons (pv 2) pa_nil)))) pss_nil)) (pss_cons (ps_ret (pv 1)) pss_nil))), fun Z ds R H0 hz hS => ?_⟩)
  obtain ⟨rs, rfl, hl, hsm, hr', rfl⟩ := hS
  refine gq_set (d := fr 0) (ev_k hz0) ?_
  refine gq_for0 (ei_tup (ev_var rfl)) (fun i G L => ∃ v2, G = [some (.tup (rs.map fr)), some (fr (sm i fun i => rs.getD i 0)), v2] ∧ L = []) ⟨none, rfl, rfl⟩ (fun _ _ _ _ => trivial) (fun i d G L hd hI => ?_) (fun G L hI => ?_)
  · obtain ⟨v2, rfl, rfl⟩ := hI
    rw [List.getElem?_map] at hd
    cases e : rs[i]? with
    | none => rw [e] at hd; cases hd
    | some r =>
      rw [e] at hd
      cases hd
      have hi := (List.getElem?_eq_some_iff.mp e).1
      refine ⟨_, eg_name, go_last (gq_set (ev_call (ea_cons (ev_var rfl) (ea_cons (ev_var rfl) ea_nil)) ⟨_, r, rfl, hsm i (by omega), hr' r (List.mem_of_getElem? e), rfl⟩) (go_next ⟨some (fr r), ?_, rfl⟩))⟩
      have : rs.getD i 0 = r := by rw [List.getD_eq_getElem?_getD, e]; rfl
      rw [sm, this]
      rfl
  · obtain ⟨v2, rfl, rfl⟩ := hI
    rw [List.length_map]
    exact gq_retP (ev_var rfl) rfl
theorem ok_common_bottom (B : Bl mg) (F : FunG K mg "common_bottom" s_common_bottom) (hG : Pf P w K mg base "greatest_divisor" 1 S_gcd) : Pf P w K mg base "common_bottom" 2 S_cb := by
  refine pf_mk F sc_common_bottom (fun _ _ _ _ _ _ us hl => match us, hl with | [_], _ => rfl) (fun Z ds R h => by obtain ⟨N, as, rfl, _⟩ := h; rfl) (fun f cdv A outer s H E hr => ⟨_, (pss_cons (ps_set (i := 1) sc_common_bottom.nd rfl (.inl rfl) pe_int) (pss_cons (ps_for PassesOwn.never rfl (pi_tupK (K := K) rfl (pv 0)) (pg_tupK (K := K) rfl rfl (pgs_cons (pg_name (i := 2) sc_common_bottom.nd rfl (.inl rfl)) (pgs_cons (pg_name (i := 3) sc_common_bottom.nd rfl (.inl rfl)) pgs_nil))) (pss_cons (ps_set (i := 1) sc_common_bottom.nd rfl (.inl rfl) (pe_op op_fdivW (pe_op op_mulW (pv 1) (pv 3)) (pe_pf hG hr (by decide) rfl (pa_cons (pv 1) (pa_cons (pv 3) pa_nil))))) pss_nil)) (pss_cons (ps_ret (pv 1)) pss_nil))), fun Z ds R H0 hz hS => ?_⟩)
  obtain ⟨N, as, rfl, hc, hN, rfl⟩ := hS
  have n0 := hc.pos
  refine gq_set ev_int ?_
  refine gq_for0 (ei_tup (ev_var rfl)) (fun i G L => ∃ v2 v3, G = [some (.tup (chL N as)), some (.int ((cbN N (as.take i) : Nat) : Int)), v2, v3] ∧ L = []) ⟨none, none, rfl, rfl⟩ (fun _ _ _ _ => trivial) (fun i d G L hd hI => ?_) (fun G L hI => ?_)
  · obtain ⟨v2, v3, rfl, rfl⟩ := hI
    obtain ⟨a, ha, rfl⟩ := chL_of hd
    have hle := hc.le (List.mem_of_getElem? ha)
    obtain ⟨g1, g2, g3, _⟩ := gq_le n0 hN hle
    have c1 := cbN_dvd (sh := as.take i) n0
    have c0 := cbN_pos (sh := as.take i) n0
    have c2 := Nat.le_of_dvd n0 c1
    have e1 : cbN N (as.take (i + 1)) = Nat.lcm (cbN N (as.take i)) (N / Nat.gcd a N) := by
      unfold cbN
      rw [List.take_succ, ha]
      show ((as.take i ++ [a]).foldl _ 1) = _
      rw [List.foldl_append]
      rfl
    generalize cbN N (as.take i) = r at *
    rw [cf_eq n0]
    generalize N / Nat.gcd a N = q at *
    generalize a / Nat.gcd a N = p at *
    have gp : 0 < Nat.gcd r q := Nat.gcd_pos_of_pos_left _ c0
    have gl : Nat.gcd r q ≤ r := Nat.gcd_le_left _ c0
    refine ⟨_, eg_two, go_last (gq_set (d := .int ((Nat.lcm r q : Nat) : Int)) (EvP.cast (ev_op (ev_op (ev_var rfl) (ev_var rfl) (rv_mulW (wide_mul (a := 60) (b := 60) (by omega) (by omega) (by decide) (by decide) (by decide)))) (ev_call (ea_cons (ev_var rfl) (ea_cons (ev_var rfl) ea_nil)) ⟨(r : Int), (q : Int), rfl, rfl⟩) (rv_fdivW (wide_div (b := 60) (by rw [Int.gcd_natCast_natCast]; omega) (by rw [Int.gcd_natCast_natCast]; omega) (by decide) (by decide)))) ?_) (go_next ⟨_, _, by rw [e1]; rfl, rfl⟩))⟩
    rw [Int.gcd_natCast_natCast, ← Int.natCast_mul, ← Int.natCast_ediv]
    rfl
  · obtain ⟨v2, v3, rfl, rfl⟩ := hI
    rw [chL_len, List.take_length]
    exact gq_retP (ev_var rfl) rfl
theorem ok_is_chances (B : Bl mg) (F : FunG K mg "is_chances" s_is_chances) (C : Cs K mg) (C2 : Cs2 mg) (hIf : Pf P w K mg base "is_fraction" 2 S_isfrac) (hAd : Pf P w K mg base "added" 4 S_added) (hCb : Pf P w K mg base "common_bottom" 2 S_cb) : Pf P w K mg base "is_chances" 5 S_isch := by
  obtain ⟨oa, hom, ho1⟩ := C.one
  refine pf_mk F sc_is_chances (fun _ _ _ _ _ _ us hl => match us, hl with | [_], _ => rfl) (fun Z ds R h => by obtain ⟨N, as, rfl, _⟩ := h; rfl) (fun f cdv A outer s H E hr => ⟨_, (pss_cons (ps_if (PW.pt (pw_or (pt_not (pt_val (pe_isi (K := K) rfl rfl B rfl (pa_cons (pv 0) (pa_cons (pe_tyT rfl B rfl) pa_nil))))) (pw_or1 (pt_not (pt_chain op_le op_le pe_int (pe_len (K := K) rfl rfl B rfl (pa_cons (pv 0) pa_nil)) (pe_cst C.mo rfl)))))) (pss_cons (ps_ret pe_bl) pss_nil) pss_nil) (pss_cons (ps_if (pt_not (pt_val (pe_all (K := K) rfl rfl B rfl rfl (pa_cons (pe_lc (own := [("chance", 1)]) (g := gName 1) rfl sc_is_chances.nd (pi_tupK (K := K) rfl (pv 0)) (blkOk_by (own := [("chance", 1)]) (N := ["value", "chance"]) (sc := defScope (s_is_chances)) (by decide +kernel)) (fun _ _ _ _ _ => (pg_name (i := 1) sc_is_chances.nd rfl (.inl rfl))) (fun _ _ _ _ _ => pts_nil) (fun _ _ _ _ _ => (pe_and (pe_pf hIf hr (by decide) rfl (pa_cons (pv 1) pa_nil)) (pe_one (pe_cmpR op_ge (pe_ixT (K := K) rfl (pv 1) pe_int (fun _ _ => rfl)) pe_int (nomark _)))))) pa_nil)))) (pss_cons (ps_ret pe_bl) pss_nil) pss_nil) (pss_cons (ps_ret (pe_and (pe_cmpR (op_eqK (K := K) rfl hr.units) (pe_pf hAd hr (by decide) rfl (pa_cons (pv 0) pa_nil)) (pe_cref hom rfl) (nomark _)) (pe_one (pe_cmpR op_le (pe_pf hCb hr (by decide) rfl (pa_cons (pv 0) pa_nil)) (pe_cst C2.mb rfl) (nomark _))))) pss_nil))), fun Z ds R H0 hz hS => ?_⟩)
  obtain ⟨N, as, rfl, hc, hN, hcb, rfl⟩ := hS
  have n0 := hc.pos
  have l1 := hc.l1
  have l6 := hc.l6
  refine gq_ifL (b := false) (et_or (b := false) (c := false) (et_not (tt := tB _) (et_B (b := true) (ev_isTupB (ev_var rfl) rfl rfl))) (fun _ => et_not (b := true) (EvT.cast (et_test (ev_chain ev_int (ev_cb (ea_cons (ev_var rfl) ea_nil) rc_lenT) rv_le (fun _ => ev_k fun _ => .int 6) (fun _ => rv_le))) ?_))) (fun h => by cases h) (fun _ => ?_)
  · rw [chL_len, decide_eq_true (by omega), decide_eq_true (by omega)]; rfl
  refine gq_ifL (b := false) (et_not (tt := tB _) (et_B (b := true) (EvP.cast (ev_allN (f := fun _ => true) (v := fun _ => .bl true) (en_lcY (v := fun _ => .bl true) (ei_tup (ev_var rfl)) (fun _ => trivial) (fun d hd => ?_) (by rw [chL_len]; omega)) (fun _ _ => rfl)) ?_))) (fun h => by cases h) (fun _ => ?_)
  · obtain ⟨a, ha, rfl⟩ := chL_mem hd
    refine ev_andV (b := true) (c := true) (ev_call (ea_cons (ev_var rfl) ea_nil) ⟨mkRat (a : Int) N, rfl, rfl⟩) (fun _ => EvP.cast (ev_op (ev_op (ev_var (d := .tup [.int ((a / Nat.gcd a N : Nat) : Int), .int ((N / Nat.gcd a N : Nat) : Int)]) (by rw [← cf_eq n0]; rfl)) ev_int (rv_ixT (z := .int ((a / Nat.gcd a N : Nat) : Int)) rfl)) ev_int rv_ge) ?_)
    rw [decide_eq_true (Int.natCast_nonneg _)]
  · congr 1
    exact List.all_eq_true.mpr fun _ _ => rfl
  have e1 : ∀ i, i ≤ as.length → (smN i fun i => as.getD i 0) ≤ 10 ^ 9 := fun i hi => by
    have h1 := smN_mono (fun i => as.getD i 0) hi
    rw [← smN_list, hc.sum] at h1
    omega
  have e2 : (smN as.length fun i => as.getD i 0) = N := by rw [← smN_list, hc.sum]
  have ad : (sm (as.map fun a => mkRat ((a : Nat) : Int) N).length fun i => (as.map fun a => mkRat ((a : Nat) : Int) N).getD i 0) = 1 := by
    rw [List.length_map, sm_mk n0 as as.length (Nat.le_refl _), e2, mk_div, Rat.div_def, Rat.mul_inv_cancel _ (fun z => by have := Rat.natCast_eq_zero_iff.mp z; omega)]
  refine gq_retP (EvP.cast (ev_andV (b := true) (c := true) (ev_op (ev_call (ea_cons (ev_var rfl) ea_nil) ⟨as.map fun a => mkRat ((a : Nat) : Int) N, ?_, by rw [List.length_map]; omega, fun i hi => ?_, fun r hr => ?_, rfl⟩) (ev_k ho1) (rv_eqD (n := 1) (m := 1) rfl rfl (by decide) (by decide) ⟨fun _ => by rw [ad], fun _ => rfl⟩)) (fun _ => EvP.cast (ev_op (ev_call (ea_cons (ev_var rfl) ea_nil) ⟨N, as, rfl, hc, hN, rfl⟩) ev_int rv_le) (by rw [decide_eq_true (by omega)]))) rfl) rfl
  · rw [List.map_map]; rfl
  · rw [List.length_map] at hi
    rw [sm_mk n0 as i hi]
    exact mk_sm n0 hN (e1 i hi)
  · obtain ⟨a, ha, rfl⟩ := List.mem_map.mp hr
    exact mk_sm n0 hN (by have := hc.le ha; omega)
theorem ok_check_chances (B : Bl mg) (F : FunG K mg "check_chances" s_check_chances) (hIc : Pf P w K mg base "is_chances" 5 S_isch) : Pf P w K mg base "check_chances" 6 S_kch := by
  refine pf_mk F sc_check_chances (fun _ _ _ _ _ _ us hl => match us, hl with | [_], _ => rfl) (fun Z ds R h => by obtain ⟨N, as, rfl, _⟩ := h; rfl) (fun f cdv A outer s H E hr => ⟨_, (pss_cons (ps_if (pt_not (pt_val (pe_pf hIc hr (by decide) rfl (pa_cons (pv 0) pa_nil)))) pss_never pss_nil) pss_nil), fun Z ds R H0 hz hS => ?_⟩)
  obtain ⟨N, as, rfl, hc, hN, hcb, rfl⟩ := hS
  exact gq_ifL (b := false) (et_not (tt := tB _) (et_B (b := true) (ev_call (ea_cons (ev_var rfl) ea_nil) ⟨N, as, rfl, hc, hN, hcb, rfl⟩))) (fun h => by cases h) (fun _ => go_next rfl)
theorem ok_check_throws (B : Bl mg) (F : FunG K mg "check_throws" s_check_throws) (hB : Pf P w K mg base "is_between" 2 S_between) : Pf P w K mg base "check_throws" 3 S_kth := by
  refine pf_mk F sc_check_throws (fun _ _ _ _ _ _ us hl => match us, hl with | [_, _], _ => rfl) (fun Z ds R h => by obtain ⟨v, m, rfl, _⟩ := h; rfl) (fun f cdv A outer s H E hr => ⟨_, (pss_cons (ps_if (pt_not (pt_val (pe_pf hB hr (by decide) rfl (pa_cons (pv 0) (pa_cons pe_int (pa_cons (pv 1) pa_nil)))))) pss_never pss_nil) pss_nil), fun Z ds R H0 hz hS => ?_⟩)
  obtain ⟨v, m, rfl, hv, rfl⟩ := hS
  refine gq_ifL (b := false) (et_not (tt := tB _) (et_B (b := true) (EvP.cast (ev_call (ea_cons (ev_var rfl) (ea_cons ev_int (ea_cons (ev_var rfl) ea_nil))) ⟨(v : Int), 0, (m : Int), rfl, rfl⟩) ?_))) (fun h => by cases h) (fun _ => go_next rfl)
  rw [decide_eq_true ⟨by omega, by omega⟩]
theorem ok_floors (B : Bl mg) (F : FunG K mg "floors" s_floors) (hPw : Pf P w K mg base "power" 1 S_power) : Pf P w K mg base "floors" 2 S_floors := by
  refine pf_mk F sc_floors (fun _ _ _ _ _ _ us hl => match us, hl with | [_, _, _], _ => rfl) (fun Z ds R h => by obtain ⟨N, as, s, k, rfl, _⟩ := h; rfl) (fun f cdv A outer s H E hr => ⟨_, (pss_cons (ps_set (i := 3) sc_floors.nd rfl (.inr rfl) (pe_pf hPw hr (by decide) rfl (pa_cons (pv 1) (pa_cons (pv 2) pa_nil)))) (pss_cons (ps_ret (pe_lc (own := [("top", 4), ("bottom", 5)]) (g := gTup K 2 (gCons (gName 4) (gCons (gName 5) gNil))) rfl sc_floors.nd (pi_tupK (K := K) rfl (pv 0)) (blkOk_by (own := [("top", 4), ("bottom", 5)]) (N := ["chances", "sides", "throws", "scale", "top", "bottom"]) (sc := defScope (s_floors)) (by decide +kernel)) (fun _ _ _ _ _ => (pg_tupK (K := K) rfl rfl (pgs_cons (pg_name (i := 4) sc_floors.nd rfl (.inl rfl)) (pgs_cons (pg_name (i := 5) sc_floors.nd rfl (.inl rfl)) pgs_nil)))) (fun _ _ _ _ _ => pts_nil) (fun _ _ _ _ _ => (pe_op op_fdivW (pe_op op_mulW (pv 3) (pv 4)) (pv 5))))) pss_nil)), fun Z ds R H0 hz hS => ?_⟩)
  obtain ⟨N, as, s, k, rfl, A, rfl⟩ := hS
  have n0 := A.ch.pos
  have s2 := A.s2
  have k2 := A.k2
  have hp := pw_sz s2 k
  refine gq_set (d := .int ((s ^ k : Nat) : Int)) (EvP.cast (ev_call (ea_cons (ev_var rfl) (ea_cons (ev_var rfl) ea_nil)) ⟨(s : Int), k, rfl, by omega, by omega, rfl⟩) (by rw [pw_cast])) ?_
  refine go_last (gq_ret (EvN.imp (en_lc2Y (v := fun d => match d with | .tup [.int x, .int y] => .int (((s ^ k : Nat) : Int) * x / y) | _ => .non) (by decide) (ei_tup (ev_var rfl)) (fun _ => trivial) (fun d hd => ?_) (by rw [chL_len]; have := A.ch.l6; omega)) (P' := New1 (.lst (nD (as.map (flr s N k))))) fun d N' h => ?_) (fun d N' h => ⟨N', by rw [List.append_nil]; exact List.Sublist.refl _, h⟩))
  · obtain ⟨a, ha, rfl⟩ := chL_mem hd
    obtain ⟨g1, g2, g3, _⟩ := gq_le n0 A.n5 (A.ch.le ha)
    refine ⟨_, _, cf_eq n0, ?_⟩
    rw [cf_eq n0]
    refine ev_op (ev_op (ev_var rfl) (ev_var rfl) (rv_mulW (wide_mul (a := 60 * k + 1) (b := 60) (by rw [Int.natAbs_natCast]; exact hp) (by rw [Int.natAbs_natCast]; omega) (by omega) (by decide) (by omega)))) (ev_var rfl) (rv_fdivW (wide_div (b := 60) (by omega) (by omega) (by decide) (by decide)))
  · obtain ⟨a, rfl, rfl⟩ := h
    refine ⟨a, rfl, ?_⟩
    rw [chL_map (f := flr s N k) fun x hx => ?_]
    rw [cf_eq n0]
    show D.int (((s ^ k : Nat) : Int) * ((x / Nat.gcd x N : Nat) : Int) / ((N / Nat.gcd x N : Nat) : Int)) = _
    rw [← Int.natCast_mul, ← Int.natCast_ediv, flr_red n0]
theorem ok_open_at_least (B : Bl mg) (F : FunG K mg "open_at_least" s_open_at_least) (hPw : Pf P w K mg base "power" 1 S_power) (hFl : Pf P w K mg base "floors" 2 S_floors) : Pf P w K mg base "open_at_least" 3 S_oal := by
  refine pf_mk F sc_open_at_least (fun _ _ _ _ _ _ us hl => match us, hl with | [_, _, _], _ => rfl) (fun Z ds R h => by obtain ⟨N, as, s, k, rfl, _⟩ := h; rfl) (fun f cdv A outer s H E hr => ⟨_, (pss_cons (ps_ret (pe_op op_sub (pe_pf hPw hr (by decide) rfl (pa_cons (pv 1) (pa_cons (pv 2) pa_nil))) (pe_sum (K := K) rfl rfl B rfl rfl (pa_cons (pe_pf hFl hr (by decide) rfl (pa_cons (pv 0) (pa_cons (pv 1) (pa_cons (pv 2) pa_nil)))) pa_nil)))) pss_nil), fun Z ds R H0 hz hS => ?_⟩)
  obtain ⟨N, as, s, k, rfl, A, rfl⟩ := hS
  have s2 := A.s2
  have k2 := A.k2
  have e := (opn_flr (s := s) (k := k) A.ch).1
  have fl : EvN K H0 [some (.tup (chL N as)), some (.int (s : Int)), some (.int (k : Int))] [] (tCall (spF K S_floors) [] E0 (tCons (tVar 0) (tCons (tVar 1) (tCons (tVar 2) tNil)))) (New1 (.lst (((as.map (flr s N k)).map fun (x : Nat) => (x : Int)).map D.int))) := by
    rw [← nD_ints]
    exact en_call (ea_cons (ev_var rfl) (ea_cons (ev_var rfl) (ea_cons (ev_var rfl) ea_nil))) ⟨N, as, s, k, rfl, A, rfl⟩ noZ
  have sc : ∀ l : List Nat, (l.map fun (x : Nat) => (x : Int)).sum = ((l.sum : Nat) : Int) := fun l => by
    induction l with
    | nil => rfl
    | cons x l ih => rw [List.map_cons, List.sum_cons, List.sum_cons, ih, Int.natCast_add]
  refine gq_retP (EvP.cast (ev_op (EvP.cast (ev_call (ea_cons (ev_var rfl) (ea_cons (ev_var rfl) ea_nil)) ⟨(s : Int), k, rfl, by omega, by omega, rfl⟩) (by rw [pw_cast])) (ev_sumN fl) rv_sub) ?_) rfl
  rw [sc]
  congr 1
  omega
theorem ok_digits_at (B : Bl mg) (F : FunG K mg "digits_at" s_digits_at) (hFl : Pf P w K mg base "floors" 2 S_floors) : Pf P w K mg base "digits_at" 3 S_digs := by
  refine pf_mk F sc_digits_at (fun _ _ _ _ _ _ us hl => match us, hl with | [_, _, _], _ => rfl) (fun Z ds R h => by obtain ⟨N, as, s, k, rfl, _⟩ := h; rfl) (fun f cdv A outer s H E hr => ⟨_, (pss_cons (ps_set (i := 3) sc_digits_at.nd rfl (.inl rfl) (pe_pf hFl hr (by decide) rfl (pa_cons (pv 0) (pa_cons (pv 1) (pa_cons (pv 2) pa_nil))))) (pss_cons (ps_if (pt_cmpR op_eq (pv 2) pe_int (nomark _)) (pss_cons (ps_ret (pe_tuple (K := K) rfl rfl B rfl (pa_cons (pv 3) pa_nil))) pss_nil) pss_nil) (pss_cons (ps_ret (pe_tuple (K := K) rfl rfl B rfl (pa_cons (pe_lc (own := [("own", 4), ("before", 5)]) (g := gTup K 2 (gCons (gName 4) (gCons (gName 5) gNil))) rfl sc_digits_at.nd (pi_zipK (K := K) rfl rfl B rfl (pa_cons (pv 3) (pa_cons (pe_pf hFl hr (by decide) rfl (pa_cons (pv 0) (pa_cons (pv 1) (pa_cons (pe_op op_sub (pv 2) pe_int) pa_nil)))) pa_nil))) (blkOk_by (own := [("own", 4), ("before", 5)]) (N := ["chances", "sides", "place", "later", "own", "before"]) (sc := defScope (s_digits_at)) (by decide +kernel)) (fun _ _ _ _ _ => (pg_tupK (K := K) rfl rfl (pgs_cons (pg_name (i := 4) sc_digits_at.nd rfl (.inl rfl)) (pgs_cons (pg_name (i := 5) sc_digits_at.nd rfl (.inl rfl)) pgs_nil)))) (fun _ _ _ _ _ => pts_nil) (fun _ _ _ _ _ => (pe_op op_sub (pv 4) (pe_op op_mulW (pv 1) (pv 5))))) pa_nil))) pss_nil))), fun Z ds R H0 hz hS => ?_⟩)
  obtain ⟨N, as, s, k, rfl, A, rfl⟩ := hS
  have n0 := A.ch.pos
  have s2 := A.s2
  have k2 := A.k2
  have l6 := A.ch.l6
  refine gq_new (en_call (ea_cons (ev_var rfl) (ea_cons (ev_var rfl) (ea_cons (ev_var rfl) ea_nil))) ⟨N, as, s, k, rfl, A, rfl⟩ noZ) fun l => ?_
  have ml : (l, O.lst (nD (as.map (flr s N k)))) ∈ [(l, O.lst (nD (as.map (flr s N k))))] := List.mem_cons_self
  refine gq_ifL (et_test (ev_op (ev_var rfl) ev_int rv_eqI)) (fun hb => ?_) (fun hb => ?_)
  · have hk : k = 0 := by have := of_decide_eq_true hb; omega
    subst hk
    exact gq_retP (ev_cb (ea_cons (ev_var rfl) ea_nil) (rc_tupL (.inl ml))) rfl
  · obtain ⟨j, rfl⟩ : ∃ j, k = j + 1 := ⟨k - 1, by have := of_decide_eq_false hb; omega⟩
    have A' : Arg N as s j := ⟨A.ch, A.n5, A.s1, A.s2, by omega⟩
    refine gq_retP (EvP.cast (ev_tupN (en_lc2Z (ds := prs (nD (as.map (flr s N (j + 1)))) (nD (as.map (flr s N j)))) (v := fun d => match d with | .tup [.int x, .int y] => .int (x - (s : Int) * y) | _ => .non) (by decide) (ei_zipN (PA := fun ds N' => ∃ y, ds = [.ref l, y] ∧ New1 (.lst (nD (as.map (flr s N j)))) y N') (Pd := fun ds es => ds = nD (as.map (flr s N (j + 1))) ∧ es = nD (as.map (flr s N j))) (ean_pn (ev_var rfl) (en_call (ea_cons (ev_var rfl) (ea_cons (ev_var rfl) (ea_cons (EvP.cast (ev_op (ev_var rfl) ev_int rv_sub) (by congr 1; omega)) ea_nil))) ⟨N, as, s, j, rfl, A', rfl⟩ noZ)) (fun qs N' h => ?_)) (fun dl W N' h => ?_) (fun d hd => ?_) (by rw [prs_len, nD_len, List.length_map]; omega))) ?_) rfl
    · obtain ⟨y, rfl, c, rfl, rfl⟩ := h
      exact ⟨_, _, _, _, rfl, .lst (.inl (List.mem_append_right _ ml)), .lst (.inl List.mem_cons_self), rfl, rfl⟩
    · obtain ⟨x, y, ds, es, ⟨y', e, c, rfl, rfl⟩, ⟨rfl, rfl⟩, rfl, h1, h2, rfl⟩ := h
      cases e
      refine ⟨rfl, fun Z => ⟨.inl (List.mem_cons_of_mem _ (List.mem_append_right _ ml)), .inl (List.mem_cons_of_mem _ List.mem_cons_self)⟩, c, _, rfl⟩
    · obtain ⟨x, y, hx, hy, rfl⟩ := prs_of hd
      obtain ⟨x, _, rfl⟩ := List.mem_map.mp hx
      obtain ⟨y, hy', rfl⟩ := List.mem_map.mp hy
      obtain ⟨a, ha, rfl⟩ := List.mem_map.mp hy'
      refine ⟨_, _, rfl, ev_op (ev_var rfl) (ev_op (ev_var rfl) (ev_var rfl) (rv_mulW (wide_mul (a := 60) (b := 60 * 200) (by omega) ?_ (by decide) (by decide) (by decide)))) rv_sub⟩
      rw [Int.natAbs_natCast]
      have h1 : flr s N j a ≤ s ^ j * a := Nat.div_le_self _ _
      have h2 := A.ch.le ha
      have h3 := pw_sz s2 j
      have h4 : s ^ j * a < 2 ^ (60 * j + 1) * 2 ^ 60 := Nat.mul_lt_mul'' h3 (Nat.lt_of_le_of_lt (Nat.le_trans h2 A.n5) (by decide))
      rw [← Nat.pow_add] at h4
      exact Nat.lt_of_lt_of_le (Nat.lt_of_le_of_lt h1 h4) (Nat.pow_le_pow_right (by decide) (by omega))
    · congr 1
      unfold prs nD
      rw [List.map_map (l := as), List.map_map (l := as), List.map_map (l := as), List.zip_map', List.map_map, List.map_map]
      refine List.map_congr_left fun a ha => ?_
      show D.int ((flr s N (j + 1) a : Int) - (s : Int) * (flr s N j a : Int)) = D.int (dig s N j a : Int)
      rw [flr_succ n0, Int.natCast_add, Int.natCast_mul]
      congr 1
      omega
theorem ok_rests (B : Bl mg) (F : FunG K mg "rests" s_rests) (hPw : Pf P w K mg base "power" 1 S_power) (hCb : Pf P w K mg base "common_bottom" 2 S_cb) : Pf P w K mg base "rests" 3 S_rests := by
  refine pf_mk F sc_rests (fun _ _ _ _ _ _ us hl => match us, hl with | [_, _, _], _ => rfl) (fun Z ds R h => by obtain ⟨N, as, s, k, rfl, _⟩ := h; rfl) (fun f cdv A outer s H E hr => ⟨_, (pss_cons (ps_set (i := 3) sc_rests.nd rfl (.inr rfl) (pe_pf hCb hr (by decide) rfl (pa_cons (pv 0) pa_nil))) (pss_cons (ps_set (i := 4) sc_rests.nd rfl (.inr rfl) (pe_pf hPw hr (by decide) rfl (pa_cons (pv 1) (pa_cons (pv 2) pa_nil)))) (pss_cons (ps_ret (pe_tuple (K := K) rfl rfl B rfl (pa_cons (pe_lc (own := [("top", 5), ("own", 6)]) (g := gTup K 2 (gCons (gName 5) (gCons (gName 6) gNil))) rfl sc_rests.nd (pi_tupK (K := K) rfl (pv 0)) (blkOk_by (own := [("top", 5), ("own", 6)]) (N := ["chances", "sides", "throws", "bottom", "scale", "top", "own"]) (sc := defScope (s_rests)) (by decide +kernel)) (fun _ _ _ _ _ => (pg_tupK (K := K) rfl rfl (pgs_cons (pg_name (i := 5) sc_rests.nd rfl (.inl rfl)) (pgs_cons (pg_name (i := 6) sc_rests.nd rfl (.inl rfl)) pgs_nil)))) (fun _ _ _ _ _ => pts_nil) (fun _ _ _ _ _ => (pe_op op_mod (pe_op op_mulW (pe_op op_mulW (pv 4) (pv 5)) (pe_op op_fdivW (pv 3) (pv 6))) (pv 3)))) pa_nil))) pss_nil))), fun Z ds R H0 hz hS => ?_⟩)
  obtain ⟨N, as, s, k, rfl, A, hcb, rfl⟩ := hS
  have n0 := A.ch.pos
  have n5 := A.n5
  have s2 := A.s2
  have k2 := A.k2
  have hp := pw_sz s2 k
  refine gq_set (d := .int (N : Int)) (EvP.cast (ev_call (ea_cons (ev_var rfl) ea_nil) ⟨N, as, rfl, A.ch, A.n5, rfl⟩) (by rw [hcb])) ?_
  refine gq_set (d := .int ((s ^ k : Nat) : Int)) (EvP.cast (ev_call (ea_cons (ev_var rfl) (ea_cons (ev_var rfl) ea_nil)) ⟨(s : Int), k, rfl, by omega, by omega, rfl⟩) (by rw [pw_cast])) ?_
  refine gq_retP (EvP.cast (ev_tupN (en_lc2Y (v := fun d => match d with | .tup [.int x, .int y] => .int (((s ^ k : Nat) : Int) * x * ((N : Int) / y) % (N : Int)) | _ => .non) (by decide) (ei_tup (ev_var rfl)) (fun _ => trivial) (fun d hd => ?_) (by rw [chL_len]; have := A.ch.l6; omega))) ?_) rfl
  · obtain ⟨a, ha, rfl⟩ := chL_mem hd
    obtain ⟨g1, g2, g3, g4, g5⟩ := gq_le n0 A.n5 (A.ch.le ha)
    refine ⟨_, _, cf_eq n0, ?_⟩
    rw [cf_eq n0]
    have q1 : (((s ^ k : Nat) : Int) * ((a / Nat.gcd a N : Nat) : Int)).natAbs < 2 ^ (60 * k + 1 + 60) := by
      rw [Int.natAbs_mul, Int.natAbs_natCast, Int.natAbs_natCast, Nat.pow_add]
      exact Nat.mul_lt_mul'' hp (by omega)
    have q2 : ((N : Int) / ((N / Nat.gcd a N : Nat) : Int)) = ((Nat.gcd a N : Nat) : Int) := by rw [← Int.natCast_ediv, own_red n0]
    refine ev_op (ev_op (ev_op (ev_var rfl) (ev_var rfl) (rv_mulW (wide_mul (a := 60 * k + 1) (b := 60) (by rw [Int.natAbs_natCast]; exact hp) (by rw [Int.natAbs_natCast]; omega) (by omega) (by decide) (by omega)))) (ev_op (ev_var rfl) (ev_var rfl) (rv_fdivW (wide_div (b := 60) (by omega) (by omega) (by decide) (by decide)))) (rv_mulW (wide_mul (b := 60) q1 (by rw [q2, Int.natAbs_natCast]; omega) (by omega) (by decide) (by omega)))) (ev_var rfl) (rv_mod (by omega))
  · rw [chL_map (f := rst s N k) fun x hx => ?_]
    rw [cf_eq n0]
    show D.int (((s ^ k : Nat) : Int) * ((x / Nat.gcd x N : Nat) : Int) * ((N : Int) / ((N / Nat.gcd x N : Nat) : Int)) % (N : Int)) = _
    rw [← Int.natCast_ediv, own_red n0, ← Int.natCast_mul, ← Int.natCast_mul, ← Int.natCast_emod, rst_red n0]
theorem snL_succ (s N : Nat) (as : List Nat) (n : Nat) : snL s N as (n + 1) = snL s N as n ++ [.tup (nD (as.map (rst s N n)))] := by unfold snL; rw [List.range_succ, List.map_append]; rfl
theorem snL_len (s N : Nat) (as : List Nat) (n : Nat) : (snL s N as n).length = n := by unfold snL; rw [List.length_map, List.length_range]
theorem snL_get {s N : Nat} {as : List Nat} {n i : Nat} (h : i < n) : (snL s N as n)[i]? = some (.tup (nD (as.map (rst s N i)))) := by unfold snL; rw [List.getElem?_map, List.getElem?_range h]; rfl
theorem snL_mem {s N : Nat} {as : List Nat} {n k : Nat} : (D.tup (nD (as.map (rst s N k)))) ∈ snL s N as n ↔ ∃ i, i < n ∧ as.map (rst s N i) = as.map (rst s N k) := by
  constructor
  · intro h
    obtain ⟨i, hi, e⟩ := List.mem_map.mp h
    exact ⟨i, List.mem_range.mp hi, nD_inj (D.tup.inj e)⟩
  · rintro ⟨i, hi, e⟩
    rw [← e]
    exact List.mem_of_getElem? (snL_get hi)
theorem snL_pok {s N : Nat} {as : List Nat} {n : Nat} : ∀ d ∈ snL s N as n, pok 1 d = true := fun d hd => by
  obtain ⟨i, _, rfl⟩ := List.mem_map.mp hd
  exact pok_nD _
theorem least_at (p : Nat → Prop) : ∀ n, p n → ∃ i, i ≤ n ∧ p i ∧ ∀ j, j < i → ¬ p j := fun n => by
  induction n using Nat.strongRecOn with
  | ind n ih =>
    intro h
    by_cases q : ∃ j, j < n ∧ p j
    · obtain ⟨j, hj, pj⟩ := q
      obtain ⟨i, hi, a, b⟩ := ih j hj pj
      exact ⟨i, by omega, a, b⟩
    · exact ⟨n, Nat.le_refl _, h, fun j hj pj => q ⟨j, hj, pj⟩⟩
theorem ok_course (B : Bl mg) (F : FunG K mg "course" s_course) (hRs : Pf P w K mg base "rests" 3 S_rests) : Pf P w K mg base "course" 4 S_course := by
  refine pf_mk F sc_course (fun _ _ _ _ _ _ us hl => match us, hl with | [_, _], _ => rfl) (fun Z ds R h => by obtain ⟨N, as, s, rfl, _⟩ := h; rfl) (fun f cdv A outer s H E hr => ⟨_, (pss_cons (ps_set (i := 2) sc_course.nd rfl (.inl rfl) (pe_lst pa_nil)) (pss_cons (ps_set (i := 3) sc_course.nd rfl (.inl rfl) (pe_pf hRs hr (by decide) rfl (pa_cons (pv 0) (pa_cons (pv 1) (pa_cons pe_int pa_nil))))) (pss_cons (ps_while PassesOwn.never (pt_cmpR (op_niLD (K := K) rfl (un65 hr)) (pv 3) (pv 2) rfl) (pss_cons (ps_expr (pe_bm PySem.F.plainAttrs_list PySem.F.slot_list_append PySem.F.type_list_append mt_append (pv 2) (pa_cons (pv 3) pa_nil))) (pss_cons (ps_set (i := 3) sc_course.nd rfl (.inl rfl) (pe_pf hRs hr (by decide) rfl (pa_cons (pv 0) (pa_cons (pv 1) (pa_cons (pe_len (K := K) rfl rfl B rfl (pa_cons (pv 2) pa_nil)) pa_nil))))) pss_nil))) (pss_cons (ps_ret (pe_tup (pa_cons (pv 2) (pa_cons (pe_bmK (K := K) rfl PySem.F.plainAttrs_list PySem.F.slot_list_index PySem.F.type_list_index (mt_idxL (K := K) rfl (un65 hr)) (pv 2) (pa_cons (pv 3) pa_nil)) pa_nil)))) pss_nil)))), fun Z ds R H0 hz hS => ?_⟩)
  obtain ⟨N, as, s, rfl, A, hcb, hsm, rfl⟩ := hS
  have s1 := A.s1
  have s2 := A.s2
  have A' : ∀ k, k ≤ 100 → Arg N as s k := fun k hk => ⟨A.ch, A.n5, A.s1, A.s2, hk⟩
  let Gx : Addr → Nat → Ga := fun l k => [some (.tup (chL N as)), some (.int (s : Int)), some (.ref l), some (.tup (nD (as.map (rst s N k))))]
  refine gq_new (en_lst ea_nil (by decide)) fun l => ?_
  refine gq_set (d := .tup (nD (as.map (rst s N 0)))) (ev_call (ea_cons (ev_var rfl) (ea_cons (ev_var rfl) (ea_cons ev_int ea_nil))) ⟨N, as, s, 0, rfl, A, hcb, rfl⟩) ?_
  refine gq_while (m0 := 40) (fun m G L => ∃ k, m = 40 - k ∧ G = Gx l k ∧ L = [(l, .lst (snL s N as k))] ∧ ∀ i j, i < j → j < k → as.map (rst s N i) ≠ as.map (rst s N j)) ⟨0, rfl, rfl, rfl, fun i j _ h => by omega⟩
    (fun G L => ∃ k, G = Gx l k ∧ L = [(l, .lst (snL s N as k))] ∧ (∀ i j, i < j → j < k → as.map (rst s N i) ≠ as.map (rst s N j)) ∧ ∃ b, b < k ∧ as.map (rst s N b) = as.map (rst s N k)) (fun m G L hW => ?_) (fun G L hM => ?_)
  · obtain ⟨k, rfl, rfl, rfl, hd⟩ := hW
    have hk : k ≤ 30 := dist_le A.ch.pos s1 s2 hsm fun i j hi hj => map_ne (hd i j hi hj)
    by_cases hb : ∃ i, i < k ∧ as.map (rst s N i) = as.map (rst s N k)
    · exact ⟨false, et_test (ev_op (ev_var rfl) (ev_var rfl) (rv_niLD (n := 1) (m := 1) (b := true) (.inl List.mem_cons_self) snL_pok (pok_nD _) (by decide) (by decide) ⟨fun _ => snL_mem.mpr hb, fun _ => rfl⟩)), fun h => (nomatch h), fun _ => ⟨k, rfl, rfl, hd, hb⟩⟩
    · refine ⟨true, et_test (ev_op (ev_var rfl) (ev_var rfl) (rv_niLD (n := 1) (m := 1) (b := false) (.inl List.mem_cons_self) snL_pok (pok_nD _) (by decide) (by decide) ⟨fun h => (nomatch h), fun h => absurd (snL_mem.mp h) hb⟩)), fun _ => ?_, fun h => (nomatch h)⟩
      refine gq_append (k := 0) rfl (ev_var rfl) (ev_var rfl) (by rw [snL_len]; omega) ?_
      refine go_last (gq_set (d := .tup (nD (as.map (rst s N (k + 1))))) (ev_call (ea_cons (ev_var rfl) (ea_cons (ev_var rfl) (ea_cons (EvP.cast (ev_cb (ea_cons (ev_var rfl) ea_nil) (rc_lenL (ds := snL s N as (k + 1)) (.inl (by rw [snL_succ]; exact List.mem_cons_self)))) (by rw [snL_len])) ea_nil))) ⟨N, as, s, k + 1, rfl, A' _ (by omega), hcb, rfl⟩) (go_next ⟨40 - (k + 1), by omega, k + 1, rfl, rfl, by rw [snL_succ]; rfl, fun i j hi hj => ?_⟩))
      by_cases e : j = k
      · subst e
        exact fun q => hb ⟨i, hi, q⟩
      · exact hd i j hi (by omega)
  · obtain ⟨k, rfl, rfl, hd, b0, hb0, e0⟩ := hM
    obtain ⟨b, hb1, ⟨hb2, e1⟩, hb3⟩ := least_at (fun b => b < k ∧ as.map (rst s N b) = as.map (rst s N k)) b0 ⟨hb0, e0⟩
    refine gq_retA (d := .tup [.ref l, .int (b : Int)]) (ev_tup (ea_cons (ev_var rfl) (ea_cons (ev_indexL (n := 1) (m := 1) (ev_var rfl) (.inl List.mem_cons_self) (ev_var rfl) (by rw [snL_get hb2, e1]) (fun i hi => ?_) snL_pok (pok_nD _) (by decide) (by decide)) ea_nil)) (by show 2 ≤ 100000; decide)) ⟨l, k, b, rfl, rfl, ⟨hb2, fun a ha => ?_⟩, fun i j hi hj => map_ne (hd i j hi hj)⟩
    · rw [snL_get (by omega)]
      intro q
      exact hb3 i hi ⟨by omega, nD_inj (D.tup.inj (Option.some.inj q))⟩
    · exact (List.map_inj_left.mp e1 a ha).symm
theorem near_get {s N k : Nat} {as : List Nat} {o : Nat} (h : o < as.length) : (near s N k as)[o]? = some (flr s N k (as.getD o 0) + if rnk (fun i => rst s N k (as.getD i 0)) as.length o < opn s N as k then 1 else 0) := by
  unfold near
  rw [List.getElem?_map, List.getElem?_range h]
  rfl
theorem cut_toD {ds : List D} {c : Nat} (h : c ≤ ds.length) : cutD ds none (some (c : Int)) = ds.take c := by
  have e : HT.sIx ds.length ds.length (some (c : Int)) = c := by
    show (if (c : Int) < 0 then ((c : Int) + (ds.length : Int)).toNat else min (c : Int).toNat ds.length) = c
    rw [if_neg (by omega)]
    omega
  unfold cutD
  rw [e]
  show (ds.drop 0).take (c - 0) = _
  rw [List.drop_zero, Nat.sub_zero]
theorem lexB_bef {p q : Int × Int} (h : SrtO.lexB q p = false) : ¬ bef q p := by
  have := SrtO.lexB_no.mp h
  unfold bef
  exact this
theorem sumI (l : List Nat) : (l.map fun (x : Nat) => (x : Int)).sum = ((l.sum : Nat) : Int) := by
  induction l with
  | nil => rfl
  | cons x l ih => rw [List.map_cons, List.sum_cons, List.sum_cons, ih, Int.natCast_add]
theorem ok_nearest_by (B : Bl mg) (F : FunG K mg "nearest_by" s_nearest_by) (hPw : Pf P w K mg base "power" 1 S_power) (hFl : Pf P w K mg base "floors" 2 S_floors) (hCb : Pf P w K mg base "common_bottom" 2 S_cb) (hR : Pf P w K mg base "ratio" 2 S_ratio) : Pf P w K mg base "nearest_by" 3 S_near := by
  refine pf_mk F sc_nearest_by (fun _ _ _ _ _ _ us hl => match us, hl with | [_, _, _], _ => rfl) (fun Z ds R h => by obtain ⟨N, as, s, k, rfl, _⟩ := h; rfl) (fun f cdv A outer s H E hr => ⟨_, (pss_cons (ps_set (i := 3) sc_nearest_by.nd rfl (.inr rfl) (pe_pf hPw hr (by decide) rfl (pa_cons (pv 1) (pa_cons (pv 2) pa_nil)))) (pss_cons (ps_set (i := 4) sc_nearest_by.nd rfl (.inl rfl) (pe_pf hFl hr (by decide) rfl (pa_cons (pv 0) (pa_cons (pv 1) (pa_cons (pv 2) pa_nil))))) (pss_cons (ps_setLc (i := 5) (own := [("chance", 9)]) (g := gName 9) rfl sc_nearest_by.nd rfl rfl (sw_true rfl rfl rfl (by decide +kernel)) (pi_tupK (K := K) rfl (pv 0)) (blkOk_by (own := [("chance", 9)]) (N := ["chances", "sides", "throws", "scale", "counts", "missing", "bottom", "ranks", "raised", "chance", "outcome", "lack", "top", "own", "count"]) (sc := defScope (s_nearest_by)) (by decide +kernel)) (fun _ _ _ _ _ => (pg_name (i := 9) sc_nearest_by.nd rfl (.inl rfl))) (fun _ _ _ _ _ => pts_nil) (fun _ _ _ _ _ => (pe_tup (pa_cons (pe_op op_mod (pe_op op_mulW (pv 3) (pe_ixT (K := K) rfl (pv 9) pe_int (fun _ _ => rfl))) (pe_ixT (K := K) rfl (pv 9) pe_int (fun _ _ => rfl))) (pa_cons (pe_ixT (K := K) rfl (pv 9) pe_int (fun _ _ => rfl)) pa_nil))))) (pss_cons (ps_set (i := 6) sc_nearest_by.nd rfl (.inr rfl) (pe_pf hCb hr (by decide) rfl (pa_cons (pv 0) pa_nil))) (pss_cons (ps_setLc (i := 7) (own := [("outcome", 10), ("top", 12), ("own", 13)]) (g := gTup K 2 (gCons (gName 10) (gCons (gTup K 2 (gCons (gName 12) (gCons (gName 13) gNil))) gNil))) rfl sc_nearest_by.nd rfl rfl (sw_true rfl rfl rfl (by decide +kernel)) (pi_enumK (K := K) rfl rfl B rfl (pa_cons (pv 5) pa_nil)) (blkOk_by (own := [("outcome", 10), ("top", 12), ("own", 13)]) (N := ["chances", "sides", "throws", "scale", "counts", "missing", "bottom", "ranks", "raised", "chance", "outcome", "lack", "top", "own", "count"]) (sc := defScope (s_nearest_by)) (by decide +kernel)) (fun _ _ _ _ _ => (pg_tupK (K := K) rfl rfl (pgs_cons (pg_name (i := 10) sc_nearest_by.nd rfl (.inl rfl)) (pgs_cons (pg_tupK (K := K) rfl rfl (pgs_cons (pg_name (i := 12) sc_nearest_by.nd rfl (.inl rfl)) (pgs_cons (pg_name (i := 13) sc_nearest_by.nd rfl (.inl rfl)) pgs_nil))) pgs_nil)))) (fun _ _ _ _ _ => pts_nil) (fun _ _ _ _ _ => (pe_tup (pa_cons (pe_op op_sub pe_int (pe_op op_mulW (pv 12) (pe_op op_fdivW (pv 6) (pv 13)))) (pa_cons (pv 10) pa_nil))))) (pss_cons (ps_set (i := 8) sc_nearest_by.nd rfl (.inr rfl) (pe_lc (own := [("lack", 11), ("outcome", 10)]) (g := gTup K 2 (gCons (gName 11) (gCons (gName 10) gNil))) rfl sc_nearest_by.nd (pi_listK (K := K) rfl (pe_slice (sl_listK (K := K) rfl) (pe_sortP (K := K) rfl rfl B rfl (pa_cons (pv 7) pa_nil)) po_none (po_some (pe_op op_sub (pv 3) (pe_sum (K := K) rfl rfl B rfl rfl (pa_cons (pv 4) pa_nil)))))) (blkOk_by (own := [("lack", 11), ("outcome", 10)]) (N := ["chances", "sides", "throws", "scale", "counts", "missing", "bottom", "ranks", "raised", "chance", "outcome", "lack", "top", "own", "count"]) (sc := defScope (s_nearest_by)) (by decide +kernel)) (fun _ _ _ _ _ => (pg_tupK (K := K) rfl rfl (pgs_cons (pg_name (i := 11) sc_nearest_by.nd rfl (.inl rfl)) (pgs_cons (pg_name (i := 10) sc_nearest_by.nd rfl (.inl rfl)) pgs_nil)))) (fun _ _ _ _ _ => pts_nil) (fun _ _ _ _ _ => (pv 10)))) (pss_cons (ps_ret (pe_tupleN (K := K) rfl rfl B rfl (pa_cons (pe_lc (own := [("outcome", 10), ("count", 14)]) (g := gTup K 2 (gCons (gName 10) (gCons (gName 14) gNil))) rfl sc_nearest_by.nd (pi_enumK (K := K) rfl rfl B rfl (pa_cons (pv 4) pa_nil)) (blkOk_by (own := [("outcome", 10), ("count", 14)]) (N := ["chances", "sides", "throws", "scale", "counts", "missing", "bottom", "ranks", "raised", "chance", "outcome", "lack", "top", "own", "count"]) (sc := defScope (s_nearest_by)) (by decide +kernel)) (fun _ _ _ _ _ => (pg_tupK (K := K) rfl rfl (pgs_cons (pg_name (i := 10) sc_nearest_by.nd rfl (.inl rfl)) (pgs_cons (pg_name (i := 14) sc_nearest_by.nd rfl (.inl rfl)) pgs_nil)))) (fun _ _ _ _ _ => pts_nil) (fun _ _ _ _ _ => (pe_pf hR hr (by decide) rfl (pa_cons (pe_op op_add (pv 14) (pe_int1 (K := K) rfl rfl B rfl (pa_cons (pe_cmpR (op_inK (K := K) rfl) (pv 10) (pv 8) rfl) pa_nil))) (pa_cons (pv 3) pa_nil))))) pa_nil))) pss_nil))))))), fun Z ds R H0 hz hS => ?_⟩)
  obtain ⟨N, as, s, k, rfl, A, hk6, hcb, rfl⟩ := hS
  have n0 := A.ch.pos
  have n5 := A.n5
  have s1 := A.s1
  have s2 := A.s2
  have k2 := A.k2
  have l6 := A.ch.l6
  have hp := pw_sz s2 k
  have hsk : s ^ k ≤ 46656 := by
    have h1 : s ^ k ≤ 6 ^ k := Nat.pow_le_pow_left s2 k
    have h2 : 6 ^ k ≤ 6 ^ 6 := Nat.pow_le_pow_right (by decide) hk6
    have h3 : (6 : Nat) ^ 6 = 46656 := by decide
    omega
  have sk0 : 0 < s ^ k := Nat.pow_pos (by omega)
  generalize hrf : (fun i => rst s N k (as.getD i 0)) = rf
  generalize hm : as.length = m at l6
  have hopm : opn s N as k < m := by rw [← hm]; exact opn_lt A.ch
  refine gq_set (d := .int ((s ^ k : Nat) : Int)) (EvP.cast (ev_call (ea_cons (ev_var rfl) (ea_cons (ev_var rfl) ea_nil)) ⟨(s : Int), k, rfl, by omega, by omega, rfl⟩) (by rw [pw_cast])) ?_
  refine gq_new (en_call (ea_cons (ev_var rfl) (ea_cons (ev_var rfl) (ea_cons (ev_var rfl) ea_nil))) ⟨N, as, s, k, rfl, A, rfl⟩ noZ) fun lc => ?_
  have mc : (lc, O.lst (nD (as.map (flr s N k)))) ∈ [(lc, O.lst (nD (as.map (flr s N k))))] := List.mem_cons_self
  let msD : D → D := fun d => match d with | .tup [.int x, .int y] => .tup [.int (((s ^ k : Nat) : Int) * x % y), .int y] | _ => .non
  have hms : (chL N as).map msD = as.map fun a => .tup [.int ((s ^ k * (a / Nat.gcd a N) % (N / Nat.gcd a N) : Nat) : Int), .int ((N / Nat.gcd a N : Nat) : Int)] := by
    unfold chL
    rw [List.map_map]
    refine List.map_congr_left fun a _ => ?_
    show msD (cf N a) = _
    rw [cf_eq n0]
    show D.tup [.int (((s ^ k : Nat) : Int) * ((a / Nat.gcd a N : Nat) : Int) % ((N / Nat.gcd a N : Nat) : Int)), _] = _
    rw [← Int.natCast_mul, ← Int.natCast_emod]
  refine gq_new (o := .lst ((chL N as).map msD)) (en_lcY (v := msD) (ei_tup (ev_var rfl)) (fun _ => trivial) (fun d hd => ?_) (by rw [chL_len]; omega)) fun lm => ?_
  · obtain ⟨a, ha, rfl⟩ := chL_mem hd
    obtain ⟨g1, g2, g3, _⟩ := gq_le n0 A.n5 (A.ch.le ha)
    rw [cf_eq n0]
    refine ev_tup (ea_cons (ev_op (ev_op (ev_var rfl) (ev_op (ev_var rfl) ev_int (rv_ixT (z := .int ((a / Nat.gcd a N : Nat) : Int)) rfl)) (rv_mulW (wide_mul (a := 60 * k + 1) (b := 60) (by rw [Int.natAbs_natCast]; exact hp) (by rw [Int.natAbs_natCast]; omega) (by omega) (by decide) (by omega)))) (ev_op (ev_var rfl) ev_int (rv_ixT (z := .int ((N / Nat.gcd a N : Nat) : Int)) rfl)) (rv_mod (by omega))) (ea_cons (ev_op (ev_var rfl) ev_int (rv_ixT (z := .int ((N / Nat.gcd a N : Nat) : Int)) rfl)) ea_nil)) (by show 2 ≤ 100000; decide)
  rw [hms]
  generalize hmsl : (as.map fun a => D.tup [.int ((s ^ k * (a / Nat.gcd a N) % (N / Nat.gcd a N) : Nat) : Int), .int ((N / Nat.gcd a N : Nat) : Int)]) = msl
  have msl_len : msl.length = m := by rw [← hmsl, List.length_map, hm]
  have msl_get : ∀ i, i < m → ∃ a, as[i]? = some a ∧ msl[i]? = some (.tup [.int ((s ^ k * (a / Nat.gcd a N) % (N / Nat.gcd a N) : Nat) : Int), .int ((N / Nat.gcd a N : Nat) : Int)]) := fun i hi => by
    have : i < as.length := by omega
    exact ⟨as[i], List.getElem?_eq_getElem this, by rw [← hmsl, List.getElem?_map, List.getElem?_eq_getElem this]; rfl⟩
  refine gq_set (d := .int (N : Int)) (EvP.cast (ev_call (ea_cons (ev_var rfl) ea_nil) ⟨N, as, rfl, A.ch, A.n5, rfl⟩) (by rw [hcb])) ?_
  let rkD : D → D := fun d => match d with | .tup [.int o, .tup [.int x, .int y]] => .tup [.int (0 - x * ((N : Int) / y)), .int o] | _ => .non
  have nm_of : ∀ d ∈ nums msl, ∃ (i : Nat) (a : Nat), i < m ∧ as[i]? = some a ∧ d = .tup [.int (i : Int), .tup [.int ((s ^ k * (a / Nat.gcd a N) % (N / Nat.gcd a N) : Nat) : Int), .int ((N / Nat.gcd a N : Nat) : Int)]] := fun d hd => by
    obtain ⟨i, hi⟩ := List.getElem?_of_mem hd
    have him : i < m := by have := (List.getElem?_eq_some_iff.mp hi).1; rw [nums_len] at this; omega
    obtain ⟨a, ha, hg⟩ := msl_get i him
    rw [nums_get hg] at hi
    exact ⟨i, a, him, ha, (Option.some.inj hi).symm⟩
  have rk_one : ∀ (i a : Nat), as[i]? = some a → rkD (.tup [.int (i : Int), .tup [.int ((s ^ k * (a / Nat.gcd a N) % (N / Nat.gcd a N) : Nat) : Int), .int ((N / Nat.gcd a N : Nat) : Int)]]) = prD (-(rf i : Int), (i : Int)) := fun i a ha => by
    show D.tup [.int (0 - ((s ^ k * (a / Nat.gcd a N) % (N / Nat.gcd a N) : Nat) : Int) * ((N : Int) / ((N / Nat.gcd a N : Nat) : Int))), .int (i : Int)] = .tup [.int (-(rf i : Int)), .int (i : Int)]
    have e1 : as.getD i 0 = a := by rw [List.getD_eq_getElem?_getD, ha]; rfl
    rw [← Int.natCast_ediv, own_red n0, ← Int.natCast_mul, rst_red2 n0, ← hrf, Int.zero_sub]
    show _ = D.tup [.int (-(rst s N k (as.getD i 0) : Int)), .int (i : Int)]
    rw [e1]
  have hrk : (nums msl).map rkD = ((List.range m).map fun i => (-(rf i : Int), (i : Int))).map prD := by
    refine List.ext_getElem? fun i => ?_
    rw [List.getElem?_map, List.map_map, List.getElem?_map]
    by_cases hi : i < m
    · obtain ⟨a, ha, hg⟩ := msl_get i hi
      rw [nums_get hg, List.getElem?_range hi]
      exact congrArg some (rk_one i a ha)
    · rw [List.getElem?_eq_none (by rw [nums_len]; omega), List.getElem?_eq_none (by rw [List.length_range]; omega)]
      rfl
  have mm : ∀ {o2 : O}, (lm, O.lst msl) ∈ [(lm, O.lst msl), (lc, o2)] := fun {o2} => List.mem_cons_self
  refine gq_new (o := .lst (((List.range m).map fun i => (-(rf i : Int), (i : Int))).map prD)) (by
    rw [← hrk]
    refine en_lcNest (v := rkD) (by decide) (by decide) (by decide) (ei_enum (ea_cons (ev_var rfl) ea_nil) (.lst (.inl mm))) (fun Z => .inl (List.mem_cons_of_mem _ mm)) (fun d hd => ?_) (by rw [nums_len]; omega)
    obtain ⟨i, a, him, ha, rfl⟩ := nm_of d hd
    obtain ⟨g1, g2, g3, g4, g5⟩ := gq_le n0 A.n5 (A.ch.le (List.mem_of_getElem? ha))
    refine ⟨_, _, _, rfl, ?_⟩
    have q2 : ((N : Int) / ((N / Nat.gcd a N : Nat) : Int)) = ((Nat.gcd a N : Nat) : Int) := by rw [← Int.natCast_ediv, own_red n0]
    have q3 : s ^ k * (a / Nat.gcd a N) % (N / Nat.gcd a N) < N / Nat.gcd a N := Nat.mod_lt _ (by omega)
    exact ev_tup (ea_cons (ev_op ev_int (ev_op (ev_var rfl) (ev_op (ev_var rfl) (ev_var rfl) (rv_fdivW (wide_div (b := 60) (by omega) (by omega) (by decide) (by decide)))) (rv_mulW (wide_mul (a := 60) (b := 60) (by rw [Int.natAbs_natCast]; omega) (by rw [q2, Int.natAbs_natCast]; omega) (by decide) (by decide) (by decide)))) rv_sub) (ea_cons (ev_var rfl) ea_nil)) (by show 2 ≤ 100000; decide)) fun lr => ?_
  generalize hcc : opn s N as k = c at hopm
  have hL : (lr, O.lst (((List.range m).map fun i => (-(rf i : Int), (i : Int))).map prD)) ∈ [(lr, O.lst (((List.range m).map fun i => (-(rf i : Int), (i : Int))).map prD)), (lm, O.lst msl), (lc, O.lst (nD (as.map (flr s N k))))] := List.mem_cons_self
  have mc2 : (lc, O.lst (nD (as.map (flr s N k)))) ∈ [(lr, O.lst (((List.range m).map fun i => (-(rf i : Int), (i : Int))).map prD)), (lm, O.lst msl), (lc, O.lst (nD (as.map (flr s N k))))] := by simp
  have ecut : ((s ^ k : Nat) : Int) - ((as.map (flr s N k)).map fun (x : Nat) => (x : Int)).sum = (c : Int) := by
    have := (opn_flr (s := s) (k := k) A.ch).1
    rw [sumI]
    omega
  refine gq_new (o := .lst ((((srtR rf m).take c).map prD).map fun d => match d with | .tup [.int _, .int y] => .int y | _ => .non)) (en_lc2R (v := fun d => match d with | .tup [.int _, .int y] => .int y | _ => .non) (by decide) (EvI.imp (ei_listR (Pd := fun ds => ds = ((srtR rf m).take c).map prD) (en_slN (lo := none) (hi := some (c : Int)) (Pd := fun ds => ds = (srtR rf m).map prD) (en_sortP (ps := (List.range m).map fun i => (-(rf i : Int), (i : Int))) (el_old (ev_var rfl) hL)) (fun d N' h => ?_) eo_none (eo_some (EvP.cast (ev_op (ev_var rfl) (ev_cb (ea_cons (ev_var rfl) ea_nil) (rc_sum (by rw [← nD_ints]; exact .inl mc2))) rv_sub) (by rw [ecut])))) (fun d N' h => ?_)) fun ds W N' h => ?_) (fun d hd => ?_) ?_) fun lR => ?_
  · obtain ⟨a, ps', rfl, rfl, h1, h2⟩ := h
    refine ⟨a, _, rfl, rfl, ?_⟩
    rw [perm_uniq (h1.trans (srtR_ok rf m).1.symm) (h2.imp fun {p q} h => lexB_bef h) (srtR_ok rf m).2]
  · obtain ⟨a, ds, rfl, rfl, rfl⟩ := h
    refine ⟨a, _, rfl, rfl, ?_⟩
    rw [cut_toD (by rw [List.length_map, srtR_len]; omega), List.map_take]
  · obtain ⟨rfl, a, rfl, rfl⟩ := h
    exact ⟨rfl, a, rfl, rfl⟩
  · obtain ⟨q, _, rfl⟩ := List.mem_map.mp hd
    exact ⟨_, _, rfl, ev_var rfl⟩
  · rw [List.length_map, List.length_take, srtR_len]; omega
  have eR : (((srtR rf m).take c).map prD).map (fun d => match d with | .tup [.int _, .int y] => D.int y | _ => .non) = (((srtR rf m).take c).map (·.2)).map D.int := by
    rw [List.map_map, List.map_map]
    rfl
  rw [eR]
  generalize hrs : ((srtR rf m).take c).map (·.2) = raised
  have rin : ∀ o : Nat, o < m → decide ((o : Int) ∈ raised) = decide (rnk rf m o < c) := fun o ho => by
    rw [← hrs]
    exact decide_eq_decide.mpr (raised_iff rf (Nat.le_of_lt hopm) ho)
  refine gq_retP (d := .tupN (chL (s ^ k) (near s N k as))) (EvP.cast (ev_tupNN (en_lc2Y (v := fun d => match d with | .tup [.int o, .int x] => cf (s ^ k) (x.toNat + if rnk rf m o.toNat < c then 1 else 0) | _ => .non) (by decide) (ei_enum (ea_cons (ev_var rfl) ea_nil) (.lst (.inl (List.mem_cons_of_mem _ mc2)))) (fun Z => .inl (List.mem_cons_of_mem _ (List.mem_cons_of_mem _ mc2))) (fun d hd => ?_) (by rw [nums_len, nD_len, List.length_map]; omega))) ?_) rfl
  · obtain ⟨i, hi⟩ := List.getElem?_of_mem hd
    have him : i < m := by have := (List.getElem?_eq_some_iff.mp hi).1; rw [nums_len, nD_len, List.length_map] at this; omega
    have hg : (nD (as.map (flr s N k)))[i]? = some (.int (flr s N k (as.getD i 0) : Int)) := nD_get (by rw [List.getElem?_map, List.getD_eq_getElem?_getD, List.getElem?_eq_getElem (by omega)]; rfl)
    rw [nums_get hg] at hi
    have hd' := (Option.some.inj hi).symm
    subst hd'
    refine ⟨_, _, rfl, ?_⟩
    show EvP K H0 _ _ _ (cf (s ^ k) ((flr s N k (as.getD i 0) : Int).toNat + if rnk rf m (i : Int).toNat < c then 1 else 0))
    rw [Int.toNat_natCast, Int.toNat_natCast]
    have hle : flr s N k (as.getD i 0) ≤ s ^ k * N := Nat.le_trans (Nat.div_le_self _ _) (Nat.mul_le_mul_left _ (A.ch.le (getD_mem (by omega))))
    have p9 : (46656 : Int) < 2 ^ 9000 := Int.lt_of_lt_of_le (show (46656 : Int) < 2 ^ 20 by decide) (by exact_mod_cast Nat.pow_le_pow_right (show 0 < 2 by decide) (show 20 ≤ 9000 by decide))
    refine EvP.cast (ev_call (ea_cons (ev_op (ev_var rfl) (ev_cb (ea_cons (EvP.cast (ev_op (ev_var rfl) (ev_var rfl) (rv_isL (ns := raised) (.inl List.mem_cons_self))) (by rw [rin i him])) ea_nil) rc_intB) rv_add) (ea_cons (ev_var rfl) ea_nil)) ⟨_, ((s ^ k : Nat) : Int), rfl, by omega, by omega, rfl⟩) ?_
    rw [Int.toNat_natCast]
    unfold cf
    congr 2
    by_cases q : rnk rf m i < c
    · rw [decide_eq_true q, if_pos q]; rfl
    · rw [decide_eq_false q, if_neg q]; rfl
  · congr 1
    refine List.ext_getElem? fun i => ?_
    unfold chL
    rw [List.getElem?_map, List.getElem?_map]
    by_cases hi : i < m
    · have hg : (nD (as.map (flr s N k)))[i]? = some (.int (flr s N k (as.getD i 0) : Int)) := nD_get (by rw [List.getElem?_map, List.getD_eq_getElem?_getD, List.getElem?_eq_getElem (by omega)]; rfl)
      rw [nums_get hg, near_get (by omega)]
      show some (cf (s ^ k) ((flr s N k (as.getD i 0) : Int).toNat + if rnk rf m (i : Int).toNat < c then 1 else 0)) = some (cf (s ^ k) (flr s N k (as.getD i 0) + if rnk (fun i => rst s N k (as.getD i 0)) as.length i < opn s N as k then 1 else 0))
      rw [Int.toNat_natCast, Int.toNat_natCast, hrf, hm, hcc]
    · rw [List.getElem?_eq_none (by rw [nums_len, nD_len, List.length_map]; omega), List.getElem?_eq_none (by unfold near; rw [List.length_map, List.length_range]; omega)]
      rfl
end
end Fc

namespace Fc
open PySem PySem.Spec PyProof.Rows L2
abbrev s_counted : Stmt := top 63
theorem sc_counted : FnScope ["sides", "table", "throws", "counts", "turn", "later", "state", "count", "other", "place"] ["sides", "table", "throws"] (defScope s_counted) := ⟨rfl, rfl, rfl, by decide +kernel, rfl, by decide +kernel, by decide +kernel⟩
abbrev s_level_states : Stmt := top 65
theorem sc_level_states : FnScope ["chances", "sides", "place", "names", "again", "here", "decided", "later", "outcome", "count", "own"] ["chances", "sides", "place", "names", "again"] (defScope s_level_states) := ⟨rfl, rfl, rfl, by decide +kernel, rfl, by decide +kernel, by decide +kernel⟩
abbrev s_best_table : Stmt := top 66
theorem sc_best_table : FnScope ["chances", "sides", "firsts", "place", "rows", "seen", "back", "finals", "size", "outcome", "chance", "after"] ["chances", "sides"] (defScope s_best_table) := ⟨rfl, rfl, rfl, by decide +kernel, rfl, by decide +kernel, by decide +kernel⟩

theorem nD_set (l : List Nat) (j x : Nat) : (nD l).set j (.int (x : Int)) = nD (l.set j x) := by unfold nD; rw [List.map_set]
theorem cut_from {l : List Nat} {k : Nat} (h : k ≤ l.length) : cutD (nD l) (some (k : Int)) none = nD (l.drop k) := by
  have e : HT.sIx (nD l).length 0 (some (k : Int)) = k := by
    show (if (k : Int) < 0 then ((k : Int) + ((nD l).length : Int)).toNat else min (k : Int).toNat (nD l).length) = k
    rw [if_neg (by omega), nD_len]
    omega
  unfold cutD
  rw [e]
  show ((nD l).drop k).take ((nD l).length - k) = _
  rw [List.take_of_length_le (by rw [List.length_drop]; exact Nat.le_refl _)]
  unfold nD
  rw [List.map_drop]
theorem cut_to {l : List Nat} {k : Nat} (h : k ≤ l.length) : cutD (nD l) none (some (k : Int)) = nD (l.take k) := by
  have e : HT.sIx (nD l).length (nD l).length (some (k : Int)) = k := by
    show (if (k : Int) < 0 then ((k : Int) + ((nD l).length : Int)).toNat else min (k : Int).toNat (nD l).length) = k
    rw [if_neg (by omega), nD_len]
    omega
  unfold cutD
  rw [e]
  show ((nD l).drop 0).take (k - 0) = _
  rw [List.drop_zero, Nat.sub_zero]
  unfold nD
  rw [List.map_take]
def rwL : Rw → List Nat
  | .go l => l
  | .fin _ => []
/-- a list of counts -/
def fL (n : Nat) (f : Nat → Nat) : List D := nD ((List.range n).map f)
theorem fL_len (n : Nat) (f : Nat → Nat) : (fL n f).length = n := by unfold fL; rw [nD_len, List.length_map, List.length_range]
theorem fL_get {n i : Nat} {f : Nat → Nat} (h : i < n) : (fL n f)[i]? = some (.int (f i : Int)) := by
  unfold fL
  exact nD_get (by rw [List.getElem?_map, List.getElem?_range h]; rfl)
theorem fL_congr {n : Nat} {f g : Nat → Nat} (h : ∀ i, i < n → f i = g i) : fL n f = fL n g := by
  unfold fL
  rw [List.map_congr_left fun i hi => h i (List.mem_range.mp hi)]
theorem fL_set {n y v : Nat} {f : Nat → Nat} (h : y < n) : (fL n f).set y (.int (v : Int)) = fL n (fun z => if z = y then v else f z) := by
  unfold fL
  rw [nD_set]
  congr 1
  refine List.ext_getElem? fun i => ?_
  rw [List.getElem?_set, List.length_map, List.length_range, List.getElem?_map, List.getElem?_map]
  by_cases e : y = i
  · subst e
    rw [if_pos rfl, if_pos h, List.getElem?_range h]
    show some v = some (if y = y then v else f y)
    rw [if_pos rfl]
  · rw [if_neg e]
    by_cases hi : i < n
    · rw [List.getElem?_range hi]
      show some (f i) = some (if i = y then v else f i)
      rw [if_neg (fun z => e z.symm)]
    · rw [List.getElem?_eq_none (by rw [List.length_range]; omega)]
      rfl
theorem fL_rep (n : Nat) : (List.replicate n [D.int 0]).flatten = fL n (fun _ => 0) := by
  unfold fL nD
  rw [List.map_map]
  induction n with
  | zero => rfl
  | succ n ih =>
    rw [List.replicate_succ', List.flatten_append, ih, List.range_succ, List.map_append]
    rfl
def S_counted : FS := fun _ ds R => ∃ (s m k : Nat) (t : List Rw), ds = [.int (s : Int), tbD t, .int (k : Int)] ∧ Tb s m t ∧ k ≤ 1000 ∧ R = New1 (.lst (fL t.length (cntT s t k)))
/-- the count so far: of the rows below i -/
def ctP (s : Nat) (t : List Rw) (k i y : Nat) : Nat := smN i (fun x => match t[x]? with | some (.go l) => cntT s t k x * l.count y | _ => 0)
theorem ctP_go {s : Nat} {t : List Rw} {k i y : Nat} {l : List Nat} (h : t[i]? = some (.go l)) : ctP s t k (i + 1) y = ctP s t k i y + cntT s t k i * l.count y := by
  unfold ctP
  rw [smN, h]
theorem ctP_fin {s : Nat} {t : List Rw} {k i y o : Nat} (h : t[i]? = some (.fin o)) : ctP s t k (i + 1) y = ctP s t k i y := by
  unfold ctP
  rw [smN, h]
  rfl
/-- .. then the final states below i -/
def ctQ (s : Nat) (t : List Rw) (k i y : Nat) : Nat := ctP s t k t.length y + if y < i then (match t[y]? with | some (.fin _) => s * cntT s t k y | _ => 0) else 0
theorem ctQ_end {s : Nat} {t : List Rw} {k y : Nat} (h : y < t.length) : ctQ s t k t.length y = cntT s t (k + 1) y := by
  unfold ctQ
  rw [if_pos h]
  rfl
/-- the dict of finals -/
def fnD (as : List Nat) (sz i : Nat) : List (Key × D) := ((List.range i).filter fun o : Nat => decide (as.getD o 0 ≠ 0)).map fun o : Nat => ((.inl (o : Int) : Key), D.int ((sz + (fo as).idxOf o : Nat) : Int))
def S_level : FS := fun Z ds R => ∃ (N : Nat) (as : List Nat) (s n b k : Nat) (da : Addr), ds = [.tup (chL N as), .int (s : Int), .int (k : Int), .int (fsB s N as (nxB n b k) : Int), .ref da] ∧ Z = [(da, .dct (fnD as (fsB s N as n) as.length))] ∧ Arg N as s (k + 1) ∧ Cr s N as n b ∧ k < n ∧ fsB s N as n ≤ 200 ∧ R = New1 (.lst ((lvB s N as n b k).map rwD))
def S_btab : FS := fun _ ds R => ∃ (N : Nat) (as : List Nat) (s : Nat), ds = [.tupN (chL N as), .int (s : Int)] ∧ Okc s N as ∧ R = Val (tbD (bestT s N as))
def S_rsize : FS := fun _ ds R => ∃ (N s r : Nat), ds = [.int (N : Int), .int (s : Int)] ∧ Rd1 s N r ∧ r ≤ 100 ∧ s ≤ 6 ∧ R = Val (.int (r : Int))
def S_numb : FS := fun _ ds R => ∃ (N : Nat) (as : List Nat), ds = [.tup (chL N as)] ∧ Ch N as ∧ N ≤ 50000 ∧ cbN N as = N ∧ R = New1 (.lst (nD (numR as)))
def S_rtab : FS := fun _ ds R => ∃ (N : Nat) (as : List Nat) (s r : Nat), ds = [.tup (chL N as), .int (s : Int)] ∧ Ch N as ∧ N ≤ 30 ∧ cbN N as = N ∧ 2 ≤ s ∧ s ≤ 6 ∧ Rd1 s N r ∧ R = Val (tbD (rndT s N as r))
theorem idx_fo {as : List Nat} {o : Nat} (h : o < as.length) (hz : as.getD o 0 ≠ 0) : (fo as).idxOf o = ((List.range o).filter fun o => decide (as.getD o 0 ≠ 0)).length := by
  have e : fo as = ((List.range o).filter fun o => decide (as.getD o 0 ≠ 0)) ++ o :: (((List.range (as.length - o - 1)).map (fun x => o + 1 + x)).filter fun o => decide (as.getD o 0 ≠ 0)) := by
    unfold fo
    have e1 : List.range as.length = List.range o ++ o :: ((List.range (as.length - o - 1)).map (fun x => o + 1 + x)) := by
      conv => lhs; rw [show as.length = (o + 1) + (as.length - o - 1) by omega, List.range_add, List.range_succ]
      rw [List.append_assoc]
      rfl
    conv => lhs; rw [e1]
    rw [List.filter_append, List.filter_cons_of_pos (by simpa using hz)]
  rw [e, List.idxOf_append, if_neg (fun h => by have := List.mem_range.mp (List.mem_filter.mp h).1; omega), List.idxOf_cons_self]
  omega
theorem fnD_succ {as : List Nat} {sz i : Nat} (hz : as.getD i 0 ≠ 0) : fnD as sz (i + 1) = fnD as sz i ++ [((.inl (i : Int) : Key), D.int ((sz + (fo as).idxOf i : Nat) : Int))] := by
  unfold fnD
  rw [List.range_succ, List.filter_append, List.map_append]
  congr 1
  rw [List.filter_cons_of_pos (by simpa using hz)]
  rfl
theorem fnD_skip {as : List Nat} {sz i : Nat} (hz : as.getD i 0 = 0) : fnD as sz (i + 1) = fnD as sz i := by
  unfold fnD
  rw [List.range_succ, List.filter_append, List.map_append, List.filter_cons_of_neg (by simpa using hz)]
  simp
theorem fnD_len (as : List Nat) (sz i : Nat) : (fnD as sz i).length ≤ i := by
  unfold fnD
  rw [List.length_map]
  have := List.length_filter_le (fun o => decide (as.getD o 0 ≠ 0)) (List.range i)
  rwa [List.length_range] at this
theorem fnD_any {as : List Nat} {sz i : Nat} : ((fnD as sz i).any fun kv => decide (kv.1 = .inl (i : Int))) = false := by
  rw [List.any_eq_false]
  intro kv hkv
  obtain ⟨o, ho, rfl⟩ := List.mem_map.mp hkv
  have := List.mem_range.mp (List.mem_filter.mp ho).1
  simp only [decide_eq_true_eq]
  intro e
  have := Sum.inl.inj e
  omega
theorem fnD_val {as : List Nat} {sz o : Nat} : ∀ {i : Nat}, o < i → as.getD o 0 ≠ 0 → valD (fnD as sz i) (.inl (o : Int)) = some (.int ((sz + (fo as).idxOf o : Nat) : Int))
  | 0, h, _ => by omega
  | i + 1, h, hz => by
    by_cases e : o = i
    · subst e
      rw [fnD_succ hz]
      unfold valD
      rw [List.find?_append]
      have : (fnD as sz o).find? (fun kv => decide (kv.1 = .inl (o : Int))) = none := by
        rw [List.find?_eq_none]
        intro kv hkv
        have := List.any_eq_false.mp (fnD_any (as := as) (sz := sz) (i := o)) kv hkv
        exact this
      rw [this]
      simp
    · have ih := fnD_val (as := as) (sz := sz) (i := i) (by omega) hz
      by_cases hi : as.getD i 0 = 0
      · rw [fnD_skip hi]; exact ih
      · rw [fnD_succ hi]
        unfold valD at ih ⊢
        rw [List.find?_append]
        cases q : (fnD as sz i).find? (fun kv => decide (kv.1 = .inl (o : Int))) with
        | none => rw [q] at ih; cases ih
        | some z => rw [q] at ih; exact ih
theorem cut_mid {l : List Nat} {a s : Nat} (h : a + s ≤ l.length) : cutD (nD l) (some (a : Int)) (some ((a + s : Nat) : Int)) = nD ((l.drop a).take s) := by
  have e1 : HT.sIx (nD l).length 0 (some (a : Int)) = a := by
    show (if (a : Int) < 0 then ((a : Int) + ((nD l).length : Int)).toNat else min (a : Int).toNat (nD l).length) = a
    rw [if_neg (by omega), nD_len]
    omega
  have e2 : HT.sIx (nD l).length (nD l).length (some ((a + s : Nat) : Int)) = a + s := by
    show (if ((a + s : Nat) : Int) < 0 then (((a + s : Nat) : Int) + ((nD l).length : Int)).toNat else min ((a + s : Nat) : Int).toNat (nD l).length) = a + s
    rw [if_neg (by omega), nD_len]
    omega
  unfold cutD
  rw [e1, e2, Nat.add_sub_cancel_left]
  unfold nD
  rw [List.map_take, List.map_drop]
theorem rng_nD (a c : Nat) : rngD (a : Int) c = nD ((List.range c).map fun j => a + j) := by
  unfold rngD nD
  rw [List.map_map]
  refine List.map_congr_left fun j _ => ?_
  show D.int ((a : Int) + (j : Int)) = D.int ((a + j : Nat) : Int)
  rw [Int.natCast_add]
section
variable {P : Program} {w : World} {K : PySem.W.Frag} {mg : Str → Option Value} {base : Heap}
theorem ok_counted (B : Bl mg) (F : FunG K mg "counted" s_counted)  : Pf P w K mg base "counted" 1 S_counted := by
  refine pf_mk F sc_counted (fun _ _ _ _ _ _ us hl => match us, hl with | [_, _, _], _ => rfl) (fun Z ds R h => by obtain ⟨s, m, k, t, rfl, _⟩ := h; rfl) (fun f cdv A outer s H E hr => ⟨_, (pss_cons (ps_set (i := 3) sc_counted.nd rfl (.inl rfl) (pe_op op_rep (pe_lst (pa_cons pe_int pa_nil)) (pe_len (K := K) rfl rfl B rfl (pa_cons (pv 1) pa_nil)))) (pss_cons (ps_asg pe_int (pg_sub (pv 3) pe_int set_list)) (pss_cons (ps_for PassesOwn.never rfl (pi_range1 rfl B.range (pa_cons (pv 2) pa_nil)) (pg_name (i := 4) sc_counted.nd rfl (.inl rfl)) (pss_cons (ps_set (i := 5) sc_counted.nd rfl (.inl rfl) (pe_op op_rep (pe_lst (pa_cons pe_int pa_nil)) (pe_len (K := K) rfl rfl B rfl (pa_cons (pv 1) pa_nil)))) (pss_cons (ps_for PassesOwn.never rfl (pi_zipK (K := K) rfl rfl B rfl (pa_cons (pv 1) (pa_cons (pv 3) pa_nil))) (pg_tupK (K := K) rfl rfl (pgs_cons (pg_name (i := 6) sc_counted.nd rfl (.inl rfl)) (pgs_cons (pg_name (i := 7) sc_counted.nd rfl (.inl rfl)) pgs_nil))) (pss_cons (ps_for PassesOwn.never rfl (pi_tupK (K := K) rfl (pe_ifExp (pt_val (pe_isi (K := K) rfl rfl B rfl (pa_cons (pv 6) (pa_cons (pe_tyT rfl B rfl) pa_nil)))) (pv 6) (pe_tup pa_nil))) (pg_name (i := 8) sc_counted.nd rfl (.inl rfl)) (pss_cons (ps_augS (pv 5) (pv 8) (pget_l (K := K) rfl) (pv 7) ip_add set_list) pss_nil)) pss_nil)) (pss_cons (ps_for PassesOwn.never rfl (pi_enumK (K := K) rfl rfl B rfl (pa_cons (pv 1) pa_nil)) (pg_tupK (K := K) rfl rfl (pgs_cons (pg_name (i := 9) sc_counted.nd rfl (.inl rfl)) (pgs_cons (pg_name (i := 6) sc_counted.nd rfl (.inl rfl)) pgs_nil))) (pss_cons (ps_if (pt_not (pt_val (pe_isi (K := K) rfl rfl B rfl (pa_cons (pv 6) (pa_cons (pe_tyT rfl B rfl) pa_nil))))) (pss_cons (ps_augS (pv 5) (pv 9) (pget_l (K := K) rfl) (pe_op op_mulW (pv 0) (pe_ixL (K := K) rfl (pv 3) (pv 9) (fun _ _ => rfl))) ip_add set_list) pss_nil) pss_nil) pss_nil)) (pss_cons (ps_set (i := 3) sc_counted.nd rfl (.inl rfl) (pv 5)) pss_nil))))) (pss_cons (ps_ret (pv 3)) pss_nil)))), fun Z ds R H0 hz hS => ?_⟩)
  obtain ⟨s, m, k, t, rfl, T, hk, rfl⟩ := hS
  have n1 := T.n1
  have n2 := T.n2
  have lent : ∀ {G : Ga} {L : Hl}, G[1]? = some (some (tbD t)) → EvP K H0 G L (tCB (rLen K) (tCons (tVar 1) tNil)) (.int ((t.length : Nat) : Int)) := fun h => EvP.cast (ev_cb (ea_cons (ev_var h) ea_nil) rc_lenT) (by rw [List.length_map])
  have zeros : ∀ {G : Ga} {L : Hl}, G[1]? = some (some (tbD t)) → EvN K H0 G L (tOp rRep (tLst (tCons (tC (.int 0)) tNil)) (tCB (rLen K) (tCons (tVar 1) tNil))) (New1 (.lst (fL t.length fun _ => 0))) := fun h => by
    rw [← fL_rep]
    exact en_rep (el_new (en_lst (ea_cons ev_int ea_nil) (by show 1 ≤ 100000; decide))) (lent h) (by show 1 * _ ≤ 100000; omega) (by omega)
  refine gq_new (zeros rfl) fun a0 => ?_
  refine gq_setL (k := 0) (d := .int 1) (i := 0) (j := 0) ev_int rfl (ev_var rfl) ev_int (ixN_of (j := 0) (by rw [fL_len]; omega)) ?_
  let Gx : Addr → Option D → Option D → Option D → Option D → Option D → Option D → Ga := fun a v4 v5 v6 v7 v8 v9 => [some (.int (s : Int)), some (tbD t), some (.int (k : Int)), some (.ref a), v4, v5, v6, v7, v8, v9]
  refine gq_for0 (ei_rng1 (n := (k : Int)) (ea_cons (ev_var rfl) ea_nil) (by omega) (by omega)) (fun i G L => ∃ (a : Addr) (v4 v5 v6 v7 v8 v9 : Option D), G = Gx a v4 v5 v6 v7 v8 v9 ∧ (a, .lst (fL t.length (cntT s t i))) ∈ L) ⟨a0, none, none, none, none, none, none, rfl, ?_⟩ (fun _ _ _ _ => trivial) (fun i d G L hd hI => ?_) (fun G L hI => ?_)
  · have e : (fL t.length fun _ => 0).set 0 (.int ((1 : Nat) : Int)) = fL t.length (cntT s t 0) := by rw [fL_set (by omega)]; rfl
    show (a0, O.lst (fL t.length (cntT s t 0))) ∈ [(a0, O.lst ((fL t.length fun _ => 0).set 0 (.int ((1 : Nat) : Int))))]
    rw [e]
    exact List.mem_cons_self
  · obtain ⟨a, v4, v5, v6, v7, v8, v9, rfl, ma⟩ := hI
    refine ⟨_, eg_name, gq_new (zeros rfl) fun b => go_nd fun hnd => ?_⟩
    have ab : a ≠ b := fun e => (List.nodup_cons.mp hnd).1 (List.mem_map.mpr ⟨_, ma, e⟩)
    have hd4 : ∃ v4', v4' = some d := ⟨_, rfl⟩
    -- open states
    refine gq_for0 (ds := prs (t.map rwD) (fL t.length (cntT s t i))) (ei_zip (ea_cons (ev_var rfl) (ea_cons (ev_var rfl) ea_nil)) (.tup _) (.lst (.inl (List.mem_cons_of_mem _ ma)))) (fun x G L => ∃ (v4 v6 v7 v8 v9 : Option D), G = Gx a v4 (some (.ref b)) v6 v7 v8 v9 ∧ (a, .lst (fL t.length (cntT s t i))) ∈ L ∧ (b, .lst (fL t.length (ctP s t i x))) ∈ L) ⟨_, v6, v7, v8, v9, rfl, List.mem_cons_of_mem _ ma, List.mem_cons_self⟩ (fun x G L h => ⟨trivial, .inl (by obtain ⟨_, _, _, _, _, _, h, _⟩ := h; exact h)⟩) (fun x d G L hd hI => ?_) (fun G L hI => ?_)
    · obtain ⟨v4, v6, v7, v8, v9, rfl, ma, mb⟩ := hI
      have hx : x < t.length := by have h1 := (List.getElem?_eq_some_iff.mp hd).1; rw [prs_len, List.length_map] at h1; omega
      obtain ⟨r, hr'⟩ := row_at hx
      rw [prs_get (tb_get hr') (fL_get hx)] at hd
      cases hd
      refine ⟨_, eg_two, ?_⟩
      have hls : ∀ y ∈ rwL r, y < t.length := by
        cases r with
        | go l => exact (T.go x l hr').2
        | fin o => exact fun y h => nomatch h
      have hst : ∀ y, ctP s t i (x + 1) y = ctP s t i x y + cntT s t i x * (rwL r).count y := fun y => by
        cases r with
        | go l => exact ctP_go hr'
        | fin o => rw [ctP_fin hr']; show _ = _ + _ * 0; omega
      refine go_last (gq_for0 (ds := nD (rwL r)) (ei_tup (EvP.cast (d := if isTup (rwD r) then rwD r else .tup []) (ev_if (et_B (ev_isTup (ev_var rfl) (tyn_rw r))) (fun hb => by rw [if_pos hb]; exact ev_var rfl) (fun hb => by rw [if_neg (by rw [hb]; exact Bool.false_ne_true)]; exact ev_tup ea_nil (by show 0 ≤ 100000; decide))) (by cases r <;> rfl))) (fun j G L => ∃ (v8 : Option D), G = Gx a v4 (some (.ref b)) (some (rwD r)) (some (.int (cntT s t i x : Int))) v8 v9 ∧ (a, .lst (fL t.length (cntT s t i))) ∈ L ∧ (b, .lst (fL t.length fun y => ctP s t i x y + cntT s t i x * ((rwL r).take j).count y)) ∈ L) ⟨v8, rfl, ma, ?_⟩ (fun _ _ _ _ => trivial) (fun j d G L hd hI => ?_) (fun G L hI => ?_))
      · rw [fL_congr (f := fun y => ctP s t i x y + cntT s t i x * ((rwL r).take 0).count y) (g := ctP s t i x) fun y _ => by show _ + _ * 0 = _; omega]
        exact mb
      · obtain ⟨v8, rfl, ma, mb⟩ := hI
        obtain ⟨y, hy, rfl⟩ := nD_of hd
        have hyt := hls y (List.mem_of_getElem? hy)
        obtain ⟨kb, hkb⟩ := List.getElem?_of_mem mb
        refine ⟨_, eg_name, go_last (gq_augS hkb (ev_var rfl) (ev_var rfl) (fL_get hyt) (ev_var rfl) (go_next ⟨_, rfl, hl_keep hkb ma ab, ?_⟩))⟩
        rw [← Int.natCast_add, fL_set hyt]
        have e := hl_put (o' := .lst (fL t.length fun z => if z = y then ctP s t i x y + cntT s t i x * ((rwL r).take j).count y + cntT s t i x else ctP s t i x z + cntT s t i x * ((rwL r).take j).count z)) hkb
        rw [fL_congr (f := fun z => ctP s t i x z + cntT s t i x * ((rwL r).take (j + 1)).count z) (g := fun z => if z = y then ctP s t i x y + cntT s t i x * ((rwL r).take j).count y + cntT s t i x else ctP s t i x z + cntT s t i x * ((rwL r).take j).count z) fun z _ => ?_]
        · exact e
        · have : (rwL r).take (j + 1) = (rwL r).take j ++ [y] := by rw [List.take_succ, hy]; rfl
          rw [this, List.count_append, List.count_singleton]
          by_cases q : z = y
          · subst q
            rw [if_pos rfl, if_pos (by simp), Nat.mul_add, Nat.mul_one]; omega
          · rw [if_neg q, if_neg (by simpa using fun h => q h.symm), Nat.add_zero]
      · obtain ⟨v8, rfl, ma, mb⟩ := hI
        rw [nD_len, List.take_length] at mb
        refine go_next ⟨_, _, _, _, _, rfl, ma, ?_⟩
        rw [fL_congr (f := ctP s t i (x + 1)) (g := fun y => ctP s t i x y + cntT s t i x * (rwL r).count y) fun y _ => hst y]
        exact mb
    · obtain ⟨v4, v6, v7, v8, v9, rfl, ma, mb⟩ := hI
      rw [prs_len, List.length_map, fL_len, Nat.min_self] at mb
      -- final states
      refine gq_for0 (ds := nums (t.map rwD)) (ei_enum (ea_cons (ev_var rfl) ea_nil) (.tup _)) (fun x G L => ∃ (v4 v6 v7 v8 v9 : Option D), G = Gx a v4 (some (.ref b)) v6 v7 v8 v9 ∧ (a, .lst (fL t.length (cntT s t i))) ∈ L ∧ (b, .lst (fL t.length (ctQ s t i x))) ∈ L) ⟨v4, v6, v7, v8, v9, rfl, ma, ?_⟩ (fun _ _ _ _ => trivial) (fun x d G L hd hI => ?_) (fun G L hI => ?_)
      · rw [fL_congr (f := ctQ s t i 0) (g := ctP s t i t.length) fun y _ => by unfold ctQ; rw [if_neg (by omega)]; rfl]
        exact mb
      · obtain ⟨v4, v6, v7, v8, v9, rfl, ma, mb⟩ := hI
        have hx : x < t.length := by have h1 := (List.getElem?_eq_some_iff.mp hd).1; rw [nums_len, List.length_map] at h1; omega
        obtain ⟨r, hr'⟩ := row_at hx
        rw [nums_get (tb_get hr')] at hd
        cases hd
        refine ⟨_, eg_two, ?_⟩
        refine go_last (gq_if2 (et_not (tt := tB _) (et_B (ev_isTup (ev_var rfl) (tyn_rw r)))) (fun hb => ?_) (fun hb => ?_))
        · cases r with
          | go l => cases hb
          | fin o =>
            obtain ⟨kb, hkb⟩ := List.getElem?_of_mem mb
            have hq : ctQ s t i x x = ctP s t i t.length x := by unfold ctQ; rw [if_neg (by omega)]; rfl
            refine gq_assoc (gq_augS hkb (ev_var rfl) (ev_var rfl) (fL_get hx) (EvP.cast (ev_op (ev_var rfl) (ev_op (ev_var rfl) (ev_var rfl) (rv_ixL (.inl ma) (atN (fL_get hx)))) (rv_mulW ?_)) (d := .int ((s : Int) * (cntT s t i x : Int))) (x := .int ((s * cntT s t i x : Nat) : Int)) (by rw [Int.natCast_mul])) (gq_nil (gq_nil (go_next ⟨_, _, _, _, _, rfl, hl_keep hkb ma ab, ?_⟩))))
            · have c1 : cntT s t i x ≤ s ^ i := by
                rw [← cnt_all T i]
                have := smN_le (n := t.length) (f := fun y => if y = x then cntT s t i x else 0) (g := cntT s t i) fun y _ => by
                  by_cases q : y = x
                  · subst q; rw [if_pos rfl]; exact Nat.le_refl _
                  · rw [if_neg q]; exact Nat.zero_le _
                rwa [smN_at (k := x) hx (fun y _ hy => if_neg hy), if_pos rfl] at this
              have hi : i < k := by have h1 := (List.getElem?_eq_some_iff.mp ‹(rngD 0 (Int.toNat (k : Int)))[i]? = some _›).1; rw [rngD_len] at h1; omega
              have c2 := pw_sz T.s2 i
              have s2 := T.s2
              exact wide_mul (a := 60) (b := 60 * i + 1) (by omega) (by rw [Int.natAbs_natCast]; omega) (by decide) (by omega) (by omega)
            · rw [← Int.natCast_add, fL_set hx]
              have e := hl_put (o' := .lst (fL t.length fun z => if z = x then ctQ s t i x x + s * cntT s t i x else ctQ s t i x z)) hkb
              rw [fL_congr (f := ctQ s t i (x + 1)) (g := fun z => if z = x then ctQ s t i x x + s * cntT s t i x else ctQ s t i x z) fun z _ => ?_]
              · exact e
              · unfold ctQ
                by_cases q : z = x
                · subst q
                  rw [if_pos rfl, if_pos (by omega), if_neg (by omega), hr', Nat.add_zero]
                · rw [if_neg q]
                  by_cases q2 : z < x
                  · rw [if_pos q2, if_pos (by omega)]
                  · rw [if_neg q2, if_neg (by omega)]
        · cases r with
          | fin o => cases hb
          | go l =>
            refine gq_nil (gq_nil (go_next ⟨_, _, _, _, _, rfl, ma, ?_⟩))
            rw [fL_congr (f := ctQ s t i (x + 1)) (g := ctQ s t i x) fun z _ => ?_]
            · exact mb
            · unfold ctQ
              by_cases q : z = x
              · subst q
                rw [if_pos (by omega), if_neg (by omega), hr']
              · by_cases q2 : z < x
                · rw [if_pos q2, if_pos (by omega)]
                · rw [if_neg q2, if_neg (by omega)]
      · obtain ⟨v4, v6, v7, v8, v9, rfl, ma, mb⟩ := hI
        rw [nums_len, List.length_map] at mb
        refine go_last (gq_set (ev_var rfl) (go_next ⟨b, _, _, _, _, _, _, rfl, ?_⟩))
        rw [fL_congr (f := cntT s t (i + 1)) (g := ctQ s t i t.length) fun y hy => (ctQ_end hy).symm]
        exact mb
  · obtain ⟨a, v4, v5, v6, v7, v8, v9, rfl, ma⟩ := hI
    rw [rngD_len, Int.toNat_natCast] at ma
    exact go_sub (List.singleton_sublist.mpr ma) (gq_retA (ev_var rfl) ⟨a, rfl, rfl⟩)
theorem nD_app2 (a b : List Nat) : nD (a ++ b) = nD a ++ nD b := by unfold nD; rw [List.map_append]
theorem nD_rep (c v : Nat) : nD (List.replicate c v) = (List.replicate c [D.int (v : Int)]).flatten := by
  unfold nD
  rw [List.map_replicate]
  induction c with
  | zero => rfl
  | succ c ih => rw [List.replicate_succ, List.replicate_succ, List.flatten_cons, ← ih]; rfl
/-- part of dcB -/
def dcP (s N : Nat) (as : List Nat) (n k x : Nat) : List Nat := ((List.range x).map fun o => List.replicate (dig s N k (as.getD o 0)) (fsB s N as n + (fo as).idxOf o)).flatten
theorem dcP_succ (s N : Nat) (as : List Nat) (n k x : Nat) : dcP s N as n k (x + 1) = dcP s N as n k x ++ List.replicate (dig s N k (as.getD x 0)) (fsB s N as n + (fo as).idxOf x) := by
  unfold dcP
  rw [List.range_succ, List.map_append, List.flatten_append]
  show _ ++ (_ ++ []) = _
  rw [List.append_nil]
theorem dcP_len {s N : Nat} {as : List Nat} (hc : Ch N as) (hs : s ≤ 6) (n k : Nat) {x : Nat} (hx : x ≤ as.length) : (dcP s N as n k x).length ≤ 30 := by
  have e1 : (dcP s N as n k x).length ≤ (dcB s N as n k).length := by
    unfold dcP dcB
    rw [flat_len, flat_len]
    exact smN_mono _ hx
  have e2 := dcB_len (s := s) (N := N) (as := as) (n := n) k
  have e3 := opn_succ (s := s) (k := k) hc
  have e4 := opn_lt (s := s) (k := k) hc
  have l6 := hc.l6
  have : s * opn s N as k ≤ 6 * 5 := Nat.mul_le_mul hs (by omega)
  omega
theorem ok_level_states (B : Bl mg) (F : FunG K mg "level_states" s_level_states) (hOp : Pf P w K mg base "open_at_least" 3 S_oal) (hDg : Pf P w K mg base "digits_at" 3 S_digs) : Pf P w K mg base "level_states" 4 S_level := by
  refine pf_mk F sc_level_states (fun _ _ _ _ _ _ us hl => match us, hl with | [_, _, _, _, _], _ => rfl) (fun Z ds R h => by obtain ⟨N, as, s, n, b, k, da, rfl, _⟩ := h; rfl) (fun f cdv A outer s H E hr => ⟨_, (pss_cons (ps_set (i := 5) sc_level_states.nd rfl (.inl rfl) (pe_pf hOp hr (by decide) rfl (pa_cons (pv 0) (pa_cons (pv 1) (pa_cons (pv 2) pa_nil))))) (pss_cons (ps_set (i := 6) sc_level_states.nd rfl (.inl rfl) (pe_pf hDg hr (by decide) rfl (pa_cons (pv 0) (pa_cons (pv 1) (pa_cons (pe_op op_add (pv 2) pe_int) pa_nil))))) (pss_cons (ps_set (i := 7) sc_level_states.nd rfl (.inr rfl) (pe_lst pa_nil)) (pss_cons (ps_for PassesOwn.never rfl (pi_enumK (K := K) rfl rfl B rfl (pa_cons (pv 6) pa_nil)) (pg_tupK (K := K) rfl rfl (pgs_cons (pg_name (i := 8) sc_level_states.nd rfl (.inl rfl)) (pgs_cons (pg_name (i := 9) sc_level_states.nd rfl (.inl rfl)) pgs_nil))) (pss_cons (ps_if (pt_cmpR op_gt (pv 9) pe_int (nomark _)) (pss_cons (ps_expr (pe_bm PySem.F.plainAttrs_list PySem.F.slot_list_extend PySem.F.type_list_extend mt_extend (pv 7) (pa_cons (pe_op op_rep (pe_lst (pa_cons (pe_dget (hu_of hr) (pv 4) (pv 8) (fun _ _ => rfl)) pa_nil)) (pv 9)) pa_nil))) pss_nil) pss_nil) pss_nil)) (pss_cons (ps_expr (pe_bm PySem.F.plainAttrs_list PySem.F.slot_list_extend PySem.F.type_list_extend mt_extend (pv 7) (pa_cons (pe_lrg rfl rfl B rfl (prg_2 rfl B.range (pv 3) (pe_op op_sub (pe_op op_add (pv 3) (pe_op op_mulW (pv 1) (pv 5))) (pe_len (K := K) rfl rfl B rfl (pa_cons (pv 7) pa_nil))))) pa_nil))) (pss_cons (ps_ret (pe_lc (own := [("own", 10)]) (g := gName 10) rfl sc_level_states.nd (pi_range1 rfl B.range (pa_cons (pv 5) pa_nil)) (blkOk_by (own := [("own", 10)]) (N := ["chances", "sides", "place", "names", "again", "here", "decided", "later", "outcome", "count", "own"]) (sc := defScope (s_level_states)) (by decide +kernel)) (fun _ _ _ _ _ => (pg_name (i := 10) sc_level_states.nd rfl (.inl rfl))) (fun _ _ _ _ _ => pts_nil) (fun _ _ _ _ _ => (pe_tuple (K := K) rfl rfl B rfl (pa_cons (pe_slice (sl_listK (K := K) rfl) (pv 7) (po_some (pe_op op_mulW (pv 10) (pv 1))) (po_some (pe_op op_add (pe_op op_mulW (pv 10) (pv 1)) (pv 1)))) pa_nil))))) pss_nil)))))), fun Z ds R H0 hz hS => ?_⟩)
  obtain ⟨N, as, s, n, b, k, da, rfl, rfl, A, C, hk, hf, rfl⟩ := hS
  have n0 := A.ch.pos
  have s1 := A.s1
  have s2 := A.s2
  have k2 := A.k2
  have l6 := A.ch.l6
  have kd : ∀ L, Lk K H0 L da (.dct (fnD as (fsB s N as n) as.length)) := fun L => .inr (hz _ List.mem_cons_self)
  have A0 : Arg N as s k := ⟨A.ch, A.n5, A.s1, A.s2, by omega⟩
  have hop : opn s N as k ≤ 5 := by have := opn_lt (s := s) (k := k) A.ch; omega
  have hso : s * opn s N as k ≤ 6 * 5 := Nat.mul_le_mul s2 hop
  have hnx : fsB s N as (nxB n b k) ≤ 200 := Nat.le_trans (fs_mono (Nat.le_of_lt (nxB_lt C.lt k))) hf
  refine gq_set (ev_call (ea_cons (ev_var rfl) (ea_cons (ev_var rfl) (ea_cons (ev_var rfl) ea_nil))) ⟨N, as, s, k, rfl, A0, rfl⟩) ?_
  refine gq_set (d := .tup (nD (as.map (dig s N k)))) (ev_call (ea_cons (ev_var rfl) (ea_cons (ev_var rfl) (ea_cons (EvP.cast (ev_op (ev_var rfl) ev_int rv_add) (x := .int ((k + 1 : Nat) : Int)) rfl) ea_nil))) ⟨N, as, s, k + 1, rfl, A, rfl⟩) ?_
  refine gq_new (en_lst ea_nil (by decide)) fun l => ?_
  let Gx : Option D → Option D → Option D → Ga := fun v8 v9 v10 => [some (.tup (chL N as)), some (.int (s : Int)), some (.int (k : Int)), some (.int (fsB s N as (nxB n b k) : Int)), some (.ref da), some (.int (opn s N as k : Int)), some (.tup (nD (as.map (dig s N k)))), some (.ref l), v8, v9, v10]
  refine gq_for0 (ei_enum (ea_cons (ev_var rfl) ea_nil) (.tup _)) (fun x G L => ∃ v8 v9, G = Gx v8 v9 none ∧ L = [(l, .lst (nD (dcP s N as n k x)))]) ⟨none, none, rfl, rfl⟩ (fun _ _ _ _ => trivial) (fun x d G L hd hI => ?_) (fun G L hI => ?_)
  · obtain ⟨v8, v9, rfl, rfl⟩ := hI
    have hx : x < as.length := by have h1 := (List.getElem?_eq_some_iff.mp hd).1; rw [nums_len, nD_len, List.length_map] at h1; exact h1
    have hax : as[x]? = some (as.getD x 0) := by rw [List.getD_eq_getElem?_getD, List.getElem?_eq_getElem hx]; rfl
    rw [nums_get (nD_get (x := dig s N k (as.getD x 0)) (by rw [List.getElem?_map, hax]; rfl))] at hd
    cases hd
    have hl1 := dcP_len A.ch s2 n k (show x + 1 ≤ as.length by omega)
    rw [dcP_succ, List.length_append, List.length_replicate] at hl1
    refine ⟨_, eg_two, go_last (gq_if2 (et_test (ev_op (ev_var rfl) ev_int rv_gt)) (fun hb => ?_) (fun hb => ?_))⟩
    · have hp : 0 < dig s N k (as.getD x 0) := by have := of_decide_eq_true hb; omega
      have hnz : as.getD x 0 ≠ 0 := fun z => by rw [z, dig_zero] at hp; omega
      refine gq_assoc (gq_extend (k := 0) (Pf := fun ys => ys = nD (List.replicate (dig s N k (as.getD x 0)) (fsB s N as n + (fo as).idxOf x))) rfl (ev_var rfl) (en_rep (k := dig s N k (as.getD x 0)) (el_new (en_lst (ea_cons (ev_dget (ev_var rfl) (kd _) (ev_var rfl) (fnD_val hx hnz)) ea_nil) (by show 1 ≤ 100000; decide))) (ev_var rfl) (by show 1 * _ ≤ 100000; omega) (by omega)) (fun d N' h => ?_) (fun ys hy => gq_nil (gq_nil (go_next ?_))))
      · obtain ⟨c, rfl, rfl⟩ := h
        refine ⟨c, _, rfl, rfl, (nD_rep _ _).symm, ?_⟩
        rw [← nD_rep, nD_len, nD_len, List.length_replicate]
        omega
      · subst hy
        rw [← nD_app2, ← dcP_succ]
        exact ⟨_, _, rfl, rfl⟩
    · have hp : dig s N k (as.getD x 0) = 0 := by have := of_decide_eq_false hb; omega
      refine gq_nil (gq_nil (go_next ⟨_, _, rfl, ?_⟩))
      rw [dcP_succ, hp, List.replicate_zero, List.append_nil]
  · obtain ⟨v8, v9, rfl, rfl⟩ := hI
    rw [nums_len, nD_len, List.length_map]
    have hl := dcP_len A.ch s2 n k (Nat.le_refl as.length)
    have hle : (dcP s N as n k as.length).length ≤ s * opn s N as k := by
      have e2 := dcB_len (s := s) (N := N) (as := as) (n := n) k
      have e3 := opn_succ (s := s) (k := k) A.ch
      show (dcB s N as n k).length ≤ _
      omega
    have hsub : (((fsB s N as (nxB n b k) : Int) + (s : Int) * (opn s N as k : Int) - ((nD (dcP s N as n k as.length)).length : Int)) - (fsB s N as (nxB n b k) : Int)).toNat = s * opn s N as k - (dcP s N as n k as.length).length := by
      rw [nD_len, ← Int.natCast_mul]
      omega
    refine gq_extend (k := 0) (Pf := fun ys => ys = nD ((List.range (s * opn s N as k - (dcP s N as n k as.length).length)).map fun j => fsB s N as (nxB n b k) + j)) rfl (ev_var rfl) (en_lrng2 (ev_var rfl) (ev_op (ev_op (ev_var rfl) (ev_op (ev_var rfl) (ev_var rfl) (rv_mulW (wide_mul (a := 60) (b := 60) (by omega) (by omega) (by decide) (by decide) (by decide)))) rv_add) (ev_cb (ea_cons (ev_var rfl) ea_nil) (rc_lenL (.inl List.mem_cons_self))) rv_sub) (by omega) (by omega) ?_ ?_) (fun d N' h => ?_) (fun ys hy => ?_)
    · rw [nD_len, ← Int.natCast_mul]; omega
    · rw [nD_len, ← Int.natCast_mul]; omega
    · obtain ⟨c, rfl, rfl⟩ := h
      refine ⟨c, _, rfl, rfl, ?_, ?_⟩
      · rw [hsub, rng_nD]
      · rw [hsub, rngD_len, nD_len]; omega
    · subst hy
      rw [← nD_app2]
      have hm : (l, O.lst (nD (ltB s N as n b k))) ∈ [(l, O.lst (nD (ltB s N as n b k)))] := List.mem_cons_self
      refine go_last (gq_ret (EvN.imp (en_lcY (v := fun d => match d with | .int i => rwD (.go (rowB s N as n b k i.toNat)) | _ => .non) (ei_rng1 (n := (opn s N as k : Int)) (ea_cons (ev_var rfl) ea_nil) (by omega) (by omega)) (fun _ => trivial) (fun d hd => ?_) (by rw [rngD_len]; omega)) (P' := New1 (.lst ((lvB s N as n b k).map rwD))) fun d N' h => ?_) (fun d N' h => ⟨N', List.sublist_append_left _ _, h⟩))
      · obtain ⟨i, hi⟩ := List.getElem?_of_mem hd
        have hil := (List.getElem?_eq_some_iff.mp hi).1
        rw [rngD_len, Int.toNat_natCast] at hil
        rw [rngD_get (by rw [Int.toNat_natCast]; exact hil), Int.zero_add] at hi
        cases hi
        have hi1 : i * s + s ≤ opn s N as k * s := by rw [← Nat.succ_mul]; exact Nat.mul_le_mul_right s hil
        have cm : ∀ {G : Ga}, CMulW (i : Int) (s : Int) := fun {_} => wide_mul (a := 60) (b := 60) (by omega) (by omega) (by decide) (by decide) (by decide)
        refine EvP.cast (ev_tupN (en_slL (lo := some ((i * s : Nat) : Int)) (hi := some ((i * s + s : Nat) : Int)) (ev_var rfl) (.inl hm) (eo_some (EvP.cast (ev_op (ev_var rfl) (ev_var rfl) (rv_mulW (cm (G := [])))) (by rw [Int.natCast_mul]))) (eo_some (EvP.cast (ev_op (ev_op (ev_var rfl) (ev_var rfl) (rv_mulW (cm (G := [])))) (ev_var rfl) rv_add) (by rw [Int.natCast_add, Int.natCast_mul]))))) ?_
        rw [cut_mid (by rw [ltB_len A.ch]; exact hi1)]
        rfl
      · obtain ⟨c, rfl, rfl⟩ := h
        refine ⟨c, rfl, ?_⟩
        congr 1
        unfold rngD lvB
        rw [List.map_map, List.map_map, Int.toNat_natCast]
        congr 3
        funext j
        show (match D.int (0 + (j : Int)) with | .int i => rwD (.go (rowB s N as n b k i.toNat)) | _ => D.non) = rwD (.go (rowB s N as n b k j))
        rw [Int.zero_add]
        show rwD (.go (rowB s N as n b k (Int.toNat (j : Int)))) = _
        rw [Int.toNat_natCast]
theorem fL_succ (n : Nat) (f : Nat → Nat) : fL (n + 1) f = fL n f ++ [.int (f n : Int)] := by unfold fL; rw [List.range_succ, List.map_append, nD_app2]; rfl
theorem fr_inj {r q : Rat} (h : fr r = fr q) : r = q := by
  unfold fr at h
  have h1 := D.tup.inj h
  injection h1 with a b
  injection b with b c
  exact Rat.ext (D.int.inj a) (Int.ofNat.inj (D.int.inj b))
theorem cf_fr {N a : Nat} (h : 0 < N) (z : Int) : cf N a = fr (mkRat z 1) ↔ (a : Int) = z * N := by
  unfold cf
  constructor
  · intro e
    have := (Rat.mkRat_eq_iff (by omega) (by decide)).mp (fr_inj e)
    simpa using this
  · intro e
    exact congrArg fr ((Rat.mkRat_eq_iff (d₁ := N) (d₂ := 1) (by omega) (by decide)).mpr (by rw [e]; simp))
theorem one_in {N : Nat} {as : List Nat} (h : 0 < N) : fr (mkRat 1 1) ∈ chL N as ↔ N ∈ as := by
  constructor
  · intro e
    obtain ⟨a, ha, e⟩ := chL_mem e
    have : a = N := by have := (cf_fr h 1).mp e.symm; omega
    rwa [← this]
  · intro e
    rw [← (cf_fr (a := N) h 1).mpr (by omega)]
    exact List.mem_map.mpr ⟨N, e, rfl⟩
theorem fr_zero : fr 0 = fr (mkRat 0 1) := rfl
theorem pok_fr (r : Rat) : pok 1 (fr r) = true := pok_tup fun d hd => by
  rcases List.mem_cons.mp hd with rfl | hd
  · rw [pok]
  · rcases List.mem_cons.mp hd with rfl | hd
    · rw [pok]
    · exact nomatch hd
theorem pok_chL {N : Nat} {as : List Nat} : ∀ d ∈ chL N as, pok 1 d = true := fun d hd => by
  obtain ⟨a, _, rfl⟩ := chL_mem hd
  exact pok_fr _
theorem chL_getD {N : Nat} {as : List Nat} {i : Nat} (h : i < as.length) : (chL N as)[i]? = some (cf N (as.getD i 0)) := by
  unfold chL
  rw [List.getElem?_map, List.getD_eq_getElem?_getD, List.getElem?_eq_getElem h]
  rfl
theorem fnD_finals (as : List Nat) (sz : Nat) : (fnD as sz as.length).map (fun kv => kD kv.1) = ((fo as).map Rw.fin).map rwD := by
  unfold fnD fo
  rw [List.map_map, List.map_map]
  rfl
theorem fnD_size {as : List Nat} {sz o : Nat} (h : o < as.length) (hz : as.getD o 0 ≠ 0) : sz + (fnD as sz o).length = sz + (fo as).idxOf o := by
  rw [idx_fo h hz]
  unfold fnD
  rw [List.length_map]
theorem lv_size {s N : Nat} {as : List Nat} {n b : Nat} (p : Nat) : (((List.range p).map (lvB s N as n b)).flatten).length = fsB s N as p := by rw [flat_len, fs_eq]
theorem lv_succ {s N : Nat} {as : List Nat} {n b : Nat} (p : Nat) : ((List.range (p + 1)).map (lvB s N as n b)).flatten = ((List.range p).map (lvB s N as n b)).flatten ++ lvB s N as n b p := by
  rw [List.range_succ, List.map_append, List.flatten_append]
  show _ ++ (_ ++ []) = _
  rw [List.append_nil]
theorem ok_best_table (B : Bl mg) (F : FunG K mg "best_table" s_best_table) (C : Cs K mg) (hR : Pf P w K mg base "ratio" 2 S_ratio) (hCo : Pf P w K mg base "course" 4 S_course) (hOp : Pf P w K mg base "open_at_least" 3 S_oal) (hLv : Pf P w K mg base "level_states" 4 S_level) : Pf P w K mg base "best_table" 5 S_btab := by
  obtain ⟨za, hzm, hz0⟩ := C.zero
  refine pf_mk F sc_best_table (fun _ _ _ _ _ _ us hl => match us, hl with | [_, _], _ => rfl) (fun Z ds R h => by obtain ⟨N, as, s, rfl, _⟩ := h; rfl) (fun f cdv A outer s H E hr => ⟨_, (pss_cons (ps_if (pt_cmpR (op_inT (K := K) rfl (un65 hr)) (pe_pf hR hr (by decide) rfl (pa_cons pe_int (pa_cons pe_int pa_nil))) (pv 0) rfl) (pss_cons (ps_ret (pe_tup (pa_cons (pe_tm PySem.F.slot_tuple_index PySem.F.type_tuple_index (mt_idxT (K := K) rfl (un65 hr)) (pv 0) (pa_cons (pe_tup (pa_cons pe_int (pa_cons pe_int pa_nil))) pa_nil)) pa_nil))) pss_nil) pss_nil) (pss_cons (ps_asg (pe_pf hCo hr (by decide) rfl (pa_cons (pv 0) (pa_cons (pv 1) pa_nil))) (pg_tupK (K := K) rfl rfl (pgs_cons (pg_name (i := 5) sc_best_table.nd rfl (.inl rfl)) (pgs_cons (pg_name (i := 6) sc_best_table.nd rfl (.inl rfl)) pgs_nil)))) (pss_cons (ps_set (i := 2) sc_best_table.nd rfl (.inl rfl) (pe_lst (pa_cons pe_int pa_nil))) (pss_cons (ps_for PassesOwn.never rfl (pi_range1 rfl B.range (pa_cons (pe_len (K := K) rfl rfl B rfl (pa_cons (pv 5) pa_nil)) pa_nil)) (pg_name (i := 3) sc_best_table.nd rfl (.inl rfl)) (pss_cons (ps_expr (pe_bm PySem.F.plainAttrs_list PySem.F.slot_list_append PySem.F.type_list_append mt_append (pv 2) (pa_cons (pe_op op_add (pe_ixL (K := K) rfl (pv 2) (pe_un un_neg pe_int) (fun _ _ => rfl)) (pe_pf hOp hr (by decide) rfl (pa_cons (pv 0) (pa_cons (pv 1) (pa_cons (pv 3) pa_nil))))) pa_nil))) pss_nil)) (pss_cons (ps_par (i := 7) (j := 8) rfl sc_best_table.nd rfl rfl (by decide) rfl rfl (pa_cons pe_dnewK (pa_cons (pe_ixL (K := K) rfl (pv 2) (pe_un un_neg pe_int) (fun _ _ => rfl)) pa_nil)) (by rfl)) (pss_cons (ps_for PassesOwn.never rfl (pi_enumK (K := K) rfl rfl B rfl (pa_cons (pv 0) pa_nil)) (pg_tupK (K := K) rfl rfl (pgs_cons (pg_name (i := 9) sc_best_table.nd rfl (.inl rfl)) (pgs_cons (pg_name (i := 10) sc_best_table.nd rfl (.inl rfl)) pgs_nil))) (pss_cons (ps_if (pt_cmpR (op_neK (K := K) rfl hr.units) (pv 10) (pe_cref hzm rfl) (nomark _)) (pss_cons (ps_dput (hu_of hr) (pv 7) (pv 9) (pv 8) rfl) (pss_cons (ps_aug (i := 8) sc_best_table.nd rfl (.inl rfl) pe_int ip_add) pss_nil)) pss_nil) pss_nil)) (pss_cons (ps_set (i := 4) sc_best_table.nd rfl (.inl rfl) (pe_lst pa_nil)) (pss_cons (ps_for PassesOwn.never rfl (pi_range1 rfl B.range (pa_cons (pe_len (K := K) rfl rfl B rfl (pa_cons (pv 5) pa_nil)) pa_nil)) (pg_name (i := 3) sc_best_table.nd rfl (.inl rfl)) (pss_cons (ps_set (i := 11) sc_best_table.nd rfl (.inl rfl) (pe_ifExp (pt_cmpR op_lt (pe_op op_add (pv 3) pe_int) (pe_len (K := K) rfl rfl B rfl (pa_cons (pv 5) pa_nil)) (nomark _)) (pe_ixL (K := K) rfl (pv 2) (pe_op op_add (pv 3) pe_int) (fun _ _ => rfl)) (pe_ixL (K := K) rfl (pv 2) (pv 6) (fun _ _ => rfl)))) (pss_cons (ps_expr (pe_bm PySem.F.plainAttrs_list PySem.F.slot_list_extend PySem.F.type_list_extend mt_extend (pv 4) (pa_cons (pe_pf hLv hr (by decide) rfl (pa_cons (pv 0) (pa_cons (pv 1) (pa_cons (pv 3) (pa_cons (pv 11) (pa_cons (pv 7) pa_nil)))))) pa_nil))) pss_nil))) (pss_cons (ps_ret (pe_tuple (K := K) rfl rfl B rfl (pa_cons (pe_op op_cat (pv 4) (pe_lstD rfl rfl B rfl (pa_cons (pv 7) pa_nil))) pa_nil))) pss_nil))))))))), fun Z ds R H0 hz hS => ?_⟩)
  obtain ⟨N, as, s, rfl, A, rfl⟩ := hS
  have n0 := A.ch.pos
  have s1 := A.s1
  have s2 := A.s2
  have l6 := A.ch.l6
  have ar : ∀ k, k ≤ 100 → Arg N as s k := fun k hk => ⟨A.ch, A.n5, A.s1, A.s2, hk⟩
  refine gq_ifL (b := decide (N ∈ as)) (et_test (ev_op (ev_call (ea_cons ev_int (ea_cons ev_int ea_nil)) ⟨1, 1, rfl, by decide, by decide, rfl⟩) (EvP.tN (ev_var rfl)) (rv_inT (n := 1) (m := 1) pok_chL (pok_fr _) (by decide) (by decide) (by rw [decide_eq_true_iff]; exact (one_in n0).symm)))) (fun hb => ?_) (fun hb => ?_)
  · have ha := of_decide_eq_true hb
    obtain ⟨o, ho⟩ := List.getElem?_of_mem ha
    have hol := (List.getElem?_eq_some_iff.mp ho).1
    have hog : as.getD o 0 = N := by rw [List.getD_eq_getElem?_getD, ho]; rfl
    rw [bestT_of A.ch (BT.one hol hog)]
    refine gq_retP (ev_tup (ea_cons (ev_indexT (n := 1) (m := 1) (j := o) (x := fr (mkRat 1 1)) (ev_var rfl) (ev_tup (ea_cons ev_int (ea_cons ev_int ea_nil)) (by show 2 ≤ 100000; decide)) ?_ (fun i hi => ?_) pok_chL (pok_fr _) (by decide) (by decide)) ea_nil) (by show 1 ≤ 100000; decide)) rfl
    · rw [chL_getD hol, hog, (cf_fr n0 1).mpr (by omega)]
    · rw [chL_getD (by omega)]
      intro z
      have h1 := (cf_fr n0 1).mp (Option.some.inj z)
      rw [one_only A.ch hol (show i < as.length by omega) hog (by omega)] at h1
      omega
  · have hlt : ∀ a ∈ as, a < N := fun a ha => by
      have h1 := A.ch.le ha
      have h2 : a ≠ N := fun z => of_decide_eq_false hb (z ▸ ha)
      omega
    refine gq_setN (en_call (ea_cons (EvP.tN (ev_var rfl)) (ea_cons (ev_var rfl) ea_nil)) ⟨N, as, s, rfl, ar 0 (by omega), A.cb, A.sm, rfl⟩ noZ) fun d N' h => ?_
    obtain ⟨l, n, b, rfl, rfl, C, hdis⟩ := h
    refine ⟨_, eg_two, ?_⟩
    have hn30 : n ≤ 30 := dist_le n0 s1 s2 A.sm hdis
    have hbs := best_size A.ch s1 s2 A.sm hdis
    rw [bestT_of A.ch (BT.go hlt C hdis)]
    refine gq_new (en_lst (ea_cons ev_int ea_nil) (by show 1 ≤ 100000; decide)) fun f => ?_
    let Gx : Addr → Option D → Option D → Option D → Option D → Option D → Option D → Option D → Ga := fun f v3 v4 v7 v8 v9 v10 v11 => [some (.tupN (chL N as)), some (.int (s : Int)), some (.ref f), v3, v4, some (.ref l), some (.int (b : Int)), v7, v8, v9, v10, v11]
    have lenS : ∀ {G : Ga} {L : Hl}, G[5]? = some (some (.ref l)) → (l, O.lst (snL s N as n)) ∈ L → EvP K H0 G L (tCB (rLen K) (tCons (tVar 5) tNil)) (.int (n : Int)) := fun h m => EvP.cast (ev_cb (ea_cons (ev_var h) ea_nil) (rc_lenL (.inl m))) (by rw [snL_len])
    have last : ∀ p : Nat, atI (fL (p + 1) (fsB s N as)) (-1) = some (.int (fsB s N as p : Int)) := fun p => atM (by rw [fL_succ, List.getLast?_append]; rfl)
    refine gq_for0 (ei_rng1 (n := (n : Int)) (ea_cons (lenS rfl (List.mem_cons_of_mem _ List.mem_cons_self)) ea_nil) (by omega) (by omega)) (fun p G L => ∃ v3, G = Gx f v3 none none none none none none ∧ L = [(f, .lst (fL (p + 1) (fsB s N as))), (l, .lst (snL s N as n))]) ⟨none, rfl, rfl⟩ (fun _ _ _ _ => trivial) (fun p d G L hd hI => ?_) (fun G L hI => ?_)
    · obtain ⟨v3, rfl, rfl⟩ := hI
      have hp : p < n := by have h1 := (List.getElem?_eq_some_iff.mp hd).1; rw [rngD_len, Int.toNat_natCast] at h1; exact h1
      rw [rngD_get (by rw [Int.toNat_natCast]; exact hp), Int.zero_add] at hd
      cases hd
      refine ⟨_, eg_name, go_last (gq_append (k := 0) rfl (ev_var rfl) (ev_op (ev_op (ev_var rfl) (ev_un1 ev_int) (rv_ixL (.inl List.mem_cons_self) (last p))) (ev_call (ea_cons (EvP.tN (ev_var rfl)) (ea_cons (ev_var rfl) (ea_cons (ev_var rfl) ea_nil))) ⟨N, as, s, p, rfl, ar p (by omega), rfl⟩) rv_add) (by rw [fL_len]; omega) (go_next ⟨some (.int (p : Int)), rfl, ?_⟩))⟩
      rw [fL_succ (p + 1)]
      rfl
    · obtain ⟨v3, rfl, rfl⟩ := hI
      rw [rngD_len, Int.toNat_natCast]
      refine gq_parN (ean_two en_dnew (EvP.nw (P := fun d N' => d = .int (fsB s N as n : Int) ∧ N' = []) (ev_op (ev_var rfl) (ev_un1 ev_int) (rv_ixL (.inl List.mem_cons_self) (last n))) ⟨rfl, rfl⟩)) fun ds N' h => ?_
      obtain ⟨x, y, N1, N2, rfl, ⟨dd, rfl, rfl⟩, ⟨rfl, rfl⟩, rfl⟩ := h
      refine ⟨_, _, rfl, ?_⟩
      refine gq_for0 (ei_enum (ea_cons (EvP.tN (ev_var rfl)) ea_nil) (.tup _)) (fun o G L => ∃ v9 v10, G = Gx f v3 none (some (.ref dd)) (some (.int ((fsB s N as n + (fnD as (fsB s N as n) o).length : Nat) : Int))) v9 v10 none ∧ L = [(dd, .dct (fnD as (fsB s N as n) o)), (f, .lst (fL (n + 1) (fsB s N as))), (l, .lst (snL s N as n))]) ⟨none, none, rfl, rfl⟩ (fun _ _ _ _ => trivial) (fun o d G L hd hI => ?_) (fun G L hI => ?_)
      · obtain ⟨v9, v10, rfl, rfl⟩ := hI
        have ho : o < as.length := by have h1 := (List.getElem?_eq_some_iff.mp hd).1; rw [nums_len, chL_len] at h1; exact h1
        rw [nums_get (chL_getD ho)] at hd
        cases hd
        refine ⟨_, eg_two, go_last (gq_if2 (b := !decide (as.getD o 0 = 0)) (et_test (ev_op (ev_var rfl) (ev_k hz0) (rv_neD (n := 1) (m := 1) (pok_fr _) (pok_fr _) (by decide) (by decide) ?_))) (fun hb => ?_) (fun hb => ?_))⟩
        · rw [decide_eq_true_iff, fr_zero, cf_fr n0 0]
          omega
        · have hz : as.getD o 0 ≠ 0 := by simpa using hb
          refine gq_assoc (gq_dput (k := 0) (ev_var rfl) (ev_var rfl) (ev_var rfl) rfl (by have := fnD_len as (fsB s N as n) o; omega) (gq_assoc (gq_aug (i := 8) rfl ev_int (gq_nil (gq_nil (go_next ⟨some (.int (o : Int)), some (cf N (as.getD o 0)), ?_, ?_⟩))))))
          · rw [fnD_succ hz, List.length_append]
            rfl
          · rw [fnD_succ hz, ← fnD_size ho hz]
            unfold putD
            rw [fnD_any]
            rfl
        · have hz : as.getD o 0 = 0 := by simpa using hb
          refine gq_nil (gq_nil (go_next ⟨some (.int (o : Int)), some (cf N (as.getD o 0)), ?_, ?_⟩))
          · rw [fnD_skip hz]; rfl
          · rw [fnD_skip hz]
      · obtain ⟨v9, v10, rfl, rfl⟩ := hI
        rw [nums_len, chL_len]
        refine gq_new (en_lst ea_nil (by decide)) fun r => ?_
        refine gq_for0 (ei_rng1 (n := (n : Int)) (ea_cons (lenS rfl (List.mem_cons_of_mem _ (List.mem_cons_of_mem _ (List.mem_cons_of_mem _ List.mem_cons_self)))) ea_nil) (by omega) (by omega)) (fun p G L => ∃ v3 v11, G = Gx f v3 (some (.ref r)) (some (.ref dd)) (some (.int ((fsB s N as n + (fnD as (fsB s N as n) as.length).length : Nat) : Int))) v9 v10 v11 ∧ L = [(r, .lst ((((List.range p).map (lvB s N as n b)).flatten).map rwD)), (dd, .dct (fnD as (fsB s N as n) as.length)), (f, .lst (fL (n + 1) (fsB s N as))), (l, .lst (snL s N as n))]) ⟨v3, none, rfl, rfl⟩ (fun _ _ _ _ => trivial) (fun p d G L hd hI => ?_) (fun G L hI => ?_)
        · obtain ⟨v3, v11, rfl, rfl⟩ := hI
          have hp : p < n := by have h1 := (List.getElem?_eq_some_iff.mp hd).1; rw [rngD_len, Int.toNat_natCast] at h1; exact h1
          rw [rngD_get (by rw [Int.toNat_natCast]; exact hp), Int.zero_add] at hd
          cases hd
          have mf : ∀ {q : Addr × O} {q2 : Addr × O} {q3 : Addr × O}, (f, O.lst (fL (n + 1) (fsB s N as))) ∈ [q, q2, (f, .lst (fL (n + 1) (fsB s N as))), q3] := List.mem_cons_of_mem _ (List.mem_cons_of_mem _ List.mem_cons_self)
          have hlv : (lvB s N as n b p).length ≤ 100 := by
            rw [lvB_len]
            have := fs_mono (s := s) (N := N) (as := as) (show p + 1 ≤ n from hp)
            rw [fs_succ] at this
            omega
          refine ⟨_, eg_name, gq_set (d := .int (fsB s N as (nxB n b p) : Int)) (ev_if (b := decide (p + 1 < n)) (EvT.cast (et_test (ev_op (ev_op (ev_var rfl) ev_int rv_add) (lenS rfl (List.mem_cons_of_mem _ (List.mem_cons_of_mem _ (List.mem_cons_of_mem _ List.mem_cons_self)))) rv_lt)) (by rw [decide_eq_decide]; omega)) (fun hb => ?_) (fun hb => ?_)) ?_⟩
          · have hb := of_decide_eq_true hb
            refine ev_op (ev_var rfl) (EvP.cast (ev_op (ev_var rfl) ev_int rv_add) (x := .int ((p + 1 : Nat) : Int)) rfl) (rv_ixL (.inl mf) (atN ?_))
            unfold nxB
            rw [if_pos hb]
            exact fL_get (by omega)
          · have hb := of_decide_eq_false hb
            refine ev_op (ev_var rfl) (ev_var rfl) (rv_ixL (.inl mf) (atN ?_))
            unfold nxB
            rw [if_neg hb]
            exact fL_get (by have := C.lt; omega)
          · refine go_last (gq_extend (k := 0) (Pf := fun ys => ys = (lvB s N as n b p).map rwD) rfl (ev_var rfl) (en_call (ea_cons (EvP.tN (ev_var rfl)) (ea_cons (ev_var rfl) (ea_cons (ev_var rfl) (ea_cons (ev_var rfl) (ea_cons (ev_var rfl) ea_nil))))) ⟨N, as, s, n, b, p, dd, rfl, rfl, ar (p + 1) (by omega), C, hp, by omega, rfl⟩ (fun q hq => ?_)) (fun d N' h => ?_) (fun ys hy => go_next ?_))
            · rcases List.mem_cons.mp hq with rfl | hq
              · exact .inl (List.mem_cons_of_mem _ List.mem_cons_self)
              · exact nomatch hq
            · obtain ⟨c, rfl, rfl⟩ := h
              refine ⟨c, _, rfl, rfl, rfl, ?_⟩
              rw [List.length_map, List.length_map, lv_size]
              have := fs_mono (s := s) (N := N) (as := as) (Nat.le_of_lt hp)
              omega
            · subst hy
              refine ⟨some (.int (p : Int)), _, rfl, ?_⟩
              rw [lv_succ, List.map_append]
              rfl
        · obtain ⟨v3, v11, rfl, rfl⟩ := hI
          rw [rngD_len, Int.toNat_natCast]
          refine go_last (gq_retP (EvP.cast (ev_tupN (en_cat (el_old (ev_var rfl) List.mem_cons_self) (el_new (en_cb (ea_cons (ev_var rfl) ea_nil) (rc_lstD (.inl (List.mem_cons_of_mem _ List.mem_cons_self))))) ?_)) ?_) rfl)
          · rw [List.length_map, List.length_map, lv_size]
            have := fnD_len as (fsB s N as n) as.length
            omega
          · rw [fnD_finals]
            unfold tbD bestB
            rw [List.map_append]
end
end Fc

namespace Fc
/-! ## words by their lengths -/
def extW (t : List Rw) (p : List Nat × Nat) : List (List Nat × Nat) := match t[p.2]? with
  | some (.go l) => l.zipIdx.map fun q => (p.1 ++ [q.2], q.1)
  | _ => []
def lvW (t : List Rw) : Nat → List (List Nat × Nat)
  | 0 => [([], 0)]
  | i + 1 => (((lvW t i).filter fun p => isGo t p.2).map (extW t)).flatten
def lfo (t : List Rw) (p : List Nat × Nat) : Option (List Nat × Nat) := match t[p.2]? with
  | some (.fin o) => some (p.1, o)
  | _ => none
def lfW (t : List Rw) (i : Nat) : List (List Nat × Nat) := (lvW t i).filterMap (lfo t)
def lvs (t : List Rw) (k : Nat) : List (List Nat × Nat) := ((List.range (k + 1)).map (lfW t)).flatten
/-- the words that lead to a state -/
def nW (t : List Rw) (i x : Nat) : Nat := ((lvW t i).map (·.2)).count x
section
variable {s m : Nat} {t : List Rw}
structure WOk (t : List Rw) (s i : Nat) (p : List Nat × Nat) : Prop where
  len : p.1.length = i
  lt : ∀ x ∈ p.1, x < s
  wk : wk t 0 p.1 = p.2
  st : p.2 < t.length
  pre : ∀ k, k < i → isGo t (Fc.wk t 0 (p.1.take k)) = true
theorem lvW_ok (T : Tb s m t) : ∀ (i : Nat) (p : List Nat × Nat), p ∈ lvW t i → WOk t s i p
  | 0, p, h => by
    rw [lvW, List.mem_singleton] at h
    subst h
    exact ⟨rfl, fun x h => (by cases h), rfl, T.n1, fun k h => (by omega)⟩
  | i + 1, p, h => by
    rw [lvW, List.mem_flatten] at h
    obtain ⟨l, hl, hp⟩ := h
    obtain ⟨q, hq, rfl⟩ := List.mem_map.mp hl
    obtain ⟨hq1, hq2⟩ := List.mem_filter.mp hq
    have o := lvW_ok T i q hq1
    obtain ⟨r, hr⟩ := row_at o.st
    unfold extW at hp
    rw [hr] at hp
    cases r with
    | fin a => cases hp
    | go l =>
      obtain ⟨z, hz, rfl⟩ := List.mem_map.mp hp
      obtain ⟨x, j⟩ := z
      have hj := List.mem_zipIdx hz
      simp only [Nat.zero_add, Nat.sub_zero] at hj
      obtain ⟨_, hj2, hj3⟩ := hj
      obtain ⟨g1, g2⟩ := T.go _ _ hr
      refine ⟨by show (q.1 ++ [j]).length = _; rw [List.length_append, o.len]; rfl, fun y hy => ?_, ?_, g2 _ (by rw [hj3]; exact List.getElem_mem _), fun k hk => ?_⟩
      · rcases List.mem_append.mp hy with hy | hy
        · exact o.lt y hy
        · rw [List.mem_singleton.mp hy]; omega
      · show Fc.wk t 0 (q.1 ++ [j]) = x
        rw [wk_snoc, o.wk]
        unfold stepT
        rw [hr]
        show l.getD j 0 = x
        rw [List.getD_eq_getElem?_getD, List.getElem?_eq_getElem hj2, hj3]
        rfl
      · show isGo t (Fc.wk t 0 ((q.1 ++ [j]).take k)) = true
        by_cases hki : k < i
        · rw [List.take_append_of_le_length (by rw [o.len]; omega)]
          exact o.pre k hki
        · have : k = q.1.length := by rw [o.len]; omega
          rw [this, List.take_left, o.wk]
          exact hq2
theorem lx_snoc {a b : List Nat} (h : lx a b) (x y : Nat) : lx (a ++ [x]) (b ++ [y]) := by
  obtain ⟨p, c, d, q, r, rfl, rfl, hcd⟩ := h
  exact ⟨p, c, d, q ++ [x], r ++ [y], by simp, by simp, hcd⟩
theorem lx_ext (a : List Nat) {x y : Nat} (h : x < y) : lx (a ++ [x]) (a ++ [y]) := ⟨a, x, y, [], [], rfl, rfl, h⟩
theorem extW_mem {p q : List Nat × Nat} (h : q ∈ extW t p) : ∃ j, q.1 = p.1 ++ [j] := by
  unfold extW at h
  split at h
  · obtain ⟨z, _, rfl⟩ := List.mem_map.mp h
    exact ⟨_, rfl⟩
  · cases h
theorem zipIdx_pw {α : Type} : ∀ (l : List α) (n : Nat), (l.zipIdx n).Pairwise (fun a b => a.2 < b.2)
  | [], _ => .nil
  | a :: l, n => by
    rw [List.zipIdx_cons]
    refine List.pairwise_cons.mpr ⟨fun b hb => ?_, zipIdx_pw l (n + 1)⟩
    have := List.le_snd_of_mem_zipIdx hb
    exact this
theorem extW_pw (p : List Nat × Nat) : (extW t p).Pairwise (fun a b => lx a.1 b.1) := by
  unfold extW
  split
  · rw [List.pairwise_map]
    exact (zipIdx_pw _ 0).imp fun {a b} h => lx_ext p.1 h
  · exact .nil
theorem lvW_pw : ∀ i, (lvW t i).Pairwise (fun a b => lx a.1 b.1)
  | 0 => List.pairwise_singleton _ _
  | i + 1 => by
    rw [lvW, List.pairwise_flatten]
    refine ⟨fun l hl => ?_, ?_⟩
    · obtain ⟨q, _, rfl⟩ := List.mem_map.mp hl
      exact extW_pw q
    · rw [List.pairwise_map]
      refine ((lvW_pw i).sublist List.filter_sublist).imp fun {a b} h x hx y hy => ?_
      obtain ⟨j, e⟩ := extW_mem hx
      obtain ⟨k, e2⟩ := extW_mem hy
      rw [e, e2]
      exact lx_snoc h j k
/-- sums over a list by its items -/
theorem sum_count (n : Nat) (f : Nat → Nat) : ∀ l : List Nat, (∀ x ∈ l, x < n) → (l.map f).sum = smN n fun x => l.count x * f x
  | [], _ => (smN_zero fun i _ => by simp).symm
  | a :: l, h => by
    rw [List.map_cons, List.sum_cons, sum_count n f l fun x hx => h x (List.mem_cons_of_mem _ hx)]
    have ha := h a List.mem_cons_self
    have : smN n (fun x => (a :: l).count x * f x) = smN n (fun x => (if x = a then f x else 0) + l.count x * f x) := smN_congr fun i _ => by
      rw [List.count_cons]
      by_cases e : i = a
      · subst e; simp; rw [Nat.add_mul]; omega
      · rw [if_neg e, if_neg (by simpa using fun z : a = i => e z.symm)]; simp
    rw [this, smN_add, smN_at ha (fun i _ hi => if_neg hi), if_pos rfl]
theorem count_flatW (y : Nat) : ∀ (ls : List (List Nat)), ls.flatten.count y = (ls.map (·.count y)).sum
  | [] => rfl
  | l :: ls => by rw [List.flatten_cons, List.count_append, List.map_cons, List.sum_cons, count_flatW y ls]
theorem extW_snd {p : List Nat × Nat} {l : List Nat} (h : t[p.2]? = some (.go l)) : (extW t p).map (·.2) = l := by
  unfold extW
  rw [h]
  show (l.zipIdx.map fun q => (p.1 ++ [q.2], q.1)).map (·.2) = l
  rw [List.map_map]
  show l.zipIdx.map (fun q => q.1) = l
  exact List.zipIdx_map_fst 0 l
def cg (t : List Rw) (y x : Nat) : Nat := match t[x]? with | some (.go l) => l.count y | _ => 0
theorem nW_succ (T : Tb s m t) (i y : Nat) : nW t (i + 1) y = smN t.length fun x => nW t i x * cg t y x := by
  unfold nW
  rw [lvW, List.map_flatten, count_flatW, List.map_map, List.map_map]
  rw [← sum_count t.length (cg t y) ((lvW t i).map (·.2)) (fun x hx => by obtain ⟨p, hp, rfl⟩ := List.mem_map.mp hx; exact (lvW_ok T i p hp).st)]
  rw [List.map_map]
  have : ∀ l : List (List Nat × Nat), (∀ p ∈ l, p.2 < t.length) → ((l.filter fun p => isGo t p.2).map ((fun z => z.count y) ∘ (List.map (·.2)) ∘ extW t)).sum = (l.map (cg t y ∘ (·.2))).sum := fun l => by
    induction l with
    | nil => intro _; rfl
    | cons p l ih =>
      intro h
      have ih := ih fun q hq => h q (List.mem_cons_of_mem _ hq)
      obtain ⟨r, hr⟩ := row_at (h p List.mem_cons_self)
      rw [List.filter_cons, List.map_cons, List.sum_cons, ← ih]
      cases r with
      | fin a =>
        have e : isGo t p.2 = false := by unfold isGo; rw [hr]
        have e2 : (cg t y ∘ (·.2)) p = 0 := by show cg t y p.2 = 0; unfold cg; rw [hr]
        rw [e, e2]
        simp
      | go g =>
        have e : isGo t p.2 = true := by unfold isGo; rw [hr]
        have e2 : (cg t y ∘ (·.2)) p = g.count y := by show cg t y p.2 = _; unfold cg; rw [hr]
        rw [e, if_pos rfl, List.map_cons, List.sum_cons, e2]
        show ((extW t p).map (·.2)).count y + _ = _
        rw [extW_snd hr]
  exact this _ fun p hp => (lvW_ok T i p hp).st
/-- words and the counts of the law of large tables -/
theorem nW_cnt (T : Tb s m t) : ∀ (i y : Nat), y < t.length → (isGo t y = true → nW t i y = cntT s t i y) ∧ (i = 0 → nW t i y = cntT s t i y)
  | 0, y, _ => by
    have : nW t 0 y = cntT s t 0 y := by
      unfold nW cntT
      rw [lvW]
      show [0].count y = _
      by_cases h : y = 0
      · subst h; rfl
      · rw [if_neg h, List.count_singleton, if_neg (by simpa using fun z : 0 = y => h z.symm)]
    exact ⟨fun _ => this, fun _ => this⟩
  | i + 1, y, hy => by
    refine ⟨fun hg => ?_, fun h => by omega⟩
    rw [nW_succ T, cntT]
    obtain ⟨r, hr⟩ := row_at hy
    cases r with
    | fin a => unfold isGo at hg; rw [hr] at hg; cases hg
    | go l =>
      rw [hr]
      show _ = _ + 0
      rw [Nat.add_zero]
      refine smN_congr fun x hx => ?_
      obtain ⟨r, hr'⟩ := row_at hx
      unfold cg
      rw [hr']
      cases r with
      | fin a => exact Nat.mul_zero _
      | go g => rw [(nW_cnt T i x hx).1 (by unfold isGo; rw [hr'])]
theorem nW_fin (T : Tb s m t) (i y : Nat) (hy : y < t.length) {o : Nat} (h : t[y]? = some (.fin o)) : nW t (i + 1) y + s * cntT s t i y = cntT s t (i + 1) y := by
  rw [nW_succ T, cntT, h]
  show _ = _ + s * cntT s t i y
  congr 1
  refine smN_congr fun x hx => ?_
  obtain ⟨r, hr'⟩ := row_at hx
  unfold cg
  rw [hr']
  cases r with
  | fin a => exact Nat.mul_zero _
  | go g => rw [(nW_cnt T i x hx).1 (by unfold isGo; rw [hr'])]
/-- leaves of a length with an outcome -/
theorem lfW_count (T : Tb s m t) (i o : Nat) : ((lfW t i).filter fun p => decide (p.2 = o)).length = smN t.length fun x => match t[x]? with | some (.fin a) => if a = o then nW t i x else 0 | _ => 0 := by
  have e : (smN t.length fun x => match t[x]? with | some (.fin a) => if a = o then nW t i x else 0 | _ => 0) = smN t.length fun x => ((lvW t i).map (·.2)).count x * (match t[x]? with | some (.fin a) => if a = o then 1 else 0 | _ => 0) := smN_congr fun x hx => by
    obtain ⟨r, hr⟩ := row_at hx
    rw [hr]
    cases r with
    | go l => rfl
    | fin a =>
      show (if a = o then nW t i x else 0) = _ * (if a = o then 1 else 0)
      split
      · rw [Nat.mul_one]; rfl
      · rfl
  rw [e, ← sum_count t.length _ ((lvW t i).map (·.2)) (fun x hx => by obtain ⟨p, hp, rfl⟩ := List.mem_map.mp hx; exact (lvW_ok T i p hp).st)]
  unfold lfW
  generalize lvW t i = l
  induction l with
  | nil => rfl
  | cons p l ih =>
    rw [List.map_cons, List.map_cons, List.sum_cons, ← ih]
    have no : lfo t p = none → (match t[p.2]? with | some (.fin a) => if a = o then 1 else 0 | _ => 0) = 0 → ((List.filterMap (lfo t) (p :: l)).filter fun p => decide (p.2 = o)).length = (match t[p.2]? with | some (.fin a) => if a = o then 1 else 0 | _ => 0) + ((List.filterMap (lfo t) l).filter fun p => decide (p.2 = o)).length := fun e1 e2 => by
      rw [List.filterMap_cons_none e1, e2, Nat.zero_add]
    cases hr : t[p.2]? with
    | none =>
      have := no (by unfold lfo; rw [hr]) (by rw [hr])
      rw [hr] at this
      exact this
    | some r =>
      cases r with
      | go g =>
        have := no (by unfold lfo; rw [hr]) (by rw [hr])
        rw [hr] at this
        exact this
      | fin a =>
        have e1 : lfo t p = some (p.1, a) := by unfold lfo; rw [hr]
        rw [List.filterMap_cons_some e1, List.filter_cons]
        show (if decide (a = o) = true then _ else _ : List (List Nat × Nat)).length = (if a = o then 1 else 0) + _
        by_cases e : a = o
        · rw [if_pos (decide_eq_true e), if_pos e, List.length_cons, Nat.add_comm]
        · rw [if_neg (by simpa using e), if_neg e, Nat.zero_add]
theorem lf_zero (T : Tb s m t) (o : Nat) : ((lfW t 0).filter fun p => decide (p.2 = o)).length = decT s t 0 o := by
  rw [lfW_count T]
  unfold decT
  refine smN_congr fun x hx => ?_
  have e := (nW_cnt T 0 x hx).2 rfl
  cases t[x]? with
  | none => rfl
  | some r =>
    cases r with
    | go l => rfl
    | fin a =>
      show (if a = o then nW t 0 x else 0) = if a = o then cntT s t 0 x else 0
      rw [e]
theorem lf_succ (T : Tb s m t) (i o : Nat) : ((lfW t (i + 1)).filter fun p => decide (p.2 = o)).length + s * decT s t i o = decT s t (i + 1) o := by
  rw [lfW_count T]
  unfold decT
  rw [← smN_mul, ← smN_add]
  refine smN_congr fun x hx => ?_
  obtain ⟨r, hr⟩ := row_at hx
  rw [hr]
  cases r with
  | go l => rfl
  | fin a =>
    show (if a = o then nW t (i + 1) x else 0) + s * (if a = o then cntT s t i x else 0) = if a = o then cntT s t (i + 1) x else 0
    split
    · exact nW_fin T i x hx hr
    · rfl
/-- nothing open -/
theorem no_open (T : Tb s m t) (k : Nat) (h : opnT s t k = 0) : ∀ p ∈ lvW t k, isGo t p.2 = false := fun p hp => by
  cases hg : isGo t p.2 with
  | false => rfl
  | true =>
    have o := lvW_ok T k p hp
    have h1 : 0 < nW t k p.2 := List.count_pos_iff.mpr (List.mem_map.mpr ⟨p, hp, rfl⟩)
    rw [(nW_cnt T k p.2 o.st).1 hg] at h1
    unfold opnT at h
    have h2 : ∀ n (f : Nat → Nat), smN n f = 0 → ∀ x, x < n → f x = 0 := fun n f => by
      induction n with
      | zero => intro _ x hx; omega
      | succ n ih =>
        intro h x hx
        rw [smN] at h
        by_cases e : x = n
        · subst e; omega
        · exact ih (by omega) x (by omega)
    have := h2 _ _ h p.2 o.st
    obtain ⟨r, hr⟩ := row_at o.st
    unfold isGo at hg
    rw [hr] at hg this
    cases r with
    | fin a => cases hg
    | go l => have this : cntT s t k p.2 = 0 := this; omega
theorem lvW_len (T : Tb s m t) (i : Nat) : (lvW t (i + 1)).length = s * ((lvW t i).filter fun p => isGo t p.2).length := by
  rw [lvW, List.length_flatten, List.map_map]
  have : ∀ l : List (List Nat × Nat), (∀ p ∈ l, isGo t p.2 = true) → (l.map (List.length ∘ extW t)).sum = s * l.length := fun l => by
    induction l with
    | nil => intro _; rfl
    | cons p l ih =>
      intro h
      rw [List.map_cons, List.sum_cons, ih fun q hq => h q (List.mem_cons_of_mem _ hq), List.length_cons, Nat.mul_add, Nat.mul_one, Nat.add_comm]
      congr 1
      have hg := h p List.mem_cons_self
      show (extW t p).length = s
      cases hr : t[p.2]? with
      | none => unfold isGo at hg; rw [hr] at hg; cases hg
      | some r =>
        cases r with
        | fin o => unfold isGo at hg; rw [hr] at hg; cases hg
        | go l =>
          have e : extW t p = l.zipIdx.map fun q => (p.1 ++ [q.2], q.1) := by unfold extW; rw [hr]
          rw [e, List.length_map, List.length_zipIdx, (T.go _ l hr).1]
  exact this _ fun p hp => (List.mem_filter.mp hp).2
theorem lf_len (T : Tb s m t) (i : Nat) : (lfW t i).length + ((lvW t i).filter fun p => isGo t p.2).length = (lvW t i).length := by
  have h0 : ∀ p ∈ lvW t i, p.2 < t.length := fun p hp => (lvW_ok T i p hp).st
  unfold lfW
  generalize lvW t i = l at h0
  induction l with
  | nil => rfl
  | cons p l ih =>
    have ih := ih fun q hq => h0 q (List.mem_cons_of_mem _ hq)
    obtain ⟨r, hr⟩ := row_at (h0 p List.mem_cons_self)
    rw [List.filterMap_cons, List.filter_cons, List.length_cons]
    cases r with
    | fin a =>
      have e1 : lfo t p = some (p.1, a) := by unfold lfo; rw [hr]
      have e2 : isGo t p.2 = false := by unfold isGo; rw [hr]
      rw [e1, e2]
      simp
      omega
    | go g =>
      have e1 : lfo t p = none := by unfold lfo; rw [hr]
      have e2 : isGo t p.2 = true := by unfold isGo; rw [hr]
      rw [e1, e2]
      simp
      omega
theorem lvW_bd (T : Tb s m t) : ∀ i, (lvW t i).length ≤ s ^ i
  | 0 => Nat.le_refl 1
  | i + 1 => by
    rw [lvW_len T, Nat.pow_succ, Nat.mul_comm]
    exact Nat.mul_le_mul_right s (Nat.le_trans (List.length_filter_le _ _) (lvW_bd T i))
/-- the room that the leaves fill -/
def roomW (s k : Nat) (l : List (List Nat × Nat)) : Nat := (l.map fun p => s ^ (k - p.1.length)).sum
theorem roomW_lf (T : Tb s m t) {i k : Nat} : roomW s k (lfW t i) = (lfW t i).length * s ^ (k - i) := by
  have : ∀ p ∈ lfW t i, p.1.length = i := fun p hp => by
    obtain ⟨q, hq, e⟩ := List.mem_filterMap.mp hp
    unfold lfo at e
    split at e
    · cases e; exact (lvW_ok T i q hq).len
    · cases e
  unfold roomW
  generalize lfW t i = l at this
  induction l with
  | nil => exact (Nat.zero_mul _).symm
  | cons p l ih =>
    rw [List.map_cons, List.sum_cons, ih fun q hq => this q (List.mem_cons_of_mem _ hq), this p List.mem_cons_self, List.length_cons, Nat.add_mul, Nat.one_mul, Nat.add_comm]
theorem roomW_app (s k : Nat) (a b : List (List Nat × Nat)) : roomW s k (a ++ b) = roomW s k a + roomW s k b := by unfold roomW; rw [List.map_append, List.sum_append]
theorem roomW_part (T : Tb s m t) (k : Nat) : ∀ j, j ≤ k → roomW s k ((List.range j).map (lfW t)).flatten + (lvW t j).length * s ^ (k - j) = s ^ k
  | 0, _ => by
    show 0 + 1 * s ^ (k - 0) = s ^ k
    rw [Nat.one_mul, Nat.zero_add, Nat.sub_zero]
  | j + 1, hj => by
    have ih := roomW_part T k j (by omega)
    rw [List.range_succ, List.map_append, List.flatten_append, List.map_singleton, List.flatten_singleton, roomW_app, roomW_lf T, lvW_len T]
    have e : s ^ (k - j) = s * s ^ (k - (j + 1)) := by rw [show k - j = (k - (j + 1)) + 1 by omega, Nat.pow_succ, Nat.mul_comm]
    rw [← lf_len T j, Nat.add_mul] at ih
    rw [← ih, Nat.add_assoc, e]
    congr 2
    ac_rfl
theorem roomW_all (T : Tb s m t) (k : Nat) (h : opnT s t k = 0) : roomW s k (lvs t k) = s ^ k := by
  have h1 := roomW_part T k k (Nat.le_refl k)
  unfold lvs
  rw [List.range_succ, List.map_append, List.flatten_append, List.map_singleton, List.flatten_singleton, roomW_app, roomW_lf T]
  have h2 := lf_len T k
  have h3 : ((lvW t k).filter fun p => isGo t p.2) = [] := List.filter_eq_nil_iff.mpr fun p hp => by rw [no_open T k h p hp]; exact Bool.false_ne_true
  rw [h3] at h2
  rw [show (lfW t k).length = (lvW t k).length from h2]
  exact h1
theorem lfW_mem (T : Tb s m t) {i : Nat} {p : List Nat × Nat} (h : p ∈ lfW t i) : p.1.length = i ∧ (∀ x ∈ p.1, x < s) ∧ wk t 0 p.1 < t.length ∧ t[wk t 0 p.1]? = some (.fin p.2) ∧ ∀ k, k < i → isGo t (wk t 0 (p.1.take k)) = true := by
  obtain ⟨q, hq, e⟩ := List.mem_filterMap.mp h
  have o := lvW_ok T i q hq
  unfold lfo at e
  split at e
  · rename_i a ha
    cases e
    exact ⟨o.len, o.lt, by rw [o.wk]; exact o.st, by rw [o.wk]; exact ha, o.pre⟩
  · cases e
theorem lvs_mem (T : Tb s m t) {k : Nat} {p : List Nat × Nat} (h : p ∈ lvs t k) : p.1.length ≤ k ∧ p ∈ lfW t p.1.length := by
  obtain ⟨l, hl, hp⟩ := List.mem_flatten.mp h
  obtain ⟨i, hi, rfl⟩ := List.mem_map.mp hl
  have := List.mem_range.mp hi
  have e := (lfW_mem T hp).1
  exact ⟨by omega, by rw [e]; exact hp⟩
/-- leaves of one length among all -/
theorem lvs_len (T : Tb s m t) {k i : Nat} (hi : i ≤ k) (o : Nat) : ((lvs t k).filter fun p => decide (p.1.length = i ∧ p.2 = o)) = (lfW t i).filter fun p => decide (p.2 = o) := by
  have one : ∀ j, ((lfW t j).filter fun p => decide (p.1.length = i ∧ p.2 = o)) = if j = i then (lfW t i).filter fun p => decide (p.2 = o) else [] := fun j => by
    by_cases e : j = i
    · subst e
      rw [if_pos rfl]
      refine List.filter_congr fun p hp => ?_
      rw [decide_eq_decide]
      exact ⟨fun h => h.2, fun h => ⟨(lfW_mem T hp).1, h⟩⟩
    · rw [if_neg e]
      refine List.filter_eq_nil_iff.mpr fun p hp => ?_
      rw [decide_eq_true_iff]
      exact fun h => e ((lfW_mem T hp).1.symm.trans h.1)
  have key : ∀ n, (((List.range n).map (lfW t)).flatten.filter fun p => decide (p.1.length = i ∧ p.2 = o)) = if i < n then (lfW t i).filter fun p => decide (p.2 = o) else [] := fun n => by
    induction n with
    | zero => rfl
    | succ n ih =>
      rw [List.range_succ, List.map_append, List.flatten_append, List.filter_append, ih, List.map_singleton, List.flatten_singleton, one]
      by_cases h1 : i < n
      · rw [if_pos h1, if_neg (by omega), if_pos (by omega), List.append_nil]
      · by_cases h2 : n = i
        · rw [if_neg h1, if_pos h2, if_pos (by omega), List.nil_append]
        · rw [if_neg h1, if_neg h2, if_neg (by omega), List.nil_append]
  unfold lvs
  rw [key, if_pos (by omega)]
theorem lvs_pw (T : Tb s m t) (k : Nat) : ((lvs t k).map (·.1)).Pairwise wLe := by
  rw [List.pairwise_map]
  unfold lvs
  rw [List.pairwise_flatten]
  refine ⟨fun l hl => ?_, ?_⟩
  · obtain ⟨i, _, rfl⟩ := List.mem_map.mp hl
    have : (lfW t i).Pairwise fun a b => lx a.1 b.1 := by
      unfold lfW
      rw [List.pairwise_filterMap]
      refine (lvW_pw i).imp fun {a b} h x hx y hy => ?_
      unfold lfo at hx hy
      split at hx
      · split at hy
        · cases hx; cases hy; exact h
        · cases hy
      · cases hx
    exact this.imp_of_mem fun {a b} ha hb h => .inr ⟨by rw [(lfW_mem T ha).1, (lfW_mem T hb).1], h⟩
  · rw [List.pairwise_map]
    refine List.pairwise_lt_range.imp fun {a b} h x hx y hy => .inl ?_
    rw [(lfW_mem T hx).1, (lfW_mem T hy).1]
    exact h
end
end Fc

namespace Fc
open PySem PySem.Spec PyProof.Rows L2 GenW
abbrev s_Chooser_set_rows : Stmt := inClass (top 64) 2
theorem sc_Chooser_set_rows : FnScope ["self", "sides", "many", "table"] ["self", "sides", "many", "table"] (defScope s_Chooser_set_rows) := ⟨rfl, rfl, rfl, by decide +kernel, rfl, by decide +kernel, by decide +kernel⟩
abbrev s_Best_set_best : Stmt := inClass (top 67) 1
theorem sc_Best_set_best : FnScope ["self", "chances", "sides"] ["self", "chances", "sides"] (defScope s_Best_set_best) := ⟨rfl, rfl, rfl, by decide +kernel, rfl, by decide +kernel, by decide +kernel⟩
abbrev s_Cappedu_initu : Stmt := inClass (top 69) 0
theorem sc_Cappedu_initu : FnScope ["self", "chances", "sides", "throws"] ["self", "chances", "sides", "throws"] (defScope s_Cappedu_initu) := ⟨rfl, rfl, rfl, by decide +kernel, rfl, by decide +kernel, by decide +kernel⟩
abbrev s_is_word : Stmt := top 62
theorem sc_is_word : FnScope ["sides", "value", "side"] ["sides", "value"] (defScope s_is_word) := ⟨rfl, rfl, rfl, by decide +kernel, rfl, by decide +kernel, by decide +kernel⟩
abbrev s_Chooser_walked : Stmt := inClass (top 64) 9
theorem sc_Chooser_walked : FnScope ["self", "word", "side", "state", "length"] ["self", "word"] (defScope s_Chooser_walked) := ⟨rfl, rfl, rfl, by decide +kernel, rfl, by decide +kernel, by decide +kernel⟩
abbrev s_Chooser_run : Stmt := inClass (top 64) 10
theorem sc_Chooser_run : FnScope ["self", "word", "state", "length"] ["self", "word"] (defScope s_Chooser_run) := ⟨rfl, rfl, rfl, by decide +kernel, rfl, by decide +kernel, by decide +kernel⟩
abbrev s_Chooser_longer : Stmt := inClass (top 64) 14
theorem sc_Chooser_longer : FnScope ["self", "words", "word", "state", "side", "later"] ["self", "words"] (defScope s_Chooser_longer) := ⟨rfl, rfl, rfl, by decide +kernel, rfl, by decide +kernel, by decide +kernel⟩
abbrev s_Chooser_leaves : Stmt := inClass (top 64) 15
theorem sc_Chooser_leaves : GScope ["self", "length", "words", "turn", "word", "state", "pair"] ["self", "length"] (defScope s_Chooser_leaves) := ⟨rfl, rfl, rfl, by decide +kernel, rfl, by decide +kernel, by decide +kernel⟩

/-- the fields before the table is taken -/
inductive Fs0 : List (Str × D) → Prop where
  | b : Fs0 []
  | p (g c : D) : Fs0 [("goal", g), ("cap", c)]
  | r (n : D) : Fs0 [("turn_count", n)]
abbrev fs4 : List Str := ["side_count", "outcome_count", "rows", "answers"]
def S_setrows (C : Addr) : FX := fun Y Z ds o => ∃ (x dx : Addr) (fs : List (Str × D)) (s m : Nat) (t : List Rw) (d : Nat → Nat), ds = [.ref x, .int (s : Int), .int (m : Int), tbD t] ∧ Y = [(x, .ins C dx fs)] ∧ Fs0 fs ∧ Tb s m t ∧ Rk t d ∧ o = .ret (fun r N => r = .non ∧ ∃ ans, N = [(x, .ins C dx (fs ++ chF s m t ans)), (ans, .lst (ansD s m t))])
noncomputable abbrev bZ (C x dx ans : Addr) (fs : List (Str × D)) (s N : Nat) (as : List Nat) : Hl := [(x, .ins C dx (fs ++ chF s as.length (bestT s N as) ans)), (ans, .lst (ansD s as.length (bestT s N as)))]
def S_setbest (C : Addr) : FX := fun Y Z ds o => ∃ (x dx : Addr) (fs : List (Str × D)) (N : Nat) (as : List Nat) (s : Nat), ds = [.ref x, .tupN (chL N as), .int (s : Int)] ∧ Y = [(x, .ins C dx fs)] ∧ Fs0 fs ∧ Okc s N as ∧ o = .ret (fun r N' => r = .non ∧ ∃ ans, N' = bZ C x dx ans fs s N as)
def S_binit (C : Addr) : FX := fun Y Z ds o => ∃ (x dx : Addr) (N : Nat) (as : List Nat) (s : Nat), ds = [.ref x, .tupN (chL N as), .int (s : Int)] ∧ Y = [(x, .ins C dx [])] ∧ Okc s N as ∧ N ≤ 30 ∧ o = .ret (fun r N' => r = .non ∧ ∃ ans, N' = bZ C x dx ans [] s N as)
/-- the nearest multiples, over their common bottom -/
def nN (s N k : Nat) (as : List Nat) : Nat := cbN (s ^ k) (near s N k as)
def nA (s N k : Nat) (as : List Nat) : List Nat := redS (s ^ k) (near s N k as)
abbrev pF (N : Nat) (as : List Nat) (k : Nat) : List (Str × D) := [("goal", .tupN (chL N as)), ("cap", .int (k : Int))]
def S_pinit (C : Addr) : FX := fun Y Z ds o => ∃ (x dx : Addr) (N : Nat) (as : List Nat) (s k : Nat), ds = [.ref x, .tupN (chL N as), .int (s : Int), .int (k : Int)] ∧ Y = [(x, .ins C dx [])] ∧ Okc s N as ∧ N ≤ 30 ∧ k ≤ 6 ∧ o = .ret (fun r N' => r = .non ∧ ∃ ans, N' = bZ C x dx ans (pF N as k) s (nN s N k as) (nA s N k as))
noncomputable abbrev rZ (C x dx ans : Addr) (fs : List (Str × D)) (s N r : Nat) (as : List Nat) : Hl := [(x, .ins C dx (("turn_count", .int (r : Int)) :: chF s as.length (rndT s N as r) ans)), (ans, .lst (ansD s as.length (rndT s N as r)))]
def S_setrnd (C : Addr) : FX := fun Y Z ds o => ∃ (x dx : Addr) (N : Nat) (as : List Nat) (s r : Nat), ds = [.ref x, .tupN (chL N as), .int (s : Int)] ∧ Y = [(x, .ins C dx [])] ∧ Okc s N as ∧ N ≤ 30 ∧ Rd1 s N r ∧ o = .ret (fun d N' => d = .non ∧ ∃ ans, N' = rZ C x dx ans [] s N r as)
/-- an object with a table, and its answers -/
noncomputable abbrev tZ (C c dx ans : Addr) (fs : List (Str × D)) (s m : Nat) (t : List Rw) : Hl := [(c, .ins C dx (fs ++ chF s m t ans)), (ans, .lst (ansD s m t))]
def S_prch (C : Addr) : FX := fun Y Z ds o => ∃ (c dx ans : Addr) (fs : List (Str × D)) (s m : Nat) (t : List Rw), ds = [.ref c] ∧ Y = [] ∧ Z = tZ C c dx ans fs s m t ∧ Fs0 fs ∧ Tb s m t ∧ o = .ret (Val (chs s m t 0))
def S_prex (C : Addr) : FX := fun Y Z ds o => ∃ (c dx ans : Addr) (fs : List (Str × D)) (s m : Nat) (t : List Rw), ds = [.ref c] ∧ Y = [] ∧ Z = tZ C c dx ans fs s m t ∧ Fs0 fs ∧ Tb s m t ∧ o = .ret (Val (fr (X t.length (tabM s m t) m 0)))
def decL (s m : Nat) (t : List Rw) (k : Nat) : List Nat := (List.range m).map (decT s t k)
def S_dec (C : Addr) : FX := fun Y Z ds o => ∃ (c dx ans : Addr) (fs : List (Str × D)) (s m k : Nat) (t : List Rw), ds = [.ref c, .int (k : Int)] ∧ Y = [] ∧ Z = tZ C c dx ans fs s m t ∧ Fs0 fs ∧ Tb s m t ∧ k ≤ 60 ∧ o = .ret (Val (.tup (((decL s m t k).map fun a => mkRat ((a : Nat) : Int) (s ^ k)).map fr)))
def S_und (C : Addr) : FX := fun Y Z ds o => ∃ (c dx ans : Addr) (fs : List (Str × D)) (s m k : Nat) (t : List Rw), ds = [.ref c, .int (k : Int)] ∧ Y = [] ∧ Z = tZ C c dx ans fs s m t ∧ Fs0 fs ∧ Tb s m t ∧ k ≤ 60 ∧ o = .ret (Val (fr (mkRat ((opnT s t k : Nat) : Int) (s ^ k))))
theorem ans_get {s m : Nat} {t : List Rw} {i : Nat} (h : i < t.length) : (ansD s m t)[i]? = some (.tup (kn t.length m (Xf t.length (tabM s m t) i))) := resD_get h
theorem kn_last {n m : Nat} {M : Mx} {i : Nat} : (kn n m (Xf n M i)).getLast? = some (fr (X n M m i)) := by
  unfold kn
  rw [List.range_succ, List.map_append, List.getLast?_append]
  show some (fr (Xf n M i (n + m))) = _
  unfold Xf
  rw [Nat.add_sub_cancel_left]
theorem mk_smB {N a : Nat} (h : 0 < N) (hN : N < 2 ^ 4400) (ha : a < 2 ^ 4400) : Sm (mkRat (a : Int) N) := by
  refine ⟨?_, ?_⟩
  · rw [mk_num h, Int.natAbs_natCast]
    exact Nat.lt_of_le_of_lt (Nat.div_le_self _ _) ha
  · rw [mk_den h]
    exact Nat.lt_of_le_of_lt (Nat.div_le_self _ _) hN
/-- the nearest multiples are chances too -/
theorem near_okc {s N k : Nat} {as : List Nat} (A : Okc s N as) (hk : k ≤ 6) : Okc s (nN s N k as) (nA s N k as) ∧ chL (s ^ k) (near s N k as) = chL (nN s N k as) (nA s N k as) ∧ (nA s N k as).length = as.length := by
  have s1 := A.s1
  have s2 := A.s2
  have c := near_ch (s := s) (k := k) (by omega) A.ch
  have p0 := c.pos
  have dv : nN s N k as ∣ s ^ k := cbN_dvd p0
  have hp : s ^ k ≤ 46656 := Nat.le_trans (Nat.pow_le_pow_left s2 k) (Nat.le_trans (Nat.pow_le_pow_right (by decide) hk) (by decide))
  have hle := Nat.le_of_dvd p0 dv
  refine ⟨⟨red_ch c.sum p0 c.l1 c.l6, by omega, red_cb p0, s1, s2, .inr ⟨k, hk, Nat.mod_eq_zero_of_dvd dv⟩⟩, ?_, ?_⟩
  · unfold chL nA redS
    rw [List.map_map]
    refine List.map_congr_left fun a ha => ?_
    show fr (mkRat (a : Int) (s ^ k)) = fr (mkRat ((a * cbN (s ^ k) (near s N k as) / s ^ k : Nat) : Int) (cbN (s ^ k) (near s N k as)))
    rw [red_mk p0 ha]
  · unfold nA redS near
    rw [List.length_map, List.length_map, List.length_range]
/-- words and states as data -/
def pwD (p : List Nat × Nat) : D := .tup [.tup (nD p.1), .int (p.2 : Int)]
def S_isword : FS := fun _ ds R => ∃ (s : Nat) (w : List Nat), ds = [.int (s : Int), .tup (nD w)] ∧ (∀ x ∈ w, x < s) ∧ w.length ≤ 1000 ∧ R = Val (.bl true)
def S_walked (C : Addr) : FX := fun Y Z ds o => ∃ (c dx ans : Addr) (fs : List (Str × D)) (s m : Nat) (t : List Rw) (w : List Nat), ds = [.ref c, .tup (nD w)] ∧ Y = [] ∧ Z = tZ C c dx ans fs s m t ∧ Fs0 fs ∧ Tb s m t ∧ (∀ x ∈ w, x < s) ∧ w.length ≤ 1000 ∧ o = .ret (Val (.tup [.int (wk t 0 w : Int), .int (wlen t 0 w : Int)]))
def runD (t : List Rw) (w : List Nat) : D := match t[wk t 0 w]? with
  | some (.fin o) => .tup [.str "decided", .int (o : Int), .int (wlen t 0 w : Int)]
  | _ => .tup [.str "open", .int (wk t 0 w : Int)]
def S_run (C : Addr) : FX := fun Y Z ds o => ∃ (c dx ans : Addr) (fs : List (Str × D)) (s m : Nat) (t : List Rw) (w : List Nat), ds = [.ref c, .tup (nD w)] ∧ Y = [] ∧ Z = tZ C c dx ans fs s m t ∧ Fs0 fs ∧ Tb s m t ∧ (∀ x ∈ w, x < s) ∧ w.length ≤ 1000 ∧ o = .ret (Val (runD t w))
def S_longer (C : Addr) : FX := fun Y Z ds o => ∃ (c dx ans l : Addr) (fs : List (Str × D)) (s m : Nat) (t : List Rw) (ps : List (List Nat × Nat)), ds = [.ref c, .ref l] ∧ Y = [] ∧ Z = (l, .lst (ps.map pwD)) :: tZ C c dx ans fs s m t ∧ Fs0 fs ∧ Tb s m t ∧ (∀ p ∈ ps, p.1.length ≤ 1000 ∧ isGo t p.2 = true) ∧ ((ps.map (extW t)).flatten).length ≤ 100000 ∧ o = .ret (New1 (.lst (((ps.map (extW t)).flatten).map pwD)))
def S_leaves (C : Addr) : FG := fun Z ds R => ∃ (c dx ans : Addr) (fs : List (Str × D)) (s m k : Nat) (t : List Rw), ds = [.ref c, .int (k : Int)] ∧ Z = tZ C c dx ans fs s m t ∧ Fs0 fs ∧ Tb s m t ∧ k ≤ 6 ∧ s ^ (k + 1) ≤ 10000 ∧ R = fun out => out = (lvs t k).map pwD
theorem nD_mem {l : List Nat} {d : D} (h : d ∈ nD l) : ∃ x ∈ l, d = .int (x : Int) := by
  obtain ⟨x, hx, rfl⟩ := List.mem_map.mp h
  exact ⟨x, hx, rfl⟩
/-! slots forgotten in a block -/
def wipeG (G : Ga) : List Nat → Ga
  | [] => G
  | v :: vs => (wipeG G vs).set v none
theorem Vr.wipeG {K : PySem.W.Frag} {H : Hp} {G : Ga} {σ : L2.St} (h : Vr K H G σ) : ∀ vs : List Nat, Vr K H (Fc.wipeG G vs) (wipe σ vs)
  | [] => h
  | v :: vs => (Vr.wipeG h vs).clr v none
theorem wipe_get (σ : L2.St) (j : Nat) : ∀ vs : List Nat, (wipe σ vs)[j]? = if j ∈ vs then σ[j]?.map (fun _ => none) else σ[j]?
  | [] => by simp [wipe]
  | v :: vs => by
    unfold wipe
    by_cases e : v = j
    · subst e
      rw [List.getElem?_set_self', wipe_get σ v vs, if_pos (List.mem_cons_self)]
      cases σ[v]? <;> (split <;> rfl)
    · rw [List.getElem?_set_ne e, wipe_get σ j vs]
      by_cases h : j ∈ vs
      · rw [if_pos h, if_pos (List.mem_cons_of_mem _ h)]
      · rw [if_neg h, if_neg (by rw [List.mem_cons]; exact fun z => z.elim (fun z => e z.symm) h)]
theorem wipe_two (σ : L2.St) {i j : Nat} {vs : List Nat} (u v : Option V) (hi : i ∈ vs) (hj : j ∈ vs) : wipe (((wipe σ vs).set i u).set j v) vs = wipe σ vs := by
  refine List.ext_getElem? fun k => ?_
  rw [wipe_get, wipe_get]
  by_cases h : k ∈ vs
  · rw [if_pos h, if_pos h]
    have h1 : (((wipe σ vs).set i u).set j v)[k]?.isSome = σ[k]?.isSome := by
      rw [Bool.eq_iff_iff, Option.isSome_iff_exists, Option.isSome_iff_exists]
      simp only [List.getElem?_eq_some_iff]
      have hl : (((wipe σ vs).set i u).set j v).length = σ.length := by rw [List.length_set, List.length_set, wipe_length]
      exact ⟨fun ⟨_, a, _⟩ => ⟨_, by rw [← hl]; exact a, rfl⟩, fun ⟨_, a, _⟩ => ⟨_, by rw [hl]; exact a, rfl⟩⟩
    cases e1 : (((wipe σ vs).set i u).set j v)[k]? with
    | none => rw [e1] at h1; cases e2 : σ[k]? with
      | none => rfl
      | some z => rw [e2] at h1; cases h1
    | some y => rw [e1] at h1; cases e2 : σ[k]? with
      | none => rw [e2] at h1; cases h1
      | some z => rfl
  · rw [if_neg h, if_neg h, List.getElem?_set_ne (by rintro rfl; exact h hj), List.getElem?_set_ne (by rintro rfl; exact h hi), wipe_get, if_neg h]
theorem egb_two {K : PySem.W.Frag} {H0 : Hp} {G : Ga} {Lz : Hl} {i j : Nat} {vs : List Nat} {x y : D} (hi : i ∈ vs) (hj : j ∈ vs) : EgB K H0 G Lz (gTup K 2 (gCons (gName i) (gCons (gName j) gNil))) vs (.tup [x, y]) (((wipeG G vs).set i (some x)).set j (some y)) := fun σ H v st im Q q => by
  cases im with
  | tup hq il =>
    cases il with
    | cons i1 il =>
      cases il with
      | cons i2 il =>
        cases il
        exact ⟨_, _, rfl, hq, rfl, _, _, rfl, _, _, rfl, rfl, q _ ⟨st.hs, ((st.vr.wipeG vs).set i1 i).set i2 j⟩ (wipe_two σ _ _ hi hj)⟩
/-- what longer walks -/
def inL (t : List Rw) (d : D) : List D := match d with
  | .tup [_, .int x] => (match t[x.toNat]? with | some (.go l) => nums (nD l) | _ => [])
  | _ => []
def vL (d e : D) : D := match d, e with
  | .tup [.tup w, _], .tup [i, x] => .tup [.tup (w ++ [i]), x]
  | _, _ => .non
theorem inL_go {t : List Rw} {w : List Nat} {x : Nat} {l : List Nat} (h : t[x]? = some (.go l)) : inL t (pwD (w, x)) = nums (nD l) := by
  show (match t[((x : Nat) : Int).toNat]? with | some (.go l) => nums (nD l) | _ => []) = _
  rw [Int.toNat_natCast, h]
theorem flatL {t : List Rw} : ∀ {ps : List (List Nat × Nat)}, (∀ p ∈ ps, isGo t p.2 = true) → flat2 (inL t) vL (ps.map pwD) = ((ps.map (extW t)).flatten).map pwD
  | [], _ => rfl
  | p :: ps, h => by
    have ih := flatL (t := t) (ps := ps) fun q hq => h q (List.mem_cons_of_mem _ hq)
    have hg := h p List.mem_cons_self
    unfold flat2 at ih ⊢
    rw [List.map_cons, List.map_cons, List.flatten_cons, ih, List.map_cons, List.flatten_cons, List.map_append]
    congr 1
    obtain ⟨w, x⟩ := p
    unfold isGo at hg
    split at hg
    · rename_i l hl
      rw [inL_go hl]
      unfold extW
      rw [hl]
      show ((nums (nD l)).map (vL (pwD (w, x)))) = (l.zipIdx.map fun q => (w ++ [q.2], q.1)).map pwD
      unfold nums nD
      rw [List.zipIdx_map, List.map_map, List.map_map, List.map_map]
      refine List.map_congr_left fun q _ => ?_
      show D.tup [.tup (nD w ++ [D.int (q.2 : Int)]), .int (q.1 : Int)] = D.tup [.tup (nD (w ++ [q.2])), .int (q.1 : Int)]
      rw [nD_snoc]
    · cases hg
section
variable {P : Program} {w : World} {K : PySem.W.Frag} {mg : Str → Option Value} {base : Heap} {CA : Addr}
theorem ok_Chooser_set_rows (B : Bl mg) (F : MethG K CA "set_rows" "Chooser.set_rows" s_Chooser_set_rows) (Ka : ClsA K CA fs4) (hSo : Pf P w K mg base "solved" 5 S_solved) : Px P w K mg base CA "set_rows" 6 (S_setrows CA) := by
  refine px_mk F sc_Chooser_set_rows (fun _ _ _ _ _ _ us hl => match us, hl with | [_, _, _, _], _ => rfl) (fun Y Z ds o h => by obtain ⟨x, dx, fs, s, m, t, d, rfl, _⟩ := h; rfl) (fun f cdv A outer s H E hr => ⟨_, (pss_cons (ps_fldK (K := K) rfl (pv 0) (pv 1) rfl) (pss_cons (ps_fldK (K := K) rfl (pv 0) (pv 2) rfl) (pss_cons (ps_fldK (K := K) rfl (pv 0) (pv 3) rfl) (pss_cons (ps_fldK (K := K) rfl (pv 0) (pe_pf hSo hr (by decide) rfl (pa_cons (pv 1) (pa_cons (pv 2) (pa_cons (pv 3) pa_nil)))) rfl) pss_nil)))), fun Y Z ds o H0 hY hz hS hE => ?_⟩)
  obtain ⟨x, dx, fs, s, m, t, d, rfl, rfl, hf, T, rk, rfl⟩ := hS
  have no := Ka.no
  cases hf with
  | b =>
    refine gq_fld (k := 0) (ev_var rfl) (ev_var rfl) rfl Ka.cls (no _ (by simp)) (by show 0 < 1000; decide) ?_
    refine gq_fld (k := 0) (ev_var rfl) (ev_var rfl) rfl Ka.cls (no _ (by simp)) (by show 1 < 1000; decide) ?_
    refine gq_fld (k := 0) (ev_var rfl) (ev_var rfl) rfl Ka.cls (no _ (by simp)) (by show 2 < 1000; decide) ?_
    refine gq_fldN (k := 0) (en_call (ea_cons (ev_var rfl) (ea_cons (ev_var rfl) (ea_cons (ev_var rfl) ea_nil))) ⟨s, m, t, d, rfl, T, rk, rfl⟩ noZ) (ev_var rfl) rfl Ka.cls (no _ (by simp)) (by show 3 < 1000; decide) fun e N hN => ?_
    obtain ⟨ans, rfl, rfl⟩ := hN
    exact go_perm (List.Perm.swap _ _ _) (go_next ⟨rfl, ans, rfl⟩)
  | p g c =>
    refine gq_fld (k := 0) (ev_var rfl) (ev_var rfl) rfl Ka.cls (no _ (by simp)) (by show 2 < 1000; decide) ?_
    refine gq_fld (k := 0) (ev_var rfl) (ev_var rfl) rfl Ka.cls (no _ (by simp)) (by show 3 < 1000; decide) ?_
    refine gq_fld (k := 0) (ev_var rfl) (ev_var rfl) rfl Ka.cls (no _ (by simp)) (by show 4 < 1000; decide) ?_
    refine gq_fldN (k := 0) (en_call (ea_cons (ev_var rfl) (ea_cons (ev_var rfl) (ea_cons (ev_var rfl) ea_nil))) ⟨s, m, t, d, rfl, T, rk, rfl⟩ noZ) (ev_var rfl) rfl Ka.cls (no _ (by simp)) (by show 5 < 1000; decide) fun e N hN => ?_
    obtain ⟨ans, rfl, rfl⟩ := hN
    exact go_perm (List.Perm.swap _ _ _) (go_next ⟨rfl, ans, rfl⟩)
  | r n =>
    refine gq_fld (k := 0) (ev_var rfl) (ev_var rfl) rfl Ka.cls (no _ (by simp)) (by show 1 < 1000; decide) ?_
    refine gq_fld (k := 0) (ev_var rfl) (ev_var rfl) rfl Ka.cls (no _ (by simp)) (by show 2 < 1000; decide) ?_
    refine gq_fld (k := 0) (ev_var rfl) (ev_var rfl) rfl Ka.cls (no _ (by simp)) (by show 3 < 1000; decide) ?_
    refine gq_fldN (k := 0) (en_call (ea_cons (ev_var rfl) (ea_cons (ev_var rfl) (ea_cons (ev_var rfl) ea_nil))) ⟨s, m, t, d, rfl, T, rk, rfl⟩ noZ) (ev_var rfl) rfl Ka.cls (no _ (by simp)) (by show 4 < 1000; decide) fun e N hN => ?_
    obtain ⟨ans, rfl, rfl⟩ := hN
    exact go_perm (List.Perm.swap _ _ _) (go_next ⟨rfl, ans, rfl⟩)
theorem ok_Best_set_best (B : Bl mg) (F : MethG K CA "set_best" "Best.set_best" s_Best_set_best) (Ka : ClsA K CA fs4) (hBt : Pf P w K mg base "best_table" 5 S_btab) (hSr : Px P w K mg base CA "set_rows" 6 (S_setrows CA)) : Px P w K mg base CA "set_best" 7 (S_setbest CA) := by
  refine px_mk F sc_Best_set_best (fun _ _ _ _ _ _ us hl => match us, hl with | [_, _, _], _ => rfl) (fun Y Z ds o h => by obtain ⟨x, dx, fs, N, as, s, rfl, _⟩ := h; rfl) (fun f cdv A outer s H E hr => ⟨_, (pss_cons (ps_expr (pe_mx hSr Ka.cls hr (by decide) passL (pv 0) (pa_cons (pv 2) (pa_cons (pe_len (K := K) rfl rfl B rfl (pa_cons (pv 1) pa_nil)) (pa_cons (pe_pf hBt hr (by decide) rfl (pa_cons (pv 1) (pa_cons (pv 2) pa_nil))) pa_nil))))) pss_nil), fun Y Z ds o H0 hY hz hS hE => ?_⟩)
  obtain ⟨x, dx, fs, N, as, s, rfl, rfl, hf, A, rfl⟩ := hS
  obtain ⟨d, bst⟩ := bst_of A
  have hl : fs.lookup ("set_rows" : Str) = none := by cases hf <;> rfl
  refine gq_dropM (em_mx (k := 0) (ev_var rfl) rfl hl (ea_cons (ev_var rfl) (ea_cons (EvP.cast (ev_cb (ea_cons (EvP.tN (ev_var rfl)) ea_nil) rc_lenT) (x := .int (as.length : Int)) (by rw [chL_len])) (ea_cons (ev_call (ea_cons (ev_var rfl) (ea_cons (ev_var rfl) ea_nil)) ⟨N, as, s, rfl, A, rfl⟩) ea_nil))) ⟨x, dx, fs, s, as.length, bestT s N as, d, rfl, rfl, hf, bst.tb, bst.rk, rfl⟩ noZ (fun d N h => by obtain ⟨_, ans, rfl⟩ := h; exact ⟨_, _, rfl⟩)) fun e L' hL => ?_
  obtain ⟨o', N', ⟨_, ans, h⟩, rfl⟩ := hL
  cases h
  exact go_perm (List.Perm.swap _ _ _) (go_next ⟨rfl, ans, rfl⟩)
theorem ok_Cappedu_initu (B : Bl mg) (F : MakeG K mg "Capped" CA "Capped.__init__" s_Cappedu_initu) (Ka : ClsA K CA fs4) (hng : NoAttr K CA "goal") (hnc : NoAttr K CA "cap") (hMc : ∃ u, mg "MOST_CAPPED" = some u ∧ RelV (.int 6) u) (hKc : Pf P w K mg base "check_chances" 6 S_kch) (hCs : Pf P w K mg base "check_sides" 3 S_sides) (hKt : Pf P w K mg base "check_throws" 3 S_kth) (hNr : Pf P w K mg base "nearest_by" 3 S_near) (hSb : Px P w K mg base CA "set_best" 7 (S_setbest CA)) : PkK P w K mg base "Capped" CA 2 ["throws"] 8 (S_pinit CA) := by
  refine pkK_mk F sc_Cappedu_initu (fun _ _ _ _ _ _ us ws h1 h2 => match us, h1, ws, h2 with | [_, _, _], _, [_], _ => rfl) (fun Y Z ds o h => by obtain ⟨x, dx, N, as, s, k, rfl, _⟩ := h; rfl) (fun f cdv A outer s H E hr => ⟨_, (pss_cons (ps_expr (pe_pf hKc hr (by decide) rfl (pa_cons (pv 1) pa_nil))) (pss_cons (ps_expr (pe_pf hCs hr (by decide) rfl (pa_cons (pv 2) pa_nil))) (pss_cons (ps_expr (pe_pf hKt hr (by decide) rfl (pa_cons (pv 3) (pa_cons (pe_cst hMc rfl) pa_nil)))) (pss_cons (ps_fldK (K := K) rfl (pv 0) (pv 1) rfl) (pss_cons (ps_fldK (K := K) rfl (pv 0) (pv 3) rfl) (pss_cons (ps_expr (pe_mx hSb Ka.cls hr (by decide) passL (pv 0) (pa_cons (pe_pf hNr hr (by decide) rfl (pa_cons (pv 1) (pa_cons (pv 2) (pa_cons (pv 3) pa_nil)))) (pa_cons (pv 2) pa_nil)))) pss_nil)))))), fun Y Z ds o H0 hY hz hS hE => ?_⟩)
  obtain ⟨x, dx, N, as, s, k, rfl, rfl, A, hN, hk, rfl⟩ := hS
  have s1 := A.s1
  have s2 := A.s2
  obtain ⟨A2, eA, lA⟩ := near_okc A hk
  refine gq_drop (ev_call (ea_cons (EvP.tN (ev_var rfl)) ea_nil) ⟨N, as, rfl, A.ch, A.n5, by rw [A.cb]; exact hN, rfl⟩) ?_
  refine gq_drop (ev_call (ea_cons (ev_var rfl) ea_nil) ⟨(s : Int), rfl, by omega, by omega, rfl⟩) ?_
  refine gq_drop (ev_call (ea_cons (ev_var rfl) (ea_cons (ev_k fun _ => .int 6) ea_nil)) ⟨k, 6, rfl, hk, rfl⟩) ?_
  refine gq_fld (k := 0) (ev_var rfl) (ev_var rfl) rfl Ka.cls hng (by show 0 < 1000; decide) ?_
  refine gq_fld (k := 0) (ev_var rfl) (ev_var rfl) rfl Ka.cls hnc (by show 1 < 1000; decide) ?_
  refine gq_dropM (em_mx (k := 0) (ev_var rfl) rfl rfl (ea_cons (EvP.cast (ev_call (ea_cons (EvP.tN (ev_var rfl)) (ea_cons (ev_var rfl) (ea_cons (ev_var rfl) ea_nil))) ⟨N, as, s, k, rfl, ⟨A.ch, A.n5, s1, s2, by omega⟩, hk, A.cb, rfl⟩) (by rw [eA])) (ea_cons (ev_var rfl) ea_nil)) ⟨x, dx, pF N as k, nN s N k as, nA s N k as, s, rfl, rfl, .p _ _, A2, rfl⟩ noZ (fun d N h => by obtain ⟨_, ans, rfl⟩ := h; exact ⟨_, _, rfl⟩)) fun e L' hL => ?_
  obtain ⟨o', N', ⟨_, ans, h⟩, rfl⟩ := hL
  cases h
  exact go_perm (List.Perm.swap _ _ _) (go_next ⟨rfl, ans, rfl⟩)
theorem ok_is_word (B : Bl mg) (F : FunG K mg "is_word" s_is_word) (hB : Pf P w K mg base "is_between" 2 S_between) : Pf P w K mg base "is_word" 3 S_isword := by
  refine pf_mk F sc_is_word (fun _ _ _ _ _ _ us hl => match us, hl with | [_, _], _ => rfl) (fun Z ds R h => by obtain ⟨s, w, rfl, _⟩ := h; rfl) (fun f cdv A outer s H E hr => ⟨_, (pss_cons (ps_ret (pe_and (pe_isi (K := K) rfl rfl B rfl (pa_cons (pv 1) (pa_cons (pe_tyT rfl B rfl) pa_nil))) (pe_one (pe_all (K := K) rfl rfl B rfl rfl (pa_cons (pe_lc (own := [("side", 2)]) (g := gName 2) rfl sc_is_word.nd (pi_tupK (K := K) rfl (pv 1)) (blkOk_by (own := [("side", 2)]) (N := ["sides", "value", "side"]) (sc := defScope (s_is_word)) (by decide +kernel)) (fun _ _ _ _ _ => (pg_name (i := 2) sc_is_word.nd rfl (.inl rfl))) (fun _ _ _ _ _ => pts_nil) (fun _ _ _ _ _ => (pe_pf hB hr (by decide) rfl (pa_cons (pv 2) (pa_cons pe_int (pa_cons (pe_op op_sub (pv 0) pe_int) pa_nil)))))) pa_nil))))) pss_nil), fun Z ds R H0 hz hS => ?_⟩)
  obtain ⟨s, w, rfl, hw, hl, rfl⟩ := hS
  refine gq_retP (EvP.cast (ev_andV (b := true) (c := true) (ev_isTupB (ev_var rfl) rfl rfl) (fun _ => EvP.cast (ev_allN (f := fun _ => true) (v := fun _ => .bl true) (en_lcY (v := fun _ => .bl true) (ei_tup (ev_var rfl)) (fun _ => trivial) (fun d hd => ?_) (by rw [nD_len]; omega)) (fun _ _ => rfl)) ?_)) rfl) rfl
  · obtain ⟨x, hx, rfl⟩ := nD_mem hd
    have := hw x hx
    refine EvP.cast (ev_call (ea_cons (ev_var rfl) (ea_cons ev_int (ea_cons (ev_op (ev_var rfl) ev_int rv_sub) ea_nil))) ⟨(x : Int), 0, (s : Int) - 1, rfl, rfl⟩) ?_
    rw [decide_eq_true ⟨by omega, by omega⟩]
  · congr 1
    exact List.all_eq_true.mpr fun _ _ => rfl
theorem ok_Chooser_walked (B : Bl mg) (F : MethG K CA "walked" "Chooser.walked" s_Chooser_walked) (Ka : ClsA K CA fs4) : Px P w K mg base CA "walked" 1 (S_walked CA) := by
  refine px_mk F sc_Chooser_walked (fun _ _ _ _ _ _ us hl => match us, hl with | [_, _], _ => rfl) (fun Y Z ds o h => by obtain ⟨c, dx, ans, fs, s, m, t, w, rfl, _⟩ := h; rfl) (fun f cdv A outer s H E hr => ⟨_, (pss_cons (ps_asg (pe_tup (pa_cons pe_int (pa_cons pe_int pa_nil))) (pg_tupK (K := K) rfl rfl (pgs_cons (pg_name (i := 3) sc_Chooser_walked.nd rfl (.inl rfl)) (pgs_cons (pg_name (i := 4) sc_Chooser_walked.nd rfl (.inl rfl)) pgs_nil)))) (pss_cons (ps_for (passes_of rfl) rfl (pi_tupK (K := K) rfl (pv 1)) (pg_name (i := 2) sc_Chooser_walked.nd rfl (.inl rfl)) (pss_cons (ps_if (pt_val (pe_isi (K := K) rfl rfl B rfl (pa_cons (pe_ixT (K := K) rfl (pe_fldK (K := K) rfl (pv 0) rfl) (pv 3) (fun _ _ => rfl)) (pa_cons (pe_tyT rfl B rfl) pa_nil)))) (pss_cons (ps_set (i := 3) sc_Chooser_walked.nd rfl (.inl rfl) (pe_ixT (K := K) rfl (pe_ixT (K := K) rfl (pe_fldK (K := K) rfl (pv 0) rfl) (pv 3) (fun _ _ => rfl)) (pv 2) (fun _ _ => rfl))) (pss_cons (ps_aug (i := 4) sc_Chooser_walked.nd rfl (.inl rfl) pe_int ip_add) pss_nil)) pss_nil) pss_nil)) (pss_cons (ps_ret (pe_tup (pa_cons (pv 3) (pa_cons (pv 4) pa_nil)))) pss_nil))), fun Y Z ds o H0 hY hz hS hE => ?_⟩)
  obtain ⟨c, dx, ans, fs, s, m, t, w, rfl, rfl, rfl, hf, T, hw, hl, rfl⟩ := hS
  have lk : ∀ L, Lk K H0 L c (.ins CA dx (fs ++ chF s m t ans)) := fun L => .inr (hz _ List.mem_cons_self)
  have la : ∀ L, Lk K H0 L ans (.lst (ansD s m t)) := fun L => .inr (hz _ (List.mem_cons_of_mem _ List.mem_cons_self))
  have no := Ka.no
  have s1 := T.s1
  have s2 := T.s2
  have rows : ∀ {G : Ga} {L : Hl}, G[0]? = some (some (.ref c)) → EvP K H0 G L (tFld K (tVar 0) "rows") (tbD t) := fun h => ev_fld (ev_var h) (lk _) Ka.cls (no _ (by simp)) (by cases hf <;> rfl)
  have sides : ∀ {G : Ga} {L : Hl}, G[0]? = some (some (.ref c)) → EvP K H0 G L (tFld K (tVar 0) "side_count") (.int (s : Int)) := fun h => ev_fld (ev_var h) (lk _) Ka.cls (no _ (by simp)) (by cases hf <;> rfl)
  refine gq_asg (ev_tup (ea_cons ev_int (ea_cons ev_int ea_nil)) (by show 2 ≤ 100000; decide)) eg_two ?_
  refine gq_for0 (ds := nD w) (ei_tup (ev_var rfl)) (fun i G L => ∃ v, G = [some (.ref c), some (.tup (nD w)), v, some (.int (wk t 0 (w.take i) : Int)), some (.int (wlen t 0 (w.take i) : Int))] ∧ L = []) ⟨none, rfl, rfl⟩ (fun _ _ _ _ => trivial) (fun i d G L hd hI => ?_) (fun G L hI => ?_)
  · obtain ⟨v, rfl, rfl⟩ := hI
    obtain ⟨x, hx, rfl⟩ := nD_of hd
    have hlt : wk t 0 (w.take i) < t.length := wk_lt T T.n1
    obtain ⟨r, hr'⟩ := row_at hlt
    have e1 : w.take (i + 1) = w.take i ++ [x] := by rw [List.take_succ, hx]; rfl
    have e2 := wk_snoc t 0 (w.take i) x
    have e3 := wlen_snoc t (w.take i) 0 x
    rw [isGo_eq hr'] at e3
    refine ⟨_, eg_name, ?_⟩
    refine gq_if2 (et_B (ev_isTup (ev_op (rows rfl) (ev_var rfl) (rv_ixT (atN (tb_get hr')))) (tyn_rw r))) (fun hb => ?_) (fun hb => ?_)
    · cases r with
      | fin o => cases hb
      | go l =>
        have hxl : x < l.length := by rw [(T.go _ l hr').1]; exact hw x (List.mem_of_getElem? hx)
        have hst : stepT t (wk t 0 (w.take i)) x = l[x] := by
          unfold stepT
          rw [hr']
          show l.getD x 0 = _
          rw [List.getD_eq_getElem?_getD, List.getElem?_eq_getElem hxl]
          rfl
        refine gq_assoc (gq_set (d := .int ((wk t 0 (w.take (i + 1)) : Nat) : Int)) (ev_op (ev_op (rows rfl) (ev_var rfl) (rv_ixT (atN (tb_get hr')))) (ev_var rfl) (rv_ixT (atN (by rw [e1, e2, hst]; exact nD_get (List.getElem?_eq_getElem hxl))))) ?_)
        refine gq_assoc (gq_aug (a := (wlen t 0 (w.take i) : Int)) (c := 1) rfl ev_int (gq_nil (gq_nil (go_next ⟨some (.int (x : Int)), ?_, rfl⟩))))
        rw [e1, e3]
        rfl
    · cases r with
      | go l => cases hb
      | fin o =>
        have hst : stepT t (wk t 0 (w.take i)) x = wk t 0 (w.take i) := by unfold stepT; rw [hr']
        refine gq_nil (gq_nil (go_next ⟨some (.int (x : Int)), ?_, rfl⟩))
        rw [e1, e2, e3, hst]
        rfl
  · obtain ⟨v, rfl, rfl⟩ := hI
    rw [nD_len, List.take_length]
    exact gq_retP (ev_tup (ea_cons (ev_var rfl) (ea_cons (ev_var rfl) ea_nil)) (by show 2 ≤ 100000; decide)) rfl
theorem ok_Chooser_run (B : Bl mg) (F : MethG K CA "run" "Chooser.run" s_Chooser_run) (Ka : ClsA K CA fs4) (hIw : Pf P w K mg base "is_word" 3 S_isword) (hWa : Px P w K mg base CA "walked" 1 (S_walked CA)) : Px P w K mg base CA "run" 4 (S_run CA) := by
  refine px_mk F sc_Chooser_run (fun _ _ _ _ _ _ us hl => match us, hl with | [_, _], _ => rfl) (fun Y Z ds o h => by obtain ⟨c, dx, ans, fs, s, m, t, w, rfl, _⟩ := h; rfl) (fun f cdv A outer s H E hr => ⟨_, (pss_cons (ps_if (pt_not (pt_val (pe_pf hIw hr (by decide) rfl (pa_cons (pe_fldK (K := K) rfl (pv 0) rfl) (pa_cons (pv 1) pa_nil))))) pss_never pss_nil) (pss_cons (ps_asg (pe_mx hWa Ka.cls hr (by decide) passL (pv 0) (pa_cons (pv 1) pa_nil)) (pg_tupK (K := K) rfl rfl (pgs_cons (pg_name (i := 2) sc_Chooser_run.nd rfl (.inl rfl)) (pgs_cons (pg_name (i := 3) sc_Chooser_run.nd rfl (.inl rfl)) pgs_nil)))) (pss_cons (ps_if (pt_val (pe_isi (K := K) rfl rfl B rfl (pa_cons (pe_ixT (K := K) rfl (pe_fldK (K := K) rfl (pv 0) rfl) (pv 2) (fun _ _ => rfl)) (pa_cons (pe_tyT rfl B rfl) pa_nil)))) (pss_cons (ps_ret (pe_tup (pa_cons pe_str (pa_cons (pv 2) pa_nil)))) pss_nil) pss_nil) (pss_cons (ps_ret (pe_tup (pa_cons pe_str (pa_cons (pe_ixT (K := K) rfl (pe_fldK (K := K) rfl (pv 0) rfl) (pv 2) (fun _ _ => rfl)) (pa_cons (pv 3) pa_nil))))) pss_nil)))), fun Y Z ds o H0 hY hz hS hE => ?_⟩)
  obtain ⟨c, dx, ans, fs, s, m, t, w, rfl, rfl, rfl, hf, T, hw, hl, rfl⟩ := hS
  have lk : ∀ L, Lk K H0 L c (.ins CA dx (fs ++ chF s m t ans)) := fun L => .inr (hz _ List.mem_cons_self)
  have la : ∀ L, Lk K H0 L ans (.lst (ansD s m t)) := fun L => .inr (hz _ (List.mem_cons_of_mem _ List.mem_cons_self))
  have no := Ka.no
  have s1 := T.s1
  have s2 := T.s2
  have rows : ∀ {G : Ga} {L : Hl}, G[0]? = some (some (.ref c)) → EvP K H0 G L (tFld K (tVar 0) "rows") (tbD t) := fun h => ev_fld (ev_var h) (lk _) Ka.cls (no _ (by simp)) (by cases hf <;> rfl)
  have sides : ∀ {G : Ga} {L : Hl}, G[0]? = some (some (.ref c)) → EvP K H0 G L (tFld K (tVar 0) "side_count") (.int (s : Int)) := fun h => ev_fld (ev_var h) (lk _) Ka.cls (no _ (by simp)) (by cases hf <;> rfl)
  have hl2 : (fs ++ chF s m t ans).lookup ("walked" : Str) = none := by cases hf <;> rfl
  obtain ⟨r, hr'⟩ := row_at (wk_lt T (w := w) T.n1)
  refine gq_ifL (b := false) (et_not (tt := tB _) (et_B (b := true) (ev_call (ea_cons (sides rfl) (ea_cons (ev_var rfl) ea_nil)) ⟨s, w, rfl, hw, hl, rfl⟩))) (fun h => by cases h) (fun _ => ?_)
  refine gq_asg (EvN.ev (en_mx (ev_var rfl) (lk _) (lookN hl2) (ea_cons (ev_var rfl) ea_nil) ⟨c, dx, ans, fs, s, m, t, w, rfl, rfl, rfl, hf, T, hw, hl, rfl⟩ (fun p hp => by
    simp only [List.mem_cons, List.not_mem_nil, or_false] at hp
    rcases hp with rfl | rfl
    · exact lk _
    · exact la _))) eg_two ?_
  refine gq_ifL (et_B (ev_isTup (ev_op (rows rfl) (ev_var rfl) (rv_ixT (atN (tb_get hr')))) (tyn_rw r))) (fun hb => ?_) (fun hb => ?_)
  · cases r with
    | fin o => cases hb
    | go l =>
      refine gq_retP (ev_tup (ea_cons ev_str (ea_cons (ev_var rfl) ea_nil)) (by show 2 ≤ 100000; decide)) ?_
      show _ = runD t w
      unfold runD
      rw [hr']
  · cases r with
    | go l => cases hb
    | fin o =>
      refine go_last (gq_retP (ev_tup (ea_cons ev_str (ea_cons (ev_op (rows rfl) (ev_var rfl) (rv_ixT (atN (tb_get hr')))) (ea_cons (ev_var rfl) ea_nil))) (by show 3 ≤ 100000; decide)) ?_)
      show _ = runD t w
      unfold runD
      rw [hr']
      rfl
theorem ok_Chooser_longer (B : Bl mg) (F : MethG K CA "longer" "Chooser.longer" s_Chooser_longer) (Ka : ClsA K CA fs4) : Px P w K mg base CA "longer" 1 (S_longer CA) := by
  refine px_mk F sc_Chooser_longer (fun _ _ _ _ _ _ us hl => match us, hl with | [_, _], _ => rfl) (fun Y Z ds o h => by obtain ⟨c, dx, ans, l, fs, s, m, t, ps, rfl, _⟩ := h; rfl) (fun f cdv A outer s H E hr => ⟨_, (pss_cons (ps_ret (pe_lc2 (own := [("word", 2), ("state", 3), ("side", 4), ("later", 5)]) (vs1 := [4, 5]) (g := gTup K 2 (gCons (gName 2) (gCons (gName 3) gNil))) (g1 := gTup K 2 (gCons (gName 4) (gCons (gName 5) gNil))) rfl sc_Chooser_longer.nd (pi_listK (K := K) rfl (pv 1)) (blkOk_by (own := [("word", 2), ("state", 3), ("side", 4), ("later", 5)]) (N := ["self", "words", "word", "state", "side", "later"]) (sc := defScope (s_Chooser_longer)) (by decide +kernel)) (by decide) (fun _ _ _ _ _ => (pg_tupK (K := K) rfl rfl (pgs_cons (pg_name (i := 2) sc_Chooser_longer.nd rfl (.inl rfl)) (pgs_cons (pg_name (i := 3) sc_Chooser_longer.nd rfl (.inl rfl)) pgs_nil)))) (fun _ _ _ _ _ => pts_nil) (fun _ _ _ _ _ => (pi_enumK (K := K) rfl rfl B rfl (pa_cons (pe_ixT (K := K) rfl (pe_fldK (K := K) rfl (pv 0) rfl) (pv 3) (fun _ _ => rfl)) pa_nil))) (fun _ _ _ _ _ => (pg_tupK (K := K) rfl rfl (pgs_cons (pg_name (i := 4) sc_Chooser_longer.nd rfl (.inl rfl)) (pgs_cons (pg_name (i := 5) sc_Chooser_longer.nd rfl (.inl rfl)) pgs_nil)))) (fun _ _ _ _ _ => pts_nil) (fun _ _ _ _ _ => (pe_tup (pa_cons (pe_op (op_catK (K := K) rfl) (pv 2) (pe_tup (pa_cons (pv 4) pa_nil))) (pa_cons (pv 5) pa_nil)))))) pss_nil), fun Y Z ds o H0 hY hz hS hE => ?_⟩)
  obtain ⟨c, dx, ans, l, fs, s, m, t, ps, rfl, rfl, rfl, hf, T, hps, hsz, rfl⟩ := hS
  have lk : ∀ L, Lk K H0 L c (.ins CA dx (fs ++ chF s m t ans)) := fun L => .inr (hz _ (List.mem_cons_of_mem _ List.mem_cons_self))
  have la : ∀ L, Lk K H0 L ans (.lst (ansD s m t)) := fun L => .inr (hz _ (List.mem_cons_of_mem _ (List.mem_cons_of_mem _ List.mem_cons_self)))
  have no := Ka.no
  have s1 := T.s1
  have s2 := T.s2
  have rows : ∀ {G : Ga} {L : Hl}, G[0]? = some (some (.ref c)) → EvP K H0 G L (tFld K (tVar 0) "rows") (tbD t) := fun h => ev_fld (ev_var h) (lk _) Ka.cls (no _ (by simp)) (by cases hf <;> rfl)
  have sides : ∀ {G : Ga} {L : Hl}, G[0]? = some (some (.ref c)) → EvP K H0 G L (tFld K (tVar 0) "side_count") (.int (s : Int)) := fun h => ev_fld (ev_var h) (lk _) Ka.cls (no _ (by simp)) (by cases hf <;> rfl)
  have lw : ∀ L, Lk K H0 L l (.lst (ps.map pwD)) := fun L => .inr (hz _ List.mem_cons_self)
  have fl := flatL (t := t) (ps := ps) fun p hp => (hps p hp).2
  refine gq_ret (EvN.imp (en_lc22 (ds := ps.map pwD) (inL t) vL (ei_list (ev_var rfl) (lw _)) (fun Z => lw _) (fun d hd Z => ?_) (by rw [fl, List.length_map]; exact hsz)) fun d N h => by rw [fl] at h; exact h) (fun d N h => ⟨N, List.sublist_append_left _ _, h⟩)
  obtain ⟨p, hp, rfl⟩ := List.mem_map.mp hd
  obtain ⟨w, x⟩ := p
  obtain ⟨hw, hg⟩ := hps _ hp
  have hg0 : isGo t x = true := hg
  unfold isGo at hg0
  split at hg0
  · rename_i g hx
    rw [inL_go hx]
    refine ⟨_, fun L => SqW K H0 (.tup (nD g)) (nD g) L, egb_two (x := .tup (nD w)) (y := .int (x : Int)) (by simp) (by simp), ei_enum (ds := nD g) (x := .tup (nD g)) (ea_cons (ev_op (rows rfl) (ev_var rfl) (rv_ixT (atN (tb_get hx)))) ea_nil) (.tup _), fun Z' => trivial, fun e he Z' => ?_⟩
    obtain ⟨q, hq, rfl⟩ := List.mem_map.mp he
    obtain ⟨y, i⟩ := q
    refine ⟨_, egb_two (x := .int (i : Int)) (y := y) (by simp) (by simp), ?_⟩
    show EvP K H0 _ _ _ (.tup [.tup (nD w ++ [.int (i : Int)]), y])
    exact ev_tup (ea_cons (ev_op (ev_var rfl) (ev_tup (ea_cons (ev_var rfl) ea_nil) (by show 1 ≤ 100000; decide)) (rv_cat (by rw [nD_len]; show w.length + 1 ≤ 100000; have := hw; dsimp only at this; omega))) (ea_cons (ev_var rfl) ea_nil)) (by show 2 ≤ 100000; decide)
  · cases hg0
theorem lvs_bd {s m : Nat} {t : List Rw} (T : Tb s m t) {k : Nat} (hz : s ^ (k + 1) ≤ 10000) : ∀ i, i ≤ k + 1 → (lvW t i).length ≤ 10000 ∧ ((List.range i).map (lfW t)).flatten.length ≤ i * 10000 := fun i => by
  have s1 := T.s1
  have pw : ∀ j, j ≤ k + 1 → (lvW t j).length ≤ 10000 := fun j hj => Nat.le_trans (lvW_bd T j) (Nat.le_trans (Nat.pow_le_pow_right (by omega) hj) hz)
  intro hi
  refine ⟨pw i hi, ?_⟩
  induction i with
  | zero => exact Nat.zero_le _
  | succ i ih =>
    have h1 := ih (by omega)
    have h2 := pw i (by omega)
    have h3 := lf_len T i
    rw [List.range_succ, List.map_append, List.flatten_append, List.length_append, List.map_singleton, List.flatten_singleton]
    omega
theorem ok_Chooser_leaves (B : Bl mg) (F : MethG K CA "leaves" "Chooser.leaves" s_Chooser_leaves) (Ka : ClsA K CA fs4) (hMl : ∃ u, mg "MOST_LENGTH" = some u ∧ RelV (.int 6) u) (hKt : Pf P w K mg base "check_throws" 3 S_kth) (hLo : Px P w K mg base CA "longer" 1 (S_longer CA)) : Pg P w K mg base CA "leaves" 4 (S_leaves CA) := by
  refine pg_mk F sc_Chooser_leaves (fun _ _ _ _ _ _ us hl => match us, hl with | [_, _], _ => rfl) (fun Z ds R h => by obtain ⟨c, dx, ans, fs, s, m, k, t, rfl, _⟩ := h; rfl) (fun f cdv A outer s H E pn hr => ⟨_, (gscs_cons (gsc_ps (ps_expr (pe_pf hKt hr (by decide) rfl (pa_cons (pv 1) (pa_cons (pe_cst hMl rfl) pa_nil))))) (gscs_cons (gsc_ps (ps_set (i := 2) sc_Chooser_leaves.nd rfl (.inl rfl) (pe_lst (pa_cons (pe_tup (pa_cons (pe_tup pa_nil) (pa_cons pe_int pa_nil))) pa_nil)))) (gscs_cons (gsc_for owns_gcx rfl (pi_range1 rfl B.range (pa_cons (pe_op op_add (pv 1) pe_int) pa_nil)) (pg_name (i := 3) sc_Chooser_leaves.nd rfl (.inl rfl)) (gscs_cons (gsc_for owns_gcx rfl (pi_listK (K := K) rfl (pv 2)) (pg_tupK (K := K) rfl rfl (pgs_cons (pg_name (i := 4) sc_Chooser_leaves.nd rfl (.inl rfl)) (pgs_cons (pg_name (i := 5) sc_Chooser_leaves.nd rfl (.inl rfl)) pgs_nil))) (gscs_cons (gsc_if (pt_not (pt_val (pe_isi (K := K) rfl rfl B rfl (pa_cons (pe_ixT (K := K) rfl (pe_fldK (K := K) rfl (pv 0) rfl) (pv 5) (fun _ _ => rfl)) (pa_cons (pe_tyT rfl B rfl) pa_nil))))) (gscs_cons (gsc_yield (pe_tup (pa_cons (pv 4) (pa_cons (pe_ixT (K := K) rfl (pe_fldK (K := K) rfl (pv 0) rfl) (pv 5) (fun _ _ => rfl)) pa_nil)))) gscs_nil) gscs_nil) gscs_nil)) (gscs_cons (gsc_ps (ps_set (i := 2) sc_Chooser_leaves.nd rfl (.inl rfl) (pe_mx hLo Ka.cls hr (by decide) passL (pv 0) (pa_cons (pe_lc (own := [("pair", 6)]) (g := gName 6) rfl sc_Chooser_leaves.nd (pi_listK (K := K) rfl (pv 2)) (blkOk_by (own := [("pair", 6)]) (N := ["self", "length", "words", "turn", "word", "state", "pair"]) (sc := defScope (s_Chooser_leaves)) (by decide +kernel)) (fun _ _ _ _ _ => (pg_name (i := 6) sc_Chooser_leaves.nd rfl (.inl rfl))) (fun _ _ _ _ _ => pts_one (pt_val (pe_isi (K := K) rfl rfl B rfl (pa_cons (pe_ixT (K := K) rfl (pe_fldK (K := K) rfl (pv 0) rfl) (pe_ixT (K := K) rfl (pv 6) pe_int (fun _ _ => rfl)) (fun _ _ => rfl)) (pa_cons (pe_tyT rfl B rfl) pa_nil))))) (fun _ _ _ _ _ => (pv 6))) pa_nil)))) gscs_nil))) gscs_nil))), fun Z ds R H0 hz hS => ?_⟩)
  obtain ⟨c, dx, ans, fs, s, m, k, t, rfl, rfl, hf, T, hk, hpw, rfl⟩ := hS
  have lk : ∀ L, Lk K H0 L c (.ins CA dx (fs ++ chF s m t ans)) := fun L => .inr (hz _ List.mem_cons_self)
  have la : ∀ L, Lk K H0 L ans (.lst (ansD s m t)) := fun L => .inr (hz _ (List.mem_cons_of_mem _ List.mem_cons_self))
  have no := Ka.no
  have s1 := T.s1
  have s2 := T.s2
  have rows : ∀ {G : Ga} {L : Hl}, G[0]? = some (some (.ref c)) → EvP K H0 G L (tFld K (tVar 0) "rows") (tbD t) := fun h => ev_fld (ev_var h) (lk _) Ka.cls (no _ (by simp)) (by cases hf <;> rfl)
  have sides : ∀ {G : Ga} {L : Hl}, G[0]? = some (some (.ref c)) → EvP K H0 G L (tFld K (tVar 0) "side_count") (.int (s : Int)) := fun h => ev_fld (ev_var h) (lk _) Ka.cls (no _ (by simp)) (by cases hf <;> rfl)
  have hl2 : (fs ++ chF s m t ans).lookup ("longer" : Str) = none := by cases hf <;> rfl
  let Gx : Addr → Option D → Option D → Option D → Ga := fun l v3 v4 v5 => [some (.ref c), some (.int (k : Int)), some (.ref l), v3, v4, v5, none]
  refine gg_seq (gg_plain (go_drop (ev_call (ea_cons (ev_var rfl) (ea_cons (ev_k fun _ => .int 6) ea_nil)) ⟨k, 6, rfl, hk, rfl⟩) ?_))
  refine gg_seq (gg_plain (go_setN (en_lst (ds := [pwD ([], 0)]) (ea_cons (ev_tup (ds := [.tup [], .int 0]) (ea_cons (ev_tup ea_nil (by show 0 ≤ 100000; decide)) (ea_cons ev_int ea_nil)) (by show 2 ≤ 100000; decide)) ea_nil) (by show 1 ≤ 100000; decide)) fun d N hN => ?_))
  obtain ⟨l0, rfl, rfl⟩ := hN
  refine ⟨_, eg_name, ?_⟩
  refine gg_seq (gg_for (ei_rng1 (n := ((k + 1 : Nat) : Int)) (ea_cons (EvP.cast (ev_op (ev_var rfl) ev_int rv_add) (x := .int ((k + 1 : Nat) : Int)) rfl) ea_nil) (by omega) (by omega)) fun ds W N h => ?_)
  obtain ⟨rfl, rfl, rfl⟩ := h
  refine ⟨fun i ys G L => i ≤ k + 1 ∧ ∃ l v3 v4 v5, ys = (((List.range i).map (lfW t)).flatten).map pwD ∧ G = Gx l v3 v4 v5 ∧ (l, O.lst ((lvW t i).map pwD)) ∈ L, ⟨Nat.zero_le _, l0, none, none, none, rfl, rfl, List.mem_cons_self⟩, fun _ _ _ _ _ => trivial, fun i d ys G L hd hI => ?_, fun ys G L hI => ?_⟩
  · obtain ⟨_, l, v3, v4, v5, rfl, rfl, hm⟩ := hI
    have hi : i < k + 1 := by have h1 := (List.getElem?_eq_some_iff.mp hd).1; rw [rngD_len, Int.toNat_natCast] at h1; exact h1
    obtain ⟨b1, b2⟩ := lvs_bd T hpw i (by omega)
    have ok := lvW_ok T i
    generalize hpr : (((List.range i).map (lfW t)).flatten) = pr at b2
    generalize hlv : lvW t i = lv at hm b1 ok
    refine ⟨_, eg_name, gg_seq (gg_for (ei_list (ev_var rfl) (.inl hm)) fun ds W N h => ?_)⟩
    obtain ⟨rfl, rfl, rfl⟩ := h
    refine ⟨fun j ys G L' => L' = L ∧ ∃ v4 v5, ys = (pr ++ (lv.take j).filterMap (lfo t)).map pwD ∧ G = Gx l (some d) v4 v5, ⟨rfl, v4, v5, by rw [List.take_zero, List.filterMap_nil, List.append_nil], rfl⟩, fun j ys G L' hJ => by rw [hJ.1]; exact .inl hm, fun j e ys G L' he hJ => ?_, fun ys G L' hJ => ?_⟩
    · obtain ⟨rfl, v4, v5, rfl, rfl⟩ := hJ
      rw [List.getElem?_map] at he
      cases hp : lv[j]? with
      | none => rw [hp] at he; cases he
      | some p =>
        rw [hp] at he
        cases he
        have tk : lv.take (j + 1) = lv.take j ++ [p] := by rw [List.take_succ, hp]; rfl
        have o := ok p (List.mem_of_getElem? hp)
        obtain ⟨r, hr'⟩ := row_at o.st
        have fm : (lv.take (j + 1)).filterMap (lfo t) = (lv.take j).filterMap (lfo t) ++ ([p]).filterMap (lfo t) := by rw [tk, List.filterMap_append]
        have lb : ((lv.take j).filterMap (lfo t)).length ≤ 10000 := Nat.le_trans (List.length_filterMap_le _ _) (by rw [List.length_take]; exact Nat.le_trans (Nat.min_le_right _ _) b1)
        have ilt : i * 10000 ≤ 70000 := by omega
        obtain ⟨w, x⟩ := p
        refine ⟨_, eg_two (x := .tup (nD w)) (y := .int (x : Int)), gg_seq (gg_if (et_not (tt := tB _) (et_B (ev_isTup (ev_op (rows rfl) (ev_var rfl) (rv_ixT (atN (tb_get hr')))) (tyn_rw r)))) (fun hb => ?_) (fun hb => ?_))⟩
        · cases r with
          | go g => cases hb
          | fin a =>
            refine gg_seq (gg_yield (d := pwD (w, a)) (ev_tup (ea_cons (ev_var rfl) (ea_cons (ev_op (rows rfl) (ev_var rfl) (rv_ixT (atN (tb_get hr')))) ea_nil)) (by show 2 ≤ 100000; decide)) (by rw [List.length_map, List.length_append]; omega) (gg_nil (gg_nil ⟨rfl, _, _, ?_, rfl⟩)))
            rw [fm]
            have : ([(w, x)] : List (List Nat × Nat)).filterMap (lfo t) = [(w, a)] := by
              rw [List.filterMap_cons_some (b := (w, a)) (by unfold lfo; rw [hr'])]
              rfl
            rw [this, ← List.append_assoc, List.map_append (l₂ := [(w, a)])]
            rfl
        · cases r with
          | fin a => cases hb
          | go g =>
            refine gg_nil (gg_nil ⟨rfl, _, _, ?_, rfl⟩)
            rw [fm]
            have : ([(w, x)] : List (List Nat × Nat)).filterMap (lfo t) = [] := by
              rw [List.filterMap_cons_none (by unfold lfo; rw [hr'])]
              rfl
            rw [this, List.append_nil]
    · obtain ⟨rfl, v4, v5, rfl, rfl⟩ := hJ
      rw [List.length_map, List.take_length]
      have hg : ∀ p ∈ lv.filter fun p => isGo t p.2, p.1.length ≤ 1000 ∧ isGo t p.2 = true := fun p hp => by
        obtain ⟨h1, h2⟩ := List.mem_filter.mp hp
        exact ⟨by rw [(ok p h1).len]; omega, h2⟩
      have nx : ((lv.filter fun p => isGo t p.2).map (extW t)).flatten = lvW t (i + 1) := by rw [lvW, hlv]
      refine gg_seq (gg_plain (go_setN (en_mxN (Z := tZ CA c dx ans fs s m t) (PA := fun ds N => ∃ d, ds = [d] ∧ New1 (.lst ((lv.filter fun p => isGo t p.2).map pwD)) d N) (ev_var rfl) (lk _) (lookN hl2) (ean_one (EvN.imp (en_lc (fun d => match d with | .tup [_, .int x] => isGo t x.toNat | _ => false) (fun d => d) (ei_list (ev_var rfl) (.inl hm)) (fun Z => .inl (List.mem_cons_of_mem _ hm)) (fun d hd => ?_) (fun d hd _ => ev_var rfl) (by rw [List.length_map]; omega)) fun d N h => ?_)) (R := New1 (.lst ((lvW t (i + 1)).map pwD))) (fun ds N h => ?_) (fun p hp => by
    simp only [List.mem_cons, List.not_mem_nil, or_false] at hp
    rcases hp with rfl | rfl
    · exact lk _
    · exact la _)) fun d N hN => ?_))
      · obtain ⟨p, hp, rfl⟩ := List.mem_map.mp hd
        obtain ⟨w, x⟩ := p
        obtain ⟨r, hr'⟩ := row_at (ok _ hp).st
        refine et_B (EvP.cast (ev_isTup (ev_op (rows rfl) (ev_op (ev_var rfl) ev_int (rv_ixT (ds := [.tup (nD w), .int (x : Int)]) (z := .int (x : Int)) rfl)) (rv_ixT (atN (tb_get hr')))) (tyn_rw r)) ?_)
        show _ = D.bl (isGo t ((x : Nat) : Int).toNat)
        rw [Int.toNat_natCast, isGo_eq hr']
      · obtain ⟨a, rfl, rfl⟩ := h
        refine ⟨a, rfl, ?_⟩
        rw [List.map_id', List.filter_map]
        congr 3
      · obtain ⟨d, rfl, a, rfl, rfl⟩ := h
        refine ⟨c, dx, ans, a, fs, s, m, t, _, rfl, rfl, rfl, hf, T, hg, ?_, ?_⟩
        · rw [nx]
          exact Nat.le_trans (lvs_bd T hpw (i + 1) (by omega)).1 (by decide)
        · rw [nx]
      · obtain ⟨l2, rfl, rfl⟩ := hN
        refine ⟨_, eg_name, gg_nil ⟨by omega, l2, _, _, _, ?_, rfl, List.mem_cons_self⟩⟩
        have e : ((List.range (i + 1)).map (lfW t)).flatten = pr ++ lv.filterMap (lfo t) := by
          rw [List.range_succ, List.map_append, List.flatten_append, List.map_singleton, List.flatten_singleton, hpr]
          unfold lfW
          rw [hlv]
        rw [e]
  · obtain ⟨_, l, v3, v4, v5, rfl, rfl, hm⟩ := hI
    rw [rngD_len, Int.toNat_natCast]
    exact gg_nil rfl
end
end Fc

namespace Fc
open PySem PySem.Spec PyProof.Rows L2
abbrev s__law_cell : Stmt := top 71
theorem sc__law_cell : FnScope ["_law_script", "_law_k"] ["_law_script", "_law_k"] (defScope s__law_cell) := ⟨rfl, rfl, rfl, by decide +kernel, rfl, by decide +kernel, by decide +kernel⟩
abbrev s__law_is_same : Stmt := top 74
theorem sc__law_is_same : FnScope ["_law_actual", "_law_expected", "_law_k"] ["_law_actual", "_law_expected"] (defScope s__law_is_same) := ⟨rfl, rfl, rfl, by decide +kernel, rfl, by decide +kernel, by decide +kernel⟩
abbrev s__law_draws : Stmt := top 72
theorem sc__law_draws : FnScope ["_law_cell_here", "_law_sizes", "_law_found", "_law_k", "_law_left", "_law_size", "_law_mixed"] ["_law_cell_here", "_law_sizes"] (defScope s__law_draws) := ⟨rfl, rfl, rfl, by decide +kernel, rfl, by decide +kernel, by decide +kernel⟩

def S_cell : FS := fun Z ds R => ∃ (l : Addr) (ns : List Int) (k : Nat), ds = [.ref l, .int (k : Int)] ∧ Z = [(l, .lst (ns.map D.int))] ∧ R = Val (.int (ns.getD k 0))
def S_walk : FS := fun _ ds R => ∃ (s m : Nat) (t : List Rw) (w : List Nat), ds = [tbD t, .tup (nD w)] ∧ Tb s m t ∧ (∀ x ∈ w, x < s) ∧ w.length ≤ 1000 ∧ R = Val (.tup [.int (wk t 0 w : Int), .int (wlen t 0 w : Int)])
/-- plain data of small depth -/
def pln : Nat → D → Bool
  | _, .non => true
  | _, .int _ => true
  | _, .str _ => true
  | n + 1, .tup ds => ds.all (pln n) && decide (ds.length ≤ 2000)
  | _, _ => false
def S_same (n : Nat) : FS := fun _ ds R => ∃ x, ds = [x, x] ∧ pln n x = true ∧ R = Val (.bl true)
def duS (s : Nat) (t : List Rw) (w v : List Nat) : String := if v.all (fun x => decide (x < s)) = true then (if decd t (wk t 0 w) v = true then "decided" else "") else "side"
def S_due : FS := fun _ ds R => ∃ (s m : Nat) (t : List Rw) (w v : List Nat), ds = [tbD t, .tup (nD w), .tup (nD v), .int (s : Int)] ∧ Tb s m t ∧ (∀ x ∈ w, x < s) ∧ w.length + v.length ≤ 1000 ∧ R = Val (.str (Str.ofString (duS s t w v)))
section
variable {P : Program} {w : World} {K : PySem.W.Frag} {mg : Str → Option Value} {base : Heap}
theorem ok__law_cell (B : Bl mg) (F : FunG K mg "_law_cell" s__law_cell)  : Pf P w K mg base "_law_cell" 1 S_cell := by
  refine pf_mk F sc__law_cell (fun _ _ _ _ _ _ us hl => match us, hl with | [_, _], _ => rfl) (fun Z ds R h => by obtain ⟨l, ns, k, rfl, _⟩ := h; rfl) (fun f cdv A outer s H E hr => ⟨_, (pss_cons (ps_if (pt_cmpR op_lt (pv 1) (pe_len (K := K) rfl rfl B rfl (pa_cons (pv 0) pa_nil)) (nomark _)) (pss_cons (ps_ret (pe_ixL (K := K) rfl (pv 0) (pv 1) (fun _ _ => rfl))) pss_nil) pss_nil) (pss_cons (ps_ret pe_int) pss_nil)), fun Z ds R H0 hz hS => ?_⟩)
  obtain ⟨l, ns, k, rfl, rfl, rfl⟩ := hS
  have lk : ∀ L, Lk K H0 L l (.lst (ns.map D.int)) := fun L => .inr (hz _ List.mem_cons_self)
  refine gq_ifL (et_test (ev_op (ev_var rfl) (ev_cb (ea_cons (ev_var rfl) ea_nil) (rc_lenL (lk _))) rv_lt)) (fun hb => ?_) (fun hb => ?_)
  · have hk := of_decide_eq_true hb
    rw [List.length_map] at hk
    have hk' : k < ns.length := by omega
    refine gq_retP (d := .int (ns.getD k 0)) (ev_op (ev_var rfl) (ev_var rfl) (rv_ixL (lk _) (atN ?_))) rfl
    rw [List.getElem?_map, List.getElem?_eq_getElem hk', List.getD_eq_getElem?_getD, List.getElem?_eq_getElem hk']
    rfl
  · have hk := of_decide_eq_false hb
    rw [List.length_map] at hk
    have hk' : ns.getD k 0 = 0 := by rw [List.getD_eq_getElem?_getD, List.getElem?_eq_none (by omega)]; rfl
    rw [hk']
    exact gq_retP ev_int rfl
theorem pf_none {x : Str} {st : Stmt} {N ps : List Str} (F : FunG K mg x st) (sc : FnScope N ps (defScope st)) (bh : BindH x st 0 ps) : Pf P w K mg base x 0 (fun _ _ _ => False) := by
  obtain ⟨f, fd, F1, hm⟩ := F.ex
  exact ⟨f, fd, ps, ⟨fun vs H Q E h => by obtain ⟨_, _, _, _, _, h, _⟩ := h; exact h.elim, fun A outer s H args us vs Q E _ _ _ _ h => by obtain ⟨_, _, _, _, _, h, _⟩ := h; exact h.elim⟩, hm, F1.kp, F1.binds bh⟩
theorem ok_same0 (B : Bl mg) (F : FunG K mg "_law_is_same" s__law_is_same) (n : Nat) (hn : n = 0) (hRec : Pf P w K mg base "_law_is_same" 0 (fun _ _ _ => False)) : Pf P w K mg base "_law_is_same" 1 (S_same 0) := by
  refine pf_mk F sc__law_is_same (fun _ _ _ _ _ _ us hl => match us, hl with | [_, _], _ => rfl) (fun Z ds R h => by obtain ⟨x, rfl, _⟩ := h; rfl) (fun f cdv A outer s H E hr => ⟨_, (pss_cons (ps_if (pt_val (pe_isi (K := K) rfl rfl B rfl (pa_cons (pv 1) (pa_cons (pe_tyT rfl B rfl) pa_nil)))) (pss_cons (ps_if (PW.pt (pw_or (pt_not (pt_val (pe_isi (K := K) rfl rfl B rfl (pa_cons (pv 0) (pa_cons (pe_tyT rfl B rfl) pa_nil))))) (pw_or1 (pt_cmpR op_ne (pe_len (K := K) rfl rfl B rfl (pa_cons (pv 0) pa_nil)) (pe_len (K := K) rfl rfl B rfl (pa_cons (pv 1) pa_nil)) (nomark _))))) (pss_cons (ps_ret pe_bl) pss_nil) pss_nil) (pss_cons (ps_ret (pe_all (K := K) rfl rfl B rfl rfl (pa_cons (pe_lc (own := [("_law_k", 2)]) (g := gName 2) rfl sc__law_is_same.nd (pi_range1 rfl B.range (pa_cons (pe_len (K := K) rfl rfl B rfl (pa_cons (pv 1) pa_nil)) pa_nil)) (blkOk_by (own := [("_law_k", 2)]) (N := ["_law_actual", "_law_expected", "_law_k"]) (sc := defScope (s__law_is_same)) (by decide +kernel)) (fun _ _ _ _ _ => (pg_name (i := 2) sc__law_is_same.nd rfl (.inl rfl))) (fun _ _ _ _ _ => pts_nil) (fun _ _ _ _ _ => (pe_pf hRec hr (by omega) rfl (pa_cons (pe_ixT (K := K) rfl (pv 0) (pv 2) (fun _ _ => rfl)) (pa_cons (pe_ixT (K := K) rfl (pv 1) (pv 2) (fun _ _ => rfl)) pa_nil))))) pa_nil))) pss_nil)) pss_nil) (pss_cons (ps_if (pt_cmp (pc_isN (pv 1))) (pss_cons (ps_ret (pe_cmp (pc_isN (pv 0)))) pss_nil) pss_nil) (pss_cons (ps_if (pt_val (pe_isi (K := K) rfl rfl B rfl (pa_cons (pv 1) (pa_cons (pe_tyS rfl B rfl) pa_nil)))) (pss_cons (ps_ret (pe_and (pe_isi (K := K) rfl rfl B rfl (pa_cons (pv 0) (pa_cons (pe_tyS rfl B rfl) pa_nil))) (pe_one (pe_cmpR op_eq (pv 0) (pv 1) (nomark _))))) pss_nil) pss_nil) (pss_cons (ps_if (PW.pt (pw_or (pt_not (pt_val (pe_isi (K := K) rfl rfl B rfl (pa_cons (pv 0) (pa_cons (pe_tyI rfl B rfl) pa_nil))))) (pw_or1 (pt_cmpR op_ne (pe_isi (K := K) rfl rfl B rfl (pa_cons (pv 0) (pa_cons (pe_tyB rfl B rfl) pa_nil))) (pe_isi (K := K) rfl rfl B rfl (pa_cons (pv 1) (pa_cons (pe_tyB rfl B rfl) pa_nil))) (nomark _))))) (pss_cons (ps_ret pe_bl) pss_nil) pss_nil) (pss_cons (ps_ret (pe_cmpR op_eq (pv 0) (pv 1) (nomark _))) pss_nil))))), fun Z ds R H0 hz hS => ?_⟩)
  obtain ⟨x, rfl, hp, rfl⟩ := hS
  cases x with
  | tup ds =>
    cases hp
  | non =>
    refine gq_ifL (b := false) (et_B (ev_isTupB (ev_var rfl) rfl rfl)) (fun h => by cases h) (fun _ => ?_)
    refine gq_ifL (b := true) (et_B (EvP.cast (ev_isN (d := .non) (ev_var rfl)) rfl)) (fun _ => ?_) (fun h => by cases h)
    exact gq_retP (EvP.cast (ev_isN (d := .non) (ev_var rfl)) rfl) rfl
  | int i =>
    refine gq_ifL (b := false) (et_B (ev_isTupB (ev_var rfl) rfl rfl)) (fun h => by cases h) (fun _ => ?_)
    refine gq_ifL (b := false) (et_B (EvP.cast (ev_isN (d := .int i) (ev_var rfl)) rfl)) (fun h => by cases h) (fun _ => ?_)
    refine gq_ifL (b := false) (et_B (EvP.cast (ev_isStr (ev_var rfl) rfl) rfl)) (fun h => by cases h) (fun _ => ?_)
    refine gq_ifL (b := false) (et_or (b := false) (c := false) (et_not (tt := tB _) (et_B (b := true) (EvP.cast (ev_isInt (ev_var rfl) rfl) rfl))) (fun _ => et_test (EvP.cast (ev_op (ev_isBool (ev_var rfl) rfl) (ev_isBool (ev_var rfl) rfl) (rv_ne (u := .bl false) (v := .bl false) rfl rfl rfl)) rfl))) (fun h => by cases h) (fun _ => ?_)
    refine gq_retP (EvP.cast (ev_op (ev_var rfl) (ev_var rfl) rv_eqI) ?_) rfl
    rw [decide_eq_true rfl]
  | str i =>
    refine gq_ifL (b := false) (et_B (ev_isTupB (ev_var rfl) rfl rfl)) (fun h => by cases h) (fun _ => ?_)
    refine gq_ifL (b := false) (et_B (EvP.cast (ev_isN (d := .str i) (ev_var rfl)) rfl)) (fun h => by cases h) (fun _ => ?_)
    refine gq_ifL (b := true) (et_B (EvP.cast (ev_isStr (ev_var rfl) rfl) rfl)) (fun _ => ?_) (fun h => by cases h)
    refine gq_retP (EvP.cast (ev_andV (b := true) (c := true) (EvP.cast (ev_isStr (ev_var rfl) rfl) rfl) (fun _ => EvP.cast (ev_op (ev_var rfl) (ev_var rfl) (rv_eq (u := .str i) (v := .str i) rfl rfl rfl)) (by rw [decide_eq_true rfl]))) rfl) rfl
  | bl b => cases n <;> cases hp
  | tupN b => cases n <;> cases hp
  | ref b => cases n <;> cases hp
  | ty b => cases n <;> cases hp
theorem ok_sameS (B : Bl mg) (F : FunG K mg "_law_is_same" s__law_is_same) (n : Nat) (hRec : Pf P w K mg base "_law_is_same" (n + 1) (S_same n)) : Pf P w K mg base "_law_is_same" (n + 2) (S_same (n + 1)) := by
  refine pf_mk F sc__law_is_same (fun _ _ _ _ _ _ us hl => match us, hl with | [_, _], _ => rfl) (fun Z ds R h => by obtain ⟨x, rfl, _⟩ := h; rfl) (fun f cdv A outer s H E hr => ⟨_, (pss_cons (ps_if (pt_val (pe_isi (K := K) rfl rfl B rfl (pa_cons (pv 1) (pa_cons (pe_tyT rfl B rfl) pa_nil)))) (pss_cons (ps_if (PW.pt (pw_or (pt_not (pt_val (pe_isi (K := K) rfl rfl B rfl (pa_cons (pv 0) (pa_cons (pe_tyT rfl B rfl) pa_nil))))) (pw_or1 (pt_cmpR op_ne (pe_len (K := K) rfl rfl B rfl (pa_cons (pv 0) pa_nil)) (pe_len (K := K) rfl rfl B rfl (pa_cons (pv 1) pa_nil)) (nomark _))))) (pss_cons (ps_ret pe_bl) pss_nil) pss_nil) (pss_cons (ps_ret (pe_all (K := K) rfl rfl B rfl rfl (pa_cons (pe_lc (own := [("_law_k", 2)]) (g := gName 2) rfl sc__law_is_same.nd (pi_range1 rfl B.range (pa_cons (pe_len (K := K) rfl rfl B rfl (pa_cons (pv 1) pa_nil)) pa_nil)) (blkOk_by (own := [("_law_k", 2)]) (N := ["_law_actual", "_law_expected", "_law_k"]) (sc := defScope (s__law_is_same)) (by decide +kernel)) (fun _ _ _ _ _ => (pg_name (i := 2) sc__law_is_same.nd rfl (.inl rfl))) (fun _ _ _ _ _ => pts_nil) (fun _ _ _ _ _ => (pe_pf hRec hr (by omega) rfl (pa_cons (pe_ixT (K := K) rfl (pv 0) (pv 2) (fun _ _ => rfl)) (pa_cons (pe_ixT (K := K) rfl (pv 1) (pv 2) (fun _ _ => rfl)) pa_nil))))) pa_nil))) pss_nil)) pss_nil) (pss_cons (ps_if (pt_cmp (pc_isN (pv 1))) (pss_cons (ps_ret (pe_cmp (pc_isN (pv 0)))) pss_nil) pss_nil) (pss_cons (ps_if (pt_val (pe_isi (K := K) rfl rfl B rfl (pa_cons (pv 1) (pa_cons (pe_tyS rfl B rfl) pa_nil)))) (pss_cons (ps_ret (pe_and (pe_isi (K := K) rfl rfl B rfl (pa_cons (pv 0) (pa_cons (pe_tyS rfl B rfl) pa_nil))) (pe_one (pe_cmpR op_eq (pv 0) (pv 1) (nomark _))))) pss_nil) pss_nil) (pss_cons (ps_if (PW.pt (pw_or (pt_not (pt_val (pe_isi (K := K) rfl rfl B rfl (pa_cons (pv 0) (pa_cons (pe_tyI rfl B rfl) pa_nil))))) (pw_or1 (pt_cmpR op_ne (pe_isi (K := K) rfl rfl B rfl (pa_cons (pv 0) (pa_cons (pe_tyB rfl B rfl) pa_nil))) (pe_isi (K := K) rfl rfl B rfl (pa_cons (pv 1) (pa_cons (pe_tyB rfl B rfl) pa_nil))) (nomark _))))) (pss_cons (ps_ret pe_bl) pss_nil) pss_nil) (pss_cons (ps_ret (pe_cmpR op_eq (pv 0) (pv 1) (nomark _))) pss_nil))))), fun Z ds R H0 hz hS => ?_⟩)
  obtain ⟨x, rfl, hp, rfl⟩ := hS
  cases x with
  | tup ds =>
    have hp2 : (ds.all (pln n) && decide (ds.length ≤ 2000)) = true := hp
    rw [Bool.and_eq_true] at hp2
    have hl := of_decide_eq_true hp2.2
    refine gq_ifL (b := true) (et_B (ev_isTupB (ev_var rfl) rfl rfl)) (fun _ => ?_) (fun h => by cases h)
    refine gq_ifL (b := false) (et_or (b := false) (c := false) (et_not (tt := tB _) (et_B (b := true) (ev_isTupB (ev_var rfl) rfl rfl))) (fun _ => EvT.cast (et_test (ev_op (ev_cb (ea_cons (ev_var rfl) ea_nil) rc_lenT) (ev_cb (ea_cons (ev_var rfl) ea_nil) rc_lenT) rv_neI)) (by rw [decide_eq_true rfl]; rfl))) (fun h => by cases h) (fun _ => ?_)
    refine gq_retP (EvP.cast (ev_allN (f := fun _ => true) (v := fun _ => .bl true) (en_lcY (v := fun _ => .bl true) (ei_rng1 (n := (ds.length : Int)) (ea_cons (ev_cb (ea_cons (ev_var rfl) ea_nil) rc_lenT) ea_nil) (by omega) (by omega)) (fun _ => trivial) (fun d hd => ?_) (by rw [rngD_len]; omega)) (fun _ _ => rfl)) ?_) rfl
    · obtain ⟨i, hi⟩ := List.getElem?_of_mem hd
      have hil : i < ds.length := by have h1 := (List.getElem?_eq_some_iff.mp hi).1; rw [rngD_len] at h1; omega
      rw [rngD_get (by omega)] at hi
      have hdi : d = .int (i : Int) := by rw [← Option.some.inj hi, Int.zero_add]
      subst hdi
      have hx : ds[i]? = some ds[i] := List.getElem?_eq_getElem hil
      exact ev_call (ea_cons (ev_op (ev_var rfl) (ev_var rfl) (rv_ixT (atN hx))) (ea_cons (ev_op (ev_var rfl) (ev_var rfl) (rv_ixT (atN hx))) ea_nil)) ⟨ds[i], rfl, List.all_eq_true.mp hp2.1 _ (List.getElem_mem hil), rfl⟩
    · congr 1
      exact List.all_eq_true.mpr fun _ _ => rfl
  | non =>
    refine gq_ifL (b := false) (et_B (ev_isTupB (ev_var rfl) rfl rfl)) (fun h => by cases h) (fun _ => ?_)
    refine gq_ifL (b := true) (et_B (EvP.cast (ev_isN (d := .non) (ev_var rfl)) rfl)) (fun _ => ?_) (fun h => by cases h)
    exact gq_retP (EvP.cast (ev_isN (d := .non) (ev_var rfl)) rfl) rfl
  | int i =>
    refine gq_ifL (b := false) (et_B (ev_isTupB (ev_var rfl) rfl rfl)) (fun h => by cases h) (fun _ => ?_)
    refine gq_ifL (b := false) (et_B (EvP.cast (ev_isN (d := .int i) (ev_var rfl)) rfl)) (fun h => by cases h) (fun _ => ?_)
    refine gq_ifL (b := false) (et_B (EvP.cast (ev_isStr (ev_var rfl) rfl) rfl)) (fun h => by cases h) (fun _ => ?_)
    refine gq_ifL (b := false) (et_or (b := false) (c := false) (et_not (tt := tB _) (et_B (b := true) (EvP.cast (ev_isInt (ev_var rfl) rfl) rfl))) (fun _ => et_test (EvP.cast (ev_op (ev_isBool (ev_var rfl) rfl) (ev_isBool (ev_var rfl) rfl) (rv_ne (u := .bl false) (v := .bl false) rfl rfl rfl)) rfl))) (fun h => by cases h) (fun _ => ?_)
    refine gq_retP (EvP.cast (ev_op (ev_var rfl) (ev_var rfl) rv_eqI) ?_) rfl
    rw [decide_eq_true rfl]
  | str i =>
    refine gq_ifL (b := false) (et_B (ev_isTupB (ev_var rfl) rfl rfl)) (fun h => by cases h) (fun _ => ?_)
    refine gq_ifL (b := false) (et_B (EvP.cast (ev_isN (d := .str i) (ev_var rfl)) rfl)) (fun h => by cases h) (fun _ => ?_)
    refine gq_ifL (b := true) (et_B (EvP.cast (ev_isStr (ev_var rfl) rfl) rfl)) (fun _ => ?_) (fun h => by cases h)
    refine gq_retP (EvP.cast (ev_andV (b := true) (c := true) (EvP.cast (ev_isStr (ev_var rfl) rfl) rfl) (fun _ => EvP.cast (ev_op (ev_var rfl) (ev_var rfl) (rv_eq (u := .str i) (v := .str i) rfl rfl rfl)) (by rw [decide_eq_true rfl]))) rfl) rfl
  | bl b => cases n <;> cases hp
  | tupN b => cases n <;> cases hp
  | ref b => cases n <;> cases hp
  | ty b => cases n <;> cases hp
end
structure Dws (zs ns : List Nat) : Prop where
  len : ns.length = zs.length
  lt : ∀ (i n z : Nat), ns[i]? = some n → zs[i]? = some z → n < z
def S_draws : FS := fun Z ds R => ∃ (c : Int) (sz : Addr) (zs : List Nat), ds = [.int c, .ref sz] ∧ Z = [(sz, .lst (nD zs))] ∧ (∀ z ∈ zs, 1 ≤ z ∧ z ≤ 1000) ∧ zs.length ≤ 1000 ∧ R = fun d N => ∃ ns, Dws zs ns ∧ New1 (.lst (nD ns)) d N
theorem dws_snoc {zs ns : List Nat} {i n z : Nat} (hz : zs[i]? = some z) (h : Dws (zs.take i) ns) (hn : n < z) : Dws (zs.take (i + 1)) (ns ++ [n]) := by
  have hi := (List.getElem?_eq_some_iff.mp hz).1
  have hl : (zs.take i).length = i := by rw [List.length_take]; omega
  have e : zs.take (i + 1) = zs.take i ++ [z] := by rw [List.take_succ, hz]; rfl
  rw [e]
  refine ⟨by rw [List.length_append, List.length_append, h.len]; rfl, fun j a b ha hb => ?_⟩
  by_cases hj : j < i
  · rw [List.getElem?_append_left (by rw [h.len]; omega)] at ha
    rw [List.getElem?_append_left (by omega)] at hb
    exact h.lt j a b ha hb
  · rw [List.getElem?_append_right (by omega)] at hb
    have hji : j - (zs.take i).length = 0 := by have := (List.getElem?_eq_some_iff.mp hb).1; rw [List.length_singleton] at this; omega
    rw [hji] at hb
    rw [List.getElem?_append_right (by rw [h.len]; omega), h.len, hji] at ha
    cases ha
    cases hb
    exact hn
theorem mod_nat {c : Int} {z : Nat} (h : 1 ≤ z) : ∃ n : Nat, n < z ∧ c % (z : Int) = (n : Int) := by
  have h1 := Int.emod_nonneg c (show (z : Int) ≠ 0 by omega)
  have h2 := Int.emod_lt_of_pos c (show (0 : Int) < (z : Int) by omega)
  exact ⟨(c % (z : Int)).toNat, by omega, by omega⟩
section
variable {P : Program} {w : World} {K : PySem.W.Frag} {mg : Str → Option Value} {base : Heap}
theorem ok__law_draws (B : Bl mg) (F : FunG K mg "_law_draws" s__law_draws)  : Pf P w K mg base "_law_draws" 1 S_draws := by
  refine pf_mk F sc__law_draws (fun _ _ _ _ _ _ us hl => match us, hl with | [_, _], _ => rfl) (fun Z ds R h => by obtain ⟨c, sz, zs, rfl, _⟩ := h; rfl) (fun f cdv A outer s H E hr => ⟨_, (pss_cons (ps_set (i := 2) sc__law_draws.nd rfl (.inl rfl) (pe_lst pa_nil)) (pss_cons (ps_if (pt_cmpR op_ge (pv 0) (pe_op op_pow pe_int pe_int) (nomark _)) (pss_cons (ps_set (i := 4) sc__law_draws.nd rfl (.inl rfl) (pe_op op_sub (pv 0) (pe_op op_pow pe_int pe_int))) (pss_cons (ps_for PassesOwn.never rfl (pi_listK (K := K) rfl (pv 1)) (pg_name (i := 5) sc__law_draws.nd rfl (.inl rfl)) (pss_cons (ps_expr (pe_bm PySem.F.plainAttrs_list PySem.F.slot_list_append PySem.F.type_list_append mt_append (pv 2) (pa_cons (pe_op op_mod (pv 4) (pv 5)) pa_nil))) (pss_cons (ps_set (i := 4) sc__law_draws.nd rfl (.inl rfl) (pe_op op_fdivW (pv 4) (pv 5))) pss_nil))) (pss_cons (ps_ret (pv 2)) pss_nil))) pss_nil) (pss_cons (ps_for PassesOwn.never rfl (pi_range1 rfl B.range (pa_cons (pe_len (K := K) rfl rfl B rfl (pa_cons (pv 1) pa_nil)) pa_nil)) (pg_name (i := 3) sc__law_draws.nd rfl (.inl rfl)) (pss_cons (ps_set (i := 6) sc__law_draws.nd rfl (.inl rfl) (pe_op op_mod (pe_op op_add (pe_op op_add (pe_op op_mul (pv 0) pe_int) (pe_op op_mul (pv 3) pe_int)) pe_int) pe_int)) (pss_cons (ps_set (i := 6) sc__law_draws.nd rfl (.inl rfl) (pe_op op_mod (pe_op op_add (pe_op op_mul (pv 6) pe_int) (pv 3)) pe_int)) (pss_cons (ps_expr (pe_bm PySem.F.plainAttrs_list PySem.F.slot_list_append PySem.F.type_list_append mt_append (pv 2) (pa_cons (pe_op op_mod (pv 6) (pe_ixL (K := K) rfl (pv 1) (pv 3) (fun _ _ => rfl))) pa_nil))) pss_nil)))) (pss_cons (ps_ret (pv 2)) pss_nil)))), fun Z ds R H0 hz hS => ?_⟩)
  obtain ⟨c, sz, zs, rfl, rfl, hzs, hlen, rfl⟩ := hS
  have lk : ∀ L, Lk K H0 L sz (.lst (nD zs)) := fun L => .inr (hz _ List.mem_cons_self)
  refine gq_new (en_lst ea_nil (by decide)) fun a => ?_
  have p18 : EvP K H0 [some (.int c), some (.ref sz), some (.ref a), none, none, none, none] [(a, .lst [])] (tOp (rI CPow fun i j => .int (i ^ j.toNat)) (tC (.int 10)) (tC (.int 18))) (.int (10 ^ 18)) := ev_op ev_int ev_int (rv_pow ⟨by decide, by decide, by decide⟩)
  refine gq_ifL (et_test (ev_op (ev_var rfl) p18 rv_ge)) (fun hb => ?_) (fun hb => ?_)
  · refine gq_set (ev_op (ev_var rfl) p18 rv_sub) ?_
    refine gq_for0 (ei_list (ev_var rfl) (lk _)) (fun i G L => ∃ (v4 : Int) (v5 : Option D) (ns : List Nat), G = [some (.int c), some (.ref sz), some (.ref a), none, some (.int v4), v5, none] ∧ L = [(a, .lst (nD ns))] ∧ Dws (zs.take i) ns) ⟨_, none, [], rfl, rfl, ⟨rfl, fun i n z h => nomatch h⟩⟩ (fun _ _ _ _ => lk _) (fun i d G L hd hI => ?_) (fun G L hI => ?_)
    · obtain ⟨v4, v5, ns, rfl, rfl, dw⟩ := hI
      obtain ⟨z, hz', rfl⟩ := nD_of hd
      have hzz := hzs z (List.mem_of_getElem? hz')
      obtain ⟨n, hn, hn2⟩ := mod_nat (c := v4) hzz.1
      have hnl : ns.length ≤ 1000 := by rw [dw.len, List.length_take]; omega
      refine ⟨_, eg_name, ?_⟩
      refine gq_append (k := 0) (d := .int (n : Int)) rfl (ev_var rfl) (EvP.cast (ev_op (ev_var rfl) (ev_var rfl) (rv_mod (by omega))) (by rw [hn2])) (by rw [nD_len]; omega) ?_
      refine gq_set (ev_op (ev_var rfl) (ev_var rfl) (rv_fdivW (wide_div (b := 60) (by omega) (by omega) (by decide) (by decide)))) (go_next ⟨_, _, ns ++ [n], rfl, ?_, dws_snoc hz' dw hn⟩)
      rw [← nD_snoc]
      rfl
    · obtain ⟨v4, v5, ns, rfl, rfl, dw⟩ := hI
      rw [nD_len, List.take_length] at dw
      exact gq_retA (ev_var rfl) ⟨ns, dw, a, rfl, rfl⟩
  · refine gq_for0 (ei_rng1 (n := (zs.length : Int)) (ea_cons (EvP.cast (ev_cb (ea_cons (ev_var rfl) ea_nil) (rc_lenL (lk _))) (by rw [nD_len])) ea_nil) (by omega) (by omega)) (fun i G L => ∃ (v3 v6 : Option D) (ns : List Nat), G = [some (.int c), some (.ref sz), some (.ref a), v3, none, none, v6] ∧ L = [(a, .lst (nD ns))] ∧ Dws (zs.take i) ns) ⟨none, none, [], rfl, rfl, ⟨rfl, fun i n z h => nomatch h⟩⟩ (fun _ _ _ _ => trivial) (fun i d G L hd hI => ?_) (fun G L hI => ?_)
    · obtain ⟨v3, v6, ns, rfl, rfl, dw⟩ := hI
      have hiz : i < zs.length := by have h1 := (List.getElem?_eq_some_iff.mp hd).1; rw [rngD_len] at h1; omega
      rw [rngD_get (by omega)] at hd
      have hdi : d = .int (i : Int) := by rw [← Option.some.inj hd, Int.zero_add]
      subst hdi
      have hz' : zs[i]? = some zs[i] := List.getElem?_eq_getElem hiz
      have hzz := hzs _ (List.mem_of_getElem? hz')
      have hnl : ns.length ≤ 1000 := by rw [dw.len, List.length_take]; omega
      refine ⟨_, eg_name, ?_⟩
      refine gq_set (ev_op (ev_op (ev_op (ev_op (ev_var rfl) ev_int (rv_mul (.inr ⟨by decide, by decide⟩))) (ev_op (ev_var rfl) ev_int (rv_mul (.inr ⟨by decide, by decide⟩))) rv_add) ev_int rv_add) ev_int (rv_mod (by decide))) ?_
      refine gq_set (ev_op (ev_op (ev_op (ev_var rfl) ev_int (rv_mul (.inr ⟨by decide, by decide⟩))) (ev_var rfl) rv_add) ev_int (rv_mod (by decide))) ?_
      generalize ((((c * 48271 + (i : Int) * 69621 + 11) % 2147483647) * 16807 + (i : Int)) % 998244353) = y
      obtain ⟨n, hn, hn2⟩ := mod_nat (c := y) hzz.1
      refine gq_append (k := 0) (d := .int (n : Int)) rfl (ev_var rfl) (EvP.cast (ev_op (ev_var rfl) (ev_op (ev_var rfl) (ev_var rfl) (rv_ixL (lk _) (atN (nD_get hz')))) (rv_mod (by omega))) (by rw [hn2])) (by rw [nD_len]; omega) (go_next ⟨_, _, ns ++ [n], rfl, ?_, dws_snoc hz' dw hn⟩)
      rw [← nD_snoc]
      rfl
    · obtain ⟨v3, v6, ns, rfl, rfl, dw⟩ := hI
      rw [rngD_len, Int.toNat_natCast, List.take_length] at dw
      exact gq_retA (ev_var rfl) ⟨ns, dw, a, rfl, rfl⟩
end
abbrev s__law_fraction : Stmt := top 73
theorem sc__law_fraction : FnScope ["_law_top", "_law_bottom", "_law_one", "_law_other", "_law_rest"] ["_law_top", "_law_bottom"] (defScope s__law_fraction) := ⟨rfl, rfl, rfl, by decide +kernel, rfl, by decide +kernel, by decide +kernel⟩
abbrev s__law_shares : Stmt := top 75
theorem sc__law_shares : FnScope ["_law_cell_here", "_law_draws_here", "_law_whole", "_law_cuts", "_law_ends", "_law_k"] ["_law_cell_here"] (defScope s__law_shares) := ⟨rfl, rfl, rfl, by decide +kernel, rfl, by decide +kernel, by decide +kernel⟩
abbrev s__law_chances : Stmt := top 76
theorem sc__law_chances : FnScope ["_law_shares_here", "_law_share"] ["_law_shares_here"] (defScope s__law_chances) := ⟨rfl, rfl, rfl, by decide +kernel, rfl, by decide +kernel, by decide +kernel⟩
abbrev s__law_power : Stmt := top 77
theorem sc__law_power : FnScope ["_law_base", "_law_count", "_law_found", "_law_k"] ["_law_base", "_law_count"] (defScope s__law_power) := ⟨rfl, rfl, rfl, by decide +kernel, rfl, by decide +kernel, by decide +kernel⟩
abbrev s__law_nearest : Stmt := top 78
theorem sc__law_nearest : FnScope ["_law_shares_here", "_law_sides", "_law_cap", "_law_scale", "_law_counts", "_law_ranks", "_law_k", "_law_share"] ["_law_shares_here", "_law_sides", "_law_cap"] (defScope s__law_nearest) := ⟨rfl, rfl, rfl, by decide +kernel, rfl, by decide +kernel, by decide +kernel⟩
abbrev s__law_digit : Stmt := top 79
theorem sc__law_digit : FnScope ["_law_count", "_law_sides", "_law_cap", "_law_place", "_law_before"] ["_law_count", "_law_sides", "_law_cap", "_law_place"] (defScope s__law_digit) := ⟨rfl, rfl, rfl, by decide +kernel, rfl, by decide +kernel, by decide +kernel⟩

def S_frac : FS := fun _ ds R => ∃ a b : Int, ds = [.int a, .int b] ∧ 0 < b ∧ b < 2 ^ 9000 ∧ R = Val (fr (mkRat a b.toNat))
/-- shares that the law draws -/
structure Shr (sh : List Nat) : Prop where
  w1 : 1 ≤ sh.sum
  w2 : sh.sum ≤ 30
  l1 : 1 ≤ sh.length
  l6 : sh.length ≤ 6
def S_shr : FS := fun _ ds R => ∃ c : Int, ds = [.int c] ∧ R = fun d N => ∃ sh, Shr sh ∧ New1 (.lst (nD sh)) d N
def S_lchs : FS := fun Z ds R => ∃ (l : Addr) (sh : List Nat), ds = [.ref l] ∧ Z = [(l, .lst (nD sh))] ∧ Shr sh ∧ R = Val (.tupN (chL sh.sum sh))
def S_lpow : FS := fun _ ds R => ∃ s k : Nat, ds = [.int (s : Int), .int (k : Int)] ∧ s ≤ 6 ∧ k ≤ 100 ∧ R = Val (.int ((s ^ k : Nat) : Int))
def S_lnear : FS := fun Z ds R => ∃ (l : Addr) (W : Nat) (sh : List Nat) (s k : Nat), ds = [.ref l, .int (s : Int), .int (k : Int)] ∧ Z = [(l, .lst (nD sh))] ∧ Ch W sh ∧ W ≤ 30 ∧ 2 ≤ s ∧ s ≤ 6 ∧ k ≤ 6 ∧ R = New1 (.lst (nD (near s W k sh)))
def S_lleast : FS := fun Z ds R => ∃ (l : Addr) (W : Nat) (sh : List Nat) (s k : Nat), ds = [.ref l, .int (s : Int), .int (k : Int)] ∧ Z = [(l, .lst (nD sh))] ∧ Ch W sh ∧ W ≤ 50000 ∧ 2 ≤ s ∧ s ≤ 6 ∧ k ≤ 12 ∧ R = Val (fr (mkRat ((opn s W sh k : Nat) : Int) (s ^ k)))
def S_less : FS := fun _ ds R => ∃ r q : Rat, ds = [fr r, fr q] ∧ Sm r ∧ Sm q ∧ R = Val (.bl (decide (r < q)))
/-- cuts in order give shares -/
theorem shr_of {cs : List Nat} {w : Nat} (w1 : 1 ≤ w) (w2 : w ≤ 30) (hp : cs.Pairwise (· ≤ ·)) (hle : ∀ x ∈ cs, x ≤ w) (hl : cs.length ≤ 5) :
    (∀ k, k + 1 < ([0] ++ cs ++ [w]).length → ([0] ++ cs ++ [w]).getD k 0 ≤ ([0] ++ cs ++ [w]).getD (k + 1) 0) ∧ Shr ((List.range (cs.length + 1)).map fun k => ([0] ++ cs ++ [w]).getD (k + 1) 0 - ([0] ++ cs ++ [w]).getD k 0) := by
  have hpe : ([0] ++ cs ++ [w]).Pairwise (· ≤ ·) := by
    rw [List.pairwise_append, List.pairwise_append]
    refine ⟨⟨List.pairwise_singleton _ _, hp, fun a ha b _ => by rw [List.mem_singleton.mp ha]; exact Nat.zero_le _⟩, List.pairwise_singleton _ _, fun a ha b hb => ?_⟩
    rw [List.mem_singleton.mp hb]
    rcases List.mem_append.mp ha with h | h
    · rw [List.mem_singleton.mp h]; exact Nat.zero_le _
    · exact hle a h
  have el : ([0] ++ cs ++ [w]).length = cs.length + 2 := by rw [List.length_append, List.length_append]; show 1 + cs.length + 1 = _; omega
  have e0 : ([0] ++ cs ++ [w]).getD 0 0 = 0 := rfl
  have ew : ([0] ++ cs ++ [w]).getD (cs.length + 1) 0 = w := by
    rw [List.getD_eq_getElem?_getD, List.getElem?_append_right (by rw [List.length_append]; show 1 + cs.length ≤ _; omega)]
    have : cs.length + 1 - ([0] ++ cs).length = 0 := by rw [List.length_append]; show _ - (1 + cs.length) = 0; omega
    rw [this]
    rfl
  generalize ([0] ++ cs ++ [w]) = es at hpe el e0 ew ⊢
  have mono : ∀ k, k + 1 < es.length → es.getD k 0 ≤ es.getD (k + 1) 0 := fun k hk => by
    have := List.pairwise_iff_getElem.mp hpe k (k + 1) (by omega) hk (by omega)
    rw [List.getD_eq_getElem?_getD, List.getD_eq_getElem?_getD, List.getElem?_eq_getElem (by omega), List.getElem?_eq_getElem hk]
    exact this
  have tel : ∀ n, n < es.length → ((List.range n).map fun k => es.getD (k + 1) 0 - es.getD k 0).sum = es.getD n 0 := fun n => by
    induction n with
    | zero => intro _; rw [e0]; rfl
    | succ n ih =>
      intro hn
      have h1 := ih (by omega)
      have h2 := mono n hn
      rw [List.range_succ, List.map_append, List.sum_append, h1]
      simp only [List.map_cons, List.map_nil, List.sum_cons, List.sum_nil]
      omega
  refine ⟨mono, ?_⟩
  have hs := tel (cs.length + 1) (by omega)
  rw [ew] at hs
  exact ⟨by omega, by omega, by rw [List.length_map, List.length_range]; omega, by rw [List.length_map, List.length_range]; omega⟩
theorem p9 {a : Nat} (h : a < 2 ^ 6000) : (a : Int) < 2 ^ 9000 := by
  have h9 : a < 2 ^ 9000 := Nat.lt_of_lt_of_le h (Nat.pow_le_pow_right (by decide) (by decide))
  have := Int.ofNat_lt.mpr h9
  rw [Int.natCast_pow 2] at this
  exact this
section
variable {P : Program} {w : World} {K : PySem.W.Frag} {mg : Str → Option Value} {base : Heap}
theorem ok__law_fraction (B : Bl mg) (F : FunG K mg "_law_fraction" s__law_fraction)  : Pf P w K mg base "_law_fraction" 1 S_frac := by
  refine pf_mk F sc__law_fraction (fun _ _ _ _ _ _ us hl => match us, hl with | [_, _], _ => rfl) (fun Z ds R h => by obtain ⟨a, b, rfl, _⟩ := h; rfl) (fun f cdv A outer s H E hr => ⟨_, (pss_cons (ps_set (i := 2) sc__law_fraction.nd rfl (.inl rfl) (pe_abs (K := K) rfl rfl B rfl (pa_cons (pv 0) pa_nil))) (pss_cons (ps_set (i := 3) sc__law_fraction.nd rfl (.inl rfl) (pv 1)) (pss_cons (ps_while PassesOwn.never (pt_cmpR op_gt (pv 3) pe_int (nomark _)) (pss_cons (ps_set (i := 4) sc__law_fraction.nd rfl (.inl rfl) (pe_op op_mod (pv 2) (pv 3))) (pss_cons (ps_set (i := 2) sc__law_fraction.nd rfl (.inl rfl) (pv 3)) (pss_cons (ps_set (i := 3) sc__law_fraction.nd rfl (.inl rfl) (pv 4)) pss_nil)))) (pss_cons (ps_ret (pe_tup (pa_cons (pe_op op_fdivW (pv 0) (pv 2)) (pa_cons (pe_op op_fdivW (pv 1) (pv 2)) pa_nil)))) pss_nil)))), fun Z ds R H0 hz hS => ?_⟩)
  obtain ⟨a, b, rfl, hb0, hb, rfl⟩ := hS
  refine gq_set (d := .int (a.natAbs : Int)) (EvP.cast (ev_cb (ea_cons (ev_var rfl) ea_nil) rc_abs) (by congr 1; split <;> omega)) (gq_set (ev_var rfl) ?_)
  refine gq_while (m0 := b.toNat) (fun y G L => ∃ (x : Nat) (v : Option D), G = [some (.int a), some (.int b), some (.int (x : Int)), some (.int (y : Int)), v] ∧ Nat.gcd x y = Int.gcd a b ∧ L = []) ⟨a.natAbs, none, ?_, ?_, rfl⟩
    (fun G L => ∃ v, G = [some (.int a), some (.int b), some (.int (Int.gcd a b)), some (.int 0), v] ∧ L = []) (fun y G L hW => ?_) (fun G L hM => ?_)
  · show [some (D.int a), some (D.int b), some (D.int (a.natAbs : Int)), some (D.int b), none] = _
    rw [show ((b.toNat : Nat) : Int) = b by omega]
  · rw [show b.toNat = b.natAbs by omega]; rfl
  · obtain ⟨x, v, rfl, hg, rfl⟩ := hW
    refine ⟨_, et_test (ev_op (ev_var rfl) ev_int rv_gt), fun hb => ?_, fun hb => ?_⟩
    · have hy : 0 < y := by have := of_decide_eq_true hb; omega
      refine gq_set (ev_op (ev_var rfl) (ev_var rfl) (rv_mod (by omega))) (gq_set (ev_var rfl) (gq_set (ev_var rfl) (gq_nil (go_next ?_))))
      refine ⟨x % y, Nat.mod_lt _ hy, y, some (.int ((x : Int) % (y : Int))), ?_, ?_, rfl⟩
      · show [some (D.int a), some (D.int b), some (D.int (y : Int)), some (D.int ((x : Int) % (y : Int))), some (D.int ((x : Int) % (y : Int)))] = _
        rw [← Int.natCast_emod]
      · rw [natgcd_step x y hy, hg]
    · have hy : y = 0 := by have := of_decide_eq_false hb; omega
      subst hy
      rw [← hg, Nat.gcd_zero_right]
      exact ⟨v, rfl, rfl⟩
  · obtain ⟨v, rfl, rfl⟩ := hM
    have g1 := gcd_pos a b hb0
    have g2 := gcd_le_right a b hb0
    have dv : ∀ i, CDivW i (Int.gcd a b : Int) := fun i => by
      refine wide_div (b := 9000) (by omega) ?_ (by decide) (by decide)
      have : (2 : Int) ^ 9000 = ((2 ^ 9000 : Nat) : Int) := by norm_cast
      omega
    refine gq_retP (EvP.cast (ev_tup (ea_cons (ev_op (ev_var rfl) (ev_var rfl) (rv_fdivW (dv _))) (ea_cons (ev_op (ev_var rfl) (ev_var rfl) (rv_fdivW (dv _))) ea_nil)) (by show 2 ≤ 100000; decide)) ?_) rfl
    unfold fr
    rw [num_mk a b hb0, den_mk a b hb0]
theorem ok__law_shares (B : Bl mg) (F : FunG K mg "_law_shares" s__law_shares) (hDr : Pf P w K mg base "_law_draws" 1 S_draws) : Pf P w K mg base "_law_shares" 2 S_shr := by
  refine pf_mk F sc__law_shares (fun _ _ _ _ _ _ us hl => match us, hl with | [_], _ => rfl) (fun Z ds R h => by obtain ⟨c, rfl, _⟩ := h; rfl) (fun f cdv A outer s H E hr => ⟨_, (pss_cons (ps_set (i := 1) sc__law_shares.nd rfl (.inr rfl) (pe_pf hDr hr (by decide) rfl (pa_cons (pv 0) (pa_cons (pe_lst (pa_cons pe_int (pa_cons pe_int (pa_cons pe_int (pa_cons pe_int (pa_cons pe_int (pa_cons pe_int (pa_cons pe_int pa_nil)))))))) pa_nil)))) (pss_cons (ps_set (i := 2) sc__law_shares.nd rfl (.inr rfl) (pe_op op_add pe_int (pe_ixL (K := K) rfl (pv 1) pe_int (fun _ _ => rfl)))) (pss_cons (ps_set (i := 3) sc__law_shares.nd rfl (.inl rfl) (pe_sortI (K := K) rfl rfl B rfl (pa_cons (pe_lc (own := [("_law_k", 5)]) (g := gName 5) rfl sc__law_shares.nd (pi_range1 rfl B.range (pa_cons (pe_ixL (K := K) rfl (pv 1) pe_int (fun _ _ => rfl)) pa_nil)) (blkOk_by (own := [("_law_k", 5)]) (N := ["_law_cell_here", "_law_draws_here", "_law_whole", "_law_cuts", "_law_ends", "_law_k"]) (sc := defScope (s__law_shares)) (by decide +kernel)) (fun _ _ _ _ _ => (pg_name (i := 5) sc__law_shares.nd rfl (.inl rfl))) (fun _ _ _ _ _ => pts_nil) (fun _ _ _ _ _ => (pe_op op_mod (pe_ixL (K := K) rfl (pv 1) (pe_op op_add pe_int (pv 5)) (fun _ _ => rfl)) (pe_op op_add (pv 2) pe_int)))) pa_nil))) (pss_cons (ps_set (i := 4) sc__law_shares.nd rfl (.inr rfl) (pe_op op_cat (pe_op op_cat (pe_lst (pa_cons pe_int pa_nil)) (pv 3)) (pe_lst (pa_cons (pv 2) pa_nil)))) (pss_cons (ps_ret (pe_lc (own := [("_law_k", 5)]) (g := gName 5) rfl sc__law_shares.nd (pi_range1 rfl B.range (pa_cons (pe_op op_sub (pe_len (K := K) rfl rfl B rfl (pa_cons (pv 4) pa_nil)) pe_int) pa_nil)) (blkOk_by (own := [("_law_k", 5)]) (N := ["_law_cell_here", "_law_draws_here", "_law_whole", "_law_cuts", "_law_ends", "_law_k"]) (sc := defScope (s__law_shares)) (by decide +kernel)) (fun _ _ _ _ _ => (pg_name (i := 5) sc__law_shares.nd rfl (.inl rfl))) (fun _ _ _ _ _ => pts_nil) (fun _ _ _ _ _ => (pe_op op_sub (pe_ixL (K := K) rfl (pv 4) (pe_op op_add (pv 5) pe_int) (fun _ _ => rfl)) (pe_ixL (K := K) rfl (pv 4) (pv 5) (fun _ _ => rfl)))))) pss_nil))))), fun Z ds R H0 hz hS => ?_⟩)
  obtain ⟨c, rfl, rfl⟩ := hS
  refine gq_setN (en_callN (Z := []) (R := fun d N => ∃ ns, Dws [30, 6, 31, 31, 31, 31, 31] ns ∧ New1 (.lst (nD ns)) d N) (ean_pn (ev_var rfl) (en_lst (ds := nD [30, 6, 31, 31, 31, 31, 31]) (ea_cons ev_int (ea_cons ev_int (ea_cons ev_int (ea_cons ev_int (ea_cons ev_int (ea_cons ev_int (ea_cons ev_int ea_nil))))))) (by show 7 ≤ 100000; decide))) (fun ds N h => ?_) noZ) fun d N hN => ?_
  · obtain ⟨y, rfl, a, rfl, rfl⟩ := h
    refine ⟨c, a, [30, 6, 31, 31, 31, 31, 31], rfl, rfl, fun z hz => ?_, by show 7 ≤ 1000; decide, rfl⟩
    simp only [List.mem_cons, List.not_mem_nil, or_false] at hz
    omega
  obtain ⟨ns, dw, dr, rfl, rfl⟩ := hN
  refine ⟨_, eg_name, ?_⟩
  have nl : ns.length = 7 := dw.len
  have nat_ : ∀ i, i < 7 → ns[i]? = some (ns.getD i 0) := fun i h => by
    rw [List.getElem?_eq_getElem (by omega), List.getD_eq_getElem?_getD, List.getElem?_eq_getElem (by omega)]
    rfl
  have md : (dr, O.lst (nD ns)) ∈ [(dr, O.lst (nD ns))] := List.mem_cons_self
  have dat : ∀ {G : Ga} {L : Hl} {te : TE} {i : Nat}, G[1]? = some (some (.ref dr)) → (dr, O.lst (nD ns)) ∈ L → i < 7 → EvP K H0 G L te (.int (i : Int)) → EvP K H0 G L (tOp (rIxL K) (tVar 1) te) (.int (ns.getD i 0 : Int)) := fun hg hm hi he => ev_op (ev_var hg) he (rv_ixL (.inl hm) (atN (nD_get (nat_ _ hi))))
  have h0 : ns.getD 0 0 < 30 := dw.lt 0 _ 30 (nat_ 0 (by decide)) rfl
  have h1 : ns.getD 1 0 < 6 := dw.lt 1 _ 6 (nat_ 1 (by decide)) rfl
  generalize hw : 1 + ns.getD 0 0 = w
  generalize hq : ns.getD 1 0 = q at h1
  refine gq_set (d := .int (w : Int)) (EvP.cast (ev_op ev_int (dat (i := 0) rfl md (by decide) ev_int) rv_add) (by rw [← hw, Int.natCast_add]; rfl)) ?_
  refine gq_setN (en_sortI (ns := (List.range q).map fun k => ((ns.getD (2 + k) 0 % (w + 1) : Nat) : Int)) (el_new (EvN.imp (en_lcY (v := fun d => match d with | .int k => .int ((ns.getD (2 + k.toNat) 0 % (w + 1) : Nat) : Int) | _ => .non) (ei_rng1 (n := (q : Int)) (ea_cons (EvP.cast (dat (i := 1) rfl md (by decide) ev_int) (by rw [hq])) ea_nil) (by omega) (by omega)) (fun _ => trivial) (fun d hd => ?_) (by rw [rngD_len]; omega)) fun d N h => ?_))) fun d N hN => ?_
  · obtain ⟨i, hi⟩ := List.getElem?_of_mem hd
    have hil := (List.getElem?_eq_some_iff.mp hi).1
    rw [rngD_len, Int.toNat_natCast] at hil
    rw [rngD_get (by rw [Int.toNat_natCast]; exact hil), Int.zero_add] at hi
    cases hi
    refine EvP.cast (ev_op (dat (i := 2 + i) rfl md (by omega) (EvP.cast (ev_op ev_int (ev_var rfl) rv_add) (by rw [Int.natCast_add]; rfl))) (EvP.cast (ev_op (ev_var rfl) ev_int rv_add) (x := .int ((w + 1 : Nat) : Int)) rfl) (rv_mod (by omega))) ?_
    rw [← Int.natCast_emod]
    rfl
  · obtain ⟨a, rfl, rfl⟩ := h
    refine ⟨a, rfl, ?_⟩
    unfold rngD
    rw [List.map_map, List.map_map, Int.toNat_natCast]
    congr 3
    refine List.map_congr_left fun j _ => ?_
    show (match D.int (0 + (j : Int)) with | .int k => D.int ((ns.getD (2 + k.toNat) 0 % (w + 1) : Nat) : Int) | _ => D.non) = _
    rw [Int.zero_add]
    rfl
  obtain ⟨a, ns', rfl, rfl, hperm, hpw⟩ := hN
  refine ⟨_, eg_name, ?_⟩
  have hmem : ∀ z ∈ ns', 0 ≤ z ∧ z ≤ (w : Int) := fun z hz => by
    obtain ⟨k, _, rfl⟩ := List.mem_map.mp (hperm.mem_iff.mp hz)
    have := Nat.mod_lt (ns.getD (2 + k) 0) (show 0 < w + 1 by omega)
    omega
  have hnl : ns'.length = q := by rw [hperm.length_eq, List.length_map, List.length_range]
  obtain ⟨cs, hcs⟩ : ∃ cs : List Nat, cs = ns'.map Int.toNat := ⟨_, rfl⟩
  have ecs : ns'.map D.int = nD cs := by
    rw [hcs]
    unfold nD
    rw [List.map_map]
    refine List.map_congr_left fun z hz => ?_
    show D.int z = D.int (z.toNat : Int)
    rw [Int.toNat_of_nonneg (hmem z hz).1]
  rw [ecs]
  have cl : cs.length = q := by rw [hcs, List.length_map, hnl]
  have cp : cs.Pairwise (· ≤ ·) := by
    rw [hcs, List.pairwise_map]
    exact hpw.imp fun {x y} h => Int.toNat_le_toNat h
  have cle : ∀ x ∈ cs, x ≤ w := fun x hx => by
    rw [hcs] at hx
    obtain ⟨z, hz, rfl⟩ := List.mem_map.mp hx
    have := hmem z hz
    omega
  obtain ⟨mono, shr⟩ := shr_of (cs := cs) (w := w) (by omega) (by omega) cp cle (by omega)
  have el : ([0] ++ cs ++ [w]).length = cs.length + 2 := by rw [List.length_append, List.length_append]; show 1 + cs.length + 1 = _; omega
  refine gq_new (o := .lst (nD ([0] ++ cs ++ [w]))) (EvN.imp (en_cat (el_new (en_cat (el_new (en_lst (ea_cons ev_int ea_nil) (by show 1 ≤ 100000; decide))) (el_old (ds := nD cs) (ev_var rfl) List.mem_cons_self) (by rw [nD_len]; show 1 + _ ≤ 100000; omega))) (el_new (en_lst (ea_cons (ev_var rfl) ea_nil) (by show 1 ≤ 100000; decide))) (by rw [List.length_append, nD_len]; show 1 + _ + 1 ≤ 100000; omega)) fun d N h => ?_) fun b => ?_
  · obtain ⟨a, rfl, rfl⟩ := h
    refine ⟨a, rfl, ?_⟩
    rw [nD_app2, nD_app2]
    rfl
  generalize hes : ([0] ++ cs ++ [w]) = es at mono shr el
  have mb : ∀ {L : Hl}, (b, O.lst (nD es)) ∈ (b, O.lst (nD es)) :: L := List.mem_cons_self
  refine go_last (gq_ret (EvN.imp (en_lcY (v := fun d => match d with | .int k => .int ((es.getD (k.toNat + 1) 0 - es.getD k.toNat 0 : Nat) : Int) | _ => .non) (ei_rng1 (n := ((cs.length + 1 : Nat) : Int)) (ea_cons (EvP.cast (ev_op (ev_cb (ea_cons (ev_var rfl) ea_nil) (rc_lenL (.inl mb))) ev_int rv_sub) (by rw [nD_len, el]; congr 1; omega)) ea_nil) (by omega) (by omega)) (fun _ => trivial) (fun d hd => ?_) (by rw [rngD_len]; omega)) (P' := fun d N => ∃ sh, Shr sh ∧ New1 (.lst (nD sh)) d N) fun d N h => ?_) (fun d N h => ⟨N, List.sublist_append_left _ _, h⟩))
  · obtain ⟨i, hi⟩ := List.getElem?_of_mem hd
    have hil := (List.getElem?_eq_some_iff.mp hi).1
    rw [rngD_len, Int.toNat_natCast] at hil
    rw [rngD_get (by rw [Int.toNat_natCast]; exact hil), Int.zero_add] at hi
    cases hi
    have g : ∀ j, j < cs.length + 2 → es[j]? = some (es.getD j 0) := fun j hj => by
      rw [List.getElem?_eq_getElem (by omega), List.getD_eq_getElem?_getD, List.getElem?_eq_getElem (by omega)]
      rfl
    refine EvP.cast (ev_op (ev_op (ev_var rfl) (EvP.cast (ev_op (ev_var rfl) ev_int rv_add) (x := .int ((i + 1 : Nat) : Int)) rfl) (rv_ixL (.inl mb) (atN (nD_get (g (i + 1) (by omega)))))) (ev_op (ev_var rfl) (ev_var rfl) (rv_ixL (.inl mb) (atN (nD_get (g i (by omega)))))) rv_sub) ?_
    have := mono i (by omega)
    show D.int _ = D.int ((es.getD (i + 1) 0 - es.getD i 0 : Nat) : Int)
    congr 1
    omega
  · obtain ⟨a, rfl, rfl⟩ := h
    refine ⟨_, shr, a, rfl, ?_⟩
    unfold rngD nD
    rw [List.map_map, List.map_map, Int.toNat_natCast]
    congr 3
    refine List.map_congr_left fun j _ => ?_
    show (match D.int (0 + (j : Int)) with | .int k => D.int ((es.getD (k.toNat + 1) 0 - es.getD k.toNat 0 : Nat) : Int) | _ => D.non) = _
    rw [Int.zero_add]
    rfl
theorem ok__law_chances (B : Bl mg) (F : FunG K mg "_law_chances" s__law_chances) (hFr : Pf P w K mg base "_law_fraction" 1 S_frac) : Pf P w K mg base "_law_chances" 2 S_lchs := by
  refine pf_mk F sc__law_chances (fun _ _ _ _ _ _ us hl => match us, hl with | [_], _ => rfl) (fun Z ds R h => by obtain ⟨l, sh, rfl, _⟩ := h; rfl) (fun f cdv A outer s H E hr => ⟨_, (pss_cons (ps_ret (pe_tupleN (K := K) rfl rfl B rfl (pa_cons (pe_lc (own := [("_law_share", 1)]) (g := gName 1) rfl sc__law_chances.nd (pi_listK (K := K) rfl (pv 0)) (blkOk_by (own := [("_law_share", 1)]) (N := ["_law_shares_here", "_law_share"]) (sc := defScope (s__law_chances)) (by decide +kernel)) (fun _ _ _ _ _ => (pg_name (i := 1) sc__law_chances.nd rfl (.inl rfl))) (fun _ _ _ _ _ => pts_nil) (fun _ _ _ _ _ => (pe_pf hFr hr (by decide) rfl (pa_cons (pv 1) (pa_cons (pe_sum (K := K) rfl rfl B rfl rfl (pa_cons (pv 0) pa_nil)) pa_nil))))) pa_nil))) pss_nil), fun Z ds R H0 hz hS => ?_⟩)
  obtain ⟨l, sh, rfl, rfl, S, rfl⟩ := hS
  have lk : ∀ L, Lk K H0 L l (.lst (nD sh)) := fun L => .inr (hz _ List.mem_cons_self)
  have sum : ∀ {G : Ga} {L : Hl}, G[0]? = some (some (.ref l)) → EvP K H0 G L (tCB (rSum K) (tCons (tVar 0) tNil)) (.int (sh.sum : Int)) := fun h => EvP.cast (ev_cb (ea_cons (ev_var h) ea_nil) (rc_sum (ns := sh.map fun (x : Nat) => (x : Int)) (by rw [← nD_ints]; exact lk _))) (by rw [sumI])
  have w1 := S.w1
  have w2 := S.w2
  have l6 := S.l6
  refine gq_retP (EvP.cast (ev_tupNN (en_lcY (v := fun d => match d with | .int a => fr (mkRat a sh.sum) | _ => .non) (ei_list (ev_var rfl) (lk _)) (fun Z => lk _) (fun d hd => ?_) (by rw [nD_len]; omega))) ?_) rfl
  · obtain ⟨a, ha, rfl⟩ := nD_mem hd
    exact EvP.cast (ev_call (ea_cons (ev_var rfl) (ea_cons (sum rfl) ea_nil)) ⟨(a : Int), (sh.sum : Int), rfl, by omega, p9 (Nat.lt_of_le_of_lt w2 (Nat.lt_of_lt_of_le (show 30 < 2 ^ 5 by decide) (Nat.pow_le_pow_right (by decide) (by decide)))), rfl⟩) (by rw [Int.toNat_natCast])
  · unfold nD chL
    rw [List.map_map]
    rfl
theorem ok__law_power (B : Bl mg) (F : FunG K mg "_law_power" s__law_power)  : Pf P w K mg base "_law_power" 1 S_lpow := by
  refine pf_mk F sc__law_power (fun _ _ _ _ _ _ us hl => match us, hl with | [_, _], _ => rfl) (fun Z ds R h => by obtain ⟨s, k, rfl, _⟩ := h; rfl) (fun f cdv A outer s H E hr => ⟨_, (pss_cons (ps_set (i := 2) sc__law_power.nd rfl (.inl rfl) pe_int) (pss_cons (ps_for PassesOwn.never rfl (pi_range1 rfl B.range (pa_cons (pv 1) pa_nil)) (pg_name (i := 3) sc__law_power.nd rfl (.inl rfl)) (pss_cons (ps_set (i := 2) sc__law_power.nd rfl (.inl rfl) (pe_op op_mulW (pv 2) (pv 0))) pss_nil)) (pss_cons (ps_ret (pv 2)) pss_nil))), fun Z ds R H0 hz hS => ?_⟩)
  obtain ⟨s, k, rfl, s2, hk, rfl⟩ := hS
  refine gq_set ev_int ?_
  refine gq_for0 (ei_rng1 (n := (k : Int)) (ea_cons (ev_var rfl) ea_nil) (by omega) (by omega)) (fun i G L => ∃ v3, G = [some (.int (s : Int)), some (.int (k : Int)), some (.int ((s ^ i : Nat) : Int)), v3] ∧ L = []) ⟨none, rfl, rfl⟩ (fun _ _ _ _ => trivial) (fun i d G L hd hI => ?_) (fun G L hI => ?_)
  · obtain ⟨v3, rfl, rfl⟩ := hI
    have hi : i < k := by have h1 := (List.getElem?_eq_some_iff.mp hd).1; rw [rngD_len, Int.toNat_natCast] at h1; exact h1
    have hp := pw_sz s2 i
    refine ⟨_, eg_name, go_last (gq_set (d := .int ((s ^ (i + 1) : Nat) : Int)) (EvP.cast (ev_op (ev_var rfl) (ev_var rfl) (rv_mulW (wide_mul (a := 60 * i + 1) (b := 60) (by rw [Int.natAbs_natCast]; exact hp) (by rw [Int.natAbs_natCast]; omega) (by omega) (by decide) (by omega)))) (by rw [Nat.pow_succ, Int.natCast_mul])) (go_next ⟨_, rfl, rfl⟩))⟩
  · obtain ⟨v3, rfl, rfl⟩ := hI
    rw [rngD_len, Int.toNat_natCast]
    exact gq_retP (ev_var rfl) rfl
theorem ok__law_nearest (B : Bl mg) (F : FunG K mg "_law_nearest" s__law_nearest) (hLp : Pf P w K mg base "_law_power" 1 S_lpow) : Pf P w K mg base "_law_nearest" 2 S_lnear := by
  refine pf_mk F sc__law_nearest (fun _ _ _ _ _ _ us hl => match us, hl with | [_, _, _], _ => rfl) (fun Z ds R h => by obtain ⟨l, W, sh, s, k, rfl, _⟩ := h; rfl) (fun f cdv A outer s H E hr => ⟨_, (pss_cons (ps_set (i := 3) sc__law_nearest.nd rfl (.inr rfl) (pe_pf hLp hr (by decide) rfl (pa_cons (pv 1) (pa_cons (pv 2) pa_nil)))) (pss_cons (ps_set (i := 4) sc__law_nearest.nd rfl (.inr rfl) (pe_lc (own := [("_law_share", 7)]) (g := gName 7) rfl sc__law_nearest.nd (pi_listK (K := K) rfl (pv 0)) (blkOk_by (own := [("_law_share", 7)]) (N := ["_law_shares_here", "_law_sides", "_law_cap", "_law_scale", "_law_counts", "_law_ranks", "_law_k", "_law_share"]) (sc := defScope (s__law_nearest)) (by decide +kernel)) (fun _ _ _ _ _ => (pg_name (i := 7) sc__law_nearest.nd rfl (.inl rfl))) (fun _ _ _ _ _ => pts_nil) (fun _ _ _ _ _ => (pe_op op_fdivW (pe_op op_mulW (pv 3) (pv 7)) (pe_sum (K := K) rfl rfl B rfl rfl (pa_cons (pv 0) pa_nil)))))) (pss_cons (ps_set (i := 5) sc__law_nearest.nd rfl (.inl rfl) (pe_sortP (K := K) rfl rfl B rfl (pa_cons (pe_lc (own := [("_law_k", 6)]) (g := gName 6) rfl sc__law_nearest.nd (pi_range1 rfl B.range (pa_cons (pe_len (K := K) rfl rfl B rfl (pa_cons (pv 0) pa_nil)) pa_nil)) (blkOk_by (own := [("_law_k", 6)]) (N := ["_law_shares_here", "_law_sides", "_law_cap", "_law_scale", "_law_counts", "_law_ranks", "_law_k", "_law_share"]) (sc := defScope (s__law_nearest)) (by decide +kernel)) (fun _ _ _ _ _ => (pg_name (i := 6) sc__law_nearest.nd rfl (.inl rfl))) (fun _ _ _ _ _ => pts_nil) (fun _ _ _ _ _ => (pe_tup (pa_cons (pe_op op_add (pe_op op_sub pe_int (pe_op op_mulW (pv 3) (pe_ixL (K := K) rfl (pv 0) (pv 6) (fun _ _ => rfl)))) (pe_op op_mulW (pe_ixL (K := K) rfl (pv 4) (pv 6) (fun _ _ => rfl)) (pe_sum (K := K) rfl rfl B rfl rfl (pa_cons (pv 0) pa_nil)))) (pa_cons (pv 6) pa_nil))))) pa_nil))) (pss_cons (ps_for PassesOwn.never rfl (pi_range1 rfl B.range (pa_cons (pe_op op_sub (pv 3) (pe_sum (K := K) rfl rfl B rfl rfl (pa_cons (pv 4) pa_nil))) pa_nil)) (pg_name (i := 6) sc__law_nearest.nd rfl (.inl rfl)) (pss_cons (ps_asg (pe_op op_add (pe_ixL (K := K) rfl (pv 4) (pe_ixT (K := K) rfl (pe_ixL (K := K) rfl (pv 5) (pv 6) (fun _ _ => rfl)) pe_int (fun _ _ => rfl)) (fun _ _ => rfl)) pe_int) (pg_sub (pv 4) (pe_ixT (K := K) rfl (pe_ixL (K := K) rfl (pv 5) (pv 6) (fun _ _ => rfl)) pe_int (fun _ _ => rfl)) set_list)) pss_nil)) (pss_cons (ps_ret (pv 4)) pss_nil))))), fun Z ds R H0 hz hS => ?_⟩)
  obtain ⟨l, W, sh, s, k, rfl, rfl, hch, hW, s1, s2, hk, rfl⟩ := hS
  have lk : ∀ L, Lk K H0 L l (.lst (nD sh)) := fun L => .inr (hz _ List.mem_cons_self)
  have sum : ∀ {G : Ga} {L : Hl}, G[0]? = some (some (.ref l)) → EvP K H0 G L (tCB (rSum K) (tCons (tVar 0) tNil)) (.int (W : Int)) := fun h => EvP.cast (ev_cb (ea_cons (ev_var h) ea_nil) (rc_sum (ns := sh.map fun (x : Nat) => (x : Int)) (by rw [← nD_ints]; exact lk _))) (by rw [sumI, hch.sum])
  have n0 := hch.pos
  have l6 := hch.l6
  have hsk : s ^ k ≤ 46656 := Nat.le_trans (Nat.pow_le_pow_left s2 k) (Nat.le_trans (Nat.pow_le_pow_right (by decide) hk) (by decide))
  generalize hrf : (fun i => rst s W k (sh.getD i 0)) = rf
  generalize hm : sh.length = m at l6
  have hopm : opn s W sh k < m := by rw [← hm]; exact opn_lt hch
  have shg : ∀ i, i < m → sh[i]? = some (sh.getD i 0) := fun i hi => by
    rw [List.getElem?_eq_getElem (by omega), List.getD_eq_getElem?_getD, List.getElem?_eq_getElem (by omega)]
    rfl
  have hle : ∀ a ∈ sh, a ≤ 30 := fun a ha => Nat.le_trans (hch.le ha) hW
  refine gq_set (d := .int ((s ^ k : Nat) : Int)) (ev_call (ea_cons (ev_var rfl) (ea_cons (ev_var rfl) ea_nil)) ⟨s, k, rfl, s2, by omega, rfl⟩) ?_
  have ml : ∀ a ∈ sh, CMulW ((s ^ k : Nat) : Int) (a : Int) := fun a ha => wide_mul (a := 60) (b := 60) (by rw [Int.natAbs_natCast]; omega) (by rw [Int.natAbs_natCast]; have := hle a ha; omega) (by decide) (by decide) (by decide)
  refine gq_new (o := .lst (nD (sh.map (flr s W k)))) (EvN.imp (en_lcY (v := fun d => match d with | .int a => .int (((s ^ k : Nat) : Int) * a / (W : Int)) | _ => .non) (ei_list (ev_var rfl) (lk _)) (fun Z => lk _) (fun d hd => ?_) (by rw [nD_len]; omega)) fun d N h => ?_) fun lc => ?_
  · obtain ⟨a, ha, rfl⟩ := nD_mem hd
    exact ev_op (ev_op (ev_var rfl) (ev_var rfl) (rv_mulW (ml a ha))) (sum rfl) (rv_fdivW (wide_div (b := 60) (by omega) (by omega) (by decide) (by decide)))
  · obtain ⟨c, rfl, rfl⟩ := h
    refine ⟨c, rfl, ?_⟩
    unfold nD
    rw [List.map_map, List.map_map]
    congr 3
  have flg : ∀ i, i < m → (nD (sh.map (flr s W k)))[i]? = some (.int (flr s W k (sh.getD i 0) : Int)) := fun i hi => nD_get (by rw [List.getElem?_map, shg i hi]; rfl)
  have mc : (lc, O.lst (nD (sh.map (flr s W k)))) ∈ [(lc, O.lst (nD (sh.map (flr s W k))))] := List.mem_cons_self
  have lenS : ∀ {G : Ga} {L : Hl}, G[0]? = some (some (.ref l)) → EvP K H0 G L (tCB (rLen K) (tCons (tVar 0) tNil)) (.int (m : Int)) := fun h => EvP.cast (ev_cb (ea_cons (ev_var h) ea_nil) (rc_lenL (lk _))) (by rw [nD_len, hm])
  have fb : ∀ a ∈ sh, flr s W k a ≤ 46656 * 30 := fun a ha => Nat.le_trans (Nat.div_le_self _ _) (Nat.mul_le_mul hsk (hle a ha))
  refine gq_setN (en_sortP (ps := (List.range m).map fun i => (-(rf i : Int), (i : Int))) (el_new (EvN.imp (en_lcY (v := fun d => match d with | .int i => prD (-(rf i.toNat : Int), i) | _ => .non) (ei_rng1 (n := (m : Int)) (ea_cons (lenS rfl) ea_nil) (by omega) (by omega)) (fun _ => trivial) (fun d hd => ?_) (by rw [rngD_len]; omega)) fun d N h => ?_))) fun d N hN => ?_
  · obtain ⟨i, hi⟩ := List.getElem?_of_mem hd
    have hil := (List.getElem?_eq_some_iff.mp hi).1
    rw [rngD_len, Int.toNat_natCast] at hil
    rw [rngD_get (by rw [Int.toNat_natCast]; exact hil), Int.zero_add] at hi
    cases hi
    have ha : sh.getD i 0 ∈ sh := List.mem_of_getElem? (shg i hil)
    refine EvP.cast (ev_tup (ea_cons (ev_op (ev_op ev_int (ev_op (ev_var rfl) (ev_op (ev_var rfl) (ev_var rfl) (rv_ixL (lk _) (atN (nD_get (shg i hil))))) (rv_mulW (ml _ ha))) rv_sub) (ev_op (ev_op (ev_var rfl) (ev_var rfl) (rv_ixL (.inl mc) (atN (flg i hil)))) (sum rfl) (rv_mulW (wide_mul (a := 60) (b := 60) (by rw [Int.natAbs_natCast]; have := fb _ ha; omega) (by rw [Int.natAbs_natCast]; omega) (by decide) (by decide) (by decide)))) rv_add) (ea_cons (ev_var rfl) ea_nil)) (by show 2 ≤ 100000; decide)) ?_
    have e := flr_rst (s := s) (N := W) (k := k) (a := sh.getD i 0)
    have e2 : ((W * flr s W k (sh.getD i 0) + rst s W k (sh.getD i 0) : Nat) : Int) = ((s ^ k * sh.getD i 0 : Nat) : Int) := by rw [e]
    rw [Int.natCast_add, Int.natCast_mul, Int.natCast_mul] at e2
    show D.tup [.int (0 - ((s ^ k : Nat) : Int) * (sh.getD i 0 : Int) + (flr s W k (sh.getD i 0) : Int) * (W : Int)), .int (i : Int)] = .tup [.int (-(rf (i : Int).toNat : Int)), .int (i : Int)]
    rw [Int.toNat_natCast, ← hrf, Int.mul_comm (flr s W k (sh.getD i 0) : Int)]
    show _ = D.tup [.int (-(rst s W k (sh.getD i 0) : Int)), .int (i : Int)]
    congr 2
    congr 1
    omega
  · obtain ⟨a, rfl, rfl⟩ := h
    refine ⟨a, rfl, ?_⟩
    unfold rngD
    rw [List.map_map, List.map_map, Int.toNat_natCast]
    congr 3
    refine List.map_congr_left fun j _ => ?_
    show (match D.int (0 + (j : Int)) with | .int i => prD (-(rf i.toNat : Int), i) | _ => D.non) = _
    rw [Int.zero_add]
    rfl
  obtain ⟨lr, ps', rfl, rfl, h1, h2⟩ := hN
  refine ⟨_, eg_name, ?_⟩
  rw [perm_uniq (h1.trans (srtR_ok rf m).1.symm) (h2.imp fun {p q} h => lexB_bef h) (srtR_ok rf m).2]
  generalize hcc : opn s W sh k = c at hopm
  have ecut : ((s ^ k : Nat) : Int) - ((sh.map (flr s W k)).map fun (x : Nat) => (x : Int)).sum = (c : Int) := by
    have := (opn_flr (s := s) (k := k) hch).1
    rw [sumI]
    omega
  have eF : nD (sh.map (flr s W k)) = fL m (fun o => flr s W k (sh.getD o 0) + if rnk rf m o < 0 then 1 else 0) := by
    unfold fL
    rw [← map_getD, hm]
    exact congrArg nD (List.map_congr_left fun o _ => by rw [if_neg (by omega), Nat.add_zero])
  refine gq_for0 (ei_rng1 (n := (c : Int)) (ea_cons (EvP.cast (ev_op (ev_var rfl) (ev_cb (ea_cons (ev_var rfl) ea_nil) (rc_sum (ns := (sh.map (flr s W k)).map fun (x : Nat) => (x : Int)) (by rw [← nD_ints]; exact .inl (List.mem_cons_of_mem _ List.mem_cons_self)))) rv_sub) (by rw [ecut])) ea_nil) (by omega) (by omega)) (fun j G L => ∃ v6, G = [some (.ref l), some (.int (s : Int)), some (.int (k : Int)), some (.int ((s ^ k : Nat) : Int)), some (.ref lc), some (.ref lr), v6, none] ∧ L = [(lr, .lst ((srtR rf m).map prD)), (lc, .lst (fL m fun o => flr s W k (sh.getD o 0) + if rnk rf m o < j then 1 else 0))]) ⟨none, rfl, by rw [← eF]; rfl⟩ (fun _ _ _ _ => trivial) (fun j d G L hd hI => ?_) (fun G L hI => ?_)
  · obtain ⟨v6, rfl, rfl⟩ := hI
    have hj : j < c := by have h1 := (List.getElem?_eq_some_iff.mp hd).1; rw [rngD_len, Int.toNat_natCast] at h1; exact h1
    rw [rngD_get (by rw [Int.toNat_natCast]; exact hj), Int.zero_add] at hd
    cases hd
    obtain ⟨o, ho, hro, hg⟩ := srtR_at rf (m := m) (i := j) (by omega)
    have rank : ∀ {G : Ga} {L : Hl}, G[5]? = some (some (.ref lr)) → G[6]? = some (some (.int (j : Int))) → (lr, O.lst ((srtR rf m).map prD)) ∈ L → EvP K H0 G L (tOp (rIxT K) (tOp (rIxL K) (tVar 5) (tVar 6)) (tC (.int 1))) (.int (o : Int)) := fun h1 h2 hm => ev_op (ev_op (ev_var h1) (ev_var h2) (rv_ixL (z := prD (-(rf o : Int), (o : Int))) (.inl hm) (atN (by rw [List.getElem?_map, hg]; rfl)))) ev_int (rv_ixT (z := .int (o : Int)) rfl)
    have lo : rnk rf m o = j := hro
    refine ⟨_, eg_name, go_last (gq_setL (k := 1) (j := o) (d := .int ((flr s W k (sh.getD o 0) + 1 : Nat) : Int)) (EvP.cast (ev_op (ev_op (ev_var rfl) (rank rfl rfl List.mem_cons_self) (rv_ixL (.inl (List.mem_cons_of_mem _ List.mem_cons_self)) (atN (fL_get ho)))) ev_int rv_add) ?_) rfl (ev_var rfl) (rank rfl rfl List.mem_cons_self) (ixN_of (by rw [fL_len]; exact ho)) (go_next ⟨_, rfl, ?_⟩))⟩
    · rw [lo, if_neg (Nat.lt_irrefl j), Nat.add_zero]
      rfl
    · show [(lr, O.lst ((srtR rf m).map prD)), (lc, .lst ((fL m fun o => flr s W k (sh.getD o 0) + if rnk rf m o < j then 1 else 0).set o (.int ((flr s W k (sh.getD o 0) + 1 : Nat) : Int))))] = _
      rw [fL_set ho]
      congr 3
      congr 1
      refine fL_congr fun z hz => ?_
      by_cases q : z = o
      · subst q
        rw [if_pos rfl, if_pos (by omega)]
      · rw [if_neg q]
        have : rnk rf m z ≠ j := fun h => q (rnk_inj rf z o hz ho (by rw [h, lo]))
        by_cases q2 : rnk rf m z < j
        · rw [if_pos q2, if_pos (by omega)]
        · rw [if_neg q2, if_neg (by omega)]
  · obtain ⟨v6, rfl, rfl⟩ := hI
    rw [rngD_len, Int.toNat_natCast]
    refine go_sub (L' := [(lc, .lst (fL m fun o => flr s W k (sh.getD o 0) + if rnk rf m o < c then 1 else 0))]) (List.Sublist.cons _ (List.Sublist.refl _)) (gq_retA (ev_var rfl) ⟨lc, rfl, ?_⟩)
    unfold near fL
    rw [hrf, hm, hcc]
/-- the digit of a count -/
def dgI (c s k i : Nat) : Int := ((c / s ^ (k - i) : Nat) : Int) - (if 0 < i then ((s * (c / s ^ (k - i + 1)) : Nat) : Int) else 0)
def S_digit : FS := fun _ ds R => ∃ c s k i : Nat, ds = [.int (c : Int), .int (s : Int), .int (k : Int), .int (i : Int)] ∧ c ≤ 1000000 ∧ 2 ≤ s ∧ s ≤ 6 ∧ k ≤ 6 ∧ i ≤ k ∧ R = Val (.int (dgI c s k i))
theorem ok__law_digit (B : Bl mg) (F : FunG K mg "_law_digit" s__law_digit) (hLp : Pf P w K mg base "_law_power" 1 S_lpow) : Pf P w K mg base "_law_digit" 2 S_digit := by
  refine pf_mk F sc__law_digit (fun _ _ _ _ _ _ us hl => match us, hl with | [_, _, _, _], _ => rfl) (fun Z ds R h => by obtain ⟨c, s, k, i, rfl, _⟩ := h; rfl) (fun f cdv A outer s H E hr => ⟨_, (pss_cons (ps_set (i := 4) sc__law_digit.nd rfl (.inl rfl) pe_int) (pss_cons (ps_if (pt_cmpR op_gt (pv 3) pe_int (nomark _)) (pss_cons (ps_set (i := 4) sc__law_digit.nd rfl (.inl rfl) (pe_op op_mulW (pv 1) (pe_op op_fdivW (pv 0) (pe_pf hLp hr (by decide) rfl (pa_cons (pv 1) (pa_cons (pe_op op_add (pe_op op_sub (pv 2) (pv 3)) pe_int) pa_nil)))))) pss_nil) pss_nil) (pss_cons (ps_ret (pe_op op_sub (pe_op op_fdivW (pv 0) (pe_pf hLp hr (by decide) rfl (pa_cons (pv 1) (pa_cons (pe_op op_sub (pv 2) (pv 3)) pa_nil)))) (pv 4))) pss_nil))), fun Z ds R H0 hz hS => ?_⟩)
  obtain ⟨c, s, k, i, rfl, hc, s1, s2, hk, hi, rfl⟩ := hS
  have hp : ∀ j, j ≤ 7 → 0 < s ^ j ∧ s ^ j ≤ 279936 := fun j hj => ⟨Nat.pow_pos (by omega), Nat.le_trans (Nat.pow_le_pow_left s2 j) (Nat.le_trans (Nat.pow_le_pow_right (by decide) hj) (by decide))⟩
  have dv : ∀ {G : Ga} {L : Hl} {te : TE} {j : Nat}, G[0]? = some (some (.int (c : Int))) → j ≤ 7 → EvP K H0 G L te (.int ((s ^ j : Nat) : Int)) → EvP K H0 G L (tOp (rI CDivW fun i j => .int (i / j)) (tVar 0) te) (.int ((c / s ^ j : Nat) : Int)) := fun {G L te j} hg hj he => by
    have q := hp j hj
    exact EvP.cast (ev_op (ev_var hg) he (rv_fdivW (wide_div (b := 60) (by omega) (by omega) (by decide) (by decide)))) (by rw [← Int.natCast_ediv])
  refine gq_set ev_int ?_
  refine gq_ifJ (fun G L => G = [some (.int (c : Int)), some (.int (s : Int)), some (.int (k : Int)), some (.int (i : Int)), some (.int (if 0 < i then ((s * (c / s ^ (k - i + 1)) : Nat) : Int) else 0))] ∧ L = []) (et_test (ev_op (ev_var rfl) ev_int rv_gt)) (fun hb => ?_) (fun hb => ?_) (fun G L h => ?_)
  · have hb := of_decide_eq_true hb
    have q := hp (k - i + 1) (by omega)
    refine go_last (gq_set (d := .int ((s * (c / s ^ (k - i + 1)) : Nat) : Int)) (EvP.cast (ev_op (ev_var rfl) (dv (j := k - i + 1) rfl (by omega) (ev_call (ea_cons (ev_var rfl) (ea_cons (EvP.cast (ev_op (ev_op (ev_var rfl) (ev_var rfl) rv_sub) ev_int rv_add) (x := .int ((k - i + 1 : Nat) : Int)) (by congr 1; omega)) ea_nil)) ⟨s, k - i + 1, rfl, s2, by omega, rfl⟩)) (rv_mulW (wide_mul (a := 60) (b := 60) (by rw [Int.natAbs_natCast]; omega) (by rw [Int.natAbs_natCast]; have := Nat.div_le_self c (s ^ (k - i + 1)); omega) (by decide) (by decide) (by decide)))) (by rw [← Int.natCast_mul])) (go_next ⟨?_, rfl⟩))
    rw [if_pos (by omega)]
    rfl
  · have hb := of_decide_eq_false hb
    refine go_next ⟨?_, rfl⟩
    rw [if_neg (by omega)]
    rfl
  · obtain ⟨rfl, rfl⟩ := h
    exact go_last (gq_retP (EvP.cast (ev_op (dv (j := k - i) rfl (by omega) (ev_call (ea_cons (ev_var rfl) (ea_cons (EvP.cast (ev_op (ev_var rfl) (ev_var rfl) rv_sub) (x := .int ((k - i : Nat) : Int)) (by congr 1; omega)) ea_nil)) ⟨s, k - i, rfl, s2, by omega, rfl⟩)) (ev_var rfl) rv_sub) rfl) rfl)
end
end Fc

namespace Fc
open PySem PySem.Spec PyProof.Rows L2
abbrev s_law : Stmt := top 80
theorem sc_law : FnScope ["_law_script", "_law_shares_here", "_law_pairs", "_law_sides", "_law_cap", "_law_counts", "_law_made", "_law_found", "_law_place", "_law_room", "_law_leaf", "_law_words", "_law_outcome", "_law_k", "_law_many"] ["_law_script"] (defScope s_law) := ⟨rfl, rfl, rfl, by decide +kernel, rfl, by decide +kernel, by decide +kernel⟩
theorem opn_red {s k : Nat} {sh : List Nat} (h0 : 0 < sh.sum) (l1 : 1 ≤ sh.length) (l6 : sh.length ≤ 6) : opn s sh.sum sh k = opn s (cbN sh.sum sh) (redS sh.sum sh) k := by
  have e1 := (opn_flr (s := s) (k := k) (⟨rfl, h0, l1, l6⟩ : Ch sh.sum sh)).1
  have e2 := (opn_flr (s := s) (k := k) (red_ch (sh := sh) rfl h0 l1 l6)).1
  have e3 : ((redS sh.sum sh).map (flr s (cbN sh.sum sh) k)).sum = (sh.map (flr s sh.sum k)).sum := by
    unfold redS
    rw [List.map_map]
    congr 1
    exact List.map_congr_left fun a ha => (red_rst h0 ha).2.symm
  omega
theorem red_getD {sh : List Nat} {o : Nat} (ho : o < sh.length) : (redS sh.sum sh).getD o 0 = sh.getD o 0 * cbN sh.sum sh / sh.sum := by
  unfold redS
  rw [List.getD_eq_getElem?_getD, List.getD_eq_getElem?_getD, List.getElem?_map, List.getElem?_eq_getElem ho]
  rfl
theorem near_red {s k : Nat} {sh : List Nat} (h0 : 0 < sh.sum) (l1 : 1 ≤ sh.length) (l6 : sh.length ≤ 6) : near s sh.sum k sh = near s (cbN sh.sum sh) k (redS sh.sum sh) := by
  have el : (redS sh.sum sh).length = sh.length := by unfold redS; rw [List.length_map]
  unfold near
  rw [el]
  refine List.map_congr_left fun o ho => ?_
  have ho := List.mem_range.mp ho
  have c0 : 0 < sh.sum / cbN sh.sum sh := Nat.div_pos (Nat.le_of_dvd h0 (cbN_dvd h0)) (cbN_pos h0)
  have r := rnk_scale (f := fun i => rst s (cbN sh.sum sh) k ((redS sh.sum sh).getD i 0)) (g := fun i => rst s sh.sum k (sh.getD i 0)) c0 (m := sh.length) (fun i hi => by
    show rst s sh.sum k (sh.getD i 0) = _ * rst s (cbN sh.sum sh) k ((redS sh.sum sh).getD i 0)
    rw [red_getD hi]
    exact (red_rst h0 (getD_mem hi)).1) ho
  rw [r, opn_red h0 l1 l6, red_getD ho, ← (red_rst h0 (getD_mem ho)).2]
  rfl

def S_law (PP : Addr) : FX := fun Y Z ds o => ∃ (l : Addr) (ns : List Int), ds = [.ref l] ∧ Y = [(PP, .tb0)] ∧ Z = [(l, .lst (ns.map D.int))] ∧ ns.length ≤ 63 ∧ o = .ret (fun d _ => d = .bl true)
/-- sides and throws -/
def prsN : List (Nat × Nat) := [(2, 6), (2, 4), (2, 2), (3, 5), (3, 3), (3, 1), (4, 4), (4, 2), (5, 3), (5, 2), (6, 3), (6, 2), (6, 1), (2, 0)]
def ppD (q : Nat × Nat) : D := .tup [.int (q.1 : Int), .int (q.2 : Int)]
theorem prs_ok : ∀ j, j < 14 → ∃ s k, prsN[j]? = some (s, k) ∧ 2 ≤ s ∧ s ≤ 6 ∧ k ≤ 6 ∧ s ^ (k + 1) ≤ 10000 := by
  have : ∀ j : Fin 14, ∃ s k, prsN[j.1]? = some (s, k) ∧ 2 ≤ s ∧ s ≤ 6 ∧ k ≤ 6 ∧ s ^ (k + 1) ≤ 10000 := fun j => by
    have h : (match prsN[j.1]? with | some q => decide (2 ≤ q.1 ∧ q.1 ≤ 6 ∧ q.2 ≤ 6 ∧ q.1 ^ (q.2 + 1) ≤ 10000) | none => false) = true := by revert j; decide
    split at h
    · rename_i q hq
      exact ⟨q.1, q.2, hq, of_decide_eq_true h⟩
    · cases h
  exact fun j hj => this ⟨j, hj⟩
/-! what the table of the nearest chances gives -/
section
variable {s N k : Nat} {as : List Nat} {d : Nat → Nat}
theorem dec_near (hs : 0 < s) (h : Ch N as) (B : Bst s (nN s N k as) (nA s N k as) (bestT s (nN s N k as) (nA s N k as)) d) {i o : Nat} (hi : i ≤ k) (ho : o < as.length) : decT s (bestT s (nN s N k as) (nA s N k as)) i o = (near s N k as).getD o 0 / s ^ (k - i) := by
  have c := near_ch (k := k) hs h
  have ln : (near s N k as).length = as.length := by unfold near; rw [List.length_map, List.length_range]
  have la : (nA s N k as).length = as.length := by unfold nA redS; rw [List.length_map, ln]
  rw [B.dec i o (by rw [la]; exact ho)]
  have hm : (near s N k as).getD o 0 ∈ near s N k as := getD_mem (by rw [ln]; exact ho)
  have r := (red_rst (s := s) (k := i) c.pos hm).2
  have e : (nA s N k as).getD o 0 = (near s N k as).getD o 0 * cbN (s ^ k) (near s N k as) / s ^ k := by
    unfold nA redS
    rw [List.getD_eq_getElem?_getD, List.getElem?_map, List.getElem?_eq_getElem (by rw [ln]; exact ho), List.getD_eq_getElem?_getD, List.getElem?_eq_getElem (by rw [ln]; exact ho)]
    rfl
  rw [e]
  show flr s (cbN (s ^ k) (near s N k as)) i _ = _
  rw [← r]
  have : s ^ k = s ^ i * s ^ (k - i) := by rw [← Nat.pow_add]; congr 1; omega
  rw [this, Nat.mul_div_mul_left _ _ (Nat.pow_pos hs)]
theorem opn_near (hs : 0 < s) (h : Ch N as) (B : Bst s (nN s N k as) (nA s N k as) (bestT s (nN s N k as) (nA s N k as)) d) : opnT s (bestT s (nN s N k as) (nA s N k as)) k = 0 := by
  have c := near_ch (k := k) hs h
  have ln : (near s N k as).length = as.length := by unfold near; rw [List.length_map, List.length_range]
  have la : (nA s N k as).length = as.length := by unfold nA redS; rw [List.length_map, ln]
  have od := opn_dec B.tb k
  have e : smN (nA s N k as).length (decT s (bestT s (nN s N k as) (nA s N k as)) k) = s ^ k := by
    rw [← c.sum, smN_list, ln, la]
    refine smN_congr fun o ho => ?_
    rw [dec_near hs h B (Nat.le_refl k) ho, Nat.sub_self, Nat.pow_zero, Nat.div_one]
  omega
theorem dig_near (hs : 0 < s) (h : Ch N as) (B : Bst s (nN s N k as) (nA s N k as) (bestT s (nN s N k as) (nA s N k as)) d) {i o : Nat} (hi : i ≤ k) (ho : o < as.length) :
    (((lfW (bestT s (nN s N k as) (nA s N k as)) i).filter fun p => decide (p.2 = o)).length : Int) = dgI ((near s N k as).getD o 0) s k i := by
  unfold dgI
  cases i with
  | zero =>
    rw [lf_zero B.tb, dec_near hs h B hi ho, if_neg (Nat.lt_irrefl 0), Int.sub_zero]
  | succ i =>
    have e := lf_succ B.tb i o
    rw [dec_near hs h B hi ho, dec_near hs h B (Nat.le_of_succ_le hi) ho] at e
    rw [if_pos (Nat.succ_pos i), show k - (i + 1) + 1 = k - i by omega]
    omega
end
/-- a word that decides with its last side -/
theorem wlen_all {t : List Rw} : ∀ (n : Nat) (w : List Nat), w.length = n → (∀ j, j < n → isGo t (wk t 0 (w.take j)) = true) → wlen t 0 w = n
  | 0, w, h, _ => by rw [List.eq_nil_of_length_eq_zero h]; rfl
  | n + 1, w, h, hg => by
    obtain ⟨r, x, rfl⟩ : ∃ r x, w = r ++ [x] := by
      rcases List.eq_nil_or_concat w with e | ⟨r, x, e⟩
      · subst e; cases h
      · exact ⟨r, x, by rw [e, List.concat_eq_append]⟩
    have hr : r.length = n := by rw [List.length_append] at h; exact Nat.succ.inj h
    rw [wlen_snoc, wlen_all n r hr fun j hj => by
      have := hg j (by omega)
      rwa [List.take_append_of_le_length (by omega)] at this]
    have := hg n (by omega)
    rw [← hr, List.take_left] at this
    rw [this]
    rfl
theorem gq_retM {K : PySem.W.Frag} {H0 : Hp} {G : Ga} {L : Hl} {te : TE} {us : TS} {p : Po} {P : D → Hl → Prop} (h : EvM K H0 G L te P) (hp : ∀ d L', P d L' → p.rt d L') : Go K H0 G L (tSeq (tRet te) us) p := fun T σ H E t st s => h σ H st _ fun v H' d L' m t' st' i => s.rt d L' v H' (hp d L' m) (t.trans t') st'.hs i
theorem fn_mkC {P : Program} {w : World} {K : PySem.W.Frag} {mg : Str → Option Value} {base : Heap} {x qual : Str} {st : Stmt} {f c : Addr} {fd : FuncData} {N ps : List Str} {k : Nat} {S : FX} (F1 : Fun K x qual st f fd) (hc : fd.code = .ref c) (sc : FnScope N ps (defScope st)) (len : ∀ Y Z ds o, S Y Z ds o → ds.length = ps.length)
    (hb : ∀ (A : Around) (outer : List Env) (s : Shared) (H : Hp) (E : XK), Room k (A.deeper (envOfC qual (defScope st) s.heap.objs.size f (.ref c))) →
      ∃ t, PSs (cxOf (L2.CX P w) P w K mg base N qual (defScope st) f (.ref c) A outer s H E) (defBody st) t ∧ ∀ Y Z ds o H0, (∀ p ∈ Y, H0 p.1 = none) → Rds K H0 Z → S Y Z ds o → (∀ C, o = .exc C → ∀ L H, HS K H0 L H → List.Sublist Y L → E (.ref C) none H) → Go K H0 (args N ds) Y t { nx := fun _ L => o.rt .non L, rt := o.rt }) :
    FnOk P w K mg base (L2.CX P w) (k + 1) f fd ps (spX K S) := by
  obtain ⟨oc, od, kV, doc, pm, an, cdv, ct, osl, rfl, lk, hcd⟩ := F1.ex
  have hc : cdv = .ref c := hc
  subst hc
  refine fn_of lk hcd sc (fun vs H Q E h => ?_) (fun A outer s H vs Q E hr h => ?_)
  · obtain ⟨Y, Z, ds, o, _, _, _, _, im, s, _⟩ := h
    rw [im.length]
    exact len Y Z ds o s
  · obtain ⟨t, ht, hg⟩ := hb A outer s H E hr
    exact ⟨t, ht, body_goX hg h⟩
theorem wD_nD (w : List Nat) : wD w = .tup (nD w) := by
  show D.tup ((zI w).map D.int) = _
  rw [nD_ints]
section
variable {K : PySem.W.Frag} {H0 : Hp} {G : Ga} {L : Hl} {te tk : TE} {CA c dx ans : Addr} {fs : List (Str × D)} {s m k : Nat} {t : List Rw}
theorem tz_lk (m1 : (c, O.ins CA dx (fs ++ chF s m t ans)) ∈ L) (m2 : (ans, O.lst (ansD s m t)) ∈ L) : ∀ p ∈ tZ CA c dx ans fs s m t, Lk K H0 L p.1 p.2 := fun p hp => by
  simp only [List.mem_cons, List.not_mem_nil, or_false] at hp
  rcases hp with rfl | rfl
  · exact .inl m1
  · exact .inl m2
theorem ev_run {w : List Nat} (he : EvP K H0 G L te (.ref c)) (hk : EvP K H0 G L tk (.tup (nD w))) (m1 : (c, O.ins CA dx (fs ++ chF s m t ans)) ∈ L) (m2 : (ans, O.lst (ansD s m t)) ∈ L) (hf : Fs0 fs) (T : Tb s m t) (hw : ∀ x ∈ w, x < s) (hl : w.length ≤ 1000) : EvP K H0 G L (tMeth CA "run" (spX K (S_run CA)) [] E0 te (tCons tk tNil)) (runD t w) :=
  EvN.ev (en_mx he (.inl m1) (lookN (by cases hf <;> rfl)) (ea_cons hk ea_nil) ⟨c, dx, ans, fs, s, m, t, w, rfl, rfl, rfl, hf, T, hw, hl, rfl⟩ (tz_lk m1 m2))
end
theorem EvM.imp {K : PySem.W.Frag} {H0 : Hp} {G : Ga} {L : Hl} {te : TE} {P P' : D → Hl → Prop} (h : EvM K H0 G L te P) (i : ∀ d L', P d L' → P' d L') : EvM K H0 G L te P' := fun σ H st Q q => h σ H st Q fun v H' d L' p => q v H' d L' (i d L' p)
section
variable {P : Program} {w : World} {K : PySem.W.Frag} {mg : Str → Option Value} {base : Heap} {CP cc PP : Addr}
theorem ok_law (B : Bl mg) {f : Addr} {fd : FuncData} (F : Fun K "law" "law" s_law f fd) (hcode : fd.code = .ref cc) (TB : LamX.TabB base mg cc PP) (Kp : ClsA K CP fs4) (hLc : Pf P w K mg base "_law_cell" 1 S_cell) (hSm : Pf P w K mg base "_law_is_same" 4 (S_same 3)) (hSh : Pf P w K mg base "_law_shares" 2 S_shr) (hLch : Pf P w K mg base "_law_chances" 2 S_lchs) (hLp : Pf P w K mg base "_law_power" 1 S_lpow) (hLn : Pf P w K mg base "_law_nearest" 2 S_lnear) (hDg : Pf P w K mg base "_law_digit" 2 S_digit) (hPi : PkK P w K mg base "Capped" CP 2 ["throws"] 8 (S_pinit CP)) (hRu : Px P w K mg base CP "run" 4 (S_run CP)) (hLe : Pg P w K mg base CP "leaves" 4 (S_leaves CP)) : FnOk P w K mg base (L2.CX P w) 10 f fd ["_law_script"] (spX K (S_law PP)) := by
  refine fn_mkC F hcode sc_law (fun Y Z ds o h => by obtain ⟨l, ns, rfl, _⟩ := h; rfl) (fun A outer s H E hr => ⟨_, (pss_cons (ps_set (i := 1) sc_law.nd rfl (.inl rfl) (pe_pf hSh hr (by decide) rfl (pa_cons (pe_pf hLc hr (by decide) rfl (pa_cons (pv 0) (pa_cons pe_int pa_nil))) pa_nil))) (pss_cons (ps_set (i := 2) sc_law.nd rfl (.inl rfl) (pe_lst (pa_cons (pe_tup (pa_cons pe_int (pa_cons pe_int pa_nil))) (pa_cons (pe_tup (pa_cons pe_int (pa_cons pe_int pa_nil))) (pa_cons (pe_tup (pa_cons pe_int (pa_cons pe_int pa_nil))) (pa_cons (pe_tup (pa_cons pe_int (pa_cons pe_int pa_nil))) (pa_cons (pe_tup (pa_cons pe_int (pa_cons pe_int pa_nil))) (pa_cons (pe_tup (pa_cons pe_int (pa_cons pe_int pa_nil))) (pa_cons (pe_tup (pa_cons pe_int (pa_cons pe_int pa_nil))) (pa_cons (pe_tup (pa_cons pe_int (pa_cons pe_int pa_nil))) pa_nil)))))))))) (pss_cons (ps_set (i := 2) sc_law.nd rfl (.inl rfl) (pe_op op_cat (pv 2) (pe_lst (pa_cons (pe_tup (pa_cons pe_int (pa_cons pe_int pa_nil))) (pa_cons (pe_tup (pa_cons pe_int (pa_cons pe_int pa_nil))) (pa_cons (pe_tup (pa_cons pe_int (pa_cons pe_int pa_nil))) (pa_cons (pe_tup (pa_cons pe_int (pa_cons pe_int pa_nil))) (pa_cons (pe_tup (pa_cons pe_int (pa_cons pe_int pa_nil))) (pa_cons (pe_tup (pa_cons pe_int (pa_cons pe_int pa_nil))) pa_nil))))))))) (pss_cons (ps_set (i := 3) sc_law.nd rfl (.inl rfl) (pe_ixT (K := K) rfl (pe_ixL (K := K) rfl (pv 2) (pe_op op_mod (pe_pf hLc hr (by decide) rfl (pa_cons (pv 0) (pa_cons pe_int pa_nil))) pe_int) (fun _ _ => rfl)) pe_int (fun _ _ => rfl))) (pss_cons (ps_set (i := 4) sc_law.nd rfl (.inl rfl) (pe_ixT (K := K) rfl (pe_ixL (K := K) rfl (pv 2) (pe_op op_mod (pe_pf hLc hr (by decide) rfl (pa_cons (pv 0) (pa_cons pe_int pa_nil))) pe_int) (fun _ _ => rfl)) pe_int (fun _ _ => rfl))) (pss_cons (ps_set (i := 5) sc_law.nd rfl (.inl rfl) (pe_pf hLn hr (by decide) rfl (pa_cons (pv 1) (pa_cons (pv 3) (pa_cons (pv 4) pa_nil))))) (pss_cons (ps_set (i := 6) sc_law.nd rfl (.inl rfl) (pe_mkK hPi hr (by decide) passL rfl (pa_cons (pe_pf hLch hr (by decide) rfl (pa_cons (pv 1) pa_nil)) (pa_cons (pv 3) pa_nil)) (pk_cons (pv 4) pk_nil))) (pss_cons (ps_setGlc (i := 7) sc_law.nd rfl rfl (sw_true rfl rfl rfl (by decide +kernel)) (pgc_pg (j := 6) hLe Kp.cls (hr.mono (by decide)) (by decide) (pv 6) (pa_cons (pv 4) pa_nil)) (hr.mono (by decide)) rfl (by decide +kernel) (by decide +kernel) (by decide +kernel) (by decide)) (pss_cons (ps_for (passes_of rfl) rfl (pi_range1 rfl B.range (pa_cons (pe_op op_add (pv 4) pe_int) pa_nil)) (pg_name (i := 8) sc_law.nd rfl (.inr rfl)) (pss_cons (ps_for (passes_of rfl) rfl (pi_range1 rfl B.range (pa_cons (pe_len (K := K) rfl rfl B rfl (pa_cons (pv 1) pa_nil)) pa_nil)) (pg_name (i := 12) sc_law.nd rfl (.inr rfl)) (pss_cons (ps_set (i := 14) sc_law.nd rfl (.inl rfl) (pe_len (K := K) rfl rfl B rfl (pa_cons (pe_lc (own := [("_law_leaf", 10)]) (g := gName 10) rfl sc_law.nd (pi_listK (K := K) rfl (pv 7)) (blkOk_by (own := [("_law_leaf", 10)]) (N := ["_law_script", "_law_shares_here", "_law_pairs", "_law_sides", "_law_cap", "_law_counts", "_law_made", "_law_found", "_law_place", "_law_room", "_law_leaf", "_law_words", "_law_outcome", "_law_k", "_law_many"]) (sc := defScope (s_law)) (by decide +kernel)) (fun _ _ _ _ _ => (pg_name (i := 10) sc_law.nd rfl (.inl rfl))) (fun _ _ _ _ _ => pts_one (PW.pt (pw_and (pt_cmpR op_eq (pe_len (K := K) rfl rfl B rfl (pa_cons (pe_ixT (K := K) rfl (pv 10) pe_int (fun _ _ => rfl)) pa_nil)) (pv 8) (nomark _)) (pw_and1 (pt_cmpR op_eq (pe_ixT (K := K) rfl (pv 10) pe_int (fun _ _ => rfl)) (pv 12) (nomark _)))))) (fun _ _ _ _ _ => (pv 10))) pa_nil))) (pss_cons (ps_if (pt_cmpR op_ne (pv 14) (pe_pf hDg hr (by decide) rfl (pa_cons (pe_ixL (K := K) rfl (pv 5) (pv 12) (fun _ _ => rfl)) (pa_cons (pv 3) (pa_cons (pv 4) (pa_cons (pv 8) pa_nil))))) (nomark _)) (pss_cons (ps_ret pe_bl) pss_nil) pss_nil) pss_nil))) pss_nil)) (pss_cons (ps_set (i := 9) sc_law.nd rfl (.inl rfl) pe_int) (pss_cons (ps_for (passes_of rfl) rfl (pi_listK (K := K) rfl (pv 7)) (pg_name (i := 10) sc_law.nd rfl (.inl rfl)) (pss_cons (ps_set (i := 9) sc_law.nd rfl (.inl rfl) (pe_op op_add (pv 9) (pe_pf hLp hr (by decide) rfl (pa_cons (pv 3) (pa_cons (pe_op op_sub (pv 4) (pe_len (K := K) rfl rfl B rfl (pa_cons (pe_ixT (K := K) rfl (pv 10) pe_int (fun _ _ => rfl)) pa_nil))) pa_nil))))) (pss_cons (ps_for (passes_of rfl) rfl (pi_range1 rfl B.range (pa_cons (pe_len (K := K) rfl rfl B rfl (pa_cons (pe_ixT (K := K) rfl (pv 10) pe_int (fun _ _ => rfl)) pa_nil)) pa_nil)) (pg_name (i := 13) sc_law.nd rfl (.inl rfl)) (pss_cons (ps_if (pt_cmpR op_ne (pe_ixT (K := K) rfl (pe_mx hRu Kp.cls hr (by decide) passL (pv 6) (pa_cons (pe_slice (sl_tupK (K := K) rfl) (pe_ixT (K := K) rfl (pv 10) pe_int (fun _ _ => rfl)) po_none (po_some (pv 13))) pa_nil)) pe_int (fun _ _ => rfl)) pe_str (nomark _)) (pss_cons (ps_ret pe_bl) pss_nil) pss_nil) pss_nil)) (pss_cons (ps_if (pt_not (pt_val (pe_pf hSm hr (by decide) rfl (pa_cons (pe_mx hRu Kp.cls hr (by decide) passL (pv 6) (pa_cons (pe_ixT (K := K) rfl (pv 10) pe_int (fun _ _ => rfl)) pa_nil)) (pa_cons (pe_tup (pa_cons pe_str (pa_cons (pe_ixT (K := K) rfl (pv 10) pe_int (fun _ _ => rfl)) (pa_cons (pe_len (K := K) rfl rfl B rfl (pa_cons (pe_ixT (K := K) rfl (pv 10) pe_int (fun _ _ => rfl)) pa_nil)) pa_nil)))) pa_nil))))) (pss_cons (ps_ret pe_bl) pss_nil) pss_nil) pss_nil)))) (pss_cons (ps_setLc (i := 11) (own := [("_law_leaf", 10)]) (g := gName 10) rfl sc_law.nd rfl rfl (sw_true rfl rfl rfl (by decide +kernel)) (pi_listK (K := K) rfl (pv 7)) (blkOk_by (own := [("_law_leaf", 10)]) (N := ["_law_script", "_law_shares_here", "_law_pairs", "_law_sides", "_law_cap", "_law_counts", "_law_made", "_law_found", "_law_place", "_law_room", "_law_leaf", "_law_words", "_law_outcome", "_law_k", "_law_many"]) (sc := defScope (s_law)) (by decide +kernel)) (fun _ _ _ _ _ => (pg_name (i := 10) sc_law.nd rfl (.inl rfl))) (fun _ _ _ _ _ => pts_nil) (fun _ _ _ _ _ => (pe_ixT (K := K) rfl (pv 10) pe_int (fun _ _ => rfl)))) (pss_cons (ps_ret (pe_and (pe_cmpR op_eq (pv 9) (pe_pf hLp hr (by decide) rfl (pa_cons (pv 3) (pa_cons (pv 4) pa_nil))) (nomark _)) (pe_one (pe_cmpR (op_eqK (K := K) rfl hr.units) (pv 11) (pe_sortLam hr rfl B rfl rfl (pa_cons (pv 11) pa_nil) TB rfl rfl (fun _ _ _ _ _ => rfl) rfl rfl rfl (by decide +kernel) (by decide +kernel) (by decide +kernel) (by decide +kernel) (by decide)) (nomark _))))) pss_nil))))))))))))), fun Y Z ds o H0 hY hz hS hE => ?_⟩)
  obtain ⟨l, ns, rfl, rfl, rfl, hlen, rfl⟩ := hS
  have lk : ∀ L, Lk K H0 L l (.lst (ns.map D.int)) := fun L => .inr (hz _ List.mem_cons_self)
  have cell : ∀ {G : Ga} {L : Hl} {te : TE} (k : Nat), G[0]? = some (some (.ref l)) → EvP K H0 G L te (.int (k : Int)) → EvP K H0 G L (tCall (spF K S_cell) [] E0 (tCons (tVar 0) (tCons te tNil))) (.int (ns.getD k 0)) := fun k hg he => ev_callR (Z := [(l, .lst (ns.map D.int))]) (ea_cons (ev_var hg) (ea_cons he ea_nil)) ⟨l, ns, k, rfl, rfl, rfl⟩ (fun p hp => by rw [List.mem_singleton.mp hp]; exact lk _)
  obtain ⟨jj, hjj, ejj⟩ := mod_nat (c := ns.getD 1 0) (z := 14) (by decide)
  obtain ⟨s, k, hsk, s1, s2, hk6, hpw⟩ := prs_ok jj hjj
  refine gq_setN (en_call (ea_cons (cell 0 rfl ev_int) ea_nil) ⟨ns.getD 0 0, rfl, rfl⟩ noZ) fun d N hN => ?_
  obtain ⟨sh, S, sa, rfl, rfl⟩ := hN
  refine ⟨_, eg_name, ?_⟩
  refine gq_new (o := .lst ((prsN.take 8).map ppD)) (en_lst (ea_cons (ev_tup (ea_cons ev_int (ea_cons ev_int ea_nil)) (by show 2 ≤ 100000; decide)) (ea_cons (ev_tup (ea_cons ev_int (ea_cons ev_int ea_nil)) (by show 2 ≤ 100000; decide)) (ea_cons (ev_tup (ea_cons ev_int (ea_cons ev_int ea_nil)) (by show 2 ≤ 100000; decide)) (ea_cons (ev_tup (ea_cons ev_int (ea_cons ev_int ea_nil)) (by show 2 ≤ 100000; decide)) (ea_cons (ev_tup (ea_cons ev_int (ea_cons ev_int ea_nil)) (by show 2 ≤ 100000; decide)) (ea_cons (ev_tup (ea_cons ev_int (ea_cons ev_int ea_nil)) (by show 2 ≤ 100000; decide)) (ea_cons (ev_tup (ea_cons ev_int (ea_cons ev_int ea_nil)) (by show 2 ≤ 100000; decide)) (ea_cons (ev_tup (ea_cons ev_int (ea_cons ev_int ea_nil)) (by show 2 ≤ 100000; decide)) ea_nil)))))))) (by show 8 ≤ 100000; decide)) fun p1 => ?_
  refine gq_new (o := .lst (prsN.map ppD)) (EvN.imp (en_cat (el_old (ds := (prsN.take 8).map ppD) (ev_var rfl) List.mem_cons_self) (el_new (en_lst (ds := (prsN.drop 8).map ppD) (ea_cons (ev_tup (ea_cons ev_int (ea_cons ev_int ea_nil)) (by show 2 ≤ 100000; decide)) (ea_cons (ev_tup (ea_cons ev_int (ea_cons ev_int ea_nil)) (by show 2 ≤ 100000; decide)) (ea_cons (ev_tup (ea_cons ev_int (ea_cons ev_int ea_nil)) (by show 2 ≤ 100000; decide)) (ea_cons (ev_tup (ea_cons ev_int (ea_cons ev_int ea_nil)) (by show 2 ≤ 100000; decide)) (ea_cons (ev_tup (ea_cons ev_int (ea_cons ev_int ea_nil)) (by show 2 ≤ 100000; decide)) (ea_cons (ev_tup (ea_cons ev_int (ea_cons ev_int ea_nil)) (by show 2 ≤ 100000; decide)) ea_nil)))))) (by show 6 ≤ 100000; decide))) (by show 8 + 6 ≤ 100000; decide)) fun d N h => ?_) fun p2 => ?_
  · exact h
  have pget : ∀ {G : Ga} {L : Hl}, G[0]? = some (some (.ref l)) → G[2]? = some (some (.ref p2)) → (p2, O.lst (prsN.map ppD)) ∈ L → EvP K H0 G L (tOp (rIxL K) (tVar 2) (tOp (rI (fun _ j => 0 < j) fun i j => .int (i % j)) (tCall (spF K S_cell) [] E0 (tCons (tVar 0) (tCons (tC (.int 1)) tNil))) (tC (.int 14)))) (.tup [.int (s : Int), .int (k : Int)]) := fun h0 h2 hm => ev_op (ev_var h2) (EvP.cast (ev_op (cell 1 h0 ev_int) ev_int (rv_mod (by decide))) (x := .int (jj : Int)) (by congr 1)) (rv_ixL (.inl hm) (atN (by rw [List.getElem?_map, hsk]; rfl)))
  refine gq_set (d := .int (s : Int)) (ev_op (pget rfl rfl List.mem_cons_self) ev_int (rv_ixT (z := .int (s : Int)) rfl)) ?_
  refine gq_set (d := .int (k : Int)) (ev_op (pget rfl rfl List.mem_cons_self) ev_int (rv_ixT (z := .int (k : Int)) rfl)) ?_
  have w1 := S.w1
  have w2 := S.w2
  have l1 := S.l1
  have l6 := S.l6
  have hch : Ch sh.sum sh := ⟨rfl, w1, l1, l6⟩
  have hNle : cbN sh.sum sh ≤ 30 := Nat.le_trans (Nat.le_of_dvd w1 (cbN_dvd w1)) w2
  have A : Okc s (cbN sh.sum sh) (redS sh.sum sh) := ⟨red_ch rfl w1 l1 l6, by omega, red_cb w1, s1, s2, .inl hNle⟩
  have eC : chL sh.sum sh = chL (cbN sh.sum sh) (redS sh.sum sh) := by
    unfold chL redS
    rw [List.map_map]
    refine List.map_congr_left fun a ha => ?_
    show fr (mkRat (a : Int) sh.sum) = fr (mkRat ((a * cbN sh.sum sh / sh.sum : Nat) : Int) (cbN sh.sum sh))
    rw [red_mk w1 ha]
  have nrr := near_red (s := s) (k := k) (sh := sh) w1 l1 l6
  have arl : (redS sh.sum sh).length = sh.length := by unfold redS; rw [List.length_map]
  generalize cbN sh.sum sh = N at A eC nrr hNle arl
  generalize redS sh.sum sh = as at A eC nrr arl
  obtain ⟨A2, eA2, lA2⟩ := near_okc (k := k) A hk6
  obtain ⟨dP, bsp⟩ := bst_of A2
  have cn := near_ch (s := s) (k := k) (by omega) A.ch
  have ln : (near s N k as).length = as.length := by unfold near; rw [List.length_map, List.length_range]
  have hs46 : s ^ k ≤ 46656 := Nat.le_trans (Nat.pow_le_pow_left s2 k) (Nat.le_trans (Nat.pow_le_pow_right (by decide) hk6) (by decide))
  have msa : ∀ {L : Hl}, (sa, O.lst (nD sh)) ∈ L → ∀ p ∈ ([(sa, O.lst (nD sh))] : Hl), Lk K H0 L p.1 p.2 := fun hm p hp => by rw [List.mem_singleton.mp hp]; exact .inl hm
  refine gq_new (o := .lst (nD (near s N k as))) (by rw [← nrr]; exact en_call (Z := [(sa, .lst (nD sh))]) (ea_cons (ev_var rfl) (ea_cons (ev_var rfl) (ea_cons (ev_var rfl) ea_nil))) ⟨sa, sh.sum, sh, s, k, rfl, rfl, hch, w2, s1, s2, hk6, rfl⟩ (msa (by simp))) fun ca => ?_
  refine gq_setN (P := fun d N' => ∃ c dx ans, d = .ref c ∧ N' = tZ CP c dx ans (pF N as k) s (nA s N k as).length (bestT s (nN s N k as) (nA s N k as))) (en_makeK (Z := []) (ea_cons (EvP.cast (ev_callR (Z := [(sa, .lst (nD sh))]) (ea_cons (ev_var rfl) ea_nil) ⟨sa, sh, rfl, rfl, S, rfl⟩ (msa (by simp))) (by rw [eC])) (ea_cons (ev_var rfl) ea_nil)) (ea_cons (ev_var rfl) ea_nil) rfl rfl (fun x dx => ⟨_, ⟨x, dx, N, as, s, k, rfl, rfl, A, hNle, hk6, rfl⟩, fun d N' h => by obtain ⟨rfl, ans, rfl⟩ := h; exact ⟨rfl, _, _, rfl, x, dx, ans, rfl, rfl⟩⟩) noZ (fun p hp => nomatch hp)) fun d N' hN => ?_
  obtain ⟨cP, xP, aP, rfl, rfl⟩ := hN
  refine ⟨_, eg_name, ?_⟩
  have hdig := fun {i o : Nat} (hi : i ≤ k) (ho : o < as.length) => dig_near (by omega) A.ch bsp hi ho
  have hopn := opn_near (by omega) A.ch bsp
  have T := bsp.tb
  have mlen := lA2
  generalize bestT s (nN s N k as) (nA s N k as) = t at T hdig hopn ⊢
  generalize nA s N k as = nAs at T mlen ⊢
  refine gq_setN (en_glc (Z := tZ CP cP xP aP (pF N as k) s nAs.length t) (ev_var rfl) (.inl List.mem_cons_self) (lookN rfl) (ea_cons (ev_var rfl) ea_nil) ⟨cP, xP, aP, pF N as k, s, nAs.length, k, t, rfl, rfl, .p _ _, T, hk6, hpw, rfl⟩ (tz_lk (by simp) (by simp))) fun d N' hN => ?_
  obtain ⟨fa, out, rfl, rfl, rfl⟩ := hN
  refine ⟨_, eg_name, ?_⟩
  generalize hL : (([(fa, O.lst ((lvs t k).map pwD))] : Hl) ++ _) = LL
  have mF : (fa, O.lst ((lvs t k).map pwD)) ∈ LL := by rw [← hL]; simp
  have mP : (cP, O.ins CP xP (pF N as k ++ chF s nAs.length t aP)) ∈ LL := by rw [← hL]; simp
  have mPa : (aP, O.lst (ansD s nAs.length t)) ∈ LL := by rw [← hL]; simp
  have mC : (ca, O.lst (nD (near s N k as))) ∈ LL := by rw [← hL]; simp
  have mS : (sa, O.lst (nD sh)) ∈ LL := by rw [← hL]; simp
  have hPP : LL[7]? = some (PP, O.tb0) := by rw [← hL]; rfl
  have bnd := (lvs_bd T hpw (k + 1) (Nat.le_refl _)).2
  have lb : (lvs t k).length ≤ 70000 := Nat.le_trans bnd (by omega)
  let Gx : Option D → Option D → Option D → Option D → Option D → Option D → Ga := fun v8 v9 v10 v12 v13 v14 => [some (.ref l), some (.ref sa), some (.ref p2), some (.int (s : Int)), some (.int (k : Int)), some (.ref ca), some (.ref cP), some (.ref fa), v8, v9, v10, none, v12, v13, v14]
  have leaf0 : ∀ {G : Ga} {L : Hl} {w : List Nat} {o : Nat}, G[10]? = some (some (pwD (w, o))) → EvP K H0 G L (tOp (rIxT K) (tVar 10) (tC (.int 0))) (.tup (nD w)) := fun h => ev_op (ev_var h) ev_int (rv_ixT (ds := [.tup (nD _), .int _]) (z := .tup (nD _)) rfl)
  have leaf1 : ∀ {G : Ga} {L : Hl} {w : List Nat} {o : Nat}, G[10]? = some (some (pwD (w, o))) → EvP K H0 G L (tOp (rIxT K) (tVar 10) (tC (.int 1))) (.int (o : Int)) := fun h => ev_op (ev_var h) ev_int (rv_ixT (ds := [.tup (nD _), .int _]) (z := .int _) rfl)
  have len0 : ∀ {G : Ga} {L : Hl} {w : List Nat} {o : Nat}, G[10]? = some (some (pwD (w, o))) → EvP K H0 G L (tCB (rLen K) (tCons (tOp (rIxT K) (tVar 10) (tC (.int 0))) tNil)) (.int (w.length : Int)) := fun h => EvP.cast (ev_cb (ea_cons (leaf0 h) ea_nil) rc_lenT) (by rw [nD_len])
  refine gq_for0 (ei_rng1 (n := ((k + 1 : Nat) : Int)) (ea_cons (EvP.cast (ev_op (ev_var rfl) ev_int rv_add) (x := .int ((k + 1 : Nat) : Int)) rfl) ea_nil) (by omega) (by omega)) (fun i G L => ∃ v8 v12 v14, G = Gx v8 none none v12 none v14 ∧ L = LL) ⟨none, none, none, rfl, hL.symm ▸ rfl⟩ (fun _ _ _ _ => trivial) (fun i d G L hd hI => ?_) (fun G L hI => ?_)
  · obtain ⟨v8, v12, v14, rfl, eL⟩ := hI
    rw [eL]
    have hi : i < k + 1 := by have h1 := (List.getElem?_eq_some_iff.mp hd).1; rw [rngD_len, Int.toNat_natCast] at h1; exact h1
    rw [rngD_get (by rw [Int.toNat_natCast]; exact hi), Int.zero_add] at hd
    cases hd
    refine ⟨_, eg_name, ?_⟩
    refine gq_for0 (ei_rng1 (n := (sh.length : Int)) (ea_cons (EvP.cast (ev_cb (ea_cons (ev_var rfl) ea_nil) (rc_lenL (.inl mS))) (by rw [nD_len])) ea_nil) (by omega) (by omega)) (fun o G L => ∃ v12 v14, G = Gx (some (.int (i : Int))) none none v12 none v14 ∧ L = LL) ⟨_, _, rfl, rfl⟩ (fun _ _ _ _ => trivial) (fun o d G L hd hI => ?_) (fun G L hI => ?_)
    · obtain ⟨v12, v14, rfl, eL⟩ := hI
      rw [eL]
      have ho : o < sh.length := by have h1 := (List.getElem?_eq_some_iff.mp hd).1; rw [rngD_len, Int.toNat_natCast] at h1; exact h1
      rw [rngD_get (by rw [Int.toNat_natCast]; exact ho), Int.zero_add] at hd
      cases hd
      have ho2 : o < as.length := by omega
      refine ⟨_, eg_name, gq_set (d := .int (((lfW t i).filter fun p => decide (p.2 = o)).length : Int)) (EvP.cast (ev_lenN (en_lc (fun d => match d with | .tup [.tup w, .int o'] => decide ((w.length : Int) = (i : Int)) && decide (o' = (o : Int)) | _ => false) (fun d => d) (ei_list (ev_var rfl) (.inl mF)) (fun Z => .inl (List.mem_cons_of_mem _ mF)) (fun d hd => ?_) (fun d hd _ => ev_var rfl) (by rw [List.length_map]; omega))) ?_) ?_⟩
      · obtain ⟨p, hp, rfl⟩ := List.mem_map.mp hd
        obtain ⟨w, o'⟩ := p
        refine EvT.cast (et_and (et_test (ev_op (len0 rfl) (ev_var rfl) rv_eqI)) (fun _ => et_test (ev_op (leaf1 rfl) (ev_var rfl) rv_eqI))) ?_
        show _ = (decide (((nD w).length : Int) = (i : Int)) && decide ((o' : Int) = (o : Int)))
        rw [nD_len]
      · congr 2
        rw [List.map_id', List.filter_map, List.length_map, ← lvs_len T (show i ≤ k by omega) o]
        congr 1
        refine List.filter_congr fun p hp => ?_
        show (decide (((nD p.1).length : Int) = (i : Int)) && decide ((p.2 : Int) = (o : Int))) = _
        rw [nD_len, ← Bool.decide_and, decide_eq_decide]
        omega
      · have hc : (near s N k as).getD o 0 ≤ 46656 := Nat.le_trans (cn.le (getD_mem (by rw [ln]; exact ho2))) hs46
        refine gq_ifL (b := false) (EvT.cast (et_test (ev_op (ev_var rfl) (ev_call (ea_cons (ev_op (ev_var rfl) (ev_var rfl) (rv_ixL (.inl mC) (atN (nD_get (x := (near s N k as).getD o 0) (by rw [List.getD_eq_getElem?_getD, List.getElem?_eq_getElem (by rw [ln]; exact ho2)]; rfl))))) (ea_cons (ev_var rfl) (ea_cons (ev_var rfl) (ea_cons (ev_var rfl) ea_nil)))) ⟨_, s, k, i, rfl, by omega, s1, s2, hk6, by omega, rfl⟩) rv_neI)) ?_) (fun h => by cases h) (fun _ => go_next ⟨_, _, rfl, rfl⟩)
        rw [hdig (by omega) ho2]
        simp
    · obtain ⟨v12, v14, rfl, eL⟩ := hI
      rw [eL]
      exact go_next ⟨_, _, _, rfl, rfl⟩
  · obtain ⟨v8, v12, v14, rfl, eL⟩ := hI
    rw [eL]
    refine gq_set (d := .int 0) ev_int ?_
    refine gq_for0 (ei_list (ev_var rfl) (.inl mF)) (fun i G L => ∃ v8 v10 v12 v13 v14, G = Gx v8 (some (.int (roomW s k ((lvs t k).take i) : Int))) v10 v12 v13 v14 ∧ L = LL) ⟨_, _, _, _, _, rfl, rfl⟩ (fun i G L hI => by obtain ⟨_, _, _, _, _, _, rfl⟩ := hI; exact .inl mF) (fun i d G L hd hI => ?_) (fun G L hI => ?_)
    · obtain ⟨v8, v10, v12, v13, v14, rfl, eL⟩ := hI
      rw [eL]
      rw [List.getElem?_map] at hd
      cases hp : (lvs t k)[i]? with
      | none => rw [hp] at hd; cases hd
      | some p =>
        rw [hp] at hd
        cases hd
        obtain ⟨h1, h2⟩ := lvs_mem T (List.mem_of_getElem? hp)
        obtain ⟨_, hlt, hst, hfin, hpre⟩ := lfW_mem T h2
        obtain ⟨w, o⟩ := p
        have h1 : w.length ≤ k := h1
        have hlt : ∀ x ∈ w, x < s := hlt
        have hfin : t[wk t 0 w]? = some (.fin o) := hfin
        have hpre : ∀ j, j < w.length → isGo t (wk t 0 (w.take j)) = true := hpre
        have wl := wlen_all w.length w rfl hpre
        have etk : roomW s k ((lvs t k).take (i + 1)) = roomW s k ((lvs t k).take i) + s ^ (k - w.length) := by
          rw [List.take_succ, hp, roomW_app]
          show _ + roomW s k [(w, o)] = _
          unfold roomW
          simp
        refine ⟨_, eg_name, ?_⟩
        refine gq_set (d := .int (roomW s k ((lvs t k).take (i + 1)) : Int)) (EvP.cast (ev_op (ev_var rfl) (ev_call (ea_cons (ev_var rfl) (ea_cons (EvP.cast (ev_op (ev_var rfl) (len0 rfl) rv_sub) (x := .int ((k - w.length : Nat) : Int)) (by congr 1; omega)) ea_nil)) ⟨s, k - w.length, rfl, s2, by omega, rfl⟩) rv_add) (by rw [etk, Int.natCast_add])) ?_
        refine gq_for0 (ei_rng1 (n := (w.length : Int)) (ea_cons (len0 rfl) ea_nil) (by omega) (by omega)) (fun j G L => ∃ v13, G = Gx v8 (some (.int (roomW s k ((lvs t k).take (i + 1)) : Int))) (some (pwD (w, o))) v12 v13 v14 ∧ L = LL) ⟨_, rfl, rfl⟩ (fun _ _ _ _ => trivial) (fun j d G L hd hI => ?_) (fun G L hI => ?_)
        · obtain ⟨v13, rfl, eL⟩ := hI
          rw [eL]
          have hj : j < w.length := by have h1 := (List.getElem?_eq_some_iff.mp hd).1; rw [rngD_len, Int.toNat_natCast] at h1; exact h1
          rw [rngD_get (by rw [Int.toNat_natCast]; exact hj), Int.zero_add] at hd
          cases hd
          have ecut : cutD (nD w) none (some (j : Int)) = nD (w.take j) := by
            have e : HT.sIx (nD w).length (nD w).length (some (j : Int)) = j := by
              rw [nD_len]
              show (if (j : Int) < 0 then ((j : Int) + (w.length : Int)).toNat else min (j : Int).toNat w.length) = j
              rw [if_neg (by omega), Int.toNat_natCast]
              omega
            unfold cutD
            rw [e]
            show ((nD w).drop 0).take (j - 0) = _
            rw [List.drop_zero, Nat.sub_zero]
            unfold nD
            rw [List.map_take]
          have erun : runD t (w.take j) = .tup [.str "open", .int (wk t 0 (w.take j) : Int)] := by
            have hg := hpre j hj
            unfold isGo at hg
            unfold runD
            split at hg
            · rename_i g hg2; rw [hg2]
            · cases hg
          refine ⟨_, eg_name, gq_ifL (b := false) (EvT.cast (et_test (ev_op (ev_op (EvP.cast (ev_run (ev_var rfl) (EvP.cast (ev_slT (lo := none) (hi := some (j : Int)) (leaf0 rfl) eo_none (eo_some (ev_var rfl))) (by rw [ecut])) mP mPa (.p _ _) T (fun x hx => hlt x (List.mem_of_mem_take hx)) (by rw [List.length_take]; omega)) erun) ev_int (rv_ixT (z := .str "open") rfl)) ev_str (rv_ne (u := V.str "open") (v := V.str "open") rfl rfl rfl))) (by simp)) (fun h => by cases h) (fun _ => go_next ⟨_, rfl, rfl⟩)⟩
        · obtain ⟨v13, rfl, eL⟩ := hI
          rw [eL]
          have erun : runD t w = .tup [.str "decided", .int (o : Int), .int (w.length : Int)] := by
            unfold runD
            rw [hfin, wl]
          refine gq_ifL (b := false) (et_not (tt := tB _) (et_B (b := true) (ev_call (ea_cons (EvP.cast (ev_run (ev_var rfl) (leaf0 rfl) mP mPa (.p _ _) T hlt (by omega)) erun) (ea_cons (ev_tup (ea_cons ev_str (ea_cons (leaf1 rfl) (ea_cons (len0 rfl) ea_nil))) (by show 3 ≤ 100000; decide)) ea_nil)) ⟨_, rfl, rfl, rfl⟩))) (fun h => by cases h) (fun _ => go_next ⟨_, _, _, _, _, rfl, rfl⟩)
    · obtain ⟨v8, v10, v12, v13, v14, rfl, eL⟩ := hI
      rw [eL]
      rw [List.length_map, List.take_length, roomW_all T k hopn]
      have pwl := lvs_pw T k
      refine gq_new (o := .lst (((lvs t k).map (·.1)).map wD)) (EvN.imp (en_lcY (v := fun d => match d with | .tup [w, _] => w | _ => .non) (ei_list (ev_var rfl) (.inl mF)) (fun Z => .inl (List.mem_cons_of_mem _ mF)) (fun d hd => ?_) (by rw [List.length_map]; omega)) fun d N h => ?_) fun wl => ?_
      · obtain ⟨p, hp, rfl⟩ := List.mem_map.mp hd
        exact leaf0 rfl
      · obtain ⟨a, rfl, rfl⟩ := h
        refine ⟨a, rfl, ?_⟩
        rw [List.map_map, List.map_map]
        congr 3
        refine List.map_congr_left fun p hp => ?_
        show D.tup (nD p.1) = wD p.1
        rw [wD_nD]
      · have hws : ∀ w ∈ (lvs t k).map (·.1), w.length ≤ 100000 := fun w hw => by
          obtain ⟨p, hp, rfl⟩ := List.mem_map.mp hw
          have := (lvs_mem T hp).1
          omega
        have hpk : ∀ d ∈ ((lvs t k).map (·.1)).map wD, pok 1 d = true := fun d hd => by
          obtain ⟨w, _, rfl⟩ := List.mem_map.mp hd
          refine pok_tup fun z hz => ?_
          obtain ⟨i, _, rfl⟩ := List.mem_map.mp hz
          rfl
        refine gq_retM (em_andV (b := true) (c := true) (P := fun _ _ => True) (EvP.cast (ev_op (ev_var rfl) (ev_call (ea_cons (ev_var rfl) (ea_cons (ev_var rfl) ea_nil)) ⟨s, k, rfl, s2, by omega, rfl⟩) rv_eqI) (by rw [decide_eq_true rfl])) (fun _ => EvM.imp (em_op (ev_var rfl) (em_sortLam (k := 8) (ea_cons (ev_var rfl) ea_nil) (.inl List.mem_cons_self) hPP hws pwl) (fun d L' h => ?_)) fun d L' h => ⟨h.1, trivial⟩) (fun h => by cases h)) (fun d L' h => h.1)
        obtain ⟨q, rfl, rfl⟩ := h
        exact rv_eqL (n := 1) (.inl (List.mem_cons_of_mem _ List.mem_cons_self)) (.inl List.mem_cons_self) hpk (by decide)
end
end Fc

namespace Fc
open PySem PySem.Spec PyProof.Rows L2
/-! ## a small head: what the walk needs of the top, by names -/
/-- a def: its address in a part of the heap, name, qualified name, text -/
structure Df where
  ad : PySem.W.Frag → Addr
  name : Str
  qual : Str
  st : Stmt
def fnV (K : PySem.W.Frag) (f : Addr) : He.FnW := match K.lookup f with
  | some ⟨_, _, .func fd, _⟩ => some (fd.name, fd.qualname, fd.params, fd.body, fd.scope, fd.globals, fd.closure, fd.builtins)
  | _ => none
def Df.val (d : Df) : He.FnW := some (d.name, d.qual, defArgs d.st, .stmts (defBody d.st), defScope d.st, mainGlobals, [], builtinsNs)
def noDfl : Value → Bool
  | .none => true
  | _ => false
def Df.ok (K : PySem.W.Frag) (d : Df) : Bool := PySem.W.keepIn K (.ref (d.ad K)) && (match K.lookup (d.ad K) with
  | some ⟨_, _, .func fd, _⟩ => PySem.W.codeIn K fd.code d.qual && noDfl fd.defaults
  | _ => false)
theorem Df.fun {K : PySem.W.Frag} {d : Df} (e : fnV K (d.ad K) = d.val) (c : d.ok K = true) : ∃ fd, Fun K d.name d.qual d.st (d.ad K) fd := by
  obtain ⟨kp, c2⟩ := He.ba c
  unfold fnV at e
  cases q : K.lookup (d.ad K) with
  | none => rw [q] at c2; cases c2
  | some o =>
    obtain ⟨oc, od, dt, osl⟩ := o
    rw [q] at c2 e
    cases dt with
    | func fd =>
      obtain ⟨n1, n2, n3, n4, n5, n6, n7, n8, n9, n10, n11, n12, n13, n14, n15⟩ := fd
      have e2 : (some (n1, n2, n3, n4, n5, n6, n7, n15) : He.FnW) = some (d.name, d.qual, defArgs d.st, .stmts (defBody d.st), defScope d.st, mainGlobals, [], builtinsNs) := e
      simp only [Option.some.injEq, Prod.mk.injEq] at e2
      obtain ⟨h1, h2, h3, h4, h5, h6, h7, h8⟩ := e2
      subst h1 h2 h3 h4 h5 h6 h7 h8
      have c3 : (PySem.W.codeIn K n13 d.qual && noDfl n8) = true := c2
      obtain ⟨k1, k2⟩ := He.ba c3
      cases n8 with
      | none => exact ⟨_, fun_mk q k1 kp⟩
      | _ => cases k2
    | _ => cases c2
/-- a property of a class -/
def prAd (x m : Str) (K : PySem.W.Frag) : Addr := He.ma K (He.ga K x) m
def gtAd (x m : Str) (K : PySem.W.Frag) : Addr := match PySem.W.recIn K (prAd x m K) "property" with
  | some (.ref f :: _) => f
  | _ => 0
def prB (K : PySem.W.Frag) (q : Str × Str) : Bool := He.eqO (PySem.W.findIn K (.ref (He.ga K q.1)) q.2) (some (some (.ref (prAd q.1 q.2 K)))) && (He.eqO (PySem.W.specialIn K (.ref (prAd q.1 q.2 K)) "__get__") (some (some (.builtin "property.__get__"))) && (decide (PySem.W.takesIn K (.ref (prAd q.1 q.2 K)) = some true) && (match PySem.W.recIn K (prAd q.1 q.2 K) "property" with
  | some (.ref _ :: _) => true
  | _ => false)))
theorem prB_ok {K : PySem.W.Frag} {x m : Str} (c : prB K (x, m) = true) : PropOf K (He.ga K x) m (prAd x m K) (gtAd x m K) := by
  obtain ⟨c1, c2⟩ := He.ba c
  obtain ⟨c2, c3⟩ := He.ba c2
  obtain ⟨c3, c4⟩ := He.ba c3
  refine ⟨He.eqO_ok c1, He.eqO_ok c2, of_decide_eq_true c3, ?_⟩
  have c4 : (match PySem.W.recIn K (prAd x m K) "property" with | some (.ref _ :: _) => true | _ => false) = true := c4
  unfold gtAd
  cases q : PySem.W.recIn K (prAd x m K) "property" with
  | none => rw [q] at c4; cases c4
  | some l =>
    cases l with
    | nil => rw [q] at c4; cases c4
    | cons v r =>
      cases v with
      | ref f => exact ⟨r, rfl⟩
      | _ => rw [q] at c4; cases c4
/-- a pair of ints as a module's constant -/
def twB (K : PySem.W.Frag) (q : Str × Int × Int) : Bool := He.tupB K q.1 [.int q.2.1, .int q.2.2]
theorem twB_ok {K : PySem.W.Frag} {x : Str} {i j : Int} (c : twB K (x, i, j) = true) (H : Hp) : Im K H (.ref (He.ga K x)) (.tup [.int i, .int j]) :=
  .tup (He.tupB_ok (vs := [.int i, .int j]) c H) (.cons (.int i) (.cons (.int j) .nil))
structure Lk2 where
  fa : List He.Fa
  fn : List Df
  pr : List (Str × Str)
  tw : List (Str × Int × Int)
def obsK (l : Lk2) (K : PySem.W.Frag) : He.AlD := ((l.fa.all fun f => f.ok K) && ((l.fn.all fun d => d.ok K) && ((l.pr.all (prB K)) && l.tw.all (twB K))), l.fn.map fun d => fnV K (d.ad K))
def valK (l : Lk2) : He.AlD := (true, l.fn.map Df.val)
def SaysK (l : Lk2) (K : PySem.W.Frag) : Prop := obsK l K = valK l
/-- the objects that the module's names reach in n steps, as often as they are named (no look for doubles: it costs the kernel more than they do) -/
def asN (g : Addr → Option Obj) : Nat → List Addr → List Addr
  | 0, l => l
  | n + 1, l => l ++ asN g n (l.flatMap fun a => match g a with
    | some o => He.refsD o
    | none => [])
def obsKG (n : Nat) (l : Lk2) (g : Addr → Option Obj) : He.AlD := obsK l (He.frG g (asN g n [mainGlobals]))
def hookK (n : Nat) (l : Lk2) : PySem.W.Hook where
  α := He.AlD
  obs := fun s => obsKG n l s.heap.get?
  val := fun _ => valK l
  says := fun _ h => ∃ K : PySem.W.Frag, K.In h ∧ SaysK l K
  of := fun _ _ e => ⟨_, He.frG_in, e⟩
  keeps := fun _ _ _ ⟨K, hK, c⟩ k => ⟨K, PySem.W.Frag.In.keeps hK k, c⟩
theorem obsKG_eq {n : Nat} {l : Lk2} {g : Addr → Option Obj} {s : Shared} (h : ∀ a, g a = s.heap.get? a) : obsKG n l g = (hookK n l).obs s := by
  have e : g = s.heap.get? := funext h
  rw [e] <;> rfl
section
variable {l : Lk2} {K : PySem.W.Frag}
theorem SaysK.all (c : SaysK l K) : (l.fa.all fun f => f.ok K) = true ∧ (l.fn.all fun d => d.ok K) = true ∧ l.pr.all (prB K) = true ∧ l.tw.all (twB K) = true := by
  have c1 : ((l.fa.all fun f => f.ok K) && ((l.fn.all fun d => d.ok K) && ((l.pr.all (prB K)) && l.tw.all (twB K)))) = true := congrArg (fun z : He.AlD => z.1) c
  obtain ⟨a, c1⟩ := He.ba c1
  obtain ⟨b, c1⟩ := He.ba c1
  obtain ⟨c, d⟩ := He.ba c1
  exact ⟨a, b, c, d⟩
theorem SaysK.fact (c : SaysK l K) (i : Nat) {f : He.Fa} (h : l.fa[i]? = some f := by rfl) : f.ok K = true := List.all_eq_true.mp c.all.1 f (List.mem_of_getElem? h)
theorem SaysK.prop (c : SaysK l K) (i : Nat) {x m : Str} (h : l.pr[i]? = some (x, m) := by rfl) : PropOf K (He.ga K x) m (prAd x m K) (gtAd x m K) := prB_ok (List.all_eq_true.mp c.all.2.2.1 _ (List.mem_of_getElem? h))
theorem SaysK.pair (c : SaysK l K) (i : Nat) {x : Str} {a b : Int} (h : l.tw[i]? = some (x, a, b) := by rfl) : ∀ H, Im K H (.ref (He.ga K x)) (.tup [.int a, .int b]) := twB_ok (List.all_eq_true.mp c.all.2.2.2 _ (List.mem_of_getElem? h))
theorem SaysK.fun (c : SaysK l K) (i : Nat) {d : Df} (h : l.fn[i]? = some d := by rfl) : ∃ fd, Fun K d.name d.qual d.st (d.ad K) fd := by
  have e : l.fn.map (fun d => fnV K (d.ad K)) = l.fn.map Df.val := congrArg (fun z : He.AlD => z.2) c
  have e2 : (l.fn.map fun d => fnV K (d.ad K))[i]? = (l.fn.map Df.val)[i]? := by rw [e]
  rw [List.getElem?_map, List.getElem?_map, h] at e2
  exact Df.fun (Option.some.inj e2) (List.all_eq_true.mp c.all.2.1 d (List.mem_of_getElem? h))
end
/-- addresses of defs -/
abbrev fnA (x : Str) (K : PySem.W.Frag) : Addr := He.ga K x
abbrev mtA (x m : Str) (K : PySem.W.Frag) : Addr := He.ma K (He.ga K x) m
end Fc

namespace Fc
open PySem PySem.Spec PyProof.Rows L2
/-! ## a small head that leaves out the law's table of code objects -/
/-- the code object of the def at f, its table -/
def codA (K : PySem.W.Frag) (f : Addr) : Addr := match K.lookup f with
  | some ⟨_, _, .func fd, _⟩ => (match fd.code with | .ref c => c | _ => 0)
  | _ => 0
def tabA (K : PySem.W.Frag) (c : Addr) : Addr := match K.lookup c with
  | some ⟨_, _, .fields vs, _⟩ => (match (vs[11]? : Option Value) with | some (.ref P) => P | _ => 0)
  | _ => 0
def refB (c : Addr) : Value → Bool
  | .ref d => decide (d = c)
  | _ => false
def codB (K : PySem.W.Frag) (f c : Addr) : Bool := match K.lookup f with
  | some ⟨_, _, .func fd, _⟩ => refB c fd.code
  | _ => false
def emptyB : Option Obj → Bool
  | some ⟨.none, none, .fields ⟨[]⟩, ⟨[]⟩⟩ => true
  | _ => false
def hdB (c P : Addr) : Option Obj → Bool
  | some ⟨.type T, _, .fields vs, _⟩ => (T == "code") && ((match (vs[11]? : Option Value) with | some (.ref Q) => decide (Q = P) | _ => false) && ((match vs.getD 18 .none with | .str _ _ => true | _ => false) && ((match vs.getD 7 .none with | .int _ _ => true | _ => false) && ((match vs.getD 9 .none with | .bool _ => true | _ => false) && ((match vs.getD 10 .none with | .int _ _ => true | _ => false) && decide (c ≠ P))))))
  | _ => false
theorem emptyB_ok {o : Option Obj} (h : emptyB o = true) : o = some { cls := .none, data := .fields #[] } := by
  unfold emptyB at h
  split at h
  · rfl
  · cases h
theorem hdB_ok {h : Heap} {c P : Addr} (e : hdB c P (h.get? c) = true) : PySem.W.CodeHd h c P := by
  cases q : h.get? c with
  | none => rw [q] at e; cases e
  | some o =>
    rw [q] at e
    obtain ⟨cl, dc, dt, sl⟩ := o
    cases cl with
    | type T =>
      cases dt with
      | fields vs =>
        have e : ((T == "code") && ((match (vs[11]? : Option Value) with | some (.ref Q) => decide (Q = P) | _ => false) && ((match vs.getD 18 .none with | .str _ _ => true | _ => false) && ((match vs.getD 7 .none with | .int _ _ => true | _ => false) && ((match vs.getD 9 .none with | .bool _ => true | _ => false) && ((match vs.getD 10 .none with | .int _ _ => true | _ => false) && decide (c ≠ P))))))) = true := e
        obtain ⟨e1, e⟩ := He.ba e
        obtain ⟨e2, e⟩ := He.ba e
        obtain ⟨e3, e⟩ := He.ba e
        obtain ⟨e4, e⟩ := He.ba e
        obtain ⟨e5, e⟩ := He.ba e
        obtain ⟨e6, e7⟩ := He.ba e
        have hT : T = "code" := by simpa using e1
        subst hT
        have h11 : vs[11]? = some (.ref P) := by
          split at e2
          · rename_i Q hQ
            rw [hQ, of_decide_eq_true e2]
          · cases e2
        have g11 : vs.getD 11 .none = .ref P := by rw [Array.getD_eq_getD_getElem?, h11]; rfl
        revert e3 e4 e5 e6
        cases h18 : vs.getD 18 .none with
        | str file tf =>
          cases h7 : vs.getD 7 .none with
          | int flags tg =>
            cases h9 : vs.getD 9 .none with
            | bool inF =>
              cases h10 : vs.getD 10 .none with
              | int text tt => exact fun _ _ _ _ => ⟨_, vs, file, tf, flags, tg, inF, text, tt, q, rfl, rfl, h11, g11, h18, h7, h9, h10, of_decide_eq_true e7⟩
              | _ => intro _ _ _ e6; cases e6
            | _ => intro _ _ e5; cases e5
          | _ => intro _ e4; cases e4
        | _ => intro e3; cases e3
      | _ => cases e
    | _ => cases e
/-- all but the table -/
def cutK (K : PySem.W.Frag) (P : Addr) : PySem.W.Frag := K.filter fun p => decide (p.1 ≠ P)
theorem cutK_look (P : Addr) (a : Addr) : ∀ K : PySem.W.Frag, (cutK K P).lookup a = if a = P then none else K.lookup a
  | [] => by unfold cutK; simp
  | (b, o) :: r => by
    have ih := cutK_look P a r
    unfold cutK at ih ⊢
    by_cases hb : b = P
    · rw [List.filter_cons_of_neg (by simpa using hb), ih, List.lookup_cons]
      by_cases ha : a = P
      · rw [if_pos ha, if_pos ha]
      · rw [if_neg ha, if_neg ha]
        have : (a == b) = false := by rw [hb]; simpa using ha
        rw [this]
    · rw [List.filter_cons_of_pos (by simpa using hb), List.lookup_cons, List.lookup_cons, ih]
      cases h : a == b with
      | true =>
        have e : a = b := by simpa using h
        have ha : ¬ a = P := fun z => hb (e ▸ z)
        rw [if_neg ha, if_neg ha]
      | false => rfl
def obsT (l : Lk2) (K : PySem.W.Frag) (lw : PySem.W.Frag → Addr) : He.AlD :=
  let c := codA K (lw K)
  let P := tabA K c
  let K2 := cutK K P
  let r := obsK l K2
  (r.1 && (emptyB (K.lookup P) && (hdB c P (K.lookup c) && codB K2 (lw K2) c)), r.2)
def SaysT (l : Lk2) (lw : PySem.W.Frag → Addr) (h : Heap) : Prop := ∃ (K : PySem.W.Frag) (c P : Addr), K.In h ∧ SaysK l K ∧ K.lookup P = none ∧ h.get? P = some { cls := .none, data := .fields #[] } ∧ PySem.W.CodeHd h c P ∧ codB K (lw K) c = true
theorem saysT_of {l : Lk2} {K : PySem.W.Frag} {lw : PySem.W.Frag → Addr} {h : Heap} (hK : K.In h) (e : obsT l K lw = valK l) : SaysT l lw h := by
  unfold obsT at e
  dsimp only at e
  have e1 : ((obsK l (cutK K (tabA K (codA K (lw K))))).1 && (emptyB (K.lookup (tabA K (codA K (lw K)))) && (hdB (codA K (lw K)) (tabA K (codA K (lw K))) (K.lookup (codA K (lw K))) && codB (cutK K (tabA K (codA K (lw K)))) (lw (cutK K (tabA K (codA K (lw K))))) (codA K (lw K))))) = true := congrArg (fun z : He.AlD => z.1) e
  have e2 : (obsK l (cutK K (tabA K (codA K (lw K))))).2 = l.fn.map Df.val := congrArg (fun z : He.AlD => z.2) e
  generalize codA K (lw K) = c at e1 e2
  generalize tabA K c = P at e1 e2
  obtain ⟨a1, e1⟩ := He.ba e1
  obtain ⟨a2, e1⟩ := He.ba e1
  obtain ⟨a3, a4⟩ := He.ba e1
  have hP := emptyB_ok a2
  have hPh := hK _ _ hP
  refine ⟨cutK K P, c, P, fun a o q => ?_, ?_, by rw [cutK_look, if_pos rfl], hPh, ?_, a4⟩
  · rw [cutK_look] at q
    split at q
    · cases q
    · exact hK a o q
  · show obsK l (cutK K P) = valK l
    exact Prod.ext a1 e2
  · refine hdB_ok ?_
    cases q : K.lookup c with
    | none => rw [q] at a3; cases a3
    | some o => rw [hK _ _ q, ← q]; exact a3
def obsTG (n : Nat) (l : Lk2) (lw : PySem.W.Frag → Addr) (g : Addr → Option Obj) : He.AlD := obsT l (He.frG g (asN g n [mainGlobals])) lw
def hookT (n : Nat) (l : Lk2) (lw : PySem.W.Frag → Addr) : PySem.W.Hook where
  α := He.AlD
  obs := fun s => obsTG n l lw s.heap.get?
  val := fun _ => valK l
  says := fun _ h => SaysT l lw h
  of := fun _ _ e => saysT_of He.frG_in e
  keeps := fun _ _ _ ⟨K, c, P, hK, a1, a2, a3, a4, a5⟩ k => ⟨K, c, P, PySem.W.Frag.In.keeps hK k, a1, a2, k _ _ a3, a4.keeps k, a5⟩
theorem obsTG_eq {n : Nat} {l : Lk2} {lw : PySem.W.Frag → Addr} {g : Addr → Option Obj} {s : Shared} (h : ∀ a, g a = s.heap.get? a) : obsTG n l lw g = (hookT n l lw).obs s := by
  have e : g = s.heap.get? := funext h
  rw [e] <;> rfl
/-- the law's own def: its code object -/
theorem codB_ok {K : PySem.W.Frag} {x qual : Str} {st : Stmt} {f c : Addr} {fd : FuncData} (F : Fun K x qual st f fd) (h : codB K f c = true) : fd.code = .ref c := by
  obtain ⟨oc, od, kV, doc, pm, an, cdv, ct, osl, rfl, lk, hcd⟩ := F.ex
  unfold codB at h
  rw [lk] at h
  have h : refB c cdv = true := h
  cases cdv with
  | ref d => rw [show d = c from of_decide_eq_true h]
  | _ => cases h
end Fc

namespace Fc
open PySem PySem.Spec PyProof.Rows L2
theorem law_sp {K : PySem.W.Frag} {H : Hp} {a P : Addr} {ns : List Int} (hl : ns.length ≤ 63) (nP : K.lookup P = none) (hP : H P = some (.tbl #[])) (hS : SqL K H a (ns.map V.int)) : spX K (S_law P) [.ref a] H (fun v _ => v = .bl true) (fun _ _ _ => False) := by
  have ha : a ≠ P := fun e => by
    subst e
    rcases hS with (z | ⟨o, z⟩) | ⟨o, vs, n, z, _⟩
    · rw [hP] at z; cases z
    · rw [hP] at z; cases z
    · rw [nP] at z; cases z
  refine ⟨[(P, .tb0)], [(a, .lst (ns.map D.int))], [.ref a], .ret (fun d _ => d = .bl true), fun p hp => ?_, by simp, fun p hp => ?_, fun p hp => ?_, .cons (.ref a) .nil, ⟨a, ns, rfl, rfl, rfl, hl, rfl⟩, fun v H' d N r _ _ _ _ _ i => ?_⟩
  · rw [List.mem_singleton.mp hp]; exact ⟨_, hP, rfl⟩
  · rw [List.mem_singleton.mp hp]; exact ⟨_, hS, ImL.of_ints ns⟩
  · rw [List.mem_singleton.mp hp]; simpa using ha
  · subst r; cases i; rfl
theorem cint {K : PySem.W.Frag} {h : Heap} {mg : Str → Option Value} {x : Str} {i : Int} (X : K.In h) (G : h.Ns mainGlobals mg) (c : (He.Fa.int x i).ok K = true) : ∃ u, mg x = some u ∧ RelV (.int i) u := by
  obtain ⟨t, e⟩ := He.int_ok X G c
  exact ⟨_, e, ⟨_, rfl⟩⟩
def lk : Lk2 := ⟨([.glo "law", .free "abs", .free "len", .free "all", .free "any", .free "isinstance", .free "tuple", .free "dict", .free "int", .free "bool", .free "str", .free "range", .free "zip", .free "enumerate", .free "sum", .free "sorted", .free "list", .free "max", .free "min", .int "LEAST_SIDES" 2, .int "MOST_SIDES" 6, .int "MOST_OUTCOMES" 6, .int "MOST_STATES" 100, .glo "ZERO", .glo "ONE", .cls "Capped", .noat "Capped" "side_count", .noat "Capped" "outcome_count", .noat "Capped" "rows", .noat "Capped" "answers"] : List He.Fa) ++ ([.int "MOST_BOTTOM" 30, .int "MOST_THROWS" 60, .int "MOST_CAPPED" 6, .int "MOST_LENGTH" 6, .noat "Capped" "goal", .noat "Capped" "cap", .glo "is_integer", .glo "is_between", .glo "greatest_divisor", .glo "ratio", .glo "is_fraction", .glo "plus", .glo "minus", .glo "times", .glo "over", .glo "added", .glo "power", .glo "common_bottom", .glo "is_chances", .glo "check_chances", .glo "check_sides", .glo "check_throws", .glo "floors", .glo "open_at_least", .glo "digits_at", .glo "rests", .glo "course", .glo "nearest_by", .glo "equations", .glo "put_in"] : List He.Fa) ++ ([.glo "solved", .glo "level_states", .glo "best_table", .glo "is_word", .glo "_law_cell", .glo "_law_draws", .glo "_law_fraction", .glo "_law_is_same", .glo "_law_shares", .glo "_law_chances", .glo "_law_power", .glo "_law_nearest", .glo "_law_digit", .meth "Capped" "set_rows", .meth "Capped" "set_best", .mkr "Capped", .glo "Capped", .meth "Capped" "walked", .meth "Capped" "run", .meth "Capped" "longer", .meth "Capped" "leaves"] : List He.Fa), ([⟨fnA "is_integer", "is_integer", "is_integer", s_is_integer⟩, ⟨fnA "is_between", "is_between", "is_between", s_is_between⟩, ⟨fnA "greatest_divisor", "greatest_divisor", "greatest_divisor", s_greatest_divisor⟩, ⟨fnA "ratio", "ratio", "ratio", s_ratio⟩, ⟨fnA "is_fraction", "is_fraction", "is_fraction", s_is_fraction⟩, ⟨fnA "plus", "plus", "plus", s_plus⟩, ⟨fnA "minus", "minus", "minus", s_minus⟩, ⟨fnA "times", "times", "times", s_times⟩, ⟨fnA "over", "over", "over", s_over⟩, ⟨fnA "added", "added", "added", s_added⟩, ⟨fnA "power", "power", "power", s_power⟩, ⟨fnA "common_bottom", "common_bottom", "common_bottom", s_common_bottom⟩, ⟨fnA "is_chances", "is_chances", "is_chances", s_is_chances⟩, ⟨fnA "check_chances", "check_chances", "check_chances", s_check_chances⟩, ⟨fnA "check_sides", "check_sides", "check_sides", s_check_sides⟩, ⟨fnA "check_throws", "check_throws", "check_throws", s_check_throws⟩, ⟨fnA "floors", "floors", "floors", s_floors⟩, ⟨fnA "open_at_least", "open_at_least", "open_at_least", s_open_at_least⟩, ⟨fnA "digits_at", "digits_at", "digits_at", s_digits_at⟩, ⟨fnA "rests", "rests", "rests", s_rests⟩, ⟨fnA "course", "course", "course", s_course⟩, ⟨fnA "nearest_by", "nearest_by", "nearest_by", s_nearest_by⟩, ⟨fnA "equations", "equations", "equations", s_equations⟩, ⟨fnA "put_in", "put_in", "put_in", s_put_in⟩, ⟨fnA "solved", "solved", "solved", s_solved⟩, ⟨fnA "level_states", "level_states", "level_states", s_level_states⟩, ⟨fnA "best_table", "best_table", "best_table", s_best_table⟩, ⟨fnA "is_word", "is_word", "is_word", s_is_word⟩, ⟨fnA "_law_cell", "_law_cell", "_law_cell", s__law_cell⟩, ⟨fnA "_law_draws", "_law_draws", "_law_draws", s__law_draws⟩] : List Df) ++ ([⟨fnA "_law_fraction", "_law_fraction", "_law_fraction", s__law_fraction⟩, ⟨fnA "_law_is_same", "_law_is_same", "_law_is_same", s__law_is_same⟩, ⟨fnA "_law_shares", "_law_shares", "_law_shares", s__law_shares⟩, ⟨fnA "_law_chances", "_law_chances", "_law_chances", s__law_chances⟩, ⟨fnA "_law_power", "_law_power", "_law_power", s__law_power⟩, ⟨fnA "_law_nearest", "_law_nearest", "_law_nearest", s__law_nearest⟩, ⟨fnA "_law_digit", "_law_digit", "_law_digit", s__law_digit⟩, ⟨fnA "law", "law", "law", s_law⟩, ⟨mtA "Capped" "set_rows", "set_rows", "Chooser.set_rows", s_Chooser_set_rows⟩, ⟨mtA "Capped" "set_best", "set_best", "Best.set_best", s_Best_set_best⟩, ⟨mtA "Capped" "__init__", "__init__", "Capped.__init__", s_Cappedu_initu⟩, ⟨mtA "Capped" "walked", "walked", "Chooser.walked", s_Chooser_walked⟩, ⟨mtA "Capped" "run", "run", "Chooser.run", s_Chooser_run⟩, ⟨mtA "Capped" "longer", "longer", "Chooser.longer", s_Chooser_longer⟩, ⟨mtA "Capped" "leaves", "leaves", "Chooser.leaves", s_Chooser_leaves⟩] : List Df), ([] : List (Str × Str)), ([("ZERO", 0, 1), ("ONE", 1, 1)] : List (Str × Int × Int))⟩
def names : List Str := (["_wall", "ChoiceError", "ChancesError", "SidesError", "ThrowsError", "OutcomeError", "TableError", "WordError", "TextError", "ZERO", "ONE", "is_integer", "is_between", "greatest_divisor", "ratio", "is_fraction", "plus", "minus", "times", "over", "added", "power", "common_bottom", "MOST_OUTCOMES", "MOST_BOTTOM", "LEAST_SIDES", "MOST_SIDES", "MOST_THROWS", "MOST_CAPPED", "is_chances"] : List Str) ++ (["check_chances", "check_sides", "check_throws", "floors", "open_at_least", "digits_at", "rests", "course", "nearest_by", "MOST_STATES", "check_many", "is_state", "reached_from", "deciding", "is_table_by", "equations", "put_in", "solved", "DIGITS", "state_text", "chooser_text", "number_in", "state_in", "head_in", "chooser_in", "MOST_LENGTH", "is_word", "counted", "Chooser", "level_states"] : List Str) ++ (["best_table", "Best", "Capped", "_law_cell", "_law_draws", "_law_fraction", "_law_is_same", "_law_shares", "_law_chances", "_law_power", "_law_nearest", "_law_digit"] : List Str)
abbrev RR : PySem.W.OpenRow := PySem.W.OpenLaw.row PySem.Challenge.rw_flipchoice_k48_whole_capped_words_follow
abbrev lw : PySem.W.Frag → Addr := fnA "law"
abbrev hk : PySem.W.Hook := hookT 5 lk lw
def ob (s : PySem.W.SharedT) : He.AlD := obsTG 5 lk lw (HandSHeadRun.getT s)
theorem ob_eq (s : PySem.W.SharedT) : ob s = hk.obs s.abs := obsTG_eq (HandSHeadRun.getT_eq s)
theorem run (w : World) : HandSHeadRun.RunEq RR (PySem.W.view RR.prog [80]) hk ob 9000 names w := by
  intro os
  kernel_rfl
theorem all_of {l : PySem.W.OpenLaw} {w : World} {K : PySem.W.Frag} {h : Heap} {mg : Str → Option Value} {fa cc PP : Addr} (X : K.In h) (G : h.Ns mainGlobals mg) (hfa : mg "law" = some (.ref fa)) (c : SaysK lk K) (hcb : codB K (lw K) cc = true) :
    ∃ fd : FuncData, (∀ (s : Shared) (v : Value), BindsTo s fd ⟨[v], []⟩ [("_law_script", v)]) ∧ ∀ base : Heap, K.In base → base.Ns mainGlobals mg → LamX.TabB base mg cc PP → FnOk l.prog w K mg base (L2.CX l.prog w) 10 fa fd ["_law_script"] (spX K (S_law PP)) := by
  have e := hfa.symm.trans (He.glo_ok X G (c.fact 0))
  cases e
  have B : Bl mg := ⟨He.free_ok X G (c.fact 1), He.free_ok X G (c.fact 2), He.free_ok X G (c.fact 3), He.free_ok X G (c.fact 4), He.free_ok X G (c.fact 5), He.free_ok X G (c.fact 6), He.free_ok X G (c.fact 7), He.free_ok X G (c.fact 8), He.free_ok X G (c.fact 9), He.free_ok X G (c.fact 10), He.free_ok X G (c.fact 11), He.free_ok X G (c.fact 12), He.free_ok X G (c.fact 13), He.free_ok X G (c.fact 14), He.free_ok X G (c.fact 15), He.free_ok X G (c.fact 16), He.free_ok X G (c.fact 17), He.free_ok X G (c.fact 18)⟩
  have C : Cs K mg := ⟨(cint X G (c.fact 19)), (cint X G (c.fact 20)), (cint X G (c.fact 21)), (cint X G (c.fact 22)), ⟨_, He.glo_ok X G (c.fact 23), c.pair 0⟩, ⟨_, He.glo_ok X G (c.fact 24), c.pair 1⟩⟩
  have Kp : ClsA K (He.ga K "Capped") fs4 := ⟨He.cls_ok (c.fact 25), (fun f hf => by simp only [List.mem_cons, List.not_mem_nil, or_false] at hf; rcases hf with rfl | rfl | rfl | rfl <;> first | exact He.noat_ok (c.fact 26) | exact He.noat_ok (c.fact 27) | exact He.noat_ok (c.fact 28) | exact He.noat_ok (c.fact 29))⟩
  have C2 : Cs2 mg := ⟨(cint X G (c.fact 30)), (cint X G (c.fact 31))⟩
  have hMc : ∃ u, mg "MOST_CAPPED" = some u ∧ RelV (.int 6) u := (cint X G (c.fact 32))
  have hMl : ∃ u, mg "MOST_LENGTH" = some u ∧ RelV (.int 6) u := (cint X G (c.fact 33))
  have hng : NoAttr K (He.ga K "Capped") "goal" := He.noat_ok (c.fact 34)
  have hnc : NoAttr K (He.ga K "Capped") "cap" := He.noat_ok (c.fact 35)
  obtain ⟨_, f0⟩ := c.fun 0
  have F_is_integer : FunG K mg "is_integer" s_is_integer := ⟨⟨_, _, f0, He.glo_ok X G (c.fact 36)⟩⟩
  obtain ⟨_, f1⟩ := c.fun 1
  have F_is_between : FunG K mg "is_between" s_is_between := ⟨⟨_, _, f1, He.glo_ok X G (c.fact 37)⟩⟩
  obtain ⟨_, f2⟩ := c.fun 2
  have F_greatest_divisor : FunG K mg "greatest_divisor" s_greatest_divisor := ⟨⟨_, _, f2, He.glo_ok X G (c.fact 38)⟩⟩
  obtain ⟨_, f3⟩ := c.fun 3
  have F_ratio : FunG K mg "ratio" s_ratio := ⟨⟨_, _, f3, He.glo_ok X G (c.fact 39)⟩⟩
  obtain ⟨_, f4⟩ := c.fun 4
  have F_is_fraction : FunG K mg "is_fraction" s_is_fraction := ⟨⟨_, _, f4, He.glo_ok X G (c.fact 40)⟩⟩
  obtain ⟨_, f5⟩ := c.fun 5
  have F_plus : FunG K mg "plus" s_plus := ⟨⟨_, _, f5, He.glo_ok X G (c.fact 41)⟩⟩
  obtain ⟨_, f6⟩ := c.fun 6
  have F_minus : FunG K mg "minus" s_minus := ⟨⟨_, _, f6, He.glo_ok X G (c.fact 42)⟩⟩
  obtain ⟨_, f7⟩ := c.fun 7
  have F_times : FunG K mg "times" s_times := ⟨⟨_, _, f7, He.glo_ok X G (c.fact 43)⟩⟩
  obtain ⟨_, f8⟩ := c.fun 8
  have F_over : FunG K mg "over" s_over := ⟨⟨_, _, f8, He.glo_ok X G (c.fact 44)⟩⟩
  obtain ⟨_, f9⟩ := c.fun 9
  have F_added : FunG K mg "added" s_added := ⟨⟨_, _, f9, He.glo_ok X G (c.fact 45)⟩⟩
  obtain ⟨_, f10⟩ := c.fun 10
  have F_power : FunG K mg "power" s_power := ⟨⟨_, _, f10, He.glo_ok X G (c.fact 46)⟩⟩
  obtain ⟨_, f11⟩ := c.fun 11
  have F_common_bottom : FunG K mg "common_bottom" s_common_bottom := ⟨⟨_, _, f11, He.glo_ok X G (c.fact 47)⟩⟩
  obtain ⟨_, f12⟩ := c.fun 12
  have F_is_chances : FunG K mg "is_chances" s_is_chances := ⟨⟨_, _, f12, He.glo_ok X G (c.fact 48)⟩⟩
  obtain ⟨_, f13⟩ := c.fun 13
  have F_check_chances : FunG K mg "check_chances" s_check_chances := ⟨⟨_, _, f13, He.glo_ok X G (c.fact 49)⟩⟩
  obtain ⟨_, f14⟩ := c.fun 14
  have F_check_sides : FunG K mg "check_sides" s_check_sides := ⟨⟨_, _, f14, He.glo_ok X G (c.fact 50)⟩⟩
  obtain ⟨_, f15⟩ := c.fun 15
  have F_check_throws : FunG K mg "check_throws" s_check_throws := ⟨⟨_, _, f15, He.glo_ok X G (c.fact 51)⟩⟩
  obtain ⟨_, f16⟩ := c.fun 16
  have F_floors : FunG K mg "floors" s_floors := ⟨⟨_, _, f16, He.glo_ok X G (c.fact 52)⟩⟩
  obtain ⟨_, f17⟩ := c.fun 17
  have F_open_at_least : FunG K mg "open_at_least" s_open_at_least := ⟨⟨_, _, f17, He.glo_ok X G (c.fact 53)⟩⟩
  obtain ⟨_, f18⟩ := c.fun 18
  have F_digits_at : FunG K mg "digits_at" s_digits_at := ⟨⟨_, _, f18, He.glo_ok X G (c.fact 54)⟩⟩
  obtain ⟨_, f19⟩ := c.fun 19
  have F_rests : FunG K mg "rests" s_rests := ⟨⟨_, _, f19, He.glo_ok X G (c.fact 55)⟩⟩
  obtain ⟨_, f20⟩ := c.fun 20
  have F_course : FunG K mg "course" s_course := ⟨⟨_, _, f20, He.glo_ok X G (c.fact 56)⟩⟩
  obtain ⟨_, f21⟩ := c.fun 21
  have F_nearest_by : FunG K mg "nearest_by" s_nearest_by := ⟨⟨_, _, f21, He.glo_ok X G (c.fact 57)⟩⟩
  obtain ⟨_, f22⟩ := c.fun 22
  have F_equations : FunG K mg "equations" s_equations := ⟨⟨_, _, f22, He.glo_ok X G (c.fact 58)⟩⟩
  obtain ⟨_, f23⟩ := c.fun 23
  have F_put_in : FunG K mg "put_in" s_put_in := ⟨⟨_, _, f23, He.glo_ok X G (c.fact 59)⟩⟩
  obtain ⟨_, f24⟩ := c.fun 24
  have F_solved : FunG K mg "solved" s_solved := ⟨⟨_, _, f24, He.glo_ok X G (c.fact 60)⟩⟩
  obtain ⟨_, f25⟩ := c.fun 25
  have F_level_states : FunG K mg "level_states" s_level_states := ⟨⟨_, _, f25, He.glo_ok X G (c.fact 61)⟩⟩
  obtain ⟨_, f26⟩ := c.fun 26
  have F_best_table : FunG K mg "best_table" s_best_table := ⟨⟨_, _, f26, He.glo_ok X G (c.fact 62)⟩⟩
  obtain ⟨_, f27⟩ := c.fun 27
  have F_is_word : FunG K mg "is_word" s_is_word := ⟨⟨_, _, f27, He.glo_ok X G (c.fact 63)⟩⟩
  obtain ⟨_, f28⟩ := c.fun 28
  have F__law_cell : FunG K mg "_law_cell" s__law_cell := ⟨⟨_, _, f28, He.glo_ok X G (c.fact 64)⟩⟩
  obtain ⟨_, f29⟩ := c.fun 29
  have F__law_draws : FunG K mg "_law_draws" s__law_draws := ⟨⟨_, _, f29, He.glo_ok X G (c.fact 65)⟩⟩
  obtain ⟨_, f30⟩ := c.fun 30
  have F__law_fraction : FunG K mg "_law_fraction" s__law_fraction := ⟨⟨_, _, f30, He.glo_ok X G (c.fact 66)⟩⟩
  obtain ⟨_, f31⟩ := c.fun 31
  have F__law_is_same : FunG K mg "_law_is_same" s__law_is_same := ⟨⟨_, _, f31, He.glo_ok X G (c.fact 67)⟩⟩
  obtain ⟨_, f32⟩ := c.fun 32
  have F__law_shares : FunG K mg "_law_shares" s__law_shares := ⟨⟨_, _, f32, He.glo_ok X G (c.fact 68)⟩⟩
  obtain ⟨_, f33⟩ := c.fun 33
  have F__law_chances : FunG K mg "_law_chances" s__law_chances := ⟨⟨_, _, f33, He.glo_ok X G (c.fact 69)⟩⟩
  obtain ⟨_, f34⟩ := c.fun 34
  have F__law_power : FunG K mg "_law_power" s__law_power := ⟨⟨_, _, f34, He.glo_ok X G (c.fact 70)⟩⟩
  obtain ⟨_, f35⟩ := c.fun 35
  have F__law_nearest : FunG K mg "_law_nearest" s__law_nearest := ⟨⟨_, _, f35, He.glo_ok X G (c.fact 71)⟩⟩
  obtain ⟨_, f36⟩ := c.fun 36
  have F__law_digit : FunG K mg "_law_digit" s__law_digit := ⟨⟨_, _, f36, He.glo_ok X G (c.fact 72)⟩⟩
  obtain ⟨_, f38⟩ := c.fun 38
  have F_Chooser_set_rows : MethG K (He.ga K "Capped") "set_rows" "Chooser.set_rows" s_Chooser_set_rows := ⟨⟨_, _, f38, He.meth_ok (c.fact 73)⟩⟩
  obtain ⟨_, f39⟩ := c.fun 39
  have F_Best_set_best : MethG K (He.ga K "Capped") "set_best" "Best.set_best" s_Best_set_best := ⟨⟨_, _, f39, He.meth_ok (c.fact 74)⟩⟩
  obtain ⟨_, f40⟩ := c.fun 40
  have F_Capped___init__ : MakeG K mg "Capped" (He.ga K "Capped") "Capped.__init__" s_Cappedu_initu := ⟨⟨_, _, f40, He.mkr_ok (c.fact 75), He.glo_ok X G (c.fact 76)⟩⟩
  obtain ⟨_, f41⟩ := c.fun 41
  have F_Chooser_walked : MethG K (He.ga K "Capped") "walked" "Chooser.walked" s_Chooser_walked := ⟨⟨_, _, f41, He.meth_ok (c.fact 77)⟩⟩
  obtain ⟨_, f42⟩ := c.fun 42
  have F_Chooser_run : MethG K (He.ga K "Capped") "run" "Chooser.run" s_Chooser_run := ⟨⟨_, _, f42, He.meth_ok (c.fact 78)⟩⟩
  obtain ⟨_, f43⟩ := c.fun 43
  have F_Chooser_longer : MethG K (He.ga K "Capped") "longer" "Chooser.longer" s_Chooser_longer := ⟨⟨_, _, f43, He.meth_ok (c.fact 79)⟩⟩
  obtain ⟨_, f44⟩ := c.fun 44
  have F_Chooser_leaves : MethG K (He.ga K "Capped") "leaves" "Chooser.leaves" s_Chooser_leaves := ⟨⟨_, _, f44, He.meth_ok (c.fact 80)⟩⟩
  obtain ⟨fdL, FL⟩ := c.fun 37
  refine ⟨fdL, fun s v => ?_, fun base _ _ TB => ?_⟩
  · obtain ⟨oc, od, kV, doc, pm, an, cdv, ct, osl, rfl, _⟩ := FL.ex
    exact .of_eq rfl
  have hI := ok_is_integer (P := l.prog) (w := w) (base := base) B F_is_integer
  have hB := ok_is_between (P := l.prog) (w := w) (base := base) B F_is_between hI
  have hG := ok_greatest_divisor (P := l.prog) (w := w) (base := base) B F_greatest_divisor
  have hR := ok_ratio B F_ratio hG
  have hP := ok_plus B F_plus hR
  have hM := ok_minus B F_minus hR
  have hT := ok_times B F_times hR
  have hV := ok_over B F_over hR
  have hPw := ok_power (P := l.prog) (w := w) (base := base) B F_power
  have hIf := ok_is_fraction B F_is_fraction hI hG
  have hAd := ok_added B F_added C hP
  have hCb := ok_common_bottom B F_common_bottom hG
  have hIc := ok_is_chances B F_is_chances C C2 hIf hAd hCb
  have hKc := ok_check_chances B F_check_chances hIc
  have hCs := ok_check_sides B F_check_sides C hB
  have hKt := ok_check_throws B F_check_throws hB
  have hFl := ok_floors B F_floors hPw
  have hOp := ok_open_at_least B F_open_at_least hPw hFl
  have hDg := ok_digits_at B F_digits_at hFl
  have hRs := ok_rests B F_rests hPw hCb
  have hCo := ok_course B F_course hRs
  have hNr := ok_nearest_by B F_nearest_by hPw hFl hCb hR
  have hE := ok_equations B F_equations C hP hR
  have hPI := ok_put_in B F_put_in C hP hT
  have hSo := ok_solved B F_solved C hP hM hT hV hE hPI
  have hLv := ok_level_states B F_level_states hOp hDg
  have hBt := ok_best_table B F_best_table C hR hCo hOp hLv
  have hSr := ok_Chooser_set_rows B F_Chooser_set_rows Kp hSo
  have hSb := ok_Best_set_best B F_Best_set_best Kp hBt hSr
  have hPi := ok_Cappedu_initu B F_Capped___init__ Kp hng hnc hMc hKc hCs hKt hNr hSb
  have hIw := ok_is_word B F_is_word hB
  have hWa := ok_Chooser_walked (P := l.prog) (w := w) (base := base) B F_Chooser_walked Kp
  have hRu := ok_Chooser_run B F_Chooser_run Kp hIw hWa
  have hLo := ok_Chooser_longer (P := l.prog) (w := w) (base := base) B F_Chooser_longer Kp
  have hLe := ok_Chooser_leaves B F_Chooser_leaves Kp hMl hKt hLo
  have hLc := ok__law_cell (P := l.prog) (w := w) (base := base) B F__law_cell
  have hDr := ok__law_draws (P := l.prog) (w := w) (base := base) B F__law_draws
  have hN0 := pf_none (P := l.prog) (w := w) (base := base) F__law_is_same sc__law_is_same (fun _ _ _ _ _ _ us hl => match us, hl with | [_, _], _ => rfl)
  have hS0 := ok_same0 B F__law_is_same 0 rfl hN0
  have hSm1 := ok_sameS B F__law_is_same 0 hS0
  have hSm2 := ok_sameS B F__law_is_same 1 hSm1
  have hSm := ok_sameS B F__law_is_same 2 hSm2
  have hFr := ok__law_fraction (P := l.prog) (w := w) (base := base) B F__law_fraction
  have hSh := ok__law_shares B F__law_shares hDr
  have hLch := ok__law_chances B F__law_chances hFr
  have hLp := ok__law_power (P := l.prog) (w := w) (base := base) B F__law_power
  have hLn := ok__law_nearest B F__law_nearest hLp
  have hDg := ok__law_digit B F__law_digit hLp
  exact ok_law B FL (codB_ok FL hcb) TB Kp hLc hSm hSh hLch hLp hLn hDg hPi hRu hLe
end Fc
open PySem PySem.W PySem.Calls PyProof.Rows in
set_option maxRecDepth 100000 in
set_option maxHeartbeats 0 in
theorem PySem.Challenge.cw_flipchoice_k48_whole_capped_words_follow_holds : PySem.Challenge.rw_flipchoice_k48_whole_capped_words_follow.Holds := by
  w_on; o_law
  refine HandSHeadRun.head_any (r := OpenLaw.row PySem.Challenge.rw_flipchoice_k48_whole_capped_words_follow) (q := view (OpenLaw.row PySem.Challenge.rw_flipchoice_k48_whole_capped_words_follow).prog [80]) (H := Fc.hk) (ob := Fc.ob) (M := 9000) (loose := Fc.names) (d := HandSHeadRun.topDef (OpenLaw.row PySem.Challenge.rw_flipchoice_k48_whole_capped_words_follow).prog 80) (kwd := []) Fc.ob_eq
    (by kernel_rfl) (fun s => by kernel_rfl) Fc.run (by kernel_rfl) (by kernel_rfl) (by kernel_rfl) (by rfl) (by first | assumption | decide +kernel) (by decide +kernel) ⟨rfl, rfl, rfl, rfl, rfl, by decide +kernel⟩ ?hw ?hc
  case hw => w_witness2
  case hc =>
    refine LamX.walk_ofTsE (l := PySem.Challenge.rw_flipchoice_k48_whole_capped_words_follow) (n := 63) (k := 10) (x := "_law_script") (CX := fun w => L2.CX PySem.Challenge.rw_flipchoice_k48_whole_capped_words_follow.prog w) rfl (by decide) (by kernel_rfl) ⟨rfl, by decide, by decide⟩ ?F (fun _ _ _ _ _ z => by obtain ⟨_, _, _, _, _, _, _, _, _, _, _, _, z⟩ := z; exact z)
    intro w mg fa h Y G hmg0
    obtain ⟨K, cc, PP, KX, c, nP, hP, hC, hcb⟩ := Y
    have hmg : mg ("law" : PySem.Str) = some (.ref fa) := by
      have e : (HandSHeadRun.topDef (OpenLaw.row PySem.Challenge.rw_flipchoice_k48_whole_capped_words_follow).prog 80).name = ("law" : PySem.Str) := by kernel_rfl
      rw [← e]
      exact hmg0
    obtain ⟨fd, hb, hF⟩ := Fc.all_of (l := PySem.Challenge.rw_flipchoice_k48_whole_capped_words_follow) (w := w) (PP := PP) KX G hmg c hcb
    refine ⟨K, KX, fd, [(cc, PP)], Fc.spX K (Fc.S_law PP), fun p hp => ?_, fun p hp => ?_, fun p hp => ?_, hb, fun H a ns hl _ hT hS => Fc.law_sp hl nP (hT (cc, PP) List.mem_cons_self) hS, fun base kb gb tb => hF base kb gb (tb (cc, PP) List.mem_cons_self)⟩
    · rw [List.mem_singleton.mp hp]; exact hP
    · rw [List.mem_singleton.mp hp]; exact nP
    · rw [List.mem_singleton.mp hp]; exact hC
