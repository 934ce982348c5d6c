import PyProof.Rows.All
import Wide.All
import OpenK.AllK
import Wide.FinOn
import HandS.ForMost
import HandS.Evl
import HandS.TupAny
import HandS.TupMul
import HandS.Wide
import HandS.IsInst
import HandS.ExcOwn
import HandS.Zip
import HandS.SetKeys
import HandS.ExcInit
import KE.KExcMake
import KE.KExcIs
import KE.KExcMore
import HandS.MakeKwOnly
import HandS.MakeKw
import HandS.Words
import HandS.Head0
import HandS.Head1
import HandS.Head2
import HandS.HeadEnd
import HandS.HeadHook1
import HandS.HeadHook2
import HandS.HeadHook3
import HandS.HeadHook4
import PySem.Challenge.RW_patternwright_k99_errors_by_hand
set_option Elab.async false
set_option linter.all false
set_option maxRecDepth 100000
set_option maxHeartbeats 4000000
/-! Q1: values told deep (D), what an expression comes to over them (Ev), over the layer HandS -/
namespace Q
open PySem PySem.Spec PyProof.Rows L2

open Evl (Ex fresh_back)
/-- the slots -/
abbrev St := L2.St

inductive D where
  | non | bl (b : Bool) | int (i : Int) | str (x : Str) | ref (a : Addr) | ty (n : String)
  | tup (ds : List D) | lst (ds : List D)
  /-- a list that was there before: read, never written -/
  | fl (ds : List D)
  | exc (C : Addr) (f m : Str) (d : D)

/-- an exception of an own class as a value: its class, its dict, its args -/
def exv (a C dx t : Addr) : HO := .ext fun h => h.get? a = some ({ cls := .ref C, dict := some dx, data := .fields #[.ref t, .none, .none, .none, .bool false, .none] } : Obj)

mutual
inductive At (K : PySem.W.Frag) (H : Hp) : V → D → Prop
  | non : At K H .non .non
  | bl (b : Bool) : At K H (.bl b) (.bl b)
  | int (i : Int) : At K H (.int i) (.int i)
  | str (x : Str) : At K H (.str x) (.str x)
  | ref (a : Addr) : At K H (.ref a) (.ref a)
  | ty (n : String) : At K H (.ty n) (.ty n)
  | tup {a : Addr} {xs : List V} {ds : List D} : SqT K H a xs → AtL K H xs ds → At K H (.ref a) (.tup ds)
  | lst {a : Addr} {xs : List V} {ds : List D} : Rd H a (.lst xs) → AtL K H xs ds → At K H (.ref a) (.lst ds)
  | fl {a : Addr} {xs : List V} {ds : List D} : SqL K H a xs → AtL K H xs ds → At K H (.ref a) (.fl ds)
  | exc {a C dx t : Addr} {f m : Str} {v : V} {d : D} : H a = some (exv a C dx t) → H t = some (.tup [.str m]) → H dx = some (.xd [(f, v)]) → At K H v d → At K H (.ref a) (.exc C f m d)
inductive AtL (K : PySem.W.Frag) (H : Hp) : List V → List D → Prop
  | nil : AtL K H [] []
  | cons {v : V} {vs : List V} {d : D} {ds : List D} : At K H v d → AtL K H vs ds → AtL K H (v :: vs) (d :: ds)
end
section
variable {K : PySem.W.Frag} {H H' : Hp}
mutual
theorem At.mono (e : Ex H H') : ∀ {v : V} {d : D}, At K H v d → At K H' v d
  | _, _, .non => .non
  | _, _, .bl b => .bl b
  | _, _, .int i => .int i
  | _, _, .str x => .str x
  | _, _, .ref a => .ref a
  | _, _, .ty n => .ty n
  | _, _, .tup h t => .tup (Evl.ex_t e h) (AtL.mono e t)
  | _, _, .lst h t => .lst (Evl.ex_rd e h) (AtL.mono e t)
  | _, _, .fl h t => .fl (Evl.ex_l e h) (AtL.mono e t)
  | _, _, .exc h1 h2 h3 h4 => .exc (e _ _ h1) (e _ _ h2) (e _ _ h3) (At.mono e h4)
theorem AtL.mono (e : Ex H H') : ∀ {vs : List V} {ds : List D}, AtL K H vs ds → AtL K H' vs ds
  | _, _, .nil => .nil
  | _, _, .cons h t => .cons (At.mono e h) (AtL.mono e t)
end
theorem AtL.length : ∀ {vs : List V} {ds : List D}, AtL K H vs ds → vs.length = ds.length
  | _, _, .nil => rfl
  | _, _, .cons _ t => by rw [List.length_cons, List.length_cons, AtL.length t]
theorem AtL.get : ∀ {vs : List V} {ds : List D} {i : Nat} {d : D}, AtL K H vs ds → ds[i]? = some d → ∃ v, vs[i]? = some v ∧ At K H v d
  | _, _, _, _, .nil, e => by simp at e
  | _, _, 0, _, .cons h _, e => by simp at e; subst e; exact ⟨_, rfl, h⟩
  | _, _, i + 1, d, .cons _ t, e => by
    obtain ⟨v, h1, h2⟩ := AtL.get (i := i) (d := d) t (by simpa using e)
    exact ⟨v, by simpa using h1, h2⟩
theorem AtL.getV : ∀ {vs : List V} {ds : List D} {i : Nat} {v : V}, AtL K H vs ds → vs[i]? = some v → ∃ d, ds[i]? = some d ∧ At K H v d
  | _, _, _, _, .nil, e => by simp at e
  | _, _, 0, _, .cons h _, e => by simp at e; subst e; exact ⟨_, rfl, h⟩
  | _, _, i + 1, v, .cons _ t, e => by
    obtain ⟨v, h1, h2⟩ := AtL.getV (i := i) (v := v) t (by simpa using e)
    exact ⟨v, by simpa using h1, h2⟩
theorem AtL.append : ∀ {vs ws : List V} {ds es : List D}, AtL K H vs ds → AtL K H ws es → AtL K H (vs ++ ws) (ds ++ es)
  | _, _, _, _, .nil, s => s
  | _, _, _, _, .cons h t, s => .cons h (AtL.append t s)
theorem AtL.take : ∀ {vs : List V} {ds : List D} (n : Nat), AtL K H vs ds → AtL K H (vs.take n) (ds.take n)
  | _, _, 0, _ => .nil
  | _, _, _ + 1, .nil => .nil
  | _, _, n + 1, .cons h t => .cons h (AtL.take n t)
theorem AtL.drop : ∀ {vs : List V} {ds : List D} (n : Nat), AtL K H vs ds → AtL K H (vs.drop n) (ds.drop n)
  | _, _, 0, h => h
  | _, _, _ + 1, .nil => .nil
  | _, _, n + 1, .cons _ t => AtL.drop n t
theorem AtL.set : ∀ {vs : List V} {ds : List D} {v : V} {d : D} (i : Nat), At K H v d → AtL K H vs ds → AtL K H (vs.set i v) (ds.set i d)
  | _, _, _, _, _, _, .nil => .nil
  | _, _, _, _, 0, r, .cons _ t => .cons r t
  | _, _, _, _, i + 1, r, .cons q t => .cons q (AtL.set i r t)
/-- what stands for a list of ints, texts, bools -/
theorem AtL.ints : ∀ {vs : List V} {ns : List Int}, AtL K H vs (ns.map D.int) → vs = ns.map V.int
  | _, [], .nil => rfl
  | _, n :: ns, .cons h t => by cases h; rw [AtL.ints t]; rfl
theorem AtL.strs : ∀ {vs : List V} {ns : List Str}, AtL K H vs (ns.map D.str) → vs = ns.map V.str
  | _, [], .nil => rfl
  | _, n :: ns, .cons h t => by cases h; rw [AtL.strs t]; rfl
theorem AtL.bls : ∀ {vs : List V} {ns : List Bool}, AtL K H vs (ns.map D.bl) → vs = ns.map V.bl
  | _, [], .nil => rfl
  | _, n :: ns, .cons h t => by cases h; rw [AtL.bls t]; rfl
end

/-! ### own objects: lists and dicts that may still be written, by address -/
inductive O where
  | lst (ds : List D) | dK (kvs : List (Key × D)) | dT (kvs : List (List Key × D))
abbrev Own := List (Addr × O)
abbrev adr (o : Own) : List Addr := o.map (·.1)
/-- what the slots hold; none: nothing is known -/
abbrev G := List (Option D)

section
variable (K : PySem.W.Frag)
def OAt (Hb H : Hp) (p : Addr) : O → Prop
  | .lst ds => ∃ xs, H p = some (.lst xs) ∧ AtL K Hb xs ds
  | .dK kvs => ∃ ys, H p = some (.dK ys) ∧ Paired (fun (q : Key × V) (r : Key × D) => q.1 = r.1 ∧ At K Hb q.2 r.2) ys kvs
  | .dT kvs => ∃ ys, H p = some (.dT ys) ∧ Paired (fun (q : List Key × V) (r : List Key × D) => q.1 = r.1 ∧ At K Hb q.2 r.2) ys kvs
structure Rep (Hb : Hp) (o : Own) (H : Hp) : Prop where
  ex : Ex Hb H
  own : ∀ q ∈ o, Hb q.1 = none ∧ OAt K Hb H q.1 q.2
  nd : (adr o).Nodup
def SlE (Hb : Hp) : Option V → Option D → Prop
  | some v, some d => At K Hb v d
  | none, some _ => False
  | _, none => True
def Sl (Hb : Hp) (σ : St) (Γ : G) : Prop := Paired (SlE K Hb) σ Γ
end
/-- from (Hb, H) to (Hb', H'), the own o becoming o' -/
structure Stp (o : Own) (Hb H : Hp) (o' : Own) (Hb' H' : Hp) : Prop where
  ex : Ex Hb Hb'
  keep : ∀ p u, H p = some u → p ∉ adr o → H' p = some u
  free : ∀ p, H p ≠ none → p ∉ adr o → Hb p = none → Hb' p = none
  sub : ∀ p ∈ adr o', p ∈ adr o ∨ H p = none
  there : ∀ p, H p ≠ none → H' p ≠ none
theorem Stp.refl {o : Own} {Hb H : Hp} : Stp o Hb H o Hb H := ⟨Ex.refl Hb, fun _ _ h _ => h, fun _ _ _ h => h, fun _ h => .inl h, fun _ h => h⟩
theorem Stp.trans {o o1 o2 : Own} {Hb H Hb1 H1 Hb2 H2 : Hp} (a : Stp o Hb H o1 Hb1 H1) (b : Stp o1 Hb1 H1 o2 Hb2 H2) : Stp o Hb H o2 Hb2 H2 := by
  have n1 : ∀ p, H p ≠ none → p ∉ adr o → p ∉ adr o1 := fun p h1 h2 h3 => (a.sub p h3).elim h2 h1
  refine ⟨a.ex.trans b.ex, fun p u h n => b.keep p u (a.keep p u h n) (n1 p (by rw [h]; simp) n), fun p h n z => b.free p (a.there p h) (n1 p h n) (a.free p h n z), fun p h => ?_, fun p h => b.there p (a.there p h)⟩
  rcases b.sub p h with h | h
  · exact a.sub p h
  · refine .inr ?_
    cases e : H p with
    | none => rfl
    | some u => exact absurd h (a.there p (by rw [e]; simp))
section
variable {K : PySem.W.Frag} {Hb Hb' H H' : Hp} {σ : St} {Γ : G} {o : Own}
theorem Paired.imp {α β : Type} {F F' : α → β → Prop} : ∀ {xs : List α} {ys : List β}, Paired F xs ys → (∀ a b, F a b → F' a b) → Paired F' xs ys
  | _, _, .nil, _ => .nil
  | _, _, .cons h t, f => .cons (f _ _ h) (Paired.imp t f)
theorem OAt.monoB (e : Ex Hb Hb') {p : Addr} : ∀ {u : O}, OAt K Hb H p u → OAt K Hb' H p u
  | .lst ds, ⟨xs, h, t⟩ => ⟨xs, h, t.mono e⟩
  | .dK kvs, ⟨ys, h, t⟩ => ⟨ys, h, Paired.imp t fun _ _ q => ⟨q.1, q.2.mono e⟩⟩
  | .dT kvs, ⟨ys, h, t⟩ => ⟨ys, h, Paired.imp t fun _ _ q => ⟨q.1, q.2.mono e⟩⟩
theorem OAt.monoH {p : Addr} (e : ∀ u, H p = some u → H' p = some u) : ∀ {u : O}, OAt K Hb H p u → OAt K Hb H' p u
  | .lst ds, ⟨xs, h, t⟩ => ⟨xs, e _ h, t⟩
  | .dK kvs, ⟨ys, h, t⟩ => ⟨ys, e _ h, t⟩
  | .dT kvs, ⟨ys, h, t⟩ => ⟨ys, e _ h, t⟩
theorem OAt.there {p : Addr} : ∀ {u : O}, OAt K Hb H p u → H p ≠ none
  | .lst ds, ⟨xs, h, t⟩ => by rw [h]; simp
  | .dK kvs, ⟨ys, h, t⟩ => by rw [h]; simp
  | .dT kvs, ⟨ys, h, t⟩ => by rw [h]; simp
theorem SlE.mono (e : Ex Hb Hb') : ∀ {v : Option V} {d : Option D}, SlE K Hb v d → SlE K Hb' v d
  | some _, some _, h => At.mono e h
  | none, none, _ => trivial
  | some _, none, _ => trivial
theorem Sl.mono (h : Sl K Hb σ Γ) (e : Ex Hb Hb') : Sl K Hb' σ Γ := Paired.imp h fun _ _ q => q.mono e
theorem Sl.get : ∀ {σ : St} {Γ : G} {i : Nat} {d : D}, Sl K Hb σ Γ → Γ[i]? = some (some d) → ∃ v, σ[i]? = some (some v) ∧ At K Hb v d
  | _, _, _, _, .nil, e => by simp at e
  | _, _, 0, d, .cons (a := a) h _, e => by
    simp at e
    subst e
    cases a with
    | none => exact h.elim
    | some v => exact ⟨v, rfl, h⟩
  | _, _, i + 1, d, .cons _ t, e => by
    obtain ⟨v, h1, h2⟩ := Sl.get (i := i) (d := d) t (by simpa using e)
    exact ⟨v, by simpa using h1, h2⟩
theorem Sl.set {v : V} {d : D} (r : At K Hb v d) : ∀ {σ : St} {Γ : G} (i : Nat), Sl K Hb σ Γ → Sl K Hb (σ.set i (some v)) (Γ.set i (some d))
  | _, _, _, .nil => .nil
  | _, _, 0, .cons _ t => .cons r t
  | _, _, i + 1, .cons q t => .cons q (Sl.set r i t)
theorem Sl.length (h : Sl K Hb σ Γ) : σ.length = Γ.length := PySem.Paired.length h
/-- knowing less -/
def Le : G → G → Prop
  | [], [] => True
  | a :: r, b :: s => (b = none ∨ a = b) ∧ Le r s
  | _, _ => False
theorem Le.refl : ∀ Γ : G, Le Γ Γ
  | [] => trivial
  | _ :: r => ⟨.inr rfl, Le.refl r⟩
theorem Sl.less : ∀ {σ : St} {Γ Γ' : G}, Le Γ Γ' → Sl K Hb σ Γ → Sl K Hb σ Γ'
  | _, [], [], _, .nil => .nil
  | _, a :: r, b :: s, ⟨h1, h2⟩, .cons q t => by
    refine .cons ?_ (Sl.less h2 t)
    rcases h1 with h | h
    · subst h
      cases ‹Option V› <;> trivial
    · subst h
      exact q
/-- a new thing in the base -/
theorem Rep.new {p : Addr} {u : HO} (R : Rep K Hb o H) (n : H p = none) : Rep K (upd Hb p u) o (upd H p u) := by
  have nb : Hb p = none := fresh_back R.ex n
  refine ⟨fun a v e => ?_, fun q hq => ?_, R.nd⟩
  · by_cases h : a = p
    · subst h
      rw [upd_same] at e
      rw [upd_same, e]
    · rw [upd_ne h] at e
      rw [upd_ne h]
      exact R.ex a v e
  · obtain ⟨h1, h2⟩ := R.own q hq
    have ne : q.1 ≠ p := fun e => h2.there (by rw [e]; exact n)
    refine ⟨by rw [upd_ne ne]; exact h1, OAt.monoH (fun v e => by rw [upd_ne ne]; exact e) (OAt.monoB (Ex.new nb) h2)⟩
theorem Stp.new {p : Addr} {u : HO} (R : Rep K Hb o H) (n : H p = none) : Stp o Hb H o (upd Hb p u) (upd H p u) := by
  have nb : Hb p = none := fresh_back R.ex n
  refine ⟨Ex.new nb, fun a v h _ => ?_, fun a h _ z => ?_, fun a h => .inl h, fun a h => ?_⟩
  · rw [upd_ne (ne_of_none h n)]
    exact h
  · have ne : a ≠ p := fun e => h (by rw [e]; exact n)
    rw [upd_ne ne]
    exact z
  · have ne : a ≠ p := fun e => h (by rw [e]; exact n)
    rw [upd_ne ne]
    exact h
/-- a new thing of one's own -/
theorem Rep.newO {p : Addr} {u : HO} {w : O} (R : Rep K Hb o H) (n : H p = none) (h : OAt K Hb (upd H p u) p w) : Rep K Hb ((p, w) :: o) (upd H p u) := by
  have nb : Hb p = none := fresh_back R.ex n
  have nq : ∀ q ∈ o, q.1 ≠ p := fun q hq e => (R.own q hq).2.there (by rw [e]; exact n)
  refine ⟨R.ex.trans (Ex.new n), fun q hq => ?_, ?_⟩
  · rcases List.mem_cons.mp hq with e | hq
    · subst e
      exact ⟨nb, h⟩
    · obtain ⟨h1, h2⟩ := R.own q hq
      exact ⟨h1, OAt.monoH (fun v e => by rw [upd_ne (nq q hq)]; exact e) h2⟩
  · refine List.nodup_cons.mpr ⟨fun hm => ?_, R.nd⟩
    obtain ⟨q, hq, e⟩ := List.mem_map.mp hm
    exact nq q hq e
theorem Stp.newO {p : Addr} {u : HO} {w : O} (n : H p = none) : Stp o Hb H ((p, w) :: o) Hb (upd H p u) := by
  refine ⟨Ex.refl Hb, fun a v h _ => ?_, fun a h _ z => z, fun a h => ?_, fun a h => ?_⟩
  · rw [upd_ne (ne_of_none h n)]
    exact h
  · rcases List.mem_cons.mp h with e | h
    · exact .inr (by rw [e]; exact n)
    · exact .inl h
  · have ne : a ≠ p := fun e => h (by rw [e]; exact n)
    rw [upd_ne ne]
    exact h
/-- the own at p is written -/
def put (p : Addr) (u : O) : Own → Own
  | [] => []
  | q :: r => if q.1 = p then (p, u) :: r else q :: put p u r
theorem adr_put (p : Addr) (u : O) : ∀ o : Own, adr (put p u o) = adr o
  | [] => rfl
  | q :: r => by
    unfold put
    by_cases h : q.1 = p
    · rw [if_pos h]
      show p :: adr r = q.1 :: adr r
      rw [h]
    · rw [if_neg h]
      show q.1 :: adr (put p u r) = q.1 :: adr r
      rw [adr_put p u r]
theorem mem_put {p : Addr} {u : O} {q : Addr × O} : ∀ {o : Own}, (adr o).Nodup → q ∈ put p u o → (q.1 ≠ p ∧ q ∈ o) ∨ q = (p, u)
  | [], _, h => by simp [put] at h
  | a :: r, nd, h => by
    unfold put at h
    obtain ⟨n1, n2⟩ := List.nodup_cons.mp nd
    by_cases e : a.1 = p
    · rw [if_pos e] at h
      rcases List.mem_cons.mp h with h | h
      · exact .inr h
      · refine .inl ⟨fun z => n1 ?_, List.mem_cons_of_mem _ h⟩
        have e2 : a.1 = q.1 := e.trans z.symm
        exact List.mem_map.mpr ⟨q, h, e2.symm⟩
    · rw [if_neg e] at h
      rcases List.mem_cons.mp h with h | h
      · subst h
        exact .inl ⟨e, List.mem_cons_self⟩
      · rcases mem_put n2 h with ⟨z, h⟩ | h
        · exact .inl ⟨z, List.mem_cons_of_mem _ h⟩
        · exact .inr h
theorem Rep.put {p : Addr} {u : HO} {w : O} (R : Rep K Hb o H) (hp : p ∈ adr o) (h : OAt K Hb (upd H p u) p w) : Rep K Hb (put p w o) (upd H p u) := by
  obtain ⟨q0, hq0, e0⟩ := List.mem_map.mp hp
  have nb : Hb p = none := by
    have := (R.own q0 hq0).1
    rw [e0] at this
    exact this
  refine ⟨R.ex.mut nb, fun q hq => ?_, by rw [adr_put]; exact R.nd⟩
  rcases mem_put R.nd hq with ⟨z, hq⟩ | e
  · obtain ⟨h1, h2⟩ := R.own q hq
    exact ⟨h1, OAt.monoH (fun v e => by rw [upd_ne z]; exact e) h2⟩
  · subst e
    exact ⟨nb, h⟩
theorem Stp.put {p : Addr} {u : HO} {w : O} (R : Rep K Hb o H) (hp : p ∈ adr o) : Stp o Hb H (put p w o) Hb (upd H p u) := by
  refine ⟨Ex.refl Hb, fun a v h n => ?_, fun a h _ z => z, fun a h => .inl (by rw [adr_put] at h; exact h), fun a h => ?_⟩
  · have ne : a ≠ p := fun e => n (by rw [e]; exact hp)
    rw [upd_ne ne]
    exact h
  · by_cases e : a = p
    · rw [e, upd_same]
      simp
    · rw [upd_ne e]
      exact h
/-- fewer are one's own -/
theorem Rep.drop {o' : Own} (R : Rep K Hb o H) (s : List.Sublist o' o) : Rep K Hb o' H := ⟨R.ex, fun q hq => R.own q (s.subset hq), R.nd.sublist (s.map _)⟩
theorem Stp.drop {o1 o' : Own} (S : Stp o Hb H o1 Hb' H') (s : List.Sublist o' o1) : Stp o Hb H o' Hb' H' := ⟨S.ex, S.keep, S.free, fun p h => S.sub p ((s.map _).subset h), S.there⟩
/-- an own list becomes a value -/
theorem Rep.freeze {p : Addr} {ds : List D} {xs : List V} {o' : Own} (R : Rep K Hb o H) (hx : H p = some (.lst xs)) (hp : (p, O.lst ds) ∈ o) (s : List.Sublist o' o) (hn : p ∉ adr o') : Rep K (upd Hb p (.lst xs)) o' H := by
  obtain ⟨nb, _⟩ := R.own _ hp
  have nb : Hb p = none := nb
  refine ⟨fun a v e => ?_, fun q hq => ?_, R.nd.sublist (s.map _)⟩
  · by_cases h : a = p
    · subst h
      rw [upd_same] at e
      rw [hx, e]
    · rw [upd_ne h] at e
      exact R.ex a v e
  · obtain ⟨h1, h2⟩ := R.own q (s.subset hq)
    have ne : q.1 ≠ p := fun e => hn (by rw [← e]; exact List.mem_map_of_mem hq)
    exact ⟨by rw [upd_ne ne]; exact h1, OAt.monoB (Ex.new nb) h2⟩
theorem Stp.freeze {p : Addr} {ds : List D} {xs : List V} {o' : Own} (R : Rep K Hb o H) (hp : (p, O.lst ds) ∈ o) (s : List.Sublist o' o) : Stp o Hb H o' (upd Hb p (.lst xs)) H := by
  obtain ⟨nb, _⟩ := R.own _ hp
  have nb : Hb p = none := nb
  refine ⟨Ex.new nb, fun a v h _ => h, fun a h n z => ?_, fun a h => .inl ((s.map _).subset h), fun a h => h⟩
  have ne : a ≠ p := fun e => n (by rw [e]; exact List.mem_map_of_mem (f := Prod.fst) hp)
  rw [upd_ne ne]
  exact z
end
end Q

/-! Q2: what an expression comes to -/
namespace Q
open PySem PySem.Spec PyProof.Rows L2
open Evl (Ex fresh_back)

section
variable (K : PySem.W.Frag)
/-- it comes to the value d -/
def Ev (te : TE) (Γ : G) (o : Own) (d : D) (o' : Own) : Prop := ∀ (σ : St) (Hb H : Hp) (Q : VK), Sl K Hb σ Γ → Rep K Hb o H →
  (∀ v Hb' H', Stp o Hb H o' Hb' H' → Rep K Hb' o' H' → At K Hb' v d → Q v H') → te σ H Q
/-- it comes to a new thing of one's own -/
def EvN (te : TE) (Γ : G) (o : Own) (u : O) (o' : Own) : Prop := ∀ (σ : St) (Hb H : Hp) (Q : VK), Sl K Hb σ Γ → Rep K Hb o H →
  (∀ p Hb' H', p ∉ adr o' → H p = none → Stp o Hb H ((p, u) :: o') Hb' H' → Rep K Hb' ((p, u) :: o') H' → Q (.ref p) H') → te σ H Q
def EvA (ta : TA) (Γ : G) (o : Own) (ds : List D) (o' : Own) : Prop := ∀ (σ : St) (Hb H : Hp) (Q : List V → Hp → Prop), Sl K Hb σ Γ → Rep K Hb o H →
  (∀ vs Hb' H', Stp o Hb H o' Hb' H' → Rep K Hb' o' H' → AtL K Hb' vs ds → Q vs H') → ta σ H Q
def EvT (tt : TT) (Γ : G) (o : Own) (b : Bool) (o' : Own) : Prop := ∀ (σ : St) (Hb H : Hp) (Q : Bool → Hp → Prop), Sl K Hb σ Γ → Rep K Hb o H →
  (∀ Hb' H', Stp o Hb H o' Hb' H' → Rep K Hb' o' H' → Q b H') → tt σ H Q
def EvO (to : TO) (Γ : G) (o : Own) (i : Option Int) (o' : Own) : Prop := ∀ (σ : St) (Hb H : Hp) (Q : Option Int → Hp → Prop), Sl K Hb σ Γ → Rep K Hb o H →
  (∀ Hb' H', Stp o Hb H o' Hb' H' → Rep K Hb' o' H' → Q i H') → to σ H Q
/-- a two-place operation, a call, on values -/
def Bin (r : R2) (x y : D) (o : Own) (z : D) : Prop := ∀ (v u : V) (Hb H : Hp) (Q : VK), Rep K Hb o H → At K Hb v x → At K Hb u y →
  (∀ w Hb' H', Stp o Hb H o Hb' H' → Rep K Hb' o H' → At K Hb' w z → Q w H') → r v u H Q
def Cal (r : List V → Hp → VK → Prop) (ds : List D) (o : Own) (z : D) (o' : Own) : Prop := ∀ (vs : List V) (Hb H : Hp) (Q : VK), Rep K Hb o H → AtL K Hb vs ds →
  (∀ w Hb' H', Stp o Hb H o' Hb' H' → Rep K Hb' o' H' → At K Hb' w z → Q w H') → r vs H Q
def CalN (r : List V → Hp → VK → Prop) (ds : List D) (o : Own) (u : O) (o' : Own) : Prop := ∀ (vs : List V) (Hb H : Hp) (Q : VK), Rep K Hb o H → AtL K Hb vs ds →
  (∀ p Hb' H', p ∉ adr o' → H p = none → Stp o Hb H ((p, u) :: o') Hb' H' → Rep K Hb' ((p, u) :: o') H' → Q (.ref p) H') → r vs H Q
end

section
variable {K : PySem.W.Frag} {Γ : G} {o o1 o2 o3 : Own} {ta tb tc te : TE} {x y z d : D} {r : R2} {b : Bool}
theorem sz_of {n : Nat} (h : n ≤ 100000) : n ≤ sizeLine := Nat.le_trans h (by decide)

theorem ev_var {i : Nat} (h : Γ[i]? = some (some d)) : Ev K (tVar i) Γ o d o := fun σ Hb H Q S R k => by
  obtain ⟨v, h1, h2⟩ := S.get h
  exact ⟨v, h1, k v Hb H Stp.refl R h2⟩
theorem ev_int {i : Int} : Ev K (tC (.int i)) Γ o (.int i) o := fun σ Hb H Q S R k => k _ Hb H Stp.refl R (.int i)
theorem ev_str {s : Str} : Ev K (tC (.str s)) Γ o (.str s) o := fun σ Hb H Q S R k => k _ Hb H Stp.refl R (.str s)
theorem ev_bl : Ev K (tC (.bl b)) Γ o (.bl b) o := fun σ Hb H Q S R k => k _ Hb H Stp.refl R (.bl b)
theorem ev_non : Ev K (tC .non) Γ o .non o := fun σ Hb H Q S R k => k _ Hb H Stp.refl R .non
theorem ev_ref {a : Addr} : Ev K (tC (.ref a)) Γ o (.ref a) o := fun σ Hb H Q S R k => k _ Hb H Stp.refl R (.ref a)
theorem ev_ty {n : String} : Ev K (tC (.ty n)) Γ o (.ty n) o := fun σ Hb H Q S R k => k _ Hb H Stp.refl R (.ty n)
theorem ev_op (ha : Ev K ta Γ o x o1) (hb : Ev K tb Γ o1 y o2) (hr : Bin K r x y o2 z) : Ev K (tOp r ta tb) Γ o z o2 := fun σ Hb H Q S R k =>
  ha σ Hb H _ S R fun v Hb1 H1 S1 R1 a1 => hb σ Hb1 H1 _ (S.mono S1.ex) R1 fun u Hb2 H2 S2 R2 a2 => hr v u Hb2 H2 Q R2 (a1.mono S2.ex) a2 fun w Hb3 H3 S3 R3 a3 => k w Hb3 H3 ((S1.trans S2).trans S3) R3 a3
theorem ev_is (h : Ev K te Γ o x o1) (e : x = y) : Ev K te Γ o y o1 := e ▸ h
theorem ea_nil : EvA K tNil Γ o [] o := fun σ Hb H Q S R k => k [] Hb H Stp.refl R .nil
theorem ea_cons {tr : TA} {ds : List D} (h : Ev K ta Γ o x o1) (hr : EvA K tr Γ o1 ds o2) : EvA K (tCons ta tr) Γ o (x :: ds) o2 := fun σ Hb H Q S R k =>
  h σ Hb H _ S R fun v Hb1 H1 S1 R1 a1 => hr σ Hb1 H1 _ (S.mono S1.ex) R1 fun vs Hb2 H2 S2 R2 a2 => k _ Hb2 H2 (S1.trans S2) R2 (.cons (a1.mono S2.ex) a2)
theorem ev_tup {t : TA} {ds : List D} (h : EvA K t Γ o ds o1) (hl : ds.length ≤ 100000 := by exact Nat.le_of_ble_eq_true rfl) : Ev K (tTup t) Γ o (.tup ds) o1 := fun σ Hb H Q S R k =>
  h σ Hb H _ S R fun vs Hb1 H1 S1 R1 a1 => ⟨sz_of (by rw [a1.length]; exact hl), fun p hp => k _ _ _ (S1.trans (Stp.new R1 hp)) (R1.new hp) (.tup (.inl (.inl upd_same)) (a1.mono (Ex.new (fresh_back R1.ex hp))))⟩
theorem ev_lst {t : TA} {ds : List D} (h : EvA K t Γ o ds o1) (hl : ds.length ≤ 100000 := by exact Nat.le_of_ble_eq_true rfl) : Ev K (tLst t) Γ o (.lst ds) o1 := fun σ Hb H Q S R k =>
  h σ Hb H _ S R fun vs Hb1 H1 S1 R1 a1 => ⟨sz_of (by rw [a1.length]; exact hl), fun p hp => k _ _ _ (S1.trans (Stp.new R1 hp)) (R1.new hp) (.lst (.inl upd_same) (a1.mono (Ex.new (fresh_back R1.ex hp))))⟩
theorem not_own {Hb H : Hp} {p : Addr} (R : Rep K Hb o H) (h : H p = none) : p ∉ adr o := fun hm => by
  obtain ⟨q, hq, e⟩ := List.mem_map.mp hm
  exact (R.own q hq).2.there (by rw [e]; exact h)
theorem Stp.none {Hb H Hb' H' : Hp} {p : Addr} (S : Stp o Hb H o1 Hb' H') (h : H' p = none) : H p = none := by
  cases e : H p with
  | none => rfl
  | some u => exact absurd h (S.there p (by rw [e]; simp))
theorem en_lst {t : TA} {ds : List D} (h : EvA K t Γ o ds o1) (hl : ds.length ≤ 100000 := by exact Nat.le_of_ble_eq_true rfl) : EvN K (tLst t) Γ o (.lst ds) o1 := fun σ Hb H Q S R k =>
  h σ Hb H _ S R fun vs Hb1 H1 S1 R1 a1 => ⟨sz_of (by rw [a1.length]; exact hl), fun p hp => k p _ _ (not_own R1 hp) (S1.none hp) (S1.trans (Stp.newO hp)) (R1.newO hp ⟨vs, upd_same, a1⟩)⟩
/-- a new thing of one's own, as a value -/
theorem ev_ofN {ds : List D} (h : EvN K te Γ o (.lst ds) o1) : Ev K te Γ o (.lst ds) o1 := fun σ Hb H Q S R k =>
  h σ Hb H Q S R fun p Hb1 H1 hn hp S1 R1 => by
    obtain ⟨hb, xs, hx, ha⟩ := R1.own (p, .lst ds) List.mem_cons_self
    have hb : Hb1 p = none := hb
    refine k _ (upd Hb1 p (.lst xs)) H1 ?_ (R1.freeze hx List.mem_cons_self (List.sublist_cons_self _ _) hn) (.lst (.inl upd_same) (ha.mono (Ex.new hb)))
    refine ⟨S1.ex.trans (Ex.new hb), S1.keep, fun a h1 h2 h3 => ?_, fun a h1 => S1.sub a (List.mem_cons_of_mem _ h1), S1.there⟩
    have ne : a ≠ p := fun e => h1 (by rw [e]; exact hp)
    rw [upd_ne ne]
    exact S1.free a h1 h2 h3
/-- an own list that a name holds, as a value from here on -/
theorem ev_frz {i : Nat} {p : Addr} {ds : List D} (h : Γ[i]? = some (some (.ref p))) (hp : (p, O.lst ds) ∈ o) (s : List.Sublist o1 o) (hn : p ∉ adr o1) : Ev K (tVar i) Γ o (.lst ds) o1 := fun σ Hb H Q S R k => by
  obtain ⟨v, h1, h2⟩ := S.get h
  cases h2
  obtain ⟨hb, xs, hx, ha⟩ := R.own _ hp
  have hb : Hb p = none := hb
  exact ⟨_, h1, k _ (upd Hb p (.lst xs)) H (Stp.freeze R hp s) (R.freeze hx hp s hn) (.lst (.inl upd_same) (ha.mono (Ex.new hb)))⟩

/-! ### tests -/
theorem et_test (h : Ev K te Γ o (.bl b) o1) : EvT K (tTest te) Γ o b o1 := fun σ Hb H Q S R k => h σ Hb H _ S R fun v Hb1 H1 S1 R1 a1 => by
  cases a1
  exact ⟨b, rfl, k Hb1 H1 S1 R1⟩
theorem et_B (h : Ev K te Γ o (.bl b) o1) : EvT K (tB te) Γ o b o1 := fun σ Hb H Q S R k => h σ Hb H _ S R fun v Hb1 H1 S1 R1 a1 => by
  cases a1
  exact ⟨b, rfl, k Hb1 H1 S1 R1⟩
theorem et_not {t : TT} (h : EvT K t Γ o b o1) : EvT K (tNot t) Γ o (!b) o1 := fun σ Hb H Q S R k => h σ Hb H _ S R fun Hb1 H1 S1 R1 => k Hb1 H1 S1 R1
/-- a and b: b is asked where a holds -/
theorem et_and {t u : TT} {c : Bool} (h1 : EvT K t Γ o b o1) (h2 : b = true → EvT K u Γ o1 c o1) : EvT K (tAnd t u) Γ o (b && c) o1 := fun σ Hb H Q S R k => h1 σ Hb H _ S R fun Hb1 H1 S1 R1 => by
  cases b with
  | true =>
    show u σ H1 Q
    exact h2 rfl σ Hb1 H1 Q (S.mono S1.ex) R1 fun Hb2 H2 S2 R2 => k Hb2 H2 (S1.trans S2) R2
  | false =>
    show Q false H1
    exact k Hb1 H1 S1 R1
theorem et_or {t u : TT} {c : Bool} (h1 : EvT K t Γ o b o1) (h2 : b = false → EvT K u Γ o1 c o1) : EvT K (tOr t u) Γ o (b || c) o1 := fun σ Hb H Q S R k => h1 σ Hb H _ S R fun Hb1 H1 S1 R1 => by
  cases b with
  | true =>
    show Q true H1
    exact k Hb1 H1 S1 R1
  | false =>
    show u σ H1 Q
    exact h2 rfl σ Hb1 H1 Q (S.mono S1.ex) R1 fun Hb2 H2 S2 R2 => k Hb2 H2 (S1.trans S2) R2
theorem ev_if {t : TT} (h : EvT K t Γ o b o1) (h1 : b = true → Ev K ta Γ o1 d o2) (h2 : b = false → Ev K tb Γ o1 d o2) : Ev K (tIf t ta tb) Γ o d o2 := fun σ Hb H Q S R k => h σ Hb H _ S R fun Hb1 H1 S1 R1 => by
  cases b with
  | true =>
    show ta σ H1 Q
    exact h1 rfl σ Hb1 H1 Q (S.mono S1.ex) R1 fun v Hb2 H2 S2 R2 a2 => k v Hb2 H2 (S1.trans S2) R2 a2
  | false =>
    show tb σ H1 Q
    exact h2 rfl σ Hb1 H1 Q (S.mono S1.ex) R1 fun v Hb2 H2 S2 R2 a2 => k v Hb2 H2 (S1.trans S2) R2 a2
theorem et_is {t : TT} {c : Bool} (h : EvT K t Γ o b o1) (e : b = c) : EvT K t Γ o c o1 := e ▸ h
theorem eo_none : EvO K tNoPart Γ o none o := fun σ Hb H Q S R k => k Hb H Stp.refl R
theorem eo_some {i : Int} (h : Ev K te Γ o (.int i) o1) : EvO K (tPart te) Γ o (some i) o1 := fun σ Hb H Q S R k => h σ Hb H _ S R fun v Hb1 H1 S1 R1 a1 => by
  cases a1
  exact ⟨i, rfl, k Hb1 H1 S1 R1⟩

/-! ### operations on values -/
theorem bin_pure {v : V → V → V} (h : ∀ v u Hb, At K Hb v x → At K Hb u y → ∃ w, (∀ Hb', At K Hb' w z) ∧ ∀ H (Q : VK), Q w H → r v u H Q) : Bin K r x y o z := fun v u Hb H Q R a1 a2 k => by
  obtain ⟨w, h1, h2⟩ := h v u Hb a1 a2
  exact h2 H Q (k w Hb H Stp.refl R (h1 Hb))
theorem bin_I0 {g : Int → Int → V} {i j : Int} (hz : ∀ Hb, At K Hb (g i j) z) : Bin K (rI0 g) (.int i) (.int j) o z := fun v u Hb H Q R a1 a2 k => by
  cases a1
  cases a2
  exact ⟨i, j, rfl, rfl, k _ Hb H Stp.refl R (hz Hb)⟩
theorem bin_I {C : Int → Int → Prop} {g : Int → Int → V} {i j : Int} (hc : C i j) (hz : ∀ Hb, At K Hb (g i j) z) : Bin K (rI C g) (.int i) (.int j) o z := fun v u Hb H Q R a1 a2 k => by
  cases a1
  cases a2
  exact ⟨i, j, rfl, rfl, hc, k _ Hb H Stp.refl R (hz Hb)⟩
end

/-! ### + -/
def rAddU (K : PySem.W.Frag) : R2 := fun x y H Q =>
  (∃ i j, x = .int i ∧ y = .int j ∧ Q (.int (i + j)) H) ∨ (∃ i j, x = .str i ∧ y = .str j ∧ i.length + j.length ≤ sizeLine ∧ Q (.str (i ++ j)) H) ∨
  (∃ l b xs zs, x = .ref l ∧ y = .ref b ∧ Rd H l (.lst xs) ∧ Rd H b (.lst zs) ∧ xs.length + zs.length ≤ sizeLine ∧ ∀ p, H p = none → Q (.ref p) (upd H p (.lst (xs ++ zs)))) ∨ rCatA K x y H Q
section
variable {X : Cx}
theorem op_addU : OpR X (binaryOp .Add) (rAddU X.K) := by
  intro pins s σ H x y v u Q I rx ry h
  rcases h with h | h | h | h
  · exact op_add pins s σ H x y v u Q I rx ry h
  · exact op_add_str pins s σ H x y v u Q I rx ry h
  · obtain ⟨l, b, xs, zs, rfl, rfl, hH, hB, hz, q⟩ := h
    cases rx
    cases ry
    obtain ⟨z1, its, n1, r, e1⟩ := hH.ok I.hok
    obtain ⟨z2, its2, n2, r2, e2⟩ := hB.ok I.hok
    refine PySem.P.add_list e1 e2 ?_ (by rw [List.size_toArray, List.size_toArray, ← Paired.length r, ← Paired.length r2]; omega)
    have ea : its.toArray ++ its2.toArray = (its ++ its2).toArray := by simp
    rw [ea]
    exact ⟨.ref _, _, I.lnew (t' := s.toks) (r.append r2) (by rw [List.length_append]; omega), rfl, q _ I.fresh⟩
  · exact op_catA pins s σ H x y v u Q I rx ry h
end
section
variable {K : PySem.W.Frag} {o : Own}
theorem At.lst_inv {H : Hp} {v : V} {ds : List D} (h : At K H v (.lst ds)) : ∃ a xs, v = .ref a ∧ Rd H a (.lst xs) ∧ AtL K H xs ds := by
  cases h with
  | lst h t => exact ⟨_, _, rfl, h, t⟩
theorem At.tup_inv {H : Hp} {v : V} {ds : List D} (h : At K H v (.tup ds)) : ∃ a xs, v = .ref a ∧ SqT K H a xs ∧ AtL K H xs ds := by
  cases h with
  | tup h t => exact ⟨_, _, rfl, h, t⟩
theorem bin_addI {i j : Int} : Bin K (rAddU K) (.int i) (.int j) o (.int (i + j)) := fun v u Hb H Q R a1 a2 k => by
  cases a1
  cases a2
  exact .inl ⟨i, j, rfl, rfl, k _ Hb H Stp.refl R (.int _)⟩
theorem bin_addS {i j : Str} (h : i.length + j.length ≤ 100000) : Bin K (rAddU K) (.str i) (.str j) o (.str (i ++ j)) := fun v u Hb H Q R a1 a2 k => by
  cases a1
  cases a2
  exact .inr (.inl ⟨i, j, rfl, rfl, sz_of h, k _ Hb H Stp.refl R (.str _)⟩)
theorem bin_addL {ds es : List D} (h : ds.length + es.length ≤ 100000) : Bin K (rAddU K) (.lst ds) (.lst es) o (.lst (ds ++ es)) := fun v u Hb H Q R a1 a2 k => by
  obtain ⟨a, xs, rfl, s1, t1⟩ := a1.lst_inv
  obtain ⟨b, ys, rfl, s2, t2⟩ := a2.lst_inv
  refine .inr (.inr (.inl ⟨a, b, xs, ys, rfl, rfl, Evl.ex_rd R.ex s1, Evl.ex_rd R.ex s2, sz_of (by rw [t1.length, t2.length]; exact h), fun p hp => k _ _ _ (Stp.new R hp) (R.new hp) ?_⟩))
  exact .lst (.inl upd_same) ((t1.append t2).mono (Ex.new (fresh_back R.ex hp)))
theorem bin_addT {ds es : List D} (h : ds.length + es.length ≤ 100000) : Bin K (rAddU K) (.tup ds) (.tup es) o (.tup (ds ++ es)) := fun v u Hb H Q R a1 a2 k => by
  obtain ⟨a, xs, rfl, s1, t1⟩ := a1.tup_inv
  obtain ⟨b, ys, rfl, s2, t2⟩ := a2.tup_inv
  refine .inr (.inr (.inr ⟨a, b, xs, ys, rfl, rfl, Evl.ex_t R.ex s1, Evl.ex_t R.ex s2, sz_of (by rw [t1.length, t2.length]; exact h), fun e => ?_, fun _ e => ?_, fun _ _ p hp => ?_⟩))
  · subst e
    cases t1
    exact k _ Hb H Stp.refl R a2
  · subst e
    cases t2
    rw [List.append_nil] at k
    exact k _ Hb H Stp.refl R a1
  · exact k _ _ _ (Stp.new R hp) (R.new hp) (.tup (.inl (.inl upd_same)) ((t1.append t2).mono (Ex.new (fresh_back R.ex hp))))
end
end Q

/-! Q3: operations -/
namespace Q
open PySem PySem.Spec PyProof.Rows L2
open Evl (Ex fresh_back)

/-! ### data that can be compared -/
mutual
def D.pd : D → PyData
  | .non => .none | .bl b => .bool b | .int i => .int i | .str x => .str x
  | .tup ds => .tuple (D.pds ds) | .lst ds => .list (D.pds ds) | .fl ds => .list (D.pds ds)
  | .ref _ => .none | .ty _ => .none | .exc _ _ _ _ => .none
def D.pds : List D → List PyData
  | [] => []
  | d :: r => d.pd :: D.pds r
end
mutual
/-- plain, at most n deep -/
def D.good : Nat → D → Bool
  | _, .non => true | _, .bl _ => true | _, .int _ => true | _, .str x => PyData.canLay0 (.str x)
  | n + 1, .tup ds => D.goods n ds
  | n + 1, .lst ds => D.goods n ds
  | n + 1, .fl ds => D.goods n ds
  | _, _ => false
def D.goods : Nat → List D → Bool
  | _, [] => true
  | n, d :: r => D.good n d && D.goods n r
end
section
variable {K : PySem.W.Frag} {H : Hp}
mutual
theorem At.dp : ∀ {n : Nat} {v : V} {d : D}, At K H v d → d.good n = true → Dp K H v d.pd
  | _, _, _, .non, _ => .non
  | _, _, _, .bl b, _ => .bl b
  | _, _, _, .int i, _ => .int i
  | _, _, _, .str x, _ => .str x
  | 0, _, _, .ref a, h => by simp [D.good] at h
  | _ + 1, _, _, .ref a, h => by simp [D.good] at h
  | 0, _, _, .ty a, h => by simp [D.good] at h
  | _ + 1, _, _, .ty a, h => by simp [D.good] at h
  | 0, _, _, .tup _ _, h => by simp [D.good] at h
  | 0, _, _, .lst _ _, h => by simp [D.good] at h
  | n + 1, _, _, .tup (ds := ds) h t, g => by
    rw [D.good] at g
    rw [D.pd]
    exact .tup h (AtL.dp t g)
  | n + 1, _, _, .lst (ds := ds) h t, g => by
    rw [D.good] at g
    rw [D.pd]
    exact .lst (.inl h) (AtL.dp t g)
  | 0, _, _, .fl _ _, h => by simp [D.good] at h
  | n + 1, _, _, .fl (ds := ds) h t, g => by
    rw [D.good] at g
    rw [D.pd]
    exact .lst h (AtL.dp t g)
  | 0, _, _, .exc _ _ _ _, h => by simp [D.good] at h
  | _ + 1, _, _, .exc _ _ _ _, h => by simp [D.good] at h
theorem AtL.dp : ∀ {n : Nat} {vs : List V} {ds : List D}, AtL K H vs ds → D.goods n ds = true → DpAll K H vs (D.pds ds)
  | _, _, _, .nil, _ => by rw [D.pds]; exact .nil
  | n, _, _, .cons (d := d) (ds := ds) h t, g => by
    rw [D.goods, Bool.and_eq_true] at g
    rw [D.pds]
    exact .cons (At.dp h g.1) (AtL.dp t g.2)
end
end
mutual
theorem D.good_lay : ∀ {n : Nat} {d : D}, d.good n = true → d.pd.canLay0 = true ∧ d.pd.depth ≤ n
  | _, .non, _ => ⟨by simp [D.pd, PyData.canLay0], by simp [D.pd, PyData.depth]⟩
  | _, .bl _, _ => ⟨by simp [D.pd, PyData.canLay0], by simp [D.pd, PyData.depth]⟩
  | _, .int _, _ => ⟨by simp [D.pd, PyData.canLay0], by simp [D.pd, PyData.depth]⟩
  | _, .str x, h => ⟨by simpa [D.pd, D.good] using h, by simp [D.pd, PyData.depth]⟩
  | 0, .tup _, h => by simp [D.good] at h
  | 0, .lst _, h => by simp [D.good] at h
  | n + 1, .tup ds, h => by
    rw [D.good] at h
    obtain ⟨a, b⟩ := D.goods_lay h
    rw [D.pd, PyData.canLay0, PyData.depth]
    exact ⟨a, by omega⟩
  | n + 1, .lst ds, h => by
    rw [D.good] at h
    obtain ⟨a, b⟩ := D.goods_lay h
    rw [D.pd, PyData.canLay0, PyData.depth]
    exact ⟨a, by omega⟩
  | 0, .fl _, h => by simp [D.good] at h
  | n + 1, .fl ds, h => by
    rw [D.good] at h
    obtain ⟨a, b⟩ := D.goods_lay h
    rw [D.pd, PyData.canLay0, PyData.depth]
    exact ⟨a, by omega⟩
  | 0, .ref _, h => by simp [D.good] at h
  | _ + 1, .ref _, h => by simp [D.good] at h
  | 0, .ty _, h => by simp [D.good] at h
  | _ + 1, .ty _, h => by simp [D.good] at h
  | 0, .exc _ _ _ _, h => by simp [D.good] at h
  | _ + 1, .exc _ _ _ _, h => by simp [D.good] at h
theorem D.goods_lay : ∀ {n : Nat} {ds : List D}, D.goods n ds = true → PyData.canLayAll0 (D.pds ds) = true ∧ PyData.depthAll (D.pds ds) ≤ n
  | _, [], _ => ⟨by simp [D.pds, PyData.canLayAll0], by simp [D.pds, PyData.depthAll]⟩
  | n, d :: r, h => by
    rw [D.goods, Bool.and_eq_true] at h
    obtain ⟨a, b⟩ := D.good_lay h.1
    obtain ⟨c, e⟩ := D.goods_lay h.2
    rw [D.pds, PyData.canLayAll0, PyData.depthAll, Bool.and_eq_true]
    exact ⟨⟨a, c⟩, by omega⟩
end
theorem D.good_shaped {n : Nat} {d : D} (hn : n ≤ 64) (h : d.good n = true) : SeqAt.shaped d.pd = true := by
  obtain ⟨a, b⟩ := D.good_lay h
  unfold SeqAt.shaped
  rw [a, decide_eq_true (by omega)]
  rfl
/-- == of two values -/
def D.eqv (d e : D) : Bool := PyData.eqv d.pd e.pd
theorem D.eqv_refl {n : Nat} {d : D} (h : d.good n = true) : d.eqv d = true := SeqAt.eqv_refl _ (D.good_lay h).1

section
variable {K : PySem.W.Frag} {Γ : G} {o o1 o2 o3 : Own} {ta tb tc te : TE} {x y z d : D} {r : R2} {b : Bool}
theorem bin_eqD {n m : Nat} (h1 : x.good n = true) (h2 : y.good m = true) (hn : n ≤ 64 := by decide) (hm : m ≤ 64 := by decide) : Bin K (rEqD K) x y o (.bl (x.eqv y)) := fun v u Hb H Q R a1 a2 k =>
  ⟨x.pd, y.pd, (a1.mono R.ex).dp h1, (a2.mono R.ex).dp h2, D.good_shaped hn h1, D.good_shaped hm h2, k _ Hb H Stp.refl R (.bl _)⟩
theorem bin_neD {n m : Nat} (h1 : x.good n = true) (h2 : y.good m = true) (hn : n ≤ 64 := by decide) (hm : m ≤ 64 := by decide) : Bin K (rNeD K) x y o (.bl (!x.eqv y)) := fun v u Hb H Q R a1 a2 k =>
  ⟨x.pd, y.pd, (a1.mono R.ex).dp h1, (a2.mono R.ex).dp h2, D.good_shaped hn h1, D.good_shaped hm h2, k _ Hb H Stp.refl R (.bl _)⟩
theorem eqv_int (i j : Int) : (D.int i).eqv (.int j) = decide (i = j) := by
  show PyData.eqv (D.int i).pd (D.int j).pd = _
  rw [D.pd, D.pd, PyData.eqv]
  by_cases h : i = j
  · rw [decide_eq_true h]; exact beq_iff_eq.mpr h
  · rw [decide_eq_false h]; exact beq_eq_false_iff_ne.mpr h
theorem eqv_str (i j : Str) : (D.str i).eqv (.str j) = decide (i = j) := by
  show PyData.eqv (D.str i).pd (D.str j).pd = _
  rw [D.pd, D.pd, PyData.eqv]
  by_cases h : i = j
  · rw [decide_eq_true h]; exact beq_iff_eq.mpr h
  · rw [decide_eq_false h]; exact beq_eq_false_iff_ne.mpr h

/-! ### * -/
def repS (x : Str) (n : Int) : Str := ⟨(List.replicate n.toNat x.cps).foldl (· ++ ·) #[]⟩
end
def rMulU (K : PySem.W.Frag) : R2 := fun x y H Q =>
  (∃ i j, x = .int i ∧ y = .int j ∧ IntMulOk i j ∧ Q (.int (i * j)) H) ∨ (∃ i j, x = .str i ∧ y = .int j ∧ 0 ≤ j ∧ j ≤ 100000 ∧ i.length ≤ 100000 ∧ i.length * j.toNat ≤ 10000000 ∧ Q (.str (repS i j)) H) ∨
  (∃ l j xs, x = .ref l ∧ y = .int j ∧ H l = some (.lst xs) ∧ 0 ≤ j ∧ j ≤ 100000 ∧ xs.length * j.toNat ≤ 100000 ∧ ∀ p, H p = none → Q (.ref p) (upd H p (.lst (List.replicate j.toNat xs).flatten))) ∨ rRepT K x y H Q
section
variable {X : Cx}
theorem cat_nil : ∀ n : Nat, (List.replicate n (#[] : Array Nat)).foldl (· ++ ·) #[] = #[]
  | 0 => rfl
  | n + 1 => by rw [List.replicate_succ, List.foldl_cons]; exact cat_nil n
theorem foldl_size (c : Array Nat) : ∀ (n : Nat) (a : Array Nat), ((List.replicate n c).foldl (· ++ ·) a).size = a.size + n * c.size
  | 0, a => by simp
  | n + 1, a => by
    rw [List.replicate_succ, List.foldl_cons, foldl_size c n, Array.size_append, Nat.succ_mul]
    omega
theorem repS_len (x : Str) (n : Int) : (repS x n).length = x.length * n.toNat := by
  show ((List.replicate n.toNat x.cps).foldl (· ++ ·) #[]).size = _
  rw [foldl_size, Array.size_empty, Nat.zero_add, Nat.mul_comm]
  rfl
theorem op_mulU : OpR X (binaryOp .Mult) (rMulU X.K) := by
  intro pins s σ H x y v u Q I rx ry h
  rcases h with h | h | h | h
  · obtain ⟨i, j, rfl, rfl, hc, q⟩ := h
    obtain ⟨t, rfl⟩ := rx
    obtain ⟨t', rfl⟩ := ry
    exact mul_int ⟨.int _, H, I.tok _, ⟨_, rfl⟩, q⟩ hc
  · obtain ⟨i, j, rfl, rfl, h0, h1, h2, h3, q⟩ := h
    obtain ⟨t, rfl⟩ := rx
    obtain ⟨t', rfl⟩ := ry
    refine PySem.P.mul_str (by rw [decide_eq_false (by omega), decide_eq_false (by omega)]; rfl) (fun h4 _ => ?_) (fun h4 _ => ?_) ?_
    · have : j ≤ 100000 := h1
      have h5 : (0 : Int) < j := by omega
      have h6 : ((2 ^ 63 - 1) / 100000 : Int) ≤ (2 ^ 63 - 1) / j := by
        apply Int.le_ediv_of_mul_le h5
        have : ((2 ^ 63 - 1) / 100000 : Int) * j ≤ ((2 ^ 63 - 1) / 100000 : Int) * 100000 := Int.mul_le_mul_of_nonneg_left h1 (by decide)
        exact Int.le_trans this (by decide)
      have h7 : (100000 : Int) ≤ ((2 ^ 63 - 1) / 100000 : Int) := by decide
      omega
    · exact decide_eq_false (by rw [sizeLine_eq]; omega)
    · by_cases c1 : j < 1
      · rw [if_pos c1]
        have e : j = 0 := by omega
        subst e
        exact ⟨by decide, ⟨.str _, H, I.tok _, ⟨_, rfl⟩, q⟩⟩
      · rw [if_neg c1]
        by_cases c2 : (j == 1 || i.length == 0) = true
        · rw [if_pos c2]
          have e : repS i j = i := by
            rcases Bool.or_eq_true_iff.mp c2 with c | c
            · have := beq_iff_eq.mp c
              subst this
              show (⟨#[] ++ i.cps⟩ : Str) = i
              rw [Array.empty_append]
            · have z : i.cps.size = 0 := beq_iff_eq.mp c
              have z2 : i.cps = #[] := Array.eq_empty_of_size_eq_zero z
              unfold repS
              rw [z2, cat_nil, ← z2]
          rw [e] at q
          exact ⟨.str _, H, I, ⟨_, rfl⟩, q⟩
        · rw [if_neg c2]
          exact ⟨by show (repS i j).length ≤ sizeLine; rw [repS_len, sizeLine_eq]; omega, ⟨.str _, H, I.tok _, ⟨_, rfl⟩, q⟩⟩
  · obtain ⟨l, j, xs, rfl, rfl, hL, h0, h1, h2, q⟩ := h
    exact op_rep pins s σ H _ _ v u Q I rx ry ⟨l, j, xs, rfl, rfl, hL, by omega, by omega, sz_of h2, q⟩
  · exact op_repT pins s σ H x y v u Q I rx ry h
end
end Q

/-! Q4: statements, loops, comprehensions, defs and their calls -/
namespace Q
open PySem PySem.Spec PyProof.Rows L2
open Evl (Ex fresh_back)

/-- how a run ends: on (behind it, or at the turn's end), handing back (a value, a new own thing), broken off, an exception of an own class C with one field -/
inductive Out where
  | nx (Γ : G) (o : Own) | on (Γ : G) (o : Own) | rt (d : D) (o : Own) | rn (u : O) (o : Own) | bk (Γ : G) (o : Own) | er (C : Addr) (f : Str) (d : D) (Γ : G) (o : Own)

section
variable (K : PySem.W.Frag)
def PNx (Hb H : Hp) (o : Own) (Γ' : G) (o' : Own) (P : St → Hp → Prop) : Prop := ∀ σ' Hb' H', Stp o Hb H o' Hb' H' → Rep K Hb' o' H' → Sl K Hb' σ' Γ' → P σ' H'
def PRt (Hb H : Hp) (o : Own) (d : D) (o' : Own) (Q : VK) : Prop := ∀ v Hb' H', Stp o Hb H o' Hb' H' → Rep K Hb' o' H' → At K Hb' v d → Q v H'
def PRn (Hb H : Hp) (o : Own) (u : O) (o' : Own) (Q : VK) : Prop := ∀ p Hb' H', p ∉ adr o' → H p = none → Stp o Hb H ((p, u) :: o') Hb' H' → Rep K Hb' ((p, u) :: o') H' → Q (.ref p) H'
abbrev WW := Value → Option Addr → St → Hp → Prop
def Post (W : WW) (Hb H : Hp) (o : Own) (D : Ends) : Out → Prop
  | .nx Γ' o' => PNx K Hb H o Γ' o' D.nx
  | .on Γ' o' => PNx K Hb H o Γ' o' D.nx ∧ PNx K Hb H o Γ' o' D.ct
  | .rt d o' => PRt K Hb H o d o' D.rt
  | .rn u o' => PRn K Hb H o u o' D.rt
  | .bk Γ' o' => PNx K Hb H o Γ' o' D.bk
  | .er C f d Γ' o' => ∀ dx v σ' Hb' H', Stp o Hb H o' Hb' H' → Rep K Hb' o' H' → Sl K Hb' σ' Γ' → H' dx = some (.xd [(f, v)]) → At K Hb' v d → W (.ref C) (some dx) σ' H'
/-- the statement(s), from Γ and o, end so -/
def Does (W : WW) (ts : TS) (Γ : G) (o : Own) (out : Out) : Prop := ∀ (σ : St) (Hb H : Hp) (D : Ends), Sl K Hb σ Γ → Rep K Hb o H → Post K W Hb H o D out → ts D σ H
/-- a target takes a value -/
def EvG (g : TG) (d : D) (Γ Γ' : G) : Prop := ∀ (σ : St) (Hb H : Hp) (o : Own) (v : V) (Q : St → Hp → Prop), Sl K Hb σ Γ → Rep K Hb o H → At K Hb v d → (∀ σ', Sl K Hb σ' Γ' → Q σ' H) → g v σ H Q
def EvGs (gs : TGs) (ds : List D) (Γ Γ' : G) : Prop := ∀ (σ : St) (Hb H : Hp) (o : Own) (vs : List V) (Q : St → Hp → Prop), Sl K Hb σ Γ → Rep K Hb o H → AtL K Hb vs ds → (∀ σ', Sl K Hb σ' Γ' → Q σ' H) → gs vs σ H Q
/-- what an iterator yields, whatever comes on top of Hb0 -/
def Yld (Hb0 : Hp) (J : It) (ds : List D) : Prop := ∀ (i : Nat) (Hb H : Hp) (o : Own), Ex Hb0 Hb → Rep K Hb o H →
  (∀ d, ds[i]? = some d → J.go i H ∧ ∀ x H', J.yld i H x H' → ∃ Hb', Stp o Hb H o Hb' H' ∧ Rep K Hb' o H' ∧ At K Hb' x d) ∧ (ds.length ≤ i → J.stop i H)
def EvI (wi : TI) (Γ : G) (o : Own) (ds : List D) (o' : Own) : Prop := ∀ (σ : St) (Hb H : Hp) (R : It → Hp → Prop), Sl K Hb σ Γ → Rep K Hb o H →
  (∀ J Hb' H', Stp o Hb H o' Hb' H' → Rep K Hb' o' H' → Yld K Hb' J ds → R J H') → wi σ H R
end

section
variable {K : PySem.W.Frag} {W : WW} {Γ Γ1 Γ2 : G} {o o1 o2 : Own} {out : Out} {t u : TS} {te : TE} {d : D}
theorem Post.back {Hb H Hb1 H1 : Hp} {D : Ends} (S : Stp o Hb H o1 Hb1 H1) : ∀ {out : Out}, Post K W Hb H o D out → Post K W Hb1 H1 o1 D out
  | .nx _ _, h => fun σ' Hb' H' S' => h σ' Hb' H' (S.trans S')
  | .on _ _, h => ⟨fun σ' Hb' H' S' => h.1 σ' Hb' H' (S.trans S'), fun σ' Hb' H' S' => h.2 σ' Hb' H' (S.trans S')⟩
  | .rt _ _, h => fun v Hb' H' S' => h v Hb' H' (S.trans S')
  | .rn _ _, h => fun p Hb' H' n z S' => h p Hb' H' n (S.none z) (S.trans S')
  | .bk _ _, h => fun σ' Hb' H' S' => h σ' Hb' H' (S.trans S')
  | .er _ _ _ _ _, h => fun dx v σ' Hb' H' S' => h dx v σ' Hb' H' (S.trans S')
/-- an end that skips what follows -/
def Out.stops : Out → Bool
  | .nx _ _ => false | .on _ _ => false | _ => true
theorem Post.skip {Hb H : Hp} {D : Ends} {P : St → Hp → Prop} (e : out.stops = true) (h : Post K W Hb H o D out) : Post K W Hb H o { D with nx := P } out := by
  cases out <;> first | exact h | cases e
theorem Does.seq (h1 : Does K W t Γ o (.nx Γ1 o1)) (h2 : Does K W u Γ1 o1 out) : Does K W (tSeq t u) Γ o out := fun σ Hb H D S R P =>
  h1 σ Hb H _ S R fun σ' Hb' H' S' R' s' => h2 σ' Hb' H' D s' R' (P.back S')
theorem Does.stop (e : out.stops = true) (h1 : Does K W t Γ o out) : Does K W (tSeq t u) Γ o out := fun σ Hb H D S R P => h1 σ Hb H _ S R (P.skip e)
theorem Does.less (l : Le Γ Γ1) (h : Does K W t Γ1 o out) : Does K W t Γ o out := fun σ Hb H D S R P => h σ Hb H D (S.less l) R P
theorem Does.on (h : Does K W t Γ o (.nx Γ1 o1)) : Does K W t Γ o (.on Γ1 o1) := fun σ Hb H D S R P => h σ Hb H D S R P.1
theorem PNx.less {Hb H : Hp} {P : St → Hp → Prop} (l : Le Γ1 Γ2) (s : List.Sublist o2 o1) (h : PNx K Hb H o Γ2 o2 P) : PNx K Hb H o Γ1 o1 P := fun σ' Hb' H' S' R' s' => h σ' Hb' H' (S'.drop s) (R'.drop s) (s'.less l)
/-- less is told of the end -/
theorem Does.nxLe (h : Does K W t Γ o (.nx Γ1 o1)) (l : Le Γ1 Γ2) (s : List.Sublist o2 o1) : Does K W t Γ o (.nx Γ2 o2) := fun σ Hb H D S R P => h σ Hb H D S R (PNx.less l s P)
theorem Does.onLe (h : Does K W t Γ o (.on Γ1 o1)) (l : Le Γ1 Γ2) (s : List.Sublist o2 o1) : Does K W t Γ o (.on Γ2 o2) := fun σ Hb H D S R P => h σ Hb H D S R ⟨PNx.less l s P.1, PNx.less l s P.2⟩
theorem Does.is {out' : Out} (h : Does K W t Γ o out) (e : out = out') : Does K W t Γ o out' := e ▸ h
theorem does_next : Does K W tNext Γ o (.nx Γ o) := fun σ Hb H D S R P => P σ Hb H Stp.refl R S
theorem does_drop (h : Ev K te Γ o d o1) : Does K W (tDrop te) Γ o (.nx Γ o1) := fun σ Hb H D S R P => h σ Hb H _ S R fun v Hb1 H1 S1 R1 _ => P σ Hb1 H1 S1 R1 (S.mono S1.ex)
theorem does_ret (h : Ev K te Γ o d o1) (s : List.Sublist o2 o1) : Does K W (tRet te) Γ o (.rt d o2) := fun σ Hb H D S R P => h σ Hb H _ S R fun v Hb1 H1 S1 R1 a1 => P v Hb1 H1 (S1.drop s) (R1.drop s) a1
theorem does_retN : Does K W tRetN Γ o (.rt .non o) := fun σ Hb H D S R P => P _ Hb H Stp.refl R .non
theorem does_retn {w : O} (h : EvN K te Γ o w o1) (s : List.Sublist o2 o1) : Does K W (tRet te) Γ o (.rn w o2) := fun σ Hb H D S R P => h σ Hb H _ S R fun p Hb1 H1 hn hp S1 R1 =>
  P p Hb1 H1 (fun hm => hn ((s.map _).subset hm)) hp (S1.drop (s.cons₂ _)) (R1.drop (s.cons₂ _))
theorem does_if {tc : TT} {b : Bool} (h : EvT K tc Γ o b o1) (h1 : b = true → Does K W t Γ o1 out) (h2 : b = false → Does K W u Γ o1 out) : Does K W (tIfS tc t u) Γ o out := fun σ Hb H D S R P => h σ Hb H _ S R fun Hb1 H1 S1 R1 => by
  cases b with
  | true =>
    show t D σ H1
    exact h1 rfl σ Hb1 H1 D (S.mono S1.ex) R1 (P.back S1)
  | false =>
    show u D σ H1
    exact h2 rfl σ Hb1 H1 D (S.mono S1.ex) R1 (P.back S1)
/-- an if with something behind it: each way goes on -/
theorem does_ifq {tc : TT} {b : Bool} {w : TS} (h : EvT K tc Γ o b o1) (h1 : b = true → Does K W (tSeq t w) Γ o1 out) (h2 : b = false → Does K W (tSeq u w) Γ o1 out) : Does K W (tSeq (tIfS tc t u) w) Γ o out := fun σ Hb H D S R P => h σ Hb H _ S R fun Hb1 H1 S1 R1 => by
  cases b with
  | true =>
    show t _ σ H1
    exact h1 rfl σ Hb1 H1 D (S.mono S1.ex) R1 (P.back S1)
  | false =>
    show u _ σ H1
    exact h2 rfl σ Hb1 H1 D (S.mono S1.ex) R1 (P.back S1)
theorem does_nextq (h : Does K W u Γ o out) : Does K W (tSeq tNext u) Γ o out := does_next.seq h
theorem does_seqA {v : TS} (h : Does K W (tSeq t (tSeq u v)) Γ o out) : Does K W (tSeq (tSeq t u) v) Γ o out := h

/-! ### targets -/
theorem eg_name {i : Nat} : EvG K (gName i) d Γ (Γ.set i (some d)) := fun σ Hb H o v Q S R a k => k _ (S.set a i)
theorem egs_nil : EvGs K gNil [] Γ Γ := fun σ Hb H o vs Q S R a k => by
  cases a
  exact ⟨rfl, k σ S⟩
theorem egs_cons {g : TG} {gs : TGs} {ds : List D} (h : EvG K g d Γ Γ1) (hr : EvGs K gs ds Γ1 Γ2) : EvGs K (gCons g gs) (d :: ds) Γ Γ2 := fun σ Hb H o vs Q S R a k => by
  cases a with
  | cons h1 t1 => exact ⟨_, _, rfl, h σ Hb H o _ _ S R h1 fun σ' S' => hr σ' Hb H o _ Q S' R t1 k⟩
theorem eg_tup {n : Nat} {gs : TGs} {ds : List D} (h : EvGs K gs ds Γ Γ1) (hl : ds.length = n := by rfl) : EvG K (gTup K n gs) (.tup ds) Γ Γ1 := fun σ Hb H o v Q S R a k => by
  obtain ⟨p, xs, rfl, s1, t1⟩ := a.tup_inv
  exact ⟨p, xs, rfl, Evl.ex_t R.ex s1, by rw [t1.length]; exact hl, h σ Hb H o xs Q S R t1 k⟩
theorem does_asg {g : TG} (h : Ev K te Γ o d o1) (hg : EvG K g d Γ Γ1) : Does K W (tAsg te g) Γ o (.nx Γ1 o1) := fun σ Hb H D S R P => h σ Hb H _ S R fun v Hb1 H1 S1 R1 a1 =>
  hg σ Hb1 H1 o1 v _ (S.mono S1.ex) R1 a1 fun σ' S' => P σ' Hb1 H1 S1 R1 S'
theorem does_set {i : Nat} (h : Ev K te Γ o d o1) : Does K W (tAsg te (gName i)) Γ o (.nx (Γ.set i (some d)) o1) := does_asg h eg_name
/-- x = a new own thing, then the rest -/
theorem does_own {i : Nat} {w : O} (h : EvN K te Γ o w o1) (k : ∀ p, p ∉ adr o1 → Does K W u (Γ.set i (some (.ref p))) ((p, w) :: o1) out) : Does K W (tSeq (tAsg te (gName i)) u) Γ o out := fun σ Hb H D S R P =>
  h σ Hb H _ S R fun p Hb1 H1 hn hp S1 R1 => k p hn (σ.set i (some (.ref p))) Hb1 H1 D ((S.mono S1.ex).set (.ref p) i) R1 (P.back S1)

/-! ### iterations -/
def runE {S α ε : Type} (step : S → α → Sum S ε) : S → List α → Sum S ε
  | s, [] => .inl s
  | s, x :: r => match step s x with
    | .inl s' => runE step s' r
    | .inr e => .inr e
theorem runE_app {S α ε : Type} (step : S → α → Sum S ε) : ∀ (s : S) (xs ys : List α), runE step s (xs ++ ys) = match runE step s xs with | .inl s' => runE step s' ys | .inr e => .inr e
  | s, [], ys => rfl
  | s, x :: r, ys => by
    rw [List.cons_append, runE, runE]
    cases step s x with
    | inl s' => exact runE_app step s' r ys
    | inr e => rfl
/-- what a turn's end is for the loop -/
def Out.loop : Out → Out
  | .bk Γ o => .nx Γ o
  | x => x
theorem runE_inv {S α ε : Type} {step : S → α → Sum S ε} {I : List α → S → Prop} {s0 : S} {xs : List α} (hI : I [] s0) (hb : ∀ pre x post s s', xs = pre ++ x :: post → I pre s → step s x = .inl s' → I (pre ++ [x]) s') :
    ∀ (n : Nat) (s : S), runE step s0 (xs.take n) = .inl s → I (xs.take n) s
  | 0, s, e => by
    rw [List.take_zero] at e ⊢
    cases e
    exact hI
  | n + 1, s, e => by
    by_cases hlt : n < xs.length
    · have ex : xs[n]? = some xs[n] := List.getElem?_eq_getElem hlt
      have split : xs = xs.take n ++ xs[n] :: xs.drop (n + 1) := by rw [← List.drop_eq_getElem_cons hlt, List.take_append_drop]
      have et : xs.take (n + 1) = xs.take n ++ [xs[n]] := by rw [List.take_succ, ex]; rfl
      rw [et, runE_app] at e
      rw [et]
      cases q : runE step s0 (xs.take n) with
      | inl s1 =>
        rw [q] at e
        have e' : runE step s1 [xs[n]] = .inl s := e
        rw [runE] at e'
        cases q2 : step s1 xs[n] with
        | inl s2 =>
          rw [q2] at e'
          cases e'
          exact hb _ _ _ s1 _ split (runE_inv hI hb n s1 q) q2
        | inr z => rw [q2] at e'; cases e'
      | inr z => rw [q] at e; cases e
    · have e1 : xs.take (n + 1) = xs.take n := by rw [List.take_of_length_le (by omega), List.take_of_length_le (by omega)]
      rw [e1] at e ⊢
      exact runE_inv hI hb n s e
theorem does_forE {S α ε : Type} {wi : TI} {g : TG} {tb : TS} (xs : List α) (enc : α → D) (Gs : S → G) (Os : S → Own) (I : List α → S → Prop) (s0 : S) (step : S → α → Sum S ε) (oe : ε → Out)
    (hi : EvI K wi Γ o (xs.map enc) o1) (h0 : Le Γ (Gs s0)) (ho : Os s0 = o1) (hI : I [] s0) (hst : ∀ e, (oe e).stops = true)
    (hb : ∀ pre x post s, xs = pre ++ x :: post → I pre s → ∃ Γ2, EvG K g (enc x) (Gs s) Γ2 ∧ match step s x with
      | .inl s' => I (pre ++ [x]) s' ∧ Does K W tb Γ2 (Os s) (.on (Gs s') (Os s'))
      | .inr e => Does K W tb Γ2 (Os s) (oe e)) :
    match runE step s0 xs with
    | .inl s => I xs s ∧ Does K W (tFor wi g tb) Γ o (.nx (Gs s) (Os s))
    | .inr e => Does K W (tFor wi g tb) Γ o (oe e).loop := by
  -- the loop, whatever is wanted behind
  have key : ∀ (σ : St) (Hb H : Hp) (D : Ends), Sl K Hb σ Γ → Rep K Hb o H → (∀ s, runE step s0 xs = .inl s → PNx K Hb H o (Gs s) (Os s) D.nx) → (∀ e, runE step s0 xs = .inr e → Post K W Hb H o D (oe e).loop) → tFor wi g tb D σ H := by
    intro σ Hb H D S R p1 p2
    refine hi σ Hb H _ S R fun J Hb1 H1 S1 R1 Y => ?_
    refine ⟨fun i m σ' H' => i + m = xs.length ∧ ∃ s Hb', runE step s0 (xs.take i) = .inl s ∧ I (xs.take i) s ∧ Stp o1 Hb1 H1 (Os s) Hb' H' ∧ Rep K Hb' (Os s) H' ∧ Sl K Hb' σ' (Gs s),
      ⟨xs.length, by omega, s0, Hb1, rfl, hI, by rw [ho]; exact Stp.refl, by rw [ho]; exact R1, (S.mono S1.ex).less h0⟩, ?_⟩
    rintro i m σ' H' ⟨hm, s, Hb', e, hIs, S', R', s'⟩
    obtain ⟨y1, y2⟩ := Y i Hb' H' (Os s) S'.ex R'
    by_cases hlt : i < xs.length
    · right
      have ex : xs[i]? = some xs[i] := List.getElem?_eq_getElem hlt
      have split : xs = xs.take i ++ xs[i] :: xs.drop (i + 1) := by rw [← List.drop_eq_getElem_cons hlt, List.take_append_drop]
      have et : xs.take (i + 1) = xs.take i ++ [xs[i]] := by rw [List.take_succ, ex]; rfl
      obtain ⟨go, yl⟩ := y1 (enc xs[i]) (by rw [List.getElem?_map, ex]; rfl)
      refine ⟨go, ?_⟩
      obtain ⟨Γ2, hg, hstep⟩ := hb _ _ _ s split hIs
      cases q : step s xs[i] with
      | inl sn =>
        rw [q] at hstep
        obtain ⟨hIn, hd⟩ := hstep
        refine ⟨fun σ2 H2 => ∃ Hb2, Stp o1 Hb1 H1 (Os sn) Hb2 H2 ∧ Rep K Hb2 (Os sn) H2 ∧ Sl K Hb2 σ2 (Gs sn), ?_, ?_⟩
        · rintro σ2 H2 ⟨Hb2, a1, a2, a3⟩
          refine ⟨m - 1, by omega, by omega, sn, Hb2, ?_, by rw [et]; exact hIn, a1, a2, a3⟩
          rw [et, runE_app, e]
          show runE step s [xs[i]] = _
          rw [runE, q]
          rfl
        · intro x H2 hx
          obtain ⟨Hb2, S2, R2, a2⟩ := yl x H2 hx
          refine hg σ' Hb2 H2 _ x _ (s'.mono S2.ex) R2 a2 fun σ3 s3 => ?_
          refine hd σ3 Hb2 H2 _ s3 R2 ⟨fun σ4 Hb4 H4 S4 R4 s4 => ⟨Hb4, (S'.trans S2).trans S4, R4, s4⟩, fun σ4 Hb4 H4 S4 R4 s4 => ⟨Hb4, (S'.trans S2).trans S4, R4, s4⟩⟩
      | inr ee =>
        rw [q] at hstep
        have er : runE step s0 xs = .inr ee := by
          rw [split, runE_app, e]
          show runE step s (xs[i] :: _) = _
          rw [runE, q]
        refine ⟨fun _ _ => False, fun _ _ z => z.elim, fun x H2 hx => ?_⟩
        obtain ⟨Hb2, S2, R2, a2⟩ := yl x H2 hx
        refine hg σ' Hb2 H2 _ x _ (s'.mono S2.ex) R2 a2 fun σ3 s3 => ?_
        refine hstep σ3 Hb2 H2 _ s3 R2 ?_
        have P := (p2 ee er).back ((S1.trans S').trans S2)
        have hs := hst ee
        cases hq : oe ee with
        | nx _ _ => rw [hq] at hs; cases hs
        | on _ _ => rw [hq] at hs; cases hs
        | rt _ _ => rw [hq] at P; exact P
        | rn _ _ => rw [hq] at P; exact P
        | er _ _ _ _ _ => rw [hq] at P; exact P
        | bk Γb ob => rw [hq] at P; exact P
    · left
      refine ⟨y2 (by rw [List.length_map]; omega), ?_⟩
      have et : xs.take i = xs := List.take_of_length_le (by omega)
      rw [et] at e
      exact p1 s e σ' Hb' H' (S1.trans S') R' s'
  cases q : runE step s0 xs with
  | inl s =>
    refine ⟨?_, fun σ Hb H D S R P => key σ Hb H D S R (fun s' e => ?_) (fun e he => ?_)⟩
    · have := runE_inv (step := step) hI (fun pre x post s s' e hi hs => by
        obtain ⟨Γ2, _, h⟩ := hb pre x post s e hi
        rw [hs] at h
        exact h.1) xs.length s (by rw [List.take_length]; exact q)
      rw [List.take_length] at this
      exact this
    · rw [q] at e
      cases e
      exact P
    · rw [q] at he
      cases he
  | inr ee =>
    refine fun σ Hb H D S R P => key σ Hb H D S R (fun s' e => ?_) (fun e he => ?_)
    · rw [q] at e
      cases e
    · rw [q] at he
      cases he
      exact P
/-- a loop that runs to its end -/
theorem does_for {S α : Type} {wi : TI} {g : TG} {tb : TS} (xs : List α) (enc : α → D) (Gs : S → G) (Os : S → Own) (I : List α → S → Prop) (s0 : S) (step : S → α → S)
    (hi : EvI K wi Γ o (xs.map enc) o1) (h0 : Le Γ (Gs s0)) (ho : Os s0 = o1) (hI : I [] s0)
    (hb : ∀ pre x post s, xs = pre ++ x :: post → I pre s → ∃ Γ2, EvG K g (enc x) (Gs s) Γ2 ∧ I (pre ++ [x]) (step s x) ∧ Does K W tb Γ2 (Os s) (.on (Gs (step s x)) (Os (step s x)))) :
    I xs (xs.foldl step s0) ∧ Does K W (tFor wi g tb) Γ o (.nx (Gs (xs.foldl step s0)) (Os (xs.foldl step s0))) := by
  have e : ∀ (l : List α) (s : S), runE (ε := Empty) (fun s x => .inl (step s x)) s l = .inl (l.foldl step s) := by
    intro l
    induction l with
    | nil => intro s; rfl
    | cons x r ih => intro s; exact ih (step s x)
  have h := does_forE (W := W) (wi := wi) (g := g) (tb := tb) (ε := Empty) xs enc Gs Os I s0 (fun s x => .inl (step s x)) (fun e => e.elim) hi h0 ho hI (fun e => e.elim) (fun pre x post s e hi => by
    obtain ⟨Γ2, a, b, c⟩ := hb pre x post s e hi
    exact ⟨Γ2, a, b, c⟩)
  rw [e] at h
  exact h

/-! ### what is walked -/
theorem EvI.lst {tl : TE} {ds : List D} (h : Ev K tl Γ o (.lst ds) o1) : EvI K (iList K tl) Γ o ds o1 := fun σ Hb H R S Rp k => h σ Hb H _ S Rp fun v Hb1 H1 S1 R1 a1 => by
  obtain ⟨a, xs, rfl, s1, t1⟩ := a1.lst_inv
  have sq : SqL K H1 a xs := .inl (Evl.ex_rd R1.ex s1)
  refine ⟨a, rfl, ⟨xs, sq⟩, k _ Hb1 H1 S1 R1 fun i Hb2 H2 o2 e2 R2 => ⟨fun d hd => ?_, fun hl => ?_⟩⟩
  · obtain ⟨v, hv, av⟩ := t1.get hd
    have sq2 : SqL K H2 a xs := .inl (Evl.ex_rd R2.ex (Evl.ex_rd e2 s1))
    exact ⟨⟨xs, v, sq2, hv⟩, fun x H' hx => by
      obtain ⟨rfl, hx⟩ := hx
      have := hx xs sq2
      rw [hv] at this
      cases this
      exact ⟨Hb2, Stp.refl, R2, av.mono e2⟩⟩
  · exact ⟨xs, .inl (Evl.ex_rd R2.ex (Evl.ex_rd e2 s1)), by rw [t1.length]; exact hl⟩
theorem EvI.tup {tl : TE} {ds : List D} (h : Ev K tl Γ o (.tup ds) o1) : EvI K (iTup K tl) Γ o ds o1 := fun σ Hb H R S Rp k => h σ Hb H _ S Rp fun v Hb1 H1 S1 R1 a1 => by
  obtain ⟨a, xs, rfl, s1, t1⟩ := a1.tup_inv
  have sq : SqT K H1 a xs := Evl.ex_t R1.ex s1
  refine ⟨a, rfl, ⟨xs, sq⟩, k _ Hb1 H1 S1 R1 fun i Hb2 H2 o2 e2 R2 => ⟨fun d hd => ?_, fun hl => ?_⟩⟩
  · obtain ⟨v, hv, av⟩ := t1.get hd
    have sq2 : SqT K H2 a xs := Evl.ex_t R2.ex (Evl.ex_t e2 s1)
    exact ⟨⟨xs, v, sq2, hv⟩, fun x H' hx => by
      obtain ⟨rfl, hx⟩ := hx
      have := hx xs sq2
      rw [hv] at this
      cases this
      exact ⟨Hb2, Stp.refl, R2, av.mono e2⟩⟩
  · exact ⟨xs, Evl.ex_t R2.ex (Evl.ex_t e2 s1), by rw [t1.length]; exact hl⟩
theorem EvI.enum {ta : TA} {ds : List D} (h : EvA K ta Γ o [.lst ds] o1) : EvI K (iEnum K ta) Γ o (ds.mapIdx fun i d => .tup [.int i, d]) o1 := fun σ Hb H R S Rp k => h σ Hb H _ S Rp fun vs Hb1 H1 S1 R1 a1 => by
  cases a1 with
  | cons a1 t =>
  cases t
  obtain ⟨a, xs, rfl, s1, t1⟩ := a1.lst_inv
  have sq : SqL K H1 a xs := .inl (Evl.ex_rd R1.ex s1)
  refine ⟨a, xs, rfl, sq, k _ Hb1 H1 S1 R1 fun i Hb2 H2 o2 e2 R2 => ⟨fun d hd => ?_, fun hl => ?_⟩⟩
  · rw [List.getElem?_mapIdx] at hd
    cases q : ds[i]? with
    | none => rw [q] at hd; cases hd
    | some d0 =>
      rw [q] at hd
      cases hd
      obtain ⟨v, hv, av⟩ := t1.get q
      have sq2 : SqL K H2 a xs := .inl (Evl.ex_rd R2.ex (Evl.ex_rd e2 s1))
      refine ⟨⟨xs, v, sq2, hv⟩, fun x H' hx => ?_⟩
      obtain ⟨T, y, rfl, hT, rfl, hx⟩ := hx
      have := hx xs sq2
      rw [hv] at this
      cases this
      exact ⟨_, Stp.new R2 hT, R2.new hT, .tup (.inl (.inl upd_same)) (.cons (.int _) (.cons ((av.mono e2).mono (Ex.new (fresh_back R2.ex hT))) .nil))⟩
  · exact ⟨xs, .inl (Evl.ex_rd R2.ex (Evl.ex_rd e2 s1)), by rw [t1.length]; rw [List.length_mapIdx] at hl; exact hl⟩
theorem yld_range {Hb : Hp} (lo : Int) (n : Nat) : Yld K Hb (Itr lo n) ((List.range n).map fun i : Nat => .int (lo + i)) := by
  refine fun i Hb2 H2 o2 e2 R2 => ⟨fun d hd => ?_, fun hl => ?_⟩
  · rw [List.getElem?_map] at hd
    by_cases hn : i < n
    · rw [List.getElem?_range hn] at hd
      cases hd
      exact ⟨hn, fun x H' ⟨e, ex⟩ => by
        subst e ex
        exact ⟨Hb2, Stp.refl, R2, .int _⟩⟩
    · rw [List.getElem?_eq_none (by simpa using hn)] at hd
      cases hd
  · rw [List.length_map, List.length_range] at hl
    exact hl
theorem EvI.range1 {ta : TA} {j : Int} (h : EvA K ta Γ o [.int j] o1) (h1 : -(2 ^ 62) ≤ j) (h2 : j < 2 ^ 62) : EvI K (iRng1 ta) Γ o ((List.range j.toNat).map fun i : Nat => .int (0 + i)) o1 := fun σ Hb H R S Rp k => h σ Hb H _ S Rp fun vs Hb1 H1 S1 R1 a1 => by
  cases a1 with
  | cons a1 t =>
  cases t
  cases a1
  exact ⟨j, rfl, h1, h2, k _ Hb1 H1 S1 R1 (yld_range 0 j.toNat)⟩
theorem EvI.range2 {ta : TA} {i j : Int} (h : EvA K ta Γ o [.int i, .int j] o1) (h1 : -(2 ^ 62) ≤ i ∧ i < 2 ^ 62 ∧ -(2 ^ 62) ≤ j ∧ j < 2 ^ 62) : EvI K (iRng2 ta) Γ o ((List.range (j - i).toNat).map fun k : Nat => .int (i + k)) o1 := fun σ Hb H R S Rp k => h σ Hb H _ S Rp fun vs Hb1 H1 S1 R1 a1 => by
  cases a1 with
  | cons a1 t =>
  cases a1
  cases t with
  | cons a2 t =>
  cases t
  cases a2
  exact ⟨i, j, rfl, h1, k _ Hb1 H1 S1 R1 (yld_range i (j - i).toNat)⟩
end
end Q

/-! Q5: comprehensions, own lists and dicts, defs and their calls -/
namespace Q
open PySem PySem.Spec PyProof.Rows L2
open Evl (Ex fresh_back)

/-! ### comprehensions -/
/-- what a comprehension gives: the items, the state behind -/
def lcRun {S α : Type} (st : S → α → S) (f : S → α → Bool) (gv : S → α → D) : S → List α → List D × S
  | s, [] => ([], s)
  | s, x :: r => (if f s x = true then gv s x :: (lcRun st f gv (st s x) r).1 else (lcRun st f gv (st s x) r).1, (lcRun st f gv (st s x) r).2)
theorem lcRun_app {S α : Type} (st : S → α → S) (f : S → α → Bool) (gv : S → α → D) : ∀ (s : S) (xs ys : List α), lcRun st f gv s (xs ++ ys) = ((lcRun st f gv s xs).1 ++ (lcRun st f gv (lcRun st f gv s xs).2 ys).1, (lcRun st f gv (lcRun st f gv s xs).2 ys).2)
  | s, [], ys => rfl
  | s, x :: r, ys => by
    rw [List.cons_append, lcRun, lcRun, lcRun_app st f gv (st s x) r ys]
    by_cases h : f s x = true
    · simp only [if_pos h, List.cons_append]
    · simp only [if_neg h]
theorem lcRun_len {S α : Type} (st : S → α → S) (f : S → α → Bool) (gv : S → α → D) : ∀ (s : S) (xs : List α), (lcRun st f gv s xs).1.length ≤ xs.length
  | s, [] => Nat.le_refl _
  | s, x :: r => by
    rw [lcRun]
    have := lcRun_len st f gv (st s x) r
    by_cases h : f s x = true
    · simp only [if_pos h, List.length_cons]; omega
    · simp only [if_neg h, List.length_cons]; omega
theorem lcRun_pure {α : Type} (f : α → Bool) (gv : α → D) : ∀ (xs : List α), (lcRun (fun (s : Unit) _ => s) (fun _ x => f x) (fun _ x => gv x) () xs).1 = (xs.filter f).map gv
  | [] => rfl
  | x :: r => by
    rw [lcRun, lcRun_pure f gv r]
    by_cases h : f x = true
    · simp only [if_pos h, List.filter_cons, List.map_cons]
    · simp only [if_neg h, List.filter_cons]
/-- the slots that a comprehension's names use are forgotten -/
def wipeG (Γ : G) : List Nat → G
  | [] => Γ
  | v :: vs => (wipeG Γ vs).set v none
section
variable {K : PySem.W.Frag} {W : WW} {Γ Γ1 Γ2 : G} {o o1 o2 : Own} {out : Out} {t u : TS} {te ta tb tc : TE} {d x y z : D}
theorem Sl.setN {Hb : Hp} : ∀ {σ : St} {Γ : G} (i : Nat), Sl K Hb σ Γ → Sl K Hb (σ.set i none) (Γ.set i none)
  | _, _, _, .nil => .nil
  | _, _, 0, .cons _ t => .cons (show SlE K Hb none none from trivial) t
  | _, _, i + 1, .cons q t => .cons q (Sl.setN i t)
theorem Sl.wipe {Hb : Hp} {σ : St} {Γ : G} (h : Sl K Hb σ Γ) : ∀ vs : List Nat, Sl K Hb (wipe σ vs) (wipeG Γ vs)
  | [] => h
  | v :: vs => (Sl.wipe h vs).setN v
theorem wipe_set {σ : St} {x : Option V} {j : Nat} : ∀ {vs : List Nat}, j ∈ vs → wipe (σ.set j x) vs = wipe σ vs
  | v :: vs, h => by
    unfold L2.wipe
    by_cases e : j ∈ vs
    · rw [wipe_set e]
    · have e2 : j = v := by
        rcases List.mem_cons.mp h with h | h
        · exact h
        · exact absurd h e
      subst e2
      have comm : ∀ (vs : List Nat), j ∉ vs → wipe (σ.set j x) vs = (wipe σ vs).set j x := by
        intro vs
        induction vs with
        | nil => intro _; rfl
        | cons w r ih =>
          intro hn
          unfold L2.wipe
          rw [ih (fun q => hn (List.mem_cons_of_mem _ q)), List.set_comm]
          intro q
          exact hn (by rw [q]; exact List.mem_cons_self)
      rw [comm vs e, List.set_set]
theorem wipe_wipe {σ : St} : ∀ vs : List Nat, wipe (wipe σ vs) vs = wipe σ vs := fun vs => by
  have key : ∀ (l : List Nat), (∀ j ∈ l, j ∈ vs) → wipe (wipe σ l) vs = wipe σ vs := by
    intro l
    induction l with
    | nil => intro _; rfl
    | cons a r ih =>
      intro h
      show wipe ((wipe σ r).set a none) vs = _
      rw [wipe_set (h a List.mem_cons_self)]
      exact ih fun j hj => h j (List.mem_cons_of_mem _ hj)
  exact key vs fun _ h => h
/-- a target within a comprehension -/
def EvGc (K : PySem.W.Frag) (vs : List Nat) (g : TG) (d : D) (Γ Γ' : G) : Prop := ∀ (σ : St) (Hb H : Hp) (o : Own) (v : V) (Q : St → Hp → Prop), Sl K Hb σ Γ → Rep K Hb o H → At K Hb v d → (∀ σ', wipe σ' vs = wipe σ vs → Sl K Hb σ' Γ' → Q σ' H) → g v σ H Q
def EvGcs (K : PySem.W.Frag) (vs : List Nat) (gs : TGs) (ds : List D) (Γ Γ' : G) : Prop := ∀ (σ : St) (Hb H : Hp) (o : Own) (ws : List V) (Q : St → Hp → Prop), Sl K Hb σ Γ → Rep K Hb o H → AtL K Hb ws ds → (∀ σ', wipe σ' vs = wipe σ vs → Sl K Hb σ' Γ' → Q σ' H) → gs ws σ H Q
theorem egc_name {vs : List Nat} {i : Nat} (h : i ∈ vs := by decide) : EvGc K vs (gName i) d Γ (Γ.set i (some d)) := fun σ Hb H o v Q S R a k => k _ (wipe_set h) (S.set a i)
theorem egcs_nil {vs : List Nat} : EvGcs K vs gNil [] Γ Γ := fun σ Hb H o ws Q S R a k => by
  cases a
  exact ⟨rfl, k σ rfl S⟩
theorem egcs_cons {vs : List Nat} {g : TG} {gs : TGs} {ds : List D} (h : EvGc K vs g d Γ Γ1) (hr : EvGcs K vs gs ds Γ1 Γ2) : EvGcs K vs (gCons g gs) (d :: ds) Γ Γ2 := fun σ Hb H o ws Q S R a k => by
  cases a with
  | cons h1 t1 => exact ⟨_, _, rfl, h σ Hb H o _ _ S R h1 fun σ' e S' => hr σ' Hb H o _ Q S' R t1 fun σ2 e2 => k σ2 (e2.trans e)⟩
theorem egc_tup {vs : List Nat} {n : Nat} {gs : TGs} {ds : List D} (h : EvGcs K vs gs ds Γ Γ1) (hl : ds.length = n := by rfl) : EvGc K vs (gTup K n gs) (.tup ds) Γ Γ1 := fun σ Hb H o v Q S R a k => by
  obtain ⟨p, xs, rfl, s1, t1⟩ := a.tup_inv
  exact ⟨p, xs, rfl, Evl.ex_t R.ex s1, by rw [t1.length]; exact hl, h σ Hb H o xs Q S R t1 k⟩
theorem et_yes : EvT K tYes Γ o true o := fun σ Hb H Q S R k => k Hb H Stp.refl R

/-- an own thing more, round about -/
theorem Rep.frame {q : Addr × O} {Hb H Hb' H' : Hp} (R : Rep K Hb (q :: o) H) (S : Stp o Hb H o1 Hb' H') (R' : Rep K Hb' o1 H') : q.1 ∉ adr o1 ∧ Rep K Hb' (q :: o1) H' ∧ Stp (q :: o) Hb H (q :: o1) Hb' H' := by
  obtain ⟨h1, h2⟩ := R.own q List.mem_cons_self
  have n0 : q.1 ∉ adr o := (List.nodup_cons.mp R.nd).1
  have hq : H q.1 ≠ none := h2.there
  have n1 : q.1 ∉ adr o1 := fun hm => (S.sub _ hm).elim n0 hq
  refine ⟨n1, ⟨R'.ex, fun r hr => ?_, List.nodup_cons.mpr ⟨n1, R'.nd⟩⟩, S.ex, fun p u h hn => S.keep p u h fun hm => hn (List.mem_cons_of_mem _ hm), fun p h hn => S.free p h fun hm => hn (List.mem_cons_of_mem _ hm), fun p hp => ?_, S.there⟩
  · rcases List.mem_cons.mp hr with e | hr
    · subst e
      exact ⟨S.free _ hq n0 h1, OAt.monoH (fun u e => S.keep _ u e n0) (OAt.monoB S.ex h2)⟩
    · exact R'.own r hr
  · rcases List.mem_cons.mp hp with e | hp
    · exact .inl (by rw [e]; exact List.mem_cons_self)
    · exact (S.sub p hp).imp (List.mem_cons_of_mem _) id
theorem put_head {p : Addr} {u w : O} {o : Own} : put p w ((p, u) :: o) = (p, w) :: o := by
  unfold put
  rw [if_pos rfl]
theorem small1 {n : Nat} (h : n < 100000) : n < sizeLine := Nat.lt_of_lt_of_le h (by decide)
theorem en_lc {S α : Type} {wi : TI} {g : TG} {tt : TT} {vs : List Nat} (xs : List α) (enc : α → D) (Os : S → Own) (I : List α → S → Prop) (s0 : S) (st : S → α → S) (f : S → α → Bool) (gv : S → α → D)
    (hi : EvI K wi Γ o (xs.map enc) o1) (ho : Os s0 = o1) (hI : I [] s0) (hz : xs.length ≤ 100000 := by exact Nat.le_of_ble_eq_true rfl)
    (hb : ∀ pre x post s, xs = pre ++ x :: post → I pre s → I (pre ++ [x]) (st s x) ∧ ∃ Γ2 om, EvGc K vs g (enc x) (wipeG Γ vs) Γ2 ∧ EvT K tt Γ2 (Os s) (f s x) om ∧ (f s x = true → Ev K te Γ2 om (gv s x) (Os (st s x))) ∧ (f s x = false → om = Os (st s x))) :
    EvN K (tLc wi g tt te vs) Γ o (.lst (lcRun st f gv s0 xs).1) (Os (lcRun st f gv s0 xs).2) := fun σ Hb H Q S R k => by
  refine hi σ Hb H _ S R fun J Hb1 H1 S1 R1 Y => ?_
  intro p hp
  have np1 : Hb1 p = none := fresh_back R1.ex hp
  refine ⟨fun i m H' => i + m = xs.length ∧ ∃ Hb', I (xs.take i) (lcRun st f gv s0 (xs.take i)).2 ∧ p ∉ adr (Os (lcRun st f gv s0 (xs.take i)).2) ∧ Stp o1 Hb1 H1 ((p, .lst (lcRun st f gv s0 (xs.take i)).1) :: Os (lcRun st f gv s0 (xs.take i)).2) Hb' H' ∧ Rep K Hb' ((p, .lst (lcRun st f gv s0 (xs.take i)).1) :: Os (lcRun st f gv s0 (xs.take i)).2) H',
    ⟨xs.length, by omega, Hb1, hI, by show p ∉ adr (Os s0); rw [ho]; exact not_own R1 hp, by show Stp o1 Hb1 H1 ((p, .lst []) :: Os s0) Hb1 _; rw [ho]; exact Stp.newO hp, by show Rep K Hb1 ((p, .lst []) :: Os s0) _; rw [ho]; exact R1.newO hp ⟨[], upd_same, .nil⟩⟩, ?_⟩
  rintro i m H' ⟨hm, Hb', hIs, hn, S', R'⟩
  obtain ⟨y1, y2⟩ := Y i Hb' H' _ S'.ex R'
  by_cases hlt : i < xs.length
  · right
    have ex : xs[i]? = some xs[i] := List.getElem?_eq_getElem hlt
    have split : xs = xs.take i ++ xs[i] :: xs.drop (i + 1) := by rw [← List.drop_eq_getElem_cons hlt, List.take_append_drop]
    have et : xs.take (i + 1) = xs.take i ++ [xs[i]] := by rw [List.take_succ, ex]; rfl
    obtain ⟨go, yl⟩ := y1 (enc xs[i]) (by rw [List.getElem?_map, ex]; rfl)
    refine ⟨go, ?_⟩
    obtain ⟨hIn, Γ2, om, hg, htt, hte, htf⟩ := hb _ _ _ _ split hIs
    have er : lcRun st f gv s0 (xs.take (i + 1)) = ((lcRun st f gv s0 (xs.take i)).1 ++ (if f (lcRun st f gv s0 (xs.take i)).2 xs[i] = true then [gv (lcRun st f gv s0 (xs.take i)).2 xs[i]] else []), st (lcRun st f gv s0 (xs.take i)).2 xs[i]) := by
      rw [et, lcRun_app]
      rfl
    have hlen := lcRun_len st f gv s0 (xs.take i)
    rw [List.length_take] at hlen
    generalize lcRun st f gv s0 (xs.take i) = cur at *
    obtain ⟨acc, s⟩ := cur
    dsimp only at *
    refine ⟨fun H2 => ∃ Hb2, Stp o1 Hb1 H1 ((p, .lst (acc ++ (if f s xs[i] = true then [gv s xs[i]] else []))) :: Os (st s xs[i])) Hb2 H2 ∧ p ∉ adr (Os (st s xs[i])) ∧ Rep K Hb2 ((p, .lst (acc ++ (if f s xs[i] = true then [gv s xs[i]] else []))) :: Os (st s xs[i])) H2, ?_, ?_⟩
    · rintro H2 ⟨Hb2, a1, a2, a3⟩
      exact ⟨m - 1, by omega, by omega, Hb2, by rw [er, et]; exact hIn, by rw [er]; exact a2, by rw [er]; exact a1, by rw [er]; exact a3⟩
    · intro x H2 hx
      obtain ⟨Hb2, S2, R2, a2⟩ := yl x H2 hx
      -- the block runs with the own things but the list
      have R2' : Rep K Hb2 (Os s) H2 := R2.drop (List.sublist_cons_self _ _)
      refine hg (wipe σ vs) Hb2 H2 _ x _ (((S.mono S1.ex).mono (S'.ex.trans S2.ex)).wipe vs) R2' a2 fun σ3 e3 s3 => ⟨e3.trans (wipe_wipe vs), ?_⟩
      refine htt σ3 Hb2 H2 _ s3 R2' fun Hb3 H3 S3 R3 => ?_
      obtain ⟨n3, F3, T3⟩ := R2.frame S3 R3
      cases hf : f s xs[i] with
      | true =>
        refine hte hf σ3 Hb3 H3 _ (s3.mono S3.ex) R3 fun v Hb4 H4 S4 R4 a4 => ?_
        obtain ⟨n4, F4, T4⟩ := F3.frame S4 R4
        obtain ⟨nb, ys, hy, ha⟩ := F4.own (p, .lst acc) List.mem_cons_self
        have hlen : acc.length ≤ i := by
          have := hlen
          omega
        have hw : OAt K Hb4 (upd H4 p (.lst (ys ++ [v]))) p (.lst (acc ++ [gv s xs[i]])) := ⟨_, upd_same, ha.append (.cons a4 .nil)⟩
        have F5 := F4.put (w := .lst (acc ++ [gv s xs[i]])) List.mem_cons_self hw
        have T5 := Stp.put (K := K) (u := .lst (ys ++ [v])) (w := .lst (acc ++ [gv s xs[i]])) F4 List.mem_cons_self
        rw [put_head] at F5 T5
        exact ⟨ys, hy, small1 (by rw [ha.length]; omega), Hb4, (((S'.trans S2).trans T3).trans T4).trans T5, n4, F5⟩
      | false =>
        have eo := htf hf
        subst eo
        simp only [Bool.false_eq_true, if_false, List.append_nil]
        exact ⟨Hb3, (S'.trans S2).trans T3, n3, F3⟩
  · left
    refine ⟨y2 (by rw [List.length_map]; omega), ?_⟩
    have et : xs.take i = xs := List.take_of_length_le (by omega)
    rw [et] at hn S' R'
    refine k p Hb' H' hn ?_ ?_ R'
    · exact S1.none hp
    · exact S1.trans S'
/-- .. that draws nothing -/
theorem en_lcP {α : Type} {wi : TI} {g : TG} {tt : TT} {vs : List Nat} (xs : List α) (enc : α → D) (f : α → Bool) (gv : α → D)
    (hi : EvI K wi Γ o (xs.map enc) o1) (hb : ∀ x ∈ xs, ∃ Γ2, EvGc K vs g (enc x) (wipeG Γ vs) Γ2 ∧ EvT K tt Γ2 o1 (f x) o1 ∧ (f x = true → Ev K te Γ2 o1 (gv x) o1)) (hz : xs.length ≤ 100000 := by exact Nat.le_of_ble_eq_true rfl) :
    EvN K (tLc wi g tt te vs) Γ o (.lst ((xs.filter f).map gv)) o1 := by
  have h := en_lc (K := K) (Γ := Γ) (o := o) (te := te) (g := g) (tt := tt) (vs := vs) xs enc (fun _ : Unit => o1) (fun _ _ => True) () (fun s _ => s) (fun _ x => f x) (fun _ x => gv x) hi rfl trivial hz fun pre x post s e _ => ⟨trivial, by
    obtain ⟨Γ2, a, b, c⟩ := hb x (by rw [e]; simp)
    exact ⟨Γ2, o1, a, b, c, fun _ => rfl⟩⟩
  rw [lcRun_pure] at h
  exact h
theorem ev_lcP {α : Type} {wi : TI} {g : TG} {tt : TT} {vs : List Nat} (xs : List α) (enc : α → D) (f : α → Bool) (gv : α → D)
    (hi : EvI K wi Γ o (xs.map enc) o1) (hb : ∀ x ∈ xs, ∃ Γ2, EvGc K vs g (enc x) (wipeG Γ vs) Γ2 ∧ EvT K tt Γ2 o1 (f x) o1 ∧ (f x = true → Ev K te Γ2 o1 (gv x) o1)) (hz : xs.length ≤ 100000 := by exact Nat.le_of_ble_eq_true rfl) :
    Ev K (tLc wi g tt te vs) Γ o (.lst ((xs.filter f).map gv)) o1 := ev_ofN (en_lcP xs enc f gv hi hb hz)
/-- .. without a test -/
theorem en_lcM {α : Type} {wi : TI} {g : TG} {vs : List Nat} (xs : List α) (enc : α → D) (gv : α → D)
    (hi : EvI K wi Γ o (xs.map enc) o1) (hb : ∀ x ∈ xs, ∃ Γ2, EvGc K vs g (enc x) (wipeG Γ vs) Γ2 ∧ Ev K te Γ2 o1 (gv x) o1) (hz : xs.length ≤ 100000 := by exact Nat.le_of_ble_eq_true rfl) :
    EvN K (tLc wi g tYes te vs) Γ o (.lst (xs.map gv)) o1 := by
  have h := en_lcP (K := K) (Γ := Γ) (o := o) (te := te) (g := g) (tt := tYes) (vs := vs) xs enc (fun _ => true) gv hi (fun x hx => by
    obtain ⟨Γ2, a, b⟩ := hb x hx
    exact ⟨Γ2, a, et_yes, fun _ => b⟩) hz
  rw [List.filter_eq_self.mpr (fun _ _ => rfl)] at h
  exact h
theorem ev_lcM {α : Type} {wi : TI} {g : TG} {vs : List Nat} (xs : List α) (enc : α → D) (gv : α → D)
    (hi : EvI K wi Γ o (xs.map enc) o1) (hb : ∀ x ∈ xs, ∃ Γ2, EvGc K vs g (enc x) (wipeG Γ vs) Γ2 ∧ Ev K te Γ2 o1 (gv x) o1) (hz : xs.length ≤ 100000 := by exact Nat.le_of_ble_eq_true rfl) :
    Ev K (tLc wi g tYes te vs) Γ o (.lst (xs.map gv)) o1 := ev_ofN (en_lcM xs enc gv hi hb hz)

/-! ### own lists -/
theorem ev_var_ref {i : Nat} {p : Addr} (h : Γ[i]? = some (some (.ref p))) : Ev K (tVar i) Γ o (.ref p) o := ev_var h
/-- xs.append(e) -/
theorem does_app {p : Addr} {ds0 ds : List D} (hl : Ev K ta Γ o (.ref p) o) (h0 : (p, O.lst ds0) ∈ o) (h : Ev K te Γ o d o1) (hp : (p, O.lst ds) ∈ o1) (hz : ds.length < 100000) :
    Does K W (tDrop (tBM K "list" rAppend ta (tCons te tNil))) Γ o (.nx Γ (put p (.lst (ds ++ [d])) o1)) := fun σ Hb H D S R P => by
  refine hl σ Hb H _ S R fun v Hb1 H1 S1 R1 a1 => ?_
  cases a1
  obtain ⟨_, xs0, hx0, _⟩ := R1.own _ h0
  refine ⟨.inl ⟨rfl, xs0, .inl (.inl hx0)⟩, ?_⟩
  refine h σ Hb1 H1 _ (S.mono S1.ex) R1 fun v Hb2 H2 S2 R2 a2 => ?_
  obtain ⟨_, xs, hx, ha⟩ := R2.own _ hp
  have hm : p ∈ adr o1 := List.mem_map_of_mem (f := Prod.fst) hp
  refine ⟨p, xs, v, rfl, rfl, hx, small1 (by rw [ha.length]; exact hz), ?_⟩
  exact P σ Hb2 _ ((S1.trans S2).trans (Stp.put R2 hm)) (R2.put hm ⟨_, upd_same, ha.append (.cons a2 .nil)⟩) (S.mono (S1.ex.trans S2.ex))
/-- xs[i] = e -/
theorem does_setL {p : Addr} {ds : List D} {i : Int} {j : Nat} {o3 : Own} (h : Ev K te Γ o d o1) (hl : Ev K ta Γ o1 (.ref p) o2) (hi : Ev K tb Γ o2 (.int i) o3) (hp : (p, O.lst ds) ∈ o3) (hj : ixN ds.length i = some j) :
    Does K W (tAsg te (gSub ta tb rSetL)) Γ o (.nx Γ (put p (.lst (ds.set j d)) o3)) := fun σ Hb H D S R P => by
  refine h σ Hb H _ S R fun v Hb1 H1 S1 R1 a1 => ?_
  refine hl σ Hb1 H1 _ (S.mono S1.ex) R1 fun w Hb2 H2 S2 R2 a2 => ?_
  cases a2
  refine hi σ Hb2 H2 _ (S.mono (S1.ex.trans S2.ex)) R2 fun w Hb3 H3 S3 R3 a3 => ?_
  cases a3
  obtain ⟨_, xs, hx, ha⟩ := R3.own _ hp
  have hm : p ∈ adr o3 := List.mem_map_of_mem (f := Prod.fst) hp
  refine ⟨p, xs, i, j, rfl, rfl, hx, by rw [ha.length]; exact hj, ?_⟩
  exact P σ Hb3 _ (((S1.trans S2).trans S3).trans (Stp.put R3 hm)) (R3.put hm ⟨_, upd_same, ha.set j (a1.mono (S2.ex.trans S3.ex))⟩) (S.mono ((S1.ex.trans S2.ex).trans S3.ex))
/-- xs[i] of an own list -/
theorem ev_ixO {p : Addr} {ds : List D} {i : Int} (hl : Ev K ta Γ o (.ref p) o1) (hi : Ev K tb Γ o1 (.int i) o2) (hp : (p, O.lst ds) ∈ o2) (hj : atI ds i = some d) : Ev K (tOp (rIx K) ta tb) Γ o d o2 := fun σ Hb H Q S R k => by
  refine hl σ Hb H _ S R fun w Hb2 H2 S2 R2 a2 => ?_
  cases a2
  refine hi σ Hb2 H2 _ (S.mono S2.ex) R2 fun w Hb3 H3 S3 R3 a3 => ?_
  cases a3
  obtain ⟨_, xs, hx, ha⟩ := R3.own _ hp
  unfold atI at hj
  cases q : ixN ds.length i with
  | none => rw [q] at hj; cases hj
  | some j =>
    rw [q] at hj
    obtain ⟨v, hv, av⟩ := ha.get hj
    refine .inl ⟨p, xs, i, v, rfl, rfl, .inl (.inl hx), ?_, k v Hb3 H3 (S2.trans S3) R3 av⟩
    unfold atI
    rw [ha.length, q]
    exact hv
theorem bin_ixL {ds : List D} {i : Int} (h : atI ds i = some d) : Bin K (rIx K) (.lst ds) (.int i) o d := fun v u Hb H Q R a1 a2 k => by
  obtain ⟨a, xs, rfl, s1, t1⟩ := a1.lst_inv
  cases a2
  unfold atI at h
  cases q : ixN ds.length i with
  | none => rw [q] at h; cases h
  | some j =>
    rw [q] at h
    obtain ⟨v, hv, av⟩ := t1.get h
    refine .inl ⟨a, xs, i, v, rfl, rfl, .inl (Evl.ex_rd R.ex s1), ?_, k v Hb H Stp.refl R av⟩
    unfold atI
    rw [t1.length, q]
    exact hv
theorem bin_ixT {ds : List D} {i : Int} (h : atI ds i = some d) : Bin K (rIx K) (.tup ds) (.int i) o d := fun v u Hb H Q R a1 a2 k => by
  obtain ⟨a, xs, rfl, s1, t1⟩ := a1.tup_inv
  cases a2
  unfold atI at h
  cases q : ixN ds.length i with
  | none => rw [q] at h; cases h
  | some j =>
    rw [q] at h
    obtain ⟨v, hv, av⟩ := t1.get h
    refine .inr (.inl ⟨a, xs, i, v, rfl, rfl, Evl.ex_t R.ex s1, ?_, k v Hb H Stp.refl R av⟩)
    unfold atI
    rw [t1.length, q]
    exact hv
theorem bin_ixS {x : Str} {i : Int} {c : Nat} (hz : x.length ≤ 100000) (h : atI x.cps.toList i = some c) : Bin K (rIx K) (.str x) (.int i) o (.str ⟨#[c]⟩) := fun v u Hb H Q R a1 a2 k => by
  cases a1
  cases a2
  exact .inr (.inr ⟨x, i, c, rfl, rfl, sz_of hz, h, k _ Hb H Stp.refl R (.str _)⟩)
theorem atI_nat {α : Type} {xs : List α} {j : Nat} {x : α} (h : xs[j]? = some x) : atI xs (j : Int) = some x := by
  have hl := (List.getElem?_eq_some_iff.mp h).1
  unfold atI ixN
  rw [if_pos (by omega), if_pos (by omega)]
  exact h

/-! ### own dicts with text and int keys -/
def valD (kvs : List (Key × D)) (k : Key) : Option D := (kvs.find? fun r => decide (r.1 = k)).map (·.2)
def putD (kvs : List (Key × D)) (k : Key) (d : D) : List (Key × D) :=
  if (kvs.any fun kv => decide (kv.1 = k)) = true then kvs.map (fun kv => if kv.1 = k then (kv.1, d) else kv) else kvs ++ [(k, d)]
abbrev PD (K : PySem.W.Frag) (Hb : Hp) : List (Key × V) → List (Key × D) → Prop := Paired (fun (q : Key × V) (r : Key × D) => q.1 = r.1 ∧ At K Hb q.2 r.2)
theorem val_of {Hb : Hp} {k : Key} : ∀ {ys : List (Key × V)} {kvs : List (Key × D)}, PD K Hb ys kvs → (∀ {d : D}, valD kvs k = some d → ∃ v, valV ys k = some v ∧ At K Hb v d) ∧ (valD kvs k = none → valV ys k = none)
  | _, _, .nil => ⟨(fun h => nomatch h), (fun _ => rfl)⟩
  | y :: ys, r :: rs, .cons q t => by
    obtain ⟨q1, q2⟩ := q
    unfold valV valD
    rw [List.find?_cons, List.find?_cons, q1]
    by_cases e : r.1 = k
    · rw [decide_eq_true e]
      refine ⟨fun h => ?_, fun h => ?_⟩
      · cases h
        exact ⟨y.2, rfl, q2⟩
      · cases h
    · rw [decide_eq_false e]
      exact val_of t
theorem put_of {Hb : Hp} {k : Key} {v : V} (a : At K Hb v d) {ys : List (Key × V)} {kvs : List (Key × D)} (h : PD K Hb ys kvs) : PD K Hb (putK ys k v) (putD kvs k d) := by
  have e : ∀ {ys : List (Key × V)} {kvs : List (Key × D)}, PD K Hb ys kvs → (ys.any fun kv => decide (kv.1 = k)) = kvs.any fun kv => decide (kv.1 = k) := by
    intro ys
    induction ys with
    | nil => intro kvs h; cases h; rfl
    | cons y r ih =>
      intro kvs h
      cases h with
      | cons q t => rw [List.any_cons, List.any_cons, ih t, q.1]
  have m : ∀ {ys : List (Key × V)} {kvs : List (Key × D)}, PD K Hb ys kvs → PD K Hb (ys.map (fun kv => if kv.1 = k then (kv.1, v) else kv)) (kvs.map (fun kv => if kv.1 = k then (kv.1, d) else kv)) := by
    intro ys
    induction ys with
    | nil => intro kvs h; cases h; exact .nil
    | cons y r ih =>
      intro kvs h
      cases h with
      | @cons _ r0 _ _ q t =>
        rw [List.map_cons, List.map_cons]
        refine .cons ?_ (ih t)
        obtain ⟨q1, q2⟩ := q
        by_cases z : r0.1 = k
        · rw [if_pos z, if_pos (q1.trans z)]
          exact ⟨q1, a⟩
        · rw [if_neg z, if_neg (fun y => z (q1.symm.trans y))]
          exact ⟨q1, q2⟩
  have ap : ∀ {ys : List (Key × V)} {kvs : List (Key × D)}, PD K Hb ys kvs → PD K Hb (ys ++ [(k, v)]) (kvs ++ [(k, d)]) := by
    intro ys
    induction ys with
    | nil => intro kvs h; cases h; exact .cons ⟨rfl, a⟩ .nil
    | cons y r ih =>
      intro kvs h
      cases h with
      | cons q t => exact .cons q (ih t)
  unfold putK putD
  rw [e h]
  split
  · exact m h
  · exact ap h
def keyD : Key → D
  | .inl i => .int i
  | .inr x => .str x
theorem key_at {Hb : Hp} {v : V} : ∀ {k : Key}, At K Hb v (keyD k) → v = kV k
  | .inl i, h => by cases h; rfl
  | .inr x, h => by cases h; rfl
/-- d[k] of an own dict -/
theorem ev_dget {p : Addr} {kvs : List (Key × D)} (k : Key) (hl : Ev K ta Γ o (.ref p) o1) (hi : Ev K tb Γ o1 (keyD k) o2) (hp : (p, O.dK kvs) ∈ o2) (hv : valD kvs k = some d) : Ev K (tDGet ta tb) Γ o d o2 := fun σ Hb H Q S R q => by
  refine hl σ Hb H _ S R fun w Hb2 H2 S2 R2 a2 => ?_
  cases a2
  refine hi σ Hb2 H2 _ (S.mono S2.ex) R2 fun w Hb3 H3 S3 R3 a3 => ?_
  have ew := key_at a3
  subst ew
  obtain ⟨_, ys, hy, ha⟩ := R3.own _ hp
  obtain ⟨v, h1, h2⟩ := (val_of ha).1 hv
  exact ⟨p, v, rfl, .inl ⟨ys, k, .inl hy, rfl, h1.symm⟩, q v Hb3 H3 (S2.trans S3) R3 h2⟩
/-- d[k] = e -/
theorem does_dput {p : Addr} {kvs : List (Key × D)} {o3 : Own} (k : Key) (h : Ev K te Γ o d o1) (hl : Ev K ta Γ o1 (.ref p) o2) (hi : Ev K tb Γ o2 (keyD k) o3) (hp : (p, O.dK kvs) ∈ o3) (hz : kvs.length < 100000 := by exact Nat.le_of_ble_eq_true rfl) :
    Does K W (sDPut ta tb te) Γ o (.nx Γ (put p (.dK (putD kvs k d)) o3)) := fun σ Hb H D S R P => by
  refine h σ Hb H _ S R fun v Hb1 H1 S1 R1 a1 => ?_
  refine hl σ Hb1 H1 _ (S.mono S1.ex) R1 fun w Hb2 H2 S2 R2 a2 => ?_
  cases a2
  refine hi σ Hb2 H2 _ (S.mono (S1.ex.trans S2.ex)) R2 fun w Hb3 H3 S3 R3 a3 => ?_
  have ew := key_at a3
  subst ew
  obtain ⟨_, ys, hy, ha⟩ := R3.own _ hp
  have hm : p ∈ adr o3 := List.mem_map_of_mem (f := Prod.fst) hp
  refine ⟨p, _, rfl, .inl ⟨ys, k, hy, rfl, small1 (by rw [PySem.Paired.length ha]; exact hz), rfl⟩, ?_⟩
  exact P σ Hb3 _ (((S1.trans S2).trans S3).trans (Stp.put R3 hm)) (R3.put hm ⟨_, upd_same, put_of (a1.mono (S2.ex.trans S3.ex)) ha⟩) (S.mono ((S1.ex.trans S2.ex).trans S3.ex))
/-- the pairs of a display -/
def EvPs (K : PySem.W.Frag) (trs : List (TE × TE)) (Γ : G) (o : Own) (kvs : List (Key × D)) (o' : Own) : Prop := ∀ (σ : St) (Hb H : Hp) (Q : List (V × V) → Hp → Prop), Sl K Hb σ Γ → Rep K Hb o H →
  (∀ ys Hb' H', Stp o Hb H o' Hb' H' → Rep K Hb' o' H' → PD K Hb' ys kvs → Q (ys.map fun kv => (kV kv.1, kv.2)) H') → tPairs trs σ H Q
theorem eps_nil : EvPs K [] Γ o [] o := fun σ Hb H Q S R k => k [] Hb H Stp.refl R .nil
theorem eps_cons {trs : List (TE × TE)} {kvs : List (Key × D)} {o3 : Own} (k : Key) (hk : Ev K ta Γ o (keyD k) o1) (hv : Ev K tb Γ o1 d o2) (hr : EvPs K trs Γ o2 kvs o3) : EvPs K ((ta, tb) :: trs) Γ o ((k, d) :: kvs) o3 := fun σ Hb H Q S R q =>
  hk σ Hb H _ S R fun v Hb1 H1 S1 R1 a1 => hv σ Hb1 H1 _ (S.mono S1.ex) R1 fun u Hb2 H2 S2 R2 a2 => hr σ Hb2 H2 _ (S.mono (S1.ex.trans S2.ex)) R2 fun ys Hb3 H3 S3 R3 a3 => by
    have ew := key_at a1
    subst ew
    exact q ((k, u) :: ys) Hb3 H3 ((S1.trans S2).trans S3) R3 (.cons ⟨rfl, a2.mono S3.ex⟩ a3)
theorem merge_of {Hb : Hp} : ∀ {ys : List (Key × V)} {kvs : List (Key × D)} {zs : List (Key × V)} {ws : List (Key × D)}, PD K Hb zs ws → PD K Hb ys kvs → PD K Hb (mergeK zs ys) (kvs.foldl (fun acc kv => putD acc kv.1 kv.2) ws)
  | _, _, _, _, h, .nil => h
  | y :: ys, r :: rs, zs, ws, h, .cons q t => by
    obtain ⟨q1, q2⟩ := q
    show PD K Hb (mergeK (putK zs y.1 y.2) ys) (rs.foldl (fun acc kv => putD acc kv.1 kv.2) (putD ws r.1 r.2))
    rw [q1]
    exact merge_of (put_of q2 h) t
/-- {k: v, ..}, one's own -/
theorem en_disp {trs : List (TE × TE)} {kvs : List (Key × D)} (h : EvPs K trs Γ o kvs o1) (hz : kvs.length ≤ 15 := by exact Nat.le_of_ble_eq_true rfl) : EvN K (tDisp trs) Γ o (.dK (kvs.foldl (fun acc kv => putD acc kv.1 kv.2) [])) o1 := fun σ Hb H Q S R k => fun p hp => by
  have R0 : Rep K Hb ((p, .dK []) :: o) (upd H p (.dK [])) := R.newO hp ⟨[], upd_same, .nil⟩
  have T0 : Stp o Hb H ((p, .dK []) :: o) Hb (upd H p (.dK [])) := Stp.newO hp
  refine h σ Hb _ _ S (R0.drop (List.sublist_cons_self _ _)) fun ys Hb1 H1 S1 R1 a1 => ?_
  obtain ⟨n1, F1, T1⟩ := R0.frame S1 R1
  obtain ⟨_, zs, hz1, hz2⟩ := F1.own _ List.mem_cons_self
  have ez : zs = [] := by cases hz2; rfl
  subst ez
  refine ⟨hz1, ys, rfl, by rw [PySem.Paired.length a1]; exact hz, ?_⟩
  have F2 := F1.put (w := .dK (kvs.foldl (fun acc kv => putD acc kv.1 kv.2) [])) (u := .dK (mergeK [] ys)) List.mem_cons_self ⟨_, upd_same, merge_of .nil a1⟩
  have T2 := Stp.put (K := K) (u := .dK (mergeK [] ys)) (w := .dK (kvs.foldl (fun acc kv => putD acc kv.1 kv.2) [])) F1 List.mem_cons_self
  rw [put_head] at F2 T2
  exact k p Hb1 _ n1 hp ((T0.trans T1).trans T2) F2
theorem en_newL (h : EvA K tNil Γ o [] o) : EvN K (tLst tNil) Γ o (.lst []) o := en_lst ea_nil (by decide)

/-! ### a statement, then the rest -/
theorem does_setq {i : Nat} (h : Ev K te Γ o d o1) (k : Does K W u (Γ.set i (some d)) o1 out) : Does K W (tSeq (tAsg te (gName i)) u) Γ o out := (does_set h).seq k
theorem does_asgq {g : TG} (h : Ev K te Γ o d o1) (hg : EvG K g d Γ Γ1) (k : Does K W u Γ1 o1 out) : Does K W (tSeq (tAsg te g) u) Γ o out := (does_asg h hg).seq k
theorem does_dropq (h : Ev K te Γ o d o1) (k : Does K W u Γ o1 out) : Does K W (tSeq (tDrop te) u) Γ o out := (does_drop h).seq k
/-- an if without else whose test fails -/
theorem does_ifF {tc : TT} (h : EvT K tc Γ o false o1) (k : Does K W u Γ o1 out) : Does K W (tSeq (tIfS tc t tNext) u) Γ o out := does_ifq h (fun z => nomatch z) fun _ => does_nextq k
theorem does_ifF1 {tc : TT} (h : EvT K tc Γ o false o1) : Does K W (tIfS tc t tNext) Γ o (.nx Γ o1) := does_if h (fun z => nomatch z) fun _ => does_next
/-! ### defs and their calls -/
abbrev FS := List D → Own → Out → Prop
def PostF (K : PySem.W.Frag) (E : XK) (Hb H : Hp) (o : Own) (Q : VK) : Out → Prop
  | .rt d o' => PRt K Hb H o d o' Q
  | .rn u o' => PRn K Hb H o u o' Q
  | .er C f d _ o' => ∀ dx v Hb' H', Stp o Hb H o' Hb' H' → Rep K Hb' o' H' → H' dx = some (.xd [(f, v)]) → At K Hb' v d → E (.ref C) (some dx) H'
  | _ => False
def spF (K : PySem.W.Frag) (n : Nat) (F : FS) : Sp := fun vs H Q E => vs.length = n ∧ ∃ Hb o ds out, Rep K Hb o H ∧ AtL K Hb vs ds ∧ F ds o out ∧ PostF K E Hb H o Q out
/-- the slots at the entry -/
def startG (N : List Str) (ds : List D) : G := ds.map some ++ List.replicate (N.length - ds.length) none
theorem sl_start {Hb : Hp} {N : List Str} {vs : List V} {ds : List D} (h : AtL K Hb vs ds) : Sl K Hb (L2.start N vs) (startG N ds) := by
  unfold L2.start startG
  rw [h.length]
  have k2 : ∀ n : Nat, Sl K Hb (List.replicate n none) (List.replicate n none) := by
    intro n
    induction n with
    | zero => exact .nil
    | succ n ih => exact .cons (show SlE K Hb none none from trivial) ih
  have k1 : ∀ {vs : List V} {ds : List D}, AtL K Hb vs ds → ∀ (n : Nat), Sl K Hb (vs.map some ++ List.replicate n none) (ds.map some ++ List.replicate n none) := by
    intro vs
    induction vs with
    | nil => intro ds h n; cases h; exact k2 n
    | cons v r ih =>
      intro ds h n
      cases h with
      | cons a t => exact .cons a (ih t n)
  exact k1 h _
/-- the ends of a def's body that are what the def is told to do -/
def Out.ends : Out → Out → Prop
  | .nx _ o, out => out = .rt .non o
  | x, out => out = x
theorem go {E : XK} {N : List Str} {Hb H : Hp} {vs : List V} {ds : List D} {Q : VK} {out' : Out} (Dn : Does K (fun c x _ H => E c x H) t (startG N ds) o out') (e : out'.ends out) (R : Rep K Hb o H) (A : AtL K Hb vs ds) (P : PostF K E Hb H o Q out) :
    t { nx := fun _ H' => Q .non H', rt := Q } (L2.start N vs) H := by
  refine Dn (L2.start N vs) Hb H _ (sl_start A) R ?_
  cases out' with
  | nx Γ' o' =>
    have e : out = .rt .non o' := e
    subst e
    exact fun σ' Hb' H' S' R' _ => P _ Hb' H' S' R' .non
  | rt d o' => have e : out = .rt d o' := e; subst e; exact P
  | rn d o' => have e : out = .rn d o' := e; subst e; exact P
  | on Γ' o' => have e : out = .on Γ' o' := e; subst e; exact P.elim
  | bk Γ' o' => have e : out = .bk Γ' o' := e; subst e; exact P.elim
  | er C f d Γ' o' => have e : out = .er C f d Γ' o' := e; subst e; exact fun dx v σ' Hb' H' S' R' _ h a => P dx v Hb' H' S' R' h a
def Out.calm : Out → Bool
  | .er _ _ _ _ _ => false
  | _ => true
theorem go0 {N : List Str} {Hb H : Hp} {vs : List V} {ds : List D} {Q : VK} {E : XK} {out' : Out} (Dn : Does K (fun _ _ _ _ => False) t (startG N ds) o out') (e : out'.ends out) (c : out'.calm = true) (R : Rep K Hb o H) (A : AtL K Hb vs ds) (P : PostF K E Hb H o Q out) :
    t { nx := fun _ H' => Q .non H', rt := Q } (L2.start N vs) H := by
  refine go (E := E) (fun σ Hb H D S R P => Dn σ Hb H D S R ?_) e R A P
  cases out' <;> first | exact P | cases c
theorem ev_call {n : Nat} {F : FS} {dvs : List V} {dd : List D} {E : XK} {ds : List D} (h : EvA K ta' Γ o ds o1) (hd : ∀ Hb, AtL K Hb dvs dd) (hn : ds.length + dd.length = n) (hF : F (ds ++ dd) o1 (.rt d o2)) : Ev K (tCall (spF K n F) dvs E ta') Γ o d o2 := fun σ Hb H Q S R k =>
  h σ Hb H _ S R fun vs Hb1 H1 S1 R1 a1 => ⟨by rw [List.length_append, a1.length, (hd Hb1).length]; exact hn, Hb1, o1, ds ++ dd, .rt d o2, R1, a1.append (hd Hb1), hF, fun v Hb2 H2 S2 R2 a2 => k v Hb2 H2 (S1.trans S2) R2 a2⟩
theorem en_call {n : Nat} {F : FS} {dvs : List V} {dd : List D} {E : XK} {ds : List D} {u : O} (h : EvA K ta' Γ o ds o1) (hd : ∀ Hb, AtL K Hb dvs dd) (hn : ds.length + dd.length = n) (hF : F (ds ++ dd) o1 (.rn u o2)) : EvN K (tCall (spF K n F) dvs E ta') Γ o u o2 := fun σ Hb H Q S R k =>
  h σ Hb H _ S R fun vs Hb1 H1 S1 R1 a1 => ⟨by rw [List.length_append, a1.length, (hd Hb1).length]; exact hn, Hb1, o1, ds ++ dd, .rn u o2, R1, a1.append (hd Hb1), hF, fun p Hb2 H2 hp z S2 R2 => k p Hb2 H2 hp (S1.none z) (S1.trans S2) R2⟩
end
end Q

/-! QX0: an own class of exceptions is called, with keywords too -/
namespace Q
open PySem PySem.HandSPX
section
variable {M : Model} {A : Around} {E : Value → Shared → Prop} {h : Heap} {g : Array GenState} {d : Drawn} {t : Nat} {os : OsState}
variable {nm q : Str} {C N : Addr} {bs bm bmB : List Value} {hdct : Bool} {sn : List Str} {sub : List Value} {ab : Bool} {col : Option Bool} {dd : Option Addr} {k0 k1 k2 k3 k5 : Option Value} {B newId initId : String}
theorem x_check (F : ExcBaseFacts B newId initId bmB) (hT : ∀ X : String, bm.contains (.type X) = bmB.contains (.type X)) {rest : List Value} {kw : List (Str × Value)} {Q : Unit → Shared → Prop}
    (hC : h.get? C = some (excClassObj nm q C N bs bm hdct sn sub ab col dd k0 k1 k2 k3 k5 newId)) (hq : Q () ⟨h, g, d, t, os⟩) : wpAny M A (checkBuiltinCall newId ⟨.ref C :: rest, kw⟩) Q E ⟨h, g, d, t, os⟩ := by
  have hB : (Value.ref C :: bm).contains (.type B) = true := by rw [List.contains_cons, hT, F.hasB, Bool.or_true]
  have hs := F.noStar
  simp only [checkBuiltinCall, F.newKind, F.newSplit, F.newRow]
  repeat (first
    | refine wpAny_loadPart_at hC ?_
    | (refine wpAny_isSubtype_exc hC ?_; rw [hB])
    | refine wpAny_staticBase_exc hC ?_
    | refine wpAny_madeBy_exc hC ?_
    | simp only [bne_self_eq_false, Bool.false_eq_true, if_false]
    | wp_step)
  exact hq
end
section
variable {prog : Program} {w : World} {A : Around} {E : Value → Shared → Prop} {R : Result → Shared → Prop} {h : Heap} {g : Array GenState} {d : Drawn} {t : Nat} {os : OsState}
variable {nm q : Str} {C N : Addr} {bs bm bmB : List Value} {hdct : Bool} {sn : List Str} {sub : List Value} {ab : Bool} {col : Option Bool} {dd : Option Addr} {k0 k1 k2 k3 k5 : Option Value} {B newId initId : String}
/-- the raw object: the tuple of the arguments, then the exception -/
theorem x_new (F : ExcBaseFacts B newId initId bmB) (hT : ∀ X : String, bm.contains (.type X) = bmB.contains (.type X)) {rest : List Value} {kw : List (Str × Value)}
    (hC : h.get? C = some (excClassObj nm q C N bs bm hdct sn sub ab col dd k0 k1 k2 k3 k5 newId)) (hl : rest.length ≤ sizeLine)
    (hq : R (.ok (.ret (.ref (h.objs.size + 1)))) ⟨(h.push (W.kdv_tup rest)).push (excO C h.objs.size), g, d, t, os⟩) :
    codeAny (model prog w) A (.builtin newId ⟨.ref C :: rest, kw⟩) R ⟨h, g, d, t, os⟩ := by
  have hends := F.ends
  have hB : (Value.ref C :: bm).contains (.type B) = true := by rw [List.contains_cons, hT, F.hasB, Bool.or_true]
  have hA : (Value.ref C :: bm).contains (.type "AttributeError") = false := by rw [List.contains_cons, hT, F.noAttr]; rfl
  have hN : (Value.ref C :: bm).contains (.type "NameError") = false := by rw [List.contains_cons, hT, F.noName]; rfl
  refine codeAny_builtinAt F.entry (wpAt_bind ?_)
  show wpAt _ _ _ (stack >>= _) _ _ _
  refine wpAt_bind (wpAt_stack fun p below => wpAt_of_wpAny ?_)
  wp_walk
  refine wpAt_of_wpAny ?_
  rw [F.owner]
  repeat (first
    | with_reducible refine wpAny_madeHere_exc F.canon hC ?_
    | with_reducible refine wpAny_loadPart_at hC ?_
    | (with_reducible refine wpAny_isSubtype_exc hC ?_; first | rw [hB] | rw [hA] | rw [hN])
    | wp_step)
  show R _ _
  rw [Heap.size_push]
  exact hq

theorem x_typeCall (F : ExcBaseFacts B newId initId bmB) (hT : ∀ X : String, bm.contains (.type X) = bmB.contains (.type X)) {rest : List Value} {kw : List (Str × Value)} {fI : Addr} {Q : PySem.Fin → Shared → Prop}
    (hC : h.get? C = some (excClassObj nm q C N bs bm hdct sn sub ab col dd k0 k1 k2 k3 k5 newId)) (hl : rest.length ≤ sizeLine)
    (hi : W.Looks (model prog w) h (typeLookup (.ref C) "__init__") (some (.ref fI))) (hb : ∀ self, W.Looks (model prog w) h (bindSpecial (.ref fI) self) (.ref fI, [self]))
    (hq : codeAny (model prog w) A (.call (.ref fI) ⟨.ref (h.objs.size + 1) :: rest, kw⟩)
      (fun r s' => match r with | .ok (.ret v) => v = .none ∧ Q (.done (.ret (.ref (h.objs.size + 1)))) s' | .ok _ => False | .error e => E e s')
      ⟨(h.push (W.kdv_tup rest)).push (excO C h.objs.size), g, d, t, os⟩) :
    wpAny (model prog w) A (Builtin.«type.__call__» ⟨.ref C :: rest, kw⟩) Q E ⟨h, g, d, t, os⟩ := by
  repeat (first
    | with_reducible refine wpAny_loadPart_at hC ?_
    | with_reducible refine wpAny_madeBy_exc hC ?_
    | wp_step)
  refine codeAny_call_builtin_code (Code.quiet_builtin _ F.quiet) (x_check F hT hC ?_)
  refine x_new F hT hC hl ?_
  show wpAny _ _ _ _ _ _
  have kk : ∀ b o, h.get? b = some o → ((h.push (W.kdv_tup rest)).push (excO C h.objs.size)).get? b = some o := fun b o e => Heap.get?_push_of_some _ (Heap.get?_push_of_some _ e)
  have hC1 := kk _ _ hC
  have hg : ((h.push (W.kdv_tup rest)).push (excO C h.objs.size)).get? (h.objs.size + 1) = some (excO C h.objs.size) := by heap_get
  have hCC : (Value.ref C :: bm).contains (.ref C) = true := by simp
  have i1 := hi.keeps kk
  have b1 := (hb (.ref (h.objs.size + 1))).keeps kk
  unfold isInstance
  repeat (first
    | with_reducible refine wpAny_loadPart_at hg ?_
    | (with_reducible refine wpAny_isSubtype_exc hC1 ?_; rw [hCC])
    | wp_step)
  show wpAny _ _ (typeLookup (.ref C) _) _ _ _
  refine i1.at (wpAny_holding (wpAny_bind (b1.at (wpAny_bind (wpAny_call (codeAny_mono hq fun r s' z => ?_))))))
  rcases r with e | (v | _ | _ | _) <;> first | exact z | exact z.elim | skip
  obtain ⟨rfl, z⟩ := z
  first
    | exact wpAny_pure (wpAny_pure z)
    | (wp_walk
       exact z)

theorem x_call (F : ExcBaseFacts B newId initId bmB) (hT : ∀ X : String, bm.contains (.type X) = bmB.contains (.type X)) {rest : List Value} {kw : List (Str × Value)} {fI : Addr}
    (hC : h.get? C = some (excClassObj nm q C N bs bm hdct sn sub ab col dd k0 k1 k2 k3 k5 newId)) (hl : rest.length ≤ sizeLine)
    (hi : W.Looks (model prog w) h (typeLookup (.ref C) "__init__") (some (.ref fI))) (hb : ∀ self, W.Looks (model prog w) h (bindSpecial (.ref fI) self) (.ref fI, [self]))
    (hq : codeAny (model prog w) (A.under (.builtin "type.__call__" ⟨.ref C :: rest, kw⟩)) (.call (.ref fI) ⟨.ref (h.objs.size + 1) :: rest, kw⟩) (W.InitBack (h.objs.size + 1) R)
      ⟨(h.push (W.kdv_tup rest)).push (excO C h.objs.size), g, d, t, os⟩) :
    codeAny (model prog w) A (.call (.ref C) ⟨rest, kw⟩) R ⟨h, g, d, t, os⟩ := by
  have f1 := tc_lookup
  have f2 := tc_bind (.ref C)
  have hTy : (⟨h, g, d, t, os⟩ : Shared).TypeIs (.ref C) "type" := ⟨_, hC, rfl⟩
  refine codeAny_of_tree ?_
  show wpAny _ _ (callAny (.ref C) _) _ _ _
  repeat (any_goals (first
    | assumption
    | with_reducible refine wpAny_loadPart_at hC ?_
    | wp_step))
  refine ⟨rfl, codeAny_call_builtin_at (Code.quiet_builtin _ (by decide +kernel)) entry_typeCall ?_⟩
  refine wpAny_check_type_call_sub hC (x_typeCall F hT hC hl hi hb ?_)
  refine codeAny_mono hq fun r s' z => ?_
  rcases r with e | (v | _ | _ | _) <;> exact z
end
end Q

/-! QX1: exceptions of own classes as values: made, their field read, asked for their class, as a text -/
namespace Q
open PySem PySem.Spec PyProof.Rows L2
open Evl (Ex fresh_back)

/-- behind the base's __init__: the args at t, no dict yet -/
def exm (a C t : Addr) : HO := .ext fun h => h.get? a = some ({ cls := .ref C, data := .fields #[.ref t, .none, .none, .none, .bool false, .none] } : Obj)
structure XCls (K : PySem.W.Frag) (C fI : Addr) (f : Str) (bmB : List Value) (B newId initId : String) : Prop where
  base : ExcBaseFacts B newId initId bmB
  sto : StoreFacts B bmB "object.__setattr__" "object"
  ini : PySem.W.excInitIn K C bmB newId = true
  ovr : PySem.W.excOver K C bmB = true
  sa : PySem.W.findIn K (.ref C) "__setattr__" = some (some (.builtin "object.__setattr__"))
  hd : PySem.W.hasDictIn K C = true
  nf : PySem.W.findIn K (.ref C) f = some none
  fi : PySem.W.findIn K (.ref C) "__init__" = some (some (.ref fI))
  ti : PySem.W.typeIn K (.ref fI) = some (.type "function")
  kc : PySem.W.keepIn K (.ref C) = true
  ga : PySem.W.findIn K (.ref C) "__getattribute__" = some (some (.builtin "BaseException.__getattribute__"))
  gg : PySem.W.findIn K (.ref C) "__getattr__" = some none
  ex : PySem.W.subIn K (.ref C) (.type "BaseException") = some true
  ha : PySem.W.findIn K (.ref C) "__class__" = some (some (.builtin "object.__class__"))
  hm : PySem.W.mroIn K C (.type "object") = some true
  sr : PySem.W.findIn K (.ref C) "__str__" = some (some (.builtin "BaseException.__str__"))

section
variable {X : Cx} {pins : List (Addr × Obj)} {σ : St} {H : Hp} {s : Shared} {a p C t dx : Addr} {φ : Heap → Prop} {h' : Heap} {u w : HO} {t' : Nat}
theorem ext_ne {φ : Heap → Prop} {b : Addr} {v : HO} (ha : H a = some (.ext φ)) (hb : H b = some v) (n : ∀ ψ, v ≠ .ext ψ) : b ≠ a := fun e => by
  rw [e, ha] at hb
  exact n φ (Option.some.inj hb).symm
/-- an exception that is being made turns, a new thing is laid beside it -/
theorem inv_two (I : L2.Inv X pins σ H s) (ha : H a = some (.ext φ)) (hp : s.heap.objs.size ≤ p) (k : ∀ b o, b ≠ a → s.heap.get? b = some o → h'.get? b = some o) (hx : ∃ o, h'.get? a = some o)
    (op : ∀ H', ObjOk X.prog X.w H' h' p u) (oa : ∀ H', ObjOk X.prog X.w H' h' a w) : L2.Inv X pins σ (upd (upd H p u) a w) { s with heap := h', toks := t' } := by
  have hn : H p = none := I.hok.fresh hp
  have na : ∀ {b : Addr}, H b = none → b ≠ a := fun {b} n z => by rw [z, ha] at n; cases n
  have old : ∀ {b : Addr} {v : HO}, H b = some v → (∀ ψ, v ≠ .ext ψ) → upd (upd H p u) a w b = some v := fun {b v} q n => by rw [upd_ne (ext_ne ha q n), upd_ne (ne_of_none q hn)]; exact q
  have lt : ∀ {b : Addr} {o : Obj}, s.heap.get? b = some o → b ≠ p := fun {b o} q => Nat.ne_of_lt (Nat.lt_of_lt_of_le (Heap.lt_size q) hp)
  refine I.un ⟨fun b o q n _ _ => k b o (na n) q, fun b o q n _ _ => ⟨o.slots, k b o (na n) q⟩, fun b o q n _ => by rw [upd_ne (na n), upd_ne (lt q)]; exact n, fun b o q _ => ?_, fun b xs q => old q (fun _ z => nomatch z), fun b o v q => old q (fun _ z => nomatch z), fun b ps q => ⟨#[], by rw [old q (fun _ z => nomatch z)]; simp⟩⟩ fun b v q => ?_
  · by_cases e : b = a
    · rw [e]
      exact hx
    · exact ⟨o, k b o e q⟩
  · by_cases e : b = a
    · subst e
      rw [upd_same] at q
      cases q
      exact oa _
    · rw [upd_ne e] at q
      by_cases e2 : b = p
      · subst e2
        rw [upd_same] at q
        cases q
        exact op _
      · rw [upd_ne e2] at q
        refine (I.hok b v q).stay (fun c o hc z => k c o ?_ z) (fun c hc => old hc (fun _ z => nomatch z)) fun c xs hc => old hc (fun _ z => nomatch z)
        rcases hc with hc | hc
        · rw [hc]
          exact e
        · exact ext_ne ha hc (fun _ z => nomatch z)
theorem ext_ok {P : Program} {w : World} {H : Hp} {h : Heap} {a : Addr} {o : Obj} (e : h.get? a = some o) : ObjOk P w H h a (.ext fun h => h.get? a = some o) :=
  ⟨e, ⟨_, e⟩, fun h1 h2 z k => k _ z⟩
/-- B.__init__(self, msg) -/
theorem x_init {fI : Addr} {f : Str} {bmB : List Value} {B newId initId : String} {m : Str} {tm : Tok} {Q : Value → Shared → Prop} (T : XCls X.K C fI f bmB B newId initId) (I : L2.Inv X pins σ H s) (e : H a = some (L2.exo a C none))
    (h : ∀ t s', H t = none → t ≠ a → L2.Inv X pins σ (upd (upd H t (.tup [.str m])) a (exm a C t)) s' → Q .none s') :
    wpAny (model X.prog X.w) X.A (call (.builtin initId) [.ref a, .str m tm]) Q X.xe s := by
  obtain ⟨nm, N, q, bs, bm, hdct, sn, sub, ab, col, dd, k0, k1, k2, k3, k5, hC, hT⟩ := PySem.W.excInit_of I.kIn T.ini
  obtain ⟨t0, he⟩ := L2.exo_at I.hok e
  obtain ⟨hp, g, d, tk, os⟩ := s
  refine wpAny_call (codeAny_call_builtin T.base.init.plain T.base.initEntry (HandSPX.check_init_own T.base hT hC he rfl ?_))
  refine PySem.W.exc_init_tree (c2 := .none) (c3 := .none) (b4 := .bool false) he (by show 1 ≤ sizeLine; decide) fun h' k hx ht => ?_
  have hn : H hp.objs.size = none := I.hok.fresh (Nat.le_refl _)
  have ne : hp.objs.size ≠ a := Nat.ne_of_gt (Heap.lt_size he)
  refine h hp.objs.size _ hn ne (inv_two (t' := tk) I e (Nat.le_refl _) k ⟨_, hx⟩ (fun H' => ⟨by show 1 ≤ sizeLine; decide, [.str m tm], .cons ⟨_, rfl⟩ .nil, ⟨_, ht, rfl, 0, rfl⟩⟩) fun H' => ext_ok hx)
/-- self.f = y, the one field -/
theorem x_store {fI : Addr} {f : Str} {bmB : List Value} {B newId initId : String} {y : V} {v : Value} {Q : Unit → Shared → Prop} (T : XCls X.K C fI f bmB B newId initId) (I : L2.Inv X pins σ H s) (e : H a = some (exm a C t)) (ry : RelV y v)
    (h : ∀ dx s', H dx = none → dx ≠ a → L2.Inv X pins σ (upd (upd H dx (.xd [(f, y)])) a (exv a C dx t)) s' → Q () s') : wpAny (model X.prog X.w) X.A (setAttr (.ref a) f v) Q X.xe s := by
  have ho : s.heap.get? a = some ({ cls := .ref C, data := .fields #[.ref t, .none, .none, .none, .bool false, .none] } : Obj) := by
    have x : ObjOk X.prog X.w H s.heap a (.ext fun h => h.get? a = some ({ cls := .ref C, data := .fields #[.ref t, .none, .none, .none, .bool false, .none] } : Obj)) := I.hok a _ e
    exact x.1
  obtain ⟨cd, hcd, hdd⟩ := PySem.W.any_some T.hd
  obtain ⟨hp, g, d, tk, os⟩ := s
  refine PySem.W.set_plain I.kIn (ox := { cls := .ref C, dict := none, data := .fields #[.ref t, .none, .none, .none, .bool false, .none] }) (od := none) ⟨ho, rfl, rfl, trivial⟩ T.sa ?_
  refine PySem.W.osa_openX (r := none) (od := none) (ox := { cls := .ref C, dict := none, data := .fields #[.ref t, .none, .none, .none, .bool false, .none] }) T.sto I.kIn ⟨ho, rfl, rfl, trivial⟩ T.ovr (by unfold PySem.W.takerIn; rw [T.nf]; rfl) fun b => ?_
  have hn : H hp.objs.size = none := I.hok.fresh (Nat.le_refl _)
  have ne : hp.objs.size ≠ a := Nat.ne_of_gt (Heap.lt_size ho)
  refine wpAny_bind (wpAny_pure (wpAny_bind (PySem.W.instanceDict_exc ho (PySem.W.looks_clsIn I.kIn hcd) hdd ?_)))
  have hx1 : (hp.push (PySem.W.dictOf [] 0)).get? a = some ({ cls := .ref C, data := .fields #[.ref t, .none, .none, .none, .bool false, .none] } : Obj) := Heap.get?_push_of_some _ ho
  refine HandSPX.store_in_new (dx := hp.objs.size) ⟨_, #[], 0, (Heap.get?_update_ne _ _ _ _ ne).trans (Heap.get?_push_size hp rfl), rfl, (fun z hz => absurd hz (by simp)), (fun _ => rfl)⟩ fun h' tk' hn' hs => ?_
  have hd' : ∃ o, h'.get? hp.objs.size = some o := by
    obtain ⟨o, _, _, e', _⟩ := hn'
    exact ⟨o, e'⟩
  have hxa : h'.get? a = some ({ cls := .ref C, dict := some hp.objs.size, data := .fields #[.ref t, .none, .none, .none, .bool false, .none] } : Obj) := by
    refine (hs.2 a (Ne.symm ne)).trans ?_
    rw [Heap.get?_update_self _ hx1 rfl]
  refine h hp.objs.size _ hn ne (inv_two (t' := tk') (I.tok (tk + 1)) e (Nat.le_refl _) (fun b o hb q => ?_) ⟨_, hxa⟩ (fun H' => ⟨_, hn', fun g => ?_⟩) fun H' => ext_ok hxa)
  · have hb2 : b ≠ hp.objs.size := Nat.ne_of_lt (Heap.lt_size q)
    exact (hs.2 b hb2).trans ((Heap.get?_update_ne _ _ _ _ hb).trans (Heap.get?_push_of_some _ q))
  · exact L2.relO_put (fs := []) (mA := fun _ => none) ry (fun _ => trivial) g
end

/-! ### the rules -/
/-- B.__init__(self, msg): the reading -/
def tBI (K : PySem.W.Frag) (initId : String) (ta : TA) : TE := fun σ H Q => ta σ H fun vs H1 => ∃ (a C fI : Addr) (m f : Str) (bmB : List Value) (B newId : String), vs = [.ref a, .str m] ∧ XCls K C fI f bmB B newId initId ∧ H1 a = some (L2.exo a C none) ∧
  ∀ t, H1 t = none → t ≠ a → Q .non (upd (upd H1 t (.tup [.str m])) a (exm a C t))
/-- self.f = e: the reading -/
def tXS (K : PySem.W.Frag) (f : Str) (to te : TE) : TS := fun D σ H => te σ H fun y H1 => to σ H1 fun x H2 => ∃ (a C fI t : Addr) (bmB : List Value) (B newId initId : String), x = .ref a ∧ XCls K C fI f bmB B newId initId ∧ H2 a = some (exm a C t) ∧
  ∀ dx, H2 dx = none → dx ≠ a → D.nx σ (upd (upd H2 dx (.xd [(f, y)])) a (exv a C dx t))
section
variable {X : Cx} {o e : Expr} {es : List Expr} {to te : TE} {ta : TA} {f : Str} {p p' p1 p2 pos : Pos} {initId B : String} {D : Addr}
theorem run_bi {pins : List (Addr × Obj)} {σ : St} {H : Hp} {s : Shared} {Q : VK} (ha : PA X (e :: es) ta) (I : L2.Inv X pins σ H s) (h : tBI X.K initId ta σ H Q)
    (he : starEach (e :: es) X.env = (false, eval e X.env) :: starEach es X.env) (hpl : (backTo pos (starEach es X.env)).any (·.1) = false) :
    wpAny (model X.prog X.w) X.A (callWith pos (Value.builtin initId) [] (backTo pos (starEach (e :: es) X.env)) []) (EP X pins σ Q) X.xe s := by
  refine PyProof.Rows.callWith_method1 (thn (ha.run pos pins s σ H _ I h) fun us s1 ⟨vs, H1, I1, r1, a, C, fI, m, f, bmB, B, newId, ev, T, ea, q⟩ => ?_) he hpl
  subst ev
  cases r1 with
  | cons ra r1 =>
    cases r1 with
    | cons rm r1 =>
      cases r1
      cases ra
      obtain ⟨tm, rfl⟩ := rm
      exact x_init T I1 ea fun t s' n1 n2 J => ⟨.non, _, J, rfl, q t n1 n2⟩
/-- the base a class of the program -/
theorem pe_biO {x : Str} {pl : Sem Bool} (hg : Gl X x) (hm : X.mg x = some (.ref D)) (hr : PySem.W.readsIn X.K D (.type "type") = true) (hga : PySem.W.specialIn X.K (.ref D) "__getattribute__" = some (some (.builtin "type.__getattribute__")))
    (vV : PySem.W.findCls X.K (.ref D) (.type "type") "__init__" = some (.val (.builtin initId))) (ht : PySem.W.typeIn X.K (.ref D) = some (.type "type")) (ha : PA X (e :: es) ta)
    (hc : eval (.Call (.Attribute (.Name x p1) "__init__" p2) (e :: es) [] pos) X.env = (do
      let ov ← eval (.Name x p1) X.env
      standAt p2.atName
      let (f, first) ← holding [ov] (getMethod ov "__init__" pl)
      callWith pos f first (backTo pos (starEach (e :: es) X.env)) (backToKw pos (keywordEach [] X.env))) := by rfl)
    (hh : PySem.W.handedIn (.builtin initId) = true := by decide +kernel) (hdb : (x == ("__debug__" : Str)) = false := by decide) (he : starEach (e :: es) X.env = (false, eval e X.env) :: starEach es X.env := by rfl) (hpl : (backTo pos (starEach es X.env)).any (·.1) = false := by rfl) :
    PE X (.Call (.Attribute (.Name x p1) "__init__" p2) (e :: es) [] pos) (tBI X.K initId ta) := by
  refine ⟨fun pins s σ H Q I h => PySem.W.methodCall_KW (ld_glob I hg hm ?_ hdb) hc⟩
  refine PySem.W.method_cls I.kIn hga (PySem.W.cls_value I.kIn hr vV hh ?_)
  exact run_bi ha (I.tok _) h he hpl
/-- the base a built-in class -/
theorem pe_biT {x : Str} {pl : Sem Bool} {T : String} (hg : Gl X x) (hm : X.mg x = none) (hv : bootBuiltins x = some (.type T)) (htT : typeOf (.type T) = pure (.type "type")) (hst : Manifest.isStub T = false)
    (vV : PySem.W.findCls X.K (.type T) (.type "type") "__init__" = some (.val (.builtin initId))) (ha : PA X (e :: es) ta)
    (hc : eval (.Call (.Attribute (.Name x p1) "__init__" p2) (e :: es) [] pos) X.env = (do
      let ov ← eval (.Name x p1) X.env
      standAt p2.atName
      let (f, first) ← holding [ov] (getMethod ov "__init__" pl)
      callWith pos f first (backTo pos (starEach (e :: es) X.env)) (backToKw pos (keywordEach [] X.env))) := by rfl)
    (hh : PySem.W.handedIn (.builtin initId) = true := by decide +kernel) (hnn : x ≠ "__name__" := by decide) (hdb : (x == ("__debug__" : Str)) = false := by decide) (he : starEach (e :: es) X.env = (false, eval e X.env) :: starEach es X.env := by rfl) (hpl : (backTo pos (starEach es X.env)).any (·.1) = false := by rfl) :
    PE X (.Call (.Attribute (.Name x p1) "__init__" p2) (e :: es) [] pos) (tBI X.K initId ta) := by
  refine ⟨fun pins s σ H Q I h => PySem.W.methodCall_KW (ld_blt I hg hm hv ?_ hnn hdb) hc⟩
  obtain ⟨m, fr⟩ := I.fr
  refine PySem.W.method_type fr I.ok.mod.kin htT hst vV hh ?_
  exact run_bi ha (I.tok _) h he hpl
theorem ps_xs (ho : PE X o to) (he : PE X e te) (hs : swapsWith e (some (.Attribute o f p')) pos.line X.env = pure false := by rfl) : PS X (.Assign [.Attribute o f p'] e pos) (tXS X.K f to te) := by
  refine ⟨fun pins s σ H D I h => plainObj_wpAny_Assign_Attribute (thn (he.run pins s σ H _ I h) fun v s1 ⟨y, H1, I1, r1, q1⟩ => thn (ho.run pins s1 σ H1 _ I1 q1) fun u s2 ⟨x, H2, I2, r2, a, C, fI, t, bmB, B, newId, initId, ex, T, ea, q⟩ => ?_) hs⟩
  subst ex
  cases r2
  exact x_store T I2 ea r1 fun dx s' n1 n2 J => ⟨σ, _, J, q dx n1 n2⟩
end
end Q

/-! QX2: C(..) of an exception class; its __init__; what its instances tell -/
namespace Q
open PySem PySem.Spec PyProof.Rows L2
open Evl (Ex fresh_back)

/-- __init__(self, v): the message laid, the field set -/
def spI (C : Addr) (f m : Str) : Sp := fun vs H Q _ => ∃ a v, vs = [.ref a, v] ∧ H a = some (L2.exo a C none) ∧ ∀ t dx, H t = none → t ≠ a → H dx = none → dx ≠ a → dx ≠ t →
  Q .non (upd (upd (upd (upd H t (.tup [.str m])) a (exm a C t)) dx (.xd [(f, v)])) a (exv a C dx t))
def tMkX (C : Addr) (n m : Nat) (sp : Sp) (gV : List V → List V → List V) (t tk : TA) : TE := fun σ H Q => t σ H fun vs H1 => tk σ H1 fun zs H2 => vs.length = n ∧ zs.length = m ∧ ∀ a, H2 a = none →
  sp (gV (.ref a :: vs) zs) (upd H2 a (L2.exo a C none)) (fun v H3 => v = .non ∧ Q (.ref a) H3) E0
section
variable {X : Cx} {k n : Nat} {f : Str} {C fI : Addr} {bmB : List Value} {B newId initId : String} {fd : FuncData} {ps ks : List Str} {sp : Sp} {x : Str} {p pos : Pos} {e : Expr} {es : List Expr} {kws : List Keyword} {t tk : TA}
  {g : List Value → List Value → List Value} {gV : List V → List V → List V}
theorem run_mkX {pins : List (Addr × Obj)} {σ : St} {H : Hp} {s : Shared} {Q : VK} {us ws : List Value} {vs zs : List V} (T : XCls X.K C fI f bmB B newId initId) (F : FnOk X.prog X.w X.K X.mg X.base CX0 k fI fd ps sp) (hr : Room (k + 1) X.A)
    (hb : KBn X.K fd ps (n + 1) ks g gV) (I : L2.Inv X pins σ H s) (r : Vals vs us) (rz : Vals zs ws) (l1 : vs.length = n) (l2 : zs.length = ks.length) (hn : n ≤ 1000)
    (h : ∀ a, H a = none → sp (gV (.ref a :: vs) zs) (upd H a (L2.exo a C none)) (fun v H2 => v = .non ∧ Q (.ref a) H2) E0) :
    wpAny (model X.prog X.w) X.A (call (.ref C) us (ks.zip ws)) (EP X pins σ Q) X.xe s := by
  obtain ⟨nm, N, q, bs, bm, hdct, sn, sub, ab, col, dd, k0, k1, k2, k3, k5, hC, hT⟩ := PySem.W.excInit_of I.kIn T.ini
  obtain ⟨hp, gg, dr, tk0, os⟩ := s
  have hsz : hp.objs.size ≤ hp.objs.size + 1 := Nat.le_succ _
  have hq := h (hp.objs.size + 1) (I.hok.fresh hsz)
  have kk : ∀ b o, hp.get? b = some o → ((hp.push (PySem.W.kdv_tup us)).push (HandSPX.excO C hp.objs.size)).get? b = some o := fun b o e => Heap.get?_push_of_some _ (Heap.get?_push_of_some _ e)
  have hget : ((hp.push (PySem.W.kdv_tup us)).push (HandSPX.excO C hp.objs.size)).get? (hp.objs.size + 1) = some (HandSPX.excO C hp.objs.size) := by heap_get
  have I2 : L2.Inv X pins σ (upd H (hp.objs.size + 1) (L2.exo (hp.objs.size + 1) C none)) ⟨(hp.push (PySem.W.kdv_tup us)).push (HandSPX.excO C hp.objs.size), gg, dr, tk0, os⟩ :=
    I.laid (t' := tk0) kk hsz (L2.exo_ok hget)
  have r1 : Vals (V.ref (hp.objs.size + 1) :: vs) (Value.ref (hp.objs.size + 1) :: us) := .cons rfl r
  have r2 := hb.rel r1 rz
  have e1 : (Value.ref (hp.objs.size + 1) :: us).length = n + 1 := r1.length.symm.trans (congrArg Nat.succ l1)
  have hl : us.length ≤ sizeLine := by rw [← PySem.Paired.length r, l1]; exact Nat.le_trans hn (by decide)
  refine wpAny_call (x_call T.base hT hC hl (PySem.W.looks_findIn I.kIn T.fi) (fun self => PySem.W.bind_fn I.kIn self T.ti) (codeAny_mono (F.run _ X.stack _ _ ⟨Value.ref (hp.objs.size + 1) :: us, ks.zip ws⟩ (g (Value.ref (hp.objs.size + 1) :: us) ws) _ _ E0
    (hr.make C us (ks.zip ws)) (I2.env0.make C us (ks.zip ws)) (hb.to _ (Value.ref (hp.objs.size + 1) :: us) ws I2.kIn e1 (rz.length.symm.trans l2)) r2 hq) fun r s' hq' => ?_))
  cases r with
  | error e => exact False.elim hq'
  | ok fl =>
    cases fl with
    | ret u =>
      obtain ⟨v, H', I3, rv, ev, q3⟩ := I2.after hq'
      subst ev
      exact ⟨rv, .ref _, H', I3, rfl, q3⟩
    | next => exact False.elim hq'
    | brk => exact False.elim hq'
    | cont => exact False.elim hq'
/-- C(e, ..) -/
theorem pe_mkX (T : XCls X.K C fI f bmB B newId initId) (F : FnOk X.prog X.w X.K X.mg X.base CX0 k fI fd ps sp) (hr : Room (k + 1) X.A) (hb : KBn X.K fd ps (n + 1) [] g gV) (hg : Gl X x) (hm : X.mg x = some (.ref C)) (ha : PA X (e :: es) t) (hn : n ≤ 1000 := by decide)
    (hdb : (x == ("__debug__" : Str)) = false := by decide) (he : starEach (e :: es) X.env = (false, eval e X.env) :: starEach es X.env := by rfl) (hpl : (backTo pos (starEach es X.env)).any (·.1) = false := by rfl) :
    PE X (.Call (.Name x p) (e :: es) [] pos) (tMkX C n 0 sp gV t tNil) := by
  refine ⟨fun pins s σ H Q I h => wpAny_Call_Name_kw (ld_glob I hg hm ?_ hdb)⟩
  refine PySem.W.callWith_K (h₀ := X.base) I.ok.mod.kin T.kc (thn (ha.run pos pins s σ H _ I h) fun us s1 ⟨vs, H1, I1, r, l1, l2, q2⟩ => ⟨I1.kIn, ?_⟩) he hpl
  exact run_mkX (ks := []) (ws := []) T F hr hb I1 r .nil l1 rfl hn q2
/-- C(k = e) -/
theorem pe_mkXK (T : XCls X.K C fI f bmB B newId initId) (F : FnOk X.prog X.w X.K X.mg X.base CX0 k fI fd ps sp) (hr : Room (k + 1) X.A) (hb : KBn X.K fd ps 1 ks g gV) (hg : Gl X x) (hm : X.mg x = some (.ref C)) (hkw : PK X kws tk)
    (hall : (backToKw pos (keywordEach kws X.env)).all (·.1.isSome) = true := by rfl) (hks : (backToKw pos (keywordEach kws X.env)).filterMap (·.1) = ks := by rfl) (hdb : (x == ("__debug__" : Str)) = false := by decide)
    (hpl : ((backTo pos (starEach [] X.env)).any (·.1) || (backToKw pos (keywordEach kws X.env)).any (·.1.isNone)) = false := by rfl) :
    PE X (.Call (.Name x p) [] kws pos) (tMkX C 0 ks.length sp gV tNil tk) := by
  refine ⟨fun pins s σ H Q I h => wpAny_Call_Name_kw (ld_glob I hg hm ?_ hdb)⟩
  refine PySem.W.callWith_KW0 (h₀ := X.base) I.ok.mod.kin T.kc hall ?_ hpl
  refine thn (hkw.run pos pins s σ H _ I h) fun ws s2 ⟨zs, H2, I2, rz, l1, l2, q2⟩ => ⟨I2.kIn, ?_⟩
  rw [hks]
  exact run_mkX (us := []) (vs := []) T F hr hb I2 .nil rz rfl l2 (by decide) q2
/-- C() -/
theorem pe_mkX0 (T : XCls X.K C fI f bmB B newId initId) (F : FnOk X.prog X.w X.K X.mg X.base CX0 k fI fd ps sp) (hr : Room (k + 1) X.A) (hb : KBn X.K fd ps 1 [] g gV) (hg : Gl X x) (hm : X.mg x = some (.ref C))
    (hdb : (x == ("__debug__" : Str)) = false := by decide) : PE X (.Call (.Name x p) [] [] pos) (tMkX C 0 0 sp gV tNil tNil) := by
  refine ⟨fun pins s σ H Q I h => wpAny_Call_Name_kw (ld_glob I hg hm ?_ hdb)⟩
  exact PySem.W.callWith_K0 I.kIn T.kc (run_mkX (us := []) (vs := []) (ks := []) (ws := []) T F hr hb I .nil .nil rfl rfl (by decide) h.2.2)
end

/-! ### __init__ itself -/
section
variable {P : Program} {w : World} {K : PySem.W.Frag} {mg : Str → Option Value} {base : Heap} {k : Nat} {f m : Str} {C fI : Addr} {bmB : List Value} {B newId initId : String} {qual : Str} {params : Arguments} {body : List Stmt} {scope : Scope} {dvs : List V} {kws : List (Str × V)} {fd : FuncData}
theorem ok_init {st1 st2 : Stmt} (T : XCls K C fI f bmB B newId initId) (F : FunD K "__init__" qual params [st1, st2] scope dvs kws fI fd) (S : FnScope ["self", f] ["self", f] scope)
    (h1 : ∀ (cdv : Value) (A : Around) (outer : List Env) (s : Shared) (H : Hp) (E : XK), PS (cxOf CX0 P w K mg base ["self", f] qual scope fI cdv A outer s H E) st1 (tDrop (tBI K initId (tCons (tVar 0) (tCons (tC (.str m)) tNil)))))
    (h2 : ∀ (cdv : Value) (A : Around) (outer : List Env) (s : Shared) (H : Hp) (E : XK), PS (cxOf CX0 P w K mg base ["self", f] qual scope fI cdv A outer s H E) st2 (tXS K f (tVar 0) (tVar 1))) :
    FnOk P w K mg base CX0 1 fI fd ["self", f] (spI C f m) := by
  refine F.ok S (fun vs H Q E h => ?_) (fun cdv A outer s H vs Q E hr h => ?_)
  · obtain ⟨a, v, rfl, _⟩ := h
    rfl
  · obtain ⟨a, v, rfl, ha, q⟩ := h
    refine ⟨_, pss_cons (h1 cdv A outer s H E) (pss_one (h2 cdv A outer s H E)), ?_⟩
    refine ⟨_, rfl, a, C, fI, m, f, bmB, B, newId, rfl, T, ha, fun t nt nta => ?_⟩
    refine ⟨v, rfl, _, rfl, a, C, fI, t, bmB, B, newId, initId, rfl, T, upd_same, fun dx nd nda => ?_⟩
    have nd1 : dx ≠ t := fun e => by
      rw [e, upd_ne nta, upd_same] at nd
      cases nd
    have nd2 : H dx = none := by
      rw [upd_ne nda, upd_ne nd1] at nd
      exact nd
    exact q t dx nt nta nd2 nda nd1
end
end Q

/-! QX3: exceptions as values: what C(..), e.f, isinstance(e, c), str(e) come to -/
namespace Q
open PySem PySem.Spec PyProof.Rows L2
open Evl (Ex fresh_back)

section
variable {K : PySem.W.Frag} {Γ : G} {o o1 o2 : Own} {d : D} {t tk : TA} {te : TE}
theorem ev_mkX {C : Addr} {f m : Str} {n mm : Nat} {gV : List V → List V → List V} {ds es : List D} (h : EvA K t Γ o ds o1) (hk : EvA K tk Γ o1 es o2) (hn : ds.length = n) (hm : es.length = mm)
    (hg : ∀ (Hb : Hp) (a : Addr) (vs zs : List V), AtL K Hb vs ds → AtL K Hb zs es → ∃ y, gV (.ref a :: vs) zs = [.ref a, y] ∧ At K Hb y d) : Ev K (tMkX C n mm (spI C f m) gV t tk) Γ o (.exc C f m d) o2 := fun σ Hb H Q S R k =>
  h σ Hb H _ S R fun vs Hb1 H1 S1 R1 a1 => hk σ Hb1 H1 _ (S.mono S1.ex) R1 fun zs Hb2 H2 S2 R2 a2 => by
    refine ⟨a1.length.trans hn, a2.length.trans hm, fun a ha => ?_⟩
    obtain ⟨y, ey, ay⟩ := hg Hb2 a vs zs (a1.mono S2.ex) a2
    refine ⟨a, y, ey, upd_same, fun t dx ht nta hd nda ndt => ⟨rfl, ?_⟩⟩
    rw [upd_ne nta] at ht
    rw [upd_ne nda] at hd
    -- the same heap, written from fresh places alone
    have e : upd (upd (upd (upd (upd H2 a (L2.exo a C none)) t (.tup [.str m])) a (exm a C t)) dx (.xd [(f, y)])) a (exv a C dx t) = upd (upd (upd H2 t (.tup [.str m])) dx (.xd [(f, y)])) a (exv a C dx t) := by
      funext b
      by_cases h1 : b = a
      · rw [h1, upd_same, upd_same]
      · rw [upd_ne h1, upd_ne h1]
        by_cases h2 : b = dx
        · rw [h2, upd_same, upd_same]
        · rw [upd_ne h2, upd_ne h2, upd_ne h1]
          by_cases h3 : b = t
          · rw [h3, upd_same, upd_same]
          · rw [upd_ne h3, upd_ne h3, upd_ne h1]
    rw [e]
    have f1 : upd H2 t (.tup [.str m]) dx = none := by rw [upd_ne ndt]; exact hd
    have f2 : upd (upd H2 t (.tup [.str m])) dx (.xd [(f, y)]) a = none := by rw [upd_ne (Ne.symm nda), upd_ne (Ne.symm nta)]; exact ha
    have T1 := Stp.new (u := .tup [.str m]) R2 ht
    have R3 := R2.new (u := .tup [.str m]) ht
    have T2 := Stp.new (u := .xd [(f, y)]) R3 f1
    have R4 := R3.new (u := .xd [(f, y)]) f1
    have T3 := Stp.new (u := exv a C dx t) R4 f2
    have R5 := R4.new (u := exv a C dx t) f2
    refine k _ _ _ ((S1.trans S2).trans ((T1.trans T2).trans T3)) R5 (.exc upd_same ?_ ?_ (ay.mono ((T1.ex.trans T2.ex).trans T3.ex)))
    · rw [upd_ne nta, upd_ne (Ne.symm ndt), upd_same]
    · rw [upd_ne nda, upd_same]
/-- e.f: the reading -/
def tXV (K : PySem.W.Frag) (f : Str) (te : TE) : TE := fun σ H Q => te σ H fun x H1 => ∃ (a C fI t dx : Addr) (v : V) (bmB : List Value) (B newId initId : String), x = .ref a ∧ XCls K C fI f bmB B newId initId ∧ H1 a = some (exv a C dx t) ∧ H1 dx = some (.xd [(f, v)]) ∧ Q v H1
theorem ev_xv {C fI : Addr} {f m : Str} {bmB : List Value} {B newId initId : String} (T : XCls K C fI f bmB B newId initId) (h : Ev K te Γ o (.exc C f m d) o1) : Ev K (tXV K f te) Γ o d o1 := fun σ Hb H Q S R k =>
  h σ Hb H _ S R fun v Hb1 H1 S1 R1 a1 => by
    cases a1 with
    | exc h1 h2 h3 h4 => exact ⟨_, C, fI, _, _, _, bmB, B, newId, initId, rfl, T, R1.ex _ _ h1, R1.ex _ _ h3, k _ Hb1 H1 S1 R1 h4⟩
end
section
variable {X : Cx} {e : Expr} {te : TE} {pos : Pos} {n : Str}
theorem ext_at {P : Program} {w : World} {H : Hp} {h : Heap} {a : Addr} {φ : Heap → Prop} (hok : HOk P w H h) (e : H a = some (.ext φ)) : φ h := by
  have x : ObjOk P w H h a (.ext φ) := hok a _ e
  exact x.1
theorem pe_xv (he : PE X e te) (hb : attributeBase e n X.env (eval e X.env) = eval e X.env := by rfl) : PE X (.Attribute e n pos) (tXV X.K n te) := by
  refine ⟨fun pins s σ H Q I h => L2.attr_of hb (thn (he.run pins s σ H _ I h) fun u s1 ⟨x, H1, I1, rx, a, C, fI, t, dx, v, bmB, B, newId, initId, ex, T, ea, ed, q⟩ => ?_)⟩
  subst ex
  cases rx
  have ho := ext_at I1.hok ea
  have hx : ObjOk X.prog X.w H1 s1.heap dx (.xd [(n, v)]) := I1.hok dx _ ed
  obtain ⟨mA, hns, hr⟩ := hx
  obtain ⟨od, hod, hl⟩ := lookIn_ns hns
  obtain ⟨u, hu, ru⟩ := RelO.some_of (v := v) (o := mA n) (by have := hr n; rwa [show List.lookup n [(n, v)] = some v from by simp [List.lookup]] at this)
  have J : PySem.W.InstAt s1.heap a _ C (some od) := ⟨ho, rfl, rfl, hod⟩
  exact HandSPX.exc_get I1.kIn J T.ga T.gg T.ex (PySem.W.findObj_own T.hd T.nf rfl (by rw [hl, hu])) (handed_of ru) ⟨v, H1, I1.tok _, ru, q⟩
/-- isinstance(e, c) of an exception that is a value -/
def rIsX (K : PySem.W.Frag) : List V → Hp → VK → Prop := fun xs H Q => ∃ (a C fI t dx : Addr) (f : Str) (bmB : List Value) (B newId initId : String) (fs : List (Str × V)) (c : V) (cv : Value) (b : Bool), xs = [.ref a, c] ∧ XCls K C fI f bmB B newId initId ∧ H a = some (exv a C dx t) ∧ H dx = some (.xd fs) ∧
  PySem.W.specialIn K (.builtin "object.__class__") "__get__" = some (some (.builtin "getset_descriptor.__get__")) ∧ PySem.W.takesIn K (.builtin "object.__class__") = some true ∧ (∀ u, RelV c u → u = cv) ∧ PySem.W.kitOne K (.ref C) cv = some b ∧ Q (.bl b) H
theorem call_isX : CallR X (.builtin "isinstance") (rIsX X.K) := by
  intro pins s σ H xs us Q I r h
  obtain ⟨a, C, fI, t, dx, f, bmB, B, newId, initId, fs, c, cv, b, rfl, T, ea, ed, hsp, htk, hcv, hk, q⟩ := h
  cases r with
  | cons rx r =>
    cases r with
    | cons rc r =>
      cases r
      cases rx
      have ec := hcv _ rc
      subst ec
      have ho := ext_at I.hok ea
      have hx : ObjOk X.prog X.w H s.heap dx (.xd fs) := I.hok dx _ ed
      obtain ⟨mA, hns, hr⟩ := hx
      obtain ⟨od, hod, hl⟩ := lookIn_ns hns
      have J : PySem.W.InstAt s.heap a _ C (some od) := ⟨ho, rfl, rfl, hod⟩
      obtain ⟨cd, hcd, _⟩ := PySem.W.any_some T.hd
      exact PySem.W.kia_one (PySem.W.kitx_exc (by rw [hcd]; rfl) T.ga T.gg T.ex T.ha hsp htk T.hm) I.kIn J hk (fun z => nomatch z) fun tk => ⟨.bl b, H, I.tok tk, rfl, q⟩
/-- str(e) of an exception that is a value, made with one text -/
def rStrX (K : PySem.W.Frag) : List V → Hp → VK → Prop := fun xs H Q => ∃ (a C fI t dx : Addr) (f m : Str) (bmB : List Value) (B newId initId : String), xs = [.ref a] ∧ XCls K C fI f bmB B newId initId ∧ H a = some (exv a C dx t) ∧ H t = some (.tup [.str m]) ∧ Q (.str m) H
theorem call_strX (hu : X.A.units + 2 < cLine) : CallR X (.type "str") (rStrX X.K) := by
  intro pins s σ H xs us Q I r h
  obtain ⟨a, C, fI, t, dx, f, m, bmB, B, newId, initId, rfl, T, ea, et, q⟩ := h
  cases r with
  | cons rx r =>
    cases r
    cases rx
    have ho := ext_at I.hok ea
    have hx : ObjOk X.prog X.w H s.heap t (.tup [.str m]) := I.hok t _ et
    obtain ⟨_, its, rv, hT⟩ := hx
    cases rv with
    | cons rm rv =>
      cases rv
      obtain ⟨tm, rfl⟩ := rm
      obtain ⟨ot, h1, h2, n, h3⟩ := hT
      exact PySem.P.str_of_C_one hu ⟨I.kIn, _, _, ho, rfl, rfl, rfl⟩ ⟨ot, n, h1, h2, h3⟩ T.sr T.ex ⟨.str m, H, I, ⟨_, rfl⟩, q⟩
end
section
variable {K : PySem.W.Frag} {o : Own} {d : D}
theorem cal_isX {C fI : Addr} {f m : Str} {bmB : List Value} {B newId initId : String} {c : D} {cv : Value} {b : Bool} (T : XCls K C fI f bmB B newId initId)
    (hsp : PySem.W.specialIn K (.builtin "object.__class__") "__get__" = some (some (.builtin "getset_descriptor.__get__"))) (htk : PySem.W.takesIn K (.builtin "object.__class__") = some true)
    (hc : ∀ Hb v, At K Hb v c → ∀ u, RelV v u → u = cv) (hk : PySem.W.kitOne K (.ref C) cv = some b) : Cal K (rIsX K) [.exc C f m d, c] o (.bl b) o := fun vs Hb H Q R a k => by
  cases a with
  | cons a1 a =>
    cases a with
    | cons a2 a =>
      cases a
      cases a1 with
      | exc h1 h2 h3 h4 => exact ⟨_, C, fI, _, _, f, bmB, B, newId, initId, _, _, cv, b, rfl, T, R.ex _ _ h1, R.ex _ _ h3, hsp, htk, hc Hb _ a2, hk, k _ Hb H Stp.refl R (.bl b)⟩
theorem cal_strX {C fI : Addr} {f m : Str} {bmB : List Value} {B newId initId : String} (T : XCls K C fI f bmB B newId initId) : Cal K (rStrX K) [.exc C f m d] o (.str m) o := fun vs Hb H Q R a k => by
  cases a with
  | cons a1 a =>
    cases a
    cases a1 with
    | exc h1 h2 h3 h4 => exact ⟨_, C, fI, _, _, f, m, bmB, B, newId, initId, rfl, T, R.ex _ _ h1, R.ex _ _ h2, k _ Hb H Stp.refl R (.str m)⟩
end
end Q

/-! Q6: further operations, calls of own defs by name -/
namespace Q
open PySem PySem.Spec PyProof.Rows L2
open Evl (Ex fresh_back)

/-! ### an own def, by its name -/
/-- the def x keeps sp, at level k; ks names its keywords as they may be written -/
structure Def (P : Program) (w : World) (K : PySem.W.Frag) (mg : Str → Option Value) (base : Heap) (CX : CXT) (k : Nat) (x : Str) (ps : List Str) (sp : Sp) : Prop where
  ex : ∃ (f : Addr) (fd : FuncData), mg x = some (.ref f) ∧ PySem.W.keepIn K (.ref f) = true ∧ FnOk P w K mg base CX k f fd ps sp ∧ Binds K fd ps []
section
variable {X : Cx} {CX : CXT} {k : Nat} {ps : List Str} {sp : Sp} {E : XK} {x : Str} {p pos : Pos} {e : Expr} {es : List Expr} {t : TA}
theorem pe_callD (c : Def X.prog X.w X.K X.mg X.base CX k x ps sp) (hr : Room k X.A) (hg : Gl X x) (hx : Passes CX X E) (ha : PA X (e :: es) t) (hdb : (x == ("__debug__" : Str)) = false := by decide)
    (he : starEach (e :: es) X.env = (false, eval e X.env) :: starEach es X.env := by rfl) (hpl : (backTo pos (starEach es X.env)).any (·.1) = false := by rfl) :
    PE X (.Call (.Name x p) (e :: es) [] pos) (tCall sp [] E t) := by
  obtain ⟨f, fd, h1, h2, h3, h4⟩ := c.ex
  exact pe_call h3 hr hg h1 h2 h4 .nil hx ha hdb he hpl
end

/-! ### numbers -/
def CPowW (i j : Int) : Prop := 0 ≤ j ∧ (Builtin.Int.intBits i : Int) * j ≤ 2 ^ 27
section
variable {X : Cx}
theorem op_powW : OpR X (binaryOp .Pow) (rI CPowW fun i j => .int (i ^ j.toNat)) := by
  intro pins s σ H x y v u Q I rx ry h
  obtain ⟨i, j, rfl, rfl, hc, q⟩ := h
  obtain ⟨t, rfl⟩ := rx
  obtain ⟨t', rfl⟩ := ry
  exact PyProof.Rows.pow_int hc.1 hc.2 ⟨.int _, H, I.tok _, ⟨_, rfl⟩, q⟩
end
section
variable {K : PySem.W.Frag} {W : WW} {Γ Γ1 Γ2 : G} {o o1 o2 o3 : Own} {ta tb tc te : TE} {x y z d : D} {b : Bool}
theorem bin_subI {i j : Int} : Bin K (rI0 fun i j => .int (i - j)) (.int i) (.int j) o (.int (i - j)) := bin_I0 fun _ => .int _
theorem bin_modI {i j : Int} (h : 0 < j) : Bin K (rI (fun _ j => 0 < j) fun i j => .int (i % j)) (.int i) (.int j) o (.int (i % j)) := bin_I h fun _ => .int _
theorem bin_fdivI {i j : Int} (h : CDivW i j) : Bin K (rI CDivW fun i j => .int (i / j)) (.int i) (.int j) o (.int (i / j)) := bin_I h fun _ => .int _
theorem bin_powI {i j : Int} (h : CPowW i j) : Bin K (rI CPowW fun i j => .int (i ^ j.toNat)) (.int i) (.int j) o (.int (i ^ j.toNat)) := bin_I h fun _ => .int _
theorem bin_geI {i j : Int} : Bin K (rI0 fun i j => .bl (decide (j ≤ i))) (.int i) (.int j) o (.bl (decide (j ≤ i))) := bin_I0 fun _ => .bl _
theorem bin_leI {i j : Int} : Bin K (rI0 fun i j => .bl (decide (i ≤ j))) (.int i) (.int j) o (.bl (decide (i ≤ j))) := bin_I0 fun _ => .bl _
theorem bin_ltI {i j : Int} : Bin K (rI0 fun i j => .bl (decide (i < j))) (.int i) (.int j) o (.bl (decide (i < j))) := bin_I0 fun _ => .bl _
theorem bin_gtI {i j : Int} : Bin K (rI0 fun i j => .bl (decide (j < i))) (.int i) (.int j) o (.bl (decide (j < i))) := bin_I0 fun _ => .bl _
/-- ints that are equal, or not -/
theorem bin_eqI {i j : Int} : Bin K (rEqD K) (.int i) (.int j) o (.bl (decide (i = j))) := by
  rw [← eqv_int]
  exact bin_eqD (n := 0) (m := 0) (by simp [D.good]) (by simp [D.good])
theorem bin_neI {i j : Int} : Bin K (rNeD K) (.int i) (.int j) o (.bl (!decide (i = j))) := by
  rw [← eqv_int]
  exact bin_neD (n := 0) (m := 0) (by simp [D.good]) (by simp [D.good])
theorem bin_mulI {i j : Int} (h : IntMulOk i j) : Bin K (rMulU K) (.int i) (.int j) o (.int (i * j)) := fun v u Hb H Q R a1 a2 k => by
  cases a1
  cases a2
  exact .inl ⟨i, j, rfl, rfl, h, k _ Hb H Stp.refl R (.int _)⟩
/-- a factor below 2 ^ 64 -/
theorem bin_mulL {i j : Int} (h1 : -(2 ^ 64) < i) (h2 : i < 2 ^ 64) : Bin K (rMulU K) (.int i) (.int j) o (.int (i * j)) := bin_mulI (.of_left (intBits_le_64 h1 h2))
theorem bin_mulR {i j : Int} (h1 : -(2 ^ 64) < j) (h2 : j < 2 ^ 64) : Bin K (rMulU K) (.int i) (.int j) o (.int (i * j)) := bin_mulI (.of_right (intBits_le_64 h1 h2))
theorem bin_mulS {i : Str} {j : Int} (h0 : 0 ≤ j) (h1 : j ≤ 100000) (h2 : i.length ≤ 100000) (h3 : i.length * j.toNat ≤ 10000000) : Bin K (rMulU K) (.str i) (.int j) o (.str (repS i j)) := fun v u Hb H Q R a1 a2 k => by
  cases a1
  cases a2
  exact .inr (.inl ⟨i, j, rfl, rfl, h0, h1, h2, h3, k _ Hb H Stp.refl R (.str _)⟩)
theorem AtL.rep {Hb : Hp} {xs : List V} {ds : List D} (h : AtL K Hb xs ds) : ∀ n : Nat, AtL K Hb (List.replicate n xs).flatten (List.replicate n ds).flatten
  | 0 => .nil
  | n + 1 => by
    rw [List.replicate_succ, List.replicate_succ, List.flatten_cons, List.flatten_cons]
    exact h.append (AtL.rep h n)
theorem bin_mulT {ds : List D} {j : Int} (h0 : ds ≠ []) (h1 : 2 ≤ j) (h2 : j ≤ 1000) (h3 : ds.length ≤ 1000) : Bin K (rMulU K) (.tup ds) (.int j) o (.tup (List.replicate j.toNat ds).flatten) := fun v u Hb H Q R a1 a2 k => by
  obtain ⟨a, xs, rfl, s1, t1⟩ := a1.tup_inv
  cases a2
  refine .inr (.inr (.inr ⟨a, j, xs, rfl, rfl, Evl.ex_t R.ex s1, fun e => ?_, h1, h2, by rw [t1.length]; exact h3, fun p hp => k _ _ _ (Stp.new R hp) (R.new hp) (.tup (.inl (.inl upd_same)) ((t1.rep j.toNat).mono (Ex.new (fresh_back R.ex hp))))⟩))
  subst e
  cases t1
  exact h0 rfl
/-- [x, ..] * n -/
theorem ev_mulLst {ds : List D} {ta' : TA} {j : Int} (h : EvA K ta' Γ o ds o1) (hb : Ev K tb Γ o1 (.int j) o2) (h0 : 0 ≤ j) (h1 : j ≤ 100000) (h2 : ds.length * j.toNat ≤ 100000) (hl : ds.length ≤ 100000 := by exact Nat.le_of_ble_eq_true rfl) :
    Ev K (tOp (rMulU K) (tLst ta') tb) Γ o (.lst (List.replicate j.toNat ds).flatten) o2 := fun σ Hb H Q S R k =>
  h σ Hb H _ S R fun vs Hb1 H1 S1 R1 a1 => ⟨sz_of (by rw [a1.length]; exact hl), fun p hp => by
    have hn := fresh_back R1.ex hp
    have T1 := Stp.newO (w := .lst ds) (u := .lst vs) (o := o1) (Hb := Hb1) hp
    have R2 := R1.newO (w := .lst ds) (u := .lst vs) hp ⟨vs, upd_same, a1⟩
    refine hb σ Hb1 _ _ (S.mono S1.ex) (R2.drop (List.sublist_cons_self _ _)) fun u Hb3 H3 S3 R3 a3 => ?_
    obtain ⟨n3, F3, T3⟩ := R2.frame S3 R3
    cases a3
    obtain ⟨nb, xs, hx, ha⟩ := F3.own (p, .lst ds) List.mem_cons_self
    refine .inr (.inr (.inl ⟨p, j, xs, rfl, rfl, hx, h0, h1, by rw [ha.length]; exact h2, fun q hq => ?_⟩))
    refine k _ _ _ (((S1.trans T1).trans (T3.trans (Stp.new F3 hq))).drop (List.sublist_cons_self _ _)) ((F3.new hq).drop (List.sublist_cons_self _ _)) (.lst (.inl upd_same) ((ha.rep j.toNat).mono (Ex.new (fresh_back F3.ex hq))))⟩

/-! ### slices, sums, lengths -/
def cutD (xs : List D) (lo hi : Option Int) : List D := (xs.drop (HT.sIx xs.length 0 lo)).take (HT.sIx xs.length xs.length hi - HT.sIx xs.length 0 lo)
theorem AtL.cut {Hb : Hp} {xs : List V} {ds : List D} (h : AtL K Hb xs ds) (lo hi : Option Int) : AtL K Hb (cutV xs lo hi) (cutD ds lo hi) := by
  unfold cutV cutD
  rw [h.length]
  exact (h.drop _).take _
theorem ev_slF {ds : List D} {tl th : TO} {lo hi : Option Int} (h : Ev K te Γ o (.fl ds) o1) (h1 : EvO K tl Γ o1 lo o2) (h2 : EvO K th Γ o2 hi o3) : Ev K (tSl (rSlL K) te tl th) Γ o (.lst (cutD ds lo hi)) o3 := fun σ Hb H Q S R k =>
  h σ Hb H _ S R fun v Hb1 H1 S1 R1 a1 => h1 σ Hb1 H1 _ (S.mono S1.ex) R1 fun Hb2 H2 S2 R2 => h2 σ Hb2 H2 _ (S.mono (S1.ex.trans S2.ex)) R2 fun Hb3 H3 S3 R3 => by
    cases a1 with
    | fl sq t =>
      exact ⟨_, _, rfl, Evl.ex_l ((S2.ex.trans S3.ex).trans R3.ex) sq, fun p hp => k _ _ _ (((S1.trans S2).trans S3).trans (Stp.new R3 hp)) (R3.new hp) (.lst (.inl upd_same) ((t.mono (S2.ex.trans S3.ex)).cut lo hi |>.mono (Ex.new (fresh_back R3.ex hp))))⟩
theorem ev_cb {r : List V → Hp → VK → Prop} {t : TA} {ds : List D} (h : EvA K t Γ o ds o1) (hr : Cal K r ds o1 d o2) : Ev K (tCB r t) Γ o d o2 := fun σ Hb H Q S R k =>
  h σ Hb H _ S R fun vs Hb1 H1 S1 R1 a1 => hr vs Hb1 H1 Q R1 a1 fun w Hb2 H2 S2 R2 a2 => k w Hb2 H2 (S1.trans S2) R2 a2
theorem cal_sumF {ns : List Int} : Cal K (rSum K) [.fl (ns.map D.int)] o (.int ns.sum) o := fun vs Hb H Q R a k => by
  cases a with
  | cons a1 a =>
    cases a
    cases a1 with
    | fl sq t => exact ⟨_, ns, rfl, by rw [← t.ints]; exact Evl.ex_l R.ex sq, k _ Hb H Stp.refl R (.int _)⟩
theorem cal_strI {i : Int} (h : i.natAbs.log2 < 1920) : Cal K (fun xs H Q => ∃ i, xs = [.int i] ∧ i.natAbs.log2 < 1920 ∧ Q (.str (toString i)) H) [.int i] o (.str (toString i)) o := fun vs Hb H Q R a k => by
  cases a with
  | cons a1 a =>
    cases a
    cases a1
    exact ⟨i, rfl, h, k _ Hb H Stp.refl R (.str _)⟩
abbrev rInS : R2 := fun x y H Q => ∃ i j, x = .str i ∧ y = .str j ∧ Q (.bl (!(Builtin.Str.occurrences j i 0 j.length 1).isEmpty)) H
theorem bin_inS {i j : Str} : Bin K rInS (.str i) (.str j) o (.bl (!(Builtin.Str.occurrences j i 0 j.length 1).isEmpty)) := fun v u Hb H Q R a1 a2 k => by
  cases a1
  cases a2
  exact ⟨i, j, rfl, rfl, k _ Hb H Stp.refl R (.bl _)⟩
end
/-- str(x) of an int, a text, an exception -/
def rStrU (K : PySem.W.Frag) : List V → Hp → VK → Prop := fun xs H Q => (∃ i, xs = [.int i] ∧ i.natAbs.log2 < 1920 ∧ Q (.str (toString i)) H) ∨ (∃ a, xs = [.str a] ∧ Q (.str a) H) ∨ rStrX K xs H Q
section
variable {X : Cx}
theorem call_strS : CallR X (.type "str") (fun xs H Q => ∃ a, xs = [.str a] ∧ Q (.str a) H) := by
  intro pins s σ H xs us Q I r h
  obtain ⟨a, rfl, q⟩ := h
  cases r with
  | cons rx r =>
    cases r
    obtain ⟨t, rfl⟩ := rx
    exact PySem.P.str_of_str ⟨.str _, H, I, ⟨_, rfl⟩, q⟩
theorem call_strU (hu : X.A.units + 2 < cLine) : CallR X (.type "str") (rStrU X.K) := by
  intro pins s σ H xs us Q I r h
  rcases h with h | h | h
  · exact call_str_int pins s σ H xs us Q I r h
  · exact call_strS pins s σ H xs us Q I r h
  · exact call_strX hu pins s σ H xs us Q I r h
end
end Q

/-! QX4: an exception class of the text by its name; the head's facts about it -/
namespace Q
open PySem PySem.Spec PyProof.Rows L2 He
open Evl (Ex fresh_back)

/-- the class x, its one field f, its message m; df: the field may be left out -/
structure XD (P : Program) (w : World) (K : PySem.W.Frag) (mg : Str → Option Value) (base : Heap) (x f m : Str) (df : Bool) : Prop where
  ex : ∃ (fI : Addr) (bmB : List Value) (B newId initId : String) (fd : FuncData), XCls K (ga K x) fI f bmB B newId initId ∧ mg x = some (.ref (ga K x)) ∧ FnOk P w K mg base CX0 1 fI fd ["self", f] (spI (ga K x) f m) ∧
    KBn K fd ["self", f] 2 [] (fun us _ => us) (fun vs _ => vs) ∧ KBn K fd ["self", f] 1 [f] (fun us ws => us ++ ws) (fun vs zs => vs ++ zs) ∧ (df = true → ∃ its : List Value, KBn K fd ["self", f] 1 [] (fun us _ => us ++ its) (fun vs _ => vs ++ [.non]))
section
variable {X : Cx} {x f m : Str} {df : Bool} {p pos : Pos} {e : Expr} {kws : List Keyword} {t tk : TA}
theorem pe_mkP (c : XD X.prog X.w X.K X.mg X.base x f m df) (hr : Room 2 X.A) (hg : Gl X x) (ha : PA X [e] t) (hdb : (x == ("__debug__" : Str)) = false := by decide)
    (he : starEach [e] X.env = (false, eval e X.env) :: starEach [] X.env := by rfl) : PE X (.Call (.Name x p) [e] [] pos) (tMkX (ga X.K x) 1 0 (spI (ga X.K x) f m) (fun vs _ => vs) t tNil) := by
  obtain ⟨fI, bmB, B, newId, initId, fd, T, hm, F, b1, b2, b3⟩ := c.ex
  exact pe_mkX (n := 1) T F hr b1 hg hm ha (by decide) hdb he rfl
theorem pe_mkK (c : XD X.prog X.w X.K X.mg X.base x f m df) (hr : Room 2 X.A) (hg : Gl X x) (hkw : PK X kws tk) (hall : (backToKw pos (keywordEach kws X.env)).all (·.1.isSome) = true := by rfl) (hks : (backToKw pos (keywordEach kws X.env)).filterMap (·.1) = [f] := by rfl)
    (hdb : (x == ("__debug__" : Str)) = false := by decide) (hpl : ((backTo pos (starEach [] X.env)).any (·.1) || (backToKw pos (keywordEach kws X.env)).any (·.1.isNone)) = false := by rfl) :
    PE X (.Call (.Name x p) [] kws pos) (tMkX (ga X.K x) 0 1 (spI (ga X.K x) f m) (fun vs zs => vs ++ zs) tNil tk) := by
  obtain ⟨fI, bmB, B, newId, initId, fd, T, hm, F, b1, b2, b3⟩ := c.ex
  exact pe_mkXK (ks := [f]) T F hr b2 hg hm hkw hall hks hdb hpl
theorem pe_mk0 (c : XD X.prog X.w X.K X.mg X.base x f m true) (hr : Room 2 X.A) (hg : Gl X x) (hdb : (x == ("__debug__" : Str)) = false := by decide) :
    PE X (.Call (.Name x p) [] [] pos) (tMkX (ga X.K x) 0 0 (spI (ga X.K x) f m) (fun vs _ => vs ++ [.non]) tNil tNil) := by
  obtain ⟨fI, bmB, B, newId, initId, fd, T, hm, F, b1, b2, b3⟩ := c.ex
  obtain ⟨its, b3⟩ := b3 rfl
  exact pe_mkX0 T F hr b3 hg hm hdb
end
section
variable {K : PySem.W.Frag} {Γ : G} {o o1 o2 : Own} {d : D} {t tk : TA} {te : TE} {P : Program} {w : World} {mg : Str → Option Value} {base : Heap} {x f m : Str} {C : Addr} {df : Bool}
theorem ev_mkP (h : EvA K t Γ o [d] o1) : Ev K (tMkX C 1 0 (spI C f m) (fun vs _ => vs) t tNil) Γ o (.exc C f m d) o1 := ev_mkX h ea_nil rfl rfl fun Hb a vs zs a1 _ => by
  cases a1 with
  | cons a1 r =>
    cases r
    exact ⟨_, rfl, a1⟩
theorem ev_mkK (h : EvA K tk Γ o [d] o1) : Ev K (tMkX C 0 1 (spI C f m) (fun vs zs => vs ++ zs) tNil tk) Γ o (.exc C f m d) o1 := ev_mkX ea_nil h rfl rfl fun Hb a vs zs a0 a1 => by
  cases a0
  cases a1 with
  | cons a1 r =>
    cases r
    exact ⟨_, rfl, a1⟩
theorem ev_mk0 : Ev K (tMkX C 0 0 (spI C f m) (fun vs _ => vs ++ [.non]) tNil tNil) Γ o (.exc C f m .non) o := ev_mkX ea_nil ea_nil rfl rfl fun Hb a vs zs a0 _ => by
  cases a0
  exact ⟨.non, rfl, .non⟩
theorem ev_xvD (c : XD P w K mg base x f m df) (h : Ev K te Γ o (.exc (ga K x) f m d) o1) : Ev K (tXV K f te) Γ o d o1 := by
  obtain ⟨fI, bmB, B, newId, initId, fd, T, _⟩ := c.ex
  exact ev_xv T h
theorem cal_isD {c' : D} {cv : Value} {b : Bool} (c : XD P w K mg base x f m df) (hsp : PySem.W.specialIn K (.builtin "object.__class__") "__get__" = some (some (.builtin "getset_descriptor.__get__"))) (htk : PySem.W.takesIn K (.builtin "object.__class__") = some true)
    (hc : ∀ Hb v, At K Hb v c' → ∀ u, RelV v u → u = cv) (hk : PySem.W.kitOne K (.ref (ga K x)) cv = some b) : Cal K (rIsX K) [.exc (ga K x) f m d, c'] o (.bl b) o := by
  obtain ⟨fI, bmB, B, newId, initId, fd, T, _⟩ := c.ex
  exact cal_isX T hsp htk hc hk
theorem cls_ref {a : Addr} : ∀ Hb v, At K Hb v (.ref a) → ∀ u, RelV v u → u = .ref a := fun Hb v h u r => by
  cases h
  exact r
theorem cls_ty {n : String} : ∀ Hb v, At K Hb v (.ty n) → ∀ u, RelV v u → u = .type n := fun Hb v h u r => by
  cases h
  exact r
theorem cal_strD (c : XD P w K mg base x f m df) : Cal K (rStrU K) [.exc (ga K x) f m d] o (.str m) o := fun vs Hb H Q R a k => by
  obtain ⟨fI, bmB, B, newId, initId, fd, T, _⟩ := c.ex
  exact .inr (.inr (cal_strX T vs Hb H Q R a k))
theorem cal_strUI {i : Int} (h : i.natAbs.log2 < 1920) : Cal K (rStrU K) [.int i] o (.str (toString i)) o := fun vs Hb H Q R a k => .inl (cal_strI h vs Hb H Q R a k)
theorem cal_strUS {s : Str} : Cal K (rStrU K) [.str s] o (.str s) o := fun vs Hb H Q R a k => by
  cases a with
  | cons a1 a =>
    cases a
    cases a1
    exact .inr (.inl ⟨s, rfl, k _ Hb H Stp.refl R (.str _)⟩)
end

/-! ### the head's facts about a class, as one Bool -/
def xclsB (K : PySem.W.Frag) (x f : Str) (bmB : List Value) (newId : String) : Bool :=
  let C := ga K x
  let fI := ma K C "__init__"
  (PySem.W.excInitIn K C bmB newId && PySem.W.excOver K C bmB && PySem.W.hasDictIn K C && PySem.W.keepIn K (.ref C)) &&
  (eqO (PySem.W.findIn K (.ref C) "__setattr__") (some (some (.builtin "object.__setattr__"))) && eqO (PySem.W.findIn K (.ref C) f) (some none) && eqO (PySem.W.findIn K (.ref C) "__init__") (some (some (.ref fI))) && decide (PySem.W.typeIn K (.ref fI) = some (.type "function"))) &&
  (eqO (PySem.W.findIn K (.ref C) "__getattribute__") (some (some (.builtin "BaseException.__getattribute__"))) && eqO (PySem.W.findIn K (.ref C) "__getattr__") (some none) && decide (PySem.W.subIn K (.ref C) (.type "BaseException") = some true) && eqO (PySem.W.findIn K (.ref C) "__class__") (some (some (.builtin "object.__class__")))) &&
  (decide (PySem.W.mroIn K C (.type "object") = some true) && eqO (PySem.W.findIn K (.ref C) "__str__") (some (some (.builtin "BaseException.__str__"))) && eqO (PySem.W.nsIn K mainGlobals x) (some (some (.ref C))))
theorem xclsB_ok {K : PySem.W.Frag} {x f : Str} {bmB : List Value} {B newId initId : String} (F : ExcBaseFacts B newId initId bmB) (S : StoreFacts B bmB "object.__setattr__" "object") (h : xclsB K x f bmB newId = true) :
    XCls K (ga K x) (ma K (ga K x) "__init__") f bmB B newId initId ∧ PySem.W.nsIn K mainGlobals x = some (some (.ref (ga K x))) := by
  unfold xclsB at h
  simp only [Bool.and_eq_true, decide_eq_true_eq] at h
  obtain ⟨⟨⟨⟨⟨⟨h1, h2⟩, h3⟩, h4⟩, ⟨⟨⟨h5, h6⟩, h7⟩, h8⟩⟩, ⟨⟨⟨h9, h10⟩, h11⟩, h12⟩⟩, ⟨⟨h13, h14⟩, h15⟩⟩ := h
  exact ⟨⟨F, S, h1, h2, eqO_ok h5, h3, eqO_ok h6, eqO_ok h7, h8, h4, eqO_ok h9, eqO_ok h10, h11, eqO_ok h12, h13, eqO_ok h14⟩, eqO_ok h15⟩
/-- the base's __init__, reached by the base's name -/
def bioB (K : PySem.W.Frag) (x : Str) (initId : String) : Bool :=
  PySem.W.readsIn K (ga K x) (.type "type") && eqO (PySem.W.specialIn K (.ref (ga K x)) "__getattribute__") (some (some (.builtin "type.__getattribute__"))) && (match PySem.W.findCls K (.ref (ga K x)) (.type "type") "__init__" with | some (.val v) => decide (v = .builtin initId) | _ => false) &&
  decide (PySem.W.typeIn K (.ref (ga K x)) = some (.type "type")) && eqO (PySem.W.nsIn K mainGlobals x) (some (some (.ref (ga K x))))
theorem bioB_ok {K : PySem.W.Frag} {x : Str} {initId : String} (h : bioB K x initId = true) : PySem.W.readsIn K (ga K x) (.type "type") = true ∧ PySem.W.specialIn K (.ref (ga K x)) "__getattribute__" = some (some (.builtin "type.__getattribute__")) ∧
    PySem.W.findCls K (.ref (ga K x)) (.type "type") "__init__" = some (.val (.builtin initId)) ∧ PySem.W.typeIn K (.ref (ga K x)) = some (.type "type") ∧ PySem.W.nsIn K mainGlobals x = some (some (.ref (ga K x))) := by
  unfold bioB at h
  simp only [Bool.and_eq_true, decide_eq_true_eq] at h
  obtain ⟨⟨⟨⟨h1, h2⟩, h3⟩, h4⟩, h5⟩ := h
  refine ⟨h1, eqO_ok h2, ?_, h4, eqO_ok h5⟩
  split at h3
  · rename_i v hv
    rw [hv, of_decide_eq_true h3]
  · cases h3
/-- what isinstance answers of the class's instances -/
def kitsB (K : PySem.W.Frag) (x : Str) (cs : List Value) (bs : List Bool) : Bool := decide (cs.map (PySem.W.kitOne K (.ref (ga K x))) = bs.map some)
end Q

/-! Q7: the own things by address; the laws' drawing of digits -/
namespace Q
open PySem PySem.Spec PyProof.Rows L2 He
open Evl (Ex fresh_back)

def getO (p : Addr) : Own → Option O
  | [] => none
  | q :: r => if q.1 = p then some q.2 else getO p r
theorem getO_mem {p : Addr} {u : O} : ∀ {o : Own}, getO p o = some u → (p, u) ∈ o
  | q :: r, h => by
    unfold getO at h
    by_cases e : q.1 = p
    · rw [if_pos e] at h
      cases h
      subst e
      exact List.mem_cons_self
    · rw [if_neg e] at h
      exact List.mem_cons_of_mem _ (getO_mem h)
theorem put_same {p : Addr} {u : O} : ∀ {o : Own}, getO p o = some u → put p u o = o
  | q :: r, h => by
    unfold getO at h
    unfold put
    by_cases e : q.1 = p
    · rw [if_pos e] at h ⊢
      cases h
      subst e
      rfl
    · rw [if_neg e] at h ⊢
      rw [put_same h]
theorem getO_put {p : Addr} {u v : O} : ∀ {o : Own}, getO p o = some v → getO p (put p u o) = some u
  | q :: r, h => by
    unfold getO at h
    unfold put
    by_cases e : q.1 = p
    · rw [if_pos e]
      unfold getO
      rw [if_pos rfl]
    · rw [if_neg e] at h ⊢
      unfold getO
      rw [if_neg e]
      exact getO_put h
theorem put_put {p : Addr} {u v : O} : ∀ {o : Own}, put p u (put p v o) = put p u o
  | [] => rfl
  | q :: r => by
    by_cases e : q.1 = p
    · rw [show put p v (q :: r) = (p, v) :: r from by unfold put; rw [if_pos e], show put p u (q :: r) = (p, u) :: r from by unfold put; rw [if_pos e]]
      unfold put
      rw [if_pos rfl]
    · rw [show put p v (q :: r) = q :: put p v r from by conv => lhs; unfold put; rw [if_neg e], show put p u (q :: r) = q :: put p u r from by conv => lhs; unfold put; rw [if_neg e]]
      conv => lhs; unfold put
      rw [if_neg e, put_put]
theorem getO_head {p : Addr} {u : O} {o : Own} : getO p ((p, u) :: o) = some u := by
  unfold getO
  rw [if_pos rfl]
theorem getO_put_ne {p q : Addr} {u : O} (h : q ≠ p) : ∀ {o : Own}, getO q (put p u o) = getO q o
  | [] => rfl
  | r :: s => by
    by_cases e : r.1 = p
    · rw [show put p u (r :: s) = (p, u) :: s from by unfold put; rw [if_pos e]]
      unfold getO
      rw [if_neg (Ne.symm h), if_neg (by rw [e]; exact Ne.symm h)]
    · rw [show put p u (r :: s) = r :: put p u s from by conv => lhs; unfold put; rw [if_neg e]]
      unfold getO
      rw [getO_put_ne h]

local macro_rules | `(tactic| walk_at "bin") => `(tactic| first | exact bin_addI | exact bin_subI | exact bin_modI (by decide) | exact bin_modI (by omega) | exact bin_eqI | exact bin_neI | exact bin_geI | exact bin_mulR (by decide) (by decide) | exact bin_mulL (by decide) (by decide) | exact bin_mulL (by omega) (by omega) | exact bin_ixL (by assumption) | exact bin_ixT (by assumption) | exact bin_powI (by decide))
local macro_rules | `(tactic| walk_at "ea") => `(tactic| first | exact ea_nil | (apply ea_cons <;> walk_at "q"))
local macro_rules | `(tactic| walk_at "ev") => `(tactic| first
  | exact ev_int | exact ev_str | exact ev_bl | exact ev_non | exact ev_ref | exact ev_ty | exact ev_var rfl
  | (apply ev_op <;> walk_at "q")
  | (apply ev_lst <;> first | walk_at "q" | exact Nat.le_of_ble_eq_true rfl)
  | (apply ev_tup <;> first | walk_at "q" | exact Nat.le_of_ble_eq_true rfl))
local macro_rules | `(tactic| walk_at "q") => `(tactic| first | walk_at "ev" | walk_at "ea" | walk_at "bin")

/-! ### the drawing, as all laws have it -/
def mods (k : Int) : Int := if k % 4 = 0 then 1000000007 else if k % 4 = 1 then 998244353 else if k % 4 = 2 then 2147483629 else 1000000009
def mixed (c k : Int) : Int := (c % mods k + 7919 * k + 13) * (c % mods k + 7919 * k + 13) % 2147483647 * 48271 % 2147483647
theorem mods_at (k : Int) : atI [D.int 1000000007, D.int 998244353, D.int 2147483629, D.int 1000000009] (k % 4) = some (.int (mods k)) := by
  have h : k % 4 = 0 ∨ k % 4 = 1 ∨ k % 4 = 2 ∨ k % 4 = 3 := by omega
  unfold mods
  rcases h with h | h | h | h <;> rw [h] <;> rfl
theorem mods_pos (k : Int) : 0 < mods k ∧ mods k < 2147483648 := by
  unfold mods
  repeat' split
  all_goals omega
theorem mixed_bd (c k : Int) : 0 ≤ mixed c k ∧ mixed c k < 2147483647 := by
  unfold mixed
  omega
def F__law_mixed (K : PySem.W.Frag) : FS := fun ds o out => ∃ c k : Int, ds = [.int c, .int k] ∧ 0 ≤ k ∧ k ≤ 100000 ∧ out = .rt (.int (mixed c k)) o
abbrev N__law_mixed : List Str := ["cell", "k", "number"]
abbrev N__law_draw : List Str := ["cell", "k"]
abbrev N__law_digit : List Str := ["state", "below", "j", "found"]
def t__law_mixed (K : PySem.W.Frag) : TS := (tSeq (tAsg (tOp (rAddU K) (tOp (rAddU K) (tOp (rI (fun _ j => 0 < j) fun i j => .int (i % j)) (tVar 0) (tOp (rIx K) (tLst (tCons (tC (.int 1000000007)) (tCons (tC (.int 998244353)) (tCons (tC (.int 2147483629)) (tCons (tC (.int 1000000009)) tNil))))) (tOp (rI (fun _ j => 0 < j) fun i j => .int (i % j)) (tVar 1) (tC (.int 4))))) (tOp (rMulU K) (tC (.int 7919)) (tVar 1))) (tC (.int 13))) (gName 2))
    (tRet (tOp (rI (fun _ j => 0 < j) fun i j => .int (i % j)) (tOp (rMulU K) (tOp (rI (fun _ j => 0 < j) fun i j => .int (i % j)) (tOp (rMulU K) (tVar 2) (tVar 2)) (tC (.int 2147483647))) (tC (.int 48271))) (tC (.int 2147483647)))))
def t__law_draw (K : PySem.W.Frag) : TS := (tRet (tDisp [((tC (.str "left")), (tIf (tTest (tOp (rI0 fun i j => .bl (decide (j ≤ i))) (tVar 0) (tOp (rI CPowW fun i j => .int (i ^ j.toNat)) (tC (.int 10)) (tC (.int 18))))) (tVar 0) (tC (.int 0)))), ((tC (.str "cell")), (tVar 0)), ((tC (.str "turns")), (tOp (rMulU K) (tC (.int 1000)) (tVar 1)))]))
theorem does_mixed {K : PySem.W.Frag} {W : WW} {c k : Int} {o : Own} (h0 : 0 ≤ k) (h1 : k ≤ 100000) : Does K W (t__law_mixed K) (startG N__law_mixed [.int c, .int k]) o (.rt (.int (mixed c k)) o) := by
  have hm := mods_pos k
  have hc : 0 ≤ c % mods k ∧ c % mods k < 2147483648 := ⟨Int.emod_nonneg _ (by omega), Int.lt_trans (Int.emod_lt_of_pos _ hm.1) hm.2⟩
  have hi := mods_at k
  unfold t__law_mixed
  apply does_setq (d := .int (c % mods k + 7919 * k + 13))
  · walk_at "q"
  · apply does_ret (d := .int (mixed c k)) (s := .refl _)
    walk_at "q"
/-- the state's dict -/
def stD (l c t : Int) : List (Key × D) := [(.inr "left", .int l), (.inr "cell", .int c), (.inr "turns", .int t)]
def left0 (c : Int) : Int := if 10 ^ 18 ≤ c then c else 0
def F__law_draw (K : PySem.W.Frag) : FS := fun ds o out => ∃ c k : Int, ds = [.int c, .int k] ∧ 0 ≤ k ∧ k ≤ 1000 ∧ out = .rn (.dK (stD (left0 c) c (1000 * k))) o
theorem st_fold (l c t : Int) : [((.inr "left" : Key), D.int l), (.inr "cell", .int c), (.inr "turns", .int t)].foldl (fun acc kv => putD acc kv.1 kv.2) [] = stD l c t := by
  with_unfolding_all rfl
theorem does_draw {K : PySem.W.Frag} {W : WW} {c k : Int} {o : Own} : Does K W (t__law_draw K) (startG N__law_draw [.int c, .int k]) o (.rn (.dK (stD (left0 c) c (1000 * k))) o) := by
  unfold t__law_draw
  rw [← st_fold]
  have h1 : Ev K (tIf (tTest (tOp (rI0 fun i j => .bl (decide (j ≤ i))) (tVar 0) (tOp (rI CPowW fun i j => .int (i ^ j.toNat)) (tC (.int 10)) (tC (.int 18))))) (tVar 0) (tC (.int 0))) (startG N__law_draw [.int c, .int k]) o (.int (left0 c)) o := by
    refine ev_if (b := decide (10 ^ 18 ≤ c)) (et_test (ev_op (ev_var rfl) (ev_is (ev_op ev_int ev_int (bin_powI (by unfold CPowW; decide))) (by rfl)) bin_geI)) (fun h => ?_) (fun h => ?_)
    · have h := of_decide_eq_true h
      unfold left0
      rw [if_pos h]
      exact ev_var rfl
    · have h := of_decide_eq_false h
      unfold left0
      rw [if_neg h]
      exact ev_int
  exact does_retn (en_disp (eps_cons (.inr "left") ev_str h1 (eps_cons (.inr "cell") ev_str (ev_var rfl) (eps_cons (.inr "turns") ev_str (ev_op ev_int (ev_var rfl) (bin_mulL (by decide) (by decide))) eps_nil)))) (.refl _)

/-- four more draws where nothing is left -/
def refill (l c t : Int) : Int × Int := if l = 0 then ([0, 1, 2, 3] : List Nat).foldl (fun s _ => (s.1 * 2147483647 + mixed c (s.2 + 1), s.2 + 1)) (l, t) else (l, t)
theorem refill_ok {l c t : Int} (h : 0 ≤ l) : 0 ≤ (refill l c t).1 ∧ t ≤ (refill l c t).2 ∧ (refill l c t).2 ≤ t + 4 := by
  unfold refill
  by_cases e : l = 0
  · rw [if_pos e]
    have b1 := mixed_bd c (t + 1)
    have b2 := mixed_bd c (t + 1 + 1)
    have b3 := mixed_bd c (t + 1 + 1 + 1)
    have b4 := mixed_bd c (t + 1 + 1 + 1 + 1)
    simp only [List.foldl_cons, List.foldl_nil]
    omega
  · rw [if_neg e]
    exact ⟨h, Int.le_refl _, by omega⟩
def digit (l c t n : Int) : Int := (refill l c t).1 % n
def dLeft (l c t n : Int) : Int := (refill l c t).1 / n
def dTurn (l c t : Int) : Int := (refill l c t).2
theorem digit_ok {l c t n : Int} (h : 0 ≤ l) (hn : 0 < n) : 0 ≤ digit l c t n ∧ digit l c t n < n ∧ 0 ≤ dLeft l c t n ∧ t ≤ dTurn l c t ∧ dTurn l c t ≤ t + 4 :=
  ⟨Int.emod_nonneg _ (by omega), Int.emod_lt_of_pos _ hn, Int.ediv_nonneg (refill_ok h).1 (by omega), (refill_ok h).2.1, (refill_ok h).2.2⟩
def F__law_digit (K : PySem.W.Frag) : FS := fun ds o out => ∃ (p : Addr) (l c t n : Int), ds = [.ref p, .int n] ∧ getO p o = some (.dK (stD l c t)) ∧ 0 ≤ l ∧ 0 ≤ t ∧ t ≤ 90000 ∧ 0 < n ∧ n < 2 ^ 64 ∧ out = .rt (.int (digit l c t n)) (put p (.dK (stD (dLeft l c t n) c (dTurn l c t))) o)
def t__law_digit (K : PySem.W.Frag) : TS := (tSeq (tIfS (tTest (tOp (rEqD K) (tDGet (tVar 0) (tC (.str "left"))) (tC (.int 0)))) (tFor (iRng1 (tCons (tC (.int 4)) tNil)) (gName 2)
    (tSeq (sDPut (tVar 0) (tC (.str "turns")) (tOp (rAddU K) (tDGet (tVar 0) (tC (.str "turns"))) (tC (.int 1))))
    (sDPut (tVar 0) (tC (.str "left")) (tOp (rAddU K) (tOp (rMulU K) (tDGet (tVar 0) (tC (.str "left"))) (tC (.int 2147483647))) (tCall (spF K 2 (F__law_mixed K)) [] E0 (tCons (tDGet (tVar 0) (tC (.str "cell"))) (tCons (tDGet (tVar 0) (tC (.str "turns"))) tNil))))))) tNext)
    (tSeq (tAsg (tOp (rI (fun _ j => 0 < j) fun i j => .int (i % j)) (tDGet (tVar 0) (tC (.str "left"))) (tVar 1)) (gName 3))
    (tSeq (sDPut (tVar 0) (tC (.str "left")) (tOp (rI CDivW fun i j => .int (i / j)) (tDGet (tVar 0) (tC (.str "left"))) (tVar 1)))
    (tRet (tVar 3)))))

theorem st_left (l c t : Int) : valD (stD l c t) (.inr "left") = some (.int l) := by with_unfolding_all rfl
theorem st_cell (l c t : Int) : valD (stD l c t) (.inr "cell") = some (.int c) := by with_unfolding_all rfl
theorem st_turns (l c t : Int) : valD (stD l c t) (.inr "turns") = some (.int t) := by with_unfolding_all rfl
theorem st_putL (l c t x : Int) : putD (stD l c t) (.inr "left") (.int x) = stD x c t := by with_unfolding_all rfl
theorem st_putT (l c t x : Int) : putD (stD l c t) (.inr "turns") (.int x) = stD l c x := by with_unfolding_all rfl
theorem does_digit {K : PySem.W.Frag} {W : WW} {p : Addr} {l c t n : Int} {o : Own} (hp : getO p o = some (.dK (stD l c t))) (h0 : 0 ≤ l) (ht : 0 ≤ t) (ht2 : t ≤ 90000) (hn : 0 < n) (hn2 : n < 2 ^ 64) :
    Does K W (t__law_digit K) (startG N__law_digit [.ref p, .int n]) o (.rt (.int (digit l c t n)) (put p (.dK (stD (dLeft l c t n) c (dTurn l c t))) o)) := by
  unfold t__law_digit
  -- what the names show of the own dict
  have get : ∀ {Γ : G} (s1 s2 : Int) (o' : Own), Γ[0]? = some (some (.ref p)) → getO p o' = some (.dK (stD s1 c s2)) → Ev K (tDGet (tVar 0) (tC (.str "left"))) Γ o' (.int s1) o' ∧ Ev K (tDGet (tVar 0) (tC (.str "cell"))) Γ o' (.int c) o' ∧ Ev K (tDGet (tVar 0) (tC (.str "turns"))) Γ o' (.int s2) o' := fun s1 s2 o' hg hp' =>
    ⟨ev_dget (.inr "left") (ev_var hg) ev_str (getO_mem hp') (st_left _ _ _), ev_dget (.inr "cell") (ev_var hg) ev_str (getO_mem hp') (st_cell _ _ _), ev_dget (.inr "turns") (ev_var hg) ev_str (getO_mem hp') (st_turns _ _ _)⟩
  -- the rest, from any state
  have rest : ∀ (Γ : G) (l1 t1 : Int) (o' : Own), Γ[0]? = some (some (.ref p)) → Γ[1]? = some (some (.int n)) → 3 < Γ.length → getO p o' = some (.dK (stD l1 c t1)) → 0 ≤ l1 →
      Does K W (tSeq (tAsg (tOp (rI (fun _ j => 0 < j) fun i j => .int (i % j)) (tDGet (tVar 0) (tC (.str "left"))) (tVar 1)) (gName 3))
    (tSeq (sDPut (tVar 0) (tC (.str "left")) (tOp (rI CDivW fun i j => .int (i / j)) (tDGet (tVar 0) (tC (.str "left"))) (tVar 1)))
    (tRet (tVar 3)))) Γ o' (.rt (.int (l1 % n)) (put p (.dK (stD (l1 / n) c t1)) o')) := by
    intro Γ l1 t1 o' g0 g1 gl hp' hl
    have s0 : (Γ.set 3 (some (.int (l1 % n))))[0]? = some (some (.ref p)) := by rw [List.getElem?_set_ne (by decide)]; exact g0
    have s1 : (Γ.set 3 (some (.int (l1 % n))))[1]? = some (some (.int n)) := by rw [List.getElem?_set_ne (by decide)]; exact g1
    refine does_setq (ev_op (get l1 t1 o' g0 hp').1 (ev_var g1) (bin_modI hn)) ?_
    refine (does_dput (.inr "left") (ev_op (get l1 t1 o' s0 hp').1 (ev_var s1) (bin_fdivI (wide_div (b := 64) hn (by omega) (by decide) (by decide)))) (ev_var s0) ev_str (getO_mem hp')).seq ?_
    rw [st_putL]
    exact does_ret (ev_var (by rw [List.getElem?_set_self gl])) (.refl _)
  by_cases hl : l = 0
  · -- four draws
    have hr : refill l c t = ([0, 1, 2, 3] : List Nat).foldl (fun s _ => (s.1 * 2147483647 + mixed c (s.2 + 1), s.2 + 1)) (l, t) := by unfold refill; rw [if_pos hl]
    have loop := does_for (K := K) (W := W) (g := gName 2) (Γ := startG N__law_digit [.ref p, .int n]) (o := o) (o1 := o) ([0, 1, 2, 3] : List Nat) (fun i => .int (0 + i)) (fun _ : Int × Int => startG N__law_digit [.ref p, .int n]) (fun s => put p (.dK (stD s.1 c s.2)) o)
      (fun pre s => s.2 = t + pre.length ∧ pre.length ≤ 4) (l, t) (fun s _ => (s.1 * 2147483647 + mixed c (s.2 + 1), s.2 + 1)) (EvI.range1 (ea_cons (ev_int (i := 4)) ea_nil) (by decide) (by decide)) (Le.refl _) (put_same hp) ⟨by show t = t + 0; omega, by decide⟩
      (tb := (tSeq (sDPut (tVar 0) (tC (.str "turns")) (tOp (rAddU K) (tDGet (tVar 0) (tC (.str "turns"))) (tC (.int 1))))
    (sDPut (tVar 0) (tC (.str "left")) (tOp (rAddU K) (tOp (rMulU K) (tDGet (tVar 0) (tC (.str "left"))) (tC (.int 2147483647))) (tCall (spF K 2 (F__law_mixed K)) [] E0 (tCons (tDGet (tVar 0) (tC (.str "cell"))) (tCons (tDGet (tVar 0) (tC (.str "turns"))) tNil)))))))
      (fun pre x post s hs hI => by
        have hlen : pre.length < 4 := by
          have := congrArg List.length hs
          simp at this
          omega
        refine ⟨_, eg_name, ⟨by rw [List.length_append, List.length_singleton]; show s.2 + 1 = _; omega, by rw [List.length_append, List.length_singleton]; omega⟩, ?_⟩
        have g1 := getO_put (u := .dK (stD s.1 c s.2)) hp
        have e1 := get (Γ := (startG N__law_digit [.ref p, .int n]).set 2 (some (.int (0 + (x : Int))))) s.1 s.2 _ rfl g1
        refine Does.onLe (Γ1 := (startG N__law_digit [.ref p, .int n]).set 2 (some (.int (0 + (x : Int))))) (Γ2 := startG N__law_digit [.ref p, .int n]) (Does.on ?_) ⟨.inr rfl, .inr rfl, .inl rfl, .inr rfl, trivial⟩ (.refl _)
        refine (does_dput (.inr "turns") (ev_op e1.2.2 ev_int bin_addI) (ev_var rfl) ev_str (getO_mem g1)).seq ?_
        rw [st_putT, put_put]
        have g2 := getO_put (u := .dK (stD s.1 c (s.2 + 1))) hp
        have e2 := get (Γ := (startG N__law_digit [.ref p, .int n]).set 2 (some (.int (0 + (x : Int))))) s.1 (s.2 + 1) _ rfl g2
        have hm : F__law_mixed K ([.int c, .int (s.2 + 1)] ++ []) (put p (.dK (stD s.1 c (s.2 + 1))) o) (.rt (.int (mixed c (s.2 + 1))) (put p (.dK (stD s.1 c (s.2 + 1))) o)) := ⟨c, s.2 + 1, rfl, by omega, by omega, rfl⟩
        have d := does_dput (K := K) (W := W) (.inr "left") (ev_op (ev_op e2.1 (ev_int (i := 2147483647)) (bin_mulR (j := 2147483647) (by decide) (by decide))) (ev_call (dvs := []) (dd := []) (E := E0) (ea_cons e2.2.1 (ea_cons e2.2.2 ea_nil)) (fun _ => .nil) rfl hm) bin_addI) (ev_var (Γ := (startG N__law_digit [.ref p, .int n]).set 2 (some (.int (0 + (x : Int))))) (i := 0) rfl) ev_str (getO_mem g2)
        rw [st_putL, put_put] at d
        exact d)
    rw [← hr] at loop
    obtain ⟨_, loop⟩ := loop
    refine does_ifq (b := true) (et_is (et_test (ev_op (get l t o rfl hp).1 ev_int bin_eqI)) (decide_eq_true hl)) (fun _ => loop.seq ?_) (fun z => nomatch z)
    have r := rest (startG N__law_digit [.ref p, .int n]) (refill l c t).1 (refill l c t).2 (put p (.dK (stD (refill l c t).1 c (refill l c t).2)) o) rfl rfl (Nat.le_of_ble_eq_true rfl) (getO_put hp) (refill_ok h0).1
    rw [put_put] at r
    exact r
  · refine does_ifF (et_is (et_test (ev_op (get l t o rfl hp).1 ev_int bin_eqI)) (decide_eq_false hl)) ?_
    have hr : refill l c t = (l, t) := by unfold refill; rw [if_neg hl]
    have r := rest (startG N__law_digit [.ref p, .int n]) l t o rfl rfl (Nat.le_of_ble_eq_true rfl) hp h0
    unfold digit dLeft dTurn
    rw [hr]
    exact r
end Q

/-! Q8: a Hook of names, defs and a Bool, the interpreter's statics at hand -/
namespace Q
open PySem PySem.Spec PyProof.Rows L2 He
def frE (g : Addr → Option Obj) (n : Nat) : PySem.W.Frag := frG g (asD g n ++ [cStatics])
abbrev AlE : Type := AlD × Bool
def obsE (n : Nat) (fa : List Fa) (fn : List DefD) (ex : PySem.W.Frag → Bool) (g : Addr → Option Obj) : AlE := (obsD fa fn (frE g n), ex (frE g n))
def hookE (n : Nat) (fa : List Fa) (fn : List DefD) (ex : PySem.W.Frag → Bool) : PySem.W.Hook where
  α := AlE
  obs := fun s => obsE n fa fn ex s.heap.get?
  val := fun _ => (He.valD fn, true)
  says := fun _ h => ∃ K : PySem.W.Frag, K.In h ∧ SaysD fa fn K ∧ ex K = true
  of := fun _ _ e => ⟨_, frG_in, congrArg (fun z : AlE => z.1) e, congrArg (fun z : AlE => z.2) e⟩
  keeps := fun _ _ _ ⟨K, hK, c⟩ k => ⟨K, PySem.W.Frag.In.keeps hK k, c⟩
theorem obsE_eq {n : Nat} {fa : List Fa} {fn : List DefD} {ex : PySem.W.Frag → Bool} {g : Addr → Option Obj} {s : Shared} (h : ∀ a, g a = s.heap.get? a) : obsE n fa fn ex g = (hookE n fa fn ex).obs s := by
  have e : g = s.heap.get? := funext h
  rw [e] <;> rfl
end Q

/-! K99: each error made by hand -/
namespace K99
open PySem PySem.Spec PyProof.Rows L2 He Q
def top (i : Nat) : Stmt := PySem.Challenge.pw_patternwright_k99_errors_by_hand.main.body.getD i (.Pass ⟨0, 0, 0, 0⟩)
abbrev FnP (K : PySem.W.Frag) (x : Str) (st : Stmt) (f : Addr) (fd : FuncData) : Prop := FunD K x x (defArgs st) (defBody st) (defScope st) [] [] f fd

abbrev i_BadGrid : Stmt := inClass (top 2) 0
abbrev i_BadCell : Stmt := inClass (top 3) 0
abbrev i_BadMotion : Stmt := inClass (top 4) 0
abbrev i_BadLattice : Stmt := inClass (top 5) 0
abbrev i_BadGroup : Stmt := inClass (top 6) 0
abbrev i_BadPattern : Stmt := inClass (top 7) 0
abbrev i_BadTile : Stmt := inClass (top 8) 0
abbrev i_BadTiles : Stmt := inClass (top 9) 0
abbrev i_BadWeave : Stmt := inClass (top 10) 0
abbrev i_BadBand : Stmt := inClass (top 11) 0
abbrev i_BadColours : Stmt := inClass (top 12) 0
abbrev i_BadText : Stmt := inClass (top 13) 0
abbrev i_BadNumber : Stmt := inClass (top 14) 0
abbrev i_BadPaper : Stmt := inClass (top 15) 0
abbrev i_BadDeed : Stmt := inClass (top 16) 0
abbrev i_BadWord : Stmt := inClass (top 17) 0
abbrev i_TooMany : Stmt := inClass (top 18) 0
abbrev i_NoSuch : Stmt := inClass (top 19) 0
theorem tyT_OverflowError : typeOf (.type "OverflowError") = pure (.type "type") := by kernel_rfl
theorem fcT_OverflowError {K : PySem.W.Frag} : PySem.W.findCls K (.type "OverflowError") (.type "type") "__init__" = some (.val (.builtin "OverflowError.__init__")) := by kernel_rfl
theorem tyT_LookupError : typeOf (.type "LookupError") = pure (.type "type") := by kernel_rfl
theorem fcT_LookupError {K : PySem.W.Frag} : PySem.W.findCls K (.type "LookupError") (.type "type") "__init__" = some (.val (.builtin "LookupError.__init__")) := by kernel_rfl
section
variable {P : Program} {w : World} {K : PySem.W.Frag} {mg : Str → Option Value} {base h : Heap} {fd : FuncData}
theorem xd_BadGrid (X : K.In h) (G : h.Ns mainGlobals mg) (F : FunD K "__init__" "BadGrid.__init__" (defArgs i_BadGrid) (defBody i_BadGrid) (defScope i_BadGrid) [.non] [] (fAd K ("BadGrid", some "__init__")) fd) (hx : xclsB K "BadGrid" "value" [.type "ValueError", .type "Exception", .type "BaseException", .type "object"] "ValueError.__new__" = true)
    (hb : bioB K "PatternError" "ValueError.__init__" = true) : XD P w K mg base "BadGrid" "value" "no such grid" true := by
  obtain ⟨T, ns⟩ := xclsB_ok (initId := "ValueError.__init__") PySem.F.excBase_ValueError PySem.F.store_ValueError hx
  obtain ⟨r1, r2, r3, r4, r5⟩ := bioB_ok hb
  have F1 : FnOk P w K mg base CX0 1 (ma K (ga K "BadGrid") "__init__") fd ["self", "value"] (spI (ga K "BadGrid") "value" "no such grid") := ok_init T F ⟨rfl, rfl, rfl, by decide +kernel, rfl, by decide +kernel, by decide +kernel⟩
    (fun cdv A outer s H E => ps_expr (pe_biO rfl (PySem.W.mg_of X G r5) r1 r2 r3 r4 (pa_cons (pv 0) (pa_cons pe_str pa_nil)))) (fun cdv A outer s H E => ps_xs (pv 0) (pv 1))
  obtain ⟨i0, b0⟩ := F.kbindsD (ps := ["self", "value"]) 2 [] (fun us ds ws => us) (by decide) (fun r r1 r2 => r) (fun T kV doc pm an cdv ct us its ws l1 l2 l3 => match us, its, ws, l1, l2, l3 with | [_, _], [_], [], _, _, _ => ⟨_, rfl, rfl⟩)
  obtain ⟨i1, b1⟩ := F.kbindsD (ps := ["self", "value"]) 1 ["value"] (fun us ds ws => us ++ ws) (by decide) (fun r r1 r2 => r.append r2) (fun T kV doc pm an cdv ct us its ws l1 l2 l3 => match us, its, ws, l1, l2, l3 with | [_], [_], [_], _, _, _ => ⟨_, rfl, rfl⟩)
  obtain ⟨i2, b2⟩ := F.kbindsD (ps := ["self", "value"]) 1 [] (fun us ds ws => us ++ ds) (by decide) (fun r r1 r2 => r.append r1) (fun T kV doc pm an cdv ct us its ws l1 l2 l3 => match us, its, ws, l1, l2, l3 with | [_], [_], [], _, _, _ => ⟨_, rfl, rfl⟩)
  exact ⟨_, _, _, _, _, _, T, PySem.W.mg_of X G ns, F1, b0, b1, fun _ => ⟨i2, b2⟩⟩
theorem xd_BadCell (X : K.In h) (G : h.Ns mainGlobals mg) (F : FunD K "__init__" "BadCell.__init__" (defArgs i_BadCell) (defBody i_BadCell) (defScope i_BadCell) [.non] [] (fAd K ("BadCell", some "__init__")) fd) (hx : xclsB K "BadCell" "value" [.type "ValueError", .type "Exception", .type "BaseException", .type "object"] "ValueError.__new__" = true)
    (hb : bioB K "PatternError" "ValueError.__init__" = true) : XD P w K mg base "BadCell" "value" "no such cell" true := by
  obtain ⟨T, ns⟩ := xclsB_ok (initId := "ValueError.__init__") PySem.F.excBase_ValueError PySem.F.store_ValueError hx
  obtain ⟨r1, r2, r3, r4, r5⟩ := bioB_ok hb
  have F1 : FnOk P w K mg base CX0 1 (ma K (ga K "BadCell") "__init__") fd ["self", "value"] (spI (ga K "BadCell") "value" "no such cell") := ok_init T F ⟨rfl, rfl, rfl, by decide +kernel, rfl, by decide +kernel, by decide +kernel⟩
    (fun cdv A outer s H E => ps_expr (pe_biO rfl (PySem.W.mg_of X G r5) r1 r2 r3 r4 (pa_cons (pv 0) (pa_cons pe_str pa_nil)))) (fun cdv A outer s H E => ps_xs (pv 0) (pv 1))
  obtain ⟨i0, b0⟩ := F.kbindsD (ps := ["self", "value"]) 2 [] (fun us ds ws => us) (by decide) (fun r r1 r2 => r) (fun T kV doc pm an cdv ct us its ws l1 l2 l3 => match us, its, ws, l1, l2, l3 with | [_, _], [_], [], _, _, _ => ⟨_, rfl, rfl⟩)
  obtain ⟨i1, b1⟩ := F.kbindsD (ps := ["self", "value"]) 1 ["value"] (fun us ds ws => us ++ ws) (by decide) (fun r r1 r2 => r.append r2) (fun T kV doc pm an cdv ct us its ws l1 l2 l3 => match us, its, ws, l1, l2, l3 with | [_], [_], [_], _, _, _ => ⟨_, rfl, rfl⟩)
  obtain ⟨i2, b2⟩ := F.kbindsD (ps := ["self", "value"]) 1 [] (fun us ds ws => us ++ ds) (by decide) (fun r r1 r2 => r.append r1) (fun T kV doc pm an cdv ct us its ws l1 l2 l3 => match us, its, ws, l1, l2, l3 with | [_], [_], [], _, _, _ => ⟨_, rfl, rfl⟩)
  exact ⟨_, _, _, _, _, _, T, PySem.W.mg_of X G ns, F1, b0, b1, fun _ => ⟨i2, b2⟩⟩
theorem xd_BadMotion (X : K.In h) (G : h.Ns mainGlobals mg) (F : FunD K "__init__" "BadMotion.__init__" (defArgs i_BadMotion) (defBody i_BadMotion) (defScope i_BadMotion) [.non] [] (fAd K ("BadMotion", some "__init__")) fd) (hx : xclsB K "BadMotion" "value" [.type "ValueError", .type "Exception", .type "BaseException", .type "object"] "ValueError.__new__" = true)
    (hb : bioB K "PatternError" "ValueError.__init__" = true) : XD P w K mg base "BadMotion" "value" "no such motion" true := by
  obtain ⟨T, ns⟩ := xclsB_ok (initId := "ValueError.__init__") PySem.F.excBase_ValueError PySem.F.store_ValueError hx
  obtain ⟨r1, r2, r3, r4, r5⟩ := bioB_ok hb
  have F1 : FnOk P w K mg base CX0 1 (ma K (ga K "BadMotion") "__init__") fd ["self", "value"] (spI (ga K "BadMotion") "value" "no such motion") := ok_init T F ⟨rfl, rfl, rfl, by decide +kernel, rfl, by decide +kernel, by decide +kernel⟩
    (fun cdv A outer s H E => ps_expr (pe_biO rfl (PySem.W.mg_of X G r5) r1 r2 r3 r4 (pa_cons (pv 0) (pa_cons pe_str pa_nil)))) (fun cdv A outer s H E => ps_xs (pv 0) (pv 1))
  obtain ⟨i0, b0⟩ := F.kbindsD (ps := ["self", "value"]) 2 [] (fun us ds ws => us) (by decide) (fun r r1 r2 => r) (fun T kV doc pm an cdv ct us its ws l1 l2 l3 => match us, its, ws, l1, l2, l3 with | [_, _], [_], [], _, _, _ => ⟨_, rfl, rfl⟩)
  obtain ⟨i1, b1⟩ := F.kbindsD (ps := ["self", "value"]) 1 ["value"] (fun us ds ws => us ++ ws) (by decide) (fun r r1 r2 => r.append r2) (fun T kV doc pm an cdv ct us its ws l1 l2 l3 => match us, its, ws, l1, l2, l3 with | [_], [_], [_], _, _, _ => ⟨_, rfl, rfl⟩)
  obtain ⟨i2, b2⟩ := F.kbindsD (ps := ["self", "value"]) 1 [] (fun us ds ws => us ++ ds) (by decide) (fun r r1 r2 => r.append r1) (fun T kV doc pm an cdv ct us its ws l1 l2 l3 => match us, its, ws, l1, l2, l3 with | [_], [_], [], _, _, _ => ⟨_, rfl, rfl⟩)
  exact ⟨_, _, _, _, _, _, T, PySem.W.mg_of X G ns, F1, b0, b1, fun _ => ⟨i2, b2⟩⟩
theorem xd_BadLattice (X : K.In h) (G : h.Ns mainGlobals mg) (F : FunD K "__init__" "BadLattice.__init__" (defArgs i_BadLattice) (defBody i_BadLattice) (defScope i_BadLattice) [.non] [] (fAd K ("BadLattice", some "__init__")) fd) (hx : xclsB K "BadLattice" "value" [.type "ValueError", .type "Exception", .type "BaseException", .type "object"] "ValueError.__new__" = true)
    (hb : bioB K "PatternError" "ValueError.__init__" = true) : XD P w K mg base "BadLattice" "value" "no such lattice" true := by
  obtain ⟨T, ns⟩ := xclsB_ok (initId := "ValueError.__init__") PySem.F.excBase_ValueError PySem.F.store_ValueError hx
  obtain ⟨r1, r2, r3, r4, r5⟩ := bioB_ok hb
  have F1 : FnOk P w K mg base CX0 1 (ma K (ga K "BadLattice") "__init__") fd ["self", "value"] (spI (ga K "BadLattice") "value" "no such lattice") := ok_init T F ⟨rfl, rfl, rfl, by decide +kernel, rfl, by decide +kernel, by decide +kernel⟩
    (fun cdv A outer s H E => ps_expr (pe_biO rfl (PySem.W.mg_of X G r5) r1 r2 r3 r4 (pa_cons (pv 0) (pa_cons pe_str pa_nil)))) (fun cdv A outer s H E => ps_xs (pv 0) (pv 1))
  obtain ⟨i0, b0⟩ := F.kbindsD (ps := ["self", "value"]) 2 [] (fun us ds ws => us) (by decide) (fun r r1 r2 => r) (fun T kV doc pm an cdv ct us its ws l1 l2 l3 => match us, its, ws, l1, l2, l3 with | [_, _], [_], [], _, _, _ => ⟨_, rfl, rfl⟩)
  obtain ⟨i1, b1⟩ := F.kbindsD (ps := ["self", "value"]) 1 ["value"] (fun us ds ws => us ++ ws) (by decide) (fun r r1 r2 => r.append r2) (fun T kV doc pm an cdv ct us its ws l1 l2 l3 => match us, its, ws, l1, l2, l3 with | [_], [_], [_], _, _, _ => ⟨_, rfl, rfl⟩)
  obtain ⟨i2, b2⟩ := F.kbindsD (ps := ["self", "value"]) 1 [] (fun us ds ws => us ++ ds) (by decide) (fun r r1 r2 => r.append r1) (fun T kV doc pm an cdv ct us its ws l1 l2 l3 => match us, its, ws, l1, l2, l3 with | [_], [_], [], _, _, _ => ⟨_, rfl, rfl⟩)
  exact ⟨_, _, _, _, _, _, T, PySem.W.mg_of X G ns, F1, b0, b1, fun _ => ⟨i2, b2⟩⟩
theorem xd_BadGroup (X : K.In h) (G : h.Ns mainGlobals mg) (F : FunD K "__init__" "BadGroup.__init__" (defArgs i_BadGroup) (defBody i_BadGroup) (defScope i_BadGroup) [.non] [] (fAd K ("BadGroup", some "__init__")) fd) (hx : xclsB K "BadGroup" "place" [.type "ValueError", .type "Exception", .type "BaseException", .type "object"] "ValueError.__new__" = true)
    (hb : bioB K "PatternError" "ValueError.__init__" = true) : XD P w K mg base "BadGroup" "place" "no such group" true := by
  obtain ⟨T, ns⟩ := xclsB_ok (initId := "ValueError.__init__") PySem.F.excBase_ValueError PySem.F.store_ValueError hx
  obtain ⟨r1, r2, r3, r4, r5⟩ := bioB_ok hb
  have F1 : FnOk P w K mg base CX0 1 (ma K (ga K "BadGroup") "__init__") fd ["self", "place"] (spI (ga K "BadGroup") "place" "no such group") := ok_init T F ⟨rfl, rfl, rfl, by decide +kernel, rfl, by decide +kernel, by decide +kernel⟩
    (fun cdv A outer s H E => ps_expr (pe_biO rfl (PySem.W.mg_of X G r5) r1 r2 r3 r4 (pa_cons (pv 0) (pa_cons pe_str pa_nil)))) (fun cdv A outer s H E => ps_xs (pv 0) (pv 1))
  obtain ⟨i0, b0⟩ := F.kbindsD (ps := ["self", "place"]) 2 [] (fun us ds ws => us) (by decide) (fun r r1 r2 => r) (fun T kV doc pm an cdv ct us its ws l1 l2 l3 => match us, its, ws, l1, l2, l3 with | [_, _], [_], [], _, _, _ => ⟨_, rfl, rfl⟩)
  obtain ⟨i1, b1⟩ := F.kbindsD (ps := ["self", "place"]) 1 ["place"] (fun us ds ws => us ++ ws) (by decide) (fun r r1 r2 => r.append r2) (fun T kV doc pm an cdv ct us its ws l1 l2 l3 => match us, its, ws, l1, l2, l3 with | [_], [_], [_], _, _, _ => ⟨_, rfl, rfl⟩)
  obtain ⟨i2, b2⟩ := F.kbindsD (ps := ["self", "place"]) 1 [] (fun us ds ws => us ++ ds) (by decide) (fun r r1 r2 => r.append r1) (fun T kV doc pm an cdv ct us its ws l1 l2 l3 => match us, its, ws, l1, l2, l3 with | [_], [_], [], _, _, _ => ⟨_, rfl, rfl⟩)
  exact ⟨_, _, _, _, _, _, T, PySem.W.mg_of X G ns, F1, b0, b1, fun _ => ⟨i2, b2⟩⟩
theorem xd_BadPattern (X : K.In h) (G : h.Ns mainGlobals mg) (F : FunD K "__init__" "BadPattern.__init__" (defArgs i_BadPattern) (defBody i_BadPattern) (defScope i_BadPattern) [.non] [] (fAd K ("BadPattern", some "__init__")) fd) (hx : xclsB K "BadPattern" "place" [.type "ValueError", .type "Exception", .type "BaseException", .type "object"] "ValueError.__new__" = true)
    (hb : bioB K "PatternError" "ValueError.__init__" = true) : XD P w K mg base "BadPattern" "place" "no such pattern" true := by
  obtain ⟨T, ns⟩ := xclsB_ok (initId := "ValueError.__init__") PySem.F.excBase_ValueError PySem.F.store_ValueError hx
  obtain ⟨r1, r2, r3, r4, r5⟩ := bioB_ok hb
  have F1 : FnOk P w K mg base CX0 1 (ma K (ga K "BadPattern") "__init__") fd ["self", "place"] (spI (ga K "BadPattern") "place" "no such pattern") := ok_init T F ⟨rfl, rfl, rfl, by decide +kernel, rfl, by decide +kernel, by decide +kernel⟩
    (fun cdv A outer s H E => ps_expr (pe_biO rfl (PySem.W.mg_of X G r5) r1 r2 r3 r4 (pa_cons (pv 0) (pa_cons pe_str pa_nil)))) (fun cdv A outer s H E => ps_xs (pv 0) (pv 1))
  obtain ⟨i0, b0⟩ := F.kbindsD (ps := ["self", "place"]) 2 [] (fun us ds ws => us) (by decide) (fun r r1 r2 => r) (fun T kV doc pm an cdv ct us its ws l1 l2 l3 => match us, its, ws, l1, l2, l3 with | [_, _], [_], [], _, _, _ => ⟨_, rfl, rfl⟩)
  obtain ⟨i1, b1⟩ := F.kbindsD (ps := ["self", "place"]) 1 ["place"] (fun us ds ws => us ++ ws) (by decide) (fun r r1 r2 => r.append r2) (fun T kV doc pm an cdv ct us its ws l1 l2 l3 => match us, its, ws, l1, l2, l3 with | [_], [_], [_], _, _, _ => ⟨_, rfl, rfl⟩)
  obtain ⟨i2, b2⟩ := F.kbindsD (ps := ["self", "place"]) 1 [] (fun us ds ws => us ++ ds) (by decide) (fun r r1 r2 => r.append r1) (fun T kV doc pm an cdv ct us its ws l1 l2 l3 => match us, its, ws, l1, l2, l3 with | [_], [_], [], _, _, _ => ⟨_, rfl, rfl⟩)
  exact ⟨_, _, _, _, _, _, T, PySem.W.mg_of X G ns, F1, b0, b1, fun _ => ⟨i2, b2⟩⟩
theorem xd_BadTile (X : K.In h) (G : h.Ns mainGlobals mg) (F : FunD K "__init__" "BadTile.__init__" (defArgs i_BadTile) (defBody i_BadTile) (defScope i_BadTile) [.non] [] (fAd K ("BadTile", some "__init__")) fd) (hx : xclsB K "BadTile" "place" [.type "ValueError", .type "Exception", .type "BaseException", .type "object"] "ValueError.__new__" = true)
    (hb : bioB K "PatternError" "ValueError.__init__" = true) : XD P w K mg base "BadTile" "place" "no such tile" true := by
  obtain ⟨T, ns⟩ := xclsB_ok (initId := "ValueError.__init__") PySem.F.excBase_ValueError PySem.F.store_ValueError hx
  obtain ⟨r1, r2, r3, r4, r5⟩ := bioB_ok hb
  have F1 : FnOk P w K mg base CX0 1 (ma K (ga K "BadTile") "__init__") fd ["self", "place"] (spI (ga K "BadTile") "place" "no such tile") := ok_init T F ⟨rfl, rfl, rfl, by decide +kernel, rfl, by decide +kernel, by decide +kernel⟩
    (fun cdv A outer s H E => ps_expr (pe_biO rfl (PySem.W.mg_of X G r5) r1 r2 r3 r4 (pa_cons (pv 0) (pa_cons pe_str pa_nil)))) (fun cdv A outer s H E => ps_xs (pv 0) (pv 1))
  obtain ⟨i0, b0⟩ := F.kbindsD (ps := ["self", "place"]) 2 [] (fun us ds ws => us) (by decide) (fun r r1 r2 => r) (fun T kV doc pm an cdv ct us its ws l1 l2 l3 => match us, its, ws, l1, l2, l3 with | [_, _], [_], [], _, _, _ => ⟨_, rfl, rfl⟩)
  obtain ⟨i1, b1⟩ := F.kbindsD (ps := ["self", "place"]) 1 ["place"] (fun us ds ws => us ++ ws) (by decide) (fun r r1 r2 => r.append r2) (fun T kV doc pm an cdv ct us its ws l1 l2 l3 => match us, its, ws, l1, l2, l3 with | [_], [_], [_], _, _, _ => ⟨_, rfl, rfl⟩)
  obtain ⟨i2, b2⟩ := F.kbindsD (ps := ["self", "place"]) 1 [] (fun us ds ws => us ++ ds) (by decide) (fun r r1 r2 => r.append r1) (fun T kV doc pm an cdv ct us its ws l1 l2 l3 => match us, its, ws, l1, l2, l3 with | [_], [_], [], _, _, _ => ⟨_, rfl, rfl⟩)
  exact ⟨_, _, _, _, _, _, T, PySem.W.mg_of X G ns, F1, b0, b1, fun _ => ⟨i2, b2⟩⟩
theorem xd_BadTiles (X : K.In h) (G : h.Ns mainGlobals mg) (F : FunD K "__init__" "BadTiles.__init__" (defArgs i_BadTiles) (defBody i_BadTiles) (defScope i_BadTiles) [.non] [] (fAd K ("BadTiles", some "__init__")) fd) (hx : xclsB K "BadTiles" "place" [.type "ValueError", .type "Exception", .type "BaseException", .type "object"] "ValueError.__new__" = true)
    (hb : bioB K "PatternError" "ValueError.__init__" = true) : XD P w K mg base "BadTiles" "place" "no such tiles" true := by
  obtain ⟨T, ns⟩ := xclsB_ok (initId := "ValueError.__init__") PySem.F.excBase_ValueError PySem.F.store_ValueError hx
  obtain ⟨r1, r2, r3, r4, r5⟩ := bioB_ok hb
  have F1 : FnOk P w K mg base CX0 1 (ma K (ga K "BadTiles") "__init__") fd ["self", "place"] (spI (ga K "BadTiles") "place" "no such tiles") := ok_init T F ⟨rfl, rfl, rfl, by decide +kernel, rfl, by decide +kernel, by decide +kernel⟩
    (fun cdv A outer s H E => ps_expr (pe_biO rfl (PySem.W.mg_of X G r5) r1 r2 r3 r4 (pa_cons (pv 0) (pa_cons pe_str pa_nil)))) (fun cdv A outer s H E => ps_xs (pv 0) (pv 1))
  obtain ⟨i0, b0⟩ := F.kbindsD (ps := ["self", "place"]) 2 [] (fun us ds ws => us) (by decide) (fun r r1 r2 => r) (fun T kV doc pm an cdv ct us its ws l1 l2 l3 => match us, its, ws, l1, l2, l3 with | [_, _], [_], [], _, _, _ => ⟨_, rfl, rfl⟩)
  obtain ⟨i1, b1⟩ := F.kbindsD (ps := ["self", "place"]) 1 ["place"] (fun us ds ws => us ++ ws) (by decide) (fun r r1 r2 => r.append r2) (fun T kV doc pm an cdv ct us its ws l1 l2 l3 => match us, its, ws, l1, l2, l3 with | [_], [_], [_], _, _, _ => ⟨_, rfl, rfl⟩)
  obtain ⟨i2, b2⟩ := F.kbindsD (ps := ["self", "place"]) 1 [] (fun us ds ws => us ++ ds) (by decide) (fun r r1 r2 => r.append r1) (fun T kV doc pm an cdv ct us its ws l1 l2 l3 => match us, its, ws, l1, l2, l3 with | [_], [_], [], _, _, _ => ⟨_, rfl, rfl⟩)
  exact ⟨_, _, _, _, _, _, T, PySem.W.mg_of X G ns, F1, b0, b1, fun _ => ⟨i2, b2⟩⟩
theorem xd_BadWeave (X : K.In h) (G : h.Ns mainGlobals mg) (F : FunD K "__init__" "BadWeave.__init__" (defArgs i_BadWeave) (defBody i_BadWeave) (defScope i_BadWeave) [.non] [] (fAd K ("BadWeave", some "__init__")) fd) (hx : xclsB K "BadWeave" "place" [.type "ValueError", .type "Exception", .type "BaseException", .type "object"] "ValueError.__new__" = true)
    (hb : bioB K "PatternError" "ValueError.__init__" = true) : XD P w K mg base "BadWeave" "place" "no such weave" true := by
  obtain ⟨T, ns⟩ := xclsB_ok (initId := "ValueError.__init__") PySem.F.excBase_ValueError PySem.F.store_ValueError hx
  obtain ⟨r1, r2, r3, r4, r5⟩ := bioB_ok hb
  have F1 : FnOk P w K mg base CX0 1 (ma K (ga K "BadWeave") "__init__") fd ["self", "place"] (spI (ga K "BadWeave") "place" "no such weave") := ok_init T F ⟨rfl, rfl, rfl, by decide +kernel, rfl, by decide +kernel, by decide +kernel⟩
    (fun cdv A outer s H E => ps_expr (pe_biO rfl (PySem.W.mg_of X G r5) r1 r2 r3 r4 (pa_cons (pv 0) (pa_cons pe_str pa_nil)))) (fun cdv A outer s H E => ps_xs (pv 0) (pv 1))
  obtain ⟨i0, b0⟩ := F.kbindsD (ps := ["self", "place"]) 2 [] (fun us ds ws => us) (by decide) (fun r r1 r2 => r) (fun T kV doc pm an cdv ct us its ws l1 l2 l3 => match us, its, ws, l1, l2, l3 with | [_, _], [_], [], _, _, _ => ⟨_, rfl, rfl⟩)
  obtain ⟨i1, b1⟩ := F.kbindsD (ps := ["self", "place"]) 1 ["place"] (fun us ds ws => us ++ ws) (by decide) (fun r r1 r2 => r.append r2) (fun T kV doc pm an cdv ct us its ws l1 l2 l3 => match us, its, ws, l1, l2, l3 with | [_], [_], [_], _, _, _ => ⟨_, rfl, rfl⟩)
  obtain ⟨i2, b2⟩ := F.kbindsD (ps := ["self", "place"]) 1 [] (fun us ds ws => us ++ ds) (by decide) (fun r r1 r2 => r.append r1) (fun T kV doc pm an cdv ct us its ws l1 l2 l3 => match us, its, ws, l1, l2, l3 with | [_], [_], [], _, _, _ => ⟨_, rfl, rfl⟩)
  exact ⟨_, _, _, _, _, _, T, PySem.W.mg_of X G ns, F1, b0, b1, fun _ => ⟨i2, b2⟩⟩
theorem xd_BadBand (X : K.In h) (G : h.Ns mainGlobals mg) (F : FunD K "__init__" "BadBand.__init__" (defArgs i_BadBand) (defBody i_BadBand) (defScope i_BadBand) [.non] [] (fAd K ("BadBand", some "__init__")) fd) (hx : xclsB K "BadBand" "place" [.type "ValueError", .type "Exception", .type "BaseException", .type "object"] "ValueError.__new__" = true)
    (hb : bioB K "PatternError" "ValueError.__init__" = true) : XD P w K mg base "BadBand" "place" "no such band" true := by
  obtain ⟨T, ns⟩ := xclsB_ok (initId := "ValueError.__init__") PySem.F.excBase_ValueError PySem.F.store_ValueError hx
  obtain ⟨r1, r2, r3, r4, r5⟩ := bioB_ok hb
  have F1 : FnOk P w K mg base CX0 1 (ma K (ga K "BadBand") "__init__") fd ["self", "place"] (spI (ga K "BadBand") "place" "no such band") := ok_init T F ⟨rfl, rfl, rfl, by decide +kernel, rfl, by decide +kernel, by decide +kernel⟩
    (fun cdv A outer s H E => ps_expr (pe_biO rfl (PySem.W.mg_of X G r5) r1 r2 r3 r4 (pa_cons (pv 0) (pa_cons pe_str pa_nil)))) (fun cdv A outer s H E => ps_xs (pv 0) (pv 1))
  obtain ⟨i0, b0⟩ := F.kbindsD (ps := ["self", "place"]) 2 [] (fun us ds ws => us) (by decide) (fun r r1 r2 => r) (fun T kV doc pm an cdv ct us its ws l1 l2 l3 => match us, its, ws, l1, l2, l3 with | [_, _], [_], [], _, _, _ => ⟨_, rfl, rfl⟩)
  obtain ⟨i1, b1⟩ := F.kbindsD (ps := ["self", "place"]) 1 ["place"] (fun us ds ws => us ++ ws) (by decide) (fun r r1 r2 => r.append r2) (fun T kV doc pm an cdv ct us its ws l1 l2 l3 => match us, its, ws, l1, l2, l3 with | [_], [_], [_], _, _, _ => ⟨_, rfl, rfl⟩)
  obtain ⟨i2, b2⟩ := F.kbindsD (ps := ["self", "place"]) 1 [] (fun us ds ws => us ++ ds) (by decide) (fun r r1 r2 => r.append r1) (fun T kV doc pm an cdv ct us its ws l1 l2 l3 => match us, its, ws, l1, l2, l3 with | [_], [_], [], _, _, _ => ⟨_, rfl, rfl⟩)
  exact ⟨_, _, _, _, _, _, T, PySem.W.mg_of X G ns, F1, b0, b1, fun _ => ⟨i2, b2⟩⟩
theorem xd_BadColours (X : K.In h) (G : h.Ns mainGlobals mg) (F : FunD K "__init__" "BadColours.__init__" (defArgs i_BadColours) (defBody i_BadColours) (defScope i_BadColours) [.non] [] (fAd K ("BadColours", some "__init__")) fd) (hx : xclsB K "BadColours" "value" [.type "ValueError", .type "Exception", .type "BaseException", .type "object"] "ValueError.__new__" = true)
    (hb : bioB K "PatternError" "ValueError.__init__" = true) : XD P w K mg base "BadColours" "value" "no such colours" true := by
  obtain ⟨T, ns⟩ := xclsB_ok (initId := "ValueError.__init__") PySem.F.excBase_ValueError PySem.F.store_ValueError hx
  obtain ⟨r1, r2, r3, r4, r5⟩ := bioB_ok hb
  have F1 : FnOk P w K mg base CX0 1 (ma K (ga K "BadColours") "__init__") fd ["self", "value"] (spI (ga K "BadColours") "value" "no such colours") := ok_init T F ⟨rfl, rfl, rfl, by decide +kernel, rfl, by decide +kernel, by decide +kernel⟩
    (fun cdv A outer s H E => ps_expr (pe_biO rfl (PySem.W.mg_of X G r5) r1 r2 r3 r4 (pa_cons (pv 0) (pa_cons pe_str pa_nil)))) (fun cdv A outer s H E => ps_xs (pv 0) (pv 1))
  obtain ⟨i0, b0⟩ := F.kbindsD (ps := ["self", "value"]) 2 [] (fun us ds ws => us) (by decide) (fun r r1 r2 => r) (fun T kV doc pm an cdv ct us its ws l1 l2 l3 => match us, its, ws, l1, l2, l3 with | [_, _], [_], [], _, _, _ => ⟨_, rfl, rfl⟩)
  obtain ⟨i1, b1⟩ := F.kbindsD (ps := ["self", "value"]) 1 ["value"] (fun us ds ws => us ++ ws) (by decide) (fun r r1 r2 => r.append r2) (fun T kV doc pm an cdv ct us its ws l1 l2 l3 => match us, its, ws, l1, l2, l3 with | [_], [_], [_], _, _, _ => ⟨_, rfl, rfl⟩)
  obtain ⟨i2, b2⟩ := F.kbindsD (ps := ["self", "value"]) 1 [] (fun us ds ws => us ++ ds) (by decide) (fun r r1 r2 => r.append r1) (fun T kV doc pm an cdv ct us its ws l1 l2 l3 => match us, its, ws, l1, l2, l3 with | [_], [_], [], _, _, _ => ⟨_, rfl, rfl⟩)
  exact ⟨_, _, _, _, _, _, T, PySem.W.mg_of X G ns, F1, b0, b1, fun _ => ⟨i2, b2⟩⟩
theorem xd_BadText (X : K.In h) (G : h.Ns mainGlobals mg) (F : FunD K "__init__" "BadText.__init__" (defArgs i_BadText) (defBody i_BadText) (defScope i_BadText) [.non] [] (fAd K ("BadText", some "__init__")) fd) (hx : xclsB K "BadText" "place" [.type "ValueError", .type "Exception", .type "BaseException", .type "object"] "ValueError.__new__" = true)
    (hb : bioB K "PatternError" "ValueError.__init__" = true) : XD P w K mg base "BadText" "place" "no such text" true := by
  obtain ⟨T, ns⟩ := xclsB_ok (initId := "ValueError.__init__") PySem.F.excBase_ValueError PySem.F.store_ValueError hx
  obtain ⟨r1, r2, r3, r4, r5⟩ := bioB_ok hb
  have F1 : FnOk P w K mg base CX0 1 (ma K (ga K "BadText") "__init__") fd ["self", "place"] (spI (ga K "BadText") "place" "no such text") := ok_init T F ⟨rfl, rfl, rfl, by decide +kernel, rfl, by decide +kernel, by decide +kernel⟩
    (fun cdv A outer s H E => ps_expr (pe_biO rfl (PySem.W.mg_of X G r5) r1 r2 r3 r4 (pa_cons (pv 0) (pa_cons pe_str pa_nil)))) (fun cdv A outer s H E => ps_xs (pv 0) (pv 1))
  obtain ⟨i0, b0⟩ := F.kbindsD (ps := ["self", "place"]) 2 [] (fun us ds ws => us) (by decide) (fun r r1 r2 => r) (fun T kV doc pm an cdv ct us its ws l1 l2 l3 => match us, its, ws, l1, l2, l3 with | [_, _], [_], [], _, _, _ => ⟨_, rfl, rfl⟩)
  obtain ⟨i1, b1⟩ := F.kbindsD (ps := ["self", "place"]) 1 ["place"] (fun us ds ws => us ++ ws) (by decide) (fun r r1 r2 => r.append r2) (fun T kV doc pm an cdv ct us its ws l1 l2 l3 => match us, its, ws, l1, l2, l3 with | [_], [_], [_], _, _, _ => ⟨_, rfl, rfl⟩)
  obtain ⟨i2, b2⟩ := F.kbindsD (ps := ["self", "place"]) 1 [] (fun us ds ws => us ++ ds) (by decide) (fun r r1 r2 => r.append r1) (fun T kV doc pm an cdv ct us its ws l1 l2 l3 => match us, its, ws, l1, l2, l3 with | [_], [_], [], _, _, _ => ⟨_, rfl, rfl⟩)
  exact ⟨_, _, _, _, _, _, T, PySem.W.mg_of X G ns, F1, b0, b1, fun _ => ⟨i2, b2⟩⟩
theorem xd_BadNumber (X : K.In h) (G : h.Ns mainGlobals mg) (F : FunD K "__init__" "BadNumber.__init__" (defArgs i_BadNumber) (defBody i_BadNumber) (defScope i_BadNumber) [.non] [] (fAd K ("BadNumber", some "__init__")) fd) (hx : xclsB K "BadNumber" "value" [.type "ValueError", .type "Exception", .type "BaseException", .type "object"] "ValueError.__new__" = true)
    (hb : bioB K "PatternError" "ValueError.__init__" = true) : XD P w K mg base "BadNumber" "value" "no such number" true := by
  obtain ⟨T, ns⟩ := xclsB_ok (initId := "ValueError.__init__") PySem.F.excBase_ValueError PySem.F.store_ValueError hx
  obtain ⟨r1, r2, r3, r4, r5⟩ := bioB_ok hb
  have F1 : FnOk P w K mg base CX0 1 (ma K (ga K "BadNumber") "__init__") fd ["self", "value"] (spI (ga K "BadNumber") "value" "no such number") := ok_init T F ⟨rfl, rfl, rfl, by decide +kernel, rfl, by decide +kernel, by decide +kernel⟩
    (fun cdv A outer s H E => ps_expr (pe_biO rfl (PySem.W.mg_of X G r5) r1 r2 r3 r4 (pa_cons (pv 0) (pa_cons pe_str pa_nil)))) (fun cdv A outer s H E => ps_xs (pv 0) (pv 1))
  obtain ⟨i0, b0⟩ := F.kbindsD (ps := ["self", "value"]) 2 [] (fun us ds ws => us) (by decide) (fun r r1 r2 => r) (fun T kV doc pm an cdv ct us its ws l1 l2 l3 => match us, its, ws, l1, l2, l3 with | [_, _], [_], [], _, _, _ => ⟨_, rfl, rfl⟩)
  obtain ⟨i1, b1⟩ := F.kbindsD (ps := ["self", "value"]) 1 ["value"] (fun us ds ws => us ++ ws) (by decide) (fun r r1 r2 => r.append r2) (fun T kV doc pm an cdv ct us its ws l1 l2 l3 => match us, its, ws, l1, l2, l3 with | [_], [_], [_], _, _, _ => ⟨_, rfl, rfl⟩)
  obtain ⟨i2, b2⟩ := F.kbindsD (ps := ["self", "value"]) 1 [] (fun us ds ws => us ++ ds) (by decide) (fun r r1 r2 => r.append r1) (fun T kV doc pm an cdv ct us its ws l1 l2 l3 => match us, its, ws, l1, l2, l3 with | [_], [_], [], _, _, _ => ⟨_, rfl, rfl⟩)
  exact ⟨_, _, _, _, _, _, T, PySem.W.mg_of X G ns, F1, b0, b1, fun _ => ⟨i2, b2⟩⟩
theorem xd_BadPaper (X : K.In h) (G : h.Ns mainGlobals mg) (F : FunD K "__init__" "BadPaper.__init__" (defArgs i_BadPaper) (defBody i_BadPaper) (defScope i_BadPaper) [.non] [] (fAd K ("BadPaper", some "__init__")) fd) (hx : xclsB K "BadPaper" "place" [.type "ValueError", .type "Exception", .type "BaseException", .type "object"] "ValueError.__new__" = true)
    (hb : bioB K "PatternError" "ValueError.__init__" = true) : XD P w K mg base "BadPaper" "place" "no such paper" true := by
  obtain ⟨T, ns⟩ := xclsB_ok (initId := "ValueError.__init__") PySem.F.excBase_ValueError PySem.F.store_ValueError hx
  obtain ⟨r1, r2, r3, r4, r5⟩ := bioB_ok hb
  have F1 : FnOk P w K mg base CX0 1 (ma K (ga K "BadPaper") "__init__") fd ["self", "place"] (spI (ga K "BadPaper") "place" "no such paper") := ok_init T F ⟨rfl, rfl, rfl, by decide +kernel, rfl, by decide +kernel, by decide +kernel⟩
    (fun cdv A outer s H E => ps_expr (pe_biO rfl (PySem.W.mg_of X G r5) r1 r2 r3 r4 (pa_cons (pv 0) (pa_cons pe_str pa_nil)))) (fun cdv A outer s H E => ps_xs (pv 0) (pv 1))
  obtain ⟨i0, b0⟩ := F.kbindsD (ps := ["self", "place"]) 2 [] (fun us ds ws => us) (by decide) (fun r r1 r2 => r) (fun T kV doc pm an cdv ct us its ws l1 l2 l3 => match us, its, ws, l1, l2, l3 with | [_, _], [_], [], _, _, _ => ⟨_, rfl, rfl⟩)
  obtain ⟨i1, b1⟩ := F.kbindsD (ps := ["self", "place"]) 1 ["place"] (fun us ds ws => us ++ ws) (by decide) (fun r r1 r2 => r.append r2) (fun T kV doc pm an cdv ct us its ws l1 l2 l3 => match us, its, ws, l1, l2, l3 with | [_], [_], [_], _, _, _ => ⟨_, rfl, rfl⟩)
  obtain ⟨i2, b2⟩ := F.kbindsD (ps := ["self", "place"]) 1 [] (fun us ds ws => us ++ ds) (by decide) (fun r r1 r2 => r.append r1) (fun T kV doc pm an cdv ct us its ws l1 l2 l3 => match us, its, ws, l1, l2, l3 with | [_], [_], [], _, _, _ => ⟨_, rfl, rfl⟩)
  exact ⟨_, _, _, _, _, _, T, PySem.W.mg_of X G ns, F1, b0, b1, fun _ => ⟨i2, b2⟩⟩
theorem xd_BadDeed (X : K.In h) (G : h.Ns mainGlobals mg) (F : FunD K "__init__" "BadDeed.__init__" (defArgs i_BadDeed) (defBody i_BadDeed) (defScope i_BadDeed) [.non] [] (fAd K ("BadDeed", some "__init__")) fd) (hx : xclsB K "BadDeed" "place" [.type "ValueError", .type "Exception", .type "BaseException", .type "object"] "ValueError.__new__" = true)
    (hb : bioB K "PatternError" "ValueError.__init__" = true) : XD P w K mg base "BadDeed" "place" "no such deed" true := by
  obtain ⟨T, ns⟩ := xclsB_ok (initId := "ValueError.__init__") PySem.F.excBase_ValueError PySem.F.store_ValueError hx
  obtain ⟨r1, r2, r3, r4, r5⟩ := bioB_ok hb
  have F1 : FnOk P w K mg base CX0 1 (ma K (ga K "BadDeed") "__init__") fd ["self", "place"] (spI (ga K "BadDeed") "place" "no such deed") := ok_init T F ⟨rfl, rfl, rfl, by decide +kernel, rfl, by decide +kernel, by decide +kernel⟩
    (fun cdv A outer s H E => ps_expr (pe_biO rfl (PySem.W.mg_of X G r5) r1 r2 r3 r4 (pa_cons (pv 0) (pa_cons pe_str pa_nil)))) (fun cdv A outer s H E => ps_xs (pv 0) (pv 1))
  obtain ⟨i0, b0⟩ := F.kbindsD (ps := ["self", "place"]) 2 [] (fun us ds ws => us) (by decide) (fun r r1 r2 => r) (fun T kV doc pm an cdv ct us its ws l1 l2 l3 => match us, its, ws, l1, l2, l3 with | [_, _], [_], [], _, _, _ => ⟨_, rfl, rfl⟩)
  obtain ⟨i1, b1⟩ := F.kbindsD (ps := ["self", "place"]) 1 ["place"] (fun us ds ws => us ++ ws) (by decide) (fun r r1 r2 => r.append r2) (fun T kV doc pm an cdv ct us its ws l1 l2 l3 => match us, its, ws, l1, l2, l3 with | [_], [_], [_], _, _, _ => ⟨_, rfl, rfl⟩)
  obtain ⟨i2, b2⟩ := F.kbindsD (ps := ["self", "place"]) 1 [] (fun us ds ws => us ++ ds) (by decide) (fun r r1 r2 => r.append r1) (fun T kV doc pm an cdv ct us its ws l1 l2 l3 => match us, its, ws, l1, l2, l3 with | [_], [_], [], _, _, _ => ⟨_, rfl, rfl⟩)
  exact ⟨_, _, _, _, _, _, T, PySem.W.mg_of X G ns, F1, b0, b1, fun _ => ⟨i2, b2⟩⟩
theorem xd_BadWord (X : K.In h) (G : h.Ns mainGlobals mg) (F : FunD K "__init__" "BadWord.__init__" (defArgs i_BadWord) (defBody i_BadWord) (defScope i_BadWord) [.non] [] (fAd K ("BadWord", some "__init__")) fd) (hx : xclsB K "BadWord" "place" [.type "ValueError", .type "Exception", .type "BaseException", .type "object"] "ValueError.__new__" = true)
    (hb : bioB K "PatternError" "ValueError.__init__" = true) : XD P w K mg base "BadWord" "place" "no such lines" true := by
  obtain ⟨T, ns⟩ := xclsB_ok (initId := "ValueError.__init__") PySem.F.excBase_ValueError PySem.F.store_ValueError hx
  obtain ⟨r1, r2, r3, r4, r5⟩ := bioB_ok hb
  have F1 : FnOk P w K mg base CX0 1 (ma K (ga K "BadWord") "__init__") fd ["self", "place"] (spI (ga K "BadWord") "place" "no such lines") := ok_init T F ⟨rfl, rfl, rfl, by decide +kernel, rfl, by decide +kernel, by decide +kernel⟩
    (fun cdv A outer s H E => ps_expr (pe_biO rfl (PySem.W.mg_of X G r5) r1 r2 r3 r4 (pa_cons (pv 0) (pa_cons pe_str pa_nil)))) (fun cdv A outer s H E => ps_xs (pv 0) (pv 1))
  obtain ⟨i0, b0⟩ := F.kbindsD (ps := ["self", "place"]) 2 [] (fun us ds ws => us) (by decide) (fun r r1 r2 => r) (fun T kV doc pm an cdv ct us its ws l1 l2 l3 => match us, its, ws, l1, l2, l3 with | [_, _], [_], [], _, _, _ => ⟨_, rfl, rfl⟩)
  obtain ⟨i1, b1⟩ := F.kbindsD (ps := ["self", "place"]) 1 ["place"] (fun us ds ws => us ++ ws) (by decide) (fun r r1 r2 => r.append r2) (fun T kV doc pm an cdv ct us its ws l1 l2 l3 => match us, its, ws, l1, l2, l3 with | [_], [_], [_], _, _, _ => ⟨_, rfl, rfl⟩)
  obtain ⟨i2, b2⟩ := F.kbindsD (ps := ["self", "place"]) 1 [] (fun us ds ws => us ++ ds) (by decide) (fun r r1 r2 => r.append r1) (fun T kV doc pm an cdv ct us its ws l1 l2 l3 => match us, its, ws, l1, l2, l3 with | [_], [_], [], _, _, _ => ⟨_, rfl, rfl⟩)
  exact ⟨_, _, _, _, _, _, T, PySem.W.mg_of X G ns, F1, b0, b1, fun _ => ⟨i2, b2⟩⟩
theorem xd_TooMany (X : K.In h) (G : h.Ns mainGlobals mg) (F : FunD K "__init__" "TooMany.__init__" (defArgs i_TooMany) (defBody i_TooMany) (defScope i_TooMany) [] [] (fAd K ("TooMany", some "__init__")) fd) (hx : xclsB K "TooMany" "most" [.type "OverflowError", .type "ArithmeticError", .type "Exception", .type "BaseException", .type "object"] "OverflowError.__new__" = true)
    (hb : mg "OverflowError" = none) : XD P w K mg base "TooMany" "most" "too many" false := by
  obtain ⟨T, ns⟩ := xclsB_ok (initId := "OverflowError.__init__") PySem.F.excBase_OverflowError PySem.F.store_OverflowError hx
  have F1 : FnOk P w K mg base CX0 1 (ma K (ga K "TooMany") "__init__") fd ["self", "most"] (spI (ga K "TooMany") "most" "too many") := ok_init T F ⟨rfl, rfl, rfl, by decide +kernel, rfl, by decide +kernel, by decide +kernel⟩
    (fun cdv A outer s H E => ps_expr (pe_biT (T := "OverflowError") rfl hb (by decide +kernel) tyT_OverflowError (by decide +kernel) fcT_OverflowError (pa_cons (pv 0) (pa_cons pe_str pa_nil)))) (fun cdv A outer s H E => ps_xs (pv 0) (pv 1))
  obtain ⟨oc, od, dV, kV, doc, pm, an, cdv, ct, osl, rfl, lk, hcd, hD, hK⟩ := F.ex
  rcases hD with ⟨_, rfl⟩ | ⟨z, _⟩
  · exact ⟨_, _, _, _, _, _, T, PySem.W.mg_of X G ns, F1, ⟨fun s us ws _ l1 l2 => (match us, ws, l1, l2 with | [_, _], [], _, _ => .of_eq rfl), fun r _ => r⟩, ⟨fun s us ws _ l1 l2 => (match us, ws, l1, l2 with | [_], [_], _, _ => .of_eq rfl), fun r r2 => r.append r2⟩, (fun z => nomatch z)⟩
  · exact absurd rfl z
theorem xd_NoSuch (X : K.In h) (G : h.Ns mainGlobals mg) (F : FunD K "__init__" "NoSuch.__init__" (defArgs i_NoSuch) (defBody i_NoSuch) (defScope i_NoSuch) [.non] [] (fAd K ("NoSuch", some "__init__")) fd) (hx : xclsB K "NoSuch" "value" [.type "LookupError", .type "Exception", .type "BaseException", .type "object"] "LookupError.__new__" = true)
    (hb : mg "LookupError" = none) : XD P w K mg base "NoSuch" "value" "nothing so called" true := by
  obtain ⟨T, ns⟩ := xclsB_ok (initId := "LookupError.__init__") PySem.F.excBase_LookupError PySem.F.store_LookupError hx
  have F1 : FnOk P w K mg base CX0 1 (ma K (ga K "NoSuch") "__init__") fd ["self", "value"] (spI (ga K "NoSuch") "value" "nothing so called") := ok_init T F ⟨rfl, rfl, rfl, by decide +kernel, rfl, by decide +kernel, by decide +kernel⟩
    (fun cdv A outer s H E => ps_expr (pe_biT (T := "LookupError") rfl hb (by decide +kernel) tyT_LookupError (by decide +kernel) fcT_LookupError (pa_cons (pv 0) (pa_cons pe_str pa_nil)))) (fun cdv A outer s H E => ps_xs (pv 0) (pv 1))
  obtain ⟨i0, b0⟩ := F.kbindsD (ps := ["self", "value"]) 2 [] (fun us ds ws => us) (by decide) (fun r r1 r2 => r) (fun T kV doc pm an cdv ct us its ws l1 l2 l3 => match us, its, ws, l1, l2, l3 with | [_, _], [_], [], _, _, _ => ⟨_, rfl, rfl⟩)
  obtain ⟨i1, b1⟩ := F.kbindsD (ps := ["self", "value"]) 1 ["value"] (fun us ds ws => us ++ ws) (by decide) (fun r r1 r2 => r.append r2) (fun T kV doc pm an cdv ct us its ws l1 l2 l3 => match us, its, ws, l1, l2, l3 with | [_], [_], [_], _, _, _ => ⟨_, rfl, rfl⟩)
  obtain ⟨i2, b2⟩ := F.kbindsD (ps := ["self", "value"]) 1 [] (fun us ds ws => us ++ ds) (by decide) (fun r r1 r2 => r.append r1) (fun T kV doc pm an cdv ct us its ws l1 l2 l3 => match us, its, ws, l1, l2, l3 with | [_], [_], [], _, _, _ => ⟨_, rfl, rfl⟩)
  exact ⟨_, _, _, _, _, _, T, PySem.W.mg_of X G ns, F1, b0, b1, fun _ => ⟨i2, b2⟩⟩
end
def kindT : List (Str × Str × Str × List Str) := [("BadGrid", "value", "no such grid", ["BadGrid", "base", "value"]), ("BadCell", "value", "no such cell", ["BadCell", "base", "value"]), ("BadMotion", "value", "no such motion", ["BadMotion", "base", "value"]), ("BadLattice", "value", "no such lattice", ["BadLattice", "base", "value"]), ("BadGroup", "place", "no such group", ["BadGroup", "base", "value"]), ("BadPattern", "place", "no such pattern", ["BadPattern", "base", "value"]), ("BadTile", "place", "no such tile", ["BadTile", "base", "value"]), ("BadTiles", "place", "no such tiles", ["BadTiles", "base", "value"]), ("BadWeave", "place", "no such weave", ["BadWeave", "base", "value"]), ("BadBand", "place", "no such band", ["BadBand", "base", "value"]), ("BadColours", "value", "no such colours", ["BadColours", "base", "value"]), ("BadText", "place", "no such text", ["BadText", "base", "value"]), ("BadNumber", "value", "no such number", ["BadNumber", "base", "value"]), ("BadPaper", "place", "no such paper", ["BadPaper", "base", "value"]), ("BadDeed", "place", "no such deed", ["BadDeed", "base", "value"]), ("BadWord", "place", "no such lines", ["BadWord", "base", "value"]), ("TooMany", "most", "too many", ["TooMany", "overflow"]), ("NoSuch", "value", "nothing so called", ["NoSuch", "lookup"])]
def words : List Str := ["BadBand", "BadCell", "BadColours", "BadDeed", "BadGrid", "BadGroup", "BadLattice", "BadMotion", "BadNumber", "BadPaper", "BadPattern", "BadText", "BadTile", "BadTiles", "BadWeave", "BadWord", "NoSuch", "TooMany", "base", "value", "lookup", "overflow"]
def cvs (K : PySem.W.Frag) : List Value := [.ref (ga K "BadBand"), .ref (ga K "BadCell"), .ref (ga K "BadColours"), .ref (ga K "BadDeed"), .ref (ga K "BadGrid"), .ref (ga K "BadGroup"), .ref (ga K "BadLattice"), .ref (ga K "BadMotion"), .ref (ga K "BadNumber"), .ref (ga K "BadPaper"), .ref (ga K "BadPattern"), .ref (ga K "BadText"), .ref (ga K "BadTile"), .ref (ga K "BadTiles"), .ref (ga K "BadWeave"), .ref (ga K "BadWord"), .ref (ga K "NoSuch"), .ref (ga K "TooMany"), .ref (ga K "PatternError"), .type "ValueError", .type "LookupError", .type "OverflowError"]
def bsOf (ws : List Str) : List Bool := words.map fun w => decide (w ∈ ws)
theorem bs_ok : ∀ q ∈ kindT, ((words.zip (bsOf q.2.2.2)).filter (·.2)).map (·.1) = q.2.2.2 := by decide +kernel
structure Tx (P : Program) (w : World) (K : PySem.W.Frag) (mg : Str → Option Value) (base : Heap) : Prop where
  n_isinstance : mg "isinstance" = none
  n_sum : mg "sum" = none
  n_str : mg "str" = none
  n_range : mg "range" = none
  n_enumerate : mg "enumerate" = none
  n_ValueError : mg "ValueError" = none
  n_LookupError : mg "LookupError" = none
  n_OverflowError : mg "OverflowError" = none
  c_PatternError : mg "PatternError" = some (.ref (ga K "PatternError"))
  c_BadGrid : mg "BadGrid" = some (.ref (ga K "BadGrid"))
  c_BadCell : mg "BadCell" = some (.ref (ga K "BadCell"))
  c_BadMotion : mg "BadMotion" = some (.ref (ga K "BadMotion"))
  c_BadLattice : mg "BadLattice" = some (.ref (ga K "BadLattice"))
  c_BadGroup : mg "BadGroup" = some (.ref (ga K "BadGroup"))
  c_BadPattern : mg "BadPattern" = some (.ref (ga K "BadPattern"))
  c_BadTile : mg "BadTile" = some (.ref (ga K "BadTile"))
  c_BadTiles : mg "BadTiles" = some (.ref (ga K "BadTiles"))
  c_BadWeave : mg "BadWeave" = some (.ref (ga K "BadWeave"))
  c_BadBand : mg "BadBand" = some (.ref (ga K "BadBand"))
  c_BadColours : mg "BadColours" = some (.ref (ga K "BadColours"))
  c_BadText : mg "BadText" = some (.ref (ga K "BadText"))
  c_BadNumber : mg "BadNumber" = some (.ref (ga K "BadNumber"))
  c_BadPaper : mg "BadPaper" = some (.ref (ga K "BadPaper"))
  c_BadDeed : mg "BadDeed" = some (.ref (ga K "BadDeed"))
  c_BadWord : mg "BadWord" = some (.ref (ga K "BadWord"))
  c_TooMany : mg "TooMany" = some (.ref (ga K "TooMany"))
  c_NoSuch : mg "NoSuch" = some (.ref (ga K "NoSuch"))
  x_BadGrid : XD P w K mg base "BadGrid" "value" "no such grid" true
  x_BadCell : XD P w K mg base "BadCell" "value" "no such cell" true
  x_BadMotion : XD P w K mg base "BadMotion" "value" "no such motion" true
  x_BadLattice : XD P w K mg base "BadLattice" "value" "no such lattice" true
  x_BadGroup : XD P w K mg base "BadGroup" "place" "no such group" true
  x_BadPattern : XD P w K mg base "BadPattern" "place" "no such pattern" true
  x_BadTile : XD P w K mg base "BadTile" "place" "no such tile" true
  x_BadTiles : XD P w K mg base "BadTiles" "place" "no such tiles" true
  x_BadWeave : XD P w K mg base "BadWeave" "place" "no such weave" true
  x_BadBand : XD P w K mg base "BadBand" "place" "no such band" true
  x_BadColours : XD P w K mg base "BadColours" "value" "no such colours" true
  x_BadText : XD P w K mg base "BadText" "place" "no such text" true
  x_BadNumber : XD P w K mg base "BadNumber" "value" "no such number" true
  x_BadPaper : XD P w K mg base "BadPaper" "place" "no such paper" true
  x_BadDeed : XD P w K mg base "BadDeed" "place" "no such deed" true
  x_BadWord : XD P w K mg base "BadWord" "place" "no such lines" true
  x_TooMany : XD P w K mg base "TooMany" "most" "too many" false
  x_NoSuch : XD P w K mg base "NoSuch" "value" "nothing so called" true
  hsp : PySem.W.specialIn K (.builtin "object.__class__") "__get__" = some (some (.builtin "getset_descriptor.__get__"))
  htk : PySem.W.takesIn K (.builtin "object.__class__") = some true
  kit : ∀ q ∈ kindT, kitsB K q.1 (cvs K) (bsOf q.2.2.2) = true
theorem Tx.xd {P : Program} {w : World} {K : PySem.W.Frag} {mg : Str → Option Value} {base : Heap} (T : Tx P w K mg base) : ∀ q ∈ kindT, ∃ df, XD P w K mg base q.1 q.2.1 q.2.2.1 df := by
  intro q hq
  simp only [kindT, List.mem_cons, List.not_mem_nil, or_false] at hq
  rcases hq with rfl | rfl | rfl | rfl | rfl | rfl | rfl | rfl | rfl | rfl | rfl | rfl | rfl | rfl | rfl | rfl | rfl | rfl
  · exact ⟨_, T.x_BadGrid⟩
  · exact ⟨_, T.x_BadCell⟩
  · exact ⟨_, T.x_BadMotion⟩
  · exact ⟨_, T.x_BadLattice⟩
  · exact ⟨_, T.x_BadGroup⟩
  · exact ⟨_, T.x_BadPattern⟩
  · exact ⟨_, T.x_BadTile⟩
  · exact ⟨_, T.x_BadTiles⟩
  · exact ⟨_, T.x_BadWeave⟩
  · exact ⟨_, T.x_BadBand⟩
  · exact ⟨_, T.x_BadColours⟩
  · exact ⟨_, T.x_BadText⟩
  · exact ⟨_, T.x_BadNumber⟩
  · exact ⟨_, T.x_BadPaper⟩
  · exact ⟨_, T.x_BadDeed⟩
  · exact ⟨_, T.x_BadWord⟩
  · exact ⟨_, T.x_TooMany⟩
  · exact ⟨_, T.x_NoSuch⟩
abbrev s__law_kinds : Stmt := top 24
abbrev N__law_kinds : List Str := ["e", "some", "word", "is_so"]
theorem sc__law_kinds : FnScope N__law_kinds ["e"] (defScope s__law_kinds) := ⟨rfl, rfl, rfl, by decide +kernel, rfl, by decide +kernel, by decide +kernel⟩

def F__law_kinds (K : PySem.W.Frag) : FS := fun ds o out => ∃ (q : Str × Str × Str × List Str) (d : D), q ∈ kindT ∧ ds = [.exc (ga K q.1) q.2.1 q.2.2.1 d] ∧ out = .rt (.lst (q.2.2.2.map D.str)) o
def t__law_kinds (K : PySem.W.Frag) : TS := (tSeq (tAsg (tLst (tCons (tTup (tCons (tC (.str "BadBand")) (tCons (tCB (rIsX K) (tCons (tVar 0) (tCons (tC (.ref (ga K "BadBand"))) tNil))) tNil))) (tCons (tTup (tCons (tC (.str "BadCell")) (tCons (tCB (rIsX K) (tCons (tVar 0) (tCons (tC (.ref (ga K "BadCell"))) tNil))) tNil))) tNil))) (gName 1))
    (tSeq (tAsg (tOp (rAddU K) (tVar 1) (tLst (tCons (tTup (tCons (tC (.str "BadColours")) (tCons (tCB (rIsX K) (tCons (tVar 0) (tCons (tC (.ref (ga K "BadColours"))) tNil))) tNil))) (tCons (tTup (tCons (tC (.str "BadDeed")) (tCons (tCB (rIsX K) (tCons (tVar 0) (tCons (tC (.ref (ga K "BadDeed"))) tNil))) tNil))) tNil)))) (gName 1))
    (tSeq (tAsg (tOp (rAddU K) (tVar 1) (tLst (tCons (tTup (tCons (tC (.str "BadGrid")) (tCons (tCB (rIsX K) (tCons (tVar 0) (tCons (tC (.ref (ga K "BadGrid"))) tNil))) tNil))) (tCons (tTup (tCons (tC (.str "BadGroup")) (tCons (tCB (rIsX K) (tCons (tVar 0) (tCons (tC (.ref (ga K "BadGroup"))) tNil))) tNil))) tNil)))) (gName 1))
    (tSeq (tAsg (tOp (rAddU K) (tVar 1) (tLst (tCons (tTup (tCons (tC (.str "BadLattice")) (tCons (tCB (rIsX K) (tCons (tVar 0) (tCons (tC (.ref (ga K "BadLattice"))) tNil))) tNil))) (tCons (tTup (tCons (tC (.str "BadMotion")) (tCons (tCB (rIsX K) (tCons (tVar 0) (tCons (tC (.ref (ga K "BadMotion"))) tNil))) tNil))) tNil)))) (gName 1))
    (tSeq (tAsg (tOp (rAddU K) (tVar 1) (tLst (tCons (tTup (tCons (tC (.str "BadNumber")) (tCons (tCB (rIsX K) (tCons (tVar 0) (tCons (tC (.ref (ga K "BadNumber"))) tNil))) tNil))) (tCons (tTup (tCons (tC (.str "BadPaper")) (tCons (tCB (rIsX K) (tCons (tVar 0) (tCons (tC (.ref (ga K "BadPaper"))) tNil))) tNil))) tNil)))) (gName 1))
    (tSeq (tAsg (tOp (rAddU K) (tVar 1) (tLst (tCons (tTup (tCons (tC (.str "BadPattern")) (tCons (tCB (rIsX K) (tCons (tVar 0) (tCons (tC (.ref (ga K "BadPattern"))) tNil))) tNil))) (tCons (tTup (tCons (tC (.str "BadText")) (tCons (tCB (rIsX K) (tCons (tVar 0) (tCons (tC (.ref (ga K "BadText"))) tNil))) tNil))) tNil)))) (gName 1))
    (tSeq (tAsg (tOp (rAddU K) (tVar 1) (tLst (tCons (tTup (tCons (tC (.str "BadTile")) (tCons (tCB (rIsX K) (tCons (tVar 0) (tCons (tC (.ref (ga K "BadTile"))) tNil))) tNil))) (tCons (tTup (tCons (tC (.str "BadTiles")) (tCons (tCB (rIsX K) (tCons (tVar 0) (tCons (tC (.ref (ga K "BadTiles"))) tNil))) tNil))) tNil)))) (gName 1))
    (tSeq (tAsg (tOp (rAddU K) (tVar 1) (tLst (tCons (tTup (tCons (tC (.str "BadWeave")) (tCons (tCB (rIsX K) (tCons (tVar 0) (tCons (tC (.ref (ga K "BadWeave"))) tNil))) tNil))) (tCons (tTup (tCons (tC (.str "BadWord")) (tCons (tCB (rIsX K) (tCons (tVar 0) (tCons (tC (.ref (ga K "BadWord"))) tNil))) tNil))) tNil)))) (gName 1))
    (tSeq (tAsg (tOp (rAddU K) (tVar 1) (tLst (tCons (tTup (tCons (tC (.str "NoSuch")) (tCons (tCB (rIsX K) (tCons (tVar 0) (tCons (tC (.ref (ga K "NoSuch"))) tNil))) tNil))) (tCons (tTup (tCons (tC (.str "TooMany")) (tCons (tCB (rIsX K) (tCons (tVar 0) (tCons (tC (.ref (ga K "TooMany"))) tNil))) tNil))) tNil)))) (gName 1))
    (tSeq (tAsg (tOp (rAddU K) (tVar 1) (tLst (tCons (tTup (tCons (tC (.str "base")) (tCons (tCB (rIsX K) (tCons (tVar 0) (tCons (tC (.ref (ga K "PatternError"))) tNil))) tNil))) (tCons (tTup (tCons (tC (.str "value")) (tCons (tCB (rIsX K) (tCons (tVar 0) (tCons (tC (.ty "ValueError")) tNil))) tNil))) tNil)))) (gName 1))
    (tSeq (tAsg (tOp (rAddU K) (tVar 1) (tLst (tCons (tTup (tCons (tC (.str "lookup")) (tCons (tCB (rIsX K) (tCons (tVar 0) (tCons (tC (.ty "LookupError")) tNil))) tNil))) (tCons (tTup (tCons (tC (.str "overflow")) (tCons (tCB (rIsX K) (tCons (tVar 0) (tCons (tC (.ty "OverflowError")) tNil))) tNil))) tNil)))) (gName 1))
    (tRet (tLc (iList K (tVar 1)) (gTup K 2 (gCons (gName 2) (gCons (gName 3) gNil))) (tB (tVar 3)) (tVar 2) [2, 3])))))))))))))

def encP (p : Str × Bool) : D := .tup [.str p.1, .bl p.2]
theorem does_kinds {P : Program} {w : World} {K : PySem.W.Frag} {mg : Str → Option Value} {base : Heap} (T : Tx P w K mg base) {W : WW} {o : Own} {q : Str × Str × Str × List Str} {d : D} (hq : q ∈ kindT) :
    Does K W (t__law_kinds K) (startG N__law_kinds [.exc (ga K q.1) q.2.1 q.2.2.1 d]) o (.rt (.lst (q.2.2.2.map D.str)) o) := by
  obtain ⟨df, XX⟩ := T.xd q hq
  have hk := of_decide_eq_true (T.kit q hq)
  have hr := bs_ok q hq
  have hlen : (bsOf q.2.2.2).length = 22 := by unfold bsOf; rw [List.length_map]; rfl
  generalize bsOf q.2.2.2 = bs at hk hr hlen
  obtain ⟨b0, b1, b2, b3, b4, b5, b6, b7, b8, b9, b10, b11, b12, b13, b14, b15, b16, b17, b18, b19, b20, b21, rfl⟩ : ∃ b0 b1 b2 b3 b4 b5 b6 b7 b8 b9 b10 b11 b12 b13 b14 b15 b16 b17 b18 b19 b20 b21, bs = [b0, b1, b2, b3, b4, b5, b6, b7, b8, b9, b10, b11, b12, b13, b14, b15, b16, b17, b18, b19, b20, b21] := by
    match bs, hlen with
    | [b0, b1, b2, b3, b4, b5, b6, b7, b8, b9, b10, b11, b12, b13, b14, b15, b16, b17, b18, b19, b20, b21], _ => exact ⟨b0, b1, b2, b3, b4, b5, b6, b7, b8, b9, b10, b11, b12, b13, b14, b15, b16, b17, b18, b19, b20, b21, rfl⟩
  simp only [cvs, List.map_cons, List.map_nil, List.cons.injEq] at hk
  obtain ⟨k0, k1, k2, k3, k4, k5, k6, k7, k8, k9, k10, k11, k12, k13, k14, k15, k16, k17, k18, k19, k20, k21, _⟩ := hk
  have hr2 : ([("BadBand", b0), ("BadCell", b1), ("BadColours", b2), ("BadDeed", b3), ("BadGrid", b4), ("BadGroup", b5), ("BadLattice", b6), ("BadMotion", b7), ("BadNumber", b8), ("BadPaper", b9), ("BadPattern", b10), ("BadText", b11), ("BadTile", b12), ("BadTiles", b13), ("BadWeave", b14), ("BadWord", b15), ("NoSuch", b16), ("TooMany", b17), ("base", b18), ("value", b19), ("lookup", b20), ("overflow", b21)] : List (Str × Bool)).filter (·.2) = (words.zip [b0, b1, b2, b3, b4, b5, b6, b7, b8, b9, b10, b11, b12, b13, b14, b15, b16, b17, b18, b19, b20, b21]).filter (·.2) := rfl
  rw [← hr, List.map_map]
  unfold t__law_kinds
  refine does_setq (d := .lst (([("BadBand", b0), ("BadCell", b1)] : List (Str × Bool)).map encP)) (ev_lst (ea_cons (ev_tup (ea_cons ev_str (ea_cons (ev_cb (ea_cons (ev_var rfl) (ea_cons ev_ref ea_nil)) (cal_isD XX T.hsp T.htk cls_ref k0)) ea_nil))) (ea_cons (ev_tup (ea_cons ev_str (ea_cons (ev_cb (ea_cons (ev_var rfl) (ea_cons ev_ref ea_nil)) (cal_isD XX T.hsp T.htk cls_ref k1)) ea_nil))) ea_nil))) ?_
  show Does K W _ [some (.exc (ga K q.1) q.2.1 q.2.2.1 d), some (.lst (([("BadBand", b0), ("BadCell", b1)] : List (Str × Bool)).map encP)), none, none] o _
  refine does_setq (d := .lst (([("BadBand", b0), ("BadCell", b1), ("BadColours", b2), ("BadDeed", b3)] : List (Str × Bool)).map encP)) (ev_is (ev_op (ev_var rfl) (ev_lst (ea_cons (ev_tup (ea_cons ev_str (ea_cons (ev_cb (ea_cons (ev_var rfl) (ea_cons ev_ref ea_nil)) (cal_isD XX T.hsp T.htk cls_ref k2)) ea_nil))) (ea_cons (ev_tup (ea_cons ev_str (ea_cons (ev_cb (ea_cons (ev_var rfl) (ea_cons ev_ref ea_nil)) (cal_isD XX T.hsp T.htk cls_ref k3)) ea_nil))) ea_nil))) (bin_addL (Nat.le_of_ble_eq_true rfl))) rfl) ?_
  show Does K W _ [some (.exc (ga K q.1) q.2.1 q.2.2.1 d), some (.lst (([("BadBand", b0), ("BadCell", b1), ("BadColours", b2), ("BadDeed", b3)] : List (Str × Bool)).map encP)), none, none] o _
  refine does_setq (d := .lst (([("BadBand", b0), ("BadCell", b1), ("BadColours", b2), ("BadDeed", b3), ("BadGrid", b4), ("BadGroup", b5)] : List (Str × Bool)).map encP)) (ev_is (ev_op (ev_var rfl) (ev_lst (ea_cons (ev_tup (ea_cons ev_str (ea_cons (ev_cb (ea_cons (ev_var rfl) (ea_cons ev_ref ea_nil)) (cal_isD XX T.hsp T.htk cls_ref k4)) ea_nil))) (ea_cons (ev_tup (ea_cons ev_str (ea_cons (ev_cb (ea_cons (ev_var rfl) (ea_cons ev_ref ea_nil)) (cal_isD XX T.hsp T.htk cls_ref k5)) ea_nil))) ea_nil))) (bin_addL (Nat.le_of_ble_eq_true rfl))) rfl) ?_
  show Does K W _ [some (.exc (ga K q.1) q.2.1 q.2.2.1 d), some (.lst (([("BadBand", b0), ("BadCell", b1), ("BadColours", b2), ("BadDeed", b3), ("BadGrid", b4), ("BadGroup", b5)] : List (Str × Bool)).map encP)), none, none] o _
  refine does_setq (d := .lst (([("BadBand", b0), ("BadCell", b1), ("BadColours", b2), ("BadDeed", b3), ("BadGrid", b4), ("BadGroup", b5), ("BadLattice", b6), ("BadMotion", b7)] : List (Str × Bool)).map encP)) (ev_is (ev_op (ev_var rfl) (ev_lst (ea_cons (ev_tup (ea_cons ev_str (ea_cons (ev_cb (ea_cons (ev_var rfl) (ea_cons ev_ref ea_nil)) (cal_isD XX T.hsp T.htk cls_ref k6)) ea_nil))) (ea_cons (ev_tup (ea_cons ev_str (ea_cons (ev_cb (ea_cons (ev_var rfl) (ea_cons ev_ref ea_nil)) (cal_isD XX T.hsp T.htk cls_ref k7)) ea_nil))) ea_nil))) (bin_addL (Nat.le_of_ble_eq_true rfl))) rfl) ?_
  show Does K W _ [some (.exc (ga K q.1) q.2.1 q.2.2.1 d), some (.lst (([("BadBand", b0), ("BadCell", b1), ("BadColours", b2), ("BadDeed", b3), ("BadGrid", b4), ("BadGroup", b5), ("BadLattice", b6), ("BadMotion", b7)] : List (Str × Bool)).map encP)), none, none] o _
  refine does_setq (d := .lst (([("BadBand", b0), ("BadCell", b1), ("BadColours", b2), ("BadDeed", b3), ("BadGrid", b4), ("BadGroup", b5), ("BadLattice", b6), ("BadMotion", b7), ("BadNumber", b8), ("BadPaper", b9)] : List (Str × Bool)).map encP)) (ev_is (ev_op (ev_var rfl) (ev_lst (ea_cons (ev_tup (ea_cons ev_str (ea_cons (ev_cb (ea_cons (ev_var rfl) (ea_cons ev_ref ea_nil)) (cal_isD XX T.hsp T.htk cls_ref k8)) ea_nil))) (ea_cons (ev_tup (ea_cons ev_str (ea_cons (ev_cb (ea_cons (ev_var rfl) (ea_cons ev_ref ea_nil)) (cal_isD XX T.hsp T.htk cls_ref k9)) ea_nil))) ea_nil))) (bin_addL (Nat.le_of_ble_eq_true rfl))) rfl) ?_
  show Does K W _ [some (.exc (ga K q.1) q.2.1 q.2.2.1 d), some (.lst (([("BadBand", b0), ("BadCell", b1), ("BadColours", b2), ("BadDeed", b3), ("BadGrid", b4), ("BadGroup", b5), ("BadLattice", b6), ("BadMotion", b7), ("BadNumber", b8), ("BadPaper", b9)] : List (Str × Bool)).map encP)), none, none] o _
  refine does_setq (d := .lst (([("BadBand", b0), ("BadCell", b1), ("BadColours", b2), ("BadDeed", b3), ("BadGrid", b4), ("BadGroup", b5), ("BadLattice", b6), ("BadMotion", b7), ("BadNumber", b8), ("BadPaper", b9), ("BadPattern", b10), ("BadText", b11)] : List (Str × Bool)).map encP)) (ev_is (ev_op (ev_var rfl) (ev_lst (ea_cons (ev_tup (ea_cons ev_str (ea_cons (ev_cb (ea_cons (ev_var rfl) (ea_cons ev_ref ea_nil)) (cal_isD XX T.hsp T.htk cls_ref k10)) ea_nil))) (ea_cons (ev_tup (ea_cons ev_str (ea_cons (ev_cb (ea_cons (ev_var rfl) (ea_cons ev_ref ea_nil)) (cal_isD XX T.hsp T.htk cls_ref k11)) ea_nil))) ea_nil))) (bin_addL (Nat.le_of_ble_eq_true rfl))) rfl) ?_
  show Does K W _ [some (.exc (ga K q.1) q.2.1 q.2.2.1 d), some (.lst (([("BadBand", b0), ("BadCell", b1), ("BadColours", b2), ("BadDeed", b3), ("BadGrid", b4), ("BadGroup", b5), ("BadLattice", b6), ("BadMotion", b7), ("BadNumber", b8), ("BadPaper", b9), ("BadPattern", b10), ("BadText", b11)] : List (Str × Bool)).map encP)), none, none] o _
  refine does_setq (d := .lst (([("BadBand", b0), ("BadCell", b1), ("BadColours", b2), ("BadDeed", b3), ("BadGrid", b4), ("BadGroup", b5), ("BadLattice", b6), ("BadMotion", b7), ("BadNumber", b8), ("BadPaper", b9), ("BadPattern", b10), ("BadText", b11), ("BadTile", b12), ("BadTiles", b13)] : List (Str × Bool)).map encP)) (ev_is (ev_op (ev_var rfl) (ev_lst (ea_cons (ev_tup (ea_cons ev_str (ea_cons (ev_cb (ea_cons (ev_var rfl) (ea_cons ev_ref ea_nil)) (cal_isD XX T.hsp T.htk cls_ref k12)) ea_nil))) (ea_cons (ev_tup (ea_cons ev_str (ea_cons (ev_cb (ea_cons (ev_var rfl) (ea_cons ev_ref ea_nil)) (cal_isD XX T.hsp T.htk cls_ref k13)) ea_nil))) ea_nil))) (bin_addL (Nat.le_of_ble_eq_true rfl))) rfl) ?_
  show Does K W _ [some (.exc (ga K q.1) q.2.1 q.2.2.1 d), some (.lst (([("BadBand", b0), ("BadCell", b1), ("BadColours", b2), ("BadDeed", b3), ("BadGrid", b4), ("BadGroup", b5), ("BadLattice", b6), ("BadMotion", b7), ("BadNumber", b8), ("BadPaper", b9), ("BadPattern", b10), ("BadText", b11), ("BadTile", b12), ("BadTiles", b13)] : List (Str × Bool)).map encP)), none, none] o _
  refine does_setq (d := .lst (([("BadBand", b0), ("BadCell", b1), ("BadColours", b2), ("BadDeed", b3), ("BadGrid", b4), ("BadGroup", b5), ("BadLattice", b6), ("BadMotion", b7), ("BadNumber", b8), ("BadPaper", b9), ("BadPattern", b10), ("BadText", b11), ("BadTile", b12), ("BadTiles", b13), ("BadWeave", b14), ("BadWord", b15)] : List (Str × Bool)).map encP)) (ev_is (ev_op (ev_var rfl) (ev_lst (ea_cons (ev_tup (ea_cons ev_str (ea_cons (ev_cb (ea_cons (ev_var rfl) (ea_cons ev_ref ea_nil)) (cal_isD XX T.hsp T.htk cls_ref k14)) ea_nil))) (ea_cons (ev_tup (ea_cons ev_str (ea_cons (ev_cb (ea_cons (ev_var rfl) (ea_cons ev_ref ea_nil)) (cal_isD XX T.hsp T.htk cls_ref k15)) ea_nil))) ea_nil))) (bin_addL (Nat.le_of_ble_eq_true rfl))) rfl) ?_
  show Does K W _ [some (.exc (ga K q.1) q.2.1 q.2.2.1 d), some (.lst (([("BadBand", b0), ("BadCell", b1), ("BadColours", b2), ("BadDeed", b3), ("BadGrid", b4), ("BadGroup", b5), ("BadLattice", b6), ("BadMotion", b7), ("BadNumber", b8), ("BadPaper", b9), ("BadPattern", b10), ("BadText", b11), ("BadTile", b12), ("BadTiles", b13), ("BadWeave", b14), ("BadWord", b15)] : List (Str × Bool)).map encP)), none, none] o _
  refine does_setq (d := .lst (([("BadBand", b0), ("BadCell", b1), ("BadColours", b2), ("BadDeed", b3), ("BadGrid", b4), ("BadGroup", b5), ("BadLattice", b6), ("BadMotion", b7), ("BadNumber", b8), ("BadPaper", b9), ("BadPattern", b10), ("BadText", b11), ("BadTile", b12), ("BadTiles", b13), ("BadWeave", b14), ("BadWord", b15), ("NoSuch", b16), ("TooMany", b17)] : List (Str × Bool)).map encP)) (ev_is (ev_op (ev_var rfl) (ev_lst (ea_cons (ev_tup (ea_cons ev_str (ea_cons (ev_cb (ea_cons (ev_var rfl) (ea_cons ev_ref ea_nil)) (cal_isD XX T.hsp T.htk cls_ref k16)) ea_nil))) (ea_cons (ev_tup (ea_cons ev_str (ea_cons (ev_cb (ea_cons (ev_var rfl) (ea_cons ev_ref ea_nil)) (cal_isD XX T.hsp T.htk cls_ref k17)) ea_nil))) ea_nil))) (bin_addL (Nat.le_of_ble_eq_true rfl))) rfl) ?_
  show Does K W _ [some (.exc (ga K q.1) q.2.1 q.2.2.1 d), some (.lst (([("BadBand", b0), ("BadCell", b1), ("BadColours", b2), ("BadDeed", b3), ("BadGrid", b4), ("BadGroup", b5), ("BadLattice", b6), ("BadMotion", b7), ("BadNumber", b8), ("BadPaper", b9), ("BadPattern", b10), ("BadText", b11), ("BadTile", b12), ("BadTiles", b13), ("BadWeave", b14), ("BadWord", b15), ("NoSuch", b16), ("TooMany", b17)] : List (Str × Bool)).map encP)), none, none] o _
  refine does_setq (d := .lst (([("BadBand", b0), ("BadCell", b1), ("BadColours", b2), ("BadDeed", b3), ("BadGrid", b4), ("BadGroup", b5), ("BadLattice", b6), ("BadMotion", b7), ("BadNumber", b8), ("BadPaper", b9), ("BadPattern", b10), ("BadText", b11), ("BadTile", b12), ("BadTiles", b13), ("BadWeave", b14), ("BadWord", b15), ("NoSuch", b16), ("TooMany", b17), ("base", b18), ("value", b19)] : List (Str × Bool)).map encP)) (ev_is (ev_op (ev_var rfl) (ev_lst (ea_cons (ev_tup (ea_cons ev_str (ea_cons (ev_cb (ea_cons (ev_var rfl) (ea_cons ev_ref ea_nil)) (cal_isD XX T.hsp T.htk cls_ref k18)) ea_nil))) (ea_cons (ev_tup (ea_cons ev_str (ea_cons (ev_cb (ea_cons (ev_var rfl) (ea_cons ev_ty ea_nil)) (cal_isD XX T.hsp T.htk cls_ty k19)) ea_nil))) ea_nil))) (bin_addL (Nat.le_of_ble_eq_true rfl))) rfl) ?_
  show Does K W _ [some (.exc (ga K q.1) q.2.1 q.2.2.1 d), some (.lst (([("BadBand", b0), ("BadCell", b1), ("BadColours", b2), ("BadDeed", b3), ("BadGrid", b4), ("BadGroup", b5), ("BadLattice", b6), ("BadMotion", b7), ("BadNumber", b8), ("BadPaper", b9), ("BadPattern", b10), ("BadText", b11), ("BadTile", b12), ("BadTiles", b13), ("BadWeave", b14), ("BadWord", b15), ("NoSuch", b16), ("TooMany", b17), ("base", b18), ("value", b19)] : List (Str × Bool)).map encP)), none, none] o _
  refine does_setq (d := .lst (([("BadBand", b0), ("BadCell", b1), ("BadColours", b2), ("BadDeed", b3), ("BadGrid", b4), ("BadGroup", b5), ("BadLattice", b6), ("BadMotion", b7), ("BadNumber", b8), ("BadPaper", b9), ("BadPattern", b10), ("BadText", b11), ("BadTile", b12), ("BadTiles", b13), ("BadWeave", b14), ("BadWord", b15), ("NoSuch", b16), ("TooMany", b17), ("base", b18), ("value", b19), ("lookup", b20), ("overflow", b21)] : List (Str × Bool)).map encP)) (ev_is (ev_op (ev_var rfl) (ev_lst (ea_cons (ev_tup (ea_cons ev_str (ea_cons (ev_cb (ea_cons (ev_var rfl) (ea_cons ev_ty ea_nil)) (cal_isD XX T.hsp T.htk cls_ty k20)) ea_nil))) (ea_cons (ev_tup (ea_cons ev_str (ea_cons (ev_cb (ea_cons (ev_var rfl) (ea_cons ev_ty ea_nil)) (cal_isD XX T.hsp T.htk cls_ty k21)) ea_nil))) ea_nil))) (bin_addL (Nat.le_of_ble_eq_true rfl))) rfl) ?_
  show Does K W _ [some (.exc (ga K q.1) q.2.1 q.2.2.1 d), some (.lst (([("BadBand", b0), ("BadCell", b1), ("BadColours", b2), ("BadDeed", b3), ("BadGrid", b4), ("BadGroup", b5), ("BadLattice", b6), ("BadMotion", b7), ("BadNumber", b8), ("BadPaper", b9), ("BadPattern", b10), ("BadText", b11), ("BadTile", b12), ("BadTiles", b13), ("BadWeave", b14), ("BadWord", b15), ("NoSuch", b16), ("TooMany", b17), ("base", b18), ("value", b19), ("lookup", b20), ("overflow", b21)] : List (Str × Bool)).map encP)), none, none] o _
  refine does_ret (ev_lcP (K := K) ([("BadBand", b0), ("BadCell", b1), ("BadColours", b2), ("BadDeed", b3), ("BadGrid", b4), ("BadGroup", b5), ("BadLattice", b6), ("BadMotion", b7), ("BadNumber", b8), ("BadPaper", b9), ("BadPattern", b10), ("BadText", b11), ("BadTile", b12), ("BadTiles", b13), ("BadWeave", b14), ("BadWord", b15), ("NoSuch", b16), ("TooMany", b17), ("base", b18), ("value", b19), ("lookup", b20), ("overflow", b21)] : List (Str × Bool)) encP (·.2) (fun p => .str p.1) (EvI.lst (ev_var rfl)) (fun x hx => ⟨_, egc_tup (egcs_cons (egc_name (i := 2)) (egcs_cons (egc_name (i := 3)) egcs_nil)), et_B (ev_var rfl), fun _ => ev_var rfl⟩)) (.refl _)
def tri (K : PySem.W.Frag) (d : D) (c : Str × Str × Str) : D := .tup [.exc (ga K c.1) c.2.1 c.2.2 d, .exc (ga K c.1) c.2.1 c.2.2 d, .str c.1]
def valuedL : List (Str × Str × Str) := [("BadGrid", "value", "no such grid"), ("BadCell", "value", "no such cell"), ("BadMotion", "value", "no such motion"), ("BadLattice", "value", "no such lattice"), ("BadColours", "value", "no such colours"), ("BadNumber", "value", "no such number")]
def placedL : List (Str × Str × Str) := [("BadGroup", "place", "no such group"), ("BadTile", "place", "no such tile"), ("BadPattern", "place", "no such pattern"), ("BadTiles", "place", "no such tiles"), ("BadWeave", "place", "no such weave"), ("BadBand", "place", "no such band"), ("BadText", "place", "no such text"), ("BadPaper", "place", "no such paper"), ("BadDeed", "place", "no such deed"), ("BadWord", "place", "no such lines")]
abbrev s__law_valued : Stmt := top 25
abbrev N__law_valued : List Str := ["thing", "found"]
theorem sc__law_valued : FnScope N__law_valued ["thing"] (defScope s__law_valued) := ⟨rfl, rfl, rfl, by decide +kernel, rfl, by decide +kernel, by decide +kernel⟩

def F__law_valued (K : PySem.W.Frag) : FS := fun ds o out => ∃ d : D, ds = [d] ∧ out = .rt (.lst (valuedL.map (tri K d))) o
def t__law_valued (K : PySem.W.Frag) : TS := (tSeq (tAsg (tLst (tCons (tTup (tCons (tMkX (ga K "BadGrid") 1 0 (spI (ga K "BadGrid") "value" "no such grid") (fun vs _ => vs) (tCons (tVar 0) tNil) tNil) (tCons (tMkX (ga K "BadGrid") 0 1 (spI (ga K "BadGrid") "value" "no such grid") (fun vs zs => vs ++ zs) tNil (tCons (tVar 0) tNil)) (tCons (tC (.str "BadGrid")) tNil)))) (tCons (tTup (tCons (tMkX (ga K "BadCell") 1 0 (spI (ga K "BadCell") "value" "no such cell") (fun vs _ => vs) (tCons (tVar 0) tNil) tNil) (tCons (tMkX (ga K "BadCell") 0 1 (spI (ga K "BadCell") "value" "no such cell") (fun vs zs => vs ++ zs) tNil (tCons (tVar 0) tNil)) (tCons (tC (.str "BadCell")) tNil)))) tNil))) (gName 1))
    (tSeq (tAsg (tOp (rAddU K) (tVar 1) (tLst (tCons (tTup (tCons (tMkX (ga K "BadMotion") 1 0 (spI (ga K "BadMotion") "value" "no such motion") (fun vs _ => vs) (tCons (tVar 0) tNil) tNil) (tCons (tMkX (ga K "BadMotion") 0 1 (spI (ga K "BadMotion") "value" "no such motion") (fun vs zs => vs ++ zs) tNil (tCons (tVar 0) tNil)) (tCons (tC (.str "BadMotion")) tNil)))) tNil))) (gName 1))
    (tSeq (tAsg (tOp (rAddU K) (tVar 1) (tLst (tCons (tTup (tCons (tMkX (ga K "BadLattice") 1 0 (spI (ga K "BadLattice") "value" "no such lattice") (fun vs _ => vs) (tCons (tVar 0) tNil) tNil) (tCons (tMkX (ga K "BadLattice") 0 1 (spI (ga K "BadLattice") "value" "no such lattice") (fun vs zs => vs ++ zs) tNil (tCons (tVar 0) tNil)) (tCons (tC (.str "BadLattice")) tNil)))) tNil))) (gName 1))
    (tSeq (tAsg (tOp (rAddU K) (tVar 1) (tLst (tCons (tTup (tCons (tMkX (ga K "BadColours") 1 0 (spI (ga K "BadColours") "value" "no such colours") (fun vs _ => vs) (tCons (tVar 0) tNil) tNil) (tCons (tMkX (ga K "BadColours") 0 1 (spI (ga K "BadColours") "value" "no such colours") (fun vs zs => vs ++ zs) tNil (tCons (tVar 0) tNil)) (tCons (tC (.str "BadColours")) tNil)))) tNil))) (gName 1))
    (tRet (tOp (rAddU K) (tVar 1) (tLst (tCons (tTup (tCons (tMkX (ga K "BadNumber") 1 0 (spI (ga K "BadNumber") "value" "no such number") (fun vs _ => vs) (tCons (tVar 0) tNil) tNil) (tCons (tMkX (ga K "BadNumber") 0 1 (spI (ga K "BadNumber") "value" "no such number") (fun vs zs => vs ++ zs) tNil (tCons (tVar 0) tNil)) (tCons (tC (.str "BadNumber")) tNil)))) tNil))))))))

theorem does_law_valued {K : PySem.W.Frag} {W : WW} {o : Own} {d : D} : Does K W (t__law_valued K) (startG N__law_valued [d]) o (.rt (.lst (valuedL.map (tri K d))) o) := by
  unfold t__law_valued
  refine does_setq (ev_lst (ea_cons (ev_tup (ea_cons (ev_mkP (ea_cons (ev_var rfl) ea_nil)) (ea_cons (ev_mkK (ea_cons (ev_var rfl) ea_nil)) (ea_cons ev_str ea_nil)))) (ea_cons (ev_tup (ea_cons (ev_mkP (ea_cons (ev_var rfl) ea_nil)) (ea_cons (ev_mkK (ea_cons (ev_var rfl) ea_nil)) (ea_cons ev_str ea_nil)))) ea_nil))) ?_
  refine does_setq (ev_op (ev_var rfl) (ev_lst (ea_cons (ev_tup (ea_cons (ev_mkP (ea_cons (ev_var rfl) ea_nil)) (ea_cons (ev_mkK (ea_cons (ev_var rfl) ea_nil)) (ea_cons ev_str ea_nil)))) ea_nil)) (bin_addL (Nat.le_of_ble_eq_true rfl))) ?_
  refine does_setq (ev_op (ev_var rfl) (ev_lst (ea_cons (ev_tup (ea_cons (ev_mkP (ea_cons (ev_var rfl) ea_nil)) (ea_cons (ev_mkK (ea_cons (ev_var rfl) ea_nil)) (ea_cons ev_str ea_nil)))) ea_nil)) (bin_addL (Nat.le_of_ble_eq_true rfl))) ?_
  refine does_setq (ev_op (ev_var rfl) (ev_lst (ea_cons (ev_tup (ea_cons (ev_mkP (ea_cons (ev_var rfl) ea_nil)) (ea_cons (ev_mkK (ea_cons (ev_var rfl) ea_nil)) (ea_cons ev_str ea_nil)))) ea_nil)) (bin_addL (Nat.le_of_ble_eq_true rfl))) ?_
  exact does_ret (ev_op (ev_var rfl) (ev_lst (ea_cons (ev_tup (ea_cons (ev_mkP (ea_cons (ev_var rfl) ea_nil)) (ea_cons (ev_mkK (ea_cons (ev_var rfl) ea_nil)) (ea_cons ev_str ea_nil)))) ea_nil)) (bin_addL (Nat.le_of_ble_eq_true rfl))) (.refl _)
abbrev s__law_placed : Stmt := top 26
abbrev N__law_placed : List Str := ["thing", "found"]
theorem sc__law_placed : FnScope N__law_placed ["thing"] (defScope s__law_placed) := ⟨rfl, rfl, rfl, by decide +kernel, rfl, by decide +kernel, by decide +kernel⟩

def F__law_placed (K : PySem.W.Frag) : FS := fun ds o out => ∃ d : D, ds = [d] ∧ out = .rt (.lst (placedL.map (tri K d))) o
def t__law_placed (K : PySem.W.Frag) : TS := (tSeq (tAsg (tLst (tCons (tTup (tCons (tMkX (ga K "BadGroup") 1 0 (spI (ga K "BadGroup") "place" "no such group") (fun vs _ => vs) (tCons (tVar 0) tNil) tNil) (tCons (tMkX (ga K "BadGroup") 0 1 (spI (ga K "BadGroup") "place" "no such group") (fun vs zs => vs ++ zs) tNil (tCons (tVar 0) tNil)) (tCons (tC (.str "BadGroup")) tNil)))) (tCons (tTup (tCons (tMkX (ga K "BadTile") 1 0 (spI (ga K "BadTile") "place" "no such tile") (fun vs _ => vs) (tCons (tVar 0) tNil) tNil) (tCons (tMkX (ga K "BadTile") 0 1 (spI (ga K "BadTile") "place" "no such tile") (fun vs zs => vs ++ zs) tNil (tCons (tVar 0) tNil)) (tCons (tC (.str "BadTile")) tNil)))) tNil))) (gName 1))
    (tSeq (tAsg (tOp (rAddU K) (tVar 1) (tLst (tCons (tTup (tCons (tMkX (ga K "BadPattern") 1 0 (spI (ga K "BadPattern") "place" "no such pattern") (fun vs _ => vs) (tCons (tVar 0) tNil) tNil) (tCons (tMkX (ga K "BadPattern") 0 1 (spI (ga K "BadPattern") "place" "no such pattern") (fun vs zs => vs ++ zs) tNil (tCons (tVar 0) tNil)) (tCons (tC (.str "BadPattern")) tNil)))) tNil))) (gName 1))
    (tSeq (tAsg (tOp (rAddU K) (tVar 1) (tLst (tCons (tTup (tCons (tMkX (ga K "BadTiles") 1 0 (spI (ga K "BadTiles") "place" "no such tiles") (fun vs _ => vs) (tCons (tVar 0) tNil) tNil) (tCons (tMkX (ga K "BadTiles") 0 1 (spI (ga K "BadTiles") "place" "no such tiles") (fun vs zs => vs ++ zs) tNil (tCons (tVar 0) tNil)) (tCons (tC (.str "BadTiles")) tNil)))) (tCons (tTup (tCons (tMkX (ga K "BadWeave") 1 0 (spI (ga K "BadWeave") "place" "no such weave") (fun vs _ => vs) (tCons (tVar 0) tNil) tNil) (tCons (tMkX (ga K "BadWeave") 0 1 (spI (ga K "BadWeave") "place" "no such weave") (fun vs zs => vs ++ zs) tNil (tCons (tVar 0) tNil)) (tCons (tC (.str "BadWeave")) tNil)))) tNil)))) (gName 1))
    (tSeq (tAsg (tOp (rAddU K) (tVar 1) (tLst (tCons (tTup (tCons (tMkX (ga K "BadBand") 1 0 (spI (ga K "BadBand") "place" "no such band") (fun vs _ => vs) (tCons (tVar 0) tNil) tNil) (tCons (tMkX (ga K "BadBand") 0 1 (spI (ga K "BadBand") "place" "no such band") (fun vs zs => vs ++ zs) tNil (tCons (tVar 0) tNil)) (tCons (tC (.str "BadBand")) tNil)))) (tCons (tTup (tCons (tMkX (ga K "BadText") 1 0 (spI (ga K "BadText") "place" "no such text") (fun vs _ => vs) (tCons (tVar 0) tNil) tNil) (tCons (tMkX (ga K "BadText") 0 1 (spI (ga K "BadText") "place" "no such text") (fun vs zs => vs ++ zs) tNil (tCons (tVar 0) tNil)) (tCons (tC (.str "BadText")) tNil)))) tNil)))) (gName 1))
    (tSeq (tAsg (tOp (rAddU K) (tVar 1) (tLst (tCons (tTup (tCons (tMkX (ga K "BadPaper") 1 0 (spI (ga K "BadPaper") "place" "no such paper") (fun vs _ => vs) (tCons (tVar 0) tNil) tNil) (tCons (tMkX (ga K "BadPaper") 0 1 (spI (ga K "BadPaper") "place" "no such paper") (fun vs zs => vs ++ zs) tNil (tCons (tVar 0) tNil)) (tCons (tC (.str "BadPaper")) tNil)))) (tCons (tTup (tCons (tMkX (ga K "BadDeed") 1 0 (spI (ga K "BadDeed") "place" "no such deed") (fun vs _ => vs) (tCons (tVar 0) tNil) tNil) (tCons (tMkX (ga K "BadDeed") 0 1 (spI (ga K "BadDeed") "place" "no such deed") (fun vs zs => vs ++ zs) tNil (tCons (tVar 0) tNil)) (tCons (tC (.str "BadDeed")) tNil)))) tNil)))) (gName 1))
    (tRet (tOp (rAddU K) (tVar 1) (tLst (tCons (tTup (tCons (tMkX (ga K "BadWord") 1 0 (spI (ga K "BadWord") "place" "no such lines") (fun vs _ => vs) (tCons (tVar 0) tNil) tNil) (tCons (tMkX (ga K "BadWord") 0 1 (spI (ga K "BadWord") "place" "no such lines") (fun vs zs => vs ++ zs) tNil (tCons (tVar 0) tNil)) (tCons (tC (.str "BadWord")) tNil)))) tNil)))))))))

theorem does_law_placed {K : PySem.W.Frag} {W : WW} {o : Own} {d : D} : Does K W (t__law_placed K) (startG N__law_placed [d]) o (.rt (.lst (placedL.map (tri K d))) o) := by
  unfold t__law_placed
  refine does_setq (ev_lst (ea_cons (ev_tup (ea_cons (ev_mkP (ea_cons (ev_var rfl) ea_nil)) (ea_cons (ev_mkK (ea_cons (ev_var rfl) ea_nil)) (ea_cons ev_str ea_nil)))) (ea_cons (ev_tup (ea_cons (ev_mkP (ea_cons (ev_var rfl) ea_nil)) (ea_cons (ev_mkK (ea_cons (ev_var rfl) ea_nil)) (ea_cons ev_str ea_nil)))) ea_nil))) ?_
  refine does_setq (ev_op (ev_var rfl) (ev_lst (ea_cons (ev_tup (ea_cons (ev_mkP (ea_cons (ev_var rfl) ea_nil)) (ea_cons (ev_mkK (ea_cons (ev_var rfl) ea_nil)) (ea_cons ev_str ea_nil)))) ea_nil)) (bin_addL (Nat.le_of_ble_eq_true rfl))) ?_
  refine does_setq (ev_op (ev_var rfl) (ev_lst (ea_cons (ev_tup (ea_cons (ev_mkP (ea_cons (ev_var rfl) ea_nil)) (ea_cons (ev_mkK (ea_cons (ev_var rfl) ea_nil)) (ea_cons ev_str ea_nil)))) (ea_cons (ev_tup (ea_cons (ev_mkP (ea_cons (ev_var rfl) ea_nil)) (ea_cons (ev_mkK (ea_cons (ev_var rfl) ea_nil)) (ea_cons ev_str ea_nil)))) ea_nil))) (bin_addL (Nat.le_of_ble_eq_true rfl))) ?_
  refine does_setq (ev_op (ev_var rfl) (ev_lst (ea_cons (ev_tup (ea_cons (ev_mkP (ea_cons (ev_var rfl) ea_nil)) (ea_cons (ev_mkK (ea_cons (ev_var rfl) ea_nil)) (ea_cons ev_str ea_nil)))) (ea_cons (ev_tup (ea_cons (ev_mkP (ea_cons (ev_var rfl) ea_nil)) (ea_cons (ev_mkK (ea_cons (ev_var rfl) ea_nil)) (ea_cons ev_str ea_nil)))) ea_nil))) (bin_addL (Nat.le_of_ble_eq_true rfl))) ?_
  refine does_setq (ev_op (ev_var rfl) (ev_lst (ea_cons (ev_tup (ea_cons (ev_mkP (ea_cons (ev_var rfl) ea_nil)) (ea_cons (ev_mkK (ea_cons (ev_var rfl) ea_nil)) (ea_cons ev_str ea_nil)))) (ea_cons (ev_tup (ea_cons (ev_mkP (ea_cons (ev_var rfl) ea_nil)) (ea_cons (ev_mkK (ea_cons (ev_var rfl) ea_nil)) (ea_cons ev_str ea_nil)))) ea_nil))) (bin_addL (Nat.le_of_ble_eq_true rfl))) ?_
  exact does_ret (ev_op (ev_var rfl) (ev_lst (ea_cons (ev_tup (ea_cons (ev_mkP (ea_cons (ev_var rfl) ea_nil)) (ea_cons (ev_mkK (ea_cons (ev_var rfl) ea_nil)) (ea_cons ev_str ea_nil)))) ea_nil)) (bin_addL (Nat.le_of_ble_eq_true rfl))) (.refl _)
abbrev s__law_right : Stmt := top 27
abbrev N__law_right : List Str := ["thing", "one", "other", "name"]
theorem sc__law_right : FnScope N__law_right ["thing"] (defScope s__law_right) := ⟨rfl, rfl, rfl, by decide +kernel, rfl, by decide +kernel, by decide +kernel⟩

def F__law_right (K : PySem.W.Frag) : FS := fun ds o out => ∃ d : D, ds = [d] ∧ d.good 60 = true ∧ out = .rt (.bl true) o
def t__law_right (K : PySem.W.Frag) : TS := (tSeq (tFor (iList K (tCall (spF K 1 (F__law_valued K)) [] E0 (tCons (tVar 0) tNil))) (gTup K 3 (gCons (gName 1) (gCons (gName 2) (gCons (gName 3) gNil))))
    (tSeq (tIfS (tOr (tTest (tOp (rNeD K) (tCall (spF K 1 (F__law_kinds K)) [] E0 (tCons (tVar 1) tNil)) (tLst (tCons (tVar 3) (tCons (tC (.str "base")) (tCons (tC (.str "value")) tNil)))))) (tTest (tOp (rNeD K) (tCall (spF K 1 (F__law_kinds K)) [] E0 (tCons (tVar 2) tNil)) (tLst (tCons (tVar 3) (tCons (tC (.str "base")) (tCons (tC (.str "value")) tNil))))))) (tRet (tC (.bl false))) tNext)
    (tIfS (tOr (tTest (tOp (rNeD K) (tXV K "value" (tVar 1)) (tVar 0))) (tTest (tOp (rNeD K) (tXV K "value" (tVar 2)) (tVar 0)))) (tRet (tC (.bl false))) tNext)))
    (tSeq (tFor (iList K (tCall (spF K 1 (F__law_placed K)) [] E0 (tCons (tVar 0) tNil))) (gTup K 3 (gCons (gName 1) (gCons (gName 2) (gCons (gName 3) gNil))))
    (tSeq (tIfS (tOr (tTest (tOp (rNeD K) (tCall (spF K 1 (F__law_kinds K)) [] E0 (tCons (tVar 1) tNil)) (tLst (tCons (tVar 3) (tCons (tC (.str "base")) (tCons (tC (.str "value")) tNil)))))) (tTest (tOp (rNeD K) (tCall (spF K 1 (F__law_kinds K)) [] E0 (tCons (tVar 2) tNil)) (tLst (tCons (tVar 3) (tCons (tC (.str "base")) (tCons (tC (.str "value")) tNil))))))) (tRet (tC (.bl false))) tNext)
    (tIfS (tOr (tTest (tOp (rNeD K) (tXV K "place" (tVar 1)) (tVar 0))) (tTest (tOp (rNeD K) (tXV K "place" (tVar 2)) (tVar 0)))) (tRet (tC (.bl false))) tNext)))
    (tSeq (tFor (iTup K (tTup (tCons (tMkX (ga K "NoSuch") 1 0 (spI (ga K "NoSuch") "value" "nothing so called") (fun vs _ => vs) (tCons (tVar 0) tNil) tNil) (tCons (tMkX (ga K "NoSuch") 0 1 (spI (ga K "NoSuch") "value" "nothing so called") (fun vs zs => vs ++ zs) tNil (tCons (tVar 0) tNil)) tNil)))) (gName 1)
    (tIfS (tOr (tTest (tOp (rNeD K) (tCall (spF K 1 (F__law_kinds K)) [] E0 (tCons (tVar 1) tNil)) (tLst (tCons (tC (.str "NoSuch")) (tCons (tC (.str "lookup")) tNil))))) (tTest (tOp (rNeD K) (tXV K "value" (tVar 1)) (tVar 0)))) (tRet (tC (.bl false))) tNext))
    (tSeq (tFor (iTup K (tTup (tCons (tMkX (ga K "TooMany") 1 0 (spI (ga K "TooMany") "most" "too many") (fun vs _ => vs) (tCons (tVar 0) tNil) tNil) (tCons (tMkX (ga K "TooMany") 0 1 (spI (ga K "TooMany") "most" "too many") (fun vs zs => vs ++ zs) tNil (tCons (tVar 0) tNil)) tNil)))) (gName 1)
    (tIfS (tOr (tTest (tOp (rNeD K) (tCall (spF K 1 (F__law_kinds K)) [] E0 (tCons (tVar 1) tNil)) (tLst (tCons (tC (.str "TooMany")) (tCons (tC (.str "overflow")) tNil))))) (tTest (tOp (rNeD K) (tXV K "most" (tVar 1)) (tVar 0)))) (tRet (tC (.bl false))) tNext))
    (tRet (tC (.bl true)))))))

theorem in_kind : ∀ c ∈ valuedL ++ placedL, (c.1, c.2.1, c.2.2, [c.1, ("base" : Str), ("value" : Str)]) ∈ kindT := by decide +kernel
theorem kind_good : ∀ q ∈ kindT, D.goods 1 (q.2.2.2.map D.str) = true := by decide +kernel
theorem f_valued : ∀ c ∈ valuedL, c.2.1 = "value" := by decide +kernel
theorem f_placed : ∀ c ∈ placedL, c.2.1 = "place" := by decide +kernel
section
variable {P : Program} {w : World} {K : PySem.W.Frag} {mg : Str → Option Value} {base : Heap} {W : WW} {o : Own} {d : D}
/-- an own == of the kinds, and of the field, is false where it ought to be -/
theorem et_kinds {q : Str × Str × Str × List Str} {Γ : G} {te : TE} {ta : TA} (hq : q ∈ kindT) (h : Ev K te Γ o (.exc (ga K q.1) q.2.1 q.2.2.1 d) o) (hl : EvA K ta Γ o (q.2.2.2.map D.str) o) (hz : (q.2.2.2.map D.str).length ≤ 100000) :
    EvT K (tTest (tOp (rNeD K) (tCall (spF K 1 (F__law_kinds K)) [] E0 (tCons te tNil)) (tLst ta))) Γ o false o := by
  have hg : (D.lst (q.2.2.2.map D.str)).good 2 = true := by rw [D.good]; exact kind_good q hq
  have c := ev_call (K := K) (dvs := []) (dd := []) (E := E0) (n := 1) (F := F__law_kinds K) (o2 := o) (ea_cons h ea_nil) (fun _ => .nil) rfl ⟨q, d, hq, rfl, rfl⟩
  exact et_test (ev_is (ev_op c (ev_lst hl hz) (bin_neD hg hg)) (by rw [D.eqv_refl hg]; rfl))
theorem et_field {x f m : Str} {df : Bool} {Γ : G} {te : TE} {i : Nat} (X : XD P w K mg base x f m df) (hg : d.good 60 = true) (h : Ev K te Γ o (.exc (ga K x) f m d) o) (hi : Γ[i]? = some (some d)) : EvT K (tTest (tOp (rNeD K) (tXV K f te) (tVar i))) Γ o false o :=
  et_test (ev_is (ev_op (ev_xvD X h) (ev_var hi) (bin_neD hg hg)) (by rw [D.eqv_refl hg]; rfl))
theorem et_or0 {t u : TT} {Γ : G} (h1 : EvT K t Γ o false o) (h2 : EvT K u Γ o false o) : EvT K (tOr t u) Γ o false o := et_or h1 fun _ => h2
/-- a turn of the first two loops -/
theorem turn_right {fld : Str} {c : Str × Str × Str} (T : Tx P w K mg base) (hc : c ∈ valuedL ++ placedL) (hf : c.2.1 = fld) (hg : d.good 60 = true) :
    Does K W (tSeq (tIfS (tOr (tTest (tOp (rNeD K) (tCall (spF K 1 (F__law_kinds K)) [] E0 (tCons (tVar 1) tNil)) (tLst (tCons (tVar 3) (tCons (tC (.str "base")) (tCons (tC (.str "value")) tNil)))))) (tTest (tOp (rNeD K) (tCall (spF K 1 (F__law_kinds K)) [] E0 (tCons (tVar 2) tNil)) (tLst (tCons (tVar 3) (tCons (tC (.str "base")) (tCons (tC (.str "value")) tNil))))))) (tRet (tC (.bl false))) tNext)
    (tIfS (tOr (tTest (tOp (rNeD K) (tXV K fld (tVar 1)) (tVar 0))) (tTest (tOp (rNeD K) (tXV K fld (tVar 2)) (tVar 0)))) (tRet (tC (.bl false))) tNext))
      [some d, some (.exc (ga K c.1) c.2.1 c.2.2 d), some (.exc (ga K c.1) c.2.1 c.2.2 d), some (.str c.1)] o (.on [some d, none, none, none] o) := by
  have hk := in_kind c hc
  obtain ⟨df, X⟩ := T.xd _ hk
  subst hf
  refine Does.onLe (Γ1 := [some d, some (.exc (ga K c.1) c.2.1 c.2.2 d), some (.exc (ga K c.1) c.2.1 c.2.2 d), some (.str c.1)]) (Does.on ?_) ⟨.inr rfl, .inl rfl, .inl rfl, .inl rfl, trivial⟩ (.refl _)
  refine does_ifF (et_or0 (et_kinds hk (ev_var rfl) (ea_cons (ev_var rfl) (ea_cons ev_str (ea_cons ev_str ea_nil))) (Nat.le_of_ble_eq_true rfl)) (et_kinds hk (ev_var rfl) (ea_cons (ev_var rfl) (ea_cons ev_str (ea_cons ev_str ea_nil))) (Nat.le_of_ble_eq_true rfl))) ?_
  exact does_ifF1 (et_or0 (et_field X hg (ev_var rfl) rfl) (et_field X hg (ev_var rfl) rfl))
/-- a turn of the last two -/
theorem turn_two {q : Str × Str × Str × List Str} {wa wb : Str} (T : Tx P w K mg base) (hq : q ∈ kindT) (hw : q.2.2.2 = [wa, wb]) (hg : d.good 60 = true) :
    Does K W (tIfS (tOr (tTest (tOp (rNeD K) (tCall (spF K 1 (F__law_kinds K)) [] E0 (tCons (tVar 1) tNil)) (tLst (tCons (tC (.str wa)) (tCons (tC (.str wb)) tNil))))) (tTest (tOp (rNeD K) (tXV K q.2.1 (tVar 1)) (tVar 0)))) (tRet (tC (.bl false))) tNext)
      [some d, some (.exc (ga K q.1) q.2.1 q.2.2.1 d), none, none] o (.on [some d, none, none, none] o) := by
  obtain ⟨df, X⟩ := T.xd _ hq
  have ha : EvA K (tCons (tC (.str wa)) (tCons (tC (.str wb)) tNil)) [some d, some (.exc (ga K q.1) q.2.1 q.2.2.1 d), none, none] o (q.2.2.2.map D.str) o := by rw [hw]; exact ea_cons ev_str (ea_cons ev_str ea_nil)
  have hz : (q.2.2.2.map D.str).length ≤ 100000 := by rw [hw]; exact Nat.le_of_ble_eq_true rfl
  exact Does.onLe (Γ1 := [some d, some (.exc (ga K q.1) q.2.1 q.2.2.1 d), none, none]) (Does.on (does_ifF1 (et_or0 (et_kinds hq (ev_var rfl) ha hz) (et_field X hg (ev_var rfl) rfl)))) ⟨.inr rfl, .inl rfl, .inl rfl, .inl rfl, trivial⟩ (.refl _)
theorem does_right (T : Tx P w K mg base) (hg : d.good 60 = true) : Does K W (t__law_right K) (startG N__law_right [d]) o (.rt (.bl true) o) := by
  show Does K W (t__law_right K) [some d, none, none, none] o (.rt (.bl true) o)
  unfold t__law_right
  have c1 := ev_call (K := K) (Γ := [some d, none, none, none]) (ta' := tCons (tVar 0) tNil) (o := o) (dvs := []) (dd := []) (E := E0) (n := 1) (F := F__law_valued K) (o2 := o) (ea_cons (ev_var rfl) ea_nil) (fun _ => .nil) rfl ⟨d, rfl, rfl⟩
  have c2 := ev_call (K := K) (Γ := [some d, none, none, none]) (ta' := tCons (tVar 0) tNil) (o := o) (dvs := []) (dd := []) (E := E0) (n := 1) (F := F__law_placed K) (o2 := o) (ea_cons (ev_var rfl) ea_nil) (fun _ => .nil) rfl ⟨d, rfl, rfl⟩
  refine (does_for (S := Unit) valuedL (tri K d) (fun _ => [some d, none, none, none]) (fun _ => o) (fun _ _ => True) () (fun s _ => s) (EvI.lst c1) (Le.refl _) rfl trivial fun pre x post s e _ => ⟨_, eg_tup (egs_cons eg_name (egs_cons eg_name (egs_cons eg_name egs_nil))), trivial, turn_right T (List.mem_append_left _ ?_) (f_valued x ?_) hg⟩).2.seq ?_
  · rw [e]; simp
  · rw [e]; simp
  refine (does_for (S := Unit) placedL (tri K d) (fun _ => [some d, none, none, none]) (fun _ => o) (fun _ _ => True) () (fun s _ => s) (EvI.lst c2) (Le.refl _) rfl trivial fun pre x post s e _ => ⟨_, eg_tup (egs_cons eg_name (egs_cons eg_name (egs_cons eg_name egs_nil))), trivial, turn_right T (List.mem_append_right _ ?_) (f_placed x ?_) hg⟩).2.seq ?_
  · rw [e]; simp
  · rw [e]; simp
  refine (does_for (S := Unit) [true, false] (fun _ : Bool => .exc (ga K "NoSuch") "value" "nothing so called" d) (fun _ => [some d, none, none, none]) (fun _ => o) (fun _ _ => True) () (fun s _ => s) (EvI.tup (ev_tup (ea_cons (ev_mkP (ea_cons (ev_var rfl) ea_nil)) (ea_cons (ev_mkK (ea_cons (ev_var rfl) ea_nil)) ea_nil)))) (Le.refl _) rfl trivial
    fun pre x post s e _ => ⟨_, eg_name, trivial, turn_two (q := ("NoSuch", "value", "nothing so called", ["NoSuch", "lookup"])) T (by decide +kernel) rfl hg⟩).2.seq ?_
  refine (does_for (S := Unit) [true, false] (fun _ : Bool => .exc (ga K "TooMany") "most" "too many" d) (fun _ => [some d, none, none, none]) (fun _ => o) (fun _ _ => True) () (fun s _ => s) (EvI.tup (ev_tup (ea_cons (ev_mkP (ea_cons (ev_var rfl) ea_nil)) (ea_cons (ev_mkK (ea_cons (ev_var rfl) ea_nil)) ea_nil)))) (Le.refl _) rfl trivial
    fun pre x post s e _ => ⟨_, eg_name, trivial, turn_two (q := ("TooMany", "most", "too many", ["TooMany", "overflow"])) T (by decide +kernel) rfl hg⟩).2.seq ?_
  exact does_ret ev_bl (.refl _)
end
abbrev s_law : Stmt := top 28
abbrev N_law : List Str := ["script", "k", "cell", "state", "number", "some", "others", "e", "thing", "made", "one", "other", "name"]
theorem sc_law : FnScope N_law ["script"] (defScope s_law) := ⟨rfl, rfl, rfl, by decide +kernel, rfl, by decide +kernel, by decide +kernel⟩

def F_law (K : PySem.W.Frag) : FS := fun ds o out => ∃ ns : List Int, ds = [.fl (ns.map D.int)] ∧ ns.length ≤ 63 ∧ out = .rt (.bl true) o
def t_turn (K : PySem.W.Frag) : TS := (tSeq (tAsg (tCall (spF K 2 (F__law_draw K)) [] E0 (tCons (tVar 2) (tCons (tVar 1) tNil))) (gName 3))
    (tSeq (tAsg (tCall (spF K 2 (F__law_digit K)) [] E0 (tCons (tVar 3) (tCons (tC (.int 100000)) tNil))) (gName 4))
    (tSeq (tAsg (tLst (tCons (tVar 4) (tCons (tOp (rI0 fun i j => .int (i - j)) (tC (.int 0)) (tVar 4)) (tCons (tOp (rMulU K) (tC (.str "ab")) (tOp (rI (fun _ j => 0 < j) fun i j => .int (i % j)) (tVar 4) (tC (.int 50)))) (tCons (tTup (tCons (tC (.str "closed")) (tCons (tTup (tCons (tC (.int 0)) (tCons (tVar 4) tNil))) tNil))) (tCons (tC .non) (tCons (tTup (tCons (tOp (rI CPowW fun i j => .int (i ^ j.toNat)) (tC (.int 10)) (tC (.int 30))) (tCons (tTup tNil) tNil))) (tCons (tOp (rMulU K) (tTup (tCons (tVar 4) tNil)) (tC (.int 9))) tNil)))))))) (gName 5))
    (tIfS (tOr (tNot (tB (tCall (spF K 1 (F__law_right K)) [] E0 (tCons (tOp (rIx K) (tVar 5) (tCall (spF K 2 (F__law_digit K)) [] E0 (tCons (tVar 3) (tCons (tC (.int 7)) tNil)))) tNil)))) (tNot (tB (tCall (spF K 1 (F__law_right K)) [] E0 (tCons (tOp (rI CPowW fun i j => .int (i ^ j.toNat)) (tOp (rI CPowW fun i j => .int (i ^ j.toNat)) (tOp (rI CPowW fun i j => .int (i ^ j.toNat)) (tC (.int 10)) (tC (.int 50))) (tC (.int 50))) (tC (.int 2))) tNil))))) (tRet (tC (.bl false))) tNext))))
def t_made (K : PySem.W.Frag) : TS := (tSeq (tAsg (tOp (rAddU K) (tLc (iList K (tOp (rAddU K) (tCall (spF K 1 (F__law_valued K)) [] E0 (tCons (tVar 8) tNil)) (tCall (spF K 1 (F__law_placed K)) [] E0 (tCons (tVar 8) tNil)))) (gTup K 3 (gCons (gName 10) (gCons (gName 11) (gCons (gName 12) gNil)))) tYes (tVar 10) [10, 11, 12]) (tLst (tCons (tMkX (ga K "NoSuch") 1 0 (spI (ga K "NoSuch") "value" "nothing so called") (fun vs _ => vs) (tCons (tVar 8) tNil) tNil) (tCons (tMkX (ga K "TooMany") 1 0 (spI (ga K "TooMany") "most" "too many") (fun vs _ => vs) (tCons (tVar 8) tNil) tNil) tNil)))) (gName 9))
    (tIfS (tTest (tOp (rNeD K) (tLc (iList K (tVar 9)) (gName 7) (tTest (tOp rInS (tCB (rStrU K) (tCons (tVar 8) tNil)) (tCB (rStrU K) (tCons (tVar 7) tNil)))) (tVar 7) [7]) (tLst tNil))) (tRet (tC (.bl false))) tNext))
def t_law (K : PySem.W.Frag) : TS := (tSeq (tFor (iEnum K (tCons (tOp (rAddU K) (tSl (rSlL K) (tVar 0) tNoPart (tPart (tC (.int 4)))) (tLst (tCons (tCB (rSum K) (tCons (tVar 0) tNil)) tNil))) tNil)) (gTup K 2 (gCons (gName 1) (gCons (gName 2) gNil)))
    (t_turn K))
    (tSeq (tAsg (tLst (tCons (tMkX (ga K "BadGrid") 0 0 (spI (ga K "BadGrid") "value" "no such grid") (fun vs _ => vs ++ [.non]) tNil tNil) (tCons (tMkX (ga K "BadCell") 0 0 (spI (ga K "BadCell") "value" "no such cell") (fun vs _ => vs ++ [.non]) tNil tNil) (tCons (tMkX (ga K "BadMotion") 0 0 (spI (ga K "BadMotion") "value" "no such motion") (fun vs _ => vs ++ [.non]) tNil tNil) (tCons (tMkX (ga K "BadLattice") 0 0 (spI (ga K "BadLattice") "value" "no such lattice") (fun vs _ => vs ++ [.non]) tNil tNil) (tCons (tMkX (ga K "BadColours") 0 0 (spI (ga K "BadColours") "value" "no such colours") (fun vs _ => vs ++ [.non]) tNil tNil) (tCons (tMkX (ga K "BadNumber") 0 0 (spI (ga K "BadNumber") "value" "no such number") (fun vs _ => vs ++ [.non]) tNil tNil) (tCons (tMkX (ga K "NoSuch") 0 0 (spI (ga K "NoSuch") "value" "nothing so called") (fun vs _ => vs ++ [.non]) tNil tNil) tNil)))))))) (gName 5))
    (tSeq (tAsg (tLst (tCons (tMkX (ga K "BadGroup") 0 0 (spI (ga K "BadGroup") "place" "no such group") (fun vs _ => vs ++ [.non]) tNil tNil) (tCons (tMkX (ga K "BadPattern") 0 0 (spI (ga K "BadPattern") "place" "no such pattern") (fun vs _ => vs ++ [.non]) tNil tNil) (tCons (tMkX (ga K "BadTile") 0 0 (spI (ga K "BadTile") "place" "no such tile") (fun vs _ => vs ++ [.non]) tNil tNil) (tCons (tMkX (ga K "BadTiles") 0 0 (spI (ga K "BadTiles") "place" "no such tiles") (fun vs _ => vs ++ [.non]) tNil tNil) (tCons (tMkX (ga K "BadWeave") 0 0 (spI (ga K "BadWeave") "place" "no such weave") (fun vs _ => vs ++ [.non]) tNil tNil) (tCons (tMkX (ga K "BadBand") 0 0 (spI (ga K "BadBand") "place" "no such band") (fun vs _ => vs ++ [.non]) tNil tNil) (tCons (tMkX (ga K "BadText") 0 0 (spI (ga K "BadText") "place" "no such text") (fun vs _ => vs ++ [.non]) tNil tNil) (tCons (tMkX (ga K "BadPaper") 0 0 (spI (ga K "BadPaper") "place" "no such paper") (fun vs _ => vs ++ [.non]) tNil tNil) (tCons (tMkX (ga K "BadDeed") 0 0 (spI (ga K "BadDeed") "place" "no such deed") (fun vs _ => vs ++ [.non]) tNil tNil) tNil)))))))))) (gName 6))
    (tSeq (tDrop (tBM K "list" rAppend (tVar 6) (tCons (tMkX (ga K "BadWord") 0 0 (spI (ga K "BadWord") "place" "no such lines") (fun vs _ => vs ++ [.non]) tNil tNil) tNil)))
    (tSeq (tIfS (tOr (tTest (tOp (rNeD K) (tLc (iList K (tVar 5)) (gName 7) tYes (tXV K "value" (tVar 7)) [7]) (tOp (rMulU K) (tLst (tCons (tC .non) tNil)) (tC (.int 7))))) (tTest (tOp (rNeD K) (tLc (iList K (tVar 6)) (gName 7) tYes (tXV K "place" (tVar 7)) [7]) (tOp (rMulU K) (tLst (tCons (tC .non) tNil)) (tC (.int 10)))))) (tRet (tC (.bl false))) tNext)
    (tSeq (tFor (iTup K (tTup (tCons (tC (.str "zqzq")) (tCons (tOp (rI CPowW fun i j => .int (i ^ j.toNat)) (tC (.int 10)) (tC (.int 30))) (tCons (tC (.int 70707)) tNil))))) (gName 8)
    (t_made K))
    (tRet (tC (.bl true)))))))))

def someL : List (Str × Str × Str) := [("BadGrid", "value", "no such grid"), ("BadCell", "value", "no such cell"), ("BadMotion", "value", "no such motion"), ("BadLattice", "value", "no such lattice"), ("BadColours", "value", "no such colours"), ("BadNumber", "value", "no such number"), ("NoSuch", "value", "nothing so called")]
def otherL : List (Str × Str × Str) := [("BadGroup", "place", "no such group"), ("BadPattern", "place", "no such pattern"), ("BadTile", "place", "no such tile"), ("BadTiles", "place", "no such tiles"), ("BadWeave", "place", "no such weave"), ("BadBand", "place", "no such band"), ("BadText", "place", "no such text"), ("BadPaper", "place", "no such paper"), ("BadDeed", "place", "no such deed")]
def excD (K : PySem.W.Frag) (d : D) (c : Str × Str × Str) : D := .exc (ga K c.1) c.2.1 c.2.2 d
theorem xd_some {P : Program} {w : World} {K : PySem.W.Frag} {mg : Str → Option Value} {base : Heap} (T : Tx P w K mg base) : ∀ c ∈ someL, XD P w K mg base c.1 "value" c.2.2 true ∧ c.2.1 = "value" := by
  intro c hc
  simp only [someL, List.mem_cons, List.not_mem_nil, or_false] at hc
  rcases hc with rfl | rfl | rfl | rfl | rfl | rfl | rfl
  · exact ⟨T.x_BadGrid, rfl⟩
  · exact ⟨T.x_BadCell, rfl⟩
  · exact ⟨T.x_BadMotion, rfl⟩
  · exact ⟨T.x_BadLattice, rfl⟩
  · exact ⟨T.x_BadColours, rfl⟩
  · exact ⟨T.x_BadNumber, rfl⟩
  · exact ⟨T.x_NoSuch, rfl⟩
theorem xd_other {P : Program} {w : World} {K : PySem.W.Frag} {mg : Str → Option Value} {base : Heap} (T : Tx P w K mg base) : ∀ c ∈ otherL ++ ([("BadWord", "place", "no such lines")] : List (Str × Str × Str)), XD P w K mg base c.1 "place" c.2.2 true ∧ c.2.1 = "place" := by
  intro c hc
  simp only [otherL, List.cons_append, List.nil_append, List.mem_cons, List.not_mem_nil, or_false] at hc
  rcases hc with rfl | rfl | rfl | rfl | rfl | rfl | rfl | rfl | rfl | rfl
  · exact ⟨T.x_BadGroup, rfl⟩
  · exact ⟨T.x_BadPattern, rfl⟩
  · exact ⟨T.x_BadTile, rfl⟩
  · exact ⟨T.x_BadTiles, rfl⟩
  · exact ⟨T.x_BadWeave, rfl⟩
  · exact ⟨T.x_BadBand, rfl⟩
  · exact ⟨T.x_BadText, rfl⟩
  · exact ⟨T.x_BadPaper, rfl⟩
  · exact ⟨T.x_BadDeed, rfl⟩
  · exact ⟨T.x_BadWord, rfl⟩
def allL : List (Str × Str × Str) := valuedL ++ placedL ++ ([("NoSuch", "value", "nothing so called"), ("TooMany", "most", "too many")] : List (Str × Str × Str))
theorem xd_all {P : Program} {w : World} {K : PySem.W.Frag} {mg : Str → Option Value} {base : Heap} (T : Tx P w K mg base) : ∀ c ∈ allL, ∃ df, XD P w K mg base c.1 c.2.1 c.2.2 df := by
  intro c hc
  simp only [allL, valuedL, placedL, List.cons_append, List.nil_append, List.mem_cons, List.not_mem_nil, or_false] at hc
  rcases hc with rfl | rfl | rfl | rfl | rfl | rfl | rfl | rfl | rfl | rfl | rfl | rfl | rfl | rfl | rfl | rfl | rfl | rfl
  · exact ⟨_, T.x_BadGrid⟩
  · exact ⟨_, T.x_BadCell⟩
  · exact ⟨_, T.x_BadMotion⟩
  · exact ⟨_, T.x_BadLattice⟩
  · exact ⟨_, T.x_BadColours⟩
  · exact ⟨_, T.x_BadNumber⟩
  · exact ⟨_, T.x_BadGroup⟩
  · exact ⟨_, T.x_BadTile⟩
  · exact ⟨_, T.x_BadPattern⟩
  · exact ⟨_, T.x_BadTiles⟩
  · exact ⟨_, T.x_BadWeave⟩
  · exact ⟨_, T.x_BadBand⟩
  · exact ⟨_, T.x_BadText⟩
  · exact ⟨_, T.x_BadPaper⟩
  · exact ⟨_, T.x_BadDeed⟩
  · exact ⟨_, T.x_BadWord⟩
  · exact ⟨_, T.x_NoSuch⟩
  · exact ⟨_, T.x_TooMany⟩
def seven (n : Int) : List D := [.int n, .int (0 - n), .str (repS "ab" (n % 50)), .tup [.str "closed", .tup [.int 0, .int n]], .non, .tup [.int (10 ^ (30 : Int).toNat), .tup []], .tup (List.replicate (9 : Int).toNat [D.int n]).flatten]
theorem rep_all (c : Array Nat) (p : Nat → Bool) (hc : c.all p = true) : ∀ (n : Nat) (a : Array Nat), a.all p = true → ((List.replicate n c).foldl (· ++ ·) a).all p = true
  | 0, a, h => h
  | n + 1, a, h => by
    rw [List.replicate_succ, List.foldl_cons]
    exact rep_all c p hc n _ (by rw [Array.all_append, h, hc]; rfl)
theorem ab_good (n : Int) : (D.str (repS "ab" n)).good 60 = true := by
  rw [D.good, PyData.canLay0]
  exact rep_all _ _ (by decide +kernel) _ _ (by decide +kernel)
theorem seven_at {n i : Int} (h0 : 0 ≤ i) (h1 : i < 7) : ∃ d, atI (seven n) i = some d ∧ d.good 60 = true := by
  have h : i = 0 ∨ i = 1 ∨ i = 2 ∨ i = 3 ∨ i = 4 ∨ i = 5 ∨ i = 6 := by omega
  rcases h with rfl | rfl | rfl | rfl | rfl | rfl | rfl
  · exact ⟨.int n, rfl, rfl⟩
  · exact ⟨.int (0 - n), rfl, rfl⟩
  · exact ⟨.str (repS "ab" (n % 50)), rfl, ab_good _⟩
  · exact ⟨.tup [.str "closed", .tup [.int 0, .int n]], rfl, by simp only [D.good, D.goods, Bool.and_true]; decide +kernel⟩
  · exact ⟨.non, rfl, rfl⟩
  · exact ⟨.tup [.int (10 ^ (30 : Int).toNat), .tup []], rfl, by simp only [D.good, D.goods, Bool.and_true]⟩
  · exact ⟨.tup (List.replicate (9 : Int).toNat [D.int n]).flatten, rfl, by show (D.tup [.int n, .int n, .int n, .int n, .int n, .int n, .int n, .int n, .int n]).good 60 = true; simp only [D.good, D.goods, Bool.and_true]⟩
section
variable {P : Program} {w : World} {K : PySem.W.Frag} {mg : Str → Option Value} {base : Heap} {W : WW} {o : Own} {S : Option D}
theorem ev_digit {Γ : G} {p : Addr} {l c t n : Int} {i : Nat} (h0 : 0 ≤ l) (ht : 0 ≤ t) (ht2 : t ≤ 90000) (hn : 0 < n) (hn2 : n < 2 ^ 64) (hg : Γ[i]? = some (some (.ref p))) :
    Ev K (tCall (spF K 2 (F__law_digit K)) [] E0 (tCons (tVar i) (tCons (tC (.int n)) tNil))) Γ ((p, .dK (stD l c t)) :: o) (.int (digit l c t n)) ((p, .dK (stD (dLeft l c t n) c (dTurn l c t))) :: o) := by
  have h := ev_call (K := K) (Γ := Γ) (o := (p, .dK (stD l c t)) :: o) (ta' := tCons (tVar i) (tCons (tC (.int n)) tNil)) (dvs := []) (dd := []) (E := E0) (n := 2) (F := F__law_digit K) (ea_cons (ev_var hg) (ea_cons ev_int ea_nil)) (fun _ => .nil) rfl ⟨p, l, c, t, n, rfl, getO_head, h0, ht, ht2, hn, hn2, rfl⟩
  rw [put_head] at h
  exact h
theorem ev_right {Γ : G} {te : TE} {d : D} {o1 o2 : Own} (hg : d.good 60 = true) (h : Ev K te Γ o1 d o2) : Ev K (tCall (spF K 1 (F__law_right K)) [] E0 (tCons te tNil)) Γ o1 (.bl true) o2 :=
  ev_call (dvs := []) (dd := []) (E := E0) (n := 1) (F := F__law_right K) (ea_cons h ea_nil) (fun _ => .nil) rfl ⟨d, rfl, hg, rfl⟩
theorem turn_law {c : Int} {k : Nat} (hk : k ≤ 10) : Does K W (t_turn K) [S, some (.int k), some (.int c), none, none, none, none, none, none, none, none, none, none] o (.on [S, none, none, none, none, none, none, none, none, none, none, none, none] o) := by
  unfold t_turn
  have hl : 0 ≤ left0 c := by unfold left0; split <;> omega
  refine does_own (en_call (dvs := []) (dd := []) (E := E0) (n := 2) (F := F__law_draw K) (o2 := o) (ea_cons (ev_var rfl) (ea_cons (ev_var rfl) ea_nil)) (fun _ => .nil) rfl ⟨c, k, rfl, by omega, by omega, rfl⟩) (fun p hp => ?_)
  show Does K W _ [S, some (.int k), some (.int c), some (.ref p), none, none, none, none, none, none, none, none, none] _ _
  have d1 := digit_ok (l := left0 c) (c := c) (t := 1000 * k) (n := 100000) hl (by decide)
  refine does_setq (ev_digit hl (by omega) (by omega) (by decide) (by decide) rfl) ?_
  generalize digit (left0 c) c (1000 * k) 100000 = num at d1 ⊢
  generalize dLeft (left0 c) c (1000 * k) 100000 = l1 at d1 ⊢
  generalize dTurn (left0 c) c (1000 * k) = t1 at d1 ⊢
  show Does K W _ [S, some (.int k), some (.int c), some (.ref p), some (.int num), none, none, none, none, none, none, none, none] _ _
  have hm : 0 ≤ num % 50 ∧ num % 50 < 50 := ⟨Int.emod_nonneg _ (by decide), Int.emod_lt_of_pos _ (by decide)⟩
  refine does_setq (d := .lst (seven num)) (ev_lst (ea_cons (ev_var rfl) (ea_cons (ev_op ev_int (ev_var rfl) bin_subI) (ea_cons (ev_op ev_str (ev_op (ev_var rfl) ev_int (bin_modI (by decide))) (bin_mulS hm.1 (by omega) (by decide +kernel) (by
      have e : ("ab" : Str).length = 2 := by decide +kernel
      rw [e]
      omega))) (ea_cons (ev_tup (ea_cons ev_str (ea_cons (ev_tup (ea_cons ev_int (ea_cons (ev_var rfl) ea_nil))) ea_nil))) (ea_cons ev_non
    (ea_cons (ev_tup (ea_cons (ev_op ev_int ev_int (bin_powI (by unfold CPowW; decide +kernel))) (ea_cons (ev_tup ea_nil) ea_nil))) (ea_cons (ev_op (ev_tup (ea_cons (ev_var rfl) ea_nil)) ev_int (bin_mulT (by simp) (by decide) (by decide) (Nat.le_of_ble_eq_true rfl))) ea_nil)))))))) ?_
  show Does K W _ [S, some (.int k), some (.int c), some (.ref p), some (.int num), some (.lst (seven num)), none, none, none, none, none, none, none] _ _
  have d2 := digit_ok (l := l1) (c := c) (t := t1) (n := 7) d1.2.2.1 (by decide)
  obtain ⟨d, hd, hg⟩ := seven_at (n := num) d2.1 d2.2.1
  refine Does.onLe (Γ1 := [S, some (.int k), some (.int c), some (.ref p), some (.int num), some (.lst (seven num)), none, none, none, none, none, none, none]) (o1 := (p, .dK (stD (dLeft l1 c t1 7) c (dTurn l1 c t1))) :: o) (Does.on ?_)
    ⟨.inr rfl, .inl rfl, .inl rfl, .inl rfl, .inl rfl, .inl rfl, .inr rfl, .inr rfl, .inr rfl, .inr rfl, .inr rfl, .inr rfl, .inr rfl, trivial⟩ (List.sublist_cons_self _ _)
  refine does_ifF1 (et_is (et_or (et_not (et_B (ev_right hg (ev_op (ev_var rfl) (ev_digit d1.2.2.1 (by omega) (by omega) (by decide) (by decide) rfl) (bin_ixL hd))))) fun _ => et_not (et_B (ev_right ?_ (ev_op (ev_op (ev_op ev_int ev_int (bin_powI (by unfold CPowW; decide +kernel))) ev_int (bin_powI (by unfold CPowW; decide +kernel))) ev_int (bin_powI (by unfold CPowW; decide +kernel)))))) rfl)
  rfl
end
end K99

namespace K99
open PySem PySem.Spec PyProof.Rows L2 He Q
theorem et_orF {K : PySem.W.Frag} {Γ : G} {o o1 o2 : Own} {t u : TT} {c : Bool} (h1 : EvT K t Γ o false o1) (h2 : EvT K u Γ o1 c o2) : EvT K (tOr t u) Γ o c o2 := fun σ Hb H Q S R k => h1 σ Hb H _ S R fun Hb1 H1 S1 R1 => by
  show u σ H1 Q
  exact h2 σ Hb1 H1 Q (S.mono S1.ex) R1 fun Hb2 H2 S2 R2 => k Hb2 H2 (S1.trans S2) R2
theorem enum_zip (cs : List Int) : ((cs.map D.int).mapIdx fun i d => D.tup [.int i, d]) = cs.zipIdx.map fun p => D.tup [.int p.2, .int p.1] := by
  apply List.ext_getElem?
  intro i
  rw [List.getElem?_mapIdx, List.getElem?_map, List.getElem?_map, List.getElem?_zipIdx]
  cases cs[i]? with
  | none => rfl
  | some x => simp
def hit (z : Str) (c : Str × Str × Str) : Bool := !(Builtin.Str.occurrences c.2.2 z 0 c.2.2.length 1).isEmpty
def never (z : Str) : Bool := allL.all fun c => !hit z c
section
variable {P : Program} {w : World} {K : PySem.W.Frag} {mg : Str → Option Value} {base : Heap} {W : WW} {o : Own}
theorem does_made (T : Tx P w K mg base) {S A5 A6 d : D} {z : Str} (hs : Cal K (rStrU K) [d] o (.str z) o) (hz : never z = true) :
    Does K W (t_made K) [some S, none, none, none, none, none, none, none, some d, none, none, none, none] o (.on [some S, none, none, none, none, none, none, none, none, none, none, none, none] o) := by
  unfold t_made
  have c1 := ev_call (K := K) (Γ := [some S, none, none, none, none, none, none, none, some d, none, none, none, none]) (ta' := tCons (tVar 8) tNil) (o := o) (dvs := []) (dd := []) (E := E0) (n := 1) (F := F__law_valued K) (o2 := o) (ea_cons (ev_var rfl) ea_nil) (fun _ => .nil) rfl ⟨d, rfl, rfl⟩
  have c2 := ev_call (K := K) (Γ := [some S, none, none, none, none, none, none, none, some d, none, none, none, none]) (ta' := tCons (tVar 8) tNil) (o := o) (dvs := []) (dd := []) (E := E0) (n := 1) (F := F__law_placed K) (o2 := o) (ea_cons (ev_var rfl) ea_nil) (fun _ => .nil) rfl ⟨d, rfl, rfl⟩
  refine Does.onLe (Γ1 := [some S, none, none, none, none, none, none, none, some d, some (.lst (allL.map (excD K d))), none, none, none]) (Does.on ?_)
    ⟨.inr rfl, .inl rfl, .inl rfl, .inl rfl, .inl rfl, .inl rfl, .inl rfl, .inl rfl, .inl rfl, .inl rfl, .inl rfl, .inl rfl, .inl rfl, trivial⟩ (.refl _)
  have m1 : Ev K (tLc (iList K (tOp (rAddU K) (tCall (spF K 1 (F__law_valued K)) [] E0 (tCons (tVar 8) tNil)) (tCall (spF K 1 (F__law_placed K)) [] E0 (tCons (tVar 8) tNil)))) (gTup K 3 (gCons (gName 10) (gCons (gName 11) (gCons (gName 12) gNil)))) tYes (tVar 10) [10, 11, 12])
      [some S, none, none, none, none, none, none, none, some d, none, none, none, none] o (.lst ((valuedL ++ placedL).map (excD K d))) o :=
    ev_lcM (valuedL ++ placedL) (tri K d) (excD K d) (by rw [List.map_append]; exact EvI.lst (ev_op c1 c2 (bin_addL (Nat.le_of_ble_eq_true rfl))))
      fun x hx => ⟨_, egc_tup (egcs_cons (egc_name (i := 10)) (egcs_cons (egc_name (i := 11)) (egcs_cons (egc_name (i := 12)) egcs_nil))), ev_var rfl⟩
  refine does_setq (d := .lst (allL.map (excD K d))) (ev_is (ev_op m1 (ev_lst (ea_cons (ev_mkP (ea_cons (ev_var rfl) ea_nil)) (ea_cons (ev_mkP (ea_cons (ev_var rfl) ea_nil)) ea_nil))) (bin_addL (Nat.le_of_ble_eq_true rfl))) rfl) ?_
  show Does K W _ [some S, none, none, none, none, none, none, none, some d, some (.lst (allL.map (excD K d))), none, none, none] o _
  have m2 : Ev K (tLc (iList K (tVar 9)) (gName 7) (tTest (tOp rInS (tCB (rStrU K) (tCons (tVar 8) tNil)) (tCB (rStrU K) (tCons (tVar 7) tNil)))) (tVar 7) [7])
      [some S, none, none, none, none, none, none, none, some d, some (.lst (allL.map (excD K d))), none, none, none] o (.lst ((allL.filter (hit z)).map (excD K d))) o :=
    ev_lcP allL (excD K d) (hit z) (excD K d) (EvI.lst (ev_var rfl)) fun c hc => by
      obtain ⟨df, X⟩ := xd_all T c hc
      exact ⟨_, egc_name (i := 7), et_test (ev_op (ev_cb (ea_cons (ev_var rfl) ea_nil) hs) (ev_cb (ea_cons (ev_var rfl) ea_nil) (cal_strD X)) bin_inS), fun _ => ev_var rfl⟩
  have e0 : allL.filter (hit z) = [] := by
    rw [List.filter_eq_nil_iff]
    intro c hc h
    have := List.all_eq_true.mp hz c hc
    rw [h] at this
    cases this
  rw [e0] at m2
  exact does_ifF1 (et_test (ev_is (ev_op m2 (ev_lst ea_nil) (bin_neD (n := 2) (m := 2) (by simp [D.good, D.goods]) (by simp [D.good, D.goods]))) rfl))
theorem never1 : never "zqzq" = true := by decide +kernel
theorem never2 : never (toString (10 ^ (30 : Int).toNat : Int)) = true := by decide +kernel
theorem never3 : never (toString (70707 : Int)) = true := by decide +kernel
def strU : D → Str
  | .int i => toString i
  | .str s => s
  | _ => ""
def things : List D := [.str "zqzq", .int (10 ^ (30 : Int).toNat), .int 70707]
theorem cut5 (ns : List Int) : Q.cutD (ns.map D.int) none (some 4) ++ [D.int ns.sum] = (ns.take 4 ++ [ns.sum]).map D.int := by
  rw [List.map_append, List.map_take, Q.cutD]
  congr 1
  show ((ns.map D.int).drop 0).take (min 4 (ns.map D.int).length - 0) = _
  rw [List.drop_zero, Nat.sub_zero]
  by_cases h : (ns.map D.int).length ≤ 4
  · rw [Nat.min_eq_right h, List.take_of_length_le (Nat.le_refl _), List.take_of_length_le h]
  · rw [Nat.min_eq_left (by omega)]
theorem does_law (T : Tx P w K mg base) {ns : List Int} (hn : ns.length ≤ 63) : Does K W (t_law K) (startG N_law [.fl (ns.map D.int)]) o (.rt (.bl true) o) := by
  show Does K W (t_law K) [some (.fl (ns.map D.int)), none, none, none, none, none, none, none, none, none, none, none, none] o _
  generalize hS : D.fl (ns.map D.int) = S
  unfold t_law
  have hc : Ev K (tOp (rAddU K) (tSl (rSlL K) (tVar 0) tNoPart (tPart (tC (.int 4)))) (tLst (tCons (tCB (rSum K) (tCons (tVar 0) tNil)) tNil))) [some S, none, none, none, none, none, none, none, none, none, none, none, none] o (.lst ((ns.take 4 ++ [ns.sum]).map D.int)) o := by
    subst hS
    exact ev_is (ev_op (ev_slF (ev_var rfl) eo_none (eo_some ev_int)) (ev_lst (ea_cons (ev_cb (ea_cons (ev_var rfl) ea_nil) cal_sumF) ea_nil)) (bin_addL (by
      unfold Q.cutD
      simp only [List.length_take, List.length_drop, List.length_map, List.length_cons, List.length_nil]
      omega))) (congrArg D.lst (cut5 ns))
  have hi := EvI.enum (ea_cons hc ea_nil)
  rw [enum_zip] at hi
  have hlen : (ns.take 4 ++ [ns.sum]).length ≤ 5 := by rw [List.length_append, List.length_take]; simp only [List.length_cons, List.length_nil]; omega
  refine (does_for (S := Unit) _ _ (fun _ => [some S, none, none, none, none, none, none, none, none, none, none, none, none]) (fun _ => o) (fun _ _ => True) () (fun s _ => s) hi (Le.refl _) rfl trivial fun pre x post s e _ => ⟨_, eg_tup (egs_cons eg_name (egs_cons eg_name egs_nil)), trivial, turn_law ?_⟩).2.seq ?_
  · have hm : x ∈ (ns.take 4 ++ [ns.sum]).zipIdx := by rw [e]; simp
    have := List.snd_lt_of_mem_zipIdx hm
    omega
  refine does_setq (d := .lst (someL.map (excD K .non))) (ev_lst (ea_cons ev_mk0 (ea_cons ev_mk0 (ea_cons ev_mk0 (ea_cons ev_mk0 (ea_cons ev_mk0 (ea_cons ev_mk0 (ea_cons ev_mk0 ea_nil)))))))) ?_
  refine does_own (en_lst (ds := otherL.map (excD K .non)) (ea_cons ev_mk0 (ea_cons ev_mk0 (ea_cons ev_mk0 (ea_cons ev_mk0 (ea_cons ev_mk0 (ea_cons ev_mk0 (ea_cons ev_mk0 (ea_cons ev_mk0 (ea_cons ev_mk0 ea_nil)))))))))) fun p hp => ?_
  show Does K W _ [some S, none, none, none, none, some (.lst (someL.map (excD K .non))), some (.ref p), none, none, none, none, none, none] ((p, .lst (otherL.map (excD K .non))) :: o) _
  refine (does_app (ev_var rfl) List.mem_cons_self ev_mk0 List.mem_cons_self (Nat.lt_of_lt_of_le (by decide : 9 < 10) (by decide))).seq ?_
  rw [put_head]
  show Does K W _ [some S, none, none, none, none, some (.lst (someL.map (excD K .non))), some (.ref p), none, none, none, none, none, none] ((p, .lst ((otherL ++ ([("BadWord", "place", "no such lines")] : List (Str × Str × Str))).map (excD K .non))) :: o) _
  have l1 : Ev K (tLc (iList K (tVar 5)) (gName 7) tYes (tXV K "value" (tVar 7)) [7]) [some S, none, none, none, none, some (.lst (someL.map (excD K .non))), some (.ref p), none, none, none, none, none, none] ((p, .lst ((otherL ++ ([("BadWord", "place", "no such lines")] : List (Str × Str × Str))).map (excD K .non))) :: o)
      (.lst (someL.map fun _ => D.non)) ((p, .lst ((otherL ++ ([("BadWord", "place", "no such lines")] : List (Str × Str × Str))).map (excD K .non))) :: o) :=
    ev_lcM someL (excD K .non) (fun _ => D.non) (EvI.lst (ev_var rfl)) fun c hc => by
      obtain ⟨X, hf⟩ := xd_some T c hc
      refine ⟨_, egc_name (i := 7), ev_xvD X (ev_var ?_)⟩
      rw [← hf]
      rfl
  have l2 : Ev K (tLc (iList K (tVar 6)) (gName 7) tYes (tXV K "place" (tVar 7)) [7]) [some S, none, none, none, none, some (.lst (someL.map (excD K .non))), some (.ref p), none, none, none, none, none, none] ((p, .lst ((otherL ++ ([("BadWord", "place", "no such lines")] : List (Str × Str × Str))).map (excD K .non))) :: o)
      (.lst ((otherL ++ ([("BadWord", "place", "no such lines")] : List (Str × Str × Str))).map fun _ => D.non)) o :=
    ev_lcM (otherL ++ ([("BadWord", "place", "no such lines")] : List (Str × Str × Str))) (excD K .non) (fun _ => D.non) (EvI.lst (ev_frz rfl List.mem_cons_self (List.sublist_cons_self _ _) hp)) fun c hc => by
      obtain ⟨X, hf⟩ := xd_other T c hc
      refine ⟨_, egc_name (i := 7), ev_xvD X (ev_var ?_)⟩
      rw [← hf]
      rfl
  have g7 : (D.lst (someL.map fun _ => D.non)).good 3 = true := by simp [D.good, D.goods, someL]
  have g10 : (D.lst ((otherL ++ ([("BadWord", "place", "no such lines")] : List (Str × Str × Str))).map fun _ => D.non)).good 3 = true := by simp [D.good, D.goods, otherL]
  have t1 := et_test (ev_is (ev_op l1 (ev_mulLst (j := 7) (ea_cons ev_non ea_nil) ev_int (by decide) (by decide) (by decide)) (bin_neD g7 (show (D.lst (List.replicate (7 : Int).toNat [D.non]).flatten).good 3 = true from g7))) (y := .bl false) (by rw [show (D.lst (List.replicate (7 : Int).toNat [D.non]).flatten) = D.lst (someL.map fun _ => D.non) from rfl, D.eqv_refl g7]; rfl))
  have t2 := et_test (ev_is (ev_op l2 (ev_mulLst (j := 10) (ea_cons ev_non ea_nil) ev_int (by decide) (by decide) (by decide)) (bin_neD g10 (show (D.lst (List.replicate (10 : Int).toNat [D.non]).flatten).good 3 = true from g10))) (y := .bl false) (by rw [show (D.lst (List.replicate (10 : Int).toNat [D.non]).flatten) = D.lst ((otherL ++ ([("BadWord", "place", "no such lines")] : List (Str × Str × Str))).map fun _ => D.non) from rfl, D.eqv_refl g10]; rfl))
  refine does_ifF (et_orF t1 t2) ?_
  have hle : Le [some S, none, none, none, none, some (.lst (someL.map (excD K .non))), some (.ref p), none, none, none, none, none, none] [some S, none, none, none, none, none, none, none, none, none, none, none, none] :=
    ⟨.inr rfl, .inl rfl, .inl rfl, .inl rfl, .inl rfl, .inl rfl, .inl rfl, .inl rfl, .inl rfl, .inl rfl, .inl rfl, .inl rfl, .inl rfl, trivial⟩
  refine (does_for (S := Unit) things (fun d => d) (fun _ => [some S, none, none, none, none, none, none, none, none, none, none, none, none]) (fun _ => o) (fun _ _ => True) () (fun s _ => s) (EvI.tup (ev_tup (ea_cons ev_str (ea_cons (ev_op ev_int ev_int (bin_powI (by unfold CPowW; decide +kernel))) (ea_cons ev_int ea_nil)))))
    hle rfl trivial fun pre x post s e _ => ⟨_, eg_name, trivial, ?_⟩).2.seq (does_ret ev_bl (.refl _))
  have hx : x ∈ things := by rw [e]; simp
  simp only [things, List.mem_cons, List.not_mem_nil, or_false] at hx
  rcases hx with rfl | rfl | rfl
  · exact does_made T (A5 := .non) (A6 := .non) cal_strUS never1
  · exact does_made T (A5 := .non) (A6 := .non) (cal_strUI (by decide +kernel)) never2
  · exact does_made T (A5 := .non) (A6 := .non) (cal_strUI (by decide +kernel)) never3
end
end K99

namespace K99
open PySem PySem.Spec PyProof.Rows L2 He Q
abbrev s__law_mixed : Stmt := top 21
theorem sc__law_mixed : FnScope N__law_mixed ["cell", "k"] (defScope s__law_mixed) := ⟨rfl, rfl, rfl, by decide +kernel, rfl, by decide +kernel, by decide +kernel⟩

abbrev s__law_draw : Stmt := top 22
theorem sc__law_draw : FnScope N__law_draw ["cell", "k"] (defScope s__law_draw) := ⟨rfl, rfl, rfl, by decide +kernel, rfl, by decide +kernel, by decide +kernel⟩

abbrev s__law_digit : Stmt := top 23
theorem sc__law_digit : FnScope N__law_digit ["state", "below"] (defScope s__law_digit) := ⟨rfl, rfl, rfl, by decide +kernel, rfl, by decide +kernel, by decide +kernel⟩

section
variable {P : Program} {w : World} {K : PySem.W.Frag} {mg : Str → Option Value} {base : Heap} {f : Addr} {fd : FuncData}
theorem ok__law_mixed (T : Tx P w K mg base)  (F : FnP K "_law_mixed" s__law_mixed f fd) : FnOk P w K mg base CX0 1 f fd ["cell", "k"] (spF K 2 (F__law_mixed K)) := by
  refine F.ok sc__law_mixed (fun vs H Q E h => h.1) (fun cdv A outer s H vs Q E hr h => ?_)
  obtain ⟨_, Hb, o, ds, out, R, At, hF, post⟩ := h
  refine ⟨t__law_mixed K, PSs.nox ?_, ?_⟩
  · exact (pss_cons (ps_set (i := 2) sc__law_mixed.nd rfl (Or.inl rfl) (pe_op op_addU (pe_op op_addU (pe_op op_mod (pv 0) (pe_ix ix_seq (pe_lst (pa_cons pe_int (pa_cons pe_int (pa_cons pe_int (pa_cons pe_int pa_nil))))) (pe_op op_mod (pv 1) pe_int) (fun _ _ => rfl))) (pe_op op_mulU pe_int (pv 1))) pe_int))
    (pss_one (ps_ret (pe_op op_mod (pe_op op_mulU (pe_op op_mod (pe_op op_mulU (pv 2) (pv 2)) pe_int) pe_int) pe_int))))
  · obtain ⟨c, k, rfl, h0, h1, rfl⟩ := hF
    exact go0 (does_mixed h0 h1) rfl rfl R At post
theorem ok__law_draw (T : Tx P w K mg base)  (F : FnP K "_law_draw" s__law_draw f fd) : FnOk P w K mg base CX0 1 f fd ["cell", "k"] (spF K 2 (F__law_draw K)) := by
  refine F.ok sc__law_draw (fun vs H Q E h => h.1) (fun cdv A outer s H vs Q E hr h => ?_)
  obtain ⟨_, Hb, o, ds, out, R, At, hF, post⟩ := h
  refine ⟨t__law_draw K, PSs.nox ?_, ?_⟩
  · exact (pss_one (ps_ret (pe_disp (pps_cons pe_str (pe_ifExp (pt_cmpR op_ge (pv 0) (pe_op op_powW pe_int pe_int) (nomark _)) (pv 0) pe_int) (pps_cons pe_str (pv 0) (pps_cons pe_str (pe_op op_mulU pe_int (pv 1)) pps_nil))) (by rfl) (by rfl) (fun z => by cases z) (by decide))))
  · obtain ⟨c, k, rfl, h0, h1, rfl⟩ := hF
    exact go0 (does_draw) rfl rfl R At post
theorem ok__law_digit (T : Tx P w K mg base) (D__law_mixed : Def P w K mg base CX0 1 "_law_mixed" ["cell", "k"] (spF K 2 (F__law_mixed K))) (F : FnP K "_law_digit" s__law_digit f fd) : FnOk P w K mg base CX0 2 f fd ["state", "below"] (spF K 2 (F__law_digit K)) := by
  refine F.ok sc__law_digit (fun vs H Q E h => h.1) (fun cdv A outer s H vs Q E hr h => ?_)
  obtain ⟨_, Hb, o, ds, out, R, At, hF, post⟩ := h
  refine ⟨t__law_digit K, PSs.nox ?_, ?_⟩
  · exact (pss_cons (ps_if (pt_cmpR (op_eqD hr.units) (pe_dget (hu_of hr) (pv 0) pe_str (fun _ _ => rfl)) pe_int (nomark _)) (pss_one (ps_for PassesOwn.never rfl (pi_range1 rfl T.n_range (pa_cons pe_int pa_nil)) (pg_name (i := 2) sc__law_digit.nd rfl (by first | exact Or.inl rfl | exact Or.inr rfl))
    (pss_cons (ps_dput (hu_of hr) (pv 0) pe_str (pe_op op_addU (pe_dget (hu_of hr) (pv 0) pe_str (fun _ _ => rfl)) pe_int) rfl)
    (pss_one (ps_dput (hu_of hr) (pv 0) pe_str (pe_op op_addU (pe_op op_mulU (pe_dget (hu_of hr) (pv 0) pe_str (fun _ _ => rfl)) pe_int) (pe_callD D__law_mixed (hr.mono (by decide)) (by rfl) pass0 (pa_cons (pe_dget (hu_of hr) (pv 0) pe_str (fun _ _ => rfl)) (pa_cons (pe_dget (hu_of hr) (pv 0) pe_str (fun _ _ => rfl)) pa_nil)))) rfl))))) pss_nil)
    (pss_cons (ps_set (i := 3) sc__law_digit.nd rfl (Or.inl rfl) (pe_op op_mod (pe_dget (hu_of hr) (pv 0) pe_str (fun _ _ => rfl)) (pv 1)))
    (pss_cons (ps_dput (hu_of hr) (pv 0) pe_str (pe_op op_fdivW (pe_dget (hu_of hr) (pv 0) pe_str (fun _ _ => rfl)) (pv 1)) rfl)
    (pss_one (ps_ret (pv 3))))))
  · obtain ⟨p, l, c, t, n, rfl, hp, h0, ht, ht2, hn, hn2, rfl⟩ := hF
    exact go0 (does_digit hp h0 ht ht2 hn hn2) rfl rfl R At post
theorem ok__law_kinds (T : Tx P w K mg base)  (F : FnP K "_law_kinds" s__law_kinds f fd) : FnOk P w K mg base CX0 1 f fd ["e"] (spF K 1 (F__law_kinds K)) := by
  refine F.ok sc__law_kinds (fun vs H Q E h => h.1) (fun cdv A outer s H vs Q E hr h => ?_)
  obtain ⟨_, Hb, o, ds, out, R, At, hF, post⟩ := h
  refine ⟨t__law_kinds K, PSs.nox ?_, ?_⟩
  · exact (pss_cons (ps_set (i := 1) sc__law_kinds.nd rfl (Or.inl rfl) (pe_lst (pa_cons (pe_tup (pa_cons pe_str (pa_cons (pe_callB call_isX rfl T.n_isinstance (by decide +kernel) (pa_cons (pv 0) (pa_cons (pe_glob rfl (T.c_BadBand) rfl) pa_nil))) pa_nil))) (pa_cons (pe_tup (pa_cons pe_str (pa_cons (pe_callB call_isX rfl T.n_isinstance (by decide +kernel) (pa_cons (pv 0) (pa_cons (pe_glob rfl (T.c_BadCell) rfl) pa_nil))) pa_nil))) pa_nil))))
    (pss_cons (ps_set (i := 1) sc__law_kinds.nd rfl (Or.inl rfl) (pe_op op_addU (pv 1) (pe_lst (pa_cons (pe_tup (pa_cons pe_str (pa_cons (pe_callB call_isX rfl T.n_isinstance (by decide +kernel) (pa_cons (pv 0) (pa_cons (pe_glob rfl (T.c_BadColours) rfl) pa_nil))) pa_nil))) (pa_cons (pe_tup (pa_cons pe_str (pa_cons (pe_callB call_isX rfl T.n_isinstance (by decide +kernel) (pa_cons (pv 0) (pa_cons (pe_glob rfl (T.c_BadDeed) rfl) pa_nil))) pa_nil))) pa_nil)))))
    (pss_cons (ps_set (i := 1) sc__law_kinds.nd rfl (Or.inl rfl) (pe_op op_addU (pv 1) (pe_lst (pa_cons (pe_tup (pa_cons pe_str (pa_cons (pe_callB call_isX rfl T.n_isinstance (by decide +kernel) (pa_cons (pv 0) (pa_cons (pe_glob rfl (T.c_BadGrid) rfl) pa_nil))) pa_nil))) (pa_cons (pe_tup (pa_cons pe_str (pa_cons (pe_callB call_isX rfl T.n_isinstance (by decide +kernel) (pa_cons (pv 0) (pa_cons (pe_glob rfl (T.c_BadGroup) rfl) pa_nil))) pa_nil))) pa_nil)))))
    (pss_cons (ps_set (i := 1) sc__law_kinds.nd rfl (Or.inl rfl) (pe_op op_addU (pv 1) (pe_lst (pa_cons (pe_tup (pa_cons pe_str (pa_cons (pe_callB call_isX rfl T.n_isinstance (by decide +kernel) (pa_cons (pv 0) (pa_cons (pe_glob rfl (T.c_BadLattice) rfl) pa_nil))) pa_nil))) (pa_cons (pe_tup (pa_cons pe_str (pa_cons (pe_callB call_isX rfl T.n_isinstance (by decide +kernel) (pa_cons (pv 0) (pa_cons (pe_glob rfl (T.c_BadMotion) rfl) pa_nil))) pa_nil))) pa_nil)))))
    (pss_cons (ps_set (i := 1) sc__law_kinds.nd rfl (Or.inl rfl) (pe_op op_addU (pv 1) (pe_lst (pa_cons (pe_tup (pa_cons pe_str (pa_cons (pe_callB call_isX rfl T.n_isinstance (by decide +kernel) (pa_cons (pv 0) (pa_cons (pe_glob rfl (T.c_BadNumber) rfl) pa_nil))) pa_nil))) (pa_cons (pe_tup (pa_cons pe_str (pa_cons (pe_callB call_isX rfl T.n_isinstance (by decide +kernel) (pa_cons (pv 0) (pa_cons (pe_glob rfl (T.c_BadPaper) rfl) pa_nil))) pa_nil))) pa_nil)))))
    (pss_cons (ps_set (i := 1) sc__law_kinds.nd rfl (Or.inl rfl) (pe_op op_addU (pv 1) (pe_lst (pa_cons (pe_tup (pa_cons pe_str (pa_cons (pe_callB call_isX rfl T.n_isinstance (by decide +kernel) (pa_cons (pv 0) (pa_cons (pe_glob rfl (T.c_BadPattern) rfl) pa_nil))) pa_nil))) (pa_cons (pe_tup (pa_cons pe_str (pa_cons (pe_callB call_isX rfl T.n_isinstance (by decide +kernel) (pa_cons (pv 0) (pa_cons (pe_glob rfl (T.c_BadText) rfl) pa_nil))) pa_nil))) pa_nil)))))
    (pss_cons (ps_set (i := 1) sc__law_kinds.nd rfl (Or.inl rfl) (pe_op op_addU (pv 1) (pe_lst (pa_cons (pe_tup (pa_cons pe_str (pa_cons (pe_callB call_isX rfl T.n_isinstance (by decide +kernel) (pa_cons (pv 0) (pa_cons (pe_glob rfl (T.c_BadTile) rfl) pa_nil))) pa_nil))) (pa_cons (pe_tup (pa_cons pe_str (pa_cons (pe_callB call_isX rfl T.n_isinstance (by decide +kernel) (pa_cons (pv 0) (pa_cons (pe_glob rfl (T.c_BadTiles) rfl) pa_nil))) pa_nil))) pa_nil)))))
    (pss_cons (ps_set (i := 1) sc__law_kinds.nd rfl (Or.inl rfl) (pe_op op_addU (pv 1) (pe_lst (pa_cons (pe_tup (pa_cons pe_str (pa_cons (pe_callB call_isX rfl T.n_isinstance (by decide +kernel) (pa_cons (pv 0) (pa_cons (pe_glob rfl (T.c_BadWeave) rfl) pa_nil))) pa_nil))) (pa_cons (pe_tup (pa_cons pe_str (pa_cons (pe_callB call_isX rfl T.n_isinstance (by decide +kernel) (pa_cons (pv 0) (pa_cons (pe_glob rfl (T.c_BadWord) rfl) pa_nil))) pa_nil))) pa_nil)))))
    (pss_cons (ps_set (i := 1) sc__law_kinds.nd rfl (Or.inl rfl) (pe_op op_addU (pv 1) (pe_lst (pa_cons (pe_tup (pa_cons pe_str (pa_cons (pe_callB call_isX rfl T.n_isinstance (by decide +kernel) (pa_cons (pv 0) (pa_cons (pe_glob rfl (T.c_NoSuch) rfl) pa_nil))) pa_nil))) (pa_cons (pe_tup (pa_cons pe_str (pa_cons (pe_callB call_isX rfl T.n_isinstance (by decide +kernel) (pa_cons (pv 0) (pa_cons (pe_glob rfl (T.c_TooMany) rfl) pa_nil))) pa_nil))) pa_nil)))))
    (pss_cons (ps_set (i := 1) sc__law_kinds.nd rfl (Or.inl rfl) (pe_op op_addU (pv 1) (pe_lst (pa_cons (pe_tup (pa_cons pe_str (pa_cons (pe_callB call_isX rfl T.n_isinstance (by decide +kernel) (pa_cons (pv 0) (pa_cons (pe_glob rfl (T.c_PatternError) rfl) pa_nil))) pa_nil))) (pa_cons (pe_tup (pa_cons pe_str (pa_cons (pe_callB call_isX rfl T.n_isinstance (by decide +kernel) (pa_cons (pv 0) (pa_cons (pe_bltn rfl T.n_ValueError (by decide +kernel) rfl) pa_nil))) pa_nil))) pa_nil)))))
    (pss_cons (ps_set (i := 1) sc__law_kinds.nd rfl (Or.inl rfl) (pe_op op_addU (pv 1) (pe_lst (pa_cons (pe_tup (pa_cons pe_str (pa_cons (pe_callB call_isX rfl T.n_isinstance (by decide +kernel) (pa_cons (pv 0) (pa_cons (pe_bltn rfl T.n_LookupError (by decide +kernel) rfl) pa_nil))) pa_nil))) (pa_cons (pe_tup (pa_cons pe_str (pa_cons (pe_callB call_isX rfl T.n_isinstance (by decide +kernel) (pa_cons (pv 0) (pa_cons (pe_bltn rfl T.n_OverflowError (by decide +kernel) rfl) pa_nil))) pa_nil))) pa_nil)))))
    (pss_one (ps_ret (pe_lc (own := [("word", 2), ("is_so", 3)]) rfl sc__law_kinds.nd (pi_list (pv 1)) (blkOk_by (own := [("word", 2), ("is_so", 3)]) (N := N__law_kinds) (sc := defScope s__law_kinds) (by decide +kernel)) (fun _ _ _ _ _ => (pg_tup rfl (pgs_cons (pg_name (i := 2) sc__law_kinds.nd rfl (by first | exact Or.inl rfl | exact Or.inr rfl)) (pgs_cons (pg_name (i := 3) sc__law_kinds.nd rfl (by first | exact Or.inl rfl | exact Or.inr rfl)) pgs_nil)))) (fun _ _ _ _ _ => (pts_one (pt_val (pv 3)))) (fun _ _ _ _ _ => (pv 2))))))))))))))))
  · obtain ⟨q, d, hq, rfl, rfl⟩ := hF
    exact go0 (does_kinds T hq) rfl rfl R At post
theorem ok__law_valued (T : Tx P w K mg base)  (F : FnP K "_law_valued" s__law_valued f fd) : FnOk P w K mg base CX0 3 f fd ["thing"] (spF K 1 (F__law_valued K)) := by
  refine F.ok sc__law_valued (fun vs H Q E h => h.1) (fun cdv A outer s H vs Q E hr h => ?_)
  obtain ⟨_, Hb, o, ds, out, R, At, hF, post⟩ := h
  refine ⟨t__law_valued K, PSs.nox ?_, ?_⟩
  · exact (pss_cons (ps_set (i := 1) sc__law_valued.nd rfl (Or.inl rfl) (pe_lst (pa_cons (pe_tup (pa_cons (pe_mkP T.x_BadGrid (hr.mono (by decide)) rfl (pa_cons (pv 0) pa_nil)) (pa_cons (pe_mkK T.x_BadGrid (hr.mono (by decide)) rfl (pk_cons (pv 0) pk_nil)) (pa_cons pe_str pa_nil)))) (pa_cons (pe_tup (pa_cons (pe_mkP T.x_BadCell (hr.mono (by decide)) rfl (pa_cons (pv 0) pa_nil)) (pa_cons (pe_mkK T.x_BadCell (hr.mono (by decide)) rfl (pk_cons (pv 0) pk_nil)) (pa_cons pe_str pa_nil)))) pa_nil))))
    (pss_cons (ps_set (i := 1) sc__law_valued.nd rfl (Or.inl rfl) (pe_op op_addU (pv 1) (pe_lst (pa_cons (pe_tup (pa_cons (pe_mkP T.x_BadMotion (hr.mono (by decide)) rfl (pa_cons (pv 0) pa_nil)) (pa_cons (pe_mkK T.x_BadMotion (hr.mono (by decide)) rfl (pk_cons (pv 0) pk_nil)) (pa_cons pe_str pa_nil)))) pa_nil))))
    (pss_cons (ps_set (i := 1) sc__law_valued.nd rfl (Or.inl rfl) (pe_op op_addU (pv 1) (pe_lst (pa_cons (pe_tup (pa_cons (pe_mkP T.x_BadLattice (hr.mono (by decide)) rfl (pa_cons (pv 0) pa_nil)) (pa_cons (pe_mkK T.x_BadLattice (hr.mono (by decide)) rfl (pk_cons (pv 0) pk_nil)) (pa_cons pe_str pa_nil)))) pa_nil))))
    (pss_cons (ps_set (i := 1) sc__law_valued.nd rfl (Or.inl rfl) (pe_op op_addU (pv 1) (pe_lst (pa_cons (pe_tup (pa_cons (pe_mkP T.x_BadColours (hr.mono (by decide)) rfl (pa_cons (pv 0) pa_nil)) (pa_cons (pe_mkK T.x_BadColours (hr.mono (by decide)) rfl (pk_cons (pv 0) pk_nil)) (pa_cons pe_str pa_nil)))) pa_nil))))
    (pss_one (ps_ret (pe_op op_addU (pv 1) (pe_lst (pa_cons (pe_tup (pa_cons (pe_mkP T.x_BadNumber (hr.mono (by decide)) rfl (pa_cons (pv 0) pa_nil)) (pa_cons (pe_mkK T.x_BadNumber (hr.mono (by decide)) rfl (pk_cons (pv 0) pk_nil)) (pa_cons pe_str pa_nil)))) pa_nil)))))))))
  · obtain ⟨d, rfl, rfl⟩ := hF
    exact go0 (does_law_valued) rfl rfl R At post
theorem ok__law_placed (T : Tx P w K mg base)  (F : FnP K "_law_placed" s__law_placed f fd) : FnOk P w K mg base CX0 3 f fd ["thing"] (spF K 1 (F__law_placed K)) := by
  refine F.ok sc__law_placed (fun vs H Q E h => h.1) (fun cdv A outer s H vs Q E hr h => ?_)
  obtain ⟨_, Hb, o, ds, out, R, At, hF, post⟩ := h
  refine ⟨t__law_placed K, PSs.nox ?_, ?_⟩
  · exact (pss_cons (ps_set (i := 1) sc__law_placed.nd rfl (Or.inl rfl) (pe_lst (pa_cons (pe_tup (pa_cons (pe_mkP T.x_BadGroup (hr.mono (by decide)) rfl (pa_cons (pv 0) pa_nil)) (pa_cons (pe_mkK T.x_BadGroup (hr.mono (by decide)) rfl (pk_cons (pv 0) pk_nil)) (pa_cons pe_str pa_nil)))) (pa_cons (pe_tup (pa_cons (pe_mkP T.x_BadTile (hr.mono (by decide)) rfl (pa_cons (pv 0) pa_nil)) (pa_cons (pe_mkK T.x_BadTile (hr.mono (by decide)) rfl (pk_cons (pv 0) pk_nil)) (pa_cons pe_str pa_nil)))) pa_nil))))
    (pss_cons (ps_set (i := 1) sc__law_placed.nd rfl (Or.inl rfl) (pe_op op_addU (pv 1) (pe_lst (pa_cons (pe_tup (pa_cons (pe_mkP T.x_BadPattern (hr.mono (by decide)) rfl (pa_cons (pv 0) pa_nil)) (pa_cons (pe_mkK T.x_BadPattern (hr.mono (by decide)) rfl (pk_cons (pv 0) pk_nil)) (pa_cons pe_str pa_nil)))) pa_nil))))
    (pss_cons (ps_set (i := 1) sc__law_placed.nd rfl (Or.inl rfl) (pe_op op_addU (pv 1) (pe_lst (pa_cons (pe_tup (pa_cons (pe_mkP T.x_BadTiles (hr.mono (by decide)) rfl (pa_cons (pv 0) pa_nil)) (pa_cons (pe_mkK T.x_BadTiles (hr.mono (by decide)) rfl (pk_cons (pv 0) pk_nil)) (pa_cons pe_str pa_nil)))) (pa_cons (pe_tup (pa_cons (pe_mkP T.x_BadWeave (hr.mono (by decide)) rfl (pa_cons (pv 0) pa_nil)) (pa_cons (pe_mkK T.x_BadWeave (hr.mono (by decide)) rfl (pk_cons (pv 0) pk_nil)) (pa_cons pe_str pa_nil)))) pa_nil)))))
    (pss_cons (ps_set (i := 1) sc__law_placed.nd rfl (Or.inl rfl) (pe_op op_addU (pv 1) (pe_lst (pa_cons (pe_tup (pa_cons (pe_mkP T.x_BadBand (hr.mono (by decide)) rfl (pa_cons (pv 0) pa_nil)) (pa_cons (pe_mkK T.x_BadBand (hr.mono (by decide)) rfl (pk_cons (pv 0) pk_nil)) (pa_cons pe_str pa_nil)))) (pa_cons (pe_tup (pa_cons (pe_mkP T.x_BadText (hr.mono (by decide)) rfl (pa_cons (pv 0) pa_nil)) (pa_cons (pe_mkK T.x_BadText (hr.mono (by decide)) rfl (pk_cons (pv 0) pk_nil)) (pa_cons pe_str pa_nil)))) pa_nil)))))
    (pss_cons (ps_set (i := 1) sc__law_placed.nd rfl (Or.inl rfl) (pe_op op_addU (pv 1) (pe_lst (pa_cons (pe_tup (pa_cons (pe_mkP T.x_BadPaper (hr.mono (by decide)) rfl (pa_cons (pv 0) pa_nil)) (pa_cons (pe_mkK T.x_BadPaper (hr.mono (by decide)) rfl (pk_cons (pv 0) pk_nil)) (pa_cons pe_str pa_nil)))) (pa_cons (pe_tup (pa_cons (pe_mkP T.x_BadDeed (hr.mono (by decide)) rfl (pa_cons (pv 0) pa_nil)) (pa_cons (pe_mkK T.x_BadDeed (hr.mono (by decide)) rfl (pk_cons (pv 0) pk_nil)) (pa_cons pe_str pa_nil)))) pa_nil)))))
    (pss_one (ps_ret (pe_op op_addU (pv 1) (pe_lst (pa_cons (pe_tup (pa_cons (pe_mkP T.x_BadWord (hr.mono (by decide)) rfl (pa_cons (pv 0) pa_nil)) (pa_cons (pe_mkK T.x_BadWord (hr.mono (by decide)) rfl (pk_cons (pv 0) pk_nil)) (pa_cons pe_str pa_nil)))) pa_nil))))))))))
  · obtain ⟨d, rfl, rfl⟩ := hF
    exact go0 (does_law_placed) rfl rfl R At post
theorem ok__law_right (T : Tx P w K mg base) (D__law_kinds : Def P w K mg base CX0 1 "_law_kinds" ["e"] (spF K 1 (F__law_kinds K))) (D__law_placed : Def P w K mg base CX0 3 "_law_placed" ["thing"] (spF K 1 (F__law_placed K))) (D__law_valued : Def P w K mg base CX0 3 "_law_valued" ["thing"] (spF K 1 (F__law_valued K))) (F : FnP K "_law_right" s__law_right f fd) : FnOk P w K mg base CX0 4 f fd ["thing"] (spF K 1 (F__law_right K)) := by
  refine F.ok sc__law_right (fun vs H Q E h => h.1) (fun cdv A outer s H vs Q E hr h => ?_)
  obtain ⟨_, Hb, o, ds, out, R, At, hF, post⟩ := h
  refine ⟨t__law_right K, PSs.nox ?_, ?_⟩
  · exact (pss_cons (ps_for PassesOwn.never rfl (pi_list (pe_callD D__law_valued (hr.mono (by decide)) (by rfl) pass0 (pa_cons (pv 0) pa_nil))) (pg_tup rfl (pgs_cons (pg_name (i := 1) sc__law_right.nd rfl (by first | exact Or.inl rfl | exact Or.inr rfl)) (pgs_cons (pg_name (i := 2) sc__law_right.nd rfl (by first | exact Or.inl rfl | exact Or.inr rfl)) (pgs_cons (pg_name (i := 3) sc__law_right.nd rfl (by first | exact Or.inl rfl | exact Or.inr rfl)) pgs_nil))))
    (pss_cons (ps_if (pw_or (pt_cmpR (op_neD hr.units) (pe_callD D__law_kinds (hr.mono (by decide)) (by rfl) pass0 (pa_cons (pv 1) pa_nil)) (pe_lst (pa_cons (pv 3) (pa_cons pe_str (pa_cons pe_str pa_nil)))) (nomark _)) (pw_or1 (pt_cmpR (op_neD hr.units) (pe_callD D__law_kinds (hr.mono (by decide)) (by rfl) pass0 (pa_cons (pv 2) pa_nil)) (pe_lst (pa_cons (pv 3) (pa_cons pe_str (pa_cons pe_str pa_nil)))) (nomark _)))).pt (pss_one (ps_ret pe_bl)) pss_nil)
    (pss_one (ps_if (pw_or (pt_cmpR (op_neD hr.units) (pe_xv (pv 1)) (pv 0) (nomark _)) (pw_or1 (pt_cmpR (op_neD hr.units) (pe_xv (pv 2)) (pv 0) (nomark _)))).pt (pss_one (ps_ret pe_bl)) pss_nil))))
    (pss_cons (ps_for PassesOwn.never rfl (pi_list (pe_callD D__law_placed (hr.mono (by decide)) (by rfl) pass0 (pa_cons (pv 0) pa_nil))) (pg_tup rfl (pgs_cons (pg_name (i := 1) sc__law_right.nd rfl (by first | exact Or.inl rfl | exact Or.inr rfl)) (pgs_cons (pg_name (i := 2) sc__law_right.nd rfl (by first | exact Or.inl rfl | exact Or.inr rfl)) (pgs_cons (pg_name (i := 3) sc__law_right.nd rfl (by first | exact Or.inl rfl | exact Or.inr rfl)) pgs_nil))))
    (pss_cons (ps_if (pw_or (pt_cmpR (op_neD hr.units) (pe_callD D__law_kinds (hr.mono (by decide)) (by rfl) pass0 (pa_cons (pv 1) pa_nil)) (pe_lst (pa_cons (pv 3) (pa_cons pe_str (pa_cons pe_str pa_nil)))) (nomark _)) (pw_or1 (pt_cmpR (op_neD hr.units) (pe_callD D__law_kinds (hr.mono (by decide)) (by rfl) pass0 (pa_cons (pv 2) pa_nil)) (pe_lst (pa_cons (pv 3) (pa_cons pe_str (pa_cons pe_str pa_nil)))) (nomark _)))).pt (pss_one (ps_ret pe_bl)) pss_nil)
    (pss_one (ps_if (pw_or (pt_cmpR (op_neD hr.units) (pe_xv (pv 1)) (pv 0) (nomark _)) (pw_or1 (pt_cmpR (op_neD hr.units) (pe_xv (pv 2)) (pv 0) (nomark _)))).pt (pss_one (ps_ret pe_bl)) pss_nil))))
    (pss_cons (ps_for PassesOwn.never rfl (pi_tup (pe_tup (pa_cons (pe_mkP T.x_NoSuch (hr.mono (by decide)) rfl (pa_cons (pv 0) pa_nil)) (pa_cons (pe_mkK T.x_NoSuch (hr.mono (by decide)) rfl (pk_cons (pv 0) pk_nil)) pa_nil)))) (pg_name (i := 1) sc__law_right.nd rfl (by first | exact Or.inl rfl | exact Or.inr rfl))
    (pss_one (ps_if (pw_or (pt_cmpR (op_neD hr.units) (pe_callD D__law_kinds (hr.mono (by decide)) (by rfl) pass0 (pa_cons (pv 1) pa_nil)) (pe_lst (pa_cons pe_str (pa_cons pe_str pa_nil))) (nomark _)) (pw_or1 (pt_cmpR (op_neD hr.units) (pe_xv (pv 1)) (pv 0) (nomark _)))).pt (pss_one (ps_ret pe_bl)) pss_nil)))
    (pss_cons (ps_for PassesOwn.never rfl (pi_tup (pe_tup (pa_cons (pe_mkP T.x_TooMany (hr.mono (by decide)) rfl (pa_cons (pv 0) pa_nil)) (pa_cons (pe_mkK T.x_TooMany (hr.mono (by decide)) rfl (pk_cons (pv 0) pk_nil)) pa_nil)))) (pg_name (i := 1) sc__law_right.nd rfl (by first | exact Or.inl rfl | exact Or.inr rfl))
    (pss_one (ps_if (pw_or (pt_cmpR (op_neD hr.units) (pe_callD D__law_kinds (hr.mono (by decide)) (by rfl) pass0 (pa_cons (pv 1) pa_nil)) (pe_lst (pa_cons pe_str (pa_cons pe_str pa_nil))) (nomark _)) (pw_or1 (pt_cmpR (op_neD hr.units) (pe_xv (pv 1)) (pv 0) (nomark _)))).pt (pss_one (ps_ret pe_bl)) pss_nil)))
    (pss_one (ps_ret pe_bl))))))
  · obtain ⟨d, rfl, hg, rfl⟩ := hF
    exact go0 (does_right T hg) rfl rfl R At post
theorem ok_law (T : Tx P w K mg base) (D__law_digit : Def P w K mg base CX0 2 "_law_digit" ["state", "below"] (spF K 2 (F__law_digit K))) (D__law_draw : Def P w K mg base CX0 1 "_law_draw" ["cell", "k"] (spF K 2 (F__law_draw K))) (D__law_placed : Def P w K mg base CX0 3 "_law_placed" ["thing"] (spF K 1 (F__law_placed K))) (D__law_right : Def P w K mg base CX0 4 "_law_right" ["thing"] (spF K 1 (F__law_right K))) (D__law_valued : Def P w K mg base CX0 3 "_law_valued" ["thing"] (spF K 1 (F__law_valued K))) (F : FnP K "law" s_law f fd) : FnOk P w K mg base CX0 5 f fd ["script"] (spF K 1 (F_law K)) := by
  refine F.ok sc_law (fun vs H Q E h => h.1) (fun cdv A outer s H vs Q E hr h => ?_)
  obtain ⟨_, Hb, o, ds, out, R, At, hF, post⟩ := h
  refine ⟨t_law K, PSs.nox ?_, ?_⟩
  · exact (pss_cons (ps_for PassesOwn.never rfl (pi_enum (by rfl) T.n_enumerate (pa_cons (pe_op op_addU (pe_slice sl_list (pv 0) po_none (po_some pe_int)) (pe_lst (pa_cons (pe_callB (cr_sum rfl) rfl T.n_sum (by decide +kernel) (pa_cons (pv 0) pa_nil)) pa_nil))) pa_nil)) (pg_tup rfl (pgs_cons (pg_name (i := 1) sc_law.nd rfl (by first | exact Or.inl rfl | exact Or.inr rfl)) (pgs_cons (pg_name (i := 2) sc_law.nd rfl (by first | exact Or.inl rfl | exact Or.inr rfl)) pgs_nil)))
    (pss_cons (ps_set (i := 3) sc_law.nd rfl (Or.inl rfl) (pe_callD D__law_draw (hr.mono (by decide)) (by rfl) pass0 (pa_cons (pv 2) (pa_cons (pv 1) pa_nil))))
    (pss_cons (ps_set (i := 4) sc_law.nd rfl (Or.inl rfl) (pe_callD D__law_digit (hr.mono (by decide)) (by rfl) pass0 (pa_cons (pv 3) (pa_cons pe_int pa_nil))))
    (pss_cons (ps_set (i := 5) sc_law.nd rfl (Or.inl rfl) (pe_lst (pa_cons (pv 4) (pa_cons (pe_op op_sub pe_int (pv 4)) (pa_cons (pe_op op_mulU pe_str (pe_op op_mod (pv 4) pe_int)) (pa_cons (pe_tup (pa_cons pe_str (pa_cons (pe_tup (pa_cons pe_int (pa_cons (pv 4) pa_nil))) pa_nil))) (pa_cons pe_non (pa_cons (pe_tup (pa_cons (pe_op op_powW pe_int pe_int) (pa_cons (pe_tup pa_nil) pa_nil))) (pa_cons (pe_op op_mulU (pe_tup (pa_cons (pv 4) pa_nil)) pe_int) pa_nil)))))))))
    (pss_one (ps_if (pw_or (pt_not (pt_val (pe_callD D__law_right (hr.mono (by decide)) (by rfl) pass0 (pa_cons (pe_ix ix_seq (pv 5) (pe_callD D__law_digit (hr.mono (by decide)) (by rfl) pass0 (pa_cons (pv 3) (pa_cons pe_int pa_nil))) (fun _ _ => rfl)) pa_nil)))) (pw_or1 (pt_not (pt_val (pe_callD D__law_right (hr.mono (by decide)) (by rfl) pass0 (pa_cons (pe_op op_powW (pe_op op_powW (pe_op op_powW pe_int pe_int) pe_int) pe_int) pa_nil)))))).pt (pss_one (ps_ret pe_bl)) pss_nil))))))
    (pss_cons (ps_set (i := 5) sc_law.nd rfl (Or.inl rfl) (pe_lst (pa_cons (pe_mk0 T.x_BadGrid (hr.mono (by decide)) rfl) (pa_cons (pe_mk0 T.x_BadCell (hr.mono (by decide)) rfl) (pa_cons (pe_mk0 T.x_BadMotion (hr.mono (by decide)) rfl) (pa_cons (pe_mk0 T.x_BadLattice (hr.mono (by decide)) rfl) (pa_cons (pe_mk0 T.x_BadColours (hr.mono (by decide)) rfl) (pa_cons (pe_mk0 T.x_BadNumber (hr.mono (by decide)) rfl) (pa_cons (pe_mk0 T.x_NoSuch (hr.mono (by decide)) rfl) pa_nil)))))))))
    (pss_cons (ps_set (i := 6) sc_law.nd rfl (Or.inl rfl) (pe_lst (pa_cons (pe_mk0 T.x_BadGroup (hr.mono (by decide)) rfl) (pa_cons (pe_mk0 T.x_BadPattern (hr.mono (by decide)) rfl) (pa_cons (pe_mk0 T.x_BadTile (hr.mono (by decide)) rfl) (pa_cons (pe_mk0 T.x_BadTiles (hr.mono (by decide)) rfl) (pa_cons (pe_mk0 T.x_BadWeave (hr.mono (by decide)) rfl) (pa_cons (pe_mk0 T.x_BadBand (hr.mono (by decide)) rfl) (pa_cons (pe_mk0 T.x_BadText (hr.mono (by decide)) rfl) (pa_cons (pe_mk0 T.x_BadPaper (hr.mono (by decide)) rfl) (pa_cons (pe_mk0 T.x_BadDeed (hr.mono (by decide)) rfl) pa_nil)))))))))))
    (pss_cons (ps_expr (pe_bm PySem.F.plainAttrs_list PySem.F.slot_list_append PySem.F.type_list_append mt_append (pv 6) (pa_cons (pe_mk0 T.x_BadWord (hr.mono (by decide)) rfl) pa_nil)))
    (pss_cons (ps_if (pw_or (pt_cmpR (op_neD hr.units) (pe_lc (own := [("e", 7)]) rfl sc_law.nd (pi_list (pv 5)) (blkOk_by (own := [("e", 7)]) (N := N_law) (sc := defScope s_law) (by decide +kernel)) (fun _ _ _ _ _ => (pg_name (i := 7) sc_law.nd rfl (by first | exact Or.inl rfl | exact Or.inr rfl))) (fun _ _ _ _ _ => pts_nil) (fun _ _ _ _ _ => (pe_xv (pv 7)))) (pe_op op_mulU (pe_lst (pa_cons pe_non pa_nil)) pe_int) (nomark _)) (pw_or1 (pt_cmpR (op_neD hr.units) (pe_lc (own := [("e", 7)]) rfl sc_law.nd (pi_list (pv 6)) (blkOk_by (own := [("e", 7)]) (N := N_law) (sc := defScope s_law) (by decide +kernel)) (fun _ _ _ _ _ => (pg_name (i := 7) sc_law.nd rfl (by first | exact Or.inl rfl | exact Or.inr rfl))) (fun _ _ _ _ _ => pts_nil) (fun _ _ _ _ _ => (pe_xv (pv 7)))) (pe_op op_mulU (pe_lst (pa_cons pe_non pa_nil)) pe_int) (nomark _)))).pt (pss_one (ps_ret pe_bl)) pss_nil)
    (pss_cons (ps_for PassesOwn.never rfl (pi_tup (pe_tup (pa_cons pe_str (pa_cons (pe_op op_powW pe_int pe_int) (pa_cons pe_int pa_nil))))) (pg_name (i := 8) sc_law.nd rfl (by first | exact Or.inl rfl | exact Or.inr rfl))
    (pss_cons (ps_set (i := 9) sc_law.nd rfl (Or.inl rfl) (pe_op op_addU (pe_lc (own := [("one", 10), ("other", 11), ("name", 12)]) rfl sc_law.nd (pi_list (pe_op op_addU (pe_callD D__law_valued (hr.mono (by decide)) (by rfl) pass0 (pa_cons (pv 8) pa_nil)) (pe_callD D__law_placed (hr.mono (by decide)) (by rfl) pass0 (pa_cons (pv 8) pa_nil)))) (blkOk_by (own := [("one", 10), ("other", 11), ("name", 12)]) (N := N_law) (sc := defScope s_law) (by decide +kernel)) (fun _ _ _ _ _ => (pg_tup rfl (pgs_cons (pg_name (i := 10) sc_law.nd rfl (by first | exact Or.inl rfl | exact Or.inr rfl)) (pgs_cons (pg_name (i := 11) sc_law.nd rfl (by first | exact Or.inl rfl | exact Or.inr rfl)) (pgs_cons (pg_name (i := 12) sc_law.nd rfl (by first | exact Or.inl rfl | exact Or.inr rfl)) pgs_nil))))) (fun _ _ _ _ _ => pts_nil) (fun _ _ _ _ _ => (pv 10))) (pe_lst (pa_cons (pe_mkP T.x_NoSuch (hr.mono (by decide)) rfl (pa_cons (pv 8) pa_nil)) (pa_cons (pe_mkP T.x_TooMany (hr.mono (by decide)) rfl (pa_cons (pv 8) pa_nil)) pa_nil)))))
    (pss_one (ps_if (pt_cmpR (op_neD hr.units) (pe_lc (own := [("e", 7)]) rfl sc_law.nd (pi_list (pv 9)) (blkOk_by (own := [("e", 7)]) (N := N_law) (sc := defScope s_law) (by decide +kernel)) (fun _ _ _ _ _ => (pg_name (i := 7) sc_law.nd rfl (by first | exact Or.inl rfl | exact Or.inr rfl))) (fun _ _ _ _ _ => (pts_one (pt_cmpR op_in_str (pe_callTy (call_strU (Nat.lt_of_le_of_lt (Nat.add_le_add_left (by decide : 2 ≤ 64) _) hr.units)) rfl T.n_str (by decide +kernel) (pa_cons (pv 8) pa_nil)) (pe_callTy (call_strU (Nat.lt_of_le_of_lt (Nat.add_le_add_left (by decide : 2 ≤ 64) _) hr.units)) rfl T.n_str (by decide +kernel) (pa_cons (pv 7) pa_nil)) rfl))) (fun _ _ _ _ _ => (pv 7))) (pe_lst pa_nil) (nomark _)) (pss_one (ps_ret pe_bl)) pss_nil))))
    (pss_one (ps_ret pe_bl))))))))
  · obtain ⟨ns, rfl, hn, rfl⟩ := hF
    exact go0 (does_law T hn) rfl rfl R At post
end
end K99

namespace K99
open PySem PySem.Spec PyProof.Rows L2 He Q
def d__law_mixed : He.DefD := ⟨("_law_mixed", none), "_law_mixed", "_law_mixed", defArgs s__law_mixed, defBody s__law_mixed, defScope s__law_mixed, [], []⟩
def d__law_draw : He.DefD := ⟨("_law_draw", none), "_law_draw", "_law_draw", defArgs s__law_draw, defBody s__law_draw, defScope s__law_draw, [], []⟩
def d__law_digit : He.DefD := ⟨("_law_digit", none), "_law_digit", "_law_digit", defArgs s__law_digit, defBody s__law_digit, defScope s__law_digit, [], []⟩
def d__law_kinds : He.DefD := ⟨("_law_kinds", none), "_law_kinds", "_law_kinds", defArgs s__law_kinds, defBody s__law_kinds, defScope s__law_kinds, [], []⟩
def d__law_valued : He.DefD := ⟨("_law_valued", none), "_law_valued", "_law_valued", defArgs s__law_valued, defBody s__law_valued, defScope s__law_valued, [], []⟩
def d__law_placed : He.DefD := ⟨("_law_placed", none), "_law_placed", "_law_placed", defArgs s__law_placed, defBody s__law_placed, defScope s__law_placed, [], []⟩
def d__law_right : He.DefD := ⟨("_law_right", none), "_law_right", "_law_right", defArgs s__law_right, defBody s__law_right, defScope s__law_right, [], []⟩
def d_law : He.DefD := ⟨("law", none), "law", "law", defArgs s_law, defBody s_law, defScope s_law, [], []⟩
def d_BadGrid : He.DefD := ⟨("BadGrid", some "__init__"), "__init__", "BadGrid.__init__", defArgs i_BadGrid, defBody i_BadGrid, defScope i_BadGrid, [.non], []⟩
def d_BadCell : He.DefD := ⟨("BadCell", some "__init__"), "__init__", "BadCell.__init__", defArgs i_BadCell, defBody i_BadCell, defScope i_BadCell, [.non], []⟩
def d_BadMotion : He.DefD := ⟨("BadMotion", some "__init__"), "__init__", "BadMotion.__init__", defArgs i_BadMotion, defBody i_BadMotion, defScope i_BadMotion, [.non], []⟩
def d_BadLattice : He.DefD := ⟨("BadLattice", some "__init__"), "__init__", "BadLattice.__init__", defArgs i_BadLattice, defBody i_BadLattice, defScope i_BadLattice, [.non], []⟩
def d_BadGroup : He.DefD := ⟨("BadGroup", some "__init__"), "__init__", "BadGroup.__init__", defArgs i_BadGroup, defBody i_BadGroup, defScope i_BadGroup, [.non], []⟩
def d_BadPattern : He.DefD := ⟨("BadPattern", some "__init__"), "__init__", "BadPattern.__init__", defArgs i_BadPattern, defBody i_BadPattern, defScope i_BadPattern, [.non], []⟩
def d_BadTile : He.DefD := ⟨("BadTile", some "__init__"), "__init__", "BadTile.__init__", defArgs i_BadTile, defBody i_BadTile, defScope i_BadTile, [.non], []⟩
def d_BadTiles : He.DefD := ⟨("BadTiles", some "__init__"), "__init__", "BadTiles.__init__", defArgs i_BadTiles, defBody i_BadTiles, defScope i_BadTiles, [.non], []⟩
def d_BadWeave : He.DefD := ⟨("BadWeave", some "__init__"), "__init__", "BadWeave.__init__", defArgs i_BadWeave, defBody i_BadWeave, defScope i_BadWeave, [.non], []⟩
def d_BadBand : He.DefD := ⟨("BadBand", some "__init__"), "__init__", "BadBand.__init__", defArgs i_BadBand, defBody i_BadBand, defScope i_BadBand, [.non], []⟩
def d_BadColours : He.DefD := ⟨("BadColours", some "__init__"), "__init__", "BadColours.__init__", defArgs i_BadColours, defBody i_BadColours, defScope i_BadColours, [.non], []⟩
def d_BadText : He.DefD := ⟨("BadText", some "__init__"), "__init__", "BadText.__init__", defArgs i_BadText, defBody i_BadText, defScope i_BadText, [.non], []⟩
def d_BadNumber : He.DefD := ⟨("BadNumber", some "__init__"), "__init__", "BadNumber.__init__", defArgs i_BadNumber, defBody i_BadNumber, defScope i_BadNumber, [.non], []⟩
def d_BadPaper : He.DefD := ⟨("BadPaper", some "__init__"), "__init__", "BadPaper.__init__", defArgs i_BadPaper, defBody i_BadPaper, defScope i_BadPaper, [.non], []⟩
def d_BadDeed : He.DefD := ⟨("BadDeed", some "__init__"), "__init__", "BadDeed.__init__", defArgs i_BadDeed, defBody i_BadDeed, defScope i_BadDeed, [.non], []⟩
def d_BadWord : He.DefD := ⟨("BadWord", some "__init__"), "__init__", "BadWord.__init__", defArgs i_BadWord, defBody i_BadWord, defScope i_BadWord, [.non], []⟩
def d_TooMany : He.DefD := ⟨("TooMany", some "__init__"), "__init__", "TooMany.__init__", defArgs i_TooMany, defBody i_TooMany, defScope i_TooMany, [], []⟩
def d_NoSuch : He.DefD := ⟨("NoSuch", some "__init__"), "__init__", "NoSuch.__init__", defArgs i_NoSuch, defBody i_NoSuch, defScope i_NoSuch, [.non], []⟩
def fn : List He.DefD := [d__law_mixed, d__law_draw, d__law_digit, d__law_kinds, d__law_valued, d__law_placed, d__law_right, d_law, d_BadGrid, d_BadCell, d_BadMotion, d_BadLattice, d_BadGroup, d_BadPattern, d_BadTile, d_BadTiles, d_BadWeave, d_BadBand, d_BadColours, d_BadText, d_BadNumber, d_BadPaper, d_BadDeed, d_BadWord, d_TooMany, d_NoSuch]
def fa : List He.Fa := [.glo "_law_mixed", .glo "_law_draw", .glo "_law_digit", .glo "_law_kinds", .glo "_law_valued", .glo "_law_placed", .glo "_law_right", .glo "law", .glo "PatternError", .glo "BadGrid", .glo "BadCell", .glo "BadMotion", .glo "BadLattice", .glo "BadGroup", .glo "BadPattern", .glo "BadTile", .glo "BadTiles", .glo "BadWeave", .glo "BadBand", .glo "BadColours", .glo "BadText", .glo "BadNumber", .glo "BadPaper", .glo "BadDeed", .glo "BadWord", .glo "TooMany", .glo "NoSuch", .free "isinstance", .free "sum", .free "str", .free "range", .free "enumerate", .free "ValueError", .free "LookupError", .free "OverflowError"]
def exB (K : PySem.W.Frag) : Bool := (xclsB K "BadGrid" "value" [.type "ValueError", .type "Exception", .type "BaseException", .type "object"] "ValueError.__new__" &&
    (xclsB K "BadCell" "value" [.type "ValueError", .type "Exception", .type "BaseException", .type "object"] "ValueError.__new__" &&
    (xclsB K "BadMotion" "value" [.type "ValueError", .type "Exception", .type "BaseException", .type "object"] "ValueError.__new__" &&
    (xclsB K "BadLattice" "value" [.type "ValueError", .type "Exception", .type "BaseException", .type "object"] "ValueError.__new__" &&
    (xclsB K "BadGroup" "place" [.type "ValueError", .type "Exception", .type "BaseException", .type "object"] "ValueError.__new__" &&
    (xclsB K "BadPattern" "place" [.type "ValueError", .type "Exception", .type "BaseException", .type "object"] "ValueError.__new__" &&
    (xclsB K "BadTile" "place" [.type "ValueError", .type "Exception", .type "BaseException", .type "object"] "ValueError.__new__" &&
    (xclsB K "BadTiles" "place" [.type "ValueError", .type "Exception", .type "BaseException", .type "object"] "ValueError.__new__" &&
    (xclsB K "BadWeave" "place" [.type "ValueError", .type "Exception", .type "BaseException", .type "object"] "ValueError.__new__" &&
    (xclsB K "BadBand" "place" [.type "ValueError", .type "Exception", .type "BaseException", .type "object"] "ValueError.__new__" &&
    (xclsB K "BadColours" "value" [.type "ValueError", .type "Exception", .type "BaseException", .type "object"] "ValueError.__new__" &&
    (xclsB K "BadText" "place" [.type "ValueError", .type "Exception", .type "BaseException", .type "object"] "ValueError.__new__" &&
    (xclsB K "BadNumber" "value" [.type "ValueError", .type "Exception", .type "BaseException", .type "object"] "ValueError.__new__" &&
    (xclsB K "BadPaper" "place" [.type "ValueError", .type "Exception", .type "BaseException", .type "object"] "ValueError.__new__" &&
    (xclsB K "BadDeed" "place" [.type "ValueError", .type "Exception", .type "BaseException", .type "object"] "ValueError.__new__" &&
    (xclsB K "BadWord" "place" [.type "ValueError", .type "Exception", .type "BaseException", .type "object"] "ValueError.__new__" &&
    (xclsB K "TooMany" "most" [.type "OverflowError", .type "ArithmeticError", .type "Exception", .type "BaseException", .type "object"] "OverflowError.__new__" &&
    (xclsB K "NoSuch" "value" [.type "LookupError", .type "Exception", .type "BaseException", .type "object"] "LookupError.__new__" &&
    (bioB K "PatternError" "ValueError.__init__" &&
    (He.eqO (PySem.W.specialIn K (.builtin "object.__class__") "__get__") (some (some (.builtin "getset_descriptor.__get__"))) &&
    (decide (PySem.W.takesIn K (.builtin "object.__class__") = some true) &&
    (kindT.all fun q => kitsB K q.1 (cvs K) (bsOf q.2.2.2)))))))))))))))))))))))
abbrev R : PySem.W.OpenRow := PySem.W.OpenLaw.row PySem.Challenge.rw_patternwright_k99_errors_by_hand
abbrev hk : PySem.W.Hook := Q.hookE 4 fa fn exB
def ob (s : PySem.W.SharedT) : Q.AlE := Q.obsE 4 fa fn exB (HandSHeadRun.getT s)
theorem ob_eq (s : PySem.W.SharedT) : ob s = hk.obs s.abs := Q.obsE_eq (HandSHeadRun.getT_eq s)
def loose : List Str := ["PatternError", "BadGrid", "BadCell", "BadMotion", "BadLattice", "BadGroup", "BadPattern", "BadTile", "BadTiles", "BadWeave", "BadBand", "BadColours", "BadText", "BadNumber", "BadPaper", "BadDeed", "BadWord", "TooMany", "NoSuch", "_law_mixed", "_law_draw", "_law_digit", "_law_kinds", "_law_valued", "_law_placed", "_law_right"]
theorem run (w : World) : HandSHeadRun.RunEq R (PySem.W.view R.prog [28]) hk ob 8000 loose w := by
  intro os
  kernel_rfl
end K99

namespace K99
open PySem PySem.Spec PyProof.Rows L2 He Q
theorem facts {P : Program} {w : World} {K : PySem.W.Frag} {h : Heap} {mg : Str → Option Value} {f : Addr} (X : K.In h) (G : h.Ns mainGlobals mg) (hfa : mg ("law" : Str) = some (.ref f)) (c : He.SaysD fa fn K) (hm : exB K = true) :
    ∃ fd : FuncData, (∀ (s : Shared) (v : Value), BindsTo s fd ⟨[v], []⟩ [("script", v)]) ∧ ∀ base : Heap, K.In base → base.Ns mainGlobals mg → FnOk P w K mg base CX0 5 f fd ["script"] (spF K 1 (F_law K)) := by
  simp only [exB, Bool.and_eq_true] at hm
  obtain ⟨h_x_BadGrid, h_x_BadCell, h_x_BadMotion, h_x_BadLattice, h_x_BadGroup, h_x_BadPattern, h_x_BadTile, h_x_BadTiles, h_x_BadWeave, h_x_BadBand, h_x_BadColours, h_x_BadText, h_x_BadNumber, h_x_BadPaper, h_x_BadDeed, h_x_BadWord, h_x_TooMany, h_x_NoSuch, h_bio, h_sp, h_tk, h_kit⟩ := hm
  obtain ⟨fd__law_mixed, F_F_law_mixed⟩ := c.def_ 0 (d := d__law_mixed) rfl
  obtain ⟨fd__law_draw, F_F_law_draw⟩ := c.def_ 1 (d := d__law_draw) rfl
  obtain ⟨fd__law_digit, F_F_law_digit⟩ := c.def_ 2 (d := d__law_digit) rfl
  obtain ⟨fd__law_kinds, F_F_law_kinds⟩ := c.def_ 3 (d := d__law_kinds) rfl
  obtain ⟨fd__law_valued, F_F_law_valued⟩ := c.def_ 4 (d := d__law_valued) rfl
  obtain ⟨fd__law_placed, F_F_law_placed⟩ := c.def_ 5 (d := d__law_placed) rfl
  obtain ⟨fd__law_right, F_F_law_right⟩ := c.def_ 6 (d := d__law_right) rfl
  obtain ⟨fd_law, F_Flaw⟩ := c.def_ 7 (d := d_law) rfl
  obtain ⟨fd_BadGrid, F_FBadGrid⟩ := c.def_ 8 (d := d_BadGrid) rfl
  obtain ⟨fd_BadCell, F_FBadCell⟩ := c.def_ 9 (d := d_BadCell) rfl
  obtain ⟨fd_BadMotion, F_FBadMotion⟩ := c.def_ 10 (d := d_BadMotion) rfl
  obtain ⟨fd_BadLattice, F_FBadLattice⟩ := c.def_ 11 (d := d_BadLattice) rfl
  obtain ⟨fd_BadGroup, F_FBadGroup⟩ := c.def_ 12 (d := d_BadGroup) rfl
  obtain ⟨fd_BadPattern, F_FBadPattern⟩ := c.def_ 13 (d := d_BadPattern) rfl
  obtain ⟨fd_BadTile, F_FBadTile⟩ := c.def_ 14 (d := d_BadTile) rfl
  obtain ⟨fd_BadTiles, F_FBadTiles⟩ := c.def_ 15 (d := d_BadTiles) rfl
  obtain ⟨fd_BadWeave, F_FBadWeave⟩ := c.def_ 16 (d := d_BadWeave) rfl
  obtain ⟨fd_BadBand, F_FBadBand⟩ := c.def_ 17 (d := d_BadBand) rfl
  obtain ⟨fd_BadColours, F_FBadColours⟩ := c.def_ 18 (d := d_BadColours) rfl
  obtain ⟨fd_BadText, F_FBadText⟩ := c.def_ 19 (d := d_BadText) rfl
  obtain ⟨fd_BadNumber, F_FBadNumber⟩ := c.def_ 20 (d := d_BadNumber) rfl
  obtain ⟨fd_BadPaper, F_FBadPaper⟩ := c.def_ 21 (d := d_BadPaper) rfl
  obtain ⟨fd_BadDeed, F_FBadDeed⟩ := c.def_ 22 (d := d_BadDeed) rfl
  obtain ⟨fd_BadWord, F_FBadWord⟩ := c.def_ 23 (d := d_BadWord) rfl
  obtain ⟨fd_TooMany, F_FTooMany⟩ := c.def_ 24 (d := d_TooMany) rfl
  obtain ⟨fd_NoSuch, F_FNoSuch⟩ := c.def_ 25 (d := d_NoSuch) rfl
  have g__law_mixed := He.glo_ok X G (c.fact 0 (f := .glo "_law_mixed") rfl)
  have g__law_draw := He.glo_ok X G (c.fact 1 (f := .glo "_law_draw") rfl)
  have g__law_digit := He.glo_ok X G (c.fact 2 (f := .glo "_law_digit") rfl)
  have g__law_kinds := He.glo_ok X G (c.fact 3 (f := .glo "_law_kinds") rfl)
  have g__law_valued := He.glo_ok X G (c.fact 4 (f := .glo "_law_valued") rfl)
  have g__law_placed := He.glo_ok X G (c.fact 5 (f := .glo "_law_placed") rfl)
  have g__law_right := He.glo_ok X G (c.fact 6 (f := .glo "_law_right") rfl)
  have g_law := He.glo_ok X G (c.fact 7 (f := .glo "law") rfl)
  have g_PatternError := He.glo_ok X G (c.fact 8 (f := .glo "PatternError") rfl)
  have g_BadGrid := He.glo_ok X G (c.fact 9 (f := .glo "BadGrid") rfl)
  have g_BadCell := He.glo_ok X G (c.fact 10 (f := .glo "BadCell") rfl)
  have g_BadMotion := He.glo_ok X G (c.fact 11 (f := .glo "BadMotion") rfl)
  have g_BadLattice := He.glo_ok X G (c.fact 12 (f := .glo "BadLattice") rfl)
  have g_BadGroup := He.glo_ok X G (c.fact 13 (f := .glo "BadGroup") rfl)
  have g_BadPattern := He.glo_ok X G (c.fact 14 (f := .glo "BadPattern") rfl)
  have g_BadTile := He.glo_ok X G (c.fact 15 (f := .glo "BadTile") rfl)
  have g_BadTiles := He.glo_ok X G (c.fact 16 (f := .glo "BadTiles") rfl)
  have g_BadWeave := He.glo_ok X G (c.fact 17 (f := .glo "BadWeave") rfl)
  have g_BadBand := He.glo_ok X G (c.fact 18 (f := .glo "BadBand") rfl)
  have g_BadColours := He.glo_ok X G (c.fact 19 (f := .glo "BadColours") rfl)
  have g_BadText := He.glo_ok X G (c.fact 20 (f := .glo "BadText") rfl)
  have g_BadNumber := He.glo_ok X G (c.fact 21 (f := .glo "BadNumber") rfl)
  have g_BadPaper := He.glo_ok X G (c.fact 22 (f := .glo "BadPaper") rfl)
  have g_BadDeed := He.glo_ok X G (c.fact 23 (f := .glo "BadDeed") rfl)
  have g_BadWord := He.glo_ok X G (c.fact 24 (f := .glo "BadWord") rfl)
  have g_TooMany := He.glo_ok X G (c.fact 25 (f := .glo "TooMany") rfl)
  have g_NoSuch := He.glo_ok X G (c.fact 26 (f := .glo "NoSuch") rfl)
  have n_isinstance := He.free_ok X G (c.fact 27 (f := .free "isinstance") rfl)
  have n_sum := He.free_ok X G (c.fact 28 (f := .free "sum") rfl)
  have n_str := He.free_ok X G (c.fact 29 (f := .free "str") rfl)
  have n_range := He.free_ok X G (c.fact 30 (f := .free "range") rfl)
  have n_enumerate := He.free_ok X G (c.fact 31 (f := .free "enumerate") rfl)
  have n_ValueError := He.free_ok X G (c.fact 32 (f := .free "ValueError") rfl)
  have n_LookupError := He.free_ok X G (c.fact 33 (f := .free "LookupError") rfl)
  have n_OverflowError := He.free_ok X G (c.fact 34 (f := .free "OverflowError") rfl)
  have TX : ∀ base : Heap, Tx P w K mg base := fun base => { n_isinstance := n_isinstance, n_sum := n_sum, n_str := n_str, n_range := n_range, n_enumerate := n_enumerate, n_ValueError := n_ValueError, n_LookupError := n_LookupError, n_OverflowError := n_OverflowError, c_PatternError := g_PatternError, c_BadGrid := g_BadGrid, c_BadCell := g_BadCell, c_BadMotion := g_BadMotion, c_BadLattice := g_BadLattice, c_BadGroup := g_BadGroup, c_BadPattern := g_BadPattern, c_BadTile := g_BadTile, c_BadTiles := g_BadTiles, c_BadWeave := g_BadWeave, c_BadBand := g_BadBand, c_BadColours := g_BadColours, c_BadText := g_BadText, c_BadNumber := g_BadNumber, c_BadPaper := g_BadPaper, c_BadDeed := g_BadDeed, c_BadWord := g_BadWord, c_TooMany := g_TooMany, c_NoSuch := g_NoSuch, x_BadGrid := xd_BadGrid X G F_FBadGrid h_x_BadGrid h_bio, x_BadCell := xd_BadCell X G F_FBadCell h_x_BadCell h_bio, x_BadMotion := xd_BadMotion X G F_FBadMotion h_x_BadMotion h_bio, x_BadLattice := xd_BadLattice X G F_FBadLattice h_x_BadLattice h_bio, x_BadGroup := xd_BadGroup X G F_FBadGroup h_x_BadGroup h_bio, x_BadPattern := xd_BadPattern X G F_FBadPattern h_x_BadPattern h_bio, x_BadTile := xd_BadTile X G F_FBadTile h_x_BadTile h_bio, x_BadTiles := xd_BadTiles X G F_FBadTiles h_x_BadTiles h_bio, x_BadWeave := xd_BadWeave X G F_FBadWeave h_x_BadWeave h_bio, x_BadBand := xd_BadBand X G F_FBadBand h_x_BadBand h_bio, x_BadColours := xd_BadColours X G F_FBadColours h_x_BadColours h_bio, x_BadText := xd_BadText X G F_FBadText h_x_BadText h_bio, x_BadNumber := xd_BadNumber X G F_FBadNumber h_x_BadNumber h_bio, x_BadPaper := xd_BadPaper X G F_FBadPaper h_x_BadPaper h_bio, x_BadDeed := xd_BadDeed X G F_FBadDeed h_x_BadDeed h_bio, x_BadWord := xd_BadWord X G F_FBadWord h_x_BadWord h_bio, x_TooMany := xd_TooMany X G F_FTooMany h_x_TooMany n_OverflowError, x_NoSuch := xd_NoSuch X G F_FNoSuch h_x_NoSuch n_LookupError, hsp := He.eqO_ok h_sp, htk := of_decide_eq_true h_tk, kit := fun q hq => List.all_eq_true.mp h_kit q hq }
  have D__law_mixed : ∀ base : Heap, Def P w K mg base CX0 1 "_law_mixed" ["cell", "k"] (spF K 2 (F__law_mixed K)) := fun base => ⟨_, _, g__law_mixed, F_F_law_mixed.kp, ok__law_mixed (TX base)  F_F_law_mixed, F_F_law_mixed.bindsN fun _ _ _ _ _ _ us hl => match us, hl with | [_, _], _ => rfl⟩
  have D__law_draw : ∀ base : Heap, Def P w K mg base CX0 1 "_law_draw" ["cell", "k"] (spF K 2 (F__law_draw K)) := fun base => ⟨_, _, g__law_draw, F_F_law_draw.kp, ok__law_draw (TX base)  F_F_law_draw, F_F_law_draw.bindsN fun _ _ _ _ _ _ us hl => match us, hl with | [_, _], _ => rfl⟩
  have D__law_digit : ∀ base : Heap, Def P w K mg base CX0 2 "_law_digit" ["state", "below"] (spF K 2 (F__law_digit K)) := fun base => ⟨_, _, g__law_digit, F_F_law_digit.kp, ok__law_digit (TX base) (D__law_mixed base) F_F_law_digit, F_F_law_digit.bindsN fun _ _ _ _ _ _ us hl => match us, hl with | [_, _], _ => rfl⟩
  have D__law_kinds : ∀ base : Heap, Def P w K mg base CX0 1 "_law_kinds" ["e"] (spF K 1 (F__law_kinds K)) := fun base => ⟨_, _, g__law_kinds, F_F_law_kinds.kp, ok__law_kinds (TX base)  F_F_law_kinds, F_F_law_kinds.bindsN fun _ _ _ _ _ _ us hl => match us, hl with | [_], _ => rfl⟩
  have D__law_valued : ∀ base : Heap, Def P w K mg base CX0 3 "_law_valued" ["thing"] (spF K 1 (F__law_valued K)) := fun base => ⟨_, _, g__law_valued, F_F_law_valued.kp, ok__law_valued (TX base)  F_F_law_valued, F_F_law_valued.bindsN fun _ _ _ _ _ _ us hl => match us, hl with | [_], _ => rfl⟩
  have D__law_placed : ∀ base : Heap, Def P w K mg base CX0 3 "_law_placed" ["thing"] (spF K 1 (F__law_placed K)) := fun base => ⟨_, _, g__law_placed, F_F_law_placed.kp, ok__law_placed (TX base)  F_F_law_placed, F_F_law_placed.bindsN fun _ _ _ _ _ _ us hl => match us, hl with | [_], _ => rfl⟩
  have D__law_right : ∀ base : Heap, Def P w K mg base CX0 4 "_law_right" ["thing"] (spF K 1 (F__law_right K)) := fun base => ⟨_, _, g__law_right, F_F_law_right.kp, ok__law_right (TX base) (D__law_kinds base) (D__law_placed base) (D__law_valued base) F_F_law_right, F_F_law_right.bindsN fun _ _ _ _ _ _ us hl => match us, hl with | [_], _ => rfl⟩
  have e := hfa.symm.trans g_law
  cases e
  have b := FunD.bindsA (ps := ["script"]) F_Flaw fun _ _ _ _ _ _ us hl => match us, hl with | [_], _ => rfl
  exact ⟨fd_law, fun s v => b s [v] rfl, fun base _ _ => ok_law (TX base) (D__law_digit base) (D__law_draw base) (D__law_placed base) (D__law_right base) (D__law_valued base) F_Flaw⟩
/-- the script, at the law's door -/
theorem sp_law {K : PySem.W.Frag} {H : Hp} {a : Addr} {ns : List Int} (hl : ns.length ≤ 63) (hS : SqL K H a (ns.map V.int)) : spF K 1 (F_law K) [.ref a] H (fun v _ => v = .bl true) (fun _ _ _ => False) := by
  refine ⟨rfl, H, [], [.fl (ns.map D.int)], .rt (.bl true) [], ⟨fun _ _ e => e, fun q hq => (by cases hq), List.nodup_nil⟩, .cons (.fl hS ?_) .nil, ⟨ns, rfl, hl, rfl⟩, fun v Hb' H' S R A => ?_⟩
  · clear hl hS
    induction ns with
    | nil => exact .nil
    | cons n r ih => exact .cons (.int n) ih
  · cases A
    rfl
end K99
open PySem PySem.W PySem.Calls PyProof.Rows
theorem PySem.Challenge.cw_patternwright_k99_errors_by_hand_holds : PySem.Challenge.rw_patternwright_k99_errors_by_hand.Holds := by
  w_on; o_law
  refine HandSHeadRun.head_any (r := OpenLaw.row PySem.Challenge.rw_patternwright_k99_errors_by_hand) (q := view (OpenLaw.row PySem.Challenge.rw_patternwright_k99_errors_by_hand).prog [28]) (H := K99.hk) (ob := K99.ob) (M := 8000) (loose := K99.loose) (d := HandSHeadRun.topDef (OpenLaw.row PySem.Challenge.rw_patternwright_k99_errors_by_hand).prog 28) (kwd := []) K99.ob_eq
    (by kernel_rfl) (fun s => by kernel_rfl) K99.run (by kernel_rfl) (by kernel_rfl) (by kernel_rfl) (by rfl) (by first | assumption | decide +kernel) (by decide +kernel) ⟨rfl, rfl, rfl, rfl, rfl, by decide +kernel⟩ ?hw ?hc
  case hw => w_witness2
  case hc =>
    refine L2.walk_ofE (l := PySem.Challenge.rw_patternwright_k99_errors_by_hand) (n := 63) (k := 5) (x := "script") (CX := L2.CX0) rfl (by decide) (by kernel_rfl) ⟨rfl, by decide, by decide⟩ ?F (fun _ _ _ _ z => z)
    intro w mg fa h Y G hmg0
    obtain ⟨K, KX, c, hm⟩ := Y
    have hmg : mg ("law" : PySem.Str) = some (.ref fa) := by
      have e : (HandSHeadRun.topDef (OpenLaw.row PySem.Challenge.rw_patternwright_k99_errors_by_hand).prog 28).name = ("law" : PySem.Str) := by kernel_rfl
      rw [← e]
      exact hmg0
    obtain ⟨fd, hb, hF⟩ := K99.facts (P := (PySem.Challenge.rw_patternwright_k99_errors_by_hand).prog) (w := w) KX G hmg c hm
    exact ⟨K, fd, Q.spF K 1 (K99.F_law K), KX, hb, fun H a ns hl _ hS => K99.sp_law hl hS, hF⟩
