import PyProof.Rows.All
import Wide.All
import OpenK.AllK
import Wide.FinOn
import HandS.ForMost
import HandS.Wide
import HandS.IsInst
import HandS.TupAny
import PyProof.MaxThree
import KE.KTupSum
import HandS.More
import KE.GoesMore
import KE.KRevSl
import HandS.Style
import HandS.Conv
import HandS.SortInts
import HandS.SetFor
import HandS.Strs
import HandS.NoneIn
import HandS.Zip
import HandS.WideBits
import HandS.Dict
import HandS.Defaults
import HandS.RevRange
import HandS.ExcIs
import HandS.ExcOwn
import HandS.WordsExc
import HandS.ExcInit
import HandS.ExcField
import HandS.TryMany
import KE.KExcIs
import HandS.Iter
import HandS.SortRule
import PySem.Challenge.RW_equalwires_k32_which_two_do_not_fit
set_option Elab.async false
set_option linter.all false
set_option maxRecDepth 100000
/-! Wk: a layer above the hand layer in which immutable data are trees and the heap is out of sight. -/
namespace Wk
open PySem PySem.Spec L2

/-- a list that is known to the object, or written: it stands still -/
def SqF (K : PySem.W.Frag) (H : Hp) (a : Addr) (xs : List V) : Prop := (∃ o, H a = some (.frz o (.lst xs))) ∨
    ∃ (o : Obj) (its : Array Value) (n : Nat), K.lookup a = some o ∧ o.cls = .type "list" ∧ o.dict = none ∧ o.data = .seq its n ∧ its.size ≤ sizeLine ∧ Vals xs its.toList
theorem SqF.sql {K : PySem.W.Frag} {H : Hp} {a : Addr} {xs : List V} (h : SqF K H a xs) : SqL K H a xs := by
  rcases h with ⟨o, h⟩ | h
  · exact .inl (.inr ⟨o, h⟩)
  · exact .inr h
/-- a tuple that stands in the heap -/
def TpA (K : PySem.W.Frag) (H : Hp) (a : Addr) (xs : List V) : Prop := H a = some (.tup xs)
theorem TpA.sqt {K : PySem.W.Frag} {H : Hp} {a : Addr} {xs : List V} (h : TpA K H a xs) : SqT K H a xs := .inl (.inl h)
instance {K : PySem.W.Frag} {H : Hp} {a : Addr} {xs : List V} : Coe (TpA K H a xs) (SqT K H a xs) := ⟨TpA.sqt⟩
/-- data: None, truths, numbers, texts, tuples of data; what has an identity: its address -/
inductive D where
  | non | bl (b : Bool) | int (i : Int) | str (x : Str) | tup (ds : List D) | ref (a : Addr) | ty (n : String) | scr (ns : List Int)
  | lis (ds : List D) | dct (ks : List Key) (ds : List D)

/-- what may change: a list, a dict, a deck (its keys behind "cells", where its cells are), a deck that is a list of four (where its cells are) -/
inductive M where
  | lst (ds : List D) | dic (kvs : List (Key × D)) | deck (ks : List Str) (c : Addr) | ldk (c : Addr)
  | hid (I : List Int → Prop) | lkc (I : List Int → Prop) (c : Addr) | dit (kvs : List (List Key × D)) | obj (C dx : Addr) (fs : List (Str × D)) | xdt (fs : List (Str × D))

abbrev Mu := List (Addr × M)
abbrev Dl := List (Option D)

section
variable (K : PySem.W.Frag) (H : Hp)
mutual
inductive Den : V → D → Prop
  | non : Den .non .non
  | bl (b : Bool) : Den (.bl b) (.bl b)
  | int (i : Int) : Den (.int i) (.int i)
  | str (x : Str) : Den (.str x) (.str x)
  | ref (a : Addr) : Den (.ref a) (.ref a)
  | ty (n : String) : Den (.ty n) (.ty n)
  | tup {a : Addr} {vs : List V} {ds : List D} : TpA K H a vs → DenL vs ds → Den (.ref a) (.tup ds)
  | scr {a : Addr} {ns : List Int} : SqF K H a (ns.map V.int) → Den (.ref a) (.scr ns)
  | lis {a : Addr} {o : Obj} {vs : List V} {ds : List D} : H a = some (.frz o (.lst vs)) → DenL vs ds → Den (.ref a) (.lis ds)
  | dct {a : Addr} {o : Obj} {kvs : List (Key × V)} {ks : List Key} {ds : List D} : H a = some (.frz o (.dK kvs)) → kvs.map (·.1) = ks → DenL (kvs.map (·.2)) ds → Den (.ref a) (.dct ks ds)
inductive DenL : List V → List D → Prop
  | nil : DenL [] []
  | cons {v : V} {vs : List V} {d : D} {ds : List D} : Den v d → DenL vs ds → DenL (v :: vs) (d :: ds)
end
/-- a dict's pairs -/
inductive DenK : List (Key × V) → List (Key × D) → Prop
  | nil : DenK [] []
  | cons {k : Key} {v : V} {d : D} {kvs : List (Key × V)} {kds : List (Key × D)} : Den K H v d → DenK kvs kds → DenK ((k, v) :: kvs) ((k, d) :: kds)
/-- pairs: of a dict whose keys are tuples, of an instance's fields -/
inductive DenP {κ : Type} : List (κ × V) → List (κ × D) → Prop
  | nil : DenP [] []
  | cons {k : κ} {v : V} {d : D} {kvs : List (κ × V)} {kds : List (κ × D)} : Den K H v d → DenP kvs kds → DenP ((k, v) :: kvs) ((k, d) :: kds)
def deckKvs (ks : List Str) (ns : List Int) (c : Addr) : List (Key × V) := (Sum.inr "cells", .ref c) :: (ks.zip ns).map fun p => (Sum.inr p.1, .int p.2)
def deckKds (ks : List Str) (ns : List Int) (c : Addr) : List (Key × D) := (Sum.inr "cells", .ref c) :: (ks.zip ns).map fun p => (Sum.inr p.1, .int p.2)
def MOk (a : Addr) : M → Prop
  | .lst ds => ∃ vs, H a = some (.lst vs) ∧ DenL K H vs ds
  | .dic kds => ∃ kvs, H a = some (.dK kvs) ∧ DenK K H kvs kds
  | .deck ks c => ∃ (ns cs : List Int), (ns.length = ks.length ∧ ∀ n ∈ ns, 0 ≤ n) ∧ cs.length ≤ 63 ∧ H a = some (.dK (deckKvs ks ns c)) ∧ H c = some (.lst (cs.map V.int))
  | .ldk c => ∃ (x y z : Int) (cs : List Int), 0 ≤ z ∧ cs.length ≤ 63 ∧ H a = some (.lst [.ref c, .int x, .int y, .int z]) ∧ H c = some (.lst (cs.map V.int))
  | .hid I => ∃ ns : List Int, I ns ∧ H a = some (.lst (ns.map V.int))
  | .dit kds => ∃ kvs, H a = some (.dT kvs) ∧ DenP K H kvs kds
  | .obj C dx fs => ∃ vs, H a = some (.ins C dx vs) ∧ H dx = some (.own a) ∧ DenP K H vs fs
  | .xdt fs => ∃ vs, H a = some (.xd vs) ∧ DenP K H vs fs
  | .lkc I c => ∃ ns cs : List Int, I ns ∧ cs.length ≤ 63 ∧ H a = some (.lst (.ref c :: ns.map V.int)) ∧ H c = some (.lst (cs.map V.int))
end
def M.own : M → List Addr
  | .deck _ c => [c]
  | .ldk c => [c]
  | .lkc _ c => [c]
  | .obj _ dx _ => [dx]
  | _ => []
def foot : Mu → List Addr
  | [] => []
  | p :: μ => p.1 :: (p.2.own ++ foot μ)
structure OkM (K : PySem.W.Frag) (H : Hp) (μ : Mu) : Prop where
  nd : (foot μ).Nodup
  ok : ∀ p ∈ μ, MOk K H p.1 p.2
def Sg (K : PySem.W.Frag) (H : Hp) (σ : St) (δ : Dl) : Prop := ∀ (i : Nat) (d : D), δ[i]? = some (some d) → ∃ v, σ[i]? = some (some v) ∧ Den K H v d
structure Ok (K : PySem.W.Frag) (H : Hp) (σ : St) (δ : Dl) (μ : Mu) : Prop where
  m : OkM K H μ
  s : Sg K H σ δ
  l : σ.length = δ.length
/-- all but the footprint stands; the footprint grows by what is new -/
structure Step (μ : Mu) (H : Hp) (μ' : Mu) (H' : Hp) : Prop where
  keep : ∀ a o, H a = some o → a ∉ foot μ → H' a = some o
  grow : ∀ a ∈ foot μ', a ∈ foot μ ∨ H a = none
theorem Step.refl {μ : Mu} {H : Hp} : Step μ H μ H := ⟨fun _ _ h _ => h, fun _ h => .inl h⟩
theorem Step.trans {μ μ1 μ2 : Mu} {H H1 H2 : Hp} (a : Step μ H μ1 H1) (b : Step μ1 H1 μ2 H2) : Step μ H μ2 H2 where
  keep := fun x o h n => b.keep x o (a.keep x o h n) fun z => by
    rcases a.grow x z with z | z
    · exact n z
    · rw [h] at z; cases z
  grow := fun x z => by
    rcases b.grow x z with z | z
    · exact a.grow x z
    · by_cases hx : x ∈ foot μ
      · exact .inl hx
      · cases q : H x with
        | none => exact .inr rfl
        | some o =>
          rw [a.keep x o q hx] at z; cases z
section
variable {K : PySem.W.Frag} {H H' : Hp} {μ μ' : Mu} {σ : St} {δ : Dl}
/-- at a footprint's address stands a list or a dict -/
def isMt : HO → Bool
  | .lst _ => true | .dK _ => true | .dT _ => true | .ins _ _ _ => true | .own _ => true | .xd _ => true | _ => false
theorem foot_mt : ∀ {μ : Mu}, (∀ p ∈ μ, MOk K H p.1 p.2) → ∀ a ∈ foot μ, ∃ o, H a = some o ∧ isMt o = true
  | [], _, a, h => by cases h
  | p :: μ, ok, a, h => by
    have hp := ok p List.mem_cons_self
    rcases List.mem_cons.mp h with e | h
    · subst e
      obtain ⟨x, m⟩ := p
      cases m with
      | lst ds => obtain ⟨vs, e, _⟩ := hp; exact ⟨_, e, rfl⟩
      | dic ks => obtain ⟨vs, e, _⟩ := hp; exact ⟨_, e, rfl⟩
      | deck ks c => obtain ⟨_, _, _, _, e, _⟩ := hp; exact ⟨_, e, rfl⟩
      | ldk c => obtain ⟨_, _, _, _, _, _, e, _⟩ := hp; exact ⟨_, e, rfl⟩
      | hid I => obtain ⟨_, _, e⟩ := hp; exact ⟨_, e, rfl⟩
      | dit ks => obtain ⟨_, e, _⟩ := hp; exact ⟨_, e, rfl⟩
      | obj C dx fs => obtain ⟨_, e, _⟩ := hp; exact ⟨_, e, rfl⟩
      | xdt fs => obtain ⟨_, e, _⟩ := hp; exact ⟨_, e, rfl⟩
      | lkc I c => obtain ⟨_, _, _, _, e, _⟩ := hp; exact ⟨_, e, rfl⟩
    · rcases List.mem_append.mp h with h | h
      · obtain ⟨x, m⟩ := p
        cases m with
        | lst ds => cases h
        | dic ks => cases h
        | deck ks c =>
          obtain ⟨_, _, _, _, _, e⟩ := hp
          rcases List.mem_singleton.mp h with rfl
          exact ⟨_, e, rfl⟩
        | ldk c =>
          obtain ⟨_, _, _, _, _, _, _, e⟩ := hp
          rcases List.mem_singleton.mp h with rfl
          exact ⟨_, e, rfl⟩
        | hid I => cases h
        | dit ks => cases h
        | xdt fs => cases h
        | obj C dx fs =>
          obtain ⟨_, _, e, _⟩ := hp
          rcases List.mem_singleton.mp h with rfl
          exact ⟨_, e, rfl⟩
        | lkc I c =>
          obtain ⟨_, _, _, _, _, e⟩ := hp
          rcases List.mem_singleton.mp h with rfl
          exact ⟨_, e, rfl⟩
      · exact foot_mt (fun q hq => ok q (List.mem_cons_of_mem _ hq)) a h
theorem OkM.rd (h : OkM K H μ) {a : Addr} {o : HO} (e : H a = some o) (ho : isMt o = false) : a ∉ foot μ := fun z => by
  obtain ⟨u, e2, m⟩ := foot_mt h.ok a z
  rw [e] at e2; cases e2; rw [ho] at m; cases m
theorem tpA_step (h : OkM K H μ) (st : Step μ H μ' H') {a : Addr} {vs : List V} (q : TpA K H a vs) : TpA K H' a vs := st.keep _ _ q (h.rd q rfl)
theorem sqT_step (h : OkM K H μ) (st : Step μ H μ' H') {a : Addr} {vs : List V} (q : SqT K H a vs) : SqT K H' a vs := by
  rcases q with (q | ⟨o, q⟩) | q
  · exact .inl (.inl (st.keep _ _ q (h.rd q rfl)))
  · exact .inl (.inr ⟨o, st.keep _ _ q (h.rd q rfl)⟩)
  · exact .inr q
/-- what is needed of the heap by data -/
def Ps (K : PySem.W.Frag) (H H' : Hp) : Prop := (∀ a vs, TpA K H a vs → TpA K H' a vs) ∧ (∀ a vs, SqF K H a vs → SqF K H' a vs) ∧ ∀ a o u, H a = some (.frz o u) → H' a = some (.frz o u)
theorem ps_step (h : OkM K H μ) (st : Step μ H μ' H') : Ps K H H' := ⟨fun _ _ => tpA_step h st, fun a vs q => by
  rcases q with ⟨o, q⟩ | q
  · exact .inl ⟨o, st.keep _ _ q (h.rd q rfl)⟩
  · exact .inr q, fun a o u q => st.keep _ _ q (h.rd q rfl)⟩
mutual
theorem Den.step' (h : Ps K H H') : ∀ {d : D} {v : V}, Den K H v d → Den K H' v d
  | _, _, .non => .non
  | _, _, .bl b => .bl b
  | _, _, .int b => .int b
  | _, _, .str b => .str b
  | _, _, .ref b => .ref b
  | _, _, .ty b => .ty b
  | _, _, .tup q r => .tup (h.1 _ _ q) (DenL.step' h r)
  | _, _, .scr q => .scr (h.2.1 _ _ q)
  | _, _, .lis q r => .lis (h.2.2 _ _ _ q) (DenL.step' h r)
  | _, _, .dct q e r => .dct (h.2.2 _ _ _ q) e (DenL.step' h r)
theorem DenL.step' (h : Ps K H H') : ∀ {ds : List D} {vs : List V}, DenL K H vs ds → DenL K H' vs ds
  | _, _, .nil => .nil
  | _, _, .cons a b => .cons (Den.step' h a) (DenL.step' h b)
end
theorem DenK.step' (h : Ps K H H') : ∀ {ds : List (Key × D)} {vs : List (Key × V)}, DenK K H vs ds → DenK K H' vs ds
  | _, _, .nil => .nil
  | _, _, .cons a b => .cons (Den.step' h a) (DenK.step' h b)
theorem DenP.step' {κ : Type} (h : Ps K H H') : ∀ {ds : List (κ × D)} {vs : List (κ × V)}, DenP K H vs ds → DenP K H' vs ds
  | _, _, .nil => .nil
  | _, _, .cons a b => .cons (Den.step' h a) (DenP.step' h b)
theorem Den.step (h : OkM K H μ) (st : Step μ H μ' H') {v : V} {d : D} (q : Den K H v d) : Den K H' v d := Den.step' (ps_step h st) q
theorem DenL.step (h : OkM K H μ) (st : Step μ H μ' H') {v : List V} {d : List D} (q : DenL K H v d) : DenL K H' v d := DenL.step' (ps_step h st) q
theorem DenL.length : ∀ {vs : List V} {ds : List D}, DenL K H vs ds → vs.length = ds.length
  | _, _, .nil => rfl
  | _, _, .cons _ b => congrArg (· + 1) b.length
theorem DenL.get : ∀ {vs : List V} {ds : List D} {i : Nat} {d : D}, DenL K H vs ds → ds[i]? = some d → ∃ v, vs[i]? = some v ∧ Den K H v d
  | _, _, _, _, .nil, e => by simp at e
  | _, _, 0, _, .cons r _, e => by simp at e; subst e; exact ⟨_, rfl, r⟩
  | _, _, i + 1, d, .cons _ t, e => by
    obtain ⟨u, h1, h2⟩ := DenL.get (i := i) (d := d) t (by simpa using e)
    exact ⟨u, by simpa using h1, h2⟩
theorem DenL.get' : ∀ {vs : List V} {ds : List D} {i : Nat} {v : V}, DenL K H vs ds → vs[i]? = some v → ∃ d, ds[i]? = some d ∧ Den K H v d
  | _, _, _, _, .nil, e => by simp at e
  | _, _, 0, _, .cons r _, e => by simp at e; subst e; exact ⟨_, rfl, r⟩
  | _, _, i + 1, d, .cons _ t, e => by
    obtain ⟨u, h1, h2⟩ := DenL.get' (i := i) (v := d) t (by simpa using e)
    exact ⟨u, by simpa using h1, h2⟩
theorem DenL.append : ∀ {xs ys : List V} {us ws : List D}, DenL K H xs us → DenL K H ys ws → DenL K H (xs ++ ys) (us ++ ws)
  | _, _, _, _, .nil, s => s
  | _, _, _, _, .cons r t, s => .cons r (DenL.append t s)
theorem DenL.take : ∀ {xs : List V} {us : List D} (n : Nat), DenL K H xs us → DenL K H (xs.take n) (us.take n)
  | _, _, 0, _ => .nil
  | _, _, _ + 1, .nil => .nil
  | _, _, n + 1, .cons r t => .cons r (DenL.take n t)
theorem DenL.drop : ∀ {xs : List V} {us : List D} (n : Nat), DenL K H xs us → DenL K H (xs.drop n) (us.drop n)
  | _, _, 0, r => r
  | _, _, _ + 1, .nil => .nil
  | _, _, n + 1, .cons _ t => DenL.drop n t
theorem DenL.set {x : V} {u : D} (r : Den K H x u) : ∀ {xs : List V} {us : List D} (i : Nat), DenL K H xs us → DenL K H (xs.set i x) (us.set i u)
  | _, _, _, .nil => .nil
  | _, _, 0, .cons _ t => .cons r t
  | _, _, i + 1, .cons q t => .cons q (DenL.set r i t)
theorem DenL.eraseIdx : ∀ {xs : List V} {us : List D} (i : Nat), DenL K H xs us → DenL K H (xs.eraseIdx i) (us.eraseIdx i)
  | _, _, _, .nil => .nil
  | _, _, 0, .cons _ t => t
  | _, _, i + 1, .cons q t => .cons q (DenL.eraseIdx i t)
theorem DenL.dropLast {xs : List V} {us : List D} (h : DenL K H xs us) : DenL K H xs.dropLast us.dropLast := by
  rw [List.dropLast_eq_take, List.dropLast_eq_take, h.length]; exact h.take _
theorem DenL.reverse : ∀ {xs : List V} {us : List D}, DenL K H xs us → DenL K H xs.reverse us.reverse
  | _, _, .nil => .nil
  | _, _, .cons r t => by rw [List.reverse_cons, List.reverse_cons]; exact DenL.append (DenL.reverse t) (.cons r .nil)
theorem DenL.ints : ∀ {vs : List V} {ns : List Int}, DenL K H vs (ns.map D.int) → vs = ns.map V.int
  | vs, [], h => by cases h; rfl
  | vs, n :: ns, h => by
    cases h with
    | cons a b => cases a; rw [DenL.ints b]; rfl
theorem DenL.of_ints : ∀ (ns : List Int), DenL K H (ns.map V.int) (ns.map D.int)
  | [] => .nil
  | n :: ns => .cons (.int n) (DenL.of_ints ns)
theorem DenL.bls : ∀ {vs : List V} {ns : List Bool}, DenL K H vs (ns.map D.bl) → vs = ns.map V.bl
  | vs, [], h => by cases h; rfl
  | vs, n :: ns, h => by
    cases h with
    | cons a b => cases a; rw [DenL.bls b]; rfl

/-- an entry elsewhere in the heap is kept -/
theorem MOk.keep {a : Addr} {m : M} (q : MOk K H a m) (k : ∀ b o, (b = a ∨ b ∈ m.own) → H b = some o → H' b = some o) (h : Ps K H H') : MOk K H' a m := by
  cases m with
  | lst ds => obtain ⟨vs, e, r⟩ := q; exact ⟨vs, k _ _ (.inl rfl) e, DenL.step' h r⟩
  | dic ds => obtain ⟨vs, e, r⟩ := q; exact ⟨vs, k _ _ (.inl rfl) e, DenK.step' h r⟩
  | deck ks c => obtain ⟨ns, cs, z, z2, e1, e2⟩ := q; exact ⟨ns, cs, z, z2, k _ _ (.inl rfl) e1, k _ _ (.inr (List.mem_singleton.mpr rfl)) e2⟩
  | ldk c => obtain ⟨x, y, z, cs, z1, z2, e1, e2⟩ := q; exact ⟨x, y, z, cs, z1, z2, k _ _ (.inl rfl) e1, k _ _ (.inr (List.mem_singleton.mpr rfl)) e2⟩
  | hid I => obtain ⟨ns, z, e⟩ := q; exact ⟨ns, z, k _ _ (.inl rfl) e⟩
  | dit ds => obtain ⟨vs, e, r⟩ := q; exact ⟨vs, k _ _ (.inl rfl) e, DenP.step' h r⟩
  | obj C dx fs => obtain ⟨vs, e1, e2, r⟩ := q; exact ⟨vs, k _ _ (.inl rfl) e1, k _ _ (.inr (List.mem_singleton.mpr rfl)) e2, DenP.step' h r⟩
  | xdt ds => obtain ⟨vs, e, r⟩ := q; exact ⟨vs, k _ _ (.inl rfl) e, DenP.step' h r⟩
  | lkc I c => obtain ⟨ns, cs, z, z2, e1, e2⟩ := q; exact ⟨ns, cs, z, z2, k _ _ (.inl rfl) e1, k _ _ (.inr (List.mem_singleton.mpr rfl)) e2⟩
theorem mem_foot {μ : Mu} {p : Addr × M} (h : p ∈ μ) : ∀ b, (b = p.1 ∨ b ∈ p.2.own) → b ∈ foot μ := by
  induction μ with
  | nil => cases h
  | cons q μ ih =>
    intro b hb
    rcases List.mem_cons.mp h with e | h
    · subst e
      rcases hb with e | e
      · rw [e]; exact List.mem_cons_self
      · exact List.mem_cons_of_mem _ (List.mem_append_left _ e)
    · exact List.mem_cons_of_mem _ (List.mem_append_right _ (ih h b hb))
/-- behind a step: the slots -/
theorem Ok.step (h : Ok K H σ δ μ) (st : Step μ H μ' H') (m : OkM K H' μ') : Ok K H' σ δ μ' :=
  ⟨m, fun i d e => let ⟨v, e1, q⟩ := h.s i d e; ⟨v, e1, q.step h.m st⟩, h.l⟩
theorem Ok.set (h : Ok K H σ δ μ) {v : V} {d : D} (q : Den K H v d) (i : Nat) : Ok K H (σ.set i (some v)) (δ.set i (some d)) μ :=
  ⟨h.m, fun j e z => by
    rw [List.getElem?_set] at z
    rw [List.getElem?_set]
    by_cases c : i = j
    · rw [if_pos c] at z ⊢
      by_cases l : i < δ.length
      · rw [if_pos l] at z
        cases z
        rw [if_pos (by rw [h.l]; exact l)]
        exact ⟨v, rfl, q⟩
      · rw [if_neg l] at z; cases z
    · rw [if_neg c] at z ⊢
      exact h.s j e z, by rw [List.length_set, List.length_set, h.l]⟩
/-- a new object, tracked or not -/
theorem step_new {p : Addr} {o : HO} (hp : H p = none) : Step μ H μ (upd H p o) := ⟨fun a u e _ => by rw [upd_ne (ne_of_none e hp)]; exact e, fun _ z => .inl z⟩
theorem OkM.not {p : Addr} (h : OkM K H μ) (hp : H p = none) : p ∉ foot μ := fun z => by
  obtain ⟨o, e, _⟩ := foot_mt h.ok p z
  rw [hp] at e; cases e
theorem OkM.new {p : Addr} {o : HO} (h : OkM K H μ) (hp : H p = none) : OkM K (upd H p o) μ :=
  ⟨h.nd, fun q hq => (h.ok q hq).keep (fun b u _ e => by rw [upd_ne (ne_of_none e hp)]; exact e) (ps_step h (step_new hp))⟩
/-- a new mutable object joins -/
theorem step_join {p : Addr} {o : HO} {m : M} (hp : H p = none) (hm : m.own = []) : Step μ H ((p, m) :: μ) (upd H p o) :=
  ⟨(step_new (μ := μ) hp).keep, fun a z => by
    rcases List.mem_cons.mp z with e | z
    · rw [e]; exact .inr hp
    · rw [hm] at z; exact .inl z⟩
theorem OkM.join {p : Addr} {o : HO} {m : M} (h : OkM K H μ) (hp : H p = none) (hm : m.own = []) (hk : MOk K (upd H p o) p m) : OkM K (upd H p o) ((p, m) :: μ) :=
  ⟨by
    show (p :: (m.own ++ foot μ)).Nodup
    rw [hm]
    exact List.nodup_cons.mpr ⟨h.not hp, h.nd⟩, fun q hq => by
    rcases List.mem_cons.mp hq with e | hq
    · rw [e]; exact hk
    · exact (h.new hp).ok q hq⟩
theorem foot_set : ∀ {μ : Mu} {i : Nat} {a : Addr} {m m' : M}, μ[i]? = some (a, m) → m.own = m'.own → foot (μ.set i (a, m')) = foot μ
  | [], i, _, _, _, e, _ => by simp at e
  | p :: μ, 0, a, m, m', e, h => by
    simp at e
    subst e
    show a :: (m'.own ++ foot μ) = a :: (m.own ++ foot μ)
    rw [h]
  | p :: μ, i + 1, a, m, m', e, h => by
    show p.1 :: (p.2.own ++ foot (μ.set i (a, m'))) = p.1 :: (p.2.own ++ foot μ)
    rw [foot_set (μ := μ) (by simpa using e) h]
theorem foot_get : ∀ {μ : Mu} {i j : Nat} {p q : Addr × M}, (foot μ).Nodup → μ[i]? = some p → μ[j]? = some q → i ≠ j → ∀ b, (b = q.1 ∨ b ∈ q.2.own) → b ≠ p.1 ∧ b ∉ p.2.own
  | [], i, j, p, q, _, e, _, _, _, _ => by simp at e
  | r :: μ, 0, 0, p, q, _, _, _, n, _, _ => absurd rfl n
  | r :: μ, 0, j + 1, p, q, nd, e1, e2, _, b, hb => by
    simp at e1 e2
    subst e1
    have hm := mem_foot (List.mem_of_getElem? e2) b hb
    obtain ⟨h1, h2⟩ := List.nodup_cons.mp (show (r.1 :: (r.2.own ++ foot μ)).Nodup from nd)
    refine ⟨fun z => h1 (z ▸ List.mem_append_right _ hm), fun z => ?_⟩
    exact (List.nodup_append.mp h2).2.2 b z b hm rfl
  | r :: μ, i + 1, 0, p, q, nd, e1, e2, _, b, hb => by
    simp at e1 e2
    subst e2
    obtain ⟨h1, h2⟩ := List.nodup_cons.mp (show (r.1 :: (r.2.own ++ foot μ)).Nodup from nd)
    have hp1 := mem_foot (List.mem_of_getElem? e1) p.1 (.inl rfl)
    rcases hb with e | e
    · subst e
      exact ⟨fun z => h1 (z ▸ List.mem_append_right _ hp1), fun z => h1 (List.mem_append_right _ (mem_foot (List.mem_of_getElem? e1) _ (.inr z)))⟩
    · exact ⟨fun z => (List.nodup_append.mp h2).2.2 b e p.1 hp1 z, fun z => (List.nodup_append.mp h2).2.2 b e b (mem_foot (List.mem_of_getElem? e1) _ (.inr z)) rfl⟩
  | r :: μ, i + 1, j + 1, p, q, nd, e1, e2, n, b, hb => by
    obtain ⟨h1, h2⟩ := List.nodup_cons.mp (show (r.1 :: (r.2.own ++ foot μ)).Nodup from nd)
    exact foot_get (List.nodup_append.mp h2).2.1 (by simpa using e1) (by simpa using e2) (by omega) b hb
/-- a mutable object is written -/
theorem step_set {i : Nat} {a : Addr} {m m' : M} {o : HO} (e : μ[i]? = some (a, m)) (hm : m.own = m'.own) : Step μ H (μ.set i (a, m')) (upd H a o) :=
  ⟨fun b u h n => by
    rw [upd_ne (show b ≠ a from fun z => n (by rw [z]; exact mem_foot (List.mem_of_getElem? e) a (.inl rfl)))]
    exact h, fun b z => by rw [foot_set e hm] at z; exact .inl z⟩
theorem OkM.set {i : Nat} {a : Addr} {m m' : M} {o : HO} (h : OkM K H μ) (e : μ[i]? = some (a, m)) (hm : m.own = m'.own) (hk : MOk K (upd H a o) a m') : OkM K (upd H a o) (μ.set i (a, m')) :=
  ⟨by rw [foot_set e hm]; exact h.nd, fun q hq => by
    obtain ⟨j, hj⟩ := List.getElem?_of_mem hq
    rw [List.getElem?_set] at hj
    by_cases c : i = j
    · rw [if_pos c] at hj
      split at hj
      · cases hj; exact hk
      · cases hj
    · rw [if_neg c] at hj
      exact (h.ok q (List.mem_of_getElem? hj)).keep (fun b u hb z => by
        rw [upd_ne (foot_get h.nd e hj c b hb).1]; exact z) (ps_step h (step_set (m' := m') e hm))⟩
theorem OkM.at {i : Nat} {a : Addr} {m : M} (h : OkM K H μ) (e : μ[i]? = some (a, m)) : MOk K H a m := h.ok _ (List.mem_of_getElem? e)
end

/-! ### the readings, lifted -/
section
variable (K : PySem.W.Frag)
def W (te : TE) (δ : Dl) (μ : Mu) (P : D → Mu → Prop) : Prop := ∀ (σ : St) (H : Hp), Ok K H σ δ μ → ∀ Q : VK,
  (∀ v H' d μ', Step μ H μ' H' → OkM K H' μ' → Den K H' v d → P d μ' → Q v H') → te σ H Q
def WT (tt : TT) (δ : Dl) (μ : Mu) (P : Bool → Mu → Prop) : Prop := ∀ (σ : St) (H : Hp), Ok K H σ δ μ → ∀ Q : Bool → Hp → Prop,
  (∀ b H' μ', Step μ H μ' H' → OkM K H' μ' → P b μ' → Q b H') → tt σ H Q
def WA (ta : TA) (δ : Dl) (μ : Mu) (P : List D → Mu → Prop) : Prop := ∀ (σ : St) (H : Hp), Ok K H σ δ μ → ∀ Q : List V → Hp → Prop,
  (∀ vs H' ds μ', Step μ H μ' H' → OkM K H' μ' → DenL K H' vs ds → P ds μ' → Q vs H') → ta σ H Q
def WO (to : TO) (δ : Dl) (μ : Mu) (P : Option Int → Mu → Prop) : Prop := ∀ (σ : St) (H : Hp), Ok K H σ δ μ → ∀ Q : Option Int → Hp → Prop,
  (∀ o H' μ', Step μ H μ' H' → OkM K H' μ' → P o μ' → Q o H') → to σ H Q
/-- two values -/
def W2 (r : R2) (x y : D) (μ : Mu) (P : D → Mu → Prop) : Prop := ∀ (H : Hp) (v u : V), OkM K H μ → Den K H v x → Den K H u y → ∀ Q : VK,
  (∀ v H' d μ', Step μ H μ' H' → OkM K H' μ' → Den K H' v d → P d μ' → Q v H') → r v u H Q
def W1 (r : V → Hp → VK → Prop) (x : D) (μ : Mu) (P : D → Mu → Prop) : Prop := ∀ (H : Hp) (v : V), OkM K H μ → Den K H v x → ∀ Q : VK,
  (∀ v H' d μ', Step μ H μ' H' → OkM K H' μ' → Den K H' v d → P d μ' → Q v H') → r v H Q
/-- a built-in called with values -/
def WC (r : List V → Hp → VK → Prop) (xs : List D) (μ : Mu) (P : D → Mu → Prop) : Prop := ∀ (H : Hp) (vs : List V), OkM K H μ → DenL K H vs xs → ∀ Q : VK,
  (∀ v H' d μ', Step μ H μ' H' → OkM K H' μ' → Den K H' v d → P d μ' → Q v H') → r vs H Q
/-- a method of a built-in type -/
def WM (r : V → List V → Hp → VK → Prop) (x : D) (xs : List D) (μ : Mu) (P : D → Mu → Prop) : Prop := ∀ (H : Hp) (v : V) (vs : List V), OkM K H μ → Den K H v x → DenL K H vs xs → ∀ Q : VK,
  (∀ v H' d μ', Step μ H μ' H' → OkM K H' μ' → Den K H' v d → P d μ' → Q v H') → r v vs H Q
structure DE where
  nx : Dl → Mu → Prop
  rt : D → Mu → Prop
  bk : Dl → Mu → Prop
  ct : Dl → Mu → Prop
def WS (ts : TS) (δ : Dl) (μ : Mu) (P : DE) : Prop := ∀ (σ : St) (H : Hp), Ok K H σ δ μ → ∀ Dn : Ends,
  (∀ σ' H' δ' μ', Step μ H μ' H' → Ok K H' σ' δ' μ' → P.nx δ' μ' → Dn.nx σ' H') →
  (∀ v H' d μ', Step μ H μ' H' → OkM K H' μ' → Den K H' v d → P.rt d μ' → Dn.rt v H') →
  (∀ σ' H' δ' μ', Step μ H μ' H' → Ok K H' σ' δ' μ' → P.bk δ' μ' → Dn.bk σ' H') →
  (∀ σ' H' δ' μ', Step μ H μ' H' → Ok K H' σ' δ' μ' → P.ct δ' μ' → Dn.ct σ' H') → ts Dn σ H
def WG (g : TG) (d : D) (δ : Dl) (μ : Mu) (P : Dl → Mu → Prop) : Prop := ∀ (σ : St) (H : Hp) (v : V), Ok K H σ δ μ → Den K H v d → ∀ Q : St → Hp → Prop,
  (∀ σ' H' δ' μ', Step μ H μ' H' → Ok K H' σ' δ' μ' → P δ' μ' → Q σ' H') → g v σ H Q
def WGs (g : TGs) (ds : List D) (δ : Dl) (μ : Mu) (P : Dl → Mu → Prop) : Prop := ∀ (σ : St) (H : Hp) (vs : List V), Ok K H σ δ μ → DenL K H vs ds → ∀ Q : St → Hp → Prop,
  (∀ σ' H' δ' μ', Step μ H μ' H' → Ok K H' σ' δ' μ' → P δ' μ' → Q σ' H') → g vs σ H Q
/-- at H the iterator J walks ds -/
def Wlk (J : It) (ds : List D) (H : Hp) (μ : Mu) : Prop := (∀ i, ds.length ≤ i → J.stop i H) ∧ ∀ i d, ds[i]? = some d → J.go i H ∧ ∀ x H', J.yld i H x H' → Step μ H μ H' ∧ OkM K H' μ ∧ Den K H' x d
def WI (wi : TI) (δ : Dl) (μ : Mu) (P : List D → (Mu → Prop) → Mu → Prop) : Prop := ∀ (σ : St) (H : Hp), Ok K H σ δ μ → ∀ R : It → Hp → Prop,
  (∀ J H' ds G μ', Step μ H μ' H' → OkM K H' μ' → (∀ H'' μ'', Step μ' H' μ'' H'' → OkM K H'' μ'' → G μ'' → Wlk K J ds H'' μ'') → P ds G μ' → R J H') → wi σ H R
end
end Wk

set_option Elab.async false
set_option linter.all false
set_option maxRecDepth 100000
namespace Wk
open PySem PySem.Spec L2

section
variable {K : PySem.W.Frag} {δ : Dl} {μ : Mu} {P : D → Mu → Prop} {PT : Bool → Mu → Prop} {PA : List D → Mu → Prop} {PO : Option Int → Mu → Prop} {E : DE} {ta tb tc te : TE} {t u : TT} {al ar : TA} {ts ts1 ts2 : TS} {g : TG} {gs : TGs} {x y d : D} {xs ds : List D}

/-! ### values -/
theorem w_var {i : Nat} (h : δ[i]? = some (some d)) (q : P d μ) : W K (tVar i) δ μ P := fun σ H ok Q f =>
  let ⟨v, e, r⟩ := ok.s i d h
  ⟨v, e, f v H d μ .refl ok.m r q⟩
theorem w_int {n : Int} (q : P (.int n) μ) : W K (tC (.int n)) δ μ P := fun σ H ok Q f => f _ H _ μ .refl ok.m (.int n) q
theorem w_bl {n : Bool} (q : P (.bl n) μ) : W K (tC (.bl n)) δ μ P := fun σ H ok Q f => f _ H _ μ .refl ok.m (.bl n) q
theorem w_str {n : Str} (q : P (.str n) μ) : W K (tC (.str n)) δ μ P := fun σ H ok Q f => f _ H _ μ .refl ok.m (.str n) q
theorem w_non (q : P .non μ) : W K (tC .non) δ μ P := fun σ H ok Q f => f _ H _ μ .refl ok.m .non q
theorem w_ty {n : String} (q : P (.ty n) μ) : W K (tC (.ty n)) δ μ P := fun σ H ok Q f => f _ H _ μ .refl ok.m (.ty n) q
theorem w_refc {a : Addr} (q : P (.ref a) μ) : W K (tC (.ref a)) δ μ P := fun σ H ok Q f => f _ H _ μ .refl ok.m (.ref a) q
theorem w_op {r : R2} (h : W K ta δ μ fun x μ1 => W K tb δ μ1 fun y μ2 => W2 K r x y μ2 P) : W K (tOp r ta tb) δ μ P := fun σ H ok Q f =>
  h σ H ok _ fun v H1 x μ1 s1 m1 r1 h1 => h1 σ H1 (ok.step s1 m1) _ fun u H2 y μ2 s2 m2 r2 h2 =>
    h2 H2 v u m2 (r1.step m1 s2) r2 Q fun z H3 d μ3 s3 m3 r3 p => f z H3 d μ3 (s1.trans (s2.trans s3)) m3 r3 p
theorem w_un {r : V → Hp → VK → Prop} (h : W K ta δ μ fun x μ1 => W1 K r x μ1 P) : W K (tUn r ta) δ μ P := fun σ H ok Q f =>
  h σ H ok _ fun v H1 x μ1 s1 m1 r1 h1 => h1 H1 v m1 r1 Q fun z H3 d μ3 s3 m3 r3 p => f z H3 d μ3 (s1.trans s3) m3 r3 p
theorem wa_nil (q : PA [] μ) : WA K tNil δ μ PA := fun σ H ok Q f => f [] H [] μ .refl ok.m .nil q
theorem wa_cons (h : W K ta δ μ fun x μ1 => WA K ar δ μ1 fun xs μ2 => PA (x :: xs) μ2) : WA K (tCons ta ar) δ μ PA := fun σ H ok Q f =>
  h σ H ok _ fun v H1 x μ1 s1 m1 r1 h1 => h1 σ H1 (ok.step s1 m1) _ fun vs H2 xs μ2 s2 m2 r2 p => f (v :: vs) H2 (x :: xs) μ2 (s1.trans s2) m2 (.cons (r1.step m1 s2) r2) p
theorem w_tup (h : WA K al δ μ fun ds μ1 => ds.length ≤ sizeLine ∧ P (.tup ds) μ1) : W K (tTup al) δ μ P := fun σ H ok Q f =>
  h σ H ok _ fun vs H1 ds μ1 s1 m1 r1 ⟨z, p⟩ => ⟨by rw [r1.length]; exact z, fun a ha =>
    f (.ref a) _ (.tup ds) μ1 (s1.trans (step_new ha)) (m1.new ha) (.tup upd_same (r1.step m1 (step_new ha))) p⟩
theorem w_lst (h : WA K al δ μ fun ds μ1 => ds.length ≤ sizeLine ∧ ∀ p, P (.ref p) ((p, .lst ds) :: μ1)) : W K (tLst al) δ μ P := fun σ H ok Q f =>
  h σ H ok _ fun vs H1 ds μ1 s1 m1 r1 ⟨z, p⟩ => ⟨by rw [r1.length]; exact z, fun a ha =>
    f (.ref a) _ (.ref a) ((a, .lst ds) :: μ1) (s1.trans (step_join ha rfl)) (m1.join ha rfl ⟨vs, upd_same, r1.step m1 (step_new ha)⟩) (.ref a) (p a)⟩
theorem w_dnew (h : ∀ p, P (.ref p) ((p, .dic []) :: μ)) : W K tDNewK δ μ P := fun σ H ok Q f a ha =>
  f (.ref a) _ (.ref a) ((a, .dic []) :: μ) (step_join ha rfl) (ok.m.join ha rfl ⟨[], upd_same, .nil⟩) (.ref a) (h a)
theorem w_cb {r : List V → Hp → VK → Prop} (h : WA K al δ μ fun ds μ1 => WC K r ds μ1 P) : W K (tCB r al) δ μ P := fun σ H ok Q f =>
  h σ H ok _ fun vs H1 ds μ1 s1 m1 r1 h1 => h1 H1 vs m1 r1 Q fun z H3 d μ3 s3 m3 r3 p => f z H3 d μ3 (s1.trans s3) m3 r3 p
theorem w_bm {T : String} {r : V → List V → Hp → VK → Prop} (h : W K ta δ μ fun x μ1 => (∀ H v, OkM K H μ1 → Den K H v x → tyV K T v H) ∧ WA K al δ μ1 fun ds μ2 => WM K r x ds μ2 P) : W K (tBM K T r ta al) δ μ P := fun σ H ok Q f =>
  h σ H ok _ fun v H1 x μ1 s1 m1 r1 h1 => ⟨h1.1 H1 v m1 r1, h1.2 σ H1 (ok.step s1 m1) _ fun vs H2 xs μ2 s2 m2 r2 h2 => h2 H2 v vs m2 (r1.step m1 s2) r2 Q fun z H3 d μ3 s3 m3 r3 p => f z H3 d μ3 (s1.trans (s2.trans s3)) m3 r3 p⟩
theorem w_bm0 {T : String} {r : V → List V → Hp → VK → Prop} (h : W K ta δ μ fun x μ1 => (∀ H v, OkM K H μ1 → Den K H v x → tyV K T v H) ∧ WM K r x [] μ1 P) : W K (tBM0 K T r ta) δ μ P := fun σ H ok Q f =>
  h σ H ok _ fun v H1 x μ1 s1 m1 r1 h1 => ⟨h1.1 H1 v m1 r1, h1.2 H1 v [] m1 r1 .nil Q fun z H3 d μ3 s3 m3 r3 p => f z H3 d μ3 (s1.trans s3) m3 r3 p⟩
theorem wo_none (q : PO none μ) : WO K tNoPart δ μ PO := fun σ H ok Q f => f _ H μ .refl ok.m q
theorem wo_some (h : W K ta δ μ fun x μ1 => ∃ i, x = .int i ∧ PO (some i) μ1) : WO K (tPart ta) δ μ PO := fun σ H ok Q f =>
  h σ H ok _ fun v H1 x μ1 s1 m1 r1 ⟨i, e, q⟩ => by
    subst e
    cases r1
    exact ⟨i, rfl, f _ H1 μ1 s1 m1 q⟩
/-- a slice by values -/
def WSl (K : PySem.W.Frag) (r : V → Option Int → Option Int → Hp → VK → Prop) (x : D) (lo hi : Option Int) (μ : Mu) (P : D → Mu → Prop) : Prop := ∀ (H : Hp) (v : V), OkM K H μ → Den K H v x → ∀ Q : VK,
  (∀ v H' d μ', Step μ H μ' H' → OkM K H' μ' → Den K H' v d → P d μ' → Q v H') → r v lo hi H Q
theorem w_sl {r : V → Option Int → Option Int → Hp → VK → Prop} {tl th : TO} (h : W K ta δ μ fun x μ1 => WO K tl δ μ1 fun lo μ2 => WO K th δ μ2 fun hi μ3 => WSl K r x lo hi μ3 P) : W K (tSl r ta tl th) δ μ P := fun σ H ok Q f =>
  h σ H ok _ fun v H1 x μ1 s1 m1 r1 h1 => h1 σ H1 (ok.step s1 m1) _ fun lo H2 μ2 s2 m2 h2 => h2 σ H2 (ok.step (s1.trans s2) m2) _ fun hi H3 μ3 s3 m3 h3 =>
    h3 H3 v m3 ((r1.step m1 s2).step m2 s3) Q fun z H4 d μ4 s4 m4 r4 p => f z H4 d μ4 (s1.trans (s2.trans (s3.trans s4))) m4 r4 p
theorem w_ifE (h : WT K t δ μ fun b μ1 => (b = true → W K ta δ μ1 P) ∧ (b = false → W K tb δ μ1 P)) : W K (tIf t ta tb) δ μ P := fun σ H ok Q f =>
  h σ H ok _ fun b H1 μ1 s1 m1 ⟨h1, h2⟩ => by
    cases b with
    | true => exact iteT (h1 rfl σ H1 (ok.step s1 m1) Q fun z H2 d μ2 s2 m2 r2 p => f z H2 d μ2 (s1.trans s2) m2 r2 p)
    | false => exact iteF (h2 rfl σ H1 (ok.step s1 m1) Q fun z H2 d μ2 s2 m2 r2 p => f z H2 d μ2 (s1.trans s2) m2 r2 p)
theorem w_andV (h : W K ta δ μ fun x μ1 => ∃ b, x = .bl b ∧ (b = true → W K tb δ μ1 P) ∧ (b = false → P (.bl false) μ1)) : W K (tAndV ta tb) δ μ P := fun σ H ok Q f =>
  h σ H ok _ fun v H1 x μ1 s1 m1 r1 ⟨b, e, h1, h2⟩ => by
    subst e
    cases r1
    refine ⟨b, rfl, ?_⟩
    cases b with
    | true => exact iteT (h1 rfl σ H1 (ok.step s1 m1) Q fun z H2 d μ2 s2 m2 r2 p => f z H2 d μ2 (s1.trans s2) m2 r2 p)
    | false => exact iteF (f _ H1 _ μ1 s1 m1 (.bl false) (h2 rfl))
theorem w_orV (h : W K ta δ μ fun x μ1 => ∃ b, x = .bl b ∧ (b = true → P (.bl true) μ1) ∧ (b = false → W K tb δ μ1 P)) : W K (tOrV ta tb) δ μ P := fun σ H ok Q f =>
  h σ H ok _ fun v H1 x μ1 s1 m1 r1 ⟨b, e, h1, h2⟩ => by
    subst e
    cases r1
    refine ⟨b, rfl, ?_⟩
    cases b with
    | true => exact iteT (f _ H1 _ μ1 s1 m1 (.bl true) (h1 rfl))
    | false => exact iteF (h2 rfl σ H1 (ok.step s1 m1) Q fun z H2 d μ2 s2 m2 r2 p => f z H2 d μ2 (s1.trans s2) m2 r2 p)
theorem w_notV (h : W K ta δ μ fun x μ1 => ∃ b, x = .bl b ∧ P (.bl (!b)) μ1) : W K (tNotV ta) δ μ P := fun σ H ok Q f =>
  h σ H ok _ fun v H1 x μ1 s1 m1 r1 ⟨b, e, h1⟩ => by
    subst e
    cases r1
    exact ⟨b, rfl, f _ H1 _ μ1 s1 m1 (.bl _) h1⟩
theorem w_chain {r r' : R2} (h : W K ta δ μ fun x μ1 => W K tb δ μ1 fun y μ2 => W2 K r x y μ2 fun z μ3 => ∃ b, z = .bl b ∧ (b = true → W K tc δ μ3 fun w μ4 => W2 K r' y w μ4 P) ∧ (b = false → P (.bl false) μ3)) : W K (tChain r r' ta tb tc) δ μ P := fun σ H ok Q f =>
  h σ H ok _ fun v H1 x μ1 s1 m1 r1 h1 => h1 σ H1 (ok.step s1 m1) _ fun u H2 y μ2 s2 m2 r2 h2 => h2 H2 v u m2 (r1.step m1 s2) r2 _ fun z H3 d μ3 s3 m3 r3 ⟨b, e, h3, h4⟩ => by
    subst e
    cases r3
    refine ⟨b, rfl, ?_⟩
    cases b with
    | true =>
      exact iteT (h3 rfl σ H3 (ok.step (s1.trans (s2.trans s3)) m3) _ fun w H4 dw μ4 s4 m4 r4 h5 => h5 H4 u w m4 ((r2.step m2 s3).step m3 s4) r4 Q fun z H5 d μ5 s5 m5 r5 p =>
        f z H5 d μ5 (s1.trans (s2.trans (s3.trans (s4.trans s5)))) m5 r5 p)
    | false => exact iteF (f _ H3 _ μ3 (s1.trans (s2.trans s3)) m3 (.bl false) (h4 rfl))

/-! ### tests -/
theorem wt_test (h : W K ta δ μ fun x μ1 => ∃ b, x = .bl b ∧ PT b μ1) : WT K (tTest ta) δ μ PT := fun σ H ok Q f =>
  h σ H ok _ fun v H1 x μ1 s1 m1 r1 ⟨b, e, h1⟩ => by
    subst e
    cases r1
    exact ⟨b, rfl, f b H1 μ1 s1 m1 h1⟩
theorem wt_B (h : W K ta δ μ fun x μ1 => ∃ b, x = .bl b ∧ PT b μ1) : WT K (tB ta) δ μ PT := wt_test h
theorem wt_and (h : WT K t δ μ fun b μ1 => (b = true → WT K u δ μ1 PT) ∧ (b = false → PT false μ1)) : WT K (tAnd t u) δ μ PT := fun σ H ok Q f =>
  h σ H ok _ fun b H1 μ1 s1 m1 ⟨h1, h2⟩ => by
    cases b with
    | true => exact iteT (h1 rfl σ H1 (ok.step s1 m1) Q fun z H2 μ2 s2 m2 p => f z H2 μ2 (s1.trans s2) m2 p)
    | false => exact iteF (f _ H1 μ1 s1 m1 (h2 rfl))
theorem wt_or (h : WT K t δ μ fun b μ1 => (b = true → PT true μ1) ∧ (b = false → WT K u δ μ1 PT)) : WT K (tOr t u) δ μ PT := fun σ H ok Q f =>
  h σ H ok _ fun b H1 μ1 s1 m1 ⟨h1, h2⟩ => by
    cases b with
    | true => exact iteT (f _ H1 μ1 s1 m1 (h1 rfl))
    | false => exact iteF (h2 rfl σ H1 (ok.step s1 m1) Q fun z H2 μ2 s2 m2 p => f z H2 μ2 (s1.trans s2) m2 p)
theorem wt_not (h : WT K t δ μ fun b μ1 => PT (!b) μ1) : WT K (tNot t) δ μ PT := fun σ H ok Q f =>
  h σ H ok _ fun b H1 μ1 s1 m1 p => f (!b) H1 μ1 s1 m1 p
/-- truth of a value -/
def WTr (K : PySem.W.Frag) (x : D) (μ : Mu) (P : Bool → Mu → Prop) : Prop := ∀ (H : Hp) (v : V), OkM K H μ → Den K H v x → ∃ b, TruV K v H b ∧ P b μ
theorem wt_tru (h : W K ta δ μ fun x μ1 => WTr K x μ1 PT) : WT K (fun σ H Q => ta σ H fun x H' => ∃ k, TruV K x H' k ∧ Q k H') δ μ PT := fun σ H ok Q f =>
  h σ H ok _ fun v H1 x μ1 s1 m1 r1 h1 => let ⟨b, e, p⟩ := h1 H1 v m1 r1; ⟨b, e, f b H1 μ1 s1 m1 p⟩

/-! ### two values -/
theorem w2_i {f : Int → Int → Int} {i j : Int} (q : P (.int (f i j)) μ) : W2 K (rI0 fun i j => .int (f i j)) (.int i) (.int j) μ P := fun H v u m r1 r2 Q k => by
  cases r1
  cases r2
  exact ⟨i, j, rfl, rfl, k _ H _ μ .refl m (.int _) q⟩
theorem w2_b {f : Int → Int → Bool} {i j : Int} (q : P (.bl (f i j)) μ) : W2 K (rI0 fun i j => .bl (f i j)) (.int i) (.int j) μ P := fun H v u m r1 r2 Q k => by
  cases r1
  cases r2
  exact ⟨i, j, rfl, rfl, k _ H _ μ .refl m (.bl _) q⟩
theorem w2_c {C : Int → Int → Prop} {f : Int → Int → Int} {i j : Int} (c : C i j) (q : P (.int (f i j)) μ) : W2 K (rI C fun i j => .int (f i j)) (.int i) (.int j) μ P := fun H v u m r1 r2 Q k => by
  cases r1
  cases r2
  exact ⟨i, j, rfl, rfl, c, k _ H _ μ .refl m (.int _) q⟩
theorem w1_neg {f : Int → Int} {i : Int} (q : P (.int (f i)) μ) : W1 K (rU fun i => .int (f i)) (.int i) μ P := fun H v m r1 Q k => by
  cases r1
  exact ⟨i, rfl, k _ H _ μ .refl m (.int _) q⟩
theorem at_den {H : Hp} {vs : List V} {i : Int} (h : DenL K H vs ds) (e : atI ds i = some d) : ∃ v, atI vs i = some v ∧ Den K H v d := by
  unfold atI at e ⊢
  rw [h.length]
  cases q : ixN ds.length i with
  | none => rw [q] at e; cases e
  | some j =>
    rw [q] at e
    exact h.get e
theorem w2_ixT {i : Int} (e : atI ds i = some d) (q : P d μ) : W2 K (rIx K) (.tup ds) (.int i) μ P := fun H v u m r1 r2 Q k => by
  cases r2
  cases r1 with
  | tup hs_ hl =>
    have hs := TpA.sqt hs_
    obtain ⟨w, hw, rw'⟩ := at_den hl e
    exact .inr (.inl ⟨_, _, i, w, rfl, rfl, hs, hw, k _ H _ μ .refl m rw' q⟩)
theorem w2_ixL {i : Int} {a : Addr} {j : Nat} (hm : μ[j]? = some (a, .lst ds)) (e : atI ds i = some d) (q : P d μ) : W2 K (rIx K) (.ref a) (.int i) μ P := fun H v u m r1 r2 Q k => by
  cases r2
  cases r1
  obtain ⟨vs, hv, hl⟩ := m.at hm
  obtain ⟨w, hw, rw'⟩ := at_den hl e
  exact .inl ⟨_, _, i, w, rfl, rfl, .inl (.inl hv), hw, k _ H _ μ .refl m rw' q⟩
theorem w2_ixS {i : Int} {z : Str} {c : Nat} (hz : z.length ≤ sizeLine) (e : atI z.cps.toList i = some c) (q : P (.str ⟨#[c]⟩) μ) : W2 K (rIx K) (.str z) (.int i) μ P := fun H v u m r1 r2 Q k => by
  cases r2
  cases r1
  exact .inr (.inr ⟨z, i, c, rfl, rfl, hz, e, k _ H _ μ .refl m (.str _) q⟩)
/-- + of ints, texts, tuples, lists -/
def rAddG (K : PySem.W.Frag) : R2 := fun x y H Q => rI0 (fun i j => .int (i + j)) x y H Q ∨ (∃ i j, x = .str i ∧ y = .str j ∧ i.length + j.length ≤ sizeLine ∧ Q (.str (i ++ j)) H) ∨ rCatA K x y H Q ∨ rCat x y H Q
theorem op_addG {X : Cx} : OpR X (binaryOp .Add) (rAddG X.K) := by
  intro pins s σ H x y v u Q I rx ry h
  rcases h with h | h | h | h
  · exact op_add pins s σ H x y v u Q I rx ry h
  · exact op_add_str pins s σ H x y v u Q I rx ry h
  · exact op_catA pins s σ H x y v u Q I rx ry h
  · exact op_cat pins s σ H x y v u Q I rx ry h
theorem w2_addI {i j : Int} (q : P (.int (i + j)) μ) : W2 K (rAddG K) (.int i) (.int j) μ P := fun H v u m r1 r2 Q k => .inl (w2_i (f := fun i j => i + j) q H v u m r1 r2 Q k)
theorem w2_addS {i j : Str} (hz : i.length + j.length ≤ sizeLine) (q : P (.str (i ++ j)) μ) : W2 K (rAddG K) (.str i) (.str j) μ P := fun H v u m r1 r2 Q k => by
  cases r1
  cases r2
  exact .inr (.inl ⟨i, j, rfl, rfl, hz, k _ H _ μ .refl m (.str _) q⟩)
theorem w2_addTA (hz : xs.length + ds.length ≤ sizeLine) (q : P (.tup (xs ++ ds)) μ) : W2 K (rAddG K) (.tup xs) (.tup ds) μ P := fun H v u m r1 r2 Q k => by
  cases r1 with
  | tup hs_ hl =>
    have hs := TpA.sqt hs_
    cases r2 with
    | tup hs'_ hl' =>
      have hs' := TpA.sqt hs'_
      refine .inr (.inr (.inl ⟨_, _, _, _, rfl, rfl, hs, hs', by rw [hl.length, hl'.length]; exact hz, fun e => ?_, fun e1 e => ?_, fun e1 e p hp => ?_⟩))
      · subst e
        cases hl
        exact k _ H _ μ .refl m (.tup hs'_ hl') q
      · subst e
        cases hl'
        rw [List.append_nil] at q
        exact k _ H _ μ .refl m (.tup hs_ hl) q
      · exact k _ _ _ μ (step_new hp) (m.new hp) (.tup upd_same ((hl.append hl').step m (step_new hp))) q
theorem w2_addT (hn : xs ≠ []) (hz : xs.length + ds.length ≤ sizeLine) (q : P (.tup (xs ++ ds)) μ) : W2 K (rAddG K) (.tup xs) (.tup ds) μ P := w2_addTA hz q
theorem w2_addL {a b : Addr} {i j : Nat} (ha : μ[i]? = some (a, .lst xs)) (hb : μ[j]? = some (b, .lst ds)) (hz : xs.length + ds.length ≤ sizeLine) (q : ∀ p, P (.ref p) ((p, .lst (xs ++ ds)) :: μ)) : W2 K (rAddG K) (.ref a) (.ref b) μ P := fun H v u m r1 r2 Q k => by
  cases r1
  cases r2
  obtain ⟨vs, hv, hl⟩ := m.at ha
  obtain ⟨ws, hw, hl'⟩ := m.at hb
  exact .inr (.inr (.inr ⟨_, _, _, _, rfl, rfl, hv, hw, by rw [hl.length, hl'.length]; exact hz, fun p hp =>
    k _ _ _ _ (step_join hp rfl) (m.join (m := .lst (xs ++ ds)) hp rfl ⟨_, upd_same, (hl.append hl').step m (step_new hp)⟩) (.ref p) (q p)⟩))
/-- is None -/
theorem w2_isN {x : D} (h : x = .non) (q : P (.bl true) μ) : W2 K (fun x y H Q => y = V.non ∧ Q (.bl (decide (x = .non))) H) x .non μ P := fun H v u m r1 r2 Q k => by
  subst h
  cases r1
  cases r2
  exact ⟨rfl, k _ H _ μ .refl m (.bl _) q⟩
theorem w2_isnt {x : D} (h : x ≠ .non) (q : P (.bl false) μ) : W2 K (fun x y H Q => y = V.non ∧ Q (.bl (decide (x = .non))) H) x .non μ P := fun H v u m r1 r2 Q k => by
  have e : v ≠ .non := fun z => by subst z; cases r1; exact h rfl
  cases r2
  exact ⟨rfl, by rw [decide_eq_false e]; exact k _ H _ μ .refl m (.bl _) q⟩
theorem w2_notN {x : D} (h : x ≠ .non) (q : P (.bl true) μ) : W2 K (fun x y H Q => y = V.non ∧ Q (.bl (!decide (x = .non))) H) x .non μ P := fun H v u m r1 r2 Q k => by
  have e : v ≠ .non := fun z => by subst z; cases r1; exact h rfl
  cases r2
  exact ⟨rfl, by rw [decide_eq_false e]; exact k _ H _ μ .refl m (.bl _) q⟩
theorem w2_notnt {x : D} (h : x = .non) (q : P (.bl false) μ) : W2 K (fun x y H Q => y = V.non ∧ Q (.bl (!decide (x = .non))) H) x .non μ P := fun H v u m r1 r2 Q k => by
  subst h
  cases r1
  cases r2
  exact ⟨rfl, k _ H _ μ .refl m (.bl _) q⟩

/-! ### == of data -/
mutual
def D.py : D → PyData
  | .non => .none | .bl b => .bool b | .int i => .int i | .str x => .str x | .tup ds => .tuple (D.pyL ds) | .ref _ => .none | .ty _ => .none | .scr _ => .none | .lis ds => .list (D.pyL ds) | .dct _ _ => .none
def D.pyL : List D → List PyData
  | [] => [] | d :: ds => d.py :: D.pyL ds
end
mutual
def D.dat : D → Bool
  | .non => true | .bl _ => true | .int _ => true | .str _ => true | .tup ds => D.datL ds | .ref _ => false | .ty _ => false | .scr _ => false | .lis ds => D.datL ds | .dct _ _ => false
def D.datL : List D → Bool
  | [] => true | d :: ds => d.dat && D.datL ds
end
mutual
theorem Den.dp {H : Hp} : ∀ {d : D} {v : V}, Den K H v d → d.dat = true → Dp K H v d.py
  | _, _, .non, _ => .non
  | _, _, .bl b, _ => .bl b
  | _, _, .int b, _ => .int b
  | _, _, .str b, _ => .str b
  | _, _, .ref b, h => by cases h
  | _, _, .ty b, h => by cases h
  | _, _, .scr _, h => by cases h
  | _, _, .dct _ _ _, h => by cases h
  | _, _, .lis q r, h => .lst (.inl (.inr ⟨_, q⟩)) (DenL.dp r h)
  | _, _, .tup q r, h => .tup (TpA.sqt q) (DenL.dp r h)
theorem DenL.dp {H : Hp} : ∀ {ds : List D} {vs : List V}, DenL K H vs ds → D.datL ds = true → DpAll K H vs (D.pyL ds)
  | _, _, .nil, _ => .nil
  | _, _, .cons a b, h => .cons (Den.dp a (Bool.and_eq_true_iff.mp h).1) (DenL.dp b (Bool.and_eq_true_iff.mp h).2)
end
def eqB (x y : D) : Bool := PyData.eqv x.py y.py
def eqBL (xs ys : List D) : Bool := PyData.eqvAll (D.pyL xs) (D.pyL ys)
def D.sh (x : D) : Bool := x.dat && SeqAt.shaped x.py
theorem w2_eq (hx : x.sh = true) (hy : y.sh = true) (q : P (.bl (eqB x y)) μ) : W2 K (rEqD K) x y μ P := fun H v u m r1 r2 Q k =>
  ⟨_, _, r1.dp (Bool.and_eq_true_iff.mp hx).1, r2.dp (Bool.and_eq_true_iff.mp hy).1, (Bool.and_eq_true_iff.mp hx).2, (Bool.and_eq_true_iff.mp hy).2, k _ H _ μ .refl m (.bl _) q⟩
theorem w2_ne (hx : x.sh = true) (hy : y.sh = true) (q : P (.bl (!eqB x y)) μ) : W2 K (rNeD K) x y μ P := fun H v u m r1 r2 Q k =>
  ⟨_, _, r1.dp (Bool.and_eq_true_iff.mp hx).1, r2.dp (Bool.and_eq_true_iff.mp hy).1, (Bool.and_eq_true_iff.mp hx).2, (Bool.and_eq_true_iff.mp hy).2, k _ H _ μ .refl m (.bl _) q⟩
/-- two lists -/
theorem w2_eqL {a b : Addr} {i j : Nat} (ha : μ[i]? = some (a, .lst xs)) (hb : μ[j]? = some (b, .lst ds)) (hx : (D.tup xs).sh = true) (hy : (D.tup ds).sh = true) (q : P (.bl (eqBL xs ds)) μ) : W2 K (rEqD K) (.ref a) (.ref b) μ P := fun H v u m r1 r2 Q k => by
  cases r1
  cases r2
  obtain ⟨vs, hv, hl⟩ := m.at ha
  obtain ⟨ws, hw, hl'⟩ := m.at hb
  exact ⟨_, _, .lst (.inl (.inl hv)) (hl.dp (Bool.and_eq_true_iff.mp hx).1), .lst (.inl (.inl hw)) (hl'.dp (Bool.and_eq_true_iff.mp hy).1), (Bool.and_eq_true_iff.mp hx).2, (Bool.and_eq_true_iff.mp hy).2, k _ H _ μ .refl m (.bl _) q⟩
theorem w2_neL {a b : Addr} {i j : Nat} (ha : μ[i]? = some (a, .lst xs)) (hb : μ[j]? = some (b, .lst ds)) (hx : (D.tup xs).sh = true) (hy : (D.tup ds).sh = true) (q : P (.bl (!eqBL xs ds)) μ) : W2 K (rNeD K) (.ref a) (.ref b) μ P := fun H v u m r1 r2 Q k => by
  cases r1
  cases r2
  obtain ⟨vs, hv, hl⟩ := m.at ha
  obtain ⟨ws, hw, hl'⟩ := m.at hb
  exact ⟨_, _, .lst (.inl (.inl hv)) (hl.dp (Bool.and_eq_true_iff.mp hx).1), .lst (.inl (.inl hw)) (hl'.dp (Bool.and_eq_true_iff.mp hy).1), (Bool.and_eq_true_iff.mp hx).2, (Bool.and_eq_true_iff.mp hy).2, k _ H _ μ .refl m (.bl _) q⟩

/-! ### statements -/
theorem ws_seq (h : WS K ts1 δ μ { E with nx := fun δ' μ' => WS K ts2 δ' μ' E }) : WS K (tSeq ts1 ts2) δ μ E := fun σ H ok Dn n r b c =>
  h σ H ok { Dn with nx := ts2 Dn } (fun σ1 H1 δ1 μ1 s1 ok1 h1 => h1 σ1 H1 ok1 Dn (fun σ2 H2 δ2 μ2 s2 o2 => n σ2 H2 δ2 μ2 (s1.trans s2) o2)
    (fun v H2 d μ2 s2 m2 => r v H2 d μ2 (s1.trans s2) m2) (fun σ2 H2 δ2 μ2 s2 o2 => b σ2 H2 δ2 μ2 (s1.trans s2) o2) (fun σ2 H2 δ2 μ2 s2 o2 => c σ2 H2 δ2 μ2 (s1.trans s2) o2)) r b c
theorem ws_next (q : E.nx δ μ) : WS K tNext δ μ E := fun σ H ok Dn n r b c => n σ H δ μ .refl ok q
theorem ws_brk (q : E.bk δ μ) : WS K tBreak δ μ E := fun σ H ok Dn n r b c => b σ H δ μ .refl ok q
theorem ws_cont (q : E.ct δ μ) : WS K tCont δ μ E := fun σ H ok Dn n r b c => c σ H δ μ .refl ok q
theorem ws_asg (h : W K te δ μ fun d μ1 => WG K g d δ μ1 E.nx) : WS K (tAsg te g) δ μ E := fun σ H ok Dn n r b c =>
  h σ H ok _ fun v H1 d μ1 s1 m1 r1 h1 => h1 σ H1 v (ok.step s1 m1) r1 _ fun σ2 H2 δ2 μ2 s2 o2 q => n σ2 H2 δ2 μ2 (s1.trans s2) o2 q
theorem ws_drop (h : W K te δ μ fun d μ1 => E.nx δ μ1) : WS K (tDrop te) δ μ E := fun σ H ok Dn n r b c =>
  h σ H ok _ fun v H1 d μ1 s1 m1 r1 h1 => n σ H1 δ μ1 s1 (ok.step s1 m1) h1
theorem ws_ret (h : W K te δ μ E.rt) : WS K (tRet te) δ μ E := fun σ H ok Dn n r b c => h σ H ok _ fun v H1 d μ1 s1 m1 r1 h1 => r v H1 d μ1 s1 m1 r1 h1
theorem ws_retN (q : E.rt .non μ) : WS K tRetN δ μ E := fun σ H ok Dn n r b c => r .non H .non μ .refl ok.m .non q
theorem ws_if (h : WT K t δ μ fun b μ1 => (b = true → WS K ts1 δ μ1 E) ∧ (b = false → WS K ts2 δ μ1 E)) : WS K (tIfS t ts1 ts2) δ μ E := fun σ H ok Dn n r b c =>
  h σ H ok _ fun k H1 μ1 s1 m1 ⟨h1, h2⟩ => by
    cases k with
    | true => exact iteT (h1 rfl σ H1 (ok.step s1 m1) Dn (fun σ2 H2 δ2 μ2 s2 o2 => n σ2 H2 δ2 μ2 (s1.trans s2) o2)
        (fun v H2 d μ2 s2 m2 => r v H2 d μ2 (s1.trans s2) m2) (fun σ2 H2 δ2 μ2 s2 o2 => b σ2 H2 δ2 μ2 (s1.trans s2) o2) (fun σ2 H2 δ2 μ2 s2 o2 => c σ2 H2 δ2 μ2 (s1.trans s2) o2))
    | false => exact iteF (h2 rfl σ H1 (ok.step s1 m1) Dn (fun σ2 H2 δ2 μ2 s2 o2 => n σ2 H2 δ2 μ2 (s1.trans s2) o2)
        (fun v H2 d μ2 s2 m2 => r v H2 d μ2 (s1.trans s2) m2) (fun σ2 H2 δ2 μ2 s2 o2 => b σ2 H2 δ2 μ2 (s1.trans s2) o2) (fun σ2 H2 δ2 μ2 s2 o2 => c σ2 H2 δ2 μ2 (s1.trans s2) o2))
/-- x op= e, ints -/
theorem ws_aug {i : Nat} {ti : TIp} (hx : δ[i]? = some (some x)) (h : W K te δ μ fun y μ1 => W2 K ti x y μ1 fun z μ2 => E.nx (δ.set i (some z)) μ2) : WS K (tAug i te ti) δ μ E := fun σ H ok Dn n r b c => by
  obtain ⟨v, ev, rv⟩ := ok.s i x hx
  exact ⟨v, ev, h σ H ok _ fun u H1 y μ1 s1 m1 r1 h1 => h1 H1 v u m1 (rv.step ok.m s1) r1 _ fun w H2 z μ2 s2 m2 r2 q => n _ H2 _ μ2 (s1.trans s2) ((ok.step (s1.trans s2) m2).set r2 i) q⟩
theorem wg_name {i : Nat} {PG : Dl → Mu → Prop} (q : PG (δ.set i (some d)) μ) : WG K (gName i) d δ μ PG := fun σ H v ok r Q f => f _ H _ μ .refl (ok.set r i) q
theorem wg_tup {n : Nat} {PG : Dl → Mu → Prop} (hl : ds.length = n) (h : WGs K gs ds δ μ PG) : WG K (gTup K n gs) (.tup ds) δ μ PG := fun σ H v ok r Q f => by
  cases r with
  | tup hs_ hd => have hs := TpA.sqt hs_; exact ⟨_, _, rfl, hs, by rw [hd.length]; exact hl, h σ H _ ok hd Q f⟩
theorem wgs_nil {PG : Dl → Mu → Prop} (q : PG δ μ) : WGs K gNil [] δ μ PG := fun σ H v ok r Q f => by
  cases r
  exact ⟨rfl, f σ H δ μ .refl ok q⟩
theorem wgs_cons {PG : Dl → Mu → Prop} (h : WG K g d δ μ fun δ1 μ1 => WGs K gs ds δ1 μ1 PG) : WGs K (gCons g gs) (d :: ds) δ μ PG := fun σ H v ok r Q f => by
  cases r with
  | cons r1 r2 => exact ⟨_, _, rfl, h σ H _ ok r1 _ fun σ1 H1 δ1 μ1 s1 o1 h1 => h1 σ1 H1 _ o1 (r2.step ok.m s1) Q fun σ2 H2 δ2 μ2 s2 o2 q => f σ2 H2 δ2 μ2 (s1.trans s2) o2 q⟩
/-- cut: what follows an if once for all -/
theorem ws_cut {J : Dl → Mu → Prop} (h : WS K ts1 δ μ { E with nx := J }) (k : ∀ δ' μ', J δ' μ' → WS K ts2 δ' μ' E) : WS K (tSeq ts1 ts2) δ μ E :=
  ws_seq fun σ H ok Dn n r b c => h σ H ok Dn (fun σ2 H2 δ2 μ2 s2 o2 j => n σ2 H2 δ2 μ2 s2 o2 (k _ _ j)) r b c
/-- consequence -/
theorem WS.imp {E' : DE} (h : WS K ts δ μ E') (hn : ∀ δ μ, E'.nx δ μ → E.nx δ μ) (hr : ∀ d μ, E'.rt d μ → E.rt d μ) (hb : ∀ δ μ, E'.bk δ μ → E.bk δ μ) (hc : ∀ δ μ, E'.ct δ μ → E.ct δ μ) : WS K ts δ μ E :=
  fun σ H ok Dn n r b c => h σ H ok Dn (fun σ2 H2 δ2 μ2 s2 o2 j => n σ2 H2 δ2 μ2 s2 o2 (hn _ _ j)) (fun v H2 d μ2 s2 m2 r2 j => r v H2 d μ2 s2 m2 r2 (hr _ _ j))
    (fun σ2 H2 δ2 μ2 s2 o2 j => b σ2 H2 δ2 μ2 s2 o2 (hb _ _ j)) (fun σ2 H2 δ2 μ2 s2 o2 j => c σ2 H2 δ2 μ2 s2 o2 (hc _ _ j))
theorem W.imp {P' : D → Mu → Prop} (h : W K te δ μ P') (k : ∀ d μ, P' d μ → P d μ) : W K te δ μ P := fun σ H ok Q f => h σ H ok Q fun v H' d μ' s m r p => f v H' d μ' s m r (k _ _ p)
theorem WT.imp {P' : Bool → Mu → Prop} (h : WT K t δ μ P') (k : ∀ d μ, P' d μ → PT d μ) : WT K t δ μ PT := fun σ H ok Q f => h σ H ok Q fun v H' μ' s m p => f v H' μ' s m (k _ _ p)

/-! ### for -/
theorem ws_for {wi : TI} (h : WI K wi δ μ fun ds G μ1 => ∃ I : Nat → Dl → Mu → Prop, I 0 δ μ1 ∧ (∀ i δ' μ', I i δ' μ' → G μ') ∧
    (∀ i d δ' μ', ds[i]? = some d → I i δ' μ' → WG K g d δ' μ' fun δ2 μ2 => WS K ts δ2 μ2 { E with nx := I (i + 1), ct := I (i + 1), bk := E.nx }) ∧ ∀ δ' μ', I ds.length δ' μ' → E.nx δ' μ') : WS K (tFor wi g ts) δ μ E := fun σ H ok Dn n r b c =>
  h σ H ok _ fun J H1 ds G μ1 s1 m1 wk ⟨I, h0, hG, hs, hd⟩ => by
    refine ⟨fun i m σ' H' => m = ds.length - i ∧ i ≤ ds.length ∧ ∃ δ' μ', Step μ1 H1 μ' H' ∧ Ok K H' σ' δ' μ' ∧ I i δ' μ', ⟨ds.length, by simp, Nat.zero_le _, δ, μ1, .refl, ok.step s1 m1, h0⟩, ?_⟩
    rintro i m σ2 H2 ⟨rfl, hi, δ2, μ2, s2, o2, i2⟩
    have w2 := wk H2 μ2 s2 o2.m (hG _ _ _ i2)
    by_cases hlt : i < ds.length
    · obtain ⟨d, hd'⟩ : ∃ d, ds[i]? = some d := ⟨_, List.getElem?_eq_getElem hlt⟩
      obtain ⟨go, yl⟩ := w2.2 i d hd'
      refine .inr ⟨go, fun σ' H' => i + 1 ≤ ds.length ∧ ∃ δ' μ', Step μ1 H1 μ' H' ∧ Ok K H' σ' δ' μ' ∧ I (i + 1) δ' μ', fun σ' H' ⟨z, q⟩ => ⟨ds.length - (i + 1), by omega, rfl, z, q⟩, fun x H3 hy => ?_⟩
      obtain ⟨s3, m3, r3⟩ := yl x H3 hy
      refine hs i d δ2 μ2 hd' i2 σ2 H3 x (o2.step s3 m3) r3 _ fun σ4 H4 δ4 μ4 s4 o4 h4 => ?_
      have s14 := s2.trans (s3.trans s4)
      exact h4 σ4 H4 o4 _ (fun σ5 H5 δ5 μ5 s5 o5 j => ⟨hlt, δ5, μ5, s14.trans s5, o5, j⟩) (fun v H5 d μ5 s5 m5 r5 j => r v H5 d μ5 (s1.trans (s14.trans s5)) m5 r5 j)
        (fun σ5 H5 δ5 μ5 s5 o5 j => n σ5 H5 δ5 μ5 (s1.trans (s14.trans s5)) o5 j) (fun σ5 H5 δ5 μ5 s5 o5 j => ⟨hlt, δ5, μ5, s14.trans s5, o5, j⟩)
    · have e : i = ds.length := by omega
      subst e
      exact .inl ⟨w2.1 _ (Nat.le_refl _), n σ2 H2 δ2 μ2 (s1.trans s2) o2 (hd _ _ i2)⟩
def rngD (lo : Int) (n : Nat) : List D := (List.range n).map fun i : Nat => D.int (lo + (i : Int))
theorem rngD_length (lo : Int) (n : Nat) : (rngD lo n).length = n := by simp [rngD]
theorem rngD_get {lo : Int} {n i : Nat} {d : D} (h : (rngD lo n)[i]? = some d) : i < n ∧ d = .int (lo + (i : Int)) := by
  have hi : i < n := by
    have := (List.getElem?_eq_some_iff.mp h).1
    rw [rngD_length] at this; exact this
  refine ⟨hi, ?_⟩
  unfold rngD at h
  rw [List.getElem?_map, List.getElem?_range hi] at h
  exact (Option.some.inj h).symm
theorem wlk_rng {lo : Int} {n : Nat} {H : Hp} (m : OkM K H μ) : Wlk K (Itr lo n) (rngD lo n) H μ :=
  ⟨fun i h => by rw [rngD_length] at h; exact h, fun i d h => by
    obtain ⟨hi, e⟩ := rngD_get h
    subst e
    exact ⟨hi, fun x H' hy => by
      obtain ⟨e1, e2⟩ := hy
      subst e1 e2
      exact ⟨.refl, m, .int _⟩⟩⟩
theorem wi_rng1 {PI : List D → (Mu → Prop) → Mu → Prop} (h : WA K al δ μ fun ds μ1 => ∃ j : Int, ds = [.int j] ∧ (-(2 ^ 62) ≤ j ∧ j < 2 ^ 62) ∧ PI (rngD 0 j.toNat) (fun _ => True) μ1) : WI K (iRng1 al) δ μ PI := fun σ H ok R f =>
  h σ H ok _ fun vs H1 ds μ1 s1 m1 r1 ⟨j, e, b, p⟩ => by
    subst e
    cases r1 with
    | cons a r =>
      cases a
      cases r
      exact ⟨j, rfl, b.1, b.2, f _ H1 _ _ μ1 s1 m1 (fun _ _ _ m _ => wlk_rng m) p⟩
theorem wi_rng2 {PI : List D → (Mu → Prop) → Mu → Prop} (h : WA K al δ μ fun ds μ1 => ∃ i j : Int, ds = [.int i, .int j] ∧ (-(2 ^ 62) ≤ i ∧ i < 2 ^ 62 ∧ -(2 ^ 62) ≤ j ∧ j < 2 ^ 62) ∧ PI (rngD i (j - i).toNat) (fun _ => True) μ1) : WI K (iRng2 al) δ μ PI := fun σ H ok R f =>
  h σ H ok _ fun vs H1 ds μ1 s1 m1 r1 ⟨i, j, e, b, p⟩ => by
    subst e
    cases r1 with
    | cons a r =>
      cases a
      cases r with
      | cons a r =>
        cases a
        cases r
        exact ⟨i, j, rfl, b, f _ H1 _ _ μ1 s1 m1 (fun _ _ _ m _ => wlk_rng m) p⟩
theorem wi_tup {PI : List D → (Mu → Prop) → Mu → Prop} (h : W K ta δ μ fun x μ1 => ∃ ds, x = .tup ds ∧ PI ds (fun _ => True) μ1) : WI K (iTup K ta) δ μ PI := fun σ H ok R f =>
  h σ H ok _ fun v H1 x μ1 s1 m1 r1 ⟨ds, e, p⟩ => by
    subst e
    cases r1 with
    | tup hs_ hl =>
      have hs := TpA.sqt hs_
      refine ⟨_, rfl, ⟨_, hs⟩, f _ H1 ds _ μ1 s1 m1 (fun H2 μ2 s2 m2 _ => ?_) p⟩
      have hs2 := sqT_step m1 s2 hs
      have hl2 := hl.step m1 s2
      refine ⟨fun i hi => ⟨_, hs2, by rw [hl2.length]; exact hi⟩, fun i d hd => ?_⟩
      obtain ⟨w, ew, rw'⟩ := hl2.get hd
      refine ⟨⟨_, w, hs2, ew⟩, fun x H' hy => ?_⟩
      obtain ⟨e1, e2⟩ := hy
      subst e1
      have e3 := e2 _ hs2
      rw [ew] at e3
      cases e3
      exact ⟨.refl, m2, rw'⟩
theorem list_uniq {H : Hp} {a : Addr} {vs : List V} (hv : H a = some (.lst vs)) (hk : K.lookup a = none ∨ True) : True := trivial
theorem wi_list {PI : List D → (Mu → Prop) → Mu → Prop} (h : W K ta δ μ fun x μ1 => ∃ (a : Addr) (j : Nat) (ds : List D), x = .ref a ∧ μ1[j]? = some (a, M.lst ds) ∧ PI ds (fun μ' => (a, M.lst ds) ∈ μ') μ1) : WI K (iList K ta) δ μ PI := fun σ H ok R f =>
  h σ H ok _ fun v H1 x μ1 s1 m1 r1 ⟨a, j, ds, e, hm, p⟩ => by
    subst e
    cases r1
    obtain ⟨vs, hv, hl⟩ := m1.at hm
    refine ⟨_, rfl, ⟨_, .inl (.inl hv)⟩, f _ H1 ds _ μ1 s1 m1 (fun H2 μ2 s2 m2 g => ?_) p⟩
    obtain ⟨ws, hw, hl2⟩ := m2.ok _ g
    refine ⟨fun i hi => ⟨_, .inl (.inl hw), by rw [hl2.length]; exact hi⟩, fun i d hd => ?_⟩
    obtain ⟨w, ew, rw'⟩ := hl2.get hd
    refine ⟨⟨_, w, .inl (.inl hw), ew⟩, fun x H' hy => ?_⟩
    obtain ⟨e1, e2⟩ := hy
    subst e1
    have e3 := e2 _ (.inl (.inl hw))
    rw [ew] at e3
    cases e3
    exact ⟨.refl, m2, rw'⟩
end
end Wk

set_option Elab.async false
set_option linter.all false
set_option maxRecDepth 100000
namespace Wk
open PySem PySem.Spec L2

section
variable {K : PySem.W.Frag} {δ : Dl} {μ : Mu} {P : D → Mu → Prop} {PT : Bool → Mu → Prop} {PA : List D → Mu → Prop} {E : DE} {ta tb tc te td ty tv : TE} {t u : TT} {al ar : TA} {ts ts1 ts2 : TS} {g : TG} {gs : TGs} {x y d : D} {xs ds : List D} {a b : Addr}

/-! ### built-ins -/
theorem wc_abs {i : Int} (q : P (.int (if i < 0 then -i else i)) μ) : WC K (fun xs H Q => ∃ i, xs = [V.int i] ∧ Q (.int (if i < 0 then -i else i)) H) [.int i] μ P := fun H vs m r Q k => by
  cases r with
  | cons a r =>
    cases a; cases r
    exact ⟨i, rfl, k _ H _ μ .refl m (.int _) q⟩
theorem wc_2i {f : Int → Int → Int} {i j : Int} (q : P (.int (f i j)) μ) : WC K (fun xs H Q => ∃ i j, xs = [V.int i, V.int j] ∧ Q (.int (f i j)) H) [.int i, .int j] μ P := fun H vs m r Q k => by
  cases r with
  | cons a r =>
    cases a
    cases r with
    | cons a r =>
      cases a; cases r
      exact ⟨i, j, rfl, k _ H _ μ .refl m (.int _) q⟩
theorem wc_intI {i : Int} (q : P (.int i) μ) : WC K (fun xs H Q => (∃ i, xs = [V.int i] ∧ Q (.int i) H) ∨ ∃ k, xs = [V.bl k] ∧ Q (.int (if k then 1 else 0)) H) [.int i] μ P := fun H vs m r Q k => by
  cases r with
  | cons a r =>
    cases a; cases r
    exact .inl ⟨i, rfl, k _ H _ μ .refl m (.int _) q⟩
theorem wc_intB {i : Bool} (q : P (.int (if i then 1 else 0)) μ) : WC K (fun xs H Q => (∃ i, xs = [V.int i] ∧ Q (.int i) H) ∨ ∃ k, xs = [V.bl k] ∧ Q (.int (if k then 1 else 0)) H) [.bl i] μ P := fun H vs m r Q k => by
  cases r with
  | cons a r =>
    cases a; cases r
    exact .inr ⟨i, rfl, k _ H _ μ .refl m (.int _) q⟩
/-- len of a list, a tuple, a text, a dict -/
def rLenG (K : PySem.W.Frag) : List V → Hp → VK → Prop := fun xs H Q => (∃ p ys, xs = [V.ref p] ∧ (SqL K H p ys ∨ SqT K H p ys) ∧ Q (.int ys.length) H) ∨ (∃ z : Str, xs = [V.str z] ∧ z.length ≤ sizeLine ∧ Q (.int z.length) H) ∨ ∃ a kvs, xs = [V.ref a] ∧ H a = some (.dK kvs) ∧ Q (.int kvs.length) H
theorem call_lenG {X : Cx} : CallR X (.builtin "len") (rLenG X.K) := by
  intro pins s σ H xs us Q I r h
  rcases h with h | h | h
  · exact call_len_seq pins s σ H xs us Q I r h
  · exact call_len_str pins s σ H xs us Q I r h
  · exact call_lenD pins s σ H xs us Q I r h
theorem wc_lenT (q : P (.int (ds.length : Int)) μ) : WC K (rLenG K) [.tup ds] μ P := fun H vs m r Q k => by
  cases r with
  | cons a r =>
    cases r
    cases a with
    | tup hs_ hl => have hs := TpA.sqt hs_; exact .inl ⟨_, _, rfl, .inr hs, by rw [hl.length]; exact k _ H _ μ .refl m (.int _) q⟩
theorem wc_lenL {j : Nat} (hm : μ[j]? = some (a, .lst ds)) (q : P (.int (ds.length : Int)) μ) : WC K (rLenG K) [.ref a] μ P := fun H vs m r Q k => by
  cases r with
  | cons a r =>
    cases r
    cases a
    obtain ⟨vs, hv, hl⟩ := m.at hm
    exact .inl ⟨_, _, rfl, .inl (.inl (.inl hv)), by rw [hl.length]; exact k _ H _ μ .refl m (.int _) q⟩
theorem wc_lenS {z : Str} (hz : z.length ≤ sizeLine) (q : P (.int (z.length : Int)) μ) : WC K (rLenG K) [.str z] μ P := fun H vs m r Q k => by
  cases r with
  | cons a r =>
    cases r
    cases a
    exact .inr (.inl ⟨z, rfl, hz, k _ H _ μ .refl m (.int _) q⟩)
/-- the type's name -/
def D.tn : D → String
  | .non => "NoneType" | .bl _ => "bool" | .int _ => "int" | .str _ => "str" | .tup _ => "tuple" | .ref _ => "" | .ty _ => "" | .scr _ => "" | .lis _ => "list" | .dct _ _ => "dict"
theorem tyx_den {H : Hp} {v : V} {n : String} (r : Den K H v x) (h : x.tn = n) (hn : n ≠ "") : TyX K H v (.type n) := by
  cases r with
  | non => subst h; exact .base .non
  | bl b => subst h; exact .base (.bl b)
  | int b => subst h; exact .base (.int b)
  | str b => subst h; exact .base (.str b)
  | ref a => exact (hn h.symm).elim
  | ty a => exact (hn h.symm).elim
  | scr a => exact (hn h.symm).elim
  | lis q _ => subst h; exact .base (.frz q)
  | dct q _ _ => subst h; exact .fDict q
  | tup hs_ hl =>
    have hs := TpA.sqt hs_
    subst h
    rcases hs with (hs | ⟨o, hs⟩) | ⟨o, its, k, e1, e2, _⟩
    · exact .base (.tup hs)
    · exact .fTuple hs
    · exact .kTuple e1 e2
theorem wc_isi {n c : String} {r : Bool} (h : x.tn = n) (hn : n ≠ "") (hk : kitB n c = some r) (q : P (.bl r) μ) : WC K (rIsi K) [x, .ty c] μ P := fun H vs m rr Q k => by
  cases rr with
  | cons a rr =>
    cases rr with
    | cons a' rr =>
      cases a'; cases rr
      exact ⟨_, _, _, _, r, rfl, .ty c, tyx_den a h hn, kit_ty hk, k _ H _ μ .refl m (.bl _) q⟩
theorem wc_isiL {c : String} {r : Bool} {j : Nat} (hm : μ[j]? = some (a, .lst ds)) (hk : kitB "list" c = some r) (q : P (.bl r) μ) : WC K (rIsi K) [.ref a, .ty c] μ P := fun H vs m rr Q k => by
  cases rr with
  | cons a rr =>
    cases rr with
    | cons a' rr =>
      cases a'; cases rr; cases a
      obtain ⟨vs, hv, hl⟩ := m.at hm
      exact ⟨_, _, _, _, r, rfl, .ty c, .base (.lst hv), kit_ty hk, k _ H _ μ .refl m (.bl _) q⟩
theorem wc_listT (q : ∀ p, P (.ref p) ((p, .lst ds) :: μ)) : WC K (fun xs H Q => ∃ p ys, xs = [V.ref p] ∧ (SqL K H p ys ∨ SqT K H p ys) ∧ ∀ l, H l = none → Q (.ref l) (upd H l (.lst ys))) [.tup ds] μ P := fun H vs m r Q k => by
  cases r with
  | cons a r =>
    cases r
    cases a with
    | tup hs_ hl => have hs := TpA.sqt hs_; exact ⟨_, _, rfl, .inr hs, fun p hp => k _ _ _ _ (step_join hp rfl) (m.join (m := .lst ds) hp rfl ⟨_, upd_same, hl.step m (step_new hp)⟩) (.ref p) (q p)⟩
theorem wc_listL {j : Nat} (hm : μ[j]? = some (a, .lst ds)) (q : ∀ p, P (.ref p) ((p, .lst ds) :: μ)) : WC K (fun xs H Q => ∃ p ys, xs = [V.ref p] ∧ (SqL K H p ys ∨ SqT K H p ys) ∧ ∀ l, H l = none → Q (.ref l) (upd H l (.lst ys))) [.ref a] μ P := fun H vs m r Q k => by
  cases r with
  | cons a r =>
    cases r
    cases a
    obtain ⟨vs, hv, hl⟩ := m.at hm
    exact ⟨_, _, rfl, .inl (.inl (.inl hv)), fun p hp => k _ _ _ _ (step_join hp rfl) (m.join (m := .lst ds) hp rfl ⟨_, upd_same, hl.step m (step_new hp)⟩) (.ref p) (q p)⟩
theorem wc_tupT (q : P (.tup ds) μ) : WC K (fun xs H Q => ∃ p ys, xs = [V.ref p] ∧ ((SqL K H p ys ∧ ∀ l, H l = none → Q (.ref l) (upd H l (.tup ys))) ∨ (SqT K H p ys ∧ Q (.ref p) H))) [.tup ds] μ P := fun H vs m r Q k => by
  cases r with
  | cons a r =>
    cases r
    cases a with
    | tup hs_ hl => have hs := TpA.sqt hs_; exact ⟨_, _, rfl, .inr ⟨hs, k _ H _ μ .refl m (.tup hs_ hl) q⟩⟩
theorem wc_tupL {j : Nat} (hm : μ[j]? = some (a, .lst ds)) (q : P (.tup ds) μ) : WC K (fun xs H Q => ∃ p ys, xs = [V.ref p] ∧ ((SqL K H p ys ∧ ∀ l, H l = none → Q (.ref l) (upd H l (.tup ys))) ∨ (SqT K H p ys ∧ Q (.ref p) H))) [.ref a] μ P := fun H vs m r Q k => by
  cases r with
  | cons a r =>
    cases r
    cases a
    obtain ⟨vs, hv, hl⟩ := m.at hm
    exact ⟨_, _, rfl, .inl ⟨.inl (.inl hv), fun p hp => k _ _ _ _ (step_new hp) (m.new hp) (.tup upd_same (hl.step m (step_new hp))) q⟩⟩
theorem wc_all {ns : List Bool} {j : Nat} (hm : μ[j]? = some (a, .lst (ns.map D.bl))) (q : P (.bl (ns.all id)) μ) : WC K (rAll K) [.ref a] μ P := fun H vs m r Q k => by
  cases r with
  | cons a r =>
    cases r
    cases a
    obtain ⟨vs, hv, hl⟩ := m.at hm
    have e := hl.bls
    subst e
    exact ⟨_, ns, rfl, .inl (.inl hv), k _ H _ μ .refl m (.bl _) q⟩
theorem wc_any {ns : List Bool} {j : Nat} (hm : μ[j]? = some (a, .lst (ns.map D.bl))) (q : P (.bl (ns.any id)) μ) : WC K (rAny K) [.ref a] μ P := fun H vs m r Q k => by
  cases r with
  | cons a r =>
    cases r
    cases a
    obtain ⟨vs, hv, hl⟩ := m.at hm
    have e := hl.bls
    subst e
    exact ⟨_, ns, rfl, .inl (.inl hv), k _ H _ μ .refl m (.bl _) q⟩

/-! ### slices -/
def cutD (xs : List D) (lo hi : Option Int) : List D := (xs.drop (HT.sIx xs.length 0 lo)).take (HT.sIx xs.length xs.length hi - HT.sIx xs.length 0 lo)
theorem den_cut {H : Hp} {vs : List V} (h : DenL K H vs ds) (lo hi : Option Int) : DenL K H (cutV vs lo hi) (cutD ds lo hi) := by
  unfold cutV cutD
  rw [h.length]
  exact (h.drop _).take _
/-- a slice of a list or of a tuple -/
def rSlG (K : PySem.W.Frag) : V → Option Int → Option Int → Hp → VK → Prop := fun x lo hi H Q => rSlL K x lo hi H Q ∨ rSlA K x lo hi H Q
theorem sl_any {X : Cx} : SlR X (rSlG X.K) := by
  intro pins s σ H x v vl vu lo hi sl Q I rx hs pl pu h
  rcases h with h | h
  · exact sl_list pins s σ H x v vl vu lo hi sl Q I rx hs pl pu h
  · exact sl_tupA pins s σ H x v vl vu lo hi sl Q I rx hs pl pu h
theorem cutD_whole {lo hi : Option Int} (hw : HT.sIx ds.length 0 lo = 0 ∧ HT.sIx ds.length ds.length hi = ds.length) : cutD ds lo hi = ds := by
  unfold cutD
  rw [hw.1, hw.2, List.drop_zero, Nat.sub_zero, List.take_length]
theorem wsl_tup {lo hi : Option Int} (q : P (.tup (cutD ds lo hi)) μ) : WSl K (rSlG K) (.tup ds) lo hi μ P := fun H v m r Q k => by
  cases r with
  | tup hs_ hl =>
    have hs := TpA.sqt hs_
    refine .inr ⟨_, _, rfl, hs, fun hw => ?_, fun hw p hp => ?_⟩
    · rw [hl.length] at hw
      rw [cutD_whole hw] at q
      exact k _ H _ μ .refl m (.tup hs_ hl) q
    · exact k _ _ _ μ (step_new hp) (m.new hp) (.tup upd_same ((den_cut hl lo hi).step m (step_new hp))) q
theorem wsl_scr {ns : List Int} {lo hi : Option Int} (q : ∀ p, P (.ref p) ((p, .lst (cutD (ns.map D.int) lo hi)) :: μ)) : WSl K (rSlG K) (.scr ns) lo hi μ P := fun H v m r Q k => by
  cases r with
  | scr hs =>
    refine .inl ⟨_, _, rfl, hs.sql, fun p hp => ?_⟩
    exact k _ _ _ _ (step_join hp rfl) (m.join (m := .lst (cutD (ns.map D.int) lo hi)) hp rfl ⟨_, upd_same, (den_cut (DenL.of_ints ns) lo hi).step m (step_new hp)⟩) (.ref p) (q p)
theorem wsl_lst {lo hi : Option Int} {j : Nat} (hm : μ[j]? = some (a, .lst ds)) (q : ∀ p, P (.ref p) ((p, .lst (cutD ds lo hi)) :: μ)) : WSl K (rSlG K) (.ref a) lo hi μ P := fun H v m r Q k => by
  cases r
  obtain ⟨vs, hv, hl⟩ := m.at hm
  refine .inl ⟨_, _, rfl, .inl (.inl hv), fun p hp => ?_⟩
  exact k _ _ _ _ (step_join hp rfl) (m.join (m := .lst (cutD ds lo hi)) hp rfl ⟨_, upd_same, (den_cut hl lo hi).step m (step_new hp)⟩) (.ref p) (q p)

/-! ### lists by their methods -/
theorem ty_lst {j : Nat} (hm : μ[j]? = some (a, .lst ds)) : ∀ H v, OkM K H μ → Den K H v (.ref a) → tyV K "list" v H := fun H v m r => by
  cases r
  obtain ⟨vs, hv, hl⟩ := m.at hm
  exact .inl ⟨rfl, _, .inl (.inl hv)⟩
theorem wm_append {j : Nat} (hm : μ[j]? = some (a, .lst xs)) (hz : xs.length < sizeLine) (q : P .non (μ.set j (a, .lst (xs ++ [d])))) : WM K rAppend (.ref a) [d] μ P := fun H v vs m r rs Q k => by
  cases r
  cases rs with
  | cons r1 r2 =>
    cases r2
    obtain ⟨ws, hv, hl⟩ := m.at hm
    refine ⟨_, _, _, rfl, rfl, hv, by rw [hl.length]; exact hz, ?_⟩
    exact k _ _ _ _ (step_set (m' := .lst (xs ++ [d])) hm rfl) (m.set (m' := .lst (xs ++ [d])) hm rfl ⟨_, upd_same, (hl.append (.cons r1 .nil)).step m (step_set (m' := .lst (xs ++ [d])) hm rfl)⟩) .non q
theorem wm_pop {j : Nat} (hm : μ[j]? = some (a, .lst xs)) (hz : xs[xs.length - 1]? = some d) (q : P d (μ.set j (a, .lst xs.dropLast))) : WM K rPop (.ref a) [] μ P := fun H v vs m r rs Q k => by
  cases r
  cases rs
  obtain ⟨ws, hv, hl⟩ := m.at hm
  obtain ⟨w, hw, rw'⟩ := hl.get hz
  refine ⟨_, _, w, rfl, rfl, hv, by rw [hl.length]; exact hw, ?_⟩
  exact k _ _ _ _ (step_set (m' := .lst xs.dropLast) hm rfl) (m.set (m' := .lst xs.dropLast) hm rfl ⟨_, upd_same, hl.dropLast.step m (step_set (m' := .lst xs.dropLast) hm rfl)⟩) (rw'.step m (step_set (m' := .lst xs.dropLast) hm rfl)) q
theorem wm_popAt {j i : Nat} (hm : μ[j]? = some (a, .lst xs)) (hi : i < 2 ^ 62) (hz : xs[i]? = some d) (q : P d (μ.set j (a, .lst (xs.eraseIdx i)))) : WM K rPopAt (.ref a) [.int (i : Int)] μ P := fun H v vs m r rs Q k => by
  cases r
  cases rs with
  | cons r1 r2 =>
    cases r1; cases r2
    obtain ⟨ws, hv, hl⟩ := m.at hm
    obtain ⟨w, hw, rw'⟩ := hl.get hz
    have hlt : i < ws.length := (List.getElem?_eq_some_iff.mp hw).1
    refine ⟨_, _, _, i, w, rfl, rfl, hv, by omega, by omega, ?_, hw, ?_⟩
    · first
        | (unfold PySem.seqIndex?; simp; omega)
        | (rw [seqIndex_of (by omega) (by omega)]; simp)
    · exact k _ _ _ _ (step_set (m' := .lst (xs.eraseIdx i)) hm rfl) (m.set (m' := .lst (xs.eraseIdx i)) hm rfl ⟨_, upd_same, (hl.eraseIdx i).step m (step_set (m' := .lst (xs.eraseIdx i)) hm rfl)⟩) (rw'.step m (step_set (m' := .lst (xs.eraseIdx i)) hm rfl)) q
theorem wg_setL {to ti : TE} {PG : Dl → Mu → Prop} (h : W K to δ μ fun o μ1 => W K ti δ μ1 fun i μ2 => ∃ (a : Addr) (j : Nat) (xs : List D) (n : Int) (k : Nat), o = .ref a ∧ i = .int n ∧ μ2[j]? = some (a, M.lst xs) ∧ ixN xs.length n = some k ∧ PG δ (μ2.set j (a, .lst (xs.set k d)))) : WG K (gSub to ti rSetL) d δ μ PG := fun σ H v ok r Q f =>
  h σ H ok _ fun o H1 do1 μ1 s1 m1 r1 h1 => h1 σ H1 (ok.step s1 m1) _ fun i H2 di μ2 s2 m2 r2 ⟨a, j, xs, n, k, e1, e2, hm, hk, q⟩ => by
    subst e1 e2
    cases r1
    cases r2
    obtain ⟨ws, hv, hl⟩ := m2.at hm
    have r' := (r.step ok.m s1).step m1 s2
    have st : Step μ2 H2 (μ2.set j (a, .lst (xs.set k d))) (upd H2 a (.lst (ws.set k v))) := step_set hm rfl
    refine ⟨_, _, _, k, rfl, rfl, hv, by rw [hl.length]; exact hk, ?_⟩
    exact f σ _ δ _ ((s1.trans s2).trans st) ((ok.step (s1.trans s2) m2).step st (m2.set hm rfl ⟨_, upd_same, (DenL.set r' k hl).step m2 st⟩)) q

/-! ### dicts -/
def kD : Key → D
  | .inl i => .int i
  | .inr x => .str x
def valD (kds : List (Key × D)) (k : Key) : Option D := (kds.find? fun kv => decide (kv.1 = k)).map (·.2)
def putD (kvs : List (Key × D)) (k : Key) (v : D) : List (Key × D) :=
  if (kvs.any fun kv => decide (kv.1 = k)) = true then kvs.map (fun kv => if kv.1 = k then (kv.1, v) else kv) else kvs ++ [(k, v)]
theorem den_kD {H : Hp} {k : Key} {v : V} (r : Den K H v (kD k)) : v = kV k := by
  cases k <;> (cases r; rfl)
theorem DenK.length {H : Hp} : ∀ {kvs : List (Key × V)} {kds : List (Key × D)}, DenK K H kvs kds → kvs.length = kds.length
  | _, _, .nil => rfl
  | _, _, .cons _ b => congrArg (· + 1) b.length
theorem DenK.val {H : Hp} {k : Key} : ∀ {kvs : List (Key × V)} {kds : List (Key × D)}, DenK K H kvs kds → (valD kds k = none → valV kvs k = none) ∧ ∀ d, valD kds k = some d → ∃ v, valV kvs k = some v ∧ Den K H v d
  | _, _, .nil => ⟨fun _ => rfl, fun d e => by cases e⟩
  | (k1, v1) :: _, (_, d1) :: _, .cons a b => by
    have ih := DenK.val (k := k) b
    by_cases c : k1 = k
    · have e1 : ∀ r : List (Key × D), valD ((k1, d1) :: r) k = some d1 := fun r => by unfold valD; rw [List.find?_cons, decide_eq_true c]; rfl
      have e2 := valV_pos (p := (k1, v1)) (r := ‹_›) c
      refine ⟨fun z => ?_, fun d z => ?_⟩
      · rw [e1] at z; cases z
      · rw [e1] at z; cases z; exact ⟨v1, e2, a⟩
    · have e1 : ∀ r : List (Key × D), valD ((k1, d1) :: r) k = valD r k := fun r => by unfold valD; rw [List.find?_cons, decide_eq_false c]
      have e2 : ∀ r : List (Key × V), valV ((k1, v1) :: r) k = valV r k := fun r => valV_neg (p := (k1, v1)) (r := r) c
      exact ⟨fun z => by rw [e1] at z; rw [e2]; exact ih.1 z, fun d z => by rw [e1] at z; rw [e2]; exact ih.2 d z⟩
theorem DenK.any {H : Hp} {k : Key} : ∀ {kvs : List (Key × V)} {kds : List (Key × D)}, DenK K H kvs kds → (kvs.any fun kv => decide (kv.1 = k)) = (kds.any fun kv => decide (kv.1 = k))
  | _, _, .nil => rfl
  | _, _, .cons a b => by rw [List.any_cons, List.any_cons, DenK.any b]
theorem DenK.put {H : Hp} {k : Key} {v : V} {d : D} (r : Den K H v d) {kvs : List (Key × V)} {kds : List (Key × D)} (h : DenK K H kvs kds) : DenK K H (putK kvs k v) (putD kds k d) := by
  unfold putK putD
  rw [DenK.any h]
  split
  · rename_i hq; clear hq
    induction h with
    | nil => exact .nil
    | @cons k1 v1 d1 kvs kds a b ih =>
      rw [List.map_cons, List.map_cons]
      by_cases c : k1 = k
      · rw [if_pos (show (k1, v1).1 = k from c), if_pos (show (k1, d1).1 = k from c)]; exact .cons r ih
      · rw [if_neg (show ¬ (k1, v1).1 = k from c), if_neg (show ¬ (k1, d1).1 = k from c)]; exact .cons a ih
  · rename_i hq; clear hq
    induction h with
    | nil => exact .cons r .nil
    | cons a b ih => exact .cons a ih
theorem w_dget (h : W K td δ μ fun x μ1 => W K ty δ μ1 fun y μ2 => ∃ (a : Addr) (j : Nat) (kds : List (Key × D)) (k : Key) (d : D), x = .ref a ∧ y = kD k ∧ μ2[j]? = some (a, M.dic kds) ∧ valD kds k = some d ∧ P d μ2) : W K (tDGet td ty) δ μ P := fun σ H ok Q f =>
  h σ H ok _ fun v H1 x μ1 s1 m1 r1 h1 => h1 σ H1 (ok.step s1 m1) _ fun u H2 y μ2 s2 m2 r2 ⟨a, j, kds, k, d, e1, e2, hm, hv, q⟩ => by
    subst e1 e2
    cases r1
    have e := den_kD r2
    subst e
    obtain ⟨kvs, hd, hl⟩ := m2.at hm
    obtain ⟨w, hw, rw'⟩ := (hl.val (k := k)).2 d hv
    exact ⟨a, w, rfl, by rw [← hw]; exact DGet.k hd, f _ H2 _ μ2 (s1.trans s2) m2 rw' q⟩
theorem w_din (h : W K ty δ μ fun y μ1 => W K td δ μ1 fun x μ2 => ∃ (a : Addr) (j : Nat) (kds : List (Key × D)) (k : Key), x = .ref a ∧ y = kD k ∧ μ2[j]? = some (a, M.dic kds) ∧ P (.bl (valD kds k).isSome) μ2) : W K (tDIn ty td) δ μ P := fun σ H ok Q f =>
  h σ H ok _ fun v H1 x μ1 s1 m1 r1 h1 => h1 σ H1 (ok.step s1 m1) _ fun u H2 y μ2 s2 m2 r2 ⟨a, j, kds, k, e1, e2, hm, q⟩ => by
    subst e1 e2
    cases r2
    have e := den_kD (r1.step m1 s2)
    subst e
    obtain ⟨kvs, hd, hl⟩ := m2.at hm
    refine ⟨a, _, rfl, DGet.k hd, f _ H2 _ μ2 (s1.trans s2) m2 (.bl _) ?_⟩
    have e : (valV kvs k).isSome = (valD kds k).isSome := by
      cases c : valD kds k with
      | none => rw [(hl.val (k := k)).1 c]; rfl
      | some d =>
        obtain ⟨w, hw, _⟩ := (hl.val (k := k)).2 d c
        rw [hw]; rfl
    rw [e]; exact q
theorem w_dnotin (h : W K ty δ μ fun y μ1 => W K td δ μ1 fun x μ2 => ∃ (a : Addr) (j : Nat) (kds : List (Key × D)) (k : Key), x = .ref a ∧ y = kD k ∧ μ2[j]? = some (a, M.dic kds) ∧ P (.bl (!(valD kds k).isSome)) μ2) : W K (tDNotIn ty td) δ μ P := fun σ H ok Q f =>
  h σ H ok _ fun v H1 x μ1 s1 m1 r1 h1 => h1 σ H1 (ok.step s1 m1) _ fun u H2 y μ2 s2 m2 r2 ⟨a, j, kds, k, e1, e2, hm, q⟩ => by
    subst e1 e2
    cases r2
    have e := den_kD (r1.step m1 s2)
    subst e
    obtain ⟨kvs, hd, hl⟩ := m2.at hm
    refine ⟨a, _, rfl, DGet.k hd, f _ H2 _ μ2 (s1.trans s2) m2 (.bl _) ?_⟩
    have e : (valV kvs k).isSome = (valD kds k).isSome := by
      cases c : valD kds k with
      | none => rw [(hl.val (k := k)).1 c]; rfl
      | some d =>
        obtain ⟨w, hw, _⟩ := (hl.val (k := k)).2 d c
        rw [hw]; rfl
    rw [e]; exact q
theorem ws_dput (h : W K tv δ μ fun d μ1 => W K td δ μ1 fun x μ2 => W K ty δ μ2 fun y μ3 => ∃ (a : Addr) (j : Nat) (kds : List (Key × D)) (k : Key), x = .ref a ∧ y = kD k ∧ μ3[j]? = some (a, M.dic kds) ∧ kds.length < sizeLine ∧ E.nx δ (μ3.set j (a, .dic (putD kds k d)))) : WS K (sDPut td ty tv) δ μ E := fun σ H ok Dn n r b c =>
  h σ H ok _ fun v H1 d μ1 s1 m1 r1 h1 => h1 σ H1 (ok.step s1 m1) _ fun u H2 x μ2 s2 m2 r2 h2 => h2 σ H2 (ok.step (s1.trans s2) m2) _ fun w H3 y μ3 s3 m3 r3 ⟨a, j, kds, k, e1, e2, hm, hz, q⟩ => by
    subst e1 e2
    cases r2
    have e := den_kD r3
    subst e
    obtain ⟨kvs, hd, hl⟩ := m3.at hm
    have r' := (r1.step m1 s2).step m2 s3
    have st : Step μ3 H3 (μ3.set j (a, .dic (putD kds k d))) (upd H3 a (.dK (putK kvs k v))) := step_set hm rfl
    refine ⟨a, _, rfl, DPut.k hd (by rw [hl.length]; exact hz), ?_⟩
    exact n σ _ δ _ (s1.trans (s2.trans (s3.trans st))) ((ok.step (s1.trans (s2.trans s3)) m3).step st (m3.set hm rfl ⟨_, upd_same, DenK.step' (ps_step m3 st) (DenK.put r' hl)⟩)) q
/-- a display -/
def WPs (K : PySem.W.Frag) : List (TE × TE) → Dl → Mu → (List (D × D) → Mu → Prop) → Prop
  | [], _, μ, P => P [] μ
  | (tk, tv) :: r, δ, μ, P => W K tk δ μ fun k μ1 => W K tv δ μ1 fun v μ2 => WPs K r δ μ2 fun ps μ3 => P ((k, v) :: ps) μ3

theorem wps_run {trs : List (TE × TE)} : ∀ {μ : Mu} {Pp : List (D × D) → Mu → Prop}, WPs K trs δ μ Pp → ∀ (σ : St) (H : Hp), Ok K H σ δ μ → ∀ Q : List (V × V) → Hp → Prop,
    (∀ ps H' pds μ', Step μ H μ' H' → OkM K H' μ' → DenL K H' (ps.map (·.1)) (pds.map (·.1)) → DenL K H' (ps.map (·.2)) (pds.map (·.2)) → Pp pds μ' → Q ps H') → tPairs trs σ H Q := by
  induction trs with
  | nil => exact fun h σ H ok Q f => f [] H [] _ .refl ok.m .nil .nil h
  | cons p r ih =>
    obtain ⟨tk, tv⟩ := p
    intro μ Pp h σ H ok Q f
    exact h σ H ok _ fun v H1 x μ1 s1 m1 r1 h1 => h1 σ H1 (ok.step s1 m1) _ fun u H2 y μ2 s2 m2 r2 h2 => ih h2 σ H2 (ok.step (s1.trans s2) m2) _ fun ps H3 pds μ3 s3 m3 r3 r4 h3 =>
      f ((v, u) :: ps) H3 ((x, y) :: pds) μ3 (s1.trans (s2.trans s3)) m3 (.cons ((r1.step m1 s2).step m2 s3) r3) (.cons (r2.step m2 s3) r4) h3
def mergeD (kvs more : List (Key × D)) : List (Key × D) := more.foldl (fun acc kv => putD acc kv.1 kv.2) kvs
theorem DenK.merge {H : Hp} : ∀ {more : List (Key × V)} {mds : List (Key × D)} {kvs : List (Key × V)} {kds : List (Key × D)}, DenK K H more mds → DenK K H kvs kds → DenK K H (mergeK kvs more) (mergeD kds mds)
  | [], [], _, _, _, h => h
  | [], _ :: _, _, _, h, _ => by cases h
  | _ :: _, [], _, _, h, _ => by cases h
  | (k, v) :: more, (k', d) :: mds, kvs, kds, h1, h => by
    cases h1 with
    | cons a b => exact DenK.merge (more := more) (mds := mds) b (DenK.put a h)
theorem denK_of {H : Hp} : ∀ {ps : List (V × V)} {kds : List (Key × D)}, DenL K H (ps.map (·.1)) (kds.map fun kv => kD kv.1) → DenL K H (ps.map (·.2)) (kds.map (·.2)) → ∃ kvs : List (Key × V), ps = kvs.map (fun kv => (kV kv.1, kv.2)) ∧ DenK K H kvs kds
  | [], [], _, _ => ⟨[], rfl, .nil⟩
  | [], _ :: _, h, _ => by cases h
  | _ :: _, [], h, _ => by cases h
  | (a, b) :: ps, (k, d) :: kds, .cons h1 h2, .cons h3 h4 => by
    obtain ⟨kvs, e, h⟩ := denK_of (ps := ps) (kds := kds) h2 h4
    exact ⟨(k, b) :: kvs, by rw [List.map_cons, ← e, ← den_kD h1], .cons h3 h⟩
theorem w_disp {trs : List (TE × TE)} (h : ∀ p, WPs K trs δ ((p, .dic []) :: μ) fun pds μ2 => ∃ (j : Nat) (kds : List (Key × D)), μ2[j]? = some (p, M.dic []) ∧ pds = kds.map (fun kv => (kD kv.1, kv.2)) ∧ kds.length ≤ 15 ∧ P (.ref p) (μ2.set j (p, .dic (mergeD [] kds)))) : W K (tDisp trs) δ μ P := fun σ H ok Q f p hp => by
  have st : Step μ H ((p, .dic []) :: μ) (upd H p (.dK [])) := step_join hp rfl
  have m' : OkM K (upd H p (.dK [])) ((p, .dic []) :: μ) := ok.m.join (m := .dic []) hp rfl ⟨[], upd_same, .nil⟩
  refine wps_run (h p) σ _ (ok.step st m') _ fun ps H2 pds μ2 s2 m2 r1 r2 ⟨j, kds, hm, e, hl, q⟩ => ?_
  obtain ⟨kv0, hk, hk0⟩ := m2.at hm
  have ek : kv0 = [] := by cases hk0; rfl
  subst ek
  subst e
  rw [List.map_map] at r1 r2
  obtain ⟨kvs, e, hd⟩ := denK_of (kds := kds) r1 r2
  have s3 : Step μ2 H2 (μ2.set j (p, .dic (mergeD [] kds))) (upd H2 p (.dK (mergeK [] kvs))) := step_set hm rfl
  refine ⟨hk, kvs, e, by rw [hd.length]; exact hl, f _ _ _ _ ((st.trans s2).trans s3) (m2.set (m' := .dic (mergeD [] kds)) hm rfl ⟨_, upd_same, DenK.step' (ps_step m2 s3) (DenK.merge hd .nil)⟩) (.ref p) q⟩

/-! ### calls -/
abbrev SpD := List D → Mu → (D → Mu → Prop) → Prop
def spOf (K : PySem.W.Frag) (n : Nat) (S : SpD) : Sp := fun vs H Q _ => vs.length = n ∧ ∃ ds μ P, OkM K H μ ∧ DenL K H vs ds ∧ S ds μ P ∧ ∀ v H' d μ', Step μ H μ' H' → OkM K H' μ' → Den K H' v d → P d μ' → Q v H'
theorem w_call {n : Nat} {S : SpD} {X : XK} (h : WA K al δ μ fun ds μ1 => ds.length = n ∧ S ds μ1 P) : W K (tCall (spOf K n S) [] X al) δ μ P := fun σ H ok Q f =>
  h σ H ok _ fun vs H1 ds μ1 s1 m1 r1 ⟨hl, h1⟩ => by
    rw [List.append_nil]
    exact ⟨by rw [r1.length]; exact hl, ds, μ1, P, m1, r1, h1, fun v H2 d μ2 s2 m2 r2 p => f v H2 d μ2 (s1.trans s2) m2 r2 p⟩
/-- what may be forgotten -/
def Weak (μ μ' : Mu) : Prop := ∀ (K : PySem.W.Frag) (H : Hp), OkM K H μ → OkM K H μ' ∧ ∀ a ∈ foot μ', a ∈ foot μ
theorem Weak.refl {μ : Mu} : Weak μ μ := fun _ _ h => ⟨h, fun _ z => z⟩
theorem Weak.trans {μ1 μ2 μ3 : Mu} (a : Weak μ1 μ2) (b : Weak μ2 μ3) : Weak μ1 μ3 := fun K H h => let ⟨h1, s1⟩ := a K H h; let ⟨h2, s2⟩ := b K H h1; ⟨h2, fun x z => s1 x (s2 x z)⟩
theorem foot_sub : ∀ {μ μ' : Mu}, μ'.Sublist μ → (foot μ').Sublist (foot μ)
  | _, _, .slnil => .slnil
  | _, _, .cons p h => .cons _ (List.Sublist.trans (foot_sub h) (List.sublist_append_right _ _))
  | _, _, .cons₂ p h => .cons₂ _ (List.Sublist.append (List.Sublist.refl _) (foot_sub h))
theorem weak_sub {μ μ' : Mu} (h : μ'.Sublist μ) : Weak μ μ' := fun _ _ o => ⟨⟨(foot_sub h).nodup o.nd, fun p hp => o.ok p (h.subset hp)⟩, fun _ z => (foot_sub h).subset z⟩
theorem Weak.step {H H' : Hp} {μ μ' μ'' : Mu} (w : Weak μ' μ'') (m : OkM K H' μ') (s : Step μ H μ' H') : Step μ H μ'' H' := ⟨s.keep, fun a z => s.grow a ((w K H' m).2 a z)⟩
/-- the end of a def -/
def endD (P : D → Mu → Prop) : DE where
  nx := fun _ μ => ∃ μ', Weak μ μ' ∧ P .non μ'
  rt := fun d μ => ∃ μ', Weak μ μ' ∧ P d μ'
  bk := fun _ _ => False
  ct := fun _ _ => False
def startD (N : List Str) (ds : List D) : Dl := ds.map some ++ List.replicate (N.length - ds.length) none
theorem sg_start {H : Hp} {N : List Str} {vs : List V} (r : DenL K H vs ds) : Sg K H (L2.start N vs) (startD N ds) := fun i d e => by
  unfold startD at e
  unfold L2.start
  have hl := r.length
  by_cases c : i < ds.length
  · rw [List.getElem?_append_left (by rw [List.length_map]; exact c), List.getElem?_map] at e
    rw [List.getElem?_append_left (by rw [List.length_map, hl]; exact c), List.getElem?_map]
    cases q : ds[i]? with
    | none => rw [q] at e; cases e
    | some z =>
      rw [q] at e
      cases e
      obtain ⟨v, h1, h2⟩ := r.get q
      exact ⟨v, by rw [h1]; rfl, h2⟩
  · rw [List.getElem?_append_right (by rw [List.length_map]; omega)] at e
    rw [List.getElem?_replicate] at e
    split at e <;> cases e
theorem fn_ok {Pg : Program} {w : World} {mg : Str → Option Value} {base : Heap} {x qual : Str} {st : Stmt} {f : Addr} {fd : FuncData} {N ps : List Str} {k n : Nat} {S : SpD} (F : Fun K x qual st f fd) (sc : FnScope N ps (defScope st)) (hn : n = ps.length)
    (body : ∀ (cdv : Value) (A : Around) (outer : List Env) (s : Shared) (H : Hp) (X : XK), Room k (A.deeper (PyProof.Rows.envOfC qual (defScope st) s.heap.objs.size f cdv)) →
      ∃ t, PSs (cxOf CX0 Pg w K mg base N qual (defScope st) f cdv A outer s H X).nox (defBody st) t ∧ ∀ ds μ P, ds.length = n → S ds μ P → WS K t (startD N ds) μ (endD P)) :
    FnOk Pg w K mg base CX0 (k + 1) f fd ps (spOf K n S) := by
  refine F.ok sc (fun vs H Q E h => h.1.trans hn) (fun cdv A outer s H vs Q E hr h => ?_)
  obtain ⟨t, h1, h2⟩ := body cdv A outer s H E hr
  obtain ⟨hl, ds, μ, P, m, r, hs, q⟩ := h
  refine ⟨t, h1, h2 ds μ P (by rw [← r.length]; exact hl) hs (L2.start N vs) H ⟨m, sg_start r, by unfold L2.start startD; simp [r.length]⟩ _ ?_ ?_ ?_ ?_⟩
  · rintro σ' H' δ' μ' s' o' ⟨μ'', wk, p⟩
    exact q .non H' .non μ'' (wk.step o'.m s') (wk K H' o'.m).1 .non p
  · rintro v H' d μ' s' m' r' ⟨μ'', wk, p⟩
    exact q v H' d μ'' (wk.step m' s') (wk K H' m').1 r' p
  · intro _ _ _ _ _ _ z; exact z
  · intro _ _ _ _ _ _ z; exact z

/-! ### decks -/
theorem foot_perm : ∀ {μ : Mu} {i : Nat} {p : Addr × M}, μ[i]? = some p → (foot μ).Perm (p.1 :: (p.2.own ++ foot (μ.eraseIdx i)))
  | [], i, p, e => by simp at e
  | q :: μ, 0, p, e => by
    simp at e
    subst e
    exact List.Perm.refl _
  | q :: μ, i + 1, p, e => by
    have ih := foot_perm (μ := μ) (i := i) (p := p) (by simpa using e)
    show (q.1 :: (q.2.own ++ foot μ)).Perm (p.1 :: (p.2.own ++ (q.1 :: (q.2.own ++ foot (μ.eraseIdx i)))))
    refine ((ih.append_left q.2.own).cons q.1).trans ?_
    have e1 : (q.1 :: (q.2.own ++ p.1 :: (p.2.own ++ foot (μ.eraseIdx i)))) = (q.1 :: q.2.own) ++ ((p.1 :: p.2.own) ++ foot (μ.eraseIdx i)) := by simp
    have e2 : (p.1 :: (p.2.own ++ (q.1 :: (q.2.own ++ foot (μ.eraseIdx i))))) = (p.1 :: p.2.own) ++ ((q.1 :: q.2.own) ++ foot (μ.eraseIdx i)) := by simp
    rw [e1, e2, ← List.append_assoc, ← List.append_assoc]
    exact List.perm_append_comm.append_right _
theorem erase_sub : ∀ (μ : Mu) (i : Nat), (μ.eraseIdx i).Sublist μ := fun μ i => List.eraseIdx_sublist μ i
theorem deckK {H : Hp} {ns : List Int} : ∀ (ks : List Str) (ns : List Int), DenK K H ((ks.zip ns).map fun p => ((Sum.inr p.1 : Key), V.int p.2)) ((ks.zip ns).map fun p => ((Sum.inr p.1 : Key), D.int p.2))
  | [], _ => .nil
  | _ :: _, [] => .nil
  | k :: ks, n :: ns => .cons (.int n) (deckK (ns := ns) ks ns)
/-- a deck is opened: its dict and its cells in sight, ahead -/
theorem ws_open {i : Nat} {ks : List Str} {c : Addr} (hm : μ[i]? = some (a, .deck ks c)) (h : ∀ (ns cs : List Int), (ns.length = ks.length ∧ ∀ n ∈ ns, 0 ≤ n) → cs.length ≤ 63 → WS K ts δ ((a, .dic (deckKds ks ns c)) :: (c, .lst (cs.map D.int)) :: μ.eraseIdx i) E) : WS K ts δ μ E := fun σ H ok Dn n r b cc => by
  obtain ⟨ns, cs, h1, h2, e1, e2⟩ := ok.m.at hm
  have hp := foot_perm hm
  have fe : foot ((a, .dic (deckKds ks ns c)) :: (c, .lst (cs.map D.int)) :: μ.eraseIdx i) = a :: ([c] ++ foot (μ.eraseIdx i)) := rfl
  have m' : OkM K H ((a, .dic (deckKds ks ns c)) :: (c, .lst (cs.map D.int)) :: μ.eraseIdx i) := by
    refine ⟨by rw [fe]; exact hp.nodup_iff.mp ok.m.nd, fun p hp' => ?_⟩
    rcases List.mem_cons.mp hp' with rfl | hp'
    · exact ⟨_, e1, .cons (.ref c) (deckK (ns := ns) ks ns)⟩
    rcases List.mem_cons.mp hp' with rfl | hp'
    · exact ⟨_, e2, DenL.of_ints cs⟩
    · exact ok.m.ok p ((erase_sub μ i).subset hp')
  have st : Step μ H ((a, .dic (deckKds ks ns c)) :: (c, .lst (cs.map D.int)) :: μ.eraseIdx i) H := ⟨fun _ _ z _ => z, fun x z => by rw [fe] at z; exact .inl (hp.mem_iff.mpr z)⟩
  exact h ns cs h1 h2 σ H (ok.step st m') Dn (fun σ' H' δ' μ' s => n σ' H' δ' μ' (st.trans s)) (fun v H' d μ' s => r v H' d μ' (st.trans s)) (fun σ' H' δ' μ' s => b σ' H' δ' μ' (st.trans s)) (fun σ' H' δ' μ' s => cc σ' H' δ' μ' (st.trans s))
theorem deck_kvs0 {H : Hp} : ∀ {ks : List Str} {ns : List Int} {kvs : List (Key × V)}, DenK K H kvs ((ks.zip ns).map fun p => ((Sum.inr p.1 : Key), D.int p.2)) → kvs = (ks.zip ns).map fun p => ((Sum.inr p.1 : Key), V.int p.2)
  | [], _, _, h => by cases h; rfl
  | _ :: _, [], _, h => by cases h; rfl
  | k :: ks, n :: ns, _, h => by
    cases h with
    | cons a b => cases a; rw [deck_kvs0 b]; rfl
theorem deck_kvs {H : Hp} {ks : List Str} {ns : List Int} {c : Addr} {kvs : List (Key × V)} (h : DenK K H kvs (deckKds ks ns c)) : kvs = deckKvs ks ns c := by
  cases h with
  | cons a b => cases a; rw [deck_kvs0 b]; rfl
/-- .. and closed -/
theorem weak_close {i : Nat} {ks : List Str} {c : Addr} {kds : List (Key × D)} {ds : List D} {ns cs : List Int} (hm : μ[i]? = some (a, .deck ks c)) (h1 : ns.length = ks.length ∧ ∀ n ∈ ns, 0 ≤ n) (h2 : cs.length ≤ 63) (e1 : kds = deckKds ks ns c) (e2 : ds = cs.map D.int) :
    Weak ((a, .dic kds) :: (c, .lst ds) :: μ.eraseIdx i) μ := fun K H o => by
  have hp := foot_perm hm
  have fe : foot ((a, .dic kds) :: (c, .lst ds) :: μ.eraseIdx i) = a :: ([c] ++ foot (μ.eraseIdx i)) := rfl
  subst e1 e2
  refine ⟨⟨hp.nodup_iff.mpr (by rw [fe] at *; exact o.nd), fun p hp' => ?_⟩, fun x z => by rw [fe]; exact hp.mem_iff.mp z⟩
  obtain ⟨j, hj⟩ := List.getElem?_of_mem hp'
  by_cases cji : j = i
  · subst cji
    rw [hm] at hj
    cases hj
    obtain ⟨kvs, ek, dk⟩ := o.ok _ List.mem_cons_self
    obtain ⟨vs, ev, dv⟩ := o.ok _ (List.mem_cons_of_mem _ List.mem_cons_self)
    have q2 := dv.ints
    subst q2
    have q1 := deck_kvs dk
    exact ⟨ns, cs, h1, h2, by rw [← q1]; exact ek, ev⟩
  · refine o.ok p (List.mem_cons_of_mem _ (List.mem_cons_of_mem _ ?_))
    refine List.mem_eraseIdx_iff_getElem?.mpr ⟨j, cji, hj⟩
end
end Wk

set_option Elab.async false
set_option linter.all false
set_option maxRecDepth 100000
namespace PySem
open Sem (wp)
section
variable {prog : Program} {w : World} {A : Around} {E : Value → Shared → Prop} {s : Shared}
theorem F.args_max4 (a b c d : Value) : argsOk "max" ⟨[a, b, c, d], []⟩ := by unfold argsOk; kernel_rfl
theorem F.args_max5 (a b c d e : Value) : argsOk "max" ⟨[a, b, c, d, e], []⟩ := by unfold argsOk; kernel_rfl
theorem F.args_min3' (a b c : Value) : argsOk "min" ⟨[a, b, c], []⟩ := by unfold argsOk; kernel_rfl
theorem F.args_min4 (a b c d : Value) : argsOk "min" ⟨[a, b, c, d], []⟩ := by unfold argsOk; kernel_rfl
theorem wk_call_max {a b : Value} {r : List Value} {Q : Value → Shared → Prop} (hargs : argsOk "max" ⟨a :: b :: r, []⟩) (hz : (a :: b :: r).length ≤ sizeLine)
    (h : wpAny (model prog w) A.in1 (pyIter (.ref s.heap.objs.size)) (fun it s₂ => ∃ I fp wr n P St bt, it = .ref I ∧ Walks prog w A.in1 I fp wr n P St ∧ St 0 s₂.heap ∧ (∀ b ∈ fp, b < s₂.heap.objs.size) ∧ 0 < n ∧ CmpOf prog w A.in1 .Gt P bt ∧
      ∀ v h' tk, P (argBest bt (n - 1)) v → (∀ b o, b ∉ wr → s₂.heap.get? b = some o → h'.get? b = some o) → Q v { s₂ with heap := h', toks := tk }) E
      { s with heap := s.heap.push { cls := .type "tuple", data := .seq (a :: b :: r).toArray } }) :
    wpAny (model prog w) A (call (.builtin "max") (a :: b :: r)) Q E s := by
  have hname : (toString "max" ++ toString ".loop" : String) = "max.loop" := by decide
  refine call_function_tree F.kind_max F.plain_max F.entry_max hargs ?_
  show wpAny _ A.in1 (Builtin.Builtins.bindParams "max" ["key", "default"] 0 ⟨[], []⟩ >>= _) _ _ s
  refine wpAny_bind (wpAny_of_eq (show Builtin.Builtins.bindParams "max" ["key", "default"] 0 ⟨[], []⟩ = pure [none, none] from rfl) ?_)
  show wpAny _ A.in1 (newTuple (a :: b :: r) >>= _) _ _ s
  refine wpAny_bind (wpAny_newObj_type ?_ hz)
  refine wpAny_bind (wpAny_mono h (fun it s₂ h₂ => ?_) fun _ _ e => e)
  obtain ⟨I, fp, wr, n, P, St, bt, rfl, W, hst, hfp, hn, hcmp, hQ⟩ := h₂
  refine wpAny_bind (wpAny_newObj_type ?_)
  have hSf : s₂.heap.objs.size ∉ fp := fun hm => Nat.lt_irrefl _ (hfp _ hm)
  rw [hname]
  refine wpAny_pure ⟨plainId_quiet F.plain_max_loop _, codeAny_max_loop_first W bt hcmp s₂.heap.objs.size hSf hn (W.frame _ _ _ hst fun b _ o e => Heap.get?_push_of_some _ e) (Heap.get?_push_size _ rfl) fun v h' tk hP hk => ?_⟩
  exact hQ v h' tk hP fun b o hbw e => hk b o hbw (Nat.ne_of_lt (Heap.lt_size e)) (Heap.get?_push_of_some _ e)
theorem wk_call_min {a b : Value} {r : List Value} {Q : Value → Shared → Prop} (hargs : argsOk "min" ⟨a :: b :: r, []⟩) (hz : (a :: b :: r).length ≤ sizeLine)
    (h : wpAny (model prog w) A.in1 (pyIter (.ref s.heap.objs.size)) (fun it s₂ => ∃ I fp wr n P St bt, it = .ref I ∧ Walks prog w A.in1 I fp wr n P St ∧ St 0 s₂.heap ∧ (∀ b ∈ fp, b < s₂.heap.objs.size) ∧ 0 < n ∧ CmpOf prog w A.in1 .Lt P bt ∧
      ∀ v h' tk, P (argBest bt (n - 1)) v → (∀ b o, b ∉ wr → s₂.heap.get? b = some o → h'.get? b = some o) → Q v { s₂ with heap := h', toks := tk }) E
      { s with heap := s.heap.push { cls := .type "tuple", data := .seq (a :: b :: r).toArray } }) :
    wpAny (model prog w) A (call (.builtin "min") (a :: b :: r)) Q E s := by
  have hname : (toString "min" ++ toString ".loop" : String) = "min.loop" := by decide
  refine call_function_tree F.kind_min F.plain_min F.entry_min hargs ?_
  show wpAny _ A.in1 (Builtin.Builtins.bindParams "min" ["key", "default"] 0 ⟨[], []⟩ >>= _) _ _ s
  refine wpAny_bind (wpAny_of_eq (show Builtin.Builtins.bindParams "min" ["key", "default"] 0 ⟨[], []⟩ = pure [none, none] from rfl) ?_)
  show wpAny _ A.in1 (newTuple (a :: b :: r) >>= _) _ _ s
  refine wpAny_bind (wpAny_newObj_type ?_ hz)
  refine wpAny_bind (wpAny_mono h (fun it s₂ h₂ => ?_) fun _ _ e => e)
  obtain ⟨I, fp, wr, n, P, St, bt, rfl, W, hst, hfp, hn, hcmp, hQ⟩ := h₂
  refine wpAny_bind (wpAny_newObj_type ?_)
  have hSf : s₂.heap.objs.size ∉ fp := fun hm => Nat.lt_irrefl _ (hfp _ hm)
  rw [hname]
  refine wpAny_pure ⟨plainId_quiet F.plain_min_loop _, codeAny_min_loop_first W bt hcmp s₂.heap.objs.size hSf hn (W.frame _ _ _ hst fun b _ o e => Heap.get?_push_of_some _ e) (Heap.get?_push_size _ rfl) fun v h' tk hP hk => ?_⟩
  exact hQ v h' tk hP fun b o hbw e => hk b o hbw (Nat.ne_of_lt (Heap.lt_size e)) (Heap.get?_push_of_some _ e)
theorem wk_max_ints {a b : Int × Tok} {r : List (Int × Tok)} {Q : Value → Shared → Prop} (hh : A.handled = none) (hargs : argsOk "max" ⟨.int a.1 a.2 :: .int b.1 b.2 :: r.map (fun p => .int p.1 p.2), []⟩) (hz : (a :: b :: r).length ≤ sizeLine)
    (h : ∀ h' tk M t', (∀ d o, s.heap.get? d = some o → h'.get? d = some o) → M ∈ (a :: b :: r).map (·.1) → (∀ x ∈ (a :: b :: r).map (·.1), x ≤ M) → Q (.int M t') { s with heap := h', toks := tk }) :
    wpAny (model prog w) A (call (.builtin "max") (.int a.1 a.2 :: .int b.1 b.2 :: r.map (fun p => .int p.1 p.2))) Q E s := by
  have e0 : (intItems (a :: b :: r).toArray).toList = .int a.1 a.2 :: .int b.1 b.2 :: r.map (fun p => .int p.1 p.2) := by simp [intItems]
  have hT : (s.heap.push { cls := .type "tuple", data := .seq (Value.int a.1 a.2 :: .int b.1 b.2 :: r.map (fun p => .int p.1 p.2)).toArray }).IsTuple s.heap.objs.size (intItems (a :: b :: r).toArray) := ⟨_, Heap.get?_push_size _ rfl, rfl, 0, by rw [← e0]⟩
  refine wk_call_max hargs (by simpa using hz) (wpAny_pyIter_tuple hT ?_)
  have hsz : (s.heap.push { cls := .type "tuple", data := .seq (Value.int a.1 a.2 :: .int b.1 b.2 :: r.map (fun p => .int p.1 p.2)).toArray }).objs.size = s.heap.objs.size + 1 := Heap.size_push ..
  refine ⟨_, [_, s.heap.objs.size], [_], _, _, _, _, rfl, Walks.tuple (A := A.in1) hh _ s.heap.objs.size (by rw [hsz]; exact Nat.ne_of_lt (Nat.lt_succ_self _)) (intItems (a :: b :: r).toArray),
    ⟨⟨_, Heap.get?_push_size _ rfl, rfl, rfl⟩, hT.push _⟩, fun d hd => ?_, by simp [intItems], CmpOf.ints_gt (numAt (a :: b :: r).toArray) (fun _ _ => intItems_at), fun v h' tk hP hk => ?_⟩
  · show d < ((s.heap.push _).push _).objs.size
    rw [Heap.size_push, hsz]
    rcases List.mem_cons.mp hd with rfl | hd
    · rw [hsz]; exact Nat.lt_succ_self _
    · rcases List.mem_cons.mp hd with rfl | hd
      · exact Nat.lt_succ_of_lt (Nat.lt_succ_self _)
      · cases hd
  · have hold : ∀ d o, s.heap.get? d = some o → h'.get? d = some o := fun d o e => by
      refine hk d o (fun hm => ?_) (Heap.get?_push_of_some _ (Heap.get?_push_of_some _ e))
      rcases List.mem_cons.mp hm with e1 | hm
      · have := Heap.lt_size e; rw [e1, hsz] at this; exact Nat.lt_irrefl _ (Nat.lt_of_succ_lt this)
      · cases hm
    obtain ⟨t, rfl⟩ := intItems_at hP
    have hlen : (intItems (a :: b :: r).toArray).size = (a :: b :: r).length := by simp [intItems]
    obtain ⟨h1, h2⟩ := argBest_gt (numAt (a :: b :: r).toArray) ((intItems (a :: b :: r).toArray).size - 1)
    refine h h' tk _ t hold ?_ fun x hx => ?_
    · rw [numAt_eq]; exact PySem.getD_mem (by rw [List.length_map]; simp only [hlen] at h1 ⊢; simp at h1 ⊢; omega)
    · obtain ⟨j, hj, rfl⟩ := mem_getD hx
      rw [List.length_map] at hj
      have := h2 j (by simp [hlen] at hj ⊢; omega)
      rw [numAt_eq] at this
      exact this
theorem wk_min_ints {a b : Int × Tok} {r : List (Int × Tok)} {Q : Value → Shared → Prop} (hh : A.handled = none) (hargs : argsOk "min" ⟨.int a.1 a.2 :: .int b.1 b.2 :: r.map (fun p => .int p.1 p.2), []⟩) (hz : (a :: b :: r).length ≤ sizeLine)
    (h : ∀ h' tk M t', (∀ d o, s.heap.get? d = some o → h'.get? d = some o) → M ∈ (a :: b :: r).map (·.1) → (∀ x ∈ (a :: b :: r).map (·.1), M ≤ x) → Q (.int M t') { s with heap := h', toks := tk }) :
    wpAny (model prog w) A (call (.builtin "min") (.int a.1 a.2 :: .int b.1 b.2 :: r.map (fun p => .int p.1 p.2))) Q E s := by
  have e0 : (intItems (a :: b :: r).toArray).toList = .int a.1 a.2 :: .int b.1 b.2 :: r.map (fun p => .int p.1 p.2) := by simp [intItems]
  have hT : (s.heap.push { cls := .type "tuple", data := .seq (Value.int a.1 a.2 :: .int b.1 b.2 :: r.map (fun p => .int p.1 p.2)).toArray }).IsTuple s.heap.objs.size (intItems (a :: b :: r).toArray) := ⟨_, Heap.get?_push_size _ rfl, rfl, 0, by rw [← e0]⟩
  refine wk_call_min hargs (by simpa using hz) (wpAny_pyIter_tuple hT ?_)
  have hsz : (s.heap.push { cls := .type "tuple", data := .seq (Value.int a.1 a.2 :: .int b.1 b.2 :: r.map (fun p => .int p.1 p.2)).toArray }).objs.size = s.heap.objs.size + 1 := Heap.size_push ..
  refine ⟨_, [_, s.heap.objs.size], [_], _, _, _, _, rfl, Walks.tuple (A := A.in1) hh _ s.heap.objs.size (by rw [hsz]; exact Nat.ne_of_lt (Nat.lt_succ_self _)) (intItems (a :: b :: r).toArray),
    ⟨⟨_, Heap.get?_push_size _ rfl, rfl, rfl⟩, hT.push _⟩, fun d hd => ?_, by simp [intItems], CmpOf.ints_lt (numAt (a :: b :: r).toArray) (fun _ _ => intItems_at), fun v h' tk hP hk => ?_⟩
  · show d < ((s.heap.push _).push _).objs.size
    rw [Heap.size_push, hsz]
    rcases List.mem_cons.mp hd with rfl | hd
    · rw [hsz]; exact Nat.lt_succ_self _
    · rcases List.mem_cons.mp hd with rfl | hd
      · exact Nat.lt_succ_of_lt (Nat.lt_succ_self _)
      · cases hd
  · have hold : ∀ d o, s.heap.get? d = some o → h'.get? d = some o := fun d o e => by
      refine hk d o (fun hm => ?_) (Heap.get?_push_of_some _ (Heap.get?_push_of_some _ e))
      rcases List.mem_cons.mp hm with e1 | hm
      · have := Heap.lt_size e; rw [e1, hsz] at this; exact Nat.lt_irrefl _ (Nat.lt_of_succ_lt this)
      · cases hm
    obtain ⟨t, rfl⟩ := intItems_at hP
    have hlen : (intItems (a :: b :: r).toArray).size = (a :: b :: r).length := by simp [intItems]
    obtain ⟨h1, h2⟩ := argBest_lt (numAt (a :: b :: r).toArray) ((intItems (a :: b :: r).toArray).size - 1)
    refine h h' tk _ t hold ?_ fun x hx => ?_
    · rw [numAt_eq]; exact PySem.getD_mem (by rw [List.length_map]; simp only [hlen] at h1 ⊢; simp at h1 ⊢; omega)
    · obtain ⟨j, hj, rfl⟩ := mem_getD hx
      rw [List.length_map] at hj
      have := h2 j (by simp [hlen] at hj ⊢; omega)
      rw [numAt_eq, numAt_eq] at this
      rw [numAt_eq]
      exact this
end
section
variable {prog : Program} {w : World} {A : Around} {E : Value → Shared → Prop} {s : Shared} {l : Addr} {its : List Value} {ns : List Int} {Q : Value → Shared → Prop}
open L2 PyProof.Rows
theorem wk_max_tup (hh : A.handled = none) (hl : s.heap.IsTuple l its.toArray) (hi : IntsAre its ns) (hne : 0 < ns.length)
    (h : ∀ h' tk M t', (∀ b o, s.heap.get? b = some o → h'.get? b = some o) → M ∈ ns → (∀ a, a ∈ ns → a ≤ M) → Q (.int M t') { s with heap := h', toks := tk }) : wpAny (model prog w) A (call (.builtin "max") [.ref l]) Q E s := by
  obtain ⟨xs, e⟩ := hi.allInts.items
  have hn : numsOf (intItems xs).toList = ns := by rw [← e]; exact hi.numsOf
  rw [nums_intItems] at hn
  subst hn
  rw [e] at hl
  have hsz : 0 < xs.size := by simpa using hne
  obtain ⟨o0, ho0, hc0, n0, hd0⟩ := id hl
  have hlt := Heap.lt_size ho0
  refine call_max_walk (wpAny_pyIter_tuple hl ?_)
  refine ⟨_, [_, l], [_], _, _, _, _, rfl, Walks.tuple (A := A.in1) hh _ l (Nat.ne_of_lt hlt) (intItems xs), ⟨⟨_, Heap.get?_push_size _ rfl, rfl, rfl⟩, hl.push _⟩, fun d hd => ?_, by simpa [intItems] using hsz, CmpOf.ints_gt (numAt xs) (fun _ _ => intItems_at), fun v h' tk hP hk => ?_⟩
  · show d < (s.heap.push _).objs.size
    rw [Heap.size_push]
    rcases List.mem_cons.mp hd with rfl | hd
    · exact Nat.lt_succ_self _
    · rcases List.mem_cons.mp hd with rfl | hd
      · exact Nat.lt_succ_of_lt hlt
      · cases hd
  · have hold : ∀ d o, s.heap.get? d = some o → h'.get? d = some o := fun d o e => by
      refine hk d o (fun hm => ?_) (Heap.get?_push_of_some _ e)
      rcases List.mem_cons.mp hm with e1 | hm
      · have := Heap.lt_size e; rw [e1] at this; exact Nat.lt_irrefl _ this
      · cases hm
    obtain ⟨t, rfl⟩ := intItems_at hP
    have hlen : (intItems xs).size = xs.size := by simp [intItems]
    rw [hlen]
    obtain ⟨h1, h2⟩ := argBest_gt (numAt xs) (xs.size - 1)
    refine h h' tk _ t hold ?_ fun x hx => ?_
    · rw [numAt_eq]; exact PySem.getD_mem (by rw [List.length_map, Array.length_toList]; omega)
    · obtain ⟨j, hj, rfl⟩ := mem_getD hx
      rw [List.length_map, Array.length_toList] at hj
      rw [← numAt_eq]; exact h2 j (by omega)
theorem wk_min_tup (hh : A.handled = none) (hl : s.heap.IsTuple l its.toArray) (hi : IntsAre its ns) (hne : 0 < ns.length)
    (h : ∀ h' tk M t', (∀ b o, s.heap.get? b = some o → h'.get? b = some o) → M ∈ ns → (∀ a, a ∈ ns → M ≤ a) → Q (.int M t') { s with heap := h', toks := tk }) : wpAny (model prog w) A (call (.builtin "min") [.ref l]) Q E s := by
  obtain ⟨xs, e⟩ := hi.allInts.items
  have hn : numsOf (intItems xs).toList = ns := by rw [← e]; exact hi.numsOf
  rw [nums_intItems] at hn
  subst hn
  rw [e] at hl
  have hsz : 0 < xs.size := by simpa using hne
  obtain ⟨o0, ho0, hc0, n0, hd0⟩ := id hl
  have hlt := Heap.lt_size ho0
  refine call_min_walk (wpAny_pyIter_tuple hl ?_)
  refine ⟨_, [_, l], [_], _, _, _, _, rfl, Walks.tuple (A := A.in1) hh _ l (Nat.ne_of_lt hlt) (intItems xs), ⟨⟨_, Heap.get?_push_size _ rfl, rfl, rfl⟩, hl.push _⟩, fun d hd => ?_, by simpa [intItems] using hsz, CmpOf.ints_lt (numAt xs) (fun _ _ => intItems_at), fun v h' tk hP hk => ?_⟩
  · show d < (s.heap.push _).objs.size
    rw [Heap.size_push]
    rcases List.mem_cons.mp hd with rfl | hd
    · exact Nat.lt_succ_self _
    · rcases List.mem_cons.mp hd with rfl | hd
      · exact Nat.lt_succ_of_lt hlt
      · cases hd
  · have hold : ∀ d o, s.heap.get? d = some o → h'.get? d = some o := fun d o e => by
      refine hk d o (fun hm => ?_) (Heap.get?_push_of_some _ e)
      rcases List.mem_cons.mp hm with e1 | hm
      · have := Heap.lt_size e; rw [e1] at this; exact Nat.lt_irrefl _ this
      · cases hm
    obtain ⟨t, rfl⟩ := intItems_at hP
    have hlen : (intItems xs).size = xs.size := by simp [intItems]
    rw [hlen]
    obtain ⟨h1, h2⟩ := argBest_lt (numAt xs) (xs.size - 1)
    refine h h' tk _ t hold ?_ fun x hx => ?_
    · rw [numAt_eq]; exact PySem.getD_mem (by rw [List.length_map, Array.length_toList]; omega)
    · obtain ⟨j, hj, rfl⟩ := mem_getD hx
      rw [List.length_map, Array.length_toList] at hj
      rw [← numAt_eq]; exact h2 j (by omega)
theorem wk_sum_tup (hh : A.handled = none) (hl : s.heap.IsTuple l its.toArray) (hi : IntsAre its ns)
    (h : ∀ h' tk t', (∀ b o, s.heap.get? b = some o → h'.get? b = some o) → Q (.int ns.sum t') { s with heap := h', toks := tk }) : wpAny (model prog w) A (call (.builtin "sum") [.ref l]) Q E s := by
  obtain ⟨xs, e⟩ := hi.allInts.items
  have hn : numsOf (intItems xs).toList = ns := by rw [← e]; exact hi.numsOf
  rw [nums_intItems] at hn
  rw [e] at hl
  refine PySem.W.ktm_sumG hh hl fun h' tk t' hk => ?_
  have := h h' tk t' hk
  rw [preSum_eq, List.take_of_length_le (by simp), hn]; exact this
end
end PySem

namespace Wk
open PySem PySem.Spec L2

/-- the greatest, the least of a list -/
def maxL : List Int → Int
  | [] => 0
  | a :: r => r.foldl max a
def minL : List Int → Int
  | [] => 0
  | a :: r => r.foldl min a
theorem foldl_max : ∀ (r : List Int) (a : Int), a ≤ r.foldl max a ∧ (∀ x ∈ r, x ≤ r.foldl max a) ∧ (r.foldl max a = a ∨ r.foldl max a ∈ r)
  | [], a => ⟨Int.le_refl _, fun _ h => (by cases h), .inl rfl⟩
  | b :: r, a => by
    obtain ⟨h1, h2, h3⟩ := foldl_max r (max a b)
    rw [List.foldl_cons]
    refine ⟨by omega, fun x hx => ?_, ?_⟩
    · rcases List.mem_cons.mp hx with rfl | hx
      · omega
      · exact h2 x hx
    · rcases h3 with h3 | h3
      · by_cases c : a ≤ b
        · exact .inr (by rw [h3, Int.max_eq_right c]; exact List.mem_cons_self)
        · exact .inl (by rw [h3, Int.max_eq_left (by omega)])
      · exact .inr (List.mem_cons_of_mem _ h3)
theorem foldl_min : ∀ (r : List Int) (a : Int), r.foldl min a ≤ a ∧ (∀ x ∈ r, r.foldl min a ≤ x) ∧ (r.foldl min a = a ∨ r.foldl min a ∈ r)
  | [], a => ⟨Int.le_refl _, fun _ h => (by cases h), .inl rfl⟩
  | b :: r, a => by
    obtain ⟨h1, h2, h3⟩ := foldl_min r (min a b)
    rw [List.foldl_cons]
    refine ⟨by omega, fun x hx => ?_, ?_⟩
    · rcases List.mem_cons.mp hx with rfl | hx
      · omega
      · exact h2 x hx
    · rcases h3 with h3 | h3
      · by_cases c : a ≤ b
        · exact .inl (by rw [h3, Int.min_eq_left c])
        · exact .inr (by rw [h3, Int.min_eq_right (by omega)]; exact List.mem_cons_self)
      · exact .inr (List.mem_cons_of_mem _ h3)
theorem maxL_ge : ∀ (l : List Int), ∀ x ∈ l, x ≤ maxL l
  | [], x, h => by cases h
  | a :: r, x, h => by
    obtain ⟨h1, h2, _⟩ := foldl_max r a
    rcases List.mem_cons.mp h with rfl | h
    · exact h1
    · exact h2 x h
theorem maxL_mem : ∀ (l : List Int), l ≠ [] → maxL l ∈ l
  | [], h => (h rfl).elim
  | a :: r, _ => by
    obtain ⟨_, _, h⟩ := foldl_max r a
    rcases h with h | h
    · exact List.mem_cons.mpr (.inl h)
    · exact List.mem_cons_of_mem _ h
theorem maxL_uniq {l : List Int} {m : Int} (h1 : m ∈ l) (h2 : ∀ x ∈ l, x ≤ m) : m = maxL l :=
  Int.le_antisymm (maxL_ge l m h1) (h2 _ (maxL_mem l fun e => by rw [e] at h1; cases h1))
theorem minL_le : ∀ (l : List Int), ∀ x ∈ l, minL l ≤ x
  | [], x, h => by cases h
  | a :: r, x, h => by
    obtain ⟨h1, h2, _⟩ := foldl_min r a
    rcases List.mem_cons.mp h with rfl | h
    · exact h1
    · exact h2 x h
theorem minL_mem : ∀ (l : List Int), l ≠ [] → minL l ∈ l
  | [], h => (h rfl).elim
  | a :: r, _ => by
    obtain ⟨_, _, h⟩ := foldl_min r a
    rcases h with h | h
    · exact List.mem_cons.mpr (.inl h)
    · exact List.mem_cons_of_mem _ h
theorem minL_uniq {l : List Int} {m : Int} (h1 : m ∈ l) (h2 : ∀ x ∈ l, m ≤ x) : m = minL l :=
  Int.le_antisymm (h2 _ (minL_mem l fun e => by rw [e] at h1; cases h1)) (minL_le l m h1)

/-- max, min of two to five numbers, or of a list of them -/
def rMaxG (K : PySem.W.Frag) : List V → Hp → VK → Prop := fun xs H Q => (∃ ns : List Int, xs = ns.map V.int ∧ (2 ≤ ns.length ∧ ns.length ≤ 5) ∧ Q (.int (maxL ns)) H) ∨ rMax K xs H Q ∨ ∃ (a : Addr) (ns : List Int), xs = [V.ref a] ∧ SqT K H a (ns.map V.int) ∧ 0 < ns.length ∧ ∀ m, m ∈ ns → (∀ y, y ∈ ns → y ≤ m) → Q (.int m) H
def rMinG (K : PySem.W.Frag) : List V → Hp → VK → Prop := fun xs H Q => (∃ ns : List Int, xs = ns.map V.int ∧ (2 ≤ ns.length ∧ ns.length ≤ 4) ∧ Q (.int (minL ns)) H) ∨ rMin K xs H Q ∨ ∃ (a : Addr) (ns : List Int), xs = [V.ref a] ∧ SqT K H a (ns.map V.int) ∧ 0 < ns.length ∧ ∀ m, m ∈ ns → (∀ y, y ∈ ns → m ≤ y) → Q (.int m) H
theorem vals_pairs : ∀ {ns : List Int} {us : List Value}, Vals (ns.map V.int) us → ∃ ps : List (Int × Tok), ps.map (·.1) = ns ∧ us = ps.map fun p => Value.int p.1 p.2
  | [], _, h => by cases h; exact ⟨[], rfl, rfl⟩
  | n :: ns, _, h => by
    cases h with
    | cons a b =>
      obtain ⟨t, rfl⟩ := a
      obtain ⟨ps, h1, h2⟩ := vals_pairs b
      exact ⟨(n, t) :: ps, by rw [List.map_cons, h1], by rw [h2]; rfl⟩
section
variable {X : Cx}
theorem call_maxG (hc : X.calm = true) : CallR X (.builtin "max") (rMaxG X.K) := by
  intro pins s σ H xs us Q I r h
  rcases h with ⟨ns, rfl, ⟨h2, h5⟩, q⟩ | h | h
  · obtain ⟨ps, e1, rfl⟩ := vals_pairs r
    subst e1
    rw [List.length_map] at h2 h5
    match ps, h2, h5 with
    | a :: b :: l, h2, h5 =>
      refine wk_max_ints (I.ok.hd hc) ?_ (Nat.le_trans h5 (by decide)) fun h' tk m t hk h1 h2 => ⟨.int _, H, I.kept hk, ⟨t, by rw [maxL_uniq h1 h2]⟩, q⟩
      match l, h5 with
      | [], _ => exact PySem.F.args_max2 _ _
      | [_], _ => exact PySem.F.args_max3 _ _ _
      | [_, _], _ => exact PySem.F.args_max4 _ _ _ _
      | [_, _, _], _ => exact PySem.F.args_max5 _ _ _ _ _
  · exact cr_max hc pins s σ H xs us Q I r h
  · obtain ⟨a, ns, rfl, hs, hne, q⟩ := h
    obtain ⟨its, rv, hl, _⟩ := I.tuple hs
    rw [Vals.ref1 r]
    exact wk_max_tup (I.ok.hd hc) hl (ints_of_vals rv) hne fun h' tk m t' hk h1 h2 => ⟨.int _, H, I.kept hk, ⟨_, rfl⟩, q m h1 h2⟩
theorem call_minG (hc : X.calm = true) : CallR X (.builtin "min") (rMinG X.K) := by
  intro pins s σ H xs us Q I r h
  rcases h with ⟨ns, rfl, ⟨h2, h5⟩, q⟩ | h | h
  · obtain ⟨ps, e1, rfl⟩ := vals_pairs r
    subst e1
    rw [List.length_map] at h2 h5
    match ps, h2, h5 with
    | a :: b :: l, h2, h5 =>
      refine wk_min_ints (I.ok.hd hc) ?_ (Nat.le_trans h5 (by decide)) fun h' tk m t hk h1 h2 => ⟨.int _, H, I.kept hk, ⟨t, by rw [minL_uniq h1 h2]⟩, q⟩
      match l, h5 with
      | [], _ => exact PySem.F.args_min2 _ _
      | [_], _ => exact PySem.F.args_min3' _ _ _
      | [_, _], _ => exact PySem.F.args_min4 _ _ _ _
  · exact cr_min hc pins s σ H xs us Q I r h
  · obtain ⟨a, ns, rfl, hs, hne, q⟩ := h
    obtain ⟨its, rv, hl, _⟩ := I.tuple hs
    rw [Vals.ref1 r]
    exact wk_min_tup (I.ok.hd hc) hl (ints_of_vals rv) hne fun h' tk m t' hk h1 h2 => ⟨.int _, H, I.kept hk, ⟨_, rfl⟩, q m h1 h2⟩
end
section
variable {K : PySem.W.Frag} {δ : Dl} {μ : Mu} {P : D → Mu → Prop} {a : Addr} {x y d : D} {xs ds : List D}
theorem wc_maxN {ns : List Int} (h : 2 ≤ ns.length ∧ ns.length ≤ 5) (q : P (.int (maxL ns)) μ) : WC K (rMaxG K) (ns.map D.int) μ P := fun H vs m r Q k => .inl ⟨ns, r.ints, h, k _ H _ μ .refl m (.int _) q⟩
theorem wc_minN {ns : List Int} (h : 2 ≤ ns.length ∧ ns.length ≤ 4) (q : P (.int (minL ns)) μ) : WC K (rMinG K) (ns.map D.int) μ P := fun H vs m r Q k => .inl ⟨ns, r.ints, h, k _ H _ μ .refl m (.int _) q⟩
theorem wc_max2 {i j : Int} (q : P (.int (max i j)) μ) : WC K (rMaxG K) [.int i, .int j] μ P := wc_maxN (ns := [i, j]) (by simp) q
theorem wc_max3 {i j k : Int} (q : P (.int (max (max i j) k)) μ) : WC K (rMaxG K) [.int i, .int j, .int k] μ P := wc_maxN (ns := [i, j, k]) (by simp) q
theorem wc_max4 {i j k l : Int} (q : P (.int (max (max (max i j) k) l)) μ) : WC K (rMaxG K) [.int i, .int j, .int k, .int l] μ P := wc_maxN (ns := [i, j, k, l]) (by simp) q
theorem wc_max5 {i j k l n : Int} (q : P (.int (max (max (max (max i j) k) l) n)) μ) : WC K (rMaxG K) [.int i, .int j, .int k, .int l, .int n] μ P := wc_maxN (ns := [i, j, k, l, n]) (by simp) q
theorem wc_min2 {i j : Int} (q : P (.int (min i j)) μ) : WC K (rMinG K) [.int i, .int j] μ P := wc_minN (ns := [i, j]) (by simp) q
theorem wc_min3 {i j k : Int} (q : P (.int (min (min i j) k)) μ) : WC K (rMinG K) [.int i, .int j, .int k] μ P := wc_minN (ns := [i, j, k]) (by simp) q
theorem wc_maxL {ns : List Int} {j : Nat} (hm : μ[j]? = some (a, .lst (ns.map D.int))) (hn : 0 < ns.length) (q : ∀ m, m ∈ ns → (∀ y ∈ ns, y ≤ m) → P (.int m) μ) : WC K (rMaxG K) [.ref a] μ P := fun H vs m r Q k => by
  cases r with
  | cons a r =>
    cases r
    cases a
    obtain ⟨vs, hv, hl⟩ := m.at hm
    have e := hl.ints
    subst e
    exact .inr (.inl ⟨_, ns, rfl, .inl (.inl hv), hn, fun z h1 h2 => k _ H _ μ .refl m (.int _) (q z h1 h2)⟩)
theorem wc_minL {ns : List Int} {j : Nat} (hm : μ[j]? = some (a, .lst (ns.map D.int))) (hn : 0 < ns.length) (q : ∀ m, m ∈ ns → (∀ y ∈ ns, m ≤ y) → P (.int m) μ) : WC K (rMinG K) [.ref a] μ P := fun H vs m r Q k => by
  cases r with
  | cons a r =>
    cases r
    cases a
    obtain ⟨vs, hv, hl⟩ := m.at hm
    have e := hl.ints
    subst e
    exact .inr (.inl ⟨_, ns, rfl, .inl (.inl hv), hn, fun z h1 h2 => k _ H _ μ .refl m (.int _) (q z h1 h2)⟩)

theorem wc_maxT {ns : List Int} (hn : ns ≠ []) (q : P (.int (maxL ns)) μ) : WC K (rMaxG K) [.tup (ns.map D.int)] μ P := fun H vs m r Q k => by
  cases r with
  | cons r1 r2 =>
    cases r2
    cases r1 with
    | tup hs_ hl =>
      have hs := TpA.sqt hs_
      have e := hl.ints
      subst e
      exact .inr (.inr ⟨_, ns, rfl, hs, List.length_pos_iff.mpr hn, fun z h1 h2 => k _ H _ μ .refl m (.int _) (by rw [maxL_uniq h1 h2]; exact q)⟩)
theorem wc_minT {ns : List Int} (hn : ns ≠ []) (q : P (.int (minL ns)) μ) : WC K (rMinG K) [.tup (ns.map D.int)] μ P := fun H vs m r Q k => by
  cases r with
  | cons r1 r2 =>
    cases r2
    cases r1 with
    | tup hs_ hl =>
      have hs := TpA.sqt hs_
      have e := hl.ints
      subst e
      exact .inr (.inr ⟨_, ns, rfl, hs, List.length_pos_iff.mpr hn, fun z h1 h2 => k _ H _ μ .refl m (.int _) (by rw [minL_uniq h1 h2]; exact q)⟩)
/-- sum of a list or a tuple of ints -/
def rSumG (K : PySem.W.Frag) : List V → Hp → VK → Prop := fun xs H Q => rSum K xs H Q ∨ ∃ (a : Addr) (ns : List Int), xs = [V.ref a] ∧ SqT K H a (ns.map V.int) ∧ Q (.int ns.sum) H
theorem call_sumG {X : Cx} (hc : X.calm = true) : CallR X (.builtin "sum") (rSumG X.K) := by
  intro pins s σ H xs us Q I r h
  rcases h with h | h
  · exact cr_sum hc pins s σ H xs us Q I r h
  · obtain ⟨a, ns, rfl, hs, q⟩ := h
    obtain ⟨its, rv, hl, _⟩ := I.tuple hs
    rw [Vals.ref1 r]
    exact wk_sum_tup (I.ok.hd hc) hl (ints_of_vals rv) fun h' tk t' hk => ⟨.int _, H, I.kept hk, ⟨_, rfl⟩, q⟩
theorem wc_sumT {ns : List Int} (q : P (.int ns.sum) μ) : WC K (rSumG K) [.tup (ns.map D.int)] μ P := fun H vs m r Q k => by
  cases r with
  | cons r1 r2 =>
    cases r2
    cases r1 with
    | tup hs_ hl =>
      have hs := TpA.sqt hs_
      have e := hl.ints
      subst e
      exact .inr ⟨_, ns, rfl, hs, k _ H _ μ .refl m (.int _) q⟩
theorem wc_sum {ns : List Int} {j : Nat} (hm : μ[j]? = some (a, .lst (ns.map D.int))) (q : P (.int ns.sum) μ) : WC K (rSumG K) [.ref a] μ P := fun H vs m r Q k => by
  cases r with
  | cons a r =>
    cases r
    cases a
    obtain ⟨vs, hv, hl⟩ := m.at hm
    have e := hl.ints
    subst e
    exact .inl ⟨_, ns, rfl, .inl (.inl hv), k _ H _ μ .refl m (.int _) q⟩
/-! ### comprehensions -/
def wipeD (δ : Dl) : List Nat → Dl
  | [] => δ
  | v :: vs => (wipeD δ vs).set v none
theorem wipeD_length (δ : Dl) : ∀ vs : List Nat, (wipeD δ vs).length = δ.length
  | [] => rfl
  | v :: vs => by unfold wipeD; rw [List.length_set, wipeD_length δ vs]
theorem wipeD_some {i : Nat} {d : D} : ∀ {vs : List Nat}, (wipeD δ vs)[i]? = some (some d) → δ[i]? = some (some d) ∧ i ∉ vs
  | [], h => ⟨h, by simp⟩
  | v :: vs, h => by
    unfold wipeD at h
    by_cases hi : v = i
    · subst hi
      by_cases hv : v < (wipeD δ vs).length
      · rw [List.getElem?_set_self hv] at h; cases h
      · rw [List.getElem?_eq_none (by simpa using hv)] at h; cases h
    · rw [List.getElem?_set_ne hi] at h
      obtain ⟨h1, h2⟩ := wipeD_some h
      exact ⟨h1, by simp only [List.mem_cons, not_or]; exact ⟨fun e => hi e.symm, h2⟩⟩
theorem wipe_keep {σ : St} {i : Nat} {v : V} : ∀ {vs : List Nat}, i ∉ vs → σ[i]? = some (some v) → (wipe σ vs)[i]? = some (some v)
  | [], _, h => h
  | j :: vs, hn, h => by
    unfold wipe
    rw [List.getElem?_set_ne fun z => hn (by rw [z]; exact List.mem_cons_self)]
    exact wipe_keep (fun z => hn (List.mem_cons_of_mem _ z)) h
theorem Ok.wipe {H : Hp} {σ : St} (h : Ok K H σ δ μ) (vs : List Nat) : Ok K H (L2.wipe σ vs) (wipeD δ vs) μ :=
  ⟨h.m, fun i d e => by
    obtain ⟨h1, h2⟩ := wipeD_some e
    obtain ⟨v, h3, h4⟩ := h.s i d h1
    exact ⟨v, wipe_keep h2 h3, h4⟩, by rw [wipe_length, wipeD_length, h.l]⟩
theorem wipe_set {σ : St} {i : Nat} {o : Option V} : ∀ {vs : List Nat}, i ∈ vs → wipe (σ.set i o) vs = wipe σ vs
  | [], h => by cases h
  | j :: vs, h => by
    unfold wipe
    by_cases c : i ∈ vs
    · rw [wipe_set c]
    · have e : i = j := by
        rcases List.mem_cons.mp h with e | e
        · exact e
        · exact (c e).elim
      subst e
      have : ∀ {vs : List Nat}, i ∉ vs → wipe (σ.set i o) vs = (wipe σ vs).set i o := by
        intro vs
        induction vs with
        | nil => intro _; rfl
        | cons k vs ih =>
          intro hn
          unfold wipe
          rw [ih fun z => hn (List.mem_cons_of_mem _ z), List.set_comm _ _ (fun z => hn (by rw [z]; exact List.mem_cons_self))]
      rw [this c, List.set_set]
theorem wipe_wipe {σ : St} (vs : List Nat) : wipe (wipe σ vs) vs = wipe σ vs := by
  have : ∀ ws : List Nat, (∀ x ∈ ws, x ∈ vs) → wipe (wipe σ ws) vs = wipe σ vs := by
    intro ws
    induction ws with
    | nil => intro _; rfl
    | cons k ws ih =>
      intro h
      show wipe ((wipe σ ws).set k none) vs = _
      rw [wipe_set (h k List.mem_cons_self), ih fun x hx => h x (List.mem_cons_of_mem _ hx)]
  exact this vs fun _ h => h
/-- a target that stores to these slots alone -/
def GIn (g : TG) (vs : List Nat) : Prop := ∀ v σ H Q Q', (∀ σ' H', Q σ' H' → wipe σ' vs = wipe σ vs → Q' σ' H') → g v σ H Q → g v σ H Q'
def GIns (g : TGs) (vs : List Nat) : Prop := ∀ v σ H Q Q', (∀ σ' H', Q σ' H' → wipe σ' vs = wipe σ vs → Q' σ' H') → g v σ H Q → g v σ H Q'
theorem gin_name {i : Nat} {vs : List Nat} (h : i ∈ vs) : GIn (gName i) vs := fun v σ H Q Q' k q => k _ _ q (wipe_set h)
theorem gins_nil {vs : List Nat} : GIns gNil vs := fun v σ H Q Q' k q => ⟨q.1, k _ _ q.2 rfl⟩
theorem gins_cons {i : Nat} {gs : TGs} {vs : List Nat} (h : i ∈ vs) (h2 : GIns gs vs) : GIns (gCons (gName i) gs) vs := fun v σ H Q Q' k ⟨a, r, e, q⟩ => ⟨a, r, e, h2 r (σ.set i (some a)) H Q Q' (fun σ' H' z e => k σ' H' z (by rw [e, wipe_set h])) q⟩
theorem gin_tup {n : Nat} {gs : TGs} {vs : List Nat} (h : GIns gs vs) : GIn (gTup K n gs) vs := fun v σ H Q Q' k ⟨a, xs, e, hs, hl, q⟩ => ⟨a, xs, e, hs, hl, h xs σ H Q Q' k q⟩
theorem w_lc {wi : TI} {g : TG} {tt : TT} {te : TE} {vs : List Nat} (hg : GIn g vs) (h : WI K wi δ μ fun ds G μ1 => ds.length < sizeLine ∧ ∀ p, ∃ I : Nat → List D → Mu → Prop, I 0 [] μ1 ∧
    (∀ i acc μ', I i acc μ' → G ((p, .lst acc) :: μ')) ∧
    (∀ i d acc μ', ds[i]? = some d → I i acc μ' → acc.length ≤ i → WG K g d (wipeD δ vs) ((p, .lst acc) :: μ') fun δ2 μ2 => WT K tt δ2 μ2 fun b μ3 =>
      (b = true → W K te δ2 μ3 fun y μ4 => ∃ μ5, Weak μ4 ((p, .lst acc) :: μ5) ∧ I (i + 1) (acc ++ [y]) μ5) ∧ (b = false → ∃ μ5, Weak μ3 ((p, .lst acc) :: μ5) ∧ I (i + 1) acc μ5)) ∧
    ∀ acc μ', I ds.length acc μ' → acc.length ≤ ds.length → P (.ref p) ((p, .lst acc) :: μ')) : W K (tLc wi g tt te vs) δ μ P := fun σ H ok Q f =>
  h σ H ok _ fun J H1 ds G μ1 s1 m1 wk ⟨hz, hI⟩ p hp => by
    obtain ⟨I, h0, hG, hs, hd⟩ := hI p
    have st0 : Step μ1 H1 ((p, .lst []) :: μ1) (upd H1 p (.lst [])) := step_join hp rfl
    have m0 : OkM K (upd H1 p (.lst [])) ((p, .lst []) :: μ1) := m1.join (m := .lst []) hp rfl ⟨[], upd_same, .nil⟩
    refine ⟨fun i m H' => m = ds.length - i ∧ i ≤ ds.length ∧ ∃ acc μ', Step μ1 H1 ((p, .lst acc) :: μ') H' ∧ OkM K H' ((p, .lst acc) :: μ') ∧ I i acc μ' ∧ acc.length ≤ i, ⟨ds.length, by simp, Nat.zero_le _, [], μ1, st0, m0, h0, Nat.le_refl _⟩, ?_⟩
    rintro i m H2 ⟨rfl, hi, acc, μ2, s2, m2, i2, la⟩
    have w2 := wk H2 _ s2 m2 (hG _ _ _ i2)
    by_cases hlt : i < ds.length
    · obtain ⟨d, hd'⟩ : ∃ d, ds[i]? = some d := ⟨_, List.getElem?_eq_getElem hlt⟩
      obtain ⟨go, yl⟩ := w2.2 i d hd'
      refine .inr ⟨go, fun H' => ∃ acc μ', Step μ1 H1 ((p, .lst acc) :: μ') H' ∧ OkM K H' ((p, .lst acc) :: μ') ∧ I (i + 1) acc μ' ∧ acc.length ≤ i + 1, fun H' ⟨acc, μ', a1, a2, a3, a4⟩ => ⟨ds.length - (i + 1), by omega, rfl, hlt, acc, μ', a1, a2, a3, a4⟩, fun x H3 hy => ?_⟩
      obtain ⟨s3, m3, r3⟩ := yl x H3 hy
      have s13 := s2.trans s3
      have ok3 : Ok K H3 (wipe σ vs) (wipeD δ vs) ((p, .lst acc) :: μ2) := (ok.step (s1.trans s13) m3).wipe vs
      have hw := hs i d acc μ2 hd' i2 la (wipe σ vs) H3 x ok3 r3
      refine hg x (wipe σ vs) H3 _ _ (fun σ4 H4 z e => ⟨by rw [e, wipe_wipe], ?_⟩) (hw _ fun σ4 H4 δ4 μ4 s4 o4 h4 => (⟨δ4, μ4, s4, o4, h4⟩ : ∃ δ4 μ4, Step ((p, .lst acc) :: μ2) H3 μ4 H4 ∧ Ok K H4 σ4 δ4 μ4 ∧ WT K tt δ4 μ4 fun b μ3 =>
        (b = true → W K te δ4 μ3 fun y μ4 => ∃ μ5, Weak μ4 ((p, .lst acc) :: μ5) ∧ I (i + 1) (acc ++ [y]) μ5) ∧ (b = false → ∃ μ5, Weak μ3 ((p, .lst acc) :: μ5) ∧ I (i + 1) acc μ5)))
      obtain ⟨δ4, μ4, s4, o4, h4⟩ := z
      refine h4 σ4 H4 o4 _ fun b H5 μ5 s5 m5 ⟨h5, h6⟩ => ?_
      have s15 := s13.trans (s4.trans s5)
      cases b with
      | false =>
        obtain ⟨μ6, wk6, j6⟩ := h6 rfl
        exact iteF ⟨acc, μ6, wk6.step m5 s15, (wk6 K H5 m5).1, j6, Nat.le_succ_of_le la⟩
      | true =>
        refine iteT (h5 rfl σ4 H5 (o4.step s5 m5) _ fun y H6 dy μ6 s6 m6 r6 ⟨μ7, wk7, j7⟩ => ?_)
        have m7 := (wk7 K H6 m6).1
        have s7 := wk7.step m6 (s15.trans s6)
        obtain ⟨va, hva, hla⟩ := m7.ok _ List.mem_cons_self
        have stx : Step ((p, .lst acc) :: μ7) H6 ((p, .lst (acc ++ [dy])) :: μ7) (upd H6 p (.lst (va ++ [y]))) := step_set (i := 0) (μ := (p, .lst acc) :: μ7) rfl rfl
        have r7 := r6
        refine ⟨va, hva, by rw [hla.length]; omega, acc ++ [dy], μ7, s7.trans stx, ?_, j7, by rw [List.length_append]; exact Nat.succ_le_succ la⟩
        exact OkM.set (i := 0) (μ := (p, .lst acc) :: μ7) (m := .lst acc) (m' := .lst (acc ++ [dy])) m7 rfl rfl ⟨_, upd_same, (hla.append (.cons r7 .nil)).step m7 stx⟩
    · have e : i = ds.length := by omega
      subst e
      exact .inl ⟨w2.1 _ (Nat.le_refl _), f _ H2 _ _ (s1.trans s2) m2 (.ref p) (hd _ _ i2 la)⟩
end
end Wk

set_option Elab.async false
set_option linter.all false
set_option maxRecDepth 100000
namespace Wk
open PySem PySem.Spec L2
/-- a statement's four ways, each by itself -/
def S4 (K : PySem.W.Frag) (ts : TS) (δ : Dl) (μ : Mu) (N : Dl → Mu → Prop) (R : D → Mu → Prop) (B C : Dl → Mu → Prop) : Prop := WS K ts δ μ ⟨N, R, B, C⟩
section
variable {K : PySem.W.Frag} {δ : Dl} {μ : Mu} {N B C J : Dl → Mu → Prop} {R : D → Mu → Prop} {PA : List D → Mu → Prop} {ta tb tc te td ty tv : TE} {t u : TT} {al ar : TA} {ts ts1 ts2 : TS} {g : TG} {gs : TGs} {x y d : D} {xs ds : List D} {a b : Addr}
theorem s_seq (h : S4 K ts1 δ μ (fun δ' μ' => S4 K ts2 δ' μ' N R B C) R B C) : S4 K (tSeq ts1 ts2) δ μ N R B C := ws_seq h
theorem s_cut (J : Dl → Mu → Prop) (h : S4 K ts1 δ μ J R B C) (k : ∀ δ' μ', J δ' μ' → S4 K ts2 δ' μ' N R B C) : S4 K (tSeq ts1 ts2) δ μ N R B C := ws_cut (E := ⟨N, R, B, C⟩) (J := J) h k
theorem s_next (q : N δ μ) : S4 K tNext δ μ N R B C := ws_next (E := ⟨N, R, B, C⟩) q
theorem s_brk (q : B δ μ) : S4 K tBreak δ μ N R B C := ws_brk (E := ⟨N, R, B, C⟩) q
theorem s_cont (q : C δ μ) : S4 K tCont δ μ N R B C := ws_cont (E := ⟨N, R, B, C⟩) q
theorem s_asg (h : W K te δ μ fun d μ1 => WG K g d δ μ1 N) : S4 K (tAsg te g) δ μ N R B C := ws_asg (E := ⟨N, R, B, C⟩) h
theorem s_drop (h : W K te δ μ fun d μ1 => N δ μ1) : S4 K (tDrop te) δ μ N R B C := ws_drop (E := ⟨N, R, B, C⟩) h
theorem s_ret (h : W K te δ μ R) : S4 K (tRet te) δ μ N R B C := ws_ret (E := ⟨N, R, B, C⟩) h
theorem s_retN (q : R .non μ) : S4 K tRetN δ μ N R B C := ws_retN (E := ⟨N, R, B, C⟩) q
theorem s_if (h : WT K t δ μ fun b μ1 => (b = true → S4 K ts1 δ μ1 N R B C) ∧ (b = false → S4 K ts2 δ μ1 N R B C)) : S4 K (tIfS t ts1 ts2) δ μ N R B C := ws_if (E := ⟨N, R, B, C⟩) h
theorem s_aug {i : Nat} {ti : TIp} (hx : δ[i]? = some (some x)) (h : W K te δ μ fun y μ1 => W2 K ti x y μ1 fun z μ2 => N (δ.set i (some z)) μ2) : S4 K (tAug i te ti) δ μ N R B C := ws_aug (E := ⟨N, R, B, C⟩) hx h
theorem s_dput (h : W K tv δ μ fun d μ1 => W K td δ μ1 fun x μ2 => W K ty δ μ2 fun y μ3 => ∃ (a : Addr) (j : Nat) (kds : List (Key × D)) (k : Key) (kds' : List (Key × D)), x = .ref a ∧ y = kD k ∧ μ3[j]? = some (a, M.dic kds) ∧ kds.length < sizeLine ∧ putD kds k d = kds' ∧ N δ (μ3.set j (a, .dic kds'))) : S4 K (sDPut td ty tv) δ μ N R B C :=
  ws_dput (E := ⟨N, R, B, C⟩) (h.imp fun d μ1 h => h.imp fun x μ2 h => h.imp fun y μ3 ⟨a, j, kds, k, kds', e1, e2, e3, e4, e5, q⟩ => ⟨a, j, kds, k, e1, e2, e3, e4, by rw [e5]; exact q⟩)
theorem s_imp {N' B' C' : Dl → Mu → Prop} {R' : D → Mu → Prop} (h : S4 K ts δ μ N' R' B' C') (hn : ∀ δ μ, N' δ μ → N δ μ) (hr : ∀ d μ, R' d μ → R d μ) (hb : ∀ δ μ, B' δ μ → B δ μ) (hc : ∀ δ μ, C' δ μ → C δ μ) : S4 K ts δ μ N R B C := WS.imp (E := ⟨N, R, B, C⟩) h hn hr hb hc
/-- forget -/
theorem s_weak {μ' : Mu} (w : Weak μ μ') (h : S4 K ts δ μ' N R B C) : S4 K ts δ μ N R B C := fun σ H ok Dn n r b c => by
  have st : Step μ H μ' H := w.step (H := H) ok.m .refl
  exact h σ H ⟨(w K H ok.m).1, ok.s, ok.l⟩ Dn (fun σ' H' δ' μ' s => n σ' H' δ' μ' (st.trans s)) (fun v H' d μ' s => r v H' d μ' (st.trans s)) (fun σ' H' δ' μ' s => b σ' H' δ' μ' (st.trans s)) (fun σ' H' δ' μ' s => c σ' H' δ' μ' (st.trans s))
/-- forget slots -/
def LeD : Dl → Dl → Prop
  | [], [] => True
  | none :: r, _ :: t => LeD r t
  | some d :: r, o :: t => o = some d ∧ LeD r t
  | _, _ => False
theorem LeD.len : ∀ {δ' δ : Dl}, LeD δ' δ → δ'.length = δ.length
  | [], [], _ => rfl
  | none :: r, _ :: t, h => congrArg (· + 1) (LeD.len (δ' := r) (δ := t) h)
  | some d :: r, o :: t, h => congrArg (· + 1) (LeD.len (δ' := r) (δ := t) h.2)
  | [], _ :: _, h => h.elim
  | none :: _, [], h => h.elim
  | some _ :: _, [], h => h.elim
theorem LeD.get : ∀ {δ' δ : Dl}, LeD δ' δ → ∀ (i : Nat) (d : D), δ'[i]? = some (some d) → δ[i]? = some (some d)
  | [], [], _, _, _, e => by simp at e
  | none :: r, _ :: t, h, 0, d, e => by simp at e
  | none :: r, _ :: t, h, i + 1, d, e => by
    have := LeD.get (δ' := r) (δ := t) h i d (by simpa using e)
    simpa using this
  | some x :: r, o :: t, h, 0, d, e => by
    simp at e
    subst e
    simp [h.1]
  | some x :: r, o :: t, h, i + 1, d, e => by
    have := LeD.get (δ' := r) (δ := t) h.2 i d (by simpa using e)
    simpa using this
  | [], _ :: _, h, _, _, _ => h.elim
  | none :: _, [], h, _, _, _ => h.elim
  | some _ :: _, [], h, _, _, _ => h.elim
theorem s_forget {δ' : Dl} (w : LeD δ' δ) (h : S4 K ts δ' μ N R B C) : S4 K ts δ μ N R B C := fun σ H ok Dn n r b c => h σ H ⟨ok.m, fun i d e => ok.s i d (w.get i d e), by rw [ok.l, w.len]⟩ Dn n r b c
/-- over what is walked, ds: I by the turn -/
theorem s_for {wi : TI} (h : WI K wi δ μ fun ds G μ1 => ∃ I : Nat → Dl → Mu → Prop, (∃ δ0 μ0, LeD δ0 δ ∧ Weak μ1 μ0 ∧ I 0 δ0 μ0) ∧ (∀ i δ' μ', I i δ' μ' → G μ') ∧
    (∀ i d δ' μ', ds[i]? = some d → I i δ' μ' → WG K g d δ' μ' fun δ2 μ2 => S4 K ts δ2 μ2 (fun δ3 μ3 => ∃ δ4 μ4, LeD δ4 δ3 ∧ Weak μ3 μ4 ∧ I (i + 1) δ4 μ4) R N (fun δ3 μ3 => ∃ δ4 μ4, LeD δ4 δ3 ∧ Weak μ3 μ4 ∧ I (i + 1) δ4 μ4)) ∧ ∀ δ' μ', I ds.length δ' μ' → N δ' μ') : S4 K (tFor wi g ts) δ μ N R B C := fun σ H ok Dn n r b c =>
  h σ H ok _ fun J H1 ds G μ1 s1 m1 wk ⟨I, ⟨δ0, μ0, le0, wk0, h0⟩, hG, hs, hd⟩ => by
    have ok1 := ok.step s1 m1
    have ok0 : Ok K H1 σ δ0 μ0 := ⟨(wk0 K H1 m1).1, fun i d e => ok1.s i d (le0.get i d e), by rw [ok1.l, le0.len]⟩
    refine ⟨fun i m σ' H' => m = ds.length - i ∧ i ≤ ds.length ∧ ∃ δ' μ', Step μ1 H1 μ' H' ∧ Ok K H' σ' δ' μ' ∧ I i δ' μ', ⟨ds.length, by simp, Nat.zero_le _, δ0, μ0, wk0.step m1 .refl, ok0, h0⟩, ?_⟩
    rintro i m σ2 H2 ⟨rfl, hi, δ2, μ2, s2, o2, i2⟩
    have w2 := wk H2 μ2 s2 o2.m (hG _ _ _ i2)
    by_cases hlt : i < ds.length
    · obtain ⟨d, hd'⟩ : ∃ d, ds[i]? = some d := ⟨_, List.getElem?_eq_getElem hlt⟩
      obtain ⟨go, yl⟩ := w2.2 i d hd'
      refine .inr ⟨go, fun σ' H' => i + 1 ≤ ds.length ∧ ∃ δ' μ', Step μ1 H1 μ' H' ∧ Ok K H' σ' δ' μ' ∧ I (i + 1) δ' μ', fun σ' H' ⟨z, q⟩ => ⟨ds.length - (i + 1), by omega, rfl, z, q⟩, fun x H3 hy => ?_⟩
      obtain ⟨s3, m3, r3⟩ := yl x H3 hy
      refine hs i d δ2 μ2 hd' i2 σ2 H3 x (o2.step s3 m3) r3 _ fun σ4 H4 δ4 μ4 s4 o4 h4 => ?_
      have s14 := s2.trans (s3.trans s4)
      have fin : ∀ σ5 H5 δ5 μ5, Step μ4 H4 μ5 H5 → Ok K H5 σ5 δ5 μ5 → (∃ δ6 μ6, LeD δ6 δ5 ∧ Weak μ5 μ6 ∧ I (i + 1) δ6 μ6) → i + 1 ≤ ds.length ∧ ∃ δ' μ', Step μ1 H1 μ' H5 ∧ Ok K H5 σ5 δ' μ' ∧ I (i + 1) δ' μ' := fun σ5 H5 δ5 μ5 s5 o5 ⟨δ6, μ6, le6, wk6, j⟩ =>
        ⟨hlt, δ6, μ6, wk6.step o5.m (s14.trans s5), ⟨(wk6 K H5 o5.m).1, fun i d e => o5.s i d (le6.get i d e), by rw [o5.l, le6.len]⟩, j⟩
      exact h4 σ4 H4 o4 _ fin (fun v H5 d μ5 s5 m5 r5 j => r v H5 d μ5 (s1.trans (s14.trans s5)) m5 r5 j)
        (fun σ5 H5 δ5 μ5 s5 o5 j => n σ5 H5 δ5 μ5 (s1.trans (s14.trans s5)) o5 j) fin
    · have e : i = ds.length := by omega
      subst e
      exact .inl ⟨w2.1 _ (Nat.le_refl _), n σ2 H2 δ2 μ2 (s1.trans s2) o2 (hd _ _ i2)⟩
/-- while: I by a measure -/
theorem s_while (I : Nat → Dl → Mu → Prop) (m0 : Nat) (h0 : I m0 δ μ) (hs : ∀ m δ' μ', I m δ' μ' → WT K t δ' μ' fun b μ1 => (b = true → S4 K ts δ' μ1 (fun δ2 μ2 => ∃ δ3 μ3 m', LeD δ3 δ2 ∧ Weak μ2 μ3 ∧ m' < m ∧ I m' δ3 μ3) R N (fun δ2 μ2 => ∃ δ3 μ3 m', LeD δ3 δ2 ∧ Weak μ2 μ3 ∧ m' < m ∧ I m' δ3 μ3)) ∧
    (b = false → N δ' μ1)) : S4 K (tWhile t ts) δ μ N R B C := fun σ H ok Dn n r b c => by
  refine ⟨fun m σ' H' => ∃ δ' μ', Step μ H μ' H' ∧ Ok K H' σ' δ' μ' ∧ I m δ' μ', ⟨m0, δ, μ, .refl, ok, h0⟩, ?_⟩
  rintro m σ1 H1 ⟨δ1, μ1, s1, o1, i1⟩
  refine hs m δ1 μ1 i1 σ1 H1 o1 _ fun k H2 μ2 s2 m2 ⟨h1, h2⟩ => ?_
  have o2 := o1.step s2 m2
  cases k with
  | true =>
    refine iteT ⟨fun σ' H' => ∃ m', m' < m ∧ ∃ δ' μ', Step μ H μ' H' ∧ Ok K H' σ' δ' μ' ∧ I m' δ' μ', fun σ' H' z => z, ?_⟩
    have fin : ∀ σ5 H5 δ5 μ5, Step μ2 H2 μ5 H5 → Ok K H5 σ5 δ5 μ5 → (∃ δ6 μ6 m', LeD δ6 δ5 ∧ Weak μ5 μ6 ∧ m' < m ∧ I m' δ6 μ6) → ∃ m', m' < m ∧ ∃ δ' μ', Step μ H μ' H5 ∧ Ok K H5 σ5 δ' μ' ∧ I m' δ' μ' := fun σ5 H5 δ5 μ5 s5 o5 ⟨δ6, μ6, m', le6, wk6, l, j⟩ =>
      ⟨m', l, δ6, μ6, wk6.step o5.m (s1.trans (s2.trans s5)), ⟨(wk6 K H5 o5.m).1, fun i d e => o5.s i d (le6.get i d e), by rw [o5.l, le6.len]⟩, j⟩
    exact h1 rfl σ1 H2 o2 _ fin (fun v H5 d μ5 s5 m5 r5 j => r v H5 d μ5 (s1.trans (s2.trans s5)) m5 r5 j) (fun σ5 H5 δ5 μ5 s5 o5 j => n σ5 H5 δ5 μ5 (s1.trans (s2.trans s5)) o5 j) fin
  | false => exact iteF (n σ1 H2 δ1 μ2 (s1.trans s2) o2 (h2 rfl))
theorem s_open {i : Nat} {ks : List Str} {c : Addr} (hm : μ[i]? = some (a, .deck ks c)) (h : ∀ (ns cs : List Int), (ns.length = ks.length ∧ ∀ n ∈ ns, 0 ≤ n) → cs.length ≤ 63 → S4 K ts δ ((a, .dic (deckKds ks ns c)) :: (c, .lst (cs.map D.int)) :: μ.eraseIdx i) N R B C) : S4 K ts δ μ N R B C := ws_open (E := ⟨N, R, B, C⟩) hm h
/-- a def -/
theorem fn_ok4 {Pg : Program} {w : World} {mg : Str → Option Value} {base : Heap} {x qual : Str} {st : Stmt} {f : Addr} {fd : FuncData} {NN ps : List Str} {k n : Nat} {S : SpD} (F : Fun K x qual st f fd) (sc : FnScope NN ps (defScope st)) (hn : n = ps.length)
    (body : ∀ (cdv : Value) (A : Around) (outer : List Env) (s : Shared) (H : Hp) (X : XK), Room k (A.deeper (PyProof.Rows.envOfC qual (defScope st) s.heap.objs.size f cdv)) →
      ∃ t, PSs (cxOf CX0 Pg w K mg base NN qual (defScope st) f cdv A outer s H X).nox (defBody st) t ∧ ∀ ds μ P, ds.length = n → S ds μ P → S4 K t (startD NN ds) μ (fun _ μ' => ∃ μ'', Weak μ' μ'' ∧ P .non μ'') (fun d μ' => ∃ μ'', Weak μ' μ'' ∧ P d μ'') (fun _ _ => False) (fun _ _ => False)) :
    FnOk Pg w K mg base CX0 (k + 1) f fd ps (spOf K n S) := fn_ok F sc hn body
/-- a test whose answer is used twice over -/
theorem iff_split {b : Bool} {p q : Prop} (h1 : b = true → p) (h2 : b = false → q) : (b = true → p) ∧ (b = false → q) := ⟨h1, h2⟩
/-- the law's own promise -/
def spLaw : SpD := fun ds μ P => ∃ ns : List Int, ds = [.scr ns] ∧ ns.length ≤ 63 ∧ P (.bl true) μ
theorem law_sp (K : PySem.W.Frag) (H : Hp) (a : Addr) (ns : List Int) (h1 : ns.length ≤ 63) (h2 : Only H) (h3 : SqL K H a (ns.map V.int)) : spOf K 1 spLaw [.ref a] H (fun v _ => v = .bl true) fun _ _ _ => False := by
  refine ⟨rfl, [.scr ns], [], fun d _ => d = .bl true, ⟨List.nodup_nil, fun _ h => nomatch h⟩, .cons (.scr ?_) .nil, ⟨ns, rfl, h1, rfl⟩, fun v H' d μ' _ _ r e => ?_⟩
  · rcases h3 with (h3 | h3) | h3
    · rcases h2 a with z | ⟨o, xs, z⟩
      · rw [h3] at z; cases z
      · rw [h3] at z; cases z
    · exact .inl h3
    · exact .inr h3
  · subst e
    cases r
    rfl
end
end Wk
namespace Wk
open PySem PySem.Spec L2
/-- a ** b of written numbers -/
def rPowK (a b r : Int) : R2 := fun x y H Q => x = .int a ∧ y = .int b ∧ Q (.int r) H
theorem op_powK {X : Cx} {a b r : Int} (h1 : 0 ≤ b ∧ b ≤ 1000000) (h2 : a.natAbs < 2 ^ 64) (h3 : a ^ b.toNat = r) : OpR X (binaryOp .Pow) (rPowK a b r) := by
  intro pins s σ H x y v u Q I rx ry h
  obtain ⟨rfl, rfl, q⟩ := h
  exact op_pow pins s σ H _ _ v u Q I rx ry ⟨a, b, rfl, rfl, ⟨h1.1, h1.2, h2⟩, by show Q (V.int (a ^ b.toNat)) H; rw [h3]; exact q⟩
theorem w2_powK {K : PySem.W.Frag} {μ : Mu} {P : D → Mu → Prop} {a b r : Int} (q : P (.int r) μ) : W2 K (rPowK a b r) (.int a) (.int b) μ P := fun H v u m r1 r2 Q k => by
  cases r1
  cases r2
  exact ⟨rfl, rfl, k _ H _ μ .refl m (.int _) q⟩
theorem mul_l {i j : Int} (h1 : -(2 ^ 64) < i) (h2 : i < 2 ^ 64) : CMul i j := .inl ⟨h1, h2⟩
theorem mul_r {i j : Int} (h1 : -(2 ^ 64) < j) (h2 : j < 2 ^ 64) : CMul i j := .inr ⟨h1, h2⟩
theorem div_w {i j : Int} (h1 : 0 < j) (h2 : j < 2 ^ 64) : CDivW i j := wide_div (b := 64) h1 (by omega) (by decide) (by decide)
/-- an item of a list of written items at an open place -/
theorem w2_ixO {K : PySem.W.Frag} {μ : Mu} {P : D → Mu → Prop} {a : Addr} {ds : List D} {i : Int} (j : Nat) (hm : μ[j]? = some (a, .lst ds)) (h0 : 0 ≤ i) (h1 : i < ds.length) (q : ∀ (k : Nat) (d : D), ds[k]? = some d → i = (k : Int) → P d μ) : W2 K (rIx K) (.ref a) (.int i) μ P := by
  obtain ⟨d, hd⟩ : ∃ d, ds[i.toNat]? = some d := ⟨_, List.getElem?_eq_getElem (by omega)⟩
  refine w2_ixL hm (d := d) ?_ (q i.toNat d hd (by omega))
  unfold atI ixN
  rw [if_pos h0, if_pos h1]
  exact hd
theorem w2_ixTO {K : PySem.W.Frag} {μ : Mu} {P : D → Mu → Prop} {ds : List D} {i : Int} (h0 : 0 ≤ i) (h1 : i < ds.length) (q : ∀ (k : Nat) (d : D), ds[k]? = some d → i = (k : Int) → P d μ) : W2 K (rIx K) (.tup ds) (.int i) μ P := by
  obtain ⟨d, hd⟩ : ∃ d, ds[i.toNat]? = some d := ⟨_, List.getElem?_eq_getElem (by omega)⟩
  refine w2_ixT (d := d) ?_ (q i.toNat d hd (by omega))
  unfold atI ixN
  rw [if_pos h0, if_pos h1]
  exact hd
end Wk
namespace Wk
open PySem PySem.Spec L2
section
variable {X : Cx} {K : PySem.W.Frag}
theorem k_ix (h : X.K = K) : IxR X (rIx K) := h ▸ ix_seq
theorem k_add (h : X.K = K) : OpR X (binaryOp .Add) (rAddG K) := h ▸ op_addG
theorem k_eq (h : X.K = K) (hu : X.A.units + 64 < cLine) : OpR X (compareOp .Eq) (rEqD K) := h ▸ op_eqD hu
theorem k_ne (h : X.K = K) (hu : X.A.units + 64 < cLine) : OpR X (compareOp .NotEq) (rNeD K) := h ▸ op_neD hu
theorem k_sl (h : X.K = K) : SlR X (rSlG K) := h ▸ sl_any
theorem k_len (h : X.K = K) : CallR X (.builtin "len") (rLenG K) := h ▸ call_lenG
theorem k_isi (h : X.K = K) : CallR X (.builtin "isinstance") (rIsi K) := h ▸ call_isi
theorem k_max (h : X.K = K) (hc : X.calm = true) : CallR X (.builtin "max") (rMaxG K) := h ▸ call_maxG hc
theorem k_min (h : X.K = K) (hc : X.calm = true) : CallR X (.builtin "min") (rMinG K) := h ▸ call_minG hc
theorem k_in (h : X.K = K) : OpR X (compareOp .In) (rIn K false) := h ▸ op_in_seq
theorem k_nin (h : X.K = K) : OpR X (compareOp .NotIn) (rIn K true) := h ▸ op_notIn_seq
theorem k_tup (h : X.K = K) : CallR X (.type "tuple") (fun xs H Q => ∃ p ys, xs = [V.ref p] ∧ ((SqL K H p ys ∧ ∀ l, H l = none → Q (.ref l) (upd H l (.tup ys))) ∨ (SqT K H p ys ∧ Q (.ref p) H))) := h ▸ call_tuple_of
theorem k_lst (h : X.K = K) : CallR X (.type "list") (fun xs H Q => ∃ p ys, xs = [V.ref p] ∧ (SqL K H p ys ∨ SqT K H p ys) ∧ ∀ l, H l = none → Q (.ref l) (upd H l (.lst ys))) := h ▸ call_list_of
theorem k_sum (h : X.K = K) (hc : X.calm = true) : CallR X (.builtin "sum") (rSumG K) := h ▸ call_sumG hc
theorem k_all (h : X.K = K) (hc : X.calm = true) : CallR X (.builtin "all") (rAll K) := h ▸ cr_all hc
theorem k_any (h : X.K = K) (hc : X.calm = true) : CallR X (.builtin "any") (rAny K) := h ▸ cr_any hc
theorem k_ilist (h : X.K = K) {tg l : Expr} {tl : TE} (hl : PE X l tl) : PI X tg l (iList K tl) := h ▸ pi_list hl
theorem k_itup (h : X.K = K) {tg l : Expr} {tl : TE} (hl : PE X l tl) : PI X tg l (iTup K tl) := h ▸ pi_tup hl
theorem k_gtup (h : X.K = K) {es : List Expr} {k : Nat} {t : TGs} {n : Nat} {pos : Pos} (hc : X.calm = true) (ht : PGs X es t)
    (hn : (assignEach es X.env).length = n := by rfl) (hst : (assignEach es X.env).findIdx? (·.1) = none := by rfl) : PG X (.Tuple es k pos) (gTup K n t) := h ▸ pg_tup hc ht hn hst
end
end Wk
namespace Wk
open PySem PySem.Spec L2
section
variable {X : Cx} {K : PySem.W.Frag} {o e : Expr} {es : List Expr} {to : TE} {t : TA} {name : Str} {apos cpos : Pos} {T id : String} {r : V → List V → Hp → VK → Prop}
theorem k_bm0 (h : X.K = K) (pa : PlainAttrs T) (slot : Slot T name id) (hty : typeOf (.builtin id) = pure (.type "method_descriptor")) (hm : MtR X id r) (ho : PE X o to)
    (hbase : attributeBase o name X.env (eval o X.env) = eval o X.env := by rfl) (hline : (apos.endLine == cpos.line) = true := by rfl) : PE X (.Call (.Attribute o name apos) [] [] cpos) (tBM0 K T r to) := h ▸ pe_bm0 pa slot hty hm ho hbase hline
theorem k_bm (h : X.K = K) (pa : PlainAttrs T) (slot : Slot T name id) (hty : typeOf (.builtin id) = pure (.type "method_descriptor")) (hm : MtR X id r) (ho : PE X o to) (ha : PA X (e :: es) t)
    (hbase : attributeBase o name X.env (eval o X.env) = eval o X.env := by rfl)
    (hfew : ((backTo cpos (starEach (e :: es) X.env)).all (fun x => !x.1) && (backToKw cpos (keywordEach [] X.env)).all (fun x => x.1.isSome)
      && decide ((e :: es).length + ([] : List Keyword).length + (if ([] : List Keyword).isEmpty then 0 else 1) < 30)) = true := by rfl)
    (hline : (apos.endLine == cpos.line) = true := by rfl) (hs : starEach (e :: es) X.env = (false, eval e X.env) :: starEach es X.env := by rfl) (hplain : (backTo cpos (starEach es X.env)).any (·.1) = false := by rfl) :
    PE X (.Call (.Attribute o name apos) (e :: es) [] cpos) (tBM K T r to t) := h ▸ pe_bm pa slot hty hm ho ha hbase hfew hline hs hplain
end
end Wk

set_option Elab.async false
set_option linter.all false
set_option maxRecDepth 100000
namespace Wk
open PySem PySem.Spec L2
section
variable {K : PySem.W.Frag} {δ : Dl} {μ μ' : Mu} {N B C J : Dl → Mu → Prop} {R : D → Mu → Prop} {P : D → Mu → Prop} {PA : List D → Mu → Prop} {ta tb tc te td ty tv : TE} {t u : TT} {al ar : TA} {ts ts1 ts2 : TS} {g : TG} {gs : TGs} {x y d : D} {xs ds : List D} {a b : Addr}
theorem foot_permL : ∀ {μ μ' : Mu}, μ.Perm μ' → (foot μ).Perm (foot μ')
  | _, _, .nil => .nil
  | _, _, .cons p h => ((foot_permL h).append_left _).cons _
  | _, _, .swap p q μ => by
    show (q.1 :: (q.2.own ++ p.1 :: (p.2.own ++ foot μ))).Perm (p.1 :: (p.2.own ++ q.1 :: (q.2.own ++ foot μ)))
    have e1 : (q.1 :: (q.2.own ++ p.1 :: (p.2.own ++ foot μ))) = (q.1 :: q.2.own) ++ ((p.1 :: p.2.own) ++ foot μ) := by simp
    have e2 : (p.1 :: (p.2.own ++ q.1 :: (q.2.own ++ foot μ))) = (p.1 :: p.2.own) ++ ((q.1 :: q.2.own) ++ foot μ) := by simp
    rw [e1, e2, ← List.append_assoc, ← List.append_assoc]
    exact List.perm_append_comm.append_right _
  | _, _, .trans h1 h2 => (foot_permL h1).trans (foot_permL h2)
theorem weak_perm (h : μ.Perm μ') : Weak μ μ' := fun K H o => ⟨⟨(foot_permL h).nodup_iff.mp o.nd, fun p hp => o.ok p (h.mem_iff.mpr hp)⟩, fun a z => (foot_permL h).mem_iff.mpr z⟩
theorem weak_drop {p : Addr × M} : Weak (p :: μ) μ := weak_sub (List.sublist_cons_self _ _)
theorem weak_skip {p : Addr × M} (h : Weak μ μ') : Weak (p :: μ) μ' := weak_drop.trans h
theorem weak_2 {p q : Addr × M} : Weak (p :: q :: μ) (p :: μ) := weak_sub ((List.sublist_cons_self _ _).cons₂ _)
theorem weak_keep {p : Addr × M} (h : Weak μ μ') : Weak (p :: μ) (p :: μ') := fun K H o => by
  obtain ⟨o1, s1⟩ := (weak_drop (p := p) (μ := μ)) K H o
  obtain ⟨o2, s2⟩ := h K H o1
  have nd := o.nd
  have e : foot (p :: μ) = (p.1 :: p.2.own) ++ foot μ := rfl
  have e' : foot (p :: μ') = (p.1 :: p.2.own) ++ foot μ' := rfl
  rw [e] at nd
  obtain ⟨n1, n2, n3⟩ := List.nodup_append.mp nd
  refine ⟨⟨?_, fun q hq => ?_⟩, fun a z => ?_⟩
  · rw [e']
    exact List.nodup_append.mpr ⟨n1, o2.nd, fun a ha b hb => n3 a ha b (s2 b hb)⟩
  · rcases List.mem_cons.mp hq with e | hq
    · rw [e]; exact o.ok p List.mem_cons_self
    · exact o2.ok q hq
  · rw [e'] at z
    rw [e]
    rcases List.mem_append.mp z with z | z
    · exact List.mem_append_left _ z
    · exact List.mem_append_right _ (s2 a z)
theorem lt_size {n : Nat} (h : n < 100000) : n < sizeLine := Nat.lt_of_lt_of_le h (by decide)
theorem weak_swap {p q : Addr × M} : Weak (p :: q :: μ) (q :: p :: μ) := weak_perm (.swap _ _ _)
theorem wps_nil {Pp : List (D × D) → Mu → Prop} (h : Pp [] μ) : WPs K [] δ μ Pp := h
theorem wps_cons {tk tv : TE} {r : List (TE × TE)} {Pp : List (D × D) → Mu → Prop} (h : W K tk δ μ fun k μ1 => W K tv δ μ1 fun v μ2 => WPs K r δ μ2 fun ps μ3 => Pp ((k, v) :: ps) μ3) : WPs K ((tk, tv) :: r) δ μ Pp := h
/-- a cut of the script: some ints -/
theorem wsl_scrI {ns : List Int} {lo hi : Option Int} (q : ∀ p (cs : List Int), cs.length ≤ ns.length → P (.ref p) ((p, .lst (cs.map D.int)) :: μ)) : WSl K (rSlG K) (.scr ns) lo hi μ P := by
  refine wsl_scr fun p => ?_
  have e : cutD (ns.map D.int) lo hi = (((ns.drop (HT.sIx ns.length 0 lo)).take (HT.sIx ns.length ns.length hi - HT.sIx ns.length 0 lo))).map D.int := by
    unfold cutD
    rw [List.length_map, List.map_take, List.map_drop]
  rw [e]
  exact q p _ (by rw [List.length_take, List.length_drop]; omega)
/-- the deck that is made -/
theorem weak_deck {p q r : Addr} {m : M} {cs : List Int} {ks : List Str} {ns : List Int} {kds : List (Key × D)} (h1 : ns.length = ks.length ∧ ∀ n ∈ ns, 0 ≤ n) (h2 : cs.length ≤ 63) (e : kds = deckKds ks ns q) : Weak ((q, .lst (cs.map D.int)) :: (r, m) :: (p, .dic kds) :: μ) ((p, .deck ks q) :: μ) := by
  refine (weak_sub (.cons₂ _ (.cons _ (List.Sublist.refl _)))).trans (weak_swap.trans ?_)
  exact weak_close (i := 0) (μ := (p, .deck ks q) :: μ) rfl h1 h2 e rfl
/-- a deck is in sight -/
def Dk (ks : List Str) (μ : Mu) (d : Addr) : Prop := ∃ (i : Nat) (c : Addr), μ[i]? = some (d, .deck ks c)
theorem Dk.here {ks : List Str} {d c : Addr} : Dk ks ((d, .deck ks c) :: μ) d := ⟨0, c, rfl⟩
theorem Dk.cons {ks : List Str} {d : Addr} {p : Addr × M} (h : Dk ks μ d) : Dk ks (p :: μ) d := let ⟨i, c, e⟩ := h; ⟨i + 1, c, by simpa using e⟩
/-- a drawn number -/
def SpDraw (ks : List Str) : SpD := fun ds μ P => ∃ (d : Addr) (m : Int), ds = [.ref d, .int m] ∧ Dk ks μ d ∧ 0 < m ∧ m < 2 ^ 62 ∧ ∀ n, 0 ≤ n → n < m → P (.int n) μ
theorem sp_draw {ks : List Str} {d : Addr} {m : Int} (hm : Dk ks μ d) (h0 : 0 < m) (h1 : m < 2 ^ 62) (q : ∀ n, 0 ≤ n → n < m → P (.int n) μ) : SpDraw ks [.ref d, .int m] μ P := ⟨d, m, rfl, hm, h0, h1, q⟩
theorem eqB_self {x : D} (h : x.sh = true) : eqB x x = true := SeqAt.eqv_refl _ (SeqAt.canLay_of_shaped (Bool.and_eq_true_iff.mp h).2)
theorem w2_eqs {x : D} (hx : x.sh = true) (q : P (.bl true) μ) : W2 K (rEqD K) x x μ P := w2_eq hx hx (by rw [eqB_self hx]; exact q)
theorem w2_nes {x : D} (hx : x.sh = true) (q : P (.bl false) μ) : W2 K (rNeD K) x x μ P := w2_ne hx hx (by rw [eqB_self hx]; exact q)
theorem w2_isntT {ds : List D} (q : P (.bl false) μ) : W2 K (fun x y H Q => y = V.non ∧ Q (.bl (decide (x = .non))) H) (.tup ds) .non μ P := w2_isnt (fun z => nomatch z) q
theorem w2_notNT {ds : List D} (q : P (.bl true) μ) : W2 K (fun x y H Q => y = V.non ∧ Q (.bl (!decide (x = .non))) H) (.tup ds) .non μ P := w2_notN (fun z => nomatch z) q
theorem w2_isntR {a : Addr} (q : P (.bl false) μ) : W2 K (fun x y H Q => y = V.non ∧ Q (.bl (decide (x = .non))) H) (.ref a) .non μ P := w2_isnt (fun z => nomatch z) q
theorem w2_notNR {a : Addr} (q : P (.bl true) μ) : W2 K (fun x y H Q => y = V.non ∧ Q (.bl (!decide (x = .non))) H) (.ref a) .non μ P := w2_notN (fun z => nomatch z) q
theorem w2_isntI {i : Int} (q : P (.bl false) μ) : W2 K (fun x y H Q => y = V.non ∧ Q (.bl (decide (x = .non))) H) (.int i) .non μ P := w2_isnt (fun z => nomatch z) q
theorem w2_notNI {i : Int} (q : P (.bl true) μ) : W2 K (fun x y H Q => y = V.non ∧ Q (.bl (!decide (x = .non))) H) (.int i) .non μ P := w2_notN (fun z => nomatch z) q
theorem w2_isntS {i : Str} (q : P (.bl false) μ) : W2 K (fun x y H Q => y = V.non ∧ Q (.bl (decide (x = .non))) H) (.str i) .non μ P := w2_isnt (fun z => nomatch z) q
theorem w2_notNS {i : Str} (q : P (.bl true) μ) : W2 K (fun x y H Q => y = V.non ∧ Q (.bl (!decide (x = .non))) H) (.str i) .non μ P := w2_notN (fun z => nomatch z) q
theorem w2_eqE {x y : D} (h : x = y) (hx : x.sh = true) (q : P (.bl true) μ) : W2 K (rEqD K) x y μ P := by subst h; exact w2_eqs hx q
theorem w2_neE {x y : D} (h : x = y) (hx : x.sh = true) (q : P (.bl false) μ) : W2 K (rNeD K) x y μ P := by subst h; exact w2_nes hx q
theorem le_size {n : Nat} (h : n ≤ 100000) : n ≤ sizeLine := Nat.le_trans h (by decide)
theorem w2_eqI {i j : Int} (q : P (.bl (decide (i = j))) μ) : W2 K (rEqD K) (.int i) (.int j) μ P := w2_eq rfl rfl (by rw [show eqB (.int i) (.int j) = decide (i = j) from Bool.beq_eq_decide_eq i j]; exact q)
theorem w2_neI {i j : Int} (q : P (.bl (!decide (i = j))) μ) : W2 K (rNeD K) (.int i) (.int j) μ P := w2_ne rfl rfl (by rw [show eqB (.int i) (.int j) = decide (i = j) from Bool.beq_eq_decide_eq i j]; exact q)
theorem w2_eqB {i j : Bool} (q : P (.bl (i == j)) μ) : W2 K (rEqD K) (.bl i) (.bl j) μ P := w2_eq rfl rfl q
theorem w2_neB {i j : Bool} (q : P (.bl (!(i == j))) μ) : W2 K (rNeD K) (.bl i) (.bl j) μ P := w2_ne rfl rfl q
theorem wc_isiIt {i : Int} {c : String} (hk : kitB "int" c = some true) (q : P (.bl true) μ) : WC K (rIsi K) [.int i, .ty c] μ P := wc_isi (n := "int") rfl (by decide) hk q
theorem wc_isiIf {i : Int} {c : String} (hk : kitB "int" c = some false) (q : P (.bl false) μ) : WC K (rIsi K) [.int i, .ty c] μ P := wc_isi (n := "int") rfl (by decide) hk q
theorem wc_isiBt {i : Bool} {c : String} (hk : kitB "bool" c = some true) (q : P (.bl true) μ) : WC K (rIsi K) [.bl i, .ty c] μ P := wc_isi (n := "bool") rfl (by decide) hk q
theorem wc_isiBf {i : Bool} {c : String} (hk : kitB "bool" c = some false) (q : P (.bl false) μ) : WC K (rIsi K) [.bl i, .ty c] μ P := wc_isi (n := "bool") rfl (by decide) hk q
theorem wc_isiSt {i : Str} {c : String} (hk : kitB "str" c = some true) (q : P (.bl true) μ) : WC K (rIsi K) [.str i, .ty c] μ P := wc_isi (n := "str") rfl (by decide) hk q
theorem wc_isiSf {i : Str} {c : String} (hk : kitB "str" c = some false) (q : P (.bl false) μ) : WC K (rIsi K) [.str i, .ty c] μ P := wc_isi (n := "str") rfl (by decide) hk q
theorem wc_isiTt {i : List D} {c : String} (hk : kitB "tuple" c = some true) (q : P (.bl true) μ) : WC K (rIsi K) [.tup i, .ty c] μ P := wc_isi (n := "tuple") rfl (by decide) hk q
theorem wc_isiTf {i : List D} {c : String} (hk : kitB "tuple" c = some false) (q : P (.bl false) μ) : WC K (rIsi K) [.tup i, .ty c] μ P := wc_isi (n := "tuple") rfl (by decide) hk q
theorem wc_isiNt  {c : String} (hk : kitB "NoneType" c = some true) (q : P (.bl true) μ) : WC K (rIsi K) [.non, .ty c] μ P := wc_isi (n := "NoneType") rfl (by decide) hk q
theorem wc_isiNf  {c : String} (hk : kitB "NoneType" c = some false) (q : P (.bl false) μ) : WC K (rIsi K) [.non, .ty c] μ P := wc_isi (n := "NoneType") rfl (by decide) hk q
theorem wc_absM {i : Int} (q : P (.int (max i (-i))) μ) : WC K (fun xs H Q => ∃ i, xs = [V.int i] ∧ Q (.int (if i < 0 then -i else i)) H) [.int i] μ P := wc_abs (by
  have e : (if i < 0 then -i else i) = max i (-i) := by split <;> omega
  rw [e]; exact q)
theorem split2 {b : Bool} {p q : Prop} (h1 : b = true → p) (h2 : b = false → q) : (b = true → p) ∧ (b = false → q) := ⟨h1, h2⟩
theorem split_t {p q : Prop} (h1 : p) : (true = true → p) ∧ (true = false → q) := ⟨fun _ => h1, fun h => nomatch h⟩
theorem split_f {p q : Prop} (h1 : q) : (false = true → p) ∧ (false = false → q) := ⟨(fun h => nomatch h), fun _ => h1⟩
theorem split_nt {p q : Prop} (h1 : q) : ((!true) = true → p) ∧ ((!true) = false → q) := ⟨(fun h => nomatch h), fun _ => h1⟩
theorem split_nf {p q : Prop} (h1 : p) : ((!false) = true → p) ∧ ((!false) = false → q) := ⟨fun _ => h1, fun h => nomatch h⟩
theorem split_d {c p q : Prop} [Decidable c] (h1 : c → p) (h2 : ¬ c → q) : (decide c = true → p) ∧ (decide c = false → q) := ⟨fun h => h1 (of_decide_eq_true h), fun h => h2 (of_decide_eq_false h)⟩
theorem split_dt {c p q : Prop} [Decidable c] (h : c) (h1 : p) : (decide c = true → p) ∧ (decide c = false → q) := ⟨fun _ => h1, fun e => absurd h (of_decide_eq_false e)⟩
theorem split_df {c p q : Prop} [Decidable c] (h : ¬ c) (h1 : q) : (decide c = true → p) ∧ (decide c = false → q) := ⟨fun e => absurd (of_decide_eq_true e) h, fun _ => h1⟩
theorem split_ndt {c p q : Prop} [Decidable c] (h : c) (h1 : q) : ((!decide c) = true → p) ∧ ((!decide c) = false → q) := by rw [decide_eq_true h]; exact split_nt h1
theorem split_ndf {c p q : Prop} [Decidable c] (h : ¬ c) (h1 : p) : ((!decide c) = true → p) ∧ ((!decide c) = false → q) := by rw [decide_eq_false h]; exact split_nf h1
theorem w2_eqIt {i j : Int} (h : i = j) (q : P (.bl true) μ) : W2 K (rEqD K) (.int i) (.int j) μ P := w2_eqI (by rw [decide_eq_true h]; exact q)
theorem w2_neIt {i j : Int} (h : i = j) (q : P (.bl false) μ) : W2 K (rNeD K) (.int i) (.int j) μ P := w2_neI (by rw [decide_eq_true h]; exact q)
theorem split_n {b : Bool} {p q : Prop} (h : (b = true → q) ∧ (b = false → p)) : ((!b) = true → p) ∧ ((!b) = false → q) := ⟨fun e => h.2 (by simpa using e), fun e => h.1 (by simpa using e)⟩
theorem mod_nn {a m : Int} (h : 0 < m) : 0 ≤ a % m ∧ a % m < m := ⟨Int.emod_nonneg a (by omega), Int.emod_lt_of_pos a h⟩
theorem eqB_ints {i j : Int} : eqB (.int i) (.int j) = decide (i = j) := Bool.beq_eq_decide_eq i j
theorem eqB_bls {i j : Bool} : eqB (.bl i) (.bl j) = decide (i = j) := Bool.beq_eq_decide_eq i j
theorem eqB_nil : eqB (.tup []) (.tup []) = true := rfl
theorem eqB_cons {x y : D} {xs ys : List D} : eqB (.tup (x :: xs)) (.tup (y :: ys)) = (eqB x y && eqB (.tup xs) (.tup ys)) := rfl
theorem eqBL_nil : eqBL [] [] = true := rfl
theorem eqBL_cons {x y : D} {xs ys : List D} : eqBL (x :: xs) (y :: ys) = (eqB x y && eqBL xs ys) := rfl
theorem s_open3 {i : Nat} {k1 k2 k3 : Str} {c : Addr} (hm : μ[i]? = some (a, .deck [k1, k2, k3] c)) (h : ∀ (x y z : Int) (cs : List Int), 0 ≤ x → 0 ≤ y → 0 ≤ z → cs.length ≤ 63 →
    S4 K ts δ ((a, .dic [(.inr "cells", .ref c), (.inr k1, .int x), (.inr k2, .int y), (.inr k3, .int z)]) :: (c, .lst (cs.map D.int)) :: μ.eraseIdx i) N R B C) : S4 K ts δ μ N R B C := by
  refine s_open hm fun ns cs hns hcs => ?_
  match ns, hns with
  | [x, y, z], hns => exact h x y z cs (hns.2 x (by simp)) (hns.2 y (by simp)) (hns.2 z (by simp)) hcs
theorem weak_close3 {i : Nat} {k1 k2 k3 : Str} {c : Addr} {kds : List (Key × D)} {ds : List D} {x y z : Int} {cs : List Int} (hm : μ[i]? = some (a, .deck [k1, k2, k3] c))
    (e1 : kds = [(.inr "cells", .ref c), (.inr k1, .int x), (.inr k2, .int y), (.inr k3, .int z)]) (e2 : ds = cs.map D.int) (h1 : 0 ≤ x) (h2 : 0 ≤ y) (h3 : 0 ≤ z) (h4 : cs.length ≤ 63) : Weak ((a, .dic kds) :: (c, .lst ds) :: μ.eraseIdx i) μ :=
  weak_close (ns := [x, y, z]) hm ⟨rfl, fun n h => by
    simp only [List.mem_cons, List.not_mem_nil, or_false] at h
    rcases h with rfl | rfl | rfl <;> assumption⟩ h4 e1 e2
theorem map_int_get {cs : List Int} {k : Nat} {d : D} (h : (cs.map D.int)[k]? = some d) : ∃ v, cs[k]? = some v ∧ d = .int v := by
  rw [List.getElem?_map] at h
  cases e : cs[k]? with
  | none => rw [e] at h; cases h
  | some v => rw [e] at h; cases h; exact ⟨v, rfl, rfl⟩
theorem wt_yes {PT : Bool → Mu → Prop} (q : PT true μ) : WT K tYes δ μ PT := fun σ H ok Q f => f true H μ .refl ok.m q
theorem wsl_02 {x y z w : D} (q : P (.tup [x, y]) μ) : WSl K (rSlG K) (.tup [x, y, z, w]) none (some 2) μ P := wsl_tup q
theorem wsl_24 {x y z w : D} (q : P (.tup [z, w]) μ) : WSl K (rSlG K) (.tup [x, y, z, w]) (some 2) none μ P := wsl_tup q
/-- a cut behind which slots and objects are forgotten -/
theorem s_cutW (J : Dl → Mu → Prop) (h : S4 K ts1 δ μ (fun δ' μ' => ∃ δ0 μ0, LeD δ0 δ' ∧ Weak μ' μ0 ∧ J δ0 μ0) R B C) (k : ∀ δ' μ', J δ' μ' → S4 K ts2 δ' μ' N R B C) : S4 K (tSeq ts1 ts2) δ μ N R B C :=
  s_cut _ h fun δ' μ' ⟨δ0, μ0, le, wk, j⟩ => s_forget le (s_weak wk (k δ0 μ0 j))
theorem split_xb {b1 b2 : Bool} {p q : Prop} (h : b1 = b2) (h1 : q) : ((!(b1 == b2)) = true → p) ∧ ((!(b1 == b2)) = false → q) := by
  subst h
  rw [beq_self_eq_true]
  exact split_nt h1
theorem split_xe {b1 b2 : Bool} {p q : Prop} (h : b1 = b2) (h1 : p) : ((b1 == b2) = true → p) ∧ ((b1 == b2) = false → q) := by
  subst h
  rw [beq_self_eq_true]
  exact split_t h1
/-- plain data of depth at most n -/
def D.flat (n : Nat) (x : D) : Prop := x.dat = true ∧ x.py.canLay0 = true ∧ x.py.depth ≤ n
theorem flat_int {i : Int} : (D.int i).flat n := ⟨rfl, rfl, Nat.zero_le _⟩
theorem flat_bl {b : Bool} : (D.bl b).flat n := ⟨rfl, rfl, Nat.zero_le _⟩
theorem flat_non : D.non.flat n := ⟨rfl, rfl, Nat.zero_le _⟩
theorem flat_L : ∀ {ds : List D}, (∀ x ∈ ds, x.flat n) → D.datL ds = true ∧ PyData.canLayAll0 (D.pyL ds) = true ∧ PyData.depthAll (D.pyL ds) ≤ n
  | [], _ => ⟨rfl, rfl, Nat.zero_le _⟩
  | x :: ds, h => by
    obtain ⟨a1, a2, a3⟩ := h x List.mem_cons_self
    obtain ⟨b1, b2, b3⟩ := flat_L fun y hy => h y (List.mem_cons_of_mem _ hy)
    refine ⟨?_, ?_, ?_⟩
    · show (x.dat && D.datL ds) = true
      rw [a1, b1]; rfl
    · show (x.py.canLay0 && PyData.canLayAll0 (D.pyL ds)) = true
      rw [a2, b2]; rfl
    · show max x.py.depth (PyData.depthAll (D.pyL ds)) ≤ n
      omega
theorem flat_tup {ds : List D} (h : ∀ x ∈ ds, x.flat n) : (D.tup ds).flat (n + 1) := by
  obtain ⟨b1, b2, b3⟩ := flat_L h
  exact ⟨b1, b2, Nat.succ_le_succ b3⟩
theorem flat_up {x : D} {m : Nat} (h : x.flat n) (hn : n ≤ m) : x.flat m := ⟨h.1, h.2.1, Nat.le_trans h.2.2 hn⟩
theorem flat_dec {x : D} (h : (x.dat && (x.py.canLay0 && Nat.ble x.py.depth n)) = true) : x.flat n :=
  have h1 := Bool.and_eq_true_iff.mp h
  have h2 := Bool.and_eq_true_iff.mp h1.2
  ⟨h1.1, h2.1, Nat.le_of_ble_eq_true h2.2⟩
theorem sh_flat {x : D} (h : x.flat n) (hn : n ≤ 64) : x.sh = true := by
  unfold D.sh SeqAt.shaped
  rw [h.1, h.2.1, decide_eq_true (Nat.le_trans h.2.2 hn)]
  rfl
theorem eqBL_nil_r {xs : List D} : eqBL xs [] = xs.isEmpty := by cases xs <;> rfl
theorem wc_lenTm {α : Type} {f : α → D} {es : List α} (q : P (.int (es.length : Nat)) μ) : WC K (rLenG K) [.tup (es.map f)] μ P := wc_lenT (by rw [List.length_map]; exact q)
theorem wc_lenLm {α : Type} {f : α → D} {es : List α} {j : Nat} (hm : μ[j]? = some (a, .lst (es.map f))) (q : P (.int (es.length : Nat)) μ) : WC K (rLenG K) [.ref a] μ P := wc_lenL hm (by rw [List.length_map]; exact q)
/-- an entry of a list of numbers that lie in a range -/
theorem w2_ixR {cs : List Int} {i : Int} (j : Nat) (lo hi : Int) (hm : μ[j]? = some (a, .lst (cs.map D.int))) (h0 : 0 ≤ i) (h1 : i < cs.length) (hc : ∀ c ∈ cs, lo ≤ c ∧ c ≤ hi) (q : ∀ n : Int, lo ≤ n → n ≤ hi → P (.int n) μ) : W2 K (rIx K) (.ref a) (.int i) μ P :=
  w2_ixO j hm h0 (by rw [List.length_map]; exact h1) fun k d hk _ => by
    rw [List.getElem?_map] at hk
    obtain ⟨n, hn, rfl⟩ := Option.map_eq_some_iff.mp hk
    have := hc n (List.mem_of_getElem? hn)
    exact q n this.1 this.2
theorem three_of {ns : List Int} (h : ns.length = 3) : ∃ a b c, ns = [a, b, c] := by
  match ns, h with
  | [a, b, c], _ => exact ⟨a, b, c, rfl⟩
end
end Wk

set_option Elab.async false
set_option linter.all false
set_option maxRecDepth 100000
/-! enumerate of a tuple; t[::-1] of a list or a tuple -/
namespace WkE
open PySem PySem.Spec PyProof.Rows L2
open Sem (wp)
open AutoSeq1 (wpAny_loadPart')

theorem meets_enumerate_newT (l : Addr) (items : Array Value) (n : Nat) (dct : Option Addr) (sl : Array (Option Value)) :
    Meets (Builtin.«enumerate.__new__» ⟨[.type "enumerate", .ref l], []⟩) (fun _ R s => s.heap.get? l = some { cls := .type "tuple", dict := dct, data := .seq items n, slots := sl } ∧
      R (.ok (.ret (.ref (s.heap.push { cls := .type "tuple_iterator", data := .fields #[.ref l, .int 0 0] }).objs.size)))
        { s with heap := (s.heap.push { cls := .type "tuple_iterator", data := .fields #[.ref l, .int 0 0] }).push { cls := .type "enumerate", data := .fields #[.none, .bool false, .ref s.heap.objs.size, rawInt 0, .none, .none] } }) :=
  .of_wp fun prog w A R s h => by
    obtain ⟨hp, g, d, tk, os⟩ := s; obtain ⟨hl, h⟩ := h
    have hsub := sub_enumerate
    have hL : Heap.IsTuple (Shared.heap ⟨hp, g, d, tk, os⟩) l items := ⟨_, hl, rfl, n, rfl⟩
    wp_walk using wpAny_loadPart' hl
    refine wpAny_stack_any fun st => wpAny_pure ?_
    split
    · rename_i c _ _ _ _ _
      cases (c == Value.type "enumerate")
      · wp_walk using wpAny_loadPart' hl, wpAny_pyIter_tuple hL
        exact ⟨_, rfl, h⟩
      · wp_walk using wpAny_loadPart' hl, wpAny_pyIter_tuple hL
        exact ⟨_, rfl, h⟩
    · wp_walk using wpAny_loadPart' hl, wpAny_pyIter_tuple hL
      exact ⟨_, rfl, h⟩
section
variable {prog : Program} {w : World} {A : Around} {E : Value → Shared → Prop} {s : Shared}
theorem call_enumerate_tuple {l : Addr} {items : Array Value} {Q : Value → Shared → Prop} (hL : s.heap.IsTuple l items)
    (h : ∀ h', IsEnum h' (s.heap.objs.size + 1) s.heap.objs.size 0 .none → h'.IsTupleIter s.heap.objs.size l 0 → h'.objs.size = s.heap.objs.size + 2 →
      (∀ b o, s.heap.get? b = some o → h'.get? b = some o) → Q (.ref (s.heap.objs.size + 1)) { s with heap := h' }) :
    wpAny (model prog w) A (call (.type "enumerate") [.ref l]) Q E s := by
  obtain ⟨⟨c, dct, dt, sl⟩, hl, hc, n, hd⟩ := hL
  replace hc : c = .type "tuple" := hc
  replace hd : dt = .seq items n := hd
  subst hc hd
  refine callType_new F.called_enumerate (by decide) (F.typeCall_enumerate_1 _) (F.newCall_enumerate_1 _) (fun obj => F.args_object_init_2 obj _) F.entry_enumerate_new
    (meets_enumerate_newT l items n dct sl) ⟨hl, ?_⟩
  have hz : (s.heap.push { cls := .type "tuple_iterator", data := .fields #[.ref l, .int 0 0] }).objs.size = s.heap.objs.size + 1 := Heap.size_push ..
  show _ ∧ _
  rw [hz]
  have he : IsEnum ((s.heap.push { cls := .type "tuple_iterator", data := .fields #[.ref l, .int 0 0] }).push
      { cls := .type "enumerate", data := .fields #[.none, .bool false, .ref s.heap.objs.size, rawInt 0, .none, .none] }) (s.heap.objs.size + 1) s.heap.objs.size 0 .none := by
    have := Heap.get?_push_size (s.heap.push { cls := .type "tuple_iterator", data := .fields #[.ref l, .int 0 0] })
      (o := { cls := .type "enumerate", data := .fields #[.none, .bool false, .ref s.heap.objs.size, rawInt 0, .none, .none] }) rfl
    rw [hz] at this; exact this
  refine ⟨⟨_, he, rfl⟩, h _ he ⟨_, Heap.get?_push_of_some _ (Heap.get?_push_size _ rfl), rfl, rfl⟩ (by rw [Heap.size_push, hz]) fun b o x => Heap.get?_push_of_some _ (Heap.get?_push_of_some _ x)⟩
end
/-- the tuple at a, each item in a new pair -/
def IteT (K : PySem.W.Frag) (a : Addr) : It :=
  ⟨fun i H => ∃ (xs : List V) (x : V), SqT K H a xs ∧ xs[i]? = some x, fun i H v H' => ∃ T x, v = .ref T ∧ H T = none ∧ H' = upd H T (.tup [.int (i : Nat), x]) ∧ ∀ xs, SqT K H a xs → xs[i]? = some x, fun i H => ∃ xs : List V, SqT K H a xs ∧ xs.length ≤ i⟩
theorem turn_enumT {P : Program} {w : World} {K : PySem.W.Frag} {elts : List Expr} {kk : Nat} {tpos : Pos} (a e it : Addr) :
    Turn P w K (.Tuple elts kk tpos) (IteT K a) [e, it] e (fun i h => (∃ old, IsEnum h e it ((i : Nat) : Int) old) ∧ h.IsTupleIter it a i ∧ e ≠ it ∧ a ≠ it ∧ e ≠ a) where
  mem := by simp
  obj := fun i h st b hb => by
    obtain ⟨⟨old, he⟩, ⟨o, ho, hc, hd⟩, _⟩ := st
    have e' : b = e ∨ b = it := by simpa using hb
    rcases e' with z | z
    · rw [z]; exact ⟨_, he, fun v q => nomatch q⟩
    · rw [z]; exact ⟨o, ho, fun v q => by rw [hd] at q; cases q⟩
  keep := fun i h h' st k => let ⟨⟨old, he⟩, ⟨o, ho, r⟩, hne⟩ := st; ⟨⟨old, k e (by simp) _ he⟩, ⟨o, k it (by simp) o ho, r⟩, hne⟩
  item := by
    intro X hP hw hK hc i pins s σ H E I hf st hg
    subst hP hw hK
    obtain ⟨⟨old, he⟩, hit, hne, hai, hea⟩ := st
    obtain ⟨xs, x, hq, hx⟩ := hg
    obtain ⟨its, rv, p, hz⟩ := I.tuple hq
    obtain ⟨u, hu, ru⟩ := rv.get hx
    have hel : e < s.heap.objs.size := Heap.lt_size he
    have hil : it < s.heap.objs.size := by obtain ⟨_, q, _⟩ := hit; exact Heap.lt_size q
    have hlt : i < its.toArray.size := by
      have := (List.getElem?_eq_some_iff.mp hu).1
      simpa using this
    obtain ⟨ot, hot, hct, nt, hdt⟩ := p
    refine wpAny_pyNext_enum_itemD (Draws.tuple (prog := X.prog) (w := X.w) (A := X.A.in1) (I.ok.hd hc) it a hai its.toArray) he ⟨hit, ⟨ot, hot, hct, nt, hdt⟩⟩ hlt hne (by simp [hne, hea]) fun x' h' tk hP' ho hit' hT hsz hk => ?_
    have hxu : x' = u := by
      have h1 : its.toArray[i]? = some u := by simpa using hu
      rw [hP'] at h1
      exact Option.some.inj h1
    subst hxu
    refine ⟨_, rfl, wpAny_letOwnedTupleGo_enum (s := { s with heap := h', toks := tk + 1 }) ho fun h'' he' sb => ?_⟩
    have hT2 : h''.get? s.heap.objs.size = some { cls := .type "tuple", data := .seq #[.int i tk, x'] } := (sb.2 _ (Nat.ne_of_gt hel)).trans hT
    have new : ObjOk X.prog X.w (upd H s.heap.objs.size (.tup [.int (i : Nat), x])) h'' s.heap.objs.size (.tup [.int (i : Nat), x]) :=
      ⟨by show 2 ≤ sizeLine; decide, [.int i tk, x'], .cons ⟨_, rfl⟩ (.cons ru .nil), ⟨_, hT2, rfl, _, rfl⟩⟩
    have I1 : Inv X pins σ (upd H s.heap.objs.size (.tup [.int (i : Nat), x])) { s with heap := h'', toks := tk + 1 } :=
      I.turnedNew (ch := [e, it]) (fun b ob hb q => (sb.2 b (fun z => hb (by simp [z]))).trans (hk b ob (fun z => hb (by simp [z])) (fun z => hb (by simp [z])) q)) hf (Nat.le_refl _) new
    obtain ⟨⟨o2, ho2, r2⟩, _⟩ := hit'
    refine ⟨.ref s.heap.objs.size, _, I1, rfl, ⟨_, x, rfl, I.hok.fresh (Nat.le_refl _), rfl, fun ys hy => by rw [I.tuple_inj hy hq]; exact hx⟩, ⟨⟨x', ?_⟩, ⟨o2, (sb.2 it (Ne.symm hne)).trans ho2, r2⟩, hne, hai, hea⟩, fun b hb => ?_⟩
    · have e1 : ((i + 1 : Nat) : Int) = (i : Int) + 1 := by omega
      rw [e1]; exact he'
    · have hb' : b < s.heap.objs.size := by
        have e' : b = e ∨ b = it := by simpa using hb
        rcases e' with z | z
        · rw [z]; exact hel
        · rw [z]; exact hil
      rw [upd_ne (Nat.ne_of_lt hb')]
      exact (hf b hb).1
  done := by
    intro X hP hw hK hc i pins s σ H E I hf st hg
    subst hP hw hK
    obtain ⟨⟨old, he⟩, hit, hne, hai, hea⟩ := st
    obtain ⟨xs, hq, hx⟩ := hg
    obtain ⟨its, rv, p, hz⟩ := I.tuple hq
    obtain ⟨f0, f1, f2, f3, f4, f5⟩ := hf it (by simp)
    have hl := rv.length
    obtain ⟨ot, hot, hct, nt, hdt⟩ := p
    unfold pyNext
    have hT : s.TypeIs (.ref e) "enumerate" := ⟨_, he, rfl⟩
    refine wpAny_bind (wpAny_attempt (wpAny_callSpecial?_slot (name := Str.ofString "__next__") hT F.slot_enumerate_next
      (wpAny_call_entry F.slot_enumerate_next hT F.entry_enumerate_next ?_ (F.args_enumerate_next_1 _))))
    show wpAny _ _ (field (.ref e) 2 >>= _) _ _ _
    refine wpAny_bind (wpAny_field he rfl (x := .ref it) rfl ?_)
    refine wpAny_bind (wpAny_nextOf_tuple_end (I.ok.hd hc) hit ⟨ot, hot, hct, nt, hdt⟩ (by simp; omega) fun h' x eb hx' => ?_)
    obtain ⟨o, ho, hcx⟩ := hx'
    refine wpAny_bind (wpAny_isInstance (T := "StopIteration") (b := true) ⟨o, ho, hcx⟩ isSubtype_stop ?_)
    exact wpAny_pure ⟨rfl, I.turned (t' := s.toks) (fun b o hb q => eb b o hb q) f0 f1 f3 f4 f5⟩
  self := fun A i s Q E st h => let ⟨⟨_, he⟩, _⟩ := st; wpAny_pyIter_enum he h
def iEnumT (K : PySem.W.Frag) (ta : TA) : TI := fun σ H R => ta σ H fun vs H1 => ∃ a xs, vs = [.ref a] ∧ SqT K H1 a xs ∧ R (IteT K a) H1
theorem pi_enumT {X : Cx} {e : Expr} {ta : TA} {p pos tpos : Pos} {elts : List Expr} {kk : Nat} (hg : Gl X "enumerate") (hm : X.mg "enumerate" = none) (ha : PA X [e] ta) (hs : starEach [e] X.env = [(false, eval e X.env)] := by rfl) :
    PI X (.Tuple elts kk tpos) (.Call (.Name "enumerate" p) [e] [] pos) (iEnumT X.K ta) := by
  refine ⟨fun pins s σ H R I h => ?_⟩
  refine Call_ (ld_blt I hg hm boot_enumerate (PyProof.Rows.callWith_type1 (thn (ha.run pos pins s σ H _ I h) fun us s1 ⟨vs, H1, I1, r1, q1⟩ => ?_) hs rfl))
  obtain ⟨a, xs, ex, hq, q⟩ := q1
  subst ex
  cases r1 with
  | cons r rr =>
    cases rr
    cases r
    obtain ⟨its, rv, p', hz⟩ := I1.tuple hq
    obtain ⟨ot, hot, hct, nt, hdt⟩ := p'
    have hal : a < s1.heap.objs.size := Heap.lt_size hot
    refine call_enumerate_tuple ⟨ot, hot, hct, nt, hdt⟩ fun h' he hit hsz hk => wpAny_pyIter_enum he ?_
    have I2 : Inv X pins σ H1 { s1 with heap := h' } := I1.kept (t' := s1.toks) hk
    refine ⟨s1.heap.objs.size + 1, [s1.heap.objs.size + 1, s1.heap.objs.size], _, _, H1, rfl, I2, turn_enumT a (s1.heap.objs.size + 1) s1.heap.objs.size, ⟨⟨.none, he⟩, hit, Nat.succ_ne_self _, Nat.ne_of_lt hal, Nat.ne_of_gt (Nat.lt_succ_of_lt hal)⟩, fun b hb => ?_, q⟩
    have e' : b = s1.heap.objs.size + 1 ∨ b = s1.heap.objs.size := by simpa using hb
    have hle : s1.heap.objs.size ≤ b := by
      rcases e' with z | z
      · rw [z]; exact Nat.le_add_right _ _
      · rw [z]; exact Nat.le_refl _
    exact I1.fpOk hle (I1.hok.fresh hle)

/-! t[::-1] -/
theorem fm_congr {α β : Type} {f g : α → Option β} : ∀ {l : List α}, (∀ x ∈ l, f x = g x) → l.filterMap f = l.filterMap g
  | [], _ => rfl
  | x :: l, h => by rw [List.filterMap_cons, List.filterMap_cons, h x List.mem_cons_self, fm_congr fun y hy => h y (List.mem_cons_of_mem _ hy)]
theorem rev_pick (xs : Array Value) : ((List.range xs.size).filterMap fun (m : Nat) => xs[(((xs.size : Int) - 1) + (m : Int) * (-1)).toNat]?).toArray = xs.toList.reverse.toArray := by
  have h := PySem.W.krv_all xs.toList.reverse.toArray
  have hz : xs.toList.reverse.toArray.size = xs.size := by simp
  rw [hz] at h
  refine congrArg List.toArray (Eq.trans (fm_congr fun m hm => ?_) (h.trans (by simp)))
  have hm2 := List.mem_range.mp hm
  have e : (((xs.size : Int) - 1) + (m : Int) * (-1)).toNat = xs.size - 1 - m := by omega
  rw [e]
  simp only [List.getElem?_toArray]
  rw [List.getElem?_reverse (by simpa using hm2)]
  simp
section
variable {prog : Program} {w : World} {A : Around} {E : Value → Shared → Prop} {s : Shared}
open HT
theorem sliceApplied_rev {sl : Addr} {vs : Value} {n : Nat} {Q : Int × Int × Nat → Shared → Prop} (hs : s.heap.IsSliceOf sl .none .none vs) (ps : IsPart vs (some (-1)))
    (h : Q (((n : Int) - 1), -1, n) s) : wpAny (model prog w) A (Builtin.Slice.sliceApplied (.ref sl) (pure (n : Int))) Q E s := by
  obtain ⟨os, hos, hcs, hds⟩ := id hs
  unfold Builtin.Slice.sliceApplied Builtin.Slice.sliceFields
  refine wpAny_bind (wpAny_bind (wpAny_field hos hds (x := .none) rfl (wpAny_bind (wpAny_field hos hds (x := .none) rfl (wpAny_bind (wpAny_field hos hds (x := vs) rfl (wpAny_pure ?_)))))))
  refine wpAny_bind (slicePart_ ps ?_)
  show wpAny _ _ (if ((-1 : Int) == 0) = true then _ else _) _ _ s
  rw [if_neg (by decide)]
  refine wpAny_bind (slicePart_none (wpAny_bind (slicePart_none (wpAny_bind (wpAny_pure ?_)))))
  show wpAny _ _ (match Builtin.Slice.sliceAdjust none none (-1) (n : Int) with | (lo, hi) => pure (lo, (-1 : Int), Builtin.Slice.slicePlaces lo hi (-1))) _ _ s
  have e : Builtin.Slice.sliceAdjust none none (-1) (n : Int) = ((n : Int) - 1, -1) := by
    unfold Builtin.Slice.sliceAdjust
    have h1 : ((-1 : Int) < 0) := by omega
    simp only [h1, if_true]
  rw [e]
  show wpAny _ _ (pure ((n : Int) - 1, (-1 : Int), Builtin.Slice.slicePlaces ((n : Int) - 1) (-1) (-1))) _ _ s
  have e2 : Builtin.Slice.slicePlaces ((n : Int) - 1) (-1) (-1) = n := by
    unfold Builtin.Slice.slicePlaces
    have h1 : ¬ ((-1 : Int) > 0) := by omega
    simp only [h1, if_false]
    rw [show (- -1 : Int) = 1 by decide, Int.ediv_one]
    split <;> omega
  rw [e2]
  exact wpAny_pure h
theorem getItem_tuple_rev {t sl : Addr} {items : Array Value} {vs : Value} {Q : Value → Shared → Prop} (ht : IsTup s.heap t items) (hs : s.heap.IsSliceOf sl .none .none vs) (ps : IsPart vs (some (-1)))
    (h : Q (.ref s.heap.objs.size) { s with heap := s.heap.push { cls := .type "tuple", data := .seq items.toList.reverse.toArray } })
    (hsz : items.size ≤ sizeLine) : wpAny (model prog w) A (getItem (.ref t) (.ref sl)) Q E s := by
  have htake : sizeOk (.seq items.toList.reverse.toArray) := by
    show items.toList.reverse.toArray.size ≤ sizeLine
    rw [List.size_toArray, List.length_reverse, Array.length_toList]
    exact hsz
  obtain ⟨os, hos, hcs, hds⟩ := id hs
  have hTs : s.TypeIs (.ref sl) "slice" := ⟨os, hos, hcs⟩
  unfold getItem
  try with_reducible refine wpAny_holding ?_
  first | refine wpAny_bind (wpAny_pure ?_) | skip
  refine wpAny_bind (wpAny_sequenceKey ht.typeIs (by decide) ?_)
  refine wpAny_bind (wpAny_callSpecial?_slot (name := Str.ofString "__getitem__") ht.typeIs PyProof.Rows.slot_tuple_getitem
    (wpAny_call_entry PyProof.Rows.slot_tuple_getitem ht.typeIs entry_tuple_getitem ?_ (args_tuple_getitem _ _)))
  show wpAny _ _ (Builtin.Tuple.tupleItemsOf (.ref t) >>= _) _ _ s
  refine wpAny_bind (tupleItemsOf_ ht ?_)
  refine wpAny_bind (wpAny_typeOf hTs ?_)
  rw [if_pos (by decide)]
  refine wpAny_bind (sliceApplied_rev hs ps ?_)
  have hno : ¬ ((((items.size : Int) - 1) == 0 && (-1 : Int) == 1 && items.size == items.size) = true) := by
    rw [show ((-1 : Int) == 1) = false from by decide, Bool.and_false, Bool.false_and]
    exact Bool.false_ne_true
  show wpAny _ _ (if ((((items.size : Int) - 1) == 0 && (-1 : Int) == 1 && items.size == items.size) = true) then _ else _) _ _ s
  rw [if_neg hno, rev_pick]
  first
    | exact wpAny_bind (m := Builtin.Tuple.tupleExact _) (wpAny_newObj_type (wpAny_pure ⟨_, rfl, wpAny_pure h⟩) htake)
    | exact wpAny_bind (m := Builtin.Tuple.tupleExact _) (wpAny_newObj_type (wpAny_bind (wpAny_pure (wpAny_pure ⟨_, rfl, wpAny_pure h⟩))) htake)
    | exact wpAny_bind (wpAny_bind (m := Builtin.Tuple.tupleExact _) (wpAny_newObj_type (wpAny_pure (wpAny_pure ⟨_, rfl, wpAny_pure h⟩)) htake))
    | exact wpAny_bind (wpAny_bind (m := Builtin.Tuple.tupleExact _) (wpAny_newObj_type (wpAny_pure ⟨_, rfl, wpAny_pure h⟩) htake))
end
section
variable {X : Cx}
def tRevG (K : PySem.W.Frag) (te : TE) : TE := fun σ H Q => te σ H fun x H1 => (∃ a xs, x = .ref a ∧ SqL K H1 a xs ∧ ∀ p, H1 p = none → Q (.ref p) (upd H1 p (.lst xs.reverse))) ∨
  (∃ a xs, x = .ref a ∧ SqT K H1 a xs ∧ ∀ p, H1 p = none → Q (.ref p) (upd H1 p (.tup xs.reverse)))
theorem pe_rev {e : Expr} {te : TE} {k : Nat} {p1 p2 p3 pos : Pos} (he : PE X e te) : PE X (.Subscript e (.Slice none none (some (.UnaryOp .USub (.Constant (.int 1) k p1) p2)) p3) pos) (tRevG X.K te) := by
  refine ⟨fun pins s σ H Q I h => ?_⟩
  refine Subscript_ (thn (he.run pins s σ H _ I h) fun v s1 ⟨x, H1, I1, r1, q1⟩ => ?_)
  have hst : PO X (some (.UnaryOp .USub (.Constant (.int 1) k p1) p2)) (tPart (tUn (rU fun i => .int (-i)) (tC (.int 1)))) := po_some (pe_un un_neg pe_int)
  refine wpAny_Slice (thn (po_none.run pins s1 σ H1 (fun o H2 => o = none ∧ H2 = H1) I1 ⟨rfl, rfl⟩) fun vl s2 ⟨l, H2, I2, pl, el, e2⟩ => ?_)
  subst el e2
  refine thn (po_none.run pins s2 σ H2 (fun o H3 => o = none ∧ H3 = H2) I2 ⟨rfl, rfl⟩) fun vu s3 ⟨u, H3, I3, pu, eu, e3⟩ => ?_
  subst eu e3
  refine thn (hst.run pins s3 σ H3 (fun o H4 => o = some (-1) ∧ H4 = H3) I3 ⟨1, rfl, -1, rfl, rfl, rfl⟩) fun vs s4 ⟨o, H4, I4, ps, eo, e4⟩ => ?_
  subst eo e4
  have I5 : Inv X pins σ H4 { s4 with heap := s4.heap.push { cls := .type "slice", data := .fields #[vl, vu, vs] } } := I4.kept (t' := s4.toks) fun b ob q => Heap.get?_push_of_some _ q
  rcases q1 with ⟨a, xs, ex, hx, q⟩ | ⟨a, xs, ex, hx, q⟩
  · subst ex
    cases r1
    obtain ⟨its, r, ht, hz⟩ := I5.list hx
    have hlen := r.length
    show wpAny (model X.prog X.w) X.A (subscriptTail e (.Slice none none (some (.UnaryOp .USub (.Constant (.int 1) k p1) p2)) p3) (.ref a) (.ref s4.heap.objs.size)) (EP X pins σ Q) X.xe { s4 with heap := s4.heap.push { cls := .type "slice", data := .fields #[vl, vu, vs] } }
    refine tail_any (ops := [.ref a, .ref s4.heap.objs.size]) ht.isList.typeIs (PySem.slot_list_getitem.lookup) ?_ (by with_unfolding_all rfl)
    refine wpAny_getItem_list_slice ht.isList (Heap.IsSliceOf.new _ vl vu vs) pl pu ps (by decide) ?_ (by rw [List.size_toArray]; omega)
    rw [PySem.W.krv_pick]
    refine ⟨.ref _, _, I5.laid (t' := s4.toks) (o := .lst xs.reverse) (fun b ob q => Heap.get?_push_of_some _ q) (Nat.le_refl _) ?_, rfl, q _ (I5.hok.fresh (Nat.le_refl _))⟩
    exact ⟨by rw [List.length_reverse]; exact hz, _, 0, r.reverse, Heap.get?_push_size _ rfl⟩
  · subst ex
    cases r1
    obtain ⟨its, r, ht, hz⟩ := I5.tuple hx
    have hlen := r.length
    cases pl
    cases pu
    show wpAny (model X.prog X.w) X.A (subscriptTail e (.Slice none none (some (.UnaryOp .USub (.Constant (.int 1) k p1) p2)) p3) (.ref a) (.ref s4.heap.objs.size)) (EP X pins σ Q) X.xe { s4 with heap := s4.heap.push { cls := .type "slice", data := .fields #[.none, .none, vs] } }
    refine tail_any (ops := [.ref a, .ref s4.heap.objs.size]) ht.typeIs (PyProof.Rows.slot_tuple_getitem.lookup) ?_ (by with_unfolding_all rfl)
    refine getItem_tuple_rev ht (Heap.IsSliceOf.new _ .none .none vs) ps ?_ (by rw [List.size_toArray]; omega)
    refine ⟨.ref _, _, I5.laid (t' := s4.toks) (o := .tup xs.reverse) (fun b ob q => Heap.get?_push_of_some _ q) (Nat.le_refl _) ?_, rfl, q _ (I5.hok.fresh (Nat.le_refl _))⟩
    exact ⟨by rw [List.length_reverse]; exact hz, _, r.reverse, IsTup.new _ _⟩
end
theorem k_enumT {X : Cx} {K : PySem.W.Frag} {e : Expr} {ta : TA} {p pos tpos : Pos} {elts : List Expr} {kk : Nat} (h : X.K = K) (hg : Gl X "enumerate") (hm : X.mg "enumerate" = none) (ha : PA X [e] ta) (hs : starEach [e] X.env = [(false, eval e X.env)] := by rfl) :
    PI X (.Tuple elts kk tpos) (.Call (.Name "enumerate" p) [e] [] pos) (iEnumT K ta) := h ▸ pi_enumT hg hm ha hs
theorem k_enumL {X : Cx} {K : PySem.W.Frag} {e : Expr} {ta : TA} {p pos tpos : Pos} {elts : List Expr} {kk : Nat} (h : X.K = K) (hg : Gl X "enumerate") (hm : X.mg "enumerate" = none) (ha : PA X [e] ta) (hs : starEach [e] X.env = [(false, eval e X.env)] := by rfl) :
    PI X (.Tuple elts kk tpos) (.Call (.Name "enumerate" p) [e] [] pos) (iEnum K ta) := h ▸ pi_enum hg hm ha hs
theorem k_rev {X : Cx} {K : PySem.W.Frag} {e : Expr} {te : TE} {k : Nat} {p1 p2 p3 pos : Pos} (h : X.K = K) (he : PE X e te) : PE X (.Subscript e (.Slice none none (some (.UnaryOp .USub (.Constant (.int 1) k p1) p2)) p3) pos) (tRevG K te) := h ▸ pe_rev he
end WkE
namespace Wk
open PySem PySem.Spec L2 WkE
section
variable {K : PySem.W.Frag} {δ : Dl} {μ μ' : Mu} {P : D → Mu → Prop} {ta te : TE} {al : TA} {x y d : D} {xs ds : List D} {a b : Addr}
/-- what stands behind x[::-1] -/
def WRev (x : D) (μ : Mu) (P : D → Mu → Prop) : Prop := (∃ ds, x = .tup ds ∧ P (.tup ds.reverse) μ) ∨ ∃ (a : Addr) (j : Nat) (ds : List D), x = .ref a ∧ μ[j]? = some (a, M.lst ds) ∧ ∀ p, P (.ref p) ((p, .lst ds.reverse) :: μ)
theorem w_rev (h : W K te δ μ fun x μ1 => WRev x μ1 P) : W K (tRevG K te) δ μ P := fun σ H ok Q f =>
  h σ H ok _ fun v H1 x μ1 s1 m1 r1 h1 => by
    rcases h1 with ⟨ds, e, p⟩ | ⟨a, j, ds, e, hm, p⟩
    · subst e
      cases r1 with
      | tup hs_ hl =>
        have hs := TpA.sqt hs_
        refine .inr ⟨_, _, rfl, hs, fun a ha => ?_⟩
        exact f (.ref a) _ (.tup ds.reverse) μ1 (s1.trans (step_new ha)) (m1.new ha) (.tup upd_same (hl.reverse.step m1 (step_new ha))) p
    · subst e
      cases r1
      obtain ⟨vs, hv, hl⟩ := m1.at hm
      refine .inl ⟨_, _, rfl, .inl (.inl hv), fun p' hp => ?_⟩
      exact f (.ref p') _ (.ref p') ((p', .lst ds.reverse) :: μ1) (s1.trans (step_join hp rfl)) (m1.join hp rfl ⟨_, upd_same, hl.reverse.step m1 (step_new hp)⟩) (.ref p') (p p')
theorem wrev_t (q : P (.tup ds.reverse) μ) : WRev (.tup ds) μ P := .inl ⟨ds, rfl, q⟩
theorem wrev_2 (q : P (.tup [y, x]) μ) : WRev (.tup [x, y]) μ P := .inl ⟨_, rfl, q⟩
theorem wrev_m {α : Type} {f : α → D} {es : List α} (q : P (.tup (es.reverse.map f)) μ) : WRev (.tup (es.map f)) μ P := wrev_t (by rw [← List.map_reverse]; exact q)
theorem wrev_l {j : Nat} (hm : μ[j]? = some (a, .lst ds)) (q : ∀ p, P (.ref p) ((p, .lst ds.reverse) :: μ)) : WRev (.ref a) μ P := .inr ⟨a, j, ds, rfl, hm, q⟩
theorem wrev_lm {α : Type} {f : α → D} {es : List α} {j : Nat} (hm : μ[j]? = some (a, .lst (es.map f))) (q : ∀ p, P (.ref p) ((p, .lst (es.reverse.map f)) :: μ)) : WRev (.ref a) μ P := wrev_l hm (by rw [← List.map_reverse]; exact q)
def enumD (xs : List D) : List D := xs.mapIdx fun i d => .tup [.int (i : Int), d]
theorem enumD_length (xs : List D) : (enumD xs).length = xs.length := List.length_mapIdx
theorem enumD_get {i : Nat} (h : (enumD xs)[i]? = some d) : ∃ x, xs[i]? = some x ∧ d = .tup [.int (i : Int), x] := by
  unfold enumD at h
  rw [List.getElem?_mapIdx] at h
  obtain ⟨x, h1, rfl⟩ := Option.map_eq_some_iff.mp h
  exact ⟨x, h1, rfl⟩
theorem wi_enumT {PI : List D → (Mu → Prop) → Mu → Prop} (h : WA K al δ μ fun ds μ1 => ∃ xs, ds = [.tup xs] ∧ PI (enumD xs) (fun _ => True) μ1) : WI K (iEnumT K al) δ μ PI := fun σ H ok R f =>
  h σ H ok _ fun vs H1 ds μ1 s1 m1 r1 ⟨xs, e, p⟩ => by
    subst e
    cases r1 with
    | cons r rr =>
      cases rr
      cases r with
      | tup hs_ hl =>
        have hs := TpA.sqt hs_
        refine ⟨_, _, rfl, hs, f _ H1 (enumD xs) _ μ1 s1 m1 (fun H2 μ2 s2 m2 _ => ?_) p⟩
        have hs2 := sqT_step m1 s2 hs
        have hl2 := hl.step m1 s2
        refine ⟨fun i hi => ⟨_, hs2, by rw [hl2.length]; rw [enumD_length] at hi; exact hi⟩, fun i d hd => ?_⟩
        obtain ⟨x, hx, rfl⟩ := enumD_get hd
        obtain ⟨w, ew, rw'⟩ := hl2.get hx
        refine ⟨⟨_, w, hs2, ew⟩, fun x' H' hy => ?_⟩
        obtain ⟨T, x2, rfl, hT, rfl, hall⟩ := hy
        have e3 := hall _ hs2
        rw [ew] at e3
        cases e3
        refine ⟨step_new hT, m2.new hT, .tup upd_same (.cons (.int _) (.cons (rw'.step m2 (step_new hT)) .nil))⟩
theorem wi_enumL {PI : List D → (Mu → Prop) → Mu → Prop} (h : WA K al δ μ fun ds μ1 => ∃ (a : Addr) (j : Nat) (xs : List D), ds = [.ref a] ∧ μ1[j]? = some (a, M.lst xs) ∧ PI (enumD xs) (fun μ' => (a, M.lst xs) ∈ μ') μ1) : WI K (iEnum K al) δ μ PI := fun σ H ok R f =>
  h σ H ok _ fun vs H1 ds μ1 s1 m1 r1 ⟨a, j, xs, e, hm, p⟩ => by
    subst e
    cases r1 with
    | cons r rr =>
      cases rr
      cases r
      obtain ⟨vs, hv, hl⟩ := m1.at hm
      refine ⟨_, _, rfl, .inl (.inl hv), f _ H1 (enumD xs) _ μ1 s1 m1 (fun H2 μ2 s2 m2 g => ?_) p⟩
      obtain ⟨ws, hw, hl2⟩ := m2.ok _ g
      refine ⟨fun i hi => ⟨_, .inl (.inl hw), by rw [hl2.length]; rw [enumD_length] at hi; exact hi⟩, fun i d hd => ?_⟩
      obtain ⟨x, hx, rfl⟩ := enumD_get hd
      obtain ⟨w, ew, rw'⟩ := hl2.get hx
      refine ⟨⟨_, w, .inl (.inl hw), ew⟩, fun x' H' hy => ?_⟩
      obtain ⟨T, x2, rfl, hT, rfl, hall⟩ := hy
      have e3 := hall _ (.inl (.inl hw))
      rw [ew] at e3
      cases e3
      refine ⟨step_new hT, m2.new hT, .tup upd_same (.cons (.int _) (.cons (rw'.step m2 (step_new hT)) .nil))⟩
theorem den_rg {H : Hp} {a b : Int} : DenL K H (rgV a b) (rngD a (b - a).toNat) := by
  have e1 : rgV a b = ((List.range (b - a).toNat).map fun i : Nat => a + (i : Int)).map V.int := by
    unfold rgV
    rw [List.map_map]
    rfl
  have e2 : rngD a (b - a).toNat = ((List.range (b - a).toNat).map fun i : Nat => a + (i : Int)).map D.int := by
    unfold rngD
    rw [List.map_map]
    rfl
  rw [e1, e2]
  exact DenL.of_ints _
theorem w_listRg1 (h : W K ta δ μ fun x μ1 => ∃ n : Int, x = .int n ∧ (0 ≤ n ∧ n ≤ 16777216) ∧ ∀ p, P (.ref p) ((p, .lst (rngD 0 n.toNat)) :: μ1)) : W K (tLstRg (tRg1 ta)) δ μ P := fun σ H ok Q f =>
  h σ H ok _ fun v H1 x μ1 s1 m1 r1 ⟨n, e, b, p⟩ => by
    subst e
    cases r1
    refine ⟨n, rfl, RgOk.of_le (by omega) b.2 (by omega) b.1, fun q hq => ?_⟩
    have dn : DenL K H1 (rgV 0 n) (rngD 0 n.toNat) := by
      have := den_rg (K := K) (H := H1) (a := 0) (b := n)
      rw [Int.sub_zero] at this
      exact this
    exact f (.ref q) _ (.ref q) ((q, .lst (rngD 0 n.toNat)) :: μ1) (s1.trans (step_join hq rfl)) (m1.join hq rfl ⟨_, upd_same, dn.step m1 (step_new hq)⟩) (.ref q) (p q)
theorem w_tupRg1 (h : W K ta δ μ fun x μ1 => ∃ n : Int, x = .int n ∧ (0 ≤ n ∧ n ≤ 16777216) ∧ P (.tup (rngD 0 n.toNat)) μ1) : W K (tTupRg (tRg1 ta)) δ μ P := fun σ H ok Q f =>
  h σ H ok _ fun v H1 x μ1 s1 m1 r1 ⟨n, e, b, p⟩ => by
    subst e
    cases r1
    refine ⟨n, rfl, RgOk.of_le (by omega) b.2 (by omega) b.1, fun q hq => ?_⟩
    have dn : DenL K H1 (rgV 0 n) (rngD 0 n.toNat) := by
      have := den_rg (K := K) (H := H1) (a := 0) (b := n)
      rw [Int.sub_zero] at this
      exact this
    exact f (.ref q) _ (.tup (rngD 0 n.toNat)) μ1 (s1.trans (step_new hq)) (m1.new hq) (.tup upd_same (dn.step m1 (step_new hq))) p
end
end Wk

set_option Elab.async false
set_option linter.all false
set_option maxRecDepth 100000
namespace Wk
open PySem PySem.Spec L2 WkE
/-- a list stands at p -/
def Lk (ds : List D) (μ : Mu) (p : Addr) : Prop := ∃ j : Nat, μ[j]? = some (p, M.lst ds)
theorem Lk.here {ds : List D} {μ : Mu} {p : Addr} : Lk ds ((p, .lst ds) :: μ) p := ⟨0, rfl⟩
theorem Lk.cons {ds : List D} {μ : Mu} {p : Addr} {x : Addr × M} (h : Lk ds μ p) : Lk ds (x :: μ) p := h.elim fun j hj => ⟨j + 1, hj⟩
theorem Lk.mem {ds : List D} {μ : Mu} {p : Addr} (h : Lk ds μ p) : (p, M.lst ds) ∈ μ := h.elim fun _ hj => List.mem_of_getElem? hj
/-- a dict stands at p -/
def Ck (ds : List (Key × D)) (μ : Mu) (p : Addr) : Prop := ∃ j : Nat, μ[j]? = some (p, M.dic ds)
theorem Ck.here {ds : List (Key × D)} {μ : Mu} {p : Addr} : Ck ds ((p, .dic ds) :: μ) p := ⟨0, rfl⟩
theorem Ck.cons {ds : List (Key × D)} {μ : Mu} {p : Addr} {x : Addr × M} (h : Ck ds μ p) : Ck ds (x :: μ) p := h.elim fun j hj => ⟨j + 1, hj⟩
section
variable {α β : Type} {K : PySem.W.Frag} {δ : Dl} {μ μ' μ1 : Mu} {N B C J : Dl → Mu → Prop} {R : D → Mu → Prop} {P : D → Mu → Prop} {PA : List D → Mu → Prop} {ta tb tc te td ty tv : TE} {t u tt : TT} {al ar : TA} {ts ts1 ts2 : TS} {g : TG} {gs : TGs} {x y d : D} {xs ds : List D} {a b : Addr}

/-! ### for, over a mapped list -/
abbrev ForP (K : PySem.W.Frag) (δ : Dl) (g : TG) (ts : TS) (N : Dl → Mu → Prop) (R : D → Mu → Prop) (ds : List D) (G : Mu → Prop) (μ1 : Mu) : Prop := ∃ I : Nat → Dl → Mu → Prop, (∃ δ0 μ0, LeD δ0 δ ∧ Weak μ1 μ0 ∧ I 0 δ0 μ0) ∧ (∀ i δ' μ', I i δ' μ' → G μ') ∧
    (∀ i d δ' μ', ds[i]? = some d → I i δ' μ' → WG K g d δ' μ' fun δ2 μ2 => S4 K ts δ2 μ2 (fun δ3 μ3 => ∃ δ4 μ4, LeD δ4 δ3 ∧ Weak μ3 μ4 ∧ I (i + 1) δ4 μ4) R N (fun δ3 μ3 => ∃ δ4 μ4, LeD δ4 δ3 ∧ Weak μ3 μ4 ∧ I (i + 1) δ4 μ4)) ∧ ∀ δ' μ', I ds.length δ' μ' → N δ' μ'
theorem s_forQ {wi : TI} (h : WI K wi δ μ (ForP K δ g ts N R)) : S4 K (tFor wi g ts) δ μ N R B C := s_for h
theorem map_take_get {f : α → D} {es : List α} {i : Nat} (h : (es.map f)[i]? = some d) : ∃ x, es[i]? = some x ∧ d = f x ∧ es = es.take i ++ x :: es.drop (i + 1) ∧ es.take (i + 1) = es.take i ++ [x] := by
  rw [List.getElem?_map] at h
  obtain ⟨x, h1, rfl⟩ := Option.map_eq_some_iff.mp h
  obtain ⟨hi, e⟩ := List.getElem?_eq_some_iff.mp h1
  refine ⟨x, h1, rfl, ?_, ?_⟩
  · rw [← e, ← List.drop_eq_getElem_cons hi, List.take_append_drop]
  · rw [List.take_add_one, h1]; rfl
theorem forMm {f : α → D} {es : List α} {G : Mu → Prop} (I : List α → Dl → Mu → Prop) (h0 : ∃ δ0 μ0, LeD δ0 δ ∧ Weak μ1 μ0 ∧ I [] δ0 μ0) (hG : ∀ pre δ' μ', I pre δ' μ' → G μ')
    (hs : ∀ pre x suf δ' μ', es = pre ++ x :: suf → I pre δ' μ' → WG K g (f x) δ' μ' fun δ2 μ2 => S4 K ts δ2 μ2 (fun δ3 μ3 => ∃ δ4 μ4, LeD δ4 δ3 ∧ Weak μ3 μ4 ∧ I (pre ++ [x]) δ4 μ4) R N (fun δ3 μ3 => ∃ δ4 μ4, LeD δ4 δ3 ∧ Weak μ3 μ4 ∧ I (pre ++ [x]) δ4 μ4))
    (hd : ∀ δ' μ', I es δ' μ' → N δ' μ') : ForP K δ g ts N R (es.map f) G μ1 := by
  refine ⟨fun i => I (es.take i), h0, fun i => hG _, fun i d δ' μ' hd h => ?_, fun δ' μ' h => hd δ' μ' ?_⟩
  · obtain ⟨x, _, rfl, e, e2⟩ := map_take_get hd
    simp only [e2]
    exact hs _ x _ δ' μ' e h
  · rw [List.length_map, List.take_length] at h; exact h
/-- over lo .. lo + n - 1 -/
theorem forR {lo : Int} {n : Nat} {G : Mu → Prop} (I : Nat → Dl → Mu → Prop) (h0 : ∃ δ0 μ0, LeD δ0 δ ∧ Weak μ1 μ0 ∧ I 0 δ0 μ0) (hG : ∀ i δ' μ', I i δ' μ' → G μ')
    (hs : ∀ i δ' μ', i < n → I i δ' μ' → WG K g (.int (lo + (i : Int))) δ' μ' fun δ2 μ2 => S4 K ts δ2 μ2 (fun δ3 μ3 => ∃ δ4 μ4, LeD δ4 δ3 ∧ Weak μ3 μ4 ∧ I (i + 1) δ4 μ4) R N (fun δ3 μ3 => ∃ δ4 μ4, LeD δ4 δ3 ∧ Weak μ3 μ4 ∧ I (i + 1) δ4 μ4))
    (hd : ∀ δ' μ', I n δ' μ' → N δ' μ') : ForP K δ g ts N R (rngD lo n) G μ1 := by
  refine ⟨I, h0, hG, fun i d δ' μ' hd h => ?_, fun δ' μ' h => hd δ' μ' ?_⟩
  · obtain ⟨hi, rfl⟩ := rngD_get hd
    exact hs i δ' μ' hi h
  · rw [rngD_length] at h; exact h
/-- over enumerate of a mapped list -/
theorem forE {f : α → D} {es : List α} {G : Mu → Prop} (I : List α → Dl → Mu → Prop) (h0 : ∃ δ0 μ0, LeD δ0 δ ∧ Weak μ1 μ0 ∧ I [] δ0 μ0) (hG : ∀ pre δ' μ', I pre δ' μ' → G μ')
    (hs : ∀ pre x suf δ' μ', es = pre ++ x :: suf → I pre δ' μ' → WG K g (.tup [.int (pre.length : Nat), f x]) δ' μ' fun δ2 μ2 => S4 K ts δ2 μ2 (fun δ3 μ3 => ∃ δ4 μ4, LeD δ4 δ3 ∧ Weak μ3 μ4 ∧ I (pre ++ [x]) δ4 μ4) R N (fun δ3 μ3 => ∃ δ4 μ4, LeD δ4 δ3 ∧ Weak μ3 μ4 ∧ I (pre ++ [x]) δ4 μ4))
    (hd : ∀ δ' μ', I es δ' μ' → N δ' μ') : ForP K δ g ts N R (enumD (es.map f)) G μ1 := by
  refine ⟨fun i => I (es.take i), h0, fun i => hG _, fun i d δ' μ' hd h => ?_, fun δ' μ' h => hd δ' μ' ?_⟩
  · obtain ⟨z, hz, rfl⟩ := enumD_get hd
    obtain ⟨x, hx, rfl, e, e2⟩ := map_take_get hz
    simp only [e2]
    have hl : (es.take i).length = i := by
      rw [List.length_take]
      have := (List.getElem?_eq_some_iff.mp hx).1
      omega
    have h2 := hs _ x _ δ' μ' e h
    rw [hl] at h2
    exact h2
  · rw [enumD_length, List.length_map, List.take_length] at h; exact h

theorem leD_refl : ∀ δ : Dl, LeD δ δ
  | [] => True.intro
  | none :: r => leD_refl r
  | some d :: r => ⟨rfl, leD_refl r⟩
theorem leD_set : ∀ {δ1 δ2 : Dl} (i : Nat), LeD δ1 δ2 → LeD (δ1.set i none) δ2
  | [], [], _, h => h
  | none :: r, _ :: t, 0, h => h
  | none :: r, _ :: t, i + 1, h => leD_set (δ1 := r) (δ2 := t) i h
  | some d :: r, o :: t, 0, h => h.2
  | some d :: r, o :: t, i + 1, h => ⟨h.1, leD_set (δ1 := r) (δ2 := t) i h.2⟩
  | [], _ :: _, _, h => h.elim
  | none :: _, [], _, h => h.elim
  | some _ :: _, [], _, h => h.elim
theorem leD_wipe (δ : Dl) : ∀ vs : List Nat, LeD (wipeD δ vs) δ
  | [] => leD_refl δ
  | v :: vs => leD_set v (leD_wipe δ vs)
theorem leD_setr : ∀ {δ1 δ2 : Dl} (i : Nat) (x : Option D), δ1[i]? = some none ∨ δ1[i]? = none → LeD δ1 δ2 → LeD δ1 (δ2.set i x)
  | [], [], _, _, _, h => h
  | none :: r, _ :: t, 0, _, _, h => h
  | none :: r, _ :: t, i + 1, x, c, h => leD_setr (δ1 := r) (δ2 := t) i x (by simpa using c) h
  | some d :: r, o :: t, 0, _, c, h => by simp at c
  | some d :: r, o :: t, i + 1, x, c, h => ⟨h.1, leD_setr (δ1 := r) (δ2 := t) i x (by simpa using c) h.2⟩
  | [], _ :: _, _, _, _, h => h.elim
  | none :: _, [], _, _, _, h => h.elim
  | some _ :: _, [], _, _, _, h => h.elim
theorem wipeD_none {i : Nat} : ∀ {vs : List Nat}, i ∈ vs → (wipeD δ vs)[i]? = some none ∨ (wipeD δ vs)[i]? = none
  | v :: vs, h => by
    unfold wipeD
    by_cases c : v = i
    · subst c
      by_cases l : v < (wipeD δ vs).length
      · rw [List.getElem?_set_self l]; exact .inl rfl
      · rw [List.getElem?_eq_none (by rw [List.length_set]; omega)]; exact .inr rfl
    · rw [List.getElem?_set_ne c]
      rcases List.mem_cons.mp h with e | h
      · exact absurd e.symm c
      · exact wipeD_none h
theorem leW_refl {vs : List Nat} : LeD (wipeD δ vs) (wipeD δ vs) := leD_refl _
theorem leW_set {δ3 : Dl} {vs : List Nat} {i : Nat} {x : Option D} (hi : i ∈ vs) (h : LeD (wipeD δ vs) δ3) : LeD (wipeD δ vs) (δ3.set i x) := leD_setr i x (wipeD_none hi) h
theorem leW_wipe {δ3 : Dl} {vs : List Nat} : ∀ {ws : List Nat}, (∀ i ∈ ws, i ∈ vs) → LeD (wipeD δ vs) δ3 → LeD (wipeD δ vs) (wipeD δ3 ws)
  | [], _, h => h
  | w :: ws, k, h => leW_set (k w List.mem_cons_self) (leW_wipe (ws := ws) (fun i hi => k i (List.mem_cons_of_mem _ hi)) h)
theorem leW_base {δ : Dl} {vs : List Nat} : LeD (wipeD δ vs) δ := leD_wipe δ vs
/-! ### slots in sight -/
theorem s_start {NN : List Str} {ds : List D} {δ' : Dl} (h : startD NN ds = δ') (q : S4 K ts δ' μ N R B C) : S4 K ts (startD NN ds) μ N R B C := by subst h; exact q
theorem wg_nameN {i : Nat} {δ' : Dl} {PG : Dl → Mu → Prop} (h : δ.set i (some d) = δ') (q : PG δ' μ) : WG K (gName i) d δ μ PG := wg_name (by subst h; exact q)
theorem wg_wipe {vs vs' : List Nat} {δ' : Dl} {PG : Dl → Mu → Prop} (h1 : vs = vs') (h : wipeD δ vs' = δ') (q : WG K g d δ' μ PG) : WG K g d (wipeD δ vs) μ PG := by subst h1 h; exact q
theorem s_augN {i : Nat} {ti : TIp} {x : D} (hx : δ[i]? = some (some x)) (h : W K te δ μ fun y μ1 => W2 K ti x y μ1 fun z μ2 => ∃ δ', δ.set i (some z) = δ' ∧ N δ' μ2) : S4 K (tAug i te ti) δ μ N R B C :=
  s_aug hx (h.imp fun y μ1 h => fun H v u m r1 r2 Q k => h H v u m r1 r2 Q fun v' H' d μ' s m' r ⟨δ', e, q⟩ => k v' H' d μ' s m' r (by subst e; exact q))
theorem augN {δ' : Dl} {μ : Mu} {x : D} {i : Nat} (h : δ.set i (some x) = δ') (q : N δ' μ) : ∃ δ', δ.set i (some x) = δ' ∧ N δ' μ := ⟨_, h, q⟩
/-- a for whose turns change nothing but the slots vs -/
theorem forC (vs : List Nat) {δ0 : Dl} {G : Mu → Prop} (hw : wipeD δ vs = δ0) (hG : G μ1)
    (hs : ∀ x, x ∈ ds → WG K g x δ0 μ1 fun δ2 μ2 => S4 K ts δ2 μ2 (fun δ3 μ3 => LeD δ0 δ3 ∧ Weak μ3 μ1) R N (fun δ3 μ3 => LeD δ0 δ3 ∧ Weak μ3 μ1))
    (hd : N δ0 μ1) : ForP K δ g ts N R ds G μ1 := by
  subst hw
  refine ⟨fun _ δ' μ' => δ' = wipeD δ vs ∧ μ' = μ1, ⟨_, _, leD_wipe δ vs, Weak.refl, rfl, rfl⟩, ?_, ?_, ?_⟩
  · rintro i δ' μ' ⟨rfl, rfl⟩; exact hG
  · rintro i d δ' μ' hd' ⟨rfl, rfl⟩
    intro σ H v ok rv Q k
    refine hs d (List.mem_of_getElem? hd') σ H v ok rv Q fun σ' H' δ2 μ2 s o h => k σ' H' δ2 μ2 s o ?_
    exact s_imp h (fun δ3 μ3 ⟨l, w⟩ => ⟨_, _, l, w, rfl, rfl⟩) (fun _ _ z => z) (fun _ _ z => z) (fun δ3 μ3 ⟨l, w⟩ => ⟨_, _, l, w, rfl, rfl⟩)
  · rintro δ' μ' ⟨rfl, rfl⟩; exact hd
theorem forCm {f : α → D} {es : List α} (vs : List Nat) {δ0 : Dl} {G : Mu → Prop} (hw : wipeD δ vs = δ0) (hG : G μ1)
    (hs : ∀ x, x ∈ es → WG K g (f x) δ0 μ1 fun δ2 μ2 => S4 K ts δ2 μ2 (fun δ3 μ3 => LeD δ0 δ3 ∧ Weak μ3 μ1) R N (fun δ3 μ3 => LeD δ0 δ3 ∧ Weak μ3 μ1))
    (hd : N δ0 μ1) : ForP K δ g ts N R (es.map f) G μ1 := forC vs hw hG (fun d hd => by
      obtain ⟨x, hx, rfl⟩ := List.mem_map.mp hd
      exact hs x hx) hd
theorem forCr {lo : Int} {n : Nat} (vs : List Nat) {δ0 : Dl} {G : Mu → Prop} (hw : wipeD δ vs = δ0) (hG : G μ1)
    (hs : ∀ i : Nat, i < n → WG K g (.int (lo + (i : Int))) δ0 μ1 fun δ2 μ2 => S4 K ts δ2 μ2 (fun δ3 μ3 => LeD δ0 δ3 ∧ Weak μ3 μ1) R N (fun δ3 μ3 => LeD δ0 δ3 ∧ Weak μ3 μ1))
    (hd : N δ0 μ1) : ForP K δ g ts N R (rngD lo n) G μ1 := forC vs hw hG (fun d hd => by
      obtain ⟨x, hx, rfl⟩ := List.mem_map.mp hd
      exact hs x (List.mem_range.mp hx)) hd
theorem forCe {f : α → D} {es : List α} (vs : List Nat) {δ0 : Dl} {G : Mu → Prop} (hw : wipeD δ vs = δ0) (hG : G μ1)
    (hs : ∀ (i : Nat) x, es[i]? = some x → WG K g (.tup [.int (i : Nat), f x]) δ0 μ1 fun δ2 μ2 => S4 K ts δ2 μ2 (fun δ3 μ3 => LeD δ0 δ3 ∧ Weak μ3 μ1) R N (fun δ3 μ3 => LeD δ0 δ3 ∧ Weak μ3 μ1))
    (hd : N δ0 μ1) : ForP K δ g ts N R (enumD (es.map f)) G μ1 := forC vs hw hG (fun d hd => by
      obtain ⟨i, hi⟩ := List.getElem?_of_mem hd
      obtain ⟨z, hz, rfl⟩ := enumD_get hi
      obtain ⟨x, hx, rfl, _⟩ := map_take_get hz
      exact hs i x hx) hd

/-! ### comprehensions over a mapped list -/
/-- what stands behind w_lc -/
def LcP (K : PySem.W.Frag) (δ : Dl) (vs : List Nat) (g : TG) (tt : TT) (te : TE) (P : D → Mu → Prop) (ds : List D) (G : Mu → Prop) (μ1 : Mu) : Prop := ds.length < sizeLine ∧ ∀ p, ∃ I : Nat → List D → Mu → Prop, I 0 [] μ1 ∧
    (∀ i acc μ', I i acc μ' → G ((p, .lst acc) :: μ')) ∧
    (∀ i d acc μ', ds[i]? = some d → I i acc μ' → acc.length ≤ i → WG K g d (wipeD δ vs) ((p, .lst acc) :: μ') fun δ2 μ2 => WT K tt δ2 μ2 fun b μ3 =>
      (b = true → W K te δ2 μ3 fun y μ4 => ∃ μ5, Weak μ4 ((p, .lst acc) :: μ5) ∧ I (i + 1) (acc ++ [y]) μ5) ∧ (b = false → ∃ μ5, Weak μ3 ((p, .lst acc) :: μ5) ∧ I (i + 1) acc μ5)) ∧
    ∀ acc μ', I ds.length acc μ' → acc.length ≤ ds.length → P (.ref p) ((p, .lst acc) :: μ')
theorem lcRaw {P : D → Mu → Prop} {vs : List Nat} {G : Mu → Prop} (h : ds.length < sizeLine ∧ ∀ p, ∃ I : Nat → List D → Mu → Prop, I 0 [] μ1 ∧
    (∀ i acc μ', I i acc μ' → G ((p, .lst acc) :: μ')) ∧
    (∀ i d acc μ', ds[i]? = some d → I i acc μ' → acc.length ≤ i → WG K g d (wipeD δ vs) ((p, .lst acc) :: μ') fun δ2 μ2 => WT K tt δ2 μ2 fun b μ3 =>
      (b = true → W K te δ2 μ3 fun y μ4 => ∃ μ5, Weak μ4 ((p, .lst acc) :: μ5) ∧ I (i + 1) (acc ++ [y]) μ5) ∧ (b = false → ∃ μ5, Weak μ3 ((p, .lst acc) :: μ5) ∧ I (i + 1) acc μ5)) ∧
    ∀ acc μ', I ds.length acc μ' → acc.length ≤ ds.length → P (.ref p) ((p, .lst acc) :: μ')) : LcP K δ vs g tt te P ds G μ1 := h
theorem w_lcQ {wi : TI} {vs : List Nat} (hg : GIn g vs) (h : WI K wi δ μ (LcP K δ vs g tt te P)) : W K (tLc wi g tt te vs) δ μ P := w_lc hg h
/-- no test, each item by itself -/
theorem lcM {f r : α → D} {es : List α} {vs : List Nat} {G : Mu → Prop} (hl : es.length < sizeLine) (hG : ∀ p acc, G ((p, .lst acc) :: μ1))
    (hs : ∀ x, x ∈ es → ∀ p acc, WG K g (f x) (wipeD δ vs) ((p, .lst acc) :: μ1) fun δ2 μ2 => W K te δ2 μ2 fun y μ4 => y = r x ∧ Weak μ4 ((p, .lst acc) :: μ1))
    (q : ∀ p, P (.ref p) ((p, .lst (es.map r)) :: μ1)) : LcP K δ vs g tYes te P (es.map f) G μ1 := by
  refine ⟨by rw [List.length_map]; exact hl, fun p => ⟨fun i acc μ' => acc = (es.take i).map r ∧ μ' = μ1, ⟨rfl, rfl⟩, ?_, ?_, ?_⟩⟩
  · rintro i acc μ' ⟨_, rfl⟩; exact hG p acc
  · rintro i d acc μ' hd ⟨rfl, rfl⟩ _
    obtain ⟨x, hx, rfl, _, e2⟩ := map_take_get hd
    intro σ H v ok rv Q k
    refine hs x (List.mem_of_getElem? hx) p _ σ H v ok rv Q fun σ' H' δ2 μ2 s o h => k σ' H' δ2 μ2 s o ?_
    refine wt_yes (split_t (h.imp fun y μ4 ⟨e, w⟩ => ⟨_, w, ?_, rfl⟩))
    rw [e2, e, List.map_append]; rfl
  · rintro acc μ' ⟨rfl, rfl⟩ _
    rw [List.length_map, List.take_length]
    exact q p
/-- a test, each item by itself -/
theorem lcF {f r : α → D} {es : List α} {c : α → Bool} {vs : List Nat} {G : Mu → Prop} (hl : es.length < sizeLine) (hG : ∀ p acc, G ((p, .lst acc) :: μ1))
    (hs : ∀ x, x ∈ es → ∀ p acc, WG K g (f x) (wipeD δ vs) ((p, .lst acc) :: μ1) fun δ2 μ2 => WT K tt δ2 μ2 fun b μ3 => b = c x ∧ Weak μ3 ((p, .lst acc) :: μ1) ∧ (c x = true → W K te δ2 μ3 fun y μ4 => y = r x ∧ Weak μ4 ((p, .lst acc) :: μ1)))
    (q : ∀ p, P (.ref p) ((p, .lst ((es.filter c).map r)) :: μ1)) : LcP K δ vs g tt te P (es.map f) G μ1 := by
  refine ⟨by rw [List.length_map]; exact hl, fun p => ⟨fun i acc μ' => acc = ((es.take i).filter c).map r ∧ μ' = μ1, ⟨rfl, rfl⟩, ?_, ?_, ?_⟩⟩
  · rintro i acc μ' ⟨_, rfl⟩; exact hG p acc
  · rintro i d acc μ' hd ⟨rfl, rfl⟩ _
    obtain ⟨x, hx, rfl, _, e2⟩ := map_take_get hd
    intro σ H v ok rv Q k
    refine hs x (List.mem_of_getElem? hx) p _ σ H v ok rv Q fun σ' H' δ2 μ2 s o h => k σ' H' δ2 μ2 s o (h.imp fun b μ3 ⟨eb, w3, h3⟩ => ?_)
    subst eb
    refine ⟨fun hc => (h3 hc).imp fun y μ4 ⟨e, w⟩ => ⟨_, w, ?_, rfl⟩, fun hc => ⟨_, w3, ?_, rfl⟩⟩
    · rw [e2, e, List.filter_append, List.map_append]
      simp [hc]
    · rw [e2, List.filter_append]
      simp [hc]
  · rintro acc μ' ⟨rfl, rfl⟩ _
    rw [List.length_map, List.take_length]
    exact q p
/-- no test, a relation of what went and what is told -/
theorem lcI {f : α → D} {es : List α} {vs : List Nat} {G : Mu → Prop} (hl : es.length < sizeLine) (hG : ∀ p acc, G ((p, .lst acc) :: μ1)) (I : List α → List D → Prop) (h0 : I [] [])
    (hs : ∀ pre x suf p acc, es = pre ++ x :: suf → I pre acc → WG K g (f x) (wipeD δ vs) ((p, .lst acc) :: μ1) fun δ2 μ2 => W K te δ2 μ2 fun y μ4 => I (pre ++ [x]) (acc ++ [y]) ∧ Weak μ4 ((p, .lst acc) :: μ1))
    (q : ∀ p acc, I es acc → P (.ref p) ((p, .lst acc) :: μ1)) : LcP K δ vs g tYes te P (es.map f) G μ1 := by
  refine ⟨by rw [List.length_map]; exact hl, fun p => ⟨fun i acc μ' => I (es.take i) acc ∧ μ' = μ1, ⟨h0, rfl⟩, ?_, ?_, ?_⟩⟩
  · rintro i acc μ' ⟨_, rfl⟩; exact hG p acc
  · rintro i d acc μ' hd ⟨hI, rfl⟩ _
    obtain ⟨x, hx, rfl, e, e2⟩ := map_take_get hd
    intro σ H v ok rv Q k
    refine hs _ x _ p acc e hI σ H v ok rv Q fun σ' H' δ2 μ2 s o h => k σ' H' δ2 μ2 s o ?_
    refine wt_yes (split_t (h.imp fun y μ4 ⟨e, w⟩ => ⟨_, w, ?_, rfl⟩))
    rw [e2]; exact e
  · rintro acc μ' ⟨hI, rfl⟩ _
    rw [List.length_map, List.take_length] at hI
    exact q p acc hI
theorem rngD_map (lo : Int) (n : Nat) : rngD lo n = (List.range n).map fun i : Nat => D.int (lo + (i : Int)) := rfl
theorem enumD_map {f : α → D} {es : List α} : enumD (es.map f) = es.zipIdx.map fun p => .tup [.int (p.2 : Nat), f p.1] := by
  unfold enumD
  apply List.ext_getElem?
  intro i
  rw [List.getElem?_mapIdx, List.getElem?_map, List.getElem?_map, List.getElem?_zipIdx]
  cases es[i]? <;> simp

/-! ### reading lists by Lk -/
theorem wi_listK {PI : List D → (Mu → Prop) → Mu → Prop} (h : W K ta δ μ fun x μ1 => ∃ (a : Addr) (ds : List D), x = .ref a ∧ Lk ds μ1 a ∧ PI ds (fun μ' => (a, M.lst ds) ∈ μ') μ1) : WI K (iList K ta) δ μ PI :=
  wi_list (h.imp fun x μ1 ⟨a, ds, e, ⟨j, hj⟩, q⟩ => ⟨a, j, ds, e, hj, q⟩)
theorem wi_enumK {PI : List D → (Mu → Prop) → Mu → Prop} (h : WA K al δ μ fun ds μ1 => ∃ (a : Addr) (xs : List D), ds = [.ref a] ∧ Lk xs μ1 a ∧ PI (enumD xs) (fun μ' => (a, M.lst xs) ∈ μ') μ1) : WI K (iEnum K al) δ μ PI :=
  wi_enumL fun σ H ok Q f => h σ H ok Q fun vs H' ds μ' s m r ⟨a, xs, e, ⟨j, hj⟩, q⟩ => f vs H' ds μ' s m r ⟨a, j, xs, e, hj, q⟩
theorem lk_intro {PI : List D → (Mu → Prop) → Mu → Prop} (h : Lk ds μ a) (q : PI ds (fun μ' => (a, M.lst ds) ∈ μ') μ) : ∃ (a' : Addr) (ds' : List D), D.ref a = .ref a' ∧ Lk ds' μ a' ∧ PI ds' (fun μ' => (a', M.lst ds') ∈ μ') μ := ⟨a, ds, rfl, h, q⟩
theorem lk_intro1 {PI : List D → (Mu → Prop) → Mu → Prop} (h : Lk ds μ a) (q : PI ds (fun μ' => (a, M.lst ds) ∈ μ') μ) : ∃ (a' : Addr) (ds' : List D), [D.ref a] = [.ref a'] ∧ Lk ds' μ a' ∧ PI ds' (fun μ' => (a', M.lst ds') ∈ μ') μ := ⟨a, ds, rfl, h, q⟩
theorem wc_lenK (hm : Lk ds μ a) (q : P (.int (ds.length : Nat)) μ) : WC K (rLenG K) [.ref a] μ P := hm.elim fun _ hj => wc_lenL hj q
theorem wc_lenKm {f : α → D} {es : List α} (hm : Lk (es.map f) μ a) (q : P (.int (es.length : Nat)) μ) : WC K (rLenG K) [.ref a] μ P := hm.elim fun _ hj => wc_lenLm hj q
theorem wc_tupK (hm : Lk ds μ a) (q : P (.tup ds) μ) : WC K (fun xs H Q => ∃ p ys, xs = [V.ref p] ∧ ((SqL K H p ys ∧ ∀ l, H l = none → Q (.ref l) (upd H l (.tup ys))) ∨ (SqT K H p ys ∧ Q (.ref p) H))) [.ref a] μ P := hm.elim fun _ hj => wc_tupL hj q
theorem wc_listK (hm : Lk ds μ a) (q : ∀ p, P (.ref p) ((p, .lst ds) :: μ)) : WC K (fun xs H Q => ∃ p ys, xs = [V.ref p] ∧ (SqL K H p ys ∨ SqT K H p ys) ∧ ∀ l, H l = none → Q (.ref l) (upd H l (.lst ys))) [.ref a] μ P := hm.elim fun _ hj => wc_listL hj q
theorem wc_sumK {es : List α} {h : α → Int} (hm : Lk (es.map fun x => D.int (h x)) μ a) (q : P (.int (es.map h).sum) μ) : WC K (rSumG K) [.ref a] μ P := hm.elim fun _ hj => wc_sum (ns := es.map h) (by rw [List.map_map]; exact hj) q
theorem wc_sumKi {es : List Int} (hm : Lk (es.map D.int) μ a) (q : P (.int es.sum) μ) : WC K (rSumG K) [.ref a] μ P := hm.elim fun _ hj => wc_sum hj q
theorem wc_allK {es : List α} {h : α → Bool} (hm : Lk (es.map fun x => D.bl (h x)) μ a) (q : P (.bl (es.all h)) μ) : WC K (rAll K) [.ref a] μ P := hm.elim fun _ hj => wc_all (ns := es.map h) (by rw [List.map_map]; exact hj) (by rw [List.all_map]; exact q)
theorem wc_anyK {es : List α} {h : α → Bool} (hm : Lk (es.map fun x => D.bl (h x)) μ a) (q : P (.bl (es.any h)) μ) : WC K (rAny K) [.ref a] μ P := hm.elim fun _ hj => wc_any (ns := es.map h) (by rw [List.map_map]; exact hj) (by rw [List.any_map]; exact q)
theorem wc_maxKi {es : List Int} (hm : Lk (es.map D.int) μ a) (hn : es ≠ []) (q : P (.int (maxL es)) μ) : WC K (rMaxG K) [.ref a] μ P := hm.elim fun _ hj => wc_maxL hj (List.length_pos_iff.mpr hn) fun m h1 h2 => by rw [maxL_uniq h1 h2]; exact q
theorem wc_minKi {es : List Int} (hm : Lk (es.map D.int) μ a) (hn : es ≠ []) (q : P (.int (minL es)) μ) : WC K (rMinG K) [.ref a] μ P := hm.elim fun _ hj => wc_minL hj (List.length_pos_iff.mpr hn) fun m h1 h2 => by rw [minL_uniq h1 h2]; exact q
theorem wc_maxK {es : List α} {h : α → Int} (hm : Lk (es.map fun x => D.int (h x)) μ a) (hn : es ≠ []) (q : P (.int (maxL (es.map h))) μ) : WC K (rMaxG K) [.ref a] μ P :=
  wc_maxKi (es := es.map h) (by rw [List.map_map]; exact hm) (by simpa using hn) q
theorem wc_minK {es : List α} {h : α → Int} (hm : Lk (es.map fun x => D.int (h x)) μ a) (hn : es ≠ []) (q : P (.int (minL (es.map h))) μ) : WC K (rMinG K) [.ref a] μ P :=
  wc_minKi (es := es.map h) (by rw [List.map_map]; exact hm) (by simpa using hn) q
theorem wrev_k {f : α → D} {es : List α} (hm : Lk (es.map f) μ a) (q : ∀ p, P (.ref p) ((p, .lst (es.reverse.map f)) :: μ)) : WRev (.ref a) μ P := hm.elim fun _ hj => wrev_lm hj q
theorem wsl_K {lo hi : Option Int} (hm : Lk ds μ a) (q : ∀ p, P (.ref p) ((p, .lst (cutD ds lo hi)) :: μ)) : WSl K (rSlG K) (.ref a) lo hi μ P := hm.elim fun _ hj => wsl_lst hj q
theorem w2_addK (ha : Lk xs μ a) (hb : Lk ds μ b) (hz : xs.length + ds.length ≤ sizeLine) (q : ∀ p, P (.ref p) ((p, .lst (xs ++ ds)) :: μ)) : W2 K (rAddG K) (.ref a) (.ref b) μ P := ha.elim fun _ h1 => hb.elim fun _ h2 => w2_addL h1 h2 hz q
theorem w2_ixK {i : Int} (hm : Lk ds μ a) (hc : atI ds i = some d) (q : P d μ) : W2 K (rIx K) (.ref a) (.int i) μ P := hm.elim fun _ hj => w2_ixL hj hc q
/-- an item of a mapped list -/
theorem w2_ixKm {f : α → D} {es : List α} {e : α} {k : Nat} (hm : Lk (es.map f) μ a) (hk : es[k]? = some e) (q : P (f e) μ) : W2 K (rIx K) (.ref a) (.int (k : Nat)) μ P := w2_ixK hm (d := f e) (by
  have hl : k < es.length := (List.getElem?_eq_some_iff.mp hk).1
  unfold atI ixN
  rw [if_pos (by omega), if_pos (by rw [List.length_map]; omega)]
  show (es.map f)[Int.toNat (k : Int)]? = _
  rw [Int.toNat_natCast, List.getElem?_map, hk]; rfl) q
theorem w2_ixTm {f : α → D} {es : List α} {e : α} {k : Nat} (hk : es[k]? = some e) (q : P (f e) μ) : W2 K (rIx K) (.tup (es.map f)) (.int (k : Nat)) μ P := w2_ixT (d := f e) (by
  have hl : k < es.length := (List.getElem?_eq_some_iff.mp hk).1
  unfold atI ixN
  rw [if_pos (by omega), if_pos (by rw [List.length_map]; omega)]
  show (es.map f)[Int.toNat (k : Int)]? = _
  rw [Int.toNat_natCast, List.getElem?_map, hk]; rfl) q
theorem cut_from {f : α → D} {l : List α} {i : Int} (h : 0 ≤ i) : cutD (l.map f) (some i) none = (l.drop i.toNat).map f := by
  obtain ⟨k, rfl⟩ := Int.eq_ofNat_of_zero_le h
  rw [Int.toNat_natCast]
  unfold cutD
  rw [HT.sIx_nat, HT.sIx_none, List.length_map, List.map_drop, List.take_of_length_le]
  · rcases Nat.le_total k l.length with h | h
    · rw [Nat.min_eq_left h]
    · rw [Nat.min_eq_right h, List.drop_of_length_le (by rw [List.length_map]; exact Nat.le_refl _), List.drop_of_length_le (by rw [List.length_map]; exact h)]
  · rw [List.length_drop, List.length_map]
    exact Nat.le_refl _
theorem cut_to {f : α → D} {l : List α} {i : Int} (h : 0 ≤ i) : cutD (l.map f) none (some i) = (l.take i.toNat).map f := by
  obtain ⟨k, rfl⟩ := Int.eq_ofNat_of_zero_le h
  rw [Int.toNat_natCast]
  unfold cutD
  rw [HT.sIx_nat, HT.sIx_none, List.length_map, List.map_take, List.drop_zero, Nat.sub_zero]
  rcases Nat.le_total k l.length with h | h
  · rw [Nat.min_eq_left h]
  · rw [Nat.min_eq_right h, List.take_of_length_le (by rw [List.length_map]; exact Nat.le_refl _), List.take_of_length_le (by rw [List.length_map]; exact h)]
theorem wsl_Kfrom {f : α → D} {es : List α} {i : Int} (h : 0 ≤ i) (hm : Lk (es.map f) μ a) (q : ∀ p, P (.ref p) ((p, .lst ((es.drop i.toNat).map f)) :: μ)) : WSl K (rSlG K) (.ref a) (some i) none μ P := wsl_K hm (by rw [cut_from h]; exact q)
theorem wsl_KfromN {f : α → D} {es : List α} {k : Nat} (hm : Lk (es.map f) μ a) (q : ∀ p, P (.ref p) ((p, .lst ((es.drop k).map f)) :: μ)) : WSl K (rSlG K) (.ref a) (some (k : Nat)) none μ P := wsl_K hm (by rw [cut_from (by omega), Int.toNat_natCast]; exact q)
theorem wsl_KtoN {f : α → D} {es : List α} {k : Nat} (hm : Lk (es.map f) μ a) (q : ∀ p, P (.ref p) ((p, .lst ((es.take k).map f)) :: μ)) : WSl K (rSlG K) (.ref a) none (some (k : Nat)) μ P := wsl_K hm (by rw [cut_to (by omega), Int.toNat_natCast]; exact q)
theorem wsl_TfromN {f : α → D} {es : List α} {k : Nat} (q : P (.tup ((es.drop k).map f)) μ) : WSl K (rSlG K) (.tup (es.map f)) (some (k : Nat)) none μ P := wsl_tup (by rw [cut_from (by omega), Int.toNat_natCast]; exact q)
theorem wsl_TtoN {f : α → D} {es : List α} {k : Nat} (q : P (.tup ((es.take k).map f)) μ) : WSl K (rSlG K) (.tup (es.map f)) none (some (k : Nat)) μ P := wsl_tup (by rw [cut_to (by omega), Int.toNat_natCast]; exact q)
theorem wsl_Kto {f : α → D} {es : List α} {i : Int} (h : 0 ≤ i) (hm : Lk (es.map f) μ a) (q : ∀ p, P (.ref p) ((p, .lst ((es.take i.toNat).map f)) :: μ)) : WSl K (rSlG K) (.ref a) none (some i) μ P := wsl_K hm (by rw [cut_to h]; exact q)
theorem wsl_K1 {f : α → D} {es : List α} (hm : Lk (es.map f) μ a) (q : ∀ p, P (.ref p) ((p, .lst ((es.drop 1).map f)) :: μ)) : WSl K (rSlG K) (.ref a) (some 1) none μ P := wsl_K hm (by rw [cut_from (by decide)]; exact q)
theorem wsl_Tfrom {f : α → D} {es : List α} {i : Int} (h : 0 ≤ i) (q : P (.tup ((es.drop i.toNat).map f)) μ) : WSl K (rSlG K) (.tup (es.map f)) (some i) none μ P := wsl_tup (by rw [cut_from h]; exact q)
theorem wsl_Tto {f : α → D} {es : List α} {i : Int} (h : 0 ≤ i) (q : P (.tup ((es.take i.toNat).map f)) μ) : WSl K (rSlG K) (.tup (es.map f)) none (some i) μ P := wsl_tup (by rw [cut_to h]; exact q)
theorem wsl_T1 {f : α → D} {es : List α} (q : P (.tup ((es.drop 1).map f)) μ) : WSl K (rSlG K) (.tup (es.map f)) (some 1) none μ P := wsl_tup (by rw [cut_from (by decide)]; exact q)
theorem w2_addKm {f : α → D} {us ws : List α} (ha : Lk (us.map f) μ a) (hb : Lk (ws.map f) μ b) (hz : us.length + ws.length ≤ sizeLine) (q : ∀ p, P (.ref p) ((p, .lst ((us ++ ws).map f)) :: μ)) : W2 K (rAddG K) (.ref a) (.ref b) μ P :=
  w2_addK ha hb (by rw [List.length_map, List.length_map]; exact hz) (by rw [← List.map_append]; exact q)
/-- lists, equal -/
theorem w2_eqKs (ha : Lk ds μ a) (hb : Lk ds μ b) (hx : (D.tup ds).sh = true) (q : P (.bl true) μ) : W2 K (rEqD K) (.ref a) (.ref b) μ P := ha.elim fun _ h1 => hb.elim fun _ h2 => w2_eqL h1 h2 hx hx (by
  rw [show eqBL ds ds = true from eqB_self hx]; exact q)
theorem w2_neKs (ha : Lk ds μ a) (hb : Lk ds μ b) (hx : (D.tup ds).sh = true) (q : P (.bl false) μ) : W2 K (rNeD K) (.ref a) (.ref b) μ P := ha.elim fun _ h1 => hb.elim fun _ h2 => w2_neL h1 h2 hx hx (by
  rw [show eqBL ds ds = true from eqB_self hx]; exact q)
theorem w2_eqK (ha : Lk xs μ a) (hb : Lk ds μ b) (hx : (D.tup xs).sh = true) (hy : (D.tup ds).sh = true) (q : P (.bl (eqBL xs ds)) μ) : W2 K (rEqD K) (.ref a) (.ref b) μ P := ha.elim fun _ h1 => hb.elim fun _ h2 => w2_eqL h1 h2 hx hy q
theorem w2_neK (ha : Lk xs μ a) (hb : Lk ds μ b) (hx : (D.tup xs).sh = true) (hy : (D.tup ds).sh = true) (q : P (.bl (!eqBL xs ds)) μ) : W2 K (rNeD K) (.ref a) (.ref b) μ P := ha.elim fun _ h1 => hb.elim fun _ h2 => w2_neL h1 h2 hx hy q
theorem at0 {m : M} : ((a, m) :: μ)[0]? = some (a, m) := rfl
theorem atS {j : Nat} {m : M} {p : Addr × M} (h : μ[j]? = some (a, m)) : (p :: μ)[j + 1]? = some (a, m) := by rw [List.getElem?_cons_succ]; exact h
theorem ty_lstK (hm : Lk ds μ a) : ∀ H v, OkM K H μ → Den K H v (.ref a) → tyV K "list" v H := hm.elim fun _ h => ty_lst h
theorem ty_introK {p : Prop} (hm : Lk ds μ a) (h : p) : (∀ H v, OkM K H μ → Den K H v (.ref a) → tyV K "list" v H) ∧ p := ⟨ty_lstK hm, h⟩
theorem wm_appendK {j : Nat} (hm : μ[j]? = some (a, .lst xs)) (hz : xs.length < sizeLine) (h : μ.set j (a, .lst (xs ++ [d])) = μ') (q : P .non μ') : WM K rAppend (.ref a) [d] μ P := wm_append hm hz (by rw [h]; exact q)
theorem wm_popK {j : Nat} (hm : μ[j]? = some (a, .lst xs)) (hz : xs[xs.length - 1]? = some d) (h : μ.set j (a, .lst xs.dropLast) = μ') (q : P d μ') : WM K rPop (.ref a) [] μ P := wm_pop hm hz (by rw [h]; exact q)
theorem wg_setLK {to ti : TE} {PG : Dl → Mu → Prop} (h : W K to δ μ fun o μ1 => W K ti δ μ1 fun i μ2 => ∃ (a : Addr) (j : Nat) (xs : List D) (n : Int) (k : Nat) (μ3 : Mu), o = .ref a ∧ i = .int n ∧ μ2[j]? = some (a, M.lst xs) ∧ ixN xs.length n = some k ∧ μ2.set j (a, .lst (xs.set k d)) = μ3 ∧ PG δ μ3) : WG K (gSub to ti rSetL) d δ μ PG :=
  wg_setL (h.imp fun o μ1 h => h.imp fun i μ2 ⟨a, j, xs, n, k, μ3, h1, h2, h3, h4, h5, h6⟩ => ⟨a, j, xs, n, k, h1, h2, h3, h4, by rw [h5]; exact h6⟩)
theorem map_snoc (f : α → D) (x : α) {l : List α} : l.map f ++ [f x] = (l ++ [x]).map f := by rw [List.map_append]; rfl
/-- a test that is known -/
theorem split_kt {b : Bool} {p q : Prop} (h : b = true) (h1 : p) : (b = true → p) ∧ (b = false → q) := by subst h; exact split_t h1
theorem split_kf {b : Bool} {p q : Prop} (h : b = false) (h1 : q) : (b = true → p) ∧ (b = false → q) := by subst h; exact split_f h1
theorem split_knt {b : Bool} {p q : Prop} (h : b = true) (h1 : q) : ((!b) = true → p) ∧ ((!b) = false → q) := by subst h; exact split_nt h1
theorem split_knf {b : Bool} {p q : Prop} (h : b = false) (h1 : p) : ((!b) = true → p) ∧ ((!b) = false → q) := by subst h; exact split_nf h1
end
end Wk

set_option Elab.async false
set_option linter.all false
set_option maxRecDepth 100000
namespace Wk
open PySem PySem.Spec L2 WkE
abbrev jD (j : Nat) : D := .int (j : Int)
section
variable {α : Type} {K : PySem.W.Frag} {δ : Dl} {μ μ' μ1 : Mu} {P : D → Mu → Prop} {te : TE} {al : TA} {x y d : D} {xs ds : List D} {a b : Addr}
theorem inV_ints {i : Int} : ∀ ns : List Int, inV (V.int i) (ns.map V.int) = decide (i ∈ ns)
  | [] => rfl
  | n :: ns => by
    have ih := inV_ints (i := i) ns
    unfold inV at ih ⊢
    rw [List.map_cons, List.any_cons, ih]
    show ((n == i) || decide (i ∈ ns)) = _
    by_cases h : n = i
    · subst h; simp
    · have h2 : ¬ i = n := fun e => h e.symm
      have h3 : (n == i) = false := by simpa using h
      rw [h3]
      simp [List.mem_cons, h2]
theorem flat_ints (ns : List Int) : (ns.map V.int).all flatV = true := by
  rw [List.all_map]; exact List.all_eq_true.mpr fun _ _ => rfl
theorem w2_inT {ns : List Int} {i : Int} (q : P (.bl (decide (i ∈ ns))) μ) : W2 K (rIn K false) (.int i) (.tup (ns.map D.int)) μ P := fun H v u m r1 r2 Q k => by
  cases r1
  cases r2 with
  | tup hs_ hl =>
    have hs := TpA.sqt hs_
    have e := hl.ints
    subst e
    exact ⟨_, _, rfl, .inr hs, rfl, flat_ints ns, k _ H _ μ .refl m (.bl _) (by rw [inV_ints]; exact q)⟩
theorem w2_ninT {ns : List Int} {i : Int} (q : P (.bl (!decide (i ∈ ns))) μ) : W2 K (rIn K true) (.int i) (.tup (ns.map D.int)) μ P := fun H v u m r1 r2 Q k => by
  cases r1
  cases r2 with
  | tup hs_ hl =>
    have hs := TpA.sqt hs_
    have e := hl.ints
    subst e
    exact ⟨_, _, rfl, .inr hs, rfl, flat_ints ns, k _ H _ μ .refl m (.bl _) (by rw [inV_ints]; exact q)⟩
theorem w2_inK {ns : List Int} {i : Int} (hm : Lk (ns.map D.int) μ a) (q : P (.bl (decide (i ∈ ns))) μ) : W2 K (rIn K false) (.int i) (.ref a) μ P := fun H v u m r1 r2 Q k => by
  cases r1
  cases r2
  obtain ⟨j, hj⟩ := hm
  obtain ⟨vs, hv, hl⟩ := m.at hj
  have e := hl.ints
  subst e
  exact ⟨_, _, rfl, .inl (.inl (.inl hv)), rfl, flat_ints ns, k _ H _ μ .refl m (.bl _) (by rw [inV_ints]; exact q)⟩
theorem w2_ninK {ns : List Int} {i : Int} (hm : Lk (ns.map D.int) μ a) (q : P (.bl (!decide (i ∈ ns))) μ) : W2 K (rIn K true) (.int i) (.ref a) μ P := fun H v u m r1 r2 Q k => by
  cases r1
  cases r2
  obtain ⟨j, hj⟩ := hm
  obtain ⟨vs, hv, hl⟩ := m.at hj
  have e := hl.ints
  subst e
  exact ⟨_, _, rfl, .inl (.inl (.inl hv)), rfl, flat_ints ns, k _ H _ μ .refl m (.bl _) (by rw [inV_ints]; exact q)⟩
theorem jD_map (js : List Nat) : js.map jD = (js.map fun j : Nat => (j : Int)).map D.int := by rw [List.map_map]; rfl
theorem jD_in {k : Nat} {js : List Nat} : decide ((k : Int) ∈ js.map fun j : Nat => (j : Int)) = decide (k ∈ js) := decide_eq_decide.mpr ⟨fun h => by
  obtain ⟨j, hj, e⟩ := List.mem_map.mp h
  obtain rfl : j = k := by omega
  exact hj, fun h => List.mem_map.mpr ⟨k, h, rfl⟩⟩
theorem w2_inTn {js : List Nat} {k : Nat} (q : P (.bl (decide (k ∈ js))) μ) : W2 K (rIn K false) (.int (k : Nat)) (.tup (js.map jD)) μ P := by
  rw [jD_map]; exact w2_inT (by rw [jD_in]; exact q)
theorem w2_ninTn {js : List Nat} {k : Nat} (q : P (.bl (!decide (k ∈ js))) μ) : W2 K (rIn K true) (.int (k : Nat)) (.tup (js.map jD)) μ P := by
  rw [jD_map]; exact w2_ninT (by rw [jD_in]; exact q)
theorem w2_inKn {js : List Nat} {k : Nat} (hm : Lk (js.map jD) μ a) (q : P (.bl (decide (k ∈ js))) μ) : W2 K (rIn K false) (.int (k : Nat)) (.ref a) μ P :=
  w2_inK (by rw [jD_map] at hm; exact hm) (by rw [jD_in]; exact q)
theorem w2_ninKn {js : List Nat} {k : Nat} (hm : Lk (js.map jD) μ a) (q : P (.bl (!decide (k ∈ js))) μ) : W2 K (rIn K true) (.int (k : Nat)) (.ref a) μ P :=
  w2_ninK (by rw [jD_map] at hm; exact hm) (by rw [jD_in]; exact q)
theorem rng0 (n : Nat) : rngD 0 n = (List.range n).map jD := by
  unfold rngD
  exact List.map_congr_left fun i _ => by rw [Int.zero_add]
theorem forR0 {ts : TS} {g : TG} {N : Dl → Mu → Prop} {R : D → Mu → Prop} {n : Nat} {G : Mu → Prop} (I : Nat → Dl → Mu → Prop) (h0 : ∃ δ0 μ0, LeD δ0 δ ∧ Weak μ1 μ0 ∧ I 0 δ0 μ0) (hG : ∀ i δ' μ', I i δ' μ' → G μ')
    (hs : ∀ i δ' μ', i < n → I i δ' μ' → WG K g (jD i) δ' μ' fun δ2 μ2 => S4 K ts δ2 μ2 (fun δ3 μ3 => ∃ δ4 μ4, LeD δ4 δ3 ∧ Weak μ3 μ4 ∧ I (i + 1) δ4 μ4) R N (fun δ3 μ3 => ∃ δ4 μ4, LeD δ4 δ3 ∧ Weak μ3 μ4 ∧ I (i + 1) δ4 μ4))
    (hd : ∀ δ' μ', I n δ' μ' → N δ' μ') : ForP K δ g ts N R (rngD 0 n) G μ1 := forR I h0 hG (fun i δ' μ' hi h => by rw [Int.zero_add]; exact hs i δ' μ' hi h) hd
theorem forCr0 {ts : TS} {g : TG} {N : Dl → Mu → Prop} {R : D → Mu → Prop} {n : Nat} (vs : List Nat) {δ0 : Dl} {G : Mu → Prop} (hw : wipeD δ vs = δ0) (hG : G μ1)
    (hs : ∀ i : Nat, i < n → WG K g (jD i) δ0 μ1 fun δ2 μ2 => S4 K ts δ2 μ2 (fun δ3 μ3 => LeD δ0 δ3 ∧ Weak μ3 μ1) R N (fun δ3 μ3 => LeD δ0 δ3 ∧ Weak μ3 μ1))
    (hd : N δ0 μ1) : ForP K δ g ts N R (rngD 0 n) G μ1 := forCr vs hw hG (fun i hi => by rw [Int.zero_add]; exact hs i hi) hd
theorem lc0 {vs : List Nat} {g : TG} {tt : TT} {n : Nat} {G : Mu → Prop} (h : LcP K δ vs g tt te P ((List.range n).map jD) G μ1) : LcP K δ vs g tt te P (rngD 0 n) G μ1 := by rw [rng0]; exact h
theorem lcE {f : α → D} {es : List α} {vs : List Nat} {g : TG} {tt : TT} {G : Mu → Prop} (h : LcP K δ vs g tt te P (es.zipIdx.map fun p => .tup [.int (p.2 : Nat), f p.1]) G μ1) : LcP K δ vs g tt te P (enumD (es.map f)) G μ1 := by rw [enumD_map]; exact h
/-! ### sorted -/
theorem k_sortedI {X : Cx} {K : PySem.W.Frag} (h : X.K = K) : CallR X (.builtin "sorted") (rSortedI K) := h ▸ cr_sortedI
theorem wc_sortedK {ns : List Int} (hm : Lk (ns.map D.int) μ a) (q : ∀ (p : Addr) (ns' : List Int), ns'.Perm ns → ns'.Pairwise (· ≤ ·) → P (.ref p) ((p, .lst (ns'.map D.int)) :: μ)) : WC K (rSortedI K) [.ref a] μ P := fun H vs m r Q k => by
  cases r with
  | cons r1 r2 =>
    cases r2
    cases r1
    obtain ⟨j, hj⟩ := hm
    obtain ⟨vs, hv, hl⟩ := m.at hj
    have e := hl.ints
    subst e
    exact ⟨_, ns, rfl, .inl (.inl hv), fun ns' p h1 h2 hp => k _ _ _ _ (step_join hp rfl) (m.join (m := .lst (ns'.map D.int)) hp rfl ⟨_, upd_same, (DenL.of_ints ns').step m (step_new hp)⟩) (.ref p) (q p ns' h1 h2)⟩
theorem wc_sortedKn {js : List Nat} (hm : Lk (js.map jD) μ a) (q : ∀ (p : Addr) (js' : List Nat), js'.Perm js → js'.Pairwise (· ≤ ·) → P (.ref p) ((p, .lst (js'.map jD)) :: μ)) : WC K (rSortedI K) [.ref a] μ P :=
  wc_sortedK (ns := js.map fun j : Nat => (j : Int)) (by rw [← jD_map]; exact hm) fun p ns' h1 h2 => by
    have hz : ∀ n ∈ ns', 0 ≤ n := fun n hn => by
      obtain ⟨j, _, rfl⟩ := List.mem_map.mp (h1.mem_iff.mp hn)
      omega
    have e : ns' = (ns'.map Int.toNat).map fun j : Nat => (j : Int) := by
      rw [List.map_map]
      conv => lhs; rw [← List.map_id ns']
      exact List.map_congr_left fun n hn => by
        show n = ((n.toNat : Nat) : Int)
        have := hz n hn; omega
    rw [e, ← jD_map]
    refine q p _ ?_ ?_
    · have := h1.map Int.toNat
      rw [List.map_map] at this
      have e2 : (Int.toNat ∘ fun j : Nat => (j : Int)) = id := funext fun j => Int.toNat_natCast j
      rw [e2, List.map_id] at this
      exact this
    · rw [List.pairwise_map]
      exact h2.imp fun {a b} h => by omega
/-! ### sorted(set(t)) of a tuple of ints -/
def rSetI (K : PySem.W.Frag) (w : World) : List V → Hp → VK → Prop := fun vs H Q => ∃ (p : Addr) (ns : List Int), vs = [V.ref p] ∧ SqT K H p (ns.map V.int) ∧ ns.length ≤ 1000 ∧ ∀ (q : Addr) (c : Nat), (∃ ks : List Int, ks.Nodup ∧ (∀ k, k ∈ ks ↔ k ∈ ns) ∧ ks.length = c) → H q = none → Q (.ref q) (upd H q (SetO w q (fun j => decide (j ∈ ns)) c))
theorem k_sset {X : Cx} {w : World} (hw : X.w = w) (hc : X.calm = true) : CallR X (.builtin "sorted") (rSortedSet w) := hw ▸ cr_sortedSet hc
theorem cr_setI {X : Cx} {K : PySem.W.Frag} {w : World} (hK : X.K = K) (hw : X.w = w) (hc : X.calm = true) : CallR X (.type "set") (rSetI K w) := by
  subst hK hw
  intro pins s σ H xs us Q I r h
  obtain ⟨p0, ns, rfl, hq, hl, q⟩ := h
  rw [Vals.ref1 r]
  obtain ⟨its, rv, pt, hz⟩ := I.tuple hq
  refine call_set_tupI ns (I.ok.hd hc) (show s.heap.IsTuple p0 its.toArray from pt) (ints_of_vals rv) (by unfold scanBound; omega) fun h' tk c R hcn k => ?_
  refine ⟨.ref _, upd H s.heap.objs.size (SetO X.w s.heap.objs.size (fun j => decide (j ∈ ns)) c), ?x1, rfl, q _ c ?_ (I.hok.fresh (Nat.le_refl _))⟩
  · exact I.laid (t' := tk) k (Nat.le_refl _) (setO_new R)
  · obtain ⟨o, es, ep, t, ho, hex, hdt, g, nd, hm2, hb, hf, hn, hr, hl2⟩ := id R
    exact ⟨_, nd, fun k => by rw [← hm2 k, decide_eq_true_iff], by rw [List.length_map, Array.length_toList]; exact hn⟩
theorem w_sortSet {w : World} (h : W K te δ μ fun x μ1 => ∃ ns : List Int, x = .tup (ns.map D.int) ∧ ns.length ≤ 1000 ∧ (∃ B : List Int, B.length < 64 ∧ ∀ k ∈ ns, k ∈ B) ∧ ∀ (p : Addr) (ns' : List Int), ns'.Pairwise (· < ·) → (∀ k, k ∈ ns' ↔ k ∈ ns) → P (.ref p) ((p, .lst (ns'.map D.int)) :: μ1)) :
    W K (tCB (rSortedSet w) (tCons (tCB (rSetI K w) (tCons te tNil)) tNil)) δ μ P := by
  intro σ H ok Q f
  refine h σ H ok _ fun v H1 x μ1 s1 m1 r1 ⟨ns, e, hz, ⟨B, hB1, hB2⟩, q⟩ => ?_
  subst e
  cases r1 with
  | tup hs_ hl =>
    have hs := TpA.sqt hs_
    have e := hl.ints
    subst e
    refine ⟨_, ns, rfl, hs, hz, fun p c ⟨ks, hc1, hc2, hc3⟩ hp => ?_⟩
    refine ⟨p, _, c, rfl, upd_same, by
      have := hc1.length_le_of_subset fun k hk => hB2 k ((hc2 k).mp hk)
      omega, fun ns' p2 h1 h2 _ hp2 => ?_⟩
    have hne : p ≠ p2 := fun e => by rw [e, upd_same] at hp2; cases hp2
    have s2 : Step μ1 H1 μ1 (upd H1 p (SetO w p (fun j => decide (j ∈ ns)) c)) := step_new hp
    have m2 := m1.new (o := SetO w p (fun j => decide (j ∈ ns)) c) hp
    have s3 : Step μ1 (upd H1 p (SetO w p (fun j => decide (j ∈ ns)) c)) ((p2, .lst (ns'.map D.int)) :: μ1) (upd (upd H1 p (SetO w p (fun j => decide (j ∈ ns)) c)) p2 (.lst (ns'.map V.int))) := step_join hp2 rfl
    exact f (.ref p2) _ (.ref p2) _ (s1.trans (s2.trans s3)) (m2.join (m := .lst (ns'.map D.int)) hp2 rfl ⟨_, upd_same, (DenL.of_ints ns').step m2 (step_new hp2)⟩) (.ref p2) (q p2 ns' h1 fun k => by rw [h2]; exact decide_eq_true_iff)
theorem w_sortSetN {w : World} (h : W K te δ μ fun x μ1 => ∃ js : List Nat, x = .tup (js.map jD) ∧ js.length ≤ 1000 ∧ (∃ m : Nat, m < 64 ∧ ∀ k ∈ js, k < m) ∧ ∀ (p : Addr) (js' : List Nat), js'.Pairwise (· < ·) → (∀ k, k ∈ js' ↔ k ∈ js) → P (.ref p) ((p, .lst (js'.map jD)) :: μ1)) :
    W K (tCB (rSortedSet w) (tCons (tCB (rSetI K w) (tCons te tNil)) tNil)) δ μ P := by
  refine w_sortSet (h.imp fun x μ1 ⟨js, e, hl, ⟨m, hm1, hm2⟩, q⟩ => ⟨js.map fun j : Nat => (j : Int), by rw [e, jD_map], by rw [List.length_map]; exact hl, ⟨(List.range m).map fun j : Nat => (j : Int), by rw [List.length_map, List.length_range]; exact hm1, fun k hk => by
    obtain ⟨j, hj, rfl⟩ := List.mem_map.mp hk
    exact List.mem_map.mpr ⟨j, List.mem_range.mpr (hm2 j hj), rfl⟩⟩, fun p ns' h1 h2 => ?_⟩)
  have hz : ∀ n ∈ ns', 0 ≤ n := fun n hn => by
    obtain ⟨j, _, rfl⟩ := List.mem_map.mp ((h2 n).mp hn)
    omega
  have e : ns' = (ns'.map Int.toNat).map fun j : Nat => (j : Int) := by
    rw [List.map_map]
    conv => lhs; rw [← List.map_id ns']
    exact List.map_congr_left fun n hn => by
      show n = ((n.toNat : Nat) : Int)
      have := hz n hn; omega
  rw [e, ← jD_map]
  refine q p _ ?_ fun k => ?_
  · rw [List.pairwise_map]
    exact List.Pairwise.imp_of_mem (fun {a b} ha hb h => by have := hz a ha; have := hz b hb; omega) h1
  · rw [List.mem_map]
    constructor
    · rintro ⟨n, hn, rfl⟩
      obtain ⟨j, hj, rfl⟩ := List.mem_map.mp ((h2 n).mp hn)
      simpa using hj
    · intro hk
      exact ⟨(k : Int), (h2 _).mpr (List.mem_map.mpr ⟨k, hk, rfl⟩), by simp⟩
theorem w2_addTE {r : List D} (hn : xs ≠ []) (hz : xs.length + ds.length ≤ sizeLine) (h : xs ++ ds = r) (q : P (.tup r) μ) : W2 K (rAddG K) (.tup xs) (.tup ds) μ P := w2_addT hn hz (by rw [h]; exact q)
theorem w2_addTm {f : α → D} {us ws : List α} (hn : us ≠ []) (hz : us.length + ws.length ≤ sizeLine) (q : P (.tup ((us ++ ws).map f)) μ) : W2 K (rAddG K) (.tup (us.map f)) (.tup (ws.map f)) μ P := w2_addT (by simpa using hn) (by rw [List.length_map, List.length_map]; exact hz) (by rw [← List.map_append]; exact q)
theorem wc_minT2 {i j : Int} (q : P (.int (min i j)) μ) : WC K (rMinG K) [.tup [.int i, .int j]] μ P := wc_minT (ns := [i, j]) (by simp) q
theorem wc_maxT2 {i j : Int} (q : P (.int (max i j)) μ) : WC K (rMaxG K) [.tup [.int i, .int j]] μ P := wc_maxT (ns := [i, j]) (by simp) q
end
end Wk
namespace Wk
open PySem PySem.Spec L2 WkE
section
variable {α : Type} {K : PySem.W.Frag} {δ : Dl} {μ μ' μ1 : Mu} {P : D → Mu → Prop} {x y d : D} {xs ds : List D} {a b : Addr}
/-! ### pop at a place, insert ahead -/
theorem eraseIdx_mapW {f : α → D} : ∀ (es : List α) (k : Nat), (es.map f).eraseIdx k = (es.eraseIdx k).map f
  | [], _ => rfl
  | _ :: _, 0 => rfl
  | e :: es, k + 1 => by rw [List.map_cons, List.eraseIdx_cons_succ, List.eraseIdx_cons_succ, List.map_cons, eraseIdx_mapW es k]
theorem perm_eraseIdx {e : α} : ∀ {es : List α} {k : Nat}, es[k]? = some e → es.Perm (e :: es.eraseIdx k)
  | [], _, h => by simp at h
  | x :: es, 0, h => by simp at h; subst h; exact .refl _
  | x :: es, k + 1, h => by
    rw [List.eraseIdx_cons_succ]
    exact ((perm_eraseIdx (es := es) (k := k) (by simpa using h)).cons x).trans (.swap _ _ _)
theorem wm_popAtM {f : α → D} {es : List α} {v : Int} {j : Nat} (hm : μ[j]? = some (a, .lst (es.map f))) (h0 : 0 ≤ v) (h1 : v < es.length) (hz : es.length < 100000) (q : ∀ (k : Nat) (e : α), es[k]? = some e → es.Perm (e :: es.eraseIdx k) → P (f e) (μ.set j (a, .lst ((es.eraseIdx k).map f)))) : WM K rPopAt (.ref a) [.int v] μ P := by
  obtain ⟨k, rfl⟩ := Int.eq_ofNat_of_zero_le h0
  have hk : k < es.length := by omega
  refine wm_popAt (d := f es[k]) hm (by have : es.length < 2 ^ 62 := by omega
                                        omega) (by rw [List.getElem?_map, List.getElem?_eq_getElem hk]; rfl) ?_
  rw [eraseIdx_mapW]
  exact q k es[k] (List.getElem?_eq_getElem hk) (perm_eraseIdx (List.getElem?_eq_getElem hk))
theorem wm_popAtN {f : α → D} {es : List α} {v : Int} {j : Nat} (hm : μ[j]? = some (a, .lst (es.map f))) (h0 : 0 ≤ v) (h1 : v < es.length) (hz : es.length < 100000) (q : ∀ (k : Nat) (e : α), es[k]? = some e → es.Perm (e :: es.eraseIdx k) → ∃ μ', μ.set j (a, .lst ((es.eraseIdx k).map f)) = μ' ∧ P (f e) μ') : WM K rPopAt (.ref a) [.int v] μ P :=
  wm_popAtM hm h0 h1 hz fun k e h2 h3 => by
    obtain ⟨μ', e1, q1⟩ := q k e h2 h3
    rw [e1]; exact q1
theorem mu_set {j : Nat} {m : M} {μ' : Mu} {Q : Mu → Prop} (h : μ.set j (a, m) = μ') (q : Q μ') : ∃ μ', μ.set j (a, m) = μ' ∧ Q μ' := ⟨_, h, q⟩
def rIns : V → List V → Hp → VK → Prop := fun x vs H Q => ∃ (l : Addr) (xs : List V) (i : Int) (y : V), x = .ref l ∧ vs = [.int i, y] ∧ H l = some (.lst xs) ∧ xs.length < sizeLine ∧ 0 ≤ i ∧ i < 2 ^ 63 ∧ Q .non (upd H l (.lst (xs.take i.toNat ++ [y] ++ xs.drop i.toNat)))
theorem mt_ins {X : Cx} : MtR X "list.insert" rIns := mt_insert
theorem wm_ins0 {j : Nat} (hm : μ[j]? = some (a, .lst xs)) (hz : xs.length < sizeLine) (h : μ.set j (a, .lst (d :: xs)) = μ') (q : P .non μ') : WM K rIns (.ref a) [.int 0, d] μ P := fun H v vs m r rs Q k => by
  subst h
  cases r
  cases rs with
  | cons r0 r2 =>
    cases r0
    cases r2 with
    | cons r1 r2 =>
      cases r2
      obtain ⟨ws, hv, hl⟩ := m.at hm
      refine ⟨_, _, 0, _, rfl, rfl, hv, by rw [hl.length]; exact hz, by decide, by decide, ?_⟩
      exact k _ _ _ _ (step_set (m' := .lst (d :: xs)) hm rfl) (m.set (m' := .lst (d :: xs)) hm rfl ⟨_, upd_same, (DenL.cons r1 hl).step m (step_set (m' := .lst (d :: xs)) hm rfl)⟩) .non q
/-! ### items at sums of places -/
theorem w2_ixTi {f : α → D} {es : List α} {e : α} {i : Int} {k : Nat} (hi : i = (k : Int)) (hk : es[k]? = some e) (q : P (f e) μ) : W2 K (rIx K) (.tup (es.map f)) (.int i) μ P := by subst hi; exact w2_ixTm hk q
theorem w2_ixKi {f : α → D} {es : List α} {e : α} {i : Int} {k : Nat} (hm : Lk (es.map f) μ a) (hi : i = (k : Int)) (hk : es[k]? = some e) (q : P (f e) μ) : W2 K (rIx K) (.ref a) (.int i) μ P := by subst hi; exact w2_ixKm hm hk q
theorem atI_last {d : D} (h : ds.getLast? = some d) : atI ds (-1) = some d := by
  have hn : ds ≠ [] := by rintro rfl; cases h
  have hp := List.length_pos_iff.mpr hn
  unfold atI ixN
  rw [if_neg (by omega), if_pos (by omega)]
  show ds[(-1 + (ds.length : Int)).toNat]? = _
  rw [show (-1 + (ds.length : Int)).toNat = ds.length - 1 by omega, ← List.getLast?_eq_getElem?]
  exact h
theorem w2_ixTz {f : α → D} {es : List α} {e : α} (hk : es.getLast? = some e) (q : P (f e) μ) : W2 K (rIx K) (.tup (es.map f)) (.int (-1)) μ P := w2_ixT (atI_last (by rw [List.getLast?_map, hk]; rfl)) q
theorem w2_ixKz {f : α → D} {es : List α} {e : α} (hm : Lk (es.map f) μ a) (hk : es.getLast? = some e) (q : P (f e) μ) : W2 K (rIx K) (.ref a) (.int (-1)) μ P := w2_ixK hm (atI_last (by rw [List.getLast?_map, hk]; rfl)) q
theorem Lk.app {ν : Mu} (h : Lk ds μ a) : Lk ds (ν ++ μ) a := by
  obtain ⟨j, hj⟩ := h
  exact ⟨ν.length + j, by rw [List.getElem?_append_right (by omega), Nat.add_sub_cancel_left]; exact hj⟩
theorem Lk.of_mem {ν : Mu} (h : (a, M.lst ds) ∈ ν) : Lk ds (ν ++ μ) a := by
  obtain ⟨j, hj⟩ := List.getElem?_of_mem h
  exact ⟨j, by rw [List.getElem?_append_left (List.getElem?_eq_some_iff.mp hj).1]; exact hj⟩
theorem Dk.app {ks : List Str} {d : Addr} {ν : Mu} (h : Dk ks μ d) : Dk ks (ν ++ μ) d := by
  obtain ⟨i, c, e⟩ := h
  exact ⟨ν.length + i, c, by rw [List.getElem?_append_right (by omega), Nat.add_sub_cancel_left]; exact e⟩
theorem weak_app {ν : Mu} : Weak (ν ++ μ) μ := weak_sub (List.sublist_append_right _ _)
theorem weak_appS {ν : Mu} (h : Weak μ μ') : Weak (ν ++ μ) μ' := weak_app.trans h
end
end Wk
namespace Wk
open PySem PySem.Spec L2 WkE
section
variable {μ : Mu} {P : D → Mu → Prop} {d d1 : D} {a : Addr} {k k1 : Key} {r kds : List (Key × D)}
theorem valD_here : valD ((k, d) :: r) k = some d := by unfold valD; rw [List.find?_cons, decide_eq_true rfl]; rfl
theorem valD_next (h : k1 ≠ k) (q : valD r k = some d) : valD ((k1, d1) :: r) k = some d := by unfold valD at q ⊢; rw [List.find?_cons, decide_eq_false h]; exact q
theorem dget_str {Q : D → Prop} {s : Str} (hm : Ck kds μ a) (hv : valD kds (.inr s) = some d) (q : Q d) : ∃ (a' : Addr) (j : Nat) (kds' : List (Key × D)) (k : Key) (d' : D), D.ref a = .ref a' ∧ D.str s = kD k ∧ μ[j]? = some (a', M.dic kds') ∧ valD kds' k = some d' ∧ Q d' := by
  obtain ⟨j, hj⟩ := hm
  exact ⟨a, j, kds, .inr s, d, rfl, rfl, hj, hv, q⟩
end
end Wk
namespace Wk
open PySem PySem.Spec L2 WkE
theorem k_gunl {X : Cx} {K : PySem.W.Frag} (h : X.K = K) {es : List Expr} {k : Nat} {t : TGs} {n : Nat} {pos : Pos} (hc : X.calm = true) (ht : PGs X es t)
    (hn : (assignEach es X.env).length = n := by rfl) (hst : (assignEach es X.env).findIdx? (·.1) = none := by rfl) : PG X (.Tuple es k pos) (gUnl K n t) := h ▸ pg_unl hc ht hn hst
theorem wg_unl {K : PySem.W.Frag} {δ : Dl} {μ : Mu} {a : Addr} {ds : List D} {gs : TGs} {n : Nat} {PG : Dl → Mu → Prop} (hm : Lk ds μ a) (hl : ds.length = n) (h : WGs K gs ds δ μ PG) : WG K (gUnl K n gs) (.ref a) δ μ PG := fun σ H v ok r Q f => by
  cases r
  obtain ⟨j, hj⟩ := hm
  obtain ⟨vs, hv, hd⟩ := ok.m.at hj
  exact ⟨_, _, rfl, .inl (.inl hv), by rw [hd.length]; exact hl, h σ H _ ok hd Q f⟩
end Wk
namespace Wk
open PySem PySem.Spec L2 WkE
theorem w2_inT2 {K : PySem.W.Frag} {μ : Mu} {P : D → Mu → Prop} {i x y : Int} (q : P (.bl (decide (i = x ∨ i = y))) μ) : W2 K (rIn K false) (.int i) (.tup [.int x, .int y]) μ P := w2_inT (ns := [x, y]) (by
  rw [show decide (i ∈ [x, y]) = decide (i = x ∨ i = y) from decide_eq_decide.mpr (by simp)]; exact q)
end Wk
namespace Wk
open PySem PySem.Spec L2 WkE
/-! ### extend by a tuple -/
theorem list_extend_tupO (l : Addr) (items : Array Value) (n : Nat) (b : Addr) (o : Obj) (items2 : Array Value) (n2 : Nat) (hc : o.cls = .type "tuple") (hd : o.data = .seq items2 n2) (hs0 : (!items.isEmpty && Builtin.List.listTooLong (items.size + items2.size)) = false) (hs1 : items.size ≤ sizeLine) (hs2 : items.size + items2.size ≤ sizeLine + 1) :
    Meets (Builtin.«list.extend» ⟨[.ref l, .ref b], []⟩) (fun _ R s => s.heap.get? l = some { cls := .type "list", dict := none, data := .seq items n, slots := #[] } ∧ s.heap.get? b = some o ∧ R (.ok (.ret Value.none)) { s with heap := s.heap.update l (Obj.mapSeq fun x => x ++ items2), toks := s.toks }) :=
  .of_wp fun prog w A R s h => by
    obtain ⟨hl, hb, h⟩ := h
    show wpAny _ A.in1 (Builtin.List.listExtendWith (.ref l) (.ref b) .none) _ _ s
    unfold Builtin.List.listExtendWith
    refine wpAny_bind (wpAny_typeOf ⟨o, hb, hc⟩ ?_)
    have h1 : (Builtin.List.listSameRef (.ref l) (.ref b) || Value.type "tuple" == Value.type "list" || Value.type "tuple" == Value.type "tuple") = true := by simp
    simp only [h1, if_true]
    refine wpAny_bind ?_
    unfold Builtin.List.listItems
    refine wpAny_bind (wpAny_seqItems hb hd (wpAny_pure ?_))
    refine wpAny_bind ?_
    refine wpAny_bind (wpAny_seqItems hl rfl (wpAny_pure ?_))
    simp only [hs0]
    have hz' : (items ++ items2).size ≤ sizeLine + 1 := by rw [Array.size_append]; exact hs2
    show wpAny _ A.in1 (updateSeq l (· ++ items2) >>= fun _ => ret .none) _ _ s
    refine wpAny_bind (wpAny_updateSeq hl rfl ?_ (hz := hs1) (_hz' := hz'))
    exact wpAny_pure ⟨_, rfl, h⟩
def rExtT (K : PySem.W.Frag) : V → List V → Hp → VK → Prop := fun x vs H Q => ∃ l b xs zs, x = .ref l ∧ vs = [.ref b] ∧ H l = some (.lst xs) ∧ SqT K H b zs ∧ xs.length + zs.length ≤ sizeLine ∧ Q .non (upd H l (.lst (xs ++ zs)))
def rExtG (K : PySem.W.Frag) : V → List V → Hp → VK → Prop := fun x vs H Q => rExtend x vs H Q ∨ rExtT K x vs H Q
theorem mt_extendT {X : Cx} : MtM X "list.extend" (rExtT X.K) := by
  intro pins s σ H x vs v us Q I rx rv h
  obtain ⟨l, b, xs, zs, rfl, rfl, hH, hB, hz, q⟩ := h
  cases rx
  obtain ⟨u, rfl, ru⟩ := rv.one
  cases ru
  obtain ⟨z, its, n, r, hl, e⟩ := I.lstM hH
  obtain ⟨its2, r2, pt, hl2⟩ := I.tuple hB
  obtain ⟨o2, e2, c2, n2, d2⟩ := pt
  have l2 := r2.length
  have hsz : its.toArray.size + its2.toArray.size ≤ sizeLine := by rw [List.size_toArray, List.size_toArray]; omega
  have hlong : (!its.toArray.isEmpty && Builtin.List.listTooLong (its.toArray.size + its2.toArray.size)) = false := by
    rw [notLongL hsz, Bool.and_false]
  refine call_meets F.slot_list_extend ⟨_, e, rfl⟩ F.entry_list_extend (F.args_list_extend_2 _ _)
    (list_extend_tupO l its.toArray n b o2 its2.toArray n2 c2 d2 hlong (by rw [List.size_toArray]; omega) (by omega)) ⟨e, e2, ?_⟩
  refine ⟨.non, _, I.lset (its' := its ++ its2) hH e (by simp) (r.append r2) ?_, rfl, q⟩
  rw [List.length_append]
  omega
theorem mt_extG {X : Cx} {K : PySem.W.Frag} (hK : X.K = K) : MtM X "list.extend" (rExtG K) := by
  subst hK
  intro pins s σ H x vs v us Q I rx rv h
  rcases h with h | h
  · exact mt_extend pins s σ H x vs v us Q I rx rv h
  · exact mt_extendT pins s σ H x vs v us Q I rx rv h
theorem wm_extT {K : PySem.W.Frag} {μ μ' : Mu} {P : D → Mu → Prop} {a : Addr} {xs zs : List D} {j : Nat} (hm : μ[j]? = some (a, .lst xs)) (hz : xs.length + zs.length ≤ sizeLine) (h : μ.set j (a, .lst (xs ++ zs)) = μ') (q : P .non μ') : WM K (rExtG K) (.ref a) [.tup zs] μ P := fun H v vs m r rs Q k => by
  subst h
  cases r
  cases rs with
  | cons r1 r2 =>
    cases r2
    cases r1 with
    | tup hs_ hl2 =>
      have hs := TpA.sqt hs_
      obtain ⟨ws, hv, hl⟩ := m.at hm
      refine .inr ⟨_, _, _, _, rfl, rfl, hv, hs, by rw [hl.length, hl2.length]; exact hz, ?_⟩
      exact k _ _ _ _ (step_set (m' := .lst (xs ++ zs)) hm rfl) (m.set (m' := .lst (xs ++ zs)) hm rfl ⟨_, upd_same, (hl.append hl2).step m (step_set (m' := .lst (xs ++ zs)) hm rfl)⟩) .non q
end Wk
namespace Wk
open PySem PySem.Spec L2 WkE
theorem wm_popC {α : Type} {K : PySem.W.Frag} {μ μ' : Mu} {P : D → Mu → Prop} {a : Addr} {f : α → D} {es : List α} {e : α} {j : Nat} (hm : μ[j]? = some (a, .lst ((es ++ [e]).map f))) (h : μ.set j (a, .lst (es.map f)) = μ') (q : P (f e) μ') : WM K rPop (.ref a) [] μ P := by
  refine wm_popK hm (d := f e) ?_ ?_ q
  · rw [List.map_append, List.length_append, List.length_map, List.map_cons, List.map_nil, List.length_singleton, List.getElem?_append_right (by rw [List.length_map]; omega), List.length_map]
    simp
  · rw [List.map_append, List.map_cons, List.map_nil, List.dropLast_concat]; exact h
end Wk
namespace Wk
open PySem PySem.Spec L2 WkE
theorem den_rep {K : PySem.W.Frag} {H : Hp} {v : V} {d : D} (r : Den K H v d) : ∀ n : Nat, DenL K H (List.replicate n [v]).flatten (List.replicate n d)
  | 0 => .nil
  | n + 1 => .cons r (den_rep r n)
/-- [x] * n -/
theorem w2_rep1 {K : PySem.W.Frag} {μ : Mu} {P : D → Mu → Prop} {a : Addr} {d : D} {i : Int} {n : Nat} (hm : Lk [d] μ a) (hi : i = (n : Int)) (hz : n ≤ 100000) (q : ∀ p, P (.ref p) ((p, .lst (List.replicate n d)) :: μ)) : W2 K rRep (.ref a) (.int i) μ P := fun H v u m r1 r2 Q k => by
  subst hi
  cases r1
  cases r2
  obtain ⟨j, hj⟩ := hm
  obtain ⟨vs, hv, hl⟩ := m.at hj
  cases hl with
  | cons r rr =>
    cases rr
    refine ⟨_, _, _, rfl, rfl, hv, by omega, by omega, ?_, fun p hp => ?_⟩
    · rw [Int.toNat_natCast]; exact Nat.le_trans (by simp; omega) (show 100000 ≤ sizeLine by decide)
    · rw [Int.toNat_natCast]
      exact k _ _ _ _ (step_join hp rfl) (m.join (m := .lst (List.replicate n d)) hp rfl ⟨_, upd_same, (den_rep r n).step m (step_new hp)⟩) (.ref p) (q p)
end Wk
namespace Wk
open PySem PySem.Spec L2 WkE
/-- a list's item is set -/
theorem set_intro {α : Type} {μ μ' : Mu} {a : Addr} {d : D} {Q : Mu → Prop} {f : α → D} {es : List α} {e : α} {i : Int} {k j : Nat} (hm : μ[j]? = some (a, M.lst (es.map f))) (hi : i = (k : Int)) (hk : k < es.length) (hd : d = f e) (h : μ.set j (a, .lst ((es.set k e).map f)) = μ') (q : Q μ') :
    ∃ (a' : Addr) (j' : Nat) (xs : List D) (n : Int) (k' : Nat) (μ3 : Mu), D.ref a = .ref a' ∧ D.int i = .int n ∧ μ[j']? = some (a', M.lst xs) ∧ ixN xs.length n = some k' ∧ μ.set j' (a', .lst (xs.set k' d)) = μ3 ∧ Q μ3 := by
  subst hi hd h
  refine ⟨a, j, es.map f, _, k, _, rfl, rfl, hm, ?_, by rw [← List.map_set], q⟩
  unfold ixN
  rw [List.length_map, if_pos (by omega), if_pos (by omega), Int.toNat_natCast]
/-- .. of a list known item by item -/
theorem set_introK {μ μ' : Mu} {a : Addr} {d : D} {Q : Mu → Prop} {xs xs' : List D} {i : Int} {j : Nat} (k : Nat) (hm : μ[j]? = some (a, M.lst xs)) (hi : ixN xs.length i = some k) (hx : xs.set k d = xs') (h : μ.set j (a, .lst xs') = μ') (q : Q μ') :
    ∃ (a' : Addr) (j' : Nat) (xs : List D) (n : Int) (k' : Nat) (μ3 : Mu), D.ref a = .ref a' ∧ D.int i = .int n ∧ μ[j']? = some (a', M.lst xs) ∧ ixN xs.length n = some k' ∧ μ.set j' (a', .lst (xs.set k' d)) = μ3 ∧ Q μ3 := by
  subst h hx
  exact ⟨a, j, xs, _, k, _, rfl, rfl, hm, hi, rfl, q⟩
end Wk

set_option Elab.async false
set_option linter.all false
set_option maxRecDepth 100000
namespace Wk
open PySem PySem.Spec L2 WkE
section
variable {K : PySem.W.Frag} {δ : Dl} {μ μ' : Mu} {ts : TS} {N B C : Dl → Mu → Prop} {R : D → Mu → Prop} {a : Addr}
/-! ### a deck that is a list -/
theorem s_openL {i : Nat} {c : Addr} (hm : μ[i]? = some (a, .ldk c)) (h : ∀ (x y z : Int) (cs : List Int), 0 ≤ z → cs.length ≤ 63 → S4 K ts δ ((a, .lst [.ref c, .int x, .int y, .int z]) :: (c, .lst (cs.map D.int)) :: μ.eraseIdx i) N R B C) : S4 K ts δ μ N R B C := fun σ H ok Dn n r b cc => by
  obtain ⟨x, y, z, cs, h1, h2, e1, e2⟩ := ok.m.at hm
  have hp := foot_perm hm
  have fe : foot ((a, M.lst [.ref c, .int x, .int y, .int z]) :: (c, .lst (cs.map D.int)) :: μ.eraseIdx i) = a :: ([c] ++ foot (μ.eraseIdx i)) := rfl
  have m' : OkM K H ((a, M.lst [.ref c, .int x, .int y, .int z]) :: (c, .lst (cs.map D.int)) :: μ.eraseIdx i) := by
    refine ⟨by rw [fe]; exact hp.nodup_iff.mp ok.m.nd, fun p hp' => ?_⟩
    rcases List.mem_cons.mp hp' with rfl | hp'
    · exact ⟨_, e1, .cons (.ref c) (.cons (.int x) (.cons (.int y) (.cons (.int z) .nil)))⟩
    rcases List.mem_cons.mp hp' with rfl | hp'
    · exact ⟨_, e2, DenL.of_ints cs⟩
    · exact ok.m.ok p ((erase_sub μ i).subset hp')
  have st : Step μ H ((a, M.lst [.ref c, .int x, .int y, .int z]) :: (c, .lst (cs.map D.int)) :: μ.eraseIdx i) H := ⟨fun _ _ z _ => z, fun x z => by rw [fe] at z; exact .inl (hp.mem_iff.mpr z)⟩
  exact h x y z cs h1 h2 σ H (ok.step st m') Dn (fun σ' H' δ' μ' s => n σ' H' δ' μ' (st.trans s)) (fun v H' d μ' s => r v H' d μ' (st.trans s)) (fun σ' H' δ' μ' s => b σ' H' δ' μ' (st.trans s)) (fun σ' H' δ' μ' s => cc σ' H' δ' μ' (st.trans s))
theorem weak_closeL {i : Nat} {c : Addr} {xs ds : List D} {x y z : Int} {cs : List Int} (hm : μ[i]? = some (a, .ldk c)) (e1 : xs = [.ref c, .int x, .int y, .int z]) (e2 : ds = cs.map D.int) (h1 : 0 ≤ z) (h2 : cs.length ≤ 63) :
    Weak ((a, .lst xs) :: (c, .lst ds) :: μ.eraseIdx i) μ := fun K H o => by
  have hp := foot_perm hm
  have fe : foot ((a, M.lst xs) :: (c, .lst ds) :: μ.eraseIdx i) = a :: ([c] ++ foot (μ.eraseIdx i)) := rfl
  subst e1 e2
  refine ⟨⟨hp.nodup_iff.mpr (by rw [fe] at *; exact o.nd), fun p hp' => ?_⟩, fun x z => by rw [fe]; exact hp.mem_iff.mp z⟩
  obtain ⟨j, hj⟩ := List.getElem?_of_mem hp'
  by_cases cji : j = i
  · subst cji
    rw [hm] at hj
    cases hj
    obtain ⟨ks, ek, dk⟩ := o.ok _ List.mem_cons_self
    obtain ⟨vs, ev, dv⟩ := o.ok _ (List.mem_cons_of_mem _ List.mem_cons_self)
    have q2 := dv.ints
    subst q2
    have q1 : ks = [.ref c, .int x, .int y, .int z] := by
      cases dk with
      | cons a1 b1 => cases a1; cases b1 with
        | cons a2 b2 => cases a2; cases b2 with
          | cons a3 b3 => cases a3; cases b3 with
            | cons a4 b4 => cases a4; cases b4; rfl
    exact ⟨x, y, z, cs, h1, h2, by rw [← q1]; exact ek, ev⟩
  · refine o.ok p (List.mem_cons_of_mem _ (List.mem_cons_of_mem _ ?_))
    refine List.mem_eraseIdx_iff_getElem?.mpr ⟨j, cji, hj⟩
/-- such a deck is made -/
theorem weak_deckL {p q : Addr} {x y z : Int} {cs : List Int} {xs : List D} (e : xs = [.ref q, .int x, .int y, .int z]) (h1 : 0 ≤ z) (h2 : cs.length ≤ 63) : Weak ((p, .lst xs) :: (q, .lst (cs.map D.int)) :: μ) ((p, .ldk q) :: μ) :=
  weak_closeL (i := 0) (μ := (p, .ldk q) :: μ) rfl e rfl h1 h2
/-- such a deck is in sight -/
def Ld (μ : Mu) (d : Addr) : Prop := ∃ (i : Nat) (c : Addr), μ[i]? = some (d, .ldk c)
theorem Ld.here {d c : Addr} : Ld ((d, .ldk c) :: μ) d := ⟨0, c, rfl⟩
theorem Ld.cons {d : Addr} {p : Addr × M} (h : Ld μ d) : Ld (p :: μ) d := let ⟨i, c, e⟩ := h; ⟨i + 1, c, by simpa using e⟩
theorem Ld.app {d : Addr} {ν : Mu} (h : Ld μ d) : Ld (ν ++ μ) d := by
  obtain ⟨i, c, e⟩ := h
  exact ⟨ν.length + i, c, by rw [List.getElem?_append_right (by omega), Nat.add_sub_cancel_left]; exact e⟩
/-- a drawn number -/
def SpDrawL : SpD := fun ds μ P => ∃ (d : Addr) (m : Int), ds = [.ref d, .int m] ∧ Ld μ d ∧ 0 < m ∧ m < 2 ^ 62 ∧ ∀ n, 0 ≤ n → n < m → P (.int n) μ
theorem sp_drawL {d : Addr} {m : Int} {P : D → Mu → Prop} (hm : Ld μ d) (h0 : 0 < m) (h1 : m < 2 ^ 62) (q : ∀ n, 0 ≤ n → n < m → P (.int n) μ) : SpDrawL [.ref d, .int m] μ P := ⟨d, m, rfl, hm, h0, h1, q⟩
/-! ### lists -/
/-- an item of some ints at a number -/
theorem w2_ixInts {P : D → Mu → Prop} {cs : List Int} {i : Int} {xs : List D} (hm : Lk xs μ a) (e : xs = cs.map D.int) (h0 : 0 ≤ i) (h1 : i < cs.length) (q : ∀ v ∈ cs, P (.int v) μ) : W2 K (rIx K) (.ref a) (.int i) μ P := by
  subst e
  obtain ⟨j, hj⟩ := hm
  refine w2_ixO j hj h0 (by rw [List.length_map]; exact h1) fun k d hk _ => ?_
  obtain ⟨v, hv, rfl⟩ := map_int_get hk
  exact q v (List.mem_of_getElem? hv)
/-- pop(i): one of them, from behind too -/
theorem wm_popAtZ {α : Type} {f : α → D} {P : D → Mu → Prop} {es : List α} {v : Int} {j : Nat} (hm : μ[j]? = some (a, .lst (es.map f))) (h0 : -1 ≤ v) (h1 : v < es.length) (hz : es.length < 100000) (hn : 0 < es.length) (q : ∀ (k : Nat) (e : α), es[k]? = some e → es.Perm (e :: es.eraseIdx k) → ∃ μ', μ.set j (a, .lst ((es.eraseIdx k).map f)) = μ' ∧ P (f e) μ') : WM K rPopAt (.ref a) [.int v] μ P := by
  by_cases c : 0 ≤ v
  · exact wm_popAtN hm c h1 hz q
  obtain rfl : v = -1 := by omega
  intro H u vs m r rs Q k
  cases r
  cases rs with
  | cons r1 r2 =>
    cases r1; cases r2
    obtain ⟨ws, hv, hl⟩ := m.at hm
    have hx := List.getElem?_eq_getElem (l := es) (i := es.length - 1) (by omega)
    generalize es[es.length - 1]'_ = e at hx
    obtain ⟨μ', e1, q1⟩ := q _ e hx (perm_eraseIdx hx)
    obtain ⟨w, hw, rw'⟩ := hl.get (d := f e) (show (es.map f)[es.length - 1]? = some (f e) by rw [List.getElem?_map, hx]; rfl)
    have hll : ws.length = es.length := by rw [hl.length, List.length_map]
    refine ⟨_, _, _, es.length - 1, w, rfl, rfl, hv, by omega, by omega, ?_, hw, ?_⟩
    · unfold PySem.seqIndex?
      simp; omega
    · subst e1
      have e3 : (es.map f).eraseIdx (es.length - 1) = (es.eraseIdx (es.length - 1)).map f := eraseIdx_mapW _ _
      exact k _ _ _ _ (step_set (m' := .lst ((es.eraseIdx (es.length - 1)).map f)) hm rfl) (m.set (m' := .lst ((es.eraseIdx (es.length - 1)).map f)) hm rfl ⟨_, upd_same, by rw [← e3]; exact (hl.eraseIdx _).step m (step_set (m' := .lst ((es.map f).eraseIdx (es.length - 1))) hm rfl)⟩) (rw'.step m (step_set (m' := .lst ((es.eraseIdx (es.length - 1)).map f)) hm rfl)) q1
end
end Wk
namespace WkE
open PySem PySem.Spec L2
theorem k_zip {X : Cx} {K : PySem.W.Frag} {e e2 : Expr} {ta : TA} {p pos tpos : Pos} {elts : List Expr} {kk : Nat} (h : X.K = K) (hg : Gl X "zip") (hm : X.mg "zip" = none) (ha : PA X [e, e2] ta)
    (hs : starEach [e, e2] X.env = (false, eval e X.env) :: starEach [e2] X.env := by rfl) (hpl : (backTo pos (starEach [e2] X.env)).any (·.1) = false := by rfl) :
    PI X (.Tuple elts kk tpos) (.Call (.Name "zip" p) [e, e2] [] pos) (RZ.iZipA K ta) := h ▸ RZ.pi_zipA hg hm ha hs hpl
end WkE
namespace Wk
open PySem PySem.Spec L2 WkE
section
variable {K : PySem.W.Frag} {δ : Dl} {μ μ' : Mu} {ts : TS} {N B C : Dl → Mu → Prop} {R : D → Mu → Prop} {P : D → Mu → Prop} {al : TA} {a b : Addr} {xs ys : List D} {g : TG}
/-! ### zip -/
def zipD (xs ys : List D) : List D := List.zipWith (fun x y => .tup [x, y]) xs ys
theorem zipD_get {i : Nat} {d : D} (h : (zipD xs ys)[i]? = some d) : ∃ x y, xs[i]? = some x ∧ ys[i]? = some y ∧ d = .tup [x, y] := by
  unfold zipD at h
  rw [List.getElem?_zipWith] at h
  cases e1 : xs[i]? with
  | none => rw [e1] at h; simp at h
  | some x =>
    cases e2 : ys[i]? with
    | none => rw [e1, e2] at h; simp at h
    | some y => rw [e1, e2] at h; exact ⟨x, y, rfl, rfl, by simpa using h.symm⟩
def WZ (x y : D) (μ : Mu) (PI : List D → (Mu → Prop) → Mu → Prop) : Prop := (∃ xs ys, x = .tup xs ∧ y = .tup ys ∧ PI (zipD xs ys) (fun _ => True) μ) ∨
  ∃ a b xs ys, x = .ref a ∧ y = .ref b ∧ Lk xs μ a ∧ Lk ys μ b ∧ PI (zipD xs ys) (fun μ' => (a, M.lst xs) ∈ μ' ∧ (b, M.lst ys) ∈ μ') μ
theorem wi_zip {PI : List D → (Mu → Prop) → Mu → Prop} (h : WA K al δ μ fun ds μ1 => ∃ x y, ds = [x, y] ∧ WZ x y μ1 PI) : WI K (RZ.iZipA K al) δ μ PI := fun σ H ok R f =>
  h σ H ok _ fun vs H1 ds μ1 s1 m1 r1 ⟨x, y, e, h⟩ => by
    subst e
    cases r1 with
    | cons rx rr =>
    cases rr with
    | cons ry rr =>
    cases rr
    rcases h with ⟨xs, ys, rfl, rfl, p⟩ | ⟨a, b, xs, ys, rfl, rfl, ha, hb, p⟩
    · cases rx with
      | tup hx_ lx =>
      have hx := TpA.sqt hx_
      cases ry with
      | tup hy_ ly =>
        have hy := TpA.sqt hy_
        refine ⟨_, _, _, _, rfl, .inr ⟨hx, hy, f _ H1 (zipD xs ys) _ μ1 s1 m1 (fun H2 μ2 s2 m2 _ => ?_) p⟩⟩
        have hx2 := sqT_step m1 s2 hx
        have lx2 := lx.step m1 s2
        have hy2 := sqT_step m1 s2 hy
        have ly2 := ly.step m1 s2
        refine ⟨fun i hi => ⟨_, _, hx2, hy2, by rw [lx2.length, ly2.length]; unfold zipD at hi; rw [List.length_zipWith] at hi; omega⟩, fun i d hd => ?_⟩
        obtain ⟨u, v, hu, hv, rfl⟩ := zipD_get hd
        obtain ⟨wu, eu, ru⟩ := lx2.get hu
        obtain ⟨wv, ev, rv⟩ := ly2.get hv
        refine ⟨⟨_, _, wu, wv, hx2, hy2, eu, ev⟩, fun x' H' hq => ?_⟩
        obtain ⟨T, x2, y2, rfl, hT, rfl, h1, h2⟩ := hq
        have e1 := h1 _ hx2
        rw [eu] at e1
        cases e1
        have e2 := h2 _ hy2
        rw [ev] at e2
        cases e2
        exact ⟨step_new hT, m2.new hT, .tup upd_same (.cons (ru.step m2 (step_new hT)) (.cons (rv.step m2 (step_new hT)) .nil))⟩
    · cases rx
      cases ry
      obtain ⟨i1, j1⟩ := ha
      obtain ⟨i2, j2⟩ := hb
      obtain ⟨vs1, hv1, hl1⟩ := m1.at j1
      obtain ⟨vs2, hv2, hl2⟩ := m1.at j2
      refine ⟨_, _, _, _, rfl, .inl ⟨.inl (.inl hv1), .inl (.inl hv2), f _ H1 (zipD xs ys) _ μ1 s1 m1 (fun H2 μ2 s2 m2 g => ?_) p⟩⟩
      obtain ⟨g1, g2⟩ := g
      obtain ⟨ws, hw, lx2⟩ := m2.ok _ g1
      obtain ⟨us, hw2, ly2⟩ := m2.ok _ g2
      refine ⟨fun i hi => ⟨_, _, .inl (.inl hw), .inl (.inl hw2), by rw [lx2.length, ly2.length]; unfold zipD at hi; rw [List.length_zipWith] at hi; omega⟩, fun i d hd => ?_⟩
      obtain ⟨u, v, hu, hv, rfl⟩ := zipD_get hd
      obtain ⟨wu, eu, ru⟩ := lx2.get hu
      obtain ⟨wv, ev, rv⟩ := ly2.get hv
      refine ⟨⟨_, _, wu, wv, .inl (.inl hw), .inl (.inl hw2), eu, ev⟩, fun x' H' hq => ?_⟩
      obtain ⟨T, x2, y2, rfl, hT, rfl, h1, h2⟩ := hq
      have e1 := h1 _ (.inl (.inl hw))
      rw [eu] at e1
      cases e1
      have e2 := h2 _ (.inl (.inl hw2))
      rw [ev] at e2
      cases e2
      exact ⟨step_new hT, m2.new hT, .tup upd_same (.cons (ru.step m2 (step_new hT)) (.cons (rv.step m2 (step_new hT)) .nil))⟩
theorem zip_intro {x y : D} {PI : List D → (Mu → Prop) → Mu → Prop} (h : WZ x y μ PI) : ∃ x' y', [x, y] = [x', y'] ∧ WZ x' y' μ PI := ⟨x, y, rfl, h⟩
theorem zipD_map {α β : Type} {f : α → D} {h : β → D} {us : List α} {ws : List β} : zipD (us.map f) (ws.map h) = (us.zip ws).map fun p => .tup [f p.1, h p.2] := by
  unfold zipD
  rw [List.zipWith_map, List.zip, List.map_zipWith]
theorem wz_T {α β : Type} {f : α → D} {h : β → D} {us : List α} {ws : List β} {PI : List D → (Mu → Prop) → Mu → Prop} (q : PI ((us.zip ws).map fun p => .tup [f p.1, h p.2]) (fun _ => True) μ) : WZ (.tup (us.map f)) (.tup (ws.map h)) μ PI :=
  .inl ⟨_, _, rfl, rfl, by rw [zipD_map]; exact q⟩
theorem wz_L {α β : Type} {f : α → D} {h : β → D} {us : List α} {ws : List β} {PI : List D → (Mu → Prop) → Mu → Prop} (ha : Lk (us.map f) μ a) (hb : Lk (ws.map h) μ b) (q : PI ((us.zip ws).map fun p => .tup [f p.1, h p.2]) (fun μ' => (a, M.lst (us.map f)) ∈ μ' ∧ (b, M.lst (ws.map h)) ∈ μ') μ) : WZ (.ref a) (.ref b) μ PI :=
  .inr ⟨_, _, _, _, rfl, rfl, ha, hb, by rw [zipD_map]; exact q⟩
/-! ### a loop over two items -/
theorem for2 {d1 d2 : D} {G : Mu → Prop} {μ1 : Mu} (I : Dl → Mu → Prop) (I2 : Dl → Mu → Prop) (hG : ∀ μ', G μ')
    (h1 : WG K g d1 δ μ1 fun δ2 μ2 => S4 K ts δ2 μ2 (fun δ3 μ3 => ∃ δ4 μ4, LeD δ4 δ3 ∧ Weak μ3 μ4 ∧ I δ4 μ4) R N (fun δ3 μ3 => ∃ δ4 μ4, LeD δ4 δ3 ∧ Weak μ3 μ4 ∧ I δ4 μ4))
    (h2 : ∀ δ' μ', I δ' μ' → WG K g d2 δ' μ' fun δ2 μ2 => S4 K ts δ2 μ2 (fun δ3 μ3 => ∃ δ4 μ4, LeD δ4 δ3 ∧ Weak μ3 μ4 ∧ I2 δ4 μ4) R N (fun δ3 μ3 => ∃ δ4 μ4, LeD δ4 δ3 ∧ Weak μ3 μ4 ∧ I2 δ4 μ4))
    (hd : ∀ δ' μ', I2 δ' μ' → N δ' μ') : ForP K δ g ts N R [d1, d2] G μ1 := by
  refine ⟨fun i δ' μ' => match i with | 0 => δ' = δ ∧ μ' = μ1 | 1 => I δ' μ' | _ => I2 δ' μ', ⟨δ, μ1, leD_refl δ, Weak.refl, rfl, rfl⟩, fun _ _ _ _ => hG _, fun i d δ' μ' hd' h => ?_, fun δ' μ' h => hd δ' μ' h⟩
  match i, hd', h with
  | 0, hd', h =>
    obtain ⟨rfl, rfl⟩ := h
    cases hd'
    exact h1
  | 1, hd', h =>
    cases hd'
    exact h2 δ' μ' h
  | i + 2, hd', h => simp at hd'
/-! ### dicts with numbers for keys -/
theorem valD_put {k k' : Key} {d : D} : ∀ {kds : List (Key × D)}, valD (putD kds k d) k' = if k = k' then some d else valD kds k' := by
  intro kds
  have app : ∀ l : List (Key × D), (∀ p ∈ l, p.1 ≠ k) → valD (l ++ [(k, d)]) k' = if k = k' then some d else valD l k' := by
    intro l
    induction l with
    | nil =>
      intro _
      by_cases c : k = k'
      · subst c; rw [if_pos rfl]; exact valD_here
      · rw [if_neg c]; unfold valD; simp [c]
    | cons p l ih =>
      intro hp
      have ih := ih fun q hq => hp q (List.mem_cons_of_mem _ hq)
      by_cases c : p.1 = k'
      · have hk : k ≠ k' := fun e => hp p List.mem_cons_self (by rw [c, e])
        rw [if_neg hk]
        unfold valD
        rw [List.cons_append, List.find?_cons, List.find?_cons, decide_eq_true c]
      · unfold valD at *
        rw [List.cons_append, List.find?_cons, List.find?_cons, decide_eq_false c]
        exact ih
  have mp : ∀ l : List (Key × D), (∃ p ∈ l, p.1 = k) → valD (l.map fun kv => if kv.1 = k then (kv.1, d) else kv) k' = if k = k' then some d else valD l k' := by
    intro l
    have off : k ≠ k' → ∀ l : List (Key × D), valD (l.map fun kv => if kv.1 = k then (kv.1, d) else kv) k' = valD l k' := by
      intro hk l
      induction l with
      | nil => rfl
      | cons p l ih =>
        unfold valD at *
        rw [List.map_cons, List.find?_cons, List.find?_cons]
        by_cases c : p.1 = k
        · rw [if_pos c, decide_eq_false (show ¬ p.1 = k' from fun e => hk (by rw [← c, e]))]
          exact ih
        · rw [if_neg c]
          by_cases c2 : p.1 = k'
          · rw [decide_eq_true c2]
          · rw [decide_eq_false c2]; exact ih
    by_cases hk : k = k'
    · subst hk
      rw [if_pos rfl]
      induction l with
      | nil => rintro ⟨p, hp, _⟩; cases hp
      | cons p l ih =>
        intro hp
        unfold valD at *
        rw [List.map_cons, List.find?_cons]
        by_cases c : p.1 = k
        · rw [if_pos c]
          simp only [c, decide_true]
          rfl
        · rw [if_neg c, decide_eq_false c]
          refine ih ?_
          obtain ⟨q, hq, e⟩ := hp
          rcases List.mem_cons.mp hq with rfl | hq
          · exact absurd e c
          · exact ⟨q, hq, e⟩
    · intro _
      rw [if_neg hk]
      exact off hk l
  unfold putD
  split
  · next h =>
    rw [List.any_eq_true] at h
    obtain ⟨p, hp, e⟩ := h
    exact mp _ ⟨p, hp, by simpa using e⟩
  · next h =>
    refine app _ fun p hp e => h ?_
    rw [List.any_eq_true]
    exact ⟨p, hp, by simpa using e⟩
theorem putD_length {k : Key} {d : D} {kds : List (Key × D)} : (putD kds k d).length ≤ kds.length + 1 := by
  unfold putD
  split
  · rw [List.length_map]; omega
  · rw [List.length_append]; exact Nat.le_refl _
/-- a dict from numbers, known by what it tells -/
def DicN (kds : List (Key × D)) (f : Nat → Option D) : Prop := ∀ k : Nat, valD kds (.inl (k : Int)) = f k
theorem DicN.nil : DicN [] fun _ => none := fun _ => rfl
theorem DicN.put {kds : List (Key × D)} {f : Nat → Option D} (h : DicN kds f) (k : Nat) (d : D) : DicN (putD kds (.inl (k : Int)) d) fun j => if k = j then some d else f j := fun j => by
  show _ = if k = j then some d else f j
  rw [valD_put]
  by_cases c : k = j
  · subst c; rw [if_pos rfl, if_pos rfl]
  · rw [if_neg c, if_neg (fun e => c (by have := Sum.inl.inj e; omega))]; exact h j
theorem Ck.app {ds : List (Key × D)} {ν : Mu} (h : Ck ds μ a) : Ck ds (ν ++ μ) a := by
  obtain ⟨i, e⟩ := h
  exact ⟨ν.length + i, by rw [List.getElem?_append_right (by omega), Nat.add_sub_cancel_left]; exact e⟩
theorem s_dputK {tv td ty : TE} (h : W K tv δ μ fun d μ1 => W K td δ μ1 fun x μ2 => W K ty δ μ2 fun y μ3 => ∃ (a : Addr) (j : Nat) (kds : List (Key × D)) (k : Key) (kds' : List (Key × D)) (μ4 : Mu), x = .ref a ∧ y = kD k ∧ μ3[j]? = some (a, M.dic kds) ∧ kds.length < sizeLine ∧ putD kds k d = kds' ∧ μ3.set j (a, .dic kds') = μ4 ∧ N δ μ4) : S4 K (sDPut td ty tv) δ μ N R B C :=
  s_dput (h.imp fun d μ1 h => h.imp fun x μ2 h => h.imp fun y μ3 ⟨a, j, kds, k, kds', μ4, e1, e2, e3, e4, e5, e6, q⟩ => ⟨a, j, kds, k, kds', e1, e2, e3, e4, e5, by rw [e6]; exact q⟩)
theorem dput_N {Q : Mu → Prop} {kds : List (Key × D)} {k j : Nat} {d : D} (hm : μ[j]? = some (a, M.dic kds)) (hz : kds.length < 100000) (h : μ.set j (a, .dic (putD kds (.inl (k : Int)) d)) = μ') (q : Q μ') :
    ∃ (a' : Addr) (j' : Nat) (kds1 : List (Key × D)) (k' : Key) (kds' : List (Key × D)) (μ4 : Mu), D.ref a = .ref a' ∧ D.int (k : Int) = kD k' ∧ μ[j']? = some (a', M.dic kds1) ∧ kds1.length < sizeLine ∧ putD kds1 k' d = kds' ∧ μ.set j' (a', .dic kds') = μ4 ∧ Q μ4 :=
  ⟨a, j, kds, .inl k, _, _, rfl, rfl, hm, lt_size hz, rfl, h, q⟩
theorem dget_N {Q : D → Prop} {kds : List (Key × D)} {f : Nat → Option D} {k : Nat} {d : D} (hm : Ck kds μ a) (hf : DicN kds f) (hv : f k = some d) (q : Q d) : ∃ (a' : Addr) (j : Nat) (kds' : List (Key × D)) (k' : Key) (d' : D), D.ref a = .ref a' ∧ D.int (k : Int) = kD k' ∧ μ[j]? = some (a', M.dic kds') ∧ valD kds' k' = some d' ∧ Q d' := by
  obtain ⟨j, hj⟩ := hm
  exact ⟨a, j, kds, .inl k, d, rfl, rfl, hj, by rw [hf k]; exact hv, q⟩
theorem din_t {X Y : Prop} {kds : List (Key × D)} {f : Nat → Option D} {k : Nat} {d : D} (hm : Ck kds μ a) (hf : DicN kds f) (hv : f k = some d) (q : X) : ∃ (a' : Addr) (j : Nat) (kds' : List (Key × D)) (k' : Key), D.ref a = .ref a' ∧ D.int (k : Int) = kD k' ∧ μ[j]? = some (a', M.dic kds') ∧ ∃ b, D.bl (valD kds' k').isSome = .bl b ∧ (b = true → X) ∧ (b = false → Y) := by
  obtain ⟨j, hj⟩ := hm
  exact ⟨a, j, kds, .inl k, rfl, rfl, hj, true, by rw [hf k, hv]; rfl, fun _ => q, fun z => nomatch z⟩
theorem din_f {X Y : Prop} {kds : List (Key × D)} {f : Nat → Option D} {k : Nat} (hm : Ck kds μ a) (hf : DicN kds f) (hv : f k = none) (q : Y) : ∃ (a' : Addr) (j : Nat) (kds' : List (Key × D)) (k' : Key), D.ref a = .ref a' ∧ D.int (k : Int) = kD k' ∧ μ[j]? = some (a', M.dic kds') ∧ ∃ b, D.bl (valD kds' k').isSome = .bl b ∧ (b = true → X) ∧ (b = false → Y) := by
  obtain ⟨j, hj⟩ := hm
  exact ⟨a, j, kds, .inl k, rfl, rfl, hj, false, by rw [hf k, hv]; rfl, fun z => (nomatch z), fun _ => q⟩
/-! ### tuples put together -/
theorem w2_addTmA {α : Type} {f : α → D} {us ws : List α} {P : D → Mu → Prop} (hz : us.length + ws.length ≤ sizeLine) (q : P (.tup ((us ++ ws).map f)) μ) : W2 K (rAddG K) (.tup (us.map f)) (.tup (ws.map f)) μ P := w2_addTA (by rw [List.length_map, List.length_map]; exact hz) (by rw [← List.map_append]; exact q)
theorem w2_addTi1 {us : List Int} {i : Int} {P : D → Mu → Prop} (hz : us.length + 1 ≤ sizeLine) (q : P (.tup ((us ++ [i]).map D.int)) μ) : W2 K (rAddG K) (.tup (us.map D.int)) (.tup [.int i]) μ P := w2_addTmA (ws := [i]) hz q
/-- a known part of a list -/
def SlE {α : Type} (es : List α) (lo hi : Int) (sub : List α) : Prop := (es.drop (HT.sIx es.length 0 (some lo))).take (HT.sIx es.length es.length (some hi) - HT.sIx es.length 0 (some lo)) = sub
theorem wsl_Kx {K : PySem.W.Frag} {P : D → Mu → Prop} {α : Type} {f : α → D} {es sub : List α} {lo hi : Int} {a : Addr} {μ : Mu} (hm : Lk (es.map f) μ a) (hx : SlE es lo hi sub) (q : ∀ p, P (.ref p) ((p, .lst (sub.map f)) :: μ)) : WSl K (rSlG K) (.ref a) (some lo) (some hi) μ P := by
  refine wsl_K hm fun p => ?_
  have e : cutD (es.map f) (some lo) (some hi) = (((es.drop (HT.sIx es.length 0 (some lo))).take (HT.sIx es.length es.length (some hi) - HT.sIx es.length 0 (some lo)))).map f := by
    unfold cutD
    rw [List.length_map, List.map_take, List.map_drop]
  rw [e, show _ = sub from hx]
  exact q p
/-- a part of a list -/
theorem wsl_Ksub {K : PySem.W.Frag} {P : D → Mu → Prop} {α : Type} {f : α → D} {es : List α} {lo hi : Int} {a : Addr} {μ : Mu} (hm : Lk (es.map f) μ a) (q : ∀ p (sub : List α), sub.length ≤ es.length → (∀ x ∈ sub, x ∈ es) → P (.ref p) ((p, .lst (sub.map f)) :: μ)) : WSl K (rSlG K) (.ref a) (some lo) (some hi) μ P := by
  refine wsl_K hm fun p => ?_
  have e : cutD (es.map f) (some lo) (some hi) = (((es.drop (HT.sIx es.length 0 (some lo))).take (HT.sIx es.length es.length (some hi) - HT.sIx es.length 0 (some lo)))).map f := by
    unfold cutD
    rw [List.length_map, List.map_take, List.map_drop]
  rw [e]
  exact q p _ (by rw [List.length_take, List.length_drop]; omega) fun x hx => List.mem_of_mem_drop (List.mem_of_mem_take hx)
end
end Wk

set_option Elab.async false
set_option linter.all false
set_option maxRecDepth 100000
namespace Wk
open PySem PySem.Spec L2 WkE
section
variable {K : PySem.W.Frag} {δ : Dl} {μ μ' : Mu} {ts : TS} {N B C : Dl → Mu → Prop} {R : D → Mu → Prop} {a : Addr}
/-! ### a list of numbers that is out of sight -/
theorem s_openH {i : Nat} {I : List Int → Prop} (hm : μ[i]? = some (a, .hid I)) (h : ∀ ns : List Int, I ns → S4 K ts δ ((a, .lst (ns.map D.int)) :: μ.eraseIdx i) N R B C) : S4 K ts δ μ N R B C := fun σ H ok Dn n r b cc => by
  obtain ⟨ns, h1, e1⟩ := ok.m.at hm
  have hp := foot_perm hm
  have fe : foot ((a, M.lst (ns.map D.int)) :: μ.eraseIdx i) = a :: ([] ++ foot (μ.eraseIdx i)) := rfl
  have m' : OkM K H ((a, M.lst (ns.map D.int)) :: μ.eraseIdx i) := by
    refine ⟨by rw [fe]; exact hp.nodup_iff.mp ok.m.nd, fun p hp' => ?_⟩
    rcases List.mem_cons.mp hp' with rfl | hp'
    · exact ⟨_, e1, DenL.of_ints ns⟩
    · exact ok.m.ok p ((erase_sub μ i).subset hp')
  have st : Step μ H ((a, M.lst (ns.map D.int)) :: μ.eraseIdx i) H := ⟨fun _ _ z _ => z, fun x z => by rw [fe] at z; exact .inl (hp.mem_iff.mpr z)⟩
  exact h ns h1 σ H (ok.step st m') Dn (fun σ' H' δ' μ' s => n σ' H' δ' μ' (st.trans s)) (fun v H' d μ' s => r v H' d μ' (st.trans s)) (fun σ' H' δ' μ' s => b σ' H' δ' μ' (st.trans s)) (fun σ' H' δ' μ' s => cc σ' H' δ' μ' (st.trans s))
theorem weak_closeH {i : Nat} {I : List Int → Prop} {xs : List D} {ns : List Int} (hm : μ[i]? = some (a, .hid I)) (e1 : xs = ns.map D.int) (h1 : I ns) :
    Weak ((a, .lst xs) :: μ.eraseIdx i) μ := fun K H o => by
  have hp := foot_perm hm
  have fe : foot ((a, M.lst xs) :: μ.eraseIdx i) = a :: ([] ++ foot (μ.eraseIdx i)) := rfl
  subst e1
  refine ⟨⟨hp.nodup_iff.mpr (by rw [fe] at *; exact o.nd), fun p hp' => ?_⟩, fun x z => by rw [fe]; exact hp.mem_iff.mp z⟩
  obtain ⟨j, hj⟩ := List.getElem?_of_mem hp'
  by_cases cji : j = i
  · subst cji
    rw [hm] at hj
    cases hj
    obtain ⟨ks, ek, dk⟩ := o.ok _ List.mem_cons_self
    have q2 := dk.ints
    subst q2
    exact ⟨ns, h1, ek⟩
  · refine o.ok p (List.mem_cons_of_mem _ ?_)
    refine List.mem_eraseIdx_iff_getElem?.mpr ⟨j, cji, hj⟩
theorem weak_deckH {p : Addr} {I : List Int → Prop} {ns : List Int} {xs : List D} (e : xs = ns.map D.int) (h : I ns) : Weak ((p, .lst xs) :: μ) ((p, .hid I) :: μ) :=
  weak_closeH (i := 0) (μ := (p, .hid I) :: μ) rfl e h
def Hd (I : List Int → Prop) (μ : Mu) (d : Addr) : Prop := ∃ i : Nat, μ[i]? = some (d, .hid I)
theorem Hd.here {I : List Int → Prop} {d : Addr} : Hd I ((d, .hid I) :: μ) d := ⟨0, rfl⟩
theorem Hd.cons {I : List Int → Prop} {d : Addr} {p : Addr × M} (h : Hd I μ d) : Hd I (p :: μ) d := let ⟨i, e⟩ := h; ⟨i + 1, by simpa using e⟩
theorem Hd.app {I : List Int → Prop} {d : Addr} {ν : Mu} (h : Hd I μ d) : Hd I (ν ++ μ) d := by
  obtain ⟨i, e⟩ := h
  exact ⟨ν.length + i, by rw [List.getElem?_append_right (by omega), Nat.add_sub_cancel_left]; exact e⟩
/-! ### a list behind its cells, out of sight -/
theorem s_openC {i : Nat} {I : List Int → Prop} {c : Addr} (hm : μ[i]? = some (a, .lkc I c)) (h : ∀ ns cs : List Int, I ns → cs.length ≤ 63 → S4 K ts δ ((a, .lst (.ref c :: ns.map D.int)) :: (c, .lst (cs.map D.int)) :: μ.eraseIdx i) N R B C) : S4 K ts δ μ N R B C := fun σ H ok Dn n r b cc => by
  obtain ⟨ns, cs, h1, h2, e1, e2⟩ := ok.m.at hm
  have hp := foot_perm hm
  have fe : foot ((a, M.lst (.ref c :: ns.map D.int)) :: (c, .lst (cs.map D.int)) :: μ.eraseIdx i) = a :: ([c] ++ foot (μ.eraseIdx i)) := rfl
  have m' : OkM K H ((a, M.lst (.ref c :: ns.map D.int)) :: (c, .lst (cs.map D.int)) :: μ.eraseIdx i) := by
    refine ⟨by rw [fe]; exact hp.nodup_iff.mp ok.m.nd, fun p hp' => ?_⟩
    rcases List.mem_cons.mp hp' with rfl | hp'
    · exact ⟨_, e1, .cons (.ref c) (DenL.of_ints ns)⟩
    rcases List.mem_cons.mp hp' with rfl | hp'
    · exact ⟨_, e2, DenL.of_ints cs⟩
    · exact ok.m.ok p ((erase_sub μ i).subset hp')
  have st : Step μ H ((a, M.lst (.ref c :: ns.map D.int)) :: (c, .lst (cs.map D.int)) :: μ.eraseIdx i) H := ⟨fun _ _ z _ => z, fun x z => by rw [fe] at z; exact .inl (hp.mem_iff.mpr z)⟩
  exact h ns cs h1 h2 σ H (ok.step st m') Dn (fun σ' H' δ' μ' s => n σ' H' δ' μ' (st.trans s)) (fun v H' d μ' s => r v H' d μ' (st.trans s)) (fun σ' H' δ' μ' s => b σ' H' δ' μ' (st.trans s)) (fun σ' H' δ' μ' s => cc σ' H' δ' μ' (st.trans s))
theorem weak_closeC {i : Nat} {I : List Int → Prop} {c : Addr} {xs ds : List D} {ns cs : List Int} (hm : μ[i]? = some (a, .lkc I c)) (e1 : xs = .ref c :: ns.map D.int) (e2 : ds = cs.map D.int) (h1 : I ns) (h2 : cs.length ≤ 63) :
    Weak ((a, .lst xs) :: (c, .lst ds) :: μ.eraseIdx i) μ := fun K H o => by
  have hp := foot_perm hm
  have fe : foot ((a, M.lst xs) :: (c, .lst ds) :: μ.eraseIdx i) = a :: ([c] ++ foot (μ.eraseIdx i)) := rfl
  subst e1 e2
  refine ⟨⟨hp.nodup_iff.mpr (by rw [fe] at *; exact o.nd), fun p hp' => ?_⟩, fun x z => by rw [fe]; exact hp.mem_iff.mp z⟩
  obtain ⟨j, hj⟩ := List.getElem?_of_mem hp'
  by_cases cji : j = i
  · subst cji
    rw [hm] at hj
    cases hj
    obtain ⟨ks, ek, dk⟩ := o.ok _ List.mem_cons_self
    obtain ⟨vs, ev, dv⟩ := o.ok _ (List.mem_cons_of_mem _ List.mem_cons_self)
    have q2 := dv.ints
    subst q2
    cases dk with
    | cons a1 b1 =>
      cases a1
      have q3 := b1.ints
      subst q3
      exact ⟨ns, cs, h1, h2, ek, ev⟩
  · refine o.ok p (List.mem_cons_of_mem _ (List.mem_cons_of_mem _ ?_))
    refine List.mem_eraseIdx_iff_getElem?.mpr ⟨j, cji, hj⟩
theorem weak_deckC {p q : Addr} {I : List Int → Prop} {ns cs : List Int} {xs : List D} (e : xs = .ref q :: ns.map D.int) (h1 : I ns) (h2 : cs.length ≤ 63) : Weak ((p, .lst xs) :: (q, .lst (cs.map D.int)) :: μ) ((p, .lkc I q) :: μ) :=
  weak_closeC (i := 0) (μ := (p, .lkc I q) :: μ) rfl e rfl h1 h2
def Cd (I : List Int → Prop) (μ : Mu) (d : Addr) : Prop := ∃ (i : Nat) (c : Addr), μ[i]? = some (d, .lkc I c)
theorem Cd.here {I : List Int → Prop} {d c : Addr} : Cd I ((d, .lkc I c) :: μ) d := ⟨0, c, rfl⟩
theorem Cd.cons {I : List Int → Prop} {d : Addr} {p : Addr × M} (h : Cd I μ d) : Cd I (p :: μ) d := let ⟨i, c, e⟩ := h; ⟨i + 1, c, by simpa using e⟩
theorem Cd.app {I : List Int → Prop} {d : Addr} {ν : Mu} (h : Cd I μ d) : Cd I (ν ++ μ) d := by
  obtain ⟨i, c, e⟩ := h
  exact ⟨ν.length + i, c, by rw [List.getElem?_append_right (by omega), Nat.add_sub_cancel_left]; exact e⟩
end
/-! ### xs[k] += e -/
def rGetL (K : PySem.W.Frag) : R2 := rIxL K
theorem get_list {X : Cx} {K : PySem.W.Frag} (hK : X.K = K) : PGet X (rGetL K) := by
  subst hK
  intro pins s σ H x y v u Q I rx ry h
  obtain ⟨p, xs, i, z, rfl, rfl, hq, he, q⟩ := h
  cases rx
  obtain ⟨t, rfl⟩ := ry
  obtain ⟨its, r, pl, hz⟩ := I.list hq
  obtain ⟨j, h1, h2, h3, h4, h5⟩ := atI_get he
  obtain ⟨w, ew, rw'⟩ := r.get h2
  have hl := r.length
  have hn := line63
  have fin : EP X pins σ Q w s := ⟨z, H, I, rw', q⟩
  by_cases h0 : 0 ≤ i
  · have hj : i.toNat = j := by
      rw [seqIndex_of h0 h5] at h1
      exact Option.some.inj h1
    exact wpAny_getItem_list pl.isList h0 (by omega) (by rw [hj]; simpa using ew) fin
  · have hj : (i + (its.toArray.size : Int)).toNat = j := by
      rw [seqIndex_neg (by omega) h4] at h1
      rw [List.size_toArray, ← hl]
      exact Option.some.inj h1
    exact wpAny_getItem_list_neg pl.isList (by omega) (by rw [List.size_toArray] <;> omega) (by omega) (by rw [hj]; simpa using ew) fin
def tAugL (K : PySem.W.Frag) (to ti te : TE) (tip : TIp) : TS := tAugS to ti te (rGetL K) tip rSetL
theorem ps_augL {X : Cx} {K : PySem.W.Frag} (hK : X.K = K) {o i e : Expr} {to ti te : TE} {tip : TIp} {op : Operator} {pos tpos : Pos} (ho : PE X o to) (hi : PE X i ti) (he : PE X e te) (hp : PIp X op tip)
    (ha : ∀ ov iv new, augStore i ov iv new = (do holding [new, ov, iv] (setItem ov iv new); release [new, ov, iv] []; pure .next) := by intros; rfl) : PS X (.AugAssign (.Subscript o i tpos) op e pos) (tAugL K to ti te tip) :=
  ps_augS ho hi (get_list hK) he hp set_list ha
section
variable {K : PySem.W.Frag} {δ : Dl} {μ μ' : Mu} {N B C : Dl → Mu → Prop} {R : D → Mu → Prop} {to ti te : TE} {tip : TIp}
def AugQ (N : Dl → Mu → Prop) (δ : Dl) (a : Addr) (n : Int) (z : D) (μ5 : Mu) : Prop := ∃ (j : Nat) (xs : List D) (k : Nat) (μ6 : Mu), μ5[j]? = some (a, M.lst xs) ∧ ixN xs.length n = some k ∧ μ5.set j (a, .lst (xs.set k z)) = μ6 ∧ N δ μ6
def AugP (K : PySem.W.Frag) (δ : Dl) (te : TE) (tip : TIp) (N : Dl → Mu → Prop) (o i : D) (μ2 : Mu) : Prop := ∃ (a : Addr) (j : Nat) (xs : List D) (n : Int) (d : D), o = .ref a ∧ i = .int n ∧ μ2[j]? = some (a, M.lst xs) ∧ atI xs n = some d ∧
  W K te δ μ2 fun y μ4 => W2 K tip d y μ4 fun z μ5 => AugQ N δ a n z μ5
theorem s_augL (h : W K to δ μ fun o μ1 => W K ti δ μ1 fun i μ2 => AugP K δ te tip N o i μ2) : S4 K (tAugL K to ti te tip) δ μ N R B C := fun σ H ok Dn n r b c =>
  h σ H ok _ fun o H1 do1 μ1 s1 m1 r1 h1 => h1 σ H1 (ok.step s1 m1) _ fun i H2 di μ2 s2 m2 r2 ⟨a, j, xs, nn, d, e1, e2, hm, hk, q⟩ => by
    subst e1 e2
    cases r1
    cases r2
    obtain ⟨ws, hv, hl⟩ := m2.at hm
    obtain ⟨v, hv2, rv⟩ := at_den hl hk
    refine ⟨_, _, _, v, rfl, rfl, .inl (.inl hv), hv2, ?_⟩
    refine q σ H2 (ok.step (s1.trans s2) m2) _ fun y H4 dy μ4 s4 m4 r4 q4 => ?_
    refine q4 H4 v y m4 (rv.step m2 s4) r4 _ fun z H5 dz μ5 s5 m5 r5 ⟨j', xs', k, μ6, hm5, hk5, e6, q6⟩ => ?_
    subst e6
    obtain ⟨ws', hv', hl'⟩ := m5.at hm5
    have st : Step μ5 H5 (μ5.set j' (a, .lst (xs'.set k dz))) (upd H5 a (.lst (ws'.set k z))) := step_set hm5 rfl
    have s12 := (((s1.trans s2).trans s4).trans s5)
    refine ⟨_, _, _, k, rfl, rfl, hv', by rw [hl'.length]; exact hk5, ?_⟩
    exact n σ _ δ _ (s12.trans st) ((ok.step s12 m5).step st (m5.set hm5 rfl ⟨_, upd_same, (DenL.set r5 k hl').step m5 st⟩)) q6
theorem aug_in {α : Type} {f : α → D} {es : List α} {e : α} {a : Addr} {k : Nat} {μ2 : Mu} (hm : Lk (es.map f) μ2 a) (hk : es[k]? = some e) (q : W K te δ μ2 fun y μ4 => W2 K tip (f e) y μ4 fun z μ5 => AugQ N δ a (k : Int) z μ5) : AugP K δ te tip N (.ref a) (.int (k : Nat)) μ2 := by
  obtain ⟨j, hj⟩ := hm
  refine ⟨a, j, _, _, f e, rfl, rfl, hj, ?_, q⟩
  have hl : k < (es.map f).length := by rw [List.length_map]; exact (List.getElem?_eq_some_iff.mp hk).1
  unfold atI ixN
  rw [if_pos (by omega), if_pos (by omega)]
  show (es.map f)[(k : Int).toNat]? = _
  rw [Int.toNat_natCast, List.getElem?_map, hk]; rfl
theorem aug_out {xs : List D} {a : Addr} {j k : Nat} {z : D} {μ5 μ6 : Mu} (hm : μ5[j]? = some (a, M.lst xs)) (hk : k < xs.length) (h : μ5.set j (a, .lst (xs.set k z)) = μ6) (q : N δ μ6) : AugQ N δ a (k : Int) z μ5 := by
  refine ⟨j, xs, k, μ6, hm, ?_, h, q⟩
  unfold ixN
  rw [if_pos (by omega), if_pos (by omega), Int.toNat_natCast]
theorem w2_ipI {f : Int → Int → Int} {i j : Int} {P : D → Mu → Prop} (q : P (.int (f i j)) μ) : W2 K (ipI f) (.int i) (.int j) μ P := w2_i (f := f) q
/-! ### divmod(n, k)[i] -/
theorem k_divmod {X : Cx} {K : PySem.W.Frag} (_h : X.K = K) : CallR X (.builtin "divmod") (fun xs H Q => ∃ i j, xs = [.int i, .int j] ∧ CDivP i j ∧ ∀ p, H p = none → Q (.ref p) (upd H p (.tup [.int (i / j), .int (i % j)]))) := call_divmodW
theorem wc_divmod {i j : Int} {P : D → Mu → Prop} (h : CDivP i j) (q : P (.tup [.int (i / j), .int (i % j)]) μ) : WC K (fun xs H Q => ∃ i j, xs = [V.int i, V.int j] ∧ CDivP i j ∧ ∀ p, H p = none → Q (.ref p) (upd H p (.tup [.int (i / j), .int (i % j)]))) [.int i, .int j] μ P := fun H vs m r Q k => by
  have e := DenL.ints (ns := [i, j]) r
  subst e
  refine ⟨i, j, rfl, h, fun p hp => ?_⟩
  have st : Step μ H μ (upd H p (.tup [.int (i / j), .int (i % j)])) := step_new hp
  exact k _ _ _ μ st (m.new hp) (.tup upd_same (.cons (.int _) (.cons (.int _) .nil))) q
theorem cdivp_small {i j : Int} (hj : 0 < j) (h1 : -(2 ^ 200) < i) (h2 : i < 2 ^ 200) : CDivP i j :=
  divp_ok hj (Nat.le_trans (PyProof.Rows.intBits_le (k := 200) (by omega)) (by omega))
end
end Wk

set_option Elab.async false
set_option linter.all false
set_option maxRecDepth 100000
namespace WkE
open PySem PySem.Spec L2 PyProof.Rows
/-! what is walked: a list or a tuple -/
section
variable {X : Cx} {tg : Expr}
def iSeqU (K : PySem.W.Frag) (tl : TE) : TI := fun σ H R => tl σ H fun x H1 => ∃ a, x = .ref a ∧ (((∃ xs, SqL K H1 a xs) ∧ R (Itl K a) H1) ∨ ((∃ xs, SqT K H1 a xs) ∧ R (Itt K a) H1))
theorem pi_seqU {l : Expr} {tl : TE} (hl : PE X l tl) : PI X tg l (iSeqU X.K tl) := by
  refine ⟨fun pins s σ H R I h => ?_⟩
  refine thn (hl.run pins s σ H _ I h) fun v s1 ⟨x, H1, I1, r1, q1⟩ => ?_
  obtain ⟨a, e, q1⟩ := q1
  subst e
  cases r1
  rcases q1 with ⟨⟨xs, hq⟩, q⟩ | ⟨⟨xs, hq⟩, q⟩
  · obtain ⟨its, rv, p, hz⟩ := I1.list hq
    refine wpAny_pyIter_list p.isList ?_
    refine ⟨s1.heap.objs.size, [s1.heap.objs.size], _, _, H1, rfl, I1.kept (t' := s1.toks) fun b o e => Heap.get?_push_of_some _ e, turn_list a _, ⟨_, Heap.get?_push_size _ rfl, rfl, rfl⟩, fun b hb => ?_, q⟩
    have e : b = s1.heap.objs.size := by simpa using hb
    subst e
    exact I1.fpOk (Nat.le_refl _) (I1.hok.fresh (Nat.le_refl _))
  · obtain ⟨its, rv, p, hz⟩ := I1.tuple hq
    refine wpAny_pyIter_tuple (show s1.heap.IsTuple a its.toArray from p) ?_
    refine ⟨s1.heap.objs.size, [s1.heap.objs.size], _, _, H1, rfl, I1.kept (t' := s1.toks) fun b o e => Heap.get?_push_of_some _ e, turn_tuple a _, ⟨_, Heap.get?_push_size _ rfl, rfl, rfl⟩, fun b hb => ?_, q⟩
    have e : b = s1.heap.objs.size := by simpa using hb
    subst e
    exact I1.fpOk (Nat.le_refl _) (I1.hok.fresh (Nat.le_refl _))
theorem k_iU {K : PySem.W.Frag} (h : X.K = K) {l : Expr} {tl : TE} (hl : PE X l tl) : PI X tg l (iSeqU K tl) := h ▸ pi_seqU hl
def iEnumU (K : PySem.W.Frag) (ta : TA) : TI := fun σ H R => ta σ H fun vs H1 => ∃ a, vs = [.ref a] ∧ ((∃ xs, SqL K H1 a xs ∧ R (Ite K a) H1) ∨ (∃ xs, SqT K H1 a xs ∧ R (IteT K a) H1))
theorem pi_enumU {e : Expr} {ta : TA} {p pos tpos : Pos} {elts : List Expr} {kk : Nat} (hg : Gl X "enumerate") (hm : X.mg "enumerate" = none) (ha : PA X [e] ta) (hs : starEach [e] X.env = [(false, eval e X.env)] := by rfl) :
    PI X (.Tuple elts kk tpos) (.Call (.Name "enumerate" p) [e] [] pos) (iEnumU X.K ta) := by
  refine ⟨fun pins s σ H R I h => ?_⟩
  refine Call_ (ld_blt I hg hm boot_enumerate (PyProof.Rows.callWith_type1 (thn (ha.run pos pins s σ H _ I h) fun us s1 ⟨vs, H1, I1, r1, q1⟩ => ?_) hs rfl))
  obtain ⟨a, ex, q1⟩ := q1
  subst ex
  cases r1 with
  | cons r rr =>
    cases rr
    cases r
    rcases q1 with ⟨xs, hq, q⟩ | ⟨xs, hq, q⟩
    · obtain ⟨its, rv, p', hz⟩ := I1.list hq
      refine call_enumerate_list p'.isList fun h' he hit hsz hk => wpAny_pyIter_enum he ?_
      have I2 : Inv X pins σ H1 { s1 with heap := h' } := I1.kept (t' := s1.toks) hk
      refine ⟨s1.heap.objs.size + 1, [s1.heap.objs.size + 1, s1.heap.objs.size], _, _, H1, rfl, I2, turn_enum a (s1.heap.objs.size + 1) s1.heap.objs.size, ⟨⟨.none, he⟩, hit, Nat.succ_ne_self _⟩, fun b hb => ?_, q⟩
      have e' : b = s1.heap.objs.size + 1 ∨ b = s1.heap.objs.size := by simpa using hb
      have hle : s1.heap.objs.size ≤ b := by
        rcases e' with z | z
        · rw [z]; exact Nat.le_add_right _ _
        · rw [z]; exact Nat.le_refl _
      exact I1.fpOk hle (I1.hok.fresh hle)
    · obtain ⟨its, rv, p', hz⟩ := I1.tuple hq
      obtain ⟨ot, hot, hct, nt, hdt⟩ := p'
      have hal : a < s1.heap.objs.size := Heap.lt_size hot
      refine call_enumerate_tuple ⟨ot, hot, hct, nt, hdt⟩ fun h' he hit hsz hk => wpAny_pyIter_enum he ?_
      have I2 : Inv X pins σ H1 { s1 with heap := h' } := I1.kept (t' := s1.toks) hk
      refine ⟨s1.heap.objs.size + 1, [s1.heap.objs.size + 1, s1.heap.objs.size], _, _, H1, rfl, I2, turn_enumT a (s1.heap.objs.size + 1) s1.heap.objs.size, ⟨⟨.none, he⟩, hit, Nat.succ_ne_self _, Nat.ne_of_lt hal, Nat.ne_of_gt (Nat.lt_succ_of_lt hal)⟩, fun b hb => ?_, q⟩
      have e' : b = s1.heap.objs.size + 1 ∨ b = s1.heap.objs.size := by simpa using hb
      have hle : s1.heap.objs.size ≤ b := by
        rcases e' with z | z
        · rw [z]; exact Nat.le_add_right _ _
        · rw [z]; exact Nat.le_refl _
      exact I1.fpOk hle (I1.hok.fresh hle)
theorem k_enumU {K : PySem.W.Frag} {e : Expr} {ta : TA} {p pos tpos : Pos} {elts : List Expr} {kk : Nat} (h : X.K = K) (hg : Gl X "enumerate") (hm : X.mg "enumerate" = none) (ha : PA X [e] ta) (hs : starEach [e] X.env = [(false, eval e X.env)] := by rfl) :
    PI X (.Tuple elts kk tpos) (.Call (.Name "enumerate" p) [e] [] pos) (iEnumU K ta) := h ▸ pi_enumU hg hm ha hs
end
end WkE
namespace Wk
open PySem PySem.Spec L2 WkE
section
variable {K : PySem.W.Frag} {δ : Dl} {μ : Mu} {ta : TE} {al : TA}
/-- what stands behind it: by kind -/
def SeqU (x : D) (μ : Mu) (PI : List D → (Mu → Prop) → Mu → Prop) : Prop := (∃ (a : Addr) (ds : List D), x = .ref a ∧ Lk ds μ a ∧ PI ds (fun μ' => (a, M.lst ds) ∈ μ') μ) ∨ ((∃ ds, x = .tup ds ∧ PI ds (fun _ => True) μ) ∨ ∃ ds, x = .lis ds ∧ PI ds (fun _ => True) μ)
theorem sequ_t {ds : List D} {PI : List D → (Mu → Prop) → Mu → Prop} (q : PI ds (fun _ => True) μ) : SeqU (.tup ds) μ PI := .inr (.inl ⟨ds, rfl, q⟩)
theorem sequ_i {ds : List D} {PI : List D → (Mu → Prop) → Mu → Prop} (q : PI ds (fun _ => True) μ) : SeqU (.lis ds) μ PI := .inr (.inr ⟨ds, rfl, q⟩)
theorem sequ_l {a : Addr} {ds : List D} {PI : List D → (Mu → Prop) → Mu → Prop} (h : Lk ds μ a) (q : PI ds (fun μ' => (a, M.lst ds) ∈ μ') μ) : SeqU (.ref a) μ PI := .inl ⟨a, ds, rfl, h, q⟩
theorem wi_seqU {PI : List D → (Mu → Prop) → Mu → Prop} (h : W K ta δ μ fun x μ1 => SeqU x μ1 PI) : WI K (iSeqU K ta) δ μ PI := fun σ H ok R f =>
  h σ H ok _ fun v H1 x μ1 s1 m1 r1 u => by
    rcases u with ⟨a, ds, e, ⟨j, hm⟩, p⟩ | ⟨ds, e, p⟩ | ⟨ds, e, p⟩
    · subst e
      cases r1
      obtain ⟨vs, hv, hl⟩ := m1.at hm
      refine ⟨_, rfl, .inl ⟨⟨_, .inl (.inl hv)⟩, f _ H1 ds _ μ1 s1 m1 (fun H2 μ2 s2 m2 g => ?_) p⟩⟩
      obtain ⟨ws, hw, hl2⟩ := m2.ok _ g
      refine ⟨fun i hi => ⟨_, .inl (.inl hw), by rw [hl2.length]; exact hi⟩, fun i d hd => ?_⟩
      obtain ⟨w, ew, rw'⟩ := hl2.get hd
      refine ⟨⟨_, w, .inl (.inl hw), ew⟩, fun x H' hy => ?_⟩
      obtain ⟨e1, e2⟩ := hy
      subst e1
      have e3 := e2 _ (.inl (.inl hw))
      rw [ew] at e3
      cases e3
      exact ⟨.refl, m2, rw'⟩
    · subst e
      cases r1 with
      | tup hs_ hl =>
        have hs := TpA.sqt hs_
        refine ⟨_, rfl, .inr ⟨⟨_, hs⟩, f _ H1 ds _ μ1 s1 m1 (fun H2 μ2 s2 m2 _ => ?_) p⟩⟩
        have hs2 := sqT_step m1 s2 hs
        have hl2 := hl.step m1 s2
        refine ⟨fun i hi => ⟨_, hs2, by rw [hl2.length]; exact hi⟩, fun i d hd => ?_⟩
        obtain ⟨w, ew, rw'⟩ := hl2.get hd
        refine ⟨⟨_, w, hs2, ew⟩, fun x H' hy => ?_⟩
        obtain ⟨e1, e2⟩ := hy
        subst e1
        have e3 := e2 _ hs2
        rw [ew] at e3
        cases e3
        exact ⟨.refl, m2, rw'⟩
    · subst e
      cases r1 with
      | lis hq hl =>
        refine ⟨_, rfl, .inl ⟨⟨_, .inl (.inr ⟨_, hq⟩)⟩, f _ H1 ds _ μ1 s1 m1 (fun H2 μ2 s2 m2 _ => ?_) p⟩⟩
        have hw := (ps_step m1 s2).2.2 _ _ _ hq
        have hl2 := hl.step m1 s2
        refine ⟨fun i hi => ⟨_, .inl (.inr ⟨_, hw⟩), by rw [hl2.length]; exact hi⟩, fun i d hd => ?_⟩
        obtain ⟨w, ew, rw'⟩ := hl2.get hd
        refine ⟨⟨_, w, .inl (.inr ⟨_, hw⟩), ew⟩, fun x H' hy => ?_⟩
        obtain ⟨e1, e2⟩ := hy
        subst e1
        have e3 := e2 _ (.inl (.inr ⟨_, hw⟩))
        rw [ew] at e3
        cases e3
        exact ⟨.refl, m2, rw'⟩
def EnumU (x : D) (μ : Mu) (PI : List D → (Mu → Prop) → Mu → Prop) : Prop := (∃ (a : Addr) (ds : List D), x = .ref a ∧ Lk ds μ a ∧ PI (enumD ds) (fun μ' => (a, M.lst ds) ∈ μ') μ) ∨ ((∃ ds, x = .tup ds ∧ PI (enumD ds) (fun _ => True) μ) ∨ ∃ ds, x = .lis ds ∧ PI (enumD ds) (fun _ => True) μ)
theorem enumu_t {ds : List D} {PI : List D → (Mu → Prop) → Mu → Prop} (q : PI (enumD ds) (fun _ => True) μ) : EnumU (.tup ds) μ PI := .inr (.inl ⟨ds, rfl, q⟩)
theorem enumu_i {ds : List D} {PI : List D → (Mu → Prop) → Mu → Prop} (q : PI (enumD ds) (fun _ => True) μ) : EnumU (.lis ds) μ PI := .inr (.inr ⟨ds, rfl, q⟩)
theorem enumu_l {a : Addr} {ds : List D} {PI : List D → (Mu → Prop) → Mu → Prop} (h : Lk ds μ a) (q : PI (enumD ds) (fun μ' => (a, M.lst ds) ∈ μ') μ) : EnumU (.ref a) μ PI := .inl ⟨a, ds, rfl, h, q⟩
theorem enumu_in {x : D} {PI : List D → (Mu → Prop) → Mu → Prop} (q : EnumU x μ PI) : ∃ y, [x] = [y] ∧ EnumU y μ PI := ⟨x, rfl, q⟩
theorem wi_enumU {PI : List D → (Mu → Prop) → Mu → Prop} (h : WA K al δ μ fun ds μ1 => ∃ x, ds = [x] ∧ EnumU x μ1 PI) : WI K (iEnumU K al) δ μ PI := fun σ H ok R f =>
  h σ H ok _ fun vs H1 ds0 μ1 s1 m1 r1 ⟨x, e0, u⟩ => by
    subst e0
    cases r1 with
    | cons r rr =>
      cases rr
      rcases u with ⟨a, ds, e, ⟨j, hm⟩, p⟩ | ⟨ds, e, p⟩ | ⟨ds, e, p⟩
      · subst e
        cases r
        obtain ⟨vs, hv, hl⟩ := m1.at hm
        refine ⟨_, rfl, .inl ⟨_, .inl (.inl hv), f _ H1 (enumD ds) _ μ1 s1 m1 (fun H2 μ2 s2 m2 g => ?_) p⟩⟩
        obtain ⟨ws, hw, hl2⟩ := m2.ok _ g
        refine ⟨fun i hi => ⟨_, .inl (.inl hw), by rw [hl2.length]; rw [enumD_length] at hi; exact hi⟩, fun i d hd => ?_⟩
        obtain ⟨x, hx, rfl⟩ := enumD_get hd
        obtain ⟨w, ew, rw'⟩ := hl2.get hx
        refine ⟨⟨_, w, .inl (.inl hw), ew⟩, fun x' H' hy => ?_⟩
        obtain ⟨T, x2, rfl, hT, rfl, hall⟩ := hy
        have e3 := hall _ (.inl (.inl hw))
        rw [ew] at e3
        cases e3
        refine ⟨step_new hT, m2.new hT, .tup upd_same (.cons (.int _) (.cons (rw'.step m2 (step_new hT)) .nil))⟩
      · subst e
        cases r with
        | tup hs_ hl =>
          have hs := TpA.sqt hs_
          refine ⟨_, rfl, .inr ⟨_, hs, f _ H1 (enumD ds) _ μ1 s1 m1 (fun H2 μ2 s2 m2 _ => ?_) p⟩⟩
          have hs2 := sqT_step m1 s2 hs
          have hl2 := hl.step m1 s2
          refine ⟨fun i hi => ⟨_, hs2, by rw [hl2.length]; rw [enumD_length] at hi; exact hi⟩, fun i d hd => ?_⟩
          obtain ⟨x, hx, rfl⟩ := enumD_get hd
          obtain ⟨w, ew, rw'⟩ := hl2.get hx
          refine ⟨⟨_, w, hs2, ew⟩, fun x' H' hy => ?_⟩
          obtain ⟨T, x2, rfl, hT, rfl, hall⟩ := hy
          have e3 := hall _ hs2
          rw [ew] at e3
          cases e3
          refine ⟨step_new hT, m2.new hT, .tup upd_same (.cons (.int _) (.cons (rw'.step m2 (step_new hT)) .nil))⟩
      · subst e
        cases r with
        | lis hq hl =>
          refine ⟨_, rfl, .inl ⟨_, .inl (.inr ⟨_, hq⟩), f _ H1 (enumD ds) _ μ1 s1 m1 (fun H2 μ2 s2 m2 _ => ?_) p⟩⟩
          have hw := (ps_step m1 s2).2.2 _ _ _ hq
          have hl2 := hl.step m1 s2
          refine ⟨fun i hi => ⟨_, .inl (.inr ⟨_, hw⟩), by rw [hl2.length]; rw [enumD_length] at hi; exact hi⟩, fun i d hd => ?_⟩
          obtain ⟨x, hx, rfl⟩ := enumD_get hd
          obtain ⟨w, ew, rw'⟩ := hl2.get hx
          refine ⟨⟨_, w, .inl (.inr ⟨_, hw⟩), ew⟩, fun x' H' hy => ?_⟩
          obtain ⟨T, x2, rfl, hT, rfl, hall⟩ := hy
          have e3 := hall _ (.inl (.inr ⟨_, hw⟩))
          rw [ew] at e3
          cases e3
          refine ⟨step_new hT, m2.new hT, .tup upd_same (.cons (.int _) (.cons (rw'.step m2 (step_new hT)) .nil))⟩
end
end Wk

set_option Elab.async false
set_option linter.all false
set_option maxRecDepth 100000
namespace Wk
open PySem PySem.Spec L2 WkE
section
variable {K : PySem.W.Frag} {δ : Dl} {μ : Mu} {P : D → Mu → Prop}
/-- d.get(k, x) -/
theorem w_dget2 {td ty tx : TE} (h : W K td δ μ fun x μ1 => ∃ (a : Addr) (j : Nat) (kds : List (Key × D)), x = .ref a ∧ μ1[j]? = some (a, M.dic kds) ∧ W K ty δ μ1 fun y μ2 => W K tx δ μ2 fun z μ3 => ∃ (j3 : Nat) (kds3 : List (Key × D)) (k : Key) (d : D), y = kD k ∧ μ3[j3]? = some (a, M.dic kds3) ∧ (valD kds3 k).getD z = d ∧ P d μ3) : W K (tDGet2 td ty tx) δ μ P := fun σ H ok Q f =>
  h σ H ok _ fun v H1 x μ1 s1 m1 r1 ⟨a, j, kds, e1, hm, h1⟩ => by
    subst e1
    cases r1
    obtain ⟨kvs0, hd0, _⟩ := m1.at hm
    refine ⟨a, rfl, .inl ⟨kvs0, .inl hd0⟩, ?_⟩
    exact h1 σ H1 (ok.step s1 m1) _ fun u H2 y μ2 s2 m2 r2 h2 => h2 σ H2 (ok.step (s1.trans s2) m2) _ fun u3 H3 z μ3 s3 m3 r3 ⟨j3, kds3, k, _, e2, hm3, e3, q⟩ => by
      subst e2 e3
      have e := den_kD r2
      subst e
      obtain ⟨kvs, hd, hl⟩ := m3.at hm3
      refine ⟨valV kvs k, DGet.k hd, ?_⟩
      cases c : valD kds3 k with
      | none =>
        rw [(hl.val (k := k)).1 c]
        rw [c] at q
        exact f _ H3 _ μ3 (s1.trans (s2.trans s3)) m3 r3 q
      | some d =>
        obtain ⟨w, hw, rw'⟩ := (hl.val (k := k)).2 d c
        rw [hw]
        rw [c] at q
        exact f _ H3 _ μ3 (s1.trans (s2.trans s3)) m3 rw' q
theorem dget2_N {Q : D → Prop} {kds : List (Key × D)} {f : Nat → Option D} {a : Addr} {k : Nat} {d z : D} (hm : Ck kds μ a) (hf : DicN kds f) (hv : (f k).getD z = d) (q : Q d) : ∃ (j3 : Nat) (kds3 : List (Key × D)) (k' : Key) (d' : D), D.int (k : Int) = kD k' ∧ μ[j3]? = some (a, M.dic kds3) ∧ (valD kds3 k').getD z = d' ∧ Q d' := by
  obtain ⟨j, hj⟩ := hm
  exact ⟨j, kds, .inl k, d, rfl, hj, by rw [hf k, hv], q⟩
theorem dget2_in {kds : List (Key × D)} {a : Addr} {Q : Prop} (hm : Ck kds μ a) (q : Q) : ∃ (a' : Addr) (j : Nat) (kds' : List (Key × D)), D.ref a = .ref a' ∧ μ[j]? = some (a', M.dic kds') ∧ Q := by
  obtain ⟨j, hj⟩ := hm
  exact ⟨a, j, kds, rfl, hj, q⟩
/-- a, b = x, y -/
theorem s_par {i j : Nat} {ta : TA} {N B C : Dl → Mu → Prop} {R : D → Mu → Prop} (h : WA K ta δ μ fun ds μ1 => ∃ d e δ', ds = [d, e] ∧ (δ.set i (some d)).set j (some e) = δ' ∧ N δ' μ1) : S4 K (tPar i j ta) δ μ N R B C := fun σ H ok Dn n r b c =>
  h σ H ok _ fun vs H1 ds μ1 s1 m1 r1 ⟨d, e, δ', e1, e2, q⟩ => by
    subst e1 e2
    cases r1 with
    | cons a r2 =>
      cases r2 with
      | cons a2 r3 =>
        cases r3
        exact ⟨_, _, rfl, n _ H1 _ μ1 s1 (((ok.step s1 m1).set a i).set a2 j) q⟩
theorem par_in {i j : Nat} {d e : D} {δ' : Dl} {Q : Dl → Prop} (h : (δ.set i (some d)).set j (some e) = δ') (q : Q δ') : ∃ d' e' δ', [d, e] = [d', e'] ∧ (δ.set i (some d')).set j (some e') = δ' ∧ Q δ' := ⟨d, e, δ', rfl, h, q⟩
end
end Wk

set_option Elab.async false
set_option linter.all false
set_option maxRecDepth 100000
set_option maxHeartbeats 2000000
/-! sorted(t) of a tuple of ints -/
namespace SrtO
open PySem PySem.Spec PyProof.Rows
section
variable {prog : Program} {w : World} {A : Around} {E : Value → Shared → Prop} {s : Shared}
/-- collecting a sequence: the new list stands in the way -/
theorem collect_at {Q : List Value → Shared → Prop} (it : Addr) {T : String} {o : Obj} {items : Array Value} {n : Nat} (hT : T = "list" ∨ T = "tuple")
    (ho : s.heap.get? it = some o) (hc : o.cls = .type T) (hd : o.data = .seq items n)
    (hQ : ∀ h', (∀ b o', s.heap.get? b = some o' → h'.get? b = some o') → s.heap.objs.size ≤ h'.objs.size → Q items.toList { s with heap := h' }) (hsz : items.size ≤ sizeLine) :
    wpAny (model prog w) A (collect (.ref it)) Q E s := by
  unfold collect
  refine wpAny_bind (wpAny_runValue (codeAny_builtin F.entry_proto_collect ?_))
  rw [Around.under_plainId F.plain_proto_collect _]
  show wpAny _ A.in1 (newList [] >>= fun l => again (.builtin "list.__iadd__" ⟨[l, .ref it], []⟩)) _ _ s
  refine wpAny_bind (wpAny_newObj_type ?_)
  refine wpAny_pure ⟨plainId_quiet F.plain_list_iadd _, codeAny_builtin F.entry_list_iadd ?_⟩
  rw [Around.under_plainId F.plain_list_iadd _]
  show wpAny _ A.in1 (Builtin.List.listExtendWith (.ref s.heap.objs.size) (.ref it) (.ref s.heap.objs.size)) _ _ _
  have hS : (s.heap.push { cls := .type "list", data := .seq ([] : List Value).toArray }).get? s.heap.objs.size = some { cls := .type "list", data := .seq #[] 0 } := Heap.get?_push_size _ rfl
  have hS₂ := Heap.get?_update_self (Obj.mapSeq (· ++ items)) hS rfl
  have fin' : wpAny (model prog w) A (match Value.ref s.heap.objs.size with
      | Value.ref a => do
        match (← load a).data with
          | Data.seq xs _ => pure xs.toList
          | _ => unsupported "internal:collect"
      | _ => unsupported "internal:collect") Q E { s with heap := (s.heap.push { cls := .type "list", data := .seq ([] : List Value).toArray }).update s.heap.objs.size (Obj.mapSeq (· ++ items)) } := by
    show wpAny _ A (load s.heap.objs.size >>= _) _ _ _
    refine wpAny_bind (wpAny_load hS₂ (wpAny_pure ?_))
    show Q ((#[] : Array Value) ++ items).toList _
    rw [show ((#[] : Array Value) ++ items).toList = items.toList by simp]
    exact hQ _ (fun b o' hb => (Heap.get?_update_other _ _ (Nat.ne_of_gt (Heap.lt_size hb))).trans (Heap.get?_push_of_some _ hb)) (by rw [Heap.size_update, Heap.size_push]; exact Nat.le_succ _)
  refine wpAny_mono (wpAny_extend_seq (hsz := hsz) (A := A) (R := fun r s' => r = .ok (.ret (.ref s.heap.objs.size)) ∧ s' = { s with heap := (s.heap.push { cls := .type "list", data := .seq ([] : List Value).toArray }).update s.heap.objs.size (Obj.mapSeq (· ++ items)) })
    (s := { s with heap := s.heap.push { cls := .type "list", data := .seq ([] : List Value).toArray } }) _ it _ 0 hT hS (Heap.get?_push_of_some _ ho) hc hd ⟨rfl, rfl⟩) (fun fin s' h => ?_) (fun e s' h => absurd h.1 (by simp))
  cases fin with
  | done f =>
    obtain ⟨e, rfl⟩ := h
    cases e
    exact fin'
  | again c' => exact ⟨h.1, codeAny_mono h.2 fun r s'' hr => by obtain ⟨rfl, rfl⟩ := hr; exact fin'⟩
theorem sorted_ordT {l : Addr} {vs : List Value} {ltv : Value → Value → Bool} {Q : Value → Shared → Prop} (O : Swo ltv) (hl : s.heap.IsTuple l vs.toArray) (hz : vs.length ≤ sizeLine)
    (hS : 2 ≤ vs.length → ∀ (h₁ : Heap) (a : Addr), SortableO prog w A.in1.in1 { s with heap := h₁ } a vs ltv)
    (h : ∀ (h' : Heap) (out : List Value), (∀ b o, s.heap.get? b = some o → h'.get? b = some o) → s.heap.objs.size ≤ h'.objs.size → Srtd ltv out → Stb ltv out vs → Q (.ref h'.objs.size) { s with heap := sortedHeap (h'.push (seqObj "list" vs.toArray 0)) h'.objs.size vs out.toArray }) :
    wpAny (model prog w) A (call (.builtin "sorted") [.ref l]) Q E s := by
  refine Calls.call_function_entry kind_sorted plain_sorted entry_sorted (args_sorted1 _) ?_
  unfold Builtin.«sorted»
  refine wpAny_bind (m := checkCount "sorted" 1 1 _) (wpAny_pure ?_)
  obtain ⟨o, ho, hc, n, hd⟩ := id hl
  refine wpAny_bind (collect_at l (.inr rfl) ho hc hd (fun h' hk hsz => ?_) (by rw [List.size_toArray]; exact hz))
  rw [show vs.toArray.toList = vs by simp]
  refine wpAny_bind (wpAny_newList ?_ hz)
  have hoL : (h'.push (seqObj "list" vs.toArray 0)).get? h'.objs.size = some (seqObj "list" vs.toArray 0) := Heap.get?_push_size _ rfl
  show wpAny _ _ _ _ _ { s with heap := h'.push (seqObj "list" vs.toArray 0) }
  refine wpAny_bind (wpAny_holding (wpAny_call_entry slot_list_sort ⟨_, hoL, rfl⟩ entry_list_sort (list_sort_ord (s := { s with heap := h'.push (seqObj "list" vs.toArray 0) }) O hoL hz (fun h2 => hS h2 _ _) fun out hs hb => ⟨_, rfl, ?_⟩) (args_list_sort _)))
  exact wpAny_pure ⟨_, rfl, h h' out hk hsz hs hb⟩
end
end SrtO
namespace Wk
open PySem PySem.Spec PyProof.Rows L2 WkE
/-- sorted(xs) of a list or of a tuple of ints -/
def rSortedG (K : PySem.W.Frag) : List V → Hp → VK → Prop := fun vs H Q => ∃ (a : Addr) (ns : List Int), vs = [V.ref a] ∧ (SqL K H a (ns.map V.int) ∨ SqT K H a (ns.map V.int)) ∧
  ∀ (ns' : List Int) (p : Addr), ns'.Perm ns → ns'.Pairwise (· ≤ ·) → H p = none → Q (.ref p) (upd H p (.lst (ns'.map V.int)))
theorem cr_sortedG {X : Cx} {K : PySem.W.Frag} (hK : X.K = K) : CallR X (.builtin "sorted") (rSortedG K) := by
  subst hK
  intro pins s σ H vs us Q I r h
  obtain ⟨a, ns, rfl, hs, q⟩ := h
  rcases hs with hs | hs
  · exact cr_sortedI pins s σ H _ us Q I r ⟨a, ns, rfl, hs, q⟩
  obtain ⟨its, rv, hl, hz⟩ := I.tuple hs
  rw [Vals.ref1 r]
  have hi := rv.ints
  refine SrtO.sorted_ordT SrtO.swo_int (show s.heap.IsTuple a its.toArray from hl) (by rw [← rv.length]; exact hz) (fun h2 h₁ a' => SrtO.ints_sortable hi h2) fun h' out hk hsz h1 h2 => ?_
  obtain ⟨k1, k2, k3⟩ := SrtO.ints_out hi h1 h2
  have hoL : (h'.push (seqObj "list" its.toArray 0)).get? h'.objs.size = some (seqObj "list" its.toArray 0) := Heap.get?_push_size _ rfl
  obtain ⟨ep, he'⟩ := PyProof.Rows.sortedHeap_at (out := out.toArray) hoL
  have hlen : ((out.map SrtO.iv).map V.int).length ≤ sizeLine := by
    rw [List.length_map, k2.length_eq]
    rw [List.length_map] at hz
    exact hz
  refine ⟨.ref _, upd H h'.objs.size (.lst ((out.map SrtO.iv).map V.int)), I.laid (t' := s.toks) (fun b o e => ?_) hsz ⟨hlen, out, ep, vals_of_ints k1, he'⟩, rfl, q _ _ k2 k3 (I.hok.fresh hsz)⟩
  have hlt : b < h'.objs.size := Heap.lt_size (hk b o e)
  rw [PyProof.Rows.sortedHeap_old (Nat.ne_of_lt hlt) (by rw [PyProof.Rows.size_push']; exact Nat.lt_succ_of_lt hlt)]
  exact Heap.get?_push_of_some _ (hk b o e)
theorem wc_sortedT {K : PySem.W.Frag} {μ : Mu} {P : D → Mu → Prop} {ns : List Int} (q : ∀ (p : Addr) (ns' : List Int), ns'.Perm ns → ns'.Pairwise (· ≤ ·) → P (.ref p) ((p, .lst (ns'.map D.int)) :: μ)) : WC K (rSortedG K) [.tup (ns.map D.int)] μ P := fun H vs m r Q k => by
  cases r with
  | cons r rr =>
    cases rr
    cases r with
    | tup hs_ hl =>
      have hs := TpA.sqt hs_
      have e := hl.ints
      subst e
      refine ⟨_, ns, rfl, .inr hs, fun ns' p h1 h2 hp => ?_⟩
      exact k (.ref p) _ (.ref p) ((p, .lst (ns'.map D.int)) :: μ) (step_join hp rfl) (m.join (m := .lst (ns'.map D.int)) hp rfl ⟨_, upd_same, DenL.of_ints ns'⟩) (.ref p) (q p ns' h1 h2)
end Wk
namespace Wk
open PySem PySem.Spec L2 WkE
/-- i, i - 1, .. 0 -/
def rngR (i : Int) : List D := (List.range (i + 1).toNat).map fun k : Nat => D.int (i - (k : Int))
theorem wi_rng3 {K : PySem.W.Frag} {δ : Dl} {μ : Mu} {al : TA} {PI : List D → (Mu → Prop) → Mu → Prop} (h : WA K al δ μ fun ds μ1 => ∃ i : Int, ds = [.int i, .int (-1), .int (-1)] ∧ (-1 ≤ i ∧ i < 2 ^ 62) ∧ PI (rngR i) (fun _ => True) μ1) : WI K (iRng3 al) δ μ PI := fun σ H ok R f =>
  h σ H ok _ fun vs H1 ds μ1 s1 m1 r1 ⟨i, e, b, p⟩ => by
    subst e
    cases r1 with
    | cons a r =>
    cases a
    cases r with
    | cons a r =>
    cases a
    cases r with
    | cons a r =>
    cases a
    cases r
    refine ⟨i, -1, -1, (i - -1).toNat, rfl, RgC.neg (by omega) (by omega) (by omega) (by omega), f _ H1 (rngR i) _ μ1 s1 m1 (fun H2 μ2 s2 m2 _ => ⟨fun k hk => ?_, fun k d hd => ?_⟩) p⟩
    · unfold rngR at hk
      rw [List.length_map, List.length_range] at hk
      show (i - -1).toNat ≤ k
      omega
    · unfold rngR at hd
      rw [List.getElem?_map] at hd
      obtain ⟨k2, h1, rfl⟩ := Option.map_eq_some_iff.mp hd
      obtain ⟨hlt, e⟩ := List.getElem?_eq_some_iff.mp h1
      rw [List.getElem_range] at e
      subst e
      rw [List.length_range] at hlt
      refine ⟨show k < (i - -1).toNat by omega, fun x H' hy => ?_⟩
      obtain ⟨e1, e2⟩ := hy
      subst e1 e2
      rw [show i + (k : Int) * -1 = i - (k : Int) by omega]
      exact ⟨.refl, m2, .int _⟩
end Wk

set_option Elab.async false
set_option linter.all false
set_option maxRecDepth 100000
namespace Wk
open PySem PySem.Spec L2 WkE
section
variable {K : PySem.W.Frag} {δ : Dl} {μ : Mu} {P : D → Mu → Prop}
/-! ### dict(pairs) -/
def rDictP (K : PySem.W.Frag) : List V → Hp → VK → Prop := fun xs H Q => ∃ (a : Addr) (ps : List Addr) (kvs : List (Key × V)), xs = [.ref a] ∧ SqL K H a (ps.map V.ref) ∧ Paired (fun p kv => SqT K H p [kV kv.1, kv.2]) ps kvs ∧ ∀ p, H p = none → Q (.ref p) (upd H p (.dK (mergeK [] kvs)))
theorem k_dictP {X : Cx} {K : PySem.W.Frag} (h : X.K = K) (hc : X.calm = true) : CallR X (.type "dict") (rDictP K) := h ▸ call_dictP hc
theorem den_pairs {H : Hp} : ∀ {kds : List (Key × D)} {vs : List V}, DenL K H vs (kds.map fun p => D.tup [kD p.1, p.2]) → ∃ (ps : List Addr) (kvs : List (Key × V)), vs = ps.map V.ref ∧ Paired (fun p kv => SqT K H p [kV kv.1, kv.2]) ps kvs ∧ DenK K H kvs kds
  | [], _, h => by cases h; exact ⟨[], [], rfl, .nil, .nil⟩
  | (k, d) :: kds, _, h => by
    rw [List.map_cons] at h
    cases h with
    | cons a b =>
      obtain ⟨ps, kvs, rfl, hp, hk⟩ := den_pairs b
      cases a with
      | tup hs_ hl =>
        have hs := TpA.sqt hs_
        cases hl with
        | cons r1 r2 =>
          cases r2 with
          | cons r3 r4 =>
            cases r4
            have e := den_kD r1
            subst e
            exact ⟨_ :: ps, (k, _) :: kvs, rfl, .cons hs hp, .cons r3 hk⟩
theorem wc_dictP {a : Addr} {kds : List (Key × D)} (hm : Lk (kds.map fun p => D.tup [kD p.1, p.2]) μ a) (q : ∀ p, P (.ref p) ((p, .dic (mergeD [] kds)) :: μ)) : WC K (rDictP K) [.ref a] μ P := fun H vs m r Q k => by
  cases r with
  | cons r1 r2 =>
    cases r2
    cases r1
    obtain ⟨j, hj⟩ := hm
    obtain ⟨vs, hv, hl⟩ := m.at hj
    obtain ⟨ps, kvs, rfl, hp, hk⟩ := den_pairs hl
    exact ⟨_, ps, kvs, rfl, .inl (.inl hv), hp, fun p hp2 => k _ _ _ _ (step_join hp2 rfl) (m.join (m := .dic (mergeD [] kds)) hp2 rfl ⟨_, upd_same, DenK.step' (ps_step m (step_new hp2)) (hk.merge .nil)⟩) (.ref p) (q p)⟩
end
end Wk
namespace Wk
open PySem PySem.Spec L2 WkE
/-! ### defs with defaults -/
section
variable {K : PySem.W.Frag}
theorem funD_mk {x qual : Str} {st : Stmt} {f : Addr} {oc : Value} {od an : Option Addr} {osl : Array (Option Value)} {dV kV doc pm cdv ct : Value} {dvs : List V} (l : K.lookup f = some ⟨oc, od, .func (PySem.W.fnOf x qual (defArgs st) (defBody st) (defScope st) dV kV doc pm an cdv ct), osl⟩)
    (c : PySem.W.codeIn K cdv qual = true) (k : PySem.W.keepIn K (.ref f) = true) (d : DflV K dV dvs) : FunD K x qual (defArgs st) (defBody st) (defScope st) dvs [] f (PySem.W.fnOf x qual (defArgs st) (defBody st) (defScope st) dV kV doc pm an cdv ct) := ⟨⟨oc, od, dV, kV, doc, pm, an, cdv, ct, osl, rfl, l, c, d, .inl rfl⟩, k⟩
theorem binds_all {x qual : Str} {params : Arguments} {body : List Stmt} {scope : Scope} {dvs : List V} {kws : List (Str × V)} {f : Addr} {fd : FuncData} {ps : List Str} (F : FunD K x qual params body scope dvs kws f fd) (n : Nat) (hd : dvs ≠ []) (hn : n = ps.length)
    (h : ∀ (T : Addr) (kV doc pm : Value) (an : Option Addr) (cdv ct : Value) (us its : List Value), us.length = n → its.length = dvs.length →
      ∃ k, bindArgs (PySem.W.fnOf x qual params body scope (.ref T) kV doc pm an cdv ct) ⟨us, []⟩ = seqItems? (.ref T) >>= k ∧ k (some its.toArray) = pure (ps.zip us)) : Binds K fd ps [] := by
  obtain ⟨ds, r, b⟩ := F.binds1 (ps := ps) n dvs.length hd (by rw [Nat.sub_self]; exact hn) fun T kV doc pm an cdv ct us its hu hi => by
    obtain ⟨k, e1, e2⟩ := h T kV doc pm an cdv ct us its hu hi
    exact ⟨k, e1, by rw [e2, ← hi, List.drop_length, List.append_nil]⟩
  rw [List.drop_length] at r
  cases r
  exact b
theorem fn_ok4D {Pg : Program} {w : World} {mg : Str → Option Value} {base : Heap} {x qual : Str} {params : Arguments} {sb : List Stmt} {scope : Scope} {dvs : List V} {kws : List (Str × V)} {f : Addr} {fd : FuncData} {NN ps : List Str} {k n : Nat} {S : SpD} (F : FunD K x qual params sb scope dvs kws f fd) (sc : FnScope NN ps scope) (hn : n = ps.length)
    (body : ∀ (cdv : Value) (A : Around) (outer : List Env) (s : Shared) (H : Hp) (X : XK), Room k (A.deeper (PyProof.Rows.envOfC qual scope s.heap.objs.size f cdv)) →
      ∃ t, PSs (cxOf CX0 Pg w K mg base NN qual scope f cdv A outer s H X).nox sb t ∧ ∀ ds μ P, ds.length = n → S ds μ P → S4 K t (startD NN ds) μ (fun _ μ' => ∃ μ'', Weak μ' μ'' ∧ P .non μ'') (fun d μ' => ∃ μ'', Weak μ' μ'' ∧ P d μ'') (fun _ _ => False) (fun _ _ => False)) :
    FnOk Pg w K mg base CX0 (k + 1) f fd ps (spOf K n S) := by
  refine F.ok (CX := CX0) sc (fun vs H Q E h => h.1.trans hn) (fun cdv A outer s H vs Q E hr h => ?_)
  obtain ⟨t, h1, h2⟩ := body cdv A outer s H E hr
  obtain ⟨hl, ds, μ, P, m, r, hs, q⟩ := h
  refine ⟨t, h1.nox, h2 ds μ P (by rw [← r.length]; exact hl) hs (L2.start NN vs) H ⟨m, sg_start r, by unfold L2.start startD; simp [r.length]⟩ _ ?_ ?_ ?_ ?_⟩
  · rintro σ' H' δ' μ' s' o' ⟨μ'', wk, p⟩
    exact q .non H' .non μ'' (wk.step o'.m s') (wk K H' o'.m).1 .non p
  · rintro v H' d μ' s' m' r' ⟨μ'', wk, p⟩
    exact q v H' d μ'' (wk.step m' s') (wk K H' m').1 r' p
  · intro _ _ _ _ _ _ z; exact z.elim
  · intro _ _ _ _ _ _ z; exact z.elim
end
end Wk
namespace Wk
open PySem PySem.Spec L2 WkE
/-! ### reversed(range(n)) -/
def rngW (n : Nat) : List D := (List.range n).map fun k : Nat => D.int ((n : Int) - 1 - (k : Int))
theorem wi_revR1 {K : PySem.W.Frag} {δ : Dl} {μ : Mu} {te : TE} {PI : List D → (Mu → Prop) → Mu → Prop} (h : W K te δ μ fun x μ1 => ∃ n : Nat, x = .int (n : Int) ∧ n < 100000 ∧ PI (rngW n) (fun _ => True) μ1) : WI K (iRevR (tRg1 te)) δ μ PI := fun σ H ok R f =>
  h σ H ok _ fun v H1 x μ1 s1 m1 r1 ⟨n, e, b, p⟩ => by
    subst e
    cases r1
    have e0 : ((n : Int) - 0).toNat = n := by omega
    refine ⟨n, rfl, by omega, by omega, by omega, by omega, f _ H1 (rngW n) _ μ1 s1 m1 (fun H2 μ2 s2 m2 _ => ⟨fun k hk => ?_, fun k d hd => ?_⟩) p⟩
    · unfold rngW at hk
      rw [List.length_map, List.length_range] at hk
      show ((n : Int) - 0).toNat ≤ k
      omega
    · unfold rngW at hd
      rw [List.getElem?_map] at hd
      obtain ⟨k2, h1, rfl⟩ := Option.map_eq_some_iff.mp hd
      obtain ⟨hlt, e⟩ := List.getElem?_eq_some_iff.mp h1
      rw [List.getElem_range] at e
      subst e
      rw [List.length_range] at hlt
      refine ⟨show k < ((n : Int) - 0).toNat by omega, fun x H' hy => ?_⟩
      obtain ⟨e1, e2⟩ := hy
      subst e1 e2
      rw [show (0 : Int) + ((((n : Int) - 0).toNat : Nat) : Int) - 1 + (k : Int) * -1 = (n : Int) - 1 - (k : Int) by omega]
      exact ⟨.refl, m2, .int _⟩
/-- a walk down: what is settled from r on -/
theorem forDown {K : PySem.W.Frag} {δ : Dl} {μ1 : Mu} {ts : TS} {g : TG} {N : Dl → Mu → Prop} {R : D → Mu → Prop} {n : Nat} {G : Mu → Prop} (I : Nat → Dl → Mu → Prop) (h0 : ∃ δ0 μ0, LeD δ0 δ ∧ Weak μ1 μ0 ∧ I n δ0 μ0) (hG : ∀ i δ' μ', I i δ' μ' → G μ')
    (hs : ∀ r δ' μ', r < n → I (r + 1) δ' μ' → WG K g (jD r) δ' μ' fun δ2 μ2 => S4 K ts δ2 μ2 (fun δ3 μ3 => ∃ δ4 μ4, LeD δ4 δ3 ∧ Weak μ3 μ4 ∧ I r δ4 μ4) R N (fun δ3 μ3 => ∃ δ4 μ4, LeD δ4 δ3 ∧ Weak μ3 μ4 ∧ I r δ4 μ4))
    (hd : ∀ δ' μ', I 0 δ' μ' → N δ' μ') : ForP K δ g ts N R (rngW n) G μ1 := by
  unfold rngW
  refine forMm (fun pre => I (n - pre.length)) h0 (fun pre => hG _) ?_ ?_
  · intro pre x suf δ' μ' hx hI
    have hpl : pre.length < n := by
      have := congrArg List.length hx
      rw [List.length_range, List.length_append, List.length_cons] at this
      omega
    have hxp : x = pre.length := by
      have : (List.range n)[pre.length]? = some x := by rw [hx]; simp
      rw [List.getElem?_range hpl] at this
      simpa using this.symm
    have er : D.int ((n : Int) - 1 - (x : Int)) = jD (n - 1 - pre.length) := congrArg D.int (by omega)
    have hln : (pre ++ [x]).length = pre.length + 1 := by rw [List.length_append]; rfl
    rw [er]
    have := hs (n - 1 - pre.length) δ' μ' (by omega) (by rw [show n - 1 - pre.length + 1 = n - pre.length by omega]; exact hI)
    rw [hln, show n - (pre.length + 1) = n - 1 - pre.length by omega]
    exact this
  · intro δ' μ' hI
    rw [List.length_range, Nat.sub_self] at hI
    exact hd _ _ hI
theorem revR_in {PI : List D → (Mu → Prop) → Mu → Prop} {n : Nat} {μ : Mu} (hz : n < 100000) (q : PI (rngW n) (fun _ => True) μ) : ∃ n' : Nat, D.int (n : Int) = .int (n' : Int) ∧ n' < 100000 ∧ PI (rngW n') (fun _ => True) μ := ⟨n, rfl, hz, q⟩
/-! ### a call whose last argument is a default None -/
theorem w_callN {K : PySem.W.Frag} {δ : Dl} {μ : Mu} {al : TA} {P : D → Mu → Prop} {n : Nat} {S : SpD} {X : XK} (h : WA K al δ μ fun ds μ1 => ds.length + 1 = n ∧ ∃ ds', ds ++ [D.non] = ds' ∧ S ds' μ1 P) : W K (tCall (spOf K n S) [.non] X al) δ μ P := fun σ H ok Q f =>
  h σ H ok _ fun vs H1 ds μ1 s1 m1 r1 ⟨hl, ds', e, h1⟩ => by
    subst e
    exact ⟨by rw [List.length_append, r1.length]; exact hl, _, μ1, P, m1, r1.append (.cons .non .nil), h1, fun v H2 d μ2 s2 m2 r2 p => f v H2 d μ2 (s1.trans s2) m2 r2 p⟩
theorem cn2 {x y : D} {n : Nat} {p : List D → Prop} (hn : 3 = n) (h : p [x, y, .non]) : [x, y].length + 1 = n ∧ ∃ ds', [x, y] ++ [D.non] = ds' ∧ p ds' := ⟨hn, _, rfl, h⟩
theorem cn4 {x y z u : D} {n : Nat} {p : List D → Prop} (hn : 5 = n) (h : p [x, y, z, u, .non]) : [x, y, z, u].length + 1 = n ∧ ∃ ds', [x, y, z, u] ++ [D.non] = ds' ∧ p ds' := ⟨hn, _, rfl, h⟩
/-- None, n times -/
theorem fil_none {α : Type} {f : α → D} {c : α → Bool} {l : List α} : ((l.filter c).map f).isEmpty = true ↔ ∀ x ∈ l, c x = false := by
  rw [List.isEmpty_iff, List.map_eq_nil_iff, List.filter_eq_nil_iff]
  exact ⟨fun h x hx => by simpa using h x hx, fun h x hx => by simpa using h x hx⟩
end Wk

set_option Elab.async false
set_option linter.all false
set_option maxRecDepth 100000
/-! exceptions: a def that may let out one of an own class, the call that catches it, what its class is asked -/
namespace Wk
open PySem PySem.Spec L2 WkE
section
variable {K : PySem.W.Frag} {δ : Dl} {μ : Mu} {P : D → Mu → Prop}
/-- a promise with a second way out: where SX, an exception of the class at C, with all as it was -/
def spOfX (K : PySem.W.Frag) (n : Nat) (C : Addr) (S : SpD) (SX : List D → Prop) : Sp := fun vs H Q E => vs.length = n ∧ ∃ ds μ, OkM K H μ ∧ DenL K H vs ds ∧
  ((∃ P, S ds μ P ∧ ∀ v H' d μ', Step μ H μ' H' → OkM K H' μ' → Den K H' v d → P d μ' → Q v H') ∨ (SX ds ∧ ∀ H', Step μ H μ H' → OkM K H' μ → E (.ref C) none H'))
theorem w_callX {al : TA} {n : Nat} {C : Addr} {S : SpD} {SX : List D → Prop} {X : XK} (h : WA K al δ μ fun ds μ1 => ds.length = n ∧ S ds μ1 P) : W K (tCall (spOfX K n C S SX) [] X al) δ μ P := fun σ H ok Q f =>
  h σ H ok _ fun vs H1 ds μ1 s1 m1 r1 ⟨hl, h1⟩ => by
    rw [List.append_nil]
    exact ⟨by rw [r1.length]; exact hl, ds, μ1, m1, r1, .inl ⟨P, h1, fun v H2 d μ2 s2 m2 r2 p => f v H2 d μ2 (s1.trans s2) m2 r2 p⟩⟩
theorem passX0 {X : Cx} : Passes (L2.CX X.prog X.w) X E0 := fun _ _ _ _ _ _ _ h => by
  obtain ⟨_, _, _, _, _, _, _, _, _, _, _, _, h⟩ := h
  exact h.elim
/-! ### a def that raises -/
def XS (K : PySem.W.Frag) (E : XK) (C : Addr) (t : TS) (δ : Dl) (μ : Mu) : Prop := ∀ (σ : St) (H : Hp), Ok K H σ δ μ → ∀ Dn : Ends, (∀ H', Step μ H μ H' → OkM K H' μ → E (.ref C) none H') → t Dn σ H
def tRaiseE (C : Addr) (E : XK) : TS := fun _ _ H => E (.ref C) none H
theorem xs_raise {E : XK} {C : Addr} : XS K E C (tRaiseE C E) δ μ := fun σ H ok Dn h => h H .refl ok.m
theorem xs_seq {E : XK} {C : Addr} {t1 t2 : TS} (h : S4 K t1 δ μ (fun δ' μ' => Weak μ' μ ∧ XS K E C t2 δ' μ) (fun _ _ => False) (fun _ _ => False) (fun _ _ => False)) : XS K E C (tSeq t1 t2) δ μ := fun σ H ok Dn hx =>
  h σ H ok { Dn with nx := fun σ' H' => t2 Dn σ' H' } (fun σ' H' δ' μ' s o ⟨wk, q⟩ => by
    have s2 : Step μ H μ H' := wk.step o.m s
    have o2 : Ok K H' σ' δ' μ := ⟨(wk K H' o.m).1, o.s, o.l⟩
    exact q σ' H' o2 Dn fun H2 s3 m3 => hx H2 (s2.trans s3) m3) (fun _ _ _ _ _ _ _ z => z.elim) (fun _ _ _ _ _ _ z => z.elim) (fun _ _ _ _ _ _ z => z.elim)
theorem xs_seqL {E : XK} {C : Addr} {t1 t2 : TS} (h : XS K E C t1 δ μ) : XS K E C (tSeq t1 t2) δ μ := fun σ H ok Dn hx => h σ H ok _ hx
theorem xs_if {E : XK} {C : Addr} {tc : TT} {t1 t2 : TS} (h : WT K tc δ μ fun b μ1 => b = true ∧ Weak μ1 μ ∧ XS K E C t1 δ μ) : XS K E C (tIfS tc t1 t2) δ μ := fun σ H ok Dn hx =>
  h σ H ok _ fun b H1 μ1 s1 m1 ⟨hb, wk, q⟩ => by
    subst hb
    have s2 : Step μ H μ H1 := wk.step m1 s1
    exact iteT (q σ H1 (ok.step s2 (wk K H1 m1).1) Dn fun H2 s3 m3 => hx H2 (s2.trans s3) m3)
theorem ps_raiseO {X : Cx} {C : Addr} {E : XK} {x m : Str} {j : Nat} {p p2 pos pos2 : Pos} (hc : X.calm = true) (tk : Takes X (fun cls d _ H => E cls d H)) (q : PySem.W.excIn X.K C [.type "ValueError", .type "Exception", .type "BaseException", .type "object"] "ValueError.__new__" = true) (gC : X.mg x = some (.ref C)) (kC : PySem.W.keepIn X.K (.ref C) = true)
    (b : PySem.W.subIn X.K (.ref C) (.type "BaseException") = some true) (t : PySem.W.typeIn X.K (.ref C) = some (.type "type")) (hg : Gl X x) (hdb : (x == ("__debug__" : Str)) = false := by decide) :
    PS X (.Raise (some (.Call (.Name x p) [.Constant (.str m) j p2] [] pos)) none pos2) (tRaiseE C E) := ps_raise hc tk (pmk_own PySem.F.excBase_ValueError q gC kC (raises_own b t) hg hdb)
theorem fn_okXD {Pg : Program} {w : World} {mg : Str → Option Value} {base : Heap} {x qual : Str} {params : Arguments} {sb : List Stmt} {scope : Scope} {dvs : List V} {kws : List (Str × V)} {f C : Addr} {fd : FuncData} {NN ps : List Str} {k n : Nat} {S : SpD} {SX : List D → Prop} (F : FunD K x qual params sb scope dvs kws f fd) (sc : FnScope NN ps scope) (hn : n = ps.length)
    (body : ∀ (cdv : Value) (A : Around) (outer : List Env) (s : Shared) (H : Hp) (E : XK), Room k (A.deeper (PyProof.Rows.envOfC qual scope s.heap.objs.size f cdv)) →
      ∃ t, PSs (cxOf (L2.CX Pg w) Pg w K mg base NN qual scope f cdv A outer s H E) sb t ∧ (∀ ds μ P, ds.length = n → S ds μ P → S4 K t (startD NN ds) μ (fun _ μ' => ∃ μ'', Weak μ' μ'' ∧ P .non μ'') (fun d μ' => ∃ μ'', Weak μ' μ'' ∧ P d μ'') (fun _ _ => False) (fun _ _ => False)) ∧
        ∀ ds μ, ds.length = n → SX ds → XS K E C t (startD NN ds) μ) :
    FnOk Pg w K mg base (L2.CX Pg w) (k + 1) f fd ps (spOfX K n C S SX) := by
  refine F.ok (CX := L2.CX Pg w) sc (fun vs H Q E h => h.1.trans hn) (fun cdv A outer s H vs Q E hr h => ?_)
  obtain ⟨t, h1, h2, h3⟩ := body cdv A outer s H E hr
  obtain ⟨hl, ds, μ, m, r, hs⟩ := h
  have hlen : ds.length = n := by rw [← r.length]; exact hl
  have ok0 : Ok K H (L2.start NN vs) (startD NN ds) μ := ⟨m, sg_start r, by unfold L2.start startD; simp [r.length]⟩
  refine ⟨t, h1, ?_⟩
  rcases hs with ⟨P, hs, q⟩ | ⟨hs, q⟩
  · refine h2 ds μ P hlen hs (L2.start NN vs) H ok0 _ ?_ ?_ ?_ ?_
    · rintro σ' H' δ' μ' s' o' ⟨μ'', wk, p⟩
      exact q .non H' .non μ'' (wk.step o'.m s') (wk K H' o'.m).1 .non p
    · rintro v H' d μ' s' m' r' ⟨μ'', wk, p⟩
      exact q v H' d μ'' (wk.step m' s') (wk K H' m').1 r' p
    · intro _ _ _ _ _ _ z; exact z.elim
    · intro _ _ _ _ _ _ z; exact z.elim
  · exact h3 ds μ hlen hs (L2.start NN vs) H ok0 _ q
/-! ### the call that catches -/
def tTry (K : PySem.W.Frag) (c : Value) (i : Nat) (sp : Sp) (al : TA) (ts : Addr → Value → Option Addr → TS) : TS := fun D σ H => tDrop (tCallS sp (WE (wAs K c i ts (fun _ _ _ _ => False) D)) al) D σ H
theorem Ok.unset {H : Hp} {σ : St} {i : Nat} (h : Ok K H σ δ μ) : Ok K H (σ.set i none) (δ.set i none) μ := by
  refine ⟨h.m, fun j d e => ?_, by rw [List.length_set, List.length_set, h.l]⟩
  by_cases c : i = j
  · subst c
    by_cases hl : i < δ.length
    · rw [List.getElem?_set_self hl] at e; cases e
    · rw [List.getElem?_eq_none (by rw [List.length_set]; omega)] at e; cases e
  · rw [List.getElem?_set_ne c] at e ⊢
    exact h.s j d e
theorem s_tryX {al : TA} {n i : Nat} {C : Addr} {S : SpD} {SX : List D → Prop} {c : Value} {ts : Addr → Value → Option Addr → TS} {N : Dl → Mu → Prop} {R : D → Mu → Prop} {B C' : Dl → Mu → Prop}
    (h : WA K al δ μ fun ds μ1 => ds.length = n ∧ ((S ds μ1 fun _ μ2 => N δ μ2) ∨ (SX ds ∧ PySem.W.exmOne K (.ref C) c = some true ∧ ∀ a, S4 K (ts a (.ref C) none) (δ.set i (some (.ref a))) μ1 (fun δ' μ' => N (δ'.set i none) μ') R (fun δ' μ' => B (δ'.set i none) μ') (fun δ' μ' => C' (δ'.set i none) μ')))) :
    S4 K (tTry K c i (spOfX K n C S SX) al ts) δ μ N R B C' := fun σ H ok Dn n0 r b c0 =>
  h σ H ok _ fun vs H1 ds μ1 s1 m1 r1 ⟨hl, hh⟩ => by
    refine ⟨by rw [r1.length]; exact hl, ds, μ1, m1, r1, ?_⟩
    rcases hh with hs | ⟨hs, he, ht⟩
    · exact .inl ⟨_, hs, fun v H2 d μ2 s2 m2 r2 p => n0 σ H2 δ μ2 (s1.trans s2) (ok.step (s1.trans s2) m2) p⟩
    · refine .inr ⟨hs, fun H2 s2 m2 => ⟨true, he, fun _ a _ => ?_, fun q => nomatch q⟩⟩
      have s3 := s1.trans s2
      exact ht a (σ.set i (some (.ref a))) H2 ((ok.step s3 m2).set (.ref a) i) _ (fun σ' H' δ' μ' s o p => n0 _ H' _ μ' (s3.trans s) o.unset p) (fun v H' d μ' s m q p => r v H' d μ' (s3.trans s) m q p)
        (fun σ' H' δ' μ' s o p => b _ H' _ μ' (s3.trans s) o.unset p) (fun σ' H' δ' μ' s o p => c0 _ H' _ μ' (s3.trans s) o.unset p)
/-! ### what the class of the caught one is asked -/
def rIsX (K : PySem.W.Frag) (cls : Value) (d : Option Addr) (a : Addr) : List V → Hp → VK → Prop := fun xs H Q => ∃ (C : Addr) (b : Bool), cls = .ref C ∧ d = none ∧ ExcC K C ∧ Q (.bl b) H ∧
  ((∃ c cv, xs = [.ref a, c] ∧ ClsV c cv ∧ PySem.W.kitOne K (.ref C) cv = some b) ∨ ∃ tp cs us, xs = [.ref a, .ref tp] ∧ SqT K H tp cs ∧ Paired ClsV cs us ∧ PySem.W.kitAny K (.ref C) us = some b)
theorem call_isX {X : Cx} {a : Addr} {oe : Obj} {cls : Value} {d : Option Addr} {pn : List (Addr × Obj)} (hK : X.K = K) (hz : Zc cls d oe) (hf : ∃ vs, oe.data = .fields vs) : CallR (X.suite a ((a, oe) :: pn)) (.builtin "isinstance") (rIsX K cls d a) := by
  subst hK
  intro pins s σ H xs us Q I r h
  obtain ⟨C, b, rfl, rfl, E, q, h⟩ := h
  obtain ⟨hget, _⟩ := I.pin (a, oe) (List.mem_append.mpr (.inl List.mem_cons_self))
  obtain ⟨vs, hv⟩ := hf
  have J : PySem.W.InstAt s.heap a oe C none := by
    obtain ⟨oc, od, oda, osl⟩ := oe
    obtain ⟨h1, h2⟩ := hz
    dsimp only at h1 h2 hv
    subst h1 h2 hv
    exact ⟨hget, rfl, rfl, trivial⟩
  have Z := PySem.W.handS_kitx_exc (x := a) (ox := oe) E.hg E.hk E.hs E.hd E.ha E.hn E.ht E.hm
  rcases h with ⟨c, cv, rfl, k, e⟩ | ⟨tp, cs, ws, rfl, hT, k, e⟩
  · cases r with
    | cons rx rr =>
    cases rr with
    | cons rt rr =>
    cases rr
    cases rx
    have ec := k.eq rt
    subst ec
    exact PySem.W.kia_one Z I.kIn J e (fun z => nomatch z) fun tk => ⟨.bl b, H, I.kept (t' := tk) fun _ _ z => z, rfl, q⟩
  · cases r with
    | cons rx rr =>
    cases rr with
    | cons rt rr =>
    cases rr
    cases rx
    cases rt
    obtain ⟨its, rv, p, _⟩ := I.tuple hT
    obtain ⟨o, h1, h2, n, h3⟩ := id p
    have e3 := ClsV.all k rv
    subst e3
    obtain ⟨oc, od, dt, sl⟩ := o
    simp only at h2 h3
    subst h2 h3
    exact PySem.W.kia_tup Z I.kIn J h1 e (fun z => nomatch z) fun tk => ⟨.bl b, H, I.kept (t' := tk) fun _ _ z => z, rfl, q⟩
theorem wc_isX {C C2 a : Addr} {b : Bool} (E : ExcC K C) (k : PySem.W.kitOne K (.ref C) (.ref C2) = some b) (q : P (.bl b) μ) : WC K (rIsX K (.ref C) none a) [.ref a, .ref C2] μ P := fun H vs m r Q f => by
  cases r with
  | cons r1 r2 =>
  cases r2 with
  | cons r3 r4 =>
  cases r4
  cases r1
  cases r3
  exact ⟨C, b, rfl, rfl, E, f _ H _ μ .refl m (.bl b) q, .inl ⟨_, _, rfl, .own C2, k⟩⟩
theorem wc_isXT {C a : Addr} {n : String} {b : Bool} (E : ExcC K C) (k : PySem.W.kitOne K (.ref C) (.type n) = some b) (q : P (.bl b) μ) : WC K (rIsX K (.ref C) none a) [.ref a, .ty n] μ P := fun H vs m r Q f => by
  cases r with
  | cons r1 r2 =>
  cases r2 with
  | cons r3 r4 =>
  cases r4
  cases r1
  cases r3
  exact ⟨C, b, rfl, rfl, E, f _ H _ μ .refl m (.bl b) q, .inl ⟨_, _, rfl, .ty n, k⟩⟩
theorem clsv_refs {H : Hp} : ∀ {Cs : List Addr} {vs : List V}, DenL K H vs (Cs.map D.ref) → Paired ClsV vs (Cs.map Value.ref)
  | [], _, h => by cases h; exact .nil
  | C :: Cs, _, h => by
    rw [List.map_cons] at h
    cases h with
    | cons a b => cases a; exact .cons (.own C) (clsv_refs b)
theorem wc_isXs {C a : Addr} {Cs : List Addr} {b : Bool} (E : ExcC K C) (k : PySem.W.kitAny K (.ref C) (Cs.map Value.ref) = some b) (q : P (.bl b) μ) : WC K (rIsX K (.ref C) none a) [.ref a, .tup (Cs.map D.ref)] μ P := fun H vs m r Q f => by
  cases r with
  | cons r1 r2 =>
  cases r2 with
  | cons r3 r4 =>
  cases r4
  cases r1
  cases r3 with
  | tup hT_ hl => have hT := TpA.sqt hT_; exact ⟨C, b, rfl, rfl, E, f _ H _ μ .refl m (.bl b) q, .inr ⟨_, _, _, rfl, hT, clsv_refs hl, k⟩⟩
end
end Wk
namespace Wk
open PySem PySem.Spec L2 WkE
theorem ps_eqT {X : Cx} {b : List Stmt} {t t' : TS} (h : PSs X b t) (e : t = t') : PSs X b t' := e ▸ h
theorem pa_eqT {X : Cx} {es : List Expr} {t t' : TA} (h : PA X es t) (e : t = t') : PA X es t' := e ▸ h
theorem ps_tryX {K : PySem.W.Frag} {X : Cx} {x y n : Str} {c : Value} {i k : Nat} {f : Addr} {fd : FuncData} {ps : List Str} {sp : Sp} {al : TA} {e : Expr} {es : List Expr} {p p2 p3 np pos pos' : Pos} {b₀ : Stmt} {suite : List Stmt} {ts : Addr → Value → Option Addr → TS}
    (hK : X.K = K) (hs : X.stack = X.env :: X.outer) (hf : X.env.frame = some X.env.locals) (hN : X.N.Nodup) (hi : X.N[i]? = some n) (hln : X.env.kindOf n = some .local) (hc : Names X y c)
    (F : FnOk X.prog X.w X.K X.mg X.base (L2.CX X.prog X.w) k f fd ps sp) (hr : Room k X.A) (hg : Gl X x) (hm : X.mg x = some (.ref f)) (hk : PySem.W.keepIn X.K (.ref f) = true) (hb : Binds X.K fd ps [])
    (ha : ∀ (pn : List (Addr × Obj)) (xe : Value → Shared → Prop), PA (X.tr pn xe) (e :: es) al)
    (hsu : ∀ (a : Addr) (oe : Obj) (cls : Value) (d : Option Addr) (pn : List (Addr × Obj)), Zc cls d oe → (∃ vs, oe.data = .fields vs) → PSs (X.suite a ((a, oe) :: pn)) (b₀ :: suite) (ts a cls d))
    (hdb : (x == ("__debug__" : Str)) = false := by decide) (he : starEach (e :: es) X.env = (false, eval e X.env) :: starEach es X.env := by rfl) (hpl : (backTo p2 (starEach es X.env)).any (·.1) = false := by rfl)
    (hsw : swapsWith (.Call (.Name x p) (e :: es) [] p2) none p3.line X.env = pure false := by rfl) :
    PS X (.Try [.Expr (.Call (.Name x p) (e :: es) [] p2) p3] [.ExceptHandler (some (.Name y np)) (some n) (b₀ :: suite) pos'] [] [] pos) (tTry K c i sp al ts) := by
  subst hK
  exact ps_try_as (tb := fun W => tDrop (tCallS sp (WE W) al)) hs hf hN hi hln hc takes0
    (fun W pn xe tk _ => pss_one (ps_expr (pe_callS (X := X.tr pn xe) F hr hg hm hk hb (fun σ => passAt tk σ) (ha pn xe) hdb he hpl) hsw)) hsu
end Wk
namespace Wk
open PySem PySem.Spec L2 WkE
section
variable {K : PySem.W.Frag} {C c : Addr} {T : String} {b : Bool} {cs : List Value}
theorem isSome_of_dict {K : PySem.W.Frag} {c : Addr} (h : PySem.W.hasDictIn K c = true) : (PySem.W.clsIn K c).isSome = true := by
  obtain ⟨cd, hc, _⟩ := PySem.W.any_some h
  rw [hc]; rfl
theorem kit_ref (hd : PySem.W.hasDictIn K c = true) (ht : PySem.W.typeIn K (.ref c) = some (.type "type")) (hs : PySem.W.subIn K (.ref C) (.ref C) = some true) (h : PySem.W.subIn K (.ref C) (.ref c) = some b) : PySem.W.kitOne K (.ref C) (.ref c) = some b := by
  unfold PySem.W.kitOne
  by_cases e : C = c
  · subst e
    rw [hs] at h
    rw [if_pos (by simp)]
    exact h
  · rw [if_neg (by simpa using e)]
    show (if ((PySem.W.clsIn K c).isSome && PySem.W.typeIn K (.ref c) == some (.type "type")) = true then PySem.W.subIn K (.ref C) (.ref c) else none) = some b
    rw [isSome_of_dict hd, ht, if_pos (by rfl)]
    exact h
theorem kit_ty (hm : PySem.W.kitMeta T = true) (h : PySem.W.subIn K (.ref C) (.type T) = some b) : PySem.W.kitOne K (.ref C) (.type T) = some b := by
  unfold PySem.W.kitOne
  rw [if_neg (by simp)]
  show (if PySem.W.kitMeta T = true then PySem.W.subIn K (.ref C) (.type T) else none) = some b
  rw [if_pos hm]
  exact h
theorem kit_nil : PySem.W.kitAny K (.ref C) [] = some false := rfl
theorem kit_cons {v : Value} (h : PySem.W.kitOne K (.ref C) v = some false) (r : PySem.W.kitAny K (.ref C) cs = some b) : PySem.W.kitAny K (.ref C) (v :: cs) = some b := by
  show (match PySem.W.kitOne K (.ref C) v with | some true => some true | some false => PySem.W.kitAny K (.ref C) cs | none => none) = some b
  rw [h]
  exact r
theorem kit_hit {v : Value} (h : PySem.W.kitOne K (.ref C) v = some true) : PySem.W.kitAny K (.ref C) (v :: cs) = some true := by
  show (match PySem.W.kitOne K (.ref C) v with | some true => some true | some false => PySem.W.kitAny K (.ref C) cs | none => none) = some true
  rw [h]
theorem kit_meta : PySem.W.kitMeta "ValueError" = true := by decide +kernel
end
end Wk

set_option Elab.async false
set_option linter.all false
set_option maxRecDepth 100000
set_option maxHeartbeats 1000000
/-! exceptions of any class, passed on, with fields -/
namespace Wk
open PySem PySem.Spec L2 WkE
/-- what is known of an exception: its class, its dict, what stands -/
abbrev XP := Addr → Option Addr → Mu → Prop
abbrev SpE := List D → Mu → XP → Prop
def spOfE (K : PySem.W.Frag) (n : Nat) (S : SpD) (SX : SpE) : Sp := fun vs H Q E => vs.length = n ∧ ∃ ds μ, OkM K H μ ∧ DenL K H vs ds ∧
  ((∃ P, S ds μ P ∧ ∀ v H' d μ', Step μ H μ' H' → OkM K H' μ' → Den K H' v d → P d μ' → Q v H') ∨ (∃ X : XP, SX ds μ X ∧ ∀ C o H' μ', Step μ H μ' H' → OkM K H' μ' → X C o μ' → E (.ref C) o H'))
section
variable {K : PySem.W.Frag} {δ : Dl} {μ : Mu} {P : D → Mu → Prop} {E : XK} {X : XP} {te te1 te2 : TE} {al al2 : TA}
theorem w_callE {n : Nat} {S : SpD} {SX : SpE} (h : WA K al δ μ fun ds μ1 => ds.length = n ∧ S ds μ1 P) : W K (tCall (spOfE K n S SX) [] E al) δ μ P := fun σ H ok Q f =>
  h σ H ok _ fun vs H1 ds μ1 s1 m1 r1 ⟨hl, h1⟩ => by
    rw [List.append_nil]
    exact ⟨by rw [r1.length]; exact hl, ds, μ1, m1, r1, .inl ⟨P, h1, fun v H2 d μ2 s2 m2 r2 p => f v H2 d μ2 (s1.trans s2) m2 r2 p⟩⟩
/-- how it is told further -/
def Lets (K : PySem.W.Frag) (E : XK) (X : XP) (μ : Mu) (H : Hp) : Prop := ∀ C o H' μ', Step μ H μ' H' → OkM K H' μ' → X C o μ' → E (.ref C) o H'
theorem Lets.step {H H' : Hp} {μ' : Mu} (h : Lets K E X μ H) (s : Step μ H μ' H') : Lets K E X μ' H' := fun C o H2 μ2 s2 m2 x => h C o H2 μ2 (s.trans s2) m2 x
/-- an expression, arguments, a statement that raise -/
def XE (K : PySem.W.Frag) (E : XK) (te : TE) (δ : Dl) (μ : Mu) (X : XP) : Prop := ∀ (σ : St) (H : Hp), Ok K H σ δ μ → Lets K E X μ H → ∀ Q, te σ H Q
def XA (K : PySem.W.Frag) (E : XK) (al : TA) (δ : Dl) (μ : Mu) (X : XP) : Prop := ∀ (σ : St) (H : Hp), Ok K H σ δ μ → Lets K E X μ H → ∀ Q, al σ H Q
def XG (K : PySem.W.Frag) (E : XK) (t : TS) (δ : Dl) (μ : Mu) (X : XP) : Prop := ∀ (σ : St) (H : Hp), Ok K H σ δ μ → Lets K E X μ H → ∀ Dn : Ends, t Dn σ H
theorem xe_call {n : Nat} {S : SpD} {SX : SpE} (h : WA K al δ μ fun ds μ1 => ds.length = n ∧ SX ds μ1 X) : XE K E (tCall (spOfE K n S SX) [] E al) δ μ X := fun σ H ok l Q =>
  h σ H ok _ fun vs H1 ds μ1 s1 m1 r1 ⟨hl, h1⟩ => by
    rw [List.append_nil]
    exact ⟨by rw [r1.length]; exact hl, ds, μ1, m1, r1, .inr ⟨X, h1, l.step s1⟩⟩
/-- what is reckoned first raises -/
theorem xe_e {F : St → Hp → VK → VK} (e : ∀ σ H Q, te σ H Q = te1 σ H (F σ H Q)) (h : XE K E te1 δ μ X) : XE K E te δ μ X := fun σ H ok l Q => by rw [e]; exact h σ H ok l _
theorem xe_a {F : St → Hp → VK → List V → Hp → Prop} (e : ∀ σ H Q, te σ H Q = al σ H (F σ H Q)) (h : XA K E al δ μ X) : XE K E te δ μ X := fun σ H ok l Q => by rw [e]; exact h σ H ok l _
/-- the second one does -/
theorem xe_e2 {F : St → Hp → VK → V → Hp → VK} (e : ∀ σ H Q, te σ H Q = te1 σ H fun v H1 => te2 σ H1 (F σ H Q v H1)) (h : W K te1 δ μ fun _ μ1 => XE K E te2 δ μ1 X) : XE K E te δ μ X := fun σ H ok l Q => by
  rw [e]
  exact h σ H ok _ fun v H1 d μ1 s1 m1 _ q => q σ H1 (ok.step s1 m1) (l.step s1) _
theorem xa_1 (h : XE K E te δ μ X) : XA K E (tCons te al) δ μ X := fun σ H ok l Q => h σ H ok l _
theorem xa_2 (h : W K te δ μ fun _ μ1 => XA K E al δ μ1 X) : XA K E (tCons te al) δ μ X := fun σ H ok l Q => h σ H ok _ fun v H1 d μ1 s1 m1 _ q => q σ H1 (ok.step s1 m1) (l.step s1) _
variable {t t1 t2 : TS} {g : TG}
theorem xg_asg (h : XE K E te δ μ X) : XG K E (tAsg te g) δ μ X := fun σ H ok l Dn => h σ H ok l _
theorem xg_ret (h : XE K E te δ μ X) : XG K E (tRet te) δ μ X := fun σ H ok l Dn => h σ H ok l _
theorem xg_drop (h : XE K E te δ μ X) : XG K E (tDrop te) δ μ X := fun σ H ok l Dn => h σ H ok l _
theorem xg_seqL (h : XG K E t1 δ μ X) : XG K E (tSeq t1 t2) δ μ X := fun σ H ok l Dn => h σ H ok l _
theorem xg_seq (h : S4 K t1 δ μ (fun δ' μ' => XG K E t2 δ' μ' X) (fun _ _ => False) (fun _ _ => False) (fun _ _ => False)) : XG K E (tSeq t1 t2) δ μ X := fun σ H ok l Dn =>
  h σ H ok { Dn with nx := fun σ' H' => t2 Dn σ' H' } (fun σ' H' δ' μ' s o q => q σ' H' o (l.step s) Dn) (fun _ _ _ _ _ _ _ z => z.elim) (fun _ _ _ _ _ _ z => z.elim) (fun _ _ _ _ _ _ z => z.elim)
theorem xg_if {tc : TT} (h : WT K tc δ μ fun b μ1 => (b = true → XG K E t1 δ μ1 X) ∧ (b = false → XG K E t2 δ μ1 X)) : XG K E (tIfS tc t1 t2) δ μ X := fun σ H ok l Dn =>
  h σ H ok _ fun b H1 μ1 s1 m1 q => by
    cases b with
    | true => exact iteT (q.1 rfl σ H1 (ok.step s1 m1) (l.step s1) Dn)
    | false => exact iteF (q.2 rfl σ H1 (ok.step s1 m1) (l.step s1) Dn)
/-- an exception of a class of its own, no fields -/
theorem xg_raise {C : Addr} (q : X C none μ) : XG K E (tRaiseE C E) δ μ X := fun σ H ok l Dn => l C none H μ .refl ok.m q
theorem xg_forget {δ' : Dl} (w : LeD δ' δ) (h : XG K E t δ' μ X) : XG K E t δ μ X := fun σ H ok l Dn => h σ H ⟨ok.m, fun i d e => ok.s i d (w.get i d e), by rw [ok.l, w.len]⟩ l Dn
theorem xg_weak {μ' : Mu} (wk : Weak μ μ') (h : XG K E t δ μ' X) : XG K E t δ μ X := fun σ H ok l Dn => h σ H ⟨(wk K H ok.m).1, ok.s, ok.l⟩ (l.step (wk.step ok.m .refl)) Dn
end
/-! ### a def that may raise -/
section
variable {Pg : Program} {w : World} {K : PySem.W.Frag} {mg : Str → Option Value} {base : Heap}
theorem fn_okE {x qual : Str} {st : Stmt} {f : Addr} {fd : FuncData} {NN ps : List Str} {k n : Nat} {S : SpD} {SX : SpE} (F : Fun K x qual st f fd) (sc : FnScope NN ps (defScope st)) (hn : n = ps.length)
    (body : ∀ (cdv : Value) (A : Around) (outer : List Env) (s : Shared) (H : Hp) (E : XK), Room k (A.deeper (PyProof.Rows.envOfC qual (defScope st) s.heap.objs.size f cdv)) →
      ∃ t, PSs (cxOf (L2.CX Pg w) Pg w K mg base NN qual (defScope st) f cdv A outer s H E) (defBody st) t ∧ (∀ ds μ P, ds.length = n → S ds μ P → S4 K t (startD NN ds) μ (fun _ μ' => ∃ μ'', Weak μ' μ'' ∧ P .non μ'') (fun d μ' => ∃ μ'', Weak μ' μ'' ∧ P d μ'') (fun _ _ => False) (fun _ _ => False)) ∧
        ∀ ds μ X, ds.length = n → SX ds μ X → XG K E t (startD NN ds) μ X) :
    FnOk Pg w K mg base (L2.CX Pg w) (k + 1) f fd ps (spOfE K n S SX) := by
  refine F.okX sc (fun vs H Q E h => h.1.trans hn) (fun cdv A outer s H vs Q E hr h => ?_)
  obtain ⟨t, h1, h2, h3⟩ := body cdv A outer s H E hr
  obtain ⟨hl, ds, μ, m, r, hs⟩ := h
  have hlen : ds.length = n := by rw [← r.length]; exact hl
  have ok0 : Ok K H (L2.start NN vs) (startD NN ds) μ := ⟨m, sg_start r, by unfold L2.start startD; simp [r.length]⟩
  refine ⟨t, h1, ?_⟩
  rcases hs with ⟨P, hs, q⟩ | ⟨X, hs, q⟩
  · refine h2 ds μ P hlen hs (L2.start NN vs) H ok0 _ ?_ ?_ ?_ ?_
    · rintro σ' H' δ' μ' s' o' ⟨μ'', wk, p⟩
      exact q .non H' .non μ'' (wk.step o'.m s') (wk K H' o'.m).1 .non p
    · rintro v H' d μ' s' m' r' ⟨μ'', wk, p⟩
      exact q v H' d μ'' (wk.step m' s') (wk K H' m').1 r' p
    · intro _ _ _ _ _ _ z; exact z.elim
    · intro _ _ _ _ _ _ z; exact z.elim
  · exact h3 ds μ X hlen hs (L2.start NN vs) H ok0 q _
theorem fn_okED {x qual : Str} {params : Arguments} {sb : List Stmt} {scope : Scope} {dvs : List V} {kws : List (Str × V)} {f : Addr} {fd : FuncData} {NN ps : List Str} {k n : Nat} {S : SpD} {SX : SpE} (F : FunD K x qual params sb scope dvs kws f fd) (sc : FnScope NN ps scope) (hn : n = ps.length)
    (body : ∀ (cdv : Value) (A : Around) (outer : List Env) (s : Shared) (H : Hp) (E : XK), Room k (A.deeper (PyProof.Rows.envOfC qual scope s.heap.objs.size f cdv)) →
      ∃ t, PSs (cxOf (L2.CX Pg w) Pg w K mg base NN qual scope f cdv A outer s H E) sb t ∧ (∀ ds μ P, ds.length = n → S ds μ P → S4 K t (startD NN ds) μ (fun _ μ' => ∃ μ'', Weak μ' μ'' ∧ P .non μ'') (fun d μ' => ∃ μ'', Weak μ' μ'' ∧ P d μ'') (fun _ _ => False) (fun _ _ => False)) ∧
        ∀ ds μ X, ds.length = n → SX ds μ X → XG K E t (startD NN ds) μ X) :
    FnOk Pg w K mg base (L2.CX Pg w) (k + 1) f fd ps (spOfE K n S SX) := by
  refine F.ok (CX := L2.CX Pg w) sc (fun vs H Q E h => h.1.trans hn) (fun cdv A outer s H vs Q E hr h => ?_)
  obtain ⟨t, h1, h2, h3⟩ := body cdv A outer s H E hr
  obtain ⟨hl, ds, μ, m, r, hs⟩ := h
  have hlen : ds.length = n := by rw [← r.length]; exact hl
  have ok0 : Ok K H (L2.start NN vs) (startD NN ds) μ := ⟨m, sg_start r, by unfold L2.start startD; simp [r.length]⟩
  refine ⟨t, h1, ?_⟩
  rcases hs with ⟨P, hs, q⟩ | ⟨X, hs, q⟩
  · refine h2 ds μ P hlen hs (L2.start NN vs) H ok0 _ ?_ ?_ ?_ ?_
    · rintro σ' H' δ' μ' s' o' ⟨μ'', wk, p⟩
      exact q .non H' .non μ'' (wk.step o'.m s') (wk K H' o'.m).1 .non p
    · rintro v H' d μ' s' m' r' ⟨μ'', wk, p⟩
      exact q v H' d μ'' (wk.step m' s') (wk K H' m').1 r' p
    · intro _ _ _ _ _ _ z; exact z.elim
    · intro _ _ _ _ _ _ z; exact z.elim
  · exact h3 ds μ X hlen hs (L2.start NN vs) H ok0 q _
/-- a call within a def that may raise: what it lets out is let out -/
theorem passE {NN : List Str} {qual : Str} {scope : Scope} {f : Addr} {cdv : Value} {A : Around} {outer : List Env} {s : Shared} {H : Hp} {E : XK} : Passes (L2.CX Pg w) (cxOf (L2.CX Pg w) Pg w K mg base NN qual scope f cdv A outer s H E) E :=
  passes_call (W := fun cls d _ H => E cls d H) (takes_of rfl rfl rfl rfl) fun _ _ _ _ h => h
end
/-! ### the call that catches -/
section
variable {K : PySem.W.Frag} {δ : Dl} {μ : Mu} {P : D → Mu → Prop}
def tTryE (K : PySem.W.Frag) (c : Value) (i : Nat) (sp : Sp) (al : TA) (k : TE → TS) (ts : Addr → Value → Option Addr → TS) : TS := fun D σ H => k (tCallS sp (WE (wAs K c i ts (fun _ _ _ _ => False) D)) al) D σ H
variable {al : TA} {n i : Nat} {S : SpD} {SX : SpE} {c : Value} {ts : Addr → Value → Option Addr → TS} {N : Dl → Mu → Prop} {R : D → Mu → Prop} {B C' : Dl → Mu → Prop}
/-- what the suite shows -/
def SuX (K : PySem.W.Frag) (c : Value) (i : Nat) (ts : Addr → Value → Option Addr → TS) (δ : Dl) (N : Dl → Mu → Prop) (R : D → Mu → Prop) (B C' : Dl → Mu → Prop) : XP := fun C o μ2 =>
  PySem.W.exmOne K (.ref C) c = some true ∧ ∀ a, S4 K (ts a (.ref C) o) (δ.set i (some (.ref a))) μ2 (fun δ' μ' => N (δ'.set i none) μ') R (fun δ' μ' => B (δ'.set i none) μ') (fun δ' μ' => C' (δ'.set i none) μ')
theorem s_tryD (h : WA K al δ μ fun ds μ1 => ds.length = n ∧ ((S ds μ1 fun _ μ2 => N δ μ2) ∨ SX ds μ1 (SuX K c i ts δ N R B C'))) :
    S4 K (tTryE K c i (spOfE K n S SX) al tDrop ts) δ μ N R B C' := fun σ H ok Dn n0 r b c0 =>
  h σ H ok _ fun vs H1 ds μ1 s1 m1 r1 ⟨hl, hh⟩ => by
    refine ⟨by rw [r1.length]; exact hl, ds, μ1, m1, r1, ?_⟩
    rcases hh with hs | hs
    · exact .inl ⟨_, hs, fun v H2 d μ2 s2 m2 r2 p => n0 σ H2 δ μ2 (s1.trans s2) (ok.step (s1.trans s2) m2) p⟩
    · refine .inr ⟨_, hs, fun C o H2 μ2 s2 m2 ⟨he, ht⟩ => ⟨true, he, fun _ a _ => ?_, fun q => nomatch q⟩⟩
      have s3 := s1.trans s2
      exact ht a (σ.set i (some (.ref a))) H2 ((ok.step s3 m2).set (.ref a) i) _ (fun σ' H' δ' μ' s o p => n0 _ H' _ μ' (s3.trans s) o.unset p) (fun v H' d μ' s m q p => r v H' d μ' (s3.trans s) m q p)
        (fun σ' H' δ' μ' s o p => b _ H' _ μ' (s3.trans s) o.unset p) (fun σ' H' δ' μ' s o p => c0 _ H' _ μ' (s3.trans s) o.unset p)
theorem s_tryA {g : TG} (h : WA K al δ μ fun ds μ1 => ds.length = n ∧ ((S ds μ1 fun d μ2 => WG K g d δ μ2 N) ∨ SX ds μ1 (SuX K c i ts δ N R B C'))) :
    S4 K (tTryE K c i (spOfE K n S SX) al (fun te => tAsg te g) ts) δ μ N R B C' := fun σ H ok Dn n0 r b c0 =>
  h σ H ok _ fun vs H1 ds μ1 s1 m1 r1 ⟨hl, hh⟩ => by
    refine ⟨by rw [r1.length]; exact hl, ds, μ1, m1, r1, ?_⟩
    rcases hh with hs | hs
    · exact .inl ⟨_, hs, fun v H2 d μ2 s2 m2 r2 p => p σ H2 v (ok.step (s1.trans s2) m2) r2 _ fun σ' H' δ' μ' s3 o3 p3 => n0 σ' H' δ' μ' ((s1.trans s2).trans s3) o3 p3⟩
    · refine .inr ⟨_, hs, fun C o H2 μ2 s2 m2 ⟨he, ht⟩ => ⟨true, he, fun _ a _ => ?_, fun q => nomatch q⟩⟩
      have s3 := s1.trans s2
      exact ht a (σ.set i (some (.ref a))) H2 ((ok.step s3 m2).set (.ref a) i) _ (fun σ' H' δ' μ' s o p => n0 _ H' _ μ' (s3.trans s) o.unset p) (fun v H' d μ' s m q p => r v H' d μ' (s3.trans s) m q p)
        (fun σ' H' δ' μ' s o p => b _ H' _ μ' (s3.trans s) o.unset p) (fun σ' H' δ' μ' s o p => c0 _ H' _ μ' (s3.trans s) o.unset p)
end
end Wk
namespace Wk
open PySem PySem.Spec L2 WkE
theorem ps_tryD {K : PySem.W.Frag} {X : Cx} {x y n : Str} {c : Value} {i k : Nat} {f : Addr} {fd : FuncData} {ps : List Str} {sp : Sp} {al : TA} {e : Expr} {es : List Expr} {p p2 p3 np pos pos' : Pos} {b₀ : Stmt} {suite : List Stmt} {ts : Addr → Value → Option Addr → TS}
    (hK : X.K = K) (hs : X.stack = X.env :: X.outer) (hf : X.env.frame = some X.env.locals) (hN : X.N.Nodup) (hi : X.N[i]? = some n) (hln : X.env.kindOf n = some .local) (hc : Names X y c)
    (F : FnOk X.prog X.w X.K X.mg X.base (L2.CX X.prog X.w) k f fd ps sp) (hr : Room k X.A) (hg : Gl X x) (hm : X.mg x = some (.ref f)) (hk : PySem.W.keepIn X.K (.ref f) = true) (hb : Binds X.K fd ps [])
    (ha : ∀ (pn : List (Addr × Obj)) (xe : Value → Shared → Prop), PA (X.tr pn xe) (e :: es) al)
    (hsu : ∀ (a : Addr) (oe : Obj) (cls : Value) (d : Option Addr) (pn : List (Addr × Obj)), Zc cls d oe → (∃ vs, oe.data = .fields vs) → PSs (X.suite a ((a, oe) :: pn)) (b₀ :: suite) (ts a cls d))
    (hdb : (x == ("__debug__" : Str)) = false := by decide) (he : starEach (e :: es) X.env = (false, eval e X.env) :: starEach es X.env := by rfl) (hpl : (backTo p2 (starEach es X.env)).any (·.1) = false := by rfl)
    (hsw : swapsWith (.Call (.Name x p) (e :: es) [] p2) none p3.line X.env = pure false := by rfl) :
    PS X (.Try [.Expr (.Call (.Name x p) (e :: es) [] p2) p3] [.ExceptHandler (some (.Name y np)) (some n) (b₀ :: suite) pos'] [] [] pos) (tTryE K c i sp al tDrop ts) := by
  subst hK
  exact ps_try_as (tb := fun W => tDrop (tCallS sp (WE W) al)) hs hf hN hi hln hc takes0
    (fun W pn xe tk _ => pss_one (ps_expr (pe_callS (X := X.tr pn xe) F hr hg hm hk hb (fun σ => passAt tk σ) (ha pn xe) hdb he hpl) hsw)) hsu
theorem ps_tryA {K : PySem.W.Frag} {X : Cx} {x y n : Str} {c : Value} {i k : Nat} {f : Addr} {fd : FuncData} {ps : List Str} {sp : Sp} {al : TA} {g : TG} {tg e : Expr} {es : List Expr} {p p2 p3 np pos pos' : Pos} {b₀ : Stmt} {suite : List Stmt} {ts : Addr → Value → Option Addr → TS}
    (hK : X.K = K) (hs : X.stack = X.env :: X.outer) (hf : X.env.frame = some X.env.locals) (hN : X.N.Nodup) (hi : X.N[i]? = some n) (hln : X.env.kindOf n = some .local) (hc : Names X y c)
    (F : FnOk X.prog X.w X.K X.mg X.base (L2.CX X.prog X.w) k f fd ps sp) (hr : Room k X.A) (hg : Gl X x) (hm : X.mg x = some (.ref f)) (hk : PySem.W.keepIn X.K (.ref f) = true) (hb : Binds X.K fd ps [])
    (ha : ∀ (pn : List (Addr × Obj)) (xe : Value → Shared → Prop), PA (X.tr pn xe) (e :: es) al) (htg : ∀ (pn : List (Addr × Obj)) (xe : Value → Shared → Prop), PG (X.tr pn xe) tg g)
    (hsu : ∀ (a : Addr) (oe : Obj) (cls : Value) (d : Option Addr) (pn : List (Addr × Obj)), Zc cls d oe → (∃ vs, oe.data = .fields vs) → PSs (X.suite a ((a, oe) :: pn)) (b₀ :: suite) (ts a cls d))
    (hdb : (x == ("__debug__" : Str)) = false := by decide) (he : starEach (e :: es) X.env = (false, eval e X.env) :: starEach es X.env := by rfl) (hpl : (backTo p2 (starEach es X.env)).any (·.1) = false := by rfl)
    (hsw : swapsWithSole [tg] (.Call (.Name x p) (e :: es) [] p2) p3.line X.env = pure false := by rfl) (hw : swappedStores [tg] (.Call (.Name x p) (e :: es) [] p2) X.env = pure none := by rfl) (h1 : (assignEach [tg] X.env).map (·.2) = [assign tg X.env] := by rfl) :
    PS X (.Try [.Assign [tg] (.Call (.Name x p) (e :: es) [] p2) p3] [.ExceptHandler (some (.Name y np)) (some n) (b₀ :: suite) pos'] [] [] pos) (tTryE K c i sp al (fun te => tAsg te g) ts) := by
  subst hK
  exact ps_try_as (tb := fun W => tAsg (tCallS sp (WE W) al) g) hs hf hN hi hln hc takes0
    (fun W pn xe tk _ => pss_one (ps_asg (pe_callS (X := X.tr pn xe) F hr hg hm hk hb (fun σ => passAt tk σ) (ha pn xe) hdb he hpl) (htg pn xe) hsw hw h1)) hsu
end Wk
namespace Wk
open PySem PySem.Spec L2 WkE PyProof.Rows
/-! ### an own class with an __init__ that calls that of its base, and two fields -/
/-- Base.__init__(self, ..), Base an own class -/
theorem pe_winit {X : Cx} {e : Expr} {es : List Expr} {ta : TA} {p1 p2 pos : Pos} {y : Str} {Cw : Addr} {pl : Sem Bool} (hg : Gl X y) (hm : X.mg y = some (.ref Cw)) (sg : PySem.W.specialIn X.K (.ref Cw) "__getattribute__" = some (some (.builtin "type.__getattribute__")))
    (rd : PySem.W.readsIn X.K Cw (.type "type") = true) (vV : PySem.W.findCls X.K (.ref Cw) (.type "type") "__init__" = some (.val (.builtin "ValueError.__init__"))) (ha : PA X (e :: es) ta)
    (hc : eval (.Call (.Attribute (.Name y p1) "__init__" p2) (e :: es) [] pos) X.env = (do
      let ov ← eval (.Name y p1) X.env
      standAt p2.atName
      let (f, first) ← holding [ov] (getMethod ov "__init__" pl)
      callWith pos f first (backTo pos (starEach (e :: es) X.env)) (backToKw pos (keywordEach [] X.env))) := by rfl)
    (hdb : (y == ("__debug__" : Str)) = false := by decide) (he : starEach (e :: es) X.env = (false, eval e X.env) :: starEach es X.env := by rfl) (hpl : (backTo pos (starEach es X.env)).any (·.1) = false := by rfl) :
    PE X (.Call (.Attribute (.Name y p1) "__init__" p2) (e :: es) [] pos) (tVeI X.K ta) := by
  refine ⟨fun pins s σ H Q I h => ?_⟩
  refine PySem.W.methodCall_KW (ld_glob I hg hm ?_ hdb) hc
  refine PySem.W.method_cls I.kIn sg (PySem.W.cls_value I.kIn rd vV (by decide +kernel) ?_)
  show wpAny _ _ (callWith pos (Value.builtin "ValueError.__init__") [] (backTo pos (starEach (e :: es) X.env)) []) _ _ _
  refine PyProof.Rows.callWith_method1 (thn (ha.run pos pins _ σ H _ (I.tok _) h) fun us s1 ⟨vs, H1, I1, r1, a, C, ws, ev, hl, T, ea, q⟩ => ?_) he hpl
  subst ev
  cases r1 with
  | @cons _ u0 _ ur ra rw' =>
    obtain rfl : u0 = Value.ref a := ra
    have hlen : ur.length ≤ sizeLine := by
      rw [← Paired.length rw', sizeLine_eq]
      omega
    exact oinit_ok T I1 ea hlen fun s' J => ⟨.non, H1, J, rfl, q⟩
/-- what such an __init__ does -/
def spIni (C : Addr) (n1 n2 : Str) : Sp := fun vs H Q _ => ∃ (a : Addr) (x y : V), vs = [.ref a, x, y] ∧ H a = some (exo a C none) ∧
  ∀ d, H d = none → d ≠ a → Q .non (upd (upd (upd H d (exd d [(n1, x)])) a (exo a C (some d))) d (exd d [(n2, y), (n1, x)]))
theorem ok_ini {Pg : Program} {w : World} {K : PySem.W.Frag} {mg : Str → Option Value} {base : Heap} {x qual : Str} {st : Stmt} {f C Cw : Addr} {fd : FuncData} {n1 n2 : Str} (F : Fun K x qual st f fd) (sc : FnScope ["self", n1, n2] ["self", n1, n2] (defScope st)) (T : OexC K C)
    (h1 : PySem.W.findIn K (.ref C) n1 = some none) (h2 : PySem.W.findIn K (.ref C) n2 = some none)
    (body : ∀ (cdv : Value) (A : Around) (outer : List Env) (s : Shared) (H : Hp) (E : XK), ∃ m : Str, PSs (cxOf CX0 Pg w K mg base ["self", n1, n2] qual (defScope st) f cdv A outer s H E).nox (defBody st) (tSeq (tDrop (tVeI K (tCons (tVar 0) (tCons (tC (.str m)) tNil)))) (tSeq (tOst K n1 (tVar 0) (tVar 1)) (tOst K n2 (tVar 0) (tVar 2))))) :
    FnOk Pg w K mg base CX0 1 f fd ["self", n1, n2] (spIni C n1 n2) := by
  refine F.ok sc (fun vs H Q E h => ?_) (fun cdv A outer s H vs Q E hr h => ?_)
  · obtain ⟨a, x, y, rfl, _⟩ := h
    rfl
  · obtain ⟨m, hb⟩ := body cdv A outer s H E
    obtain ⟨a, u, v, rfl, ha, q⟩ := h
    refine ⟨_, hb, ?_⟩
    refine ⟨_, rfl, ?_⟩
    refine ⟨a, C, [.str m], rfl, by show 1 ≤ 1000; decide, T, ha, ?_⟩
    refine ⟨_, rfl, _, rfl, a, C, rfl, T, h1, .inl ⟨ha, fun d hd ne => ?_⟩⟩
    refine ⟨_, rfl, _, rfl, a, C, rfl, T, h2, .inr ⟨d, _, upd_same, ?_, by show 1 ≤ 900; decide, q d hd ne⟩⟩
    rw [upd_ne ne, upd_same]
/-- raise C(x, y) -/
def tRaiseM (C : Addr) (n1 n2 : Str) (E : XK) (ta : TA) : TS := fun _ σ H => tMkO C (spIni C n1 n2) [] ta σ H fun cls d H' => E cls d H'
section
variable {K : PySem.W.Frag} {δ : Dl} {μ : Mu} {P : D → Mu → Prop} {E : XK} {X : XP} {ta : TA}
theorem xg_raiseM {C : Addr} {n1 n2 : Str} (h : WA K ta δ μ fun ds μ1 => ∃ x y : D, ds = [x, y] ∧ ∀ d, X C (some d) ((d, .xdt [(n2, y), (n1, x)]) :: μ1)) : XG K E (tRaiseM C n1 n2 E ta) δ μ X := fun σ H ok l Dn =>
  h σ H ok _ fun vs H1 ds μ1 s1 m1 r1 ⟨x, y, e, q⟩ => by
    subst e
    cases r1 with
    | cons rx r1 =>
    cases r1 with
    | cons ry r1 =>
    cases r1
    rename_i vx vy
    refine ⟨by show 2 ≤ 1000; decide, fun a ha => ⟨a, vx, vy, rfl, upd_same, fun d hd ne => ⟨rfl, d, [(n2, vy), (n1, vx)], ?_, upd_same, ?_, ?_⟩⟩⟩
    · rw [upd_ne ne.symm, upd_same]
    · rw [upd_ne ne] at hd; exact hd
    · have hd1 : H1 d = none := by rw [upd_ne ne] at hd; exact hd
      have eH : upd (del (upd (upd (upd (upd H1 a (exo a C none)) d (exd d [(n1, vx)])) a (exo a C (some d))) d (exd d [(n2, vy), (n1, vx)])) a) d (.xd [(n2, vy), (n1, vx)]) = upd H1 d (.xd [(n2, vy), (n1, vx)]) := by
        funext b
        by_cases hb : b = d
        · rw [hb, upd_same, upd_same]
        · rw [upd_ne hb, upd_ne hb]
          by_cases hba : b = a
          · rw [hba, del_same, ha]
          · rw [del_ne hba, upd_ne hb, upd_ne hba, upd_ne hb, upd_ne hba]
      rw [eH]
      have st : Step μ1 H1 ((d, .xdt [(n2, y), (n1, x)]) :: μ1) (upd H1 d (.xd [(n2, vy), (n1, vx)])) := step_join hd1 rfl
      exact l C (some d) _ _ (s1.trans st) (m1.join hd1 rfl ⟨_, upd_same, .cons (ry.step m1 (step_new hd1)) (.cons (rx.step m1 (step_new hd1)) .nil)⟩) (q d)
theorem ps_raiseM {X : Cx} {C fI : Addr} {E : XK} {x n1 n2 : Str} {e : Expr} {es : List Expr} {fd : FuncData} {p pos pos2 : Pos} (hc : X.calm = true) (tk : Takes X (fun cls d _ H => E cls d H)) (T : OexC X.K C) (iC : PySem.W.findIn X.K (.ref C) "__init__" = some (some (.ref fI))) (tI : PySem.W.typeIn X.K (.ref fI) = some (.type "function"))
    (F1 : FnOk X.prog X.w X.K X.mg X.base CX0 1 fI fd ["self", n1, n2] (spIni C n1 n2)) (hr : Room 2 X.A) (hb : Binds X.K fd ["self", n1, n2] []) (hg : Gl X x) (hm : X.mg x = some (.ref C)) (ha : PA X (e :: es) ta)
    (hdb : (x == ("__debug__" : Str)) = false := by decide) (he : starEach (e :: es) X.env = (false, eval e X.env) :: starEach es X.env := by rfl) (hpl : (backTo pos (starEach es X.env)).any (·.1) = false := by rfl) :
    PS X (.Raise (some (.Call (.Name x p) (e :: es) [] pos)) none pos2) (tRaiseM C n1 n2 E ta) :=
  ps_raise hc tk (pmk_oex T iC tI F1 hr hb .nil pass0 hg hm ha hdb he hpl)
/-- e.f of the caught one -/
theorem w_xf {a C d : Addr} {f : Str} {te : TE} {fs : List (Str × D)} {x : D} (h : W K te δ μ fun y μ1 => y = .ref a ∧ (d, M.xdt fs) ∈ μ1 ∧ fs.lookup f = some x ∧ P x μ1) : W K (tXf a (.ref C) (some d) C f te) δ μ P := fun σ H ok Q k =>
  h σ H ok _ fun v H1 y μ1 s1 m1 r1 ⟨e, hm, hl, p⟩ => by
    subst e
    cases r1
    obtain ⟨vs, hv, hp⟩ := m1.ok _ hm
    have key : ∀ {vs : List (Str × V)} {fs : List (Str × D)}, DenP K H1 vs fs → fs.lookup f = some x → ∃ v, vs.lookup f = some v ∧ Den K H1 v x := by
      intro vs fs h
      induction h with
      | nil => intro h; cases h
      | @cons g v d kvs kds r t ih =>
        intro h
        rw [List.lookup_cons] at h
        by_cases e : (f == g) = true
        · rw [e] at h
          cases h
          exact ⟨v, by rw [List.lookup_cons, e], r⟩
        · rw [Bool.eq_false_iff.mpr e] at h
          obtain ⟨u, h1, h2⟩ := ih h
          exact ⟨u, by rw [List.lookup_cons, Bool.eq_false_iff.mpr e]; exact h1, h2⟩
    obtain ⟨v, h1, h2⟩ := key hp hl
    exact ⟨rfl, rfl, d, vs, v, rfl, hv, h1, k _ H1 _ μ1 s1 m1 h2 p⟩
end
end Wk
namespace Wk
open PySem PySem.Spec L2 WkE
section
variable {K : PySem.W.Frag} {δ : Dl} {μ : Mu} {P : D → Mu → Prop}
def XdH (H : Hp) (d : Option Addr) : Prop := d = none ∨ ∃ dd fs, d = some dd ∧ H dd = some (.xd fs)
def XdO (o : Option Addr) (μ : Mu) : Prop := o = none ∨ ∃ d fs, o = some d ∧ (d, M.xdt fs) ∈ μ
theorem XdO.h {H : Hp} {o : Option Addr} (h : XdO o μ) (m : OkM K H μ) : XdH H o := by
  rcases h with rfl | ⟨d, fs, rfl, hm⟩
  · exact .inl rfl
  · obtain ⟨vs, hv, _⟩ := m.ok _ hm
    exact .inr ⟨d, vs, rfl, hv⟩
theorem XdO.none : XdO Option.none μ := .inl rfl
theorem XdO.of {d : Addr} {fs : List (Str × D)} (h : (d, M.xdt fs) ∈ μ) : XdO (some d) μ := .inr ⟨d, fs, rfl, h⟩
def rIsY (K : PySem.W.Frag) (cls : Value) (d : Option Addr) (a : Addr) : List V → Hp → VK → Prop := fun xs H Q => ∃ (C : Addr) (b : Bool), cls = .ref C ∧ XdH H d ∧ ExcC K C ∧ Q (.bl b) H ∧
  ((∃ c cv, xs = [.ref a, c] ∧ ClsV c cv ∧ PySem.W.kitOne K (.ref C) cv = some b) ∨ ∃ tp cs us, xs = [.ref a, .ref tp] ∧ SqT K H tp cs ∧ Paired ClsV cs us ∧ PySem.W.kitAny K (.ref C) us = some b)
theorem call_isY {X : Cx} {a : Addr} {oe : Obj} {cls : Value} {d : Option Addr} {pn : List (Addr × Obj)} (hK : X.K = K) (hz : Zc cls d oe) (hf : ∃ vs, oe.data = .fields vs) : CallR (X.suite a ((a, oe) :: pn)) (.builtin "isinstance") (rIsY K cls d a) := by
  subst hK
  intro pins s σ H xs us Q I r h
  obtain ⟨C, b, rfl, hx, E, q, h⟩ := h
  obtain ⟨hget, _⟩ := I.pin (a, oe) (List.mem_append.mpr (.inl List.mem_cons_self))
  obtain ⟨vs, hv⟩ := hf
  obtain ⟨od, J⟩ : ∃ od, PySem.W.InstAt s.heap a oe C od := by
    rcases hx with rfl | ⟨dd, fs, rfl, hdd⟩
    · exact ⟨none, hget, hz.1, by unfold PySem.W.notCls; rw [hv] <;> rfl, by rw [hz.2]; trivial⟩
    · have hx : ObjOk X.prog X.w H s.heap dd (.xd fs) := I.hok dd _ hdd
      obtain ⟨mA, hns, hr⟩ := hx
      obtain ⟨od, ho, _⟩ := lookIn_ns hns
      exact ⟨some od, hget, hz.1, by unfold PySem.W.notCls; rw [hv] <;> rfl, by rw [hz.2]; exact ho⟩
  have Z := PySem.W.kitx_exc (x := a) (ox := oe) (od := od) (isSome_of_dict E.hd) E.hg E.hk E.hs E.ha E.hn E.ht E.hm
  rcases h with ⟨c, cv, rfl, k, e⟩ | ⟨tp, cs, ws, rfl, hT, k, e⟩
  · cases r with
    | cons rx rr =>
    cases rr with
    | cons rt rr =>
    cases rr
    cases rx
    have ec := k.eq rt
    subst ec
    exact PySem.W.kia_one Z I.kIn J e (fun z => nomatch z) fun tk => ⟨.bl b, H, I.kept (t' := tk) fun _ _ z => z, rfl, q⟩
  · cases r with
    | cons rx rr =>
    cases rr with
    | cons rt rr =>
    cases rr
    cases rx
    cases rt
    obtain ⟨its, rv, p, _⟩ := I.tuple hT
    obtain ⟨o, h1, h2, n, h3⟩ := id p
    have e3 := ClsV.all k rv
    subst e3
    obtain ⟨oc, od2, dt, sl⟩ := o
    simp only at h2 h3
    subst h2 h3
    exact PySem.W.kia_tup Z I.kIn J h1 e (fun z => nomatch z) fun tk => ⟨.bl b, H, I.kept (t' := tk) fun _ _ z => z, rfl, q⟩
variable {C C2 a : Addr} {o : Option Addr} {b : Bool}
theorem wc_isY (hx : XdO o μ) (E : ExcC K C) (k : PySem.W.kitOne K (.ref C) (.ref C2) = some b) (q : P (.bl b) μ) : WC K (rIsY K (.ref C) o a) [.ref a, .ref C2] μ P := fun H vs m r Q f => by
  cases r with
  | cons r1 r2 =>
  cases r2 with
  | cons r3 r4 =>
  cases r4
  cases r1
  cases r3
  exact ⟨C, b, rfl, hx.h m, E, f _ H _ μ .refl m (.bl b) q, .inl ⟨_, _, rfl, .own C2, k⟩⟩
theorem wc_isYT {n : String} (hx : XdO o μ) (E : ExcC K C) (k : PySem.W.kitOne K (.ref C) (.type n) = some b) (q : P (.bl b) μ) : WC K (rIsY K (.ref C) o a) [.ref a, .ty n] μ P := fun H vs m r Q f => by
  cases r with
  | cons r1 r2 =>
  cases r2 with
  | cons r3 r4 =>
  cases r4
  cases r1
  cases r3
  exact ⟨C, b, rfl, hx.h m, E, f _ H _ μ .refl m (.bl b) q, .inl ⟨_, _, rfl, .ty n, k⟩⟩
theorem wc_isYs {Cs : List Addr} (hx : XdO o μ) (E : ExcC K C) (k : PySem.W.kitAny K (.ref C) (Cs.map Value.ref) = some b) (q : P (.bl b) μ) : WC K (rIsY K (.ref C) o a) [.ref a, .tup (Cs.map D.ref)] μ P := fun H vs m r Q f => by
  cases r with
  | cons r1 r2 =>
  cases r2 with
  | cons r3 r4 =>
  cases r4
  cases r1
  cases r3 with
  | tup hT_ hl => have hT := TpA.sqt hT_; exact ⟨C, b, rfl, hx.h m, E, f _ H _ μ .refl m (.bl b) q, .inr ⟨_, _, _, rfl, hT, clsv_refs hl, k⟩⟩
end
end Wk
namespace Wk
open PySem PySem.Spec L2 WkE
theorem inV_strs {i : Str} : ∀ ns : List Str, inV (V.str i) (ns.map V.str) = decide (i ∈ ns)
  | [] => rfl
  | n :: ns => by
    have ih := inV_strs (i := i) ns
    unfold inV at ih ⊢
    rw [List.map_cons, List.any_cons, ih]
    show ((n == i) || decide (i ∈ ns)) = _
    by_cases h : n = i
    · subst h; simp
    · have h2 : ¬ i = n := fun e => h e.symm
      have h3 : (n == i) = false := by simpa using h
      rw [h3]
      simp [List.mem_cons, h2]
theorem DenL.strs {K : PySem.W.Frag} {H : Hp} : ∀ {ns : List Str} {vs : List V}, DenL K H vs (ns.map D.str) → vs = ns.map V.str
  | [], _, h => by cases h; rfl
  | n :: ns, _, h => by
    cases h with
    | cons r t =>
      cases r
      rw [t.strs]; rfl
theorem w2_inTs {K : PySem.W.Frag} {μ : Mu} {P : D → Mu → Prop} {ns : List Str} {i : Str} (q : P (.bl (decide (i ∈ ns))) μ) : W2 K (rIn K false) (.str i) (.tup (ns.map D.str)) μ P := fun H v u m r1 r2 Q k => by
  cases r1
  cases r2 with
  | tup hs_ hl =>
    have hs := TpA.sqt hs_
    have e := hl.strs
    subst e
    exact ⟨_, _, rfl, .inr hs, rfl, by rw [List.all_map]; exact List.all_eq_true.mpr fun _ _ => rfl, k _ H _ μ .refl m (.bl _) (by rw [inV_strs]; exact q)⟩
end Wk
namespace Wk
open PySem PySem.Spec L2 WkE
section
variable {K : PySem.W.Frag} {δ : Dl} {μ : Mu} {al : TA} {P : D → Mu → Prop} {n : Nat} {S : SpD} {SX : SpE} {E : XK} {X : XP}
theorem w_callEN (h : WA K al δ μ fun ds μ1 => ds.length + 1 = n ∧ ∃ ds', ds ++ [D.non] = ds' ∧ S ds' μ1 P) : W K (tCall (spOfE K n S SX) [.non] E al) δ μ P := fun σ H ok Q f =>
  h σ H ok _ fun vs H1 ds μ1 s1 m1 r1 ⟨hl, ds', e, h1⟩ => by
    subst e
    exact ⟨by rw [List.length_append, r1.length]; exact hl, _, μ1, m1, r1.append (.cons .non .nil), .inl ⟨P, h1, fun v H2 d μ2 s2 m2 r2 p => f v H2 d μ2 (s1.trans s2) m2 r2 p⟩⟩
theorem xe_callN (h : WA K al δ μ fun ds μ1 => ds.length + 1 = n ∧ ∃ ds', ds ++ [D.non] = ds' ∧ SX ds' μ1 X) : XE K E (tCall (spOfE K n S SX) [.non] E al) δ μ X := fun σ H ok l Q =>
  h σ H ok _ fun vs H1 ds μ1 s1 m1 r1 ⟨hl, ds', e, h1⟩ => by
    subst e
    exact ⟨by rw [List.length_append, r1.length]; exact hl, _, μ1, m1, r1.append (.cons .non .nil), .inr ⟨X, h1, l.step s1⟩⟩
end
end Wk

set_option Elab.async false
set_option linter.all false
set_option maxRecDepth 100000
namespace WkE
open PySem PySem.Spec L2 PyProof.Rows
section
variable {X : Cx}
/-! what was just reckoned may be locked for good: it is never written again -/
def tFrzE (t : TE) : TE := fun σ H Q => t σ H fun v H1 => Q v H1 ∨ ∃ d u, H1 d = some u ∧ Mut (some u) ∧ ∀ od, Q v (upd H1 d (.frz od u))
theorem pe_frz {e : Expr} {t : TE} (h : PE X e t) : PE X e (tFrzE t) := by
  refine ⟨fun pins s σ H Q I hw => ?_⟩
  refine thn (h.run pins s σ _ _ I hw) fun v s1 ⟨x, H1, I1, r, q⟩ => ?_
  rcases q with q | ⟨d, u, hd, mu, q⟩
  · exact ⟨x, H1, I1, r, q⟩
  · obtain ⟨od, I2⟩ := I1.lock hd mu
    exact ⟨x, _, I2, r, q od⟩
end
end WkE
namespace Wk
open PySem PySem.Spec L2 WkE
section
variable {K : PySem.W.Frag} {δ : Dl} {μ μ' : Mu} {te td ty : TE} {P : D → Mu → Prop} {a : Addr}
def dD (kds : List (Key × D)) : D := .dct (kds.map (·.1)) (kds.map (·.2))
theorem denK_dct {H : Hp} : ∀ {kvs : List (Key × V)} {kds : List (Key × D)}, DenK K H kvs kds → kvs.map (·.1) = kds.map (·.1) ∧ DenL K H (kvs.map (·.2)) (kds.map (·.2))
  | _, _, .nil => ⟨rfl, .nil⟩
  | _, _, .cons a b => ⟨by rw [List.map_cons, List.map_cons, (denK_dct b).1], .cons a (denK_dct b).2⟩
theorem dct_denK {H : Hp} : ∀ {kvs : List (Key × V)} {kds : List (Key × D)}, kvs.map (·.1) = kds.map (·.1) → DenL K H (kvs.map (·.2)) (kds.map (·.2)) → DenK K H kvs kds
  | [], [], _, _ => .nil
  | [], _ :: _, h, _ => by simp at h
  | _ :: _, [], h, _ => by simp at h
  | (k, v) :: r, (k', d) :: r', h, h2 => by
    rw [List.map_cons, List.map_cons] at h h2
    injection h with h3 h4
    simp only at h3
    subst h3
    cases h2 with
    | cons x y => exact .cons x (dct_denK h4 y)
/-- how it is locked -/
def FrzQ (P : D → Mu → Prop) (x : D) (μ : Mu) : Prop := P x μ ∨ (∃ (a : Addr) (i : Nat) (ds : List D) (μ' : Mu), x = .ref a ∧ μ[i]? = some (a, .lst ds) ∧ μ.eraseIdx i = μ' ∧ P (.lis ds) μ') ∨
  ∃ (a : Addr) (i : Nat) (kds : List (Key × D)) (μ' : Mu), x = .ref a ∧ μ[i]? = some (a, .dic kds) ∧ μ.eraseIdx i = μ' ∧ P (dD kds) μ'
theorem frz_no {x : D} (q : P x μ) : FrzQ P x μ := .inl q
theorem frz_L {i : Nat} {ds : List D} (hm : μ[i]? = some (a, .lst ds)) (h : μ.eraseIdx i = μ') (q : P (.lis ds) μ') : FrzQ P (.ref a) μ := .inr (.inl ⟨a, i, ds, μ', rfl, hm, h, q⟩)
theorem frz_D {i : Nat} {kds : List (Key × D)} (hm : μ[i]? = some (a, .dic kds)) (h : μ.eraseIdx i = μ') (q : P (dD kds) μ') : FrzQ P (.ref a) μ := .inr (.inr ⟨a, i, kds, μ', rfl, hm, h, q⟩)
theorem frz_step {i : Nat} {m : M} {H : Hp} {o : HO} (hm : μ[i]? = some (a, m)) (hw : m.own = []) (ok : OkM K H μ) (ho : isMt o = false) : Step μ H (μ.eraseIdx i) (upd H a o) ∧ OkM K (upd H a o) (μ.eraseIdx i) := by
  have hp := foot_perm hm
  simp only [hw, List.nil_append] at hp
  have nd := hp.nodup_iff.mp ok.nd
  have na := (List.nodup_cons.mp nd).1
  have st : Step μ H (μ.eraseIdx i) (upd H a o) := ⟨fun b u e n => by
      rw [upd_ne (show b ≠ a from fun z => n (by rw [z]; exact mem_foot (List.mem_of_getElem? hm) a (.inl rfl)))]; exact e,
    fun b z => .inl (hp.mem_iff.mpr (List.mem_cons_of_mem _ z))⟩
  refine ⟨st, ⟨(List.nodup_cons.mp nd).2, fun q hq => ?_⟩⟩
  have hq2 : q ∈ μ := (erase_sub μ i).subset hq
  refine (ok.ok q hq2).keep (fun b u hb e => ?_) (ps_step ok st)
  rw [upd_ne (show b ≠ a from fun z => na (by rw [← z]; exact mem_foot hq b hb))]; exact e
theorem w_frz (h : W K te δ μ fun x μ1 => FrzQ P x μ1) : W K (tFrzE te) δ μ P := fun σ H ok Q f =>
  h σ H ok _ fun v H1 x μ1 s1 m1 r1 q => by
    rcases q with q | ⟨a, i, ds, μ', e, hm, e2, q⟩ | ⟨a, i, kds, μ', e, hm, e2, q⟩
    · exact .inl (f v H1 x μ1 s1 m1 r1 q)
    · subst e e2
      cases r1
      obtain ⟨vs, hv, hl⟩ := m1.at hm
      refine .inr ⟨a, _, hv, True.intro, fun od => ?_⟩
      obtain ⟨st, m2⟩ := frz_step (o := .frz od (.lst vs)) hm rfl m1 rfl
      exact f _ _ _ _ (s1.trans st) m2 (.lis upd_same (hl.step m1 st)) q
    · subst e e2
      cases r1
      obtain ⟨kvs, hv, hl⟩ := m1.at hm
      refine .inr ⟨a, _, hv, True.intro, fun od => ?_⟩
      obtain ⟨st, m2⟩ := frz_step (o := .frz od (.dK kvs)) hm rfl m1 rfl
      have hk := denK_dct (DenK.step' (ps_step m1 st) hl)
      exact f _ _ _ _ (s1.trans st) m2 (.dct upd_same hk.1 hk.2) q
/-! what is read of it -/
theorem wc_lenI {ds : List D} (q : P (.int (ds.length : Int)) μ) : WC K (rLenG K) [.lis ds] μ P := fun H vs m r Q k => by
  cases r with
  | cons a r =>
    cases r
    cases a with
    | lis hs hl => exact .inl ⟨_, _, rfl, .inl (.inl (.inr ⟨_, hs⟩)), by rw [hl.length]; exact k _ H _ μ .refl m (.int _) q⟩
theorem w2_ixI {ds : List D} {d : D} {i : Int} (hc : atI ds i = some d) (q : P d μ) : W2 K (rIx K) (.lis ds) (.int i) μ P := fun H v u m r1 r2 Q k => by
  cases r1 with
  | lis hs hl =>
    cases r2
    obtain ⟨w, hw, rw'⟩ := at_den hl hc
    exact .inl ⟨_, _, _, w, rfl, rfl, .inl (.inr ⟨_, hs⟩), hw, k _ H _ μ .refl m rw' q⟩
theorem w2_ixIm {α : Type} {f : α → D} {es : List α} {e : α} {k : Nat} (hk : es[k]? = some e) (q : P (f e) μ) : W2 K (rIx K) (.lis (es.map f)) (.int (k : Nat)) μ P := w2_ixI (d := f e) (by
  have hl : k < (es.map f).length := by rw [List.length_map]; exact (List.getElem?_eq_some_iff.mp hk).1
  unfold atI ixN
  rw [if_pos (by omega), if_pos (by omega)]
  show (es.map f)[(k : Int).toNat]? = _
  rw [Int.toNat_natCast, List.getElem?_map, hk]; rfl) q
/-- a dict's value, of a dict that stands still or of one that may change -/
def DgQ (P : D → Mu → Prop) (x y : D) (μ : Mu) : Prop := (∃ (a : Addr) (j : Nat) (kds : List (Key × D)) (k : Key) (d : D), x = .ref a ∧ y = kD k ∧ μ[j]? = some (a, M.dic kds) ∧ valD kds k = some d ∧ P d μ) ∨
  ∃ (kds : List (Key × D)) (k : Key) (d : D), x = dD kds ∧ y = kD k ∧ valD kds k = some d ∧ P d μ
theorem dg_ref {a : Addr} {y : D} (h : ∃ (a' : Addr) (j : Nat) (kds : List (Key × D)) (k : Key) (d : D), D.ref a = .ref a' ∧ y = kD k ∧ μ[j]? = some (a', M.dic kds) ∧ valD kds k = some d ∧ P d μ) : DgQ P (.ref a) y μ := .inl h
theorem dg_dct {kds : List (Key × D)} {k : Key} {d : D} (hv : valD kds k = some d) (q : P d μ) : DgQ P (dD kds) (kD k) μ := .inr ⟨kds, k, d, rfl, rfl, hv, q⟩
theorem dg_N {kds : List (Key × D)} {k : Nat} {d : D} (hv : valD kds (.inl (k : Int)) = some d) (q : P d μ) : DgQ P (dD kds) (.int (k : Int)) μ := dg_dct (k := .inl (k : Int)) hv q
theorem w_dgetU (h : W K td δ μ fun x μ1 => W K ty δ μ1 fun y μ2 => DgQ P x y μ2) : W K (tDGet td ty) δ μ P := fun σ H ok Q f =>
  h σ H ok _ fun v H1 x μ1 s1 m1 r1 h1 => h1 σ H1 (ok.step s1 m1) _ fun u H2 y μ2 s2 m2 r2 q => by
    rcases q with ⟨a, j, kds, k, d, e1, e2, hm, hv, q⟩ | ⟨kds, k, d, e1, e2, hv, q⟩
    · subst e1 e2
      cases r1
      have e := den_kD r2
      subst e
      obtain ⟨kvs, hd, hl⟩ := m2.at hm
      obtain ⟨w, hw, rw'⟩ := (hl.val (k := k)).2 d hv
      exact ⟨a, w, rfl, by rw [← hw]; exact DGet.k hd, f _ H2 _ μ2 (s1.trans s2) m2 rw' q⟩
    · subst e1 e2
      have e := den_kD r2
      subst e
      cases r1.step m1 s2 with
      | dct hq he hl =>
        obtain ⟨w, hw, rw'⟩ := ((dct_denK he hl).val (k := k)).2 d hv
        refine ⟨_, w, rfl, ?_, f _ H2 _ μ2 (s1.trans s2) m2 rw' q⟩
        rw [← hw]
        exact .inl ⟨_, k, .inr ⟨_, hq⟩, rfl, rfl⟩
theorem den_key {H : Hp} : ∀ k : Key, Den K H (kV k) (kD k)
  | .inl i => .int i
  | .inr s => .str s
/-- a dict that stands still is walked: its keys -/
theorem wi_keysU {PI : List D → (Mu → Prop) → Mu → Prop} (h : W K td δ μ fun x μ1 => ∃ kds : List (Key × D), x = dD kds ∧ PI (kds.map fun p => kD p.1) (fun _ => True) μ1) : WI K (iKeys td) δ μ PI := fun σ H ok R f =>
  h σ H ok _ fun v H1 x μ1 s1 m1 r1 ⟨kds, e, p⟩ => by
    subst e
    cases r1 with
    | @dct a o kvs _ _ hq he hl =>
      refine ⟨_, _, rfl, .inl ⟨_, hq, f _ H1 _ _ μ1 s1 m1 (fun H2 μ2 s2 m2 _ => ?_) p⟩⟩
      have hw := (ps_step m1 s2).2.2 _ _ _ hq
      have hlen : kvs.length = kds.length := by have := congrArg List.length he; rwa [List.length_map, List.length_map] at this
      refine ⟨fun i hi => ⟨hw, by rw [hlen]; rwa [List.length_map] at hi⟩, fun i d hd => ?_⟩
      rw [List.getElem?_map] at hd
      cases hk : kds[i]? with
      | none => rw [hk] at hd; cases hd
      | some kd =>
        rw [hk] at hd
        cases hd
        have hi := (List.getElem?_eq_some_iff.mp hk).1
        have hkv : kvs[i]? = some (kvs[i]'(by omega)) := List.getElem?_eq_getElem (by omega)
        have e1 : (kvs[i]'(by omega)).1 = kd.1 := by
          have h1 := congrArg (fun l : List Key => l[i]?) he
          simp only [List.getElem?_map, hkv, hk, Option.map_some] at h1
          exact Option.some.inj h1
        refine ⟨⟨hw, by omega⟩, fun x H' hy => ?_⟩
        obtain ⟨e2, k, v, e3, e4⟩ := hy
        subst e2 e4
        rw [hkv] at e3
        have e5 : (kvs[i]'(by omega)) = (k, v) := Option.some.inj e3
        rw [e5] at e1
        simp only at e1
        subst e1
        refine ⟨.refl, m2, ?_⟩
        exact den_key _
theorem keys_in {kds : List (Key × D)} {PI : List D → (Mu → Prop) → Mu → Prop} (q : PI (kds.map fun p => kD p.1) (fun _ => True) μ) : ∃ kds' : List (Key × D), dD kds = dD kds' ∧ PI (kds'.map fun p => kD p.1) (fun _ => True) μ := ⟨kds, rfl, q⟩
/-- dicts of numbers by numbers -/
def nkv (w : List (Nat × Int)) : List (Key × D) := w.map fun p => (.inl (p.1 : Int), .int p.2)
theorem nkv_keys (w : List (Nat × Int)) : (nkv w).map (fun p => kD p.1) = (w.map (·.1)).map fun k : Nat => D.int (k : Int) := by
  unfold nkv; rw [List.map_map, List.map_map]; rfl
theorem nkv_val {w : List (Nat × Int)} {k : Nat} {v : Int} (nd : (w.map (·.1)).Nodup) (h : (k, v) ∈ w) : valD (nkv w) (.inl (k : Int)) = some (.int v) := by
  induction w with
  | nil => cases h
  | cons p r ih =>
    rw [List.map_cons] at nd
    obtain ⟨n1, n2⟩ := List.nodup_cons.mp nd
    show valD ((.inl (p.1 : Int), .int p.2) :: nkv r) _ = _
    rcases List.mem_cons.mp h with e | h
    · subst e
      exact valD_here
    · refine valD_next (fun z => ?_) (ih n2 h)
      have : (p.1 : Int) = k := Sum.inl.inj z
      have : p.1 = k := by omega
      exact n1 (this ▸ List.mem_map.mpr ⟨_, h, rfl⟩)
theorem nkv_put {w : List (Nat × Int)} {k : Nat} {v : Int} (h : k ∉ w.map (·.1)) : putD (nkv w) (.inl (k : Int)) (.int v) = nkv (w ++ [(k, v)]) := by
  unfold putD
  rw [if_neg]
  · unfold nkv; rw [List.map_append]; rfl
  · intro z
    obtain ⟨x, hx, e⟩ := List.any_eq_true.mp z
    unfold nkv at hx
    obtain ⟨p, hp, rfl⟩ := List.mem_map.mp hx
    have : (p.1 : Int) = k := Sum.inl.inj (of_decide_eq_true e)
    have : p.1 = k := by omega
    exact h (this ▸ List.mem_map.mpr ⟨p, hp, rfl⟩)
theorem flat_lis {n : Nat} {ds : List D} (h : ∀ x ∈ ds, x.flat n) : (D.lis ds).flat (n + 1) := by
  obtain ⟨b1, b2, b3⟩ := flat_L h
  exact ⟨b1, b2, Nat.succ_le_succ b3⟩
theorem flat_map {α : Type} {n : Nat} {f : α → D} {es : List α} (h : ∀ x ∈ es, (f x).flat n) : ∀ x ∈ es.map f, x.flat n := fun x hx => by
  obtain ⟨z, hz, rfl⟩ := List.mem_map.mp hx
  exact h z hz
theorem flat_list2 {n : Nat} {x y : D} (hx : x.flat n) (hy : y.flat n) : ∀ z ∈ [x, y], z.flat n := fun z hz => by
  simp only [List.mem_cons, List.not_mem_nil, or_false] at hz
  rcases hz with rfl | rfl <;> assumption
theorem flat_list3 {n : Nat} {x y u : D} (hx : x.flat n) (hy : y.flat n) (hu : u.flat n) : ∀ z ∈ [x, y, u], z.flat n := fun z hz => by
  simp only [List.mem_cons, List.not_mem_nil, or_false] at hz
  rcases hz with rfl | rfl | rfl <;> assumption
theorem flat_list4 {n : Nat} {x y u v : D} (hx : x.flat n) (hy : y.flat n) (hu : u.flat n) (hv : v.flat n) : ∀ z ∈ [x, y, u, v], z.flat n := fun z hz => by
  simp only [List.mem_cons, List.not_mem_nil, or_false] at hz
  rcases hz with rfl | rfl | rfl | rfl <;> assumption
end
end Wk

set_option Elab.async false
set_option linter.all false
set_option maxRecDepth 100000
namespace WkE
open PySem PySem.Spec L2 PyProof.Rows
/-! sorted of pairs of numbers, whatever tuples they are -/
def rSortedPU (K : PySem.W.Frag) : List V → Hp → VK → Prop := fun vs H Q => ∃ (a : Addr) (xs : List V) (k : V → Int × Int), vs = [V.ref a] ∧ SqL K H a xs ∧ (∀ x ∈ xs, ∃ t, x = V.ref t ∧ SqT K H t [.int (k x).1, .int (k x).2]) ∧
  ∀ ys p, (∀ (t : Addr) (i j i' j' : Int), SqT K H t [.int i, .int j] → SqT K H t [.int i', .int j'] → i = i' ∧ j = j') → SrtO.Srtd (ltP k) ys → ys.Perm xs → H p = none → Q (.ref p) (upd H p (.lst ys))
section
variable {X : Cx}
theorem cr_sortedPU {K : PySem.W.Frag} (hK : X.K = K) : CallR X (.builtin "sorted") (rSortedPU K) := by
  subst hK
  intro pins s σ H vs us Q I r h
  obtain ⟨a, xs, k, rfl, hs, hx, q⟩ := h
  obtain ⟨its, rv, hl, hz⟩ := I.list hs
  obtain ⟨u, rfl, ru⟩ := vals1 r
  obtain rfl : u = Value.ref a := ru
  obtain ⟨e1, e2⟩ := refs_back rv fun x m => by
    obtain ⟨t, e, _⟩ := hx x m
    exact ⟨t, e⟩
  have tup : ∀ (t : Addr) (i j : Int), SqT X.K H t [.int i, .int j] → ∃ (o : Obj) (t1 t2 : Tok) (n : Nat), s.heap.get? t = some o ∧ o.cls = .type "tuple" ∧ o.data = .seq #[.int i t1, .int j t2] n := fun t i j hq => by
    obtain ⟨its2, r2, ⟨o, ho, hc, n, hd⟩, _⟩ := I.tuple hq
    obtain ⟨u1, u2, rfl, ri, rj⟩ := vals2 r2
    obtain ⟨t1, rfl⟩ := ri
    obtain ⟨t2, rfl⟩ := rj
    exact ⟨o, t1, t2, n, ho, hc, hd⟩
  refine SrtO.sorted_pairsO (k := fun u => k (backV u)) hl.isList (by rw [← rv.length]; exact hz) (fun v hv => ?_) fun h' d out h1 h2 kp hd hn => ?_
  · obtain ⟨t, rfl⟩ := e2 v hv
    have hm : V.ref t ∈ xs := by rw [e1]; exact List.mem_map.mpr ⟨_, hv, rfl⟩
    obtain ⟨t', e, ht⟩ := hx _ hm
    cases e
    obtain ⟨o, t1, t2, n, ho, hc, hd⟩ := tup _ _ _ ht
    exact ⟨t, o, t1, t2, n, rfl, ho, hc, hd⟩
  · have h3 : ∀ u ∈ out, ∃ a, u = Value.ref a := fun u hu => e2 u (h2.perm.mem_iff.mp hu)
    obtain ⟨n, hn⟩ := hn
    have hb : SrtO.Stb (ltP k) (out.map backV) xs := by
      rw [e1]
      exact SrtO.Stb.map (ltP_swo k) backV h2
    refine ⟨.ref d, upd H d (.lst (out.map backV)), I.laid (t' := s.toks) kp hd ⟨?_, out, n, vals_back h3, hn⟩, rfl, q _ d (fun t i j i' j' g1 g2 => ?_) (SrtO.srtd_map h1) hb.perm (I.hok.fresh hd)⟩
    · rw [hb.len]
      exact hz
    · obtain ⟨o, t1, t2, n, ho, _, hd⟩ := tup _ _ _ g1
      obtain ⟨o', t1', t2', n', ho', _, hd'⟩ := tup _ _ _ g2
      rw [ho] at ho'
      cases ho'
      rw [hd] at hd'
      injection hd' with e3
      injection e3 with e3
      injection e3 with e4 e5
      injection e5 with e5
      injection e4 with e4
      injection e5 with e5
      exact ⟨e4, e5⟩
end
end WkE
namespace Wk
open PySem PySem.Spec L2 WkE
section
variable {K : PySem.W.Frag} {μ : Mu} {P : D → Mu → Prop} {a : Addr}
theorem perm_map_inv {α β : Type} {f : α → β} {xs : List β} {ys : List β} (h : xs.Perm ys) : ∀ es : List α, ys = es.map f → ∃ es' : List α, es'.Perm es ∧ xs = es'.map f := by
  induction h with
  | nil => intro es e; exact ⟨[], (by cases es with | nil => exact .nil | cons _ _ => cases e), rfl⟩
  | cons x _ ih =>
    intro es e
    cases es with
    | nil => cases e
    | cons y es =>
      rw [List.map_cons] at e
      injection e with e1 e2
      obtain ⟨es', h1, h2⟩ := ih es e2
      exact ⟨y :: es', h1.cons y, by rw [List.map_cons, e1, h2]⟩
  | swap x y l =>
    intro es e
    match es, e with
    | [], e => cases e
    | [_], e => simp at e
    | u :: v :: r, e =>
      rw [List.map_cons, List.map_cons] at e
      injection e with e1 e2
      injection e2 with e2 e3
      exact ⟨v :: u :: r, .swap _ _ _, by rw [List.map_cons, List.map_cons, e1, e2, e3]⟩
  | trans _ _ ih1 ih2 =>
    intro es e
    obtain ⟨e1, p1, q1⟩ := ih2 es e
    obtain ⟨e2, p2, q2⟩ := ih1 e1 q1
    exact ⟨e2, p2.trans p1, q2⟩
theorem denl_perm {H : Hp} {vs ys : List V} (h : vs.Perm ys) : ∀ {ds : List D}, DenL K H vs ds → ∃ ds', ds'.Perm ds ∧ DenL K H ys ds' := by
  induction h with
  | nil => intro ds r; cases r; exact ⟨[], .nil, .nil⟩
  | cons x _ ih =>
    intro ds r
    cases r with
    | cons a b =>
      obtain ⟨ds', h1, h2⟩ := ih b
      exact ⟨_ :: ds', h1.cons _, .cons a h2⟩
  | swap x y l =>
    intro ds r
    cases r with
    | cons a b =>
      cases b with
      | cons c d => exact ⟨_, .swap _ _ _, .cons c (.cons a d)⟩
  | trans _ _ ih1 ih2 =>
    intro ds r
    obtain ⟨d1, p1, q1⟩ := ih1 r
    obtain ⟨d2, p2, q2⟩ := ih2 q1
    exact ⟨d2, p2.trans p1, q2⟩
/-- a before b, or alike -/
def LexP (a b : Int × Int) : Prop := a.1 < b.1 ∨ (a.1 = b.1 ∧ a.2 ≤ b.2)
theorem wc_sortedP {α : Type} {g : α → Int × Int} {f : α → D} (hf : ∀ x, f x = .tup [.int (g x).1, .int (g x).2]) {es : List α} (hm : Lk (es.map f) μ a) (q : ∀ (p : Addr) (es' : List α), es'.Perm es → es'.Pairwise (fun x y => LexP (g x) (g y)) → P (.ref p) ((p, .lst (es'.map f)) :: μ)) : WC K (rSortedPU K) [.ref a] μ P := fun H vs m r Q k => by
  cases r with
  | cons a1 r =>
    cases r
    cases a1
    obtain ⟨j, hj⟩ := hm
    obtain ⟨xs, hv, hl⟩ := m.at hj
    let kk : V → Int × Int := fun v => open Classical in if h : ∃ p : Int × Int, ∃ t, v = .ref t ∧ SqT K H t [.int p.1, .int p.2] then Classical.choose h else (0, 0)
    have hk : ∀ (v : V) (x : α), Den K H v (f x) → ∃ t, v = .ref t ∧ SqT K H t [.int (g x).1, .int (g x).2] := fun v x d => by
      rw [hf x] at d
      cases d with
      | tup h1_ h2 =>
        have h1 := TpA.sqt h1_
        cases h2 with
        | cons d1 d2 =>
          cases d1
          cases d2 with
          | cons d3 d4 =>
            cases d3
            cases d4
            exact ⟨_, rfl, h1⟩
    have hkk : ∀ (v : V) (x : α), Den K H v (f x) → ∃ t, v = .ref t ∧ SqT K H t [.int (kk v).1, .int (kk v).2] := fun v x d => by
      obtain ⟨t, e, h1⟩ := hk v x d
      have h : ∃ p : Int × Int, ∃ t, v = .ref t ∧ SqT K H t [.int p.1, .int p.2] := ⟨g x, t, e, h1⟩
      have e1 : kk v = Classical.choose h := dif_pos h
      rw [e1]
      exact Classical.choose_spec h
    have hall : ∀ {xs : List V} {es : List α}, DenL K H xs (es.map f) → ∀ v ∈ xs, ∃ x ∈ es, Den K H v (f x) := fun {xs} => by
      induction xs with
      | nil => intro es h v hv; cases hv
      | cons y ys ih =>
        intro es h v hv
        cases es with
        | nil => cases h
        | cons e es =>
          cases h with
          | cons b c =>
            rcases List.mem_cons.mp hv with rfl | hv
            · exact ⟨e, List.mem_cons_self, b⟩
            · obtain ⟨x, hx, d⟩ := ih c v hv
              exact ⟨x, List.mem_cons_of_mem _ hx, d⟩
    refine ⟨a, xs, kk, rfl, .inl (.inl hv), fun v hv => ?_, fun ys p un so pm hp => ?_⟩
    · obtain ⟨x, _, d⟩ := hall hl v hv
      exact hkk v x d
    · obtain ⟨ds', h1, h2⟩ := denl_perm pm.symm hl
      obtain ⟨es', h3, rfl⟩ := perm_map_inv h1 es rfl
      refine k _ _ _ _ (step_join hp rfl) (m.join (m := .lst (es'.map f)) hp rfl ⟨_, upd_same, h2.step m (step_new hp)⟩) (.ref p) (q p es' h3 ?_)
      have key : ∀ (v : V) (x : α), Den K H v (f x) → kk v = g x := fun v x d => by
        obtain ⟨t, e, h1⟩ := hk v x d
        obtain ⟨t', e', h2⟩ := hkk v x d
        rw [e] at e'
        cases e'
        obtain ⟨e3, e4⟩ := un t _ _ _ _ h2 h1
        exact Prod.ext e3 e4
      have tr : ∀ {ys : List V} {es : List α}, DenL K H ys (es.map f) → SrtO.Srtd (ltP kk) ys → es.Pairwise (fun x y => LexP (g x) (g y)) := fun {ys} => by
        induction ys with
        | nil => intro es h _; cases es with | nil => exact .nil | cons _ _ => cases h
        | cons y ys ih =>
          intro es h so
          cases es with
          | nil => cases h
          | cons e es =>
            cases h with
            | cons b c =>
              obtain ⟨s1, s2⟩ := List.pairwise_cons.mp so
              refine List.pairwise_cons.mpr ⟨fun x hx => ?_, ih c s2⟩
              obtain ⟨i, hi⟩ := List.getElem?_of_mem hx
              obtain ⟨w, hw, dw⟩ := c.get (i := i) (d := f x) (by rw [List.getElem?_map, hi]; rfl)
              have := SrtO.lexB_no.mp (s1 w (List.mem_of_getElem? hw))
              rw [key y e b, key w x dw] at this
              unfold LexP
              omega
      exact tr h2 so
end
end Wk

set_option Elab.async false
set_option linter.all false
set_option maxRecDepth 100000
namespace Wk
open PySem PySem.Spec L2 WkE
section
variable {K : PySem.W.Frag} {δ : Dl} {μ μ' : Mu} {ts : TS} {N B C : Dl → Mu → Prop} {R : D → Mu → Prop} {a : Addr} {P : D → Mu → Prop}
/-! ### the script itself -/
theorem wc_lenScr {ns : List Int} (q : P (.int (ns.length : Nat)) μ) : WC K (rLenG K) [.scr ns] μ P := fun H vs m r Q k => by
  cases r with
  | cons r1 r2 =>
    cases r2
    cases r1 with
    | scr h =>
      refine .inl ⟨_, _, rfl, .inl h.sql, ?_⟩
      rw [List.length_map]
      exact k _ H _ μ .refl m (.int _) q
theorem w2_ixScr {ns : List Int} {k : Nat} (hk : k < ns.length) (q : ∀ c : Int, P (.int c) μ) : W2 K (rIx K) (.scr ns) (.int (k : Nat)) μ P := fun H v u m r1 r2 Q f => by
  cases r2
  cases r1 with
  | scr h =>
    refine .inl ⟨_, _, _, .int ns[k], rfl, rfl, h.sql, ?_, f _ H _ μ .refl m (.int _) (q _)⟩
    unfold atI ixN
    rw [List.length_map, if_pos (by omega), if_pos (by omega)]
    show (ns.map V.int)[(k : Int).toNat]? = _
    rw [Int.toNat_natCast, List.getElem?_map, List.getElem?_eq_getElem hk]; rfl
/-! ### a well: a list of three numbers, the last one counting -/
def WelI (n : Nat) (ns : List Int) : Prop := ∃ x y z : Int, ns = [x, y, z] ∧ 0 ≤ z ∧ z ≤ n
abbrev wl (n : Nat) : M := .hid (WelI n)
theorem weak_at {i n m : Nat} (hm : μ[i]? = some (a, wl n)) (h : n ≤ m) : Weak μ (μ.set i (a, wl m)) := fun K H o => by
  have fe : foot (μ.set i (a, wl m)) = foot μ := foot_set hm rfl
  refine ⟨⟨by rw [fe]; exact o.nd, fun p hp => ?_⟩, fun x z => by rw [fe] at z; exact z⟩
  obtain ⟨j, hj⟩ := List.getElem?_of_mem hp
  rw [List.getElem?_set] at hj
  split at hj
  · split at hj
    · cases hj
      obtain ⟨ns, ⟨x, y, z, e, z0, z1⟩, e2⟩ := o.at hm
      exact ⟨ns, ⟨x, y, z, e, z0, by omega⟩, e2⟩
    · cases hj
  · exact o.ok p (List.mem_of_getElem? hj)
theorem weak_set {i n m : Nat} {m0 : M} (hm : μ[i]? = some (a, m0)) (h : n ≤ m) : Weak (μ.set i (a, wl n)) (μ.set i (a, wl m)) := by
  have hl : i < μ.length := (List.getElem?_eq_some_iff.mp hm).1
  have := weak_at (μ := μ.set i (a, wl n)) (i := i) (n := n) (m := m) (a := a) (by rw [List.getElem?_set_self hl]) h
  rwa [List.set_set] at this
theorem weak_wlh {n m : Nat} (h : n ≤ m) (hw : Weak μ μ') : Weak ((a, wl n) :: μ) ((a, wl m) :: μ') := (weak_keep hw).trans (weak_at (μ := (a, wl n) :: μ') (i := 0) (a := a) (n := n) rfl h)
theorem atSet {i : Nat} {x y : Addr × M} (h : μ[i]? = some x) : (μ.set i y)[i]? = some y := by
  rw [List.getElem?_set_self (List.getElem?_eq_some_iff.mp h).1]
theorem s_openW {i n : Nat} (hm : μ[i]? = some (a, wl n)) (h : ∀ x y z : Int, 0 ≤ z → z ≤ n → S4 K ts δ ((a, .lst [.int x, .int y, .int z]) :: μ.eraseIdx i) N R B C) : S4 K ts δ μ N R B C :=
  s_openH hm fun ns ⟨x, y, z, e, h0, h1⟩ => by subst e; exact h x y z h0 h1
theorem weak_closeW {i n m : Nat} {x y z : Int} {xs : List D} (hm : μ[i]? = some (a, wl n)) (e : xs = [.int x, .int y, .int z]) (h0 : 0 ≤ z) (h1 : z ≤ m) : Weak ((a, .lst xs) :: μ.eraseIdx i) (μ.set i (a, wl m)) := by
  subst e
  have hl : i < μ.length := (List.getElem?_eq_some_iff.mp hm).1
  have := weak_closeH (μ := μ.set i (a, wl m)) (i := i) (a := a) (I := WelI m) (xs := [.int x, .int y, .int z]) (ns := [x, y, z]) (by rw [List.getElem?_set_self hl]) rfl ⟨x, y, z, rfl, h0, h1⟩
  have e2 : (μ.set i (a, wl m)).eraseIdx i = μ.eraseIdx i := by
    apply List.ext_getElem?
    intro j
    rw [List.getElem?_eraseIdx, List.getElem?_eraseIdx]
    split
    · rw [List.getElem?_set_ne (by omega)]
    · rw [List.getElem?_set_ne (by omega)]
  rwa [e2] at this
theorem Lk.setW {ds : List D} {p d : Addr} {i n : Nat} {x : Addr × M} (h : Lk ds μ p) (hm : μ[i]? = some (d, wl n)) : Lk ds (μ.set i x) p := by
  obtain ⟨j, hj⟩ := h
  refine ⟨j, ?_⟩
  by_cases c : i = j
  · subst c; rw [hm] at hj; cases hj
  · rw [List.getElem?_set_ne c]; exact hj
/-- a drawn number -/
def SpDrawW : SpD := fun ds μ P => ∃ (d : Addr) (m : Int) (i n : Nat), ds = [.ref d, .int m] ∧ μ[i]? = some (d, wl n) ∧ n < 1000000 ∧ 0 < m ∧ m < 2 ^ 62 ∧ ∀ k, 0 ≤ k → k < m → P (.int k) (μ.set i (d, wl (n + 1)))
theorem sp_drawW {d : Addr} {m : Int} {i n : Nat} (hm : μ[i]? = some (d, wl n)) (hn : n < 1000000) (h0 : 0 < m) (h1 : m < 2 ^ 62) (h : μ.set i (d, wl (n + 1)) = μ') (q : ∀ k, 0 ≤ k → k < m → P (.int k) μ') : SpDrawW [.ref d, .int m] μ P := ⟨d, m, i, n, rfl, hm, hn, h0, h1, by subst h; exact q⟩
end
end Wk

set_option Elab.async false
set_option linter.all false
set_option maxRecDepth 100000
namespace Wk
open PySem PySem.Spec L2 WkE
section
variable {K : PySem.W.Frag} {δ : Dl} {μ μ' : Mu} {ts : TS} {N B C : Dl → Mu → Prop} {R : D → Mu → Prop} {a c : Addr} {P : D → Mu → Prop}
/-! ### a deck that is a list: its cells, then three numbers, the second one counting -/
def FdI (n : Nat) (ns : List Int) : Prop := ∃ x y z : Int, ns = [x, y, z] ∧ (0 ≤ y ∧ y ≤ n) ∧ 0 ≤ z
abbrev fl (n : Nat) (c : Addr) : M := .lkc (FdI n) c
theorem weak_atF {i n m : Nat} (hm : μ[i]? = some (a, fl n c)) (h : n ≤ m) : Weak μ (μ.set i (a, fl m c)) := fun K H o => by
  have fe : foot (μ.set i (a, fl m c)) = foot μ := foot_set hm rfl
  refine ⟨⟨by rw [fe]; exact o.nd, fun p hp => ?_⟩, fun x z => by rw [fe] at z; exact z⟩
  obtain ⟨j, hj⟩ := List.getElem?_of_mem hp
  rw [List.getElem?_set] at hj
  split at hj
  · split at hj
    · cases hj
      obtain ⟨ns, cs, ⟨x, y, z, e, ⟨z0, z1⟩, z2⟩, h2, e1, e2⟩ := o.at hm
      exact ⟨ns, cs, ⟨x, y, z, e, ⟨z0, by omega⟩, z2⟩, h2, e1, e2⟩
    · cases hj
  · exact o.ok p (List.mem_of_getElem? hj)
theorem weak_setF {i n m : Nat} {m0 : M} (hm : μ[i]? = some (a, m0)) (h : n ≤ m) : Weak (μ.set i (a, fl n c)) (μ.set i (a, fl m c)) := by
  have hl : i < μ.length := (List.getElem?_eq_some_iff.mp hm).1
  have := weak_atF (μ := μ.set i (a, fl n c)) (i := i) (n := n) (m := m) (a := a) (c := c) (by rw [List.getElem?_set_self hl]) h
  rwa [List.set_set] at this
theorem weak_flh {n m : Nat} (h : n ≤ m) (hw : Weak μ μ') : Weak ((a, fl n c) :: μ) ((a, fl m c) :: μ') := (weak_keep hw).trans (weak_atF (μ := (a, fl n c) :: μ') (i := 0) (a := a) (n := n) rfl h)
theorem s_openF {i n : Nat} (hm : μ[i]? = some (a, fl n c)) (h : ∀ (x y z : Int) (cs : List Int), 0 ≤ y → y ≤ n → 0 ≤ z → cs.length ≤ 63 → S4 K ts δ ((a, .lst [.ref c, .int x, .int y, .int z]) :: (c, .lst (cs.map D.int)) :: μ.eraseIdx i) N R B C) : S4 K ts δ μ N R B C :=
  s_openC hm fun ns cs ⟨x, y, z, e, h0, h1⟩ h2 => by subst e; exact h x y z cs h0.1 h0.2 h1 h2
theorem weak_closeF {i n m : Nat} {x y z : Int} {xs ds : List D} {cs : List Int} (hm : μ[i]? = some (a, fl n c)) (e : xs = [.ref c, .int x, .int y, .int z]) (e2 : ds = cs.map D.int) (h0 : 0 ≤ y) (h1 : y ≤ m) (h2 : 0 ≤ z) (h3 : cs.length ≤ 63) :
    Weak ((a, .lst xs) :: (c, .lst ds) :: μ.eraseIdx i) (μ.set i (a, fl m c)) := by
  subst e
  have hl : i < μ.length := (List.getElem?_eq_some_iff.mp hm).1
  have := weak_closeC (μ := μ.set i (a, fl m c)) (i := i) (a := a) (I := FdI m) (xs := [.ref c, .int x, .int y, .int z]) (ns := [x, y, z]) (ds := ds) (cs := cs) (by rw [List.getElem?_set_self hl]) rfl e2 ⟨x, y, z, rfl, ⟨h0, h1⟩, h2⟩ h3
  have e2 : (μ.set i (a, fl m c)).eraseIdx i = μ.eraseIdx i := by
    apply List.ext_getElem?
    intro j
    rw [List.getElem?_eraseIdx, List.getElem?_eraseIdx]
    split
    · rw [List.getElem?_set_ne (by omega)]
    · rw [List.getElem?_set_ne (by omega)]
  rwa [e2] at this
theorem Lk.setF {ds : List D} {p d : Addr} {i n : Nat} {x : Addr × M} (h : Lk ds μ p) (hm : μ[i]? = some (d, fl n c)) : Lk ds (μ.set i x) p := by
  obtain ⟨j, hj⟩ := h
  refine ⟨j, ?_⟩
  by_cases k : i = j
  · subst k; rw [hm] at hj; cases hj
  · rw [List.getElem?_set_ne k]; exact hj
/-- a drawn number -/
def SpDrawF : SpD := fun ds μ P => ∃ (d c : Addr) (m : Int) (i n : Nat), ds = [.ref d, .int m] ∧ μ[i]? = some (d, fl n c) ∧ n < 10000000 ∧ 0 < m ∧ m < 2 ^ 62 ∧ ∀ k, 0 ≤ k → k < m → P (.int k) (μ.set i (d, fl (n + 1) c))
theorem sp_drawF {d : Addr} {m : Int} {i n : Nat} (hm : μ[i]? = some (d, fl n c)) (hn : n < 10000000) (h0 : 0 < m) (h1 : m < 2 ^ 62) (h : μ.set i (d, fl (n + 1) c) = μ') (q : ∀ k, 0 ≤ k → k < m → P (.int k) μ') : SpDrawF [.ref d, .int m] μ P := ⟨d, c, m, i, n, rfl, hm, hn, h0, h1, by subst h; exact q⟩
end
end Wk

set_option Elab.async false
set_option linter.all false
set_option maxRecDepth 100000
namespace Wk
open PySem PySem.Spec L2 WkE
/-- a box, or none -/
abbrev OB := Option (Int × Int × Int × Int)
abbrev bx (a b c e : Int) : D := .tup [.int a, .int b, .int c, .int e]
def oD : OB → D
  | none => .non
  | some (a, b, c, e) => bx a b c e
def metO : OB → OB → OB
  | some (a, b, c, e), some (a', b', c', e') => if max a a' > min b b' ∨ max c c' > min e e' then none else some (max a a', min b b', max c c', min e e')
  | _, _ => none
theorem metO_no {a b c e a' b' c' e' : Int} (h : max a a' > min b b' ∨ max c c' > min e e') : metO (some (a, b, c, e)) (some (a', b', c', e')) = none := if_pos h
theorem metO_yes {a b c e a' b' c' e' : Int} (h : ¬ (max a a' > min b b' ∨ max c c' > min e e')) : metO (some (a, b, c, e)) (some (a', b', c', e')) = some (max a a', min b b', max c c', min e e') := if_neg h
theorem metO_comm (x y : OB) : metO x y = metO y x := by
  match x, y with
  | none, none => rfl
  | none, some _ => rfl
  | some _, none => rfl
  | some (a, b, c, e), some (a', b', c', e') =>
    by_cases h : max a a' > min b b' ∨ max c c' > min e e'
    · rw [metO_no h, metO_no (by omega)]
    · rw [metO_yes h, metO_yes (by omega), Int.max_comm a, Int.min_comm b, Int.max_comm c, Int.min_comm e]
/-- how far apart two boxes are -/
def apI (a b c e a' b' c' e' : Int) : Int := max (max 0 (max (a - b') (a' - b))) (max (c - e') (c' - e))
theorem apI_comm (a b c e a' b' c' e' : Int) : apI a b c e a' b' c' e' = apI a' b' c' e' a b c e := by
  unfold apI
  rw [Int.max_comm (a - b'), Int.max_comm (c - e')]
theorem apI_facts {a b c e a' b' c' e' n : Int} (h : apI a b c e a' b' c' e' = n) : 0 ≤ n ∧ a - b' ≤ n ∧ a' - b ≤ n ∧ c - e' ≤ n ∧ c' - e ≤ n ∧ (n = 0 ∨ a - b' = n ∨ a' - b = n ∨ c - e' = n ∨ c' - e = n) := by
  unfold apI at h
  omega
theorem oD_no {a b c e a' b' c' e' : Int} (h : a > b' ∨ a' > b ∨ c > e' ∨ c' > e) : oD (metO (some (a, b, c, e)) (some (a', b', c', e'))) = .non := by
  rw [metO_no (by omega)]; rfl
theorem oD_yes {a b c e a' b' c' e' : Int} (h : a ≤ b ∧ c ≤ e ∧ a' ≤ b' ∧ c' ≤ e') (h2 : a ≤ b' ∧ a' ≤ b ∧ c ≤ e' ∧ c' ≤ e) : oD (metO (some (a, b, c, e)) (some (a', b', c', e'))) = .tup [.int (max a a'), .int (min b b'), .int (max c c'), .int (min e e')] := by
  rw [metO_yes (by omega)]; rfl
end Wk

set_option Elab.async false
set_option linter.all false
set_option maxRecDepth 100000
namespace Wk
open PySem PySem.Spec L2 WkE
/-- an end -/
structure En where
  x : Int
  y : Int
  s : Int
  l : Int
abbrev eD (e : En) : D := .tup [.int e.x, .int e.y, .int e.s, .int e.l]
/-- how far two numbers are apart -/
abbrev di (i j : Int) : Int := max (i - j) (-(i - j))
/-- what two ends want -/
def wI (e f : En) : Int := e.s + f.s + (di e.x f.x + di e.y f.y)
theorem eD_flat {es : List En} : ∀ x ∈ es.map eD, x.flat 1 := by
  intro x hx
  obtain ⟨e, _, rfl⟩ := List.mem_map.mp hx
  exact flat_dec rfl
theorem eD_get {es : List En} {k : Nat} {d : D} (h : (es.map eD)[k]? = some d) : ∃ e, es[k]? = some e ∧ d = eD e := by
  rw [List.getElem?_map] at h
  obtain ⟨e, h1, rfl⟩ := Option.map_eq_some_iff.mp h
  exact ⟨e, h1, rfl⟩
/-- the end at a number -/
def atE (es : List En) (i : Int) (e : En) : Prop := 0 ≤ i ∧ es[i.toNat]? = some e
theorem atE_ex {es : List En} {i : Int} (h0 : 0 ≤ i) (h1 : i < es.length) : ∃ e, atE es i e := ⟨_, h0, List.getElem?_eq_getElem (by omega)⟩
theorem atE_nat {es : List En} {i : Nat} {e : En} (h : es[i]? = some e) : atE es i e := ⟨by omega, h⟩
theorem atE.ix {K : PySem.W.Frag} {μ : Mu} {P : D → Mu → Prop} {es : List En} {i : Int} {e : En} (h : atE es i e) (q : P (eD e) μ) : W2 K (rIx K) (.tup (es.map eD)) (.int i) μ P := by
  have h2 := (List.getElem?_eq_some_iff.mp h.2).1
  have h1 := h.1
  refine w2_ixTO h.1 (by rw [List.length_map]; omega) fun k d hk ek => ?_
  obtain ⟨e1, he1, rfl⟩ := eD_get hk
  obtain rfl : k = i.toNat := by omega
  cases h.2.symm.trans he1
  exact q
/-- the row of some ends: the height and the box -/
structure RowOf (es : List En) (h a b c e : Int) : Prop where
  ne : es ≠ []
  pos : ∀ x ∈ es, 0 ≤ x.s
  hx : ∃ x ∈ es, ∃ y ∈ es, wI x y = h
  hm : ∀ x ∈ es, ∀ y ∈ es, wI x y ≤ h
  ax : ∃ x ∈ es, 2 * (x.x + x.y) - (h - 2 * x.s) = a
  am : ∀ x ∈ es, 2 * (x.x + x.y) - (h - 2 * x.s) ≤ a
  bx : ∃ x ∈ es, 2 * (x.x + x.y) + (h - 2 * x.s) = b
  bm : ∀ x ∈ es, b ≤ 2 * (x.x + x.y) + (h - 2 * x.s)
  cx : ∃ x ∈ es, 2 * (x.x - x.y) - (h - 2 * x.s) = c
  cm : ∀ x ∈ es, 2 * (x.x - x.y) - (h - 2 * x.s) ≤ c
  ex : ∃ x ∈ es, 2 * (x.x - x.y) + (h - 2 * x.s) = e
  em : ∀ x ∈ es, e ≤ 2 * (x.x - x.y) + (h - 2 * x.s)
theorem RowOf.wide {es : List En} {h a b c e : Int} (R : RowOf es h a b c e) : b - a ≤ 2 * h ∧ e - c ≤ 2 * h := by
  obtain ⟨x, hx, _⟩ := R.ax
  have m1 := R.am x hx
  have m2 := R.bm x hx
  have m3 := R.cm x hx
  have m4 := R.em x hx
  have m5 := R.pos x hx
  omega
theorem RowOf.thin {es : List En} {h a b c e : Int} (R : RowOf es h a b c e) : b ≤ a ∨ e ≤ c := by
  obtain ⟨x, hx, y, hy, hw⟩ := R.hx
  have m1 := R.am x hx
  have m2 := R.bm x hx
  have m3 := R.cm x hx
  have m4 := R.em x hx
  have n1 := R.am y hy
  have n2 := R.bm y hy
  have n3 := R.cm y hy
  have n4 := R.em y hy
  unfold wI di at hw
  omega
/-- the part of it that the second loop goes through -/
structure BoxOf (es : List En) (h a b c e : Int) : Prop where
  ax : ∃ x ∈ es, 2 * (x.x + x.y) - (h - 2 * x.s) = a
  am : ∀ x ∈ es, 2 * (x.x + x.y) - (h - 2 * x.s) ≤ a
  bx : ∃ x ∈ es, 2 * (x.x + x.y) + (h - 2 * x.s) = b
  bm : ∀ x ∈ es, b ≤ 2 * (x.x + x.y) + (h - 2 * x.s)
  cx : ∃ x ∈ es, 2 * (x.x - x.y) - (h - 2 * x.s) = c
  cm : ∀ x ∈ es, 2 * (x.x - x.y) - (h - 2 * x.s) ≤ c
  ex : ∃ x ∈ es, 2 * (x.x - x.y) + (h - 2 * x.s) = e
  em : ∀ x ∈ es, e ≤ 2 * (x.x - x.y) + (h - 2 * x.s)
theorem wI_comm (x y : En) : wI x y = wI y x := by
  unfold wI di
  omega
theorem wI_self (x : En) : wI x x = 2 * x.s := by
  unfold wI di
  omega
theorem BoxOf.one (x : En) (h : Int) : BoxOf [x] h (2 * (x.x + x.y) - (h - 2 * x.s)) (2 * (x.x + x.y) + (h - 2 * x.s)) (2 * (x.x - x.y) - (h - 2 * x.s)) (2 * (x.x - x.y) + (h - 2 * x.s)) := by
  constructor
  all_goals first
    | exact ⟨x, List.mem_singleton.mpr rfl, rfl⟩
    | (intro y hy; rw [List.mem_singleton.mp hy]; exact Int.le_refl _)
/-- the boxes of two ends that want no more than the height meet -/
theorem box_meet {x y : En} {h : Int} (hw : wI x y ≤ h) : 2 * (x.x + x.y) - (h - 2 * x.s) ≤ 2 * (y.x + y.y) + (h - 2 * y.s) ∧ 2 * (x.x - x.y) - (h - 2 * x.s) ≤ 2 * (y.x - y.y) + (h - 2 * y.s) := by
  unfold wI di at hw
  omega
theorem BoxOf.grow {es : List En} {h a b c e : Int} (B : BoxOf es h a b c e) (x : En) : BoxOf (es ++ [x]) h (max a (2 * (x.x + x.y) - (h - 2 * x.s))) (min b (2 * (x.x + x.y) + (h - 2 * x.s))) (max c (2 * (x.x - x.y) - (h - 2 * x.s))) (min e (2 * (x.x - x.y) + (h - 2 * x.s))) := by
  have hl : ∀ y ∈ es, y ∈ es ++ [x] := fun y hy => List.mem_append_left _ hy
  have hr : x ∈ es ++ [x] := List.mem_append_right _ (List.mem_singleton.mpr rfl)
  have hh : ∀ {p : En → Prop}, (∀ y ∈ es, p y) → p x → ∀ y ∈ es ++ [x], p y := fun h1 h2 y hy => by
    rcases List.mem_append.mp hy with hy | hy
    · exact h1 y hy
    · rw [List.mem_singleton.mp hy]; exact h2
  constructor
  · obtain ⟨y, hy, e1⟩ := B.ax
    rcases Int.le_total a (2 * (x.x + x.y) - (h - 2 * x.s)) with q | q
    · exact ⟨x, hr, by rw [Int.max_eq_right q]⟩
    · exact ⟨y, hl y hy, by rw [Int.max_eq_left q]; exact e1⟩
  · exact hh (fun y hy => Int.le_trans (B.am y hy) (Int.le_max_left _ _)) (Int.le_max_right _ _)
  · obtain ⟨y, hy, e1⟩ := B.bx
    rcases Int.le_total b (2 * (x.x + x.y) + (h - 2 * x.s)) with q | q
    · exact ⟨y, hl y hy, by rw [Int.min_eq_left q]; exact e1⟩
    · exact ⟨x, hr, by rw [Int.min_eq_right q]⟩
  · exact hh (fun y hy => Int.le_trans (Int.min_le_left _ _) (B.bm y hy)) (Int.min_le_right _ _)
  · obtain ⟨y, hy, e1⟩ := B.cx
    rcases Int.le_total c (2 * (x.x - x.y) - (h - 2 * x.s)) with q | q
    · exact ⟨x, hr, by rw [Int.max_eq_right q]⟩
    · exact ⟨y, hl y hy, by rw [Int.max_eq_left q]; exact e1⟩
  · exact hh (fun y hy => Int.le_trans (B.cm y hy) (Int.le_max_left _ _)) (Int.le_max_right _ _)
  · obtain ⟨y, hy, e1⟩ := B.ex
    rcases Int.le_total e (2 * (x.x - x.y) + (h - 2 * x.s)) with q | q
    · exact ⟨y, hl y hy, by rw [Int.min_eq_left q]; exact e1⟩
    · exact ⟨x, hr, by rw [Int.min_eq_right q]⟩
  · exact hh (fun y hy => Int.le_trans (Int.min_le_left _ _) (B.em y hy)) (Int.min_le_right _ _)
theorem BoxOf.meets {es : List En} {h a b c e : Int} (B : BoxOf es h a b c e) (x : En) (hM : ∀ y ∈ es, wI y x ≤ h) : a ≤ 2 * (x.x + x.y) + (h - 2 * x.s) ∧ 2 * (x.x + x.y) - (h - 2 * x.s) ≤ b ∧ c ≤ 2 * (x.x - x.y) + (h - 2 * x.s) ∧ 2 * (x.x - x.y) - (h - 2 * x.s) ≤ e := by
  obtain ⟨y1, hy1, e1⟩ := B.ax
  obtain ⟨y2, hy2, e2⟩ := B.bx
  obtain ⟨y3, hy3, e3⟩ := B.cx
  obtain ⟨y4, hy4, e4⟩ := B.ex
  have m1 := box_meet (hM y1 hy1)
  have m2 := box_meet (by rw [wI_comm]; exact hM y2 hy2 : wI x y2 ≤ h)
  have m3 := box_meet (hM y3 hy3)
  have m4 := box_meet (by rw [wI_comm]; exact hM y4 hy4 : wI x y4 ≤ h)
  omega
theorem BoxOf.le {es : List En} {h a b c e : Int} (B : BoxOf es h a b c e) (hM : ∀ x ∈ es, ∀ y ∈ es, wI x y ≤ h) : a ≤ b ∧ c ≤ e := by
  obtain ⟨y1, hy1, e1⟩ := B.ax
  obtain ⟨y3, hy3, e3⟩ := B.cx
  have m1 := B.bm y1 hy1
  obtain ⟨y2, hy2, e2⟩ := B.bx
  obtain ⟨y4, hy4, e4⟩ := B.ex
  have q1 := box_meet (hM y1 hy1 y2 hy2)
  have q2 := box_meet (hM y3 hy3 y4 hy4)
  omega
theorem w2_ixT0 {K : PySem.W.Frag} {μ : Mu} {P : D → Mu → Prop} {x : D} {xs : List D} (q : P x μ) : W2 K (rIx K) (.tup (x :: xs)) (.int 0) μ P :=
  w2_ixTO (by omega) (by rw [List.length_cons]; omega) fun k d hk e => by
    obtain rfl : k = 0 := by omega
    cases hk
    exact q
theorem RowOf.le {es : List En} {h a b c e : Int} (R : RowOf es h a b c e) : a ≤ b ∧ c ≤ e :=
  BoxOf.le ⟨R.ax, R.am, R.bx, R.bm, R.cx, R.cm, R.ex, R.em⟩ R.hm
theorem RowOf.starts {es : List En} {h a b c e : Int} (R : RowOf es h a b c e) (hz : ¬ max (b - a) (e - c) = 0) : ∀ x ∈ es, 2 * x.s < h := by
  intro x hx
  have m1 := R.am x hx
  have m2 := R.bm x hx
  have m3 := R.cm x hx
  have m4 := R.em x hx
  have m5 := R.hm x hx x hx
  have m6 := R.le
  rw [wI_self] at m5
  omega
theorem RowOf.uniq {es es' : List En} {h a b c e h' a' b' c' e' : Int} (R : RowOf es h a b c e) (R' : RowOf es' h' a' b' c' e') (hm : ∀ x, x ∈ es ↔ x ∈ es') : h = h' ∧ a = a' ∧ b = b' ∧ c = c' ∧ e = e' := by
  have e1 : h = h' := by
    obtain ⟨x, hx, y, hy, hw⟩ := R.hx
    obtain ⟨x', hx', y', hy', hw'⟩ := R'.hx
    have m1 := R.hm x' ((hm _).mpr hx') y' ((hm _).mpr hy')
    have m2 := R'.hm x ((hm _).mp hx) y ((hm _).mp hy)
    omega
  subst e1
  refine ⟨rfl, ?_, ?_, ?_, ?_⟩
  · obtain ⟨x, hx, e1⟩ := R.ax
    obtain ⟨y, hy, e2⟩ := R'.ax
    have m1 := R.am y ((hm _).mpr hy)
    have m2 := R'.am x ((hm _).mp hx)
    omega
  · obtain ⟨x, hx, e1⟩ := R.bx
    obtain ⟨y, hy, e2⟩ := R'.bx
    have m1 := R.bm y ((hm _).mpr hy)
    have m2 := R'.bm x ((hm _).mp hx)
    omega
  · obtain ⟨x, hx, e1⟩ := R.cx
    obtain ⟨y, hy, e2⟩ := R'.cx
    have m1 := R.cm y ((hm _).mpr hy)
    have m2 := R'.cm x ((hm _).mp hx)
    omega
  · obtain ⟨x, hx, e1⟩ := R.ex
    obtain ⟨y, hy, e2⟩ := R'.ex
    have m1 := R.em y ((hm _).mpr hy)
    have m2 := R'.em x ((hm _).mp hx)
    omega
/-- the ends at the numbers -/
def atEs (es : List En) (js : List Nat) (xs : List En) : Prop := js.length = xs.length ∧ ∀ (i j : Nat), js[i]? = some j → ∃ x, xs[i]? = some x ∧ es[j]? = some x
theorem atEs.pos {es : List En} {js : List Nat} {xs : List En} (h : atEs es js xs) (hs : ∀ x ∈ es, 0 ≤ x.s) : ∀ x ∈ xs, 0 ≤ x.s := by
  intro x hx
  obtain ⟨k, hk⟩ := List.getElem?_of_mem hx
  have hk2 := (List.getElem?_eq_some_iff.mp hk).1
  obtain ⟨x2, h2, h3⟩ := h.2 k _ (List.getElem?_eq_getElem (by rw [h.1]; exact hk2))
  cases hk.symm.trans h2
  exact hs _ (List.mem_of_getElem? h3)
theorem jD_get {js : List Nat} {k : Nat} {d : D} (h : (js.map jD)[k]? = some d) : ∃ j, js[k]? = some j ∧ d = jD j := by
  rw [List.getElem?_map] at h
  obtain ⟨e, h1, rfl⟩ := Option.map_eq_some_iff.mp h
  exact ⟨e, h1, rfl⟩
theorem atEs_ex {es : List En} : ∀ {js : List Nat}, (∀ j ∈ js, j < es.length) → js ≠ [] → ∃ xs, atEs es js xs ∧ xs.length = js.length ∧ xs ≠ [] ∧ ∀ x, x ∈ xs ↔ ∃ j ∈ js, es[j]? = some x := by
  intro js hj hne
  have : ∀ {js : List Nat}, (∀ j ∈ js, j < es.length) → ∃ xs, atEs es js xs ∧ ∀ x, x ∈ xs ↔ ∃ j ∈ js, es[j]? = some x := by
    intro js
    induction js with
    | nil => exact fun _ => ⟨[], ⟨rfl, fun i j h => by simp at h⟩, fun x => by simp⟩
    | cons j js ih =>
      intro hj
      obtain ⟨xs, ⟨h1, h2⟩, h3⟩ := ih fun k hk => hj k (List.mem_cons_of_mem _ hk)
      have hlt := hj j List.mem_cons_self
      refine ⟨es[j] :: xs, ⟨by simp [h1], fun i k hk => ?_⟩, fun x => ?_⟩
      · cases i with
        | zero =>
          cases hk
          exact ⟨_, rfl, List.getElem?_eq_getElem hlt⟩
        | succ i => exact h2 i k hk
      · rw [List.mem_cons, h3]
        constructor
        · rintro (rfl | ⟨k, hk, e⟩)
          · exact ⟨j, List.mem_cons_self, List.getElem?_eq_getElem hlt⟩
          · exact ⟨k, List.mem_cons_of_mem _ hk, e⟩
        · rintro ⟨k, hk, e⟩
          rcases List.mem_cons.mp hk with rfl | hk
          · rw [List.getElem?_eq_getElem hlt] at e
            exact .inl (Option.some.inj e).symm
          · exact .inr ⟨k, hk, e⟩
  obtain ⟨xs, h1, h2⟩ := this hj
  refine ⟨xs, h1, h1.1.symm, fun h => ?_, h2⟩
  subst h
  exact hne (List.length_eq_zero_iff.mp h1.1)
/-- the height ahead of the pair (i, j) -/
structure HtOf (xs : List En) (i j : Nat) (h : Int) : Prop where
  pos : 0 ≤ h
  hx : h = 0 ∨ ∃ x ∈ xs, ∃ y ∈ xs, wI x y = h
  hm : ∀ k l x y, xs[k]? = some x → xs[l]? = some y → k ≤ l → (k < i ∨ k = i ∧ l < j) → wI x y ≤ h
theorem wI_ge (x y : En) : (x.x + x.y) - (y.x + y.y) + x.s + y.s ≤ wI x y ∧ (y.x + y.y) - (x.x + x.y) + x.s + y.s ≤ wI x y ∧ (x.x - x.y) - (y.x - y.y) + x.s + y.s ≤ wI x y ∧ (y.x - y.y) - (x.x - x.y) + x.s + y.s ≤ wI x y := by
  unfold wI di
  omega
theorem wI_le {x y : En} {n : Int} (h1 : (x.x + x.y) - (y.x + y.y) + x.s + y.s ≤ n) (h2 : (y.x + y.y) - (x.x + x.y) + x.s + y.s ≤ n) (h3 : (x.x - x.y) - (y.x - y.y) + x.s + y.s ≤ n) (h4 : (y.x - y.y) - (x.x - x.y) + x.s + y.s ≤ n) : wI x y ≤ n := by
  unfold wI di
  omega
set_option maxHeartbeats 4000000 in
theorem RowOf.join {xs ys : List En} {h a b c e h' a' b' c' e' : Int} (R : RowOf xs h a b c e) (S : RowOf ys h' a' b' c' e') : ∃ H A B C E : Int, RowOf (xs ++ ys) H A B C E ∧ H = max (max h h') ((h + h' + apI a b c e a' b' c' e') / 2) ∧
    A = max (a - (H - h)) (a' - (H - h')) ∧ B = min (b + (H - h)) (b' + (H - h')) ∧ C = max (c - (H - h)) (c' - (H - h')) ∧ E = min (e + (H - h)) (e' + (H - h')) := by
  have F := apI_facts (rfl : apI a b c e a' b' c' e' = _)
  obtain ⟨H, hH⟩ : ∃ H, H = max (max h h') ((h + h' + apI a b c e a' b' c' e') / 2) := ⟨_, rfl⟩
  have hcross : ∀ x ∈ xs, ∀ y ∈ ys, wI x y ≤ H := fun x hx y hy => by
    have r1 := R.am x hx
    have r2 := R.bm x hx
    have r3 := R.cm x hx
    have r4 := R.em x hx
    have s1 := S.am y hy
    have s2 := S.bm y hy
    have s3 := S.cm y hy
    have s4 := S.em y hy
    clear R S
    exact wI_le (by omega) (by omega) (by omega) (by omega)
  have hl : ∀ {x}, x ∈ xs → x ∈ xs ++ ys := fun h => List.mem_append_left _ h
  have hr : ∀ {x}, x ∈ ys → x ∈ xs ++ ys := fun h => List.mem_append_right _ h
  have hall : ∀ {p : En → Prop}, (∀ x ∈ xs, p x) → (∀ y ∈ ys, p y) → ∀ z ∈ xs ++ ys, p z := fun h1 h2 z hz => (List.mem_append.mp hz).elim (h1 z) (h2 z)
  have hhm : ∀ x ∈ xs ++ ys, ∀ y ∈ xs ++ ys, wI x y ≤ H := hall
    (fun x hx => hall (fun y hy => by have := R.hm x hx y hy; omega) (fun y hy => hcross x hx y hy))
    (fun x hx => hall (fun y hy => by rw [wI_comm]; exact hcross y hy x hx) (fun y hy => by have := S.hm x hx y hy; omega))
  refine ⟨H, _, _, _, _, ⟨by simp [R.ne], hall R.pos S.pos, ?_, hhm, ?_, ?_, ?_, ?_, ?_, ?_, ?_, ?_⟩, hH, rfl, rfl, rfl, rfl⟩
  · by_cases h1 : H = h
    · obtain ⟨x, hx, y, hy, e1⟩ := R.hx
      exact ⟨x, hl hx, y, hl hy, by omega⟩
    by_cases h2 : H = h'
    · obtain ⟨x, hx, y, hy, e1⟩ := S.hx
      exact ⟨x, hr hx, y, hr hy, by omega⟩
    obtain ⟨p1, hp1, q1⟩ := R.ax
    obtain ⟨p2, hp2, q2⟩ := R.bx
    obtain ⟨p3, hp3, q3⟩ := R.cx
    obtain ⟨p4, hp4, q4⟩ := R.ex
    obtain ⟨t1, ht1, u1⟩ := S.ax
    obtain ⟨t2, ht2, u2⟩ := S.bx
    obtain ⟨t3, ht3, u3⟩ := S.cx
    obtain ⟨t4, ht4, u4⟩ := S.ex
    obtain ⟨_, _, _, _, _, F5⟩ := F
    have w1 := hcross p1 hp1 t2 ht2
    have w2 := hcross p2 hp2 t1 ht1
    have w3 := hcross p3 hp3 t4 ht4
    have w4 := hcross p4 hp4 t3 ht3
    rcases F5 with F5 | F5 | F5 | F5 | F5
    · omega
    · exact ⟨p1, hl hp1, t2, hr ht2, by have g := (wI_ge p1 t2).1; clear w2 w3 w4; omega⟩
    · exact ⟨p2, hl hp2, t1, hr ht1, by have g := (wI_ge p2 t1).2.1; clear w3 w4 w1; omega⟩
    · exact ⟨p3, hl hp3, t4, hr ht4, by have g := (wI_ge p3 t4).2.2.1; clear w4 w1 w2; omega⟩
    · exact ⟨p4, hl hp4, t3, hr ht3, by have g := (wI_ge p4 t3).2.2.2; clear w1 w2 w3; omega⟩
  · rcases Int.le_total (a - (H - h)) (a' - (H - h')) with z | z
    · obtain ⟨x, hx, e1⟩ := S.ax; exact ⟨x, hr hx, by omega⟩
    · obtain ⟨x, hx, e1⟩ := R.ax; exact ⟨x, hl hx, by omega⟩
  · exact hall (fun x hx => by have := R.am x hx; omega) (fun x hx => by have := S.am x hx; omega)
  · rcases Int.le_total (b + (H - h)) (b' + (H - h')) with z | z
    · obtain ⟨x, hx, e1⟩ := R.bx; exact ⟨x, hl hx, by omega⟩
    · obtain ⟨x, hx, e1⟩ := S.bx; exact ⟨x, hr hx, by omega⟩
  · exact hall (fun x hx => by have := R.bm x hx; omega) (fun x hx => by have := S.bm x hx; omega)
  · rcases Int.le_total (c - (H - h)) (c' - (H - h')) with z | z
    · obtain ⟨x, hx, e1⟩ := S.cx; exact ⟨x, hr hx, by omega⟩
    · obtain ⟨x, hx, e1⟩ := R.cx; exact ⟨x, hl hx, by omega⟩
  · exact hall (fun x hx => by have := R.cm x hx; omega) (fun x hx => by have := S.cm x hx; omega)
  · rcases Int.le_total (e + (H - h)) (e' + (H - h')) with z | z
    · obtain ⟨x, hx, e1⟩ := R.ex; exact ⟨x, hl hx, by omega⟩
    · obtain ⟨x, hx, e1⟩ := S.ex; exact ⟨x, hr hx, by omega⟩
  · exact hall (fun x hx => by have := R.em x hx; omega) (fun x hx => by have := S.em x hx; omega)
theorem RowOf.one (x : En) (h : 0 ≤ x.s) : RowOf [x] (2 * x.s) (2 * (x.x + x.y)) (2 * (x.x + x.y)) (2 * (x.x - x.y)) (2 * (x.x - x.y)) := by
  have hm : x ∈ [x] := List.mem_singleton.mpr rfl
  have hh : ∀ {p : En → Prop}, p x → ∀ y ∈ [x], p y := fun h y hy => by rw [List.mem_singleton.mp hy]; exact h
  exact ⟨by simp, hh h, ⟨x, hm, x, hm, wI_self x⟩, hh (hh (Int.le_of_eq (wI_self x))), ⟨x, hm, by omega⟩, hh (by omega), ⟨x, hm, by omega⟩, hh (by omega), ⟨x, hm, by omega⟩, hh (by omega), ⟨x, hm, by omega⟩, hh (by omega)⟩
theorem RowOf.some : ∀ (xs : List En), xs ≠ [] → (∀ x ∈ xs, 0 ≤ x.s) → ∃ h a b c e, RowOf xs h a b c e
  | [], hn, _ => absurd rfl hn
  | [x], _, hs => ⟨_, _, _, _, _, RowOf.one x (hs x (List.mem_singleton.mpr rfl))⟩
  | x :: y :: r, _, hs => by
    obtain ⟨h, a, b, c, e, R⟩ := RowOf.some (y :: r) (by simp) fun z hz => hs z (List.mem_cons_of_mem _ hz)
    obtain ⟨H, A, B, C, E, T, _⟩ := (RowOf.one x (hs x List.mem_cons_self)).join R
    exact ⟨H, A, B, C, E, T⟩
/-- of the same ends -/
theorem RowOf.of_mem {xs ys : List En} {h a b c e : Int} (R : RowOf xs h a b c e) (hm : ∀ x, x ∈ xs ↔ x ∈ ys) : RowOf ys h a b c e := by
  refine ⟨fun z => ?_, fun x hx => R.pos x ((hm x).mpr hx), ?_, fun x hx y hy => R.hm x ((hm x).mpr hx) y ((hm y).mpr hy), ?_, fun x hx => R.am x ((hm x).mpr hx), ?_, fun x hx => R.bm x ((hm x).mpr hx), ?_, fun x hx => R.cm x ((hm x).mpr hx), ?_, fun x hx => R.em x ((hm x).mpr hx)⟩
  · subst z
    obtain ⟨x, hx, _⟩ := R.ax
    exact absurd ((hm x).mp hx) (by simp)
  · obtain ⟨x, hx, y, hy, q⟩ := R.hx; exact ⟨x, (hm x).mp hx, y, (hm y).mp hy, q⟩
  · obtain ⟨x, hx, q⟩ := R.ax; exact ⟨x, (hm x).mp hx, q⟩
  · obtain ⟨x, hx, q⟩ := R.bx; exact ⟨x, (hm x).mp hx, q⟩
  · obtain ⟨x, hx, q⟩ := R.cx; exact ⟨x, (hm x).mp hx, q⟩
  · obtain ⟨x, hx, q⟩ := R.ex; exact ⟨x, (hm x).mp hx, q⟩
end Wk

set_option Elab.async false
set_option linter.all false
set_option maxRecDepth 100000
namespace Wk
open PySem PySem.Spec L2 WkE
/-- a pair of knots -/
abbrev pD (p : Nat × Nat) : D := .tup [jD p.1, jD p.2]
/-- rows of a joining of m ends; what waits to be joined -/
inductive Joins (m : Nat) : List (Nat × Nat) → List Nat → Prop
  | nil : Joins m [] (List.range m)
  | step {J : List (Nat × Nat)} {W W' W2 : List Nat} {a b : Nat} : Joins m J W → W.Perm (a :: b :: W') → W2.Perm ((m + J.length) :: W') → Joins m (J ++ [(a, b)]) W2
/-- the ends beneath each knot -/
def bel (m : Nat) (J : List (Nat × Nat)) : List (List Nat) := J.foldl (fun B p => B ++ [B.getD p.1 [] ++ B.getD p.2 []]) ((List.range m).map fun i => [i])
theorem bel_nil (m : Nat) : bel m [] = (List.range m).map fun i => [i] := rfl
theorem bel_snoc (m : Nat) (J : List (Nat × Nat)) (p : Nat × Nat) : bel m (J ++ [p]) = bel m J ++ [(bel m J).getD p.1 [] ++ (bel m J).getD p.2 []] := by
  unfold bel
  rw [List.foldl_append]; rfl
theorem bel_length (m : Nat) (J : List (Nat × Nat)) : (bel m J).length = m + J.length := by
  have : ∀ (J : List (Nat × Nat)) (B : List (List Nat)), (J.foldl (fun B p => B ++ [B.getD p.1 [] ++ B.getD p.2 []]) B).length = B.length + J.length := by
    intro J
    induction J with
    | nil => intro B; rfl
    | cons p J ih => intro B; rw [List.foldl_cons, ih, List.length_append, List.length_cons, List.length_cons, List.length_nil]; omega
  unfold bel
  rw [this, List.length_map, List.length_range]
def belAt (m : Nat) (J : List (Nat × Nat)) (k : Nat) : List Nat := (bel m J).getD k []
theorem belAt_snoc_lt {m k : Nat} {J : List (Nat × Nat)} {p : Nat × Nat} (h : k < m + J.length) : belAt m (J ++ [p]) k = belAt m J k := by
  unfold belAt
  rw [bel_snoc, List.getD_eq_getElem?_getD, List.getElem?_append_left (by rw [bel_length]; exact h), ← List.getD_eq_getElem?_getD]
theorem belAt_new {m : Nat} {J : List (Nat × Nat)} {p : Nat × Nat} : belAt m (J ++ [p]) (m + J.length) = belAt m J p.1 ++ belAt m J p.2 := by
  unfold belAt
  rw [bel_snoc, List.getD_eq_getElem?_getD, List.getElem?_append_right (by rw [bel_length]; exact Nat.le_refl _), bel_length, Nat.sub_self]
  rfl
theorem belAt_end {m k : Nat} (h : k < m) : ∀ J : List (Nat × Nat), belAt m J k = [k] := by
  intro J
  rcases List.eq_nil_or_concat J with rfl | ⟨J, p, rfl⟩
  · unfold belAt
    rw [bel_nil, List.getD_eq_getElem?_getD, List.getElem?_map, List.getElem?_range h]; rfl
  · rw [List.concat_eq_append, belAt_snoc_lt (by omega), belAt_end h J]
termination_by J => J.length
theorem bel_get {m k : Nat} {J : List (Nat × Nat)} (h : k < m + J.length) : (bel m J)[k]? = some (belAt m J k) := by
  unfold belAt
  rw [List.getD_eq_getElem?_getD, List.getElem?_eq_getElem (by rw [bel_length]; exact h)]
  rfl
structure JFacts (m : Nat) (J : List (Nat × Nat)) (W : List Nat) : Prop where
  len : W.length + J.length = m
  lt : ∀ w ∈ W, w < m + J.length
  part : (W.flatMap (belAt m J)).Perm (List.range m)
  sides : (W ++ J.flatMap fun p => [p.1, p.2]).Perm (List.range (m + J.length))
  low : ∀ k p, J[k]? = some p → p.1 < m + k ∧ p.2 < m + k
  bnd : ∀ k, k < m + J.length → belAt m J k ≠ [] ∧ (belAt m J k).Nodup ∧ ∀ i ∈ belAt m J k, i < m
theorem flatMap_single : ∀ l : List Nat, l.flatMap (fun i => [i]) = l
  | [] => rfl
  | x :: l => by rw [List.flatMap_cons, flatMap_single l]; rfl
theorem flatMap_congrL {f g : Nat → List Nat} : ∀ {l : List Nat}, (∀ x ∈ l, f x = g x) → l.flatMap f = l.flatMap g
  | [], _ => rfl
  | x :: l, h => by rw [List.flatMap_cons, List.flatMap_cons, h x List.mem_cons_self, flatMap_congrL fun y hy => h y (List.mem_cons_of_mem _ hy)]
theorem Joins.facts {m : Nat} {J : List (Nat × Nat)} {W : List Nat} (h : Joins m J W) : JFacts m J W := by
  induction h with
  | nil =>
    refine ⟨by rw [List.length_range]; rfl, fun w hw => List.mem_range.mp hw, ?_, by simp, fun k p h => by simp at h, fun k hk => ?_⟩
    · rw [flatMap_congrL (g := fun i => [i]) fun x hx => belAt_end (List.mem_range.mp hx) [], flatMap_single]
    · have hk2 : k < m := hk
      rw [belAt_end hk2]
      refine ⟨by simp, by simp, fun i hi => ?_⟩
      rw [List.mem_singleton.mp hi]; exact hk2
  | @step J W W' W2 a b _ hp hq ih =>
    have hl : W.length = W'.length + 2 := by rw [hp.length_eq]; rfl
    have ha : a < m + J.length := ih.lt a (hp.mem_iff.mpr (by simp))
    have hb : b < m + J.length := ih.lt b (hp.mem_iff.mpr (by simp))
    have hW' : ∀ w ∈ W', w < m + J.length := fun w hw => ih.lt w (hp.mem_iff.mpr (by simp [hw]))
    have hln : (J ++ [(a, b)]).length = J.length + 1 := by rw [List.length_append]; rfl
    have pt := (hp.symm.flatMap_right (belAt m J)).trans ih.part
    rw [List.flatMap_cons, List.flatMap_cons] at pt
    refine ⟨?_, fun w hw => ?_, ?_, ?_, fun k p hk => ?_, fun k hk => ?_⟩
    · rw [hq.length_eq, hln, List.length_cons]
      have := ih.len; omega
    · rw [hln]
      rcases List.mem_cons.mp (hq.mem_iff.mp hw) with rfl | hw
      · omega
      · have := hW' w hw; omega
    · refine (hq.flatMap_right _).trans ?_
      rw [List.flatMap_cons, belAt_new, flatMap_congrL (g := belAt m J) fun x hx => belAt_snoc_lt (hW' x hx), List.append_assoc]
      exact pt
    · rw [hln, ← Nat.add_assoc, List.range_succ, List.flatMap_append]
      refine (hq.append_right _).trans ?_
      have e1 : (m + J.length) :: W' ++ (J.flatMap (fun p => [p.1, p.2]) ++ [(a, b)].flatMap fun p => [p.1, p.2]) = [m + J.length] ++ (W' ++ (J.flatMap (fun p => [p.1, p.2]) ++ [a, b])) := by simp
      rw [e1]
      refine List.perm_append_comm.trans (List.Perm.append_right _ ?_)
      have e2 : (W' ++ (J.flatMap (fun p => [p.1, p.2]) ++ [a, b])).Perm ((a :: b :: W') ++ J.flatMap fun p => [p.1, p.2]) := by
        have : ((a :: b :: W') ++ J.flatMap fun p => [p.1, p.2]) = [a, b] ++ (W' ++ J.flatMap fun p => [p.1, p.2]) := by simp
        rw [this, ← List.append_assoc]
        exact List.perm_append_comm
      exact e2.trans ((hp.symm.append_right _).trans ih.sides)
    · by_cases c : k < J.length
      · rw [List.getElem?_append_left c] at hk
        exact ih.low k p hk
      · rw [List.getElem?_append_right (by omega)] at hk
        have e : k - J.length = 0 := by
          have := (List.getElem?_eq_some_iff.mp hk).1
          simp at this; omega
        rw [e] at hk
        cases hk
        exact ⟨by omega, by omega⟩
    · by_cases c : k < m + J.length
      · rw [belAt_snoc_lt c]; exact ih.bnd k c
      · have e : k = m + J.length := by rw [hln] at hk; omega
        subst e
        rw [belAt_new]
        have nd := pt.nodup_iff.mpr List.nodup_range
        rw [← List.append_assoc] at nd
        refine ⟨by have := (ih.bnd a ha).1; simp [this], (List.nodup_append.mp nd).1, fun i hi => ?_⟩
        rcases List.mem_append.mp hi with hi | hi
        · exact (ih.bnd a ha).2.2 i hi
        · exact (ih.bnd b hb).2.2 i hi
theorem Joins.perm {m : Nat} {J : List (Nat × Nat)} {W W2 : List Nat} (h : Joins m J W) (hp : W2.Perm W) (hJ : J ≠ []) : Joins m J W2 := by
  cases h with
  | nil => exact absurd rfl hJ
  | step h1 h2 h3 => exact .step h1 h2 (hp.trans h3)
/-- a joining of m ends -/
def Jng (m : Nat) (J : List (Nat × Nat)) : Prop := J.length + 1 = m ∧ ∃ W, Joins m J W
theorem Jng.root {m : Nat} {J : List (Nat × Nat)} (h : Jng m J) : Joins m J [m + J.length - 1] := by
  obtain ⟨hl, W, hj⟩ := h
  have F := hj.facts
  have hW : W.length = 1 := by have := F.len; omega
  cases hj with
  | nil => cases (by simpa using hl : 1 = m); exact .nil
  | @step J' W0 W' W2 a b h1 h2 h3 =>
      have e : W' = [] := by
        have := h3.length_eq
        rw [hW] at this
        simp at this
        exact this
      subst e
      have hln : m + (J' ++ [(a, b)]).length - 1 = m + J'.length := by rw [List.length_append]; rfl
      rw [hln]
      exact .step h1 h2 (.refl _)
theorem Jng.whole {m : Nat} {J : List (Nat × Nat)} (h : Jng m J) : (belAt m J (m + J.length - 1)).Perm (List.range m) := by
  have := h.root.facts.part
  simpa using this
theorem Jng.facts {m : Nat} {J : List (Nat × Nat)} (h : Jng m J) : JFacts m J [m + J.length - 1] := h.root.facts
/-! sides exchanged -/
def sw (p : Nat × Nat) : Nat × Nat := (p.2, p.1)
theorem Joins.swap {m : Nat} {J : List (Nat × Nat)} {W : List Nat} (h : Joins m J W) : Joins m (J.map sw) W := by
  induction h with
  | nil => exact .nil
  | @step J W W' W2 a b _ hp hq ih =>
    rw [List.map_append]
    refine .step (W' := W') ih (hp.trans (.swap _ _ _)) ?_
    rw [List.length_map]; exact hq
theorem bel_swap {m : Nat} : ∀ (n : Nat) (J : List (Nat × Nat)), J.length = n → ∀ k, (belAt m (J.map sw) k).Perm (belAt m J k) := by
  intro n
  induction n with
  | zero => intro J hJ k; rw [List.length_eq_zero_iff.mp hJ]; exact .refl _
  | succ n ih =>
    intro J hJ k
    rcases List.eq_nil_or_concat J with rfl | ⟨J, p, rfl⟩
    · simp at hJ
    rw [List.concat_eq_append] at hJ ⊢
    have hn : J.length = n := by rw [List.length_append] at hJ; simpa using hJ
    rw [List.map_append]
    show (belAt m (J.map sw ++ [sw p]) k).Perm _
    by_cases c : k < m + J.length
    · rw [belAt_snoc_lt (by rw [List.length_map]; exact c), belAt_snoc_lt c]
      exact ih J hn k
    · by_cases e : k = m + J.length
      · subst e
        have e2 : m + J.length = m + (J.map sw).length := by rw [List.length_map]
        rw [belAt_new]
        conv => lhs; rw [e2]
        rw [belAt_new]
        exact ((ih J hn _).append (ih J hn _)).trans List.perm_append_comm
      · have e1 : belAt m (J ++ [p]) k = [] := by
          unfold belAt
          rw [List.getD_eq_getElem?_getD, List.getElem?_eq_none (by rw [bel_length, List.length_append, List.length_singleton]; omega)]; rfl
        have e2 : belAt m (J.map sw ++ [sw p]) k = [] := by
          unfold belAt
          rw [List.getD_eq_getElem?_getD, List.getElem?_eq_none (by rw [bel_length, List.length_append, List.length_map, List.length_singleton]; omega)]; rfl
        rw [e1, e2]
end Wk
namespace Wk
theorem joins_pre {m : Nat} {J : List (Nat × Nat)} {W : List Nat} (h : Joins m J W) : ∀ {pre suf : List (Nat × Nat)} {x : Nat × Nat}, J = pre ++ x :: suf → ∃ W', Joins m pre W' := by
  induction h with
  | nil => intro pre suf x e; simp at e
  | @step J W W' W2 a b h1 h2 h3 ih =>
    intro pre suf x e
    rcases List.eq_nil_or_concat suf with rfl | ⟨suf, y, rfl⟩
    · have := List.append_inj' e rfl
      exact ⟨_, this.1 ▸ h1⟩
    · rw [List.concat_eq_append, ← List.cons_append, ← List.append_assoc] at e
      have := List.append_inj' e rfl
      exact ih this.1
end Wk
namespace Wk
theorem belAt_pre {m k : Nat} : ∀ {suf pre : List (Nat × Nat)}, k < m + pre.length → belAt m (pre ++ suf) k = belAt m pre k
  | [], pre, _ => by rw [List.append_nil]
  | x :: suf, pre, h => by
    rw [show pre ++ x :: suf = (pre ++ [x]) ++ suf by simp, belAt_pre (suf := suf) (pre := pre ++ [x]) (by rw [List.length_append]; omega), belAt_snoc_lt h]
/-- beneath a joint: beneath its sides -/
theorem belAt_joint {m k : Nat} {J : List (Nat × Nat)} {x : Nat × Nat} (h : J[k]? = some x) (hl : x.1 < m + k ∧ x.2 < m + k) : belAt m J (m + k) = belAt m J x.1 ++ belAt m J x.2 := by
  obtain ⟨hk, e⟩ := List.getElem?_eq_some_iff.mp h
  have hs : J = (J.take k ++ [x]) ++ J.drop (k + 1) := by
    rw [← e, List.append_assoc]
    show J = J.take k ++ J[k] :: J.drop (k + 1)
    rw [← List.drop_eq_getElem_cons hk, List.take_append_drop]
  have ht : (J.take k).length = k := by rw [List.length_take]; omega
  generalize J.take k = pre at *
  generalize J.drop (k + 1) = suf at *
  subst hs
  have hl1 : (pre ++ [x]).length = k + 1 := by rw [List.length_append, ht]; rfl
  rw [belAt_pre (by omega), belAt_pre (k := x.1) (by omega), belAt_pre (k := x.2) (by omega), belAt_snoc_lt (k := x.1) (by omega), belAt_snoc_lt (k := x.2) (by omega)]
  have := belAt_new (m := m) (J := pre) (p := x)
  rwa [ht] at this
end Wk
namespace Wk
/-- put in order -/
def srt (L : List Nat) : List Nat := L.mergeSort fun a b => decide (a ≤ b)
theorem srt_perm (L : List Nat) : (srt L).Perm L := List.mergeSort_perm L _
theorem srt_le (L : List Nat) : (srt L).Pairwise (· ≤ ·) := by
  have := List.pairwise_mergeSort (le := fun a b : Nat => decide (a ≤ b)) (fun a b c h1 h2 => by simp at *; omega) (fun a b => by simp; omega) L
  exact this.imp fun h => by simpa using h
theorem srt_uniq {L M : List Nat} (hp : L.Perm M) (hs : L.Pairwise (· ≤ ·)) : L = srt M :=
  List.Perm.eq_of_pairwise (le := fun a b : Nat => a ≤ b) (fun a b _ _ h1 h2 => by omega) hs (srt_le M) (hp.trans (srt_perm M).symm)
theorem srt_congr {L M : List Nat} (hp : L.Perm M) : srt L = srt M := srt_uniq ((srt_perm L).trans hp) (srt_le L)
/-- how many knots are beneath, in all -/
def kn (m : Nat) (J : List (Nat × Nat)) (W : List Nat) : Nat := (W.map fun w => 2 * (belAt m J w).length - 1).sum
end Wk
namespace Wk
theorem flat_len {f : Nat → List Nat} : ∀ {W : List Nat}, (∀ w ∈ W, f w ≠ []) → W.length ≤ (W.flatMap f).length
  | [], _ => Nat.le_refl _
  | w :: W, h => by
    rw [List.flatMap_cons, List.length_append, List.length_cons]
    have h1 := List.length_pos_iff.mpr (h w List.mem_cons_self)
    have h2 := flat_len (W := W) fun z hz => h z (List.mem_cons_of_mem _ hz)
    omega
theorem JFacts.few {m k : Nat} {J : List (Nat × Nat)} {W : List Nat} (F : JFacts m J W) (h : k < m + J.length) : (belAt m J k).length ≤ m := by
  obtain ⟨_, d, b⟩ := F.bnd k h
  have := d.length_le_of_subset (l₂ := List.range m) fun j hj => List.mem_range.mpr (b j hj)
  rwa [List.length_range] at this
end Wk
namespace Wk
/-- a knot is the side of one row alone -/
theorem JFacts.uniq {m i j k : Nat} {J : List (Nat × Nat)} {W : List Nat} {x y : Nat × Nat} (F : JFacts m J W) (hx : J[i]? = some x) (hy : J[j]? = some y) (h1 : x.1 = k ∨ x.2 = k) (h2 : y.1 = k ∨ y.2 = k) : i = j := by
  have nd := F.sides.nodup_iff.mpr List.nodup_range
  have nd2 := (List.nodup_append.mp nd).2.1
  have pw := (List.pairwise_flatMap.mp nd2).2
  have mem : ∀ {z : Nat × Nat}, (z.1 = k ∨ z.2 = k) → k ∈ [z.1, z.2] := fun h => by simp; rcases h with h | h <;> simp [h]
  obtain ⟨hi, ei⟩ := List.getElem?_eq_some_iff.mp hx
  obtain ⟨hj, ej⟩ := List.getElem?_eq_some_iff.mp hy
  rcases Nat.lt_trichotomy i j with c | c | c
  · have := List.pairwise_iff_getElem.mp pw i j hi hj c
    rw [ei, ej] at this
    exact absurd rfl (this k (mem h1) k (mem h2))
  · exact c
  · have := List.pairwise_iff_getElem.mp pw j i hj hi c
    rw [ei, ej] at this
    exact absurd rfl (this k (mem h2) k (mem h1))
theorem belAt_lt {m k e : Nat} {J : List (Nat × Nat)} (h : e ∈ belAt m J k) : k < m + J.length := by
  refine Classical.byContradiction fun c => ?_
  unfold belAt at h
  rw [List.getD_eq_getElem?_getD, List.getElem?_eq_none (by rw [bel_length]; omega)] at h
  simp at h
/-- between a knot and the joint above it no knot has an end in common with it -/
theorem JFacts.gap {m : Nat} {J : List (Nat × Nat)} {W : List Nat} (F : JFacts m J W) : ∀ (n k j e : Nat), k + j < n → k < j → (∀ i x, J[i]? = some x → (x.1 = k ∨ x.2 = k) → j < m + i) → e ∈ belAt m J k → e ∈ belAt m J j → False := by
  intro n
  induction n with
  | zero => intro k j e h; omega
  | succ n ih =>
    intro k j e hn hkj hup h1 h2
    have hj := belAt_lt h2
    by_cases c : j < m
    · rw [belAt_end c] at h2
      rw [belAt_end (by omega)] at h1
      simp at h1 h2; omega
    have hx : ∃ x, J[j - m]? = some x := ⟨_, List.getElem?_eq_getElem (by omega)⟩
    obtain ⟨x, hx⟩ := hx
    have hlow := F.low _ x hx
    have hb := belAt_joint hx hlow
    rw [show m + (j - m) = j by omega] at hb
    rw [hb] at h2
    have side : ∀ s, (x.1 = s ∨ x.2 = s) → e ∈ belAt m J s → False := by
      intro s hs he
      have hsj : s < j := by rcases hs with rfl | rfl <;> omega
      rcases Nat.lt_trichotomy s k with d | d | d
      · exact ih s k e (by omega) d (fun i y hy hs2 => by
          have := F.uniq hx hy hs hs2
          omega) he h1
      · subst d
        have := hup _ x hx hs
        omega
      · exact ih k s e (by omega) d (fun i y hy hk => by have := hup i y hy hk; omega) h1 he
    rcases List.mem_append.mp h2 with h2 | h2
    · exact side _ (.inl rfl) h2
    · exact side _ (.inr rfl) h2
/-- of two knots that have an end in common the greater has all ends of the lesser -/
theorem JFacts.nest {m : Nat} {J : List (Nat × Nat)} {W : List Nat} (F : JFacts m J W) : ∀ (n k j e : Nat), j < n → k ≤ j → e ∈ belAt m J k → e ∈ belAt m J j → ∀ z ∈ belAt m J k, z ∈ belAt m J j := by
  intro n
  induction n with
  | zero => intro k j e h; omega
  | succ n ih =>
    intro k j e hn hkj h1 h2
    by_cases ekj : k = j
    · subst ekj; exact fun _ h => h
    have hj := belAt_lt h2
    by_cases c : j < m
    · rw [belAt_end c] at h2
      rw [belAt_end (by omega)] at h1
      simp at h1 h2; omega
    have hx : ∃ x, J[j - m]? = some x := ⟨_, List.getElem?_eq_getElem (by omega)⟩
    obtain ⟨x, hx⟩ := hx
    have hlow := F.low _ x hx
    have hb := belAt_joint hx hlow
    rw [show m + (j - m) = j by omega] at hb
    rw [hb] at h2
    have side : ∀ s, (x.1 = s ∨ x.2 = s) → e ∈ belAt m J s → ∀ z ∈ belAt m J k, z ∈ belAt m J s := by
      intro s hs he
      have hsj : s < j := by rcases hs with rfl | rfl <;> omega
      by_cases d : k ≤ s
      · exact ih k s e (by omega) d h1 he
      · exact (F.gap _ s k e (Nat.lt_succ_self _) (by omega) (fun i y hy hs2 => by have := F.uniq hx hy hs hs2; omega) he h1).elim
    intro z hz
    rw [hb]
    rcases List.mem_append.mp h2 with h2 | h2
    · exact List.mem_append_left _ (side _ (.inl rfl) h2 z hz)
    · exact List.mem_append_right _ (side _ (.inr rfl) h2 z hz)
/-- the chain of a knot: the knots above it that have its ends -/
def chn (m : Nat) (J : List (Nat × Nat)) (k : Nat) : List Nat := (List.range (m + J.length)).filter fun j => decide (k ≤ j ∧ ∀ e ∈ belAt m J k, e ∈ belAt m J j)
theorem rise_ext : ∀ {l l' : List Nat}, l.Pairwise (· < ·) → l'.Pairwise (· < ·) → (∀ x, x ∈ l ↔ x ∈ l') → l = l' := by
  intro l l' h1 h2 h
  have nd : ∀ {l : List Nat}, l.Pairwise (· < ·) → l.Nodup := fun h => h.imp fun q => by omega
  refine List.Perm.eq_of_pairwise (le := fun a b : Nat => a ≤ b) (fun a b _ _ h1 h2 => by omega) (h1.imp fun q => by omega) (h2.imp fun q => by omega) ?_
  exact (List.perm_ext_iff_of_nodup (nd h1) (nd h2)).mpr h
theorem chn_rise {m k : Nat} {J : List (Nat × Nat)} : (chn m J k).Pairwise (· < ·) := List.pairwise_lt_range.sublist List.filter_sublist
theorem chn_mem {m k j : Nat} {J : List (Nat × Nat)} : j ∈ chn m J k ↔ j < m + J.length ∧ k ≤ j ∧ ∀ e ∈ belAt m J k, e ∈ belAt m J j := by
  unfold chn; simp
theorem chn_ge {m k j : Nat} {J : List (Nat × Nat)} (h : j ∈ chn m J k) : k ≤ j := (chn_mem.mp h).2.1
theorem chn_root {m k : Nat} {J : List (Nat × Nat)} (h : k + 1 = m + J.length) : chn m J k = [k] := by
  refine rise_ext chn_rise (List.pairwise_singleton _ _) fun j => ?_
  rw [chn_mem, List.mem_singleton]
  exact ⟨fun ⟨h1, h2, _⟩ => by omega, fun e => by subst e; exact ⟨by omega, Nat.le_refl _, fun _ h => h⟩⟩
theorem JFacts.chn_step {m i k : Nat} {J : List (Nat × Nat)} {W : List Nat} {x : Nat × Nat} (F : JFacts m J W) (hx : J[i]? = some x) (hs : x.1 = k ∨ x.2 = k) : chn m J k = k :: chn m J (m + i) := by
  have hi := (List.getElem?_eq_some_iff.mp hx).1
  have hlow := F.low _ x hx
  have hk : k < m + i := by rcases hs with rfl | rfl <;> omega
  have hb := belAt_joint hx hlow
  have hsub : ∀ e ∈ belAt m J k, e ∈ belAt m J (m + i) := fun e he => by
    rw [hb]
    rcases hs with rfl | rfl
    · exact List.mem_append_left _ he
    · exact List.mem_append_right _ he
  refine rise_ext chn_rise (List.pairwise_cons.mpr ⟨fun j hj => by have := chn_ge hj; omega, chn_rise⟩) fun j => ?_
  rw [List.mem_cons, chn_mem, chn_mem]
  constructor
  · rintro ⟨h1, h2, h3⟩
    by_cases c : j = k
    · exact .inl c
    obtain ⟨e, he⟩ := List.exists_mem_of_ne_nil _ (F.bnd k (by omega)).1
    have hej := h3 e he
    by_cases c2 : j < m + i
    · exact (F.gap _ k j e (Nat.lt_succ_self _) (by omega) (fun i2 y hy hk2 => by have := F.uniq hx hy hs hk2; omega) he hej).elim
    refine .inr ⟨h1, by omega, ?_⟩
    exact F.nest _ (m + i) j e (Nat.lt_succ_self _) (by omega) (hsub e he) hej
  · rintro (rfl | ⟨h1, h2, h3⟩)
    · exact ⟨by omega, Nat.le_refl _, fun _ h => h⟩
    · exact ⟨h1, by omega, fun e he => h3 e (hsub e he)⟩
theorem chn_end {m e : Nat} {J : List (Nat × Nat)} (h : e < m) : chn m J e = (List.range (m + J.length)).filter fun j => decide (e ∈ belAt m J j) := by
  unfold chn
  refine List.filter_congr fun j _ => decide_eq_decide.mpr ?_
  rw [belAt_end h]
  constructor
  · rintro ⟨_, q⟩; exact q e (by simp)
  · intro q
    refine ⟨?_, fun z hz => by rw [List.mem_singleton.mp hz]; exact q⟩
    by_cases c : j < m
    · rw [belAt_end c] at q
      simp at q; omega
    · omega
/-- a knot that is no side is the last one -/
theorem JFacts.top {m k : Nat} {J : List (Nat × Nat)} {r : Nat} (F : JFacts m J [r]) (hk : k < m + J.length) (h : ∀ (i : Nat) (x : Nat × Nat), J[i]? = some x → x.1 ≠ k ∧ x.2 ≠ k) : k = r := by
  have := F.sides.mem_iff.mpr (List.mem_range.mpr hk)
  rcases List.mem_append.mp this with h1 | h1
  · exact List.mem_singleton.mp h1
  · obtain ⟨x, hx, hz⟩ := List.mem_flatMap.mp h1
    obtain ⟨i, hi⟩ := List.getElem?_of_mem hx
    have := h i x hi
    simp at hz
    rcases hz with rfl | rfl
    · exact absurd rfl this.1
    · exact absurd rfl this.2
/-- what stands above each knot, behind n rows -/
def AbvP (m : Nat) (J : List (Nat × Nat)) (n : Nat) (A : List (Option Nat)) : Prop := A.length = m + J.length ∧ (∀ k p, A[k]? = some (some p) → ∃ i x, J[i]? = some x ∧ p = m + i ∧ (x.1 = k ∨ x.2 = k)) ∧ ∀ i x, i < n → J[i]? = some x → (∃ p, A[x.1]? = some (some p)) ∧ ∃ p, A[x.2]? = some (some p)
theorem AbvP.nil {m : Nat} {J : List (Nat × Nat)} : AbvP m J 0 (List.replicate (m + J.length) none) :=
  ⟨List.length_replicate, fun k p h => by rw [List.getElem?_replicate] at h; split at h <;> simp at h, fun _ _ h => by omega⟩
theorem AbvP.step {m n : Nat} {J : List (Nat × Nat)} {A : List (Option Nat)} {x : Nat × Nat} (h : AbvP m J n A) (hx : J[n]? = some x) (hl : x.1 < m + J.length ∧ x.2 < m + J.length) : AbvP m J (n + 1) ((A.set x.1 (some (m + n))).set x.2 (some (m + n))) := by
  obtain ⟨h1, h2, h3⟩ := h
  refine ⟨by rw [List.length_set, List.length_set, h1], fun k p hk => ?_, fun i y hi hy => ?_⟩
  · rw [List.getElem?_set] at hk
    split at hk
    · next e =>
      split at hk
      · exact ⟨n, x, hx, by simpa using hk.symm, .inr e⟩
      · simp at hk
    · rw [List.getElem?_set] at hk
      split at hk
      · next e =>
        split at hk
        · exact ⟨n, x, hx, by simpa using hk.symm, .inl e⟩
        · simp at hk
      · exact h2 k p hk
  · have keep : ∀ s, s < m + J.length → ((∃ p, A[s]? = some (some p)) ∨ s = x.1 ∨ s = x.2) → ∃ p, ((A.set x.1 (some (m + n))).set x.2 (some (m + n)))[s]? = some (some p) := by
      intro s hs hp
      rw [List.getElem?_set]
      split
      · rw [List.length_set, h1, if_pos (by omega)]; exact ⟨_, rfl⟩
      · rw [List.getElem?_set]
        split
        · rw [h1, if_pos (by omega)]; exact ⟨_, rfl⟩
        · rcases hp with hp | hp | hp
          · exact hp
          · omega
          · omega
    by_cases c : i < n
    · obtain ⟨⟨p, hp⟩, ⟨q, hq⟩⟩ := h3 i y c hy
      have l1 := (List.getElem?_eq_some_iff.mp hp).1
      have l2 := (List.getElem?_eq_some_iff.mp hq).1
      exact ⟨keep _ (by omega) (.inl ⟨p, hp⟩), keep _ (by omega) (.inl ⟨q, hq⟩)⟩
    · obtain rfl : i = n := by omega
      cases hx.symm.trans hy
      exact ⟨keep _ hl.1 (.inr (.inl rfl)), keep _ hl.2 (.inr (.inr rfl))⟩
/-- one step along a chain -/
theorem AbvP.go {m k : Nat} {J : List (Nat × Nat)} {A : List (Option Nat)} (h : AbvP m J J.length A) (hJ : Jng m J) (hk : k < m + J.length) : (A[k]? = some none ∧ chn m J k = [k]) ∨ ∃ p, A[k]? = some (some p) ∧ k < p ∧ p < m + J.length ∧ chn m J k = k :: chn m J p := by
  have F := hJ.facts
  obtain ⟨h1, h2, h3⟩ := h
  have e := List.getElem?_eq_getElem (l := A) (i := k) (by omega)
  cases c : A[k]'(by omega) with
  | none =>
    rw [c] at e
    refine .inl ⟨e, ?_⟩
    have := F.top hk fun i x hx => by
      obtain ⟨⟨p, hp⟩, q, hq⟩ := h3 i x (List.getElem?_eq_some_iff.mp hx).1 hx
      constructor
      · rintro rfl; rw [e] at hp; simp at hp
      · rintro rfl; rw [e] at hq; simp at hq
    exact chn_root (by have := hJ.1; omega)
  | some p =>
    rw [c] at e
    obtain ⟨i, x, hx, rfl, hs⟩ := h2 k p e
    have hi := (List.getElem?_eq_some_iff.mp hx).1
    have hlow := F.low i x hx
    exact .inr ⟨_, e, by rcases hs with rfl | rfl <;> omega, by omega, F.chn_step hx hs⟩
end Wk
namespace Wk
open PySem PySem.Spec L2 WkE
/-- what stands above each knot, as a dict -/
abbrev abvF (A : List (Option Nat)) : Nat → Option D := fun k => (A.getD k none).map jD
theorem abvF_nil {n : Nat} : DicN [] (abvF (List.replicate n none)) := fun k => by
  show none = _
  unfold abvF
  rw [List.getD_eq_getElem?_getD, List.getElem?_replicate]
  split <;> rfl
theorem abvF_put {A : List (Option Nat)} {kds : List (Key × D)} {k : Nat} (v : Nat) (h : DicN kds (abvF A)) (hk : k < A.length) : DicN (putD kds (.inl (k : Int)) (jD v)) (abvF (A.set k (some v))) := by
  have e : (fun j => if k = j then some (jD v) else abvF A j) = abvF (A.set k (some v)) := by
    funext j
    unfold abvF
    rw [List.getD_eq_getElem?_getD, List.getD_eq_getElem?_getD, List.getElem?_set]
    by_cases c : k = j
    · subst c; rw [if_pos rfl, if_pos rfl, if_pos hk]; rfl
    · rw [if_neg c, if_neg c]
  rw [← e]
  exact h.put k _
end Wk
namespace Wk
open PySem PySem.Spec L2 WkE
/-- the joint over each knot but the last, behind n rows -/
def OverP (m : Nat) (J : List (Nat × Nat)) (n : Nat) (A : List Nat) : Prop := A.length + 1 = m + J.length ∧ ∀ i x, i < n → J[i]? = some x → A[x.1]? = some (m + i) ∧ A[x.2]? = some (m + i)
theorem OverP.nil {m n : Nat} {J : List (Nat × Nat)} (h : n + 1 = m + J.length) : OverP m J 0 (List.replicate n 0) := ⟨by rw [List.length_replicate, h], fun _ _ h => by omega⟩
theorem OverP.step {m n : Nat} {J : List (Nat × Nat)} {W A : List Nat} {x : Nat × Nat} (F : JFacts m J W) (h : OverP m J n A) (hx : J[n]? = some x) : OverP m J (n + 1) ((A.set x.1 (m + n)).set x.2 (m + n)) := by
  obtain ⟨h1, h2⟩ := h
  have hlow := F.low _ x hx
  have hn := (List.getElem?_eq_some_iff.mp hx).1
  refine ⟨by rw [List.length_set, List.length_set, h1], fun i y hi hy => ?_⟩
  have hlowy := F.low _ y hy
  have hin := (List.getElem?_eq_some_iff.mp hy).1
  have go : ∀ s, (y.1 = s ∨ y.2 = s) → ((A.set x.1 (m + n)).set x.2 (m + n))[s]? = some (m + i) := by
    intro s hs
    have hsl : s < A.length := by rcases hs with rfl | rfl <;> omega
    by_cases c : i = n
    · subst c
      cases hx.symm.trans hy
      rw [List.getElem?_set]
      split
      · rw [List.length_set, if_pos (by omega)]
      · rw [List.getElem?_set]
        split
        · rw [if_pos (by omega)]
        · rcases hs with rfl | rfl <;> contradiction
    · have n1 : x.1 ≠ s := fun e => c (F.uniq hy hx hs (.inl e))
      have n2 : x.2 ≠ s := fun e => c (F.uniq hy hx hs (.inr e))
      rw [List.getElem?_set_ne n2, List.getElem?_set_ne n1]
      have := h2 i y (by omega) hy
      rcases hs with rfl | rfl
      · exact this.1
      · exact this.2
  exact ⟨go _ (.inl rfl), go _ (.inr rfl)⟩
/-- one step upwards -/
theorem OverP.up {m k : Nat} {J : List (Nat × Nat)} {A : List Nat} (h : OverP m J J.length A) (hJ : Jng m J) (hk : k < A.length) : ∃ p, A[k]? = some p ∧ k < p ∧ p < m + J.length ∧ chn m J k = k :: chn m J p := by
  have F := hJ.facts
  have hA := h.1
  have : ∃ (i : Nat) (x : Nat × Nat), J[i]? = some x ∧ (x.1 = k ∨ x.2 = k) := by
    refine Classical.byContradiction fun c => ?_
    have := F.top (k := k) (by omega) fun i x hx => ⟨fun e => c ⟨i, x, hx, .inl e⟩, fun e => c ⟨i, x, hx, .inr e⟩⟩
    omega
  obtain ⟨i, x, hx, hs⟩ := this
  have hi := (List.getElem?_eq_some_iff.mp hx).1
  have hlow := F.low i x hx
  have g := h.2 i x hi hx
  refine ⟨m + i, ?_, by rcases hs with rfl | rfl <;> omega, by omega, F.chn_step hx hs⟩
  rcases hs with rfl | rfl
  · exact g.1
  · exact g.2
/-- both kinds of looking up tell the same -/
theorem OverP.abv {m k : Nat} {J : List (Nat × Nat)} {A : List Nat} {B : List (Option Nat)} (h : OverP m J J.length A) (hB : AbvP m J J.length B) (hJ : Jng m J) (hk : k < A.length) : ∃ p, A[k]? = some p ∧ abvF B k = some (jD p) ∧ p < m + J.length := by
  obtain ⟨p, e1, h1, h2, h3⟩ := h.up hJ hk
  refine ⟨p, e1, ?_, h2⟩
  have hA := h.1
  rcases hB.go hJ (k := k) (by omega) with ⟨e2, h4⟩ | ⟨q, e2, h4, h5, h6⟩
  · rw [h4] at h3
    have hp : p ∈ chn m J p := chn_mem.mpr ⟨h2, Nat.le_refl _, fun _ h => h⟩
    rw [← (List.cons.inj h3).2] at hp
    cases hp
  · have e3 := (List.cons.inj (h6.symm.trans h3)).2
    have hq : q = p := by
      have hd : ∀ z, z < m + J.length → (chn m J z).head? = some z := fun z hz => by
        have hz2 : z ∈ chn m J z := chn_mem.mpr ⟨hz, Nat.le_refl _, fun _ h => h⟩
        cases hc : chn m J z with
        | nil => rw [hc] at hz2; cases hz2
        | cons a l =>
          have ha : a ∈ chn m J z := by rw [hc]; exact List.mem_cons_self
          have := chn_ge ha
          have pw := chn_rise (m := m) (J := J) (k := z)
          rw [hc] at pw hz2
          rcases List.mem_cons.mp hz2 with rfl | hz3
          · rfl
          · have := (List.pairwise_cons.mp pw).1 z hz3
            omega
      have := (hd q h5).symm.trans ((congrArg List.head? e3).trans (hd p h2))
      simpa using this
    subst hq
    unfold abvF
    rw [List.getD_eq_getElem?_getD, e2]; rfl
end Wk
namespace Wk
open PySem PySem.Spec L2 WkE
theorem chn_len {m : Nat} {J : List (Nat × Nat)} (k : Nat) : (chn m J k).length ≤ m + J.length := by
  have := (List.filter_sublist (l := List.range (m + J.length)) (p := fun j => decide (k ≤ j ∧ ∀ e ∈ belAt m J k, e ∈ belAt m J j))).length_le
  rw [List.length_range] at this
  exact this
theorem chn_self {m k : Nat} {J : List (Nat × Nat)} (h : k < m + J.length) : k ∈ chn m J k := chn_mem.mpr ⟨h, Nat.le_refl _, fun _ h => h⟩
theorem chn_head {m k : Nat} {J : List (Nat × Nat)} (h : k < m + J.length) : (chn m J k)[0]? = some k := by
  have hz := chn_self h
  have pw := chn_rise (m := m) (J := J) (k := k)
  cases hc : chn m J k with
  | nil => rw [hc] at hz; cases hz
  | cons a l =>
    have ha : a ∈ chn m J k := by rw [hc]; exact List.mem_cons_self
    have h1 := chn_ge ha
    rw [hc] at pw hz
    rcases List.mem_cons.mp hz with rfl | hz
    · rfl
    · have := (List.pairwise_cons.mp pw).1 k hz
      omega
theorem chn_top {m k : Nat} {J : List (Nat × Nat)} (hJ : Jng m J) (h : k < m + J.length) : m + J.length - 1 ∈ chn m J k := by
  have := hJ.1
  refine chn_mem.mpr ⟨by omega, by omega, fun e he => hJ.whole.mem_iff.mpr (List.mem_range.mpr ((hJ.facts.bnd k h).2.2 e he))⟩
theorem chn_last {m k : Nat} {J : List (Nat × Nat)} (hJ : Jng m J) (h : k < m + J.length) : (chn m J k).getLast? = some (m + J.length - 1) := by
  have ht := chn_top hJ h
  have pw := chn_rise (m := m) (J := J) (k := k)
  rcases List.eq_nil_or_concat (chn m J k) with hc | ⟨l, a, hc⟩
  · rw [hc] at ht; cases ht
  · rw [List.concat_eq_append] at hc
    have ha : a ∈ chn m J k := by rw [hc]; simp
    have h1 := (chn_mem.mp ha).1
    rw [hc] at pw ht ⊢
    rw [List.getLast?_append]
    show some a = _
    rcases List.mem_append.mp ht with ht | ht
    · have := (List.pairwise_append.mp pw).2.2 _ ht a (by simp)
      omega
    · rw [List.mem_singleton.mp ht]
/-- where two knots meet -/
def meetN (m : Nat) (J : List (Nat × Nat)) (a b : Nat) : Nat := ((chn m J a).filter fun k => decide (k ∈ chn m J b)).getD 0 0
theorem meetN_get {m a b : Nat} {J : List (Nat × Nat)} (hJ : Jng m J) (ha : a < m + J.length) (hb : b < m + J.length) : ((chn m J a).filter fun k => decide (k ∈ chn m J b))[0]? = some (meetN m J a b) := by
  have hm : m + J.length - 1 ∈ (chn m J a).filter fun k => decide (k ∈ chn m J b) := List.mem_filter.mpr ⟨chn_top hJ ha, decide_eq_true (chn_top hJ hb)⟩
  unfold meetN
  rw [List.getD_eq_getElem?_getD, List.getElem?_eq_getElem (List.length_pos_iff.mpr (List.ne_nil_of_mem hm))]; rfl
theorem meetN_comm {m a b : Nat} {J : List (Nat × Nat)} : meetN m J a b = meetN m J b a := by
  unfold meetN
  congr 1
  refine rise_ext (chn_rise.sublist List.filter_sublist) (chn_rise.sublist List.filter_sublist) fun x => ?_
  simp only [List.mem_filter, decide_eq_true_eq]
  exact And.comm
theorem meetN_self {m a : Nat} {J : List (Nat × Nat)} (ha : a < m + J.length) : meetN m J a a = a := by
  unfold meetN
  rw [List.filter_eq_self.mpr fun x hx => decide_eq_true hx, List.getD_eq_getElem?_getD, chn_head ha]; rfl
theorem meetN_lt {m a b : Nat} {J : List (Nat × Nat)} (hJ : Jng m J) (ha : a < m + J.length) (hb : b < m + J.length) : meetN m J a b < m + J.length :=
  (chn_mem.mp (List.mem_filter.mp (List.mem_of_getElem? (meetN_get hJ ha hb))).1).1
/-- the first knot of the one chain that is in the other -/
theorem meetN_first {m a b x : Nat} {J : List (Nat × Nat)} {l r : List Nat} (h : chn m J a = l ++ x :: r) (hl : ∀ y ∈ l, y ∉ chn m J b) (hx : x ∈ chn m J b) : meetN m J a b = x := by
  unfold meetN
  rw [h, List.filter_append, List.filter_eq_nil_iff.mpr fun y hy => by simpa using hl y hy, List.nil_append, List.filter_cons, if_pos (decide_eq_true hx)]; rfl
end Wk

set_option Elab.async false
set_option linter.all false
set_option maxRecDepth 100000
namespace Wk
open PySem PySem.Spec L2 WkE
/-- a row -/
structure Rw where
  h : Int
  a : Int
  b : Int
  c : Int
  e : Int
abbrev rD (r : Rw) : D := .tup [.int r.h, .tup [.int r.a, .int r.b, .int r.c, .int r.e]]
abbrev RowR (xs : List En) (r : Rw) : Prop := RowOf xs r.h r.a r.b r.c r.e
/-- the row of some ends, as a function -/
noncomputable def rowF (xs : List En) : Rw := open Classical in if h : ∃ r : Rw, RowR xs r then Classical.choose h else ⟨0, 0, 0, 0, 0⟩
theorem rowF_spec {xs : List En} (hn : xs ≠ []) (hs : ∀ x ∈ xs, 0 ≤ x.s) : RowR xs (rowF xs) := by
  have h : ∃ r : Rw, RowR xs r := by
    obtain ⟨h, a, b, c, e, R⟩ := RowOf.some xs hn hs
    exact ⟨⟨h, a, b, c, e⟩, R⟩
  unfold rowF
  rw [dif_pos h]
  exact Classical.choose_spec h
theorem rowF_eq {xs ys : List En} {h a b c e : Int} (R : RowOf ys h a b c e) (hm : ∀ x, x ∈ xs ↔ x ∈ ys) : rowF xs = ⟨h, a, b, c, e⟩ := by
  have R' := R.of_mem fun x => (hm x).symm
  have S := rowF_spec R'.ne R'.pos
  obtain ⟨e1, e2, e3, e4, e5⟩ := S.uniq R' fun _ => Iff.rfl
  generalize rowF xs = r at *
  cases r
  simp at *
  exact ⟨e1, e2, e3, e4, e5⟩
theorem rowF_congr {xs ys : List En} (hn : ys ≠ []) (hs : ∀ x ∈ ys, 0 ≤ x.s) (hm : ∀ x, x ∈ xs ↔ x ∈ ys) : rowF xs = rowF ys := rowF_eq (rowF_spec hn hs) hm
/-- the end of a number -/
def eAt (es : List En) (j : Nat) : En := es[j]?.getD ⟨0, 0, 0, 0⟩
theorem eAt_get {es : List En} {j : Nat} (h : j < es.length) : es[j]? = some (eAt es j) := by
  unfold eAt
  rw [List.getElem?_eq_getElem h]; rfl
/-- the ends of numbers -/
def atL (es : List En) (L : List Nat) : List En := L.map (eAt es)
theorem atL_atEs {es : List En} {L : List Nat} (h : ∀ j ∈ L, j < es.length) : atEs es L (atL es L) := by
  refine ⟨by unfold atL; rw [List.length_map], fun i j hj => ⟨eAt es j, ?_, eAt_get (h j (List.mem_of_getElem? hj))⟩⟩
  unfold atL
  rw [List.getElem?_map, hj]; rfl
theorem atL_pos {es : List En} {L : List Nat} (hs : ∀ x ∈ es, 0 ≤ x.s) (h : ∀ j ∈ L, j < es.length) : ∀ x ∈ atL es L, 0 ≤ x.s := by
  intro x hx
  obtain ⟨j, hj, rfl⟩ := List.mem_map.mp hx
  exact hs _ (List.mem_of_getElem? (eAt_get (h j hj)))
theorem atL_ne {es : List En} {L : List Nat} (h : L ≠ []) : atL es L ≠ [] := by unfold atL; simpa using h
theorem atL_append {es : List En} {L M : List Nat} : atL es (L ++ M) = atL es L ++ atL es M := List.map_append
theorem atL_mem {es : List En} {L M : List Nat} (h : ∀ j, j ∈ L ↔ j ∈ M) : ∀ x, x ∈ atL es L ↔ x ∈ atL es M := fun x => by
  unfold atL
  simp only [List.mem_map, h]
/-- the row of the ends of numbers -/
noncomputable def rwL (es : List En) (L : List Nat) : Rw := rowF (atL es L)
theorem rwL_spec {es : List En} {L : List Nat} (hs : ∀ x ∈ es, 0 ≤ x.s) (hn : L ≠ []) (h : ∀ j ∈ L, j < es.length) : RowR (atL es L) (rwL es L) := rowF_spec (atL_ne hn) (atL_pos hs h)
theorem rwL_congr {es : List En} {L M : List Nat} (hs : ∀ x ∈ es, 0 ≤ x.s) (hn : M ≠ []) (h : ∀ j ∈ M, j < es.length) (hm : ∀ j, j ∈ L ↔ j ∈ M) : rwL es L = rwL es M := rowF_congr (atL_ne hn) (atL_pos hs h) (atL_mem hm)
theorem rwL_eq {es : List En} {L : List Nat} {h a b c e : Int} (R : RowOf (atL es L) h a b c e) : rwL es L = ⟨h, a, b, c, e⟩ := rowF_eq R fun _ => Iff.rfl
end Wk
namespace Wk
open PySem PySem.Spec L2 WkE
/-- lists, each by itself, told by their places -/
def Segs (B : List (List Nat)) (As : List Addr) (ν : Mu) : Prop := As.length = B.length ∧ ∀ (i : Nat) (a : Addr) (L : List Nat), As[i]? = some a → B[i]? = some L → (a, M.lst (L.map jD)) ∈ ν
theorem Segs.snoc {B : List (List Nat)} {As : List Addr} {ν : Mu} (h : Segs B As ν) (a : Addr) (L : List Nat) : Segs (B ++ [L]) (As ++ [a]) ((a, M.lst (L.map jD)) :: ν) := by
  refine ⟨by rw [List.length_append, List.length_append, h.1]; rfl, fun i x M hx hM => ?_⟩
  by_cases c : i < As.length
  · rw [List.getElem?_append_left c] at hx
    rw [List.getElem?_append_left (by rw [← h.1]; exact c)] at hM
    exact List.mem_cons_of_mem _ (h.2 i x M hx hM)
  · rw [List.getElem?_append_right (by omega)] at hx
    rw [List.getElem?_append_right (by rw [← h.1]; omega), ← h.1] at hM
    have e : i - As.length = 0 := by
      have := (List.getElem?_eq_some_iff.mp hx).1
      simp at this; omega
    rw [e] at hx hM
    cases hx; cases hM
    exact List.mem_cons_self
/-- sorted lists of what is beneath -/
def BelS (m : Nat) (J : List (Nat × Nat)) (B : List (List Nat)) : Prop := B.length = m + J.length ∧ ∀ (i : Nat) (L : List Nat), B[i]? = some L → L.Perm (belAt m J i)
end Wk

set_option Elab.async false
set_option linter.all false
set_option maxRecDepth 100000
namespace Wk
open PySem PySem.Spec L2 WkE
/-- sums over 0 .. n - 1 -/
def sumN (n : Nat) (f : Nat → Int) : Int := ((List.range n).map f).sum
theorem sumN_zero {f : Nat → Int} : sumN 0 f = 0 := rfl
theorem sumN_succ {n : Nat} {f : Nat → Int} : sumN (n + 1) f = sumN n f + f n := by
  unfold sumN
  rw [List.range_succ, List.map_append, List.sum_append]; simp
theorem sumN_congr {f g : Nat → Int} : ∀ {n : Nat}, (∀ i, i < n → f i = g i) → sumN n f = sumN n g
  | 0, _ => rfl
  | n + 1, h => by rw [sumN_succ, sumN_succ, sumN_congr fun i hi => h i (by omega), h n (by omega)]
theorem sumN_const0 : ∀ {n : Nat}, sumN n (fun _ => 0) = 0
  | 0 => rfl
  | n + 1 => by rw [sumN_succ, sumN_const0]; rfl
theorem sumN_add {f g : Nat → Int} : ∀ {n : Nat}, sumN n (fun i => f i + g i) = sumN n f + sumN n g
  | 0 => rfl
  | n + 1 => by rw [sumN_succ, sumN_succ, sumN_succ, sumN_add]; omega
theorem sumN_mulL {c : Int} {f : Nat → Int} : ∀ {n : Nat}, sumN n (fun i => c * f i) = c * sumN n f
  | 0 => by rw [sumN_zero, sumN_zero, Int.mul_zero]
  | n + 1 => by rw [sumN_succ, sumN_succ, sumN_mulL, Int.mul_add]
theorem sumN_mulR {c : Int} {f : Nat → Int} {n : Nat} : sumN n (fun i => f i * c) = sumN n f * c := by
  rw [Int.mul_comm, ← sumN_mulL]
  exact sumN_congr fun i _ => Int.mul_comm _ _
theorem sumN_comm {f : Nat → Nat → Int} {m : Nat} : ∀ {n : Nat}, sumN n (fun i => sumN m fun j => f i j) = sumN m fun j => sumN n fun i => f i j
  | 0 => by
    show (0 : Int) = _
    rw [sumN_congr (g := fun _ => 0) fun j _ => sumN_zero, sumN_const0]
  | n + 1 => by
    rw [sumN_succ, sumN_comm, ← sumN_add]
    exact sumN_congr fun j _ => sumN_succ.symm
theorem sumN_sub {f g : Nat → Int} : ∀ {n : Nat}, sumN n (fun i => f i - g i) = sumN n f - sumN n g
  | 0 => rfl
  | n + 1 => by rw [sumN_succ, sumN_succ, sumN_succ, sumN_sub]; omega
theorem sumN_le {f g : Nat → Int} : ∀ {n : Nat}, (∀ i, i < n → f i ≤ g i) → sumN n f ≤ sumN n g
  | 0, _ => Int.le_refl _
  | n + 1, h => by
    rw [sumN_succ, sumN_succ]
    have := sumN_le (n := n) fun i hi => h i (by omega)
    have := h n (by omega)
    omega
theorem sumN_nn {f : Nat → Int} {n : Nat} (h : ∀ i, i < n → 0 ≤ f i) : 0 ≤ sumN n f := by
  have := sumN_le (f := fun _ => 0) h
  rwa [sumN_const0] at this
theorem sum_perm {α : Type} {f : α → Int} {l l' : List α} (h : l.Perm l') : (l.map f).sum = (l'.map f).sum := by
  induction h with
  | nil => rfl
  | cons x _ ih => rw [List.map_cons, List.map_cons, List.sum_cons, List.sum_cons, ih]
  | swap x y l => simp only [List.map_cons, List.sum_cons]; omega
  | trans _ _ h1 h2 => exact h1.trans h2
theorem sum_filter {f : Nat → Int} {c : Nat → Bool} : ∀ {n : Nat}, (((List.range n).filter c).map f).sum = sumN n fun i => if c i = true then f i else 0
  | 0 => rfl
  | n + 1 => by
    rw [List.range_succ, List.filter_append, List.map_append, List.sum_append, sum_filter, sumN_succ]
    congr 1
    by_cases h : c n = true <;> simp [h]
theorem sum_mem {f : Nat → Int} {L : List Nat} {m : Nat} (d : L.Nodup) (b : ∀ i ∈ L, i < m) : (L.map f).sum = sumN m fun i => if i ∈ L then f i else 0 := by
  have hp : L.Perm ((List.range m).filter fun i => decide (i ∈ L)) := (List.perm_ext_iff_of_nodup d (List.nodup_range.sublist List.filter_sublist)).mpr fun i => by
    simp only [List.mem_filter, List.mem_range, decide_eq_true_eq]
    exact ⟨fun h => ⟨b i h, h⟩, fun h => h.2⟩
  rw [sum_perm hp, sum_filter]
  exact sumN_congr fun i _ => by simp
theorem sum_get {ls : List Int} : ls.sum = sumN ls.length fun k => ls.getD k 0 := by
  have e : (List.range ls.length).map (fun k => ls.getD k 0) = ls := by
    apply List.ext_getElem?
    intro i
    rw [List.getElem?_map]
    by_cases h : i < ls.length
    · rw [List.getElem?_range h, List.getElem?_eq_getElem h]
      show some (ls.getD i 0) = _
      rw [List.getD_eq_getElem?_getD, List.getElem?_eq_getElem h]; rfl
    · have h2 : ls.length ≤ i := by omega
      rw [List.getElem?_eq_none h2, List.getElem?_eq_none (l := List.range ls.length) (by rw [List.length_range]; exact h2)]; rfl
  unfold sumN
  rw [e]
theorem map_eAt {β : Type} {es : List En} {f : En → β} : es.map f = (List.range es.length).map fun i => f (eAt es i) := by
  apply List.ext_getElem?
  intro i
  rw [List.getElem?_map, List.getElem?_map]
  by_cases h : i < es.length
  · rw [List.getElem?_range h, eAt_get h]; rfl
  · have h2 : es.length ≤ i := by omega
    rw [List.getElem?_eq_none h2, List.getElem?_eq_none (l := List.range es.length) (by rw [List.length_range]; exact h2)]; rfl
/-- the load of the ends of numbers -/
def ldS (es : List En) (L : List Nat) : Int := (L.map fun i => (eAt es i).l).sum
theorem ldS_append {es : List En} {L M : List Nat} : ldS es (L ++ M) = ldS es L + ldS es M := by unfold ldS; rw [List.map_append, List.sum_append]
theorem ldS_one {es : List En} {i : Nat} : ldS es [i] = (eAt es i).l := by unfold ldS; simp
/-- what lengths bear -/
def bornI (es : List En) (J : List (Nat × Nat)) (ls : List Int) : Int := ((ls.zip (bel es.length J)).map fun p => p.1 * ldS es p.2).sum
theorem zip_sum {ls : List Int} {B : List (List Nat)} {f : List Nat → Int} (h : ls.length ≤ B.length) : ((ls.zip B).map fun p => p.1 * f p.2).sum = sumN ls.length fun k => ls.getD k 0 * f (B.getD k []) := by
  have e : ((ls.zip B).map fun p => p.1 * f p.2) = (List.range ls.length).map fun k => ls.getD k 0 * f (B.getD k []) := by
    apply List.ext_getElem?
    intro i
    rw [List.getElem?_map, List.getElem?_map]
    by_cases c : i < ls.length
    · rw [List.getElem?_range c]
      have c2 : i < B.length := by omega
      rw [List.getElem?_eq_getElem (l := ls.zip B) (by rw [List.length_zip]; omega), List.getElem_zip]
      show some _ = some (ls.getD i 0 * f (B.getD i []))
      rw [List.getD_eq_getElem?_getD, List.getD_eq_getElem?_getD, List.getElem?_eq_getElem c, List.getElem?_eq_getElem c2]; rfl
    · have h2 : ls.length ≤ i := by omega
      rw [List.getElem?_eq_none (l := ls.zip B) (by rw [List.length_zip]; omega), List.getElem?_eq_none (l := List.range ls.length) (by rw [List.length_range]; exact h2)]; rfl
  unfold sumN
  rw [e]
theorem bornI_sum {es : List En} {J : List (Nat × Nat)} {ls : List Int} (h : ls.length ≤ es.length + J.length) : bornI es J ls = sumN ls.length fun k => ls.getD k 0 * ldS es (belAt es.length J k) := by
  unfold bornI
  rw [zip_sum (by rw [bel_length]; exact h)]
  rfl
/-- the wire of a knot's way up -/
def wayS (ls : List Int) (m : Nat) (J : List (Nat × Nat)) (k : Nat) : Int := ((chn m J k).dropLast.map fun j => ls.getD j 0).sum
theorem wayS_root {ls : List Int} {m k : Nat} {J : List (Nat × Nat)} (h : chn m J k = [k]) : wayS ls m J k = 0 := by unfold wayS; rw [h]; rfl
theorem wayS_step {ls : List Int} {m k p : Nat} {J : List (Nat × Nat)} (h : chn m J k = k :: chn m J p) (hp : p < m + J.length) : wayS ls m J k = ls.getD k 0 + wayS ls m J p := by
  have hne : chn m J p ≠ [] := by
    have : p ∈ chn m J p := chn_mem.mpr ⟨hp, Nat.le_refl _, fun _ h => h⟩
    intro e
    rw [e] at this
    cases this
  unfold wayS
  rw [h, List.dropLast_cons_of_ne_nil hne, List.map_cons, List.sum_cons]
theorem wayS_end {ls : List Int} {m e : Nat} {J : List (Nat × Nat)} (hJ : Jng m J) (he : e < m) : wayS ls m J e = sumN (m + J.length - 1) fun k => if e ∈ belAt m J k then ls.getD k 0 else 0 := by
  have hl := hJ.1
  unfold wayS
  rw [chn_end he]
  obtain ⟨n, hn⟩ : ∃ n, m + J.length = n + 1 := ⟨m + J.length - 1, by omega⟩
  have hr : e ∈ belAt m J n := by
    have := hJ.whole.mem_iff.mpr (List.mem_range.mpr he)
    rwa [show m + J.length - 1 = n by omega] at this
  rw [hn, List.range_succ, List.filter_append]
  have e1 : List.filter (fun j => decide (e ∈ belAt m J j)) [n] = [n] := by simp [hr]
  rw [e1, List.dropLast_concat, sum_filter, show n + 1 - 1 = n by omega]
  exact sumN_congr fun i _ => by simp
theorem born_due {es : List En} {J : List (Nat × Nat)} {ls : List Int} (hJ : Jng es.length J) (h : ls.length + 1 = es.length + J.length) : (sumN es.length fun i => wayS ls es.length J i * (eAt es i).l) = bornI es J ls := by
  have F := hJ.facts
  rw [bornI_sum (by omega)]
  rw [sumN_congr (g := fun i => sumN ls.length fun k => (if i ∈ belAt es.length J k then ls.getD k 0 else 0) * (eAt es i).l) fun i hi => by
    rw [wayS_end hJ hi, ← sumN_mulR, show es.length + J.length - 1 = ls.length by omega], sumN_comm]
  refine sumN_congr fun k hk => ?_
  obtain ⟨_, d, b⟩ := F.bnd k (by omega)
  unfold ldS
  rw [sum_mem d b, ← sumN_mulL]
  refine sumN_congr fun i _ => ?_
  by_cases c : i ∈ belAt es.length J k
  · rw [if_pos c, if_pos c]
  · rw [if_neg c, if_neg c, Int.zero_mul, Int.mul_zero]
theorem bornI_more {es : List En} {J : List (Nat × Nat)} {ls : List Int} {k : Nat} {x : Int} (h : ls.length ≤ es.length + J.length) (hk : k < ls.length) : bornI es J (ls.set k (ls.getD k 0 + x)) = bornI es J ls + x * ldS es (belAt es.length J k) := by
  rw [bornI_sum (by rw [List.length_set]; exact h), bornI_sum h, List.length_set]
  have : ∀ n, n ≤ ls.length → (sumN n fun i => (ls.set k (ls.getD k 0 + x)).getD i 0 * ldS es (belAt es.length J i)) = (sumN n fun i => ls.getD i 0 * ldS es (belAt es.length J i)) + if k < n then x * ldS es (belAt es.length J k) else 0 := by
    intro n
    induction n with
    | zero => intro _; rw [sumN_zero, sumN_zero, if_neg (by omega)]; rfl
    | succ n ih =>
      intro hn
      rw [sumN_succ, sumN_succ, ih (by omega)]
      by_cases c : n = k
      · subst c
        rw [if_neg (by omega), if_pos (by omega), List.getD_eq_getElem?_getD, List.getElem?_set_self hk]
        show _ + (ls.getD n 0 + x) * _ = _
        rw [Int.add_mul]; omega
      · rw [List.getD_eq_getElem?_getD, List.getElem?_set_ne (by omega), ← List.getD_eq_getElem?_getD]
        by_cases c2 : k < n
        · rw [if_pos c2, if_pos (by omega)]; omega
        · rw [if_neg c2, if_neg (by omega)]; omega
  rw [this _ (Nat.le_refl _), if_pos hk]
end Wk
namespace Wk
open PySem PySem.Spec L2 WkE
/-- the least even wire -/
noncomputable def evenI (es : List En) (J : List (Nat × Nat)) : Int := (rwL es (belAt es.length J (es.length + J.length - 1))).h + (((bel es.length J).drop es.length).map fun L => (rwL es L).h).sum - 2 * (es.map fun e : En => e.s).sum
end Wk
namespace Wk
open PySem PySem.Spec L2 WkE
/-- the most that two of some ends want -/
theorem rwL_max {es : List En} {L : List Nat} (hs : ∀ x ∈ es, 0 ≤ x.s) (hn : L ≠ []) (hb : ∀ j ∈ L, j < es.length) : maxL (L.map fun i => maxL (L.map fun j => wI (eAt es i) (eAt es j))) = (rwL es L).h := by
  have R := rwL_spec hs hn hb
  have hm : ∀ i ∈ L, eAt es i ∈ atL es L := fun i hi => List.mem_map.mpr ⟨i, hi, rfl⟩
  have up : ∀ i ∈ L, maxL (L.map fun j => wI (eAt es i) (eAt es j)) ≤ (rwL es L).h := fun i hi => by
    have hne : (L.map fun j => wI (eAt es i) (eAt es j)) ≠ [] := by simpa using hn
    obtain ⟨j, hj, e⟩ := List.mem_map.mp (maxL_mem _ hne)
    rw [← e]
    exact R.hm _ (hm i hi) _ (hm j hj)
  refine (maxL_uniq ?_ ?_).symm
  · obtain ⟨x, hx, y, hy, e⟩ := R.hx
    obtain ⟨i, hi, rfl⟩ := List.mem_map.mp hx
    obtain ⟨j, hj, rfl⟩ := List.mem_map.mp hy
    refine List.mem_map.mpr ⟨i, hi, Int.le_antisymm (up i hi) ?_⟩
    rw [← e]
    exact maxL_ge _ _ (List.mem_map.mpr ⟨j, hj, rfl⟩)
  · intro x hx
    obtain ⟨i, hi, rfl⟩ := List.mem_map.mp hx
    exact up i hi
end Wk
namespace Wk
open PySem PySem.Spec L2 WkE
theorem evenI_one {es : List En} (h : es.length = 1) (hs : ∀ x ∈ es, 0 ≤ x.s) : evenI es [] = 0 := by
  match es, h with
  | [e], _ =>
    have e1 : rwL [e] (belAt [e].length [] ([e].length + ([] : List (Nat × Nat)).length - 1)) = ⟨2 * e.s, 2 * (e.x + e.y), 2 * (e.x + e.y), 2 * (e.x - e.y), 2 * (e.x - e.y)⟩ := rwL_eq (RowOf.one e (hs e (by simp)))
    unfold evenI
    rw [e1]
    show 2 * e.s + (([[0]] : List (List Nat)).drop 1 |>.map fun L => (rwL [e] L).h).sum - 2 * (e.s + 0) = 0
    simp
/-- heights of lists that are alike -/
theorem rwL_bels {es : List En} {J : List (Nat × Nat)} {B : List (List Nat)} (hs : ∀ x ∈ es, 0 ≤ x.s) (hJ : Jng es.length J) (hB : BelS es.length J B) : (B.map fun L => (rwL es L).h) = (bel es.length J).map fun L => (rwL es L).h := by
  apply List.ext_getElem?
  intro i
  rw [List.getElem?_map, List.getElem?_map]
  by_cases c : i < es.length + J.length
  · have e1 := List.getElem?_eq_getElem (l := B) (i := i) (by rw [hB.1]; exact c)
    generalize B[i]'_ = L at e1
    obtain ⟨n, _, b⟩ := hJ.facts.bnd i c
    have hp := hB.2 _ _ e1
    rw [e1, bel_get c]
    exact congrArg some (congrArg Rw.h (rwL_congr hs n b fun j => hp.mem_iff))
  · rw [List.getElem?_eq_none (by rw [hB.1]; omega), List.getElem?_eq_none (by rw [bel_length]; omega)]
end Wk
namespace Wk
open PySem PySem.Spec L2 WkE
/-- what an end reaches -/
def sumsI (es : List En) (J : List (Nat × Nat)) (g : Int) (ls : List Int) (i : Nat) : Int := wayS ls es.length J i + (eAt es i).s * g
/-- lengths in a tuple or in a list -/
def LsArg (d : D) (μ : Mu) (ls : List Int) : Prop := d = .tup (ls.map D.int) ∨ ∃ a, d = .ref a ∧ Lk (ls.map D.int) μ a
theorem LsArg.ix {K : PySem.W.Frag} {P : D → Mu → Prop} {d : D} {μ : Mu} {ls : List Int} {k : Nat} {v : Int} (h : LsArg d μ ls) (hv : ls[k]? = some v) (q : P (.int v) μ) : W2 K (rIx K) d (jD k) μ P := by
  rcases h with rfl | ⟨a, rfl, ha⟩
  · exact w2_ixTm hv q
  · exact w2_ixKm ha hv q
theorem LsArg.cons {d : D} {μ : Mu} {ls : List Int} {p : Addr × M} (h : LsArg d μ ls) : LsArg d (p :: μ) ls := h.imp id fun ⟨a, e, ha⟩ => ⟨a, e, ha.cons⟩
end Wk
namespace Wk
open PySem PySem.Spec L2 WkE
/-- a spot -/
abbrev zD (p : Int × Int) : D := .tup [.int p.1, .int p.2]
end Wk
namespace Wk
open PySem PySem.Spec L2 WkE
theorem eAt_all {es : List En} {p : En → Prop} (h : ∀ e ∈ es, p e) (h0 : p ⟨0, 0, 0, 0⟩) (i : Nat) : p (eAt es i) := by
  unfold eAt
  cases e : es[i]? with
  | none => exact h0
  | some x => exact h x (List.mem_of_getElem? e)
theorem ldS_bnd {es : List En} (h : ∀ e ∈ es, 0 ≤ e.l ∧ e.l ≤ 1000000) : ∀ L : List Nat, 0 ≤ ldS es L ∧ ldS es L ≤ 1000000 * L.length
  | [] => ⟨Int.le_refl _, Int.le_refl _⟩
  | i :: L => by
    have h1 := ldS_bnd h L
    have h2 : 0 ≤ (eAt es i).l ∧ (eAt es i).l ≤ 1000000 := eAt_all (p := fun e => 0 ≤ e.l ∧ e.l ≤ 1000000) h (by decide) i
    have e : ldS es (i :: L) = (eAt es i).l + ldS es L := by unfold ldS; rw [List.map_cons, List.sum_cons]
    rw [e, List.length_cons]
    omega
theorem ldS_perm {es : List En} {L M : List Nat} (h : L.Perm M) : ldS es L = ldS es M := sum_perm h
/-- what is due, behind some ends, and some knots of the next one -/
def DueP (es : List En) (J : List (Nat × Nat)) (e : Nat) (C : List Nat) (dl : List Int) : Prop := dl.length = es.length + J.length ∧ ∀ j, j < es.length + J.length →
  dl[j]? = some ((sumN e fun i => if i ∈ belAt es.length J j then (eAt es i).l else 0) + if j ∈ C then (eAt es e).l else 0)
theorem DueP.nil {es : List En} {J : List (Nat × Nat)} : DueP es J 0 [] (List.replicate (es.length + J.length) 0) := ⟨List.length_replicate, fun j hj => by rw [List.getElem?_replicate, if_pos hj]; rfl⟩
theorem DueP.set {es : List En} {J : List (Nat × Nat)} {e k : Nat} {C : List Nat} {dl : List Int} (h : DueP es J e C dl) (hk : k < es.length + J.length) (hC : k ∉ C) : DueP es J e (C ++ [k]) (dl.set k (dl.getD k 0 + (eAt es e).l)) := by
  obtain ⟨h1, h2⟩ := h
  refine ⟨by rw [List.length_set, h1], fun j hj => ?_⟩
  rw [List.getElem?_set]
  by_cases c : k = j
  · subst c
    have := h2 k hk
    rw [if_pos rfl, if_pos (by omega), List.getD_eq_getElem?_getD, this, if_neg hC, if_pos (by simp)]
    rw [Int.add_zero]; rfl
  · rw [if_neg c, h2 j hj]
    have : j ∈ C ++ [k] ↔ j ∈ C := by simp; omega
    by_cases c2 : j ∈ C
    · rw [if_pos c2, if_pos (this.mpr c2)]
    · rw [if_neg c2, if_neg fun z => c2 (this.mp z)]
theorem DueP.next {es : List En} {J : List (Nat × Nat)} {e : Nat} {dl : List Int} (he : e < es.length) (h : DueP es J e (chn es.length J e) dl) : DueP es J (e + 1) [] dl := by
  obtain ⟨h1, h2⟩ := h
  refine ⟨h1, fun j hj => ?_⟩
  rw [h2 j hj, sumN_succ, if_neg (show j ∉ ([] : List Nat) by simp), Int.add_zero]
  have : j ∈ chn es.length J e ↔ e ∈ belAt es.length J j := by
    rw [chn_end he, List.mem_filter, List.mem_range]
    simp [hj]
  by_cases c : e ∈ belAt es.length J j
  · rw [if_pos c, if_pos (this.mpr c)]
  · rw [if_neg c, if_neg fun z => c (this.mp z)]
theorem DueP.done {es : List En} {J : List (Nat × Nat)} {dl : List Int} (hJ : Jng es.length J) (h : DueP es J es.length [] dl) : dl.map D.int = (bel es.length J).map fun L => D.int (ldS es L) := by
  obtain ⟨h1, h2⟩ := h
  apply List.ext_getElem?
  intro j
  rw [List.getElem?_map, List.getElem?_map]
  by_cases c : j < es.length + J.length
  · obtain ⟨_, d, b⟩ := hJ.facts.bnd j c
    rw [h2 j c, bel_get c, if_neg (show j ∉ ([] : List Nat) by simp), Int.add_zero]
    show some (D.int _) = some (D.int (ldS es _))
    unfold ldS
    rw [sum_mem d b]
  · rw [List.getElem?_eq_none (by omega), List.getElem?_eq_none (by rw [bel_length]; omega)]; rfl
theorem chn_few {m e : Nat} {J : List (Nat × Nat)} (he : e < m) : (chn m J e).length ≤ J.length + 1 := by
  have hs : ∀ j ∈ chn m J e, j ∈ e :: (List.range J.length).map (m + ·) := fun j hj => by
    obtain ⟨h1, h2, h3⟩ := chn_mem.mp hj
    by_cases c : j < m
    · have := h3 e (by rw [belAt_end he]; simp)
      rw [belAt_end c] at this
      simp at this
      simp [this]
    · refine List.mem_cons_of_mem _ (List.mem_map.mpr ⟨j - m, List.mem_range.mpr (by omega), by omega⟩)
  have nd : (chn m J e).Nodup := chn_rise.imp fun h => by omega
  have := nd.length_le_of_subset hs
  simpa using this
theorem bel_swapL {es : List En} {J : List (Nat × Nat)} : ((bel es.length (J.map sw)).map fun L => D.int (ldS es L)) = (bel es.length J).map fun L => D.int (ldS es L) := by
  apply List.ext_getElem?
  intro j
  rw [List.getElem?_map, List.getElem?_map]
  by_cases c : j < es.length + J.length
  · rw [bel_get c, bel_get (by rw [List.length_map]; exact c)]
    exact congrArg (fun z => some (D.int z)) (ldS_perm (bel_swap _ J rfl j))
  · rw [List.getElem?_eq_none (by rw [bel_length, List.length_map]; omega), List.getElem?_eq_none (by rw [bel_length]; omega)]
theorem Jng.swap {m : Nat} {J : List (Nat × Nat)} (h : Jng m J) : Jng m (J.map sw) := ⟨by rw [List.length_map]; exact h.1, h.2.elim fun W hW => ⟨W, hW.swap⟩⟩
theorem ldS_other {es : List En} {L : List Nat} {f : En → En} (hf : ∀ e, (f e).l = e.l) : ldS (es.map f) L = ldS es L := by
  unfold ldS
  congr 1
  refine List.map_congr_left fun i _ => ?_
  unfold eAt
  rw [List.getElem?_map]
  cases es[i]? with
  | none => rfl
  | some x => exact hf x
theorem ldS_root {es : List En} {J : List (Nat × Nat)} (h : Jng es.length J) : ldS es (belAt es.length J (es.length + J.length - 1)) = (es.map fun e : En => e.l).sum := by
  rw [ldS_perm h.whole, map_eAt]; rfl
end Wk
namespace Wk
open PySem PySem.Spec L2 WkE
/-- the rows that have a knot, with their numbers -/
theorem rows_nil {m k : Nat} {J : List (Nat × Nat)} (hJ : Jng m J) (hk : k < m + J.length) (h : J.zipIdx.filter (fun z => decide (k = z.1.1 ∨ k = z.1.2)) = []) : chn m J k = [k] := by
  have hl := hJ.1
  have := hJ.facts.top hk fun i x hx => by
    have hm : (x, i) ∈ J.zipIdx := List.mem_zipIdx_iff_getElem?.mpr hx
    have hn : ¬ (k = x.1 ∨ k = x.2) := fun c => by
      have : (x, i) ∈ J.zipIdx.filter (fun z => decide (k = z.1.1 ∨ k = z.1.2)) := List.mem_filter.mpr ⟨hm, decide_eq_true c⟩
      rw [h] at this
      cases this
    exact ⟨fun e => hn (.inl e.symm), fun e => hn (.inr e.symm)⟩
  exact chn_root (by omega)
theorem rows_cons {m k : Nat} {J : List (Nat × Nat)} {z : (Nat × Nat) × Nat} {r : List ((Nat × Nat) × Nat)} (hJ : Jng m J) (h : J.zipIdx.filter (fun z => decide (k = z.1.1 ∨ k = z.1.2)) = z :: r) : chn m J k = k :: chn m J (m + z.2) ∧ z.2 < J.length ∧ r.length + 1 ≤ J.length := by
  have hm : z ∈ J.zipIdx.filter (fun z => decide (k = z.1.1 ∨ k = z.1.2)) := by rw [h]; exact List.mem_cons_self
  obtain ⟨h1, h2⟩ := List.mem_filter.mp hm
  have g := List.mem_zipIdx_iff_getElem?.mp h1
  have h2 := of_decide_eq_true h2
  have hl := List.length_filter_le (fun z => decide (k = z.1.1 ∨ k = z.1.2)) J.zipIdx
  rw [h, List.length_cons, List.length_zipIdx] at hl
  exact ⟨hJ.facts.chn_step g (h2.imp Eq.symm Eq.symm), (List.getElem?_eq_some_iff.mp g).1, hl⟩
end Wk

set_option Elab.async false
set_option linter.all false
set_option maxRecDepth 100000
namespace Wk
open PySem PySem.Spec L2 WkE
abbrev wP (es : List En) (a b : Nat) : Int := wI (eAt es a) (eAt es b)
abbrev lexN (i' j' i j : Nat) : Prop := i' < i ∨ i' = i ∧ j' < j
/-- the first of the pairs that want the most -/
def FstP (es : List En) (L : List Nat) (p : Nat × Nat) : Prop := ∃ i j, i ≤ j ∧ L[i]? = some p.1 ∧ L[j]? = some p.2 ∧ wP es p.1 p.2 = (rwL es L).h ∧
  ∀ i' j' a b, L[i']? = some a → L[j']? = some b → i' ≤ j' → lexN i' j' i j → wP es a b < (rwL es L).h
theorem FstP.uniq {es : List En} {L : List Nat} {p q : Nat × Nat} (h1 : FstP es L p) (h2 : FstP es L q) : p = q := by
  obtain ⟨i, j, a1, a2, a3, a4, a5⟩ := h1
  obtain ⟨k, l, b1, b2, b3, b4, b5⟩ := h2
  by_cases c1 : lexN i j k l
  · have := b5 i j _ _ a2 a3 a1 c1; omega
  by_cases c2 : lexN k l i j
  · have := a5 k l _ _ b2 b3 b1 c2; omega
  unfold lexN at *
  obtain rfl : i = k := by omega
  obtain rfl : j = l := by omega
  rw [a2] at b2; rw [a3] at b3
  obtain ⟨p1, p2⟩ := p
  obtain ⟨q1, q2⟩ := q
  simp at b2 b3
  rw [b2, b3]
noncomputable def fpF (es : List En) (L : List Nat) : Nat × Nat := open Classical in if h : ∃ p, FstP es L p then Classical.choose h else (0, 0)
theorem FstP.fpF {es : List En} {L : List Nat} {p : Nat × Nat} (h : FstP es L p) : p = fpF es L := by
  have hx : ∃ p, FstP es L p := ⟨p, h⟩
  unfold Wk.fpF
  rw [dif_pos hx]
  exact h.uniq (Classical.choose_spec hx)
section
variable {es : List En} {L : List Nat}
theorem rwL_le (hs : ∀ x ∈ es, 0 ≤ x.s) (hb : ∀ j ∈ L, j < es.length) {i j a b : Nat} (h1 : L[i]? = some a) (h2 : L[j]? = some b) : wP es a b ≤ (rwL es L).h := by
  have m1 := List.mem_of_getElem? h1
  have m2 := List.mem_of_getElem? h2
  have R := rwL_spec hs (List.ne_nil_of_mem m1) hb
  exact R.hm _ (List.mem_map.mpr ⟨a, m1, rfl⟩) _ (List.mem_map.mpr ⟨b, m2, rfl⟩)
theorem rwL_hit (hs : ∀ x ∈ es, 0 ≤ x.s) (hn : L ≠ []) (hb : ∀ j ∈ L, j < es.length) : ∃ (i j a b : Nat), i ≤ j ∧ L[i]? = some a ∧ L[j]? = some b ∧ wP es a b = (rwL es L).h := by
  have R := rwL_spec hs hn hb
  obtain ⟨x, hx, y, hy, e⟩ := R.hx
  obtain ⟨a, ha, rfl⟩ := List.mem_map.mp hx
  obtain ⟨b, hb2, rfl⟩ := List.mem_map.mp hy
  obtain ⟨i, hi⟩ := List.getElem?_of_mem ha
  obtain ⟨j, hj⟩ := List.getElem?_of_mem hb2
  rcases Nat.le_total i j with c | c
  · exact ⟨i, j, a, b, c, hi, hj, e⟩
  · exact ⟨j, i, b, a, c, hj, hi, by unfold wP; rw [wI_comm]; exact e⟩
/-- none of the pairs ahead wants the most -/
def NoI (es : List En) (L : List Nat) (i j : Nat) : Prop := ∀ i' j' a b, L[i']? = some a → L[j']? = some b → i' ≤ j' → lexN i' j' i j → wP es a b < (rwL es L).h
theorem NoI.start : NoI es L 0 0 := fun i' j' a b _ _ _ h => by unfold lexN at h; omega
theorem NoI.enter {i : Nat} (h : NoI es L i 0) : NoI es L i i := fun i' j' a b h1 h2 h3 h4 => h i' j' a b h1 h2 h3 (by unfold lexN at *; omega)
theorem NoI.skip {i j a b : Nat} (hs : ∀ x ∈ es, 0 ≤ x.s) (hb : ∀ j ∈ L, j < es.length) (h : NoI es L i j) (h1 : L[i]? = some a) (h2 : L[j]? = some b) (hw : wP es a b ≠ (rwL es L).h) : NoI es L i (j + 1) := fun i' j' a' b' k1 k2 k3 k4 => by
  by_cases c : i' = i ∧ j' = j
  · obtain ⟨rfl, rfl⟩ := c
    rw [h1] at k1; rw [h2] at k2
    cases k1; cases k2
    have := rwL_le hs hb h1 h2
    omega
  · exact h i' j' a' b' k1 k2 k3 (by unfold lexN at *; omega)
theorem NoI.next {i : Nat} (h : NoI es L i L.length) : NoI es L (i + 1) 0 := fun i' j' a b h1 h2 h3 h4 => h i' j' a b h1 h2 h3 (by
  have := (List.getElem?_eq_some_iff.mp h2).1
  unfold lexN at *; omega)
theorem NoI.done {j : Nat} (hs : ∀ x ∈ es, 0 ≤ x.s) (hn : L ≠ []) (hb : ∀ j ∈ L, j < es.length) (h : NoI es L L.length j) : False := by
  obtain ⟨i, j, a, b, c, h1, h2, e⟩ := rwL_hit hs hn hb
  have := h i j a b h1 h2 c (by
    have := (List.getElem?_eq_some_iff.mp h1).1
    unfold lexN; omega)
  omega
theorem NoI.hit {i j a b : Nat} (h : NoI es L i j) (hij : i ≤ j) (h1 : L[i]? = some a) (h2 : L[j]? = some b) (hw : wP es a b = (rwL es L).h) : FstP es L (a, b) := ⟨i, j, hij, h1, h2, hw, h⟩
/-- the best one of the pairs ahead -/
def BestI (es : List En) (L : List Nat) (i j : Nat) (p : Nat × Nat) : Prop := ∃ bi bj, bi ≤ bj ∧ L[bi]? = some p.1 ∧ L[bj]? = some p.2 ∧
  (∀ i' j' a b, L[i']? = some a → L[j']? = some b → i' ≤ j' → lexN i' j' i j → wP es a b ≤ wP es p.1 p.2) ∧
  ∀ i' j' a b, L[i']? = some a → L[j']? = some b → i' ≤ j' → lexN i' j' bi bj → wP es a b < wP es p.1 p.2
theorem BestI.start {x : Nat} (h : L[0]? = some x) : BestI es L 0 0 (x, x) := ⟨0, 0, Nat.le_refl _, h, h, fun i' j' a b _ _ _ h => by unfold lexN at h; omega, fun i' j' a b _ _ _ h => by unfold lexN at h; omega⟩
theorem BestI.take {i j a b : Nat} {p : Nat × Nat} (h : BestI es L i j p) (hij : i ≤ j) (h1 : L[i]? = some a) (h2 : L[j]? = some b) (hw : wP es p.1 p.2 < wP es a b) : BestI es L i (j + 1) (a, b) := by
  obtain ⟨bi, bj, _, _, _, k1, k2⟩ := h
  refine ⟨i, j, hij, h1, h2, fun i' j' a' b' m1 m2 m3 m4 => ?_, fun i' j' a' b' m1 m2 m3 m4 => ?_⟩
  · by_cases c : i' = i ∧ j' = j
    · obtain ⟨rfl, rfl⟩ := c
      rw [h1] at m1; rw [h2] at m2
      cases m1; cases m2
      exact Int.le_refl _
    · have := k1 i' j' a' b' m1 m2 m3 (by unfold lexN at *; omega)
      show _ ≤ wP es a b
      omega
  · have := k1 i' j' a' b' m1 m2 m3 m4
    show _ < wP es a b
    omega
theorem BestI.keep {i j a b : Nat} {p : Nat × Nat} (h : BestI es L i j p) (h1 : L[i]? = some a) (h2 : L[j]? = some b) (hw : i ≤ j → wP es a b ≤ wP es p.1 p.2) : BestI es L i (j + 1) p := by
  obtain ⟨bi, bj, b0, b1, b2, k1, k2⟩ := h
  refine ⟨bi, bj, b0, b1, b2, fun i' j' a' b' m1 m2 m3 m4 => ?_, k2⟩
  by_cases c : i' = i ∧ j' = j
  · obtain ⟨rfl, rfl⟩ := c
    rw [h1] at m1; rw [h2] at m2
    cases m1; cases m2
    exact hw m3
  · exact k1 i' j' a' b' m1 m2 m3 (by unfold lexN at *; omega)
theorem BestI.next {i : Nat} {p : Nat × Nat} (h : BestI es L i L.length p) : BestI es L (i + 1) 0 p := by
  obtain ⟨bi, bj, b0, b1, b2, k1, k2⟩ := h
  exact ⟨bi, bj, b0, b1, b2, fun i' j' a b h1 h2 h3 h4 => k1 i' j' a b h1 h2 h3 (by
    have := (List.getElem?_eq_some_iff.mp h2).1
    unfold lexN at *; omega), k2⟩
theorem BestI.done {j : Nat} {p : Nat × Nat} (hs : ∀ x ∈ es, 0 ≤ x.s) (hn : L ≠ []) (hb : ∀ j ∈ L, j < es.length) (h : BestI es L L.length j p) : FstP es L p := by
  obtain ⟨bi, bj, b0, b1, b2, k1, k2⟩ := h
  obtain ⟨i, l, a, b, c, h1, h2, e⟩ := rwL_hit hs hn hb
  have q1 := k1 i l a b h1 h2 c (by
    have := (List.getElem?_eq_some_iff.mp h1).1
    unfold lexN; omega)
  have q2 := rwL_le hs hb b1 b2
  have e2 : wP es p.1 p.2 = (rwL es L).h := by omega
  exact ⟨bi, bj, b0, b1, b2, e2, fun i' j' a b h1 h2 h3 h4 => by have := k2 i' j' a b h1 h2 h3 h4; omega⟩
end
/-- of a rising list: the places are as the items are -/
theorem rise_ix {L : List Nat} {i j a b : Nat} (hr : L.Pairwise (· < ·)) (h1 : L[i]? = some a) (h2 : L[j]? = some b) : a ≤ b ↔ i ≤ j := by
  obtain ⟨hi, rfl⟩ := List.getElem?_eq_some_iff.mp h1
  obtain ⟨hj, rfl⟩ := List.getElem?_eq_some_iff.mp h2
  have pw := List.pairwise_iff_getElem.mp hr
  constructor
  · intro h
    refine Classical.byContradiction fun c => ?_
    have := pw j i hj hi (by omega)
    omega
  · intro h
    by_cases c : i = j
    · subst c; exact Nat.le_refl _
    · have := pw i j hi hj (by omega)
      omega
theorem rise_of {L : List Nat} (h : L.Pairwise (· ≤ ·)) (d : L.Nodup) : L.Pairwise (· < ·) := (h.and d).imp fun ⟨h1, h2⟩ => by omega
end Wk

set_option Elab.async false
set_option linter.all false
set_option maxRecDepth 100000
namespace Wk
open PySem PySem.Spec L2 WkE
/-! layers: rows of a paper, and what they show -/
structure La where
  lo : Int
  hi : Int
  so : List Nat
abbrev laD (r : La) : D := .tup [.int r.lo, .int r.hi, .tup (r.so.map jD)]
structure SoP (m : Nat) (S : List Nat) : Prop where
  two : 2 ≤ S.length
  rise : S.Pairwise (· < ·)
  low : ∀ j ∈ S, j < m
theorem rise_len : ∀ {S : List Nat} {k m : Nat}, S.Pairwise (· < ·) → (∀ j ∈ S, k ≤ j ∧ j < m) → S.length ≤ m - k
  | [], _, _, _, _ => Nat.zero_le _
  | a :: r, k, m, h, hb => by
    have h1 := List.pairwise_cons.mp h
    have h2 := hb a List.mem_cons_self
    have := rise_len (S := r) (k := a + 1) (m := m) h1.2 fun j hj => ⟨h1.1 j hj, (hb j (List.mem_cons_of_mem _ hj)).2⟩
    rw [List.length_cons]; omega
theorem SoP.len {m : Nat} {S : List Nat} (h : SoP m S) : S.length ≤ m := rise_len h.rise fun j hj => ⟨Nat.zero_le _, h.low j hj⟩
def AptP (es : List En) (lo hi : Int) (S : List Nat) : Prop := (∀ a ∈ S, 2 * (eAt es a).s ≤ lo) ∧ S.Pairwise fun a b => hi ≤ wP es a b
instance {es : List En} {lo hi : Int} {S : List Nat} : Decidable (AptP es lo hi S) := inferInstanceAs (Decidable (_ ∧ _))
def LayP (es : List En) (ah : Int) (r : La) : Prop := (0 ≤ r.lo ∧ 0 ≤ r.hi ∧ ah ≤ r.lo ∧ r.lo < r.hi) ∧ AptP es r.lo r.hi r.so
instance {es : List En} {ah : Int} {r : La} : Decidable (LayP es ah r) := inferInstanceAs (Decidable (_ ∧ _))
def shw (es : List En) : Int → Int → List La → Option Int
  | _, sh, [] => some sh
  | ah, sh, r :: rs => if LayP es ah r then shw es r.hi (sh + (r.hi - r.lo) * (r.so.length : Int)) rs else none
theorem shw_yes {es : List En} {ah sh : Int} {r : La} {rs : List La} (h : LayP es ah r) : shw es ah sh (r :: rs) = shw es r.hi (sh + (r.hi - r.lo) * (r.so.length : Int)) rs := if_pos h
theorem shw_no {es : List En} {ah sh : Int} {r : La} {rs : List La} (h : ¬ LayP es ah r) : shw es ah sh (r :: rs) = none := if_neg h
def oI : Option Int → D
  | none => .non
  | some i => .int i
/-- rows that are right ones -/
def GoodL (es : List En) : Int → List La → Prop
  | _, [] => True
  | ah, r :: rs => LayP es ah r ∧ GoodL es r.hi rs
def sumL (R : List La) : Int := (R.map fun r => (r.hi - r.lo) * (r.so.length : Int)).sum
theorem GoodL.shw {es : List En} : ∀ {R : List La} {ah sh : Int}, GoodL es ah R → shw es ah sh R = some (sh + sumL R)
  | [], ah, sh, _ => by show some sh = _; rw [show sumL [] = 0 from rfl, Int.add_zero]
  | r :: rs, ah, sh, h => by
    rw [shw_yes h.1, GoodL.shw h.2]
    unfold sumL
    rw [List.map_cons, List.sum_cons, ← Int.add_assoc]
theorem GoodL.take {es : List En} : ∀ {R : List La} {ah : Int} (k : Nat), GoodL es ah R → GoodL es ah (R.take k)
  | [], ah, k, _ => by rw [List.take_nil]; exact True.intro
  | r :: rs, ah, 0, h => True.intro
  | r :: rs, ah, k + 1, h => ⟨h.1, GoodL.take k h.2⟩
def lastH (ah : Int) : List La → Int
  | [] => ah
  | r :: rs => lastH r.hi rs
theorem GoodL.snoc {es : List En} : ∀ {R : List La} {ah : Int} {r : La}, GoodL es ah R → LayP es (lastH ah R) r → GoodL es ah (R ++ [r])
  | [], ah, r, _, h => ⟨h, True.intro⟩
  | x :: xs, ah, r, h, h2 => ⟨h.1, GoodL.snoc h.2 h2⟩
theorem lastH_snoc {r : La} : ∀ {R : List La} {ah : Int}, lastH ah (R ++ [r]) = r.hi
  | [], _ => rfl
  | _ :: xs, _ => lastH_snoc (R := xs)
/-- what any two of some ends want -/
def prs (es : List En) : List Nat → List Int
  | [] => []
  | a :: r => (r.map fun b => wP es a b) ++ prs es r
theorem prs_pw {es : List En} {v : Int} : ∀ {S : List Nat}, (S.Pairwise fun a b => v ≤ wP es a b) ↔ ∀ x ∈ prs es S, v ≤ x
  | [] => ⟨fun _ _ h => (nomatch h), fun _ => List.Pairwise.nil⟩
  | a :: r => by
    rw [List.pairwise_cons, prs_pw (S := r), show prs es (a :: r) = (r.map fun b => wP es a b) ++ prs es r from rfl]
    constructor
    · rintro ⟨h1, h2⟩ x hx
      rcases List.mem_append.mp hx with hx | hx
      · obtain ⟨b, hb, rfl⟩ := List.mem_map.mp hx
        exact h1 b hb
      · exact h2 x hx
    · intro h
      exact ⟨fun b hb => h _ (List.mem_append_left _ (List.mem_map.mpr ⟨b, hb, rfl⟩)), fun x hx => h x (List.mem_append_right _ hx)⟩
theorem prs_ne {es : List En} {S : List Nat} (h : 2 ≤ S.length) : prs es S ≠ [] := by
  match S, h with
  | a :: b :: r, _ => exact List.cons_ne_nil _ _
def lwN (es : List En) (S : List Nat) : Int := minL (prs es S)
theorem lwN_le {es : List En} {S : List Nat} {v : Int} (h : 2 ≤ S.length) : v ≤ lwN es S ↔ S.Pairwise fun a b => v ≤ wP es a b := by
  rw [prs_pw]
  constructor
  · intro k x hx; exact Int.le_trans k (minL_le _ x hx)
  · intro k; exact k _ (minL_mem _ (prs_ne h))
theorem prs_in {es : List En} {P : Int → Prop} (h : ∀ a b, P (wP es a b)) : ∀ (S : List Nat), ∀ x ∈ prs es S, P x
  | [], _, h => nomatch h
  | a :: r, x, hx => by
    rw [show prs es (a :: r) = (r.map fun b => wP es a b) ++ prs es r from rfl] at hx
    rcases List.mem_append.mp hx with hx | hx
    · obtain ⟨b, hb, rfl⟩ := List.mem_map.mp hx
      exact h a b
    · exact prs_in h r x hx
def EnB (es : List En) : Prop := ∀ e ∈ es, (-1000000 ≤ e.x ∧ e.x ≤ 1000000) ∧ (-1000000 ≤ e.y ∧ e.y ≤ 1000000) ∧ (0 ≤ e.s ∧ e.s ≤ 1000000) ∧ (0 ≤ e.l ∧ e.l ≤ 1000000)
theorem EnB.at {es : List En} (h : EnB es) (a : Nat) : (-1000000 ≤ (eAt es a).x ∧ (eAt es a).x ≤ 1000000) ∧ (-1000000 ≤ (eAt es a).y ∧ (eAt es a).y ≤ 1000000) ∧ (0 ≤ (eAt es a).s ∧ (eAt es a).s ≤ 1000000) ∧ (0 ≤ (eAt es a).l ∧ (eAt es a).l ≤ 1000000) := by
  by_cases c : a < es.length
  · exact h _ (List.mem_of_getElem? (eAt_get c))
  · have : eAt es a = ⟨0, 0, 0, 0⟩ := by unfold eAt; rw [List.getElem?_eq_none (by omega)]; rfl
    rw [this]; decide
theorem EnB.wP {es : List En} (h : EnB es) (a b : Nat) : 0 ≤ wP es a b ∧ wP es a b ≤ 6000000 := by
  have h1 := h.at a
  have h2 := h.at b
  unfold Wk.wP wI di
  omega
theorem EnB.lw {es : List En} (h : EnB es) {S : List Nat} (h2 : 2 ≤ S.length) : 0 ≤ lwN es S ∧ lwN es S ≤ 6000000 :=
  prs_in (P := fun x => 0 ≤ x ∧ x ≤ 6000000) h.wP S _ (minL_mem _ (prs_ne h2))
theorem pw_snoc {R : Nat → Nat → Prop} {l : List Nat} {x : Nat} : (l ++ [x]).Pairwise R ↔ l.Pairwise R ∧ ∀ a ∈ l, R a x := by
  rw [List.pairwise_append]
  constructor
  · rintro ⟨h1, _, h3⟩; exact ⟨h1, fun a ha => h3 a ha x (List.mem_singleton.mpr rfl)⟩
  · rintro ⟨h1, h2⟩; exact ⟨h1, List.pairwise_singleton _ _, fun a ha b hb => by rw [List.mem_singleton.mp hb]; exact h2 a ha⟩
end Wk

set_option Elab.async false
set_option linter.all false
set_option maxRecDepth 100000
namespace Wk
open PySem PySem.Spec L2 WkE
/-- knots folded: what each joint gets of its sides -/
def kfL {α : Type} (d : α) (f : α → α → α) (B0 : List α) (J : List (Nat × Nat)) : List α := J.foldl (fun B p => B ++ [f (B.getD p.1 d) (B.getD p.2 d)]) B0
def kf {α : Type} (d : α) (f : α → α → α) (B0 : List α) (J : List (Nat × Nat)) (k : Nat) : α := (kfL d f B0 J).getD k d
section
variable {α : Type} {d : α} {f : α → α → α} {B0 : List α} {J : List (Nat × Nat)} {p : Nat × Nat} {k : Nat}
theorem kfL_nil : kfL d f B0 [] = B0 := rfl
theorem kfL_snoc : kfL d f B0 (J ++ [p]) = kfL d f B0 J ++ [f (kf d f B0 J p.1) (kf d f B0 J p.2)] := by
  unfold kfL kf
  rw [List.foldl_append]; rfl
theorem kfL_length : (kfL d f B0 J).length = B0.length + J.length := by
  have : ∀ (J : List (Nat × Nat)) (B : List α), (J.foldl (fun B p => B ++ [f (B.getD p.1 d) (B.getD p.2 d)]) B).length = B.length + J.length := by
    intro J
    induction J with
    | nil => intro B; rfl
    | cons p J ih => intro B; rw [List.foldl_cons, ih, List.length_append, List.length_cons, List.length_cons, List.length_nil]; omega
  exact this J B0
theorem kf_snoc_lt (h : k < B0.length + J.length) : kf d f B0 (J ++ [p]) k = kf d f B0 J k := by
  unfold kf
  rw [kfL_snoc, List.getD_eq_getElem?_getD, List.getElem?_append_left (by rw [kfL_length]; exact h), ← List.getD_eq_getElem?_getD]
theorem kf_new : kf d f B0 (J ++ [p]) (B0.length + J.length) = f (kf d f B0 J p.1) (kf d f B0 J p.2) := by
  conv => lhs; unfold kf
  rw [kfL_snoc, List.getD_eq_getElem?_getD, List.getElem?_append_right (by rw [kfL_length]; exact Nat.le_refl _), kfL_length, Nat.sub_self]
  rfl
theorem kfL_get (h : k < B0.length + J.length) : (kfL d f B0 J)[k]? = some (kf d f B0 J k) := by
  unfold kf
  rw [List.getD_eq_getElem?_getD, List.getElem?_eq_getElem (by rw [kfL_length]; exact h)]; rfl
theorem kf_base : kf d f B0 [] k = B0.getD k d := rfl
/-- sides exchanged -/
theorem kfL_swap (hc : ∀ a b, f a b = f b a) : ∀ (n : Nat) (J : List (Nat × Nat)), J.length = n → kfL d f B0 (J.map sw) = kfL d f B0 J := by
  intro n
  induction n with
  | zero => intro J hJ; rw [List.length_eq_zero_iff.mp hJ]; rfl
  | succ n ih =>
    intro J hJ
    rcases List.eq_nil_or_concat J with rfl | ⟨J, p, rfl⟩
    · simp at hJ
    rw [List.concat_eq_append] at hJ ⊢
    have hn : J.length = n := by rw [List.length_append] at hJ; simpa using hJ
    have e := ih J hn
    rw [List.map_append]
    show kfL d f B0 (J.map sw ++ [sw p]) = _
    rw [kfL_snoc, kfL_snoc]
    unfold kf
    rw [e]
    show _ ++ [f ((kfL d f B0 J).getD p.2 d) ((kfL d f B0 J).getD p.1 d)] = _
    rw [hc]
/-- something that holds of all knots -/
theorem kf_all {P : α → Prop} {m : Nat} (hB : B0.length = m) (h0 : ∀ a ∈ B0, P a) (hf : ∀ a b, P a → P b → P (f a b)) : ∀ (n : Nat) (J : List (Nat × Nat)) (W : List Nat), J.length = n → Joins m J W → ∀ k, k < m + J.length → P (kf d f B0 J k) := by
  intro n
  induction n with
  | zero =>
    intro J W hJ _ k hk
    rw [List.length_eq_zero_iff.mp hJ] at hk ⊢
    rw [kf_base, List.getD_eq_getElem?_getD]
    have : k < B0.length := by rw [hB]; simpa using hk
    rw [List.getElem?_eq_getElem this]
    exact h0 _ (List.getElem_mem this)
  | succ n ih =>
    intro J W hJ hW k hk
    rcases List.eq_nil_or_concat J with rfl | ⟨J, p, rfl⟩
    · simp at hJ
    rw [List.concat_eq_append] at hJ hW hk ⊢
    have hn : J.length = n := by rw [List.length_append] at hJ; simpa using hJ
    obtain ⟨W', hw⟩ := joins_pre hW (pre := J) (suf := []) (x := p) rfl
    have hlow := hW.facts.low J.length p (by simp)
    by_cases c : k < m + J.length
    · rw [kf_snoc_lt (by rw [hB]; exact c)]
      exact ih J W' hn hw k c
    · have e : k = B0.length + J.length := by rw [List.length_append] at hk; simp at hk; omega
      rw [e, kf_new]
      exact hf _ _ (ih J W' hn hw _ hlow.1) (ih J W' hn hw _ hlow.2)
end
/-! ### one way: stretches -/
/-- a stretch and what the ends beneath cost -/
structure Sx where
  lo : Int
  hi : Int
  c : Int
def sJ (a b : Sx) : Sx := ⟨min (max a.lo b.lo) (min a.hi b.hi), max (max a.lo b.lo) (min a.hi b.hi), a.c + b.c + max 0 (max a.lo b.lo - min a.hi b.hi)⟩
theorem sJ_comm (a b : Sx) : sJ a b = sJ b a := by
  unfold sJ
  congr 1 <;> omega
abbrev sx0 : Sx := ⟨0, 0, 0⟩
def sxB (xs : List Int) : List Sx := xs.map fun x => ⟨x, x, 0⟩
theorem sxB_length {xs : List Int} : (sxB xs).length = xs.length := List.length_map _
abbrev sxL (xs : List Int) (J : List (Nat × Nat)) : List Sx := kfL sx0 sJ (sxB xs) J
abbrev sxA (xs : List Int) (J : List (Nat × Nat)) (k : Nat) : Sx := kf sx0 sJ (sxB xs) J k
/-- what all waiting knots cost -/
def totC (xs : List Int) (J : List (Nat × Nat)) : Int := (J.foldl (fun (s : List Sx × Int) p => (s.1 ++ [sJ (s.1.getD p.1 sx0) (s.1.getD p.2 sx0)], s.2 + max 0 (max (s.1.getD p.1 sx0).lo (s.1.getD p.2 sx0).lo - min (s.1.getD p.1 sx0).hi (s.1.getD p.2 sx0).hi))) (sxB xs, 0)).2
theorem totC_fst {xs : List Int} : ∀ (J : List (Nat × Nat)) (B : List Sx) (c : Int), (J.foldl (fun (s : List Sx × Int) p => (s.1 ++ [sJ (s.1.getD p.1 sx0) (s.1.getD p.2 sx0)], s.2 + max 0 (max (s.1.getD p.1 sx0).lo (s.1.getD p.2 sx0).lo - min (s.1.getD p.1 sx0).hi (s.1.getD p.2 sx0).hi))) (B, c)).1 = kfL sx0 sJ B J
  | [], _, _ => rfl
  | p :: J, B, c => by
    rw [List.foldl_cons, totC_fst (xs := xs) J]
    rfl
theorem totC_nil {xs : List Int} : totC xs [] = 0 := rfl
theorem totC_snoc {xs : List Int} {J : List (Nat × Nat)} {p : Nat × Nat} : totC xs (J ++ [p]) = totC xs J + max 0 (max (sxA xs J p.1).lo (sxA xs J p.2).lo - min (sxA xs J p.1).hi (sxA xs J p.2).hi) := by
  unfold totC
  rw [List.foldl_append]
  show _ + _ = _
  rw [totC_fst (xs := xs)]
  rfl
theorem totC_sum {xs : List Int} {J : List (Nat × Nat)} {W : List Nat} (h : Joins xs.length J W) : totC xs J = (W.map fun w => (sxA xs J w).c).sum := by
  induction h with
  | nil =>
    rw [totC_nil]
    have : ∀ l : List Nat, (l.map fun w => (sxA xs [] w).c).sum = 0 := by
      intro l
      induction l with
      | nil => rfl
      | cons a l ih =>
        rw [List.map_cons, List.sum_cons, ih, Int.add_zero]
        show ((sxB xs).getD a sx0).c = 0
        unfold sxB
        rw [List.getD_eq_getElem?_getD, List.getElem?_map]
        cases xs[a]? <;> rfl
    exact (this _).symm
  | @step J W W' W2 a b hW hp hq ih =>
    have F := hW.facts
    rw [totC_snoc, ih, sum_perm hp, sum_perm hq, List.map_cons, List.map_cons, List.map_cons, List.sum_cons, List.sum_cons, List.sum_cons]
    have e : (W'.map fun w => (sxA xs (J ++ [(a, b)]) w).c) = W'.map fun w => (sxA xs J w).c := List.map_congr_left fun w hw => by
      have := F.lt w (hp.mem_iff.mpr (by simp [hw]))
      exact congrArg Sx.c (kf_snoc_lt (by rw [sxB_length]; exact this))
    have e2 : sxA xs (J ++ [(a, b)]) (xs.length + J.length) = sJ (sxA xs J a) (sxA xs J b) := by
      have := kf_new (d := sx0) (f := sJ) (B0 := sxB xs) (J := J) (p := (a, b))
      rw [sxB_length] at this
      exact this
    rw [e, e2]
    show _ = (sJ (sxA xs J a) (sxA xs J b)).c + _
    unfold sJ
    dsimp only
    omega
theorem totC_root {xs : List Int} {J : List (Nat × Nat)} (h : Jng xs.length J) : totC xs J = (sxA xs J (xs.length + J.length - 1)).c := by
  rw [totC_sum h.root]; simp
theorem totC_swap {xs : List Int} {J : List (Nat × Nat)} (h : Jng xs.length J) (h2 : Jng xs.length (J.map sw)) : totC xs (J.map sw) = totC xs J := by
  rw [totC_root h, totC_root h2, List.length_map]
  unfold sxA kf
  rw [kfL_swap sJ_comm _ J rfl]
/-- the least cost with the knot at a place -/
def mF (s : Sx) (p : Int) : Int := s.c + max 0 (max (s.lo - p) (p - s.hi))
theorem mF_join {s t : Sx} {p : Int} (hs : s.lo ≤ s.hi) (ht : t.lo ≤ t.hi) : (∀ q, mF (sJ s t) p ≤ mF s q + mF t q + max (q - p) (-(q - p))) ∧ ∃ q, (q = p ∨ q = (sJ s t).lo ∨ q = (sJ s t).hi) ∧ mF s q + mF t q + max (q - p) (-(q - p)) = mF (sJ s t) p := by
  obtain ⟨a, b, c⟩ := s
  obtain ⟨a', b', c'⟩ := t
  have mx : ∀ x y : Int, x ≤ max x y ∧ y ≤ max x y ∧ (max x y = x ∨ max x y = y) := fun x y => by omega
  have mn : ∀ x y : Int, min x y ≤ x ∧ min x y ≤ y ∧ (min x y = x ∨ min x y = y) := fun x y => by omega
  have m3 : ∀ x y : Int, 0 ≤ max 0 (max x y) ∧ x ≤ max 0 (max x y) ∧ y ≤ max 0 (max x y) ∧ (max 0 (max x y) = 0 ∨ max 0 (max x y) = x ∨ max 0 (max x y) = y) := fun x y => by omega
  have ab : ∀ x : Int, x ≤ max x (-x) ∧ -x ≤ max x (-x) ∧ (max x (-x) = x ∨ max x (-x) = -x) := fun x => by omega
  unfold mF sJ
  dsimp only at *
  obtain ⟨l1, l2, l3⟩ := mx a a'
  obtain ⟨h1, h2, h3⟩ := mn b b'
  generalize max a a' = lo at *
  generalize min b b' = hi at *
  have hc : (min lo hi = lo ∧ max lo hi = hi ∧ max 0 (lo - hi) = 0 ∧ lo ≤ hi) ∨ (min lo hi = hi ∧ max lo hi = lo ∧ max 0 (lo - hi) = lo - hi ∧ hi < lo) := by omega
  constructor
  · intro q
    obtain ⟨u1, u2, u3, _⟩ := m3 (a - q) (q - b)
    obtain ⟨v1, v2, v3, _⟩ := m3 (a' - q) (q - b')
    obtain ⟨w1, w2, _⟩ := ab (q - p)
    generalize max 0 (max (a - q) (q - b)) = u at *
    generalize max 0 (max (a' - q) (q - b')) = v at *
    generalize max (q - p) (-(q - p)) = w at *
    rcases hc with ⟨e1, e2, e3, e4⟩ | ⟨e1, e2, e3, e4⟩
    · rw [e1, e2, e3]
      obtain ⟨_, _, _, n⟩ := m3 (lo - p) (p - hi)
      generalize max 0 (max (lo - p) (p - hi)) = N at *
      clear mx mn m3 ab e1 e2 e3
      rcases n with n | n | n <;> rcases l3 with l3 | l3 <;> rcases h3 with h3 | h3 <;> omega
    · rw [e1, e2, e3]
      obtain ⟨_, _, _, n⟩ := m3 (hi - p) (p - lo)
      generalize max 0 (max (hi - p) (p - lo)) = N at *
      clear mx mn m3 ab e1 e2 e3
      rcases n with n | n | n <;> rcases l3 with l3 | l3 <;> rcases h3 with h3 | h3 <;> omega
  · have key : ∀ q N : Int, (∃ L H : Int, min lo hi = L ∧ max lo hi = H ∧ L ≤ q ∧ q ≤ H) → max 0 (max (a - q) (q - b)) + max 0 (max (a' - q) (q - b')) = max 0 (lo - hi) := by
      rintro q N ⟨L, H, rfl, rfl, k1, k2⟩
      obtain ⟨u1, u2, u3, u4⟩ := m3 (a - q) (q - b)
      obtain ⟨v1, v2, v3, v4⟩ := m3 (a' - q) (q - b')
      generalize max 0 (max (a - q) (q - b)) = u at *
      generalize max 0 (max (a' - q) (q - b')) = v at *
      rcases hc with ⟨e1, e2, e3, e4⟩ | ⟨e1, e2, e3, e4⟩
      · rw [e3]; rw [e1] at k1; rw [e2] at k2
        clear mx mn m3 ab e1 e2 e3
        rcases u4 with u4 | u4 | u4 <;> rcases v4 with v4 | v4 | v4 <;> omega
      · rw [e3]; rw [e1] at k1; rw [e2] at k2
        clear mx mn m3 ab e1 e2 e3
        rcases l3 with l3 | l3 <;> rcases h3 with h3 | h3 <;> rcases u4 with u4 | u4 | u4 <;> rcases v4 with v4 | v4 | v4 <;> omega
    have lh : min lo hi ≤ max lo hi := by omega
    generalize eL : min lo hi = L at *
    generalize eH : max lo hi = H at *
    by_cases c1 : p < L
    · refine ⟨L, .inr (.inl rfl), ?_⟩
      have := key L 0 ⟨L, H, rfl, rfl, Int.le_refl _, lh⟩
      have e5 : max 0 (max (L - p) (p - H)) = L - p := by omega
      have e6 : max (L - p) (-(L - p)) = L - p := by omega
      rw [e5, e6]; omega
    · by_cases c2 : H < p
      · refine ⟨H, .inr (.inr rfl), ?_⟩
        have := key H 0 ⟨L, H, rfl, rfl, lh, Int.le_refl _⟩
        have e5 : max 0 (max (L - p) (p - H)) = p - H := by omega
        have e6 : max (H - p) (-(H - p)) = p - H := by omega
        rw [e5, e6]; omega
      · refine ⟨p, .inl rfl, ?_⟩
        have := key p 0 ⟨L, H, rfl, rfl, by omega, by omega⟩
        have e5 : max 0 (max (L - p) (p - H)) = 0 := by omega
        have e6 : max (p - p) (-(p - p)) = 0 := by omega
        rw [e5, e6]; omega
theorem sJ_le {s t : Sx} : (sJ s t).lo ≤ (sJ s t).hi := by
  unfold sJ
  dsimp only
  omega
theorem sJ_ends {s t : Sx} {S : List Int} (hs : s.lo ∈ S ∧ s.hi ∈ S) (ht : t.lo ∈ S ∧ t.hi ∈ S) : (sJ s t).lo ∈ S ∧ (sJ s t).hi ∈ S := by
  have mx : ∀ {a b : Int}, a ∈ S → b ∈ S → max a b ∈ S := fun {a b} ha hb => by rcases Int.le_total a b with h | h <;> simp [Int.max_def] <;> split <;> assumption
  have mn : ∀ {a b : Int}, a ∈ S → b ∈ S → min a b ∈ S := fun {a b} ha hb => by rcases Int.le_total a b with h | h <;> simp [Int.min_def] <;> split <;> assumption
  exact ⟨mn (mx hs.1 ht.1) (mn hs.2 ht.2), mx (mx hs.1 ht.1) (mn hs.2 ht.2)⟩
end Wk
namespace Wk
open PySem PySem.Spec L2 WkE
theorem zip_map2 {α β γ δ' : Type} {S : List α} {f : α → β} {g : α → γ} {F : β × γ → δ'} : ((S.map f).zip (S.map g)).map F = S.map fun q => F (f q, g q) := by
  induction S with
  | nil => rfl
  | cons a S ih => rw [List.map_cons, List.map_cons, List.zip_cons_cons, List.map_cons, List.map_cons, ih]
/-- a stretch of places, its ends among them -/
def SxIn (S : List Int) (s : Sx) : Prop := s.lo ∈ S ∧ s.hi ∈ S ∧ s.lo ≤ s.hi
theorem SxIn.join {S : List Int} {s t : Sx} (hs : SxIn S s) (ht : SxIn S t) : SxIn S (sJ s t) := by
  obtain ⟨h1, h2⟩ := sJ_ends ⟨hs.1, hs.2.1⟩ ⟨ht.1, ht.2.1⟩
  exact ⟨h1, h2, sJ_le⟩
theorem SxIn.all {S xs : List Int} {J : List (Nat × Nat)} {W : List Nat} (hS : ∀ x ∈ xs, x ∈ S) (hJ : Joins xs.length J W) {k : Nat} (hk : k < xs.length + J.length) : SxIn S (sxA xs J k) :=
  kf_all (P := SxIn S) sxB_length (fun a ha => by
    obtain ⟨x, hx, rfl⟩ := List.mem_map.mp ha
    exact ⟨hS x hx, hS x hx, Int.le_refl _⟩) (fun a b => SxIn.join) _ J W rfl hJ k hk
theorem mF_least {S : List Int} {s t : Sx} {p : Int} (hs : SxIn S s) (ht : SxIn S t) (hp : p ∈ S) : minL (S.map fun q => mF s q + mF t q + max (q - p) (-(q - p))) = mF (sJ s t) p := by
  obtain ⟨h1, q, hq, e⟩ := mF_join (p := p) hs.2.2 ht.2.2
  have hj := hs.join ht
  refine (minL_uniq ?_ ?_).symm
  · refine List.mem_map.mpr ⟨q, ?_, e⟩
    rcases hq with rfl | rfl | rfl
    · exact hp
    · exact hj.1
    · exact hj.2.1
  · intro x hx
    obtain ⟨z, _, rfl⟩ := List.mem_map.mp hx
    exact h1 z
theorem mF_root {S : List Int} {s : Sx} (hs : SxIn S s) : minL (S.map (mF s)) = s.c := by
  have h3 := hs.2.2
  refine (minL_uniq ?_ ?_).symm
  · refine List.mem_map.mpr ⟨s.lo, hs.1, ?_⟩
    unfold mF; omega
  · intro x hx
    obtain ⟨z, _, rfl⟩ := List.mem_map.mp hx
    unfold mF; omega
theorem mF_end {x q : Int} : mF ⟨x, x, 0⟩ q = max (q - x) (-(q - x)) := by
  unfold mF; dsimp only; omega
/-- the least costs of some stretches, place by place -/
def BZ (S : List Int) (L : List Sx) : List (List Int) := L.map fun s => S.map (mF s)
theorem BZ_append {S : List Int} {L M : List Sx} : BZ S (L ++ M) = BZ S L ++ BZ S M := List.map_append
/-- lists of numbers, each by itself -/
def SegZ (B : List (List Int)) (As : List Addr) (ν : Mu) : Prop := As.length = B.length ∧ ∀ (i : Nat) (a : Addr) (L : List Int), As[i]? = some a → B[i]? = some L → (a, M.lst (L.map D.int)) ∈ ν
theorem SegZ.nil : SegZ [] [] [] := ⟨rfl, fun i a L h => by simp at h⟩
theorem SegZ.snoc {B : List (List Int)} {As : List Addr} {ν : Mu} (h : SegZ B As ν) (a : Addr) (L : List Int) : SegZ (B ++ [L]) (As ++ [a]) ((a, M.lst (L.map D.int)) :: ν) := by
  obtain ⟨h1, h2⟩ := h
  refine ⟨by rw [List.length_append, List.length_append, h1]; rfl, fun i b M hb hM => ?_⟩
  by_cases c : i < As.length
  · rw [List.getElem?_append_left c] at hb
    rw [List.getElem?_append_left (by rw [← h1]; exact c)] at hM
    exact List.mem_cons_of_mem _ (h2 i b M hb hM)
  · rw [List.getElem?_append_right (by omega)] at hb
    rw [List.getElem?_append_right (by omega)] at hM
    have e : i - As.length = 0 := by
      have := (List.getElem?_eq_some_iff.mp hb).1
      simp at this; omega
    rw [← h1, e] at hM
    rw [e] at hb
    cases hb; cases hM
    exact List.mem_cons_self
end Wk
namespace Wk
open PySem PySem.Spec L2 WkE
theorem zip_map1 {α β δ' : Type} {S : List α} {f : α → β} {F : β × α → δ'} : ((S.map f).zip S).map F = S.map fun q => F (f q, q) := by
  induction S with
  | nil => rfl
  | cons a S ih => rw [List.map_cons, List.zip_cons_cons, List.map_cons, List.map_cons, ih]
theorem BZ_get {S : List Int} {xs : List Int} {J : List (Nat × Nat)} {k : Nat} (h : k < xs.length + J.length) : (BZ S (sxL xs J))[k]? = some (S.map (mF (sxA xs J k))) := by
  unfold BZ
  rw [List.getElem?_map, show (sxL xs J)[k]? = some (sxA xs J k) from kfL_get (by rw [sxB_length]; exact h)]; rfl
theorem BZ_len {S : List Int} {xs : List Int} {J : List (Nat × Nat)} : (BZ S (sxL xs J)).length = xs.length + J.length := by
  unfold BZ
  rw [List.length_map, kfL_length, sxB_length]
theorem SegZ.get {B : List (List Int)} {As : List Addr} {ν μ : Mu} {k : Nat} {L : List Int} (h : SegZ B As ν) (hk : B[k]? = some L) : ∃ a, As[k]? = some a ∧ Lk (L.map D.int) (ν ++ μ) a := by
  have hlt := (List.getElem?_eq_some_iff.mp hk).1
  have g := List.getElem?_eq_getElem (l := As) (i := k) (by rw [h.1]; exact hlt)
  exact ⟨_, g, Lk.of_mem (h.2 _ _ _ g hk)⟩
end Wk

set_option Elab.async false
set_option linter.all false
set_option maxRecDepth 100000
namespace Wk
open PySem PySem.Spec L2 WkE
/-! ### settled places -/
def clampS (s : Sx) (n : Int) : Int := max s.lo (min s.hi n)
theorem clampS_in {s : Sx} {n : Int} (h : s.lo ≤ s.hi) : s.lo ≤ clampS s n ∧ clampS s n ≤ s.hi := by unfold clampS; omega
def updF (f : Nat → Option Int) (k : Nat) (v : Int) : Nat → Option Int := fun j => if k = j then some v else f j
theorem updF_same {f : Nat → Option Int} {k : Nat} {v : Int} : updF f k v k = some v := if_pos rfl
theorem updF_ne {f : Nat → Option Int} {k j : Nat} {v : Int} (h : k ≠ j) : updF f k v j = f j := if_neg h
/-- places settled from above down to a row -/
def PosF (xs : List Int) (J : List (Nat × Nat)) (r : Nat) (f : Nat → Option Int) : Prop := f (xs.length + J.length - 1) = some (sxA xs J (xs.length + J.length - 1)).lo ∧ ∀ i x, r ≤ i → J[i]? = some x →
  ∃ w, f (xs.length + i) = some w ∧ f x.1 = some (clampS (sxA xs J x.1) w) ∧ f x.2 = some (clampS (sxA xs J x.2) w)
section
variable {xs : List Int} {J : List (Nat × Nat)}
theorem PosF.start {f : Nat → Option Int} (h : f (xs.length + J.length - 1) = some (sxA xs J (xs.length + J.length - 1)).lo) : PosF xs J J.length f := ⟨h, fun i x hi hx => by have := (List.getElem?_eq_some_iff.mp hx).1; omega⟩
theorem PosF.has {r : Nat} {f : Nat → Option Int} (hJ : Jng xs.length J) (h : PosF xs J (r + 1) f) (hr : r < J.length) : ∃ w, f (xs.length + r) = some w := by
  have hl := hJ.1
  by_cases c : xs.length + r = xs.length + J.length - 1
  · exact ⟨_, by rw [c]; exact h.1⟩
  have : ∃ (i : Nat) (x : Nat × Nat), J[i]? = some x ∧ (x.1 = xs.length + r ∨ x.2 = xs.length + r) := by
    refine Classical.byContradiction fun c2 => c ?_
    exact hJ.facts.top (by omega) fun i x hx => ⟨fun e => c2 ⟨i, x, hx, .inl e⟩, fun e => c2 ⟨i, x, hx, .inr e⟩⟩
  obtain ⟨i, x, hx, hs⟩ := this
  have hlow := hJ.facts.low i x hx
  obtain ⟨w, _, h1, h2⟩ := h.2 i x (by omega) hx
  rcases hs with e | e
  · exact ⟨_, by rw [← e]; exact h1⟩
  · exact ⟨_, by rw [← e]; exact h2⟩
theorem PosF.step {r : Nat} {f : Nat → Option Int} {x : Nat × Nat} {w : Int} (hJ : Jng xs.length J) (h : PosF xs J (r + 1) f) (hx : J[r]? = some x) (hw : f (xs.length + r) = some w) :
    PosF xs J r (updF (updF f x.1 (clampS (sxA xs J x.1) w)) x.2 (clampS (sxA xs J x.2) w)) := by
  have F := hJ.facts
  have hlow := F.low r x hx
  have hr := (List.getElem?_eq_some_iff.mp hx).1
  have keep : ∀ k, x.1 ≠ k → x.2 ≠ k → updF (updF f x.1 (clampS (sxA xs J x.1) w)) x.2 (clampS (sxA xs J x.2) w) k = f k := fun k h1 h2 => by rw [updF_ne h2, updF_ne h1]
  refine ⟨by rw [keep _ (by omega) (by omega)]; exact h.1, fun i y hi hy => ?_⟩
  have hlowy := F.low i y hy
  by_cases c : i = r
  · subst c
    cases hx.symm.trans hy
    refine ⟨w, by rw [keep _ (by omega) (by omega)]; exact hw, ?_, updF_same⟩
    have ne : x.1 ≠ x.2 := fun e => by
      have nd := F.sides.nodup_iff.mpr List.nodup_range
      have nd2 := (List.nodup_append.mp nd).2.1
      have := (List.pairwise_flatMap.mp nd2).1 x (List.mem_of_getElem? hx)
      have := (List.pairwise_cons.mp this).1 x.2 (by simp)
      exact this e
    rw [updF_ne (Ne.symm ne), updF_same]
  · obtain ⟨v, k1, k2, k3⟩ := h.2 i y (by omega) hy
    have off : ∀ s, (y.1 = s ∨ y.2 = s) → x.1 ≠ s ∧ x.2 ≠ s := fun s hs => ⟨fun e => c (F.uniq hy hx hs (.inl e)), fun e => c (F.uniq hy hx hs (.inr e))⟩
    have o1 := off _ (.inl rfl)
    have o2 := off _ (.inr rfl)
    exact ⟨v, by rw [keep _ (by omega) (by omega)]; exact k1, by rw [keep _ o1.1 o1.2]; exact k2, by rw [keep _ o2.1 o2.2]; exact k3⟩
theorem PosF.up {f : Nat → Option Int} (hJ : Jng xs.length J) (h : PosF xs J 0 f) {k : Nat} (hk : k + 1 < xs.length + J.length) : ∃ (i : Nat) (x : Nat × Nat) (w : Int), J[i]? = some x ∧ (x.1 = k ∨ x.2 = k) ∧ k < xs.length + i ∧ f (xs.length + i) = some w ∧ f k = some (clampS (sxA xs J k) w) := by
  have : ∃ (i : Nat) (x : Nat × Nat), J[i]? = some x ∧ (x.1 = k ∨ x.2 = k) := by
    refine Classical.byContradiction fun c2 => ?_
    have := hJ.facts.top (k := k) (by omega) fun i x hx => ⟨fun e => c2 ⟨i, x, hx, .inl e⟩, fun e => c2 ⟨i, x, hx, .inr e⟩⟩
    omega
  obtain ⟨i, x, hx, hs⟩ := this
  have hlow := hJ.facts.low i x hx
  obtain ⟨w, h0, h1, h2⟩ := h.2 i x (Nat.zero_le _) hx
  refine ⟨i, x, w, hx, hs, by rcases hs with rfl | rfl <;> omega, h0, ?_⟩
  rcases hs with rfl | rfl
  · exact h1
  · exact h2
theorem PosF.uniq {f g : Nat → Option Int} (hJ : Jng xs.length J) (hf : PosF xs J 0 f) (hg : PosF xs J 0 g) : ∀ (n k : Nat), xs.length + J.length - k ≤ n → k < xs.length + J.length → f k = g k ∧ ∃ v, f k = some v := by
  intro n
  induction n with
  | zero => intro k h1 h2; omega
  | succ n ih =>
    intro k h1 h2
    by_cases c : k + 1 < xs.length + J.length
    · obtain ⟨i, x, w, hx, hs, hlt, e1, e2⟩ := hf.up hJ c
      obtain ⟨i2, x2, w2, hx2, hs2, hlt2, e3, e4⟩ := hg.up hJ c
      obtain rfl := hJ.facts.uniq hx hx2 hs hs2
      have hi := (List.getElem?_eq_some_iff.mp hx).1
      have := (ih (xs.length + i) (by omega) (by omega)).1
      rw [e1, e3] at this
      cases this
      exact ⟨by rw [e2, e4], _, e2⟩
    · obtain rfl : k = xs.length + J.length - 1 := by omega
      exact ⟨by rw [hf.1, hg.1], _, hf.1⟩
end
/-- a list of settled places -/
def PosL (xs : List Int) (J : List (Nat × Nat)) (W : List Int) : Prop := W.length = xs.length + J.length ∧ PosF xs J 0 fun k => W[k]?
theorem PosL.uniq {xs : List Int} {J : List (Nat × Nat)} {V W : List Int} (hJ : Jng xs.length J) (h1 : PosL xs J V) (h2 : PosL xs J W) : V = W := by
  apply List.ext_getElem?
  intro k
  by_cases c : k < xs.length + J.length
  · exact (h1.2.uniq hJ h2.2 _ k (Nat.le_refl _) c).1
  · rw [List.getElem?_eq_none (by rw [h1.1]; omega), List.getElem?_eq_none (by rw [h2.1]; omega)]
noncomputable def posL (xs : List Int) (J : List (Nat × Nat)) : List Int := open Classical in if h : ∃ W, PosL xs J W then Classical.choose h else []
theorem PosL.posL {xs : List Int} {J : List (Nat × Nat)} {V : List Int} (hJ : Jng xs.length J) (h : PosL xs J V) : V = posL xs J := by
  have hx : ∃ W, PosL xs J W := ⟨V, h⟩
  unfold Wk.posL
  rw [dif_pos hx]
  exact h.uniq hJ (Classical.choose_spec hx)
theorem sx_key {s t : Sx} {q : Int} (h1 : (sJ s t).lo ≤ q) (h2 : q ≤ (sJ s t).hi) (hs : s.lo ≤ s.hi) (ht : t.lo ≤ t.hi) :
    max 0 (max (s.lo - q) (q - s.hi)) + max 0 (max (t.lo - q) (q - t.hi)) = max 0 (max s.lo t.lo - min s.hi t.hi) := by
  obtain ⟨a, b, c⟩ := s
  obtain ⟨a', b', c'⟩ := t
  have mx : ∀ x y : Int, x ≤ max x y ∧ y ≤ max x y ∧ (max x y = x ∨ max x y = y) := fun x y => by omega
  have mn : ∀ x y : Int, min x y ≤ x ∧ min x y ≤ y ∧ (min x y = x ∨ min x y = y) := fun x y => by omega
  have m3 : ∀ x y : Int, 0 ≤ max 0 (max x y) ∧ x ≤ max 0 (max x y) ∧ y ≤ max 0 (max x y) ∧ (max 0 (max x y) = 0 ∨ max 0 (max x y) = x ∨ max 0 (max x y) = y) := fun x y => by omega
  unfold sJ at h1 h2
  dsimp only at *
  obtain ⟨l1, l2, l3⟩ := mx a a'
  obtain ⟨k1, k2, k3⟩ := mn b b'
  generalize max a a' = lo at *
  generalize min b b' = hi at *
  obtain ⟨u1, u2, u3, u4⟩ := m3 (a - q) (q - b)
  obtain ⟨v1, v2, v3, v4⟩ := m3 (a' - q) (q - b')
  generalize max 0 (max (a - q) (q - b)) = u at *
  generalize max 0 (max (a' - q) (q - b')) = v at *
  have hc : (min lo hi = lo ∧ max lo hi = hi ∧ max 0 (lo - hi) = 0 ∧ lo ≤ hi) ∨ (min lo hi = hi ∧ max lo hi = lo ∧ max 0 (lo - hi) = lo - hi ∧ hi < lo) := by omega
  rcases hc with ⟨e1, e2, e3, e4⟩ | ⟨e1, e2, e3, e4⟩
  · rw [e3]; rw [e1] at h1; rw [e2] at h2
    clear mx mn m3 e1 e2 e3
    rcases u4 with u4 | u4 | u4 <;> rcases v4 with v4 | v4 | v4 <;> omega
  · rw [e3]; rw [e1] at h1; rw [e2] at h2
    clear mx mn m3 e1 e2 e3
    rcases l3 with l3 | l3 <;> rcases k3 with k3 | k3 <;> rcases u4 with u4 | u4 | u4 <;> rcases v4 with v4 | v4 | v4 <;> omega
theorem clampS_far {s : Sx} {w : Int} (h : s.lo ≤ s.hi) : max (clampS s w - w) (-(clampS s w - w)) = max 0 (max (s.lo - w) (w - s.hi)) := by unfold clampS; omega
section
variable {α : Type} {d : α} {f : α → α → α} {B0 : List α}
theorem kf_pre {k : Nat} : ∀ {suf pre : List (Nat × Nat)}, k < B0.length + pre.length → kf d f B0 (pre ++ suf) k = kf d f B0 pre k
  | [], pre, _ => by rw [List.append_nil]
  | x :: suf, pre, h => by
    rw [show pre ++ x :: suf = (pre ++ [x]) ++ suf by simp, kf_pre (suf := suf) (pre := pre ++ [x]) (by rw [List.length_append]; omega), kf_snoc_lt h]
theorem kf_joint {k : Nat} {J : List (Nat × Nat)} {x : Nat × Nat} (h : J[k]? = some x) (hl : x.1 < B0.length + k ∧ x.2 < B0.length + k) : kf d f B0 J (B0.length + k) = f (kf d f B0 J x.1) (kf d f B0 J x.2) := by
  obtain ⟨hk, e⟩ := List.getElem?_eq_some_iff.mp h
  have hs : J = (J.take k ++ [x]) ++ J.drop (k + 1) := by
    rw [← e, List.append_assoc]
    show J = J.take k ++ J[k] :: J.drop (k + 1)
    rw [← List.drop_eq_getElem_cons hk, List.take_append_drop]
  have ht : (J.take k).length = k := by rw [List.length_take]; omega
  generalize J.take k = pre at *
  generalize J.drop (k + 1) = suf at *
  subst hs
  have hl1 : (pre ++ [x]).length = k + 1 := by rw [List.length_append, ht]; rfl
  rw [kf_pre (by omega), kf_pre (k := x.1) (by omega), kf_pre (k := x.2) (by omega), kf_snoc_lt (k := x.1) (by omega), kf_snoc_lt (k := x.2) (by omega)]
  have := kf_new (d := d) (f := f) (B0 := B0) (J := pre) (p := x)
  rwa [ht] at this
end
/-- the knot above -/
def parN (m : Nat) (J : List (Nat × Nat)) (k : Nat) : Nat := (chn m J k).getD 1 0
theorem parN_get {m i k : Nat} {J : List (Nat × Nat)} {x : Nat × Nat} (hJ : Jng m J) (hx : J[i]? = some x) (hs : x.1 = k ∨ x.2 = k) : (chn m J k)[1]? = some (m + i) ∧ parN m J k = m + i := by
  have hi := (List.getElem?_eq_some_iff.mp hx).1
  have e : (chn m J k)[1]? = some (m + i) := by
    rw [hJ.facts.chn_step hx hs]
    exact chn_head (by omega)
  exact ⟨e, by unfold parN; rw [List.getD_eq_getElem?_getD, e]; rfl⟩
/-- how far a knot is from the one above -/
def wayW (W : List Int) (m : Nat) (J : List (Nat × Nat)) (k : Nat) : Int := max (W.getD k 0 - W.getD (parN m J k) 0) (-(W.getD k 0 - W.getD (parN m J k) 0))
def moreX (xs : List Int) (J : List (Nat × Nat)) (x : Nat × Nat) : Int := max 0 (max (sxA xs J x.1).lo (sxA xs J x.2).lo - min (sxA xs J x.1).hi (sxA xs J x.2).hi)
theorem totC_rows {xs : List Int} {J : List (Nat × Nat)} {W : List Nat} (hJ : Joins xs.length J W) : ∀ (suf pre : List (Nat × Nat)), J = pre ++ suf → totC xs pre = (pre.map (moreX xs J)).sum := by
  have F := hJ.facts
  intro suf pre e
  have : ∀ (n : Nat) (pre suf : List (Nat × Nat)), pre.length = n → J = pre ++ suf → totC xs pre = (pre.map (moreX xs J)).sum := by
    intro n
    induction n with
    | zero =>
      intro pre suf hl e
      rw [List.length_eq_zero_iff.mp hl]; rfl
    | succ n ih =>
      intro pre suf hl e
      rcases List.eq_nil_or_concat pre with rfl | ⟨pre, x, rfl⟩
      · simp at hl
      rw [List.concat_eq_append] at hl e ⊢
      have hn : pre.length = n := by rw [List.length_append] at hl; simpa using hl
      have hx : J[pre.length]? = some x := by rw [e]; simp
      have hlow := F.low _ x hx
      rw [totC_snoc, ih pre ([x] ++ suf) hn (by rw [e]; simp), List.map_append, List.sum_append]
      congr 1
      have k1 : sxA xs J x.1 = sxA xs pre x.1 := by
        show kf _ _ _ _ _ = kf _ _ _ _ _
        rw [e, List.append_assoc]
        exact kf_pre (by rw [sxB_length]; exact hlow.1)
      have k2 : sxA xs J x.2 = sxA xs pre x.2 := by
        show kf _ _ _ _ _ = kf _ _ _ _ _
        rw [e, List.append_assoc]
        exact kf_pre (by rw [sxB_length]; exact hlow.2)
      show _ = moreX xs J x + 0
      unfold moreX
      rw [k1, k2, Int.add_zero]
  exact this _ pre suf rfl e
theorem sum_flat {f : Nat → Int} : ∀ J : List (Nat × Nat), ((J.flatMap fun p => [p.1, p.2]).map f).sum = (J.map fun p => f p.1 + f p.2).sum
  | [] => rfl
  | x :: J => by
    rw [List.flatMap_cons, List.map_append, List.sum_append, sum_flat J, List.map_cons, List.sum_cons]
    simp only [List.map_cons, List.map_nil, List.sum_cons, List.sum_nil, Int.add_zero]
theorem sxA_leW {xs : List Int} {J : List (Nat × Nat)} {W : List Nat} (hJ : Joins xs.length J W) {k : Nat} (hk : k < xs.length + J.length) : (sxA xs J k).lo ≤ (sxA xs J k).hi :=
  kf_all (P := fun s : Sx => s.lo ≤ s.hi) sxB_length (fun a ha => by
    obtain ⟨x, _, rfl⟩ := List.mem_map.mp ha
    exact Int.le_refl _) (fun a b _ _ => sJ_le) _ J _ rfl hJ k hk
theorem sxA_le {xs : List Int} {J : List (Nat × Nat)} (hJ : Jng xs.length J) {k : Nat} (hk : k < xs.length + J.length) : (sxA xs J k).lo ≤ (sxA xs J k).hi :=
  kf_all (P := fun s : Sx => s.lo ≤ s.hi) sxB_length (fun a ha => by
    obtain ⟨x, _, rfl⟩ := List.mem_map.mp ha
    exact Int.le_refl _) (fun a b _ _ => sJ_le) _ J _ rfl hJ.root k hk
/-- a settled place is in its stretch -/
theorem PosL.in {xs : List Int} {J : List (Nat × Nat)} {W : List Int} (hJ : Jng xs.length J) (h : PosL xs J W) {k : Nat} (hk : k < xs.length + J.length) : ∃ w, W[k]? = some w ∧ (sxA xs J k).lo ≤ w ∧ w ≤ (sxA xs J k).hi := by
  have hle := sxA_le hJ hk
  by_cases c : k + 1 < xs.length + J.length
  · obtain ⟨i, x, w, _, _, _, _, e2⟩ := h.2.up hJ c
    exact ⟨_, e2, clampS_in hle⟩
  · obtain rfl : k = xs.length + J.length - 1 := by omega
    exact ⟨_, h.2.1, Int.le_refl _, hle⟩
theorem PosL.row {xs : List Int} {J : List (Nat × Nat)} {W : List Int} {i : Nat} {x : Nat × Nat} (hJ : Jng xs.length J) (h : PosL xs J W) (hx : J[i]? = some x) : wayW W xs.length J x.1 + wayW W xs.length J x.2 = moreX xs J x := by
  have hi := (List.getElem?_eq_some_iff.mp hx).1
  have hlow := hJ.facts.low i x hx
  obtain ⟨w, e0, e1, e2⟩ := h.2.2 i x (Nat.zero_le _) hx
  obtain ⟨w', e3, b1, b2⟩ := h.in hJ (k := xs.length + i) (by omega)
  have e0' : W[xs.length + i]? = some w := e0
  rw [e0'] at e3
  cases e3
  have ej : sxA xs J (xs.length + i) = sJ (sxA xs J x.1) (sxA xs J x.2) := by
    have := kf_joint (d := sx0) (f := sJ) (B0 := sxB xs) hx (by rw [sxB_length]; exact hlow)
    rw [sxB_length] at this
    exact this
  rw [ej] at b1 b2
  have g : ∀ {k : Nat} {v : Int}, W[k]? = some v → W.getD k 0 = v := fun h => by rw [List.getD_eq_getElem?_getD, h]; rfl
  have f1 := sxA_le hJ (k := x.1) (by omega)
  have f2 := sxA_le hJ (k := x.2) (by omega)
  unfold wayW moreX
  rw [(parN_get hJ hx (.inl rfl)).2, (parN_get hJ hx (.inr rfl)).2, g e0', g e1, g e2, clampS_far f1, clampS_far f2]
  exact sx_key b1 b2 f1 f2
theorem PosL.sum {xs : List Int} {J : List (Nat × Nat)} {W : List Int} (hJ : Jng xs.length J) (h : PosL xs J W) : sumN (xs.length + J.length - 1) (wayW W xs.length J) = totC xs J := by
  have F := hJ.facts
  have hl := hJ.1
  obtain ⟨n, hn⟩ : ∃ n, xs.length + J.length = n + 1 := ⟨xs.length + J.length - 1, by omega⟩
  have hp := F.sides
  rw [hn] at hp
  have h1 := sum_perm (f := wayW W xs.length J) hp
  rw [List.map_append, List.sum_append, sum_flat] at h1
  have h2 : (J.map fun p => wayW W xs.length J p.1 + wayW W xs.length J p.2) = J.map (moreX xs J) := List.map_congr_left fun x hx => by
    obtain ⟨i, hi⟩ := List.getElem?_of_mem hx
    exact h.row hJ hi
  rw [h2, ← totC_rows hJ.root [] J (by simp)] at h1
  have h3 : ((List.range (n + 1)).map (wayW W xs.length J)).sum = sumN n (wayW W xs.length J) + wayW W xs.length J n := sumN_succ
  rw [h3, show n + 1 - 1 = n by omega] at h1
  rw [hn, show n + 1 - 1 = n by omega]
  simp only [List.map_cons, List.map_nil, List.sum_cons, List.sum_nil] at h1
  omega
/-- a settled place is bounded as the numbers are -/
theorem PosL.bnd {xs : List Int} {J : List (Nat × Nat)} {W : List Int} (hJ : Jng xs.length J) (h : PosL xs J W) {B : Int} (hB : ∀ x ∈ xs, -B ≤ x ∧ x ≤ B) {k : Nat} (hk : k < xs.length + J.length) : ∃ w, W[k]? = some w ∧ -B ≤ w ∧ w ≤ B := by
  obtain ⟨w, e, b1, b2⟩ := h.in hJ hk
  have := kf_all (d := sx0) (f := sJ) (B0 := sxB xs) (P := fun s : Sx => -B ≤ s.lo ∧ s.hi ≤ B ∧ s.lo ≤ s.hi) sxB_length (fun a ha => by
    obtain ⟨x, hx, rfl⟩ := List.mem_map.mp ha
    exact ⟨(hB x hx).1, (hB x hx).2, Int.le_refl _⟩) (fun a b h1 h2 => by
    obtain ⟨p1, p2, p3⟩ := h1
    obtain ⟨q1, q2, q3⟩ := h2
    unfold sJ
    dsimp only
    refine ⟨?_, ?_, ?_⟩ <;> omega) _ J _ rfl hJ.root k hk
  exact ⟨w, e, Int.le_trans this.1 b1, Int.le_trans b2 this.2.1⟩
end Wk
namespace Wk
open PySem PySem.Spec L2 WkE
theorem set_updF {W : List Int} {k : Nat} {v : Int} (h : k < W.length) : (fun j => (W.set k v)[j]?) = updF (fun j => W[j]?) k v := by
  funext j
  unfold updF
  rw [List.getElem?_set]
  by_cases c : k = j
  · subst c; rw [if_pos rfl, if_pos rfl, if_pos h]
  · rw [if_neg c, if_neg c]
/-- the told free tree -/
def freeSp (xs ys : List Int) : List (Int × Int) := (xs.zip ys).map fun z => (z.1 + z.2, z.1 - z.2)
def freeLn (xs ys : List Int) (m : Nat) (J : List (Nat × Nat)) : List Int := (List.range (m + J.length - 1)).map fun k => wayW xs m J k + wayW ys m J k
theorem zip_at {xs ys : List Int} {k : Nat} {x y : Int} (hx : xs[k]? = some x) (hy : ys[k]? = some y) : (freeSp xs ys)[k]? = some (x + y, x - y) := by
  unfold freeSp
  obtain ⟨h1, rfl⟩ := List.getElem?_eq_some_iff.mp hx
  obtain ⟨h2, rfl⟩ := List.getElem?_eq_some_iff.mp hy
  rw [List.getElem?_map, List.getElem?_eq_getElem (l := xs.zip ys) (by rw [List.length_zip]; omega), List.getElem_zip]; rfl
/-- slanted, the greater one of both: both together -/
theorem far_way (a b c d : Int) : max (max (a + b - (c + d)) (-(a + b - (c + d)))) (max (a - b - (c - d)) (-(a - b - (c - d)))) = max (a - c) (-(a - c)) + max (b - d) (-(b - d)) := by omega
theorem parN_at {m k : Nat} {J : List (Nat × Nat)} (hJ : Jng m J) (hk : k + 1 < m + J.length) : (chn m J k)[1]? = some (parN m J k) ∧ parN m J k < m + J.length := by
  have : ∃ (i : Nat) (x : Nat × Nat), J[i]? = some x ∧ (x.1 = k ∨ x.2 = k) := by
    refine Classical.byContradiction fun c2 => ?_
    have := hJ.facts.top (k := k) (by omega) fun i x hx => ⟨fun e => c2 ⟨i, x, hx, .inl e⟩, fun e => c2 ⟨i, x, hx, .inr e⟩⟩
    omega
  obtain ⟨i, x, hx, hs⟩ := this
  have hi := (List.getElem?_eq_some_iff.mp hx).1
  obtain ⟨h1, h2⟩ := parN_get hJ hx hs
  exact ⟨by rw [h2]; exact h1, by rw [h2]; omega⟩
theorem getD_at {W : List Int} {k : Nat} (h : k < W.length) : W[k]? = some (W.getD k 0) := by
  rw [List.getD_eq_getElem?_getD, List.getElem?_eq_getElem h]; rfl
/-! ### middles of a few numbers in order -/
theorem sort_eq {ns ms : List Int} (h1 : ns.Perm ms) (h2 : ns.Pairwise (· ≤ ·)) (qs : List Int) (h3 : qs.Perm ms) (h4 : qs.Pairwise (· ≤ ·)) : ns = qs :=
  (h1.trans h3.symm).eq_of_pairwise (fun a b _ _ h h' => Int.le_antisymm h h') h2 h4
theorem mid3 {ns : List Int} {s : Sx} {w : Int} (h1 : ns.Perm [s.lo, s.hi, w]) (h2 : ns.Pairwise (· ≤ ·)) (h : s.lo ≤ s.hi) : ns = [min s.lo w, clampS s w, max s.hi w] := by
  refine sort_eq h1 h2 _ ?_ (by
    simp only [List.pairwise_cons, List.mem_cons, List.not_mem_nil, or_false, forall_eq_or_imp, forall_eq, List.Pairwise.nil, and_true, false_implies, implies_true]
    unfold clampS
    omega)
  unfold clampS
  rcases (by omega : w ≤ s.lo ∨ (s.lo < w ∧ w ≤ s.hi) ∨ s.hi < w) with c | c | c
  · rw [show min s.lo w = w by omega, show max s.lo (min s.hi w) = s.lo by omega, show max s.hi w = s.hi by omega]
    exact (List.Perm.swap _ _ _).trans ((List.Perm.swap _ _ _).cons _)
  · rw [show min s.lo w = s.lo by omega, show max s.lo (min s.hi w) = w by omega, show max s.hi w = s.hi by omega]
    exact (List.Perm.swap _ _ _).cons _
  · rw [show min s.lo w = s.lo by omega, show max s.lo (min s.hi w) = s.hi by omega, show max s.hi w = w by omega]
theorem mid4 {ns : List Int} {s t : Sx} (h1 : ns.Perm [s.lo, s.hi, t.lo, t.hi]) (h2 : ns.Pairwise (· ≤ ·)) (h : s.lo ≤ s.hi) (k : t.lo ≤ t.hi) : ns = [min s.lo t.lo, (sJ s t).lo, (sJ s t).hi, max s.hi t.hi] := by
  refine sort_eq h1 h2 _ ?_ (by
    simp only [List.pairwise_cons, List.mem_cons, List.not_mem_nil, or_false, forall_eq_or_imp, forall_eq, List.Pairwise.nil, and_true, false_implies, implies_true]
    unfold sJ
    dsimp only
    omega)
  have p2 : ∀ x y : Int, [min x y, max x y].Perm [x, y] := fun x y => by
    rcases (by omega : x ≤ y ∨ y < x) with c | c
    · rw [show min x y = x by omega, show max x y = y by omega]
    · rw [show min x y = y by omega, show max x y = x by omega]
      exact .swap _ _ _
  have q1 := p2 (max s.lo t.lo) (min s.hi t.hi)
  have q2 := p2 s.lo t.lo
  have q3 : [min s.hi t.hi, max s.hi t.hi].Perm [s.hi, t.hi] := p2 _ _
  have e1 : [min s.lo t.lo, (sJ s t).lo, (sJ s t).hi, max s.hi t.hi].Perm [min s.lo t.lo, max s.lo t.lo, min s.hi t.hi, max s.hi t.hi] := (q1.append_right [max s.hi t.hi]).cons _
  refine e1.trans ((q2.append q3).trans ?_)
  exact (List.Perm.swap _ _ _).cons _
@[reducible] def slD (s : Sx) : D := .tup [.int s.lo, .int s.hi]
theorem DicN.putI {kds : List (Key × D)} {g : Nat → Option Int} (h : DicN kds fun j => (g j).map D.int) (k : Nat) (v : Int) : DicN (putD kds (.inl (k : Int)) (.int v)) fun j => (updF g k v j).map D.int := fun j => by
  rw [h.put k (.int v) j]
  show (if k = j then some (D.int v) else Option.map D.int (g j)) = Option.map D.int (if k = j then some v else g j)
  by_cases c : k = j
  · rw [if_pos c, if_pos c]; rfl
  · rw [if_neg c, if_neg c]
theorem PosL.of {xs : List Int} {J : List (Nat × Nat)} {g : Nat → Option Int} (hJ : Jng xs.length J) (h : PosF xs J 0 g) : PosL xs J ((List.range (xs.length + J.length)).map fun k => (g k).getD 0) := by
  have hl := hJ.1
  have e : ∀ k, k < xs.length + J.length → ((List.range (xs.length + J.length)).map fun k => (g k).getD 0)[k]? = g k := fun k hk => by
    rw [List.getElem?_map, List.getElem?_range hk]
    obtain ⟨v, hv⟩ := (h.uniq hJ h _ k (Nat.le_refl _) hk).2
    show some ((g k).getD 0) = g k
    rw [hv]; rfl
  refine ⟨by rw [List.length_map, List.length_range], ?_, fun i x hi hx => ?_⟩
  · show ((List.range (xs.length + J.length)).map fun k => (g k).getD 0)[_]? = _
    rw [e _ (by omega)]; exact h.1
  · obtain ⟨w, e0, e1, e2⟩ := h.2 i x hi hx
    have hlow := hJ.facts.low i x hx
    have hil := (List.getElem?_eq_some_iff.mp hx).1
    refine ⟨w, ?_, ?_, ?_⟩
    · show ((List.range (xs.length + J.length)).map fun k => (g k).getD 0)[_]? = _
      rw [e _ (by omega)]; exact e0
    · show ((List.range (xs.length + J.length)).map fun k => (g k).getD 0)[_]? = _
      rw [e _ (by omega)]; exact e1
    · show ((List.range (xs.length + J.length)).map fun k => (g k).getD 0)[_]? = _
      rw [e _ (by omega)]; exact e2
/-- lengths filled in row by row -/
def LnP (n : Nat) (wv : Nat → Int) (J : List (Nat × Nat)) (r : Nat) (L : List Int) : Prop := L.length = n ∧ ∀ i x, i < r → J[i]? = some x → L[x.1]? = some (wv x.1) ∧ L[x.2]? = some (wv x.2)
theorem LnP.nil {n : Nat} {wv : Nat → Int} {J : List (Nat × Nat)} : LnP n wv J 0 (List.replicate n 0) := ⟨List.length_replicate, fun i x h => absurd h (Nat.not_lt_zero _)⟩
theorem LnP.step {n r : Nat} {wv : Nat → Int} {J : List (Nat × Nat)} {L : List Int} {x : Nat × Nat} (h : LnP n wv J r L) (hx : J[r]? = some x) (h1 : x.1 < n) (h2 : x.2 < n) : LnP n wv J (r + 1) ((L.set x.1 (wv x.1)).set x.2 (wv x.2)) := by
  have key : ∀ s, L[s]? = some (wv s) ∨ ((s = x.1 ∨ s = x.2) ∧ s < n) → ((L.set x.1 (wv x.1)).set x.2 (wv x.2))[s]? = some (wv s) := fun s hs => by
    rw [List.getElem?_set, List.getElem?_set, List.length_set, h.1]
    by_cases c2 : x.2 = s
    · subst c2; rw [if_pos rfl, if_pos h2]
    · rw [if_neg c2]
      by_cases c1 : x.1 = s
      · subst c1; rw [if_pos rfl, if_pos h1]
      · rw [if_neg c1]
        rcases hs with hs | ⟨hs | hs, _⟩
        · exact hs
        · exact absurd hs.symm c1
        · exact absurd hs.symm c2
  refine ⟨by rw [List.length_set, List.length_set]; exact h.1, fun i y hi hy => ?_⟩
  by_cases c : i = r
  · subst c
    cases hx.symm.trans hy
    exact ⟨key _ (.inr ⟨.inl rfl, h1⟩), key _ (.inr ⟨.inr rfl, h2⟩)⟩
  · obtain ⟨k1, k2⟩ := h.2 i y (by omega) hy
    exact ⟨key _ (.inl k1), key _ (.inl k2)⟩
theorem LnP.done {m : Nat} {wv : Nat → Int} {J : List (Nat × Nat)} {L : List Int} (hJ : Jng m J) (h : LnP (m + J.length - 1) wv J J.length L) : L = (List.range (m + J.length - 1)).map wv := by
  apply List.ext_getElem?
  intro k
  by_cases c : k < m + J.length - 1
  · rw [List.getElem?_map, List.getElem?_range c]
    have : ∃ (i : Nat) (x : Nat × Nat), J[i]? = some x ∧ (x.1 = k ∨ x.2 = k) := by
      refine Classical.byContradiction fun c2 => ?_
      have := hJ.facts.top (k := k) (by omega) fun i x hx => ⟨fun e => c2 ⟨i, x, hx, .inl e⟩, fun e => c2 ⟨i, x, hx, .inr e⟩⟩
      omega
    obtain ⟨i, x, hx, hs⟩ := this
    obtain ⟨k1, k2⟩ := h.2 i x (List.getElem?_eq_some_iff.mp hx).1 hx
    rcases hs with rfl | rfl
    · exact k1
    · exact k2
  · rw [List.getElem?_eq_none (by rw [h.1]; omega), List.getElem?_eq_none (by rw [List.length_map, List.length_range]; omega)]
end Wk

set_option Elab.async false
set_option linter.all false
set_option maxRecDepth 100000
namespace Wk
open PySem PySem.Spec L2 WkE
/-! ### what is settled from above down, of any kind -/
section
variable {α : Type} {m : Nat} {J : List (Nat × Nat)} {ro : α} {cl : Nat → α → α}
def upG (f : Nat → Option α) (k : Nat) (v : α) : Nat → Option α := fun j => if k = j then some v else f j
theorem upG_same {f : Nat → Option α} {k : Nat} {v : α} : upG f k v k = some v := if_pos rfl
theorem upG_ne {f : Nat → Option α} {k j : Nat} {v : α} (h : k ≠ j) : upG f k v j = f j := if_neg h
def PosG (m : Nat) (J : List (Nat × Nat)) (ro : α) (cl : Nat → α → α) (r : Nat) (f : Nat → Option α) : Prop := f (m + J.length - 1) = some ro ∧ ∀ i x, r ≤ i → J[i]? = some x →
  ∃ w, f (m + i) = some w ∧ f x.1 = some (cl x.1 w) ∧ f x.2 = some (cl x.2 w)
theorem row_over (hJ : Jng m J) {k : Nat} (hk : k + 1 < m + J.length) : ∃ (i : Nat) (x : Nat × Nat), J[i]? = some x ∧ (x.1 = k ∨ x.2 = k) := by
  refine Classical.byContradiction fun c2 => ?_
  have := hJ.facts.top (k := k) (by omega) fun i x hx => ⟨fun e => c2 ⟨i, x, hx, .inl e⟩, fun e => c2 ⟨i, x, hx, .inr e⟩⟩
  omega
theorem row_ne (hJ : Jng m J) {i : Nat} {x : Nat × Nat} (hx : J[i]? = some x) : x.1 ≠ x.2 := fun e => by
  have nd := hJ.facts.sides.nodup_iff.mpr List.nodup_range
  have nd2 := (List.nodup_append.mp nd).2.1
  have := (List.pairwise_flatMap.mp nd2).1 x (List.mem_of_getElem? hx)
  have := (List.pairwise_cons.mp this).1 x.2 (by simp)
  exact this e
theorem PosG.start {f : Nat → Option α} (h : f (m + J.length - 1) = some ro) : PosG m J ro cl J.length f := ⟨h, fun i x hi hx => by have := (List.getElem?_eq_some_iff.mp hx).1; omega⟩
theorem PosG.has {r : Nat} {f : Nat → Option α} (hJ : Jng m J) (h : PosG m J ro cl (r + 1) f) (hr : r < J.length) : ∃ w, f (m + r) = some w := by
  have hl := hJ.1
  by_cases c : m + r = m + J.length - 1
  · exact ⟨_, by rw [c]; exact h.1⟩
  obtain ⟨i, x, hx, hs⟩ := row_over hJ (k := m + r) (by omega)
  have hlow := hJ.facts.low i x hx
  obtain ⟨w, _, h1, h2⟩ := h.2 i x (by omega) hx
  rcases hs with e | e
  · exact ⟨_, by rw [← e]; exact h1⟩
  · exact ⟨_, by rw [← e]; exact h2⟩
theorem PosG.step {r : Nat} {f : Nat → Option α} {x : Nat × Nat} {w : α} (hJ : Jng m J) (h : PosG m J ro cl (r + 1) f) (hx : J[r]? = some x) (hw : f (m + r) = some w) :
    PosG m J ro cl r (upG (upG f x.1 (cl x.1 w)) x.2 (cl x.2 w)) := by
  have F := hJ.facts
  have hlow := F.low r x hx
  have hr := (List.getElem?_eq_some_iff.mp hx).1
  have keep : ∀ k, x.1 ≠ k → x.2 ≠ k → upG (upG f x.1 (cl x.1 w)) x.2 (cl x.2 w) k = f k := fun k h1 h2 => by rw [upG_ne h2, upG_ne h1]
  refine ⟨by rw [keep _ (by omega) (by omega)]; exact h.1, fun i y hi hy => ?_⟩
  have hlowy := F.low i y hy
  by_cases c : i = r
  · subst c
    cases hx.symm.trans hy
    refine ⟨w, by rw [keep _ (by omega) (by omega)]; exact hw, ?_, upG_same⟩
    rw [upG_ne (Ne.symm (row_ne hJ hx)), upG_same]
  · obtain ⟨v, k1, k2, k3⟩ := h.2 i y (by omega) hy
    have off : ∀ s, (y.1 = s ∨ y.2 = s) → x.1 ≠ s ∧ x.2 ≠ s := fun s hs => ⟨fun e => c (F.uniq hy hx hs (.inl e)), fun e => c (F.uniq hy hx hs (.inr e))⟩
    have o1 := off _ (.inl rfl)
    have o2 := off _ (.inr rfl)
    exact ⟨v, by rw [keep _ (by omega) (by omega)]; exact k1, by rw [keep _ o1.1 o1.2]; exact k2, by rw [keep _ o2.1 o2.2]; exact k3⟩
theorem PosG.up {f : Nat → Option α} (hJ : Jng m J) (h : PosG m J ro cl 0 f) {k : Nat} (hk : k + 1 < m + J.length) : ∃ (i : Nat) (x : Nat × Nat) (w : α), J[i]? = some x ∧ (x.1 = k ∨ x.2 = k) ∧ k < m + i ∧ f (m + i) = some w ∧ f k = some (cl k w) := by
  obtain ⟨i, x, hx, hs⟩ := row_over hJ hk
  have hlow := hJ.facts.low i x hx
  obtain ⟨w, h0, h1, h2⟩ := h.2 i x (Nat.zero_le _) hx
  refine ⟨i, x, w, hx, hs, by rcases hs with rfl | rfl <;> omega, h0, ?_⟩
  rcases hs with rfl | rfl
  · exact h1
  · exact h2
theorem PosG.uniq {f g : Nat → Option α} (hJ : Jng m J) (hf : PosG m J ro cl 0 f) (hg : PosG m J ro cl 0 g) : ∀ (n k : Nat), m + J.length - k ≤ n → k < m + J.length → f k = g k ∧ ∃ v, f k = some v := by
  intro n
  induction n with
  | zero => intro k h1 h2; omega
  | succ n ih =>
    intro k h1 h2
    by_cases c : k + 1 < m + J.length
    · obtain ⟨i, x, w, hx, hs, hlt, e1, e2⟩ := hf.up hJ c
      obtain ⟨i2, x2, w2, hx2, hs2, hlt2, e3, e4⟩ := hg.up hJ c
      obtain rfl := hJ.facts.uniq hx hx2 hs hs2
      have hi := (List.getElem?_eq_some_iff.mp hx).1
      have := (ih (m + i) (by omega) (by omega)).1
      rw [e1, e3] at this
      cases this
      exact ⟨by rw [e2, e4], _, e2⟩
    · obtain rfl : k = m + J.length - 1 := by omega
      exact ⟨by rw [hf.1, hg.1], _, hf.1⟩
/-- a list of settled ones -/
def PosGL (m : Nat) (J : List (Nat × Nat)) (ro : α) (cl : Nat → α → α) (W : List α) : Prop := W.length = m + J.length ∧ PosG m J ro cl 0 fun k => W[k]?
theorem PosGL.uniq {V W : List α} (hJ : Jng m J) (h1 : PosGL m J ro cl V) (h2 : PosGL m J ro cl W) : V = W := by
  apply List.ext_getElem?
  intro k
  by_cases c : k < m + J.length
  · exact (h1.2.uniq hJ h2.2 _ k (Nat.le_refl _) c).1
  · rw [List.getElem?_eq_none (by rw [h1.1]; omega), List.getElem?_eq_none (by rw [h2.1]; omega)]
theorem PosGL.of {g : Nat → Option α} (hJ : Jng m J) (h : PosG m J ro cl 0 g) : PosGL m J ro cl ((List.range (m + J.length)).map fun k => (g k).getD ro) := by
  have hl := hJ.1
  have e : ∀ k, k < m + J.length → ((List.range (m + J.length)).map fun k => (g k).getD ro)[k]? = g k := fun k hk => by
    rw [List.getElem?_map, List.getElem?_range hk]
    obtain ⟨v, hv⟩ := (h.uniq hJ h _ k (Nat.le_refl _) hk).2
    show some ((g k).getD ro) = g k
    rw [hv]; rfl
  refine ⟨by rw [List.length_map, List.length_range], ?_, fun i x hi hx => ?_⟩
  · show ((List.range (m + J.length)).map fun k => (g k).getD ro)[_]? = _
    rw [e _ (by omega)]; exact h.1
  · obtain ⟨w, e0, e1, e2⟩ := h.2 i x hi hx
    have hlow := hJ.facts.low i x hx
    have hil := (List.getElem?_eq_some_iff.mp hx).1
    refine ⟨w, ?_, ?_, ?_⟩
    · show ((List.range (m + J.length)).map fun k => (g k).getD ro)[_]? = _
      rw [e _ (by omega)]; exact e0
    · show ((List.range (m + J.length)).map fun k => (g k).getD ro)[_]? = _
      rw [e _ (by omega)]; exact e1
    · show ((List.range (m + J.length)).map fun k => (g k).getD ro)[_]? = _
      rw [e _ (by omega)]; exact e2
theorem PosG.ex (hJ : Jng m J) : ∀ r, r ≤ J.length → ∃ f, PosG m J ro cl (J.length - r) f := by
  intro r
  induction r with
  | zero => intro _; exact ⟨_, .start (f := upG (fun _ => none) _ _) upG_same⟩
  | succ r ih =>
    intro h
    obtain ⟨f, hf⟩ := ih (by omega)
    obtain ⟨k, hk⟩ : ∃ k, J.length - r = k + 1 := ⟨J.length - r - 1, by omega⟩
    rw [hk] at hf
    obtain ⟨w, hw⟩ := hf.has hJ (by omega)
    rw [show J.length - (r + 1) = k by omega]
    exact ⟨_, hf.step hJ (List.getElem?_eq_getElem (by omega)) hw⟩
theorem PosGL.ex (hJ : Jng m J) : ∃ W, PosGL m J ro cl W := by
  obtain ⟨f, hf⟩ := PosG.ex (ro := ro) (cl := cl) hJ J.length (Nat.le_refl _)
  rw [Nat.sub_self] at hf
  exact ⟨_, .of hJ hf⟩
/-- a list with gaps, as it is filled -/
theorem set_upG {SO : List (Option α)} {k : Nat} {v : α} (h : k < SO.length) : (fun j => ((SO.set k (some v))[j]?).join) = upG (fun j => (SO[j]?).join) k v := by
  funext j
  unfold upG
  rw [List.getElem?_set]
  by_cases c : k = j
  · subst c; rw [if_pos rfl, if_pos rfl, if_pos h]; rfl
  · rw [if_neg c, if_neg c]
theorem join_some {o : Option (Option α)} {v : α} (h : o.join = some v) : o = some (some v) := by
  cases o with
  | none => cases h
  | some o => cases o with
    | none => cases h
    | some w => cases h; rfl
/-- all filled -/
theorem PosG.full {SO : List (Option α)} (hJ : Jng m J) (hl : SO.length = m + J.length) (h : PosG m J ro cl 0 fun j => (SO[j]?).join) : ∃ W, PosGL m J ro cl W ∧ SO = W.map some := by
  refine ⟨_, .of hJ h, ?_⟩
  apply List.ext_getElem?
  intro k
  by_cases c : k < m + J.length
  · obtain ⟨v, hv⟩ := (h.uniq hJ h _ k (Nat.le_refl _) c).2
    rw [join_some hv, List.getElem?_map, List.getElem?_map, List.getElem?_range c]
    show some (some v) = some (some (((SO[k]?).join).getD ro))
    rw [show (SO[k]?).join = some v from hv]; rfl
  · rw [List.getElem?_eq_none (by rw [hl]; omega), List.getElem?_eq_none (by rw [List.length_map, List.length_map, List.length_range]; omega)]
end
/-- lengths filled in from the last row on -/
def LnR (n : Nat) (wv : Nat → Int) (J : List (Nat × Nat)) (r : Nat) (L : List Int) : Prop := L.length = n ∧ ∀ i x, r ≤ i → J[i]? = some x → L[x.1]? = some (wv x.1) ∧ L[x.2]? = some (wv x.2)
theorem LnR.nil {n : Nat} {wv : Nat → Int} {J : List (Nat × Nat)} : LnR n wv J J.length (List.replicate n 0) := ⟨List.length_replicate, fun i x h hx => by have := (List.getElem?_eq_some_iff.mp hx).1; omega⟩
theorem LnR.step {n r : Nat} {wv : Nat → Int} {J : List (Nat × Nat)} {L : List Int} {x : Nat × Nat} (h : LnR n wv J (r + 1) L) (hx : J[r]? = some x) (h1 : x.1 < n) (h2 : x.2 < n) : LnR n wv J r ((L.set x.1 (wv x.1)).set x.2 (wv x.2)) := by
  have key : ∀ s, L[s]? = some (wv s) ∨ ((s = x.1 ∨ s = x.2) ∧ s < n) → ((L.set x.1 (wv x.1)).set x.2 (wv x.2))[s]? = some (wv s) := fun s hs => by
    rw [List.getElem?_set, List.getElem?_set, List.length_set, h.1]
    by_cases c2 : x.2 = s
    · subst c2; rw [if_pos rfl, if_pos h2]
    · rw [if_neg c2]
      by_cases c1 : x.1 = s
      · subst c1; rw [if_pos rfl, if_pos h1]
      · rw [if_neg c1]
        rcases hs with hs | ⟨hs | hs, _⟩
        · exact hs
        · exact absurd hs.symm c1
        · exact absurd hs.symm c2
  refine ⟨by rw [List.length_set, List.length_set]; exact h.1, fun i y hi hy => ?_⟩
  by_cases c : i = r
  · subst c
    cases hx.symm.trans hy
    exact ⟨key _ (.inr ⟨.inl rfl, h1⟩), key _ (.inr ⟨.inr rfl, h2⟩)⟩
  · obtain ⟨k1, k2⟩ := h.2 i y (by omega) hy
    exact ⟨key _ (.inl k1), key _ (.inl k2)⟩
theorem LnR.done {m : Nat} {wv : Nat → Int} {J : List (Nat × Nat)} {L : List Int} (hJ : Jng m J) (h : LnR (m + J.length - 1) wv J 0 L) : L = (List.range (m + J.length - 1)).map wv :=
  LnP.done hJ ⟨h.1, fun i x _ hx => h.2 i x (Nat.zero_le _) hx⟩
end Wk

set_option Elab.async false
set_option linter.all false
set_option maxRecDepth 100000
namespace Wk
open PySem PySem.Spec L2 WkE
/-! ### even trees told -/
noncomputable def rwK (es : List En) (J : List (Nat × Nat)) (k : Nat) : Rw := rwL es (belAt es.length J k)
def nearR (r : Rw) (z : Int × Int) : Int × Int := (min (max z.1 r.a) r.b, min (max z.2 r.c) r.e)
def inR (r : Rw) (z : Int × Int) : Prop := (r.a ≤ z.1 ∧ z.1 ≤ r.b) ∧ r.c ≤ z.2 ∧ z.2 ≤ r.e
def cornR (r : Rw) : Int × Int := (r.a, r.c)
/-- a side's row beneath its joint's -/
structure RwStep (r s : Rw) : Prop where
  h : r.h ≤ s.h
  a : r.a - (s.h - r.h) ≤ s.a
  b : s.b ≤ r.b + (s.h - r.h)
  c : r.c - (s.h - r.h) ≤ s.c
  e : s.e ≤ r.e + (s.h - r.h)
section
variable {es : List En} {J : List (Nat × Nat)}
theorem sum_mul3 {α : Type} {f : α → Int} {c : Int} : ∀ {l : List α}, (l.map fun x => c * f x).sum = c * (l.map f).sum
  | [] => (Int.mul_zero c).symm
  | x :: l => by
    have := sum_mul3 (f := f) (c := c) (l := l)
    rw [List.map_cons, List.map_cons, List.sum_cons, List.sum_cons, this, Int.mul_add]
theorem rwK_spec (hs : ∀ x ∈ es, 0 ≤ x.s) (hJ : Jng es.length J) {k : Nat} (hk : k < es.length + J.length) : RowR (atL es (belAt es.length J k)) (rwK es J k) := by
  obtain ⟨n, _, b⟩ := hJ.facts.bnd k hk
  exact rwL_spec hs n b
theorem rwK_step (hs : ∀ x ∈ es, 0 ≤ x.s) (hJ : Jng es.length J) {i : Nat} {x : Nat × Nat} (hx : J[i]? = some x) : RwStep (rwK es J x.1) (rwK es J (es.length + i)) ∧ RwStep (rwK es J x.2) (rwK es J (es.length + i)) := by
  have hi := (List.getElem?_eq_some_iff.mp hx).1
  have hlow := hJ.facts.low i x hx
  have R1 := rwK_spec hs hJ (k := x.1) (by omega)
  have R2 := rwK_spec hs hJ (k := x.2) (by omega)
  obtain ⟨H, A, B, C, E, T, hH, hA, hB, hC, hE⟩ := R1.join R2
  have e : rwK es J (es.length + i) = ⟨H, A, B, C, E⟩ := by
    unfold rwK
    rw [belAt_joint hx hlow]
    exact rwL_eq (by rw [atL_append]; exact T)
  rw [e]
  clear T R1 R2
  refine ⟨⟨?_, ?_, ?_, ?_, ?_⟩, ⟨?_, ?_, ?_, ?_, ?_⟩⟩ <;> dsimp only <;> omega
theorem rwK_end (hs : ∀ x ∈ es, 0 ≤ x.s) (hJ : Jng es.length J) {k : Nat} (hk : k < es.length) : rwK es J k = ⟨2 * (eAt es k).s, 2 * ((eAt es k).x + (eAt es k).y), 2 * ((eAt es k).x + (eAt es k).y), 2 * ((eAt es k).x - (eAt es k).y), 2 * ((eAt es k).x - (eAt es k).y)⟩ := by
  have R := rwK_spec hs hJ (k := k) (by omega)
  rw [belAt_end hk] at R
  have hm : ∀ x, x ∈ atL es [k] ↔ x = eAt es k := fun x => by unfold atL; simp
  obtain ⟨x, hx, y, hy, e1⟩ := R.hx
  obtain ⟨x2, hx2, e2⟩ := R.ax
  obtain ⟨x3, hx3, e3⟩ := R.bx
  obtain ⟨x4, hx4, e4⟩ := R.cx
  obtain ⟨x5, hx5, e5⟩ := R.ex
  rw [(hm _).mp hx, (hm _).mp hy, wI_self] at e1
  rw [(hm _).mp hx2] at e2
  rw [(hm _).mp hx3] at e3
  rw [(hm _).mp hx4] at e4
  rw [(hm _).mp hx5] at e5
  generalize rwK es J k = r at *
  obtain ⟨h, a, b, c, e⟩ := r
  dsimp only at *
  have : h = 2 * (eAt es k).s ∧ a = 2 * ((eAt es k).x + (eAt es k).y) ∧ b = 2 * ((eAt es k).x + (eAt es k).y) ∧ c = 2 * ((eAt es k).x - (eAt es k).y) ∧ e = 2 * ((eAt es k).x - (eAt es k).y) := by omega
  obtain ⟨rfl, rfl, rfl, rfl, rfl⟩ := this
  rfl
theorem rwK_le (hs : ∀ x ∈ es, 0 ≤ x.s) (hJ : Jng es.length J) {k : Nat} (hk : k < es.length + J.length) : (rwK es J k).a ≤ (rwK es J k).b ∧ (rwK es J k).c ≤ (rwK es J k).e := (rwK_spec hs hJ hk).le
theorem rwK_root (hJ : Jng es.length J) : (bel es.length J).getLast? = some (belAt es.length J (es.length + J.length - 1)) := by
  have := hJ.1
  rw [List.getLast?_eq_getElem?, bel_length]; exact bel_get (by omega)
theorem nearR_in {r : Rw} {z : Int × Int} (h1 : r.a ≤ r.b) (h2 : r.c ≤ r.e) : inR r (nearR r z) := by
  unfold inR nearR
  dsimp only
  omega
/-- how far two spots are apart -/
def offZ (a b : Int × Int) : Int := max (max (a.1 - b.1) (-(a.1 - b.1))) (max (a.2 - b.2) (-(a.2 - b.2)))
theorem near_far {r s : Rw} {z : Int × Int} (h1 : r.a ≤ r.b) (h2 : r.c ≤ r.e) (st : RwStep r s) (hz : inR s z) : offZ (nearR r z) z ≤ s.h - r.h := by
  obtain ⟨h, a, b, c, e⟩ := st
  obtain ⟨⟨z1, z2⟩, z3, z4⟩ := hz
  unfold offZ nearR
  dsimp only
  omega
abbrev SpP (es : List En) (J : List (Nat × Nat)) (ro : Int × Int) (W : List (Int × Int)) : Prop := PosGL es.length J ro (fun k => nearR (rwK es J k)) W
noncomputable def spE (es : List En) (J : List (Nat × Nat)) (ro : Int × Int) : List (Int × Int) := open Classical in if h : ∃ W, SpP es J ro W then Classical.choose h else []
theorem spE_spec {ro : Int × Int} (hJ : Jng es.length J) : SpP es J ro (spE es J ro) := by
  have hx : ∃ W, SpP es J ro W := PosGL.ex hJ
  unfold spE
  rw [dif_pos hx]
  exact Classical.choose_spec hx
theorem spE_uniq {ro : Int × Int} {W : List (Int × Int)} (hJ : Jng es.length J) (h : SpP es J ro W) : W = spE es J ro := h.uniq hJ (spE_spec hJ)
noncomputable def lnE (es : List En) (J : List (Nat × Nat)) : List Int := (List.range (es.length + J.length - 1)).map fun k => (rwK es J (parN es.length J k)).h - (rwK es J k).h
theorem lnE_len : (lnE es J).length = es.length + J.length - 1 := by unfold lnE; rw [List.length_map, List.length_range]
theorem lnE_at {k : Nat} (hk : k + 1 < es.length + J.length) : (lnE es J)[k]? = some ((rwK es J (parN es.length J k)).h - (rwK es J k).h) := by
  unfold lnE
  rw [List.getElem?_map, List.getElem?_range (by omega)]; rfl
theorem rwK_par (hs : ∀ x ∈ es, 0 ≤ x.s) (hJ : Jng es.length J) {k : Nat} (hk : k + 1 < es.length + J.length) : RwStep (rwK es J k) (rwK es J (parN es.length J k)) ∧ parN es.length J k < es.length + J.length := by
  obtain ⟨i, x, hx, hs2⟩ := row_over hJ hk
  have hi := (List.getElem?_eq_some_iff.mp hx).1
  rw [(parN_get hJ hx hs2).2]
  have st := rwK_step hs hJ hx
  refine ⟨?_, by omega⟩
  rcases hs2 with rfl | rfl
  · exact st.1
  · exact st.2
theorem lnE_pos (hs : ∀ x ∈ es, 0 ≤ x.s) (hJ : Jng es.length J) : ∀ l ∈ lnE es J, 0 ≤ l := fun l hl => by
  obtain ⟨k, hk, rfl⟩ := List.mem_map.mp hl
  have := (rwK_par hs hJ (k := k) (by have := List.mem_range.mp hk; omega)).1.h
  omega
theorem SpP.in {ro : Int × Int} {W : List (Int × Int)} (hs : ∀ x ∈ es, 0 ≤ x.s) (hJ : Jng es.length J) (h : SpP es J ro W) (hr : inR (rwK es J (es.length + J.length - 1)) ro) {k : Nat} (hk : k < es.length + J.length) : ∃ w, W[k]? = some w ∧ inR (rwK es J k) w := by
  by_cases c : k + 1 < es.length + J.length
  · obtain ⟨i, x, w, _, _, _, _, e⟩ := h.2.up hJ c
    have l := rwK_le hs hJ hk
    exact ⟨_, e, nearR_in l.1 l.2⟩
  · obtain rfl : k = es.length + J.length - 1 := by omega
    exact ⟨_, h.2.1, hr⟩
theorem SpP.near {ro : Int × Int} {W : List (Int × Int)} (hs : ∀ x ∈ es, 0 ≤ x.s) (hJ : Jng es.length J) (h : SpP es J ro W) (hr : inR (rwK es J (es.length + J.length - 1)) ro) {k : Nat} (hk : k + 1 < es.length + J.length) : ∃ p, W[parN es.length J k]? = some p ∧ W[k]? = some (nearR (rwK es J k) p) ∧ inR (rwK es J (parN es.length J k)) p := by
  obtain ⟨i, x, w, hx, hs2, _, e0, e1⟩ := h.2.up hJ hk
  have hi := (List.getElem?_eq_some_iff.mp hx).1
  rw [(parN_get hJ hx hs2).2]
  obtain ⟨w2, e2, hw⟩ := h.in hs hJ hr (k := es.length + i) (by omega)
  have e0' : W[es.length + i]? = some w := e0
  rw [e0'] at e2
  cases e2
  exact ⟨w, e0, e1, hw⟩
theorem SpP.far {ro : Int × Int} {W : List (Int × Int)} (hs : ∀ x ∈ es, 0 ≤ x.s) (hJ : Jng es.length J) (h : SpP es J ro W) (hr : inR (rwK es J (es.length + J.length - 1)) ro) {k : Nat} (hk : k + 1 < es.length + J.length) : offZ (W.getD k (0, 0)) (W.getD (parN es.length J k) (0, 0)) ≤ (lnE es J).getD k 0 := by
  obtain ⟨p, e1, e2, hp⟩ := h.near hs hJ hr hk
  have l := rwK_le hs hJ (k := k) (by omega)
  have := near_far l.1 l.2 (rwK_par hs hJ hk).1 hp
  rw [List.getD_eq_getElem?_getD, List.getD_eq_getElem?_getD, List.getD_eq_getElem?_getD, e1, e2, lnE_at hk]
  exact this
theorem SpP.ends {ro : Int × Int} {W : List (Int × Int)} (hs : ∀ x ∈ es, 0 ≤ x.s) (hJ : Jng es.length J) (h : SpP es J ro W) (hr : inR (rwK es J (es.length + J.length - 1)) ro) {k : Nat} (hk : k < es.length) : W[k]? = some (2 * ((eAt es k).x + (eAt es k).y), 2 * ((eAt es k).x - (eAt es k).y)) := by
  obtain ⟨w, e, hw⟩ := h.in hs hJ hr (k := k) (by omega)
  rw [rwK_end hs hJ hk] at hw
  obtain ⟨⟨h1, h2⟩, h3, h4⟩ := hw
  dsimp only at h1 h2 h3 h4
  rw [e]
  obtain ⟨u, v⟩ := w
  dsimp only at h1 h2 h3 h4
  rw [show u = 2 * ((eAt es k).x + (eAt es k).y) by omega, show v = 2 * ((eAt es k).x - (eAt es k).y) by omega]
/-- the way up is what the root is higher -/
theorem wayS_lnE (hs : ∀ x ∈ es, 0 ≤ x.s) (hJ : Jng es.length J) : ∀ (n k : Nat), es.length + J.length - k ≤ n → k < es.length + J.length → wayS (lnE es J) es.length J k = (rwK es J (es.length + J.length - 1)).h - (rwK es J k).h := by
  intro n
  induction n with
  | zero => intro k h1 h2; omega
  | succ n ih =>
    intro k h1 h2
    by_cases c : k + 1 < es.length + J.length
    · obtain ⟨i, x, hx, hs2⟩ := row_over hJ c
      have hi := (List.getElem?_eq_some_iff.mp hx).1
      have hlow := hJ.facts.low i x hx
      have hst := hJ.facts.chn_step hx hs2
      have hk : k < es.length + i := by rcases hs2 with rfl | rfl <;> omega
      rw [wayS_step hst (by omega), ih (es.length + i) (by omega) (by omega), List.getD_eq_getElem?_getD, lnE_at c, (parN_get hJ hx hs2).2]
      show (_ - _) + (_ - _) = _
      omega
    · obtain rfl : k = es.length + J.length - 1 := by omega
      rw [wayS_root (chn_root (by omega))]; omega
theorem sums_lnE (hs : ∀ x ∈ es, 0 ≤ x.s) (hJ : Jng es.length J) {i : Nat} (hi : i < es.length) : sumsI es J 2 (lnE es J) i = (rwK es J (es.length + J.length - 1)).h := by
  unfold sumsI
  rw [wayS_lnE hs hJ _ i (Nat.le_refl _) (by omega), rwK_end hs hJ hi]
  show _ - 2 * (eAt es i).s + (eAt es i).s * 2 = _
  omega
/-- all lengths together: the least even wire -/
theorem lnE_sum (hJ : Jng es.length J) (hs : ∀ x ∈ es, 0 ≤ x.s) : (lnE es J).sum = evenI es J := by
  have hJl := hJ.1
  obtain ⟨n, hn⟩ : ∃ n, es.length + J.length = n + 1 := ⟨es.length + J.length - 1, by omega⟩
  have hp := hJ.facts.sides
  rw [hn] at hp
  have key : ∀ f : Nat → Int, sumN n f = (J.map fun p => f p.1 + f p.2).sum := fun f => by
    have h1 := sum_perm (f := f) hp
    rw [List.map_append, List.sum_append, sum_flat] at h1
    have h3 : ((List.range (n + 1)).map f).sum = sumN n f + f n := sumN_succ
    rw [h3, show n + 1 - 1 = n by omega] at h1
    simp only [List.map_cons, List.map_nil, List.sum_cons, List.sum_nil] at h1
    omega
  have hl : (lnE es J).sum = sumN n fun k => (rwK es J (parN es.length J k)).h - (rwK es J k).h := by
    unfold lnE sumN
    rw [hn]; rfl
  have e1 : sumN n (fun k => (rwK es J (parN es.length J k)).h) = 2 * sumN J.length fun i => (rwK es J (es.length + i)).h := by
    rw [key]
    have : (J.map fun p => (rwK es J (parN es.length J p.1)).h + (rwK es J (parN es.length J p.2)).h) = (List.range J.length).map fun i => 2 * (rwK es J (es.length + i)).h := by
      apply List.ext_getElem?
      intro i
      rw [List.getElem?_map, List.getElem?_map]
      by_cases c : i < J.length
      · have gx := List.getElem?_eq_getElem (l := J) (i := i) c
        generalize J[i]'_ = x at gx
        rw [gx, List.getElem?_range c]
        show some ((rwK es J (parN es.length J x.1)).h + (rwK es J (parN es.length J x.2)).h) = some (2 * (rwK es J (es.length + i)).h)
        rw [(parN_get hJ gx (.inl rfl)).2, (parN_get hJ gx (.inr rfl)).2]
        congr 1; omega
      · rw [List.getElem?_eq_none (by omega), List.getElem?_eq_none (by rw [List.length_range]; omega)]; rfl
    rw [this]
    exact sumN_mulL
  have e2 : sumN (n + 1) (fun k => (rwK es J k).h) = 2 * (es.map fun e : En => e.s).sum + sumN J.length fun i => (rwK es J (es.length + i)).h := by
    unfold sumN
    rw [← hn, List.range_add, List.map_append, List.sum_append, List.map_map]
    congr 1
    rw [map_eAt, ← sum_mul3]
    exact congrArg List.sum (List.map_congr_left fun k hk => by rw [rwK_end hs hJ (List.mem_range.mp hk)])
  have e3 : evenI es J = (rwK es J n).h + (sumN J.length fun i => (rwK es J (es.length + i)).h) - 2 * (es.map fun e : En => e.s).sum := by
    unfold evenI
    rw [show es.length + J.length - 1 = n by omega]
    congr 2
    unfold sumN
    congr 1
    apply List.ext_getElem?
    intro i
    rw [List.getElem?_map, List.getElem?_drop, List.getElem?_map]
    by_cases c : i < J.length
    · rw [bel_get (by omega), List.getElem?_range c]; rfl
    · rw [List.getElem?_eq_none (by rw [bel_length]; omega), List.getElem?_eq_none (by rw [List.length_range]; omega)]; rfl
  rw [hl, sumN_sub, e1, e3]
  rw [sumN_succ] at e2
  omega
/-- a tree, as the laws walk it -/
structure TreeP (es : List En) (J : List (Nat × Nat)) (gp : Option Int) (g : Int) (sp : List (Int × Int)) (ls : List Int) : Prop where
  lp : ∀ l ∈ ls, 0 ≤ l
  en : sp.take es.length = es.map fun e => (g * (e.x + e.y), g * (e.x - e.y))
  fa : ∀ k, k + 1 < es.length + J.length → offZ (sp.getD k (0, 0)) (sp.getD (parN es.length J k) (0, 0)) ≤ ls.getD k 0
  ga : ∀ v, gp = some v → maxL ((List.range es.length).map (sumsI es J g ls)) - minL ((List.range es.length).map (sumsI es J g ls)) ≤ v * g
theorem const_max {n : Nat} {f : Nat → Int} {c : Int} (hn : 0 < n) (h : ∀ i, i < n → f i = c) : maxL ((List.range n).map f) = c ∧ minL ((List.range n).map f) = c := by
  have hne : (List.range n).map f ≠ [] := by
    intro e
    have := congrArg List.length e
    rw [List.length_map, List.length_range, List.length_nil] at this
    omega
  have h1 := maxL_mem _ hne
  have h2 := minL_mem _ hne
  obtain ⟨a, ha, e1⟩ := List.mem_map.mp h1
  obtain ⟨b, hb, e2⟩ := List.mem_map.mp h2
  rw [← e1, ← e2, h a (List.mem_range.mp ha), h b (List.mem_range.mp hb)]
  exact ⟨rfl, rfl⟩
/-- the told tree is one -/
theorem tree_told {ro : Int × Int} (hs : ∀ x ∈ es, 0 ≤ x.s) (hJ : Jng es.length J) (hr : inR (rwK es J (es.length + J.length - 1)) ro) : TreeP es J (some 0) 2 (spE es J ro) (lnE es J) := by
  have hJl := hJ.1
  have h := spE_spec (ro := ro) hJ
  refine ⟨lnE_pos hs hJ, ?_, fun k hk => h.far hs hJ hr hk, fun v e => ?_⟩
  · apply List.ext_getElem?
    intro k
    rw [List.getElem?_take, List.getElem?_map]
    by_cases c : k < es.length
    · rw [if_pos c, h.ends hs hJ hr c, eAt_get c]; rfl
    · rw [if_neg c, List.getElem?_eq_none (by omega)]; rfl
  · obtain ⟨e1, e2⟩ := const_max (n := es.length) (by omega) fun i hi => sums_lnE hs hJ hi
    cases e
    rw [e1, e2]; omega
theorem minL_uniqE {l : List Int} {m : Int} (h1 : m ∈ l) (h2 : ∀ x ∈ l, m ≤ x) : minL l = m := (minL_uniq h1 h2).symm
theorem maxL_uniqE {l : List Int} {m : Int} (h1 : m ∈ l) (h2 : ∀ x ∈ l, x ≤ m) : maxL l = m := (maxL_uniq h1 h2).symm
/-- the box, by the ends' own numbers -/
theorem rwL_box {L : List Nat} (hs : ∀ x ∈ es, 0 ≤ x.s) (hn : L ≠ []) (hb : ∀ j ∈ L, j < es.length) :
    maxL (L.map fun k => 2 * ((eAt es k).x + (eAt es k).y) - ((rwL es L).h - 2 * (eAt es k).s)) = (rwL es L).a ∧ minL (L.map fun k => 2 * ((eAt es k).x + (eAt es k).y) + ((rwL es L).h - 2 * (eAt es k).s)) = (rwL es L).b ∧
    maxL (L.map fun k => 2 * ((eAt es k).x - (eAt es k).y) - ((rwL es L).h - 2 * (eAt es k).s)) = (rwL es L).c ∧ minL (L.map fun k => 2 * ((eAt es k).x - (eAt es k).y) + ((rwL es L).h - 2 * (eAt es k).s)) = (rwL es L).e := by
  have R := rwL_spec hs hn hb
  generalize rwL es L = r at *
  have up : ∀ {f : En → Int} {v : Int}, (∃ x ∈ atL es L, f x = v) → v ∈ L.map fun k => f (eAt es k) := fun {f v} ⟨x, hx, e⟩ => by
    obtain ⟨k, hk, rfl⟩ := List.mem_map.mp hx
    exact List.mem_map.mpr ⟨k, hk, e⟩
  have dn : ∀ {f : En → Int} {p : Int → Prop}, (∀ x ∈ atL es L, p (f x)) → ∀ y ∈ L.map (fun k => f (eAt es k)), p y := fun {f p} h y hy => by
    obtain ⟨k, hk, rfl⟩ := List.mem_map.mp hy
    exact h _ (List.mem_map.mpr ⟨k, hk, rfl⟩)
  exact ⟨maxL_uniqE (up (f := fun x => 2 * (x.x + x.y) - (r.h - 2 * x.s)) R.ax) (dn (f := fun x => 2 * (x.x + x.y) - (r.h - 2 * x.s)) (p := fun y => y ≤ r.a) R.am),
    minL_uniqE (up (f := fun x => 2 * (x.x + x.y) + (r.h - 2 * x.s)) R.bx) (dn (f := fun x => 2 * (x.x + x.y) + (r.h - 2 * x.s)) (p := fun y => r.b ≤ y) R.bm),
    maxL_uniqE (up (f := fun x => 2 * (x.x - x.y) - (r.h - 2 * x.s)) R.cx) (dn (f := fun x => 2 * (x.x - x.y) - (r.h - 2 * x.s)) (p := fun y => y ≤ r.c) R.cm),
    minL_uniqE (up (f := fun x => 2 * (x.x - x.y) + (r.h - 2 * x.s)) R.ex) (dn (f := fun x => 2 * (x.x - x.y) + (r.h - 2 * x.s)) (p := fun y => r.e ≤ y) R.em)⟩
/-- a gap, or none -/
def oG : Option Int → D
  | none => .non
  | some v => .int v
/-- a chain but its root -/
theorem chn_cut {m k : Nat} {J : List (Nat × Nat)} (hJ : Jng m J) (hk : k < m + J.length) : (chn m J k).filter (fun j => decide (j < m + J.length - 1)) = (chn m J k).dropLast := by
  have h1 := chn_last hJ hk
  obtain ⟨l, hl⟩ : ∃ l, chn m J k = l ++ [m + J.length - 1] := by
    rcases List.eq_nil_or_concat (chn m J k) with e | ⟨l, z, e⟩
    · rw [e] at h1; cases h1
    · rw [List.concat_eq_append] at e
      rw [e, List.getLast?_append] at h1
      have : z = m + J.length - 1 := by simpa using h1
      exact ⟨l, by rw [e, this]⟩
  have hr := chn_rise (m := m) (J := J) (k := k)
  rw [hl] at hr ⊢
  rw [List.dropLast_concat, List.filter_append]
  have h2 := List.pairwise_append.mp hr
  rw [List.filter_eq_self.mpr fun a ha => decide_eq_true (h2.2.2 a ha _ (by simp))]
  simp
theorem wayS_cut {ls : List Int} {m k : Nat} {J : List (Nat × Nat)} (hJ : Jng m J) (hk : k < m + J.length) (hl : ls.length + 1 = m + J.length) : (((chn m J k).filter fun j => decide (j < ls.length)).map fun j => ls.getD j 0).sum = wayS ls m J k := by
  unfold wayS
  rw [show ls.length = m + J.length - 1 by omega, chn_cut hJ hk]
/-- what wires are longer than their ways -/
def detL (es : List En) (J : List (Nat × Nat)) (sp : List (Int × Int)) (ls : List Int) : List Int := (List.range (es.length + J.length - 1)).map fun k => ls.getD k 0 - offZ (sp.getD k (0, 0)) (sp.getD (parN es.length J k) (0, 0))
theorem minD_neg {ns : List Int} : (if ns = [] then (0 : Int) else minL ns) < 0 ↔ ∃ x ∈ ns, x < 0 := by
  by_cases c : ns = []
  · rw [if_pos c, c]; simp
  · rw [if_neg c]
    refine ⟨fun h => ⟨_, minL_mem ns c, h⟩, fun ⟨x, hx, h⟩ => ?_⟩
    have := minL_le ns x hx
    omega
theorem detL_neg {sp : List (Int × Int)} {ls : List Int} : (if detL es J sp ls = [] then (0 : Int) else minL (detL es J sp ls)) < 0 ↔ ¬ ∀ k, k + 1 < es.length + J.length → offZ (sp.getD k (0, 0)) (sp.getD (parN es.length J k) (0, 0)) ≤ ls.getD k 0 := by
  rw [minD_neg]
  constructor
  · rintro ⟨x, hx, h⟩ hall
    obtain ⟨k, hk, rfl⟩ := List.mem_map.mp hx
    have := hall k (by have := List.mem_range.mp hk; omega)
    omega
  · intro h
    refine Classical.byContradiction fun c => h fun k hk => ?_
    have : ¬ ls.getD k 0 - offZ (sp.getD k (0, 0)) (sp.getD (parN es.length J k) (0, 0)) < 0 := fun z => c ⟨_, List.mem_map.mpr ⟨k, List.mem_range.mpr (by omega), rfl⟩, z⟩
    omega
theorem OverP.par {m : Nat} {J : List (Nat × Nat)} {A : List Nat} (hA : OverP m J J.length A) (hJ : Jng m J) {k : Nat} (hk : k < A.length) : A[k]? = some (parN m J k) := by
  have hAl := hA.1
  obtain ⟨i, x, hx, hs⟩ := row_over hJ (k := k) (by omega)
  have hi := (List.getElem?_eq_some_iff.mp hx).1
  have := hA.2 i x hi hx
  rw [(parN_get hJ hx hs).2]
  rcases hs with rfl | rfl
  · exact this.1
  · exact this.2
theorem offZ_pos (a b : Int × Int) : 0 ≤ offZ a b := by unfold offZ; omega
/-- lengths that are no less than the ways -/
def WayG (sp : List (Int × Int)) (A : List Nat) (vs : List Int) : Prop := ∀ k, k < vs.length → offZ (sp.getD k (0, 0)) (sp.getD (A.getD k 0) (0, 0)) ≤ vs.getD k 0
theorem WayG.nil {sp : List (Int × Int)} {A : List Nat} : WayG sp A [] := fun k h => absurd h (Nat.not_lt_zero k)
theorem WayG.snoc {sp : List (Int × Int)} {A : List Nat} {vs : List Int} {v : Int} (h : WayG sp A vs) (hv : offZ (sp.getD vs.length (0, 0)) (sp.getD (A.getD vs.length 0) (0, 0)) ≤ v) : WayG sp A (vs ++ [v]) := fun k hk => by
  rw [List.length_append, List.length_singleton] at hk
  by_cases c : k < vs.length
  · rw [List.getD_eq_getElem?_getD (l := vs ++ [v]), List.getElem?_append_left c, ← List.getD_eq_getElem?_getD]
    exact h k c
  · obtain rfl : k = vs.length := by omega
    rw [List.getD_eq_getElem?_getD (l := vs ++ [v]), List.getElem?_append_right (Nat.le_refl _), Nat.sub_self]
    exact hv
theorem WayG.set {sp : List (Int × Int)} {A : List Nat} {vs : List Int} {v : Int} {j : Nat} (h : WayG sp A vs) (hv : vs.getD j 0 ≤ v) : WayG sp A (vs.set j v) := fun k hk => by
  rw [List.length_set] at hk
  have := h k hk
  rw [List.getD_eq_getElem?_getD (l := vs.set j v), List.getElem?_set]
  by_cases c : j = k
  · subst c; rw [if_pos rfl, if_pos hk]
    show _ ≤ v
    omega
  · rw [if_neg c, ← List.getD_eq_getElem?_getD]; exact this
theorem zipIdx_at {α : Type} {l : List α} {pre suf : List (α × Nat)} {x : α × Nat} (hx : l.zipIdx = pre ++ x :: suf) : x.2 = pre.length ∧ l[pre.length]? = some x.1 := by
  have h : l.zipIdx[pre.length]? = some x := by rw [hx]; simp
  rw [List.getElem?_zipIdx] at h
  cases e : l[pre.length]? with
  | none => rw [e] at h; cases h
  | some a => rw [e] at h; cases h; exact ⟨Nat.zero_add _, rfl⟩
theorem getD_of {α : Type} {l : List α} {k : Nat} {v d : α} (h : l[k]? = some v) : l.getD k d = v := by rw [List.getD_eq_getElem?_getD, h]; rfl
theorem WayG.fa {sp : List (Int × Int)} {m : Nat} {J : List (Nat × Nat)} {A : List Nat} {vs : List Int} (h : WayG sp A vs) (hA : OverP m J J.length A) (hJ : Jng m J) (hl : vs.length + 1 = m + J.length) : ∀ k, k + 1 < m + J.length → offZ (sp.getD k (0, 0)) (sp.getD (parN m J k) (0, 0)) ≤ vs.getD k 0 := fun k hk => by
  have hAl := hA.1
  have := h k (by omega)
  rw [getD_of (hA.par hJ (by omega))] at this
  exact this
theorem sum_nn {α : Type} {f : α → Int} : ∀ {l : List α}, (∀ x ∈ l, 0 ≤ f x) → 0 ≤ (l.map f).sum
  | [], _ => Int.le_refl _
  | x :: l, h => by
    have h1 := h x List.mem_cons_self
    have h2 := sum_nn (f := f) (l := l) fun y hy => h y (List.mem_cons_of_mem _ hy)
    rw [List.map_cons, List.sum_cons]; omega
end
end Wk
namespace Wk
open PySem PySem.Spec L2 WkE
theorem zD_flat {zs : List (Int × Int)} : ∀ x ∈ zs.map zD, x.flat 1 := fun x hx => by
  obtain ⟨z, _, rfl⟩ := List.mem_map.mp hx
  exact flat_dec rfl
theorem eqB_zD {a b : Int × Int} : eqB (zD a) (zD b) = decide (a = b) := by
  obtain ⟨a1, a2⟩ := a
  obtain ⟨b1, b2⟩ := b
  rw [eqB_cons, eqB_cons, eqB_nil, eqB_ints, eqB_ints, Bool.and_true]
  by_cases h1 : a1 = b1 <;> by_cases h2 : a2 = b2 <;> simp [h1, h2]
theorem eqBL_zD : ∀ {A B : List (Int × Int)}, eqBL (A.map zD) (B.map zD) = decide (A = B)
  | [], [] => by rw [decide_eq_true rfl]; rfl
  | [], b :: B => by rw [decide_eq_false (by simp)]; rfl
  | a :: A, [] => by rw [decide_eq_false (by simp)]; rfl
  | a :: A, b :: B => by
    rw [List.map_cons, List.map_cons, eqBL_cons, eqB_zD, eqBL_zD]
    by_cases h1 : a = b <;> by_cases h2 : A = B <;> simp [h1, h2]
theorem w2_neKnil {K : PySem.W.Frag} {μ : Mu} {P : D → Mu → Prop} {a b : Addr} {n : Nat} {xs : List D} (ha : Lk xs μ a) (hb : Lk [] μ b) (hx : ∀ x ∈ xs, x.flat n) (hn : n ≤ 60) (q : P (.bl (!xs.isEmpty)) μ) : W2 K (rNeD K) (.ref a) (.ref b) μ P := by
  refine w2_neK ha hb (sh_flat (flat_tup hx) (by omega)) rfl ?_
  rw [eqBL_nil_r]; exact q
theorem getD_of' {sp : List (Int × Int)} {k : Nat} (h : k < sp.length) : sp[k]? = some (sp.getD k (0, 0)) := by rw [List.getD_eq_getElem?_getD, List.getElem?_eq_getElem h]; rfl
theorem spots_all {sp : List (Int × Int)} {es : List En} {F : En → Int × Int} (hl : es.length ≤ sp.length) : (es.zipIdx.all fun x => decide (sp.getD x.2 (0, 0) = F x.1)) = true ↔ sp.take es.length = es.map F := by
  rw [List.all_eq_true]
  constructor
  · intro h
    apply List.ext_getElem?
    intro k
    rw [List.getElem?_take, List.getElem?_map]
    by_cases c : k < es.length
    · rw [if_pos c, List.getElem?_eq_getElem c, Wk.getD_of' (show k < sp.length by omega)]
      have hm : (es[k], k) ∈ es.zipIdx := List.mem_zipIdx_iff_getElem?.mpr (List.getElem?_eq_getElem c)
      exact congrArg some (of_decide_eq_true (h _ hm))
    · rw [if_neg c, List.getElem?_eq_none (by omega)]; rfl
  · intro h x hx
    have gx : es[x.2]? = some x.1 := List.mem_zipIdx_iff_getElem?.mp hx
    have hk := (List.getElem?_eq_some_iff.mp gx).1
    have e := congrArg (fun l => l[x.2]?) h
    change (sp.take es.length)[x.2]? = (es.map F)[x.2]? at e
    rw [List.getElem?_take, if_pos hk, List.getElem?_map, gx] at e
    exact decide_eq_true (getD_of e)
end Wk
namespace Wk
open PySem PySem.Spec L2 WkE
theorem offZ_scale {t : Int} (ht : 0 ≤ t) (a b : Int × Int) : offZ (a.1 * t, a.2 * t) (b.1 * t, b.2 * t) = offZ a b * t := by
  have k : ∀ x y : Int, max (x * t - y * t) (-(x * t - y * t)) = max (x - y) (-(x - y)) * t := fun x y => by
    rw [← Int.sub_mul, ← Int.neg_mul]
    rcases Int.le_total (x - y) (-(x - y)) with h | h
    · rw [Int.max_eq_right h, Int.max_eq_right (Int.mul_le_mul_of_nonneg_right h ht)]
    · rw [Int.max_eq_left h, Int.max_eq_left (Int.mul_le_mul_of_nonneg_right h ht)]
  unfold offZ
  dsimp only
  rw [k, k]
  rcases Int.le_total (max (a.1 - b.1) (-(a.1 - b.1))) (max (a.2 - b.2) (-(a.2 - b.2))) with h | h
  · rw [Int.max_eq_right h, Int.max_eq_right (Int.mul_le_mul_of_nonneg_right h ht)]
  · rw [Int.max_eq_left h, Int.max_eq_left (Int.mul_le_mul_of_nonneg_right h ht)]
theorem getD_scale {sp : List (Int × Int)} {t : Int} {k : Nat} : (sp.map fun z => (z.1 * t, z.2 * t)).getD k (0, 0) = ((sp.getD k (0, 0)).1 * t, (sp.getD k (0, 0)).2 * t) := by
  rw [List.getD_eq_getElem?_getD, List.getD_eq_getElem?_getD, List.getElem?_map]
  cases sp[k]? with
  | none => show ((0 : Int), (0 : Int)) = (0 * t, 0 * t); rw [Int.zero_mul]
  | some z => rfl
theorem fa_pos {sp : List (Int × Int)} {m n : Nat} {J : List (Nat × Nat)} {ls : List Int} (h7 : ∀ k, k + 1 < n → offZ (sp.getD k (0, 0)) (sp.getD (parN m J k) (0, 0)) ≤ ls.getD k 0) (hl : ls.length + 1 = n) : ∀ l ∈ ls, 0 ≤ l := fun l hl2 => by
  obtain ⟨k, hk⟩ := List.getElem?_of_mem hl2
  have h1 := (List.getElem?_eq_some_iff.mp hk).1
  have h2 := h7 k (by omega)
  have h3 := offZ_pos (sp.getD k (0, 0)) (sp.getD (parN m J k) (0, 0))
  rw [getD_of hk] at h2
  omega
end Wk

set_option Elab.async false
set_option linter.all false
set_option maxRecDepth 100000
namespace Wk
open PySem PySem.Spec L2 WkE
/-! folds over the rows of a joining, each row's own number in sight -/
section
variable {α : Type} {d : α} {f : Nat × Nat → α → α → α} {B0 : List α} {J : List (Nat × Nat)} {p : Nat × Nat} {k : Nat}
def kgL (d : α) (f : Nat × Nat → α → α → α) (B0 : List α) (J : List (Nat × Nat)) : List α := J.foldl (fun B p => B ++ [f p (B.getD p.1 d) (B.getD p.2 d)]) B0
def kg (d : α) (f : Nat × Nat → α → α → α) (B0 : List α) (J : List (Nat × Nat)) (k : Nat) : α := (kgL d f B0 J).getD k d
theorem kgL_nil : kgL d f B0 [] = B0 := rfl
theorem kgL_snoc : kgL d f B0 (J ++ [p]) = kgL d f B0 J ++ [f p (kg d f B0 J p.1) (kg d f B0 J p.2)] := by
  unfold kgL kg; rw [List.foldl_append]; rfl
theorem kgL_length : (kgL d f B0 J).length = B0.length + J.length := by
  have : ∀ (J : List (Nat × Nat)) (B : List α), (J.foldl (fun B p => B ++ [f p (B.getD p.1 d) (B.getD p.2 d)]) B).length = B.length + J.length := by
    intro J
    induction J with
    | nil => intro B; rfl
    | cons p J ih => intro B; rw [List.foldl_cons, ih, List.length_append, List.length_cons, List.length_cons, List.length_nil]; omega
  exact this J B0
theorem kg_snoc_lt (h : k < B0.length + J.length) : kg d f B0 (J ++ [p]) k = kg d f B0 J k := by
  unfold kg; rw [kgL_snoc, List.getD_eq_getElem?_getD, List.getD_eq_getElem?_getD, List.getElem?_append_left (by rw [kgL_length]; exact h)]
theorem kg_new : kg d f B0 (J ++ [p]) (B0.length + J.length) = f p (kg d f B0 J p.1) (kg d f B0 J p.2) := by
  show (kgL d f B0 (J ++ [p])).getD _ d = _
  rw [kgL_snoc, List.getD_eq_getElem?_getD, List.getElem?_append_right (by rw [kgL_length]; exact Nat.le_refl _), kgL_length, Nat.sub_self]; rfl
theorem kgL_get (h : k < B0.length + J.length) : (kgL d f B0 J)[k]? = some (kg d f B0 J k) := by
  unfold kg; rw [List.getD_eq_getElem?_getD, List.getElem?_eq_getElem (by rw [kgL_length]; exact h)]; rfl
theorem kg_pre : ∀ {suf pre : List (Nat × Nat)}, k < B0.length + pre.length → kg d f B0 (pre ++ suf) k = kg d f B0 pre k
  | [], pre, h => by rw [List.append_nil]
  | x :: suf, pre, h => by
    rw [show pre ++ x :: suf = (pre ++ [x]) ++ suf from by simp, kg_pre (suf := suf) (pre := pre ++ [x]) (by rw [List.length_append]; omega), kg_snoc_lt h]
theorem kg_base (h : k < B0.length) : kg d f B0 J k = B0.getD k d := by
  have := kg_pre (d := d) (f := f) (B0 := B0) (k := k) (suf := J) (pre := []) (by simpa using h)
  rw [List.nil_append] at this
  rw [this]; rfl
theorem kg_joint {i : Nat} {x : Nat × Nat} (hx : J[i]? = some x) (hl : x.1 < B0.length + i ∧ x.2 < B0.length + i) : kg d f B0 J (B0.length + i) = f x (kg d f B0 J x.1) (kg d f B0 J x.2) := by
  have hi := (List.getElem?_eq_some_iff.mp hx).1
  have e : J = (J.take i ++ [x]) ++ J.drop (i + 1) := by
    obtain ⟨_, rfl⟩ := List.getElem?_eq_some_iff.mp hx
    rw [List.append_assoc, List.singleton_append, List.getElem_cons_drop, List.take_append_drop]
  have hlen : (J.take i).length = i := by rw [List.length_take]; omega
  rw [e, kg_pre (by rw [List.length_append, hlen]; simp), kg_pre (k := x.1) (by rw [List.length_append, hlen]; simp; omega), kg_pre (k := x.2) (by rw [List.length_append, hlen]; simp; omega)]
  have h2 := kg_new (d := d) (f := f) (B0 := B0) (J := J.take i) (p := x)
  rw [hlen] at h2
  rw [h2, kg_snoc_lt (by rw [hlen]; exact hl.1), kg_snoc_lt (by rw [hlen]; exact hl.2)]
end
/-! wires: for each knot the wire from it to each end beneath it -/
abbrev Wr := List (Nat × Int)
def wrS (ls : List Int) (k : Nat) (A : Wr) : Wr := A.map fun q => (q.1, q.2 + ls.getD k 0)
abbrev wrJ (ls : List Int) (p : Nat × Nat) (A B : Wr) : Wr := wrS ls p.1 A ++ wrS ls p.2 B
abbrev wrB (m : Nat) : List Wr := (List.range m).map fun e => [(e, (0 : Int))]
abbrev wrL (ls : List Int) (m : Nat) (J : List (Nat × Nat)) : List Wr := kgL [] (wrJ ls) (wrB m) J
abbrev wrK (ls : List Int) (m : Nat) (J : List (Nat × Nat)) (k : Nat) : Wr := kg [] (wrJ ls) (wrB m) J k
section
variable {ls : List Int} {m k i : Nat} {J : List (Nat × Nat)} {x : Nat × Nat} {W : List Nat} {sp : Nat → Int × Int} {A B : Wr}
theorem wrB_len : (wrB m).length = m := by rw [List.length_map, List.length_range]
theorem wrK_end (h : k < m) : wrK ls m J k = [(k, 0)] := by
  rw [show wrK ls m J k = (wrB m).getD k [] from kg_base (by rw [wrB_len]; exact h), List.getD_eq_getElem?_getD, List.getElem?_map, List.getElem?_range h]; rfl
theorem wrK_joint (hx : J[i]? = some x) (hl : x.1 < m + i ∧ x.2 < m + i) : wrK ls m J (m + i) = wrS ls x.1 (wrK ls m J x.1) ++ wrS ls x.2 (wrK ls m J x.2) := by
  have := kg_joint (d := []) (f := wrJ ls) (B0 := wrB m) hx (by rw [wrB_len]; exact hl)
  rwa [wrB_len] at this
theorem wrS_keys : (wrS ls k A).map (·.1) = A.map (·.1) := by unfold wrS; rw [List.map_map]; rfl
theorem wrS_ne (h : A ≠ []) : wrS ls k A ≠ [] := by unfold wrS; simpa using h
theorem wrK_keys (hJ : Joins m J W) : ∀ (n k : Nat), k < n → k < m + J.length → (wrK ls m J k).map (·.1) = belAt m J k
  | 0, _, h, _ => absurd h (Nat.not_lt_zero _)
  | n + 1, k, h, hk => by
    by_cases c : k < m
    · rw [wrK_end c, belAt_end c]; rfl
    obtain ⟨i, rfl⟩ : ∃ i, k = m + i := ⟨k - m, by omega⟩
    have hx := List.getElem?_eq_getElem (l := J) (i := i) (by omega)
    have hl := hJ.facts.low i _ hx
    rw [wrK_joint hx hl, belAt_joint hx hl, List.map_append, wrS_keys, wrS_keys, wrK_keys hJ n _ (by omega) (by omega), wrK_keys hJ n _ (by omega) (by omega)]
theorem wrK_ne (hJ : Joins m J W) (hk : k < m + J.length) : wrK ls m J k ≠ [] := fun e => by
  have := wrK_keys (ls := ls) hJ (k + 1) k (Nat.lt_succ_self k) hk
  rw [e] at this
  exact (hJ.facts.bnd k hk).1 this.symm
/-! the spots that all these reach -/
def bxW (sp : Nat → Int × Int) (w : Wr) : Int × Int × Int × Int := (maxL (w.map fun q => (sp q.1).1 - q.2), minL (w.map fun q => (sp q.1).1 + q.2), maxL (w.map fun q => (sp q.1).2 - q.2), minL (w.map fun q => (sp q.1).2 + q.2))
abbrev qD (b : Int × Int × Int × Int) : D := bx b.1 b.2.1 b.2.2.1 b.2.2.2
def grW (b : Int × Int × Int × Int) (n : Int) : Int × Int × Int × Int := (b.1 - n, b.2.1 + n, b.2.2.1 - n, b.2.2.2 + n)
theorem maxL_shift {α : Type} {f : α → Int} {c : Int} {l : List α} (h : l ≠ []) : maxL (l.map fun q => f q - c) = maxL (l.map f) - c := by
  refine (maxL_uniq ?_ fun x hx => ?_).symm
  · obtain ⟨q, hq, e⟩ := List.mem_map.mp (maxL_mem (l.map f) (by simpa using h))
    exact List.mem_map.mpr ⟨q, hq, by rw [e]⟩
  · obtain ⟨q, hq, rfl⟩ := List.mem_map.mp hx
    have := maxL_ge (l.map f) _ (List.mem_map.mpr ⟨q, hq, rfl⟩)
    omega
theorem minL_shift {α : Type} {f : α → Int} {c : Int} {l : List α} (h : l ≠ []) : minL (l.map fun q => f q + c) = minL (l.map f) + c := by
  refine (minL_uniq ?_ fun x hx => ?_).symm
  · obtain ⟨q, hq, e⟩ := List.mem_map.mp (minL_mem (l.map f) (by simpa using h))
    exact List.mem_map.mpr ⟨q, hq, by rw [e]⟩
  · obtain ⟨q, hq, rfl⟩ := List.mem_map.mp hx
    have := minL_le (l.map f) _ (List.mem_map.mpr ⟨q, hq, rfl⟩)
    omega
theorem bxW_grow (h : A ≠ []) : bxW sp (wrS ls k A) = grW (bxW sp A) (ls.getD k 0) := by
  unfold bxW grW wrS
  simp only [List.map_map]
  rw [← maxL_shift (f := fun q : Nat × Int => (sp q.1).1 - q.2) h, ← minL_shift (f := fun q : Nat × Int => (sp q.1).1 + q.2) h, ← maxL_shift (f := fun q : Nat × Int => (sp q.1).2 - q.2) h, ← minL_shift (f := fun q : Nat × Int => (sp q.1).2 + q.2) h]
  refine Prod.ext (congrArg maxL ?_) (Prod.ext (congrArg minL ?_) (Prod.ext (congrArg maxL ?_) (congrArg minL ?_))) <;> (refine List.map_congr_left fun q _ => ?_; simp only [Function.comp_apply]; omega)
theorem maxL_app {l r : List Int} (h : l ≠ []) (h2 : r ≠ []) : maxL (l ++ r) = max (maxL l) (maxL r) := by
  refine (maxL_uniq ?_ fun x hx => ?_).symm
  · by_cases c : maxL l ≤ maxL r
    · rw [Int.max_eq_right c]; exact List.mem_append_right _ (maxL_mem r h2)
    · rw [Int.max_eq_left (by omega)]; exact List.mem_append_left _ (maxL_mem l h)
  · rcases List.mem_append.mp hx with hx | hx
    · have := maxL_ge l x hx; omega
    · have := maxL_ge r x hx; omega
theorem minL_app {l r : List Int} (h : l ≠ []) (h2 : r ≠ []) : minL (l ++ r) = min (minL l) (minL r) := by
  refine (minL_uniq ?_ fun x hx => ?_).symm
  · by_cases c : minL l ≤ minL r
    · rw [Int.min_eq_left c]; exact List.mem_append_left _ (minL_mem l h)
    · rw [Int.min_eq_right (by omega)]; exact List.mem_append_right _ (minL_mem r h2)
  · rcases List.mem_append.mp hx with hx | hx
    · have := minL_le l x hx; omega
    · have := minL_le r x hx; omega
theorem bxW_app (hA : A ≠ []) (hB : B ≠ []) : bxW sp (A ++ B) = (max (bxW sp A).1 (bxW sp B).1, min (bxW sp A).2.1 (bxW sp B).2.1, max (bxW sp A).2.2.1 (bxW sp B).2.2.1, min (bxW sp A).2.2.2 (bxW sp B).2.2.2) := by
  unfold bxW
  simp only [List.map_append]
  rw [maxL_app (by simpa using hA) (by simpa using hB), maxL_app (by simpa using hA) (by simpa using hB), minL_app (by simpa using hA) (by simpa using hB), minL_app (by simpa using hA) (by simpa using hB)]
/-- a box that has spots -/
def NeB (b : Int × Int × Int × Int) : Prop := b.1 ≤ b.2.1 ∧ b.2.2.1 ≤ b.2.2.2
/-- each two of both have enough wire -/
def PrO (sp : Nat → Int × Int) (A B : Wr) : Prop := ∀ q ∈ A, ∀ r ∈ B, offZ (sp q.1) (sp r.1) ≤ q.2 + r.2
instance : Decidable (PrO sp A B) := inferInstanceAs (Decidable (∀ q ∈ A, ∀ r ∈ B, _))
theorem maxmin_le {f g : Nat × Int → Int} (hA : A ≠ []) (hB : B ≠ []) : maxL (A.map f) ≤ minL (B.map g) ↔ ∀ q ∈ A, ∀ r ∈ B, f q ≤ g r := by
  constructor
  · intro h q hq r hr
    have h1 := maxL_ge (A.map f) _ (List.mem_map.mpr ⟨q, hq, rfl⟩)
    have h2 := minL_le (B.map g) _ (List.mem_map.mpr ⟨r, hr, rfl⟩)
    omega
  · intro h
    obtain ⟨q, hq, e⟩ := List.mem_map.mp (maxL_mem (A.map f) (by simpa using hA))
    obtain ⟨r, hr, e2⟩ := List.mem_map.mp (minL_mem (B.map g) (by simpa using hB))
    rw [← e, ← e2]; exact h q hq r hr
theorem pro_iff (hA : A ≠ []) (hB : B ≠ []) : PrO sp A B ↔ ((bxW sp A).1 ≤ (bxW sp B).2.1 ∧ (bxW sp B).1 ≤ (bxW sp A).2.1) ∧ (bxW sp A).2.2.1 ≤ (bxW sp B).2.2.2 ∧ (bxW sp B).2.2.1 ≤ (bxW sp A).2.2.2 := by
  unfold bxW
  simp only
  rw [maxmin_le hA hB, maxmin_le hB hA, maxmin_le hA hB, maxmin_le hB hA]
  unfold PrO offZ
  constructor
  · intro h
    refine ⟨⟨fun q hq r hr => ?_, fun r hr q hq => ?_⟩, fun q hq r hr => ?_, fun r hr q hq => ?_⟩ <;> (have := h q hq r hr; omega)
  · rintro ⟨⟨h1, h2⟩, h3, h4⟩ q hq r hr
    have k1 := h1 q hq r hr
    have k2 := h2 r hr q hq
    have k3 := h3 q hq r hr
    have k4 := h4 r hr q hq
    omega
theorem metO_yes' {x y : Int × Int × Int × Int} (nx : NeB x) (ny : NeB y) (h : (x.1 ≤ y.2.1 ∧ y.1 ≤ x.2.1) ∧ x.2.2.1 ≤ y.2.2.2 ∧ y.2.2.1 ≤ x.2.2.2) : metO (some x) (some y) = some (max x.1 y.1, min x.2.1 y.2.1, max x.2.2.1 y.2.2.1, min x.2.2.2 y.2.2.2) := by
  obtain ⟨a, b, c, e⟩ := x
  obtain ⟨a', b', c', e'⟩ := y
  obtain ⟨n1, n2⟩ := nx
  obtain ⟨n3, n4⟩ := ny
  simp only at n1 n2 n3 n4 h
  exact metO_yes (by omega)
theorem metO_no' {x y : Int × Int × Int × Int} (nx : NeB x) (ny : NeB y) (h : ¬ ((x.1 ≤ y.2.1 ∧ y.1 ≤ x.2.1) ∧ x.2.2.1 ≤ y.2.2.2 ∧ y.2.2.1 ≤ x.2.2.2)) : metO (some x) (some y) = none := by
  obtain ⟨a, b, c, e⟩ := x
  obtain ⟨a', b', c', e'⟩ := y
  obtain ⟨n1, n2⟩ := nx
  obtain ⟨n3, n4⟩ := ny
  simp only at n1 n2 n3 n4 h
  exact metO_no (by omega)
theorem met_wr (hA : A ≠ []) (hB : B ≠ []) (nA : NeB (bxW sp A)) (nB : NeB (bxW sp B)) : metO (some (bxW sp A)) (some (bxW sp B)) = if PrO sp A B then some (bxW sp (A ++ B)) else none := by
  by_cases c : PrO sp A B
  · rw [if_pos c, bxW_app hA hB]
    exact metO_yes' nA nB ((pro_iff hA hB).mp c)
  · rw [if_neg c]
    exact metO_no' nA nB fun z => c ((pro_iff hA hB).mpr z)
theorem neb_app (hA : A ≠ []) (hB : B ≠ []) (nA : NeB (bxW sp A)) (nB : NeB (bxW sp B)) (h : PrO sp A B) : NeB (bxW sp (A ++ B)) := by
  have h := (pro_iff hA hB).mp h
  obtain ⟨n1, n2⟩ := nA
  obtain ⟨n3, n4⟩ := nB
  rw [bxW_app hA hB]
  unfold NeB
  simp only
  omega
theorem neb_grow (hA : A ≠ []) (nA : NeB (bxW sp A)) (h : 0 ≤ ls.getD k 0) : NeB (bxW sp (wrS ls k A)) := by
  rw [bxW_grow hA]
  obtain ⟨n1, n2⟩ := nA
  unfold NeB grW
  simp only
  omega
/-- at the first rows each two ends that meet there have enough wire -/
def FitN (sp : Nat → Int × Int) (ls : List Int) (m : Nat) (J : List (Nat × Nat)) (n : Nat) : Prop := ∀ i x, i < n → J[i]? = some x → PrO sp (wrS ls x.1 (wrK ls m J x.1)) (wrS ls x.2 (wrK ls m J x.2))
abbrev FitJ (sp : Nat → Int × Int) (ls : List Int) (m : Nat) (J : List (Nat × Nat)) : Prop := FitN sp ls m J J.length
theorem ls_nn (h : ∀ l ∈ ls, 0 ≤ l) (k : Nat) : 0 ≤ ls.getD k 0 := by
  rw [List.getD_eq_getElem?_getD]
  cases e : ls[k]? with
  | none => exact Int.le_refl _
  | some v => exact h v (List.mem_of_getElem? e)
theorem neb_all (hJ : Joins m J W) (hp : ∀ l ∈ ls, 0 ≤ l) {n : Nat} (hf : FitN sp ls m J n) : ∀ (b k : Nat), k < b → k < m + J.length → k < m + n → NeB (bxW sp (wrK ls m J k))
  | 0, _, h, _, _ => absurd h (Nat.not_lt_zero _)
  | b + 1, k, h, hk, hn => by
    by_cases c : k < m
    · rw [wrK_end c]
      refine ⟨?_, ?_⟩
      · show (sp k).1 - 0 ≤ (sp k).1 + 0; omega
      · show (sp k).2 - 0 ≤ (sp k).2 + 0; omega
    obtain ⟨i, rfl⟩ : ∃ i, k = m + i := ⟨k - m, by omega⟩
    have hx := List.getElem?_eq_getElem (l := J) (i := i) (by omega)
    have hl := hJ.facts.low i _ hx
    rw [wrK_joint hx hl]
    have e1 := wrK_ne (ls := ls) hJ (k := J[i].1) (by omega)
    have e2 := wrK_ne (ls := ls) hJ (k := J[i].2) (by omega)
    exact neb_app (wrS_ne e1) (wrS_ne e2) (neb_grow e1 (neb_all hJ hp hf b _ (by omega) (by omega) (by omega)) (ls_nn hp _)) (neb_grow e2 (neb_all hJ hp hf b _ (by omega) (by omega) (by omega)) (ls_nn hp _)) (hf i _ (by omega) hx)
/-- a joint is laid, or two ends have too little wire there -/
theorem met_row (hJ : Joins m J W) (hp : ∀ l ∈ ls, 0 ≤ l) (hx : J[i]? = some x) (hf : FitN sp ls m J i) :
    metO (some (grW (bxW sp (wrK ls m J x.1)) (ls.getD x.1 0))) (some (grW (bxW sp (wrK ls m J x.2)) (ls.getD x.2 0))) = if PrO sp (wrS ls x.1 (wrK ls m J x.1)) (wrS ls x.2 (wrK ls m J x.2)) then some (bxW sp (wrK ls m J (m + i))) else none := by
  have hi := (List.getElem?_eq_some_iff.mp hx).1
  have hl := hJ.facts.low i _ hx
  have e1 := wrK_ne (ls := ls) hJ (k := x.1) (by omega)
  have e2 := wrK_ne (ls := ls) hJ (k := x.2) (by omega)
  rw [wrK_joint hx hl, ← bxW_grow e1, ← bxW_grow e2]
  exact met_wr (wrS_ne e1) (wrS_ne e2) (neb_grow e1 (neb_all hJ hp hf _ _ (Nat.lt_succ_self _) (by omega) (by omega)) (ls_nn hp _)) (neb_grow e2 (neb_all hJ hp hf _ _ (Nat.lt_succ_self _) (by omega) (by omega)) (ls_nn hp _))
theorem FitN.step (h : FitN sp ls m J i) (hx : J[i]? = some x) (hp : PrO sp (wrS ls x.1 (wrK ls m J x.1)) (wrS ls x.2 (wrK ls m J x.2))) : FitN sp ls m J (i + 1) := fun j y hj hy => by
  by_cases c : j = i
  · subst c
    rw [hx] at hy; cases hy
    exact hp
  · exact h j y (by omega) hy
theorem offZ_tri (a b c : Int × Int) : offZ a c ≤ offZ a b + offZ b c := by unfold offZ; omega
theorem offZ_comm (a b : Int × Int) : offZ a b = offZ b a := by unfold offZ; omega
theorem offZ_self (a : Int × Int) : offZ a a = 0 := by unfold offZ; omega
/-- spots of knots, by which the lengths are long enough -/
structure LaysP (sp : Nat → Int × Int) (ls : List Int) (m : Nat) (J : List (Nat × Nat)) (pos : Nat → Int × Int) : Prop where
  own : ∀ k, k < m → pos k = sp k
  far : ∀ i x, J[i]? = some x → offZ (pos x.1) (pos (m + i)) ≤ ls.getD x.1 0 ∧ offZ (pos x.2) (pos (m + i)) ≤ ls.getD x.2 0
theorem LaysP.way {pos : Nat → Int × Int} (hJ : Joins m J W) (h : LaysP sp ls m J pos) : ∀ (n k : Nat), k < n → k < m + J.length → ∀ q ∈ wrK ls m J k, offZ (sp q.1) (pos k) ≤ q.2
  | 0, _, h, _ => absurd h (Nat.not_lt_zero _)
  | n + 1, k, hn, hk => fun q hq => by
    by_cases c : k < m
    · rw [wrK_end c] at hq
      rw [List.mem_singleton.mp hq]
      rw [h.own k c, offZ_self]; exact Int.le_refl _
    obtain ⟨i, rfl⟩ : ∃ i, k = m + i := ⟨k - m, by omega⟩
    have hx := List.getElem?_eq_getElem (l := J) (i := i) (by omega)
    have hl := hJ.facts.low i _ hx
    rw [wrK_joint hx hl] at hq
    have hf := h.far i _ hx
    rcases List.mem_append.mp hq with hq | hq
    · obtain ⟨r, hr, rfl⟩ := List.mem_map.mp hq
      have := h.way hJ n _ (by omega) (by omega) r hr
      have t := offZ_tri (sp r.1) (pos J[i].1) (pos (m + i))
      simp only
      omega
    · obtain ⟨r, hr, rfl⟩ := List.mem_map.mp hq
      have := h.way hJ n _ (by omega) (by omega) r hr
      have t := offZ_tri (sp r.1) (pos J[i].2) (pos (m + i))
      simp only
      omega
theorem LaysP.fit {pos : Nat → Int × Int} (hJ : Joins m J W) (h : LaysP sp ls m J pos) : FitJ sp ls m J := fun i x hi hx q hq r hr => by
  have hl := hJ.facts.low i _ hx
  have h1 := h.way hJ _ (m + i) (Nat.lt_succ_self _) (by omega) q (by rw [wrK_joint hx hl]; exact List.mem_append_left _ hq)
  have h2 := h.way hJ _ (m + i) (Nat.lt_succ_self _) (by omega) r (by rw [wrK_joint hx hl]; exact List.mem_append_right _ hr)
  have t := offZ_tri (sp q.1) (pos (m + i)) (sp r.1)
  rw [offZ_comm (pos (m + i))] at t
  omega
/-- the spot of an end, by a grain -/
def spG (g : Int) (es : List En) (k : Nat) : Int × Int := (g * ((eAt es k).x + (eAt es k).y), g * ((eAt es k).x - (eAt es k).y))
def spL (g : Int) (es : List En) : List (Int × Int) := es.map fun e => (g * (e.x + e.y), g * (e.x - e.y))
theorem spL_get {g : Int} {es : List En} (h : k < es.length) : (spL g es)[k]? = some (spG g es k) := by
  unfold spL spG; rw [List.getElem?_map, eAt_get h]; rfl
theorem spL_len {g : Int} {es : List En} : (spL g es).length = es.length := List.length_map _
/-- spots laid and lengths told, row by row -/
structure LyR (sp : Nat → Int × Int) (m : Nat) (J : List (Nat × Nat)) (r : Nat) (L : List (Int × Int)) (V : List Int) : Prop where
  len : L.length = m + r
  vlen : V.length = m + J.length - 1
  nn : ∀ v ∈ V, 0 ≤ v
  own : ∀ k, k < m → L[k]? = some (sp k)
  far : ∀ i x, i < r → J[i]? = some x → offZ (L.getD x.1 (0, 0)) (L.getD (m + i) (0, 0)) ≤ V.getD x.1 0 ∧ offZ (L.getD x.2 (0, 0)) (L.getD (m + i) (0, 0)) ≤ V.getD x.2 0
theorem getDz_set {V : List Int} {i j : Nat} {a : Int} (hi : i < V.length) : (V.set i a).getD j 0 = if i = j then a else V.getD j 0 := by
  rw [List.getD_eq_getElem?_getD, List.getD_eq_getElem?_getD, List.getElem?_set]
  by_cases c : i = j
  · rw [if_pos c, if_pos c, if_pos (by omega)]; rfl
  · rw [if_neg c, if_neg c]
theorem getDp_app {L : List (Int × Int)} {w : Int × Int} {j : Nat} (h : j < L.length) : (L ++ [w]).getD j (0, 0) = L.getD j (0, 0) := by
  rw [List.getD_eq_getElem?_getD, List.getD_eq_getElem?_getD, List.getElem?_append_left h]
theorem getDp_last {L : List (Int × Int)} {w : Int × Int} {j : Nat} (h : j = L.length) : (L ++ [w]).getD j (0, 0) = w := by
  rw [List.getD_eq_getElem?_getD, List.getElem?_append_right (by omega), h, Nat.sub_self]; rfl
theorem LyR.step {r : Nat} {L : List (Int × Int)} {V : List Int} {w : Int × Int} {a b : Int} (hJ : Jng m J) (h : LyR sp m J r L V) (hx : J[r]? = some x) (ha : offZ (L.getD x.1 (0, 0)) w ≤ a) (hb : offZ (L.getD x.2 (0, 0)) w ≤ b) : LyR sp m J (r + 1) (L ++ [w]) ((V.set x.1 a).set x.2 b) := by
  have hr := (List.getElem?_eq_some_iff.mp hx).1
  have F := hJ.facts
  have hl := F.low r x hx
  have hne := row_ne hJ hx
  have v1 : x.1 < V.length := by rw [h.vlen]; omega
  have v2 : x.2 < (V.set x.1 a).length := by rw [List.length_set, h.vlen]; omega
  have a0 : 0 ≤ a := Int.le_trans (offZ_pos _ _) ha
  have b0 : 0 ≤ b := Int.le_trans (offZ_pos _ _) hb
  refine ⟨by rw [List.length_append, h.len]; rfl, by rw [List.length_set, List.length_set, h.vlen], fun v hv => ?_, fun k hk => ?_, fun i y hi hy => ?_⟩
  · rcases List.mem_or_eq_of_mem_set hv with hv | rfl
    · rcases List.mem_or_eq_of_mem_set hv with hv | rfl
      · exact h.nn v hv
      · exact a0
    · exact b0
  · rw [List.getElem?_append_left (by rw [h.len]; omega)]; exact h.own k hk
  · have hyl := F.low i y hy
    by_cases c : i = r
    · subst c
      rw [hx] at hy; cases hy
      rw [getDp_app (j := x.1) (by rw [h.len]; omega), getDp_app (j := x.2) (by rw [h.len]; omega), getDp_last h.len.symm, getDz_set (j := x.1) v2, getDz_set v1, getDz_set (j := x.2) v2, if_neg (Ne.symm hne), if_pos rfl, if_pos rfl]
      exact ⟨ha, hb⟩
    · have n : ∀ k, (x.1 = k ∨ x.2 = k) → (y.1 = k ∨ y.2 = k) → False := fun k h1 h2 => c (F.uniq hy hx h2 h1)
      have n1 : ¬ x.2 = y.1 := fun z => n y.1 (.inr z) (.inl rfl)
      have n2 : ¬ x.1 = y.1 := fun z => n y.1 (.inl z) (.inl rfl)
      have n3 : ¬ x.2 = y.2 := fun z => n y.2 (.inr z) (.inr rfl)
      have n4 : ¬ x.1 = y.2 := fun z => n y.2 (.inl z) (.inr rfl)
      rw [getDp_app (j := y.1) (by rw [h.len]; omega), getDp_app (j := m + i) (by rw [h.len]; omega), getDp_app (j := y.2) (by rw [h.len]; omega), getDz_set (j := y.1) v2, getDz_set (j := y.1) v1, getDz_set (j := y.2) v2, getDz_set (j := y.2) v1, if_neg n1, if_neg n2, if_neg n3, if_neg n4]
      exact h.far i y (by omega) hy
theorem LyR.done {L : List (Int × Int)} {V : List Int} (h : LyR sp m J J.length L V) : LaysP sp V m J fun k => L.getD k (0, 0) := by
  refine ⟨fun k hk => ?_, fun i x hx => h.far i x (List.getElem?_eq_some_iff.mp hx).1 hx⟩
  show L.getD k (0, 0) = _
  rw [List.getD_eq_getElem?_getD, h.own k hk]; rfl
/-- the pairs that have too little wire, row by row -/
def shR (sp : Nat → Int × Int) (A B : Wr) : List (Nat × Nat) := A.flatMap fun q => (B.filter fun r => decide (q.2 + r.2 < offZ (sp q.1) (sp r.1))).map fun r => (min q.1 r.1, max q.1 r.1)
theorem shR_nil : shR sp A B = [] ↔ PrO sp A B := by
  unfold shR PrO
  rw [List.flatMap_eq_nil_iff]
  constructor
  · intro h q hq r hr
    have := List.map_eq_nil_iff.mp (h q hq)
    have := List.filter_eq_nil_iff.mp this r hr
    rw [decide_eq_true_iff] at this
    omega
  · intro h q hq
    rw [List.map_eq_nil_iff, List.filter_eq_nil_iff]
    intro r hr
    rw [decide_eq_true_iff]
    have := h q hq r hr
    omega
def shJ (sp : Nat → Int × Int) (ls : List Int) (m : Nat) (J : List (Nat × Nat)) (pre : List (Nat × Nat)) : List (Nat × Nat) := pre.flatMap fun x => shR sp (wrS ls x.1 (wrK ls m J x.1)) (wrS ls x.2 (wrK ls m J x.2))
theorem shJ_nil : shJ sp ls m J J = [] ↔ FitJ sp ls m J := by
  unfold shJ
  rw [List.flatMap_eq_nil_iff]
  constructor
  · intro h i x _ hx
    exact shR_nil.mp (h x (List.mem_of_getElem? hx))
  · intro h x hx
    obtain ⟨i, hi⟩ := List.getElem?_of_mem hx
    exact shR_nil.mpr (h i x (List.getElem?_eq_some_iff.mp hi).1 hi)
theorem maxL_perm {l r : List Int} (h : l.Perm r) : maxL l = maxL r := by
  by_cases c : l = []
  · subst c; rw [h.symm.eq_nil]
  · exact (maxL_uniq (h.mem_iff.mpr (maxL_mem r fun e => c (by rw [e] at h; exact h.eq_nil))) fun x hx => maxL_ge r x (h.mem_iff.mp hx)).symm
theorem minL_perm {l r : List Int} (h : l.Perm r) : minL l = minL r := by
  by_cases c : l = []
  · subst c; rw [h.symm.eq_nil]
  · exact (minL_uniq (h.mem_iff.mpr (minL_mem r fun e => c (by rw [e] at h; exact h.eq_nil))) fun x hx => minL_le r x (h.mem_iff.mp hx)).symm
theorem bxW_perm (h : A.Perm B) : bxW sp A = bxW sp B := by
  unfold bxW
  rw [maxL_perm (h.map _), minL_perm (h.map _), maxL_perm (h.map _), minL_perm (h.map _)]
theorem wrK_swap (hJ : Joins m J W) : ∀ (n k : Nat), k < n → k < m + J.length → (wrK ls m (J.map sw) k).Perm (wrK ls m J k)
  | 0, _, h, _ => absurd h (Nat.not_lt_zero _)
  | n + 1, k, h, hk => by
    by_cases c : k < m
    · rw [wrK_end c, wrK_end c]
    obtain ⟨i, rfl⟩ : ∃ i, k = m + i := ⟨k - m, by omega⟩
    have hx := List.getElem?_eq_getElem (l := J) (i := i) (by omega)
    have hl := hJ.facts.low i _ hx
    have hx2 : (J.map sw)[i]? = some (sw J[i]) := by rw [List.getElem?_map, hx]; rfl
    rw [wrK_joint hx hl, wrK_joint hx2 ⟨hl.2, hl.1⟩]
    show (wrS ls J[i].2 (wrK ls m (J.map sw) J[i].2) ++ wrS ls J[i].1 (wrK ls m (J.map sw) J[i].1)).Perm _
    exact List.perm_append_comm.trans (((wrK_swap hJ n _ (by omega) (by omega)).map _).append ((wrK_swap hJ n _ (by omega) (by omega)).map _))
theorem LaysP.swap {pos : Nat → Int × Int} (h : LaysP sp ls m J pos) : LaysP sp ls m (J.map sw) pos := by
  refine ⟨h.own, fun i x hx => ?_⟩
  rw [List.getElem?_map] at hx
  cases hy : J[i]? with
  | none => rw [hy] at hx; cases hx
  | some y =>
    rw [hy] at hx
    cases hx
    have := h.far i y hy
    exact ⟨this.2, this.1⟩
end
end Wk

set_option Elab.async false
set_option linter.all false
set_option maxRecDepth 100000
namespace Wk
open PySem PySem.Spec L2 WkE
/-! the wire between two ends, by chains -/
section
variable {ls : List Int} {m : Nat} {J : List (Nat × Nat)} {sp : Nat → Int × Int}
def awy (ls : List Int) (m : Nat) (J : List (Nat × Nat)) (e q : Nat) : Int := (((chn m J e).filter fun k => decide (k < q)).map fun k => ls.getD k 0).sum
def wayN (ls : List Int) (m : Nat) (J : List (Nat × Nat)) (a b : Nat) : Int := awy ls m J a (meetN m J a b) + awy ls m J b (meetN m J a b)
theorem chn_in {e j : Nat} (he : e < m) : j ∈ chn m J e ↔ j < m + J.length ∧ e ∈ belAt m J j := by
  rw [chn_end he, List.mem_filter, List.mem_range, decide_eq_true_eq]
theorem awy_step (hJ : Jng m J) {i s e : Nat} {x : Nat × Nat} (hx : J[i]? = some x) (hs : x.1 = s ∨ x.2 = s) (he : e ∈ belAt m J s) : awy ls m J e (m + i) = awy ls m J e s + ls.getD s 0 := by
  have F := hJ.facts
  have hi := (List.getElem?_eq_some_iff.mp hx).1
  have hlow := F.low i x hx
  have hsl : s < m + i := by rcases hs with rfl | rfl <;> omega
  have hem : e < m := (F.bnd s (by omega)).2.2 e he
  have key : (chn m J e).filter (fun k => decide (k < m + i)) = (chn m J e).filter (fun k => decide (k < s)) ++ [s] := by
    refine rise_ext (chn_rise.sublist List.filter_sublist) ?_ fun j => ?_
    · rw [List.pairwise_append]
      exact ⟨chn_rise.sublist List.filter_sublist, List.pairwise_singleton _ _, fun a ha b hb => by
        rw [List.mem_singleton.mp hb]
        exact of_decide_eq_true (List.mem_filter.mp ha).2⟩
    · rw [List.mem_append, List.mem_filter, List.mem_filter, decide_eq_true_eq, decide_eq_true_eq, List.mem_singleton]
      constructor
      · rintro ⟨h1, h2⟩
        by_cases c : j < s
        · exact .inl ⟨h1, c⟩
        refine .inr ?_
        obtain ⟨h3, h4⟩ := (chn_in hem).mp h1
        have h5 : j ∈ chn m J s := chn_mem.mpr ⟨h3, by omega, F.nest (j + 1) s j e (Nat.lt_succ_self j) (by omega) he h4⟩
        rw [F.chn_step hx hs] at h5
        rcases List.mem_cons.mp h5 with h | h
        · exact h
        · have := chn_ge h; omega
      · rintro (⟨h1, h2⟩ | rfl)
        · exact ⟨h1, by omega⟩
        · exact ⟨(chn_in hem).mpr ⟨by omega, he⟩, hsl⟩
  unfold awy
  rw [key, List.map_append, List.sum_append, List.map_singleton, List.sum_singleton]
theorem awy_wr (hJ : Jng m J) : ∀ (n q : Nat), q < n → q < m + J.length → ∀ z ∈ wrK ls m J q, awy ls m J z.1 q = z.2
  | 0, _, h, _, _, _ => absurd h (Nat.not_lt_zero _)
  | n + 1, q, h, hq, z, hz => by
    have F := hJ.facts
    by_cases c : q < m
    · rw [wrK_end c] at hz
      rw [List.mem_singleton.mp hz]
      unfold awy
      rw [List.filter_eq_nil_iff.mpr fun k hk => by have := chn_ge hk; simpa using this]; rfl
    obtain ⟨i, rfl⟩ : ∃ i, q = m + i := ⟨q - m, by omega⟩
    have hx := List.getElem?_eq_getElem (l := J) (i := i) (by omega)
    have hl := F.low i _ hx
    rw [wrK_joint hx hl] at hz
    have keys : ∀ s, s < m + i → ∀ y ∈ wrK ls m J s, y.1 ∈ belAt m J s := fun s hs y hy => by
      rw [← wrK_keys (ls := ls) hJ.root (s + 1) s (Nat.lt_succ_self s) (by omega)]
      exact List.mem_map.mpr ⟨y, hy, rfl⟩
    rcases List.mem_append.mp hz with h2 | h2
    · unfold wrS at h2
      obtain ⟨y, hy, rfl⟩ := List.mem_map.mp h2
      rw [awy_step hJ hx (.inl rfl) (keys _ hl.1 y hy), awy_wr hJ n _ (by omega) (by omega) y hy]
    · unfold wrS at h2
      obtain ⟨y, hy, rfl⟩ := List.mem_map.mp h2
      rw [awy_step hJ hx (.inr rfl) (keys _ hl.2 y hy), awy_wr hJ n _ (by omega) (by omega) y hy]
theorem meetN_joint (hJ : Jng m J) {i a b : Nat} {x : Nat × Nat} (hx : J[i]? = some x) (ha : a ∈ belAt m J x.1) (hb : b ∈ belAt m J x.2) : meetN m J a b = m + i := by
  have F := hJ.facts
  have hi := (List.getElem?_eq_some_iff.mp hx).1
  have hl := F.low i x hx
  have ham : a < m := (F.bnd x.1 (by omega)).2.2 a ha
  have hbm : b < m := (F.bnd x.2 (by omega)).2.2 b hb
  have hj := belAt_joint hx hl
  have hnd := (F.bnd (m + i) (by omega)).2.1
  rw [hj] at hnd
  have dis := (List.nodup_append.mp hnd).2.2
  have g := meetN_get hJ (a := a) (b := b) (by omega) (by omega)
  obtain ⟨h1, h2⟩ := List.mem_filter.mp (List.mem_of_getElem? g)
  obtain ⟨h3, h4⟩ := (chn_in ham).mp h1
  obtain ⟨_, h5⟩ := (chn_in hbm).mp (of_decide_eq_true h2)
  have hmem : m + i ∈ (chn m J a).filter fun k => decide (k ∈ chn m J b) := List.mem_filter.mpr ⟨(chn_in ham).mpr ⟨by omega, by rw [hj]; exact List.mem_append_left _ ha⟩, decide_eq_true ((chn_in hbm).mpr ⟨by omega, by rw [hj]; exact List.mem_append_right _ hb⟩)⟩
  have hrise : ((chn m J a).filter fun k => decide (k ∈ chn m J b)).Pairwise (· < ·) := chn_rise.sublist List.filter_sublist
  have hle : meetN m J a b ≤ m + i := by
    generalize (chn m J a).filter (fun k => decide (k ∈ chn m J b)) = l at *
    cases l with
    | nil => cases hmem
    | cons y r =>
      obtain rfl : y = meetN m J a b := by simpa using g
      rcases List.mem_cons.mp hmem with h | h
      · omega
      · have := (List.pairwise_cons.mp hrise).1 _ h
        omega
  generalize meetN m J a b = h at *
  by_cases c : h = m + i
  · exact c
  exfalso
  have up : ∀ s e, (x.1 = s ∨ x.2 = s) → e ∈ belAt m J s → e ∈ belAt m J h → h ≤ s := fun s e hs he hh => by
    refine Classical.byContradiction fun n => ?_
    have h6 : h ∈ chn m J s := chn_mem.mpr ⟨h3, by omega, F.nest (h + 1) s h e (Nat.lt_succ_self h) (by omega) he hh⟩
    rw [F.chn_step hx hs] at h6
    rcases List.mem_cons.mp h6 with h7 | h7
    · omega
    · have := chn_ge h7; omega
  have u1 := up x.1 a (.inl rfl) ha h4
  have u2 := F.nest (x.1 + 1) h x.1 a (Nat.lt_succ_self _) u1 h4 ha b h5
  exact dis b u2 b hb rfl
theorem wayN_joint (hJ : Jng m J) {i : Nat} {x : Nat × Nat} (hx : J[i]? = some x) {q r : Nat × Int} (hq : q ∈ wrS ls x.1 (wrK ls m J x.1)) (hr : r ∈ wrS ls x.2 (wrK ls m J x.2)) : wayN ls m J q.1 r.1 = q.2 + r.2 ∧ q.1 ∈ belAt m J x.1 ∧ r.1 ∈ belAt m J x.2 := by
  have F := hJ.facts
  have hi := (List.getElem?_eq_some_iff.mp hx).1
  have hl := F.low i x hx
  have keys : ∀ s, s < m + i → ∀ y ∈ wrK ls m J s, y.1 ∈ belAt m J s := fun s hs y hy => by
    rw [← wrK_keys (ls := ls) hJ.root (s + 1) s (Nat.lt_succ_self s) (by omega)]
    exact List.mem_map.mpr ⟨y, hy, rfl⟩
  unfold wrS at hq hr
  obtain ⟨y, hy, rfl⟩ := List.mem_map.mp hq
  obtain ⟨z, hz, rfl⟩ := List.mem_map.mp hr
  have k1 := keys _ hl.1 y hy
  have k2 := keys _ hl.2 z hz
  refine ⟨?_, k1, k2⟩
  unfold wayN
  rw [meetN_joint hJ hx k1 k2, awy_step hJ hx (.inl rfl) k1, awy_step hJ hx (.inr rfl) k2, awy_wr hJ (x.1 + 1) x.1 (Nat.lt_succ_self _) (by omega) y hy, awy_wr hJ (x.2 + 1) x.2 (Nat.lt_succ_self _) (by omega) z hz]
theorem wayN_comm {a b : Nat} : wayN ls m J a b = wayN ls m J b a := by
  unfold wayN
  rw [meetN_comm (a := a), Int.add_comm]
/-- two ends have too little wire -/
def ShP (sp : Nat → Int × Int) (ls : List Int) (m : Nat) (J : List (Nat × Nat)) (u v : Nat) : Prop := wayN ls m J u v < offZ (sp u) (sp v)
theorem ShP.comm {u v : Nat} (h : ShP sp ls m J u v) : ShP sp ls m J v u := by
  unfold ShP at h ⊢
  rw [wayN_comm, offZ_comm]; exact h
/-- two ends part at a joint -/
theorem parted (hJ : Jng m J) {u v : Nat} (hu : u < m) (hv : v < m) (hne : u ≠ v) : ∃ (i : Nat) (x : Nat × Nat), J[i]? = some x ∧ ((u ∈ belAt m J x.1 ∧ v ∈ belAt m J x.2) ∨ (v ∈ belAt m J x.1 ∧ u ∈ belAt m J x.2)) := by
  have F := hJ.facts
  have key : ∀ (n q : Nat), q < n → q < m + J.length → u ∈ belAt m J q → v ∈ belAt m J q → ∃ (i : Nat) (x : Nat × Nat), J[i]? = some x ∧ ((u ∈ belAt m J x.1 ∧ v ∈ belAt m J x.2) ∨ (v ∈ belAt m J x.1 ∧ u ∈ belAt m J x.2)) := by
    intro n
    induction n with
    | zero => intro q h; omega
    | succ n ih =>
      intro q h hq h1 h2
      by_cases c : q < m
      · rw [belAt_end c] at h1 h2
        exact absurd ((List.mem_singleton.mp h1).trans (List.mem_singleton.mp h2).symm) hne
      obtain ⟨i, rfl⟩ : ∃ i, q = m + i := ⟨q - m, by omega⟩
      have hx := List.getElem?_eq_getElem (l := J) (i := i) (by omega)
      have hl := F.low i _ hx
      rw [belAt_joint hx hl] at h1 h2
      rcases List.mem_append.mp h1 with a | a <;> rcases List.mem_append.mp h2 with b | b
      · exact ih _ (by omega) (by omega) a b
      · exact ⟨i, _, hx, .inl ⟨a, b⟩⟩
      · exact ⟨i, _, hx, .inr ⟨b, a⟩⟩
      · exact ih _ (by omega) (by omega) a b
  have hJl := hJ.1
  have hw := hJ.whole
  exact key (m + J.length) (m + J.length - 1) (by omega) (by omega) (hw.mem_iff.mpr (List.mem_range.mpr hu)) (hw.mem_iff.mpr (List.mem_range.mpr hv))
theorem shJ_mem (hJ : Jng m J) {u v : Nat} : (u, v) ∈ shJ sp ls m J J ↔ u < v ∧ v < m ∧ ShP sp ls m J u v := by
  have F := hJ.facts
  unfold shJ
  rw [List.mem_flatMap]
  constructor
  · rintro ⟨x, hxm, h⟩
    obtain ⟨i, hx⟩ := List.mem_iff_getElem?.mp hxm
    have hi := (List.getElem?_eq_some_iff.mp hx).1
    have hl := F.low i x hx
    unfold shR at h
    obtain ⟨q, hq, h⟩ := List.mem_flatMap.mp h
    obtain ⟨r, hr, e⟩ := List.mem_map.mp h
    obtain ⟨hr, hd⟩ := List.mem_filter.mp hr
    have hd := of_decide_eq_true hd
    obtain ⟨w1, k1, k2⟩ := wayN_joint hJ hx hq hr
    have hnd := (F.bnd (m + i) (by omega)).2.1
    rw [belAt_joint hx hl] at hnd
    have hne : q.1 ≠ r.1 := fun e => (List.nodup_append.mp hnd).2.2 q.1 k1 r.1 k2 e
    have b1 := (F.bnd x.1 (by omega)).2.2 _ k1
    have b2 := (F.bnd x.2 (by omega)).2.2 _ k2
    have hS : ShP sp ls m J q.1 r.1 := by unfold ShP; rw [w1]; exact hd
    simp only [Prod.mk.injEq] at e
    obtain ⟨e1, e2⟩ := e
    rcases Nat.lt_or_ge q.1 r.1 with c | c
    · rw [Nat.min_eq_left (by omega)] at e1
      rw [Nat.max_eq_right (by omega)] at e2
      subst e1 e2
      exact ⟨c, b2, hS⟩
    · rw [Nat.min_eq_right (by omega)] at e1
      rw [Nat.max_eq_left (by omega)] at e2
      subst e1 e2
      exact ⟨by omega, b1, hS.comm⟩
  · rintro ⟨h1, h2, hS⟩
    obtain ⟨i, x, hx, hp⟩ := parted hJ (u := u) (v := v) (by omega) h2 (by omega)
    have hi := (List.getElem?_eq_some_iff.mp hx).1
    have hl := F.low i x hx
    refine ⟨x, List.mem_of_getElem? hx, ?_⟩
    have find : ∀ (s e : Nat), s < m + J.length → e ∈ belAt m J s → ∃ q ∈ wrS ls s (wrK ls m J s), q.1 = e := fun s e hs he => by
      rw [← wrK_keys (ls := ls) hJ.root (s + 1) s (Nat.lt_succ_self s) hs, ← wrS_keys (ls := ls) (k := s)] at he
      obtain ⟨q, hq, e⟩ := List.mem_map.mp he
      exact ⟨q, hq, e⟩
    unfold shR
    rw [List.mem_flatMap]
    rcases hp with ⟨ha, hb⟩ | ⟨ha, hb⟩
    · obtain ⟨q, hq, rfl⟩ := find x.1 u (by omega) ha
      obtain ⟨r, hr, rfl⟩ := find x.2 v (by omega) hb
      refine ⟨q, hq, List.mem_map.mpr ⟨r, List.mem_filter.mpr ⟨hr, decide_eq_true ?_⟩, by rw [Nat.min_eq_left (by omega), Nat.max_eq_right (by omega)]⟩⟩
      rw [← (wayN_joint hJ hx hq hr).1]; exact hS
    · obtain ⟨q, hq, rfl⟩ := find x.1 v (by omega) ha
      obtain ⟨r, hr, rfl⟩ := find x.2 u (by omega) hb
      refine ⟨q, hq, List.mem_map.mpr ⟨r, List.mem_filter.mpr ⟨hr, decide_eq_true ?_⟩, by rw [Nat.min_eq_right (by omega), Nat.max_eq_left (by omega)]⟩⟩
      rw [← (wayN_joint hJ hx hq hr).1]; exact hS.comm
/-- the first of them -/
structure FstS (sp : Nat → Int × Int) (ls : List Int) (m : Nat) (J : List (Nat × Nat)) (u v : Nat) : Prop where
  lt : u < v
  low : v < m
  sh : ShP sp ls m J u v
  fst : ∀ a b, a < b → b < m → ShP sp ls m J a b → u < a ∨ (u = a ∧ v ≤ b)
theorem FstS.uniq {u v a b : Nat} (h : FstS sp ls m J u v) (k : FstS sp ls m J a b) : u = a ∧ v = b := by
  have h1 := h.fst a b k.lt k.low k.sh
  have h2 := k.fst u v h.lt h.low h.sh
  omega
/-- none ahead of a pair -/
def NoS (sp : Nat → Int × Int) (ls : List Int) (m : Nat) (J : List (Nat × Nat)) (a b : Nat) : Prop := ∀ u v, u < v → v < m → ShP sp ls m J u v → ¬ (u < a ∨ (u = a ∧ v < b))
theorem NoS.start : NoS sp ls m J 0 0 := fun u v h1 h2 h3 h4 => by omega
theorem NoS.enter {a : Nat} (h : NoS sp ls m J a 0) : NoS sp ls m J a (a + 1) := fun u v h1 h2 h3 h4 => h u v h1 h2 h3 (by omega)
theorem NoS.skip {a b : Nat} (h : NoS sp ls m J a b) (hn : ¬ ShP sp ls m J a b) : NoS sp ls m J a (b + 1) := fun u v h1 h2 h3 h4 => by
  by_cases c : u = a ∧ v = b
  · obtain ⟨rfl, rfl⟩ := c; exact hn h3
  · exact h u v h1 h2 h3 (by omega)
theorem NoS.next {a : Nat} (h : NoS sp ls m J a m) : NoS sp ls m J (a + 1) 0 := fun u v h1 h2 h3 h4 => h u v h1 h2 h3 (by omega)
theorem NoS.next' {a b : Nat} (h : NoS sp ls m J a b) (hb : m ≤ b) : NoS sp ls m J (a + 1) 0 := fun u v h1 h2 h3 h4 => h u v h1 h2 h3 (by omega)
theorem NoS.hit {a b : Nat} (h : NoS sp ls m J a b) (h1 : a < b) (h2 : b < m) (hs : ShP sp ls m J a b) : FstS sp ls m J a b := ⟨h1, h2, hs, fun u v k1 k2 k3 => by
  have := h u v k1 k2 k3
  omega⟩
theorem NoS.done {b : Nat} (hJ : Jng m J) (h : NoS sp ls m J m b) : FitJ sp ls m J := by
  rw [← shJ_nil]
  cases e : shJ sp ls m J J with
  | nil => rfl
  | cons p r =>
    obtain ⟨u, v⟩ := p
    obtain ⟨h1, h2, h3⟩ := (shJ_mem hJ).mp (show (u, v) ∈ shJ sp ls m J J by rw [e]; exact List.mem_cons_self)
    exact absurd (by omega : u < m ∨ (u = m ∧ v < b)) (h u v h1 h2 h3)
theorem fst_of_sorted (hJ : Jng m J) {u v : Nat} {r : List (Nat × Nat)} (hp : ((u, v) :: r).Perm (shJ sp ls m J J)) (hs : ((u, v) :: r).Pairwise (fun x y => LexP ((x.1 : Int), (x.2 : Int)) ((y.1 : Int), (y.2 : Int)))) : FstS sp ls m J u v := by
  obtain ⟨h1, h2, h3⟩ := (shJ_mem hJ).mp (hp.mem_iff.mp List.mem_cons_self)
  refine ⟨h1, h2, h3, fun a b k1 k2 k3 => ?_⟩
  rcases List.mem_cons.mp (hp.mem_iff.mpr ((shJ_mem hJ).mpr ⟨k1, k2, k3⟩)) with e | hm
  · simp only [Prod.mk.injEq] at e
    omega
  · have := (List.pairwise_cons.mp hs).1 _ hm
    unfold LexP at this
    dsimp only at this
    omega
end
end Wk

set_option Elab.async false
set_option linter.all false
set_option maxRecDepth 100000
namespace Wk
open PySem PySem.Spec L2 WkE
/-! laid trees: from above down, each knot at the nearest spot of its box -/
theorem rngR_W {n : Nat} {i : Int} (h : i = (n : Int) - 1) : rngR i = rngW n := by
  subst h
  unfold rngR rngW
  rw [show ((n : Int) - 1 + 1).toNat = n by omega]
def nearB (b : Int × Int × Int × Int) (z : Int × Int) : Int × Int := (min (max z.1 b.1) b.2.1, min (max z.2 b.2.2.1) b.2.2.2)
def inB (b : Int × Int × Int × Int) (z : Int × Int) : Prop := (b.1 ≤ z.1 ∧ z.1 ≤ b.2.1) ∧ b.2.2.1 ≤ z.2 ∧ z.2 ≤ b.2.2.2
instance {b : Int × Int × Int × Int} {z : Int × Int} : Decidable (inB b z) := inferInstanceAs (Decidable (_ ∧ _))
def cornB (b : Int × Int × Int × Int) : Int × Int := (b.1, b.2.2.1)
theorem nearB_in {b : Int × Int × Int × Int} {z : Int × Int} (h : NeB b) : inB b (nearB b z) := by
  obtain ⟨h1, h2⟩ := h
  unfold inB nearB
  simp only
  omega
theorem cornB_in {b : Int × Int × Int × Int} (h : NeB b) : inB b (cornB b) := by
  obtain ⟨h1, h2⟩ := h
  unfold inB cornB
  simp only
  omega
theorem near_off {b : Int × Int × Int × Int} {z : Int × Int} {l : Int} (h : NeB b) (hz : inB (grW b l) z) (hl : 0 ≤ l) : offZ (nearB b z) z ≤ l := by
  obtain ⟨h1, h2⟩ := h
  unfold inB grW at hz
  unfold offZ nearB
  simp only at hz ⊢
  omega
section
variable {sp : Nat → Int × Int} {ls : List Int} {m i : Nat} {J : List (Nat × Nat)} {x : Nat × Nat} {W : List (Int × Int)} {ro : Int × Int}
abbrev bxK (sp : Nat → Int × Int) (ls : List Int) (m : Nat) (J : List (Nat × Nat)) (k : Nat) : Int × Int × Int × Int := bxW sp (wrK ls m J k)
abbrev LdP (sp : Nat → Int × Int) (ls : List Int) (m : Nat) (J : List (Nat × Nat)) (ro : Int × Int) (W : List (Int × Int)) : Prop := PosGL m J ro (fun k => nearB (bxK sp ls m J k)) W
theorem neb_K (hJ : Jng m J) (hp : ∀ l ∈ ls, 0 ≤ l) (hf : FitJ sp ls m J) {k : Nat} (hk : k < m + J.length) : NeB (bxK sp ls m J k) :=
  hJ.2.elim fun _ h => neb_all h hp hf (k + 1) k (Nat.lt_succ_self k) hk hk
theorem bx_side (hJ : Jng m J) (hx : J[i]? = some x) {z : Int × Int} (h : inB (bxK sp ls m J (m + i)) z) : inB (grW (bxK sp ls m J x.1) (ls.getD x.1 0)) z ∧ inB (grW (bxK sp ls m J x.2) (ls.getD x.2 0)) z := by
  obtain ⟨_, hW⟩ := hJ.2
  have hi := (List.getElem?_eq_some_iff.mp hx).1
  have hl := hW.facts.low i x hx
  have e1 := wrK_ne (ls := ls) hW (k := x.1) (by omega)
  have e2 := wrK_ne (ls := ls) hW (k := x.2) (by omega)
  rw [show bxK sp ls m J (m + i) = bxW sp (wrK ls m J (m + i)) from rfl, wrK_joint hx hl, bxW_app (wrS_ne e1) (wrS_ne e2)] at h
  rw [show bxK sp ls m J x.1 = bxW sp (wrK ls m J x.1) from rfl, show bxK sp ls m J x.2 = bxW sp (wrK ls m J x.2) from rfl, ← bxW_grow e1, ← bxW_grow e2]
  generalize bxW sp (wrS ls x.1 (wrK ls m J x.1)) = a at *
  generalize bxW sp (wrS ls x.2 (wrK ls m J x.2)) = b at *
  unfold inB at *
  simp only at h
  omega
theorem LdP.in (hJ : Jng m J) (hp : ∀ l ∈ ls, 0 ≤ l) (hf : FitJ sp ls m J) (h : LdP sp ls m J ro W) (hr : inB (bxK sp ls m J (m + J.length - 1)) ro) {k : Nat} (hk : k < m + J.length) : ∃ w, W[k]? = some w ∧ inB (bxK sp ls m J k) w := by
  by_cases c : k + 1 < m + J.length
  · obtain ⟨i, x, hx, hs⟩ := row_over hJ c
    obtain ⟨w, _, h1, h2⟩ := h.2.2 i x (Nat.zero_le _) hx
    rcases hs with rfl | rfl
    · exact ⟨_, h1, nearB_in (neb_K hJ hp hf hk)⟩
    · exact ⟨_, h2, nearB_in (neb_K hJ hp hf hk)⟩
  · obtain rfl : k = m + J.length - 1 := by omega
    exact ⟨ro, h.2.1, hr⟩
theorem LdP.far (hJ : Jng m J) (hp : ∀ l ∈ ls, 0 ≤ l) (hf : FitJ sp ls m J) (h : LdP sp ls m J ro W) (hr : inB (bxK sp ls m J (m + J.length - 1)) ro) (hx : J[i]? = some x) :
    ∃ a b w, W[x.1]? = some a ∧ W[x.2]? = some b ∧ W[m + i]? = some w ∧ offZ a w ≤ ls.getD x.1 0 ∧ offZ b w ≤ ls.getD x.2 0 := by
  have hi := (List.getElem?_eq_some_iff.mp hx).1
  have hl := hJ.facts.low i x hx
  obtain ⟨w, h0, h1, h2⟩ := h.2.2 i x (Nat.zero_le _) hx
  obtain ⟨w', h3, h4⟩ := h.in hJ hp hf hr (k := m + i) (by omega)
  have e : w = w' := by
    have h0' : W[m + i]? = some w := h0
    rw [h0'] at h3; exact Option.some.inj h3
  subst e
  have hs := bx_side hJ hx h4
  exact ⟨_, _, w, h1, h2, h0, near_off (neb_K hJ hp hf (by omega)) hs.1 (ls_nn hp _), near_off (neb_K hJ hp hf (by omega)) hs.2 (ls_nn hp _)⟩
theorem bxK_end {k : Nat} (hk : k < m) : bxK sp ls m J k = ((sp k).1 - 0, (sp k).1 + 0, (sp k).2 - 0, (sp k).2 + 0) := by
  show bxW sp (wrK ls m J k) = _
  rw [wrK_end hk]; rfl
theorem inB_end {k : Nat} {w : Int × Int} (hk : k < m) (h : inB (bxK sp ls m J k) w) : w = sp k := by
  rw [bxK_end hk] at h
  unfold inB at h
  simp only at h
  exact Prod.ext (by omega) (by omega)
theorem nearB_end {k : Nat} {z : Int × Int} (hk : k < m) : nearB (bxK sp ls m J k) z = sp k := by
  rw [bxK_end hk]
  unfold nearB
  refine Prod.ext ?_ ?_ <;> (simp only; omega)
theorem LdP.ends (hJ : Jng m J) (hp : ∀ l ∈ ls, 0 ≤ l) (hf : FitJ sp ls m J) (h : LdP sp ls m J ro W) (hr : inB (bxK sp ls m J (m + J.length - 1)) ro) {k : Nat} (hk : k < m) : W[k]? = some (sp k) := by
  obtain ⟨w, h1, h2⟩ := h.in hJ hp hf hr (k := k) (by omega)
  rw [h1, inB_end hk h2]
theorem DicN.putG {kds : List (Key × D)} {g : Nat → Option (Int × Int)} (h : DicN kds fun j => (g j).map zD) (k : Nat) (v : Int × Int) : DicN (putD kds (.inl (k : Int)) (zD v)) fun j => (upG g k v j).map zD := fun j => by
  rw [(h.put k (zD v)) j]
  show (if k = j then some (zD v) else (g j).map zD) = ((if k = j then some v else g j).map zD)
  by_cases c : k = j
  · rw [if_pos c, if_pos c]; rfl
  · rw [if_neg c, if_neg c]
end
end Wk

namespace Lw
open PySem PySem.Spec L2 Wk
local macro_rules | `(tactic| exists "gx") => `(tactic| fail)
local macro_rules | `(tactic| exists "sz") => `(tactic| exact Nat.le_of_ble_eq_true (by rfl))
local macro_rules | `(tactic| exists "cc") => `(tactic| first
  | exact mul_l (by omega) (by omega)
  | exact mul_r (by omega) (by omega)
  | exact div_w (by omega) (by omega)
  | (show (0 : Int) < _; omega))
local macro_rules | `(tactic| exists "om") => `(tactic| first | omega | (simp only [List.length_cons, List.length_nil]; omega))
local macro_rules | `(tactic| exists "bo") => `(tactic| first | rfl | exact decide_eq_decide.mpr (by omega) | exact (decide_eq_true (by omega)).symm | exact (decide_eq_false (by omega)).symm | exact decide_eq_true (by omega) | exact decide_eq_false (by omega))
local macro_rules | `(tactic| exists "lz") => `(tactic| first | exact lt_size (by simp only [List.length_map, List.length_range, List.length_zipIdx]; omega) | exact lt_size (by omega) | exact Nat.le_of_ble_eq_true (by rfl) | exact lt_size (by simp only [List.length_append, List.length_cons, List.length_nil, List.length_take, List.length_map]; omega))
local macro_rules | `(tactic| exists "ls") => `(tactic| first | exact le_size (by omega) | exact le_size (by simp only [List.length_append, List.length_cons, List.length_nil] <;> omega) | exact le_size (by simp only [List.length_map, List.length_append, List.length_cons, List.length_nil, List.length_zipIdx, List.length_range] <;> omega))
local macro_rules | `(tactic| exists "sn") => `(tactic| with_reducible refine s_next ?_)
local macro_rules | `(tactic| exists "dk") => `(tactic| repeat (first | with_reducible assumption | with_reducible apply Dk.here | with_reducible apply Dk.cons | with_reducible apply Dk.app))
local macro_rules | `(tactic| exists "le") => `(tactic| repeat (first | exact True.intro | refine ⟨rfl, ?_⟩))
local macro_rules | `(tactic| exists "nd") => `(tactic| ((try simp only [wipeD, List.set_cons_zero, List.set_cons_succ, List.set_nil, List.set_set]); with_reducible rfl))
local macro_rules | `(tactic| exists "de") => `(tactic| first | with_reducible assumption | rfl | (simp only [D.tup.injEq, List.cons.injEq, D.int.injEq, and_true, true_and, and_self, Int.sub_self, Int.mul_add, Int.mul_sub]; try omega))
local macro_rules | `(tactic| exists "wk") => `(tactic| repeat (first | with_reducible exact Weak.refl | with_reducible apply weak_skip | with_reducible apply weak_appS))
local macro_rules | `(tactic| exists "gW") => `(tactic| first
  | ((with_reducible refine' w_var ?hv ?_); (case hv => rfl))
  | with_reducible refine w_int ?_
  | with_reducible refine w_op ?_
  | with_reducible refine w_call ?_
  | with_reducible refine w_cb ?_
  | with_reducible refine w_tup ?_
  | with_reducible refine w_lst ?_
  | with_reducible refine w_bl ?_
  | with_reducible refine w_str ?_
  | with_reducible refine w_non ?_
  | with_reducible refine w_ty ?_
  | with_reducible refine w_un ?_
  | with_reducible refine w_sl ?_
  | with_reducible refine w_andV ?_
  | with_reducible refine w_orV ?_
  | with_reducible refine w_notV ?_
  | with_reducible refine w_chain ?_
  | with_reducible refine w_ifE ?_
  | with_reducible refine w_bm ?_
  | with_reducible refine w_bm0 ?_
  | with_reducible refine w_dget ?_
  | with_reducible refine w_din ?_
  | with_reducible refine w_dnotin ?_
  | with_reducible refine w_dnew ?_
  | ((with_reducible refine' w_lcQ ?hg ?_); (case hg => (first | exact gin_name (by simp) | exact gin_tup (gins_cons (by simp) (gins_cons (by simp) gins_nil)) | exact gin_tup (gins_cons (by simp) (gins_cons (by simp) (gins_cons (by simp) gins_nil))) | exact gin_tup (gins_cons (by simp) (gins_cons (by simp) (gins_cons (by simp) (gins_cons (by simp) gins_nil)))))))
  | with_reducible refine w_rev ?_
  | with_reducible refine w_listRg1 ?_
  | with_reducible refine w_tupRg1 ?_
  | with_reducible refine w_refc ?_)
local macro_rules | `(tactic| exists "gS") => `(tactic| first
  | with_reducible refine s_seq ?_
  | with_reducible refine s_asg ?_
  | with_reducible refine s_next ?_
  | with_reducible refine s_ret ?_
  | with_reducible refine s_if ?_
  | with_reducible refine s_forQ ?_
  | with_reducible refine s_drop ?_
  | with_reducible refine s_brk ?_
  | with_reducible refine s_cont ?_
  | with_reducible refine s_retN ?_
  | with_reducible refine s_dputK ?_
  | ((with_reducible refine' s_aug ?hv ?_); (case hv => rfl)))
local macro_rules | `(tactic| exists "gT") => `(tactic| first
  | with_reducible refine wt_test ?_
  | with_reducible refine wt_B ?_
  | with_reducible refine wt_not ?_
  | with_reducible refine wt_and ?_
  | with_reducible refine wt_or ?_
  | with_reducible refine wt_yes ?_)
local macro_rules | `(tactic| exists "gA") => `(tactic| first
  | with_reducible refine wa_cons ?_
  | with_reducible refine wa_nil ?_)
local macro_rules | `(tactic| exists "gG") => `(tactic| first
  | with_reducible refine wg_name ?_
  | ((with_reducible refine' wg_tup ?hv ?_); (case hv => rfl))
  | with_reducible refine wgs_cons ?_
  | with_reducible refine wgs_nil ?_
  | with_reducible refine wg_setLK ?_)
local macro_rules | `(tactic| exists "gO") => `(tactic| first
  | with_reducible refine wo_none ?_
  | with_reducible refine wo_some ?_)
local macro_rules | `(tactic| exists "g2") => `(tactic| first
  | with_reducible refine w2_addI ?_
  | with_reducible refine w2_i ?_
  | with_reducible refine w2_b ?_
  | with_reducible refine w2_powK ?_
  | ((with_reducible refine' w2_c ?hc ?_); (case hc => (exists "cc")))
  | ((with_reducible refine' w2_ixT ?hc ?_); (case hc => rfl))
  | ((with_reducible refine' w2_ixL (j := 0) ?hm ?hc ?_); (case hm => rfl); (case hc => rfl))
  | ((with_reducible refine' w2_ixL (j := 1) ?hm ?hc ?_); (case hm => rfl); (case hc => rfl))
  | ((with_reducible refine' w2_ixL (j := 2) ?hm ?hc ?_); (case hm => rfl); (case hc => rfl))
  | ((with_reducible refine' w2_ixL (j := 3) ?hm ?hc ?_); (case hm => rfl); (case hc => rfl))
  | ((with_reducible refine' w2_ixL (j := 4) ?hm ?hc ?_); (case hm => rfl); (case hc => rfl))
  | ((with_reducible refine' w2_eqs ?hx ?_); (case hx => first | with_reducible assumption | rfl))
  | ((with_reducible refine' w2_nes ?hx ?_); (case hx => first | with_reducible assumption | rfl))
  | ((with_reducible refine' w2_eqIt ?h ?_); (case h => (exists "om")))
  | ((with_reducible refine' w2_neIt ?h ?_); (case h => (exists "om")))
  | with_reducible refine w2_eqI ?_
  | with_reducible refine w2_neI ?_
  | with_reducible refine w2_eqB ?_
  | with_reducible refine w2_neB ?_
  | ((with_reducible refine' w2_eqE ?he ?hx ?_); (case he => (exists "de")); (case hx => first | with_reducible assumption | rfl))
  | ((with_reducible refine' w2_neE ?he ?hx ?_); (case he => (exists "de")); (case hx => first | with_reducible assumption | rfl))
  | ((with_reducible refine' w2_eq ?hx ?hy ?_); (case hx => rfl); (case hy => rfl))
  | ((with_reducible refine' w2_ne ?hx ?hy ?_); (case hx => rfl); (case hy => rfl))
  | with_reducible refine w2_isN rfl ?_
  | with_reducible refine w2_isntT ?_
  | with_reducible refine w2_isntR ?_
  | with_reducible refine w2_isntI ?_
  | with_reducible refine w2_isntS ?_
  | with_reducible refine w2_notnt rfl ?_
  | with_reducible refine w2_notNT ?_
  | with_reducible refine w2_notNR ?_
  | with_reducible refine w2_notNI ?_
  | with_reducible refine w2_notNS ?_
  | ((with_reducible refine' w2_addT ?hx ?hy ?_); (case hx => exact List.cons_ne_nil _ _); (case hy => (exists "sz"))))
local macro_rules | `(tactic| exists "g2") => `(tactic| first
  | ((with_reducible refine' w2_addL (i := 1) (j := 0) ?ha ?hb ?hz ?_); (case ha => rfl); (case hb => rfl); (case hz => (exists "ls")))
  | ((with_reducible refine' w2_addL (i := 0) (j := 1) ?ha ?hb ?hz ?_); (case ha => rfl); (case hb => rfl); (case hz => (exists "ls")))
  | ((with_reducible refine' w2_addL (i := 2) (j := 0) ?ha ?hb ?hz ?_); (case ha => rfl); (case hb => rfl); (case hz => (exists "ls"))))
local macro_rules | `(tactic| exists "g1") => `(tactic| first
  | with_reducible refine w1_neg ?_)
local macro_rules | `(tactic| exists "gC") => `(tactic| first
  | with_reducible refine wc_max2 ?_
  | with_reducible refine wc_min2 ?_
  | with_reducible refine wc_absM ?_
  | with_reducible refine wc_max3 ?_
  | with_reducible refine wc_max4 ?_
  | with_reducible refine wc_max5 ?_
  | with_reducible refine wc_min3 ?_
  | with_reducible refine wc_lenTm ?_
  | with_reducible refine wc_lenT ?_
  | ((with_reducible refine' wc_lenLm (j := 0) ?hm ?_); (case hm => (with_reducible rfl)))
  | ((with_reducible refine' wc_lenL (j := 0) ?hm ?_); (case hm => rfl))
  | ((with_reducible refine' wc_lenL (j := 1) ?hm ?_); (case hm => rfl))
  | with_reducible refine wc_intI ?_
  | with_reducible refine wc_intB ?_
  | ((with_reducible refine' wc_isiIt ?hz ?_); (case hz => decide +kernel))
  | ((with_reducible refine' wc_isiIf ?hz ?_); (case hz => decide +kernel))
  | ((with_reducible refine' wc_isiTt ?hz ?_); (case hz => decide +kernel))
  | ((with_reducible refine' wc_isiTf ?hz ?_); (case hz => decide +kernel))
  | ((with_reducible refine' wc_isiBt ?hz ?_); (case hz => decide +kernel))
  | ((with_reducible refine' wc_isiBf ?hz ?_); (case hz => decide +kernel))
  | ((with_reducible refine' wc_isiSt ?hz ?_); (case hz => decide +kernel))
  | ((with_reducible refine' wc_isiSf ?hz ?_); (case hz => decide +kernel))
  | ((with_reducible refine' wc_isiNt ?hz ?_); (case hz => decide +kernel))
  | ((with_reducible refine' wc_isiNf ?hz ?_); (case hz => decide +kernel))
  | with_reducible refine wc_tupT ?_
  | ((with_reducible refine' wc_tupL (j := 0) ?hm ?_); (case hm => rfl))
  | ((with_reducible refine' wc_tupL (j := 1) ?hm ?_); (case hm => rfl))
  | with_reducible refine wc_listT ?_
  | ((with_reducible refine' wc_listL (j := 0) ?hm ?_); (case hm => rfl)))
local macro_rules | `(tactic| exists "gL") => `(tactic| first
  | with_reducible refine wsl_02 ?_
  | with_reducible refine wsl_24 ?_
  | with_reducible refine wsl_tup ?_
  | with_reducible refine wsl_scrI fun _ _ _ => ?_
  | ((with_reducible refine' wsl_lst (j := 0) ?hm ?_); (case hm => rfl))
  | ((with_reducible refine' wsl_lst (j := 1) ?hm ?_); (case hm => rfl))
  | ((with_reducible refine' wsl_lst (j := 2) ?hm ?_); (case hm => rfl))
  | ((with_reducible refine' wsl_lst (j := 3) ?hm ?_); (case hm => rfl)))
local macro_rules | `(tactic| exists "gP") => `(tactic| first
  | with_reducible refine wps_cons ?_
  | with_reducible refine wps_nil ?_)
local macro_rules | `(tactic| exists "gM") => `(tactic| first
  | ((with_reducible refine' wm_append (j := 0) ?hm ?hz ?_); (case hm => rfl); (case hz => (exists "lz")))
  | ((with_reducible refine' wm_append (j := 1) ?hm ?hz ?_); (case hm => rfl); (case hz => (exists "lz")))
  | ((with_reducible refine' wm_append (j := 2) ?hm ?hz ?_); (case hm => rfl); (case hz => (exists "lz")))
  | ((with_reducible refine' wm_append (j := 3) ?hm ?hz ?_); (case hm => rfl); (case hz => (exists "lz"))))
local macro_rules | `(tactic| exists "gI") => `(tactic| first
  | with_reducible refine wi_listK ?_
  | with_reducible refine wi_tup ?_
  | with_reducible refine wi_enumT ?_
  | with_reducible refine wi_enumK ?_
  | with_reducible refine wi_zip ?_
  | with_reducible refine wi_rng1 ?_
  | with_reducible refine wi_rng2 ?_)
local macro_rules | `(tactic| exists "g3") => `(tactic| first
  | with_reducible refine split_t ?_
  | with_reducible refine split_f ?_
  | with_reducible refine split_nt ?_
  | with_reducible refine split_nf ?_
  | ((with_reducible refine' split_xb ?h ?_); (case h => (exists "bo")))
  | ((with_reducible refine' split_xe ?h ?_); (case h => (exists "bo")))
  | ((with_reducible refine' split_dt ?h ?_); (case h => (exists "om")))
  | ((with_reducible refine' split_df ?h ?_); (case h => (exists "om")))
  | ((with_reducible refine' split_ndt ?h ?_); (case h => (exists "om")))
  | ((with_reducible refine' split_ndf ?h ?_); (case h => (exists "om")))
  | ((with_reducible refine' ⟨ty_lst (j := 0) ?hm, ?_⟩); (case hm => rfl))
  | ((with_reducible refine' ⟨ty_lst (j := 1) ?hm, ?_⟩); (case hm => rfl))
  | ((with_reducible refine' ⟨ty_lst (j := 2) ?hm, ?_⟩); (case hm => rfl))
  | ((with_reducible refine' ⟨ty_lst (j := 3) ?hm, ?_⟩); (case hm => rfl))
  | refine ⟨_, 0, _, rfl, rfl, ?_⟩
  | refine ⟨_, 1, _, rfl, rfl, ?_⟩
  | refine ⟨_, 2, _, rfl, rfl, ?_⟩
  | refine ⟨_, 0, _, _, _, rfl, rfl, rfl, by rfl, ?_⟩
  | refine ⟨_, 1, _, _, _, rfl, rfl, rfl, by rfl, ?_⟩
  | refine ⟨_, 2, _, _, _, rfl, rfl, rfl, by rfl, ?_⟩
  | refine ⟨_, rfl, ⟨by omega, by omega⟩, ?_⟩
  | refine ⟨_, 0, _, .inr _, _, rfl, rfl, rfl, by rfl, ?_⟩
  | refine ⟨_, 0, _, .inr _, [(_, _), (_, _), (_, _), (_, _)], _, rfl, rfl, rfl, Nat.le_of_ble_eq_true (by rfl), by rfl, rfl, ?_⟩
  | ((with_reducible refine ⟨?hz, ?_⟩); (case hz => (exists "sz")))
  | (refine ⟨?hz, ?_⟩; (case hz => rfl))
  | (refine ⟨_, rfl, ?_⟩)
  | (with_reducible intro _))
local macro_rules | `(tactic| exists "gR") => `(tactic| first
  | with_reducible refine wrev_2 ?_
  | with_reducible refine wrev_m ?_
  | with_reducible refine wrev_t ?_
  | ((with_reducible refine' wrev_lm (j := 0) ?hm ?_); (case hm => (with_reducible rfl)))
  | ((with_reducible refine' wrev_l (j := 0) ?hm ?_); (case hm => rfl))
  | ((with_reducible refine' wrev_l (j := 1) ?hm ?_); (case hm => rfl))
  | ((with_reducible refine' wrev_l (j := 2) ?hm ?_); (case hm => rfl)))
local macro_rules | `(tactic| exists "lk12") => `(tactic| first | with_reducible assumption | with_reducible apply Lk.here)
local macro_rules | `(tactic| exists "lk11") => `(tactic| first | with_reducible assumption | with_reducible apply Lk.here | ((first | with_reducible apply Lk.cons | with_reducible apply Lk.app); (exists "lk12")))
local macro_rules | `(tactic| exists "lk10") => `(tactic| first | with_reducible assumption | with_reducible apply Lk.here | ((first | with_reducible apply Lk.cons | with_reducible apply Lk.app); (exists "lk11")))
local macro_rules | `(tactic| exists "lk9") => `(tactic| first | with_reducible assumption | with_reducible apply Lk.here | ((first | with_reducible apply Lk.cons | with_reducible apply Lk.app); (exists "lk10")))
local macro_rules | `(tactic| exists "lk8") => `(tactic| first | with_reducible assumption | with_reducible apply Lk.here | ((first | with_reducible apply Lk.cons | with_reducible apply Lk.app); (exists "lk9")))
local macro_rules | `(tactic| exists "lk7") => `(tactic| first | with_reducible assumption | with_reducible apply Lk.here | ((first | with_reducible apply Lk.cons | with_reducible apply Lk.app); (exists "lk8")))
local macro_rules | `(tactic| exists "lk6") => `(tactic| first | with_reducible assumption | with_reducible apply Lk.here | ((first | with_reducible apply Lk.cons | with_reducible apply Lk.app); (exists "lk7")))
local macro_rules | `(tactic| exists "lk5") => `(tactic| first | with_reducible assumption | with_reducible apply Lk.here | ((first | with_reducible apply Lk.cons | with_reducible apply Lk.app); (exists "lk6")))
local macro_rules | `(tactic| exists "lk4") => `(tactic| first | with_reducible assumption | with_reducible apply Lk.here | ((first | with_reducible apply Lk.cons | with_reducible apply Lk.app); (exists "lk5")))
local macro_rules | `(tactic| exists "lk3") => `(tactic| first | with_reducible assumption | with_reducible apply Lk.here | ((first | with_reducible apply Lk.cons | with_reducible apply Lk.app); (exists "lk4")))
local macro_rules | `(tactic| exists "lk2") => `(tactic| first | with_reducible assumption | with_reducible apply Lk.here | ((first | with_reducible apply Lk.cons | with_reducible apply Lk.app); (exists "lk3")))
local macro_rules | `(tactic| exists "lk1") => `(tactic| first | with_reducible assumption | with_reducible apply Lk.here | ((first | with_reducible apply Lk.cons | with_reducible apply Lk.app); (exists "lk2")))
local macro_rules | `(tactic| exists "lk") => `(tactic| first | with_reducible assumption | with_reducible apply Lk.here | ((first | with_reducible apply Lk.cons | with_reducible apply Lk.app); (exists "lk1")))
local macro_rules | `(tactic| exists "ck12") => `(tactic| first | with_reducible assumption | with_reducible apply Ck.here)
local macro_rules | `(tactic| exists "ck11") => `(tactic| first | with_reducible assumption | with_reducible apply Ck.here | (with_reducible apply Ck.cons; (exists "ck12")))
local macro_rules | `(tactic| exists "ck10") => `(tactic| first | with_reducible assumption | with_reducible apply Ck.here | (with_reducible apply Ck.cons; (exists "ck11")))
local macro_rules | `(tactic| exists "ck9") => `(tactic| first | with_reducible assumption | with_reducible apply Ck.here | (with_reducible apply Ck.cons; (exists "ck10")))
local macro_rules | `(tactic| exists "ck8") => `(tactic| first | with_reducible assumption | with_reducible apply Ck.here | (with_reducible apply Ck.cons; (exists "ck9")))
local macro_rules | `(tactic| exists "ck7") => `(tactic| first | with_reducible assumption | with_reducible apply Ck.here | (with_reducible apply Ck.cons; (exists "ck8")))
local macro_rules | `(tactic| exists "ck6") => `(tactic| first | with_reducible assumption | with_reducible apply Ck.here | (with_reducible apply Ck.cons; (exists "ck7")))
local macro_rules | `(tactic| exists "ck5") => `(tactic| first | with_reducible assumption | with_reducible apply Ck.here | (with_reducible apply Ck.cons; (exists "ck6")))
local macro_rules | `(tactic| exists "ck4") => `(tactic| first | with_reducible assumption | with_reducible apply Ck.here | (with_reducible apply Ck.cons; (exists "ck5")))
local macro_rules | `(tactic| exists "ck3") => `(tactic| first | with_reducible assumption | with_reducible apply Ck.here | (with_reducible apply Ck.cons; (exists "ck4")))
local macro_rules | `(tactic| exists "ck2") => `(tactic| first | with_reducible assumption | with_reducible apply Ck.here | (with_reducible apply Ck.cons; (exists "ck3")))
local macro_rules | `(tactic| exists "ck1") => `(tactic| first | with_reducible assumption | with_reducible apply Ck.here | (with_reducible apply Ck.cons; (exists "ck2")))
local macro_rules | `(tactic| exists "ck") => `(tactic| first | with_reducible assumption | with_reducible apply Ck.here | (with_reducible apply Ck.cons; (exists "ck1")))
local macro_rules | `(tactic| exists "ne") => `(tactic| first | assumption | (intro he; subst he; simp at *; done) | (simp; done) | (simp [*]; done))
local macro_rules | `(tactic| exists "gC") => `(tactic| first
  | ((with_reducible refine' wc_lenKm ?hm ?_); (case hm => (exists "lk")))
  | ((with_reducible refine' wc_lenK ?hm ?_); (case hm => (exists "lk")))
  | ((with_reducible refine' wc_tupK ?hm ?_); (case hm => (exists "lk")))
  | ((with_reducible refine' wc_listK ?hm ?_); (case hm => (exists "lk")))
  | ((with_reducible refine' wc_sumKi ?hm ?_); (case hm => (exists "lk")))
  | ((with_reducible refine' wc_sumK ?hm ?_); (case hm => (exists "lk")))
  | ((with_reducible refine' wc_allK ?hm ?_); (case hm => (exists "lk")))
  | ((with_reducible refine' wc_anyK ?hm ?_); (case hm => (exists "lk")))
  | ((with_reducible refine' wc_maxKi ?hm ?hn ?_); (case hm => (exists "lk")); (case hn => (exists "ne")))
  | ((with_reducible refine' wc_minKi ?hm ?hn ?_); (case hm => (exists "lk")); (case hn => (exists "ne")))
  | ((with_reducible refine' wc_maxK ?hm ?hn ?_); (case hm => (exists "lk")); (case hn => (exists "ne")))
  | ((with_reducible refine' wc_minK ?hm ?hn ?_); (case hm => (exists "lk")); (case hn => (exists "ne"))))
local macro_rules | `(tactic| exists "gL") => `(tactic| first
  | with_reducible refine wsl_TfromN ?_
  | with_reducible refine wsl_TtoN ?_
  | with_reducible refine wsl_T1 ?_
  | ((with_reducible refine' wsl_KfromN ?hm ?_); (case hm => (exists "lk")))
  | ((with_reducible refine' wsl_KtoN ?hm ?_); (case hm => (exists "lk")))
  | ((with_reducible refine' wsl_Tfrom ?h ?_); (case h => omega))
  | ((with_reducible refine' wsl_Tto ?h ?_); (case h => omega))
  | ((with_reducible refine' wsl_K1 ?hm ?_); (case hm => (exists "lk")))
  | ((with_reducible refine' wsl_Kfrom ?h ?hm ?_); (case hm => (exists "lk")); (case h => omega))
  | ((with_reducible refine' wsl_Kto ?h ?hm ?_); (case hm => (exists "lk")); (case h => omega))
  | ((with_reducible refine' wsl_K ?hm ?_); (case hm => (exists "lk"))))
local macro_rules | `(tactic| exists "g2") => `(tactic| first
  | ((with_reducible refine' w2_addKm ?ha ?hb ?hz ?_); (case ha => (exists "lk")); (case hb => (exists "lk")); (case hz => (exists "lm")))
  | ((with_reducible refine' w2_eqKs ?ha ?hb ?hx ?_); (case ha => (exists "lk")); (case hb => (exists "lk")); (case hx => rfl))
  | ((with_reducible refine' w2_neKs ?ha ?hb ?hx ?_); (case ha => (exists "lk")); (case hb => (exists "lk")); (case hx => rfl))
  | ((with_reducible refine' w2_addK ?ha ?hb ?hz ?_); (case ha => (exists "lk")); (case hb => (exists "lk")); (case hz => (exists "ls"))))
local macro_rules | `(tactic| exists "gR") => `(tactic| ((with_reducible refine' wrev_k ?hm ?_); (case hm => (exists "lk"))))
local macro_rules | `(tactic| exists "g3") => `(tactic| first
  | ((with_reducible refine' lk_intro ?h ?_); (case h => (exists "lk")))
  | ((with_reducible refine' lk_intro1 ?h ?_); (case h => (exists "lk"))))
local macro_rules | `(tactic| exists "gW") => `(tactic| with_reducible refine w_sortSetN ?_)
local macro_rules | `(tactic| exists "ap") => `(tactic| ((try simp only [List.cons_append, List.nil_append]); with_reducible rfl))
local macro_rules | `(tactic| exists "lm") => `(tactic| (exact le_size (by (try simp only [List.length_map, List.length_take, List.length_drop, List.length_append, List.length_reverse, List.length_range, List.length_cons, List.length_nil]); omega)))
local macro_rules | `(tactic| exists "g2") => `(tactic| first
  | ((with_reducible refine' w2_addTm ?hn ?hz ?_); (case hn => (exists "ne")); (case hz => (exists "lm")))
  | ((with_reducible refine' w2_addTE ?hn ?hz ?h ?_); (case hn => exact List.cons_ne_nil _ _); (case hz => (exists "sz")); (case h => (exists "ap"))))
local macro_rules | `(tactic| exists "nc") => `(tactic| first | rfl | exact (Int.natCast_add _ _).symm | omega)
local macro_rules | `(tactic| exists "gM") => `(tactic| first
  | ((with_reducible refine' wm_popAtN ?hm ?h0 ?h1 ?hz ?_); (case hm => (exists "at")); (case h0 => omega); (case h1 => omega); (case hz => omega))
  | ((with_reducible refine' wm_popC ?hm ?h ?_); (case hm => (exists "at")); (case h => (exists "nd")))
  | ((with_reducible refine' wm_extT ?hm ?hz ?h ?_); (case hm => (exists "at")); (case hz => (exists "lm")); (case h => (exists "nd")))
  | ((with_reducible refine' wm_ins0 ?hm ?hz ?h ?_); (case hm => (exists "at")); (case hz => (exists "lz")); (case h => (exists "nd"))))
local macro_rules | `(tactic| exists "g3") => `(tactic| ((with_reducible refine' mu_set ?h ?_); (case h => (exists "nd"))))
local macro_rules | `(tactic| exists "g2") => `(tactic| ((with_reducible refine' w2_rep1 ?hm ?hi ?hz ?_); (case hm => (exists "lk")); (case hi => first | exact (Int.natCast_add _ _).symm | rfl | omega); (case hz => omega)))
local macro_rules | `(tactic| exists "g2") => `(tactic| first
  | ((with_reducible refine' w2_ixTz ?hk ?_); (case hk => with_reducible assumption))
  | ((with_reducible refine' w2_ixKz ?hm ?hk ?_); (case hm => (exists "lk")); (case hk => with_reducible assumption))
  | ((with_reducible refine' w2_ixTi ?hi ?hk ?_); (case hi => exact (Int.natCast_add _ _).symm); (case hk => with_reducible assumption))
  | ((with_reducible refine' w2_ixKi ?hm ?hi ?hk ?_); (case hm => (exists "lk")); (case hi => exact (Int.natCast_add _ _).symm); (case hk => with_reducible assumption)))
local macro_rules | `(tactic| exists "g2") => `(tactic| first
  | ((with_reducible refine' w2_ixTm ?hk ?_); (case hk => with_reducible assumption))
  | ((with_reducible refine' w2_ixKm ?hm ?hk ?_); (case hm => (exists "lk")); (case hk => with_reducible assumption))
  | ((with_reducible refine' w2_ixK ?hm ?hc ?_); (case hm => (exists "lk")); (case hc => rfl)))
local macro_rules | `(tactic| exists "gC") => `(tactic| first
  | with_reducible refine wc_minT2 ?_
  | with_reducible refine wc_maxT2 ?_)
local macro_rules | `(tactic| exists "gC") => `(tactic| first
  | ((with_reducible refine' wc_sortedKn ?hm ?_); (case hm => (exists "lk")))
  | ((with_reducible refine' wc_sortedK ?hm ?_); (case hm => (exists "lk")))
  | with_reducible refine wc_sumT ?_
  | ((with_reducible refine' wc_maxT ?hn ?_); (case hn => (exists "ne")))
  | ((with_reducible refine' wc_minT ?hn ?_); (case hn => (exists "ne"))))
local macro_rules | `(tactic| exists "g2") => `(tactic| first
  | with_reducible refine w2_inT2 ?_
  | with_reducible refine w2_inTn ?_
  | with_reducible refine w2_ninTn ?_
  | with_reducible refine w2_inT ?_
  | with_reducible refine w2_ninT ?_
  | ((with_reducible refine' w2_inKn ?hm ?_); (case hm => (exists "lk")))
  | ((with_reducible refine' w2_ninKn ?hm ?_); (case hm => (exists "lk")))
  | ((with_reducible refine' w2_inK ?hm ?_); (case hm => (exists "lk")))
  | ((with_reducible refine' w2_ninK ?hm ?_); (case hm => (exists "lk"))))
local macro_rules | `(tactic| exists "at12") => `(tactic| first | with_reducible assumption | with_reducible apply at0)
local macro_rules | `(tactic| exists "at11") => `(tactic| first | with_reducible assumption | with_reducible apply at0 | (with_reducible apply atS; (exists "at12")))
local macro_rules | `(tactic| exists "at10") => `(tactic| first | with_reducible assumption | with_reducible apply at0 | (with_reducible apply atS; (exists "at11")))
local macro_rules | `(tactic| exists "at9") => `(tactic| first | with_reducible assumption | with_reducible apply at0 | (with_reducible apply atS; (exists "at10")))
local macro_rules | `(tactic| exists "at8") => `(tactic| first | with_reducible assumption | with_reducible apply at0 | (with_reducible apply atS; (exists "at9")))
local macro_rules | `(tactic| exists "at7") => `(tactic| first | with_reducible assumption | with_reducible apply at0 | (with_reducible apply atS; (exists "at8")))
local macro_rules | `(tactic| exists "at6") => `(tactic| first | with_reducible assumption | with_reducible apply at0 | (with_reducible apply atS; (exists "at7")))
local macro_rules | `(tactic| exists "at5") => `(tactic| first | with_reducible assumption | with_reducible apply at0 | (with_reducible apply atS; (exists "at6")))
local macro_rules | `(tactic| exists "at4") => `(tactic| first | with_reducible assumption | with_reducible apply at0 | (with_reducible apply atS; (exists "at5")))
local macro_rules | `(tactic| exists "at3") => `(tactic| first | with_reducible assumption | with_reducible apply at0 | (with_reducible apply atS; (exists "at4")))
local macro_rules | `(tactic| exists "at2") => `(tactic| first | with_reducible assumption | with_reducible apply at0 | (with_reducible apply atS; (exists "at3")))
local macro_rules | `(tactic| exists "at1") => `(tactic| first | with_reducible assumption | with_reducible apply at0 | (with_reducible apply atS; (exists "at2")))
local macro_rules | `(tactic| exists "at") => `(tactic| first | with_reducible assumption | with_reducible apply at0 | (with_reducible apply atS; (exists "at1")))
local macro_rules | `(tactic| exists "gM") => `(tactic| first
  | ((with_reducible refine' wm_appendK ?hm ?hz ?h ?_); (case hm => (exists "at")); (case hz => (exists "lz")); (case h => (exists "nd"))))
local macro_rules | `(tactic| exists "g3") => `(tactic| ((with_reducible refine' ty_introK ?hm ?_); (case hm => (exists "lk"))))
local macro_rules | `(tactic| exists "vd9") => `(tactic| first | with_reducible exact valD_here)
local macro_rules | `(tactic| exists "vd8") => `(tactic| first | with_reducible exact valD_here | ((with_reducible refine valD_next ?_ ?_); (decide +kernel); (exists "vd9")))
local macro_rules | `(tactic| exists "vd7") => `(tactic| first | with_reducible exact valD_here | ((with_reducible refine valD_next ?_ ?_); (decide +kernel); (exists "vd8")))
local macro_rules | `(tactic| exists "vd6") => `(tactic| first | with_reducible exact valD_here | ((with_reducible refine valD_next ?_ ?_); (decide +kernel); (exists "vd7")))
local macro_rules | `(tactic| exists "vd5") => `(tactic| first | with_reducible exact valD_here | ((with_reducible refine valD_next ?_ ?_); (decide +kernel); (exists "vd6")))
local macro_rules | `(tactic| exists "vd4") => `(tactic| first | with_reducible exact valD_here | ((with_reducible refine valD_next ?_ ?_); (decide +kernel); (exists "vd5")))
local macro_rules | `(tactic| exists "vd3") => `(tactic| first | with_reducible exact valD_here | ((with_reducible refine valD_next ?_ ?_); (decide +kernel); (exists "vd4")))
local macro_rules | `(tactic| exists "vd2") => `(tactic| first | with_reducible exact valD_here | ((with_reducible refine valD_next ?_ ?_); (decide +kernel); (exists "vd3")))
local macro_rules | `(tactic| exists "vd1") => `(tactic| first | with_reducible exact valD_here | ((with_reducible refine valD_next ?_ ?_); (decide +kernel); (exists "vd2")))
local macro_rules | `(tactic| exists "vd") => `(tactic| first | with_reducible exact valD_here | ((with_reducible refine valD_next ?_ ?_); (decide +kernel); (exists "vd1")))
local macro_rules | `(tactic| exists "g3") => `(tactic| ((with_reducible refine' dget_str ?hm ?hv ?_); (case hm => (exists "ck")); (case hv => (exists "vd"))))
local macro_rules | `(tactic| exists "hG") => `(tactic| (intros; (first | exact True.intro | exact Lk.mem (by (exists "lk")))))
local macro_rules | `(tactic| exists "gS") => `(tactic| first
  | ((with_reducible refine' s_start ?h ?_); (case h => (exists "sd")))
  | ((with_reducible refine' s_augN ?hv ?_); (case hv => rfl)))
local macro_rules | `(tactic| exists "gG") => `(tactic| first
  | ((with_reducible refine' wg_unl ?hm ?hl ?_); (case hm => (exists "lk")); (case hl => rfl))
  | ((with_reducible refine' wg_wipe ?h1 ?h ?_); (case h1 => ((try simp only [List.map_cons, List.map_nil]); with_reducible rfl)); (case h => (exists "nd")))
  | ((with_reducible refine' wg_nameN ?h ?_); (case h => (exists "nd"))))
local macro_rules | `(tactic| exists "g3") => `(tactic| ((with_reducible refine' augN ?h ?_); (case h => (exists "nd"))))
local macro_rules | `(tactic| exists "g3") => `(tactic| first
  | ((with_reducible refine' dput_N ?hm ?hz ?h ?_); (case hm => (exists "at")); (case hz => omega); (case h => (exists "nd")))
  | ((with_reducible refine' dget_N ?hm ?hf ?hv ?_); (case hm => (exists "ck")); (case hf => with_reducible assumption); (case hv => with_reducible assumption))
  | ((with_reducible refine' din_t ?hm ?hf ?hv ?_); (case hm => (exists "ck")); (case hf => with_reducible assumption); (case hv => with_reducible assumption))
  | ((with_reducible refine' din_f ?hm ?hf ?hv ?_); (case hm => (exists "ck")); (case hf => with_reducible assumption); (case hv => with_reducible assumption))
  | with_reducible refine zip_intro ?_
  | with_reducible refine wz_T ?_
  | ((with_reducible refine' wz_L ?ha ?hb ?_); (case ha => (exists "lk")); (case hb => (exists "lk"))))
local macro_rules | `(tactic| exists "g2") => `(tactic| first
  | ((with_reducible refine' w2_addTi1 ?hz ?_); (case hz => (exists "lm")))
  | ((with_reducible refine' w2_addTmA ?hz ?_); (case hz => (exists "lm"))))
local macro_rules | `(tactic| exists "g3") => `(tactic| first
  | ((with_reducible refine' set_introK 0 ?hm ?hi ?hx ?h ?_); (case hm => (exists "at")); (case hi => rfl); (case hx => (exists "nd")); (case h => (exists "nd")))
  | ((with_reducible refine' set_introK 1 ?hm ?hi ?hx ?h ?_); (case hm => (exists "at")); (case hi => rfl); (case hx => (exists "nd")); (case h => (exists "nd")))
  | ((with_reducible refine' set_introK 2 ?hm ?hi ?hx ?h ?_); (case hm => (exists "at")); (case hi => rfl); (case hx => (exists "nd")); (case h => (exists "nd")))
  | ((with_reducible refine' set_introK 3 ?hm ?hi ?hx ?h ?_); (case hm => (exists "at")); (case hi => rfl); (case hx => (exists "nd")); (case h => (exists "nd"))))
local macro_rules | `(tactic| exists "ld") => `(tactic| repeat (first | with_reducible assumption | with_reducible apply Ld.here | with_reducible apply Ld.cons | with_reducible apply Ld.app))
local macro_rules | `(tactic| exists "gL") => `(tactic| ((with_reducible refine' wsl_Ksub ?hm ?_); (case hm => (exists "lk"))))
local macro_rules | `(tactic| exists "gL") => `(tactic| ((with_reducible refine' wsl_Kx ?hm ?hx ?_); (case hm => (exists "lk")); (case hx => with_reducible assumption)))
local macro_rules | `(tactic| exists "gW") => `(tactic| with_reducible refine w_sortSetL ?_)
local macro_rules | `(tactic| exists "g3") => `(tactic| ((with_reducible refine' sortl_intro ?hm ?hz ?_); (case hm => (exists "lk")); (case hz => omega)))
local macro_rules | `(tactic| exists "gI") => `(tactic| with_reducible refine wi_rng3 ?_)
local macro_rules | `(tactic| exists "gS") => `(tactic| with_reducible refine s_par ?_)
local macro_rules | `(tactic| exists "g3") => `(tactic| ((with_reducible refine' par_in ?h ?_); (case h => (exists "nd"))))
local macro_rules | `(tactic| exists "gW") => `(tactic| with_reducible refine w_dget2 ?_)
local macro_rules | `(tactic| exists "g3") => `(tactic| first
  | ((with_reducible refine' dget2_in ?hm ?_); (case hm => (exists "ck")))
  | ((with_reducible refine' dget2_N ?hm ?hf ?hv ?_); (case hm => (exists "ck")); (case hf => with_reducible assumption); (case hv => with_reducible assumption)))
local macro_rules | `(tactic| exists "gC") => `(tactic| with_reducible refine wc_sortedT ?_)
local macro_rules | `(tactic| exists "gS") => `(tactic| with_reducible refine s_augL ?_)
local macro_rules | `(tactic| exists "cv") => `(tactic| exact cdivp_small (by omega) (by omega) (by omega))
local macro_rules | `(tactic| exists "gC") => `(tactic| with_reducible refine wc_lenScr ?_)
local macro_rules | `(tactic| exists "gC") => `(tactic| ((with_reducible refine' wc_divmod ?hc ?_); (case hc => (exists "cv"))))
local macro_rules | `(tactic| exists "g2") => `(tactic| with_reducible refine w2_ipI ?_)
local macro_rules | `(tactic| exists "g3") => `(tactic| first
  | ((with_reducible refine' aug_in ?hm ?hk ?_); (case hm => (exists "lk")); (case hk => with_reducible assumption))
  | ((with_reducible refine' aug_out ?hm ?hk ?h ?_); (case hm => (exists "at")); (case hk => ((try simp only [List.length_map, List.length_set, List.length_range]); omega)); (case h => (exists "nd"))))
local macro_rules | `(tactic| exists "hd") => `(tactic| repeat (first | with_reducible assumption | with_reducible apply Hd.here | with_reducible apply Hd.cons | with_reducible apply Hd.app))
local macro_rules | `(tactic| exists "cd") => `(tactic| repeat (first | with_reducible assumption | with_reducible apply Cd.here | with_reducible apply Cd.cons | with_reducible apply Cd.app))
local macro_rules | `(tactic| exists "gI") => `(tactic| first
  | with_reducible refine wi_seqU ?_
  | with_reducible refine wi_enumU ?_)
local macro_rules | `(tactic| exists "g3") => `(tactic| first
  | with_reducible refine sequ_t ?_
  | ((with_reducible refine' sequ_l ?h ?_); (case h => (exists "lk")))
  | with_reducible refine enumu_in ?_
  | with_reducible refine enumu_t ?_
  | ((with_reducible refine' enumu_l ?h ?_); (case h => (exists "lk"))))
local macro_rules | `(tactic| exists "gW") => `(tactic| with_reducible refine w_callN ?_)
local macro_rules | `(tactic| exists "gI") => `(tactic| with_reducible refine wi_revR1 ?_)
local macro_rules | `(tactic| exists "g3") => `(tactic| first
  | ((with_reducible refine' cn2 ?hn ?_); (case hn => rfl))
  | ((with_reducible refine' cn4 ?hn ?_); (case hn => rfl))
  | ((with_reducible refine' revR_in ?hz ?_); (case hz => omega)))
/-! one step: by the judgement at hand -/
local macro_rules | `(tactic| exists "st") => `(tactic| first
  | ((with_reducible show W _ _ _ _ _); (exists "gW"))
  | ((with_reducible show S4 _ _ _ _ _ _ _ _); (exists "gS"))
  | ((with_reducible show WA _ _ _ _ _); (exists "gA"))
  | ((with_reducible show W2 _ _ _ _ _ _); (exists "g2"))
  | ((with_reducible show WT _ _ _ _ _); (exists "gT"))
  | ((with_reducible show WG _ _ _ _ _ _); (exists "gG"))
  | ((with_reducible show WGs _ _ _ _ _ _); (exists "gG"))
  | ((with_reducible show WC _ _ _ _ _); (exists "gC"))
  | ((with_reducible show WO _ _ _ _ _); (exists "gO"))
  | ((with_reducible show WSl _ _ _ _ _ _ _); (exists "gL"))
  | ((with_reducible show W1 _ _ _ _ _); (exists "g1"))
  | ((with_reducible show WPs _ _ _ _ _); (exists "gP"))
  | ((with_reducible show WM _ _ _ _ _ _); (exists "gM"))
  | ((with_reducible show WI _ _ _ _ _); (exists "gI"))
  | ((with_reducible show WRev _ _ _); (exists "gR"))
  | (exists "gx")
  | (exists "g3"))
/-! the same, but no statement -/
local macro_rules | `(tactic| exists "se") => `(tactic| first
  | ((with_reducible show S4 _ _ _ _ _ _ _ _); fail)
  | (exists "st"))
local macro_rules | `(tactic| exists "ge") => `(tactic| repeat ((fail_if_success (with_reducible show S4 _ _ _ _ _ _ _ _)); (exists "st")))
/-! one statement -/
local macro_rules | `(tactic| exists "ss") => `(tactic| ((try ((with_reducible refine' s_start ?h ?_); (case h => (exists "sd")))); (with_reducible refine s_seq ?_); (exists "gS"); (exists "ge")))
local macro_rules | `(tactic| exists "go") => `(tactic| repeat (exists "st"))
/-! a test's answer: known, or both ways -/
local macro_rules | `(tactic| exists "br") => `(tactic| first
  | refine split_t ?_
  | refine split_f ?_
  | refine split_d (fun hc => ?_) (fun hc => ?_)
  | (refine split_n ?_; (exists "br"))
  | refine split2 (fun hc => ?_) (fun hc => ?_))
/-! a boolean value as one decide: goals `W .. fun d μ' => d = .bl (decide q) ∧ μ' = μ` -/
local macro_rules | `(tactic| exists "be") => `(tactic| exact And.intro (congrArg D.bl (by first | exact decide_eq_decide.mpr (by omega) | exact (decide_eq_true (by omega)).symm | exact (decide_eq_false (by omega)).symm)) rfl)
local macro_rules | `(tactic| exists "pb") => `(tactic| repeat (first | (exists "st") | refine split_d (fun _ => ?_) (fun _ => ?_) | (exists "be")))
local macro_rules | `(tactic| exists "rw") => `(tactic| first | exact ⟨rfl, by (exists "wk")⟩ | ((with_reducible show Weak _ _); (exists "wk")))
/-! a comprehension, no test: items each by itself; and what follows -/
local macro_rules | `(tactic| exists "lc0") => `(tactic| ((first | refine' lcM ?hl ?hG ?hs ?hq | refine' lc0 (lcM ?hl ?hG ?hs ?hq) | refine' lcE (lcM ?hl ?hG ?hs ?hq)); (case hl => (exists "lz")); (case hG => (exists "hG"))))
local macro_rules | `(tactic| exists "lc") => `(tactic| ((exists "lc0"); (case hs => (intro x hx p acc; (exists "go"); (exists "rw"))); (case' hq => intro p)))
local macro_rules | `(tactic| exists "lf0") => `(tactic| ((first | refine' lcF ?hl ?hG ?hs ?hq | refine' lc0 (lcF ?hl ?hG ?hs ?hq) | refine' lcE (lcF ?hl ?hG ?hs ?hq)); (case hl => (exists "lz")); (case hG => (exists "hG"))))
/-! a test whose answer is plain by its form -/
local macro_rules | `(tactic| exists "ff") => `(tactic| (refine ⟨fun h => absurd (show false = true from h) Bool.false_ne_true, fun _ => ?_⟩))
local macro_rules | `(tactic| exists "tt") => `(tactic| (refine ⟨fun _ => ?_, fun h => absurd (show true = false from h) Bool.noConfusion⟩))

local macro_rules | `(tactic| exists "gC") => `(tactic| ((with_reducible refine' wc_sortedP ?hf ?hm ?_); (case hm => (exists "lk")); (case hf => (intro x; rfl))))
local macro_rules | `(tactic| exists "gW") => `(tactic| first
  | with_reducible refine w_frz ?_
  | with_reducible refine w_dgetU ?_)
local macro_rules | `(tactic| exists "g3") => `(tactic| first
  | with_reducible refine dg_ref ?_
  | ((with_reducible refine' dg_N ?hv ?_); (case hv => with_reducible assumption))
  | with_reducible refine keys_in ?_
  | with_reducible refine sequ_i ?_
  | with_reducible refine enumu_i ?_
  | ((with_reducible refine' frz_L ?hm ?h ?_); (case hm => (exists "at")); (case h => ((try simp only [List.eraseIdx_cons_zero, List.eraseIdx_cons_succ]); with_reducible rfl)))
  | ((with_reducible refine' frz_D ?hm ?h ?_); (case hm => (exists "at")); (case h => ((try simp only [List.eraseIdx_cons_zero, List.eraseIdx_cons_succ]); with_reducible rfl))))
local macro_rules | `(tactic| exists "g2") => `(tactic| first
  | ((with_reducible refine' w2_ixIm ?hk ?_); (case hk => with_reducible assumption)))
local macro_rules | `(tactic| exists "gC") => `(tactic| with_reducible refine wc_lenI ?_)
local macro_rules | `(tactic| exists "gI") => `(tactic| with_reducible refine wi_keysU ?_)
def topS (i : Nat) : Stmt := PySem.Challenge.pw_equalwires_k32_which_two_do_not_fit.main.body.getD i (.Pass ⟨0, 0, 0, 0⟩)
abbrev L_spot_of (v_grain : Option D := none) (v_x : Option D := none) (v_y : Option D := none) : Dl := [v_grain, v_x, v_y]
abbrev s_spot_of : Stmt := topS 1
abbrev N_spot_of : List Str := ["grain", "x", "y"]
theorem sd_spot_of (x0 x1 x2 : D) : startD N_spot_of [x0, x1, x2] = [some x0, some x1, some x2] := rfl
theorem sc_spot_of : FnScope N_spot_of ["grain", "x", "y"] (defScope s_spot_of) := ⟨rfl, rfl, rfl, by decide +kernel, rfl, by decide +kernel, by decide +kernel⟩
abbrev L_far (v_spot : Option D := none) (v_other : Option D := none) : Dl := [v_spot, v_other]
abbrev s_far : Stmt := topS 2
abbrev N_far : List Str := ["spot", "other"]
theorem sd_far (x0 x1 : D) : startD N_far [x0, x1] = [some x0, some x1] := rfl
theorem sc_far : FnScope N_far ["spot", "other"] (defScope s_far) := ⟨rfl, rfl, rfl, by decide +kernel, rfl, by decide +kernel, by decide +kernel⟩
abbrev L_grown (v_box : Option D := none) (v_by : Option D := none) : Dl := [v_box, v_by]
abbrev s_grown : Stmt := topS 3
abbrev N_grown : List Str := ["box", "by"]
theorem sd_grown (x0 x1 : D) : startD N_grown [x0, x1] = [some x0, some x1] := rfl
theorem sc_grown : FnScope N_grown ["box", "by"] (defScope s_grown) := ⟨rfl, rfl, rfl, by decide +kernel, rfl, by decide +kernel, by decide +kernel⟩
abbrev L_met (v_box : Option D := none) (v_other : Option D := none) (v_both : Option D := none) : Dl := [v_box, v_other, v_both]
abbrev s_met : Stmt := topS 4
abbrev N_met : List Str := ["box", "other", "both"]
theorem sd_met (x0 x1 : D) : startD N_met [x0, x1] = [some x0, some x1, none] := rfl
theorem sc_met : FnScope N_met ["box", "other"] (defScope s_met) := ⟨rfl, rfl, rfl, by decide +kernel, rfl, by decide +kernel, by decide +kernel⟩
abbrev L_nearest (v_box : Option D := none) (v_spot : Option D := none) : Dl := [v_box, v_spot]
abbrev s_nearest : Stmt := topS 5
abbrev N_nearest : List Str := ["box", "spot"]
theorem sd_nearest (x0 x1 : D) : startD N_nearest [x0, x1] = [some x0, some x1] := rfl
theorem sc_nearest : FnScope N_nearest ["box", "spot"] (defScope s_nearest) := ⟨rfl, rfl, rfl, by decide +kernel, rfl, by decide +kernel, by decide +kernel⟩
abbrev L_corner (v_box : Option D := none) : Dl := [v_box]
abbrev s_corner : Stmt := topS 6
abbrev N_corner : List Str := ["box"]
theorem sd_corner (x0 : D) : startD N_corner [x0] = [some x0] := rfl
theorem sc_corner : FnScope N_corner ["box"] (defScope s_corner) := ⟨rfl, rfl, rfl, by decide +kernel, rfl, by decide +kernel, by decide +kernel⟩
abbrev L_has (v_box : Option D := none) (v_spot : Option D := none) : Dl := [v_box, v_spot]
abbrev s_has : Stmt := topS 7
abbrev N_has : List Str := ["box", "spot"]
theorem sd_has (x0 x1 : D) : startD N_has [x0, x1] = [some x0, some x1] := rfl
theorem sc_has : FnScope N_has ["box", "spot"] (defScope s_has) := ⟨rfl, rfl, rfl, by decide +kernel, rfl, by decide +kernel, by decide +kernel⟩
abbrev L_above_all (v_many : Option D := none) (v_joining : Option D := none) (v_found : Option D := none) (v_number : Option D := none) (v_row : Option D := none) (v_knot : Option D := none) : Dl := [v_many, v_joining, v_found, v_number, v_row, v_knot]
abbrev F_above_all0 : List Nat := [3, 4, 5]
abbrev F_above_all1 : List Nat := [5]
abbrev s_above_all : Stmt := topS 19
abbrev N_above_all : List Str := ["many", "joining", "found", "number", "row", "knot"]
theorem sd_above_all (x0 x1 : D) : startD N_above_all [x0, x1] = [some x0, some x1, none, none, none, none] := rfl
theorem sc_above_all : FnScope N_above_all ["many", "joining"] (defScope s_above_all) := ⟨rfl, rfl, rfl, by decide +kernel, rfl, by decide +kernel, by decide +kernel⟩
abbrev L_chain (v_many : Option D := none) (v_joining : Option D := none) (v_knot : Option D := none) (v_above : Option D := none) (v_found : Option D := none) : Dl := [v_many, v_joining, v_knot, v_above, v_found]
abbrev F_chain0 : List Nat := []
abbrev s_chain : Stmt := topS 20
abbrev N_chain : List Str := ["many", "joining", "knot", "above", "found"]
theorem sd_chain (x0 x1 x2 : D) : startD N_chain [x0, x1, x2] = [some x0, some x1, some x2, none, none] := rfl
theorem sc_chain : FnScope N_chain ["many", "joining", "knot"] (defScope s_chain) := ⟨rfl, rfl, rfl, by decide +kernel, rfl, by decide +kernel, by decide +kernel⟩
abbrev L_meeting (v_many : Option D := none) (v_joining : Option D := none) (v_one : Option D := none) (v_other : Option D := none) (v_there : Option D := none) (v_knot : Option D := none) : Dl := [v_many, v_joining, v_one, v_other, v_there, v_knot]
abbrev s_meeting : Stmt := topS 21
abbrev N_meeting : List Str := ["many", "joining", "one", "other", "there", "knot"]
theorem sd_meeting (x0 x1 x2 x3 : D) : startD N_meeting [x0, x1, x2, x3] = [some x0, some x1, some x2, some x3, none, none] := rfl
theorem sc_meeting : FnScope N_meeting ["many", "joining", "one", "other"] (defScope s_meeting) := ⟨rfl, rfl, rfl, by decide +kernel, rfl, by decide +kernel, by decide +kernel⟩
abbrev L_spots_of (v_ends : Option D := none) (v_grain : Option D := none) (v_x : Option D := none) (v_y : Option D := none) (v_start : Option D := none) (v_load : Option D := none) : Dl := [v_ends, v_grain, v_x, v_y, v_start, v_load]
abbrev s_spots_of : Stmt := topS 23
abbrev N_spots_of : List Str := ["ends", "grain", "x", "y", "start", "load"]
theorem sd_spots_of (x0 x1 : D) : startD N_spots_of [x0, x1] = [some x0, some x1, none, none, none, none] := rfl
theorem sc_spots_of : FnScope N_spots_of ["ends", "grain"] (defScope s_spots_of) := ⟨rfl, rfl, rfl, by decide +kernel, rfl, by decide +kernel, by decide +kernel⟩
abbrev L_wire_between (v_many : Option D := none) (v_joining : Option D := none) (v_lengths : Option D := none) (v_one : Option D := none) (v_other : Option D := none) (v_top : Option D := none) (v_total : Option D := none) (v_end : Option D := none) (v_knot : Option D := none) : Dl := [v_many, v_joining, v_lengths, v_one, v_other, v_top, v_total, v_end, v_knot]
abbrev F_wire_between0 : List Nat := [6, 7, 8]
abbrev F_wire_between1 : List Nat := [6, 8]
abbrev s_wire_between : Stmt := topS 24
abbrev N_wire_between : List Str := ["many", "joining", "lengths", "one", "other", "top", "total", "end", "knot"]
theorem sd_wire_between (x0 x1 x2 x3 x4 : D) : startD N_wire_between [x0, x1, x2, x3, x4] = [some x0, some x1, some x2, some x3, some x4, none, none, none, none] := rfl
theorem sc_wire_between : FnScope N_wire_between ["many", "joining", "lengths", "one", "other"] (defScope s_wire_between) := ⟨rfl, rfl, rfl, by decide +kernel, rfl, by decide +kernel, by decide +kernel⟩
abbrev L_first_short (v_ends : Option D := none) (v_joining : Option D := none) (v_grain : Option D := none) (v_lengths : Option D := none) (v_many : Option D := none) (v_spots : Option D := none) (v_one : Option D := none) (v_other : Option D := none) : Dl := [v_ends, v_joining, v_grain, v_lengths, v_many, v_spots, v_one, v_other]
abbrev F_first_short0 : List Nat := [6, 7]
abbrev F_first_short1 : List Nat := [7]
abbrev s_first_short : Stmt := topS 25
abbrev N_first_short : List Str := ["ends", "joining", "grain", "lengths", "many", "spots", "one", "other"]
theorem sd_first_short (x0 x1 x2 x3 : D) : startD N_first_short [x0, x1, x2, x3] = [some x0, some x1, some x2, some x3, none, none, none, none] := rfl
theorem sc_first_short : FnScope N_first_short ["ends", "joining", "grain", "lengths"] (defScope s_first_short) := ⟨rfl, rfl, rfl, by decide +kernel, rfl, by decide +kernel, by decide +kernel⟩
abbrev L_boxes_from_below (v_ends : Option D := none) (v_joining : Option D := none) (v_grain : Option D := none) (v_lengths : Option D := none) (v_boxes : Option D := none) (v_one : Option D := none) (v_other : Option D := none) (v_box : Option D := none) (v_u : Option D := none) (v_v : Option D := none) : Dl := [v_ends, v_joining, v_grain, v_lengths, v_boxes, v_one, v_other, v_box, v_u, v_v]
abbrev F_boxes_from_below0 : List Nat := [5, 6, 7]
abbrev s_boxes_from_below : Stmt := topS 26
abbrev N_boxes_from_below : List Str := ["ends", "joining", "grain", "lengths", "boxes", "one", "other", "box", "u", "v"]
theorem sd_boxes_from_below (x0 x1 x2 x3 : D) : startD N_boxes_from_below [x0, x1, x2, x3] = [some x0, some x1, some x2, some x3, none, none, none, none, none, none] := rfl
theorem sc_boxes_from_below : FnScope N_boxes_from_below ["ends", "joining", "grain", "lengths"] (defScope s_boxes_from_below) := ⟨rfl, rfl, rfl, by decide +kernel, rfl, by decide +kernel, by decide +kernel⟩
abbrev L_boxes_by (v_ends : Option D := none) (v_joining : Option D := none) (v_grain : Option D := none) (v_lengths : Option D := none) (v_boxes : Option D := none) (v_one : Option D := none) (v_other : Option D := none) : Dl := [v_ends, v_joining, v_grain, v_lengths, v_boxes, v_one, v_other]
abbrev s_boxes_by : Stmt := topS 27
abbrev N_boxes_by : List Str := ["ends", "joining", "grain", "lengths", "boxes", "one", "other"]
theorem sd_boxes_by (x0 x1 x2 x3 : D) : startD N_boxes_by [x0, x1, x2, x3] = [some x0, some x1, some x2, some x3, none, none, none] := rfl
theorem sc_boxes_by : FnScope N_boxes_by ["ends", "joining", "grain", "lengths"] (defScope s_boxes_by) := ⟨rfl, rfl, rfl, by decide +kernel, rfl, by decide +kernel, by decide +kernel⟩
abbrev L_root_in (v_box : Option D := none) (v_spot : Option D := none) : Dl := [v_box, v_spot]
abbrev s_root_in : Stmt := topS 28
abbrev N_root_in : List Str := ["box", "spot"]
theorem sd_root_in (x0 x1 : D) : startD N_root_in [x0, x1] = [some x0, some x1] := rfl
theorem sc_root_in : FnScope N_root_in ["box", "spot"] (defScope s_root_in) := ⟨rfl, rfl, rfl, by decide +kernel, rfl, by decide +kernel, by decide +kernel⟩
abbrev L_laid_down (v_many : Option D := none) (v_joining : Option D := none) (v_boxes : Option D := none) (v_spot : Option D := none) (v_spots : Option D := none) (v_number : Option D := none) (v_side : Option D := none) (v_knot : Option D := none) : Dl := [v_many, v_joining, v_boxes, v_spot, v_spots, v_number, v_side, v_knot]
abbrev F_laid_down0 : List Nat := [5, 6]
abbrev F_laid_down1 : List Nat := [6]
abbrev s_laid_down : Stmt := topS 29
abbrev N_laid_down : List Str := ["many", "joining", "boxes", "spot", "spots", "number", "side", "knot"]
theorem sd_laid_down (x0 x1 x2 x3 : D) : startD N_laid_down [x0, x1, x2, x3] = [some x0, some x1, some x2, some x3, none, none, none, none] := rfl
theorem sc_laid_down : FnScope N_laid_down ["many", "joining", "boxes", "spot"] (defScope s_laid_down) := ⟨rfl, rfl, rfl, by decide +kernel, rfl, by decide +kernel, by decide +kernel⟩
abbrev L_laid (v_ends : Option D := none) (v_joining : Option D := none) (v_grain : Option D := none) (v_lengths : Option D := none) (v_root : Option D := none) (v_boxes : Option D := none) (v_spot : Option D := none) : Dl := [v_ends, v_joining, v_grain, v_lengths, v_root, v_boxes, v_spot]
abbrev s_laid : Stmt := topS 30
abbrev N_laid : List Str := ["ends", "joining", "grain", "lengths", "root", "boxes", "spot"]
theorem sd_laid (x0 x1 x2 x3 x4 : D) : startD N_laid [x0, x1, x2, x3, x4] = [some x0, some x1, some x2, some x3, some x4, none, none] := rfl
theorem sc_laid : FnScope N_laid ["ends", "joining", "grain", "lengths", "root"] (defScope s_laid) := ⟨rfl, rfl, rfl, by decide +kernel, rfl, by decide +kernel, by decide +kernel⟩
abbrev L_law_deck (v_script : Option D := none) (v_cells : Option D := none) (v_cell : Option D := none) : Dl := [v_script, v_cells, v_cell]
abbrev s_law_deck : Stmt := topS 32
abbrev N_law_deck : List Str := ["_law_script", "_law_cells", "_law_cell"]
theorem sd_law_deck (x0 : D) : startD N_law_deck [x0] = [some x0, none, none] := rfl
theorem sc_law_deck : FnScope N_law_deck ["_law_script"] (defScope s_law_deck) := ⟨rfl, rfl, rfl, by decide +kernel, rfl, by decide +kernel, by decide +kernel⟩
abbrev L_law_take (v_deck_here : Option D := none) (v_most : Option D := none) (v_digit : Option D := none) (v_cell : Option D := none) (v_number : Option D := none) : Dl := [v_deck_here, v_most, v_digit, v_cell, v_number]
abbrev s_law_take : Stmt := topS 33
abbrev N_law_take : List Str := ["_law_deck_here", "_law_most", "_law_digit", "_law_cell", "_law_number"]
theorem sd_law_take (x0 x1 : D) : startD N_law_take [x0, x1] = [some x0, some x1, none, none, none] := rfl
theorem sc_law_take : FnScope N_law_take ["_law_deck_here", "_law_most"] (defScope s_law_take) := ⟨rfl, rfl, rfl, by decide +kernel, rfl, by decide +kernel, by decide +kernel⟩
abbrev L_law_place (v_deck_here : Option D := none) (v_way : Option D := none) (v_x : Option D := none) : Dl := [v_deck_here, v_way, v_x]
abbrev s_law_place : Stmt := topS 34
abbrev N_law_place : List Str := ["_law_deck_here", "_law_way", "_law_x"]
theorem sd_law_place (x0 x1 : D) : startD N_law_place [x0, x1] = [some x0, some x1, none] := rfl
theorem sc_law_place : FnScope N_law_place ["_law_deck_here", "_law_way"] (defScope s_law_place) := ⟨rfl, rfl, rfl, by decide +kernel, rfl, by decide +kernel, by decide +kernel⟩
abbrev L_law_ends (v_deck_here : Option D := none) (v_many : Option D := none) (v_way : Option D := none) (v_late : Option D := none) (v_found : Option D := none) (v_k : Option D := none) (v_x : Option D := none) (v_y : Option D := none) (v_start : Option D := none) : Dl := [v_deck_here, v_many, v_way, v_late, v_found, v_k, v_x, v_y, v_start]
abbrev F_law_ends0 : List Nat := [5, 6, 7, 8]
abbrev s_law_ends : Stmt := topS 35
abbrev N_law_ends : List Str := ["_law_deck_here", "_law_many", "_law_way", "_law_late", "_law_found", "_law_k", "_law_x", "_law_y", "_law_start"]
theorem sd_law_ends (x0 x1 : D) : startD N_law_ends [x0, x1] = [some x0, some x1, none, none, none, none, none, none, none] := rfl
theorem sc_law_ends : FnScope N_law_ends ["_law_deck_here", "_law_many"] (defScope s_law_ends) := ⟨rfl, rfl, rfl, by decide +kernel, rfl, by decide +kernel, by decide +kernel⟩
abbrev L_law_joining (v_deck_here : Option D := none) (v_many : Option D := none) (v_line : Option D := none) (v_left : Option D := none) (v_found : Option D := none) (v_k : Option D := none) (v_at : Option D := none) (v_one : Option D := none) (v_other : Option D := none) : Dl := [v_deck_here, v_many, v_line, v_left, v_found, v_k, v_at, v_one, v_other]
abbrev F_law_joining0 : List Nat := [5, 6, 7, 8]
abbrev s_law_joining : Stmt := topS 36
abbrev N_law_joining : List Str := ["_law_deck_here", "_law_many", "_law_line", "_law_left", "_law_found", "_law_k", "_law_at", "_law_one", "_law_other"]
theorem sd_law_joining (x0 x1 : D) : startD N_law_joining [x0, x1] = [some x0, some x1, none, none, none, none, none, none, none] := rfl
theorem sc_law_joining : FnScope N_law_joining ["_law_deck_here", "_law_many"] (defScope s_law_joining) := ⟨rfl, rfl, rfl, by decide +kernel, rfl, by decide +kernel, by decide +kernel⟩
abbrev L_law_size (v_deck_here : Option D := none) (v_few : Option D := none) (v_most : Option D := none) : Dl := [v_deck_here, v_few, v_most]
abbrev s_law_size : Stmt := topS 37
abbrev N_law_size : List Str := ["_law_deck_here", "_law_few", "_law_most"]
theorem sd_law_size (x0 x1 x2 : D) : startD N_law_size [x0, x1, x2] = [some x0, some x1, some x2] := rfl
theorem sc_law_size : FnScope N_law_size ["_law_deck_here", "_law_few", "_law_most"] (defScope s_law_size) := ⟨rfl, rfl, rfl, by decide +kernel, rfl, by decide +kernel, by decide +kernel⟩
abbrev L_law_grain (v_deck_here : Option D := none) (v_way : Option D := none) : Dl := [v_deck_here, v_way]
abbrev s_law_grain : Stmt := topS 38
abbrev N_law_grain : List Str := ["_law_deck_here", "_law_way"]
theorem sd_law_grain (x0 : D) : startD N_law_grain [x0] = [some x0, none] := rfl
theorem sc_law_grain : FnScope N_law_grain ["_law_deck_here"] (defScope s_law_grain) := ⟨rfl, rfl, rfl, by decide +kernel, rfl, by decide +kernel, by decide +kernel⟩
abbrev L_law_far (v_here : Option D := none) (v_there : Option D := none) : Dl := [v_here, v_there]
abbrev s_law_far : Stmt := topS 39
abbrev N_law_far : List Str := ["_law_here", "_law_there"]
theorem sd_law_far (x0 x1 : D) : startD N_law_far [x0, x1] = [some x0, some x1] := rfl
theorem sc_law_far : FnScope N_law_far ["_law_here", "_law_there"] (defScope s_law_far) := ⟨rfl, rfl, rfl, by decide +kernel, rfl, by decide +kernel, by decide +kernel⟩
abbrev L_law_spots (v_ends_here : Option D := none) (v_grain_here : Option D := none) (v_end : Option D := none) : Dl := [v_ends_here, v_grain_here, v_end]
abbrev s_law_spots : Stmt := topS 40
abbrev N_law_spots : List Str := ["_law_ends_here", "_law_grain_here", "_law_end"]
theorem sd_law_spots (x0 x1 : D) : startD N_law_spots [x0, x1] = [some x0, some x1, none] := rfl
theorem sc_law_spots : FnScope N_law_spots ["_law_ends_here", "_law_grain_here"] (defScope s_law_spots) := ⟨rfl, rfl, rfl, by decide +kernel, rfl, by decide +kernel, by decide +kernel⟩
abbrev L_law_middle (v_deck_here : Option D := none) (v_here : Option D := none) (v_there : Option D := none) (v_way : Option D := none) : Dl := [v_deck_here, v_here, v_there, v_way]
abbrev s_law_middle : Stmt := topS 41
abbrev N_law_middle : List Str := ["_law_deck_here", "_law_here", "_law_there", "_law_way"]
theorem sd_law_middle (x0 x1 x2 : D) : startD N_law_middle [x0, x1, x2] = [some x0, some x1, some x2, none] := rfl
theorem sc_law_middle : FnScope N_law_middle ["_law_deck_here", "_law_here", "_law_there"] (defScope s_law_middle) := ⟨rfl, rfl, rfl, by decide +kernel, rfl, by decide +kernel, by decide +kernel⟩
abbrev L_law_lengths (v_deck_here : Option D := none) (v_ends_here : Option D := none) (v_joining_here : Option D := none) (v_grain_here : Option D := none) (v_more : Option D := none) (v_spots_here : Option D := none) (v_lengths_here : Option D := none) (v_one : Option D := none) (v_other : Option D := none) (v_side : Option D := none) (v_longer : Option D := none) : Dl := [v_deck_here, v_ends_here, v_joining_here, v_grain_here, v_more, v_spots_here, v_lengths_here, v_one, v_other, v_side, v_longer]
abbrev F_law_lengths0 : List Nat := [7, 8, 9, 10]
abbrev F_law_lengths1 : List Nat := [9, 10]
abbrev s_law_lengths : Stmt := topS 42
abbrev N_law_lengths : List Str := ["_law_deck_here", "_law_ends_here", "_law_joining_here", "_law_grain_here", "_law_more", "_law_spots_here", "_law_lengths_here", "_law_one", "_law_other", "_law_side", "_law_longer"]
theorem sd_law_lengths (x0 x1 x2 x3 : D) : startD N_law_lengths [x0, x1, x2, x3] = [some x0, some x1, some x2, some x3, none, none, none, none, none, none, none] := rfl
theorem sc_law_lengths : FnScope N_law_lengths ["_law_deck_here", "_law_ends_here", "_law_joining_here", "_law_grain_here"] (defScope s_law_lengths) := ⟨rfl, rfl, rfl, by decide +kernel, rfl, by decide +kernel, by decide +kernel⟩
abbrev L_law_bent (v_deck_here : Option D := none) (v_lengths_here : Option D := none) (v_way : Option D := none) (v_found : Option D := none) (v_turn : Option D := none) (v_at : Option D := none) (v_kind : Option D := none) : Dl := [v_deck_here, v_lengths_here, v_way, v_found, v_turn, v_at, v_kind]
abbrev F_law_bent0 : List Nat := [4, 5, 6]
abbrev s_law_bent : Stmt := topS 43
abbrev N_law_bent : List Str := ["_law_deck_here", "_law_lengths_here", "_law_way", "_law_found", "_law_turn", "_law_at", "_law_kind"]
theorem sd_law_bent (x0 x1 : D) : startD N_law_bent [x0, x1] = [some x0, some x1, none, none, none, none, none] := rfl
theorem sc_law_bent : FnScope N_law_bent ["_law_deck_here", "_law_lengths_here"] (defScope s_law_bent) := ⟨rfl, rfl, rfl, by decide +kernel, rfl, by decide +kernel, by decide +kernel⟩
abbrev L_law_wires (v_many : Option D := none) (v_joining_here : Option D := none) (v_lengths_here : Option D := none) (v_wires_here : Option D := none) (v_one : Option D := none) (v_other : Option D := none) (v_under : Option D := none) (v_side : Option D := none) (v_end : Option D := none) : Dl := [v_many, v_joining_here, v_lengths_here, v_wires_here, v_one, v_other, v_under, v_side, v_end]
abbrev F_law_wires0 : List Nat := [4, 5, 6, 7, 8]
abbrev F_law_wires1 : List Nat := [7, 8]
abbrev F_law_wires2 : List Nat := [8]
abbrev s_law_wires : Stmt := topS 44
abbrev N_law_wires : List Str := ["_law_many", "_law_joining_here", "_law_lengths_here", "_law_wires_here", "_law_one", "_law_other", "_law_under", "_law_side", "_law_end"]
theorem sd_law_wires (x0 x1 x2 : D) : startD N_law_wires [x0, x1, x2] = [some x0, some x1, some x2, none, none, none, none, none, none] := rfl
theorem sc_law_wires : FnScope N_law_wires ["_law_many", "_law_joining_here", "_law_lengths_here"] (defScope s_law_wires) := ⟨rfl, rfl, rfl, by decide +kernel, rfl, by decide +kernel, by decide +kernel⟩
abbrev L_law_short_pairs (v_spots_here : Option D := none) (v_joining_here : Option D := none) (v_lengths_here : Option D := none) (v_ways : Option D := none) (v_found : Option D := none) (v_one : Option D := none) (v_other : Option D := none) (v_here : Option D := none) (v_there : Option D := none) (v_wire : Option D := none) (v_away : Option D := none) : Dl := [v_spots_here, v_joining_here, v_lengths_here, v_ways, v_found, v_one, v_other, v_here, v_there, v_wire, v_away]
abbrev F_law_short_pairs0 : List Nat := [5, 6, 7, 8, 9, 10]
abbrev F_law_short_pairs1 : List Nat := [7, 8, 9, 10]
abbrev F_law_short_pairs2 : List Nat := [8, 9, 10]
abbrev s_law_short_pairs : Stmt := topS 45
abbrev N_law_short_pairs : List Str := ["_law_spots_here", "_law_joining_here", "_law_lengths_here", "_law_ways", "_law_found", "_law_one", "_law_other", "_law_here", "_law_there", "_law_wire", "_law_away"]
theorem sd_law_short_pairs (x0 x1 x2 : D) : startD N_law_short_pairs [x0, x1, x2] = [some x0, some x1, some x2, none, none, none, none, none, none, none, none] := rfl
theorem sc_law_short_pairs : FnScope N_law_short_pairs ["_law_spots_here", "_law_joining_here", "_law_lengths_here"] (defScope s_law_short_pairs) := ⟨rfl, rfl, rfl, by decide +kernel, rfl, by decide +kernel, by decide +kernel⟩
abbrev L_law_done (v_way : Option D := none) (v_ends_here : Option D := none) (v_joining_here : Option D := none) (v_grain_here : Option D := none) (v_lengths_here : Option D := none) (v_root : Option D := none) : Dl := [v_way, v_ends_here, v_joining_here, v_grain_here, v_lengths_here, v_root]
abbrev s_law_done : Stmt := topS 46
abbrev N_law_done : List Str := ["_law_way", "_law_ends_here", "_law_joining_here", "_law_grain_here", "_law_lengths_here", "_law_root"]
theorem sd_law_done (x0 x1 x2 x3 x4 x5 : D) : startD N_law_done [x0, x1, x2, x3, x4, x5] = [some x0, some x1, some x2, some x3, some x4, some x5] := rfl
theorem sc_law_done : FnScope N_law_done ["_law_way", "_law_ends_here", "_law_joining_here", "_law_grain_here", "_law_lengths_here", "_law_root"] (defScope s_law_done) := ⟨rfl, rfl, rfl, by decide +kernel, rfl, by decide +kernel, by decide +kernel⟩
abbrev L_law_told (v_way : Option D := none) (v_ends_here : Option D := none) (v_joining_here : Option D := none) (v_grain_here : Option D := none) (v_lengths_here : Option D := none) (v_root : Option D := none) (v_told_here : Option D := none) (v_e : Option D := none) (v_others : Option D := none) : Dl := [v_way, v_ends_here, v_joining_here, v_grain_here, v_lengths_here, v_root, v_told_here, v_e, v_others]
abbrev s_law_told : Stmt := topS 47
abbrev N_law_told : List Str := ["_law_way", "_law_ends_here", "_law_joining_here", "_law_grain_here", "_law_lengths_here", "_law_root", "_law_told_here", "e", "_law_others"]
theorem sd_law_told (x0 x1 x2 x3 x4 x5 : D) : startD N_law_told [x0, x1, x2, x3, x4, x5] = [some x0, some x1, some x2, some x3, some x4, some x5, none, none, none] := rfl
theorem sc_law_told : FnScope N_law_told ["_law_way", "_law_ends_here", "_law_joining_here", "_law_grain_here", "_law_lengths_here", "_law_root"] (defScope s_law_told) := ⟨rfl, rfl, rfl, by decide +kernel, rfl, by decide +kernel, by decide +kernel⟩
abbrev L_law_right (v_told_here : Option D := none) (v_due : Option D := none) (v_one : Option D := none) : Dl := [v_told_here, v_due, v_one]
abbrev s_law_right : Stmt := topS 48
abbrev N_law_right : List Str := ["_law_told_here", "_law_due", "_law_one"]
theorem sd_law_right (x0 x1 : D) : startD N_law_right [x0, x1] = [some x0, some x1, none] := rfl
theorem sc_law_right : FnScope N_law_right ["_law_told_here", "_law_due"] (defScope s_law_right) := ⟨rfl, rfl, rfl, by decide +kernel, rfl, by decide +kernel, by decide +kernel⟩
abbrev L_law (v_script : Option D := none) (v_deck_here : Option D := none) (v_spoil : Option D := none) (v_many : Option D := none) (v_grain_here : Option D := none) (v_ends_here : Option D := none) (v_joining_here : Option D := none) (v_lengths_here : Option D := none) (v_one : Option D := none) (v_other : Option D := none) (v_spots_here : Option D := none) (v_due : Option D := none) (v_root : Option D := none) (v_way : Option D := none) (v_told_here : Option D := none) : Dl := [v_script, v_deck_here, v_spoil, v_many, v_grain_here, v_ends_here, v_joining_here, v_lengths_here, v_one, v_other, v_spots_here, v_due, v_root, v_way, v_told_here]
abbrev F_law0 : List Nat := [13, 14]
abbrev s_law : Stmt := topS 49
abbrev N_law : List Str := ["_law_script", "_law_deck_here", "_law_spoil", "_law_many", "_law_grain_here", "_law_ends_here", "_law_joining_here", "_law_lengths_here", "_law_one", "_law_other", "_law_spots_here", "_law_due", "_law_root", "_law_way", "_law_told_here"]
theorem sd_law (x0 : D) : startD N_law [x0] = [some x0, none, none, none, none, none, none, none, none, none, none, none, none, none, none] := rfl
theorem sc_law : FnScope N_law ["_law_script"] (defScope s_law) := ⟨rfl, rfl, rfl, by decide +kernel, rfl, by decide +kernel, by decide +kernel⟩
set_option genSizeOf false in
set_option genInjectivity false in
structure T (K : PySem.W.Frag) (mg : Str → Option Value) where
  a_spot_of : Addr
  d_spot_of : FuncData
  F_spot_of : Fun K "spot_of" "spot_of" s_spot_of a_spot_of d_spot_of
  g_spot_of : mg "spot_of" = some (.ref a_spot_of)
  b_spot_of : Binds K d_spot_of ["grain", "x", "y"] []
  a_far : Addr
  d_far : FuncData
  F_far : Fun K "far" "far" s_far a_far d_far
  g_far : mg "far" = some (.ref a_far)
  b_far : Binds K d_far ["spot", "other"] []
  a_grown : Addr
  d_grown : FuncData
  F_grown : Fun K "grown" "grown" s_grown a_grown d_grown
  g_grown : mg "grown" = some (.ref a_grown)
  b_grown : Binds K d_grown ["box", "by"] []
  a_met : Addr
  d_met : FuncData
  F_met : Fun K "met" "met" s_met a_met d_met
  g_met : mg "met" = some (.ref a_met)
  b_met : Binds K d_met ["box", "other"] []
  a_nearest : Addr
  d_nearest : FuncData
  F_nearest : Fun K "nearest" "nearest" s_nearest a_nearest d_nearest
  g_nearest : mg "nearest" = some (.ref a_nearest)
  b_nearest : Binds K d_nearest ["box", "spot"] []
  a_corner : Addr
  d_corner : FuncData
  F_corner : Fun K "corner" "corner" s_corner a_corner d_corner
  g_corner : mg "corner" = some (.ref a_corner)
  b_corner : Binds K d_corner ["box"] []
  a_has : Addr
  d_has : FuncData
  F_has : Fun K "has" "has" s_has a_has d_has
  g_has : mg "has" = some (.ref a_has)
  b_has : Binds K d_has ["box", "spot"] []
  a_above_all : Addr
  d_above_all : FuncData
  F_above_all : Fun K "above_all" "above_all" s_above_all a_above_all d_above_all
  g_above_all : mg "above_all" = some (.ref a_above_all)
  b_above_all : Binds K d_above_all ["many", "joining"] []
  a_chain : Addr
  d_chain : FuncData
  F_chain : Fun K "chain" "chain" s_chain a_chain d_chain
  g_chain : mg "chain" = some (.ref a_chain)
  b_chain : Binds K d_chain ["many", "joining", "knot"] []
  a_meeting : Addr
  d_meeting : FuncData
  F_meeting : Fun K "meeting" "meeting" s_meeting a_meeting d_meeting
  g_meeting : mg "meeting" = some (.ref a_meeting)
  b_meeting : Binds K d_meeting ["many", "joining", "one", "other"] []
  a_spots_of : Addr
  d_spots_of : FuncData
  F_spots_of : Fun K "spots_of" "spots_of" s_spots_of a_spots_of d_spots_of
  g_spots_of : mg "spots_of" = some (.ref a_spots_of)
  b_spots_of : Binds K d_spots_of ["ends", "grain"] []
  a_wire_between : Addr
  d_wire_between : FuncData
  F_wire_between : Fun K "wire_between" "wire_between" s_wire_between a_wire_between d_wire_between
  g_wire_between : mg "wire_between" = some (.ref a_wire_between)
  b_wire_between : Binds K d_wire_between ["many", "joining", "lengths", "one", "other"] []
  a_first_short : Addr
  d_first_short : FuncData
  F_first_short : Fun K "first_short" "first_short" s_first_short a_first_short d_first_short
  g_first_short : mg "first_short" = some (.ref a_first_short)
  b_first_short : Binds K d_first_short ["ends", "joining", "grain", "lengths"] []
  a_boxes_from_below : Addr
  d_boxes_from_below : FuncData
  F_boxes_from_below : Fun K "boxes_from_below" "boxes_from_below" s_boxes_from_below a_boxes_from_below d_boxes_from_below
  g_boxes_from_below : mg "boxes_from_below" = some (.ref a_boxes_from_below)
  b_boxes_from_below : Binds K d_boxes_from_below ["ends", "joining", "grain", "lengths"] []
  a_boxes_by : Addr
  d_boxes_by : FuncData
  F_boxes_by : Fun K "boxes_by" "boxes_by" s_boxes_by a_boxes_by d_boxes_by
  g_boxes_by : mg "boxes_by" = some (.ref a_boxes_by)
  b_boxes_by : Binds K d_boxes_by ["ends", "joining", "grain", "lengths"] []
  a_root_in : Addr
  d_root_in : FuncData
  F_root_in : Fun K "root_in" "root_in" s_root_in a_root_in d_root_in
  g_root_in : mg "root_in" = some (.ref a_root_in)
  b_root_in : Binds K d_root_in ["box", "spot"] []
  a_laid_down : Addr
  d_laid_down : FuncData
  F_laid_down : Fun K "laid_down" "laid_down" s_laid_down a_laid_down d_laid_down
  g_laid_down : mg "laid_down" = some (.ref a_laid_down)
  b_laid_down : Binds K d_laid_down ["many", "joining", "boxes", "spot"] []
  a_laid : Addr
  d_laid : FuncData
  F_laid : FunD K "laid" "laid" (defArgs s_laid) (defBody s_laid) (defScope s_laid) [V.non] [] a_laid d_laid
  g_laid : mg "laid" = some (.ref a_laid)
  b_laid : Binds K d_laid ["ends", "joining", "grain", "lengths", "root"] []
  bd_laid : ∃ ds, Vals [V.non] ds ∧ Binds K d_laid ["ends", "joining", "grain", "lengths", "root"] ds
  a_law_deck : Addr
  d_law_deck : FuncData
  F_law_deck : Fun K "_law_deck" "_law_deck" s_law_deck a_law_deck d_law_deck
  g_law_deck : mg "_law_deck" = some (.ref a_law_deck)
  b_law_deck : Binds K d_law_deck ["_law_script"] []
  a_law_take : Addr
  d_law_take : FuncData
  F_law_take : Fun K "_law_take" "_law_take" s_law_take a_law_take d_law_take
  g_law_take : mg "_law_take" = some (.ref a_law_take)
  b_law_take : Binds K d_law_take ["_law_deck_here", "_law_most"] []
  a_law_place : Addr
  d_law_place : FuncData
  F_law_place : Fun K "_law_place" "_law_place" s_law_place a_law_place d_law_place
  g_law_place : mg "_law_place" = some (.ref a_law_place)
  b_law_place : Binds K d_law_place ["_law_deck_here", "_law_way"] []
  a_law_ends : Addr
  d_law_ends : FuncData
  F_law_ends : Fun K "_law_ends" "_law_ends" s_law_ends a_law_ends d_law_ends
  g_law_ends : mg "_law_ends" = some (.ref a_law_ends)
  b_law_ends : Binds K d_law_ends ["_law_deck_here", "_law_many"] []
  a_law_joining : Addr
  d_law_joining : FuncData
  F_law_joining : Fun K "_law_joining" "_law_joining" s_law_joining a_law_joining d_law_joining
  g_law_joining : mg "_law_joining" = some (.ref a_law_joining)
  b_law_joining : Binds K d_law_joining ["_law_deck_here", "_law_many"] []
  a_law_size : Addr
  d_law_size : FuncData
  F_law_size : Fun K "_law_size" "_law_size" s_law_size a_law_size d_law_size
  g_law_size : mg "_law_size" = some (.ref a_law_size)
  b_law_size : Binds K d_law_size ["_law_deck_here", "_law_few", "_law_most"] []
  a_law_grain : Addr
  d_law_grain : FuncData
  F_law_grain : Fun K "_law_grain" "_law_grain" s_law_grain a_law_grain d_law_grain
  g_law_grain : mg "_law_grain" = some (.ref a_law_grain)
  b_law_grain : Binds K d_law_grain ["_law_deck_here"] []
  a_law_far : Addr
  d_law_far : FuncData
  F_law_far : Fun K "_law_far" "_law_far" s_law_far a_law_far d_law_far
  g_law_far : mg "_law_far" = some (.ref a_law_far)
  b_law_far : Binds K d_law_far ["_law_here", "_law_there"] []
  a_law_spots : Addr
  d_law_spots : FuncData
  F_law_spots : Fun K "_law_spots" "_law_spots" s_law_spots a_law_spots d_law_spots
  g_law_spots : mg "_law_spots" = some (.ref a_law_spots)
  b_law_spots : Binds K d_law_spots ["_law_ends_here", "_law_grain_here"] []
  a_law_middle : Addr
  d_law_middle : FuncData
  F_law_middle : Fun K "_law_middle" "_law_middle" s_law_middle a_law_middle d_law_middle
  g_law_middle : mg "_law_middle" = some (.ref a_law_middle)
  b_law_middle : Binds K d_law_middle ["_law_deck_here", "_law_here", "_law_there"] []
  a_law_lengths : Addr
  d_law_lengths : FuncData
  F_law_lengths : Fun K "_law_lengths" "_law_lengths" s_law_lengths a_law_lengths d_law_lengths
  g_law_lengths : mg "_law_lengths" = some (.ref a_law_lengths)
  b_law_lengths : Binds K d_law_lengths ["_law_deck_here", "_law_ends_here", "_law_joining_here", "_law_grain_here"] []
  a_law_bent : Addr
  d_law_bent : FuncData
  F_law_bent : Fun K "_law_bent" "_law_bent" s_law_bent a_law_bent d_law_bent
  g_law_bent : mg "_law_bent" = some (.ref a_law_bent)
  b_law_bent : Binds K d_law_bent ["_law_deck_here", "_law_lengths_here"] []
  a_law_wires : Addr
  d_law_wires : FuncData
  F_law_wires : Fun K "_law_wires" "_law_wires" s_law_wires a_law_wires d_law_wires
  g_law_wires : mg "_law_wires" = some (.ref a_law_wires)
  b_law_wires : Binds K d_law_wires ["_law_many", "_law_joining_here", "_law_lengths_here"] []
  a_law_short_pairs : Addr
  d_law_short_pairs : FuncData
  F_law_short_pairs : Fun K "_law_short_pairs" "_law_short_pairs" s_law_short_pairs a_law_short_pairs d_law_short_pairs
  g_law_short_pairs : mg "_law_short_pairs" = some (.ref a_law_short_pairs)
  b_law_short_pairs : Binds K d_law_short_pairs ["_law_spots_here", "_law_joining_here", "_law_lengths_here"] []
  a_law_done : Addr
  d_law_done : FuncData
  F_law_done : Fun K "_law_done" "_law_done" s_law_done a_law_done d_law_done
  g_law_done : mg "_law_done" = some (.ref a_law_done)
  b_law_done : Binds K d_law_done ["_law_way", "_law_ends_here", "_law_joining_here", "_law_grain_here", "_law_lengths_here", "_law_root"] []
  a_law_told : Addr
  d_law_told : FuncData
  F_law_told : Fun K "_law_told" "_law_told" s_law_told a_law_told d_law_told
  g_law_told : mg "_law_told" = some (.ref a_law_told)
  b_law_told : Binds K d_law_told ["_law_way", "_law_ends_here", "_law_joining_here", "_law_grain_here", "_law_lengths_here", "_law_root"] []
  a_law_right : Addr
  d_law_right : FuncData
  F_law_right : Fun K "_law_right" "_law_right" s_law_right a_law_right d_law_right
  g_law_right : mg "_law_right" = some (.ref a_law_right)
  b_law_right : Binds K d_law_right ["_law_told_here", "_law_due"] []
  a_law : Addr
  d_law : FuncData
  F_law : Fun K "law" "law" s_law a_law d_law
  g_law : mg "law" = some (.ref a_law)
  b_law : Binds K d_law ["_law_script"] []
  m_abs : mg "abs" = none
  m_bool : mg "bool" = none
  m_enumerate : mg "enumerate" = none
  m_int : mg "int" = none
  m_isinstance : mg "isinstance" = none
  m_len : mg "len" = none
  m_list : mg "list" = none
  m_max : mg "max" = none
  m_min : mg "min" = none
  m_range : mg "range" = none
  m_sorted : mg "sorted" = none
  m_sum : mg "sum" = none
  m_tuple : mg "tuple" = none
  m_ValueError : mg "ValueError" = none
  x_WireError : Addr
  x_Full : Addr
  x_NoEnd : Addr
  x_NoPlace : Addr
  x_NoRow : Addr
  x_NoText : Addr
  x_TooMany : Addr
  x_Twice : Addr
  x_NoFit : Addr
  oex_NoFit : OexC K x_NoFit
  aI_NoFit : Addr
  dI_NoFit : FuncData
  FI_NoFit : Fun K "__init__" "NoFit.__init__" (inClass (topS 17) 0) aI_NoFit dI_NoFit
  bI_NoFit : Binds K dI_NoFit ["self", "one", "other"] []
  iC_NoFit : PySem.W.findIn K (.ref x_NoFit) "__init__" = some (some (.ref aI_NoFit))
  tI_NoFit : PySem.W.typeIn K (.ref aI_NoFit) = some (.type "function")
  gx_WireError : mg "WireError" = some (.ref x_WireError)
  tx_WireError : PySem.W.typeIn K (.ref x_WireError) = some (.type "type")
  dx_WireError : PySem.W.hasDictIn K x_WireError = true
  sx_WireError : PySem.W.subIn K (.ref x_WireError) (.type "BaseException") = some true
  gx_Full : mg "Full" = some (.ref x_Full)
  tx_Full : PySem.W.typeIn K (.ref x_Full) = some (.type "type")
  dx_Full : PySem.W.hasDictIn K x_Full = true
  sx_Full : PySem.W.subIn K (.ref x_Full) (.type "BaseException") = some true
  gx_NoEnd : mg "NoEnd" = some (.ref x_NoEnd)
  tx_NoEnd : PySem.W.typeIn K (.ref x_NoEnd) = some (.type "type")
  dx_NoEnd : PySem.W.hasDictIn K x_NoEnd = true
  sx_NoEnd : PySem.W.subIn K (.ref x_NoEnd) (.type "BaseException") = some true
  gx_NoPlace : mg "NoPlace" = some (.ref x_NoPlace)
  tx_NoPlace : PySem.W.typeIn K (.ref x_NoPlace) = some (.type "type")
  dx_NoPlace : PySem.W.hasDictIn K x_NoPlace = true
  sx_NoPlace : PySem.W.subIn K (.ref x_NoPlace) (.type "BaseException") = some true
  gx_NoRow : mg "NoRow" = some (.ref x_NoRow)
  tx_NoRow : PySem.W.typeIn K (.ref x_NoRow) = some (.type "type")
  dx_NoRow : PySem.W.hasDictIn K x_NoRow = true
  sx_NoRow : PySem.W.subIn K (.ref x_NoRow) (.type "BaseException") = some true
  gx_NoText : mg "NoText" = some (.ref x_NoText)
  tx_NoText : PySem.W.typeIn K (.ref x_NoText) = some (.type "type")
  dx_NoText : PySem.W.hasDictIn K x_NoText = true
  sx_NoText : PySem.W.subIn K (.ref x_NoText) (.type "BaseException") = some true
  gx_TooMany : mg "TooMany" = some (.ref x_TooMany)
  tx_TooMany : PySem.W.typeIn K (.ref x_TooMany) = some (.type "type")
  dx_TooMany : PySem.W.hasDictIn K x_TooMany = true
  sx_TooMany : PySem.W.subIn K (.ref x_TooMany) (.type "BaseException") = some true
  gx_Twice : mg "Twice" = some (.ref x_Twice)
  tx_Twice : PySem.W.typeIn K (.ref x_Twice) = some (.type "type")
  dx_Twice : PySem.W.hasDictIn K x_Twice = true
  sx_Twice : PySem.W.subIn K (.ref x_Twice) (.type "BaseException") = some true
  gx_NoFit : mg "NoFit" = some (.ref x_NoFit)
  tx_NoFit : PySem.W.typeIn K (.ref x_NoFit) = some (.type "type")
  dx_NoFit : PySem.W.hasDictIn K x_NoFit = true
  sx_NoFit : PySem.W.subIn K (.ref x_NoFit) (.type "BaseException") = some true
  no_NoFit_one : PySem.W.findIn K (.ref x_NoFit) "one" = some none
  no_NoFit_other : PySem.W.findIn K (.ref x_NoFit) "other" = some none
  sg_WireError : PySem.W.specialIn K (.ref x_WireError) "__getattribute__" = some (some (.builtin "type.__getattribute__"))
  rd_WireError : PySem.W.readsIn K x_WireError (.type "type") = true
  vV_WireError : PySem.W.findCls K (.ref x_WireError) (.type "type") "__init__" = some (.val (.builtin "ValueError.__init__"))
  kx_NoFit : PySem.W.keepIn K (.ref x_NoFit) = true
  e1_NoFit : PySem.W.findIn K (.ref x_NoFit) "__getattribute__" = some (some (.builtin "BaseException.__getattribute__"))
  e2_NoFit : PySem.W.findIn K (.ref x_NoFit) "__getattr__" = some none
  e3_NoFit : PySem.W.findIn K (.ref x_NoFit) "__class__" = some (some (.builtin "object.__class__"))
  e4_NoFit : PySem.W.specialIn K (.builtin "object.__class__") "__get__" = some (some (.builtin "getset_descriptor.__get__"))
  e5_NoFit : PySem.W.takesIn K (.builtin "object.__class__") = some true
  e6_NoFit : PySem.W.mroIn K x_NoFit (.type "object") = some true
  u_NoFit_WireError : PySem.W.subIn K (.ref x_NoFit) (.ref x_WireError) = some true
  u_NoFit_Full : PySem.W.subIn K (.ref x_NoFit) (.ref x_Full) = some false
  u_NoFit_NoEnd : PySem.W.subIn K (.ref x_NoFit) (.ref x_NoEnd) = some false
  u_NoFit_NoPlace : PySem.W.subIn K (.ref x_NoFit) (.ref x_NoPlace) = some false
  u_NoFit_NoRow : PySem.W.subIn K (.ref x_NoFit) (.ref x_NoRow) = some false
  u_NoFit_NoText : PySem.W.subIn K (.ref x_NoFit) (.ref x_NoText) = some false
  u_NoFit_TooMany : PySem.W.subIn K (.ref x_NoFit) (.ref x_TooMany) = some false
  u_NoFit_Twice : PySem.W.subIn K (.ref x_NoFit) (.ref x_Twice) = some false
  u_NoFit_NoFit : PySem.W.subIn K (.ref x_NoFit) (.ref x_NoFit) = some true
  u_NoFit_ValueError : PySem.W.subIn K (.ref x_NoFit) (.type "ValueError") = some true
  kx_NoPlace : PySem.W.keepIn K (.ref x_NoPlace) = true
  qx_NoPlace : PySem.W.excIn K x_NoPlace [.type "ValueError", .type "Exception", .type "BaseException", .type "object"] "ValueError.__new__" = true
  e1_NoPlace : PySem.W.findIn K (.ref x_NoPlace) "__getattribute__" = some (some (.builtin "BaseException.__getattribute__"))
  e2_NoPlace : PySem.W.findIn K (.ref x_NoPlace) "__getattr__" = some none
  e3_NoPlace : PySem.W.findIn K (.ref x_NoPlace) "__class__" = some (some (.builtin "object.__class__"))
  e4_NoPlace : PySem.W.specialIn K (.builtin "object.__class__") "__get__" = some (some (.builtin "getset_descriptor.__get__"))
  e5_NoPlace : PySem.W.takesIn K (.builtin "object.__class__") = some true
  e6_NoPlace : PySem.W.mroIn K x_NoPlace (.type "object") = some true
  u_NoPlace_WireError : PySem.W.subIn K (.ref x_NoPlace) (.ref x_WireError) = some true
  u_NoPlace_Full : PySem.W.subIn K (.ref x_NoPlace) (.ref x_Full) = some false
  u_NoPlace_NoEnd : PySem.W.subIn K (.ref x_NoPlace) (.ref x_NoEnd) = some false
  u_NoPlace_NoPlace : PySem.W.subIn K (.ref x_NoPlace) (.ref x_NoPlace) = some true
  u_NoPlace_NoRow : PySem.W.subIn K (.ref x_NoPlace) (.ref x_NoRow) = some false
  u_NoPlace_NoText : PySem.W.subIn K (.ref x_NoPlace) (.ref x_NoText) = some false
  u_NoPlace_TooMany : PySem.W.subIn K (.ref x_NoPlace) (.ref x_TooMany) = some false
  u_NoPlace_Twice : PySem.W.subIn K (.ref x_NoPlace) (.ref x_Twice) = some false
  u_NoPlace_NoFit : PySem.W.subIn K (.ref x_NoPlace) (.ref x_NoFit) = some false
  u_NoPlace_ValueError : PySem.W.subIn K (.ref x_NoPlace) (.type "ValueError") = some true
local macro_rules | `(tactic| exists "at12") => `(tactic| (with_reducible apply atSet; with_reducible assumption))
local macro_rules | `(tactic| exists "lk12") => `(tactic| (with_reducible apply Lk.setF; with_reducible assumption; with_reducible assumption))
local macro_rules | `(tactic| exists "at") => `(tactic| (with_reducible apply atSet; with_reducible assumption))
local macro_rules | `(tactic| exists "lk") => `(tactic| (with_reducible apply Lk.setF; with_reducible assumption; with_reducible assumption))
local macro_rules | `(tactic| exists "at1") => `(tactic| (with_reducible apply atSet; with_reducible assumption))
local macro_rules | `(tactic| exists "lk1") => `(tactic| (with_reducible apply Lk.setF; with_reducible assumption; with_reducible assumption))
local macro_rules | `(tactic| exists "at2") => `(tactic| (with_reducible apply atSet; with_reducible assumption))
local macro_rules | `(tactic| exists "lk2") => `(tactic| (with_reducible apply Lk.setF; with_reducible assumption; with_reducible assumption))
local macro_rules | `(tactic| exists "at3") => `(tactic| (with_reducible apply atSet; with_reducible assumption))
local macro_rules | `(tactic| exists "lk3") => `(tactic| (with_reducible apply Lk.setF; with_reducible assumption; with_reducible assumption))
local macro_rules | `(tactic| exists "at4") => `(tactic| (with_reducible apply atSet; with_reducible assumption))
local macro_rules | `(tactic| exists "lk4") => `(tactic| (with_reducible apply Lk.setF; with_reducible assumption; with_reducible assumption))
local macro_rules | `(tactic| exists "at5") => `(tactic| (with_reducible apply atSet; with_reducible assumption))
local macro_rules | `(tactic| exists "lk5") => `(tactic| (with_reducible apply Lk.setF; with_reducible assumption; with_reducible assumption))
local macro_rules | `(tactic| exists "at6") => `(tactic| (with_reducible apply atSet; with_reducible assumption))
local macro_rules | `(tactic| exists "lk6") => `(tactic| (with_reducible apply Lk.setF; with_reducible assumption; with_reducible assumption))
local macro_rules | `(tactic| exists "at7") => `(tactic| (with_reducible apply atSet; with_reducible assumption))
local macro_rules | `(tactic| exists "lk7") => `(tactic| (with_reducible apply Lk.setF; with_reducible assumption; with_reducible assumption))
local macro_rules | `(tactic| exists "at8") => `(tactic| (with_reducible apply atSet; with_reducible assumption))
local macro_rules | `(tactic| exists "lk8") => `(tactic| (with_reducible apply Lk.setF; with_reducible assumption; with_reducible assumption))
local macro_rules | `(tactic| exists "at9") => `(tactic| (with_reducible apply atSet; with_reducible assumption))
local macro_rules | `(tactic| exists "lk9") => `(tactic| (with_reducible apply Lk.setF; with_reducible assumption; with_reducible assumption))
local macro_rules | `(tactic| exists "at10") => `(tactic| (with_reducible apply atSet; with_reducible assumption))
local macro_rules | `(tactic| exists "lk10") => `(tactic| (with_reducible apply Lk.setF; with_reducible assumption; with_reducible assumption))
local macro_rules | `(tactic| exists "at11") => `(tactic| (with_reducible apply atSet; with_reducible assumption))
local macro_rules | `(tactic| exists "lk11") => `(tactic| (with_reducible apply Lk.setF; with_reducible assumption; with_reducible assumption))
local macro_rules | `(tactic| exists "wk") => `(tactic| repeat (first | with_reducible exact Weak.refl | with_reducible apply weak_keep | ((with_reducible refine' weak_flh ?h ?hw); (case h => omega)) | with_reducible apply weak_skip | with_reducible apply weak_appS | ((with_reducible refine' weak_setF ?hm ?h); (case hm => with_reducible assumption); (case h => omega)) | ((with_reducible refine' weak_atF ?hm ?h); (case hm => with_reducible assumption); (case h => omega))))
theorem T.ex_NoFit {K : PySem.W.Frag} {mg : Str → Option Value} (X : T K mg) : ExcC K X.x_NoFit := ⟨X.e1_NoFit, X.e2_NoFit, X.sx_NoFit, X.dx_NoFit, X.e3_NoFit, X.e4_NoFit, X.e5_NoFit, X.e6_NoFit⟩
theorem T.ex_NoPlace {K : PySem.W.Frag} {mg : Str → Option Value} (X : T K mg) : ExcC K X.x_NoPlace := ⟨X.e1_NoPlace, X.e2_NoPlace, X.sx_NoPlace, X.dx_NoPlace, X.e3_NoPlace, X.e4_NoPlace, X.e5_NoPlace, X.e6_NoPlace⟩
local macro_rules | `(tactic| exists "gW") => `(tactic| first | with_reducible refine w_callE ?_ | with_reducible refine w_callEN ?_)
section
variable {Pg : Program} {w : World} {K : PySem.W.Frag} {mg : Str → Option Value} {base : Heap}
theorem ok_ini_NoFit (X : T K mg) : FnOk Pg w K mg base CX0 1 X.aI_NoFit X.dI_NoFit ["self", "one", "other"] (spIni X.x_NoFit "one" "other") :=
  ok_ini (Cw := X.x_WireError) X.FI_NoFit ⟨rfl, rfl, rfl, by decide +kernel, rfl, by decide +kernel, by decide +kernel⟩ X.oex_NoFit X.no_NoFit_one X.no_NoFit_other (fun cdv A outer s H E => ⟨_, pss_cons (ps_expr (pe_winit (Cw := X.x_WireError) (by rfl) X.gx_WireError X.sg_WireError X.rd_WireError X.vV_WireError (pa_cons (pv 0) (pa_cons pe_str pa_nil)))) (pss_cons (ps_ost (pv 0) (pv 1)) (pss_one (ps_ost (pv 0) (pv 2))))⟩)
abbrev S_spot_of : SpD := fun ds μ P => ∃ g x y : Int, ds = [.int g, .int x, .int y] ∧ -(2 ^ 64) < g ∧ g < 2 ^ 64 ∧ P (.tup [.int (g * (x + y)), .int (g * (x - y))]) μ
theorem sp_spot_of {g x y : Int} {μ : Mu} {P : D → Mu → Prop} (h1 : -(2 ^ 64) < g) (h2 : g < 2 ^ 64) (q : P (.tup [.int (g * (x + y)), .int (g * (x - y))]) μ) : S_spot_of [.int g, .int x, .int y] μ P := ⟨g, x, y, rfl, h1, h2, q⟩

local macro_rules | `(tactic| exists "gx") => `(tactic| first
  | (((with_reducible refine' sp_spot_of ?h1 ?h2 ?_); (case h1 => omega); (case h2 => omega))))
local macro_rules | `(tactic| exists "sd") => `(tactic| exact sd_spot_of _ _ _)
set_option maxHeartbeats 4000000 in
theorem ok_spot_of (X : T K mg) : FnOk Pg w K mg base CX0 1 X.a_spot_of X.d_spot_of ["grain", "x", "y"] (spOf K 3 S_spot_of) := by
  refine fn_ok4 X.F_spot_of sc_spot_of rfl (fun cdv A outer s H E hr => ⟨_, (pss_one (ps_ret (pe_tup (pa_cons (pe_op op_mul (pv 0) (pe_op (k_add (K := K) rfl) (pv 1) (pv 2))) (pa_cons (pe_op op_mul (pv 0) (pe_op op_sub (pv 1) (pv 2))) pa_nil))))), ?_⟩)
  intro ds μ P hl h
  obtain ⟨g, x, y, rfl, h1, h2, q⟩ := h
  (exists "go")
  exact ⟨_, Weak.refl, q⟩
  
abbrev S_far : SpD := fun ds μ P => ∃ u v a b : Int, ds = [.tup [.int u, .int v], .tup [.int a, .int b]] ∧ P (.int (max (max (u - a) (-(u - a))) (max (v - b) (-(v - b))))) μ
theorem sp_far {u v a b : Int} {μ : Mu} {P : D → Mu → Prop} (q : P (.int (max (max (u - a) (-(u - a))) (max (v - b) (-(v - b))))) μ) : S_far [.tup [.int u, .int v], .tup [.int a, .int b]] μ P := ⟨u, v, a, b, rfl, q⟩

local macro_rules | `(tactic| exists "gx") => `(tactic| first
  | (with_reducible refine sp_far ?_))
local macro_rules | `(tactic| exists "sd") => `(tactic| exact sd_far _ _)
set_option maxHeartbeats 4000000 in
theorem ok_far (X : T K mg) : FnOk Pg w K mg base CX0 1 X.a_far X.d_far ["spot", "other"] (spOf K 2 S_far) := by
  refine fn_ok4 X.F_far sc_far rfl (fun cdv A outer s H E hr => ⟨_, (pss_one (ps_ret (pe_callB (k_max (K := K) rfl rfl) (by rfl) X.m_max (by decide +kernel) (pa_cons (pe_callB call_abs (by rfl) X.m_abs (by decide +kernel) (pa_cons (pe_op op_sub (pe_ix (k_ix (K := K) rfl) (pv 0) pe_int (fun _ _ => rfl)) (pe_ix (k_ix (K := K) rfl) (pv 1) pe_int (fun _ _ => rfl))) pa_nil)) (pa_cons (pe_callB call_abs (by rfl) X.m_abs (by decide +kernel) (pa_cons (pe_op op_sub (pe_ix (k_ix (K := K) rfl) (pv 0) pe_int (fun _ _ => rfl)) (pe_ix (k_ix (K := K) rfl) (pv 1) pe_int (fun _ _ => rfl))) pa_nil)) pa_nil))))), ?_⟩)
  intro ds μ P hl h
  obtain ⟨u, v, a, b, rfl, q⟩ := h
  (exists "go")
  exact ⟨_, Weak.refl, q⟩
  
abbrev S_grown : SpD := fun ds μ P => ∃ a b c e n : Int, ds = [.tup [.int a, .int b, .int c, .int e], .int n] ∧ P (.tup [.int (a - n), .int (b + n), .int (c - n), .int (e + n)]) μ
theorem sp_grown {a b c e n : Int} {μ : Mu} {P : D → Mu → Prop} (q : P (.tup [.int (a - n), .int (b + n), .int (c - n), .int (e + n)]) μ) : S_grown [.tup [.int a, .int b, .int c, .int e], .int n] μ P := ⟨a, b, c, e, n, rfl, q⟩

local macro_rules | `(tactic| exists "gx") => `(tactic| first
  | (with_reducible refine sp_grown ?_))
local macro_rules | `(tactic| exists "sd") => `(tactic| exact sd_grown _ _)
set_option maxHeartbeats 4000000 in
theorem ok_grown (X : T K mg) : FnOk Pg w K mg base CX0 1 X.a_grown X.d_grown ["box", "by"] (spOf K 2 S_grown) := by
  refine fn_ok4 X.F_grown sc_grown rfl (fun cdv A outer s H E hr => ⟨_, (pss_one (ps_ret (pe_tup (pa_cons (pe_op op_sub (pe_ix (k_ix (K := K) rfl) (pv 0) pe_int (fun _ _ => rfl)) (pv 1)) (pa_cons (pe_op (k_add (K := K) rfl) (pe_ix (k_ix (K := K) rfl) (pv 0) pe_int (fun _ _ => rfl)) (pv 1)) (pa_cons (pe_op op_sub (pe_ix (k_ix (K := K) rfl) (pv 0) pe_int (fun _ _ => rfl)) (pv 1)) (pa_cons (pe_op (k_add (K := K) rfl) (pe_ix (k_ix (K := K) rfl) (pv 0) pe_int (fun _ _ => rfl)) (pv 1)) pa_nil))))))), ?_⟩)
  intro ds μ P hl h
  obtain ⟨a, b, c, e, n, rfl, q⟩ := h
  (exists "go")
  exact ⟨_, Weak.refl, q⟩
abbrev S_met : SpD := fun ds μ P => ∃ a b c e a' b' c' e' : Int, ds = [bx a b c e, bx a' b' c' e'] ∧ P (oD (metO (some (a, b, c, e)) (some (a', b', c', e')))) μ
theorem sp_met {a b c e a' b' c' e' : Int} {μ : Mu} {P : D → Mu → Prop} (q : P (oD (metO (some (a, b, c, e)) (some (a', b', c', e')))) μ) : S_met [.tup [.int a, .int b, .int c, .int e], .tup [.int a', .int b', .int c', .int e']] μ P := ⟨a, b, c, e, a', b', c', e', rfl, q⟩

local macro_rules | `(tactic| exists "gx") => `(tactic| first
  | (with_reducible refine sp_met ?_))
local macro_rules | `(tactic| exists "sd") => `(tactic| exact sd_met _ _)
set_option maxHeartbeats 4000000 in
theorem ok_met (X : T K mg) : FnOk Pg w K mg base CX0 1 X.a_met X.d_met ["box", "other"] (spOf K 2 S_met) := by
  refine fn_ok4 X.F_met sc_met rfl (fun cdv A outer s H E hr => ⟨_, (pss_cons (ps_set (i := 2) sc_met.nd rfl (Or.inl rfl) (pe_tup (pa_cons (pe_callB (k_max (K := K) rfl rfl) (by rfl) X.m_max (by decide +kernel) (pa_cons (pe_ix (k_ix (K := K) rfl) (pv 0) pe_int (fun _ _ => rfl)) (pa_cons (pe_ix (k_ix (K := K) rfl) (pv 1) pe_int (fun _ _ => rfl)) pa_nil))) (pa_cons (pe_callB (k_min (K := K) rfl rfl) (by rfl) X.m_min (by decide +kernel) (pa_cons (pe_ix (k_ix (K := K) rfl) (pv 0) pe_int (fun _ _ => rfl)) (pa_cons (pe_ix (k_ix (K := K) rfl) (pv 1) pe_int (fun _ _ => rfl)) pa_nil))) (pa_cons (pe_callB (k_max (K := K) rfl rfl) (by rfl) X.m_max (by decide +kernel) (pa_cons (pe_ix (k_ix (K := K) rfl) (pv 0) pe_int (fun _ _ => rfl)) (pa_cons (pe_ix (k_ix (K := K) rfl) (pv 1) pe_int (fun _ _ => rfl)) pa_nil))) (pa_cons (pe_callB (k_min (K := K) rfl rfl) (by rfl) X.m_min (by decide +kernel) (pa_cons (pe_ix (k_ix (K := K) rfl) (pv 0) pe_int (fun _ _ => rfl)) (pa_cons (pe_ix (k_ix (K := K) rfl) (pv 1) pe_int (fun _ _ => rfl)) pa_nil))) pa_nil))))))
  (pss_cons (ps_if (PW.pt (pw_or (pt_cmpR op_gt (pe_ix (k_ix (K := K) rfl) (pv 2) pe_int (fun _ _ => rfl)) (pe_ix (k_ix (K := K) rfl) (pv 2) pe_int (fun _ _ => rfl)) (nomark _)) (pw_or1 (pt_cmpR op_gt (pe_ix (k_ix (K := K) rfl) (pv 2) pe_int (fun _ _ => rfl)) (pe_ix (k_ix (K := K) rfl) (pv 2) pe_int (fun _ _ => rfl)) (nomark _))))) (pss_one (ps_ret pe_non)) pss_nil)
  (pss_one (ps_ret (pv 2))))), ?_⟩)
  intro ds μ P hl h
  obtain ⟨a, b, c, e, a', b', c', e', rfl, q⟩ := h
  (exists "go")
  refine split_d (fun h1 => ?_) (fun h1 => ?_)
  · (exists "go")
    rw [metO_no (by omega)] at q
    exact ⟨_, Weak.refl, q⟩
  (exists "go")
  refine split_d (fun h2 => ?_) (fun h2 => ?_)
  · (exists "go")
    rw [metO_no (by omega)] at q
    exact ⟨_, Weak.refl, q⟩
  (exists "go")
  rw [metO_yes (by omega)] at q
  exact ⟨_, Weak.refl, q⟩
  
abbrev S_nearest : SpD := fun ds μ P => ∃ a b c e u v : Int, ds = [bx a b c e, .tup [.int u, .int v]] ∧ P (.tup [.int (min (max u a) b), .int (min (max v c) e)]) μ
theorem sp_nearest {a b c e u v : Int} {μ : Mu} {P : D → Mu → Prop} (q : P (.tup [.int (min (max u a) b), .int (min (max v c) e)]) μ) : S_nearest [.tup [.int a, .int b, .int c, .int e], .tup [.int u, .int v]] μ P := ⟨_, _, _, _, _, _, rfl, q⟩

local macro_rules | `(tactic| exists "gx") => `(tactic| first
  | (with_reducible refine sp_nearest ?_))
local macro_rules | `(tactic| exists "sd") => `(tactic| exact sd_nearest _ _)
set_option maxHeartbeats 4000000 in
theorem ok_nearest (X : T K mg) : FnOk Pg w K mg base CX0 1 X.a_nearest X.d_nearest ["box", "spot"] (spOf K 2 S_nearest) := by
  refine fn_ok4 X.F_nearest sc_nearest rfl (fun cdv A outer s H E hr => ⟨_, (pss_one (ps_ret (pe_tup (pa_cons (pe_callB (k_min (K := K) rfl rfl) (by rfl) X.m_min (by decide +kernel) (pa_cons (pe_callB (k_max (K := K) rfl rfl) (by rfl) X.m_max (by decide +kernel) (pa_cons (pe_ix (k_ix (K := K) rfl) (pv 1) pe_int (fun _ _ => rfl)) (pa_cons (pe_ix (k_ix (K := K) rfl) (pv 0) pe_int (fun _ _ => rfl)) pa_nil))) (pa_cons (pe_ix (k_ix (K := K) rfl) (pv 0) pe_int (fun _ _ => rfl)) pa_nil))) (pa_cons (pe_callB (k_min (K := K) rfl rfl) (by rfl) X.m_min (by decide +kernel) (pa_cons (pe_callB (k_max (K := K) rfl rfl) (by rfl) X.m_max (by decide +kernel) (pa_cons (pe_ix (k_ix (K := K) rfl) (pv 1) pe_int (fun _ _ => rfl)) (pa_cons (pe_ix (k_ix (K := K) rfl) (pv 0) pe_int (fun _ _ => rfl)) pa_nil))) (pa_cons (pe_ix (k_ix (K := K) rfl) (pv 0) pe_int (fun _ _ => rfl)) pa_nil))) pa_nil))))), ?_⟩)
  intro ds μ P hl h
  obtain ⟨a, b, c, e, u, v, rfl, q⟩ := h
  (exists "go")
  exact ⟨_, Weak.refl, q⟩
abbrev S_corner : SpD := fun ds μ P => ∃ a b c e : Int, ds = [bx a b c e] ∧ P (.tup [.int a, .int c]) μ
theorem sp_corner {a b c e : Int} {μ : Mu} {P : D → Mu → Prop} (q : P (.tup [.int a, .int c]) μ) : S_corner [.tup [.int a, .int b, .int c, .int e]] μ P := ⟨_, _, _, _, rfl, q⟩

local macro_rules | `(tactic| exists "gx") => `(tactic| first
  | (with_reducible refine sp_corner ?_))
local macro_rules | `(tactic| exists "sd") => `(tactic| exact sd_corner _)
set_option maxHeartbeats 4000000 in
theorem ok_corner (X : T K mg) : FnOk Pg w K mg base CX0 1 X.a_corner X.d_corner ["box"] (spOf K 1 S_corner) := by
  refine fn_ok4 X.F_corner sc_corner rfl (fun cdv A outer s H E hr => ⟨_, (pss_one (ps_ret (pe_tup (pa_cons (pe_ix (k_ix (K := K) rfl) (pv 0) pe_int (fun _ _ => rfl)) (pa_cons (pe_ix (k_ix (K := K) rfl) (pv 0) pe_int (fun _ _ => rfl)) pa_nil))))), ?_⟩)
  intro ds μ P hl h
  obtain ⟨a, b, c, e, rfl, q⟩ := h
  (exists "go")
  exact ⟨_, Weak.refl, q⟩
  
abbrev S_has : SpD := fun ds μ P => ∃ a b c e u v : Int, ds = [.tup [.int a, .int b, .int c, .int e], .tup [.int u, .int v]] ∧ P (.bl (decide ((a ≤ u ∧ u ≤ b) ∧ c ≤ v ∧ v ≤ e))) μ
theorem sp_has {a b c e u v : Int} {μ : Mu} {P : D → Mu → Prop} (q : P (.bl (decide ((a ≤ u ∧ u ≤ b) ∧ c ≤ v ∧ v ≤ e))) μ) : S_has [.tup [.int a, .int b, .int c, .int e], .tup [.int u, .int v]] μ P := ⟨a, b, c, e, u, v, rfl, q⟩

local macro_rules | `(tactic| exists "gx") => `(tactic| first
  | (with_reducible refine sp_has ?_))
local macro_rules | `(tactic| exists "sd") => `(tactic| exact sd_has _ _)
set_option maxHeartbeats 4000000 in
theorem ok_has (X : T K mg) : FnOk Pg w K mg base CX0 1 X.a_has X.d_has ["box", "spot"] (spOf K 2 S_has) := by
  refine fn_ok4 X.F_has sc_has rfl (fun cdv A outer s H E hr => ⟨_, (pss_one (ps_ret (pe_and (pe_chain op_le op_le (pe_ix (k_ix (K := K) rfl) (pv 0) pe_int (fun _ _ => rfl)) (pe_ix (k_ix (K := K) rfl) (pv 1) pe_int (fun _ _ => rfl)) (pe_ix (k_ix (K := K) rfl) (pv 0) pe_int (fun _ _ => rfl))) (pe_one (pe_chain op_le op_le (pe_ix (k_ix (K := K) rfl) (pv 0) pe_int (fun _ _ => rfl)) (pe_ix (k_ix (K := K) rfl) (pv 1) pe_int (fun _ _ => rfl)) (pe_ix (k_ix (K := K) rfl) (pv 0) pe_int (fun _ _ => rfl))))))), ?_⟩)
  intro ds μ P hl h
  obtain ⟨a, b, c, e, u, v, rfl, q⟩ := h
  (exists "go")
  refine split_d (fun h1 => ?_) (fun h1 => ?_)
  · (exists "go")
    by_cases h2 : u ≤ b
    · rw [decide_eq_true h2]
      (exists "go")
      (exists "go")
      refine split_d (fun h3 => ?_) (fun h3 => ?_)
      · (exists "go")
        refine ⟨_, Weak.refl, ?_⟩
        rw [show decide (v ≤ e) = decide ((a ≤ u ∧ u ≤ b) ∧ c ≤ v ∧ v ≤ e) from decide_eq_decide.mpr (by omega)]
        exact q
      · refine ⟨_, Weak.refl, ?_⟩
        rw [decide_eq_false (by omega)] at q
        exact q
    · rw [decide_eq_false h2]
      (exists "go")
      refine ⟨_, Weak.refl, ?_⟩
      rw [decide_eq_false (by omega)] at q
      exact q
  · (exists "go")
    (exists "go")
    refine ⟨_, Weak.refl, ?_⟩
    rw [decide_eq_false (by omega)] at q
    exact q
  
abbrev S_above_all : SpD := fun ds μ P => ∃ (m : Nat) (J : List (Nat × Nat)), ds = [.int (m : Int), .tup (J.map pD)] ∧ m ≤ 24 ∧ Jng m J ∧ ∀ (p : Addr) (A : List (Option Nat)) (kds : List (Key × D)), AbvP m J J.length A → DicN kds (abvF A) → kds.length ≤ 100 → P (.ref p) ((p, .dic kds) :: μ)
theorem sp_above_all {m : Nat} {J : List (Nat × Nat)} {μ : Mu} {P : D → Mu → Prop} (hm : m ≤ 24) (hJ : Jng m J) (q : ∀ (p : Addr) (A : List (Option Nat)) (kds : List (Key × D)), AbvP m J J.length A → DicN kds (abvF A) → kds.length ≤ 100 → P (.ref p) ((p, .dic kds) :: μ)) : S_above_all [.int (m : Nat), .tup (J.map pD)] μ P := ⟨m, J, rfl, hm, hJ, q⟩

local macro_rules | `(tactic| exists "gx") => `(tactic| first
  | (((with_reducible refine' sp_above_all ?hi ?hJ ?_); (case hi => omega); (case hJ => (with_reducible assumption)))))
local macro_rules | `(tactic| exists "sd") => `(tactic| exact sd_above_all _ _)
set_option maxHeartbeats 4000000 in
theorem ok_above_all (X : T K mg) : FnOk Pg w K mg base CX0 1 X.a_above_all X.d_above_all ["many", "joining"] (spOf K 2 S_above_all) := by
  refine fn_ok4 X.F_above_all sc_above_all rfl (fun cdv A outer s H E hr => ⟨_, (pss_cons (ps_set (i := 2) sc_above_all.nd rfl (Or.inl rfl) pe_dnewK)
  (pss_cons (ps_for PassesOwn.never rfl (WkE.k_enumT (K := K) rfl (by rfl) X.m_enumerate (pa_cons (pv 1) pa_nil)) (k_gtup (K := K) (n := 2) rfl (by rfl) (pgs_cons (pg_name (i := 3) sc_above_all.nd rfl (.inl rfl)) (pgs_cons (pg_name (i := 4) sc_above_all.nd rfl (.inl rfl)) pgs_nil))) (pss_one (ps_for PassesOwn.never rfl (k_itup (K := K) rfl (pv 4)) (pg_name (i := 5) sc_above_all.nd rfl (.inl rfl)) (pss_one (ps_dput (hu_of hr) (pv 2) (pv 5) (pe_op (k_add (K := K) rfl) (pv 0) (pv 3)) rfl)))))
  (pss_one (ps_ret (pv 2))))), ?_⟩)
  intro ds μ P hl h
  obtain ⟨m, J, rfl, hm, hJ, q⟩ := h
  have F := hJ.facts
  have hJl := hJ.1
  (exists "go")
  rename_i pa
  refine forE (fun pre δ' μ' => ∃ A kds, AbvP m J pre.length A ∧ DicN kds (abvF A) ∧ kds.length ≤ 2 * pre.length ∧ δ' = L_above_all (v_many := some (.int (m : Int))) (v_joining := some (.tup (J.map pD))) (v_found := some (.ref pa)) ∧ μ' = (pa, .dic kds) :: μ) ⟨_, _, (by (exists "le")), Weak.refl, _, [], .nil, abvF_nil, Nat.le_refl _, rfl, rfl⟩ (fun _ _ _ _ => True.intro) ?_ ?_
  · rintro pre x suf δ' ν hx ⟨A, kds, hA, hD, hkl, rfl, rfl⟩
    have hlow := F.low pre.length x (by rw [hx]; simp)
    have hpl : pre.length < J.length := by rw [hx]; simp
    have hAl := hA.1
    have hk1 : x.1 < A.length := by omega
    have hk2 : x.2 < (A.set x.1 (some (m + pre.length))).length := by rw [List.length_set]; omega
    have z1 : (putD kds (.inl (x.1 : Int)) (jD (m + pre.length))).length ≤ kds.length + 1 := putD_length
    have z2 : (putD (putD kds (.inl (x.1 : Int)) (jD (m + pre.length))) (.inl (x.2 : Int)) (jD (m + pre.length))).length ≤ (putD kds (.inl (x.1 : Int)) (jD (m + pre.length))).length + 1 := putD_length
    have e1 : D.int ((m : Int) + (pre.length : Int)) = jD (m + pre.length) := congrArg D.int (Int.natCast_add _ _).symm
    (exists "go")
    refine for2 (fun δ' μ' => δ' = L_above_all (v_many := some (.int (m : Int))) (v_joining := some (.tup (J.map pD))) (v_found := some (.ref pa)) (v_number := some (jD pre.length)) (v_row := some (pD x)) ∧ μ' = (pa, .dic (putD kds (.inl (x.1 : Int)) (jD (m + pre.length)))) :: μ)
      (fun δ' μ' => δ' = L_above_all (v_many := some (.int (m : Int))) (v_joining := some (.tup (J.map pD))) (v_found := some (.ref pa)) (v_number := some (jD pre.length)) (v_row := some (pD x)) ∧ μ' = (pa, .dic (putD (putD kds (.inl (x.1 : Int)) (jD (m + pre.length))) (.inl (x.2 : Int)) (jD (m + pre.length)))) :: μ) (fun _ => True.intro) ?_ ?_ ?_
    · (exists "go")
      rw [e1]
      exact ⟨_, _, (by (exists "le")), Weak.refl, rfl, rfl⟩
    · rintro δ' ν ⟨rfl, rfl⟩
      (exists "go")
      rw [e1]
      exact ⟨_, _, (by (exists "le")), Weak.refl, rfl, rfl⟩
    · rintro δ' ν ⟨rfl, rfl⟩
      have hln : (pre ++ [x]).length = pre.length + 1 := by rw [List.length_append]; rfl
      refine ⟨_, _, (by (exists "le")), Weak.refl, _, _, ?_, abvF_put _ (abvF_put _ hD hk1) hk2, by rw [hln]; omega, rfl, rfl⟩
      rw [hln]
      exact hA.step (by rw [hx]; simp) ⟨by omega, by omega⟩
  rintro δ' ν ⟨A, kds, hA, hD, hkl, rfl, rfl⟩
  (exists "go")
  exact ⟨_, Weak.refl, q pa A kds hA hD (by omega)⟩
abbrev S_chain : SpD := fun ds μ P => ∃ (m k : Nat) (J : List (Nat × Nat)), ds = [.int (m : Nat), .tup (J.map pD), jD k] ∧ m ≤ 24 ∧ Jng m J ∧ k < m + J.length ∧ P (.tup ((chn m J k).map jD)) μ
theorem sp_chainp {m k : Nat} {J : List (Nat × Nat)} {μ : Mu} {P : D → Mu → Prop} (h1 : m ≤ 24) (h2 : Jng m J) (h3 : k < m + J.length) (q : P (.tup ((chn m J k).map jD)) μ) : S_chain [.int (m : Nat), .tup (J.map pD), jD k] μ P := ⟨m, k, J, rfl, h1, h2, h3, q⟩

local macro_rules | `(tactic| exists "gx") => `(tactic| first
  | (((with_reducible refine' sp_chainp ?h1 ?h2 ?h3 ?_); (case h1 => omega); (case h2 => (with_reducible assumption)); (case h3 => first | (with_reducible assumption) | omega))))
local macro_rules | `(tactic| exists "sd") => `(tactic| exact sd_chain _ _ _)
set_option maxHeartbeats 4000000 in
theorem ok_chain (X : T K mg) : FnOk Pg w K mg base CX0 2 X.a_chain X.d_chain ["many", "joining", "knot"] (spOf K 3 S_chain) := by
  refine fn_ok4 X.F_chain sc_chain rfl (fun cdv A outer s H E hr => ⟨_, (pss_cons (ps_set (i := 3) sc_chain.nd rfl (Or.inl rfl) (pe_call (ok_above_all X) (hr.mono (by decide)) (by rfl) X.g_above_all X.F_above_all.kp X.b_above_all .nil pass0 (pa_cons (pv 0) (pa_cons (pv 1) pa_nil))))
  (pss_cons (ps_set (i := 4) sc_chain.nd rfl (Or.inl rfl) (pe_lst (pa_cons (pv 2) pa_nil)))
  (pss_cons (ps_while PassesOwn.never (pt_cmp (pc_din (hu_of hr) (pe_ix (k_ix (K := K) rfl) (pv 4) (pe_un un_neg pe_int) (fun _ _ => rfl)) (pv 3)) (by rfl)) (pss_one (ps_expr (k_bm (K := K) rfl PySem.F.plainAttrs_list PySem.F.slot_list_append PySem.F.type_list_append mt_append (pv 4) (pa_cons (pe_dget (hu_of hr) (pv 3) (pe_ix (k_ix (K := K) rfl) (pv 4) (pe_un un_neg pe_int) (fun _ _ => rfl)) (fun _ _ => rfl)) pa_nil)))))
  (pss_one (ps_ret (pe_callTy (k_tup (K := K) rfl) (by rfl) X.m_tuple (by decide +kernel) (pa_cons (pv 4) pa_nil))))))), ?_⟩)
  intro ds μ P hl h
  obtain ⟨m, k, J, rfl, hm, hJ, hk, q⟩ := h
  have hJl := hJ.1
  (exists "go")
  rename_i pa A kds hA hD hkl p
  have hAl := hA.1
  have hmono : ∀ C : List Nat, ∀ j, C ++ chn m J j = chn m J k → C.length ≤ 48 := fun C j hC => by
    have := congrArg List.length hC
    rw [List.length_append] at this
    have h2 : (chn m J k).length ≤ m + J.length := by
      have := (List.filter_sublist (l := List.range (m + J.length)) (p := fun j => decide (k ≤ j ∧ ∀ e ∈ belAt m J k, e ∈ belAt m J j))).length_le
      rw [List.length_range] at this
      exact this
    omega
  refine s_while (fun M δ' μ' => ∃ (j : Nat) (C : List Nat), C ++ chn m J j = chn m J k ∧ j < m + J.length ∧ M = m + J.length - j ∧ δ' = L_chain (v_many := some (.int (m : Nat))) (v_joining := some (.tup (J.map pD))) (v_knot := some (jD k)) (v_above := some (.ref pa)) (v_found := some (.ref p)) ∧ μ' = (p, .lst ((C ++ [j]).map jD)) :: (pa, .dic kds) :: μ) (m + J.length - k) ⟨k, [], rfl, hk, rfl, rfl, rfl⟩ ?_
  rintro M δ' ν ⟨j, C, hC, hj, rfl, rfl, rfl⟩
  have hCl := hmono C j hC
  have gl : (C ++ [j]).getLast? = some j := by rw [List.getLast?_append]; rfl
  have hzl : (C ++ [j]).length ≤ 60 := by rw [List.length_append, List.length_singleton]; omega
  rcases hA.go hJ hj with ⟨ea, hc⟩ | ⟨p2, ea, hp1, hp2, hc⟩
  · have ev : abvF A j = none := by unfold abvF; rw [List.getD_eq_getElem?_getD, ea]; rfl
    rw [hc] at hC
    (exists "go")
    rw [hC]
    exact ⟨_, (by (exists "wk")), q⟩
  · have ev : abvF A j = some (jD p2) := by unfold abvF; rw [List.getD_eq_getElem?_getD, ea]; rfl
    (exists "go")
    exact ⟨_, _, m + J.length - p2, (by (exists "le")), Weak.refl, by omega, p2, C ++ [j], by rw [List.append_assoc, ← hC, hc]; rfl, hp2, rfl, rfl, by rw [List.map_append (l₁ := C ++ [j]), List.map_append]; rfl⟩
abbrev S_meeting : SpD := fun ds μ P => ∃ (m a b : Nat) (J : List (Nat × Nat)), ds = [.int (m : Nat), .tup (J.map pD), jD a, jD b] ∧ m ≤ 24 ∧ Jng m J ∧ a < m + J.length ∧ b < m + J.length ∧ P (jD (meetN m J a b)) μ
theorem sp_meeting {m a b : Nat} {J : List (Nat × Nat)} {μ : Mu} {P : D → Mu → Prop} (h1 : m ≤ 24) (h2 : Jng m J) (h3 : a < m + J.length) (h4 : b < m + J.length) (q : P (jD (meetN m J a b)) μ) : S_meeting [.int (m : Nat), .tup (J.map pD), jD a, jD b] μ P := ⟨m, a, b, J, rfl, h1, h2, h3, h4, q⟩

local macro_rules | `(tactic| exists "gx") => `(tactic| first
  | (((with_reducible refine' sp_meeting ?h1 ?h2 ?h3 ?h4 ?_); (case h1 => omega); (case h2 => (with_reducible assumption)); (case h3 => first | (with_reducible assumption) | omega); (case h4 => first | (with_reducible assumption) | omega))))
local macro_rules | `(tactic| exists "sd") => `(tactic| exact sd_meeting _ _ _ _)
set_option maxHeartbeats 4000000 in
theorem ok_meeting (X : T K mg) : FnOk Pg w K mg base CX0 3 X.a_meeting X.d_meeting ["many", "joining", "one", "other"] (spOf K 4 S_meeting) := by
  refine fn_ok4 X.F_meeting sc_meeting rfl (fun cdv A outer s H E hr => ⟨_, (pss_cons (ps_set (i := 4) sc_meeting.nd rfl (Or.inr rfl) (pe_call (ok_chain X) (hr.mono (by decide)) (by rfl) X.g_chain X.F_chain.kp X.b_chain .nil pass0 (pa_cons (pv 0) (pa_cons (pv 1) (pa_cons (pv 3) pa_nil)))))
  (pss_one (ps_ret (pe_ix (k_ix (K := K) rfl) (pe_lc (own := [("knot", 5)]) (g := gName 5) rfl sc_meeting.nd (k_itup (K := K) rfl (pe_call (ok_chain X) (hr.mono (by decide)) (by rfl) X.g_chain X.F_chain.kp X.b_chain .nil pass0 (pa_cons (pv 0) (pa_cons (pv 1) (pa_cons (pv 2) pa_nil))))) (blkOk_by (N := N_meeting) (sc := defScope s_meeting) (by decide +kernel)) (fun _ _ _ _ _ => (pg_name (i := 5) sc_meeting.nd rfl (.inl rfl))) (fun _ _ _ _ _ => (pts_one (pt_cmpR (k_in (K := K) rfl) (pv 5) (pv 4) (by with_unfolding_all rfl)))) (fun _ _ _ _ _ => (pv 5))) pe_int (fun _ _ => rfl))))), ?_⟩)
  intro ds μ P hl h
  obtain ⟨m, a, b, J, rfl, hm, hJ, ha, hb, q⟩ := h
  have hJl := hJ.1
  have hla := chn_len (J := J) (m := m) a
  (exists "go")
  refine lcF (es := chn m J a) (r := jD) (c := fun k => decide (k ∈ chn m J b)) (lt_size (by omega)) (by (exists "hG")) (fun x hx p1 acc => ?_) (fun p1 => ?_)
  · (exists "go")
    exact ⟨(by (exists "wk")), fun _ => by (exists "go"); (exists "rw")⟩
  have gm := meetN_get hJ ha hb
  (exists "go")
  refine w2_ixKi Lk.here (k := 0) rfl gm ?_
  exact ⟨_, (by (exists "wk")), q⟩
  
abbrev S_spots_of : SpD := fun ds μ P => ∃ (es : List En) (g : Int), ds = [.tup (es.map eD), .int g] ∧ es.length ≤ 24 ∧ 1 ≤ g ∧ g ≤ 2 ^ 60 ∧ ∀ p, P (.ref p) ((p, .lst ((spL g es).map zD)) :: μ)
theorem sp_spotsp {es : List En} {g : Int} {μ : Mu} {P : D → Mu → Prop} (h1 : es.length ≤ 24) (h2 : 1 ≤ g) (h3 : g ≤ 2 ^ 60) (q : ∀ p, P (.ref p) ((p, .lst ((spL g es).map zD)) :: μ)) : S_spots_of [.tup (es.map eD), .int g] μ P := ⟨es, g, rfl, h1, h2, h3, q⟩

local macro_rules | `(tactic| exists "gx") => `(tactic| first
  | (((with_reducible refine' sp_spotsp ?h1 ?h2 ?h3 ?_); (case h1 => omega); (case h2 => omega); (case h3 => omega))))
local macro_rules | `(tactic| exists "sd") => `(tactic| exact sd_spots_of _ _)
set_option maxHeartbeats 4000000 in
theorem ok_spots_of (X : T K mg) : FnOk Pg w K mg base CX0 2 X.a_spots_of X.d_spots_of ["ends", "grain"] (spOf K 2 S_spots_of) := by
  refine fn_ok4 X.F_spots_of sc_spots_of rfl (fun cdv A outer s H E hr => ⟨_, (pss_one (ps_ret (pe_lc (own := [("x", 2), ("y", 3), ("start", 4), ("load", 5)]) (g := gTup K 4 (gCons (gName 2) (gCons (gName 3) (gCons (gName 4) (gCons (gName 5) (gNil)))))) (tt := tYes) rfl sc_spots_of.nd (k_itup (K := K) rfl (pv 0)) (blkOk_by (N := N_spots_of) (sc := defScope s_spots_of) (by decide +kernel)) (fun _ _ _ _ _ => (k_gtup (K := K) (n := 4) rfl (by rfl) (pgs_cons (pg_name (i := 2) sc_spots_of.nd rfl (.inl rfl)) (pgs_cons (pg_name (i := 3) sc_spots_of.nd rfl (.inl rfl)) (pgs_cons (pg_name (i := 4) sc_spots_of.nd rfl (.inl rfl)) (pgs_cons (pg_name (i := 5) sc_spots_of.nd rfl (.inl rfl)) pgs_nil)))))) (fun _ _ _ _ _ => pts_nil) (fun _ _ _ _ _ => (pe_call (ok_spot_of X) (hr.mono (by decide)) (by rfl) X.g_spot_of X.F_spot_of.kp X.b_spot_of .nil pass0 (pa_cons (pv 1) (pa_cons (pv 2) (pa_cons (pv 3) pa_nil)))))))), ?_⟩)
  intro ds μ P hl h
  obtain ⟨es, g, rfl, h1, h2, h3, q⟩ := h
  (exists "go")
  refine lcM (es := es) (r := fun e : En => zD (g * (e.x + e.y), g * (e.x - e.y))) (lt_size (by omega)) (by (exists "hG")) (fun x hx p1 acc => ?_) (fun p => ?_)
  · (exists "go")
    (exists "rw")
  rw [show es.map (fun e : En => zD (g * (e.x + e.y), g * (e.x - e.y))) = (spL g es).map zD from by unfold spL; rw [List.map_map]; rfl]
  exact ⟨_, Weak.refl, q p⟩
theorem awy_cut {ls : List Int} {m e top x : Nat} {J pre suf} (h : chn m J e = pre ++ x :: suf) (hx : top ≤ x) (hp : ∀ k ∈ pre, k < top) : awy ls m J e top = (pre.map fun k => ls.getD k 0).sum := by
  have hr : (chn m J e).Pairwise (· < ·) := chn_rise
  rw [h, List.pairwise_append] at hr
  unfold awy
  rw [h, List.filter_append, List.filter_eq_self.mpr (fun k hk => decide_eq_true (hp k hk)), List.filter_eq_nil_iff.mpr, List.append_nil]
  intro k hk
  rw [decide_eq_true_eq]
  rcases List.mem_cons.mp hk with rfl | hk
  · omega
  · have := (List.pairwise_cons.mp hr.2.1).1 k hk
    omega
theorem awy_all {ls : List Int} {m e top : Nat} {J} (hp : ∀ k ∈ chn m J e, k < top) : awy ls m J e top = ((chn m J e).map fun k => ls.getD k 0).sum := by
  unfold awy
  rw [List.filter_eq_self.mpr (fun k hk => decide_eq_true (hp k hk))]
theorem ls_at2 {ls : List Int} {k : Nat} (h : k < ls.length) : ls[k]? = some (ls.getD k 0) := by rw [List.getD_eq_getElem?_getD, List.getElem?_eq_getElem h]; rfl
theorem pre_snoc {top x : Nat} {pre : List Nat} (hp : ∀ k ∈ pre, k < top) (hx : x < top) : ∀ k ∈ pre ++ [x], k < top := fun k hk => by
  rcases List.mem_append.mp hk with h | h
  · exact hp k h
  · rw [List.mem_singleton.mp h]; exact hx
theorem pre_sum {ls : List Int} {x : Nat} {pre : List Nat} : ((pre ++ [x]).map fun k => ls.getD k 0).sum = (pre.map fun k => ls.getD k 0).sum + ls.getD x 0 := by
  rw [List.map_append, List.sum_append, List.map_singleton, List.sum_singleton]
theorem meetN_in {m a b : Nat} {J} (hJ : Jng m J) (ha : a < m + J.length) (hb : b < m + J.length) : meetN m J a b < m + J.length := by
  have := List.mem_of_getElem? (meetN_get hJ ha hb)
  exact (chn_mem.mp (List.mem_filter.mp this).1).1

abbrev S_wire_between : SpD := fun ds μ P => ∃ (m a b : Nat) (J : List (Nat × Nat)) (ls : List Int), ds = [.int (m : Nat), .tup (J.map pD), .tup (ls.map D.int), jD a, jD b] ∧ m ≤ 24 ∧ Jng m J ∧ ls.length = m + J.length - 1 ∧ a < m + J.length ∧ b < m + J.length ∧ P (.int (wayN ls m J a b)) μ
theorem sp_wire_between {m a b : Nat} {J : List (Nat × Nat)} {ls : List Int} {μ : Mu} {P : D → Mu → Prop} (h1 : m ≤ 24) (hJ : Jng m J) (h2 : ls.length = m + J.length - 1) (h3 : a < m + J.length) (h4 : b < m + J.length) (q : P (.int (wayN ls m J a b)) μ) : S_wire_between [.int (m : Nat), .tup (J.map pD), .tup (ls.map D.int), jD a, jD b] μ P := ⟨m, a, b, J, ls, rfl, h1, hJ, h2, h3, h4, q⟩

local macro_rules | `(tactic| exists "gx") => `(tactic| first
  | (((with_reducible refine' sp_wire_between ?h1 ?hJ ?h2 ?h3 ?h4 ?_); (case h1 => omega); (case hJ => with_reducible assumption); (case h2 => omega); (case h3 => omega); (case h4 => omega))))
local macro_rules | `(tactic| exists "sd") => `(tactic| exact sd_wire_between _ _ _ _ _)
set_option maxHeartbeats 4000000 in
theorem ok_wire_between (X : T K mg) : FnOk Pg w K mg base CX0 4 X.a_wire_between X.d_wire_between ["many", "joining", "lengths", "one", "other"] (spOf K 5 S_wire_between) := by
  refine fn_ok4 X.F_wire_between sc_wire_between rfl (fun cdv A outer s H E hr => ⟨_, (pss_cons (ps_set (i := 5) sc_wire_between.nd rfl (Or.inl rfl) (pe_call (ok_meeting X) (hr.mono (by decide)) (by rfl) X.g_meeting X.F_meeting.kp X.b_meeting .nil pass0 (pa_cons (pv 0) (pa_cons (pv 1) (pa_cons (pv 3) (pa_cons (pv 4) pa_nil))))))
  (pss_cons (ps_set (i := 6) sc_wire_between.nd rfl (Or.inl rfl) pe_int)
  (pss_cons (ps_for PassesOwn.never rfl (k_itup (K := K) rfl (pe_tup (pa_cons (pv 3) (pa_cons (pv 4) pa_nil)))) (pg_name (i := 7) sc_wire_between.nd rfl (.inl rfl)) (pss_one (ps_for PassesOwn.never rfl (WkE.k_iU (K := K) rfl (pe_call (ok_chain X) (hr.mono (by decide)) (by rfl) X.g_chain X.F_chain.kp X.b_chain .nil pass0 (pa_cons (pv 0) (pa_cons (pv 1) (pa_cons (pv 7) pa_nil))))) (pg_name (i := 8) sc_wire_between.nd rfl (.inl rfl)) (pss_cons (ps_if (pt_cmpR op_ge (pv 8) (pv 5) (nomark _)) (pss_one ps_break) pss_nil)
  (pss_one (ps_aug (i := 6) sc_wire_between.nd rfl (Or.inl rfl) (pe_ix (k_ix (K := K) rfl) (pv 2) (pv 8) (fun _ _ => rfl)) ip_add))))))
  (pss_one (ps_ret (pv 6)))))), ?_⟩)
  intro ds μ P hl h
  obtain ⟨m, a, b, J, ls, rfl, h1, hJ, h2, h3, h4, q⟩ := h
  have hJl := hJ.1
  have htop := meetN_in hJ h3 h4
  (exists "go")
  unfold wayN at q
  generalize htd : meetN m J a b = top at *
  refine for2 (fun δ' μ' => δ' = L_wire_between (v_many := some (.int (m : Nat))) (v_joining := some (.tup (J.map pD))) (v_lengths := some (.tup (ls.map D.int))) (v_one := some (jD a)) (v_other := some (jD b)) (v_top := some (jD top)) (v_total := some (.int (awy ls m J a top))) ∧ μ' = μ)
    (fun δ' μ' => δ' = L_wire_between (v_many := some (.int (m : Nat))) (v_joining := some (.tup (J.map pD))) (v_lengths := some (.tup (ls.map D.int))) (v_one := some (jD a)) (v_other := some (jD b)) (v_top := some (jD top)) (v_total := some (.int (awy ls m J a top + awy ls m J b top))) ∧ μ' = μ) (fun _ => True.intro) ?_ ?_ ?_
  · skip
    (exists "ge")
    (exists "go")
    refine forMm (fun pre δ' μ' => (∀ k ∈ pre, k < top) ∧ ∃ t : Int, t = (pre.map fun k => ls.getD k 0).sum ∧ δ' = L_wire_between (v_many := some (.int (m : Nat))) (v_joining := some (.tup (J.map pD))) (v_lengths := some (.tup (ls.map D.int))) (v_one := some (jD a)) (v_other := some (jD b)) (v_top := some (jD top)) (v_total := some (.int t)) ∧ μ' = μ) ⟨_, _, (by (exists "le")), Weak.refl, (fun _ h => nomatch h), _, (by rw [List.map_nil, List.sum_nil]), rfl, rfl⟩ (fun _ _ _ _ => True.intro) ?_ ?_
    · rintro pre x suf δ' ν hx ⟨hp, t, ht, rfl, rfl⟩
      (exists "ge")
      (exists "go")
      refine split_d (fun hc => ?_) (fun hc => ?_)
      · (exists "go")
        rw [← awy_cut (ls := ls) hx (by omega) hp] at ht
        subst ht
        exact ⟨_, _, (by (exists "le")), Weak.refl, rfl, rfl⟩
      · have gx := ls_at2 (ls := ls) (k := x) (by omega)
        (exists "go")
        exact ⟨_, _, (by (exists "le")), Weak.refl, pre_snoc hp (by omega), t + ls.getD x 0, (by rw [pre_sum, ht]), rfl, rfl⟩
    · rintro δ' ν ⟨hp, t, ht, rfl, rfl⟩
      rw [← awy_all (ls := ls) hp] at ht
      subst ht
      exact ⟨_, _, (by (exists "le")), Weak.refl, rfl, rfl⟩
  · rintro δ' ν ⟨rfl, rfl⟩
    (exists "ge")
    (exists "go")
    refine forMm (fun pre δ' μ' => (∀ k ∈ pre, k < top) ∧ ∃ t : Int, t = awy ls m J a top + (pre.map fun k => ls.getD k 0).sum ∧ δ' = L_wire_between (v_many := some (.int (m : Nat))) (v_joining := some (.tup (J.map pD))) (v_lengths := some (.tup (ls.map D.int))) (v_one := some (jD a)) (v_other := some (jD b)) (v_top := some (jD top)) (v_total := some (.int t)) ∧ μ' = ν) ⟨_, _, (by (exists "le")), Weak.refl, (fun _ h => nomatch h), _, (by rw [List.map_nil, List.sum_nil, Int.add_zero]), rfl, rfl⟩ (fun _ _ _ _ => True.intro) ?_ ?_
    · rintro pre x suf δ' ν hx ⟨hp, t, ht, rfl, rfl⟩
      (exists "ge")
      (exists "go")
      refine split_d (fun hc => ?_) (fun hc => ?_)
      · (exists "go")
        rw [← awy_cut (ls := ls) hx (by omega) hp] at ht
        subst ht
        exact ⟨_, _, (by (exists "le")), Weak.refl, rfl, rfl⟩
      · have gx := ls_at2 (ls := ls) (k := x) (by omega)
        (exists "go")
        exact ⟨_, _, (by (exists "le")), Weak.refl, pre_snoc hp (by omega), t + ls.getD x 0, (by rw [pre_sum, ht, Int.add_assoc]), rfl, rfl⟩
    · rintro δ' ν ⟨hp, t, ht, rfl, rfl⟩
      rw [← awy_all (ls := ls) hp] at ht
      subst ht
      exact ⟨_, _, (by (exists "le")), Weak.refl, rfl, rfl⟩
  · rintro δ' ν ⟨rfl, rfl⟩
    (exists "go")
    exact ⟨_, (by (exists "wk")), q⟩
theorem far_off {a b : Int × Int} : (max (max (a.1 - b.1) (-(a.1 - b.1))) (max (a.2 - b.2) (-(a.2 - b.2)))) = offZ a b := rfl

abbrev S_first_short : SpD := fun ds μ P => ∃ (es : List En) (J : List (Nat × Nat)) (g : Int) (ls : List Int), ds = [.tup (es.map eD), .tup (J.map pD), .int g, .tup (ls.map D.int)] ∧ es.length ≤ 24 ∧ Jng es.length J ∧ 1 ≤ g ∧ g ≤ 2 ^ 60 ∧ ls.length = es.length + J.length - 1 ∧ ¬ FitJ (spG g es) ls es.length J ∧ ∀ u v, FstS (spG g es) ls es.length J u v → P (pD (u, v)) μ
theorem sp_first_short {es : List En} {J : List (Nat × Nat)} {g : Int} {ls : List Int} {μ : Mu} {P : D → Mu → Prop} (h1 : es.length ≤ 24) (hJ : Jng es.length J) (h2 : 1 ≤ g) (h3 : g ≤ 2 ^ 60) (h4 : ls.length = es.length + J.length - 1) (h5 : ¬ FitJ (spG g es) ls es.length J) (q : ∀ u v, FstS (spG g es) ls es.length J u v → P (pD (u, v)) μ) : S_first_short [.tup (es.map eD), .tup (J.map pD), .int g, .tup (ls.map D.int)] μ P := ⟨es, J, g, ls, rfl, h1, hJ, h2, h3, h4, h5, q⟩

local macro_rules | `(tactic| exists "gx") => `(tactic| first
  | (((with_reducible refine' sp_first_short ?h1 ?hJ ?h2 ?h3 ?h4 ?h5 ?_); (case h1 => omega); (case hJ => with_reducible assumption); (case h2 => omega); (case h3 => omega); (case h4 => omega); (case h5 => with_reducible assumption))))
local macro_rules | `(tactic| exists "sd") => `(tactic| exact sd_first_short _ _ _ _)
set_option maxHeartbeats 4000000 in
theorem ok_first_short (X : T K mg) : FnOk Pg w K mg base CX0 5 X.a_first_short X.d_first_short ["ends", "joining", "grain", "lengths"] (spOf K 4 S_first_short) := by
  refine fn_ok4 X.F_first_short sc_first_short rfl (fun cdv A outer s H E hr => ⟨_, (pss_cons (ps_set (i := 4) sc_first_short.nd rfl (Or.inl rfl) (pe_callB (k_len (K := K) rfl) (by rfl) X.m_len (by decide +kernel) (pa_cons (pv 0) pa_nil)))
  (pss_cons (ps_set (i := 5) sc_first_short.nd rfl (Or.inl rfl) (pe_call (ok_spots_of X) (hr.mono (by decide)) (by rfl) X.g_spots_of X.F_spots_of.kp X.b_spots_of .nil pass0 (pa_cons (pv 0) (pa_cons (pv 2) pa_nil))))
  (pss_cons (ps_for PassesOwn.never rfl (pi_range1 (by rfl) X.m_range (pa_cons (pv 4) pa_nil)) (pg_name (i := 6) sc_first_short.nd rfl (.inl rfl)) (pss_one (ps_for PassesOwn.never rfl (pi_range2 (by rfl) X.m_range (pa_cons (pe_op (k_add (K := K) rfl) (pv 6) pe_int) (pa_cons (pv 4) pa_nil))) (pg_name (i := 7) sc_first_short.nd rfl (.inl rfl)) (pss_one (ps_if (pt_cmpR op_lt (pe_call (ok_wire_between X) (hr.mono (by decide)) (by rfl) X.g_wire_between X.F_wire_between.kp X.b_wire_between .nil pass0 (pa_cons (pv 4) (pa_cons (pv 1) (pa_cons (pv 3) (pa_cons (pv 6) (pa_cons (pv 7) pa_nil)))))) (pe_call (ok_far X) (hr.mono (by decide)) (by rfl) X.g_far X.F_far.kp X.b_far .nil pass0 (pa_cons (pe_ix (k_ix (K := K) rfl) (pv 5) (pv 6) (fun _ _ => rfl)) (pa_cons (pe_ix (k_ix (K := K) rfl) (pv 5) (pv 7) (fun _ _ => rfl)) pa_nil))) (nomark _)) (pss_one (ps_ret (pe_tup (pa_cons (pv 6) (pa_cons (pv 7) pa_nil))))) pss_nil)))))
  (pss_one (ps_ret (pe_tup (pa_cons pe_int (pa_cons pe_int pa_nil)))))))), ?_⟩)
  intro ds μ P hl h
  obtain ⟨es, J, g, ls, rfl, h1, hJ, h2, h3, h4, h5, q⟩ := h
  have hJl := hJ.1
  (exists "go")
  rename_i psp
  refine forR0 (fun i δ' μ' => NoS (spG g es) ls es.length J i 0 ∧ δ' = L_first_short (v_ends := some (.tup (es.map eD))) (v_joining := some (.tup (J.map pD))) (v_grain := some (.int g)) (v_lengths := some (.tup (ls.map D.int))) (v_many := some (.int (es.length : Nat))) (v_spots := some (.ref psp)) ∧ μ' = (psp, .lst ((spL g es).map zD)) :: μ) ⟨_, _, (by (exists "le")), Weak.refl, .start, rfl, rfl⟩ (fun _ _ _ _ => True.intro) ?_ ?_
  · rintro i δ' ν hi ⟨hN, rfl, rfl⟩
    (exists "ge")
    (exists "go")
    refine ⟨(i : Int) + 1, (es.length : Int), rfl, by omega, ?_⟩
    have gi := spL_get (g := g) (es := es) (k := i) (by omega)
    refine forR (fun j δ' μ' => NoS (spG g es) ls es.length J i (i + 1 + j) ∧ δ' = L_first_short (v_ends := some (.tup (es.map eD))) (v_joining := some (.tup (J.map pD))) (v_grain := some (.int g)) (v_lengths := some (.tup (ls.map D.int))) (v_many := some (.int (es.length : Nat))) (v_spots := some (.ref psp)) (v_one := some (jD i)) ∧ μ' = (psp, .lst ((spL g es).map zD)) :: μ) ⟨_, _, (by (exists "le")), Weak.refl, hN.enter, rfl, rfl⟩ (fun _ _ _ _ => True.intro) ?_ ?_
    · rintro j δ' ν hj ⟨hN2, rfl, rfl⟩
      rw [show ((i : Int) + 1 + (j : Int)) = ((i + 1 + j : Nat) : Int) by omega]
      have hij : i + 1 + j < es.length := by omega
      have gj := spL_get (g := g) (es := es) (k := i + 1 + j) hij
      generalize hkd : i + 1 + j = k at *
      (exists "ge")
      (exists "go")
      rw [far_off]
      refine split_d (fun hc => ?_) (fun hc => ?_)
      · (exists "go")
        exact ⟨_, (by (exists "wk")), q i k (hN2.hit (by omega) hij hc)⟩
      · (exists "go")
        exact ⟨_, _, (by (exists "le")), Weak.refl, (by rw [show i + 1 + (j + 1) = k + 1 by omega]; exact hN2.skip hc), rfl, rfl⟩
    · rintro δ' ν ⟨hN2, rfl, rfl⟩
      exact ⟨_, _, (by (exists "le")), Weak.refl, hN2.next' (by omega), rfl, rfl⟩
  rintro δ' ν ⟨hN, rfl, rfl⟩
  exact absurd (NoS.done hJ (b := 0) (by simpa using hN)) h5
/-- the boxes of all knots, where all pairs have enough wire -/
abbrev bxs (sp : Nat → Int × Int) (ls : List Int) (m : Nat) (J : List (Nat × Nat)) (n : Nat) : List D := (List.range n).map fun k => qD (bxW sp (wrK ls m J k))
open Classical in
noncomputable def bfD (es : List En) (J : List (Nat × Nat)) (g : Int) (ls : List Int) : D := if FitJ (spG g es) ls es.length J then .tup (bxs (spG g es) ls es.length J (es.length + J.length)) else .non
theorem bfD_yes {es : List En} {J : List (Nat × Nat)} {g : Int} {ls : List Int} (h : FitJ (spG g es) ls es.length J) : bfD es J g ls = .tup (bxs (spG g es) ls es.length J (es.length + J.length)) := if_pos h
theorem bfD_no {es : List En} {J : List (Nat × Nat)} {g : Int} {ls : List Int} (h : ¬ FitJ (spG g es) ls es.length J) : bfD es J g ls = .non := if_neg h
theorem ls_at' {ls : List Int} {k : Nat} (h : k < ls.length) : ls[k]? = some (ls.getD k 0) := by rw [List.getD_eq_getElem?_getD, List.getElem?_eq_getElem h]; rfl

abbrev S_boxes_from_below : SpD := fun ds μ P => ∃ (es : List En) (J : List (Nat × Nat)) (g : Int) (ls : List Int), ds = [.tup (es.map eD), .tup (J.map pD), .int g, .tup (ls.map D.int)] ∧ es.length ≤ 24 ∧ Jng es.length J ∧ 1 ≤ g ∧ g ≤ 2 ^ 60 ∧ ls.length = es.length + J.length - 1 ∧ (∀ l ∈ ls, 0 ≤ l) ∧ P (bfD es J g ls) μ
theorem sp_bfb {es : List En} {J : List (Nat × Nat)} {g : Int} {ls : List Int} {μ : Mu} {P : D → Mu → Prop} (h1 : es.length ≤ 24) (hJ : Jng es.length J) (h2 : 1 ≤ g) (h3 : g ≤ 2 ^ 60) (h4 : ls.length = es.length + J.length - 1) (h5 : ∀ l ∈ ls, 0 ≤ l) (q : P (bfD es J g ls) μ) : S_boxes_from_below [.tup (es.map eD), .tup (J.map pD), .int g, .tup (ls.map D.int)] μ P := ⟨es, J, g, ls, rfl, h1, hJ, h2, h3, h4, h5, q⟩

local macro_rules | `(tactic| exists "gx") => `(tactic| first
  | (((with_reducible refine' sp_bfb ?h1 ?hJ ?h2 ?h3 ?h4 ?h5 ?_); (case h1 => omega); (case hJ => with_reducible assumption); (case h2 => omega); (case h3 => omega); (case h4 => omega); (case h5 => with_reducible assumption))))
local macro_rules | `(tactic| exists "sd") => `(tactic| exact sd_boxes_from_below _ _ _ _)
set_option maxHeartbeats 4000000 in
theorem ok_boxes_from_below (X : T K mg) : FnOk Pg w K mg base CX0 3 X.a_boxes_from_below X.d_boxes_from_below ["ends", "joining", "grain", "lengths"] (spOf K 4 S_boxes_from_below) := by
  refine fn_ok4 X.F_boxes_from_below sc_boxes_from_below rfl (fun cdv A outer s H E hr => ⟨_, (pss_cons (ps_setLc (i := 4) (own := [("u", 8), ("v", 9)]) (g := gTup K 2 (gCons (gName 8) (gCons (gName 9) (gNil)))) (tt := tYes) rfl sc_boxes_from_below.nd rfl rfl (sw_true rfl rfl rfl (by decide +kernel)) (WkE.k_iU (K := K) rfl (pe_call (ok_spots_of X) (hr.mono (by decide)) (by rfl) X.g_spots_of X.F_spots_of.kp X.b_spots_of .nil pass0 (pa_cons (pv 0) (pa_cons (pv 2) pa_nil)))) (blkOk_by (N := N_boxes_from_below) (sc := defScope s_boxes_from_below) (by decide +kernel)) (fun _ _ _ _ _ => (k_gtup (K := K) (n := 2) rfl (by rfl) (pgs_cons (pg_name (i := 8) sc_boxes_from_below.nd rfl (.inl rfl)) (pgs_cons (pg_name (i := 9) sc_boxes_from_below.nd rfl (.inl rfl)) pgs_nil)))) (fun _ _ _ _ _ => pts_nil) (fun _ _ _ _ _ => (pe_tup (pa_cons (pv 8) (pa_cons (pv 8) (pa_cons (pv 9) (pa_cons (pv 9) pa_nil)))))))
  (pss_cons (ps_for PassesOwn.never rfl (k_itup (K := K) rfl (pv 1)) (k_gtup (K := K) (n := 2) rfl (by rfl) (pgs_cons (pg_name (i := 5) sc_boxes_from_below.nd rfl (.inl rfl)) (pgs_cons (pg_name (i := 6) sc_boxes_from_below.nd rfl (.inl rfl)) pgs_nil))) (pss_cons (ps_set (i := 7) sc_boxes_from_below.nd rfl (Or.inl rfl) (pe_call (ok_met X) (hr.mono (by decide)) (by rfl) X.g_met X.F_met.kp X.b_met .nil pass0 (pa_cons (pe_call (ok_grown X) (hr.mono (by decide)) (by rfl) X.g_grown X.F_grown.kp X.b_grown .nil pass0 (pa_cons (pe_ix (k_ix (K := K) rfl) (pv 4) (pv 5) (fun _ _ => rfl)) (pa_cons (pe_ix (k_ix (K := K) rfl) (pv 3) (pv 5) (fun _ _ => rfl)) pa_nil))) (pa_cons (pe_call (ok_grown X) (hr.mono (by decide)) (by rfl) X.g_grown X.F_grown.kp X.b_grown .nil pass0 (pa_cons (pe_ix (k_ix (K := K) rfl) (pv 4) (pv 6) (fun _ _ => rfl)) (pa_cons (pe_ix (k_ix (K := K) rfl) (pv 3) (pv 6) (fun _ _ => rfl)) pa_nil))) pa_nil))))
  (pss_cons (ps_if (pt_cmpR op_isN (pv 7) pe_non (nomark _)) (pss_one (ps_ret pe_non)) pss_nil)
  (pss_one (ps_expr (k_bm (K := K) rfl PySem.F.plainAttrs_list PySem.F.slot_list_append PySem.F.type_list_append mt_append (pv 4) (pa_cons (pv 7) pa_nil)))))))
  (pss_one (ps_ret (pe_callTy (k_tup (K := K) rfl) (by rfl) X.m_tuple (by decide +kernel) (pa_cons (pv 4) pa_nil)))))), ?_⟩)
  intro ds μ P hl h
  obtain ⟨es, J, g, ls, rfl, h1, hJ, h2, h3, h4, h5, q⟩ := h
  have F := hJ.facts
  have hJl := hJ.1
  obtain ⟨_, hJW⟩ := hJ.2
  (exists "go")
  rename_i psp
  refine lcM (es := spL g es) (r := fun z : Int × Int => qD (z.1, z.1, z.2, z.2)) (lt_size (by rw [spL_len]; omega)) (by (exists "hG")) (fun x hx p1 acc => ?_) (fun p => ?_)
  · (exists "go")
    (exists "rw")
  rw [show (spL g es).map (fun z : Int × Int => qD (z.1, z.1, z.2, z.2)) = bxs (spG g es) ls es.length J es.length from by
    apply List.ext_getElem?
    intro k
    by_cases hk : k < es.length
    · rw [List.getElem?_map, spL_get hk, List.getElem?_map, List.getElem?_range hk]
      show some _ = some (qD (bxW (spG g es) (wrK ls es.length J k)))
      rw [wrK_end hk]
      show some (qD ((spG g es k).1, (spG g es k).1, (spG g es k).2, (spG g es k).2)) = some (qD ((spG g es k).1 - 0, (spG g es k).1 + 0, (spG g es k).2 - 0, (spG g es k).2 + 0))
      rw [Int.sub_zero, Int.add_zero, Int.sub_zero, Int.add_zero]
    · rw [List.getElem?_eq_none (by rw [List.length_map, spL_len]; omega), List.getElem?_eq_none (by rw [List.length_map, List.length_range]; omega)]]
  (exists "go")
  refine forMm (fun pre δ' μ' => FitN (spG g es) ls es.length J pre.length ∧ δ' = L_boxes_from_below (v_ends := some (.tup (es.map eD))) (v_joining := some (.tup (J.map pD))) (v_grain := some (.int g)) (v_lengths := some (.tup (ls.map D.int))) (v_boxes := some (.ref p)) ∧ μ' = (p, .lst (bxs (spG g es) ls es.length J (es.length + pre.length))) :: μ) ⟨_, _, (by (exists "le")), weak_keep weak_drop, fun i x hi => absurd hi (Nat.not_lt_zero _), rfl, rfl⟩ (fun _ _ _ _ => True.intro) ?_ ?_
  · rintro pre y suf δ' ν hy ⟨hf, rfl, rfl⟩
    have hyg : J[pre.length]? = some y := by rw [hy]; simp
    have hlow := F.low pre.length y hyg
    have hpl : pre.length < J.length := by rw [hy]; simp
    have gb : ∀ k, k < es.length + pre.length → (List.range (es.length + pre.length))[k]? = some k := fun k hk => List.getElem?_range hk
    have g1 := gb _ hlow.1
    have g2 := gb _ hlow.2
    have l1 := ls_at' (ls := ls) (k := y.1) (by omega)
    have l2 := ls_at' (ls := ls) (k := y.2) (by omega)
    have hm := met_row hJW h5 hyg hf
    simp only [grW] at hm
    by_cases hp : PrO (spG g es) (wrS ls y.1 (wrK ls es.length J y.1)) (wrS ls y.2 (wrK ls es.length J y.2))
    · rw [if_pos hp] at hm
      (exists "go")
      rw [hm, show oD (some (bxW (spG g es) (wrK ls es.length J (es.length + pre.length)))) = qD (bxW (spG g es) (wrK ls es.length J (es.length + pre.length))) from rfl]
      have hz : (bxs (spG g es) ls es.length J (es.length + pre.length)).length < 100000 := by rw [List.length_map, List.length_range]; omega
      (exists "go")
      refine ⟨_, _, (by (exists "le")), Weak.refl, by rw [List.length_append]; exact hf.step hyg hp, rfl, ?_⟩
      rw [List.length_append, List.length_singleton, ← Nat.add_assoc]
      show _ = (p, M.lst (List.map _ (List.range (es.length + pre.length + 1)))) :: μ
      rw [List.range_succ, List.map_append]; rfl
    · rw [if_neg hp] at hm
      rw [bfD_no fun hF => hp (hF pre.length y hpl hyg)] at q
      (exists "go")
      rw [hm]
      (exists "go")
      exact ⟨_, (by (exists "wk")), q⟩
  rintro δ' ν ⟨hf, rfl, rfl⟩
  rw [bfD_yes hf] at q
  (exists "go")
  exact ⟨_, (by (exists "wk")), q⟩
abbrev S_boxes_by : SpD := fun ds μ P => ∃ (es : List En) (J : List (Nat × Nat)) (g : Int) (ls : List Int), ds = [.tup (es.map eD), .tup (J.map pD), .int g, .tup (ls.map D.int)] ∧ es.length ≤ 24 ∧ Jng es.length J ∧ 1 ≤ g ∧ g ≤ 2 ^ 60 ∧ ls.length = es.length + J.length - 1 ∧ (∀ l ∈ ls, 0 ≤ l) ∧ FitJ (spG g es) ls es.length J ∧ P (.tup (bxs (spG g es) ls es.length J (es.length + J.length))) μ
theorem sp_boxes_by {es : List En} {J : List (Nat × Nat)} {g : Int} {ls : List Int} {μ : Mu} {P : D → Mu → Prop} (h1 : es.length ≤ 24) (hJ : Jng es.length J) (h2 : 1 ≤ g) (h3 : g ≤ 2 ^ 60) (h4 : ls.length = es.length + J.length - 1) (h5 : ∀ l ∈ ls, 0 ≤ l) (h6 : FitJ (spG g es) ls es.length J) (q : P (.tup (bxs (spG g es) ls es.length J (es.length + J.length))) μ) : S_boxes_by [.tup (es.map eD), .tup (J.map pD), .int g, .tup (ls.map D.int)] μ P := ⟨es, J, g, ls, rfl, h1, hJ, h2, h3, h4, h5, h6, q⟩

local macro_rules | `(tactic| exists "gx") => `(tactic| first
  | (((with_reducible refine' sp_boxes_by ?h1 ?hJ ?h2 ?h3 ?h4 ?h5 ?h6 ?_); (case h1 => omega); (case hJ => with_reducible assumption); (case h2 => omega); (case h3 => omega); (case h4 => omega); (case h5 => with_reducible assumption); (case h6 => with_reducible assumption))))
local macro_rules | `(tactic| exists "sd") => `(tactic| exact sd_boxes_by _ _ _ _)
set_option maxHeartbeats 4000000 in
abbrev SX_boxes_by (X : T K mg) : SpE := fun ds μ Z => ∃ (es : List En) (J : List (Nat × Nat)) (g : Int) (ls : List Int), ds = [.tup (es.map eD), .tup (J.map pD), .int g, .tup (ls.map D.int)] ∧ es.length ≤ 24 ∧ Jng es.length J ∧ 1 ≤ g ∧ g ≤ 2 ^ 60 ∧ ls.length = es.length + J.length - 1 ∧ (∀ l ∈ ls, 0 ≤ l) ∧ ¬ FitJ (spG g es) ls es.length J ∧ ∀ u v, FstS (spG g es) ls es.length J u v → ∀ d, Z X.x_NoFit (some d) ((d, .xdt [("other", jD v), ("one", jD u)]) :: μ)
set_option maxHeartbeats 4000000 in
theorem ok_boxes_by (X : T K mg) : FnOk Pg w K mg base (L2.CX Pg w) 6 X.a_boxes_by X.d_boxes_by ["ends", "joining", "grain", "lengths"] (spOfE K 4 S_boxes_by (SX_boxes_by X)) := by
  refine fn_okE X.F_boxes_by sc_boxes_by rfl (fun cdv A outer s H E hr => ⟨_, (pss_cons (ps_set (i := 4) sc_boxes_by.nd rfl (Or.inl rfl) (pe_call (ok_boxes_from_below X) (hr.mono (by decide)) (by rfl) X.g_boxes_from_below X.F_boxes_from_below.kp X.b_boxes_from_below .nil pass0 (pa_cons (pv 0) (pa_cons (pv 1) (pa_cons (pv 2) (pa_cons (pv 3) pa_nil))))))
  (pss_cons (ps_if (pt_cmpR op_isN (pv 4) pe_non (nomark _)) (pss_cons (ps_asg (pe_call (ok_first_short X) (hr.mono (by decide)) (by rfl) X.g_first_short X.F_first_short.kp X.b_first_short .nil pass0 (pa_cons (pv 0) (pa_cons (pv 1) (pa_cons (pv 2) (pa_cons (pv 3) pa_nil))))) (k_gtup (K := K) (n := 2) rfl (by rfl) (pgs_cons (pg_name (i := 5) sc_boxes_by.nd rfl (.inl rfl)) (pgs_cons (pg_name (i := 6) sc_boxes_by.nd rfl (.inl rfl)) pgs_nil))))
  (pss_one (ps_raiseM (C := X.x_NoFit) (E := E) rfl (takes_of rfl rfl rfl rfl) X.oex_NoFit X.iC_NoFit X.tI_NoFit (ok_ini_NoFit X) (hr.mono (by decide)) X.bI_NoFit (by rfl) X.gx_NoFit (pa_cons (pv 5) (pa_cons (pv 6) pa_nil))))) pss_nil)
  (pss_one (ps_ret (pv 4))))), ?_, ?_⟩)
  focus
    intro ds μ P hl h
    obtain ⟨es, J, g, ls, rfl, h1, hJ, h2, h3, h4, h5, h6, q⟩ := h
    have e := bfD_yes h6
    (exists "go")
    rw [e]
    (exists "go")
    exact ⟨_, (by (exists "wk")), q⟩
  intro ds μ Z hl h
  obtain ⟨es, J, g, ls, rfl, h1, hJ, h2, h3, h4, h5, h6, q⟩ := h
  have e := bfD_no h6
  refine xg_seq ?_
  (exists "go")
  rw [e]
  (exists "go")
  refine xg_seqL (xg_if ?_)
  (exists "go")
  refine xg_seq ?_
  (exists "go")
  rename_i u v hF
  refine xg_raiseM ?_
  (exists "go")
  exact ⟨_, _, rfl, fun d => q u v hF d⟩
  
def oR : Option (Int × Int) → D
  | none => .non
  | some z => zD z


abbrev S_root_in : SpD := fun ds μ P => ∃ (b : Int × Int × Int × Int) (ro : Option (Int × Int)), ds = [qD b, oR ro] ∧ (∀ z, ro = some z → inB b z) ∧ P (zD (ro.getD (cornB b))) μ
theorem sp_root_in {b : Int × Int × Int × Int} {ro : Option (Int × Int)} {μ : Mu} {P : D → Mu → Prop} (h : ∀ z, ro = some z → inB b z) (q : P (zD (ro.getD (cornB b))) μ) : S_root_in [qD b, oR ro] μ P := ⟨b, ro, rfl, h, q⟩

local macro_rules | `(tactic| exists "gx") => `(tactic| first
  | (((with_reducible refine' sp_root_in ?h ?_); (case h => with_reducible assumption))))
local macro_rules | `(tactic| exists "sd") => `(tactic| exact sd_root_in _ _)
set_option maxHeartbeats 4000000 in
abbrev SX_root_in (X : T K mg) : SpE := fun ds μ Z => ∃ (b : Int × Int × Int × Int) (z : Int × Int), ds = [qD b, zD z] ∧ ¬ inB b z ∧ Z X.x_NoPlace none μ
set_option maxHeartbeats 4000000 in
theorem ok_root_in (X : T K mg) : FnOk Pg w K mg base (L2.CX Pg w) 2 X.a_root_in X.d_root_in ["box", "spot"] (spOfE K 2 S_root_in (SX_root_in X)) := by
  refine fn_okE X.F_root_in sc_root_in rfl (fun cdv A outer s H E hr => ⟨_, (pss_cons (ps_if (pt_cmpR op_isN (pv 1) pe_non (nomark _)) (pss_one (ps_ret (pe_call (ok_corner X) (hr.mono (by decide)) (by rfl) X.g_corner X.F_corner.kp X.b_corner .nil pass0 (pa_cons (pv 0) pa_nil)))) pss_nil)
  (pss_cons (ps_if (pt_not (pt_val (pe_call (ok_has X) (hr.mono (by decide)) (by rfl) X.g_has X.F_has.kp X.b_has .nil pass0 (pa_cons (pv 0) (pa_cons (pv 1) pa_nil))))) (pss_one (ps_raiseO (C := X.x_NoPlace) (E := E) rfl (takes_of rfl rfl rfl rfl) X.qx_NoPlace X.gx_NoPlace X.kx_NoPlace X.sx_NoPlace X.tx_NoPlace rfl)) pss_nil)
  (pss_one (ps_ret (pv 1))))), ?_, ?_⟩)
  focus
    intro ds μ P hl h
    obtain ⟨b, ro, rfl, h, q⟩ := h
    cases ro with
    | none =>
      rw [show oR none = .non from rfl]
      (exists "go")
      exact ⟨_, (by (exists "wk")), q⟩
    | some z =>
      have hz := h z rfl
      rw [show oR (some z) = zD z from rfl]
      have e : decide ((b.1 ≤ z.1 ∧ z.1 ≤ b.2.1) ∧ b.2.2.1 ≤ z.2 ∧ z.2 ≤ b.2.2.2) = true := decide_eq_true hz
      (exists "go")
      rw [e]
      (exists "go")
      exact ⟨_, (by (exists "wk")), q⟩
  intro ds μ Z hl h
  obtain ⟨b, z, rfl, hz, q⟩ := h
  have e : decide ((b.1 ≤ z.1 ∧ z.1 ≤ b.2.1) ∧ b.2.2.1 ≤ z.2 ∧ z.2 ≤ b.2.2.2) = false := decide_eq_false hz
  refine xg_seq ?_
  (exists "go")
  refine xg_seqL (xg_if ?_)
  (exists "go")
  rw [e]
  (exists "go")
  exact xg_raise q
theorem bxs_at {sp : Nat → Int × Int} {ls : List Int} {m k n : Nat} {J : List (Nat × Nat)} (h : k < n) : (List.range n)[k]? = some k := List.getElem?_range h

abbrev S_laid_down : SpD := fun ds μ P => ∃ (m : Nat) (J : List (Nat × Nat)) (sp : Nat → Int × Int) (ls : List Int) (ro : Int × Int), ds = [.int (m : Nat), .tup (J.map pD), .tup (bxs sp ls m J (m + J.length)), zD ro] ∧ 1 ≤ m ∧ m ≤ 24 ∧ Jng m J ∧ ∀ W, LdP sp ls m J ro W → P (.tup (W.map zD)) μ
theorem sp_laid_down {m : Nat} {J : List (Nat × Nat)} {sp : Nat → Int × Int} {ls : List Int} {ro : Int × Int} {μ : Mu} {P : D → Mu → Prop} (h1 : 1 ≤ m) (h2 : m ≤ 24) (hJ : Jng m J) (q : ∀ W, LdP sp ls m J ro W → P (.tup (W.map zD)) μ) : S_laid_down [.int (m : Nat), .tup (J.map pD), .tup (bxs sp ls m J (m + J.length)), zD ro] μ P := ⟨m, J, sp, ls, ro, rfl, h1, h2, hJ, q⟩

local macro_rules | `(tactic| exists "gx") => `(tactic| first
  | (((with_reducible refine' sp_laid_down ?h1 ?h2 ?hJ ?_); (case h1 => omega); (case h2 => omega); (case hJ => with_reducible assumption))))
local macro_rules | `(tactic| exists "sd") => `(tactic| exact sd_laid_down _ _ _ _)
set_option maxHeartbeats 4000000 in
theorem ok_laid_down (X : T K mg) : FnOk Pg w K mg base CX0 2 X.a_laid_down X.d_laid_down ["many", "joining", "boxes", "spot"] (spOf K 4 S_laid_down) := by
  refine fn_ok4 X.F_laid_down sc_laid_down rfl (fun cdv A outer s H E hr => ⟨_, (pss_cons (ps_set (i := 4) sc_laid_down.nd rfl (Or.inr rfl) (pe_disp (pps_cons (pe_op op_sub (pe_callB (k_len (K := K) rfl) (by rfl) X.m_len (by decide +kernel) (pa_cons (pv 2) pa_nil)) pe_int) (pv 3) pps_nil) (by rfl) (by rfl) (fun z => by cases z) (by decide)))
  (pss_cons (ps_for PassesOwn.never rfl (pi_range3 (by rfl) X.m_range (pa_cons (pe_op op_sub (pe_callB (k_len (K := K) rfl) (by rfl) X.m_len (by decide +kernel) (pa_cons (pv 1) pa_nil)) pe_int) (pa_cons (pe_un un_neg pe_int) (pa_cons (pe_un un_neg pe_int) pa_nil)))) (pg_name (i := 5) sc_laid_down.nd rfl (.inl rfl)) (pss_one (ps_for PassesOwn.never rfl (k_itup (K := K) rfl (pe_ix (k_ix (K := K) rfl) (pv 1) (pv 5) (fun _ _ => rfl))) (pg_name (i := 6) sc_laid_down.nd rfl (.inl rfl)) (pss_one (ps_dput (hu_of hr) (pv 4) (pv 6) (pe_call (ok_nearest X) (hr.mono (by decide)) (by rfl) X.g_nearest X.F_nearest.kp X.b_nearest .nil pass0 (pa_cons (pe_ix (k_ix (K := K) rfl) (pv 2) (pv 6) (fun _ _ => rfl)) (pa_cons (pe_dget (hu_of hr) (pv 4) (pe_op (k_add (K := K) rfl) (pv 0) (pv 5)) (fun _ _ => rfl)) pa_nil))) rfl)))))
  (pss_one (ps_ret (pe_callTy (k_tup (K := K) rfl) (by rfl) X.m_tuple (by decide +kernel) (pa_cons (pe_lc (own := [("knot", 7)]) (g := gName 7) (tt := tYes) rfl sc_laid_down.nd (pi_range1 (by rfl) X.m_range (pa_cons (pe_callB (k_len (K := K) rfl) (by rfl) X.m_len (by decide +kernel) (pa_cons (pv 2) pa_nil)) pa_nil)) (blkOk_by (N := N_laid_down) (sc := defScope s_laid_down) (by decide +kernel)) (fun _ _ _ _ _ => (pg_name (i := 7) sc_laid_down.nd rfl (.inl rfl))) (fun _ _ _ _ _ => pts_nil) (fun _ _ _ _ _ => (pe_dget (hu_of hr) (pv 4) (pv 7) (fun _ _ => rfl)))) pa_nil)))))), ?_⟩)
  intro ds μ P hl h
  obtain ⟨m, J, sp, ls, ro, rfl, h1, h2, hJ, q⟩ := h
  have F := hJ.facts
  have hJl := hJ.1
  have hbl : (List.range (m + J.length)).length = m + J.length := List.length_range
  (exists "go")
  refine w_disp fun p => ?_
  (exists "go")
  rw [List.length_range, show ((m + J.length : Nat) : Int) - 1 = ((m + J.length - 1 : Nat) : Int) by omega]
  refine ⟨0, [(.inl ((m + J.length - 1 : Nat) : Int), zD ro)], rfl, rfl, (by show 1 ≤ 15; decide), ?_⟩
  rw [List.set_cons_zero, show mergeD [] [((.inl ((m + J.length - 1 : Nat) : Int) : Key), zD ro)] = putD [] (.inl ((m + J.length - 1 : Nat) : Int)) (zD ro) from rfl]
  (exists "go")
  rw [rngR_W (n := J.length) rfl]
  refine forDown (fun r δ' μ' => ∃ (g : Nat → Option (Int × Int)) (kds : List (Key × D)), PosG m J ro (fun k => nearB (bxK sp ls m J k)) r g ∧ DicN kds (fun j => (g j).map zD) ∧ kds.length ≤ 1 + 2 * (J.length - r) ∧ δ' = L_laid_down (v_many := some (.int (m : Nat))) (v_joining := some (.tup (J.map pD))) (v_boxes := some (.tup (bxs sp ls m J (m + J.length)))) (v_spot := some (zD ro)) (v_spots := some (.ref p)) ∧ μ' = (p, .dic kds) :: μ) ⟨_, _, (by (exists "le")), Weak.refl, upG (fun _ => none) (m + J.length - 1) ro, _, .start upG_same, DicN.putG (g := fun _ => none) DicN.nil _ _, by show 1 ≤ _; omega, rfl, rfl⟩ (fun _ _ _ _ => True.intro) ?_ ?_
  · rintro r δ' ν hr ⟨g, kds, hP, hD, hk, rfl, rfl⟩
    obtain ⟨y, gy⟩ : ∃ y, J[r]? = some y := ⟨_, List.getElem?_eq_getElem hr⟩
    have hlow := F.low r y gy
    obtain ⟨w, hw⟩ := hP.has hJ hr
    have hP2 := hP.step hJ gy hw
    have g1 := bxs_at (sp := sp) (ls := ls) (m := m) (J := J) (k := y.1) (n := m + J.length) (by omega)
    have g2 := bxs_at (sp := sp) (ls := ls) (m := m) (J := J) (k := y.2) (n := m + J.length) (by omega)
    have hD1 := hD.putG y.1 (nearB (bxK sp ls m J y.1) w)
    have hD2 := hD1.putG y.2 (nearB (bxK sp ls m J y.2) w)
    have z1 : (putD kds (.inl (y.1 : Int)) (zD (nearB (bxK sp ls m J y.1) w))).length ≤ kds.length + 1 := putD_length
    have z2 : (putD (putD kds (.inl (y.1 : Int)) (zD (nearB (bxK sp ls m J y.1) w))) (.inl (y.2 : Int)) (zD (nearB (bxK sp ls m J y.2) w))).length ≤ (putD kds (.inl (y.1 : Int)) (zD (nearB (bxK sp ls m J y.1) w))).length + 1 := putD_length
    have hv1 : (g (m + r)).map zD = some (zD w) := by rw [hw]; rfl
    have hv2 : (upG g y.1 (nearB (bxK sp ls m J y.1) w) (m + r)).map zD = some (zD w) := by rw [upG_ne (by omega), hw]; rfl
    have er : D.int ((m : Int) + (r : Int)) = jD (m + r) := congrArg D.int (Int.natCast_add _ _).symm
    (exists "go")
    refine for2 (fun δ' μ' => δ' = L_laid_down (v_many := some (.int (m : Nat))) (v_joining := some (.tup (J.map pD))) (v_boxes := some (.tup (bxs sp ls m J (m + J.length)))) (v_spot := some (zD ro)) (v_spots := some (.ref p)) (v_number := some (jD r)) ∧ μ' = (p, .dic (putD kds (.inl (y.1 : Int)) (zD (nearB (bxK sp ls m J y.1) w)))) :: μ)
      (fun δ' μ' => δ' = L_laid_down (v_many := some (.int (m : Nat))) (v_joining := some (.tup (J.map pD))) (v_boxes := some (.tup (bxs sp ls m J (m + J.length)))) (v_spot := some (zD ro)) (v_spots := some (.ref p)) (v_number := some (jD r)) ∧ μ' = (p, .dic (putD (putD kds (.inl (y.1 : Int)) (zD (nearB (bxK sp ls m J y.1) w))) (.inl (y.2 : Int)) (zD (nearB (bxK sp ls m J y.2) w)))) :: μ) (fun _ => True.intro) ?_ ?_ ?_
    · (exists "go")
      rw [er]
      (exists "go")
      exact ⟨_, _, (by (exists "le")), Weak.refl, rfl, rfl⟩
    · rintro δ' ν ⟨rfl, rfl⟩
      (exists "go")
      rw [er]
      (exists "go")
      exact ⟨_, _, (by (exists "le")), Weak.refl, rfl, rfl⟩
    · rintro δ' ν ⟨rfl, rfl⟩
      exact ⟨_, _, (by (exists "le")), Weak.refl, _, _, hP2, hD2, by omega, rfl, rfl⟩
  rintro δ' ν ⟨g, kds, hP, hD, hk, rfl, rfl⟩
  (exists "go")
  rw [List.length_range, Int.toNat_natCast]
  refine lc0 (lcM (r := fun k => zD ((g k).getD ro)) (lt_size (by rw [List.length_range]; omega)) (by (exists "hG")) (fun k hk p1 acc => ?_) (fun pt => ?_))
  · obtain ⟨v, hv⟩ := (hP.uniq hJ hP _ k (Nat.le_refl _) (List.mem_range.mp hk)).2
    have hv1 : (g k).map zD = some (zD v) := by rw [hv]; rfl
    rw [hv]
    (exists "go")
    (exists "rw")
  rw [show (List.range (m + J.length)).map (fun k => zD ((g k).getD ro)) = ((List.range (m + J.length)).map fun k => (g k).getD ro).map zD from by rw [List.map_map]; rfl]
  have hPL := PosGL.of hJ hP
  (exists "go")
  exact ⟨_, (by (exists "wk")), q _ hPL⟩
abbrev S_laid : SpD := fun ds μ P => ∃ (es : List En) (J : List (Nat × Nat)) (g : Int) (ls : List Int) (ro : Option (Int × Int)), ds = [.tup (es.map eD), .tup (J.map pD), .int g, .tup (ls.map D.int), oR ro] ∧ 1 ≤ es.length ∧ es.length ≤ 24 ∧ Jng es.length J ∧ 1 ≤ g ∧ g ≤ 2 ^ 60 ∧ ls.length = es.length + J.length - 1 ∧ (∀ l ∈ ls, 0 ≤ l) ∧ FitJ (spG g es) ls es.length J ∧ (∀ z, ro = some z → inB (bxK (spG g es) ls es.length J (es.length + J.length - 1)) z) ∧ ∀ W, LdP (spG g es) ls es.length J (ro.getD (cornB (bxK (spG g es) ls es.length J (es.length + J.length - 1)))) W → P (.tup [.int g, .tup (W.map zD), .tup (ls.map D.int)]) μ
theorem sp_laid {es : List En} {J : List (Nat × Nat)} {g : Int} {ls : List Int} {ro : Option (Int × Int)} {μ : Mu} {P : D → Mu → Prop} (h0 : 1 ≤ es.length) (h1 : es.length ≤ 24) (hJ : Jng es.length J) (h2 : 1 ≤ g) (h3 : g ≤ 2 ^ 60) (h4 : ls.length = es.length + J.length - 1) (h5 : ∀ l ∈ ls, 0 ≤ l) (h6 : FitJ (spG g es) ls es.length J) (h7 : ∀ z, ro = some z → inB (bxK (spG g es) ls es.length J (es.length + J.length - 1)) z) (q : ∀ W, LdP (spG g es) ls es.length J (ro.getD (cornB (bxK (spG g es) ls es.length J (es.length + J.length - 1)))) W → P (.tup [.int g, .tup (W.map zD), .tup (ls.map D.int)]) μ) : S_laid [.tup (es.map eD), .tup (J.map pD), .int g, .tup (ls.map D.int), oR ro] μ P := ⟨es, J, g, ls, ro, rfl, h0, h1, hJ, h2, h3, h4, h5, h6, h7, q⟩
theorem sp_laid0 {es : List En} {J : List (Nat × Nat)} {g : Int} {ls : List Int} {μ : Mu} {P : D → Mu → Prop} (h0 : 1 ≤ es.length) (h1 : es.length ≤ 24) (hJ : Jng es.length J) (h2 : 1 ≤ g) (h3 : g ≤ 2 ^ 60) (h4 : ls.length = es.length + J.length - 1) (h5 : ∀ l ∈ ls, 0 ≤ l) (h6 : FitJ (spG g es) ls es.length J) (q : ∀ W, LdP (spG g es) ls es.length J (cornB (bxK (spG g es) ls es.length J (es.length + J.length - 1))) W → P (.tup [.int g, .tup (W.map zD), .tup (ls.map D.int)]) μ) : S_laid [.tup (es.map eD), .tup (J.map pD), .int g, .tup (ls.map D.int), .non] μ P := ⟨es, J, g, ls, none, rfl, h0, h1, hJ, h2, h3, h4, h5, h6, (fun _ h => nomatch h), q⟩
theorem sp_laidz {es : List En} {J : List (Nat × Nat)} {g : Int} {ls : List Int} {z : Int × Int} {μ : Mu} {P : D → Mu → Prop} (h0 : 1 ≤ es.length) (h1 : es.length ≤ 24) (hJ : Jng es.length J) (h2 : 1 ≤ g) (h3 : g ≤ 2 ^ 60) (h4 : ls.length = es.length + J.length - 1) (h5 : ∀ l ∈ ls, 0 ≤ l) (h6 : FitJ (spG g es) ls es.length J) (h7 : inB (bxK (spG g es) ls es.length J (es.length + J.length - 1)) z) (q : ∀ W, LdP (spG g es) ls es.length J z W → P (.tup [.int g, .tup (W.map zD), .tup (ls.map D.int)]) μ) : S_laid [.tup (es.map eD), .tup (J.map pD), .int g, .tup (ls.map D.int), zD z] μ P := ⟨es, J, g, ls, some z, rfl, h0, h1, hJ, h2, h3, h4, h5, h6, (fun _ h => by cases h; exact h7), q⟩

local macro_rules | `(tactic| exists "gx") => `(tactic| first
  | (((with_reducible refine' sp_laid0 ?h0 ?h1 ?hJ ?h2 ?h3 ?h4 ?h5 ?h6 ?_); (case h0 => omega); (case h1 => omega); (case hJ => with_reducible assumption); (case h2 => omega); (case h3 => omega); (case h4 => omega); (case h5 => with_reducible assumption); (case h6 => with_reducible assumption)))
  | (((with_reducible refine' sp_laidz ?h0 ?h1 ?hJ ?h2 ?h3 ?h4 ?h5 ?h6 ?h7 ?_); (case h0 => omega); (case h1 => omega); (case hJ => with_reducible assumption); (case h2 => omega); (case h3 => omega); (case h4 => omega); (case h5 => with_reducible assumption); (case h6 => with_reducible assumption); (case h7 => with_reducible assumption))))
local macro_rules | `(tactic| exists "sd") => `(tactic| exact sd_laid _ _ _ _ _)
set_option maxHeartbeats 4000000 in
abbrev SX_laid (X : T K mg) : SpE := fun ds μ Z => ∃ (es : List En) (J : List (Nat × Nat)) (g : Int) (ls : List Int) (ro : Option (Int × Int)), ds = [.tup (es.map eD), .tup (J.map pD), .int g, .tup (ls.map D.int), oR ro] ∧ 1 ≤ es.length ∧ es.length ≤ 24 ∧ Jng es.length J ∧ 1 ≤ g ∧ g ≤ 2 ^ 60 ∧ ls.length = es.length + J.length - 1 ∧ (∀ l ∈ ls, 0 ≤ l) ∧ ((¬ FitJ (spG g es) ls es.length J ∧ ∀ u v, FstS (spG g es) ls es.length J u v → ∀ d, Z X.x_NoFit (some d) ((d, .xdt [("other", jD v), ("one", jD u)]) :: μ)) ∨ (FitJ (spG g es) ls es.length J ∧ ∃ z, ro = some z ∧ ¬ inB (bxK (spG g es) ls es.length J (es.length + J.length - 1)) z ∧ Z X.x_NoPlace none μ))
set_option maxHeartbeats 4000000 in
theorem ok_laid (X : T K mg) : FnOk Pg w K mg base (L2.CX Pg w) 7 X.a_laid X.d_laid ["ends", "joining", "grain", "lengths", "root"] (spOfE K 5 S_laid (SX_laid X)) := by
  refine fn_okED X.F_laid sc_laid rfl (fun cdv A outer s H E hr => ⟨_, (pss_cons (ps_set (i := 5) sc_laid.nd rfl (Or.inl rfl) (pe_call (ok_boxes_by X) (hr.mono (by decide)) (by rfl) X.g_boxes_by X.F_boxes_by.kp X.b_boxes_by .nil passE (pa_cons (pv 0) (pa_cons (pv 1) (pa_cons (pv 2) (pa_cons (pv 3) pa_nil))))))
  (pss_cons (ps_set (i := 6) sc_laid.nd rfl (Or.inl rfl) (pe_call (ok_root_in X) (hr.mono (by decide)) (by rfl) X.g_root_in X.F_root_in.kp X.b_root_in .nil passE (pa_cons (pe_ix (k_ix (K := K) rfl) (pv 5) (pe_un un_neg pe_int) (fun _ _ => rfl)) (pa_cons (pv 4) pa_nil))))
  (pss_one (ps_ret (pe_tup (pa_cons (pv 2) (pa_cons (pe_call (ok_laid_down X) (hr.mono (by decide)) (by rfl) X.g_laid_down X.F_laid_down.kp X.b_laid_down .nil pass0 (pa_cons (pe_callB (k_len (K := K) rfl) (by rfl) X.m_len (by decide +kernel) (pa_cons (pv 0) pa_nil)) (pa_cons (pv 1) (pa_cons (pv 5) (pa_cons (pv 6) pa_nil))))) (pa_cons (pe_callTy (k_tup (K := K) rfl) (by rfl) X.m_tuple (by decide +kernel) (pa_cons (pv 3) pa_nil)) pa_nil)))))))), ?_, ?_⟩)
  focus
    intro ds μ P hl h
    obtain ⟨es, J, g, ls, ro, rfl, h0, h1, hJ, h2, h3, h4, h5, h6, h7, q⟩ := h
    have hJl := hJ.1
    have glast : atI (bxs (spG g es) ls es.length J (es.length + J.length)) (-1) = some (qD (bxK (spG g es) ls es.length J (es.length + J.length - 1))) := by
      refine atI_last ?_
      rw [List.getLast?_eq_getElem?, List.length_map, List.length_range, List.getElem?_map, List.getElem?_range (by omega)]; rfl
    (exists "go")
    refine w2_ixT glast ?_
    (exists "go")
    rename_i W hW
    exact ⟨_, (by (exists "wk")), q W hW⟩
  intro ds μ Z hl h
  obtain ⟨es, J, g, ls, ro, rfl, h0, h1, hJ, h2, h3, h4, h5, h6⟩ := h
  have hJl := hJ.1
  rcases h6 with ⟨hf, q⟩ | ⟨hf, z, rfl, hz, q⟩
  · refine xg_seqL (xg_asg (xe_call ?_))
    (exists "go")
    exact ⟨es, J, g, ls, rfl, h1, hJ, h2, h3, h4, h5, hf, q⟩
  · have glast : atI (bxs (spG g es) ls es.length J (es.length + J.length)) (-1) = some (qD (bxK (spG g es) ls es.length J (es.length + J.length - 1))) := by
      refine atI_last ?_
      rw [List.getLast?_eq_getElem?, List.length_map, List.length_range, List.getElem?_map, List.getElem?_range (by omega)]; rfl
    refine xg_seq ?_
    (exists "go")
    refine xg_seqL (xg_asg (xe_call ?_))
    (exists "go")
    refine w2_ixT glast ?_
    (exists "go")
    exact ⟨_, z, rfl, hz, q⟩
  
abbrev S_law_deck : SpD := fun ds μ P => ∃ ns : List Int, ds = [.scr ns] ∧ ns.length ≤ 63 ∧ ∀ d c, P (.ref d) ((d, fl 0 c) :: μ)
theorem sp_deck {ns : List Int} {μ : Mu} {P : D → Mu → Prop} (h : ns.length ≤ 63) (q : ∀ d c, P (.ref d) ((d, fl 0 c) :: μ)) : S_law_deck [.scr ns] μ P := ⟨ns, rfl, h, q⟩

local macro_rules | `(tactic| exists "gx") => `(tactic| first
  | (((with_reducible refine' sp_deck ?hi ?_); (case hi => with_reducible assumption))))
local macro_rules | `(tactic| exists "sd") => `(tactic| exact sd_law_deck _)
set_option maxHeartbeats 4000000 in
theorem ok_law_deck (X : T K mg) : FnOk Pg w K mg base CX0 1 X.a_law_deck X.d_law_deck ["_law_script"] (spOf K 1 S_law_deck) := by
  refine fn_ok4 X.F_law_deck sc_law_deck rfl (fun cdv A outer s H E hr => ⟨_, (pss_cons (ps_set (i := 1) sc_law_deck.nd rfl (Or.inl rfl) (pe_callTy (k_lst (K := K) rfl) (by rfl) X.m_list (by decide +kernel) (pa_cons (pe_slice (k_sl (K := K) rfl) (pv 0) po_none (po_some pe_int)) pa_nil)))
  (pss_one (ps_ret (pe_lst (pa_cons (WkE.k_rev (K := K) rfl (pv 1)) (pa_cons (pe_op (k_add (K := K) rfl) (pe_op (k_add (K := K) rfl) (pe_callB (k_sum (K := K) rfl rfl) (by rfl) X.m_sum (by decide +kernel) (pa_cons (pe_lc (own := [("_law_cell", 2)]) (g := gName 2) (tt := tYes) rfl sc_law_deck.nd (WkE.k_iU (K := K) rfl (pv 1)) (blkOk_by (N := N_law_deck) (sc := defScope s_law_deck) (by decide +kernel)) (fun _ _ _ _ _ => (pg_name (i := 2) sc_law_deck.nd rfl (.inl rfl))) (fun _ _ _ _ _ => pts_nil) (fun _ _ _ _ _ => (pe_op op_mod (pv 2) pe_int))) pa_nil)) (pe_op op_mul pe_int (pe_callB (k_len (K := K) rfl) (by rfl) X.m_len (by decide +kernel) (pa_cons (pv 1) pa_nil)))) pe_int) (pa_cons pe_int (pa_cons pe_int pa_nil)))))))), ?_⟩)
  intro ds μ P hl h
  obtain ⟨ns, rfl, hn, q⟩ := h
  (exists "go")
  rename_i cs hcs p2 p3
  refine lcM (r := fun c => D.int (c % 999983)) (lt_size (by omega)) (by (exists "hG")) (fun x hx p1 acc => ?_) (fun p1 => ?_)
  · (exists "go")
    (exists "rw")
  (exists "go")
  exact ⟨_, (weak_keep weak_drop).trans ((weak_deckC (I := FdI 0) (ns := [_, 0, 0]) (cs := cs.reverse) rfl ⟨_, _, _, rfl, ⟨Int.le_refl 0, Int.le_refl 0⟩, Int.le_refl 0⟩ (by rw [List.length_reverse]; omega)).trans (weak_keep (by (exists "wk")))), q _ _⟩
abbrev S_law_take : SpD := SpDrawF
local macro_rules | `(tactic| exists "gx") => `(tactic| first
  | (((with_reducible refine' sp_drawF ?hm ?hn ?h1 ?h2 ?h ?_); (case hm => (exists "at")); (case hn => omega); (case h1 => omega); (case h2 => omega); (case h => (exists "nd")))))
local macro_rules | `(tactic| exists "sd") => `(tactic| exact sd_law_take _ _)
set_option maxHeartbeats 4000000 in
theorem ok_law_take (X : T K mg) : FnOk Pg w K mg base CX0 1 X.a_law_take X.d_law_take ["_law_deck_here", "_law_most"] (spOf K 2 S_law_take) := by
  refine fn_ok4 X.F_law_take sc_law_take rfl (fun cdv A outer s H E hr => ⟨_, (pss_cons (ps_if (pt_cmpR op_gt (pe_ix (k_ix (K := K) rfl) (pv 0) pe_int (fun _ _ => rfl)) pe_int (nomark _)) (pss_cons (ps_set (i := 2) sc_law_take.nd rfl (Or.inl rfl) (pe_op op_mod (pe_ix (k_ix (K := K) rfl) (pv 0) pe_int (fun _ _ => rfl)) (pv 1)))
  (pss_cons (ps_asg (pe_op op_fdivW (pe_ix (k_ix (K := K) rfl) (pv 0) pe_int (fun _ _ => rfl)) (pv 1)) (pg_sub (pv 0) pe_int set_list))
  (pss_one (ps_ret (pv 2))))) pss_nil)
  (pss_cons (ps_asg (pe_op (k_add (K := K) rfl) (pe_ix (k_ix (K := K) rfl) (pv 0) pe_int (fun _ _ => rfl)) pe_int) (pg_sub (pv 0) pe_int set_list))
  (pss_cons (ps_set (i := 3) sc_law_take.nd rfl (Or.inl rfl) (pe_op (k_add (K := K) rfl) (pe_ix (k_ix (K := K) rfl) (pv 0) pe_int (fun _ _ => rfl)) (pe_op op_mul pe_int (pe_ix (k_ix (K := K) rfl) (pv 0) pe_int (fun _ _ => rfl)))))
  (pss_cons (ps_if (pt_cmpR (k_ne (K := K) rfl hr.units) (pe_ix (k_ix (K := K) rfl) (pv 0) pe_int (fun _ _ => rfl)) (pe_lst pa_nil) (nomark _)) (pss_one (ps_set (i := 3) sc_law_take.nd rfl (Or.inl rfl) (k_bm0 (K := K) rfl PySem.F.plainAttrs_list PySem.F.slot_list_pop PySem.F.type_list_pop mt_pop (pe_ix (k_ix (K := K) rfl) (pv 0) pe_int (fun _ _ => rfl))))) pss_nil)
  (pss_cons (ps_if (pt_cmpR op_ge (pv 3) (pe_op (op_powK (a := 10) (b := 18) (r := 1000000000000000000) (by decide) (by decide) (by decide +kernel)) pe_int pe_int) (nomark _)) (pss_cons (ps_asg (pe_op op_fdivW (pv 3) (pv 1)) (pg_sub (pv 0) pe_int set_list))
  (pss_one (ps_ret (pe_op op_mod (pv 3) (pv 1))))) pss_nil)
  (pss_cons (ps_set (i := 4) sc_law_take.nd rfl (Or.inl rfl) (pe_op op_mod (pe_op op_mul (pe_op (k_add (K := K) rfl) (pe_op (k_add (K := K) rfl) (pe_op op_mod (pv 3) pe_int) (pe_op op_mul (pe_op op_mul pe_int (pe_ix (k_ix (K := K) rfl) (pv 0) pe_int (fun _ _ => rfl))) (pe_ix (k_ix (K := K) rfl) (pv 0) pe_int (fun _ _ => rfl)))) pe_int) pe_int) pe_int))
  (pss_cons (ps_set (i := 4) sc_law_take.nd rfl (Or.inl rfl) (pe_op op_mod (pe_op (k_add (K := K) rfl) (pe_op (k_add (K := K) rfl) (pe_op op_mul (pv 4) (pv 4)) (pe_op op_mul pe_int (pv 4))) (pe_ix (k_ix (K := K) rfl) (pv 0) pe_int (fun _ _ => rfl))) pe_int))
  (pss_one (ps_ret (pe_op op_mod (pe_op op_fdivW (pe_op op_mod (pe_op op_mul (pv 4) pe_int) pe_int) pe_int) (pv 1))))))))))), ?_⟩)
  intro ds μ P hl h
  obtain ⟨d, c, m, i, n, rfl, hm, hn, h0, h1, q⟩ := h
  refine s_openF hm fun x y z cs hy hyn hz hcs => ?_
  (exists "ss")
  refine split_d (fun hc => ?_) (fun hc => ?_)
  · (exists "go")
    exact ⟨_, weak_closeF hm rfl rfl hy (by omega) (Int.ediv_nonneg (by omega) (by omega)) hcs, q _ (mod_nn h0).1 (mod_nn h0).2⟩
  have hz0 : z = 0 := by omega
  subst hz0
  (exists "sn")
  (exists "ss")
  (exists "ss")
  refine s_cutW (fun δ' μ' => ∃ (v : Int) (cs' : List Int), cs'.length ≤ 63 ∧ δ' = L_law_take (v_deck_here := some (.ref d)) (v_most := some (.int m)) (v_cell := some (.int v)) ∧ μ' = (d, .lst [.ref c, .int x, .int (y + 1), .int 0]) :: (c, .lst (cs'.map D.int)) :: μ.eraseIdx i) ?_ ?_
  · rcases List.eq_nil_or_concat cs with rfl | ⟨cr, c0, rfl⟩
    · rw [List.map_nil]
      (exists "go")
      exact ⟨_, _, (by (exists "le")), weak_drop, _, [], by decide, rfl, rfl⟩
    · rw [List.concat_eq_append] at *
      have hl3 : cr.length ≤ 63 := by rw [List.length_append] at hcs; omega
      (exists "go")
      refine w2_neK Lk.here.cons.cons Lk.here (sh_flat (flat_tup (n := 0) fun x hx => by
        obtain ⟨z, _, rfl⟩ := List.mem_map.mp hx
        exact flat_int) (by decide)) rfl ?_
      rw [eqBL_nil_r, show (List.map D.int (cr ++ [c0])).isEmpty = false from by simp]
      (exists "go")
      exact ⟨_, _, (by (exists "le")), weak_drop, _, cr, hl3, rfl, rfl⟩
  rintro δ' ν ⟨v, cs', hcs', rfl, rfl⟩
  (exists "ss")
  refine split_d (fun hc => ?_) (fun hc => ?_)
  · (exists "go")
    exact ⟨_, weak_closeF hm rfl rfl (by omega) (by omega) (Int.ediv_nonneg (by omega) (by omega)) hcs', q _ (mod_nn h0).1 (mod_nn h0).2⟩
  (exists "go")
  exact ⟨_, weak_closeF hm rfl rfl (by omega) (by omega) (by omega) hcs', q _ (mod_nn h0).1 (mod_nn h0).2⟩
  
abbrev S_law_place : SpD := fun ds μ P => ∃ (d c : Addr) (w : Int) (i n : Nat), ds = [.ref d, .int w] ∧ μ[i]? = some (d, fl n c) ∧ n < 9000000 ∧ ∀ x y : Int, -1000000 ≤ x → x ≤ 1000000 → -1000000 ≤ y → y ≤ 1000000 → P (.tup [.int x, .int y]) (μ.set i (d, fl (n + 4) c))
theorem sp_place {d c : Addr} {w : Int} {i n : Nat} {μ μ' : Mu} {P : D → Mu → Prop} (hm : μ[i]? = some (d, fl n c)) (hn : n < 9000000) (h : μ.set i (d, fl (n + 4) c) = μ') (q : ∀ x y : Int, -1000000 ≤ x → x ≤ 1000000 → -1000000 ≤ y → y ≤ 1000000 → P (.tup [.int x, .int y]) μ') : S_law_place [.ref d, .int w] μ P := ⟨d, c, w, i, n, rfl, hm, hn, by subst h; exact q⟩

local macro_rules | `(tactic| exists "gx") => `(tactic| first
  | (((with_reducible refine' sp_place ?hm ?hn ?h ?_); (case hm => (exists "at")); (case hn => omega); (case h => (exists "nd")))))
local macro_rules | `(tactic| exists "sd") => `(tactic| exact sd_law_place _ _)
set_option maxHeartbeats 4000000 in
theorem ok_law_place (X : T K mg) : FnOk Pg w K mg base CX0 2 X.a_law_place X.d_law_place ["_law_deck_here", "_law_way"] (spOf K 2 S_law_place) := by
  refine fn_ok4 X.F_law_place sc_law_place rfl (fun cdv A outer s H E hr => ⟨_, (pss_cons (ps_if (pt_cmpR (k_eq (K := K) rfl hr.units) (pv 1) pe_int (nomark _)) (pss_one (ps_ret (pe_tup (pa_cons (pe_call (ok_law_take X) (hr.mono (by decide)) (by rfl) X.g_law_take X.F_law_take.kp X.b_law_take .nil pass0 (pa_cons (pv 0) (pa_cons pe_int pa_nil))) (pa_cons (pe_call (ok_law_take X) (hr.mono (by decide)) (by rfl) X.g_law_take X.F_law_take.kp X.b_law_take .nil pass0 (pa_cons (pv 0) (pa_cons pe_int pa_nil))) pa_nil))))) pss_nil)
  (pss_cons (ps_if (pt_cmpR (k_eq (K := K) rfl hr.units) (pv 1) pe_int (nomark _)) (pss_one (ps_ret (pe_tup (pa_cons (pe_call (ok_law_take X) (hr.mono (by decide)) (by rfl) X.g_law_take X.F_law_take.kp X.b_law_take .nil pass0 (pa_cons (pv 0) (pa_cons pe_int pa_nil))) (pa_cons pe_int pa_nil))))) pss_nil)
  (pss_cons (ps_if (pt_cmpR (k_eq (K := K) rfl hr.units) (pv 1) pe_int (nomark _)) (pss_cons (ps_set (i := 2) sc_law_place.nd rfl (Or.inl rfl) (pe_call (ok_law_take X) (hr.mono (by decide)) (by rfl) X.g_law_take X.F_law_take.kp X.b_law_take .nil pass0 (pa_cons (pv 0) (pa_cons pe_int pa_nil))))
  (pss_one (ps_ret (pe_tup (pa_cons (pv 2) (pa_cons (pe_op op_sub pe_int (pv 2)) pa_nil)))))) pss_nil)
  (pss_cons (ps_if (pt_cmpR (k_eq (K := K) rfl hr.units) (pv 1) pe_int (nomark _)) (pss_cons (ps_set (i := 2) sc_law_place.nd rfl (Or.inl rfl) (pe_op op_mul (pe_op op_sub (pe_op (op_powK (a := 10) (b := 6) (r := 1000000) (by decide) (by decide) (by decide +kernel)) pe_int pe_int) (pe_call (ok_law_take X) (hr.mono (by decide)) (by rfl) X.g_law_take X.F_law_take.kp X.b_law_take .nil pass0 (pa_cons (pv 0) (pa_cons pe_int pa_nil)))) (pe_op op_sub pe_int (pe_op op_mul pe_int (pe_call (ok_law_take X) (hr.mono (by decide)) (by rfl) X.g_law_take X.F_law_take.kp X.b_law_take .nil pass0 (pa_cons (pv 0) (pa_cons pe_int pa_nil)))))))
  (pss_one (ps_ret (pe_tup (pa_cons (pv 2) (pa_cons (pe_op op_mul (pe_op op_sub (pe_op (op_powK (a := 10) (b := 6) (r := 1000000) (by decide) (by decide) (by decide +kernel)) pe_int pe_int) (pe_call (ok_law_take X) (hr.mono (by decide)) (by rfl) X.g_law_take X.F_law_take.kp X.b_law_take .nil pass0 (pa_cons (pv 0) (pa_cons pe_int pa_nil)))) (pe_op op_sub pe_int (pe_op op_mul pe_int (pe_call (ok_law_take X) (hr.mono (by decide)) (by rfl) X.g_law_take X.F_law_take.kp X.b_law_take .nil pass0 (pa_cons (pv 0) (pa_cons pe_int pa_nil)))))) pa_nil)))))) pss_nil)
  (pss_cons (ps_if (pt_cmpR (k_eq (K := K) rfl hr.units) (pv 1) pe_int (nomark _)) (pss_one (ps_ret (pe_tup (pa_cons (pe_op op_sub (pe_call (ok_law_take X) (hr.mono (by decide)) (by rfl) X.g_law_take X.F_law_take.kp X.b_law_take .nil pass0 (pa_cons (pv 0) (pa_cons pe_int pa_nil))) (pe_op (op_powK (a := 10) (b := 6) (r := 1000000) (by decide) (by decide) (by decide +kernel)) pe_int pe_int)) (pa_cons (pe_op op_sub (pe_call (ok_law_take X) (hr.mono (by decide)) (by rfl) X.g_law_take X.F_law_take.kp X.b_law_take .nil pass0 (pa_cons (pv 0) (pa_cons pe_int pa_nil))) (pe_op (op_powK (a := 10) (b := 6) (r := 1000000) (by decide) (by decide) (by decide +kernel)) pe_int pe_int)) pa_nil))))) pss_nil)
  (pss_one (ps_ret (pe_tup (pa_cons (pe_call (ok_law_take X) (hr.mono (by decide)) (by rfl) X.g_law_take X.F_law_take.kp X.b_law_take .nil pass0 (pa_cons (pv 0) (pa_cons pe_int pa_nil))) (pa_cons (pe_call (ok_law_take X) (hr.mono (by decide)) (by rfl) X.g_law_take X.F_law_take.kp X.b_law_take .nil pass0 (pa_cons (pv 0) (pa_cons pe_int pa_nil))) pa_nil)))))))))), ?_⟩)
  intro ds μ P hl h
  obtain ⟨d, c, w, i, n, rfl, hm, hn, q⟩ := h
  (exists "go")
  refine split_d (fun hc => ?_) (fun hc => ?_)
  · (exists "go")
    exact ⟨_, (by (exists "wk")), q _ _ (by omega) (by omega) (by omega) (by omega)⟩
  (exists "go")
  refine split_d (fun hc => ?_) (fun hc => ?_)
  · (exists "go")
    exact ⟨_, (by (exists "wk")), q _ _ (by omega) (by omega) (by omega) (by omega)⟩
  (exists "go")
  refine split_d (fun hc => ?_) (fun hc => ?_)
  · (exists "go")
    exact ⟨_, (by (exists "wk")), q _ _ (by omega) (by omega) (by omega) (by omega)⟩
  (exists "go")
  refine split_d (fun hc => ?_) (fun hc => ?_)
  · (exists "go")
    rename_i a1 ha1 ha2 b1 hb1 hb2 a2 ha3 ha4 b2 hb3 hb4
    have e1 : b1 = 0 ∨ b1 = 1 := by omega
    have e2 : b2 = 0 ∨ b2 = 1 := by omega
    refine ⟨_, (by (exists "wk")), q _ _ ?_ ?_ ?_ ?_⟩
    · rcases e1 with rfl | rfl <;> omega
    · rcases e1 with rfl | rfl <;> omega
    · rcases e2 with rfl | rfl <;> omega
    · rcases e2 with rfl | rfl <;> omega
  (exists "go")
  refine split_d (fun hc => ?_) (fun hc => ?_)
  · (exists "go")
    exact ⟨_, (by (exists "wk")), q _ _ (by omega) (by omega) (by omega) (by omega)⟩
  (exists "go")
  exact ⟨_, (by (exists "wk")), q _ _ (by omega) (by omega) (by omega) (by omega)⟩
abbrev S_law_ends : SpD := fun ds μ P => ∃ (d c : Addr) (m i n : Nat), ds = [.ref d, .int (m : Nat)] ∧ 1 ≤ m ∧ m ≤ 24 ∧ μ[i]? = some (d, fl n c) ∧ n < 8000000 ∧ ∀ es : List En, es.length = m → EnB es → P (.tup (es.map eD)) (μ.set i (d, fl (n + 250) c))
theorem sp_ends {d c : Addr} {m i n : Nat} {μ μ' : Mu} {P : D → Mu → Prop} (h1 : 1 ≤ m) (h2 : m ≤ 24) (hm : μ[i]? = some (d, fl n c)) (hn : n < 8000000) (h : μ.set i (d, fl (n + 250) c) = μ') (q : ∀ es : List En, es.length = m → EnB es → P (.tup (es.map eD)) μ') : S_law_ends [.ref d, .int (m : Nat)] μ P := ⟨d, c, m, i, n, rfl, h1, h2, hm, hn, by subst h; exact q⟩

local macro_rules | `(tactic| exists "gx") => `(tactic| first
  | (((with_reducible refine' sp_ends ?h1 ?h2 ?hm ?hn ?h ?_); (case h1 => omega); (case h2 => omega); (case hm => (exists "at")); (case hn => omega); (case h => (exists "nd")))))
local macro_rules | `(tactic| exists "sd") => `(tactic| exact sd_law_ends _ _)
set_option maxHeartbeats 4000000 in
theorem ok_law_ends (X : T K mg) : FnOk Pg w K mg base CX0 3 X.a_law_ends X.d_law_ends ["_law_deck_here", "_law_many"] (spOf K 2 S_law_ends) := by
  refine fn_ok4 X.F_law_ends sc_law_ends rfl (fun cdv A outer s H E hr => ⟨_, (pss_cons (ps_set (i := 2) sc_law_ends.nd rfl (Or.inl rfl) (pe_call (ok_law_take X) (hr.mono (by decide)) (by rfl) X.g_law_take X.F_law_take.kp X.b_law_take .nil pass0 (pa_cons (pv 0) (pa_cons pe_int pa_nil))))
  (pss_cons (ps_set (i := 3) sc_law_ends.nd rfl (Or.inl rfl) (pe_call (ok_law_take X) (hr.mono (by decide)) (by rfl) X.g_law_take X.F_law_take.kp X.b_law_take .nil pass0 (pa_cons (pv 0) (pa_cons pe_int pa_nil))))
  (pss_cons (ps_set (i := 4) sc_law_ends.nd rfl (Or.inl rfl) (pe_lst pa_nil))
  (pss_cons (ps_for PassesOwn.never rfl (pi_range1 (by rfl) X.m_range (pa_cons (pv 1) pa_nil)) (pg_name (i := 5) sc_law_ends.nd rfl (.inl rfl)) (pss_cons (ps_asg (pe_call (ok_law_place X) (hr.mono (by decide)) (by rfl) X.g_law_place X.F_law_place.kp X.b_law_place .nil pass0 (pa_cons (pv 0) (pa_cons (pv 2) pa_nil))) (k_gtup (K := K) (n := 2) rfl (by rfl) (pgs_cons (pg_name (i := 6) sc_law_ends.nd rfl (.inl rfl)) (pgs_cons (pg_name (i := 7) sc_law_ends.nd rfl (.inl rfl)) pgs_nil))))
  (pss_cons (ps_if (PW.pt (pw_and (pt_cmpR (k_ne (K := K) rfl hr.units) (pv 4) (pe_lst pa_nil) (nomark _)) (pw_and1 (pt_cmpR (k_eq (K := K) rfl hr.units) (pe_call (ok_law_take X) (hr.mono (by decide)) (by rfl) X.g_law_take X.F_law_take.kp X.b_law_take .nil pass0 (pa_cons (pv 0) (pa_cons pe_int pa_nil))) pe_int (nomark _))))) (pss_one (ps_asg (pe_slice (k_sl (K := K) rfl) (pe_ix (k_ix (K := K) rfl) (pv 4) (pe_call (ok_law_take X) (hr.mono (by decide)) (by rfl) X.g_law_take X.F_law_take.kp X.b_law_take .nil pass0 (pa_cons (pv 0) (pa_cons (pe_callB (k_len (K := K) rfl) (by rfl) X.m_len (by decide +kernel) (pa_cons (pv 4) pa_nil)) pa_nil))) (fun _ _ => rfl)) po_none (po_some pe_int)) (k_gtup (K := K) (n := 2) rfl (by rfl) (pgs_cons (pg_name (i := 6) sc_law_ends.nd rfl (.inl rfl)) (pgs_cons (pg_name (i := 7) sc_law_ends.nd rfl (.inl rfl)) pgs_nil))))) pss_nil)
  (pss_cons (ps_set (i := 8) sc_law_ends.nd rfl (Or.inl rfl) pe_int)
  (pss_cons (ps_if (pt_cmpR (k_eq (K := K) rfl hr.units) (pv 3) pe_int (nomark _)) (pss_one (ps_set (i := 8) sc_law_ends.nd rfl (Or.inl rfl) (pe_call (ok_law_take X) (hr.mono (by decide)) (by rfl) X.g_law_take X.F_law_take.kp X.b_law_take .nil pass0 (pa_cons (pv 0) (pa_cons pe_int pa_nil))))) pss_nil)
  (pss_cons (ps_if (pt_cmpR (k_eq (K := K) rfl hr.units) (pv 3) pe_int (nomark _)) (pss_one (ps_set (i := 8) sc_law_ends.nd rfl (Or.inl rfl) (pe_ix (k_ix (K := K) rfl) (pe_lst (pa_cons pe_int (pa_cons (pe_op (op_powK (a := 10) (b := 6) (r := 1000000) (by decide) (by decide) (by decide +kernel)) pe_int pe_int) (pa_cons pe_int pa_nil)))) (pe_call (ok_law_take X) (hr.mono (by decide)) (by rfl) X.g_law_take X.F_law_take.kp X.b_law_take .nil pass0 (pa_cons (pv 0) (pa_cons pe_int pa_nil))) (fun _ _ => rfl)))) pss_nil)
  (pss_one (ps_expr (k_bm (K := K) rfl PySem.F.plainAttrs_list PySem.F.slot_list_append PySem.F.type_list_append mt_append (pv 4) (pa_cons (pe_tup (pa_cons (pv 6) (pa_cons (pv 7) (pa_cons (pv 8) (pa_cons (pe_ix (k_ix (K := K) rfl) (pe_lst (pa_cons pe_int (pa_cons pe_int (pa_cons (pe_op (op_powK (a := 10) (b := 6) (r := 1000000) (by decide) (by decide) (by decide +kernel)) pe_int pe_int) pa_nil)))) (pe_call (ok_law_take X) (hr.mono (by decide)) (by rfl) X.g_law_take X.F_law_take.kp X.b_law_take .nil pass0 (pa_cons (pv 0) (pa_cons pe_int pa_nil))) (fun _ _ => rfl)) pa_nil))))) pa_nil))))))))))
  (pss_one (ps_ret (pe_callTy (k_tup (K := K) rfl) (by rfl) X.m_tuple (by decide +kernel) (pa_cons (pv 4) pa_nil)))))))), ?_⟩)
  intro ds μ P hl h
  obtain ⟨d, c, m, i, n, rfl, hm1, hm2, hm, hn, q⟩ := h
  (exists "ss")
  rename_i w hw0 hw1
  (exists "ss")
  rename_i lt hlt0 hlt1
  (exists "go")
  rename_i p
  rw [Int.toNat_natCast]
  refine forR0 (fun j δ' μ' => ∃ es : List En, es.length = j ∧ EnB es ∧ δ' = L_law_ends (v_deck_here := some (.ref d)) (v_many := some (.int (m : Nat))) (v_way := some (.int w)) (v_late := some (.int lt)) (v_found := some (.ref p)) ∧ μ' = (p, .lst (es.map eD)) :: μ.set i (d, fl (n + 2 + 9 * j) c)) ⟨_, _, (by (exists "le")), weak_keep (by (exists "wk")), [], rfl, (fun _ h => nomatch h), rfl, rfl⟩ (fun _ _ _ _ => True.intro) ?_ ?_
  · rintro j δ' ν2 hj ⟨es, hl, hs, rfl, rfl⟩
    (exists "ge")
    (exists "ss")
    rename_i x0 y0 hx1 hx2 hy1 hy2
    refine s_cutW (fun δ' μ' => ∃ x y : Int, ((-1000000 ≤ x ∧ x ≤ 1000000) ∧ (-1000000 ≤ y ∧ y ≤ 1000000)) ∧ δ' = L_law_ends (v_deck_here := some (.ref d)) (v_many := some (.int (m : Nat))) (v_way := some (.int w)) (v_late := some (.int lt)) (v_found := some (.ref p)) (v_k := some (jD j)) (v_x := some (.int x)) (v_y := some (.int y)) ∧ μ' = (p, .lst (es.map eD)) :: μ.set i (d, fl (n + 2 + 9 * j + 6) c)) ?_ ?_
    · by_cases hnil : es = []
      · subst hnil
        rw [List.map_nil]
        (exists "go")
        exact ⟨_, _, (by (exists "le")), (by (exists "wk")), x0, y0, ⟨⟨hx1, hx2⟩, ⟨hy1, hy2⟩⟩, rfl, rfl⟩
      have hpos := List.length_pos_iff.mpr hnil
      (exists "go")
      refine w2_neK Lk.here.cons Lk.here (sh_flat (flat_tup (n := 1) eD_flat) (by decide)) rfl ?_
      rw [eqBL_nil_r, show (List.map eD es).isEmpty = false from by simpa using hnil]
      (exists "go")
      refine split_d (fun hc => ?_) (fun hc => ?_)
      · (exists "go")
        rename_i n h0 h1
        obtain ⟨k, rfl⟩ := Int.eq_ofNat_of_zero_le h0
        have gk := eAt_get (es := es) (j := k) (by omega)
        have hk := hs _ (List.mem_of_getElem? gk)
        (exists "go")
        exact ⟨_, _, (by (exists "le")), (by (exists "wk")), (eAt es k).x, (eAt es k).y, ⟨hk.1, hk.2.1⟩, rfl, rfl⟩
      · (exists "go")
        exact ⟨_, _, (by (exists "le")), (by (exists "wk")), x0, y0, ⟨⟨hx1, hx2⟩, ⟨hy1, hy2⟩⟩, rfl, rfl⟩
    rintro δ' ν2 ⟨x, y, hxy, rfl, rfl⟩
    (exists "ss")
    refine s_cutW (fun δ' μ' => ∃ s : Int, (0 ≤ s ∧ s ≤ 1000000) ∧ δ' = L_law_ends (v_deck_here := some (.ref d)) (v_many := some (.int (m : Nat))) (v_way := some (.int w)) (v_late := some (.int lt)) (v_found := some (.ref p)) (v_k := some (jD j)) (v_x := some (.int x)) (v_y := some (.int y)) (v_start := some (.int s)) ∧ μ' = (p, .lst (es.map eD)) :: μ.set i (d, fl (n + 2 + 9 * j + 7) c)) ?_ ?_
    · (exists "go")
      refine split_d (fun hc => ?_) (fun hc => ?_)
      · (exists "go")
        exact ⟨_, _, (by (exists "le")), (by (exists "wk")), _, (by omega), rfl, rfl⟩
      · (exists "go")
        exact ⟨_, _, (by (exists "le")), (by (exists "wk")), 0, (by omega), rfl, rfl⟩
    rintro δ' ν2 ⟨s0, hs0, rfl, rfl⟩
    refine s_cutW (fun δ' μ' => ∃ s : Int, (0 ≤ s ∧ s ≤ 1000000) ∧ δ' = L_law_ends (v_deck_here := some (.ref d)) (v_many := some (.int (m : Nat))) (v_way := some (.int w)) (v_late := some (.int lt)) (v_found := some (.ref p)) (v_k := some (jD j)) (v_x := some (.int x)) (v_y := some (.int y)) (v_start := some (.int s)) ∧ μ' = (p, .lst (es.map eD)) :: μ.set i (d, fl (n + 2 + 9 * j + 8) c)) ?_ ?_
    · (exists "go")
      refine split_d (fun hc => ?_) (fun hc => ?_)
      · (exists "go")
        refine w2_ixInts (cs := [0, 10 ^ 6, 1]) Lk.here rfl (by omega) (by show _ < 3; omega) fun v hv => ?_
        have hv2 : 0 ≤ v ∧ v ≤ 1000000 := by
          simp at hv
          rcases hv with rfl | rfl | rfl <;> omega
        (exists "go")
        exact ⟨_, _, (by (exists "le")), (by (exists "wk")), v, hv2, rfl, rfl⟩
      · (exists "go")
        exact ⟨_, _, (by (exists "le")), (by (exists "wk")), s0, hs0, rfl, rfl⟩
    rintro δ' ν2 ⟨s, hs1, rfl, rfl⟩
    (exists "go")
    refine w2_ixInts (cs := [0, 1, 10 ^ 6]) Lk.here rfl (by omega) (by show _ < 3; omega) fun l hv => ?_
    have hl3 : 0 ≤ l ∧ l ≤ 1000000 := by
      simp at hv
      rcases hv with rfl | rfl | rfl <;> omega
    (exists "go")
    rw [show List.map eD es ++ [D.tup [D.int x, D.int y, D.int s, D.int l]] = (es ++ [(⟨x, y, s, l⟩ : En)]).map eD from by rw [List.map_append]; rfl]
    refine ⟨_, _, (by (exists "le")), (by (exists "wk")), es ++ [⟨x, y, s, l⟩], by rw [List.length_append, hl]; rfl, fun e he => ?_, rfl, rfl⟩
    rcases List.mem_append.mp he with he | he
    · exact hs e he
    · rw [List.mem_singleton.mp he]; exact ⟨hxy.1, hxy.2, hs1, hl3⟩
  rintro δ' ν2 ⟨es, hl, hs, rfl, rfl⟩
  (exists "go")
  exact ⟨_, (by (exists "wk")), q es hl hs⟩
abbrev S_law_joining : SpD := fun ds μ P => ∃ (d c : Addr) (m i n : Nat), ds = [.ref d, .int (m : Nat)] ∧ 1 ≤ m ∧ m ≤ 24 ∧ μ[i]? = some (d, fl n c) ∧ n < 8000000 ∧ ∀ J : List (Nat × Nat), Jng m J → P (.tup (J.map pD)) (μ.set i (d, fl (n + 80) c))
theorem sp_joining {d c : Addr} {m i n : Nat} {μ μ' : Mu} {P : D → Mu → Prop} (h1 : 1 ≤ m) (h2 : m ≤ 24) (hm : μ[i]? = some (d, fl n c)) (hn : n < 8000000) (h : μ.set i (d, fl (n + 80) c) = μ') (q : ∀ J : List (Nat × Nat), Jng m J → P (.tup (J.map pD)) μ') : S_law_joining [.ref d, .int (m : Nat)] μ P := ⟨d, c, m, i, n, rfl, h1, h2, hm, hn, by subst h; exact q⟩

local macro_rules | `(tactic| exists "gx") => `(tactic| first
  | (((with_reducible refine' sp_joining ?h1 ?h2 ?hm ?hn ?h ?_); (case h1 => omega); (case h2 => omega); (case hm => (exists "at")); (case hn => omega); (case h => (exists "nd")))))
local macro_rules | `(tactic| exists "sd") => `(tactic| exact sd_law_joining _ _)
set_option maxHeartbeats 4000000 in
theorem ok_law_joining (X : T K mg) : FnOk Pg w K mg base CX0 2 X.a_law_joining X.d_law_joining ["_law_deck_here", "_law_many"] (spOf K 2 S_law_joining) := by
  refine fn_ok4 X.F_law_joining sc_law_joining rfl (fun cdv A outer s H E hr => ⟨_, (pss_cons (ps_set (i := 2) sc_law_joining.nd rfl (Or.inl rfl) (pe_cmpR (k_eq (K := K) rfl hr.units) (pe_call (ok_law_take X) (hr.mono (by decide)) (by rfl) X.g_law_take X.F_law_take.kp X.b_law_take .nil pass0 (pa_cons (pv 0) (pa_cons pe_int pa_nil))) pe_int (nomark _)))
  (pss_cons (ps_set (i := 3) sc_law_joining.nd rfl (Or.inl rfl) (pe_listRg rfl (by rfl) X.m_list (prg_1 (by rfl) X.m_range (pv 1))))
  (pss_cons (ps_set (i := 4) sc_law_joining.nd rfl (Or.inl rfl) (pe_lst pa_nil))
  (pss_cons (ps_for PassesOwn.never rfl (pi_range1 (by rfl) X.m_range (pa_cons (pe_op op_sub (pv 1) pe_int) pa_nil)) (pg_name (i := 5) sc_law_joining.nd rfl (.inl rfl)) (pss_cons (ps_set (i := 6) sc_law_joining.nd rfl (Or.inl rfl) (pe_call (ok_law_take X) (hr.mono (by decide)) (by rfl) X.g_law_take X.F_law_take.kp X.b_law_take .nil pass0 (pa_cons (pv 0) (pa_cons (pe_callB (k_len (K := K) rfl) (by rfl) X.m_len (by decide +kernel) (pa_cons (pv 3) pa_nil)) pa_nil))))
  (pss_cons (ps_if (pt_val (pv 2)) (pss_one (ps_set (i := 6) sc_law_joining.nd rfl (Or.inl rfl) (pe_op op_sub (pe_callB (k_len (K := K) rfl) (by rfl) X.m_len (by decide +kernel) (pa_cons (pv 3) pa_nil)) pe_int))) pss_nil)
  (pss_cons (ps_set (i := 7) sc_law_joining.nd rfl (Or.inl rfl) (k_bm (K := K) rfl PySem.F.plainAttrs_list PySem.F.slot_list_pop PySem.F.type_list_pop mt_popAt (pv 3) (pa_cons (pv 6) pa_nil)))
  (pss_cons (ps_set (i := 8) sc_law_joining.nd rfl (Or.inl rfl) (k_bm (K := K) rfl PySem.F.plainAttrs_list PySem.F.slot_list_pop PySem.F.type_list_pop mt_popAt (pv 3) (pa_cons (pe_call (ok_law_take X) (hr.mono (by decide)) (by rfl) X.g_law_take X.F_law_take.kp X.b_law_take .nil pass0 (pa_cons (pv 0) (pa_cons (pe_callB (k_len (K := K) rfl) (by rfl) X.m_len (by decide +kernel) (pa_cons (pv 3) pa_nil)) pa_nil))) pa_nil)))
  (pss_cons (ps_if (pt_cmpR (k_eq (K := K) rfl hr.units) (pe_call (ok_law_take X) (hr.mono (by decide)) (by rfl) X.g_law_take X.F_law_take.kp X.b_law_take .nil pass0 (pa_cons (pv 0) (pa_cons pe_int pa_nil))) pe_int (nomark _)) (pss_one (ps_par (i := 7) (j := 8) (by rfl) sc_law_joining.nd rfl rfl (by decide) rfl rfl (pa_cons (pv 8) (pa_cons (pv 7) pa_nil)) (by rfl))) pss_nil)
  (pss_cons (ps_expr (k_bm (K := K) rfl PySem.F.plainAttrs_list PySem.F.slot_list_append PySem.F.type_list_append mt_append (pv 4) (pa_cons (pe_tup (pa_cons (pv 7) (pa_cons (pv 8) pa_nil))) pa_nil)))
  (pss_one (ps_expr (k_bm (K := K) rfl PySem.F.plainAttrs_list PySem.F.slot_list_append PySem.F.type_list_append mt_append (pv 3) (pa_cons (pe_op (k_add (K := K) rfl) (pv 1) (pv 5)) pa_nil)))))))))))
  (pss_one (ps_ret (pe_callTy (k_tup (K := K) rfl) (by rfl) X.m_tuple (by decide +kernel) (pa_cons (pv 4) pa_nil)))))))), ?_⟩)
  intro ds μ P hl h
  obtain ⟨d, c, m, i, n, rfl, h1, h2, hm, hn, q⟩ := h
  (exists "ss")
  rename_i ch hc0 hc1
  generalize hb : decide (ch = 5) = bb
  (exists "go")
  rename_i pl pr
  rw [Int.toNat_natCast, rng0 m]
  rw [show ((m : Int) - 1).toNat = m - 1 by omega]
  refine forR0 (fun j δ' μ' => ∃ J W, Joins m J W ∧ J.length = j ∧ δ' = L_law_joining (v_deck_here := some (.ref d)) (v_many := some (.int (m : Nat))) (v_line := some (.bl bb)) (v_left := some (.ref pl)) (v_found := some (.ref pr)) ∧ μ' = (pr, .lst (J.map pD)) :: (pl, .lst (W.map jD)) :: μ.set i (d, fl (n + 1 + 3 * j) c))
    ⟨_, _, (by (exists "le")), weak_keep (weak_keep (by (exists "wk"))), [], List.range m, .nil, rfl, rfl, rfl⟩ (fun _ _ _ _ => True.intro) ?_ ?_
  · rintro j δ' ν hj ⟨J, W, hJ, hl, rfl, rfl⟩
    have F := hJ.facts
    have hWl := F.len
    have hz1 : W.length < 100000 := by omega
    (exists "ge")
    (exists "ss")
    rename_i a0 ha0 ha1
    refine s_cutW (fun δ' μ' => ∃ v : Int, 0 ≤ v ∧ v < W.length ∧ δ' = L_law_joining (v_deck_here := some (.ref d)) (v_many := some (.int (m : Nat))) (v_line := some (.bl bb)) (v_left := some (.ref pl)) (v_found := some (.ref pr)) (v_k := some (jD j)) (v_at := some (.int v)) ∧ μ' = (pr, .lst (J.map pD)) :: (pl, .lst (W.map jD)) :: μ.set i (d, fl (n + 1 + 3 * j + 1) c)) ?_ ?_
    · (exists "go")
      cases bb with
      | true =>
        (exists "go")
        exact ⟨_, _, (by (exists "le")), (by (exists "wk")), _, (by omega), (by omega), rfl, rfl⟩
      | false =>
        (exists "go")
        exact ⟨_, _, (by (exists "le")), (by (exists "wk")), _, ha0, ha1, rfl, rfl⟩
    rintro δ' ν ⟨v, hv0, hv1, rfl, rfl⟩
    (exists "ss")
    rename_i k1 e1 hk1 hp1
    have hl1 := hp1.length_eq
    rw [List.length_cons] at hl1
    (exists "ss")
    rename_i n1 hn2 hn3 k2 e2 hk2 hp2
    have hl2 := hp2.length_eq
    rw [List.length_cons] at hl2
    have hP := hp1.trans (hp2.cons e1)
    generalize (W.eraseIdx k1).eraseIdx k2 = W' at *
    have hln : ((m : Int) + (j : Int)) = ((m + J.length : Nat) : Int) := by omega
    have hW2 : (W' ++ [m + J.length]).Perm ((m + J.length) :: W') := List.perm_append_comm
    have eJ : ∀ p : Nat × Nat, List.map pD J ++ [D.tup [jD p.1, jD p.2]] = (J ++ [p]).map pD := fun p => by rw [List.map_append]; rfl
    (exists "go")
    refine split_d (fun hc => ?_) (fun hc => ?_)
    · (exists "go")
      rw [hln, eJ (e2, e1), map_snoc jD (m + J.length)]
      refine ⟨_, _, (by (exists "le")), (by (exists "wk")), J ++ [(e2, e1)], W' ++ [m + J.length], .step hJ (hP.trans (.swap _ _ _)) hW2, by rw [List.length_append, hl]; rfl, rfl, rfl⟩
    · (exists "go")
      rw [hln, eJ (e1, e2), map_snoc jD (m + J.length)]
      refine ⟨_, _, (by (exists "le")), (by (exists "wk")), J ++ [(e1, e2)], W' ++ [m + J.length], .step hJ hP hW2, by rw [List.length_append, hl]; rfl, rfl, rfl⟩
  · rintro δ' ν ⟨J, W, hJ, hl, rfl, rfl⟩
    (exists "go")
    exact ⟨_, (by (exists "wk")), q J ⟨by omega, W, hJ⟩⟩
abbrev S_law_size : SpD := fun ds μ P => ∃ (d c : Addr) (f g : Int) (i n : Nat), ds = [.ref d, .int f, .int g] ∧ 1 ≤ f ∧ f ≤ 24 ∧ 1 ≤ g ∧ g ≤ 24 ∧ μ[i]? = some (d, fl n c) ∧ n < 8000000 ∧ ∀ m : Nat, 1 ≤ m → ((m : Int) ≤ f ∨ (m : Int) = g) → P (.int (m : Nat)) (μ.set i (d, fl (n + 2) c))
theorem sp_size {d c : Addr} {f g : Int} {i n : Nat} {μ μ' : Mu} {P : D → Mu → Prop} (h1 : 1 ≤ f) (h2 : f ≤ 24) (h3 : 1 ≤ g) (h4 : g ≤ 24) (hm : μ[i]? = some (d, fl n c)) (hn : n < 8000000) (h : μ.set i (d, fl (n + 2) c) = μ') (q : ∀ m : Nat, 1 ≤ m → ((m : Int) ≤ f ∨ (m : Int) = g) → P (.int (m : Nat)) μ') : S_law_size [.ref d, .int f, .int g] μ P := ⟨d, c, f, g, i, n, rfl, h1, h2, h3, h4, hm, hn, by subst h; exact q⟩

local macro_rules | `(tactic| exists "gx") => `(tactic| first
  | (((with_reducible refine' sp_size ?h1 ?h2 ?h3 ?h4 ?hm ?hn ?h ?_); (case h1 => omega); (case h2 => omega); (case h3 => omega); (case h4 => omega); (case hm => (exists "at")); (case hn => omega); (case h => (exists "nd")))))
local macro_rules | `(tactic| exists "sd") => `(tactic| exact sd_law_size _ _ _)
set_option maxHeartbeats 4000000 in
theorem ok_law_size (X : T K mg) : FnOk Pg w K mg base CX0 2 X.a_law_size X.d_law_size ["_law_deck_here", "_law_few", "_law_most"] (spOf K 3 S_law_size) := by
  refine fn_ok4 X.F_law_size sc_law_size rfl (fun cdv A outer s H E hr => ⟨_, (pss_cons (ps_if (pt_cmpR (k_eq (K := K) rfl hr.units) (pe_call (ok_law_take X) (hr.mono (by decide)) (by rfl) X.g_law_take X.F_law_take.kp X.b_law_take .nil pass0 (pa_cons (pv 0) (pa_cons pe_int pa_nil))) pe_int (nomark _)) (pss_one (ps_ret (pv 2))) pss_nil)
  (pss_one (ps_ret (pe_op (k_add (K := K) rfl) pe_int (pe_call (ok_law_take X) (hr.mono (by decide)) (by rfl) X.g_law_take X.F_law_take.kp X.b_law_take .nil pass0 (pa_cons (pv 0) (pa_cons (pv 1) pa_nil))))))), ?_⟩)
  intro ds μ P hl h
  obtain ⟨d, c, f, g, i, n, rfl, h1, h2, h3, h4, hm, hn, q⟩ := h
  (exists "go")
  refine split_d (fun hc => ?_) (fun hc => ?_)
  · (exists "go")
    obtain ⟨m, rfl⟩ : ∃ m : Nat, g = (m : Int) := ⟨g.toNat, by omega⟩
    exact ⟨_, (by (exists "wk")), q m (by omega) (.inr rfl)⟩
  (exists "go")
  rename_i k hk0 hk1
  obtain ⟨m, hm9⟩ : ∃ m : Nat, 1 + k = (m : Int) := ⟨(1 + k).toNat, by omega⟩
  rw [hm9]
  exact ⟨_, (by (exists "wk")), q m (by omega) (.inl (by omega))⟩
abbrev S_law_grain : SpD := fun ds μ P => ∃ (d c : Addr) (i n : Nat), ds = [.ref d] ∧ μ[i]? = some (d, fl n c) ∧ n < 8000000 ∧ ∀ g : Int, 1 ≤ g → g ≤ 1000 → P (.int g) (μ.set i (d, fl (n + 2) c))
theorem sp_grain {d c : Addr} {i n : Nat} {μ μ' : Mu} {P : D → Mu → Prop} (hm : μ[i]? = some (d, fl n c)) (hn : n < 8000000) (h : μ.set i (d, fl (n + 2) c) = μ') (q : ∀ g : Int, 1 ≤ g → g ≤ 1000 → P (.int g) μ') : S_law_grain [.ref d] μ P := ⟨d, c, i, n, rfl, hm, hn, by subst h; exact q⟩

local macro_rules | `(tactic| exists "gx") => `(tactic| first
  | (((with_reducible refine' sp_grain ?hm ?hn ?h ?_); (case hm => (exists "at")); (case hn => omega); (case h => (exists "nd")))))
local macro_rules | `(tactic| exists "sd") => `(tactic| exact sd_law_grain _)
set_option maxHeartbeats 4000000 in
theorem ok_law_grain (X : T K mg) : FnOk Pg w K mg base CX0 2 X.a_law_grain X.d_law_grain ["_law_deck_here"] (spOf K 1 S_law_grain) := by
  refine fn_ok4 X.F_law_grain sc_law_grain rfl (fun cdv A outer s H E hr => ⟨_, (pss_cons (ps_set (i := 1) sc_law_grain.nd rfl (Or.inl rfl) (pe_call (ok_law_take X) (hr.mono (by decide)) (by rfl) X.g_law_take X.F_law_take.kp X.b_law_take .nil pass0 (pa_cons (pv 0) (pa_cons pe_int pa_nil))))
  (pss_cons (ps_if (pt_cmpR (k_eq (K := K) rfl hr.units) (pv 1) pe_int (nomark _)) (pss_one (ps_ret (pe_op (k_add (K := K) rfl) pe_int (pe_call (ok_law_take X) (hr.mono (by decide)) (by rfl) X.g_law_take X.F_law_take.kp X.b_law_take .nil pass0 (pa_cons (pv 0) (pa_cons pe_int pa_nil)))))) pss_nil)
  (pss_one (ps_ret (pe_ix (k_ix (K := K) rfl) (pe_lst (pa_cons pe_int (pa_cons pe_int (pa_cons pe_int (pa_cons pe_int pa_nil))))) (pv 1) (fun _ _ => rfl)))))), ?_⟩)
  intro ds μ P hl h
  obtain ⟨d, c, i, n, rfl, hm, hn, q⟩ := h
  (exists "go")
  refine split_d (fun hc => ?_) (fun hc => ?_)
  · (exists "go")
    exact ⟨_, (by (exists "wk")), q _ (by omega) (by omega)⟩
  (exists "go")
  refine w2_ixInts (cs := [1, 2, 3, 1000]) Lk.here rfl (by omega) (by show _ < 4; omega) fun v hv => ?_
  have hv2 : 1 ≤ v ∧ v ≤ 1000 := by
    simp at hv
    rcases hv with rfl | rfl | rfl | rfl <;> omega
  exact ⟨_, (by (exists "wk")), q v hv2.1 hv2.2⟩
abbrev S_law_far : SpD := fun ds μ P => ∃ p q : Int × Int, ds = [zD p, zD q] ∧ P (.int (offZ p q)) μ
theorem sp_lfar {p q : Int × Int} {μ : Mu} {P : D → Mu → Prop} (h : P (.int (offZ p q)) μ) : S_law_far [zD p, zD q] μ P := ⟨p, q, rfl, h⟩

local macro_rules | `(tactic| exists "gx") => `(tactic| first
  | (with_reducible refine sp_lfar ?_))
local macro_rules | `(tactic| exists "sd") => `(tactic| exact sd_law_far _ _)
set_option maxHeartbeats 4000000 in
theorem ok_law_far (X : T K mg) : FnOk Pg w K mg base CX0 1 X.a_law_far X.d_law_far ["_law_here", "_law_there"] (spOf K 2 S_law_far) := by
  refine fn_ok4 X.F_law_far sc_law_far rfl (fun cdv A outer s H E hr => ⟨_, (pss_one (ps_ret (pe_callB (k_max (K := K) rfl rfl) (by rfl) X.m_max (by decide +kernel) (pa_cons (pe_callB call_abs (by rfl) X.m_abs (by decide +kernel) (pa_cons (pe_op op_sub (pe_ix (k_ix (K := K) rfl) (pv 0) pe_int (fun _ _ => rfl)) (pe_ix (k_ix (K := K) rfl) (pv 1) pe_int (fun _ _ => rfl))) pa_nil)) (pa_cons (pe_callB call_abs (by rfl) X.m_abs (by decide +kernel) (pa_cons (pe_op op_sub (pe_ix (k_ix (K := K) rfl) (pv 0) pe_int (fun _ _ => rfl)) (pe_ix (k_ix (K := K) rfl) (pv 1) pe_int (fun _ _ => rfl))) pa_nil)) pa_nil))))), ?_⟩)
  intro ds μ P hl h
  obtain ⟨p, q, rfl, h⟩ := h
  (exists "go")
  exact ⟨_, Weak.refl, h⟩
abbrev S_law_spots : SpD := fun ds μ P => ∃ (es : List En) (g : Int), ds = [.tup (es.map eD), .int g] ∧ es.length ≤ 24 ∧ 1 ≤ g ∧ g ≤ 1000 ∧ ∀ p, P (.ref p) ((p, .lst ((spL g es).map zD)) :: μ)
theorem sp_spots {es : List En} {g : Int} {μ : Mu} {P : D → Mu → Prop} (h1 : es.length ≤ 24) (h2 : 1 ≤ g) (h3 : g ≤ 1000) (q : ∀ p, P (.ref p) ((p, .lst ((spL g es).map zD)) :: μ)) : S_law_spots [.tup (es.map eD), .int g] μ P := ⟨es, g, rfl, h1, h2, h3, q⟩

local macro_rules | `(tactic| exists "gx") => `(tactic| first
  | (((with_reducible refine' sp_spots ?h1 ?h2 ?h3 ?_); (case h1 => omega); (case h2 => omega); (case h3 => omega))))
local macro_rules | `(tactic| exists "sd") => `(tactic| exact sd_law_spots _ _)
set_option maxHeartbeats 4000000 in
theorem ok_law_spots (X : T K mg) : FnOk Pg w K mg base CX0 1 X.a_law_spots X.d_law_spots ["_law_ends_here", "_law_grain_here"] (spOf K 2 S_law_spots) := by
  refine fn_ok4 X.F_law_spots sc_law_spots rfl (fun cdv A outer s H E hr => ⟨_, (pss_one (ps_ret (pe_lc (own := [("_law_end", 2)]) (g := gName 2) (tt := tYes) rfl sc_law_spots.nd (k_itup (K := K) rfl (pv 0)) (blkOk_by (N := N_law_spots) (sc := defScope s_law_spots) (by decide +kernel)) (fun _ _ _ _ _ => (pg_name (i := 2) sc_law_spots.nd rfl (.inl rfl))) (fun _ _ _ _ _ => pts_nil) (fun _ _ _ _ _ => (pe_tup (pa_cons (pe_op op_mul (pv 1) (pe_op (k_add (K := K) rfl) (pe_ix (k_ix (K := K) rfl) (pv 2) pe_int (fun _ _ => rfl)) (pe_ix (k_ix (K := K) rfl) (pv 2) pe_int (fun _ _ => rfl)))) (pa_cons (pe_op op_mul (pv 1) (pe_op op_sub (pe_ix (k_ix (K := K) rfl) (pv 2) pe_int (fun _ _ => rfl)) (pe_ix (k_ix (K := K) rfl) (pv 2) pe_int (fun _ _ => rfl)))) pa_nil))))))), ?_⟩)
  intro ds μ P hl h
  obtain ⟨es, g, rfl, h1, h2, h3, q⟩ := h
  (exists "go")
  refine lcM (es := es) (r := fun e : En => zD (g * (e.x + e.y), g * (e.x - e.y))) (lt_size (by omega)) (by (exists "hG")) (fun x hx p1 acc => ?_) (fun p => ?_)
  · (exists "go")
    (exists "rw")
  rw [show es.map (fun e : En => zD (g * (e.x + e.y), g * (e.x - e.y))) = (spL g es).map zD from by unfold spL; rw [List.map_map]; rfl]
  exact ⟨_, Weak.refl, q p⟩
abbrev S_law_middle : SpD := fun ds μ P => ∃ (d c : Addr) (p r : Int × Int) (i n : Nat), ds = [.ref d, zD p, zD r] ∧ μ[i]? = some (d, fl n c) ∧ n < 8000000 ∧ ∀ w : Int × Int, P (zD w) (μ.set i (d, fl (n + 3) c))
theorem sp_middle {d c : Addr} {p r : Int × Int} {i n : Nat} {μ μ' : Mu} {P : D → Mu → Prop} (hm : μ[i]? = some (d, fl n c)) (hn : n < 8000000) (h : μ.set i (d, fl (n + 3) c) = μ') (q : ∀ w : Int × Int, P (zD w) μ') : S_law_middle [.ref d, zD p, zD r] μ P := ⟨d, c, p, r, i, n, rfl, hm, hn, by subst h; exact q⟩

local macro_rules | `(tactic| exists "gx") => `(tactic| first
  | (((with_reducible refine' sp_middle ?hm ?hn ?h ?_); (case hm => (exists "at")); (case hn => omega); (case h => (exists "nd")))))
local macro_rules | `(tactic| exists "sd") => `(tactic| exact sd_law_middle _ _ _)
set_option maxHeartbeats 4000000 in
theorem ok_law_middle (X : T K mg) : FnOk Pg w K mg base CX0 2 X.a_law_middle X.d_law_middle ["_law_deck_here", "_law_here", "_law_there"] (spOf K 3 S_law_middle) := by
  refine fn_ok4 X.F_law_middle sc_law_middle rfl (fun cdv A outer s H E hr => ⟨_, (pss_cons (ps_set (i := 3) sc_law_middle.nd rfl (Or.inl rfl) (pe_call (ok_law_take X) (hr.mono (by decide)) (by rfl) X.g_law_take X.F_law_take.kp X.b_law_take .nil pass0 (pa_cons (pv 0) (pa_cons pe_int pa_nil))))
  (pss_cons (ps_if (pt_cmpR (k_eq (K := K) rfl hr.units) (pv 3) pe_int (nomark _)) (pss_one (ps_ret (pe_tup (pa_cons (pe_op op_sub (pe_op (k_add (K := K) rfl) (pe_ix (k_ix (K := K) rfl) (pv 1) pe_int (fun _ _ => rfl)) (pe_call (ok_law_take X) (hr.mono (by decide)) (by rfl) X.g_law_take X.F_law_take.kp X.b_law_take .nil pass0 (pa_cons (pv 0) (pa_cons pe_int pa_nil)))) pe_int) (pa_cons (pe_op op_sub (pe_op (k_add (K := K) rfl) (pe_ix (k_ix (K := K) rfl) (pv 2) pe_int (fun _ _ => rfl)) (pe_call (ok_law_take X) (hr.mono (by decide)) (by rfl) X.g_law_take X.F_law_take.kp X.b_law_take .nil pass0 (pa_cons (pv 0) (pa_cons pe_int pa_nil)))) pe_int) pa_nil))))) pss_nil)
  (pss_one (ps_ret (pe_ix (k_ix (K := K) rfl) (pe_lst (pa_cons (pv 1) (pa_cons (pv 2) (pa_cons (pe_tup (pa_cons (pe_op op_fdivW (pe_op (k_add (K := K) rfl) (pe_ix (k_ix (K := K) rfl) (pv 1) pe_int (fun _ _ => rfl)) (pe_ix (k_ix (K := K) rfl) (pv 2) pe_int (fun _ _ => rfl))) pe_int) (pa_cons (pe_op op_fdivW (pe_op (k_add (K := K) rfl) (pe_ix (k_ix (K := K) rfl) (pv 1) pe_int (fun _ _ => rfl)) (pe_ix (k_ix (K := K) rfl) (pv 2) pe_int (fun _ _ => rfl))) pe_int) pa_nil))) (pa_cons (pe_tup (pa_cons (pe_ix (k_ix (K := K) rfl) (pv 1) pe_int (fun _ _ => rfl)) (pa_cons (pe_ix (k_ix (K := K) rfl) (pv 2) pe_int (fun _ _ => rfl)) pa_nil))) pa_nil))))) (pv 3) (fun _ _ => rfl)))))), ?_⟩)
  intro ds μ P hl h
  obtain ⟨d, c, p, r, i, n, rfl, hm, hn, q⟩ := h
  (exists "go")
  refine split_d (fun hc => ?_) (fun hc => ?_)
  · (exists "go")
    exact ⟨_, (by (exists "wk")), q (_, _)⟩
  (exists "go")
  rename_i k hk0 hk1 px
  have hk : k = 0 ∨ k = 1 ∨ k = 2 ∨ k = 3 := by omega
  rcases hk with rfl | rfl | rfl | rfl
  · (exists "go")
    exact ⟨_, (by (exists "wk")), q p⟩
  · (exists "go")
    exact ⟨_, (by (exists "wk")), q r⟩
  · (exists "go")
    exact ⟨_, (by (exists "wk")), q ((p.1 + r.1) / 2, (p.2 + r.2) / 2)⟩
  · (exists "go")
    exact ⟨_, (by (exists "wk")), q (p.1, r.2)⟩
abbrev S_law_lengths : SpD := fun ds μ P => ∃ (d c : Addr) (es : List En) (J : List (Nat × Nat)) (g : Int) (i n : Nat), ds = [.ref d, .tup (es.map eD), .tup (J.map pD), .int g] ∧ 1 ≤ es.length ∧ es.length ≤ 24 ∧ Jng es.length J ∧ 1 ≤ g ∧ g ≤ 1000 ∧ μ[i]? = some (d, fl n c) ∧ n < 7000000 ∧
  ∀ p ls, ls.length = es.length + J.length - 1 → (∀ l ∈ ls, 0 ≤ l) → (∃ pos, LaysP (spG g es) ls es.length J pos) → P (.ref p) ((p, .lst (ls.map D.int)) :: μ.set i (d, fl (n + 130) c))
theorem sp_lengths {d c : Addr} {es : List En} {J : List (Nat × Nat)} {g : Int} {i n : Nat} {μ μ' : Mu} {P : D → Mu → Prop} (h1 : 1 ≤ es.length) (h2 : es.length ≤ 24) (hJ : Jng es.length J) (h3 : 1 ≤ g) (h4 : g ≤ 1000) (hm : μ[i]? = some (d, fl n c)) (hn : n < 7000000) (h : μ.set i (d, fl (n + 130) c) = μ') (q : ∀ p ls, ls.length = es.length + J.length - 1 → (∀ l ∈ ls, 0 ≤ l) → (∃ pos, LaysP (spG g es) ls es.length J pos) → P (.ref p) ((p, .lst (ls.map D.int)) :: μ')) : S_law_lengths [.ref d, .tup (es.map eD), .tup (J.map pD), .int g] μ P := ⟨d, c, es, J, g, i, n, rfl, h1, h2, hJ, h3, h4, hm, hn, by subst h; exact q⟩

local macro_rules | `(tactic| exists "gx") => `(tactic| first
  | (((with_reducible refine' sp_lengths ?h1 ?h2 ?hJ ?h3 ?h4 ?hm ?hn ?h ?_); (case h1 => omega); (case h2 => omega); (case hJ => with_reducible assumption); (case h3 => omega); (case h4 => omega); (case hm => (exists "at")); (case hn => omega); (case h => (exists "nd")))))
local macro_rules | `(tactic| exists "sd") => `(tactic| exact sd_law_lengths _ _ _ _)
set_option maxHeartbeats 4000000 in
theorem ok_law_lengths (X : T K mg) : FnOk Pg w K mg base CX0 3 X.a_law_lengths X.d_law_lengths ["_law_deck_here", "_law_ends_here", "_law_joining_here", "_law_grain_here"] (spOf K 4 S_law_lengths) := by
  refine fn_ok4 X.F_law_lengths sc_law_lengths rfl (fun cdv A outer s H E hr => ⟨_, (pss_cons (ps_set (i := 4) sc_law_lengths.nd rfl (Or.inl rfl) (pe_call (ok_law_take X) (hr.mono (by decide)) (by rfl) X.g_law_take X.F_law_take.kp X.b_law_take .nil pass0 (pa_cons (pv 0) (pa_cons pe_int pa_nil))))
  (pss_cons (ps_set (i := 5) sc_law_lengths.nd rfl (Or.inl rfl) (pe_call (ok_law_spots X) (hr.mono (by decide)) (by rfl) X.g_law_spots X.F_law_spots.kp X.b_law_spots .nil pass0 (pa_cons (pv 1) (pa_cons (pv 3) pa_nil))))
  (pss_cons (ps_set (i := 6) sc_law_lengths.nd rfl (Or.inl rfl) (pe_op op_rep (pe_lst (pa_cons pe_int pa_nil)) (pe_op op_sub (pe_op op_mul pe_int (pe_callB (k_len (K := K) rfl) (by rfl) X.m_len (by decide +kernel) (pa_cons (pv 1) pa_nil))) pe_int)))
  (pss_cons (ps_for PassesOwn.never rfl (WkE.k_iU (K := K) rfl (pv 2)) (k_gtup (K := K) (n := 2) rfl (by rfl) (pgs_cons (pg_name (i := 7) sc_law_lengths.nd rfl (.inl rfl)) (pgs_cons (pg_name (i := 8) sc_law_lengths.nd rfl (.inl rfl)) pgs_nil))) (pss_cons (ps_expr (k_bm (K := K) rfl PySem.F.plainAttrs_list PySem.F.slot_list_append PySem.F.type_list_append mt_append (pv 5) (pa_cons (pe_call (ok_law_middle X) (hr.mono (by decide)) (by rfl) X.g_law_middle X.F_law_middle.kp X.b_law_middle .nil pass0 (pa_cons (pv 0) (pa_cons (pe_ix (k_ix (K := K) rfl) (pv 5) (pv 7) (fun _ _ => rfl)) (pa_cons (pe_ix (k_ix (K := K) rfl) (pv 5) (pv 8) (fun _ _ => rfl)) pa_nil)))) pa_nil)))
  (pss_one (ps_for PassesOwn.never rfl (k_itup (K := K) rfl (pe_tup (pa_cons (pv 7) (pa_cons (pv 8) pa_nil)))) (pg_name (i := 9) sc_law_lengths.nd rfl (.inl rfl)) (pss_cons (ps_asg (pe_call (ok_law_far X) (hr.mono (by decide)) (by rfl) X.g_law_far X.F_law_far.kp X.b_law_far .nil pass0 (pa_cons (pe_ix (k_ix (K := K) rfl) (pv 5) (pv 9) (fun _ _ => rfl)) (pa_cons (pe_ix (k_ix (K := K) rfl) (pv 5) (pe_un un_neg pe_int) (fun _ _ => rfl)) pa_nil))) (pg_sub (pv 6) (pv 9) set_list))
  (pss_one (ps_if (pt_cmpR op_gt (pv 4) pe_int (nomark _)) (pss_cons (ps_set (i := 10) sc_law_lengths.nd rfl (Or.inl rfl) (pe_ix (k_ix (K := K) rfl) (pe_lst (pa_cons pe_int (pa_cons pe_int (pa_cons pe_int (pa_cons (pe_op (op_powK (a := 10) (b := 8) (r := 100000000) (by decide) (by decide) (by decide +kernel)) pe_int pe_int) pa_nil))))) (pe_call (ok_law_take X) (hr.mono (by decide)) (by rfl) X.g_law_take X.F_law_take.kp X.b_law_take .nil pass0 (pa_cons (pv 0) (pa_cons (pe_op (k_add (K := K) rfl) pe_int (pv 4)) pa_nil))) (fun _ _ => rfl)))
  (pss_one (ps_asg (pe_op (k_add (K := K) rfl) (pe_ix (k_ix (K := K) rfl) (pv 6) (pv 9) (fun _ _ => rfl)) (pv 10)) (pg_sub (pv 6) (pv 9) set_list)))) pss_nil)))))))
  (pss_one (ps_ret (pv 6))))))), ?_⟩)
  intro ds μ P hl h
  obtain ⟨d, c, es, J, g, i, n, rfl, h1, h2, hJ, h3, h4, hm, hn, q⟩ := h
  have F := hJ.facts
  have hJl := hJ.1
  (exists "go")
  rename_i mo hmo0 hmo1 psp px
  refine w2_rep1 (n := es.length + J.length - 1) Lk.here (by omega) (by omega) fun pl => ?_
  (exists "go")
  rw [show List.replicate (es.length + J.length - 1) (D.int 0) = (List.replicate (es.length + J.length - 1) (0 : Int)).map D.int from by rw [List.map_replicate]]
  refine forMm (fun pre δ' μ' => ∃ (L : List (Int × Int)) (V : List Int), LyR (spG g es) es.length J pre.length L V ∧ δ' = L_law_lengths (v_deck_here := some (.ref d)) (v_ends_here := some (.tup (es.map eD))) (v_joining_here := some (.tup (J.map pD))) (v_grain_here := some (.int g)) (v_more := some (.int mo)) (v_spots_here := some (.ref psp)) (v_lengths_here := some (.ref pl)) ∧ μ' = (pl, .lst (V.map D.int)) :: (psp, .lst (L.map zD)) :: μ.set i (d, fl (n + 1 + 5 * pre.length) c)) ⟨_, _, (by (exists "le")), (by (exists "wk")), spL g es, List.replicate (es.length + J.length - 1) 0, ⟨by rw [spL_len]; rfl, List.length_replicate, fun v hv => by rw [List.eq_of_mem_replicate hv]; exact Int.le_refl _, fun k hk => spL_get hk, fun i x hi => absurd hi (Nat.not_lt_zero _)⟩, rfl, rfl⟩ (fun _ _ _ _ => True.intro) ?_ ?_
  · rintro pre x suf δ' ν hx ⟨L, V, hL, rfl, rfl⟩
    have hxg : J[pre.length]? = some x := by rw [hx]; simp
    have hlow := F.low pre.length x hxg
    have hpl : pre.length < J.length := by rw [hx]; simp
    have hLl := hL.len
    have hVl := hL.vlen
    have hz : L.length < 100000 := by omega
    have g1 := getD_of' (sp := L) (k := x.1) (by omega)
    have g2 := getD_of' (sp := L) (k := x.2) (by omega)
    (exists "ge")
    (exists "ss")
    rename_i w
    rw [map_snoc zD w]
    have gw : (L ++ [w])[L.length]? = some w := by simp
    have g1' : (L ++ [w])[x.1]? = some (L.getD x.1 (0, 0)) := by rw [List.getElem?_append_left (by omega)]; exact g1
    have g2' : (L ++ [w])[x.2]? = some (L.getD x.2 (0, 0)) := by rw [List.getElem?_append_left (by omega)]; exact g2
    have glast : atI (List.map zD (L ++ [w])) (-1) = some (zD w) := by
      unfold atI ixN
      simp only [List.length_map, List.length_append, List.length_cons, List.length_nil]
      rw [if_neg (by omega), if_pos (by omega)]
      show (List.map zD (L ++ [w]))[_]? = _
      rw [show ((-1 : Int) + ((L.length + (0 + 1) : Nat) : Int)).toNat = L.length by omega, List.getElem?_map, gw]; rfl
    have v1 : x.1 < V.length := by omega
    (exists "go")
    refine for2 (fun δ' μ' => ∃ a : Int, offZ (L.getD x.1 (0, 0)) w ≤ a ∧ (δ' = L_law_lengths (v_deck_here := some (.ref d)) (v_ends_here := some (.tup (es.map eD))) (v_joining_here := some (.tup (J.map pD))) (v_grain_here := some (.int g)) (v_more := some (.int mo)) (v_spots_here := some (.ref psp)) (v_lengths_here := some (.ref pl)) (v_one := some (jD x.1)) (v_other := some (jD x.2))) ∧ μ' = (pl, .lst ((V.set x.1 a).map D.int)) :: (psp, .lst ((L ++ [w]).map zD)) :: μ.set i (d, fl (n + 1 + 5 * pre.length + 4) c))
      (fun δ' μ' => ∃ a b : Int, (offZ (L.getD x.1 (0, 0)) w ≤ a ∧ offZ (L.getD x.2 (0, 0)) w ≤ b) ∧ δ' = L_law_lengths (v_deck_here := some (.ref d)) (v_ends_here := some (.tup (es.map eD))) (v_joining_here := some (.tup (J.map pD))) (v_grain_here := some (.int g)) (v_more := some (.int mo)) (v_spots_here := some (.ref psp)) (v_lengths_here := some (.ref pl)) (v_one := some (jD x.1)) (v_other := some (jD x.2)) ∧ μ' = (pl, .lst (((V.set x.1 a).set x.2 b).map D.int)) :: (psp, .lst ((L ++ [w]).map zD)) :: μ.set i (d, fl (n + 1 + 5 * pre.length + 5) c)) (fun _ => True.intro) ?_ ?_ ?_
    · skip
      (exists "go")
      refine w2_ixK (by (exists "lk")) glast ?_
      (exists "go")
      refine' set_intro (f := D.int) (e := offZ (L.getD x.1 (0, 0)) w) (k := x.1) at0 rfl v1 rfl ?h ?_; (case h => (exists "nd"))
      (exists "go")
      refine split_d (fun hc => ?_) (fun hc => ?_)
      · (exists "go")
        refine w2_ixInts (cs := [0, 1, 5, 10 ^ 8]) Lk.here rfl (by omega) (by show _ < 4; omega) fun v hv => ?_
        have hv2 : 0 ≤ v := by
          simp at hv
          rcases hv with rfl | rfl | rfl | rfl <;> omega
        have gs : (V.set x.1 (offZ (L.getD x.1 (0, 0)) w))[x.1]? = some (offZ (L.getD x.1 (0, 0)) w) := by rw [List.getElem?_set_self v1]
        (exists "go")
        refine' set_intro (f := D.int) (e := offZ (L.getD x.1 (0, 0)) w + v) (k := x.1) (j := 1) rfl rfl (by rw [List.length_set]; exact v1) rfl ?h ?_; (case h => (exists "nd"))
        exact ⟨_, _, (by (exists "le")), (by (exists "wk")), _, (by omega), rfl, rfl⟩
      · (exists "go")
        exact ⟨_, _, (by (exists "le")), (by (exists "wk")), _, (by omega), rfl, rfl⟩
    · rintro δ' ν ⟨a, ha, rfl, rfl⟩
      have v2 : x.2 < (V.set x.1 a).length := by rw [List.length_set]; omega
      (exists "go")
      refine w2_ixK (by (exists "lk")) glast ?_
      (exists "go")
      refine' set_intro (f := D.int) (e := offZ (L.getD x.2 (0, 0)) w) (k := x.2) at0 rfl v2 rfl ?h ?_; (case h => (exists "nd"))
      (exists "go")
      refine split_d (fun hc => ?_) (fun hc => ?_)
      · (exists "go")
        refine w2_ixInts (cs := [0, 1, 5, 10 ^ 8]) Lk.here rfl (by omega) (by show _ < 4; omega) fun v hv => ?_
        have hv2 : 0 ≤ v := by
          simp at hv
          rcases hv with rfl | rfl | rfl | rfl <;> omega
        have gs : ((V.set x.1 a).set x.2 (offZ (L.getD x.2 (0, 0)) w))[x.2]? = some (offZ (L.getD x.2 (0, 0)) w) := by rw [List.getElem?_set_self v2]
        (exists "go")
        refine' set_intro (f := D.int) (e := offZ (L.getD x.2 (0, 0)) w + v) (k := x.2) (j := 1) rfl rfl (by rw [List.length_set]; exact v2) rfl ?h ?_; (case h => (exists "nd"))
        exact ⟨_, _, (by (exists "le")), (by (exists "wk")), _, _, ⟨ha, by omega⟩, rfl, rfl⟩
      · (exists "go")
        exact ⟨_, _, (by (exists "le")), (by (exists "wk")), _, _, ⟨ha, by omega⟩, rfl, rfl⟩
    · rintro δ' ν ⟨a, b, ⟨ha, hb⟩, rfl, rfl⟩
      have hln : (pre ++ [x]).length = pre.length + 1 := by rw [List.length_append]; rfl
      refine ⟨_, _, (by (exists "le")), ?_, L ++ [w], (V.set x.1 a).set x.2 b, ?_, rfl, rfl⟩
      · rw [hln]
        (exists "wk")
      · rw [hln]
        exact hL.step hJ hxg ha hb
  rintro δ' ν ⟨L, V, hL, rfl, rfl⟩
  (exists "go")
  exact ⟨_, (by (exists "wk")), q pl V hL.vlen hL.nn ⟨_, hL.done⟩⟩
  
abbrev S_law_bent : SpD := fun ds μ P => ∃ (d c a : Addr) (ls : List Int) (i n : Nat), ds = [.ref d, .ref a] ∧ Lk (ls.map D.int) μ a ∧ ls.length ≤ 60 ∧ (∀ l ∈ ls, 0 ≤ l) ∧ μ[i]? = some (d, fl n c) ∧ n < 7000000 ∧ ∀ (p : Addr) (ls' : List Int), ls'.length = ls.length → (∀ l ∈ ls', 0 ≤ l) → P (.ref p) ((p, .lst (ls'.map D.int)) :: μ.set i (d, fl (n + 20) c))
theorem sp_bent {d c a : Addr} {ls : List Int} {i n : Nat} {μ μ' : Mu} {P : D → Mu → Prop} (ha : Lk (ls.map D.int) μ a) (h1 : ls.length ≤ 60) (h2 : ∀ l ∈ ls, 0 ≤ l) (hm : μ[i]? = some (d, fl n c)) (hn : n < 7000000) (h : μ.set i (d, fl (n + 20) c) = μ') (q : ∀ (p : Addr) (ls' : List Int), ls'.length = ls.length → (∀ l ∈ ls', 0 ≤ l) → P (.ref p) ((p, .lst (ls'.map D.int)) :: μ')) : S_law_bent [.ref d, .ref a] μ P := ⟨d, c, a, ls, i, n, rfl, ha, h1, h2, hm, hn, by subst h; exact q⟩

local macro_rules | `(tactic| exists "gx") => `(tactic| first
  | (((with_reducible refine' sp_bent ?ha ?h1 ?h2 ?hm ?hn ?h ?_); (case ha => (exists "lk")); (case h1 => omega); (case h2 => with_reducible assumption); (case hm => (exists "at")); (case hn => omega); (case h => (exists "nd")))))
local macro_rules | `(tactic| exists "sd") => `(tactic| exact sd_law_bent _ _)
set_option maxHeartbeats 4000000 in
theorem ok_law_bent (X : T K mg) : FnOk Pg w K mg base CX0 2 X.a_law_bent X.d_law_bent ["_law_deck_here", "_law_lengths_here"] (spOf K 2 S_law_bent) := by
  refine fn_ok4 X.F_law_bent sc_law_bent rfl (fun cdv A outer s H E hr => ⟨_, (pss_cons (ps_set (i := 2) sc_law_bent.nd rfl (Or.inl rfl) (pe_call (ok_law_take X) (hr.mono (by decide)) (by rfl) X.g_law_take X.F_law_take.kp X.b_law_take .nil pass0 (pa_cons (pv 0) (pa_cons pe_int pa_nil))))
  (pss_cons (ps_set (i := 3) sc_law_bent.nd rfl (Or.inl rfl) (pe_callTy (k_lst (K := K) rfl) (by rfl) X.m_list (by decide +kernel) (pa_cons (pv 1) pa_nil)))
  (pss_cons (ps_for PassesOwn.never rfl (pi_range1 (by rfl) X.m_range (pa_cons (pe_op op_mul (pv 2) (pe_callTy call_int1 (by rfl) X.m_int (by decide +kernel) (pa_cons (pe_cmpR (k_ne (K := K) rfl hr.units) (pv 3) (pe_lst pa_nil) (nomark _)) pa_nil))) pa_nil)) (pg_name (i := 4) sc_law_bent.nd rfl (.inl rfl)) (pss_cons (ps_set (i := 5) sc_law_bent.nd rfl (Or.inl rfl) (pe_call (ok_law_take X) (hr.mono (by decide)) (by rfl) X.g_law_take X.F_law_take.kp X.b_law_take .nil pass0 (pa_cons (pv 0) (pa_cons (pe_callB (k_len (K := K) rfl) (by rfl) X.m_len (by decide +kernel) (pa_cons (pv 3) pa_nil)) pa_nil))))
  (pss_cons (ps_set (i := 6) sc_law_bent.nd rfl (Or.inl rfl) (pe_call (ok_law_take X) (hr.mono (by decide)) (by rfl) X.g_law_take X.F_law_take.kp X.b_law_take .nil pass0 (pa_cons (pv 0) (pa_cons pe_int pa_nil))))
  (pss_one (ps_if (pt_cmpR op_lt (pv 6) pe_int (nomark _)) (pss_one (ps_asg (pe_callB (k_max (K := K) rfl rfl) (by rfl) X.m_max (by decide +kernel) (pa_cons pe_int (pa_cons (pe_op op_sub (pe_ix (k_ix (K := K) rfl) (pv 3) (pv 5) (fun _ _ => rfl)) (pe_ix (k_ix (K := K) rfl) (pe_lst (pa_cons pe_int (pa_cons pe_int (pa_cons pe_int pa_nil)))) (pv 6) (fun _ _ => rfl))) pa_nil))) (pg_sub (pv 3) (pv 5) set_list))) (pss_one (ps_if (pt_cmpR (k_eq (K := K) rfl hr.units) (pv 6) pe_int (nomark _)) (pss_one (ps_asg (pe_op (k_add (K := K) rfl) (pe_ix (k_ix (K := K) rfl) (pv 3) (pv 5) (fun _ _ => rfl)) pe_int) (pg_sub (pv 3) (pv 5) set_list))) (pss_one (ps_if (pt_cmpR (k_eq (K := K) rfl hr.units) (pv 6) pe_int (nomark _)) (pss_one (ps_asg pe_int (pg_sub (pv 3) (pv 5) set_list))) (pss_one (ps_asg (pe_op (k_add (K := K) rfl) (pe_op op_mul (pe_call (ok_law_take X) (hr.mono (by decide)) (by rfl) X.g_law_take X.F_law_take.kp X.b_law_take .nil pass0 (pa_cons (pv 0) (pa_cons (pe_op (op_powK (a := 10) (b := 5) (r := 100000) (by decide) (by decide) (by decide +kernel)) pe_int pe_int) pa_nil))) (pe_op (op_powK (a := 10) (b := 5) (r := 100000) (by decide) (by decide) (by decide +kernel)) pe_int pe_int)) (pe_call (ok_law_take X) (hr.mono (by decide)) (by rfl) X.g_law_take X.F_law_take.kp X.b_law_take .nil pass0 (pa_cons (pv 0) (pa_cons pe_int pa_nil)))) (pg_sub (pv 3) (pv 5) set_list))))))))))))
  (pss_one (ps_ret (pv 3)))))), ?_⟩)
  intro ds μ P hl h
  obtain ⟨d, c, a, ls, i, n, rfl, ha, h1, h2, hm, hn, q⟩ := h
  (exists "ss")
  rename_i w hw0 hw1
  (exists "ss")
  rename_i p
  have hpx : ∃ b : Bool, (b = true → ls ≠ []) ∧ (!(ls.map D.int).isEmpty) = b := ⟨!(ls.map D.int).isEmpty, (fun h e => by subst e; cases h), rfl⟩
  obtain ⟨b, hb1, hb2⟩ := hpx
  (exists "go")
  refine w2_neK Lk.here.cons Lk.here (sh_flat (flat_tup (n := 0) fun x hx => by
        obtain ⟨z, _, rfl⟩ := List.mem_map.mp hx
        exact flat_int) (by decide)) rfl ?_
  rw [eqBL_nil_r, hb2]
  (exists "go")
  have hwb : 0 ≤ w * (if b = true then (1 : Int) else 0) ∧ w * (if b = true then (1 : Int) else 0) ≤ 3 ∧ (0 < w * (if b = true then (1 : Int) else 0) → b = true) := by
    cases b
    · simp
    · simp; omega
  generalize w * (if b = true then (1 : Int) else 0) = w2 at *
  have hw2 : w2.toNat ≤ 3 := by omega
  (exists "go")
  refine ⟨by omega, ?_⟩
  refine forR0 (fun j δ' μ' => ∃ V : List Int, V.length = ls.length ∧ (∀ l ∈ V, 0 ≤ l) ∧ δ' = L_law_bent (v_deck_here := some (.ref d)) (v_lengths_here := some (.ref a)) (v_way := some (.int w)) (v_found := some (.ref p)) ∧ μ' = (p, .lst (V.map D.int)) :: μ.set i (d, fl (n + 1 + 4 * j) c)) ⟨_, _, (by (exists "le")), weak_drop, ls, rfl, h2, rfl, rfl⟩ (fun _ _ _ _ => True.intro) ?_ ?_
  · rintro j δ' ν hj ⟨V, hV, hVp, rfl, rfl⟩
    have hpos := List.length_pos_iff.mpr (hb1 (hwb.2.2 (by omega)))
    have fin : ∀ (k : Nat) (v : Int), 0 ≤ v → ∀ l ∈ V.set k v, 0 ≤ l := fun k v hv l hl => by
      rcases List.mem_or_eq_of_mem_set hl with h | rfl
      · exact hVp l h
      · exact hv
    (exists "ge")
    (exists "ss")
    rename_i k hk0 hk1
    obtain ⟨k, rfl⟩ := Int.eq_ofNat_of_zero_le hk0
    have hk2 : k < V.length := by omega
    have gk := ls_at' (ls := V) hk2
    have gp := ls_nn hVp k
    (exists "ss")
    rename_i kd hd0 hd1
    (exists "go")
    refine split_d (fun hc => ?_) (fun hc => ?_)
    · (exists "go")
      refine w2_ixInts (cs := [1, 2, 9]) Lk.here rfl (by omega) (by show _ < 3; omega) fun v hv => ?_
      (exists "go")
      refine' set_intro (f := D.int) (e := max 0 (V.getD k 0 - v)) (k := k) (j := 1) rfl rfl hk2 rfl ?h ?_; (case h => (exists "nd"))
      exact ⟨_, _, (by (exists "le")), (by (exists "wk")), V.set k (max 0 (V.getD k 0 - v)), by rw [List.length_set]; exact hV, fin _ _ (by omega), rfl, rfl⟩
    (exists "go")
    refine split_d (fun hc => ?_) (fun hc => ?_)
    · (exists "go")
      refine' set_intro (f := D.int) (e := V.getD k 0 + 1) (k := k) at0 rfl hk2 rfl ?h ?_; (case h => (exists "nd"))
      exact ⟨_, _, (by (exists "le")), (by (exists "wk")), V.set k (V.getD k 0 + 1), by rw [List.length_set]; exact hV, fin _ _ (by omega), rfl, rfl⟩
    (exists "go")
    refine split_d (fun hc => ?_) (fun hc => ?_)
    · (exists "go")
      refine' set_intro (f := D.int) (e := 0) (k := k) at0 rfl hk2 rfl ?h ?_; (case h => (exists "nd"))
      exact ⟨_, _, (by (exists "le")), (by (exists "wk")), V.set k 0, by rw [List.length_set]; exact hV, fin _ _ (by omega), rfl, rfl⟩
    · (exists "go")
      rename_i a1 ha1 ha2 b1 hb1 hb2
      refine' set_intro (f := D.int) (e := a1 * 100000 + b1) (k := k) at0 rfl hk2 rfl ?h ?_; (case h => (exists "nd"))
      exact ⟨_, _, (by (exists "le")), (by (exists "wk")), V.set k (a1 * 100000 + b1), by rw [List.length_set]; exact hV, fin _ _ (by omega), rfl, rfl⟩
  rintro δ' ν ⟨V, hV, hVp, rfl, rfl⟩
  (exists "go")
  exact ⟨_, (by (exists "wk")), q p V hV hVp⟩
  
abbrev wD (w : Wr) : D := dD (nkv w)
theorem wrL_at {ls : List Int} {m k : Nat} {J : List (Nat × Nat)} (h : k < m + J.length) : (wrL ls m J)[k]? = some (wrK ls m J k) := kgL_get (by rw [wrB_len]; exact h)
theorem ls_at {ls : List Int} {k : Nat} (h : k < ls.length) : ls[k]? = some (ls.getD k 0) := by rw [List.getD_eq_getElem?_getD, List.getElem?_eq_getElem h]; rfl

abbrev S_law_wires : SpD := fun ds μ P => ∃ (m : Nat) (J : List (Nat × Nat)) (x : D) (ls : List Int), ds = [.int (m : Nat), .tup (J.map pD), x] ∧ 1 ≤ m ∧ m ≤ 24 ∧ Jng m J ∧ LsArg x μ ls ∧ ls.length = m + J.length - 1 ∧ ∀ p, P (.ref p) ((p, .lst ((wrL ls m J).map wD)) :: μ)
theorem sp_wires_t {m : Nat} {J : List (Nat × Nat)} {ls : List Int} {μ : Mu} {P : D → Mu → Prop} (h1 : 1 ≤ m) (h2 : m ≤ 24) (hJ : Jng m J) (h4 : ls.length = m + J.length - 1) (q : ∀ p, P (.ref p) ((p, .lst ((wrL ls m J).map wD)) :: μ)) : S_law_wires [.int (m : Nat), .tup (J.map pD), .tup (ls.map D.int)] μ P := ⟨m, J, _, ls, rfl, h1, h2, hJ, .inl rfl, h4, q⟩
theorem sp_wires_l {m : Nat} {J : List (Nat × Nat)} {a : Addr} {ls : List Int} {μ : Mu} {P : D → Mu → Prop} (h1 : 1 ≤ m) (h2 : m ≤ 24) (hJ : Jng m J) (ha : Lk (ls.map D.int) μ a) (h4 : ls.length = m + J.length - 1) (q : ∀ p, P (.ref p) ((p, .lst ((wrL ls m J).map wD)) :: μ)) : S_law_wires [.int (m : Nat), .tup (J.map pD), .ref a] μ P := ⟨m, J, _, ls, rfl, h1, h2, hJ, .inr ⟨a, rfl, ha⟩, h4, q⟩

local macro_rules | `(tactic| exists "gx") => `(tactic| first
  | (((with_reducible refine' sp_wires_t ?h1 ?h2 ?hJ ?h4 ?_); (case h1 => omega); (case h2 => omega); (case hJ => with_reducible assumption); (case h4 => omega)))
  | (((with_reducible refine' sp_wires_l ?h1 ?h2 ?hJ ?ha ?h4 ?_); (case h1 => omega); (case h2 => omega); (case hJ => with_reducible assumption); (case ha => (exists "lk")); (case h4 => omega))))
local macro_rules | `(tactic| exists "sd") => `(tactic| exact sd_law_wires _ _ _)
set_option maxHeartbeats 4000000 in
theorem ok_law_wires (X : T K mg) : FnOk Pg w K mg base CX0 1 X.a_law_wires X.d_law_wires ["_law_many", "_law_joining_here", "_law_lengths_here"] (spOf K 3 S_law_wires) := by
  refine fn_ok4 X.F_law_wires sc_law_wires rfl (fun cdv A outer s H E hr => ⟨_, (pss_cons (ps_setLc (i := 3) (own := [("_law_end", 8)]) (g := gName 8) (tt := tYes) rfl sc_law_wires.nd rfl rfl (sw_true rfl rfl rfl (by decide +kernel)) (pi_range1 (by rfl) X.m_range (pa_cons (pv 0) pa_nil)) (blkOk_by (N := N_law_wires) (sc := defScope s_law_wires) (by decide +kernel)) (fun _ _ _ _ _ => (pg_name (i := 8) sc_law_wires.nd rfl (.inl rfl))) (fun _ _ _ _ _ => pts_nil) (fun _ _ _ _ _ => (WkE.pe_frz (pe_disp (pps_cons (pv 8) pe_int pps_nil) (by rfl) (by rfl) (fun z => by cases z) (by decide)))))
  (pss_cons (ps_for PassesOwn.never rfl (k_itup (K := K) rfl (pv 1)) (k_gtup (K := K) (n := 2) rfl (by rfl) (pgs_cons (pg_name (i := 4) sc_law_wires.nd rfl (.inl rfl)) (pgs_cons (pg_name (i := 5) sc_law_wires.nd rfl (.inl rfl)) pgs_nil))) (pss_cons (ps_set (i := 6) sc_law_wires.nd rfl (Or.inl rfl) pe_dnewK)
  (pss_cons (ps_for PassesOwn.never rfl (k_itup (K := K) rfl (pe_tup (pa_cons (pv 4) (pa_cons (pv 5) pa_nil)))) (pg_name (i := 7) sc_law_wires.nd rfl (.inl rfl)) (pss_one (ps_for PassesOwn.never rfl (pi_keys (pe_ix (k_ix (K := K) rfl) (pv 3) (pv 7) (fun _ _ => rfl))) (pg_name (i := 8) sc_law_wires.nd rfl (.inl rfl)) (pss_one (ps_dput (hu_of hr) (pv 6) (pv 8) (pe_op (k_add (K := K) rfl) (pe_dget (hu_of hr) (pe_ix (k_ix (K := K) rfl) (pv 3) (pv 7) (fun _ _ => rfl)) (pv 8) (fun _ _ => rfl)) (pe_ix (k_ix (K := K) rfl) (pv 2) (pv 7) (fun _ _ => rfl))) rfl)))))
  (pss_one (ps_expr (k_bm (K := K) rfl PySem.F.plainAttrs_list PySem.F.slot_list_append PySem.F.type_list_append mt_append (pv 3) (pa_cons (WkE.pe_frz (pv 6)) pa_nil)))))))
  (pss_one (ps_ret (pv 3))))), ?_⟩)
  intro ds μ P hl h
  obtain ⟨m, J, x, ls, rfl, h1, h2, hJ, hx, hl2, q⟩ := h
  have F := hJ.facts
  have hJl := hJ.1
  obtain ⟨_, hJW⟩ := hJ.2
  (exists "go")
  rw [Int.toNat_natCast]
  refine lc0 (lcM (r := fun k : Nat => wD [(k, 0)]) (lt_size (by rw [List.length_range]; omega)) (by (exists "hG")) (fun k hk p1 acc => ?_) (fun p => ?_))
  · (exists "go")
    refine w_disp fun p2 => ?_
    (exists "go")
    refine ⟨0, [(.inl (k : Int), .int 0)], rfl, rfl, (by show 1 ≤ 15; decide), ?_⟩
    rw [List.set_cons_zero]
    rw [show mergeD [] [((.inl (k : Int) : Key), D.int 0)] = nkv [(k, 0)] from rfl]
    (exists "go")
    (exists "wk")
  rw [show (List.range m).map (fun k : Nat => wD [(k, 0)]) = (wrL ls m []).map wD from by
    show _ = (wrB m).map wD
    rw [List.map_map]; rfl]
  (exists "go")
  refine forMm (fun pre δ' μ' => δ' = L_law_wires (v_many := some (.int (m : Nat))) (v_joining_here := some (.tup (J.map pD))) (v_lengths_here := some x) (v_wires_here := some (.ref p)) ∧ μ' = (p, .lst ((wrL ls m pre).map wD)) :: μ) ⟨_, _, (by (exists "le")), Weak.refl, rfl, rfl⟩ (fun _ _ _ _ => True.intro) ?_ ?_
  · rintro pre y suf δ' ν hy ⟨rfl, rfl⟩
    have hyg : J[pre.length]? = some y := by rw [hy]; simp
    have hlow := F.low pre.length y hyg
    have hpl : pre.length < J.length := by rw [hy]; simp
    obtain ⟨W', hpre⟩ := joins_pre hJW hy
    have hkeys : ∀ k, k < m + pre.length → (wrK ls m pre k).map (·.1) = belAt m pre k := fun k hk => wrK_keys hpre (k + 1) k (Nat.lt_succ_self k) hk
    have hnd : (belAt m pre y.1 ++ belAt m pre y.2).Nodup := by
      have := (F.bnd (m + pre.length) (by omega)).2.1
      rw [belAt_joint hyg hlow, hy, belAt_pre hlow.1, belAt_pre hlow.2] at this
      exact this
    have hx1 : LsArg x ((p, .lst ((wrL ls m pre).map wD)) :: μ) ls := hx.cons
    have g1 := wrL_at (ls := ls) (J := pre) hlow.1
    have g2 := wrL_at (ls := ls) (J := pre) hlow.2
    have l1 := ls_at (ls := ls) (k := y.1) (by omega)
    have l2 := ls_at (ls := ls) (k := y.2) (by omega)
    (exists "go")
    rename_i pu
    have turn : ∀ (k : Nat) (dn : Wr) (pr : List Nat) (z : Nat) (sf : List Nat), k < m + pre.length → (dn.map (·.1) ++ belAt m pre k).Nodup → (wrK ls m pre k).map (·.1) = pr ++ z :: sf →
        ∃ v : Int, (wrK ls m pre k)[pr.length]? = some (z, v) ∧ valD (nkv (wrK ls m pre k)) (.inl (z : Int)) = some (.int v) ∧ putD (nkv (dn ++ wrS ls k ((wrK ls m pre k).take pr.length))) (.inl (z : Int)) (.int (v + ls.getD k 0)) = nkv (dn ++ wrS ls k ((wrK ls m pre k).take (pr.length + 1))) := fun k dn pr z sf hk nd he => by
      have hkk := hkeys k hk
      have hz : ((wrK ls m pre k).map (·.1))[pr.length]? = some z := by rw [he]; simp
      rw [List.getElem?_map] at hz
      cases hg : (wrK ls m pre k)[pr.length]? with
      | none => rw [hg] at hz; cases hz
      | some q =>
        obtain ⟨z', v⟩ := q
        rw [hg] at hz
        have e1 : z' = z := Option.some.inj hz
        subst e1
        have nk : ((wrK ls m pre k).map (·.1)).Nodup := by rw [hkk]; exact (List.nodup_append.mp nd).2.1
        have et : (wrK ls m pre k).take (pr.length + 1) = (wrK ls m pre k).take pr.length ++ [(z', v)] := by
          rw [List.take_succ, hg]; rfl
        refine ⟨v, rfl, nkv_val nk (List.mem_of_getElem? hg), ?_⟩
        rw [nkv_put, et]
        · unfold wrS
          rw [List.map_append, List.append_assoc]; rfl
        · intro hin
          rw [List.map_append, wrS_keys, List.map_take, he, List.take_left' rfl] at hin
          rw [← hkk, he] at nd
          rcases List.mem_append.mp hin with hin | hin
          · exact (List.nodup_append.mp nd).2.2 _ hin _ (by simp) rfl
          · have n2 := (List.nodup_append.mp nd).2.1
            exact (List.nodup_append.mp n2).2.2 _ hin _ (by simp) rfl
    have few : ∀ k, k < m + pre.length → (wrK ls m pre k).length ≤ m := fun k hk => by
      rw [← List.length_map (f := (·.1)), hkeys k hk]
      exact hpre.facts.few hk
    have f1 := few y.1 hlow.1
    have f2 := few y.2 hlow.2
    have wl : ∀ (k : Nat) (A : Wr), (nkv (wrS ls k A)).length = A.length := fun k A => by unfold nkv wrS; rw [List.length_map, List.length_map]
    have wl2 : ∀ (k j : Nat) (A B : Wr), (nkv (wrS ls j B ++ wrS ls k A)).length = B.length + A.length := fun k j A B => by unfold nkv wrS; rw [List.length_map, List.length_append, List.length_map, List.length_map]
    refine for2 (fun δ' μ' => δ' = L_law_wires (v_many := some (.int (m : Nat))) (v_joining_here := some (.tup (J.map pD))) (v_lengths_here := some x) (v_wires_here := some (.ref p)) (v_one := some (jD y.1)) (v_other := some (jD y.2)) (v_under := some (.ref pu)) ∧ μ' = (pu, .dic (nkv (wrS ls y.1 (wrK ls m pre y.1)))) :: (p, .lst ((wrL ls m pre).map wD)) :: μ)
      (fun δ' μ' => δ' = L_law_wires (v_many := some (.int (m : Nat))) (v_joining_here := some (.tup (J.map pD))) (v_lengths_here := some x) (v_wires_here := some (.ref p)) (v_one := some (jD y.1)) (v_other := some (jD y.2)) (v_under := some (.ref pu)) ∧ μ' = (pu, .dic (nkv (wrS ls y.1 (wrK ls m pre y.1) ++ wrS ls y.2 (wrK ls m pre y.2)))) :: (p, .lst ((wrL ls m pre).map wD)) :: μ) (fun _ => True.intro) ?_ ?_ ?_
    · (exists "go")
      rw [nkv_keys]
      refine forMm (fun pr δ' μ' => δ' = L_law_wires (v_many := some (.int (m : Nat))) (v_joining_here := some (.tup (J.map pD))) (v_lengths_here := some x) (v_wires_here := some (.ref p)) (v_one := some (jD y.1)) (v_other := some (jD y.2)) (v_under := some (.ref pu)) (v_side := some (jD y.1)) ∧ μ' = (pu, .dic (nkv (wrS ls y.1 ((wrK ls m pre y.1).take pr.length)))) :: (p, .lst ((wrL ls m pre).map wD)) :: μ) ⟨_, _, (by (exists "le")), Weak.refl, rfl, rfl⟩ (fun _ _ _ _ => True.intro) ?_ ?_
      · rintro pr z sf δ' ν hz ⟨rfl, rfl⟩
        obtain ⟨v, hv1, hv2, hv3⟩ := turn y.1 [] pr z sf hlow.1 (List.nodup_append.mp hnd).1 hz
        rw [List.nil_append, List.nil_append] at hv3
        have hlen := wl y.1 ((wrK ls m pre y.1).take pr.length)
        rw [List.length_take] at hlen
        (exists "go")
        refine LsArg.ix hx.cons.cons l1 ?_
        (exists "go")
        rw [hv3]
        exact ⟨_, _, (by (exists "le")), Weak.refl, rfl, by rw [List.length_append]; rfl⟩
      · rintro δ' ν ⟨rfl, rfl⟩
        rw [List.length_map, List.take_length]
        exact ⟨_, _, (by (exists "le")), Weak.refl, rfl, rfl⟩
    · rintro δ' ν ⟨rfl, rfl⟩
      (exists "go")
      rw [nkv_keys]
      refine forMm (fun pr δ' μ' => δ' = L_law_wires (v_many := some (.int (m : Nat))) (v_joining_here := some (.tup (J.map pD))) (v_lengths_here := some x) (v_wires_here := some (.ref p)) (v_one := some (jD y.1)) (v_other := some (jD y.2)) (v_under := some (.ref pu)) (v_side := some (jD y.2)) ∧ μ' = (pu, .dic (nkv (wrS ls y.1 (wrK ls m pre y.1) ++ wrS ls y.2 ((wrK ls m pre y.2).take pr.length)))) :: (p, .lst ((wrL ls m pre).map wD)) :: μ) ⟨_, _, (by (exists "le")), Weak.refl, rfl, by rw [List.length_nil, List.take_zero, show wrS ls y.2 [] = [] from rfl, List.append_nil]⟩ (fun _ _ _ _ => True.intro) ?_ ?_
      · rintro pr z sf δ' ν hz ⟨rfl, rfl⟩
        obtain ⟨v, hv1, hv2, hv3⟩ := turn y.2 (wrS ls y.1 (wrK ls m pre y.1)) pr z sf hlow.2 (by rw [wrS_keys, hkeys _ hlow.1]; exact hnd) hz
        have hlen := wl2 y.2 y.1 ((wrK ls m pre y.2).take pr.length) (wrK ls m pre y.1)
        rw [List.length_take] at hlen
        (exists "go")
        refine LsArg.ix hx.cons.cons l2 ?_
        (exists "go")
        rw [hv3]
        exact ⟨_, _, (by (exists "le")), Weak.refl, rfl, by rw [List.length_append]; rfl⟩
      · rintro δ' ν ⟨rfl, rfl⟩
        rw [List.length_map, List.take_length]
        exact ⟨_, _, (by (exists "le")), Weak.refl, rfl, rfl⟩
    · rintro δ' ν ⟨rfl, rfl⟩
      have hkl : (wrL ls m pre).length < 100000 := by rw [kgL_length, wrB_len]; omega
      (exists "go")
      rw [show (wrL ls m pre).map wD ++ [dD (nkv (wrS ls y.1 (wrK ls m pre y.1) ++ wrS ls y.2 (wrK ls m pre y.2)))] = (wrL ls m (pre ++ [y])).map wD from by
        show _ = (kgL _ _ _ _).map _
        rw [kgL_snoc, List.map_append]; rfl]
      exact ⟨_, _, (by (exists "le")), Weak.refl, rfl, rfl⟩
  rintro δ' ν ⟨rfl, rfl⟩
  (exists "go")
  exact ⟨_, Weak.refl, q p⟩
theorem shR_left {sp : Nat → Int × Int} {A A' B : Wr} : shR sp (A ++ A') B = shR sp A B ++ shR sp A' B := List.flatMap_append
theorem shR_one {sp : Nat → Int × Int} {q r : Nat × Int} {B : Wr} : shR sp [q] (B ++ [r]) = shR sp [q] B ++ (if q.2 + r.2 < offZ (sp q.1) (sp r.1) then [(min q.1 r.1, max q.1 r.1)] else []) := by
  unfold shR
  rw [List.flatMap_cons, List.flatMap_nil, List.append_nil, List.flatMap_cons, List.flatMap_nil, List.append_nil, List.filter_append, List.map_append]
  by_cases c : q.2 + r.2 < offZ (sp q.1) (sp r.1)
  · rw [if_pos c, List.filter_cons_of_pos (by rw [decide_eq_true_iff]; exact c)]; rfl
  · rw [if_neg c, List.filter_cons_of_neg (by rw [decide_eq_true_iff]; exact c)]; rfl
theorem wrS_app {ls : List Int} {k : Nat} {A B : Wr} : wrS ls k (A ++ B) = wrS ls k A ++ wrS ls k B := List.map_append
theorem take_one {A : Wr} {i : Nat} {q : Nat × Int} (h : A[i]? = some q) : A.take (i + 1) = A.take i ++ [q] := by rw [List.take_succ, h]; rfl

abbrev S_law_short_pairs : SpD := fun ds μ P => ∃ (a : Addr) (es : List En) (g : Int) (J : List (Nat × Nat)) (x : D) (ls : List Int), ds = [.ref a, .tup (J.map pD), x] ∧ Lk ((spL g es).map zD) μ a ∧ 1 ≤ es.length ∧ es.length ≤ 24 ∧ Jng es.length J ∧ LsArg x μ ls ∧ ls.length = es.length + J.length - 1 ∧ ∀ p (ps : List (Nat × Nat)), ps.Perm (shJ (spG g es) ls es.length J J) → ps.Pairwise (fun x y => LexP ((x.1 : Int), (x.2 : Int)) ((y.1 : Int), (y.2 : Int))) → P (.ref p) ((p, .lst (ps.map pD)) :: μ)
theorem sp_short_t {a : Addr} {es : List En} {g : Int} {J : List (Nat × Nat)} {ls : List Int} {μ : Mu} {P : D → Mu → Prop} (ha : Lk ((spL g es).map zD) μ a) (h1 : 1 ≤ es.length) (h2 : es.length ≤ 24) (hJ : Jng es.length J) (h4 : ls.length = es.length + J.length - 1) (q : ∀ p (ps : List (Nat × Nat)), ps.Perm (shJ (spG g es) ls es.length J J) → ps.Pairwise (fun x y => LexP ((x.1 : Int), (x.2 : Int)) ((y.1 : Int), (y.2 : Int))) → P (.ref p) ((p, .lst (ps.map pD)) :: μ)) : S_law_short_pairs [.ref a, .tup (J.map pD), .tup (ls.map D.int)] μ P := ⟨a, es, g, J, _, ls, rfl, ha, h1, h2, hJ, .inl rfl, h4, q⟩
theorem sp_short_l {a b : Addr} {es : List En} {g : Int} {J : List (Nat × Nat)} {ls : List Int} {μ : Mu} {P : D → Mu → Prop} (ha : Lk ((spL g es).map zD) μ a) (h1 : 1 ≤ es.length) (h2 : es.length ≤ 24) (hJ : Jng es.length J) (hb : Lk (ls.map D.int) μ b) (h4 : ls.length = es.length + J.length - 1) (q : ∀ p (ps : List (Nat × Nat)), ps.Perm (shJ (spG g es) ls es.length J J) → ps.Pairwise (fun x y => LexP ((x.1 : Int), (x.2 : Int)) ((y.1 : Int), (y.2 : Int))) → P (.ref p) ((p, .lst (ps.map pD)) :: μ)) : S_law_short_pairs [.ref a, .tup (J.map pD), .ref b] μ P := ⟨a, es, g, J, _, ls, rfl, ha, h1, h2, hJ, .inr ⟨b, rfl, hb⟩, h4, q⟩

local macro_rules | `(tactic| exists "gx") => `(tactic| first
  | (((with_reducible refine' sp_short_t ?ha ?h1 ?h2 ?hJ ?h4 ?_); (case ha => (exists "lk")); (case h1 => omega); (case h2 => omega); (case hJ => with_reducible assumption); (case h4 => omega)))
  | (((with_reducible refine' sp_short_l ?ha ?h1 ?h2 ?hJ ?hb ?h4 ?_); (case ha => (exists "lk")); (case h1 => omega); (case h2 => omega); (case hJ => with_reducible assumption); (case hb => (exists "lk")); (case h4 => omega))))
local macro_rules | `(tactic| exists "sd") => `(tactic| exact sd_law_short_pairs _ _ _)
set_option maxHeartbeats 4000000 in
theorem ok_law_short_pairs (X : T K mg) : FnOk Pg w K mg base CX0 2 X.a_law_short_pairs X.d_law_short_pairs ["_law_spots_here", "_law_joining_here", "_law_lengths_here"] (spOf K 3 S_law_short_pairs) := by
  refine fn_ok4 X.F_law_short_pairs sc_law_short_pairs rfl (fun cdv A outer s H E hr => ⟨_, (pss_cons (ps_set (i := 3) sc_law_short_pairs.nd rfl (Or.inl rfl) (pe_call (ok_law_wires X) (hr.mono (by decide)) (by rfl) X.g_law_wires X.F_law_wires.kp X.b_law_wires .nil pass0 (pa_cons (pe_callB (k_len (K := K) rfl) (by rfl) X.m_len (by decide +kernel) (pa_cons (pv 0) pa_nil)) (pa_cons (pv 1) (pa_cons (pv 2) pa_nil)))))
  (pss_cons (ps_set (i := 4) sc_law_short_pairs.nd rfl (Or.inl rfl) (pe_lst pa_nil))
  (pss_cons (ps_for PassesOwn.never rfl (WkE.k_iU (K := K) rfl (pv 1)) (k_gtup (K := K) (n := 2) rfl (by rfl) (pgs_cons (pg_name (i := 5) sc_law_short_pairs.nd rfl (.inl rfl)) (pgs_cons (pg_name (i := 6) sc_law_short_pairs.nd rfl (.inl rfl)) pgs_nil))) (pss_one (ps_for PassesOwn.never rfl (pi_keys (pe_ix (k_ix (K := K) rfl) (pv 3) (pv 5) (fun _ _ => rfl))) (pg_name (i := 7) sc_law_short_pairs.nd rfl (.inl rfl)) (pss_one (ps_for PassesOwn.never rfl (pi_keys (pe_ix (k_ix (K := K) rfl) (pv 3) (pv 6) (fun _ _ => rfl))) (pg_name (i := 8) sc_law_short_pairs.nd rfl (.inl rfl)) (pss_cons (ps_set (i := 9) sc_law_short_pairs.nd rfl (Or.inl rfl) (pe_op (k_add (K := K) rfl) (pe_op (k_add (K := K) rfl) (pe_dget (hu_of hr) (pe_ix (k_ix (K := K) rfl) (pv 3) (pv 5) (fun _ _ => rfl)) (pv 7) (fun _ _ => rfl)) (pe_ix (k_ix (K := K) rfl) (pv 2) (pv 5) (fun _ _ => rfl))) (pe_ix (k_ix (K := K) rfl) (pv 2) (pv 6) (fun _ _ => rfl))))
  (pss_cons (ps_set (i := 10) sc_law_short_pairs.nd rfl (Or.inl rfl) (pe_call (ok_law_far X) (hr.mono (by decide)) (by rfl) X.g_law_far X.F_law_far.kp X.b_law_far .nil pass0 (pa_cons (pe_ix (k_ix (K := K) rfl) (pv 0) (pv 7) (fun _ _ => rfl)) (pa_cons (pe_ix (k_ix (K := K) rfl) (pv 0) (pv 8) (fun _ _ => rfl)) pa_nil))))
  (pss_one (ps_if (pt_cmpR op_lt (pe_op (k_add (K := K) rfl) (pv 9) (pe_dget (hu_of hr) (pe_ix (k_ix (K := K) rfl) (pv 3) (pv 6) (fun _ _ => rfl)) (pv 8) (fun _ _ => rfl))) (pv 10) (nomark _)) (pss_one (ps_expr (k_bm (K := K) rfl PySem.F.plainAttrs_list PySem.F.slot_list_append PySem.F.type_list_append mt_append (pv 4) (pa_cons (pe_tup (pa_cons (pe_callB (k_min (K := K) rfl rfl) (by rfl) X.m_min (by decide +kernel) (pa_cons (pv 7) (pa_cons (pv 8) pa_nil))) (pa_cons (pe_callB (k_max (K := K) rfl rfl) (by rfl) X.m_max (by decide +kernel) (pa_cons (pv 7) (pa_cons (pv 8) pa_nil))) pa_nil))) pa_nil)))) pss_nil)))))))))
  (pss_one (ps_ret (pe_callB (WkE.cr_sortedPU (K := K) rfl) (by rfl) X.m_sorted (by decide +kernel) (pa_cons (pv 4) pa_nil))))))), ?_⟩)
  intro ds μ P hl h
  obtain ⟨a, es, g, J, x, ls, rfl, ha, h1, h2, hJ, hx, hl2, q⟩ := h
  have F := hJ.facts
  have hJl := hJ.1
  obtain ⟨_, hJW⟩ := hJ.2
  have hsl := spL_len (g := g) (es := es)
  (exists "go")
  rw [hsl]
  refine ⟨es.length, J, x, ls, rfl, h1, h2, hJ, hx, hl2, fun pw => ?_⟩
  have hnk : ∀ k, k < es.length + J.length → (wrK ls es.length J k).map (·.1) = belAt es.length J k := fun k hk => wrK_keys hJW (k + 1) k (Nat.lt_succ_self k) hk
  have hfew : ∀ k, k < es.length + J.length → (wrK ls es.length J k).length ≤ 24 := fun k hk => by
    rw [← List.length_map (f := (·.1)), hnk k hk]
    have := F.few hk
    omega
  have hval : ∀ k q, k < es.length + J.length → q ∈ wrK ls es.length J k → valD (nkv (wrK ls es.length J k)) (.inl (q.1 : Int)) = some (.int q.2) ∧ q.1 < es.length := fun k q hk hq => by
    have nd : ((wrK ls es.length J k).map (·.1)).Nodup := by rw [hnk k hk]; exact (F.bnd k hk).2.1
    refine ⟨nkv_val nd (by simpa using hq), (F.bnd k hk).2.2 _ ?_⟩
    rw [← hnk k hk]
    exact List.mem_map.mpr ⟨q, hq, rfl⟩
  (exists "go")
  rename_i pf
  refine forMm (fun pre δ' μ' => ∃ fd : List (Nat × Nat), fd = shJ (spG g es) ls es.length J pre ∧ fd.length ≤ 1000 * pre.length ∧ δ' = L_law_short_pairs (v_spots_here := some (.ref a)) (v_joining_here := some (.tup (J.map pD))) (v_lengths_here := some x) (v_ways := some (.ref pw)) (v_found := some (.ref pf)) ∧ μ' = (pf, .lst (fd.map pD)) :: (pw, .lst ((wrL ls es.length J).map wD)) :: μ) ⟨_, _, (by (exists "le")), Weak.refl, [], rfl, Nat.zero_le _, rfl, rfl⟩ (fun _ _ _ _ => True.intro) ?_ ?_
  · rintro pre y suf δ' ν hy ⟨fd, hfd, hfl, rfl, rfl⟩
    have hyg : J[pre.length]? = some y := by rw [hy]; simp
    have hlow := F.low pre.length y hyg
    have hpl : pre.length < J.length := by rw [hy]; simp
    have b1 : y.1 < es.length + J.length := by omega
    have b2 : y.2 < es.length + J.length := by omega
    have g1 := wrL_at (ls := ls) (J := J) b1
    have g2 := wrL_at (ls := ls) (J := J) b2
    have l1 := ls_at (ls := ls) (k := y.1) (by omega)
    have l2 := ls_at (ls := ls) (k := y.2) (by omega)
    have f1 := hfew y.1 b1
    have f2 := hfew y.2 b2
    (exists "go")
    rw [show (nkv (wrK ls es.length J y.1)).map (fun p => kD p.1) = (wrK ls es.length J y.1).map fun q : Nat × Int => D.int (q.1 : Int) from by unfold nkv; rw [List.map_map]; rfl]
    refine forMm (fun pA δ' μ' => ∃ f2 : List (Nat × Nat), f2 = fd ++ shR (spG g es) (wrS ls y.1 pA) (wrS ls y.2 (wrK ls es.length J y.2)) ∧ f2.length ≤ 1000 * pre.length + 24 * pA.length ∧ δ' = L_law_short_pairs (v_spots_here := some (.ref a)) (v_joining_here := some (.tup (J.map pD))) (v_lengths_here := some x) (v_ways := some (.ref pw)) (v_found := some (.ref pf)) (v_one := some (jD y.1)) (v_other := some (jD y.2)) ∧ μ' = (pf, .lst (f2.map pD)) :: (pw, .lst ((wrL ls es.length J).map wD)) :: μ) ⟨_, _, (by (exists "le")), Weak.refl, fd, by rw [show shR (spG g es) (wrS ls y.1 []) _ = [] from rfl, List.append_nil], by simpa using hfl, rfl, rfl⟩ (fun _ _ _ _ => True.intro) ?_ ?_
    · rintro pA u sA δ' ν hA ⟨fa, hfa, hfal, rfl, rfl⟩
      have hAl : pA.length < (wrK ls es.length J y.1).length := by rw [hA]; simp
      obtain ⟨hv, hvl⟩ := hval y.1 u b1 (by rw [hA]; simp)
      have gu := spL_get (g := g) hvl
      (exists "go")
      rw [show (nkv (wrK ls es.length J y.2)).map (fun p => kD p.1) = (wrK ls es.length J y.2).map fun q : Nat × Int => D.int (q.1 : Int) from by unfold nkv; rw [List.map_map]; rfl]
      refine forMm (fun pB δ' μ' => ∃ f2 : List (Nat × Nat), f2 = fa ++ shR (spG g es) (wrS ls y.1 [u]) (wrS ls y.2 pB) ∧ f2.length ≤ 1000 * pre.length + 24 * pA.length + pB.length ∧ δ' = L_law_short_pairs (v_spots_here := some (.ref a)) (v_joining_here := some (.tup (J.map pD))) (v_lengths_here := some x) (v_ways := some (.ref pw)) (v_found := some (.ref pf)) (v_one := some (jD y.1)) (v_other := some (jD y.2)) (v_here := some (jD u.1)) ∧ μ' = (pf, .lst (f2.map pD)) :: (pw, .lst ((wrL ls es.length J).map wD)) :: μ) ⟨_, _, (by (exists "le")), Weak.refl, fa, by rw [show shR (spG g es) _ (wrS ls y.2 []) = [] from rfl, List.append_nil], by simpa using hfal, rfl, rfl⟩ (fun _ _ _ _ => True.intro) ?_ ?_
      · rintro pB r sB δ' ν hB ⟨fb, hfb, hfbl, rfl, rfl⟩
        have hBl : pB.length < (wrK ls es.length J y.2).length := by rw [hB]; simp
        obtain ⟨hw, hwl⟩ := hval y.2 r b2 (by rw [hB]; simp)
        have gr := spL_get (g := g) hwl
        have hz9 : fb.length < 100000 := by omega
        have hx9 : LsArg x ((pf, .lst (fb.map pD)) :: (pw, .lst ((wrL ls es.length J).map wD)) :: μ) ls := hx.cons.cons
        have e1 : shR (spG g es) (wrS ls y.1 [u]) (wrS ls y.2 (pB ++ [r])) = shR (spG g es) (wrS ls y.1 [u]) (wrS ls y.2 pB) ++ (if u.2 + ls.getD y.1 0 + (r.2 + ls.getD y.2 0) < offZ (spG g es u.1) (spG g es r.1) then [(min u.1 r.1, max u.1 r.1)] else []) := by
          rw [wrS_app]
          exact shR_one (q := (u.1, u.2 + ls.getD y.1 0)) (r := (r.1, r.2 + ls.getD y.2 0))
        (exists "go")
        refine LsArg.ix hx9 l1 ?_
        (exists "go")
        refine LsArg.ix hx9 l2 ?_
        (exists "go")
        refine split_d (fun hc => ?_) (fun hc => ?_)
        · rw [if_pos (by omega)] at e1
          (exists "go")
          rw [show (D.tup [.int (min (u.1 : Int) (r.1 : Int)), .int (max (u.1 : Int) (r.1 : Int))]) = pD (min u.1 r.1, max u.1 r.1) from by
            show _ = D.tup [.int ((min u.1 r.1 : Nat) : Int), .int ((max u.1 r.1 : Nat) : Int)]
            rw [show ((min u.1 r.1 : Nat) : Int) = min (u.1 : Int) (r.1 : Int) by omega, show ((max u.1 r.1 : Nat) : Int) = max (u.1 : Int) (r.1 : Int) by omega], map_snoc pD]
          refine ⟨_, _, (by (exists "le")), Weak.refl, fb ++ [(min u.1 r.1, max u.1 r.1)], by rw [e1, hfb, List.append_assoc], by rw [List.length_append, List.length_append]; show _ + 1 ≤ _ + (_ + 1); omega, rfl, rfl⟩
        · rw [if_neg (by omega), List.append_nil] at e1
          (exists "go")
          refine ⟨_, _, (by (exists "le")), Weak.refl, fb, by rw [e1, hfb], by rw [List.length_append]; omega, rfl, rfl⟩
      · rintro δ' ν ⟨fb, hfb, hfbl, rfl, rfl⟩
        refine ⟨_, _, (by (exists "le")), Weak.refl, fb, ?_, by rw [List.length_append]; show _ ≤ _ + 24 * (_ + 1); omega, rfl, rfl⟩
        rw [hfb, hfa, wrS_app, shR_left, List.append_assoc]
    · rintro δ' ν ⟨fa, hfa, hfal, rfl, rfl⟩
      refine ⟨_, _, (by (exists "le")), Weak.refl, fa, ?_, by rw [List.length_append]; show _ ≤ 1000 * (_ + 1); omega, rfl, rfl⟩
      rw [hfa, hfd]
      unfold shJ
      rw [List.flatMap_append, List.flatMap_cons, List.flatMap_nil, List.append_nil]
  rintro δ' ν ⟨fd, hfd, hfl, rfl, rfl⟩
  subst hfd
  (exists "go")
  refine wc_sortedP (g := fun x : Nat × Nat => ((x.1 : Int), (x.2 : Int))) (f := pD) (fun _ => rfl) (by (exists "lk")) fun p2 ps hp1 hp2 => ?_
  exact ⟨_, (by (exists "wk")), q p2 ps hp1 hp2⟩
  
abbrev S_law_done : SpD := fun ds μ P => ∃ (w : Int) (es : List En) (J : List (Nat × Nat)) (g : Int) (ls : List Int) (z : Int × Int), ds = [.int w, .tup (es.map eD), .tup (J.map pD), .int g, .tup (ls.map D.int), zD z] ∧ (w = 0 ∨ w = 1 ∨ w = 2) ∧ 1 ≤ es.length ∧ es.length ≤ 24 ∧ Jng es.length J ∧ 1 ≤ g ∧ g ≤ 2 ^ 60 ∧ ls.length = es.length + J.length - 1 ∧ (∀ l ∈ ls, 0 ≤ l) ∧ FitJ (spG g es) ls es.length J ∧ (w = 2 → inB (bxK (spG g es) ls es.length J (es.length + J.length - 1)) z) ∧ P .non μ
local macro_rules | `(tactic| exists "sd") => `(tactic| exact sd_law_done _ _ _ _ _ _)
set_option maxHeartbeats 4000000 in
abbrev SX_law_done (X : T K mg) : SpE := fun ds μ Z => ∃ (w : Int) (es : List En) (J : List (Nat × Nat)) (g : Int) (ls : List Int) (z : Int × Int), ds = [.int w, .tup (es.map eD), .tup (J.map pD), .int g, .tup (ls.map D.int), zD z] ∧ (w = 0 ∨ w = 1 ∨ w = 2) ∧ 1 ≤ es.length ∧ es.length ≤ 24 ∧ Jng es.length J ∧ 1 ≤ g ∧ g ≤ 2 ^ 60 ∧ ls.length = es.length + J.length - 1 ∧ (∀ l ∈ ls, 0 ≤ l) ∧ ((¬ FitJ (spG g es) ls es.length J ∧ ∀ u v, FstS (spG g es) ls es.length J u v → ∀ d, Z X.x_NoFit (some d) ((d, .xdt [("other", jD v), ("one", jD u)]) :: μ)) ∨ (FitJ (spG g es) ls es.length J ∧ w = 2 ∧ ¬ inB (bxK (spG g es) ls es.length J (es.length + J.length - 1)) z ∧ Z X.x_NoPlace none μ))
set_option maxHeartbeats 4000000 in
theorem ok_law_done (X : T K mg) : FnOk Pg w K mg base (L2.CX Pg w) 8 X.a_law_done X.d_law_done ["_law_way", "_law_ends_here", "_law_joining_here", "_law_grain_here", "_law_lengths_here", "_law_root"] (spOfE K 6 S_law_done (SX_law_done X)) := by
  refine fn_okE X.F_law_done sc_law_done rfl (fun cdv A outer s H E hr => ⟨_, (pss_one (ps_if (pt_cmpR (k_eq (K := K) rfl hr.units) (pv 0) pe_int (nomark _)) (pss_one (ps_expr (pe_call (ok_boxes_by X) (hr.mono (by decide)) (by rfl) X.g_boxes_by X.F_boxes_by.kp X.b_boxes_by .nil passE (pa_cons (pv 1) (pa_cons (pv 2) (pa_cons (pv 3) (pa_cons (pv 4) pa_nil))))))) (pss_one (ps_if (pt_cmpR (k_eq (K := K) rfl hr.units) (pv 0) pe_int (nomark _)) (pss_one (ps_expr (pe_call (ok_laid X) (hr.mono (by decide)) (by rfl) X.g_laid X.F_laid.kp X.bd_laid.choose_spec.2 X.bd_laid.choose_spec.1 passE (pa_cons (pv 1) (pa_cons (pv 2) (pa_cons (pv 3) (pa_cons (pv 4) pa_nil))))))) (pss_one (ps_expr (pe_call (ok_laid X) (hr.mono (by decide)) (by rfl) X.g_laid X.F_laid.kp X.b_laid .nil passE (pa_cons (pv 1) (pa_cons (pv 2) (pa_cons (pv 3) (pa_cons (pv 4) (pa_cons (pv 5) pa_nil)))))))))))), ?_, ?_⟩)
  focus
    intro ds μ P hl h
    obtain ⟨w, es, J, g, ls, z, rfl, hw, h0, h1, hJ, h2, h3, h4, h5, h6, h7, q⟩ := h
    have hJl := hJ.1
    rcases hw with rfl | rfl | rfl
    · (exists "go")
      exact ⟨_, (by (exists "wk")), q⟩
    · (exists "go")
      exact ⟨_, (by (exists "wk")), q⟩
    · have h8 := h7 rfl
      (exists "go")
      exact ⟨_, (by (exists "wk")), q⟩
  intro ds μ Z hl h
  obtain ⟨w, es, J, g, ls, z, rfl, hw, h0, h1, hJ, h2, h3, h4, h5, h6⟩ := h
  have hJl := hJ.1
  rcases hw with rfl | rfl | rfl
  · rcases h6 with ⟨hf, q⟩ | ⟨_, e, _⟩
    · refine xg_if ?_
      (exists "go")
      refine xg_drop (xe_call ?_)
      (exists "go")
      exact ⟨es, J, g, ls, rfl, h1, hJ, h2, h3, h4, h5, hf, q⟩
    · omega
  · rcases h6 with ⟨hf, q⟩ | ⟨_, e, _⟩
    · refine xg_if ?_
      (exists "go")
      refine xg_if ?_
      (exists "go")
      refine xg_drop (xe_callN ?_)
      (exists "go")
      exact ⟨es, J, g, ls, none, rfl, h0, h1, hJ, h2, h3, h4, h5, .inl ⟨hf, q⟩⟩
    · omega
  · refine xg_if ?_
    (exists "go")
    refine xg_if ?_
    (exists "go")
    refine xg_drop (xe_call ?_)
    (exists "go")
    refine ⟨es, J, g, ls, some z, rfl, h0, h1, hJ, h2, h3, h4, h5, ?_⟩
    rcases h6 with ⟨hf, q⟩ | ⟨hf, _, hz, q⟩
    · exact .inl ⟨hf, q⟩
    · exact .inr ⟨hf, z, rfl, hz, q⟩
/-- what is told -/
def ToldP (w : Int) (es : List En) (J : List (Nat × Nat)) (g : Int) (ls : List Int) (r : D) : Prop := (FitJ (spG g es) ls es.length J ∧ (r = .str "done" ∨ (w = 2 ∧ r = .str "no place"))) ∨ (¬ FitJ (spG g es) ls es.length J ∧ ∃ u v, FstS (spG g es) ls es.length J u v ∧ r = .lis [jD u, jD v])

abbrev S_law_told : SpD := fun ds μ P => ∃ (w : Int) (es : List En) (J : List (Nat × Nat)) (g : Int) (ls : List Int) (z : Int × Int), ds = [.int w, .tup (es.map eD), .tup (J.map pD), .int g, .tup (ls.map D.int), zD z] ∧ (w = 0 ∨ w = 1 ∨ w = 2) ∧ 1 ≤ es.length ∧ es.length ≤ 24 ∧ Jng es.length J ∧ 1 ≤ g ∧ g ≤ 2 ^ 60 ∧ ls.length = es.length + J.length - 1 ∧ (∀ l ∈ ls, 0 ≤ l) ∧ ∀ r : D, ToldP w es J g ls r → P r μ
theorem sp_ltold {w : Int} {es : List En} {J : List (Nat × Nat)} {g : Int} {ls : List Int} {z : Int × Int} {μ : Mu} {P : D → Mu → Prop} (hw : w = 0 ∨ w = 1 ∨ w = 2) (h0 : 1 ≤ es.length) (h1 : es.length ≤ 24) (hJ : Jng es.length J) (h2 : 1 ≤ g) (h3 : g ≤ 2 ^ 60) (h4 : ls.length = es.length + J.length - 1) (h5 : ∀ l ∈ ls, 0 ≤ l) (q : ∀ r : D, ToldP w es J g ls r → P r μ) : S_law_told [.int w, .tup (es.map eD), .tup (J.map pD), .int g, .tup (ls.map D.int), zD z] μ P := ⟨w, es, J, g, ls, z, rfl, hw, h0, h1, hJ, h2, h3, h4, h5, q⟩

local macro_rules | `(tactic| exists "gx") => `(tactic| first
  | (((with_reducible refine' sp_ltold ?hw ?h0 ?h1 ?hJ ?h2 ?h3 ?h4 ?h5 ?_); (case hw => omega); (case h0 => omega); (case h1 => omega); (case hJ => with_reducible assumption); (case h2 => omega); (case h3 => omega); (case h4 => omega); (case h5 => with_reducible assumption))))
local macro_rules | `(tactic| exists "sd") => `(tactic| exact sd_law_told _ _ _ _ _ _)
set_option maxHeartbeats 4000000 in
theorem ok_law_told (X : T K mg) : FnOk Pg w K mg base CX0 9 X.a_law_told X.d_law_told ["_law_way", "_law_ends_here", "_law_joining_here", "_law_grain_here", "_law_lengths_here", "_law_root"] (spOf K 6 S_law_told) := by
  refine fn_ok4 X.F_law_told sc_law_told rfl (fun cdv A outer s H E hr => ⟨_, (pss_cons (ps_set (i := 6) sc_law_told.nd rfl (Or.inl rfl) pe_str)
  (pss_cons (by refine' ps_tryD (K := K) (i := 7) rfl rfl rfl sc_law_told.nd rfl rfl ⟨rfl, by decide, Or.inl X.gx_WireError⟩ (ok_law_done X) (hr.mono (by decide)) (by rfl) X.g_law_done X.F_law_done.kp X.b_law_done ?ha ?hsu; (case ha => (intro pn xe; exact pa_eqT (pa_cons (pv 0) (pa_cons (pv 1) (pa_cons (pv 2) (pa_cons (pv 3) (pa_cons (pv 4) (pa_cons (pv 5) pa_nil)))))) rfl)); (case hsu => (intro a oe cls d pn hz hf; exact ps_eqT (pss_cons (ps_set (i := 6) sc_law_told.nd rfl (Or.inl rfl) pe_str)   (pss_cons (ps_set (i := 8) sc_law_told.nd rfl (Or.inl rfl) (pe_callB (call_isY (K := K) rfl hz hf) (by rfl) X.m_isinstance (by decide +kernel) (pa_cons (pv 7) (pa_cons (pe_tup (pa_cons (pe_glob (v := .ref X.x_Full) (by rfl) X.gx_Full rfl) (pa_cons (pe_glob (v := .ref X.x_NoEnd) (by rfl) X.gx_NoEnd rfl) (pa_cons (pe_glob (v := .ref X.x_NoPlace) (by rfl) X.gx_NoPlace rfl) (pa_cons (pe_glob (v := .ref X.x_NoRow) (by rfl) X.gx_NoRow rfl) (pa_cons (pe_glob (v := .ref X.x_NoText) (by rfl) X.gx_NoText rfl) (pa_cons (pe_glob (v := .ref X.x_TooMany) (by rfl) X.gx_TooMany rfl) (pa_cons (pe_glob (v := .ref X.x_Twice) (by rfl) X.gx_Twice rfl) pa_nil)))))))) pa_nil))))   (pss_one (ps_if (PW.pt (pw_and (pt_val (pe_callB (call_isY (K := K) rfl hz hf) (by rfl) X.m_isinstance (by decide +kernel) (pa_cons (pv 7) (pa_cons (pe_glob (v := .ref X.x_NoFit) (by rfl) X.gx_NoFit rfl) pa_nil)))) (pw_and (pt_val (pe_callB (call_isY (K := K) rfl hz hf) (by rfl) X.m_isinstance (by decide +kernel) (pa_cons (pv 7) (pa_cons (pe_bltn (v := .ty "ValueError") (by rfl) X.m_ValueError (by decide +kernel) rfl) pa_nil)))) (pw_and1 (pt_not (pt_val (pv 8))))))) (pss_one (ps_set (i := 6) sc_law_told.nd rfl (Or.inl rfl) (WkE.pe_frz (pe_lst (pa_cons (pe_xf (C := X.x_NoFit) ⟨X.e1_NoFit, X.e2_NoFit, X.sx_NoFit, X.dx_NoFit⟩ X.no_NoFit_one hz hf (pv 7)) (pa_cons (pe_xf (C := X.x_NoFit) ⟨X.e1_NoFit, X.e2_NoFit, X.sx_NoFit, X.dx_NoFit⟩ X.no_NoFit_other hz hf (pv 7)) pa_nil)))))) (pss_one (ps_if (pt_val (pe_callB (call_isY (K := K) rfl hz hf) (by rfl) X.m_isinstance (by decide +kernel) (pa_cons (pv 7) (pa_cons (pe_glob (v := .ref X.x_NoPlace) (by rfl) X.gx_NoPlace rfl) pa_nil)))) (pss_one (ps_set (i := 6) sc_law_told.nd rfl (Or.inl rfl) pe_str)) pss_nil)))))) rfl)))
  (pss_one (ps_ret (pv 6))))), ?_⟩)
  intro ds μ P hl h
  obtain ⟨w, es, J, g, ls, z, rfl, hw, h0, h1, hJ, h2, h3, h4, h5, q⟩ := h
  have hJl := hJ.1
  (exists "ss")
  refine s_seq (s_tryD ?_)
  by_cases hf : FitJ (spG g es) ls es.length J
  · by_cases hz : w = 2 ∧ ¬ inB (bxK (spG g es) ls es.length J (es.length + J.length - 1)) z
    · obtain ⟨hw2, hz⟩ := hz
      (exists "go")
      refine .inr ⟨w, es, J, g, ls, z, rfl, hw, h0, h1, hJ, h2, h3, h4, h5, .inr ⟨hf, hw2, hz, PySem.W.exm_ref X.sx_WireError X.dx_WireError X.tx_WireError X.u_NoPlace_WireError, fun a => ?_⟩⟩
      show S4 K _ [some (D.int w), some (D.tup (List.map eD es)), some (D.tup (List.map pD J)), some (D.int g), some (D.tup (List.map D.int ls)), some (zD z), some (D.str (Str.ofString "done")), some (.ref a), none] _ _ _ _ _
      (exists "go")
      refine wc_isYs (Cs := [X.x_Full, X.x_NoEnd, X.x_NoPlace, X.x_NoRow, X.x_NoText, X.x_TooMany, X.x_Twice]) XdO.none X.ex_NoPlace (kit_cons (kit_ref X.dx_Full X.tx_Full X.u_NoPlace_NoPlace X.u_NoPlace_Full) (kit_cons (kit_ref X.dx_NoEnd X.tx_NoEnd X.u_NoPlace_NoPlace X.u_NoPlace_NoEnd) (kit_hit (kit_ref X.dx_NoPlace X.tx_NoPlace X.u_NoPlace_NoPlace X.u_NoPlace_NoPlace)))) ?_
      (exists "go")
      refine wc_isY XdO.none X.ex_NoPlace (kit_ref X.dx_NoFit X.tx_NoFit X.u_NoPlace_NoPlace X.u_NoPlace_NoFit) ?_
      (exists "go")
      refine wc_isY XdO.none X.ex_NoPlace (kit_ref X.dx_NoPlace X.tx_NoPlace X.u_NoPlace_NoPlace X.u_NoPlace_NoPlace) ?_
      (exists "go")
      exact ⟨_, (by (exists "wk")), q _ (.inl ⟨hf, .inr ⟨hw2, rfl⟩⟩)⟩
    · (exists "go")
      refine .inl ⟨w, es, J, g, ls, z, rfl, hw, h0, h1, hJ, h2, h3, h4, h5, hf, fun e => Classical.byContradiction fun n => hz ⟨e, n⟩, ?_⟩
      (exists "go")
      exact ⟨_, (by (exists "wk")), q _ (.inl ⟨hf, .inl rfl⟩)⟩
  · (exists "go")
    refine .inr ⟨w, es, J, g, ls, z, rfl, hw, h0, h1, hJ, h2, h3, h4, h5, .inl ⟨hf, fun u v hF d => ⟨PySem.W.exm_ref X.sx_WireError X.dx_WireError X.tx_WireError X.u_NoFit_WireError, fun a => ?_⟩⟩⟩
    have hd : (d, M.xdt [("other", jD v), ("one", jD u)]) ∈ (d, M.xdt [("other", jD v), ("one", jD u)]) :: μ := List.mem_cons_self
    show S4 K _ [some (D.int w), some (D.tup (List.map eD es)), some (D.tup (List.map pD J)), some (D.int g), some (D.tup (List.map D.int ls)), some (zD z), some (D.str (Str.ofString "done")), some (.ref a), none] _ _ _ _ _
    (exists "go")
    refine wc_isYs (Cs := [X.x_Full, X.x_NoEnd, X.x_NoPlace, X.x_NoRow, X.x_NoText, X.x_TooMany, X.x_Twice]) (XdO.of hd) X.ex_NoFit (kit_cons (kit_ref X.dx_Full X.tx_Full X.u_NoFit_NoFit X.u_NoFit_Full) (kit_cons (kit_ref X.dx_NoEnd X.tx_NoEnd X.u_NoFit_NoFit X.u_NoFit_NoEnd) (kit_cons (kit_ref X.dx_NoPlace X.tx_NoPlace X.u_NoFit_NoFit X.u_NoFit_NoPlace) (kit_cons (kit_ref X.dx_NoRow X.tx_NoRow X.u_NoFit_NoFit X.u_NoFit_NoRow) (kit_cons (kit_ref X.dx_NoText X.tx_NoText X.u_NoFit_NoFit X.u_NoFit_NoText) (kit_cons (kit_ref X.dx_TooMany X.tx_TooMany X.u_NoFit_NoFit X.u_NoFit_TooMany) (kit_cons (kit_ref X.dx_Twice X.tx_Twice X.u_NoFit_NoFit X.u_NoFit_Twice) kit_nil))))))) ?_
    (exists "go")
    refine wc_isY (XdO.of hd) X.ex_NoFit (kit_ref X.dx_NoFit X.tx_NoFit X.u_NoFit_NoFit X.u_NoFit_NoFit) ?_
    (exists "go")
    refine wc_isYT (XdO.of hd) X.ex_NoFit (kit_ty kit_meta X.u_NoFit_ValueError) ?_
    (exists "go")
    refine w_xf (fs := [("other", jD v), ("one", jD u)]) (x := jD u) ?_
    (exists "go")
    refine ⟨hd, rfl, ?_⟩
    (exists "go")
    refine w_xf (fs := [("other", jD v), ("one", jD u)]) (x := jD v) ?_
    (exists "go")
    refine ⟨hd, rfl, ?_⟩
    (exists "go")
    exact ⟨_, (by (exists "wk")), q _ (.inr ⟨hf, u, v, hF, rfl⟩)⟩
abbrev S_law_right : SpD := fun ds μ P => ∃ (r : D) (p : Addr) (ps : List (Nat × Nat)), ds = [r, .ref p] ∧ Lk (ps.map pD) μ p ∧ ((ps = [] ∧ (r = .str "done" ∨ r = .str "no place")) ∨ ∃ u v t, ps = (u, v) :: t ∧ r = .lis [jD u, jD v]) ∧ P (.bl true) μ
theorem sp_lright {r : D} {p : Addr} {ps : List (Nat × Nat)} {μ : Mu} {P : D → Mu → Prop} (hp : Lk (ps.map pD) μ p) (h2 : (ps = [] ∧ (r = .str "done" ∨ r = .str "no place")) ∨ ∃ u v t, ps = (u, v) :: t ∧ r = .lis [jD u, jD v]) (q : P (.bl true) μ) : S_law_right [r, .ref p] μ P := ⟨r, p, ps, rfl, hp, h2, q⟩

local macro_rules | `(tactic| exists "gx") => `(tactic| first
  | (((with_reducible refine' sp_lright ?hp ?h2 ?_); (case hp => (exists "lk")); (case h2 => with_reducible assumption))))
local macro_rules | `(tactic| exists "sd") => `(tactic| exact sd_law_right _ _)
set_option maxHeartbeats 4000000 in
theorem ok_law_right (X : T K mg) : FnOk Pg w K mg base CX0 1 X.a_law_right X.d_law_right ["_law_told_here", "_law_due"] (spOf K 2 S_law_right) := by
  refine fn_ok4 X.F_law_right sc_law_right rfl (fun cdv A outer s H E hr => ⟨_, (pss_cons (ps_if (pt_cmpR (k_eq (K := K) rfl hr.units) (pv 1) (pe_lst pa_nil) (nomark _)) (pss_one (ps_ret (pe_cmpR (k_in (K := K) rfl) (pv 0) (pe_tup (pa_cons pe_str (pa_cons pe_str pa_nil))) (by with_unfolding_all rfl)))) pss_nil)
  (pss_cons (ps_if (PW.pt (pw_or (pt_not (pt_val (pe_callB (k_isi (K := K) rfl) (by rfl) X.m_isinstance (by decide +kernel) (pa_cons (pv 0) (pa_cons (pe_bltn (v := .ty "list") (by rfl) X.m_list (by decide +kernel) rfl) pa_nil))))) (pw_or1 (pt_cmpR (k_ne (K := K) rfl hr.units) (pv 0) (WkE.pe_frz (pe_callTy (k_lst (K := K) rfl) (by rfl) X.m_list (by decide +kernel) (pa_cons (pe_ix (k_ix (K := K) rfl) (pv 1) pe_int (fun _ _ => rfl)) pa_nil))) (nomark _))))) (pss_one (ps_ret pe_bl)) pss_nil)
  (pss_one (ps_ret (pe_cmpR (k_eq (K := K) rfl hr.units) (pe_lc (own := [("_law_one", 2)]) (g := gName 2) rfl sc_law_right.nd (WkE.k_iU (K := K) rfl (pv 0)) (blkOk_by (N := N_law_right) (sc := defScope s_law_right) (by decide +kernel)) (fun _ _ _ _ _ => (pg_name (i := 2) sc_law_right.nd rfl (.inl rfl))) (fun _ _ _ _ _ => (pts_one (PW.pt (pw_or (pt_val (pe_callB (k_isi (K := K) rfl) (by rfl) X.m_isinstance (by decide +kernel) (pa_cons (pv 2) (pa_cons (pe_bltn (v := .ty "bool") (by rfl) X.m_bool (by decide +kernel) rfl) pa_nil)))) (pw_or1 (pt_not (pt_val (pe_callB (k_isi (K := K) rfl) (by rfl) X.m_isinstance (by decide +kernel) (pa_cons (pv 2) (pa_cons (pe_bltn (v := .ty "int") (by rfl) X.m_int (by decide +kernel) rfl) pa_nil)))))))))) (fun _ _ _ _ _ => (pv 2))) (pe_lst pa_nil) (nomark _)))))), ?_⟩)
  intro ds μ P hl h
  obtain ⟨r, p, ps, rfl, hp, h2, q⟩ := h
  have hsh : (D.tup (ps.map pD)).sh = true := (sh_flat (flat_tup (n := 1) fun x hx => by
    obtain ⟨z, _, rfl⟩ := List.mem_map.mp hx
    exact flat_tup (n := 0) fun y hy => by
      simp only [List.mem_cons, List.not_mem_nil, or_false] at hy
      rcases hy with rfl | rfl <;> exact flat_int) (by decide))
  rcases h2 with ⟨rfl, hr⟩ | ⟨u, v, t, rfl, rfl⟩
  · (exists "go")
    refine w2_eqK hp.cons Lk.here hsh rfl ?_
    rw [eqBL_nil_r, show (List.map pD []).isEmpty = true from rfl]
    (exists "go")
    rcases hr with rfl | rfl
    · refine w2_inTs (ns := ["done", "no place"]) ?_
      exact ⟨_, (by (exists "wk")), q⟩
    · refine w2_inTs (ns := ["done", "no place"]) ?_
      exact ⟨_, (by (exists "wk")), q⟩
  · (exists "go")
    refine w2_eqK hp.cons Lk.here hsh rfl ?_
    rw [eqBL_nil_r, show (List.map pD ((u, v) :: t)).isEmpty = false from rfl]
    (exists "go")
    refine wc_isi (n := "list") (c := "list") (r := true) rfl (by decide) (by decide +kernel) ?_
    (exists "go")
    refine w2_ixKi hp.cons (k := 0) rfl (show ((u, v) :: t)[0]? = some (u, v) from rfl) ?_
    (exists "go")
    rw [show [D.int (u : Int), D.int (v : Int)] = [u, v].map jD from rfl]
    refine lcF (es := [u, v]) (r := jD) (c := fun _ => false) (lt_size (by show 2 < 100000; decide)) (by (exists "hG")) (fun x hx p1 acc => ?_) (fun p1 => ?_)
    · (exists "go")
      exact ⟨Weak.refl, fun h => (nomatch h)⟩
    rw [show ([u, v].filter fun _ => false) = [] from rfl, List.map_nil]
    (exists "go")
    exact ⟨_, (by (exists "wk")), q⟩
theorem set_nn {k : Nat} {V : List Int} (hV : ∀ l ∈ V, 0 ≤ l) : ∀ l ∈ V.set k 0, 0 ≤ l := fun l hl => by
  rcases List.mem_or_eq_of_mem_set hl with h | rfl
  · exact hV l h
  · exact Int.le_refl 0

abbrev S_law : SpD := spLaw
local macro_rules | `(tactic| exists "sd") => `(tactic| exact sd_law _)
set_option maxHeartbeats 4000000 in
theorem ok_law (X : T K mg) : FnOk Pg w K mg base CX0 10 X.a_law X.d_law ["_law_script"] (spOf K 1 S_law) := by
  refine fn_ok4 X.F_law sc_law rfl (fun cdv A outer s H E hr => ⟨_, (pss_cons (ps_set (i := 1) sc_law.nd rfl (Or.inl rfl) (pe_call (ok_law_deck X) (hr.mono (by decide)) (by rfl) X.g_law_deck X.F_law_deck.kp X.b_law_deck .nil pass0 (pa_cons (pv 0) pa_nil)))
  (pss_cons (ps_set (i := 2) sc_law.nd rfl (Or.inl rfl) (pe_call (ok_law_take X) (hr.mono (by decide)) (by rfl) X.g_law_take X.F_law_take.kp X.b_law_take .nil pass0 (pa_cons (pv 1) (pa_cons pe_int pa_nil))))
  (pss_cons (ps_set (i := 3) sc_law.nd rfl (Or.inl rfl) (pe_call (ok_law_size X) (hr.mono (by decide)) (by rfl) X.g_law_size X.F_law_size.kp X.b_law_size .nil pass0 (pa_cons (pv 1) (pa_cons pe_int (pa_cons pe_int pa_nil)))))
  (pss_cons (ps_set (i := 4) sc_law.nd rfl (Or.inl rfl) (pe_call (ok_law_grain X) (hr.mono (by decide)) (by rfl) X.g_law_grain X.F_law_grain.kp X.b_law_grain .nil pass0 (pa_cons (pv 1) pa_nil)))
  (pss_cons (ps_set (i := 5) sc_law.nd rfl (Or.inl rfl) (pe_call (ok_law_ends X) (hr.mono (by decide)) (by rfl) X.g_law_ends X.F_law_ends.kp X.b_law_ends .nil pass0 (pa_cons (pv 1) (pa_cons (pv 3) pa_nil))))
  (pss_cons (ps_set (i := 6) sc_law.nd rfl (Or.inl rfl) (pe_call (ok_law_joining X) (hr.mono (by decide)) (by rfl) X.g_law_joining X.F_law_joining.kp X.b_law_joining .nil pass0 (pa_cons (pv 1) (pa_cons (pv 3) pa_nil))))
  (pss_cons (ps_set (i := 7) sc_law.nd rfl (Or.inl rfl) (pe_call (ok_law_bent X) (hr.mono (by decide)) (by rfl) X.g_law_bent X.F_law_bent.kp X.b_law_bent .nil pass0 (pa_cons (pv 1) (pa_cons (pe_call (ok_law_lengths X) (hr.mono (by decide)) (by rfl) X.g_law_lengths X.F_law_lengths.kp X.b_law_lengths .nil pass0 (pa_cons (pv 1) (pa_cons (pv 5) (pa_cons (pv 6) (pa_cons (pv 4) pa_nil))))) pa_nil))))
  (pss_cons (ps_if (PW.pt (pw_and (pt_cmpR (k_eq (K := K) rfl hr.units) (pv 2) pe_int (nomark _)) (pw_and1 (pt_cmpR op_gt (pv 3) pe_int (nomark _))))) (pss_cons (ps_asg (pe_ix (k_ix (K := K) rfl) (pv 6) (pe_call (ok_law_take X) (hr.mono (by decide)) (by rfl) X.g_law_take X.F_law_take.kp X.b_law_take .nil pass0 (pa_cons (pv 1) (pa_cons (pe_op op_sub (pv 3) pe_int) pa_nil))) (fun _ _ => rfl)) (k_gtup (K := K) (n := 2) rfl (by rfl) (pgs_cons (pg_name (i := 8) sc_law.nd rfl (.inl rfl)) (pgs_cons (pg_name (i := 9) sc_law.nd rfl (.inl rfl)) pgs_nil))))
  (pss_cons (ps_asg pe_int (pg_sub (pv 7) (pv 8) set_list))
  (pss_one (ps_asg pe_int (pg_sub (pv 7) (pv 9) set_list))))) pss_nil)
  (pss_cons (ps_set (i := 10) sc_law.nd rfl (Or.inl rfl) (pe_call (ok_law_spots X) (hr.mono (by decide)) (by rfl) X.g_law_spots X.F_law_spots.kp X.b_law_spots .nil pass0 (pa_cons (pv 5) (pa_cons (pv 4) pa_nil))))
  (pss_cons (ps_set (i := 11) sc_law.nd rfl (Or.inl rfl) (pe_call (ok_law_short_pairs X) (hr.mono (by decide)) (by rfl) X.g_law_short_pairs X.F_law_short_pairs.kp X.b_law_short_pairs .nil pass0 (pa_cons (pv 10) (pa_cons (pv 6) (pa_cons (pv 7) pa_nil)))))
  (pss_cons (ps_set (i := 12) sc_law.nd rfl (Or.inl rfl) (pe_ix (k_ix (K := K) rfl) (pv 10) (pe_call (ok_law_take X) (hr.mono (by decide)) (by rfl) X.g_law_take X.F_law_take.kp X.b_law_take .nil pass0 (pa_cons (pv 1) (pa_cons (pv 3) pa_nil))) (fun _ _ => rfl)))
  (pss_cons (ps_for PassesOwn.never rfl (k_itup (K := K) rfl (pe_tup (pa_cons pe_int (pa_cons pe_int (pa_cons pe_int (pa_cons pe_int (pa_cons pe_int pa_nil))))))) (pg_name (i := 13) sc_law.nd rfl (.inl rfl)) (pss_cons (ps_set (i := 14) sc_law.nd rfl (Or.inl rfl) (pe_call (ok_law_told X) (hr.mono (by decide)) (by rfl) X.g_law_told X.F_law_told.kp X.b_law_told .nil pass0 (pa_cons (pv 13) (pa_cons (pv 5) (pa_cons (pv 6) (pa_cons (pv 4) (pa_cons (pe_callTy (k_tup (K := K) rfl) (by rfl) X.m_tuple (by decide +kernel) (pa_cons (pv 7) pa_nil)) (pa_cons (pv 12) pa_nil))))))))
  (pss_one (ps_if (PW.pt (pw_or (pt_not (pt_val (pe_call (ok_law_right X) (hr.mono (by decide)) (by rfl) X.g_law_right X.F_law_right.kp X.b_law_right .nil pass0 (pa_cons (pv 14) (pa_cons (pv 11) pa_nil))))) (pw_or1 (PW.pt (pw_and (pt_cmpR op_lt (pv 13) pe_int (nomark _)) (pw_and1 (pt_cmpR (k_eq (K := K) rfl hr.units) (pv 14) pe_str (nomark _)))))))) (pss_one (ps_ret pe_bl)) pss_nil))))
  (pss_one (ps_ret pe_bl)))))))))))))), ?_⟩)
  intro ds μ P hl h
  obtain ⟨ns, rfl, hn, q⟩ := h
  (exists "ss")
  rename_i d c
  (exists "ss")
  rename_i sp hs0 hs1
  (exists "ss")
  rename_i m hm1 hm2
  (exists "ss")
  rename_i g hg1 hg2
  (exists "ss")
  rename_i es hes hb
  subst hes
  (exists "ss")
  rename_i J hJ
  have hJl := hJ.1
  (exists "ss")
  rename_i pl ls hls1 hls2 hls3 pb lb hlb1 hlb2
  have F := hJ.facts
  refine s_cutW (fun δ' μ' => ∃ V : List Int, (V.length = es.length + J.length - 1 ∧ ∀ l ∈ V, 0 ≤ l) ∧ δ' = L_law (v_script := some (.scr ns)) (v_deck_here := some (.ref d)) (v_many := some (.int (es.length : Int))) (v_grain_here := some (.int g)) (v_ends_here := some (.tup (es.map eD))) (v_joining_here := some (.tup (J.map pD))) (v_lengths_here := some (.ref pb)) ∧ μ' = (pb, .lst (V.map D.int)) :: (pl, .lst (ls.map D.int)) :: (d, fl 600 c) :: μ) ?_ ?_
  · (exists "go")
    refine split_d (fun hc => ?_) (fun hc => ?_)
    · (exists "go")
      refine split_d (fun hc2 => ?_) (fun hc2 => ?_)
      · (exists "go")
        rename_i k hk0 hk1
        obtain ⟨k, rfl⟩ := Int.eq_ofNat_of_zero_le hk0
        have gy := List.getElem?_eq_getElem (l := J) (i := k) (by omega)
        generalize J[k]'(by omega) = y at gy
        have hlow := F.low k y gy
        have k1 : y.1 < lb.length := by omega
        have k2 : y.2 < (lb.set y.1 0).length := by rw [List.length_set]; omega
        (exists "go")
        refine' set_intro (f := D.int) (e := 0) (k := y.1) at0 rfl k1 rfl ?h ?_; (case h => (exists "nd"))
        (exists "go")
        refine' set_intro (f := D.int) (e := 0) (k := y.2) at0 rfl k2 rfl ?h ?_; (case h => (exists "nd"))
        exact ⟨_, _, (by (exists "le")), (by (exists "wk")), (lb.set y.1 0).set y.2 0, ⟨by rw [List.length_set, List.length_set]; omega, set_nn (set_nn hlb2)⟩, rfl, rfl⟩
      · (exists "go")
        exact ⟨_, _, (by (exists "le")), (by (exists "wk")), lb, ⟨by omega, hlb2⟩, rfl, rfl⟩
    · (exists "go")
      exact ⟨_, _, (by (exists "le")), (by (exists "wk")), lb, ⟨by omega, hlb2⟩, rfl, rfl⟩
  rintro δ' ν ⟨V, ⟨hV1, hV2⟩, rfl, rfl⟩
  (exists "ss")
  (exists "ss")
  rename_i psp pps ps hps hpo
  (exists "go")
  rename_i k hk0 hk1
  obtain ⟨k, rfl⟩ := Int.eq_ofNat_of_zero_le hk0
  have gk := spL_get (g := g) (es := es) (k := k) (by omega)
  (exists "go")
  refine forC F_law0 (by (exists "nd")) (by (exists "hG")) (fun x hx => ?_) ?_
  · obtain ⟨w, rfl, hw⟩ : ∃ w : Int, x = .int w ∧ (w = 0 ∨ w = 1 ∨ w = 2) := by
      simp only [List.mem_cons, List.not_mem_nil, or_false] at hx
      rcases hx with rfl | rfl | rfl | rfl | rfl
      · exact ⟨_, rfl, .inl rfl⟩
      · exact ⟨_, rfl, .inr (.inl rfl)⟩
      · exact ⟨_, rfl, .inr (.inr rfl)⟩
      · exact ⟨_, rfl, .inr (.inl rfl)⟩
      · exact ⟨_, rfl, .inl rfl⟩
    (exists "ge")
    (exists "ss")
    rename_i r hr
    rcases hr with ⟨hf, hr⟩ | ⟨hf, u, v, hF, rfl⟩
    · have e : ps = [] := by
        rw [shJ_nil.mpr hf] at hps
        exact hps.eq_nil
      rcases hr with rfl | ⟨hw2, rfl⟩
      · have h2 : (ps = [] ∧ ((D.str "done") = .str "done" ∨ (D.str "done") = .str "no place")) ∨ ∃ u v t, ps = (u, v) :: t ∧ (D.str "done") = .lis [jD u, jD v] := .inl ⟨e, .inl rfl⟩
        (exists "go")
        refine split_d (fun hc => ?_) (fun hc => ?_)
        · (exists "go")
          refine w2_eq (by decide +kernel) (by decide +kernel) ?_
          rw [show eqB (.str "done") (.str "no place") = false by decide +kernel]
          (exists "go")
          exact ⟨by (exists "le"), by (exists "wk")⟩
        · (exists "go")
          exact ⟨by (exists "le"), by (exists "wk")⟩
      · have h2 : (ps = [] ∧ ((D.str "no place") = .str "done" ∨ (D.str "no place") = .str "no place")) ∨ ∃ u v t, ps = (u, v) :: t ∧ (D.str "no place") = .lis [jD u, jD v] := .inl ⟨e, .inr rfl⟩
        subst hw2
        (exists "go")
        exact ⟨by (exists "le"), by (exists "wk")⟩
    · obtain ⟨t, e⟩ : ∃ t, ps = (u, v) :: t := by
        cases ps with
        | nil => exact absurd (shJ_nil.mp hps.symm.eq_nil) hf
        | cons x t =>
          obtain ⟨a, b⟩ := x
          obtain ⟨rfl, rfl⟩ := hF.uniq (fst_of_sorted hJ hps hpo)
          exact ⟨t, rfl⟩
      have h2 : (ps = [] ∧ ((D.lis [jD u, jD v]) = .str "done" ∨ (D.lis [jD u, jD v]) = .str "no place")) ∨ ∃ u' v' t, ps = (u', v') :: t ∧ (D.lis [jD u, jD v]) = .lis [jD u', jD v'] := .inr ⟨u, v, t, e, rfl⟩
      (exists "go")
      refine split_d (fun hc => ?_) (fun hc => ?_)
      · (exists "go")
        refine w2_eq (sh_flat (flat_lis (n := 0) (flat_list2 flat_int flat_int)) (by decide)) (by decide +kernel) ?_
        rw [show eqB (.lis [jD u, jD v]) (.str "no place") = false from rfl]
        (exists "go")
        exact ⟨by (exists "le"), by (exists "wk")⟩
      · (exists "go")
        exact ⟨by (exists "le"), by (exists "wk")⟩
  (exists "go")
  exact ⟨_, (by (exists "wk")), q⟩
  
end

theorem fin_law {Pg : Program} {w : World} {K : PySem.W.Frag} {mg : Str → Option Value} {base : Heap} {fa : Addr} {fd : FuncData} (F : Fun K "law" "law" s_law fa fd) (X : T K mg) (e1 : X.a_law = fa := by rfl) (e2 : X.d_law = fd := by rfl) : FnOk Pg w K mg base CX0 10 fa fd ["_law_script"] (spOf K 1 spLaw) := by
  subst e1 e2
  exact ok_law X
set_option maxHeartbeats 0 in
theorem all_mk {Pg : Program} {w : World} {K : PySem.W.Frag} {h : Heap} {mg : Str → Option Value} {fa : Addr} (XX : K.In h) (G : h.Ns mainGlobals mg) (hfa : mg "law" = some (.ref fa))
    {od0 an0 : Option Addr} {sl0 : Array (Option Value)} {oc0 kV0 dc0 pm0 cd0 ct0 : Value} {f0 : Addr}
    (a0 : PySem.W.nsIn K mainGlobals "spot_of" = some (some (.ref f0))) (l0 : K.lookup f0 = some ⟨oc0, od0, .func (PySem.W.fnOf "spot_of" "spot_of" (defArgs s_spot_of) (defBody s_spot_of) (defScope s_spot_of) .none kV0 dc0 pm0 an0 cd0 ct0), sl0⟩) (c0 : PySem.W.codeIn K cd0 "spot_of" = true) (k0 : PySem.W.keepIn K (.ref f0) = true)
    {od1 an1 : Option Addr} {sl1 : Array (Option Value)} {oc1 kV1 dc1 pm1 cd1 ct1 : Value} {f1 : Addr}
    (a1 : PySem.W.nsIn K mainGlobals "far" = some (some (.ref f1))) (l1 : K.lookup f1 = some ⟨oc1, od1, .func (PySem.W.fnOf "far" "far" (defArgs s_far) (defBody s_far) (defScope s_far) .none kV1 dc1 pm1 an1 cd1 ct1), sl1⟩) (c1 : PySem.W.codeIn K cd1 "far" = true) (k1 : PySem.W.keepIn K (.ref f1) = true)
    {od2 an2 : Option Addr} {sl2 : Array (Option Value)} {oc2 kV2 dc2 pm2 cd2 ct2 : Value} {f2 : Addr}
    (a2 : PySem.W.nsIn K mainGlobals "grown" = some (some (.ref f2))) (l2 : K.lookup f2 = some ⟨oc2, od2, .func (PySem.W.fnOf "grown" "grown" (defArgs s_grown) (defBody s_grown) (defScope s_grown) .none kV2 dc2 pm2 an2 cd2 ct2), sl2⟩) (c2 : PySem.W.codeIn K cd2 "grown" = true) (k2 : PySem.W.keepIn K (.ref f2) = true)
    {od3 an3 : Option Addr} {sl3 : Array (Option Value)} {oc3 kV3 dc3 pm3 cd3 ct3 : Value} {f3 : Addr}
    (a3 : PySem.W.nsIn K mainGlobals "met" = some (some (.ref f3))) (l3 : K.lookup f3 = some ⟨oc3, od3, .func (PySem.W.fnOf "met" "met" (defArgs s_met) (defBody s_met) (defScope s_met) .none kV3 dc3 pm3 an3 cd3 ct3), sl3⟩) (c3 : PySem.W.codeIn K cd3 "met" = true) (k3 : PySem.W.keepIn K (.ref f3) = true)
    {od4 an4 : Option Addr} {sl4 : Array (Option Value)} {oc4 kV4 dc4 pm4 cd4 ct4 : Value} {f4 : Addr}
    (a4 : PySem.W.nsIn K mainGlobals "nearest" = some (some (.ref f4))) (l4 : K.lookup f4 = some ⟨oc4, od4, .func (PySem.W.fnOf "nearest" "nearest" (defArgs s_nearest) (defBody s_nearest) (defScope s_nearest) .none kV4 dc4 pm4 an4 cd4 ct4), sl4⟩) (c4 : PySem.W.codeIn K cd4 "nearest" = true) (k4 : PySem.W.keepIn K (.ref f4) = true)
    {od5 an5 : Option Addr} {sl5 : Array (Option Value)} {oc5 kV5 dc5 pm5 cd5 ct5 : Value} {f5 : Addr}
    (a5 : PySem.W.nsIn K mainGlobals "corner" = some (some (.ref f5))) (l5 : K.lookup f5 = some ⟨oc5, od5, .func (PySem.W.fnOf "corner" "corner" (defArgs s_corner) (defBody s_corner) (defScope s_corner) .none kV5 dc5 pm5 an5 cd5 ct5), sl5⟩) (c5 : PySem.W.codeIn K cd5 "corner" = true) (k5 : PySem.W.keepIn K (.ref f5) = true)
    {od6 an6 : Option Addr} {sl6 : Array (Option Value)} {oc6 kV6 dc6 pm6 cd6 ct6 : Value} {f6 : Addr}
    (a6 : PySem.W.nsIn K mainGlobals "has" = some (some (.ref f6))) (l6 : K.lookup f6 = some ⟨oc6, od6, .func (PySem.W.fnOf "has" "has" (defArgs s_has) (defBody s_has) (defScope s_has) .none kV6 dc6 pm6 an6 cd6 ct6), sl6⟩) (c6 : PySem.W.codeIn K cd6 "has" = true) (k6 : PySem.W.keepIn K (.ref f6) = true)
    {od7 an7 : Option Addr} {sl7 : Array (Option Value)} {oc7 kV7 dc7 pm7 cd7 ct7 : Value} {f7 : Addr}
    (a7 : PySem.W.nsIn K mainGlobals "above_all" = some (some (.ref f7))) (l7 : K.lookup f7 = some ⟨oc7, od7, .func (PySem.W.fnOf "above_all" "above_all" (defArgs s_above_all) (defBody s_above_all) (defScope s_above_all) .none kV7 dc7 pm7 an7 cd7 ct7), sl7⟩) (c7 : PySem.W.codeIn K cd7 "above_all" = true) (k7 : PySem.W.keepIn K (.ref f7) = true)
    {od8 an8 : Option Addr} {sl8 : Array (Option Value)} {oc8 kV8 dc8 pm8 cd8 ct8 : Value} {f8 : Addr}
    (a8 : PySem.W.nsIn K mainGlobals "chain" = some (some (.ref f8))) (l8 : K.lookup f8 = some ⟨oc8, od8, .func (PySem.W.fnOf "chain" "chain" (defArgs s_chain) (defBody s_chain) (defScope s_chain) .none kV8 dc8 pm8 an8 cd8 ct8), sl8⟩) (c8 : PySem.W.codeIn K cd8 "chain" = true) (k8 : PySem.W.keepIn K (.ref f8) = true)
    {od9 an9 : Option Addr} {sl9 : Array (Option Value)} {oc9 kV9 dc9 pm9 cd9 ct9 : Value} {f9 : Addr}
    (a9 : PySem.W.nsIn K mainGlobals "meeting" = some (some (.ref f9))) (l9 : K.lookup f9 = some ⟨oc9, od9, .func (PySem.W.fnOf "meeting" "meeting" (defArgs s_meeting) (defBody s_meeting) (defScope s_meeting) .none kV9 dc9 pm9 an9 cd9 ct9), sl9⟩) (c9 : PySem.W.codeIn K cd9 "meeting" = true) (k9 : PySem.W.keepIn K (.ref f9) = true)
    {od10 an10 : Option Addr} {sl10 : Array (Option Value)} {oc10 kV10 dc10 pm10 cd10 ct10 : Value} {f10 : Addr}
    (a10 : PySem.W.nsIn K mainGlobals "spots_of" = some (some (.ref f10))) (l10 : K.lookup f10 = some ⟨oc10, od10, .func (PySem.W.fnOf "spots_of" "spots_of" (defArgs s_spots_of) (defBody s_spots_of) (defScope s_spots_of) .none kV10 dc10 pm10 an10 cd10 ct10), sl10⟩) (c10 : PySem.W.codeIn K cd10 "spots_of" = true) (k10 : PySem.W.keepIn K (.ref f10) = true)
    {od11 an11 : Option Addr} {sl11 : Array (Option Value)} {oc11 kV11 dc11 pm11 cd11 ct11 : Value} {f11 : Addr}
    (a11 : PySem.W.nsIn K mainGlobals "wire_between" = some (some (.ref f11))) (l11 : K.lookup f11 = some ⟨oc11, od11, .func (PySem.W.fnOf "wire_between" "wire_between" (defArgs s_wire_between) (defBody s_wire_between) (defScope s_wire_between) .none kV11 dc11 pm11 an11 cd11 ct11), sl11⟩) (c11 : PySem.W.codeIn K cd11 "wire_between" = true) (k11 : PySem.W.keepIn K (.ref f11) = true)
    {od12 an12 : Option Addr} {sl12 : Array (Option Value)} {oc12 kV12 dc12 pm12 cd12 ct12 : Value} {f12 : Addr}
    (a12 : PySem.W.nsIn K mainGlobals "first_short" = some (some (.ref f12))) (l12 : K.lookup f12 = some ⟨oc12, od12, .func (PySem.W.fnOf "first_short" "first_short" (defArgs s_first_short) (defBody s_first_short) (defScope s_first_short) .none kV12 dc12 pm12 an12 cd12 ct12), sl12⟩) (c12 : PySem.W.codeIn K cd12 "first_short" = true) (k12 : PySem.W.keepIn K (.ref f12) = true)
    {od13 an13 : Option Addr} {sl13 : Array (Option Value)} {oc13 kV13 dc13 pm13 cd13 ct13 : Value} {f13 : Addr}
    (a13 : PySem.W.nsIn K mainGlobals "boxes_from_below" = some (some (.ref f13))) (l13 : K.lookup f13 = some ⟨oc13, od13, .func (PySem.W.fnOf "boxes_from_below" "boxes_from_below" (defArgs s_boxes_from_below) (defBody s_boxes_from_below) (defScope s_boxes_from_below) .none kV13 dc13 pm13 an13 cd13 ct13), sl13⟩) (c13 : PySem.W.codeIn K cd13 "boxes_from_below" = true) (k13 : PySem.W.keepIn K (.ref f13) = true)
    {od14 an14 : Option Addr} {sl14 : Array (Option Value)} {oc14 kV14 dc14 pm14 cd14 ct14 : Value} {f14 : Addr}
    (a14 : PySem.W.nsIn K mainGlobals "boxes_by" = some (some (.ref f14))) (l14 : K.lookup f14 = some ⟨oc14, od14, .func (PySem.W.fnOf "boxes_by" "boxes_by" (defArgs s_boxes_by) (defBody s_boxes_by) (defScope s_boxes_by) .none kV14 dc14 pm14 an14 cd14 ct14), sl14⟩) (c14 : PySem.W.codeIn K cd14 "boxes_by" = true) (k14 : PySem.W.keepIn K (.ref f14) = true)
    {od15 an15 : Option Addr} {sl15 : Array (Option Value)} {oc15 kV15 dc15 pm15 cd15 ct15 : Value} {f15 : Addr}
    (a15 : PySem.W.nsIn K mainGlobals "root_in" = some (some (.ref f15))) (l15 : K.lookup f15 = some ⟨oc15, od15, .func (PySem.W.fnOf "root_in" "root_in" (defArgs s_root_in) (defBody s_root_in) (defScope s_root_in) .none kV15 dc15 pm15 an15 cd15 ct15), sl15⟩) (c15 : PySem.W.codeIn K cd15 "root_in" = true) (k15 : PySem.W.keepIn K (.ref f15) = true)
    {od16 an16 : Option Addr} {sl16 : Array (Option Value)} {oc16 kV16 dc16 pm16 cd16 ct16 : Value} {f16 : Addr}
    (a16 : PySem.W.nsIn K mainGlobals "laid_down" = some (some (.ref f16))) (l16 : K.lookup f16 = some ⟨oc16, od16, .func (PySem.W.fnOf "laid_down" "laid_down" (defArgs s_laid_down) (defBody s_laid_down) (defScope s_laid_down) .none kV16 dc16 pm16 an16 cd16 ct16), sl16⟩) (c16 : PySem.W.codeIn K cd16 "laid_down" = true) (k16 : PySem.W.keepIn K (.ref f16) = true)
    {od17 an17 : Option Addr} {sl17 : Array (Option Value)} {oc17 kV17 dc17 pm17 cd17 ct17 : Value} {f17 : Addr} {T17 : Addr} {tc17 : Value} {to17 : Option Addr} {tn17 : Nat} {ts17 : Array (Option Value)}
    (a17 : PySem.W.nsIn K mainGlobals "laid" = some (some (.ref f17))) (l17 : K.lookup f17 = some ⟨oc17, od17, .func (PySem.W.fnOf "laid" "laid" (defArgs s_laid) (defBody s_laid) (defScope s_laid) (.ref T17) kV17 dc17 pm17 an17 cd17 ct17), sl17⟩) (c17 : PySem.W.codeIn K cd17 "laid" = true) (k17 : PySem.W.keepIn K (.ref f17) = true)
    (t17 : K.lookup T17 = some ⟨tc17, to17, .seq #[Value.none] tn17, ts17⟩)
    {od18 an18 : Option Addr} {sl18 : Array (Option Value)} {oc18 kV18 dc18 pm18 cd18 ct18 : Value} {f18 : Addr}
    (a18 : PySem.W.nsIn K mainGlobals "_law_deck" = some (some (.ref f18))) (l18 : K.lookup f18 = some ⟨oc18, od18, .func (PySem.W.fnOf "_law_deck" "_law_deck" (defArgs s_law_deck) (defBody s_law_deck) (defScope s_law_deck) .none kV18 dc18 pm18 an18 cd18 ct18), sl18⟩) (c18 : PySem.W.codeIn K cd18 "_law_deck" = true) (k18 : PySem.W.keepIn K (.ref f18) = true)
    {od19 an19 : Option Addr} {sl19 : Array (Option Value)} {oc19 kV19 dc19 pm19 cd19 ct19 : Value} {f19 : Addr}
    (a19 : PySem.W.nsIn K mainGlobals "_law_take" = some (some (.ref f19))) (l19 : K.lookup f19 = some ⟨oc19, od19, .func (PySem.W.fnOf "_law_take" "_law_take" (defArgs s_law_take) (defBody s_law_take) (defScope s_law_take) .none kV19 dc19 pm19 an19 cd19 ct19), sl19⟩) (c19 : PySem.W.codeIn K cd19 "_law_take" = true) (k19 : PySem.W.keepIn K (.ref f19) = true)
    {od20 an20 : Option Addr} {sl20 : Array (Option Value)} {oc20 kV20 dc20 pm20 cd20 ct20 : Value} {f20 : Addr}
    (a20 : PySem.W.nsIn K mainGlobals "_law_place" = some (some (.ref f20))) (l20 : K.lookup f20 = some ⟨oc20, od20, .func (PySem.W.fnOf "_law_place" "_law_place" (defArgs s_law_place) (defBody s_law_place) (defScope s_law_place) .none kV20 dc20 pm20 an20 cd20 ct20), sl20⟩) (c20 : PySem.W.codeIn K cd20 "_law_place" = true) (k20 : PySem.W.keepIn K (.ref f20) = true)
    {od21 an21 : Option Addr} {sl21 : Array (Option Value)} {oc21 kV21 dc21 pm21 cd21 ct21 : Value} {f21 : Addr}
    (a21 : PySem.W.nsIn K mainGlobals "_law_ends" = some (some (.ref f21))) (l21 : K.lookup f21 = some ⟨oc21, od21, .func (PySem.W.fnOf "_law_ends" "_law_ends" (defArgs s_law_ends) (defBody s_law_ends) (defScope s_law_ends) .none kV21 dc21 pm21 an21 cd21 ct21), sl21⟩) (c21 : PySem.W.codeIn K cd21 "_law_ends" = true) (k21 : PySem.W.keepIn K (.ref f21) = true)
    {od22 an22 : Option Addr} {sl22 : Array (Option Value)} {oc22 kV22 dc22 pm22 cd22 ct22 : Value} {f22 : Addr}
    (a22 : PySem.W.nsIn K mainGlobals "_law_joining" = some (some (.ref f22))) (l22 : K.lookup f22 = some ⟨oc22, od22, .func (PySem.W.fnOf "_law_joining" "_law_joining" (defArgs s_law_joining) (defBody s_law_joining) (defScope s_law_joining) .none kV22 dc22 pm22 an22 cd22 ct22), sl22⟩) (c22 : PySem.W.codeIn K cd22 "_law_joining" = true) (k22 : PySem.W.keepIn K (.ref f22) = true)
    {od23 an23 : Option Addr} {sl23 : Array (Option Value)} {oc23 kV23 dc23 pm23 cd23 ct23 : Value} {f23 : Addr}
    (a23 : PySem.W.nsIn K mainGlobals "_law_size" = some (some (.ref f23))) (l23 : K.lookup f23 = some ⟨oc23, od23, .func (PySem.W.fnOf "_law_size" "_law_size" (defArgs s_law_size) (defBody s_law_size) (defScope s_law_size) .none kV23 dc23 pm23 an23 cd23 ct23), sl23⟩) (c23 : PySem.W.codeIn K cd23 "_law_size" = true) (k23 : PySem.W.keepIn K (.ref f23) = true)
    {od24 an24 : Option Addr} {sl24 : Array (Option Value)} {oc24 kV24 dc24 pm24 cd24 ct24 : Value} {f24 : Addr}
    (a24 : PySem.W.nsIn K mainGlobals "_law_grain" = some (some (.ref f24))) (l24 : K.lookup f24 = some ⟨oc24, od24, .func (PySem.W.fnOf "_law_grain" "_law_grain" (defArgs s_law_grain) (defBody s_law_grain) (defScope s_law_grain) .none kV24 dc24 pm24 an24 cd24 ct24), sl24⟩) (c24 : PySem.W.codeIn K cd24 "_law_grain" = true) (k24 : PySem.W.keepIn K (.ref f24) = true)
    {od25 an25 : Option Addr} {sl25 : Array (Option Value)} {oc25 kV25 dc25 pm25 cd25 ct25 : Value} {f25 : Addr}
    (a25 : PySem.W.nsIn K mainGlobals "_law_far" = some (some (.ref f25))) (l25 : K.lookup f25 = some ⟨oc25, od25, .func (PySem.W.fnOf "_law_far" "_law_far" (defArgs s_law_far) (defBody s_law_far) (defScope s_law_far) .none kV25 dc25 pm25 an25 cd25 ct25), sl25⟩) (c25 : PySem.W.codeIn K cd25 "_law_far" = true) (k25 : PySem.W.keepIn K (.ref f25) = true)
    {od26 an26 : Option Addr} {sl26 : Array (Option Value)} {oc26 kV26 dc26 pm26 cd26 ct26 : Value} {f26 : Addr}
    (a26 : PySem.W.nsIn K mainGlobals "_law_spots" = some (some (.ref f26))) (l26 : K.lookup f26 = some ⟨oc26, od26, .func (PySem.W.fnOf "_law_spots" "_law_spots" (defArgs s_law_spots) (defBody s_law_spots) (defScope s_law_spots) .none kV26 dc26 pm26 an26 cd26 ct26), sl26⟩) (c26 : PySem.W.codeIn K cd26 "_law_spots" = true) (k26 : PySem.W.keepIn K (.ref f26) = true)
    {od27 an27 : Option Addr} {sl27 : Array (Option Value)} {oc27 kV27 dc27 pm27 cd27 ct27 : Value} {f27 : Addr}
    (a27 : PySem.W.nsIn K mainGlobals "_law_middle" = some (some (.ref f27))) (l27 : K.lookup f27 = some ⟨oc27, od27, .func (PySem.W.fnOf "_law_middle" "_law_middle" (defArgs s_law_middle) (defBody s_law_middle) (defScope s_law_middle) .none kV27 dc27 pm27 an27 cd27 ct27), sl27⟩) (c27 : PySem.W.codeIn K cd27 "_law_middle" = true) (k27 : PySem.W.keepIn K (.ref f27) = true)
    {od28 an28 : Option Addr} {sl28 : Array (Option Value)} {oc28 kV28 dc28 pm28 cd28 ct28 : Value} {f28 : Addr}
    (a28 : PySem.W.nsIn K mainGlobals "_law_lengths" = some (some (.ref f28))) (l28 : K.lookup f28 = some ⟨oc28, od28, .func (PySem.W.fnOf "_law_lengths" "_law_lengths" (defArgs s_law_lengths) (defBody s_law_lengths) (defScope s_law_lengths) .none kV28 dc28 pm28 an28 cd28 ct28), sl28⟩) (c28 : PySem.W.codeIn K cd28 "_law_lengths" = true) (k28 : PySem.W.keepIn K (.ref f28) = true)
    {od29 an29 : Option Addr} {sl29 : Array (Option Value)} {oc29 kV29 dc29 pm29 cd29 ct29 : Value} {f29 : Addr}
    (a29 : PySem.W.nsIn K mainGlobals "_law_bent" = some (some (.ref f29))) (l29 : K.lookup f29 = some ⟨oc29, od29, .func (PySem.W.fnOf "_law_bent" "_law_bent" (defArgs s_law_bent) (defBody s_law_bent) (defScope s_law_bent) .none kV29 dc29 pm29 an29 cd29 ct29), sl29⟩) (c29 : PySem.W.codeIn K cd29 "_law_bent" = true) (k29 : PySem.W.keepIn K (.ref f29) = true)
    {od30 an30 : Option Addr} {sl30 : Array (Option Value)} {oc30 kV30 dc30 pm30 cd30 ct30 : Value} {f30 : Addr}
    (a30 : PySem.W.nsIn K mainGlobals "_law_wires" = some (some (.ref f30))) (l30 : K.lookup f30 = some ⟨oc30, od30, .func (PySem.W.fnOf "_law_wires" "_law_wires" (defArgs s_law_wires) (defBody s_law_wires) (defScope s_law_wires) .none kV30 dc30 pm30 an30 cd30 ct30), sl30⟩) (c30 : PySem.W.codeIn K cd30 "_law_wires" = true) (k30 : PySem.W.keepIn K (.ref f30) = true)
    {od31 an31 : Option Addr} {sl31 : Array (Option Value)} {oc31 kV31 dc31 pm31 cd31 ct31 : Value} {f31 : Addr}
    (a31 : PySem.W.nsIn K mainGlobals "_law_short_pairs" = some (some (.ref f31))) (l31 : K.lookup f31 = some ⟨oc31, od31, .func (PySem.W.fnOf "_law_short_pairs" "_law_short_pairs" (defArgs s_law_short_pairs) (defBody s_law_short_pairs) (defScope s_law_short_pairs) .none kV31 dc31 pm31 an31 cd31 ct31), sl31⟩) (c31 : PySem.W.codeIn K cd31 "_law_short_pairs" = true) (k31 : PySem.W.keepIn K (.ref f31) = true)
    {od32 an32 : Option Addr} {sl32 : Array (Option Value)} {oc32 kV32 dc32 pm32 cd32 ct32 : Value} {f32 : Addr}
    (a32 : PySem.W.nsIn K mainGlobals "_law_done" = some (some (.ref f32))) (l32 : K.lookup f32 = some ⟨oc32, od32, .func (PySem.W.fnOf "_law_done" "_law_done" (defArgs s_law_done) (defBody s_law_done) (defScope s_law_done) .none kV32 dc32 pm32 an32 cd32 ct32), sl32⟩) (c32 : PySem.W.codeIn K cd32 "_law_done" = true) (k32 : PySem.W.keepIn K (.ref f32) = true)
    {od33 an33 : Option Addr} {sl33 : Array (Option Value)} {oc33 kV33 dc33 pm33 cd33 ct33 : Value} {f33 : Addr}
    (a33 : PySem.W.nsIn K mainGlobals "_law_told" = some (some (.ref f33))) (l33 : K.lookup f33 = some ⟨oc33, od33, .func (PySem.W.fnOf "_law_told" "_law_told" (defArgs s_law_told) (defBody s_law_told) (defScope s_law_told) .none kV33 dc33 pm33 an33 cd33 ct33), sl33⟩) (c33 : PySem.W.codeIn K cd33 "_law_told" = true) (k33 : PySem.W.keepIn K (.ref f33) = true)
    {od34 an34 : Option Addr} {sl34 : Array (Option Value)} {oc34 kV34 dc34 pm34 cd34 ct34 : Value} {f34 : Addr}
    (a34 : PySem.W.nsIn K mainGlobals "_law_right" = some (some (.ref f34))) (l34 : K.lookup f34 = some ⟨oc34, od34, .func (PySem.W.fnOf "_law_right" "_law_right" (defArgs s_law_right) (defBody s_law_right) (defScope s_law_right) .none kV34 dc34 pm34 an34 cd34 ct34), sl34⟩) (c34 : PySem.W.codeIn K cd34 "_law_right" = true) (k34 : PySem.W.keepIn K (.ref f34) = true)
    {od35 an35 : Option Addr} {sl35 : Array (Option Value)} {oc35 kV35 dc35 pm35 cd35 ct35 : Value} {f35 : Addr}
    (a35 : PySem.W.nsIn K mainGlobals "law" = some (some (.ref f35))) (l35 : K.lookup f35 = some ⟨oc35, od35, .func (PySem.W.fnOf "law" "law" (defArgs s_law) (defBody s_law) (defScope s_law) .none kV35 dc35 pm35 an35 cd35 ct35), sl35⟩) (c35 : PySem.W.codeIn K cd35 "law" = true) (k35 : PySem.W.keepIn K (.ref f35) = true)
    (z_abs : PySem.W.nsIn K mainGlobals "abs" = some none)
    (z_bool : PySem.W.nsIn K mainGlobals "bool" = some none)
    (z_enumerate : PySem.W.nsIn K mainGlobals "enumerate" = some none)
    (z_int : PySem.W.nsIn K mainGlobals "int" = some none)
    (z_isinstance : PySem.W.nsIn K mainGlobals "isinstance" = some none)
    (z_len : PySem.W.nsIn K mainGlobals "len" = some none)
    (z_list : PySem.W.nsIn K mainGlobals "list" = some none)
    (z_max : PySem.W.nsIn K mainGlobals "max" = some none)
    (z_min : PySem.W.nsIn K mainGlobals "min" = some none)
    (z_range : PySem.W.nsIn K mainGlobals "range" = some none)
    (z_sorted : PySem.W.nsIn K mainGlobals "sorted" = some none)
    (z_sum : PySem.W.nsIn K mainGlobals "sum" = some none)
    (z_tuple : PySem.W.nsIn K mainGlobals "tuple" = some none)
    (z_ValueError : PySem.W.nsIn K mainGlobals "ValueError" = some none)
    {x_WireError : Addr}
    {x_Full : Addr}
    {x_NoEnd : Addr}
    {x_NoPlace : Addr}
    {x_NoRow : Addr}
    {x_NoText : Addr}
    {x_TooMany : Addr}
    {x_Twice : Addr}
    {x_NoFit : Addr}
    (hgx_WireError : PySem.W.nsIn K mainGlobals "WireError" = some (some (.ref x_WireError)))
    (htx_WireError : PySem.W.typeIn K (.ref x_WireError) = some (.type "type"))
    (hdx_WireError : PySem.W.hasDictIn K x_WireError = true)
    (hsx_WireError : PySem.W.subIn K (.ref x_WireError) (.type "BaseException") = some true)
    (hgx_Full : PySem.W.nsIn K mainGlobals "Full" = some (some (.ref x_Full)))
    (htx_Full : PySem.W.typeIn K (.ref x_Full) = some (.type "type"))
    (hdx_Full : PySem.W.hasDictIn K x_Full = true)
    (hsx_Full : PySem.W.subIn K (.ref x_Full) (.type "BaseException") = some true)
    (hgx_NoEnd : PySem.W.nsIn K mainGlobals "NoEnd" = some (some (.ref x_NoEnd)))
    (htx_NoEnd : PySem.W.typeIn K (.ref x_NoEnd) = some (.type "type"))
    (hdx_NoEnd : PySem.W.hasDictIn K x_NoEnd = true)
    (hsx_NoEnd : PySem.W.subIn K (.ref x_NoEnd) (.type "BaseException") = some true)
    (hgx_NoPlace : PySem.W.nsIn K mainGlobals "NoPlace" = some (some (.ref x_NoPlace)))
    (htx_NoPlace : PySem.W.typeIn K (.ref x_NoPlace) = some (.type "type"))
    (hdx_NoPlace : PySem.W.hasDictIn K x_NoPlace = true)
    (hsx_NoPlace : PySem.W.subIn K (.ref x_NoPlace) (.type "BaseException") = some true)
    (hgx_NoRow : PySem.W.nsIn K mainGlobals "NoRow" = some (some (.ref x_NoRow)))
    (htx_NoRow : PySem.W.typeIn K (.ref x_NoRow) = some (.type "type"))
    (hdx_NoRow : PySem.W.hasDictIn K x_NoRow = true)
    (hsx_NoRow : PySem.W.subIn K (.ref x_NoRow) (.type "BaseException") = some true)
    (hgx_NoText : PySem.W.nsIn K mainGlobals "NoText" = some (some (.ref x_NoText)))
    (htx_NoText : PySem.W.typeIn K (.ref x_NoText) = some (.type "type"))
    (hdx_NoText : PySem.W.hasDictIn K x_NoText = true)
    (hsx_NoText : PySem.W.subIn K (.ref x_NoText) (.type "BaseException") = some true)
    (hgx_TooMany : PySem.W.nsIn K mainGlobals "TooMany" = some (some (.ref x_TooMany)))
    (htx_TooMany : PySem.W.typeIn K (.ref x_TooMany) = some (.type "type"))
    (hdx_TooMany : PySem.W.hasDictIn K x_TooMany = true)
    (hsx_TooMany : PySem.W.subIn K (.ref x_TooMany) (.type "BaseException") = some true)
    (hgx_Twice : PySem.W.nsIn K mainGlobals "Twice" = some (some (.ref x_Twice)))
    (htx_Twice : PySem.W.typeIn K (.ref x_Twice) = some (.type "type"))
    (hdx_Twice : PySem.W.hasDictIn K x_Twice = true)
    (hsx_Twice : PySem.W.subIn K (.ref x_Twice) (.type "BaseException") = some true)
    (hgx_NoFit : PySem.W.nsIn K mainGlobals "NoFit" = some (some (.ref x_NoFit)))
    (htx_NoFit : PySem.W.typeIn K (.ref x_NoFit) = some (.type "type"))
    (hdx_NoFit : PySem.W.hasDictIn K x_NoFit = true)
    (hsx_NoFit : PySem.W.subIn K (.ref x_NoFit) (.type "BaseException") = some true)
    (hno_NoFit_one : PySem.W.findIn K (.ref x_NoFit) "one" = some none)
    (hno_NoFit_other : PySem.W.findIn K (.ref x_NoFit) "other" = some none)
    (hsg_WireError : PySem.W.specialIn K (.ref x_WireError) "__getattribute__" = some (some (.builtin "type.__getattribute__")))
    (hrd_WireError : PySem.W.readsIn K x_WireError (.type "type") = true)
    (hvV_WireError : PySem.W.findCls K (.ref x_WireError) (.type "type") "__init__" = some (.val (.builtin "ValueError.__init__")))
    (hkx_NoFit : PySem.W.keepIn K (.ref x_NoFit) = true)
    (he1_NoFit : PySem.W.findIn K (.ref x_NoFit) "__getattribute__" = some (some (.builtin "BaseException.__getattribute__")))
    (he2_NoFit : PySem.W.findIn K (.ref x_NoFit) "__getattr__" = some none)
    (he3_NoFit : PySem.W.findIn K (.ref x_NoFit) "__class__" = some (some (.builtin "object.__class__")))
    (he4_NoFit : PySem.W.specialIn K (.builtin "object.__class__") "__get__" = some (some (.builtin "getset_descriptor.__get__")))
    (he5_NoFit : PySem.W.takesIn K (.builtin "object.__class__") = some true)
    (he6_NoFit : PySem.W.mroIn K x_NoFit (.type "object") = some true)
    (hu_NoFit_WireError : PySem.W.subIn K (.ref x_NoFit) (.ref x_WireError) = some true)
    (hu_NoFit_Full : PySem.W.subIn K (.ref x_NoFit) (.ref x_Full) = some false)
    (hu_NoFit_NoEnd : PySem.W.subIn K (.ref x_NoFit) (.ref x_NoEnd) = some false)
    (hu_NoFit_NoPlace : PySem.W.subIn K (.ref x_NoFit) (.ref x_NoPlace) = some false)
    (hu_NoFit_NoRow : PySem.W.subIn K (.ref x_NoFit) (.ref x_NoRow) = some false)
    (hu_NoFit_NoText : PySem.W.subIn K (.ref x_NoFit) (.ref x_NoText) = some false)
    (hu_NoFit_TooMany : PySem.W.subIn K (.ref x_NoFit) (.ref x_TooMany) = some false)
    (hu_NoFit_Twice : PySem.W.subIn K (.ref x_NoFit) (.ref x_Twice) = some false)
    (hu_NoFit_NoFit : PySem.W.subIn K (.ref x_NoFit) (.ref x_NoFit) = some true)
    (hu_NoFit_ValueError : PySem.W.subIn K (.ref x_NoFit) (.type "ValueError") = some true)
    (hkx_NoPlace : PySem.W.keepIn K (.ref x_NoPlace) = true)
    (hqx_NoPlace : PySem.W.excIn K x_NoPlace [.type "ValueError", .type "Exception", .type "BaseException", .type "object"] "ValueError.__new__" = true)
    (he1_NoPlace : PySem.W.findIn K (.ref x_NoPlace) "__getattribute__" = some (some (.builtin "BaseException.__getattribute__")))
    (he2_NoPlace : PySem.W.findIn K (.ref x_NoPlace) "__getattr__" = some none)
    (he3_NoPlace : PySem.W.findIn K (.ref x_NoPlace) "__class__" = some (some (.builtin "object.__class__")))
    (he4_NoPlace : PySem.W.specialIn K (.builtin "object.__class__") "__get__" = some (some (.builtin "getset_descriptor.__get__")))
    (he5_NoPlace : PySem.W.takesIn K (.builtin "object.__class__") = some true)
    (he6_NoPlace : PySem.W.mroIn K x_NoPlace (.type "object") = some true)
    (hu_NoPlace_WireError : PySem.W.subIn K (.ref x_NoPlace) (.ref x_WireError) = some true)
    (hu_NoPlace_Full : PySem.W.subIn K (.ref x_NoPlace) (.ref x_Full) = some false)
    (hu_NoPlace_NoEnd : PySem.W.subIn K (.ref x_NoPlace) (.ref x_NoEnd) = some false)
    (hu_NoPlace_NoPlace : PySem.W.subIn K (.ref x_NoPlace) (.ref x_NoPlace) = some true)
    (hu_NoPlace_NoRow : PySem.W.subIn K (.ref x_NoPlace) (.ref x_NoRow) = some false)
    (hu_NoPlace_NoText : PySem.W.subIn K (.ref x_NoPlace) (.ref x_NoText) = some false)
    (hu_NoPlace_TooMany : PySem.W.subIn K (.ref x_NoPlace) (.ref x_TooMany) = some false)
    (hu_NoPlace_Twice : PySem.W.subIn K (.ref x_NoPlace) (.ref x_Twice) = some false)
    (hu_NoPlace_NoFit : PySem.W.subIn K (.ref x_NoPlace) (.ref x_NoFit) = some false)
    (hu_NoPlace_ValueError : PySem.W.subIn K (.ref x_NoPlace) (.type "ValueError") = some true)
    {n1NoFit q1NoFit : Str} {N1NoFit : Addr} {bsNoFit bmNoFit : List Value} {snNoFit : _} {sbNoFit : _} {abNoFit : _} {coNoFit : _} {ddNoFit k0NoFit k1NoFit k2NoFit k3NoFit k5NoFit : _} (lxNoFit : K.lookup x_NoFit = some (excClassObj n1NoFit q1NoFit x_NoFit N1NoFit bsNoFit bmNoFit true snNoFit sbNoFit abNoFit coNoFit ddNoFit k0NoFit k1NoFit k2NoFit k3NoFit k5NoFit "ValueError.__new__")) (hvNoFit : PySem.HandSPX.refsVE bmNoFit = true) (saNoFit : PySem.W.findIn K (.ref x_NoFit) "__setattr__" = some (some (.builtin "object.__setattr__")))
    {oINoFit : Value} {odINoFit anINoFit : Option Addr} {slINoFit : Array (Option Value)} {kVINoFit dcINoFit pmINoFit cdINoFit ctINoFit : Value} {fINoFit : Addr} (iCNoFit : PySem.W.findIn K (.ref x_NoFit) "__init__" = some (some (.ref fINoFit))) (lINoFit : K.lookup fINoFit = some ⟨oINoFit, odINoFit, .func (PySem.W.fnOf "__init__" "NoFit.__init__" (defArgs (inClass (topS 17) 0)) (defBody (inClass (topS 17) 0)) (defScope (inClass (topS 17) 0)) .none kVINoFit dcINoFit pmINoFit anINoFit cdINoFit ctINoFit), slINoFit⟩) (cINoFit : PySem.W.codeIn K cdINoFit "NoFit.__init__" = true) (kINoFit : PySem.W.keepIn K (.ref fINoFit) = true) (tINoFit : PySem.W.typeIn K (.ref fINoFit) = some (.type "function"))
    : ∃ fd : FuncData, (∀ (s : Shared) (v : Value), BindsTo s fd ⟨[v], []⟩ [("_law_script", v)]) ∧ ∀ base : Heap, K.In base → base.Ns mainGlobals mg → FnOk Pg w K mg base CX0 10 fa fd ["_law_script"] (spOf K 1 spLaw) := by
  have e := hfa.symm.trans (PySem.W.mg_of XX G a35)
  cases e
  have F0 := fun_mk (st := s_spot_of) l0 c0 k0
  have b0 := F0.binds (ps := ["grain", "x", "y"]) fun _ _ _ _ _ _ us hl => match us, hl with | [_, _, _], _ => rfl
  have F1 := fun_mk (st := s_far) l1 c1 k1
  have b1 := F1.binds (ps := ["spot", "other"]) fun _ _ _ _ _ _ us hl => match us, hl with | [_, _], _ => rfl
  have F2 := fun_mk (st := s_grown) l2 c2 k2
  have b2 := F2.binds (ps := ["box", "by"]) fun _ _ _ _ _ _ us hl => match us, hl with | [_, _], _ => rfl
  have F3 := fun_mk (st := s_met) l3 c3 k3
  have b3 := F3.binds (ps := ["box", "other"]) fun _ _ _ _ _ _ us hl => match us, hl with | [_, _], _ => rfl
  have F4 := fun_mk (st := s_nearest) l4 c4 k4
  have b4 := F4.binds (ps := ["box", "spot"]) fun _ _ _ _ _ _ us hl => match us, hl with | [_, _], _ => rfl
  have F5 := fun_mk (st := s_corner) l5 c5 k5
  have b5 := F5.binds (ps := ["box"]) fun _ _ _ _ _ _ us hl => match us, hl with | [_], _ => rfl
  have F6 := fun_mk (st := s_has) l6 c6 k6
  have b6 := F6.binds (ps := ["box", "spot"]) fun _ _ _ _ _ _ us hl => match us, hl with | [_, _], _ => rfl
  have F7 := fun_mk (st := s_above_all) l7 c7 k7
  have b7 := F7.binds (ps := ["many", "joining"]) fun _ _ _ _ _ _ us hl => match us, hl with | [_, _], _ => rfl
  have F8 := fun_mk (st := s_chain) l8 c8 k8
  have b8 := F8.binds (ps := ["many", "joining", "knot"]) fun _ _ _ _ _ _ us hl => match us, hl with | [_, _, _], _ => rfl
  have F9 := fun_mk (st := s_meeting) l9 c9 k9
  have b9 := F9.binds (ps := ["many", "joining", "one", "other"]) fun _ _ _ _ _ _ us hl => match us, hl with | [_, _, _, _], _ => rfl
  have F10 := fun_mk (st := s_spots_of) l10 c10 k10
  have b10 := F10.binds (ps := ["ends", "grain"]) fun _ _ _ _ _ _ us hl => match us, hl with | [_, _], _ => rfl
  have F11 := fun_mk (st := s_wire_between) l11 c11 k11
  have b11 := F11.binds (ps := ["many", "joining", "lengths", "one", "other"]) fun _ _ _ _ _ _ us hl => match us, hl with | [_, _, _, _, _], _ => rfl
  have F12 := fun_mk (st := s_first_short) l12 c12 k12
  have b12 := F12.binds (ps := ["ends", "joining", "grain", "lengths"]) fun _ _ _ _ _ _ us hl => match us, hl with | [_, _, _, _], _ => rfl
  have F13 := fun_mk (st := s_boxes_from_below) l13 c13 k13
  have b13 := F13.binds (ps := ["ends", "joining", "grain", "lengths"]) fun _ _ _ _ _ _ us hl => match us, hl with | [_, _, _, _], _ => rfl
  have F14 := fun_mk (st := s_boxes_by) l14 c14 k14
  have b14 := F14.binds (ps := ["ends", "joining", "grain", "lengths"]) fun _ _ _ _ _ _ us hl => match us, hl with | [_, _, _, _], _ => rfl
  have F15 := fun_mk (st := s_root_in) l15 c15 k15
  have b15 := F15.binds (ps := ["box", "spot"]) fun _ _ _ _ _ _ us hl => match us, hl with | [_, _], _ => rfl
  have F16 := fun_mk (st := s_laid_down) l16 c16 k16
  have b16 := F16.binds (ps := ["many", "joining", "boxes", "spot"]) fun _ _ _ _ _ _ us hl => match us, hl with | [_, _, _, _], _ => rfl
  have F17 := funD_mk (st := s_laid) (dvs := [V.non]) l17 c17 k17 (.inr ⟨by simp, _, _, [Value.none], _, rfl, t17, rfl, (.cons rfl .nil)⟩)
  have b17 := binds_all F17 (ps := ["ends", "joining", "grain", "lengths", "root"]) 5 (by simp) rfl fun _ _ _ _ _ _ _ us its hu hi => match us, its, hu, hi with | [_, _, _, _, _], [_], _, _ => ⟨_, rfl, rfl⟩
  have bd17 : ∃ ds, Vals [V.non] ds ∧ Binds K _ ["ends", "joining", "grain", "lengths", "root"] ds := F17.binds1 4 0 (by simp) rfl fun _ _ _ _ _ _ _ us its hu hi => match us, its, hu, hi with | [_, _, _, _], [_], _, _ => ⟨_, rfl, rfl⟩
  have F18 := fun_mk (st := s_law_deck) l18 c18 k18
  have b18 := F18.binds (ps := ["_law_script"]) fun _ _ _ _ _ _ us hl => match us, hl with | [_], _ => rfl
  have F19 := fun_mk (st := s_law_take) l19 c19 k19
  have b19 := F19.binds (ps := ["_law_deck_here", "_law_most"]) fun _ _ _ _ _ _ us hl => match us, hl with | [_, _], _ => rfl
  have F20 := fun_mk (st := s_law_place) l20 c20 k20
  have b20 := F20.binds (ps := ["_law_deck_here", "_law_way"]) fun _ _ _ _ _ _ us hl => match us, hl with | [_, _], _ => rfl
  have F21 := fun_mk (st := s_law_ends) l21 c21 k21
  have b21 := F21.binds (ps := ["_law_deck_here", "_law_many"]) fun _ _ _ _ _ _ us hl => match us, hl with | [_, _], _ => rfl
  have F22 := fun_mk (st := s_law_joining) l22 c22 k22
  have b22 := F22.binds (ps := ["_law_deck_here", "_law_many"]) fun _ _ _ _ _ _ us hl => match us, hl with | [_, _], _ => rfl
  have F23 := fun_mk (st := s_law_size) l23 c23 k23
  have b23 := F23.binds (ps := ["_law_deck_here", "_law_few", "_law_most"]) fun _ _ _ _ _ _ us hl => match us, hl with | [_, _, _], _ => rfl
  have F24 := fun_mk (st := s_law_grain) l24 c24 k24
  have b24 := F24.binds (ps := ["_law_deck_here"]) fun _ _ _ _ _ _ us hl => match us, hl with | [_], _ => rfl
  have F25 := fun_mk (st := s_law_far) l25 c25 k25
  have b25 := F25.binds (ps := ["_law_here", "_law_there"]) fun _ _ _ _ _ _ us hl => match us, hl with | [_, _], _ => rfl
  have F26 := fun_mk (st := s_law_spots) l26 c26 k26
  have b26 := F26.binds (ps := ["_law_ends_here", "_law_grain_here"]) fun _ _ _ _ _ _ us hl => match us, hl with | [_, _], _ => rfl
  have F27 := fun_mk (st := s_law_middle) l27 c27 k27
  have b27 := F27.binds (ps := ["_law_deck_here", "_law_here", "_law_there"]) fun _ _ _ _ _ _ us hl => match us, hl with | [_, _, _], _ => rfl
  have F28 := fun_mk (st := s_law_lengths) l28 c28 k28
  have b28 := F28.binds (ps := ["_law_deck_here", "_law_ends_here", "_law_joining_here", "_law_grain_here"]) fun _ _ _ _ _ _ us hl => match us, hl with | [_, _, _, _], _ => rfl
  have F29 := fun_mk (st := s_law_bent) l29 c29 k29
  have b29 := F29.binds (ps := ["_law_deck_here", "_law_lengths_here"]) fun _ _ _ _ _ _ us hl => match us, hl with | [_, _], _ => rfl
  have F30 := fun_mk (st := s_law_wires) l30 c30 k30
  have b30 := F30.binds (ps := ["_law_many", "_law_joining_here", "_law_lengths_here"]) fun _ _ _ _ _ _ us hl => match us, hl with | [_, _, _], _ => rfl
  have F31 := fun_mk (st := s_law_short_pairs) l31 c31 k31
  have b31 := F31.binds (ps := ["_law_spots_here", "_law_joining_here", "_law_lengths_here"]) fun _ _ _ _ _ _ us hl => match us, hl with | [_, _, _], _ => rfl
  have F32 := fun_mk (st := s_law_done) l32 c32 k32
  have b32 := F32.binds (ps := ["_law_way", "_law_ends_here", "_law_joining_here", "_law_grain_here", "_law_lengths_here", "_law_root"]) fun _ _ _ _ _ _ us hl => match us, hl with | [_, _, _, _, _, _], _ => rfl
  have F33 := fun_mk (st := s_law_told) l33 c33 k33
  have b33 := F33.binds (ps := ["_law_way", "_law_ends_here", "_law_joining_here", "_law_grain_here", "_law_lengths_here", "_law_root"]) fun _ _ _ _ _ _ us hl => match us, hl with | [_, _, _, _, _, _], _ => rfl
  have F34 := fun_mk (st := s_law_right) l34 c34 k34
  have b34 := F34.binds (ps := ["_law_told_here", "_law_due"]) fun _ _ _ _ _ _ us hl => match us, hl with | [_, _], _ => rfl
  have F35 := fun_mk (st := s_law) l35 c35 k35
  have b35 := F35.binds (ps := ["_law_script"]) fun _ _ _ _ _ _ us hl => match us, hl with | [_], _ => rfl
  have FINoFit := fun_mk (st := inClass (topS 17) 0) lINoFit cINoFit kINoFit
  have bINoFit := FINoFit.binds (ps := ["self", "one", "other"]) fun _ _ _ _ _ _ us hl => match us, hl with | [_, _, _], _ => rfl
  exact ⟨PySem.W.fnOf "law" "law" (defArgs s_law) (defBody s_law) (defScope s_law) .none kV35 dc35 pm35 an35 cd35 ct35, fun s v => .of_eq rfl, fun base _ _ => fin_law F35 ({ a_spot_of := f0, d_spot_of := _, F_spot_of := F0, g_spot_of := PySem.W.mg_of XX G a0, b_spot_of := b0, a_far := f1, d_far := _, F_far := F1, g_far := PySem.W.mg_of XX G a1, b_far := b1, a_grown := f2, d_grown := _, F_grown := F2, g_grown := PySem.W.mg_of XX G a2, b_grown := b2, a_met := f3, d_met := _, F_met := F3, g_met := PySem.W.mg_of XX G a3, b_met := b3, a_nearest := f4, d_nearest := _, F_nearest := F4, g_nearest := PySem.W.mg_of XX G a4, b_nearest := b4, a_corner := f5, d_corner := _, F_corner := F5, g_corner := PySem.W.mg_of XX G a5, b_corner := b5, a_has := f6, d_has := _, F_has := F6, g_has := PySem.W.mg_of XX G a6, b_has := b6, a_above_all := f7, d_above_all := _, F_above_all := F7, g_above_all := PySem.W.mg_of XX G a7, b_above_all := b7, a_chain := f8, d_chain := _, F_chain := F8, g_chain := PySem.W.mg_of XX G a8, b_chain := b8, a_meeting := f9, d_meeting := _, F_meeting := F9, g_meeting := PySem.W.mg_of XX G a9, b_meeting := b9, a_spots_of := f10, d_spots_of := _, F_spots_of := F10, g_spots_of := PySem.W.mg_of XX G a10, b_spots_of := b10, a_wire_between := f11, d_wire_between := _, F_wire_between := F11, g_wire_between := PySem.W.mg_of XX G a11, b_wire_between := b11, a_first_short := f12, d_first_short := _, F_first_short := F12, g_first_short := PySem.W.mg_of XX G a12, b_first_short := b12, a_boxes_from_below := f13, d_boxes_from_below := _, F_boxes_from_below := F13, g_boxes_from_below := PySem.W.mg_of XX G a13, b_boxes_from_below := b13, a_boxes_by := f14, d_boxes_by := _, F_boxes_by := F14, g_boxes_by := PySem.W.mg_of XX G a14, b_boxes_by := b14, a_root_in := f15, d_root_in := _, F_root_in := F15, g_root_in := PySem.W.mg_of XX G a15, b_root_in := b15, a_laid_down := f16, d_laid_down := _, F_laid_down := F16, g_laid_down := PySem.W.mg_of XX G a16, b_laid_down := b16, a_laid := f17, d_laid := _, F_laid := F17, g_laid := PySem.W.mg_of XX G a17, b_laid := b17, bd_laid := bd17, a_law_deck := f18, d_law_deck := _, F_law_deck := F18, g_law_deck := PySem.W.mg_of XX G a18, b_law_deck := b18, a_law_take := f19, d_law_take := _, F_law_take := F19, g_law_take := PySem.W.mg_of XX G a19, b_law_take := b19, a_law_place := f20, d_law_place := _, F_law_place := F20, g_law_place := PySem.W.mg_of XX G a20, b_law_place := b20, a_law_ends := f21, d_law_ends := _, F_law_ends := F21, g_law_ends := PySem.W.mg_of XX G a21, b_law_ends := b21, a_law_joining := f22, d_law_joining := _, F_law_joining := F22, g_law_joining := PySem.W.mg_of XX G a22, b_law_joining := b22, a_law_size := f23, d_law_size := _, F_law_size := F23, g_law_size := PySem.W.mg_of XX G a23, b_law_size := b23, a_law_grain := f24, d_law_grain := _, F_law_grain := F24, g_law_grain := PySem.W.mg_of XX G a24, b_law_grain := b24, a_law_far := f25, d_law_far := _, F_law_far := F25, g_law_far := PySem.W.mg_of XX G a25, b_law_far := b25, a_law_spots := f26, d_law_spots := _, F_law_spots := F26, g_law_spots := PySem.W.mg_of XX G a26, b_law_spots := b26, a_law_middle := f27, d_law_middle := _, F_law_middle := F27, g_law_middle := PySem.W.mg_of XX G a27, b_law_middle := b27, a_law_lengths := f28, d_law_lengths := _, F_law_lengths := F28, g_law_lengths := PySem.W.mg_of XX G a28, b_law_lengths := b28, a_law_bent := f29, d_law_bent := _, F_law_bent := F29, g_law_bent := PySem.W.mg_of XX G a29, b_law_bent := b29, a_law_wires := f30, d_law_wires := _, F_law_wires := F30, g_law_wires := PySem.W.mg_of XX G a30, b_law_wires := b30, a_law_short_pairs := f31, d_law_short_pairs := _, F_law_short_pairs := F31, g_law_short_pairs := PySem.W.mg_of XX G a31, b_law_short_pairs := b31, a_law_done := f32, d_law_done := _, F_law_done := F32, g_law_done := PySem.W.mg_of XX G a32, b_law_done := b32, a_law_told := f33, d_law_told := _, F_law_told := F33, g_law_told := PySem.W.mg_of XX G a33, b_law_told := b33, a_law_right := f34, d_law_right := _, F_law_right := F34, g_law_right := PySem.W.mg_of XX G a34, b_law_right := b34, a_law := fa, d_law := _, F_law := F35, g_law := PySem.W.mg_of XX G a35, b_law := b35, m_abs := PySem.W.mg_none_of XX G z_abs, m_bool := PySem.W.mg_none_of XX G z_bool, m_enumerate := PySem.W.mg_none_of XX G z_enumerate, m_int := PySem.W.mg_none_of XX G z_int, m_isinstance := PySem.W.mg_none_of XX G z_isinstance, m_len := PySem.W.mg_none_of XX G z_len, m_list := PySem.W.mg_none_of XX G z_list, m_max := PySem.W.mg_none_of XX G z_max, m_min := PySem.W.mg_none_of XX G z_min, m_range := PySem.W.mg_none_of XX G z_range, m_sorted := PySem.W.mg_none_of XX G z_sorted, m_sum := PySem.W.mg_none_of XX G z_sum, m_tuple := PySem.W.mg_none_of XX G z_tuple, m_ValueError := PySem.W.mg_none_of XX G z_ValueError, x_WireError := x_WireError, x_Full := x_Full, x_NoEnd := x_NoEnd, x_NoPlace := x_NoPlace, x_NoRow := x_NoRow, x_NoText := x_NoText, x_TooMany := x_TooMany, x_Twice := x_Twice, x_NoFit := x_NoFit, oex_NoFit := ⟨⟨_, _, _, _, _, _, _, _, _, _, _, _, _, _, _, lxNoFit, hvNoFit⟩, saNoFit, hsx_NoFit, htx_NoFit, hkx_NoFit⟩, aI_NoFit := fINoFit, dI_NoFit := _, FI_NoFit := FINoFit, bI_NoFit := bINoFit, iC_NoFit := iCNoFit, tI_NoFit := tINoFit, gx_WireError := PySem.W.mg_of XX G hgx_WireError, tx_WireError := htx_WireError, dx_WireError := hdx_WireError, sx_WireError := hsx_WireError, gx_Full := PySem.W.mg_of XX G hgx_Full, tx_Full := htx_Full, dx_Full := hdx_Full, sx_Full := hsx_Full, gx_NoEnd := PySem.W.mg_of XX G hgx_NoEnd, tx_NoEnd := htx_NoEnd, dx_NoEnd := hdx_NoEnd, sx_NoEnd := hsx_NoEnd, gx_NoPlace := PySem.W.mg_of XX G hgx_NoPlace, tx_NoPlace := htx_NoPlace, dx_NoPlace := hdx_NoPlace, sx_NoPlace := hsx_NoPlace, gx_NoRow := PySem.W.mg_of XX G hgx_NoRow, tx_NoRow := htx_NoRow, dx_NoRow := hdx_NoRow, sx_NoRow := hsx_NoRow, gx_NoText := PySem.W.mg_of XX G hgx_NoText, tx_NoText := htx_NoText, dx_NoText := hdx_NoText, sx_NoText := hsx_NoText, gx_TooMany := PySem.W.mg_of XX G hgx_TooMany, tx_TooMany := htx_TooMany, dx_TooMany := hdx_TooMany, sx_TooMany := hsx_TooMany, gx_Twice := PySem.W.mg_of XX G hgx_Twice, tx_Twice := htx_Twice, dx_Twice := hdx_Twice, sx_Twice := hsx_Twice, gx_NoFit := PySem.W.mg_of XX G hgx_NoFit, tx_NoFit := htx_NoFit, dx_NoFit := hdx_NoFit, sx_NoFit := hsx_NoFit, no_NoFit_one := hno_NoFit_one, no_NoFit_other := hno_NoFit_other, sg_WireError := hsg_WireError, rd_WireError := hrd_WireError, vV_WireError := hvV_WireError, kx_NoFit := hkx_NoFit, e1_NoFit := he1_NoFit, e2_NoFit := he2_NoFit, e3_NoFit := he3_NoFit, e4_NoFit := he4_NoFit, e5_NoFit := he5_NoFit, e6_NoFit := he6_NoFit, u_NoFit_WireError := hu_NoFit_WireError, u_NoFit_Full := hu_NoFit_Full, u_NoFit_NoEnd := hu_NoFit_NoEnd, u_NoFit_NoPlace := hu_NoFit_NoPlace, u_NoFit_NoRow := hu_NoFit_NoRow, u_NoFit_NoText := hu_NoFit_NoText, u_NoFit_TooMany := hu_NoFit_TooMany, u_NoFit_Twice := hu_NoFit_Twice, u_NoFit_NoFit := hu_NoFit_NoFit, u_NoFit_ValueError := hu_NoFit_ValueError, kx_NoPlace := hkx_NoPlace, qx_NoPlace := hqx_NoPlace, e1_NoPlace := he1_NoPlace, e2_NoPlace := he2_NoPlace, e3_NoPlace := he3_NoPlace, e4_NoPlace := he4_NoPlace, e5_NoPlace := he5_NoPlace, e6_NoPlace := he6_NoPlace, u_NoPlace_WireError := hu_NoPlace_WireError, u_NoPlace_Full := hu_NoPlace_Full, u_NoPlace_NoEnd := hu_NoPlace_NoEnd, u_NoPlace_NoPlace := hu_NoPlace_NoPlace, u_NoPlace_NoRow := hu_NoPlace_NoRow, u_NoPlace_NoText := hu_NoPlace_NoText, u_NoPlace_TooMany := hu_NoPlace_TooMany, u_NoPlace_Twice := hu_NoPlace_Twice, u_NoPlace_NoFit := hu_NoPlace_NoFit, u_NoPlace_ValueError := hu_NoPlace_ValueError } : T K mg)⟩
end Lw
open PySem PySem.W PyProof.Rows
set_option maxHeartbeats 0 in
theorem PySem.Challenge.cw_equalwires_k32_which_two_do_not_fit_holds : PySem.Challenge.rw_equalwires_k32_which_two_do_not_fit.Holds := by
  w_on; o_law; k_head; (case hw => w_witness2)
  k_fill
  refine L2.walk_of (l := PySem.Challenge.rw_equalwires_k32_which_two_do_not_fit) (n := 63) (k := 10) (x := "_law_script") (CX := fun _ => L2.CX0) (sp := fun w => Wk.spOf _ 1 Wk.spLaw) rfl (by decide) rfl ⟨rfl, by decide, by decide⟩ (fun w h Y => PySem.W.kIn_of Y) ?F (fun _ H a ns hl hO hS => Wk.law_sp _ H a ns hl hO hS) (fun _ _ _ _ _ h => h)
  case F =>
    intro w mg fa h KX G hmg
    refine' Lw.all_mk KX G hmg ?a0 ?l0 ?c0 ?k0 ?a1 ?l1 ?c1 ?k1 ?a2 ?l2 ?c2 ?k2 ?a3 ?l3 ?c3 ?k3 ?a4 ?l4 ?c4 ?k4 ?a5 ?l5 ?c5 ?k5 ?a6 ?l6 ?c6 ?k6 ?a7 ?l7 ?c7 ?k7 ?a8 ?l8 ?c8 ?k8 ?a9 ?l9 ?c9 ?k9 ?a10 ?l10 ?c10 ?k10 ?a11 ?l11 ?c11 ?k11 ?a12 ?l12 ?c12 ?k12 ?a13 ?l13 ?c13 ?k13 ?a14 ?l14 ?c14 ?k14 ?a15 ?l15 ?c15 ?k15 ?a16 ?l16 ?c16 ?k16 ?a17 ?l17 ?c17 ?k17 ?t17 ?a18 ?l18 ?c18 ?k18 ?a19 ?l19 ?c19 ?k19 ?a20 ?l20 ?c20 ?k20 ?a21 ?l21 ?c21 ?k21 ?a22 ?l22 ?c22 ?k22 ?a23 ?l23 ?c23 ?k23 ?a24 ?l24 ?c24 ?k24 ?a25 ?l25 ?c25 ?k25 ?a26 ?l26 ?c26 ?k26 ?a27 ?l27 ?c27 ?k27 ?a28 ?l28 ?c28 ?k28 ?a29 ?l29 ?c29 ?k29 ?a30 ?l30 ?c30 ?k30 ?a31 ?l31 ?c31 ?k31 ?a32 ?l32 ?c32 ?k32 ?a33 ?l33 ?c33 ?k33 ?a34 ?l34 ?c34 ?k34 ?a35 ?l35 ?c35 ?k35 ?z_abs ?z_bool ?z_enumerate ?z_int ?z_isinstance ?z_len ?z_list ?z_max ?z_min ?z_range ?z_sorted ?z_sum ?z_tuple ?z_ValueError ?hgx_WireError ?htx_WireError ?hdx_WireError ?hsx_WireError ?hgx_Full ?htx_Full ?hdx_Full ?hsx_Full ?hgx_NoEnd ?htx_NoEnd ?hdx_NoEnd ?hsx_NoEnd ?hgx_NoPlace ?htx_NoPlace ?hdx_NoPlace ?hsx_NoPlace ?hgx_NoRow ?htx_NoRow ?hdx_NoRow ?hsx_NoRow ?hgx_NoText ?htx_NoText ?hdx_NoText ?hsx_NoText ?hgx_TooMany ?htx_TooMany ?hdx_TooMany ?hsx_TooMany ?hgx_Twice ?htx_Twice ?hdx_Twice ?hsx_Twice ?hgx_NoFit ?htx_NoFit ?hdx_NoFit ?hsx_NoFit ?hno_NoFit_one ?hno_NoFit_other ?hsg_WireError ?hrd_WireError ?hvV_WireError ?hkx_NoFit ?he1_NoFit ?he2_NoFit ?he3_NoFit ?he4_NoFit ?he5_NoFit ?he6_NoFit ?hu_NoFit_WireError ?hu_NoFit_Full ?hu_NoFit_NoEnd ?hu_NoFit_NoPlace ?hu_NoFit_NoRow ?hu_NoFit_NoText ?hu_NoFit_TooMany ?hu_NoFit_Twice ?hu_NoFit_NoFit ?hu_NoFit_ValueError ?hkx_NoPlace ?hqx_NoPlace ?he1_NoPlace ?he2_NoPlace ?he3_NoPlace ?he4_NoPlace ?he5_NoPlace ?he6_NoPlace ?hu_NoPlace_WireError ?hu_NoPlace_Full ?hu_NoPlace_NoEnd ?hu_NoPlace_NoPlace ?hu_NoPlace_NoRow ?hu_NoPlace_NoText ?hu_NoPlace_TooMany ?hu_NoPlace_Twice ?hu_NoPlace_NoFit ?hu_NoPlace_ValueError ?lxNoFit ?hvNoFit ?saNoFit ?iCNoFit ?lINoFit ?cINoFit ?kINoFit ?tINoFit
    (case a0 => k_is); (case l0 => k_is); (case c0 => k_is); (case k0 => k_is); (case a1 => k_is); (case l1 => k_is); (case c1 => k_is); (case k1 => k_is); (case a2 => k_is); (case l2 => k_is); (case c2 => k_is); (case k2 => k_is); (case a3 => k_is); (case l3 => k_is); (case c3 => k_is); (case k3 => k_is); (case a4 => k_is); (case l4 => k_is); (case c4 => k_is); (case k4 => k_is); (case a5 => k_is); (case l5 => k_is); (case c5 => k_is); (case k5 => k_is); (case a6 => k_is); (case l6 => k_is); (case c6 => k_is); (case k6 => k_is); (case a7 => k_is); (case l7 => k_is); (case c7 => k_is); (case k7 => k_is); (case a8 => k_is); (case l8 => k_is); (case c8 => k_is); (case k8 => k_is); (case a9 => k_is); (case l9 => k_is); (case c9 => k_is); (case k9 => k_is); (case a10 => k_is); (case l10 => k_is); (case c10 => k_is); (case k10 => k_is); (case a11 => k_is); (case l11 => k_is); (case c11 => k_is); (case k11 => k_is); (case a12 => k_is); (case l12 => k_is); (case c12 => k_is); (case k12 => k_is); (case a13 => k_is); (case l13 => k_is); (case c13 => k_is); (case k13 => k_is); (case a14 => k_is); (case l14 => k_is); (case c14 => k_is); (case k14 => k_is); (case a15 => k_is); (case l15 => k_is); (case c15 => k_is); (case k15 => k_is); (case a16 => k_is); (case l16 => k_is); (case c16 => k_is); (case k16 => k_is); (case a17 => k_is); (case l17 => k_is); (case c17 => k_is); (case k17 => k_is); (case t17 => k_is); (case a18 => k_is); (case l18 => k_is); (case c18 => k_is); (case k18 => k_is); (case a19 => k_is); (case l19 => k_is); (case c19 => k_is); (case k19 => k_is); (case a20 => k_is); (case l20 => k_is); (case c20 => k_is); (case k20 => k_is); (case a21 => k_is); (case l21 => k_is); (case c21 => k_is); (case k21 => k_is); (case a22 => k_is); (case l22 => k_is); (case c22 => k_is); (case k22 => k_is); (case a23 => k_is); (case l23 => k_is); (case c23 => k_is); (case k23 => k_is); (case a24 => k_is); (case l24 => k_is); (case c24 => k_is); (case k24 => k_is); (case a25 => k_is); (case l25 => k_is); (case c25 => k_is); (case k25 => k_is); (case a26 => k_is); (case l26 => k_is); (case c26 => k_is); (case k26 => k_is); (case a27 => k_is); (case l27 => k_is); (case c27 => k_is); (case k27 => k_is); (case a28 => k_is); (case l28 => k_is); (case c28 => k_is); (case k28 => k_is); (case a29 => k_is); (case l29 => k_is); (case c29 => k_is); (case k29 => k_is); (case a30 => k_is); (case l30 => k_is); (case c30 => k_is); (case k30 => k_is); (case a31 => k_is); (case l31 => k_is); (case c31 => k_is); (case k31 => k_is); (case a32 => k_is); (case l32 => k_is); (case c32 => k_is); (case k32 => k_is); (case a33 => k_is); (case l33 => k_is); (case c33 => k_is); (case k33 => k_is); (case a34 => k_is); (case l34 => k_is); (case c34 => k_is); (case k34 => k_is); (case a35 => k_is); (case l35 => k_is); (case c35 => k_is); (case k35 => k_is); (case z_abs => k_is); (case z_bool => k_is); (case z_enumerate => k_is); (case z_int => k_is); (case z_isinstance => k_is); (case z_len => k_is); (case z_list => k_is); (case z_max => k_is); (case z_min => k_is); (case z_range => k_is); (case z_sorted => k_is); (case z_sum => k_is); (case z_tuple => k_is); (case z_ValueError => k_is); (case hgx_WireError => k_is); (case htx_WireError => k_is); (case hdx_WireError => k_is); (case hsx_WireError => k_is); (case hgx_Full => k_is); (case htx_Full => k_is); (case hdx_Full => k_is); (case hsx_Full => k_is); (case hgx_NoEnd => k_is); (case htx_NoEnd => k_is); (case hdx_NoEnd => k_is); (case hsx_NoEnd => k_is); (case hgx_NoPlace => k_is); (case htx_NoPlace => k_is); (case hdx_NoPlace => k_is); (case hsx_NoPlace => k_is); (case hgx_NoRow => k_is); (case htx_NoRow => k_is); (case hdx_NoRow => k_is); (case hsx_NoRow => k_is); (case hgx_NoText => k_is); (case htx_NoText => k_is); (case hdx_NoText => k_is); (case hsx_NoText => k_is); (case hgx_TooMany => k_is); (case htx_TooMany => k_is); (case hdx_TooMany => k_is); (case hsx_TooMany => k_is); (case hgx_Twice => k_is); (case htx_Twice => k_is); (case hdx_Twice => k_is); (case hsx_Twice => k_is); (case hgx_NoFit => k_is); (case htx_NoFit => k_is); (case hdx_NoFit => k_is); (case hsx_NoFit => k_is); (case hno_NoFit_one => k_is); (case hno_NoFit_other => k_is); (case hsg_WireError => k_is); (case hrd_WireError => k_is); (case hvV_WireError => first | k_is | rfl | decide +kernel); (case hkx_NoFit => k_is); (case he1_NoFit => k_is); (case he2_NoFit => k_is); (case he3_NoFit => k_is); (case he4_NoFit => k_is); (case he5_NoFit => k_is); (case he6_NoFit => k_is); (case hu_NoFit_WireError => first | k_is | rfl); (case hu_NoFit_Full => first | k_is | rfl); (case hu_NoFit_NoEnd => first | k_is | rfl); (case hu_NoFit_NoPlace => first | k_is | rfl); (case hu_NoFit_NoRow => first | k_is | rfl); (case hu_NoFit_NoText => first | k_is | rfl); (case hu_NoFit_TooMany => first | k_is | rfl); (case hu_NoFit_Twice => first | k_is | rfl); (case hu_NoFit_NoFit => first | k_is | rfl); (case hu_NoFit_ValueError => first | k_is | rfl); (case hkx_NoPlace => k_is); (case hqx_NoPlace => k_exc); (case he1_NoPlace => k_is); (case he2_NoPlace => k_is); (case he3_NoPlace => k_is); (case he4_NoPlace => k_is); (case he5_NoPlace => k_is); (case he6_NoPlace => k_is); (case hu_NoPlace_WireError => first | k_is | rfl); (case hu_NoPlace_Full => first | k_is | rfl); (case hu_NoPlace_NoEnd => first | k_is | rfl); (case hu_NoPlace_NoPlace => first | k_is | rfl); (case hu_NoPlace_NoRow => first | k_is | rfl); (case hu_NoPlace_NoText => first | k_is | rfl); (case hu_NoPlace_TooMany => first | k_is | rfl); (case hu_NoPlace_Twice => first | k_is | rfl); (case hu_NoPlace_NoFit => first | k_is | rfl); (case hu_NoPlace_ValueError => first | k_is | rfl); (case lxNoFit => first | k_is | rfl | decide +kernel); (case hvNoFit => first | k_is | rfl | decide +kernel); (case saNoFit => first | k_is | rfl | decide +kernel); (case iCNoFit => first | k_is | rfl | decide +kernel); (case lINoFit => first | k_is | rfl | decide +kernel); (case cINoFit => k_is); (case kINoFit => k_is); (case tINoFit => k_is)
