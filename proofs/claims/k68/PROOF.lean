import PyProof.Rows.All
import Wide.All
import OpenK.AllK
import Wide.FinOn
import HandS.ForMost
import HandS.Wide
import HandS.IsInst
import HandS.TupAny
import PyProof.MaxThree
import KE.KTupSum
import HandS.More
import KE.GoesMore
import KE.KRevSl
import HandS.Style
import HandS.Conv
import HandS.SortInts
import HandS.SetFor
import HandS.Strs
import HandS.NoneIn
import HandS.Zip
import HandS.WideBits
import HandS.Dict
import HandS.Defaults
import HandS.RevRange
import HandS.FStrTup
import HandS.Iter
import HandS.TupMul
import PyProof.EqAt
import PyProof.NeData
import PyProof.NeKinds
import PyProof.StrLawsRepr
import PySem.Challenge.RW_equalwires_k68_spoilt_layers
set_option Elab.async false
set_option linter.all false
set_option maxRecDepth 100000
/-! Wk: a layer above the hand layer in which immutable data are trees and the heap is out of sight. -/
namespace Wk
open PySem PySem.Spec L2

/-- a list that is known to the object, or written: it stands still -/
def SqF (K : PySem.W.Frag) (H : Hp) (a : Addr) (xs : List V) : Prop := (∃ o, H a = some (.frz o (.lst xs))) ∨
    ∃ (o : Obj) (its : Array Value) (n : Nat), K.lookup a = some o ∧ o.cls = .type "list" ∧ o.dict = none ∧ o.data = .seq its n ∧ its.size ≤ sizeLine ∧ Vals xs its.toList
theorem SqF.sql {K : PySem.W.Frag} {H : Hp} {a : Addr} {xs : List V} (h : SqF K H a xs) : SqL K H a xs := by
  rcases h with ⟨o, h⟩ | h
  · exact .inl (.inr ⟨o, h⟩)
  · exact .inr h
/-- a tuple that stands in the heap -/
def TpA (K : PySem.W.Frag) (H : Hp) (a : Addr) (xs : List V) : Prop := H a = some (.tup xs)
theorem TpA.sqt {K : PySem.W.Frag} {H : Hp} {a : Addr} {xs : List V} (h : TpA K H a xs) : SqT K H a xs := .inl (.inl h)
instance {K : PySem.W.Frag} {H : Hp} {a : Addr} {xs : List V} : Coe (TpA K H a xs) (SqT K H a xs) := ⟨TpA.sqt⟩
/-- data: None, truths, numbers, texts, tuples of data; what has an identity: its address -/
inductive D where
  | non | bl (b : Bool) | int (i : Int) | str (x : Str) | tup (ds : List D) | ref (a : Addr) | ty (n : String) | scr (ns : List Int)
  | lis (ds : List D) | dct (ks : List Key) (ds : List D)

/-- what may change: a list, a dict, a deck (its keys behind "cells", where its cells are), a deck that is a list of four (where its cells are) -/
inductive M where
  | lst (ds : List D) | dic (kvs : List (Key × D)) | deck (ks : List Str) (c : Addr) | ldk (c : Addr)
  | hid (I : List Int → Prop) | lkc (I : List Int → Prop) (c : Addr) | dit (kvs : List (List Key × D)) | obj (C dx : Addr) (fs : List (Str × D)) | xdt (fs : List (Str × D))

abbrev Mu := List (Addr × M)
abbrev Dl := List (Option D)

section
variable (K : PySem.W.Frag) (H : Hp)
mutual
inductive Den : V → D → Prop
  | non : Den .non .non
  | bl (b : Bool) : Den (.bl b) (.bl b)
  | int (i : Int) : Den (.int i) (.int i)
  | str (x : Str) : Den (.str x) (.str x)
  | ref (a : Addr) : Den (.ref a) (.ref a)
  | ty (n : String) : Den (.ty n) (.ty n)
  | tup {a : Addr} {vs : List V} {ds : List D} : TpA K H a vs → DenL vs ds → Den (.ref a) (.tup ds)
  | scr {a : Addr} {ns : List Int} : SqF K H a (ns.map V.int) → Den (.ref a) (.scr ns)
  | lis {a : Addr} {o : Obj} {vs : List V} {ds : List D} : H a = some (.frz o (.lst vs)) → DenL vs ds → Den (.ref a) (.lis ds)
  | dct {a : Addr} {o : Obj} {kvs : List (Key × V)} {ks : List Key} {ds : List D} : H a = some (.frz o (.dK kvs)) → kvs.map (·.1) = ks → DenL (kvs.map (·.2)) ds → Den (.ref a) (.dct ks ds)
inductive DenL : List V → List D → Prop
  | nil : DenL [] []
  | cons {v : V} {vs : List V} {d : D} {ds : List D} : Den v d → DenL vs ds → DenL (v :: vs) (d :: ds)
end
/-- a dict's pairs -/
inductive DenK : List (Key × V) → List (Key × D) → Prop
  | nil : DenK [] []
  | cons {k : Key} {v : V} {d : D} {kvs : List (Key × V)} {kds : List (Key × D)} : Den K H v d → DenK kvs kds → DenK ((k, v) :: kvs) ((k, d) :: kds)
/-- pairs: of a dict whose keys are tuples, of an instance's fields -/
inductive DenP {κ : Type} : List (κ × V) → List (κ × D) → Prop
  | nil : DenP [] []
  | cons {k : κ} {v : V} {d : D} {kvs : List (κ × V)} {kds : List (κ × D)} : Den K H v d → DenP kvs kds → DenP ((k, v) :: kvs) ((k, d) :: kds)
def deckKvs (ks : List Str) (ns : List Int) (c : Addr) : List (Key × V) := (Sum.inr "cells", .ref c) :: (ks.zip ns).map fun p => (Sum.inr p.1, .int p.2)
def deckKds (ks : List Str) (ns : List Int) (c : Addr) : List (Key × D) := (Sum.inr "cells", .ref c) :: (ks.zip ns).map fun p => (Sum.inr p.1, .int p.2)
def MOk (a : Addr) : M → Prop
  | .lst ds => ∃ vs, H a = some (.lst vs) ∧ DenL K H vs ds
  | .dic kds => ∃ kvs, H a = some (.dK kvs) ∧ DenK K H kvs kds
  | .deck ks c => ∃ (ns cs : List Int), (ns.length = ks.length ∧ ∀ n ∈ ns, 0 ≤ n) ∧ cs.length ≤ 63 ∧ H a = some (.dK (deckKvs ks ns c)) ∧ H c = some (.lst (cs.map V.int))
  | .ldk c => ∃ (x y z : Int) (cs : List Int), 0 ≤ z ∧ cs.length ≤ 63 ∧ H a = some (.lst [.ref c, .int x, .int y, .int z]) ∧ H c = some (.lst (cs.map V.int))
  | .hid I => ∃ ns : List Int, I ns ∧ H a = some (.lst (ns.map V.int))
  | .dit kds => ∃ kvs, H a = some (.dT kvs) ∧ DenP K H kvs kds
  | .obj C dx fs => ∃ vs, H a = some (.ins C dx vs) ∧ H dx = some (.own a) ∧ DenP K H vs fs
  | .xdt fs => ∃ vs, H a = some (.xd vs) ∧ DenP K H vs fs
  | .lkc I c => ∃ ns cs : List Int, I ns ∧ cs.length ≤ 63 ∧ H a = some (.lst (.ref c :: ns.map V.int)) ∧ H c = some (.lst (cs.map V.int))
end
def M.own : M → List Addr
  | .deck _ c => [c]
  | .ldk c => [c]
  | .lkc _ c => [c]
  | .obj _ dx _ => [dx]
  | _ => []
def foot : Mu → List Addr
  | [] => []
  | p :: μ => p.1 :: (p.2.own ++ foot μ)
structure OkM (K : PySem.W.Frag) (H : Hp) (μ : Mu) : Prop where
  nd : (foot μ).Nodup
  ok : ∀ p ∈ μ, MOk K H p.1 p.2
def Sg (K : PySem.W.Frag) (H : Hp) (σ : St) (δ : Dl) : Prop := ∀ (i : Nat) (d : D), δ[i]? = some (some d) → ∃ v, σ[i]? = some (some v) ∧ Den K H v d
structure Ok (K : PySem.W.Frag) (H : Hp) (σ : St) (δ : Dl) (μ : Mu) : Prop where
  m : OkM K H μ
  s : Sg K H σ δ
  l : σ.length = δ.length
/-- all but the footprint stands; the footprint grows by what is new -/
structure Step (μ : Mu) (H : Hp) (μ' : Mu) (H' : Hp) : Prop where
  keep : ∀ a o, H a = some o → a ∉ foot μ → H' a = some o
  grow : ∀ a ∈ foot μ', a ∈ foot μ ∨ H a = none
theorem Step.refl {μ : Mu} {H : Hp} : Step μ H μ H := ⟨fun _ _ h _ => h, fun _ h => .inl h⟩
theorem Step.trans {μ μ1 μ2 : Mu} {H H1 H2 : Hp} (a : Step μ H μ1 H1) (b : Step μ1 H1 μ2 H2) : Step μ H μ2 H2 where
  keep := fun x o h n => b.keep x o (a.keep x o h n) fun z => by
    rcases a.grow x z with z | z
    · exact n z
    · rw [h] at z; cases z
  grow := fun x z => by
    rcases b.grow x z with z | z
    · exact a.grow x z
    · by_cases hx : x ∈ foot μ
      · exact .inl hx
      · cases q : H x with
        | none => exact .inr rfl
        | some o =>
          rw [a.keep x o q hx] at z; cases z
section
variable {K : PySem.W.Frag} {H H' : Hp} {μ μ' : Mu} {σ : St} {δ : Dl}
/-- at a footprint's address stands a list or a dict -/
def isMt : HO → Bool
  | .lst _ => true | .dK _ => true | .dT _ => true | .ins _ _ _ => true | .own _ => true | .xd _ => true | _ => false
theorem foot_mt : ∀ {μ : Mu}, (∀ p ∈ μ, MOk K H p.1 p.2) → ∀ a ∈ foot μ, ∃ o, H a = some o ∧ isMt o = true
  | [], _, a, h => by cases h
  | p :: μ, ok, a, h => by
    have hp := ok p List.mem_cons_self
    rcases List.mem_cons.mp h with e | h
    · subst e
      obtain ⟨x, m⟩ := p
      cases m with
      | lst ds => obtain ⟨vs, e, _⟩ := hp; exact ⟨_, e, rfl⟩
      | dic ks => obtain ⟨vs, e, _⟩ := hp; exact ⟨_, e, rfl⟩
      | deck ks c => obtain ⟨_, _, _, _, e, _⟩ := hp; exact ⟨_, e, rfl⟩
      | ldk c => obtain ⟨_, _, _, _, _, _, e, _⟩ := hp; exact ⟨_, e, rfl⟩
      | hid I => obtain ⟨_, _, e⟩ := hp; exact ⟨_, e, rfl⟩
      | dit ks => obtain ⟨_, e, _⟩ := hp; exact ⟨_, e, rfl⟩
      | obj C dx fs => obtain ⟨_, e, _⟩ := hp; exact ⟨_, e, rfl⟩
      | xdt fs => obtain ⟨_, e, _⟩ := hp; exact ⟨_, e, rfl⟩
      | lkc I c => obtain ⟨_, _, _, _, e, _⟩ := hp; exact ⟨_, e, rfl⟩
    · rcases List.mem_append.mp h with h | h
      · obtain ⟨x, m⟩ := p
        cases m with
        | lst ds => cases h
        | dic ks => cases h
        | deck ks c =>
          obtain ⟨_, _, _, _, _, e⟩ := hp
          rcases List.mem_singleton.mp h with rfl
          exact ⟨_, e, rfl⟩
        | ldk c =>
          obtain ⟨_, _, _, _, _, _, _, e⟩ := hp
          rcases List.mem_singleton.mp h with rfl
          exact ⟨_, e, rfl⟩
        | hid I => cases h
        | dit ks => cases h
        | xdt fs => cases h
        | obj C dx fs =>
          obtain ⟨_, _, e, _⟩ := hp
          rcases List.mem_singleton.mp h with rfl
          exact ⟨_, e, rfl⟩
        | lkc I c =>
          obtain ⟨_, _, _, _, _, e⟩ := hp
          rcases List.mem_singleton.mp h with rfl
          exact ⟨_, e, rfl⟩
      · exact foot_mt (fun q hq => ok q (List.mem_cons_of_mem _ hq)) a h
theorem OkM.rd (h : OkM K H μ) {a : Addr} {o : HO} (e : H a = some o) (ho : isMt o = false) : a ∉ foot μ := fun z => by
  obtain ⟨u, e2, m⟩ := foot_mt h.ok a z
  rw [e] at e2; cases e2; rw [ho] at m; cases m
theorem tpA_step (h : OkM K H μ) (st : Step μ H μ' H') {a : Addr} {vs : List V} (q : TpA K H a vs) : TpA K H' a vs := st.keep _ _ q (h.rd q rfl)
theorem sqT_step (h : OkM K H μ) (st : Step μ H μ' H') {a : Addr} {vs : List V} (q : SqT K H a vs) : SqT K H' a vs := by
  rcases q with (q | ⟨o, q⟩) | q
  · exact .inl (.inl (st.keep _ _ q (h.rd q rfl)))
  · exact .inl (.inr ⟨o, st.keep _ _ q (h.rd q rfl)⟩)
  · exact .inr q
/-- what is needed of the heap by data -/
def Ps (K : PySem.W.Frag) (H H' : Hp) : Prop := (∀ a vs, TpA K H a vs → TpA K H' a vs) ∧ (∀ a vs, SqF K H a vs → SqF K H' a vs) ∧ ∀ a o u, H a = some (.frz o u) → H' a = some (.frz o u)
theorem ps_step (h : OkM K H μ) (st : Step μ H μ' H') : Ps K H H' := ⟨fun _ _ => tpA_step h st, fun a vs q => by
  rcases q with ⟨o, q⟩ | q
  · exact .inl ⟨o, st.keep _ _ q (h.rd q rfl)⟩
  · exact .inr q, fun a o u q => st.keep _ _ q (h.rd q rfl)⟩
mutual
theorem Den.step' (h : Ps K H H') : ∀ {d : D} {v : V}, Den K H v d → Den K H' v d
  | _, _, .non => .non
  | _, _, .bl b => .bl b
  | _, _, .int b => .int b
  | _, _, .str b => .str b
  | _, _, .ref b => .ref b
  | _, _, .ty b => .ty b
  | _, _, .tup q r => .tup (h.1 _ _ q) (DenL.step' h r)
  | _, _, .scr q => .scr (h.2.1 _ _ q)
  | _, _, .lis q r => .lis (h.2.2 _ _ _ q) (DenL.step' h r)
  | _, _, .dct q e r => .dct (h.2.2 _ _ _ q) e (DenL.step' h r)
theorem DenL.step' (h : Ps K H H') : ∀ {ds : List D} {vs : List V}, DenL K H vs ds → DenL K H' vs ds
  | _, _, .nil => .nil
  | _, _, .cons a b => .cons (Den.step' h a) (DenL.step' h b)
end
theorem DenK.step' (h : Ps K H H') : ∀ {ds : List (Key × D)} {vs : List (Key × V)}, DenK K H vs ds → DenK K H' vs ds
  | _, _, .nil => .nil
  | _, _, .cons a b => .cons (Den.step' h a) (DenK.step' h b)
theorem DenP.step' {κ : Type} (h : Ps K H H') : ∀ {ds : List (κ × D)} {vs : List (κ × V)}, DenP K H vs ds → DenP K H' vs ds
  | _, _, .nil => .nil
  | _, _, .cons a b => .cons (Den.step' h a) (DenP.step' h b)
theorem Den.step (h : OkM K H μ) (st : Step μ H μ' H') {v : V} {d : D} (q : Den K H v d) : Den K H' v d := Den.step' (ps_step h st) q
theorem DenL.step (h : OkM K H μ) (st : Step μ H μ' H') {v : List V} {d : List D} (q : DenL K H v d) : DenL K H' v d := DenL.step' (ps_step h st) q
theorem DenL.length : ∀ {vs : List V} {ds : List D}, DenL K H vs ds → vs.length = ds.length
  | _, _, .nil => rfl
  | _, _, .cons _ b => congrArg (· + 1) b.length
theorem DenL.get : ∀ {vs : List V} {ds : List D} {i : Nat} {d : D}, DenL K H vs ds → ds[i]? = some d → ∃ v, vs[i]? = some v ∧ Den K H v d
  | _, _, _, _, .nil, e => by simp at e
  | _, _, 0, _, .cons r _, e => by simp at e; subst e; exact ⟨_, rfl, r⟩
  | _, _, i + 1, d, .cons _ t, e => by
    obtain ⟨u, h1, h2⟩ := DenL.get (i := i) (d := d) t (by simpa using e)
    exact ⟨u, by simpa using h1, h2⟩
theorem DenL.get' : ∀ {vs : List V} {ds : List D} {i : Nat} {v : V}, DenL K H vs ds → vs[i]? = some v → ∃ d, ds[i]? = some d ∧ Den K H v d
  | _, _, _, _, .nil, e => by simp at e
  | _, _, 0, _, .cons r _, e => by simp at e; subst e; exact ⟨_, rfl, r⟩
  | _, _, i + 1, d, .cons _ t, e => by
    obtain ⟨u, h1, h2⟩ := DenL.get' (i := i) (v := d) t (by simpa using e)
    exact ⟨u, by simpa using h1, h2⟩
theorem DenL.append : ∀ {xs ys : List V} {us ws : List D}, DenL K H xs us → DenL K H ys ws → DenL K H (xs ++ ys) (us ++ ws)
  | _, _, _, _, .nil, s => s
  | _, _, _, _, .cons r t, s => .cons r (DenL.append t s)
theorem DenL.take : ∀ {xs : List V} {us : List D} (n : Nat), DenL K H xs us → DenL K H (xs.take n) (us.take n)
  | _, _, 0, _ => .nil
  | _, _, _ + 1, .nil => .nil
  | _, _, n + 1, .cons r t => .cons r (DenL.take n t)
theorem DenL.drop : ∀ {xs : List V} {us : List D} (n : Nat), DenL K H xs us → DenL K H (xs.drop n) (us.drop n)
  | _, _, 0, r => r
  | _, _, _ + 1, .nil => .nil
  | _, _, n + 1, .cons _ t => DenL.drop n t
theorem DenL.set {x : V} {u : D} (r : Den K H x u) : ∀ {xs : List V} {us : List D} (i : Nat), DenL K H xs us → DenL K H (xs.set i x) (us.set i u)
  | _, _, _, .nil => .nil
  | _, _, 0, .cons _ t => .cons r t
  | _, _, i + 1, .cons q t => .cons q (DenL.set r i t)
theorem DenL.eraseIdx : ∀ {xs : List V} {us : List D} (i : Nat), DenL K H xs us → DenL K H (xs.eraseIdx i) (us.eraseIdx i)
  | _, _, _, .nil => .nil
  | _, _, 0, .cons _ t => t
  | _, _, i + 1, .cons q t => .cons q (DenL.eraseIdx i t)
theorem DenL.dropLast {xs : List V} {us : List D} (h : DenL K H xs us) : DenL K H xs.dropLast us.dropLast := by
  rw [List.dropLast_eq_take, List.dropLast_eq_take, h.length]; exact h.take _
theorem DenL.reverse : ∀ {xs : List V} {us : List D}, DenL K H xs us → DenL K H xs.reverse us.reverse
  | _, _, .nil => .nil
  | _, _, .cons r t => by rw [List.reverse_cons, List.reverse_cons]; exact DenL.append (DenL.reverse t) (.cons r .nil)
theorem DenL.ints : ∀ {vs : List V} {ns : List Int}, DenL K H vs (ns.map D.int) → vs = ns.map V.int
  | vs, [], h => by cases h; rfl
  | vs, n :: ns, h => by
    cases h with
    | cons a b => cases a; rw [DenL.ints b]; rfl
theorem DenL.of_ints : ∀ (ns : List Int), DenL K H (ns.map V.int) (ns.map D.int)
  | [] => .nil
  | n :: ns => .cons (.int n) (DenL.of_ints ns)
theorem DenL.bls : ∀ {vs : List V} {ns : List Bool}, DenL K H vs (ns.map D.bl) → vs = ns.map V.bl
  | vs, [], h => by cases h; rfl
  | vs, n :: ns, h => by
    cases h with
    | cons a b => cases a; rw [DenL.bls b]; rfl

/-- an entry elsewhere in the heap is kept -/
theorem MOk.keep {a : Addr} {m : M} (q : MOk K H a m) (k : ∀ b o, (b = a ∨ b ∈ m.own) → H b = some o → H' b = some o) (h : Ps K H H') : MOk K H' a m := by
  cases m with
  | lst ds => obtain ⟨vs, e, r⟩ := q; exact ⟨vs, k _ _ (.inl rfl) e, DenL.step' h r⟩
  | dic ds => obtain ⟨vs, e, r⟩ := q; exact ⟨vs, k _ _ (.inl rfl) e, DenK.step' h r⟩
  | deck ks c => obtain ⟨ns, cs, z, z2, e1, e2⟩ := q; exact ⟨ns, cs, z, z2, k _ _ (.inl rfl) e1, k _ _ (.inr (List.mem_singleton.mpr rfl)) e2⟩
  | ldk c => obtain ⟨x, y, z, cs, z1, z2, e1, e2⟩ := q; exact ⟨x, y, z, cs, z1, z2, k _ _ (.inl rfl) e1, k _ _ (.inr (List.mem_singleton.mpr rfl)) e2⟩
  | hid I => obtain ⟨ns, z, e⟩ := q; exact ⟨ns, z, k _ _ (.inl rfl) e⟩
  | dit ds => obtain ⟨vs, e, r⟩ := q; exact ⟨vs, k _ _ (.inl rfl) e, DenP.step' h r⟩
  | obj C dx fs => obtain ⟨vs, e1, e2, r⟩ := q; exact ⟨vs, k _ _ (.inl rfl) e1, k _ _ (.inr (List.mem_singleton.mpr rfl)) e2, DenP.step' h r⟩
  | xdt ds => obtain ⟨vs, e, r⟩ := q; exact ⟨vs, k _ _ (.inl rfl) e, DenP.step' h r⟩
  | lkc I c => obtain ⟨ns, cs, z, z2, e1, e2⟩ := q; exact ⟨ns, cs, z, z2, k _ _ (.inl rfl) e1, k _ _ (.inr (List.mem_singleton.mpr rfl)) e2⟩
theorem mem_foot {μ : Mu} {p : Addr × M} (h : p ∈ μ) : ∀ b, (b = p.1 ∨ b ∈ p.2.own) → b ∈ foot μ := by
  induction μ with
  | nil => cases h
  | cons q μ ih =>
    intro b hb
    rcases List.mem_cons.mp h with e | h
    · subst e
      rcases hb with e | e
      · rw [e]; exact List.mem_cons_self
      · exact List.mem_cons_of_mem _ (List.mem_append_left _ e)
    · exact List.mem_cons_of_mem _ (List.mem_append_right _ (ih h b hb))
/-- behind a step: the slots -/
theorem Ok.step (h : Ok K H σ δ μ) (st : Step μ H μ' H') (m : OkM K H' μ') : Ok K H' σ δ μ' :=
  ⟨m, fun i d e => let ⟨v, e1, q⟩ := h.s i d e; ⟨v, e1, q.step h.m st⟩, h.l⟩
theorem Ok.set (h : Ok K H σ δ μ) {v : V} {d : D} (q : Den K H v d) (i : Nat) : Ok K H (σ.set i (some v)) (δ.set i (some d)) μ :=
  ⟨h.m, fun j e z => by
    rw [List.getElem?_set] at z
    rw [List.getElem?_set]
    by_cases c : i = j
    · rw [if_pos c] at z ⊢
      by_cases l : i < δ.length
      · rw [if_pos l] at z
        cases z
        rw [if_pos (by rw [h.l]; exact l)]
        exact ⟨v, rfl, q⟩
      · rw [if_neg l] at z; cases z
    · rw [if_neg c] at z ⊢
      exact h.s j e z, by rw [List.length_set, List.length_set, h.l]⟩
/-- a new object, tracked or not -/
theorem step_new {p : Addr} {o : HO} (hp : H p = none) : Step μ H μ (upd H p o) := ⟨fun a u e _ => by rw [upd_ne (ne_of_none e hp)]; exact e, fun _ z => .inl z⟩
theorem OkM.not {p : Addr} (h : OkM K H μ) (hp : H p = none) : p ∉ foot μ := fun z => by
  obtain ⟨o, e, _⟩ := foot_mt h.ok p z
  rw [hp] at e; cases e
theorem OkM.new {p : Addr} {o : HO} (h : OkM K H μ) (hp : H p = none) : OkM K (upd H p o) μ :=
  ⟨h.nd, fun q hq => (h.ok q hq).keep (fun b u _ e => by rw [upd_ne (ne_of_none e hp)]; exact e) (ps_step h (step_new hp))⟩
/-- a new mutable object joins -/
theorem step_join {p : Addr} {o : HO} {m : M} (hp : H p = none) (hm : m.own = []) : Step μ H ((p, m) :: μ) (upd H p o) :=
  ⟨(step_new (μ := μ) hp).keep, fun a z => by
    rcases List.mem_cons.mp z with e | z
    · rw [e]; exact .inr hp
    · rw [hm] at z; exact .inl z⟩
theorem OkM.join {p : Addr} {o : HO} {m : M} (h : OkM K H μ) (hp : H p = none) (hm : m.own = []) (hk : MOk K (upd H p o) p m) : OkM K (upd H p o) ((p, m) :: μ) :=
  ⟨by
    show (p :: (m.own ++ foot μ)).Nodup
    rw [hm]
    exact List.nodup_cons.mpr ⟨h.not hp, h.nd⟩, fun q hq => by
    rcases List.mem_cons.mp hq with e | hq
    · rw [e]; exact hk
    · exact (h.new hp).ok q hq⟩
theorem foot_set : ∀ {μ : Mu} {i : Nat} {a : Addr} {m m' : M}, μ[i]? = some (a, m) → m.own = m'.own → foot (μ.set i (a, m')) = foot μ
  | [], i, _, _, _, e, _ => by simp at e
  | p :: μ, 0, a, m, m', e, h => by
    simp at e
    subst e
    show a :: (m'.own ++ foot μ) = a :: (m.own ++ foot μ)
    rw [h]
  | p :: μ, i + 1, a, m, m', e, h => by
    show p.1 :: (p.2.own ++ foot (μ.set i (a, m'))) = p.1 :: (p.2.own ++ foot μ)
    rw [foot_set (μ := μ) (by simpa using e) h]
theorem foot_get : ∀ {μ : Mu} {i j : Nat} {p q : Addr × M}, (foot μ).Nodup → μ[i]? = some p → μ[j]? = some q → i ≠ j → ∀ b, (b = q.1 ∨ b ∈ q.2.own) → b ≠ p.1 ∧ b ∉ p.2.own
  | [], i, j, p, q, _, e, _, _, _, _ => by simp at e
  | r :: μ, 0, 0, p, q, _, _, _, n, _, _ => absurd rfl n
  | r :: μ, 0, j + 1, p, q, nd, e1, e2, _, b, hb => by
    simp at e1 e2
    subst e1
    have hm := mem_foot (List.mem_of_getElem? e2) b hb
    obtain ⟨h1, h2⟩ := List.nodup_cons.mp (show (r.1 :: (r.2.own ++ foot μ)).Nodup from nd)
    refine ⟨fun z => h1 (z ▸ List.mem_append_right _ hm), fun z => ?_⟩
    exact (List.nodup_append.mp h2).2.2 b z b hm rfl
  | r :: μ, i + 1, 0, p, q, nd, e1, e2, _, b, hb => by
    simp at e1 e2
    subst e2
    obtain ⟨h1, h2⟩ := List.nodup_cons.mp (show (r.1 :: (r.2.own ++ foot μ)).Nodup from nd)
    have hp1 := mem_foot (List.mem_of_getElem? e1) p.1 (.inl rfl)
    rcases hb with e | e
    · subst e
      exact ⟨fun z => h1 (z ▸ List.mem_append_right _ hp1), fun z => h1 (List.mem_append_right _ (mem_foot (List.mem_of_getElem? e1) _ (.inr z)))⟩
    · exact ⟨fun z => (List.nodup_append.mp h2).2.2 b e p.1 hp1 z, fun z => (List.nodup_append.mp h2).2.2 b e b (mem_foot (List.mem_of_getElem? e1) _ (.inr z)) rfl⟩
  | r :: μ, i + 1, j + 1, p, q, nd, e1, e2, n, b, hb => by
    obtain ⟨h1, h2⟩ := List.nodup_cons.mp (show (r.1 :: (r.2.own ++ foot μ)).Nodup from nd)
    exact foot_get (List.nodup_append.mp h2).2.1 (by simpa using e1) (by simpa using e2) (by omega) b hb
/-- a mutable object is written -/
theorem step_set {i : Nat} {a : Addr} {m m' : M} {o : HO} (e : μ[i]? = some (a, m)) (hm : m.own = m'.own) : Step μ H (μ.set i (a, m')) (upd H a o) :=
  ⟨fun b u h n => by
    rw [upd_ne (show b ≠ a from fun z => n (by rw [z]; exact mem_foot (List.mem_of_getElem? e) a (.inl rfl)))]
    exact h, fun b z => by rw [foot_set e hm] at z; exact .inl z⟩
theorem OkM.set {i : Nat} {a : Addr} {m m' : M} {o : HO} (h : OkM K H μ) (e : μ[i]? = some (a, m)) (hm : m.own = m'.own) (hk : MOk K (upd H a o) a m') : OkM K (upd H a o) (μ.set i (a, m')) :=
  ⟨by rw [foot_set e hm]; exact h.nd, fun q hq => by
    obtain ⟨j, hj⟩ := List.getElem?_of_mem hq
    rw [List.getElem?_set] at hj
    by_cases c : i = j
    · rw [if_pos c] at hj
      split at hj
      · cases hj; exact hk
      · cases hj
    · rw [if_neg c] at hj
      exact (h.ok q (List.mem_of_getElem? hj)).keep (fun b u hb z => by
        rw [upd_ne (foot_get h.nd e hj c b hb).1]; exact z) (ps_step h (step_set (m' := m') e hm))⟩
theorem OkM.at {i : Nat} {a : Addr} {m : M} (h : OkM K H μ) (e : μ[i]? = some (a, m)) : MOk K H a m := h.ok _ (List.mem_of_getElem? e)
end

/-! ### the readings, lifted -/
section
variable (K : PySem.W.Frag)
def W (te : TE) (δ : Dl) (μ : Mu) (P : D → Mu → Prop) : Prop := ∀ (σ : St) (H : Hp), Ok K H σ δ μ → ∀ Q : VK,
  (∀ v H' d μ', Step μ H μ' H' → OkM K H' μ' → Den K H' v d → P d μ' → Q v H') → te σ H Q
def WT (tt : TT) (δ : Dl) (μ : Mu) (P : Bool → Mu → Prop) : Prop := ∀ (σ : St) (H : Hp), Ok K H σ δ μ → ∀ Q : Bool → Hp → Prop,
  (∀ b H' μ', Step μ H μ' H' → OkM K H' μ' → P b μ' → Q b H') → tt σ H Q
def WA (ta : TA) (δ : Dl) (μ : Mu) (P : List D → Mu → Prop) : Prop := ∀ (σ : St) (H : Hp), Ok K H σ δ μ → ∀ Q : List V → Hp → Prop,
  (∀ vs H' ds μ', Step μ H μ' H' → OkM K H' μ' → DenL K H' vs ds → P ds μ' → Q vs H') → ta σ H Q
def WO (to : TO) (δ : Dl) (μ : Mu) (P : Option Int → Mu → Prop) : Prop := ∀ (σ : St) (H : Hp), Ok K H σ δ μ → ∀ Q : Option Int → Hp → Prop,
  (∀ o H' μ', Step μ H μ' H' → OkM K H' μ' → P o μ' → Q o H') → to σ H Q
/-- two values -/
def W2 (r : R2) (x y : D) (μ : Mu) (P : D → Mu → Prop) : Prop := ∀ (H : Hp) (v u : V), OkM K H μ → Den K H v x → Den K H u y → ∀ Q : VK,
  (∀ v H' d μ', Step μ H μ' H' → OkM K H' μ' → Den K H' v d → P d μ' → Q v H') → r v u H Q
def W1 (r : V → Hp → VK → Prop) (x : D) (μ : Mu) (P : D → Mu → Prop) : Prop := ∀ (H : Hp) (v : V), OkM K H μ → Den K H v x → ∀ Q : VK,
  (∀ v H' d μ', Step μ H μ' H' → OkM K H' μ' → Den K H' v d → P d μ' → Q v H') → r v H Q
/-- a built-in called with values -/
def WC (r : List V → Hp → VK → Prop) (xs : List D) (μ : Mu) (P : D → Mu → Prop) : Prop := ∀ (H : Hp) (vs : List V), OkM K H μ → DenL K H vs xs → ∀ Q : VK,
  (∀ v H' d μ', Step μ H μ' H' → OkM K H' μ' → Den K H' v d → P d μ' → Q v H') → r vs H Q
/-- a method of a built-in type -/
def WM (r : V → List V → Hp → VK → Prop) (x : D) (xs : List D) (μ : Mu) (P : D → Mu → Prop) : Prop := ∀ (H : Hp) (v : V) (vs : List V), OkM K H μ → Den K H v x → DenL K H vs xs → ∀ Q : VK,
  (∀ v H' d μ', Step μ H μ' H' → OkM K H' μ' → Den K H' v d → P d μ' → Q v H') → r v vs H Q
structure DE where
  nx : Dl → Mu → Prop
  rt : D → Mu → Prop
  bk : Dl → Mu → Prop
  ct : Dl → Mu → Prop
def WS (ts : TS) (δ : Dl) (μ : Mu) (P : DE) : Prop := ∀ (σ : St) (H : Hp), Ok K H σ δ μ → ∀ Dn : Ends,
  (∀ σ' H' δ' μ', Step μ H μ' H' → Ok K H' σ' δ' μ' → P.nx δ' μ' → Dn.nx σ' H') →
  (∀ v H' d μ', Step μ H μ' H' → OkM K H' μ' → Den K H' v d → P.rt d μ' → Dn.rt v H') →
  (∀ σ' H' δ' μ', Step μ H μ' H' → Ok K H' σ' δ' μ' → P.bk δ' μ' → Dn.bk σ' H') →
  (∀ σ' H' δ' μ', Step μ H μ' H' → Ok K H' σ' δ' μ' → P.ct δ' μ' → Dn.ct σ' H') → ts Dn σ H
def WG (g : TG) (d : D) (δ : Dl) (μ : Mu) (P : Dl → Mu → Prop) : Prop := ∀ (σ : St) (H : Hp) (v : V), Ok K H σ δ μ → Den K H v d → ∀ Q : St → Hp → Prop,
  (∀ σ' H' δ' μ', Step μ H μ' H' → Ok K H' σ' δ' μ' → P δ' μ' → Q σ' H') → g v σ H Q
def WGs (g : TGs) (ds : List D) (δ : Dl) (μ : Mu) (P : Dl → Mu → Prop) : Prop := ∀ (σ : St) (H : Hp) (vs : List V), Ok K H σ δ μ → DenL K H vs ds → ∀ Q : St → Hp → Prop,
  (∀ σ' H' δ' μ', Step μ H μ' H' → Ok K H' σ' δ' μ' → P δ' μ' → Q σ' H') → g vs σ H Q
/-- at H the iterator J walks ds -/
def Wlk (J : It) (ds : List D) (H : Hp) (μ : Mu) : Prop := (∀ i, ds.length ≤ i → J.stop i H) ∧ ∀ i d, ds[i]? = some d → J.go i H ∧ ∀ x H', J.yld i H x H' → Step μ H μ H' ∧ OkM K H' μ ∧ Den K H' x d
def WI (wi : TI) (δ : Dl) (μ : Mu) (P : List D → (Mu → Prop) → Mu → Prop) : Prop := ∀ (σ : St) (H : Hp), Ok K H σ δ μ → ∀ R : It → Hp → Prop,
  (∀ J H' ds G μ', Step μ H μ' H' → OkM K H' μ' → (∀ H'' μ'', Step μ' H' μ'' H'' → OkM K H'' μ'' → G μ'' → Wlk K J ds H'' μ'') → P ds G μ' → R J H') → wi σ H R
end
end Wk

set_option Elab.async false
set_option linter.all false
set_option maxRecDepth 100000
namespace Wk
open PySem PySem.Spec L2

section
variable {K : PySem.W.Frag} {δ : Dl} {μ : Mu} {P : D → Mu → Prop} {PT : Bool → Mu → Prop} {PA : List D → Mu → Prop} {PO : Option Int → Mu → Prop} {E : DE} {ta tb tc te : TE} {t u : TT} {al ar : TA} {ts ts1 ts2 : TS} {g : TG} {gs : TGs} {x y d : D} {xs ds : List D}

/-! ### values -/
theorem w_var {i : Nat} (h : δ[i]? = some (some d)) (q : P d μ) : W K (tVar i) δ μ P := fun σ H ok Q f =>
  let ⟨v, e, r⟩ := ok.s i d h
  ⟨v, e, f v H d μ .refl ok.m r q⟩
theorem w_int {n : Int} (q : P (.int n) μ) : W K (tC (.int n)) δ μ P := fun σ H ok Q f => f _ H _ μ .refl ok.m (.int n) q
theorem w_bl {n : Bool} (q : P (.bl n) μ) : W K (tC (.bl n)) δ μ P := fun σ H ok Q f => f _ H _ μ .refl ok.m (.bl n) q
theorem w_str {n : Str} (q : P (.str n) μ) : W K (tC (.str n)) δ μ P := fun σ H ok Q f => f _ H _ μ .refl ok.m (.str n) q
theorem w_non (q : P .non μ) : W K (tC .non) δ μ P := fun σ H ok Q f => f _ H _ μ .refl ok.m .non q
theorem w_ty {n : String} (q : P (.ty n) μ) : W K (tC (.ty n)) δ μ P := fun σ H ok Q f => f _ H _ μ .refl ok.m (.ty n) q
theorem w_refc {a : Addr} (q : P (.ref a) μ) : W K (tC (.ref a)) δ μ P := fun σ H ok Q f => f _ H _ μ .refl ok.m (.ref a) q
theorem w_op {r : R2} (h : W K ta δ μ fun x μ1 => W K tb δ μ1 fun y μ2 => W2 K r x y μ2 P) : W K (tOp r ta tb) δ μ P := fun σ H ok Q f =>
  h σ H ok _ fun v H1 x μ1 s1 m1 r1 h1 => h1 σ H1 (ok.step s1 m1) _ fun u H2 y μ2 s2 m2 r2 h2 =>
    h2 H2 v u m2 (r1.step m1 s2) r2 Q fun z H3 d μ3 s3 m3 r3 p => f z H3 d μ3 (s1.trans (s2.trans s3)) m3 r3 p
theorem w_un {r : V → Hp → VK → Prop} (h : W K ta δ μ fun x μ1 => W1 K r x μ1 P) : W K (tUn r ta) δ μ P := fun σ H ok Q f =>
  h σ H ok _ fun v H1 x μ1 s1 m1 r1 h1 => h1 H1 v m1 r1 Q fun z H3 d μ3 s3 m3 r3 p => f z H3 d μ3 (s1.trans s3) m3 r3 p
theorem wa_nil (q : PA [] μ) : WA K tNil δ μ PA := fun σ H ok Q f => f [] H [] μ .refl ok.m .nil q
theorem wa_cons (h : W K ta δ μ fun x μ1 => WA K ar δ μ1 fun xs μ2 => PA (x :: xs) μ2) : WA K (tCons ta ar) δ μ PA := fun σ H ok Q f =>
  h σ H ok _ fun v H1 x μ1 s1 m1 r1 h1 => h1 σ H1 (ok.step s1 m1) _ fun vs H2 xs μ2 s2 m2 r2 p => f (v :: vs) H2 (x :: xs) μ2 (s1.trans s2) m2 (.cons (r1.step m1 s2) r2) p
theorem w_tup (h : WA K al δ μ fun ds μ1 => ds.length ≤ sizeLine ∧ P (.tup ds) μ1) : W K (tTup al) δ μ P := fun σ H ok Q f =>
  h σ H ok _ fun vs H1 ds μ1 s1 m1 r1 ⟨z, p⟩ => ⟨by rw [r1.length]; exact z, fun a ha =>
    f (.ref a) _ (.tup ds) μ1 (s1.trans (step_new ha)) (m1.new ha) (.tup upd_same (r1.step m1 (step_new ha))) p⟩
theorem w_lst (h : WA K al δ μ fun ds μ1 => ds.length ≤ sizeLine ∧ ∀ p, P (.ref p) ((p, .lst ds) :: μ1)) : W K (tLst al) δ μ P := fun σ H ok Q f =>
  h σ H ok _ fun vs H1 ds μ1 s1 m1 r1 ⟨z, p⟩ => ⟨by rw [r1.length]; exact z, fun a ha =>
    f (.ref a) _ (.ref a) ((a, .lst ds) :: μ1) (s1.trans (step_join ha rfl)) (m1.join ha rfl ⟨vs, upd_same, r1.step m1 (step_new ha)⟩) (.ref a) (p a)⟩
theorem w_dnew (h : ∀ p, P (.ref p) ((p, .dic []) :: μ)) : W K tDNewK δ μ P := fun σ H ok Q f a ha =>
  f (.ref a) _ (.ref a) ((a, .dic []) :: μ) (step_join ha rfl) (ok.m.join ha rfl ⟨[], upd_same, .nil⟩) (.ref a) (h a)
theorem w_cb {r : List V → Hp → VK → Prop} (h : WA K al δ μ fun ds μ1 => WC K r ds μ1 P) : W K (tCB r al) δ μ P := fun σ H ok Q f =>
  h σ H ok _ fun vs H1 ds μ1 s1 m1 r1 h1 => h1 H1 vs m1 r1 Q fun z H3 d μ3 s3 m3 r3 p => f z H3 d μ3 (s1.trans s3) m3 r3 p
theorem w_bm {T : String} {r : V → List V → Hp → VK → Prop} (h : W K ta δ μ fun x μ1 => (∀ H v, OkM K H μ1 → Den K H v x → tyV K T v H) ∧ WA K al δ μ1 fun ds μ2 => WM K r x ds μ2 P) : W K (tBM K T r ta al) δ μ P := fun σ H ok Q f =>
  h σ H ok _ fun v H1 x μ1 s1 m1 r1 h1 => ⟨h1.1 H1 v m1 r1, h1.2 σ H1 (ok.step s1 m1) _ fun vs H2 xs μ2 s2 m2 r2 h2 => h2 H2 v vs m2 (r1.step m1 s2) r2 Q fun z H3 d μ3 s3 m3 r3 p => f z H3 d μ3 (s1.trans (s2.trans s3)) m3 r3 p⟩
theorem w_bm0 {T : String} {r : V → List V → Hp → VK → Prop} (h : W K ta δ μ fun x μ1 => (∀ H v, OkM K H μ1 → Den K H v x → tyV K T v H) ∧ WM K r x [] μ1 P) : W K (tBM0 K T r ta) δ μ P := fun σ H ok Q f =>
  h σ H ok _ fun v H1 x μ1 s1 m1 r1 h1 => ⟨h1.1 H1 v m1 r1, h1.2 H1 v [] m1 r1 .nil Q fun z H3 d μ3 s3 m3 r3 p => f z H3 d μ3 (s1.trans s3) m3 r3 p⟩
theorem wo_none (q : PO none μ) : WO K tNoPart δ μ PO := fun σ H ok Q f => f _ H μ .refl ok.m q
theorem wo_some (h : W K ta δ μ fun x μ1 => ∃ i, x = .int i ∧ PO (some i) μ1) : WO K (tPart ta) δ μ PO := fun σ H ok Q f =>
  h σ H ok _ fun v H1 x μ1 s1 m1 r1 ⟨i, e, q⟩ => by
    subst e
    cases r1
    exact ⟨i, rfl, f _ H1 μ1 s1 m1 q⟩
/-- a slice by values -/
def WSl (K : PySem.W.Frag) (r : V → Option Int → Option Int → Hp → VK → Prop) (x : D) (lo hi : Option Int) (μ : Mu) (P : D → Mu → Prop) : Prop := ∀ (H : Hp) (v : V), OkM K H μ → Den K H v x → ∀ Q : VK,
  (∀ v H' d μ', Step μ H μ' H' → OkM K H' μ' → Den K H' v d → P d μ' → Q v H') → r v lo hi H Q
theorem w_sl {r : V → Option Int → Option Int → Hp → VK → Prop} {tl th : TO} (h : W K ta δ μ fun x μ1 => WO K tl δ μ1 fun lo μ2 => WO K th δ μ2 fun hi μ3 => WSl K r x lo hi μ3 P) : W K (tSl r ta tl th) δ μ P := fun σ H ok Q f =>
  h σ H ok _ fun v H1 x μ1 s1 m1 r1 h1 => h1 σ H1 (ok.step s1 m1) _ fun lo H2 μ2 s2 m2 h2 => h2 σ H2 (ok.step (s1.trans s2) m2) _ fun hi H3 μ3 s3 m3 h3 =>
    h3 H3 v m3 ((r1.step m1 s2).step m2 s3) Q fun z H4 d μ4 s4 m4 r4 p => f z H4 d μ4 (s1.trans (s2.trans (s3.trans s4))) m4 r4 p
theorem w_ifE (h : WT K t δ μ fun b μ1 => (b = true → W K ta δ μ1 P) ∧ (b = false → W K tb δ μ1 P)) : W K (tIf t ta tb) δ μ P := fun σ H ok Q f =>
  h σ H ok _ fun b H1 μ1 s1 m1 ⟨h1, h2⟩ => by
    cases b with
    | true => exact iteT (h1 rfl σ H1 (ok.step s1 m1) Q fun z H2 d μ2 s2 m2 r2 p => f z H2 d μ2 (s1.trans s2) m2 r2 p)
    | false => exact iteF (h2 rfl σ H1 (ok.step s1 m1) Q fun z H2 d μ2 s2 m2 r2 p => f z H2 d μ2 (s1.trans s2) m2 r2 p)
theorem w_andV (h : W K ta δ μ fun x μ1 => ∃ b, x = .bl b ∧ (b = true → W K tb δ μ1 P) ∧ (b = false → P (.bl false) μ1)) : W K (tAndV ta tb) δ μ P := fun σ H ok Q f =>
  h σ H ok _ fun v H1 x μ1 s1 m1 r1 ⟨b, e, h1, h2⟩ => by
    subst e
    cases r1
    refine ⟨b, rfl, ?_⟩
    cases b with
    | true => exact iteT (h1 rfl σ H1 (ok.step s1 m1) Q fun z H2 d μ2 s2 m2 r2 p => f z H2 d μ2 (s1.trans s2) m2 r2 p)
    | false => exact iteF (f _ H1 _ μ1 s1 m1 (.bl false) (h2 rfl))
theorem w_orV (h : W K ta δ μ fun x μ1 => ∃ b, x = .bl b ∧ (b = true → P (.bl true) μ1) ∧ (b = false → W K tb δ μ1 P)) : W K (tOrV ta tb) δ μ P := fun σ H ok Q f =>
  h σ H ok _ fun v H1 x μ1 s1 m1 r1 ⟨b, e, h1, h2⟩ => by
    subst e
    cases r1
    refine ⟨b, rfl, ?_⟩
    cases b with
    | true => exact iteT (f _ H1 _ μ1 s1 m1 (.bl true) (h1 rfl))
    | false => exact iteF (h2 rfl σ H1 (ok.step s1 m1) Q fun z H2 d μ2 s2 m2 r2 p => f z H2 d μ2 (s1.trans s2) m2 r2 p)
theorem w_notV (h : W K ta δ μ fun x μ1 => ∃ b, x = .bl b ∧ P (.bl (!b)) μ1) : W K (tNotV ta) δ μ P := fun σ H ok Q f =>
  h σ H ok _ fun v H1 x μ1 s1 m1 r1 ⟨b, e, h1⟩ => by
    subst e
    cases r1
    exact ⟨b, rfl, f _ H1 _ μ1 s1 m1 (.bl _) h1⟩
theorem w_chain {r r' : R2} (h : W K ta δ μ fun x μ1 => W K tb δ μ1 fun y μ2 => W2 K r x y μ2 fun z μ3 => ∃ b, z = .bl b ∧ (b = true → W K tc δ μ3 fun w μ4 => W2 K r' y w μ4 P) ∧ (b = false → P (.bl false) μ3)) : W K (tChain r r' ta tb tc) δ μ P := fun σ H ok Q f =>
  h σ H ok _ fun v H1 x μ1 s1 m1 r1 h1 => h1 σ H1 (ok.step s1 m1) _ fun u H2 y μ2 s2 m2 r2 h2 => h2 H2 v u m2 (r1.step m1 s2) r2 _ fun z H3 d μ3 s3 m3 r3 ⟨b, e, h3, h4⟩ => by
    subst e
    cases r3
    refine ⟨b, rfl, ?_⟩
    cases b with
    | true =>
      exact iteT (h3 rfl σ H3 (ok.step (s1.trans (s2.trans s3)) m3) _ fun w H4 dw μ4 s4 m4 r4 h5 => h5 H4 u w m4 ((r2.step m2 s3).step m3 s4) r4 Q fun z H5 d μ5 s5 m5 r5 p =>
        f z H5 d μ5 (s1.trans (s2.trans (s3.trans (s4.trans s5)))) m5 r5 p)
    | false => exact iteF (f _ H3 _ μ3 (s1.trans (s2.trans s3)) m3 (.bl false) (h4 rfl))

/-! ### tests -/
theorem wt_test (h : W K ta δ μ fun x μ1 => ∃ b, x = .bl b ∧ PT b μ1) : WT K (tTest ta) δ μ PT := fun σ H ok Q f =>
  h σ H ok _ fun v H1 x μ1 s1 m1 r1 ⟨b, e, h1⟩ => by
    subst e
    cases r1
    exact ⟨b, rfl, f b H1 μ1 s1 m1 h1⟩
theorem wt_B (h : W K ta δ μ fun x μ1 => ∃ b, x = .bl b ∧ PT b μ1) : WT K (tB ta) δ μ PT := wt_test h
theorem wt_and (h : WT K t δ μ fun b μ1 => (b = true → WT K u δ μ1 PT) ∧ (b = false → PT false μ1)) : WT K (tAnd t u) δ μ PT := fun σ H ok Q f =>
  h σ H ok _ fun b H1 μ1 s1 m1 ⟨h1, h2⟩ => by
    cases b with
    | true => exact iteT (h1 rfl σ H1 (ok.step s1 m1) Q fun z H2 μ2 s2 m2 p => f z H2 μ2 (s1.trans s2) m2 p)
    | false => exact iteF (f _ H1 μ1 s1 m1 (h2 rfl))
theorem wt_or (h : WT K t δ μ fun b μ1 => (b = true → PT true μ1) ∧ (b = false → WT K u δ μ1 PT)) : WT K (tOr t u) δ μ PT := fun σ H ok Q f =>
  h σ H ok _ fun b H1 μ1 s1 m1 ⟨h1, h2⟩ => by
    cases b with
    | true => exact iteT (f _ H1 μ1 s1 m1 (h1 rfl))
    | false => exact iteF (h2 rfl σ H1 (ok.step s1 m1) Q fun z H2 μ2 s2 m2 p => f z H2 μ2 (s1.trans s2) m2 p)
theorem wt_not (h : WT K t δ μ fun b μ1 => PT (!b) μ1) : WT K (tNot t) δ μ PT := fun σ H ok Q f =>
  h σ H ok _ fun b H1 μ1 s1 m1 p => f (!b) H1 μ1 s1 m1 p
/-- truth of a value -/
def WTr (K : PySem.W.Frag) (x : D) (μ : Mu) (P : Bool → Mu → Prop) : Prop := ∀ (H : Hp) (v : V), OkM K H μ → Den K H v x → ∃ b, TruV K v H b ∧ P b μ
theorem wt_tru (h : W K ta δ μ fun x μ1 => WTr K x μ1 PT) : WT K (fun σ H Q => ta σ H fun x H' => ∃ k, TruV K x H' k ∧ Q k H') δ μ PT := fun σ H ok Q f =>
  h σ H ok _ fun v H1 x μ1 s1 m1 r1 h1 => let ⟨b, e, p⟩ := h1 H1 v m1 r1; ⟨b, e, f b H1 μ1 s1 m1 p⟩

/-! ### two values -/
theorem w2_i {f : Int → Int → Int} {i j : Int} (q : P (.int (f i j)) μ) : W2 K (rI0 fun i j => .int (f i j)) (.int i) (.int j) μ P := fun H v u m r1 r2 Q k => by
  cases r1
  cases r2
  exact ⟨i, j, rfl, rfl, k _ H _ μ .refl m (.int _) q⟩
theorem w2_b {f : Int → Int → Bool} {i j : Int} (q : P (.bl (f i j)) μ) : W2 K (rI0 fun i j => .bl (f i j)) (.int i) (.int j) μ P := fun H v u m r1 r2 Q k => by
  cases r1
  cases r2
  exact ⟨i, j, rfl, rfl, k _ H _ μ .refl m (.bl _) q⟩
theorem w2_c {C : Int → Int → Prop} {f : Int → Int → Int} {i j : Int} (c : C i j) (q : P (.int (f i j)) μ) : W2 K (rI C fun i j => .int (f i j)) (.int i) (.int j) μ P := fun H v u m r1 r2 Q k => by
  cases r1
  cases r2
  exact ⟨i, j, rfl, rfl, c, k _ H _ μ .refl m (.int _) q⟩
theorem w1_neg {f : Int → Int} {i : Int} (q : P (.int (f i)) μ) : W1 K (rU fun i => .int (f i)) (.int i) μ P := fun H v m r1 Q k => by
  cases r1
  exact ⟨i, rfl, k _ H _ μ .refl m (.int _) q⟩
theorem at_den {H : Hp} {vs : List V} {i : Int} (h : DenL K H vs ds) (e : atI ds i = some d) : ∃ v, atI vs i = some v ∧ Den K H v d := by
  unfold atI at e ⊢
  rw [h.length]
  cases q : ixN ds.length i with
  | none => rw [q] at e; cases e
  | some j =>
    rw [q] at e
    exact h.get e
theorem w2_ixT {i : Int} (e : atI ds i = some d) (q : P d μ) : W2 K (rIx K) (.tup ds) (.int i) μ P := fun H v u m r1 r2 Q k => by
  cases r2
  cases r1 with
  | tup hs_ hl =>
    have hs := TpA.sqt hs_
    obtain ⟨w, hw, rw'⟩ := at_den hl e
    exact .inr (.inl ⟨_, _, i, w, rfl, rfl, hs, hw, k _ H _ μ .refl m rw' q⟩)
theorem w2_ixL {i : Int} {a : Addr} {j : Nat} (hm : μ[j]? = some (a, .lst ds)) (e : atI ds i = some d) (q : P d μ) : W2 K (rIx K) (.ref a) (.int i) μ P := fun H v u m r1 r2 Q k => by
  cases r2
  cases r1
  obtain ⟨vs, hv, hl⟩ := m.at hm
  obtain ⟨w, hw, rw'⟩ := at_den hl e
  exact .inl ⟨_, _, i, w, rfl, rfl, .inl (.inl hv), hw, k _ H _ μ .refl m rw' q⟩
theorem w2_ixS {i : Int} {z : Str} {c : Nat} (hz : z.length ≤ sizeLine) (e : atI z.cps.toList i = some c) (q : P (.str ⟨#[c]⟩) μ) : W2 K (rIx K) (.str z) (.int i) μ P := fun H v u m r1 r2 Q k => by
  cases r2
  cases r1
  exact .inr (.inr ⟨z, i, c, rfl, rfl, hz, e, k _ H _ μ .refl m (.str _) q⟩)
/-- + of ints, texts, tuples, lists -/
def rAddG (K : PySem.W.Frag) : R2 := fun x y H Q => rI0 (fun i j => .int (i + j)) x y H Q ∨ (∃ i j, x = .str i ∧ y = .str j ∧ i.length + j.length ≤ sizeLine ∧ Q (.str (i ++ j)) H) ∨ rCatA K x y H Q ∨ rCat x y H Q
theorem op_addG {X : Cx} : OpR X (binaryOp .Add) (rAddG X.K) := by
  intro pins s σ H x y v u Q I rx ry h
  rcases h with h | h | h | h
  · exact op_add pins s σ H x y v u Q I rx ry h
  · exact op_add_str pins s σ H x y v u Q I rx ry h
  · exact op_catA pins s σ H x y v u Q I rx ry h
  · exact op_cat pins s σ H x y v u Q I rx ry h
theorem w2_addI {i j : Int} (q : P (.int (i + j)) μ) : W2 K (rAddG K) (.int i) (.int j) μ P := fun H v u m r1 r2 Q k => .inl (w2_i (f := fun i j => i + j) q H v u m r1 r2 Q k)
theorem w2_addS {i j : Str} (hz : i.length + j.length ≤ sizeLine) (q : P (.str (i ++ j)) μ) : W2 K (rAddG K) (.str i) (.str j) μ P := fun H v u m r1 r2 Q k => by
  cases r1
  cases r2
  exact .inr (.inl ⟨i, j, rfl, rfl, hz, k _ H _ μ .refl m (.str _) q⟩)
theorem w2_addTA (hz : xs.length + ds.length ≤ sizeLine) (q : P (.tup (xs ++ ds)) μ) : W2 K (rAddG K) (.tup xs) (.tup ds) μ P := fun H v u m r1 r2 Q k => by
  cases r1 with
  | tup hs_ hl =>
    have hs := TpA.sqt hs_
    cases r2 with
    | tup hs'_ hl' =>
      have hs' := TpA.sqt hs'_
      refine .inr (.inr (.inl ⟨_, _, _, _, rfl, rfl, hs, hs', by rw [hl.length, hl'.length]; exact hz, fun e => ?_, fun e1 e => ?_, fun e1 e p hp => ?_⟩))
      · subst e
        cases hl
        exact k _ H _ μ .refl m (.tup hs'_ hl') q
      · subst e
        cases hl'
        rw [List.append_nil] at q
        exact k _ H _ μ .refl m (.tup hs_ hl) q
      · exact k _ _ _ μ (step_new hp) (m.new hp) (.tup upd_same ((hl.append hl').step m (step_new hp))) q
theorem w2_addT (hn : xs ≠ []) (hz : xs.length + ds.length ≤ sizeLine) (q : P (.tup (xs ++ ds)) μ) : W2 K (rAddG K) (.tup xs) (.tup ds) μ P := w2_addTA hz q
theorem w2_addL {a b : Addr} {i j : Nat} (ha : μ[i]? = some (a, .lst xs)) (hb : μ[j]? = some (b, .lst ds)) (hz : xs.length + ds.length ≤ sizeLine) (q : ∀ p, P (.ref p) ((p, .lst (xs ++ ds)) :: μ)) : W2 K (rAddG K) (.ref a) (.ref b) μ P := fun H v u m r1 r2 Q k => by
  cases r1
  cases r2
  obtain ⟨vs, hv, hl⟩ := m.at ha
  obtain ⟨ws, hw, hl'⟩ := m.at hb
  exact .inr (.inr (.inr ⟨_, _, _, _, rfl, rfl, hv, hw, by rw [hl.length, hl'.length]; exact hz, fun p hp =>
    k _ _ _ _ (step_join hp rfl) (m.join (m := .lst (xs ++ ds)) hp rfl ⟨_, upd_same, (hl.append hl').step m (step_new hp)⟩) (.ref p) (q p)⟩))
/-- is None -/
theorem w2_isN {x : D} (h : x = .non) (q : P (.bl true) μ) : W2 K (fun x y H Q => y = V.non ∧ Q (.bl (decide (x = .non))) H) x .non μ P := fun H v u m r1 r2 Q k => by
  subst h
  cases r1
  cases r2
  exact ⟨rfl, k _ H _ μ .refl m (.bl _) q⟩
theorem w2_isnt {x : D} (h : x ≠ .non) (q : P (.bl false) μ) : W2 K (fun x y H Q => y = V.non ∧ Q (.bl (decide (x = .non))) H) x .non μ P := fun H v u m r1 r2 Q k => by
  have e : v ≠ .non := fun z => by subst z; cases r1; exact h rfl
  cases r2
  exact ⟨rfl, by rw [decide_eq_false e]; exact k _ H _ μ .refl m (.bl _) q⟩
theorem w2_notN {x : D} (h : x ≠ .non) (q : P (.bl true) μ) : W2 K (fun x y H Q => y = V.non ∧ Q (.bl (!decide (x = .non))) H) x .non μ P := fun H v u m r1 r2 Q k => by
  have e : v ≠ .non := fun z => by subst z; cases r1; exact h rfl
  cases r2
  exact ⟨rfl, by rw [decide_eq_false e]; exact k _ H _ μ .refl m (.bl _) q⟩
theorem w2_notnt {x : D} (h : x = .non) (q : P (.bl false) μ) : W2 K (fun x y H Q => y = V.non ∧ Q (.bl (!decide (x = .non))) H) x .non μ P := fun H v u m r1 r2 Q k => by
  subst h
  cases r1
  cases r2
  exact ⟨rfl, k _ H _ μ .refl m (.bl _) q⟩

/-! ### == of data -/
mutual
def D.py : D → PyData
  | .non => .none | .bl b => .bool b | .int i => .int i | .str x => .str x | .tup ds => .tuple (D.pyL ds) | .ref _ => .none | .ty _ => .none | .scr _ => .none | .lis ds => .list (D.pyL ds) | .dct _ _ => .none
def D.pyL : List D → List PyData
  | [] => [] | d :: ds => d.py :: D.pyL ds
end
mutual
def D.dat : D → Bool
  | .non => true | .bl _ => true | .int _ => true | .str _ => true | .tup ds => D.datL ds | .ref _ => false | .ty _ => false | .scr _ => false | .lis ds => D.datL ds | .dct _ _ => false
def D.datL : List D → Bool
  | [] => true | d :: ds => d.dat && D.datL ds
end
mutual
theorem Den.dp {H : Hp} : ∀ {d : D} {v : V}, Den K H v d → d.dat = true → Dp K H v d.py
  | _, _, .non, _ => .non
  | _, _, .bl b, _ => .bl b
  | _, _, .int b, _ => .int b
  | _, _, .str b, _ => .str b
  | _, _, .ref b, h => by cases h
  | _, _, .ty b, h => by cases h
  | _, _, .scr _, h => by cases h
  | _, _, .dct _ _ _, h => by cases h
  | _, _, .lis q r, h => .lst (.inl (.inr ⟨_, q⟩)) (DenL.dp r h)
  | _, _, .tup q r, h => .tup (TpA.sqt q) (DenL.dp r h)
theorem DenL.dp {H : Hp} : ∀ {ds : List D} {vs : List V}, DenL K H vs ds → D.datL ds = true → DpAll K H vs (D.pyL ds)
  | _, _, .nil, _ => .nil
  | _, _, .cons a b, h => .cons (Den.dp a (Bool.and_eq_true_iff.mp h).1) (DenL.dp b (Bool.and_eq_true_iff.mp h).2)
end
def eqB (x y : D) : Bool := PyData.eqv x.py y.py
def eqBL (xs ys : List D) : Bool := PyData.eqvAll (D.pyL xs) (D.pyL ys)
def D.sh (x : D) : Bool := x.dat && SeqAt.shaped x.py
theorem w2_eq (hx : x.sh = true) (hy : y.sh = true) (q : P (.bl (eqB x y)) μ) : W2 K (rEqD K) x y μ P := fun H v u m r1 r2 Q k =>
  ⟨_, _, r1.dp (Bool.and_eq_true_iff.mp hx).1, r2.dp (Bool.and_eq_true_iff.mp hy).1, (Bool.and_eq_true_iff.mp hx).2, (Bool.and_eq_true_iff.mp hy).2, k _ H _ μ .refl m (.bl _) q⟩
theorem w2_ne (hx : x.sh = true) (hy : y.sh = true) (q : P (.bl (!eqB x y)) μ) : W2 K (rNeD K) x y μ P := fun H v u m r1 r2 Q k =>
  ⟨_, _, r1.dp (Bool.and_eq_true_iff.mp hx).1, r2.dp (Bool.and_eq_true_iff.mp hy).1, (Bool.and_eq_true_iff.mp hx).2, (Bool.and_eq_true_iff.mp hy).2, k _ H _ μ .refl m (.bl _) q⟩
/-- two lists -/
theorem w2_eqL {a b : Addr} {i j : Nat} (ha : μ[i]? = some (a, .lst xs)) (hb : μ[j]? = some (b, .lst ds)) (hx : (D.tup xs).sh = true) (hy : (D.tup ds).sh = true) (q : P (.bl (eqBL xs ds)) μ) : W2 K (rEqD K) (.ref a) (.ref b) μ P := fun H v u m r1 r2 Q k => by
  cases r1
  cases r2
  obtain ⟨vs, hv, hl⟩ := m.at ha
  obtain ⟨ws, hw, hl'⟩ := m.at hb
  exact ⟨_, _, .lst (.inl (.inl hv)) (hl.dp (Bool.and_eq_true_iff.mp hx).1), .lst (.inl (.inl hw)) (hl'.dp (Bool.and_eq_true_iff.mp hy).1), (Bool.and_eq_true_iff.mp hx).2, (Bool.and_eq_true_iff.mp hy).2, k _ H _ μ .refl m (.bl _) q⟩
theorem w2_neL {a b : Addr} {i j : Nat} (ha : μ[i]? = some (a, .lst xs)) (hb : μ[j]? = some (b, .lst ds)) (hx : (D.tup xs).sh = true) (hy : (D.tup ds).sh = true) (q : P (.bl (!eqBL xs ds)) μ) : W2 K (rNeD K) (.ref a) (.ref b) μ P := fun H v u m r1 r2 Q k => by
  cases r1
  cases r2
  obtain ⟨vs, hv, hl⟩ := m.at ha
  obtain ⟨ws, hw, hl'⟩ := m.at hb
  exact ⟨_, _, .lst (.inl (.inl hv)) (hl.dp (Bool.and_eq_true_iff.mp hx).1), .lst (.inl (.inl hw)) (hl'.dp (Bool.and_eq_true_iff.mp hy).1), (Bool.and_eq_true_iff.mp hx).2, (Bool.and_eq_true_iff.mp hy).2, k _ H _ μ .refl m (.bl _) q⟩

/-! ### statements -/
theorem ws_seq (h : WS K ts1 δ μ { E with nx := fun δ' μ' => WS K ts2 δ' μ' E }) : WS K (tSeq ts1 ts2) δ μ E := fun σ H ok Dn n r b c =>
  h σ H ok { Dn with nx := ts2 Dn } (fun σ1 H1 δ1 μ1 s1 ok1 h1 => h1 σ1 H1 ok1 Dn (fun σ2 H2 δ2 μ2 s2 o2 => n σ2 H2 δ2 μ2 (s1.trans s2) o2)
    (fun v H2 d μ2 s2 m2 => r v H2 d μ2 (s1.trans s2) m2) (fun σ2 H2 δ2 μ2 s2 o2 => b σ2 H2 δ2 μ2 (s1.trans s2) o2) (fun σ2 H2 δ2 μ2 s2 o2 => c σ2 H2 δ2 μ2 (s1.trans s2) o2)) r b c
theorem ws_next (q : E.nx δ μ) : WS K tNext δ μ E := fun σ H ok Dn n r b c => n σ H δ μ .refl ok q
theorem ws_brk (q : E.bk δ μ) : WS K tBreak δ μ E := fun σ H ok Dn n r b c => b σ H δ μ .refl ok q
theorem ws_cont (q : E.ct δ μ) : WS K tCont δ μ E := fun σ H ok Dn n r b c => c σ H δ μ .refl ok q
theorem ws_asg (h : W K te δ μ fun d μ1 => WG K g d δ μ1 E.nx) : WS K (tAsg te g) δ μ E := fun σ H ok Dn n r b c =>
  h σ H ok _ fun v H1 d μ1 s1 m1 r1 h1 => h1 σ H1 v (ok.step s1 m1) r1 _ fun σ2 H2 δ2 μ2 s2 o2 q => n σ2 H2 δ2 μ2 (s1.trans s2) o2 q
theorem ws_drop (h : W K te δ μ fun d μ1 => E.nx δ μ1) : WS K (tDrop te) δ μ E := fun σ H ok Dn n r b c =>
  h σ H ok _ fun v H1 d μ1 s1 m1 r1 h1 => n σ H1 δ μ1 s1 (ok.step s1 m1) h1
theorem ws_ret (h : W K te δ μ E.rt) : WS K (tRet te) δ μ E := fun σ H ok Dn n r b c => h σ H ok _ fun v H1 d μ1 s1 m1 r1 h1 => r v H1 d μ1 s1 m1 r1 h1
theorem ws_retN (q : E.rt .non μ) : WS K tRetN δ μ E := fun σ H ok Dn n r b c => r .non H .non μ .refl ok.m .non q
theorem ws_if (h : WT K t δ μ fun b μ1 => (b = true → WS K ts1 δ μ1 E) ∧ (b = false → WS K ts2 δ μ1 E)) : WS K (tIfS t ts1 ts2) δ μ E := fun σ H ok Dn n r b c =>
  h σ H ok _ fun k H1 μ1 s1 m1 ⟨h1, h2⟩ => by
    cases k with
    | true => exact iteT (h1 rfl σ H1 (ok.step s1 m1) Dn (fun σ2 H2 δ2 μ2 s2 o2 => n σ2 H2 δ2 μ2 (s1.trans s2) o2)
        (fun v H2 d μ2 s2 m2 => r v H2 d μ2 (s1.trans s2) m2) (fun σ2 H2 δ2 μ2 s2 o2 => b σ2 H2 δ2 μ2 (s1.trans s2) o2) (fun σ2 H2 δ2 μ2 s2 o2 => c σ2 H2 δ2 μ2 (s1.trans s2) o2))
    | false => exact iteF (h2 rfl σ H1 (ok.step s1 m1) Dn (fun σ2 H2 δ2 μ2 s2 o2 => n σ2 H2 δ2 μ2 (s1.trans s2) o2)
        (fun v H2 d μ2 s2 m2 => r v H2 d μ2 (s1.trans s2) m2) (fun σ2 H2 δ2 μ2 s2 o2 => b σ2 H2 δ2 μ2 (s1.trans s2) o2) (fun σ2 H2 δ2 μ2 s2 o2 => c σ2 H2 δ2 μ2 (s1.trans s2) o2))
/-- x op= e, ints -/
theorem ws_aug {i : Nat} {ti : TIp} (hx : δ[i]? = some (some x)) (h : W K te δ μ fun y μ1 => W2 K ti x y μ1 fun z μ2 => E.nx (δ.set i (some z)) μ2) : WS K (tAug i te ti) δ μ E := fun σ H ok Dn n r b c => by
  obtain ⟨v, ev, rv⟩ := ok.s i x hx
  exact ⟨v, ev, h σ H ok _ fun u H1 y μ1 s1 m1 r1 h1 => h1 H1 v u m1 (rv.step ok.m s1) r1 _ fun w H2 z μ2 s2 m2 r2 q => n _ H2 _ μ2 (s1.trans s2) ((ok.step (s1.trans s2) m2).set r2 i) q⟩
theorem wg_name {i : Nat} {PG : Dl → Mu → Prop} (q : PG (δ.set i (some d)) μ) : WG K (gName i) d δ μ PG := fun σ H v ok r Q f => f _ H _ μ .refl (ok.set r i) q
theorem wg_tup {n : Nat} {PG : Dl → Mu → Prop} (hl : ds.length = n) (h : WGs K gs ds δ μ PG) : WG K (gTup K n gs) (.tup ds) δ μ PG := fun σ H v ok r Q f => by
  cases r with
  | tup hs_ hd => have hs := TpA.sqt hs_; exact ⟨_, _, rfl, hs, by rw [hd.length]; exact hl, h σ H _ ok hd Q f⟩
theorem wgs_nil {PG : Dl → Mu → Prop} (q : PG δ μ) : WGs K gNil [] δ μ PG := fun σ H v ok r Q f => by
  cases r
  exact ⟨rfl, f σ H δ μ .refl ok q⟩
theorem wgs_cons {PG : Dl → Mu → Prop} (h : WG K g d δ μ fun δ1 μ1 => WGs K gs ds δ1 μ1 PG) : WGs K (gCons g gs) (d :: ds) δ μ PG := fun σ H v ok r Q f => by
  cases r with
  | cons r1 r2 => exact ⟨_, _, rfl, h σ H _ ok r1 _ fun σ1 H1 δ1 μ1 s1 o1 h1 => h1 σ1 H1 _ o1 (r2.step ok.m s1) Q fun σ2 H2 δ2 μ2 s2 o2 q => f σ2 H2 δ2 μ2 (s1.trans s2) o2 q⟩
/-- cut: what follows an if once for all -/
theorem ws_cut {J : Dl → Mu → Prop} (h : WS K ts1 δ μ { E with nx := J }) (k : ∀ δ' μ', J δ' μ' → WS K ts2 δ' μ' E) : WS K (tSeq ts1 ts2) δ μ E :=
  ws_seq fun σ H ok Dn n r b c => h σ H ok Dn (fun σ2 H2 δ2 μ2 s2 o2 j => n σ2 H2 δ2 μ2 s2 o2 (k _ _ j)) r b c
/-- consequence -/
theorem WS.imp {E' : DE} (h : WS K ts δ μ E') (hn : ∀ δ μ, E'.nx δ μ → E.nx δ μ) (hr : ∀ d μ, E'.rt d μ → E.rt d μ) (hb : ∀ δ μ, E'.bk δ μ → E.bk δ μ) (hc : ∀ δ μ, E'.ct δ μ → E.ct δ μ) : WS K ts δ μ E :=
  fun σ H ok Dn n r b c => h σ H ok Dn (fun σ2 H2 δ2 μ2 s2 o2 j => n σ2 H2 δ2 μ2 s2 o2 (hn _ _ j)) (fun v H2 d μ2 s2 m2 r2 j => r v H2 d μ2 s2 m2 r2 (hr _ _ j))
    (fun σ2 H2 δ2 μ2 s2 o2 j => b σ2 H2 δ2 μ2 s2 o2 (hb _ _ j)) (fun σ2 H2 δ2 μ2 s2 o2 j => c σ2 H2 δ2 μ2 s2 o2 (hc _ _ j))
theorem W.imp {P' : D → Mu → Prop} (h : W K te δ μ P') (k : ∀ d μ, P' d μ → P d μ) : W K te δ μ P := fun σ H ok Q f => h σ H ok Q fun v H' d μ' s m r p => f v H' d μ' s m r (k _ _ p)
theorem WT.imp {P' : Bool → Mu → Prop} (h : WT K t δ μ P') (k : ∀ d μ, P' d μ → PT d μ) : WT K t δ μ PT := fun σ H ok Q f => h σ H ok Q fun v H' μ' s m p => f v H' μ' s m (k _ _ p)

/-! ### for -/
theorem ws_for {wi : TI} (h : WI K wi δ μ fun ds G μ1 => ∃ I : Nat → Dl → Mu → Prop, I 0 δ μ1 ∧ (∀ i δ' μ', I i δ' μ' → G μ') ∧
    (∀ i d δ' μ', ds[i]? = some d → I i δ' μ' → WG K g d δ' μ' fun δ2 μ2 => WS K ts δ2 μ2 { E with nx := I (i + 1), ct := I (i + 1), bk := E.nx }) ∧ ∀ δ' μ', I ds.length δ' μ' → E.nx δ' μ') : WS K (tFor wi g ts) δ μ E := fun σ H ok Dn n r b c =>
  h σ H ok _ fun J H1 ds G μ1 s1 m1 wk ⟨I, h0, hG, hs, hd⟩ => by
    refine ⟨fun i m σ' H' => m = ds.length - i ∧ i ≤ ds.length ∧ ∃ δ' μ', Step μ1 H1 μ' H' ∧ Ok K H' σ' δ' μ' ∧ I i δ' μ', ⟨ds.length, by simp, Nat.zero_le _, δ, μ1, .refl, ok.step s1 m1, h0⟩, ?_⟩
    rintro i m σ2 H2 ⟨rfl, hi, δ2, μ2, s2, o2, i2⟩
    have w2 := wk H2 μ2 s2 o2.m (hG _ _ _ i2)
    by_cases hlt : i < ds.length
    · obtain ⟨d, hd'⟩ : ∃ d, ds[i]? = some d := ⟨_, List.getElem?_eq_getElem hlt⟩
      obtain ⟨go, yl⟩ := w2.2 i d hd'
      refine .inr ⟨go, fun σ' H' => i + 1 ≤ ds.length ∧ ∃ δ' μ', Step μ1 H1 μ' H' ∧ Ok K H' σ' δ' μ' ∧ I (i + 1) δ' μ', fun σ' H' ⟨z, q⟩ => ⟨ds.length - (i + 1), by omega, rfl, z, q⟩, fun x H3 hy => ?_⟩
      obtain ⟨s3, m3, r3⟩ := yl x H3 hy
      refine hs i d δ2 μ2 hd' i2 σ2 H3 x (o2.step s3 m3) r3 _ fun σ4 H4 δ4 μ4 s4 o4 h4 => ?_
      have s14 := s2.trans (s3.trans s4)
      exact h4 σ4 H4 o4 _ (fun σ5 H5 δ5 μ5 s5 o5 j => ⟨hlt, δ5, μ5, s14.trans s5, o5, j⟩) (fun v H5 d μ5 s5 m5 r5 j => r v H5 d μ5 (s1.trans (s14.trans s5)) m5 r5 j)
        (fun σ5 H5 δ5 μ5 s5 o5 j => n σ5 H5 δ5 μ5 (s1.trans (s14.trans s5)) o5 j) (fun σ5 H5 δ5 μ5 s5 o5 j => ⟨hlt, δ5, μ5, s14.trans s5, o5, j⟩)
    · have e : i = ds.length := by omega
      subst e
      exact .inl ⟨w2.1 _ (Nat.le_refl _), n σ2 H2 δ2 μ2 (s1.trans s2) o2 (hd _ _ i2)⟩
def rngD (lo : Int) (n : Nat) : List D := (List.range n).map fun i : Nat => D.int (lo + (i : Int))
theorem rngD_length (lo : Int) (n : Nat) : (rngD lo n).length = n := by simp [rngD]
theorem rngD_get {lo : Int} {n i : Nat} {d : D} (h : (rngD lo n)[i]? = some d) : i < n ∧ d = .int (lo + (i : Int)) := by
  have hi : i < n := by
    have := (List.getElem?_eq_some_iff.mp h).1
    rw [rngD_length] at this; exact this
  refine ⟨hi, ?_⟩
  unfold rngD at h
  rw [List.getElem?_map, List.getElem?_range hi] at h
  exact (Option.some.inj h).symm
theorem wlk_rng {lo : Int} {n : Nat} {H : Hp} (m : OkM K H μ) : Wlk K (Itr lo n) (rngD lo n) H μ :=
  ⟨fun i h => by rw [rngD_length] at h; exact h, fun i d h => by
    obtain ⟨hi, e⟩ := rngD_get h
    subst e
    exact ⟨hi, fun x H' hy => by
      obtain ⟨e1, e2⟩ := hy
      subst e1 e2
      exact ⟨.refl, m, .int _⟩⟩⟩
theorem wi_rng1 {PI : List D → (Mu → Prop) → Mu → Prop} (h : WA K al δ μ fun ds μ1 => ∃ j : Int, ds = [.int j] ∧ (-(2 ^ 62) ≤ j ∧ j < 2 ^ 62) ∧ PI (rngD 0 j.toNat) (fun _ => True) μ1) : WI K (iRng1 al) δ μ PI := fun σ H ok R f =>
  h σ H ok _ fun vs H1 ds μ1 s1 m1 r1 ⟨j, e, b, p⟩ => by
    subst e
    cases r1 with
    | cons a r =>
      cases a
      cases r
      exact ⟨j, rfl, b.1, b.2, f _ H1 _ _ μ1 s1 m1 (fun _ _ _ m _ => wlk_rng m) p⟩
theorem wi_rng2 {PI : List D → (Mu → Prop) → Mu → Prop} (h : WA K al δ μ fun ds μ1 => ∃ i j : Int, ds = [.int i, .int j] ∧ (-(2 ^ 62) ≤ i ∧ i < 2 ^ 62 ∧ -(2 ^ 62) ≤ j ∧ j < 2 ^ 62) ∧ PI (rngD i (j - i).toNat) (fun _ => True) μ1) : WI K (iRng2 al) δ μ PI := fun σ H ok R f =>
  h σ H ok _ fun vs H1 ds μ1 s1 m1 r1 ⟨i, j, e, b, p⟩ => by
    subst e
    cases r1 with
    | cons a r =>
      cases a
      cases r with
      | cons a r =>
        cases a
        cases r
        exact ⟨i, j, rfl, b, f _ H1 _ _ μ1 s1 m1 (fun _ _ _ m _ => wlk_rng m) p⟩
theorem wi_tup {PI : List D → (Mu → Prop) → Mu → Prop} (h : W K ta δ μ fun x μ1 => ∃ ds, x = .tup ds ∧ PI ds (fun _ => True) μ1) : WI K (iTup K ta) δ μ PI := fun σ H ok R f =>
  h σ H ok _ fun v H1 x μ1 s1 m1 r1 ⟨ds, e, p⟩ => by
    subst e
    cases r1 with
    | tup hs_ hl =>
      have hs := TpA.sqt hs_
      refine ⟨_, rfl, ⟨_, hs⟩, f _ H1 ds _ μ1 s1 m1 (fun H2 μ2 s2 m2 _ => ?_) p⟩
      have hs2 := sqT_step m1 s2 hs
      have hl2 := hl.step m1 s2
      refine ⟨fun i hi => ⟨_, hs2, by rw [hl2.length]; exact hi⟩, fun i d hd => ?_⟩
      obtain ⟨w, ew, rw'⟩ := hl2.get hd
      refine ⟨⟨_, w, hs2, ew⟩, fun x H' hy => ?_⟩
      obtain ⟨e1, e2⟩ := hy
      subst e1
      have e3 := e2 _ hs2
      rw [ew] at e3
      cases e3
      exact ⟨.refl, m2, rw'⟩
theorem list_uniq {H : Hp} {a : Addr} {vs : List V} (hv : H a = some (.lst vs)) (hk : K.lookup a = none ∨ True) : True := trivial
theorem wi_list {PI : List D → (Mu → Prop) → Mu → Prop} (h : W K ta δ μ fun x μ1 => ∃ (a : Addr) (j : Nat) (ds : List D), x = .ref a ∧ μ1[j]? = some (a, M.lst ds) ∧ PI ds (fun μ' => (a, M.lst ds) ∈ μ') μ1) : WI K (iList K ta) δ μ PI := fun σ H ok R f =>
  h σ H ok _ fun v H1 x μ1 s1 m1 r1 ⟨a, j, ds, e, hm, p⟩ => by
    subst e
    cases r1
    obtain ⟨vs, hv, hl⟩ := m1.at hm
    refine ⟨_, rfl, ⟨_, .inl (.inl hv)⟩, f _ H1 ds _ μ1 s1 m1 (fun H2 μ2 s2 m2 g => ?_) p⟩
    obtain ⟨ws, hw, hl2⟩ := m2.ok _ g
    refine ⟨fun i hi => ⟨_, .inl (.inl hw), by rw [hl2.length]; exact hi⟩, fun i d hd => ?_⟩
    obtain ⟨w, ew, rw'⟩ := hl2.get hd
    refine ⟨⟨_, w, .inl (.inl hw), ew⟩, fun x H' hy => ?_⟩
    obtain ⟨e1, e2⟩ := hy
    subst e1
    have e3 := e2 _ (.inl (.inl hw))
    rw [ew] at e3
    cases e3
    exact ⟨.refl, m2, rw'⟩
end
end Wk

set_option Elab.async false
set_option linter.all false
set_option maxRecDepth 100000
namespace Wk
open PySem PySem.Spec L2

section
variable {K : PySem.W.Frag} {δ : Dl} {μ : Mu} {P : D → Mu → Prop} {PT : Bool → Mu → Prop} {PA : List D → Mu → Prop} {E : DE} {ta tb tc te td ty tv : TE} {t u : TT} {al ar : TA} {ts ts1 ts2 : TS} {g : TG} {gs : TGs} {x y d : D} {xs ds : List D} {a b : Addr}

/-! ### built-ins -/
theorem wc_abs {i : Int} (q : P (.int (if i < 0 then -i else i)) μ) : WC K (fun xs H Q => ∃ i, xs = [V.int i] ∧ Q (.int (if i < 0 then -i else i)) H) [.int i] μ P := fun H vs m r Q k => by
  cases r with
  | cons a r =>
    cases a; cases r
    exact ⟨i, rfl, k _ H _ μ .refl m (.int _) q⟩
theorem wc_2i {f : Int → Int → Int} {i j : Int} (q : P (.int (f i j)) μ) : WC K (fun xs H Q => ∃ i j, xs = [V.int i, V.int j] ∧ Q (.int (f i j)) H) [.int i, .int j] μ P := fun H vs m r Q k => by
  cases r with
  | cons a r =>
    cases a
    cases r with
    | cons a r =>
      cases a; cases r
      exact ⟨i, j, rfl, k _ H _ μ .refl m (.int _) q⟩
theorem wc_intI {i : Int} (q : P (.int i) μ) : WC K (fun xs H Q => (∃ i, xs = [V.int i] ∧ Q (.int i) H) ∨ ∃ k, xs = [V.bl k] ∧ Q (.int (if k then 1 else 0)) H) [.int i] μ P := fun H vs m r Q k => by
  cases r with
  | cons a r =>
    cases a; cases r
    exact .inl ⟨i, rfl, k _ H _ μ .refl m (.int _) q⟩
theorem wc_intB {i : Bool} (q : P (.int (if i then 1 else 0)) μ) : WC K (fun xs H Q => (∃ i, xs = [V.int i] ∧ Q (.int i) H) ∨ ∃ k, xs = [V.bl k] ∧ Q (.int (if k then 1 else 0)) H) [.bl i] μ P := fun H vs m r Q k => by
  cases r with
  | cons a r =>
    cases a; cases r
    exact .inr ⟨i, rfl, k _ H _ μ .refl m (.int _) q⟩
/-- len of a list, a tuple, a text, a dict -/
def rLenG (K : PySem.W.Frag) : List V → Hp → VK → Prop := fun xs H Q => (∃ p ys, xs = [V.ref p] ∧ (SqL K H p ys ∨ SqT K H p ys) ∧ Q (.int ys.length) H) ∨ (∃ z : Str, xs = [V.str z] ∧ z.length ≤ sizeLine ∧ Q (.int z.length) H) ∨ ∃ a kvs, xs = [V.ref a] ∧ H a = some (.dK kvs) ∧ Q (.int kvs.length) H
theorem call_lenG {X : Cx} : CallR X (.builtin "len") (rLenG X.K) := by
  intro pins s σ H xs us Q I r h
  rcases h with h | h | h
  · exact call_len_seq pins s σ H xs us Q I r h
  · exact call_len_str pins s σ H xs us Q I r h
  · exact call_lenD pins s σ H xs us Q I r h
theorem wc_lenT (q : P (.int (ds.length : Int)) μ) : WC K (rLenG K) [.tup ds] μ P := fun H vs m r Q k => by
  cases r with
  | cons a r =>
    cases r
    cases a with
    | tup hs_ hl => have hs := TpA.sqt hs_; exact .inl ⟨_, _, rfl, .inr hs, by rw [hl.length]; exact k _ H _ μ .refl m (.int _) q⟩
theorem wc_lenL {j : Nat} (hm : μ[j]? = some (a, .lst ds)) (q : P (.int (ds.length : Int)) μ) : WC K (rLenG K) [.ref a] μ P := fun H vs m r Q k => by
  cases r with
  | cons a r =>
    cases r
    cases a
    obtain ⟨vs, hv, hl⟩ := m.at hm
    exact .inl ⟨_, _, rfl, .inl (.inl (.inl hv)), by rw [hl.length]; exact k _ H _ μ .refl m (.int _) q⟩
theorem wc_lenS {z : Str} (hz : z.length ≤ sizeLine) (q : P (.int (z.length : Int)) μ) : WC K (rLenG K) [.str z] μ P := fun H vs m r Q k => by
  cases r with
  | cons a r =>
    cases r
    cases a
    exact .inr (.inl ⟨z, rfl, hz, k _ H _ μ .refl m (.int _) q⟩)
/-- the type's name -/
def D.tn : D → String
  | .non => "NoneType" | .bl _ => "bool" | .int _ => "int" | .str _ => "str" | .tup _ => "tuple" | .ref _ => "" | .ty _ => "" | .scr _ => "" | .lis _ => "list" | .dct _ _ => "dict"
theorem tyx_den {H : Hp} {v : V} {n : String} (r : Den K H v x) (h : x.tn = n) (hn : n ≠ "") : TyX K H v (.type n) := by
  cases r with
  | non => subst h; exact .base .non
  | bl b => subst h; exact .base (.bl b)
  | int b => subst h; exact .base (.int b)
  | str b => subst h; exact .base (.str b)
  | ref a => exact (hn h.symm).elim
  | ty a => exact (hn h.symm).elim
  | scr a => exact (hn h.symm).elim
  | lis q _ => subst h; exact .base (.frz q)
  | dct q _ _ => subst h; exact .fDict q
  | tup hs_ hl =>
    have hs := TpA.sqt hs_
    subst h
    rcases hs with (hs | ⟨o, hs⟩) | ⟨o, its, k, e1, e2, _⟩
    · exact .base (.tup hs)
    · exact .fTuple hs
    · exact .kTuple e1 e2
theorem wc_isi {n c : String} {r : Bool} (h : x.tn = n) (hn : n ≠ "") (hk : kitB n c = some r) (q : P (.bl r) μ) : WC K (rIsi K) [x, .ty c] μ P := fun H vs m rr Q k => by
  cases rr with
  | cons a rr =>
    cases rr with
    | cons a' rr =>
      cases a'; cases rr
      exact ⟨_, _, _, _, r, rfl, .ty c, tyx_den a h hn, kit_ty hk, k _ H _ μ .refl m (.bl _) q⟩
theorem wc_isiL {c : String} {r : Bool} {j : Nat} (hm : μ[j]? = some (a, .lst ds)) (hk : kitB "list" c = some r) (q : P (.bl r) μ) : WC K (rIsi K) [.ref a, .ty c] μ P := fun H vs m rr Q k => by
  cases rr with
  | cons a rr =>
    cases rr with
    | cons a' rr =>
      cases a'; cases rr; cases a
      obtain ⟨vs, hv, hl⟩ := m.at hm
      exact ⟨_, _, _, _, r, rfl, .ty c, .base (.lst hv), kit_ty hk, k _ H _ μ .refl m (.bl _) q⟩
theorem wc_listT (q : ∀ p, P (.ref p) ((p, .lst ds) :: μ)) : WC K (fun xs H Q => ∃ p ys, xs = [V.ref p] ∧ (SqL K H p ys ∨ SqT K H p ys) ∧ ∀ l, H l = none → Q (.ref l) (upd H l (.lst ys))) [.tup ds] μ P := fun H vs m r Q k => by
  cases r with
  | cons a r =>
    cases r
    cases a with
    | tup hs_ hl => have hs := TpA.sqt hs_; exact ⟨_, _, rfl, .inr hs, fun p hp => k _ _ _ _ (step_join hp rfl) (m.join (m := .lst ds) hp rfl ⟨_, upd_same, hl.step m (step_new hp)⟩) (.ref p) (q p)⟩
theorem wc_listL {j : Nat} (hm : μ[j]? = some (a, .lst ds)) (q : ∀ p, P (.ref p) ((p, .lst ds) :: μ)) : WC K (fun xs H Q => ∃ p ys, xs = [V.ref p] ∧ (SqL K H p ys ∨ SqT K H p ys) ∧ ∀ l, H l = none → Q (.ref l) (upd H l (.lst ys))) [.ref a] μ P := fun H vs m r Q k => by
  cases r with
  | cons a r =>
    cases r
    cases a
    obtain ⟨vs, hv, hl⟩ := m.at hm
    exact ⟨_, _, rfl, .inl (.inl (.inl hv)), fun p hp => k _ _ _ _ (step_join hp rfl) (m.join (m := .lst ds) hp rfl ⟨_, upd_same, hl.step m (step_new hp)⟩) (.ref p) (q p)⟩
theorem wc_tupT (q : P (.tup ds) μ) : WC K (fun xs H Q => ∃ p ys, xs = [V.ref p] ∧ ((SqL K H p ys ∧ ∀ l, H l = none → Q (.ref l) (upd H l (.tup ys))) ∨ (SqT K H p ys ∧ Q (.ref p) H))) [.tup ds] μ P := fun H vs m r Q k => by
  cases r with
  | cons a r =>
    cases r
    cases a with
    | tup hs_ hl => have hs := TpA.sqt hs_; exact ⟨_, _, rfl, .inr ⟨hs, k _ H _ μ .refl m (.tup hs_ hl) q⟩⟩
theorem wc_tupL {j : Nat} (hm : μ[j]? = some (a, .lst ds)) (q : P (.tup ds) μ) : WC K (fun xs H Q => ∃ p ys, xs = [V.ref p] ∧ ((SqL K H p ys ∧ ∀ l, H l = none → Q (.ref l) (upd H l (.tup ys))) ∨ (SqT K H p ys ∧ Q (.ref p) H))) [.ref a] μ P := fun H vs m r Q k => by
  cases r with
  | cons a r =>
    cases r
    cases a
    obtain ⟨vs, hv, hl⟩ := m.at hm
    exact ⟨_, _, rfl, .inl ⟨.inl (.inl hv), fun p hp => k _ _ _ _ (step_new hp) (m.new hp) (.tup upd_same (hl.step m (step_new hp))) q⟩⟩
theorem wc_all {ns : List Bool} {j : Nat} (hm : μ[j]? = some (a, .lst (ns.map D.bl))) (q : P (.bl (ns.all id)) μ) : WC K (rAll K) [.ref a] μ P := fun H vs m r Q k => by
  cases r with
  | cons a r =>
    cases r
    cases a
    obtain ⟨vs, hv, hl⟩ := m.at hm
    have e := hl.bls
    subst e
    exact ⟨_, ns, rfl, .inl (.inl hv), k _ H _ μ .refl m (.bl _) q⟩
theorem wc_any {ns : List Bool} {j : Nat} (hm : μ[j]? = some (a, .lst (ns.map D.bl))) (q : P (.bl (ns.any id)) μ) : WC K (rAny K) [.ref a] μ P := fun H vs m r Q k => by
  cases r with
  | cons a r =>
    cases r
    cases a
    obtain ⟨vs, hv, hl⟩ := m.at hm
    have e := hl.bls
    subst e
    exact ⟨_, ns, rfl, .inl (.inl hv), k _ H _ μ .refl m (.bl _) q⟩

/-! ### slices -/
def cutD (xs : List D) (lo hi : Option Int) : List D := (xs.drop (HT.sIx xs.length 0 lo)).take (HT.sIx xs.length xs.length hi - HT.sIx xs.length 0 lo)
theorem den_cut {H : Hp} {vs : List V} (h : DenL K H vs ds) (lo hi : Option Int) : DenL K H (cutV vs lo hi) (cutD ds lo hi) := by
  unfold cutV cutD
  rw [h.length]
  exact (h.drop _).take _
/-- a slice of a list or of a tuple -/
def rSlG (K : PySem.W.Frag) : V → Option Int → Option Int → Hp → VK → Prop := fun x lo hi H Q => rSlL K x lo hi H Q ∨ rSlA K x lo hi H Q
theorem sl_any {X : Cx} : SlR X (rSlG X.K) := by
  intro pins s σ H x v vl vu lo hi sl Q I rx hs pl pu h
  rcases h with h | h
  · exact sl_list pins s σ H x v vl vu lo hi sl Q I rx hs pl pu h
  · exact sl_tupA pins s σ H x v vl vu lo hi sl Q I rx hs pl pu h
theorem cutD_whole {lo hi : Option Int} (hw : HT.sIx ds.length 0 lo = 0 ∧ HT.sIx ds.length ds.length hi = ds.length) : cutD ds lo hi = ds := by
  unfold cutD
  rw [hw.1, hw.2, List.drop_zero, Nat.sub_zero, List.take_length]
theorem wsl_tup {lo hi : Option Int} (q : P (.tup (cutD ds lo hi)) μ) : WSl K (rSlG K) (.tup ds) lo hi μ P := fun H v m r Q k => by
  cases r with
  | tup hs_ hl =>
    have hs := TpA.sqt hs_
    refine .inr ⟨_, _, rfl, hs, fun hw => ?_, fun hw p hp => ?_⟩
    · rw [hl.length] at hw
      rw [cutD_whole hw] at q
      exact k _ H _ μ .refl m (.tup hs_ hl) q
    · exact k _ _ _ μ (step_new hp) (m.new hp) (.tup upd_same ((den_cut hl lo hi).step m (step_new hp))) q
theorem wsl_scr {ns : List Int} {lo hi : Option Int} (q : ∀ p, P (.ref p) ((p, .lst (cutD (ns.map D.int) lo hi)) :: μ)) : WSl K (rSlG K) (.scr ns) lo hi μ P := fun H v m r Q k => by
  cases r with
  | scr hs =>
    refine .inl ⟨_, _, rfl, hs.sql, fun p hp => ?_⟩
    exact k _ _ _ _ (step_join hp rfl) (m.join (m := .lst (cutD (ns.map D.int) lo hi)) hp rfl ⟨_, upd_same, (den_cut (DenL.of_ints ns) lo hi).step m (step_new hp)⟩) (.ref p) (q p)
theorem wsl_lst {lo hi : Option Int} {j : Nat} (hm : μ[j]? = some (a, .lst ds)) (q : ∀ p, P (.ref p) ((p, .lst (cutD ds lo hi)) :: μ)) : WSl K (rSlG K) (.ref a) lo hi μ P := fun H v m r Q k => by
  cases r
  obtain ⟨vs, hv, hl⟩ := m.at hm
  refine .inl ⟨_, _, rfl, .inl (.inl hv), fun p hp => ?_⟩
  exact k _ _ _ _ (step_join hp rfl) (m.join (m := .lst (cutD ds lo hi)) hp rfl ⟨_, upd_same, (den_cut hl lo hi).step m (step_new hp)⟩) (.ref p) (q p)

/-! ### lists by their methods -/
theorem ty_lst {j : Nat} (hm : μ[j]? = some (a, .lst ds)) : ∀ H v, OkM K H μ → Den K H v (.ref a) → tyV K "list" v H := fun H v m r => by
  cases r
  obtain ⟨vs, hv, hl⟩ := m.at hm
  exact .inl ⟨rfl, _, .inl (.inl hv)⟩
theorem wm_append {j : Nat} (hm : μ[j]? = some (a, .lst xs)) (hz : xs.length < sizeLine) (q : P .non (μ.set j (a, .lst (xs ++ [d])))) : WM K rAppend (.ref a) [d] μ P := fun H v vs m r rs Q k => by
  cases r
  cases rs with
  | cons r1 r2 =>
    cases r2
    obtain ⟨ws, hv, hl⟩ := m.at hm
    refine ⟨_, _, _, rfl, rfl, hv, by rw [hl.length]; exact hz, ?_⟩
    exact k _ _ _ _ (step_set (m' := .lst (xs ++ [d])) hm rfl) (m.set (m' := .lst (xs ++ [d])) hm rfl ⟨_, upd_same, (hl.append (.cons r1 .nil)).step m (step_set (m' := .lst (xs ++ [d])) hm rfl)⟩) .non q
theorem wm_pop {j : Nat} (hm : μ[j]? = some (a, .lst xs)) (hz : xs[xs.length - 1]? = some d) (q : P d (μ.set j (a, .lst xs.dropLast))) : WM K rPop (.ref a) [] μ P := fun H v vs m r rs Q k => by
  cases r
  cases rs
  obtain ⟨ws, hv, hl⟩ := m.at hm
  obtain ⟨w, hw, rw'⟩ := hl.get hz
  refine ⟨_, _, w, rfl, rfl, hv, by rw [hl.length]; exact hw, ?_⟩
  exact k _ _ _ _ (step_set (m' := .lst xs.dropLast) hm rfl) (m.set (m' := .lst xs.dropLast) hm rfl ⟨_, upd_same, hl.dropLast.step m (step_set (m' := .lst xs.dropLast) hm rfl)⟩) (rw'.step m (step_set (m' := .lst xs.dropLast) hm rfl)) q
theorem wm_popAt {j i : Nat} (hm : μ[j]? = some (a, .lst xs)) (hi : i < 2 ^ 62) (hz : xs[i]? = some d) (q : P d (μ.set j (a, .lst (xs.eraseIdx i)))) : WM K rPopAt (.ref a) [.int (i : Int)] μ P := fun H v vs m r rs Q k => by
  cases r
  cases rs with
  | cons r1 r2 =>
    cases r1; cases r2
    obtain ⟨ws, hv, hl⟩ := m.at hm
    obtain ⟨w, hw, rw'⟩ := hl.get hz
    have hlt : i < ws.length := (List.getElem?_eq_some_iff.mp hw).1
    refine ⟨_, _, _, i, w, rfl, rfl, hv, by omega, by omega, ?_, hw, ?_⟩
    · first
        | (unfold PySem.seqIndex?; simp; omega)
        | (rw [seqIndex_of (by omega) (by omega)]; simp)
    · exact k _ _ _ _ (step_set (m' := .lst (xs.eraseIdx i)) hm rfl) (m.set (m' := .lst (xs.eraseIdx i)) hm rfl ⟨_, upd_same, (hl.eraseIdx i).step m (step_set (m' := .lst (xs.eraseIdx i)) hm rfl)⟩) (rw'.step m (step_set (m' := .lst (xs.eraseIdx i)) hm rfl)) q
theorem wg_setL {to ti : TE} {PG : Dl → Mu → Prop} (h : W K to δ μ fun o μ1 => W K ti δ μ1 fun i μ2 => ∃ (a : Addr) (j : Nat) (xs : List D) (n : Int) (k : Nat), o = .ref a ∧ i = .int n ∧ μ2[j]? = some (a, M.lst xs) ∧ ixN xs.length n = some k ∧ PG δ (μ2.set j (a, .lst (xs.set k d)))) : WG K (gSub to ti rSetL) d δ μ PG := fun σ H v ok r Q f =>
  h σ H ok _ fun o H1 do1 μ1 s1 m1 r1 h1 => h1 σ H1 (ok.step s1 m1) _ fun i H2 di μ2 s2 m2 r2 ⟨a, j, xs, n, k, e1, e2, hm, hk, q⟩ => by
    subst e1 e2
    cases r1
    cases r2
    obtain ⟨ws, hv, hl⟩ := m2.at hm
    have r' := (r.step ok.m s1).step m1 s2
    have st : Step μ2 H2 (μ2.set j (a, .lst (xs.set k d))) (upd H2 a (.lst (ws.set k v))) := step_set hm rfl
    refine ⟨_, _, _, k, rfl, rfl, hv, by rw [hl.length]; exact hk, ?_⟩
    exact f σ _ δ _ ((s1.trans s2).trans st) ((ok.step (s1.trans s2) m2).step st (m2.set hm rfl ⟨_, upd_same, (DenL.set r' k hl).step m2 st⟩)) q

/-! ### dicts -/
def kD : Key → D
  | .inl i => .int i
  | .inr x => .str x
def valD (kds : List (Key × D)) (k : Key) : Option D := (kds.find? fun kv => decide (kv.1 = k)).map (·.2)
def putD (kvs : List (Key × D)) (k : Key) (v : D) : List (Key × D) :=
  if (kvs.any fun kv => decide (kv.1 = k)) = true then kvs.map (fun kv => if kv.1 = k then (kv.1, v) else kv) else kvs ++ [(k, v)]
theorem den_kD {H : Hp} {k : Key} {v : V} (r : Den K H v (kD k)) : v = kV k := by
  cases k <;> (cases r; rfl)
theorem DenK.length {H : Hp} : ∀ {kvs : List (Key × V)} {kds : List (Key × D)}, DenK K H kvs kds → kvs.length = kds.length
  | _, _, .nil => rfl
  | _, _, .cons _ b => congrArg (· + 1) b.length
theorem DenK.val {H : Hp} {k : Key} : ∀ {kvs : List (Key × V)} {kds : List (Key × D)}, DenK K H kvs kds → (valD kds k = none → valV kvs k = none) ∧ ∀ d, valD kds k = some d → ∃ v, valV kvs k = some v ∧ Den K H v d
  | _, _, .nil => ⟨fun _ => rfl, fun d e => by cases e⟩
  | (k1, v1) :: _, (_, d1) :: _, .cons a b => by
    have ih := DenK.val (k := k) b
    by_cases c : k1 = k
    · have e1 : ∀ r : List (Key × D), valD ((k1, d1) :: r) k = some d1 := fun r => by unfold valD; rw [List.find?_cons, decide_eq_true c]; rfl
      have e2 := valV_pos (p := (k1, v1)) (r := ‹_›) c
      refine ⟨fun z => ?_, fun d z => ?_⟩
      · rw [e1] at z; cases z
      · rw [e1] at z; cases z; exact ⟨v1, e2, a⟩
    · have e1 : ∀ r : List (Key × D), valD ((k1, d1) :: r) k = valD r k := fun r => by unfold valD; rw [List.find?_cons, decide_eq_false c]
      have e2 : ∀ r : List (Key × V), valV ((k1, v1) :: r) k = valV r k := fun r => valV_neg (p := (k1, v1)) (r := r) c
      exact ⟨fun z => by rw [e1] at z; rw [e2]; exact ih.1 z, fun d z => by rw [e1] at z; rw [e2]; exact ih.2 d z⟩
theorem DenK.any {H : Hp} {k : Key} : ∀ {kvs : List (Key × V)} {kds : List (Key × D)}, DenK K H kvs kds → (kvs.any fun kv => decide (kv.1 = k)) = (kds.any fun kv => decide (kv.1 = k))
  | _, _, .nil => rfl
  | _, _, .cons a b => by rw [List.any_cons, List.any_cons, DenK.any b]
theorem DenK.put {H : Hp} {k : Key} {v : V} {d : D} (r : Den K H v d) {kvs : List (Key × V)} {kds : List (Key × D)} (h : DenK K H kvs kds) : DenK K H (putK kvs k v) (putD kds k d) := by
  unfold putK putD
  rw [DenK.any h]
  split
  · rename_i hq; clear hq
    induction h with
    | nil => exact .nil
    | @cons k1 v1 d1 kvs kds a b ih =>
      rw [List.map_cons, List.map_cons]
      by_cases c : k1 = k
      · rw [if_pos (show (k1, v1).1 = k from c), if_pos (show (k1, d1).1 = k from c)]; exact .cons r ih
      · rw [if_neg (show ¬ (k1, v1).1 = k from c), if_neg (show ¬ (k1, d1).1 = k from c)]; exact .cons a ih
  · rename_i hq; clear hq
    induction h with
    | nil => exact .cons r .nil
    | cons a b ih => exact .cons a ih
theorem w_dget (h : W K td δ μ fun x μ1 => W K ty δ μ1 fun y μ2 => ∃ (a : Addr) (j : Nat) (kds : List (Key × D)) (k : Key) (d : D), x = .ref a ∧ y = kD k ∧ μ2[j]? = some (a, M.dic kds) ∧ valD kds k = some d ∧ P d μ2) : W K (tDGet td ty) δ μ P := fun σ H ok Q f =>
  h σ H ok _ fun v H1 x μ1 s1 m1 r1 h1 => h1 σ H1 (ok.step s1 m1) _ fun u H2 y μ2 s2 m2 r2 ⟨a, j, kds, k, d, e1, e2, hm, hv, q⟩ => by
    subst e1 e2
    cases r1
    have e := den_kD r2
    subst e
    obtain ⟨kvs, hd, hl⟩ := m2.at hm
    obtain ⟨w, hw, rw'⟩ := (hl.val (k := k)).2 d hv
    exact ⟨a, w, rfl, by rw [← hw]; exact DGet.k hd, f _ H2 _ μ2 (s1.trans s2) m2 rw' q⟩
theorem w_din (h : W K ty δ μ fun y μ1 => W K td δ μ1 fun x μ2 => ∃ (a : Addr) (j : Nat) (kds : List (Key × D)) (k : Key), x = .ref a ∧ y = kD k ∧ μ2[j]? = some (a, M.dic kds) ∧ P (.bl (valD kds k).isSome) μ2) : W K (tDIn ty td) δ μ P := fun σ H ok Q f =>
  h σ H ok _ fun v H1 x μ1 s1 m1 r1 h1 => h1 σ H1 (ok.step s1 m1) _ fun u H2 y μ2 s2 m2 r2 ⟨a, j, kds, k, e1, e2, hm, q⟩ => by
    subst e1 e2
    cases r2
    have e := den_kD (r1.step m1 s2)
    subst e
    obtain ⟨kvs, hd, hl⟩ := m2.at hm
    refine ⟨a, _, rfl, DGet.k hd, f _ H2 _ μ2 (s1.trans s2) m2 (.bl _) ?_⟩
    have e : (valV kvs k).isSome = (valD kds k).isSome := by
      cases c : valD kds k with
      | none => rw [(hl.val (k := k)).1 c]; rfl
      | some d =>
        obtain ⟨w, hw, _⟩ := (hl.val (k := k)).2 d c
        rw [hw]; rfl
    rw [e]; exact q
theorem w_dnotin (h : W K ty δ μ fun y μ1 => W K td δ μ1 fun x μ2 => ∃ (a : Addr) (j : Nat) (kds : List (Key × D)) (k : Key), x = .ref a ∧ y = kD k ∧ μ2[j]? = some (a, M.dic kds) ∧ P (.bl (!(valD kds k).isSome)) μ2) : W K (tDNotIn ty td) δ μ P := fun σ H ok Q f =>
  h σ H ok _ fun v H1 x μ1 s1 m1 r1 h1 => h1 σ H1 (ok.step s1 m1) _ fun u H2 y μ2 s2 m2 r2 ⟨a, j, kds, k, e1, e2, hm, q⟩ => by
    subst e1 e2
    cases r2
    have e := den_kD (r1.step m1 s2)
    subst e
    obtain ⟨kvs, hd, hl⟩ := m2.at hm
    refine ⟨a, _, rfl, DGet.k hd, f _ H2 _ μ2 (s1.trans s2) m2 (.bl _) ?_⟩
    have e : (valV kvs k).isSome = (valD kds k).isSome := by
      cases c : valD kds k with
      | none => rw [(hl.val (k := k)).1 c]; rfl
      | some d =>
        obtain ⟨w, hw, _⟩ := (hl.val (k := k)).2 d c
        rw [hw]; rfl
    rw [e]; exact q
theorem ws_dput (h : W K tv δ μ fun d μ1 => W K td δ μ1 fun x μ2 => W K ty δ μ2 fun y μ3 => ∃ (a : Addr) (j : Nat) (kds : List (Key × D)) (k : Key), x = .ref a ∧ y = kD k ∧ μ3[j]? = some (a, M.dic kds) ∧ kds.length < sizeLine ∧ E.nx δ (μ3.set j (a, .dic (putD kds k d)))) : WS K (sDPut td ty tv) δ μ E := fun σ H ok Dn n r b c =>
  h σ H ok _ fun v H1 d μ1 s1 m1 r1 h1 => h1 σ H1 (ok.step s1 m1) _ fun u H2 x μ2 s2 m2 r2 h2 => h2 σ H2 (ok.step (s1.trans s2) m2) _ fun w H3 y μ3 s3 m3 r3 ⟨a, j, kds, k, e1, e2, hm, hz, q⟩ => by
    subst e1 e2
    cases r2
    have e := den_kD r3
    subst e
    obtain ⟨kvs, hd, hl⟩ := m3.at hm
    have r' := (r1.step m1 s2).step m2 s3
    have st : Step μ3 H3 (μ3.set j (a, .dic (putD kds k d))) (upd H3 a (.dK (putK kvs k v))) := step_set hm rfl
    refine ⟨a, _, rfl, DPut.k hd (by rw [hl.length]; exact hz), ?_⟩
    exact n σ _ δ _ (s1.trans (s2.trans (s3.trans st))) ((ok.step (s1.trans (s2.trans s3)) m3).step st (m3.set hm rfl ⟨_, upd_same, DenK.step' (ps_step m3 st) (DenK.put r' hl)⟩)) q
/-- a display -/
def WPs (K : PySem.W.Frag) : List (TE × TE) → Dl → Mu → (List (D × D) → Mu → Prop) → Prop
  | [], _, μ, P => P [] μ
  | (tk, tv) :: r, δ, μ, P => W K tk δ μ fun k μ1 => W K tv δ μ1 fun v μ2 => WPs K r δ μ2 fun ps μ3 => P ((k, v) :: ps) μ3

theorem wps_run {trs : List (TE × TE)} : ∀ {μ : Mu} {Pp : List (D × D) → Mu → Prop}, WPs K trs δ μ Pp → ∀ (σ : St) (H : Hp), Ok K H σ δ μ → ∀ Q : List (V × V) → Hp → Prop,
    (∀ ps H' pds μ', Step μ H μ' H' → OkM K H' μ' → DenL K H' (ps.map (·.1)) (pds.map (·.1)) → DenL K H' (ps.map (·.2)) (pds.map (·.2)) → Pp pds μ' → Q ps H') → tPairs trs σ H Q := by
  induction trs with
  | nil => exact fun h σ H ok Q f => f [] H [] _ .refl ok.m .nil .nil h
  | cons p r ih =>
    obtain ⟨tk, tv⟩ := p
    intro μ Pp h σ H ok Q f
    exact h σ H ok _ fun v H1 x μ1 s1 m1 r1 h1 => h1 σ H1 (ok.step s1 m1) _ fun u H2 y μ2 s2 m2 r2 h2 => ih h2 σ H2 (ok.step (s1.trans s2) m2) _ fun ps H3 pds μ3 s3 m3 r3 r4 h3 =>
      f ((v, u) :: ps) H3 ((x, y) :: pds) μ3 (s1.trans (s2.trans s3)) m3 (.cons ((r1.step m1 s2).step m2 s3) r3) (.cons (r2.step m2 s3) r4) h3
def mergeD (kvs more : List (Key × D)) : List (Key × D) := more.foldl (fun acc kv => putD acc kv.1 kv.2) kvs
theorem DenK.merge {H : Hp} : ∀ {more : List (Key × V)} {mds : List (Key × D)} {kvs : List (Key × V)} {kds : List (Key × D)}, DenK K H more mds → DenK K H kvs kds → DenK K H (mergeK kvs more) (mergeD kds mds)
  | [], [], _, _, _, h => h
  | [], _ :: _, _, _, h, _ => by cases h
  | _ :: _, [], _, _, h, _ => by cases h
  | (k, v) :: more, (k', d) :: mds, kvs, kds, h1, h => by
    cases h1 with
    | cons a b => exact DenK.merge (more := more) (mds := mds) b (DenK.put a h)
theorem denK_of {H : Hp} : ∀ {ps : List (V × V)} {kds : List (Key × D)}, DenL K H (ps.map (·.1)) (kds.map fun kv => kD kv.1) → DenL K H (ps.map (·.2)) (kds.map (·.2)) → ∃ kvs : List (Key × V), ps = kvs.map (fun kv => (kV kv.1, kv.2)) ∧ DenK K H kvs kds
  | [], [], _, _ => ⟨[], rfl, .nil⟩
  | [], _ :: _, h, _ => by cases h
  | _ :: _, [], h, _ => by cases h
  | (a, b) :: ps, (k, d) :: kds, .cons h1 h2, .cons h3 h4 => by
    obtain ⟨kvs, e, h⟩ := denK_of (ps := ps) (kds := kds) h2 h4
    exact ⟨(k, b) :: kvs, by rw [List.map_cons, ← e, ← den_kD h1], .cons h3 h⟩
theorem w_disp {trs : List (TE × TE)} (h : ∀ p, WPs K trs δ ((p, .dic []) :: μ) fun pds μ2 => ∃ (j : Nat) (kds : List (Key × D)), μ2[j]? = some (p, M.dic []) ∧ pds = kds.map (fun kv => (kD kv.1, kv.2)) ∧ kds.length ≤ 15 ∧ P (.ref p) (μ2.set j (p, .dic (mergeD [] kds)))) : W K (tDisp trs) δ μ P := fun σ H ok Q f p hp => by
  have st : Step μ H ((p, .dic []) :: μ) (upd H p (.dK [])) := step_join hp rfl
  have m' : OkM K (upd H p (.dK [])) ((p, .dic []) :: μ) := ok.m.join (m := .dic []) hp rfl ⟨[], upd_same, .nil⟩
  refine wps_run (h p) σ _ (ok.step st m') _ fun ps H2 pds μ2 s2 m2 r1 r2 ⟨j, kds, hm, e, hl, q⟩ => ?_
  obtain ⟨kv0, hk, hk0⟩ := m2.at hm
  have ek : kv0 = [] := by cases hk0; rfl
  subst ek
  subst e
  rw [List.map_map] at r1 r2
  obtain ⟨kvs, e, hd⟩ := denK_of (kds := kds) r1 r2
  have s3 : Step μ2 H2 (μ2.set j (p, .dic (mergeD [] kds))) (upd H2 p (.dK (mergeK [] kvs))) := step_set hm rfl
  refine ⟨hk, kvs, e, by rw [hd.length]; exact hl, f _ _ _ _ ((st.trans s2).trans s3) (m2.set (m' := .dic (mergeD [] kds)) hm rfl ⟨_, upd_same, DenK.step' (ps_step m2 s3) (DenK.merge hd .nil)⟩) (.ref p) q⟩

/-! ### calls -/
abbrev SpD := List D → Mu → (D → Mu → Prop) → Prop
def spOf (K : PySem.W.Frag) (n : Nat) (S : SpD) : Sp := fun vs H Q _ => vs.length = n ∧ ∃ ds μ P, OkM K H μ ∧ DenL K H vs ds ∧ S ds μ P ∧ ∀ v H' d μ', Step μ H μ' H' → OkM K H' μ' → Den K H' v d → P d μ' → Q v H'
theorem w_call {n : Nat} {S : SpD} {X : XK} (h : WA K al δ μ fun ds μ1 => ds.length = n ∧ S ds μ1 P) : W K (tCall (spOf K n S) [] X al) δ μ P := fun σ H ok Q f =>
  h σ H ok _ fun vs H1 ds μ1 s1 m1 r1 ⟨hl, h1⟩ => by
    rw [List.append_nil]
    exact ⟨by rw [r1.length]; exact hl, ds, μ1, P, m1, r1, h1, fun v H2 d μ2 s2 m2 r2 p => f v H2 d μ2 (s1.trans s2) m2 r2 p⟩
/-- what may be forgotten -/
def Weak (μ μ' : Mu) : Prop := ∀ (K : PySem.W.Frag) (H : Hp), OkM K H μ → OkM K H μ' ∧ ∀ a ∈ foot μ', a ∈ foot μ
theorem Weak.refl {μ : Mu} : Weak μ μ := fun _ _ h => ⟨h, fun _ z => z⟩
theorem Weak.trans {μ1 μ2 μ3 : Mu} (a : Weak μ1 μ2) (b : Weak μ2 μ3) : Weak μ1 μ3 := fun K H h => let ⟨h1, s1⟩ := a K H h; let ⟨h2, s2⟩ := b K H h1; ⟨h2, fun x z => s1 x (s2 x z)⟩
theorem foot_sub : ∀ {μ μ' : Mu}, μ'.Sublist μ → (foot μ').Sublist (foot μ)
  | _, _, .slnil => .slnil
  | _, _, .cons p h => .cons _ (List.Sublist.trans (foot_sub h) (List.sublist_append_right _ _))
  | _, _, .cons₂ p h => .cons₂ _ (List.Sublist.append (List.Sublist.refl _) (foot_sub h))
theorem weak_sub {μ μ' : Mu} (h : μ'.Sublist μ) : Weak μ μ' := fun _ _ o => ⟨⟨(foot_sub h).nodup o.nd, fun p hp => o.ok p (h.subset hp)⟩, fun _ z => (foot_sub h).subset z⟩
theorem Weak.step {H H' : Hp} {μ μ' μ'' : Mu} (w : Weak μ' μ'') (m : OkM K H' μ') (s : Step μ H μ' H') : Step μ H μ'' H' := ⟨s.keep, fun a z => s.grow a ((w K H' m).2 a z)⟩
/-- the end of a def -/
def endD (P : D → Mu → Prop) : DE where
  nx := fun _ μ => ∃ μ', Weak μ μ' ∧ P .non μ'
  rt := fun d μ => ∃ μ', Weak μ μ' ∧ P d μ'
  bk := fun _ _ => False
  ct := fun _ _ => False
def startD (N : List Str) (ds : List D) : Dl := ds.map some ++ List.replicate (N.length - ds.length) none
theorem sg_start {H : Hp} {N : List Str} {vs : List V} (r : DenL K H vs ds) : Sg K H (L2.start N vs) (startD N ds) := fun i d e => by
  unfold startD at e
  unfold L2.start
  have hl := r.length
  by_cases c : i < ds.length
  · rw [List.getElem?_append_left (by rw [List.length_map]; exact c), List.getElem?_map] at e
    rw [List.getElem?_append_left (by rw [List.length_map, hl]; exact c), List.getElem?_map]
    cases q : ds[i]? with
    | none => rw [q] at e; cases e
    | some z =>
      rw [q] at e
      cases e
      obtain ⟨v, h1, h2⟩ := r.get q
      exact ⟨v, by rw [h1]; rfl, h2⟩
  · rw [List.getElem?_append_right (by rw [List.length_map]; omega)] at e
    rw [List.getElem?_replicate] at e
    split at e <;> cases e
theorem fn_ok {Pg : Program} {w : World} {mg : Str → Option Value} {base : Heap} {x qual : Str} {st : Stmt} {f : Addr} {fd : FuncData} {N ps : List Str} {k n : Nat} {S : SpD} (F : Fun K x qual st f fd) (sc : FnScope N ps (defScope st)) (hn : n = ps.length)
    (body : ∀ (cdv : Value) (A : Around) (outer : List Env) (s : Shared) (H : Hp) (X : XK), Room k (A.deeper (PyProof.Rows.envOfC qual (defScope st) s.heap.objs.size f cdv)) →
      ∃ t, PSs (cxOf CX0 Pg w K mg base N qual (defScope st) f cdv A outer s H X).nox (defBody st) t ∧ ∀ ds μ P, ds.length = n → S ds μ P → WS K t (startD N ds) μ (endD P)) :
    FnOk Pg w K mg base CX0 (k + 1) f fd ps (spOf K n S) := by
  refine F.ok sc (fun vs H Q E h => h.1.trans hn) (fun cdv A outer s H vs Q E hr h => ?_)
  obtain ⟨t, h1, h2⟩ := body cdv A outer s H E hr
  obtain ⟨hl, ds, μ, P, m, r, hs, q⟩ := h
  refine ⟨t, h1, h2 ds μ P (by rw [← r.length]; exact hl) hs (L2.start N vs) H ⟨m, sg_start r, by unfold L2.start startD; simp [r.length]⟩ _ ?_ ?_ ?_ ?_⟩
  · rintro σ' H' δ' μ' s' o' ⟨μ'', wk, p⟩
    exact q .non H' .non μ'' (wk.step o'.m s') (wk K H' o'.m).1 .non p
  · rintro v H' d μ' s' m' r' ⟨μ'', wk, p⟩
    exact q v H' d μ'' (wk.step m' s') (wk K H' m').1 r' p
  · intro _ _ _ _ _ _ z; exact z
  · intro _ _ _ _ _ _ z; exact z

/-! ### decks -/
theorem foot_perm : ∀ {μ : Mu} {i : Nat} {p : Addr × M}, μ[i]? = some p → (foot μ).Perm (p.1 :: (p.2.own ++ foot (μ.eraseIdx i)))
  | [], i, p, e => by simp at e
  | q :: μ, 0, p, e => by
    simp at e
    subst e
    exact List.Perm.refl _
  | q :: μ, i + 1, p, e => by
    have ih := foot_perm (μ := μ) (i := i) (p := p) (by simpa using e)
    show (q.1 :: (q.2.own ++ foot μ)).Perm (p.1 :: (p.2.own ++ (q.1 :: (q.2.own ++ foot (μ.eraseIdx i)))))
    refine ((ih.append_left q.2.own).cons q.1).trans ?_
    have e1 : (q.1 :: (q.2.own ++ p.1 :: (p.2.own ++ foot (μ.eraseIdx i)))) = (q.1 :: q.2.own) ++ ((p.1 :: p.2.own) ++ foot (μ.eraseIdx i)) := by simp
    have e2 : (p.1 :: (p.2.own ++ (q.1 :: (q.2.own ++ foot (μ.eraseIdx i))))) = (p.1 :: p.2.own) ++ ((q.1 :: q.2.own) ++ foot (μ.eraseIdx i)) := by simp
    rw [e1, e2, ← List.append_assoc, ← List.append_assoc]
    exact List.perm_append_comm.append_right _
theorem erase_sub : ∀ (μ : Mu) (i : Nat), (μ.eraseIdx i).Sublist μ := fun μ i => List.eraseIdx_sublist μ i
theorem deckK {H : Hp} {ns : List Int} : ∀ (ks : List Str) (ns : List Int), DenK K H ((ks.zip ns).map fun p => ((Sum.inr p.1 : Key), V.int p.2)) ((ks.zip ns).map fun p => ((Sum.inr p.1 : Key), D.int p.2))
  | [], _ => .nil
  | _ :: _, [] => .nil
  | k :: ks, n :: ns => .cons (.int n) (deckK (ns := ns) ks ns)
/-- a deck is opened: its dict and its cells in sight, ahead -/
theorem ws_open {i : Nat} {ks : List Str} {c : Addr} (hm : μ[i]? = some (a, .deck ks c)) (h : ∀ (ns cs : List Int), (ns.length = ks.length ∧ ∀ n ∈ ns, 0 ≤ n) → cs.length ≤ 63 → WS K ts δ ((a, .dic (deckKds ks ns c)) :: (c, .lst (cs.map D.int)) :: μ.eraseIdx i) E) : WS K ts δ μ E := fun σ H ok Dn n r b cc => by
  obtain ⟨ns, cs, h1, h2, e1, e2⟩ := ok.m.at hm
  have hp := foot_perm hm
  have fe : foot ((a, .dic (deckKds ks ns c)) :: (c, .lst (cs.map D.int)) :: μ.eraseIdx i) = a :: ([c] ++ foot (μ.eraseIdx i)) := rfl
  have m' : OkM K H ((a, .dic (deckKds ks ns c)) :: (c, .lst (cs.map D.int)) :: μ.eraseIdx i) := by
    refine ⟨by rw [fe]; exact hp.nodup_iff.mp ok.m.nd, fun p hp' => ?_⟩
    rcases List.mem_cons.mp hp' with rfl | hp'
    · exact ⟨_, e1, .cons (.ref c) (deckK (ns := ns) ks ns)⟩
    rcases List.mem_cons.mp hp' with rfl | hp'
    · exact ⟨_, e2, DenL.of_ints cs⟩
    · exact ok.m.ok p ((erase_sub μ i).subset hp')
  have st : Step μ H ((a, .dic (deckKds ks ns c)) :: (c, .lst (cs.map D.int)) :: μ.eraseIdx i) H := ⟨fun _ _ z _ => z, fun x z => by rw [fe] at z; exact .inl (hp.mem_iff.mpr z)⟩
  exact h ns cs h1 h2 σ H (ok.step st m') Dn (fun σ' H' δ' μ' s => n σ' H' δ' μ' (st.trans s)) (fun v H' d μ' s => r v H' d μ' (st.trans s)) (fun σ' H' δ' μ' s => b σ' H' δ' μ' (st.trans s)) (fun σ' H' δ' μ' s => cc σ' H' δ' μ' (st.trans s))
theorem deck_kvs0 {H : Hp} : ∀ {ks : List Str} {ns : List Int} {kvs : List (Key × V)}, DenK K H kvs ((ks.zip ns).map fun p => ((Sum.inr p.1 : Key), D.int p.2)) → kvs = (ks.zip ns).map fun p => ((Sum.inr p.1 : Key), V.int p.2)
  | [], _, _, h => by cases h; rfl
  | _ :: _, [], _, h => by cases h; rfl
  | k :: ks, n :: ns, _, h => by
    cases h with
    | cons a b => cases a; rw [deck_kvs0 b]; rfl
theorem deck_kvs {H : Hp} {ks : List Str} {ns : List Int} {c : Addr} {kvs : List (Key × V)} (h : DenK K H kvs (deckKds ks ns c)) : kvs = deckKvs ks ns c := by
  cases h with
  | cons a b => cases a; rw [deck_kvs0 b]; rfl
/-- .. and closed -/
theorem weak_close {i : Nat} {ks : List Str} {c : Addr} {kds : List (Key × D)} {ds : List D} {ns cs : List Int} (hm : μ[i]? = some (a, .deck ks c)) (h1 : ns.length = ks.length ∧ ∀ n ∈ ns, 0 ≤ n) (h2 : cs.length ≤ 63) (e1 : kds = deckKds ks ns c) (e2 : ds = cs.map D.int) :
    Weak ((a, .dic kds) :: (c, .lst ds) :: μ.eraseIdx i) μ := fun K H o => by
  have hp := foot_perm hm
  have fe : foot ((a, .dic kds) :: (c, .lst ds) :: μ.eraseIdx i) = a :: ([c] ++ foot (μ.eraseIdx i)) := rfl
  subst e1 e2
  refine ⟨⟨hp.nodup_iff.mpr (by rw [fe] at *; exact o.nd), fun p hp' => ?_⟩, fun x z => by rw [fe]; exact hp.mem_iff.mp z⟩
  obtain ⟨j, hj⟩ := List.getElem?_of_mem hp'
  by_cases cji : j = i
  · subst cji
    rw [hm] at hj
    cases hj
    obtain ⟨kvs, ek, dk⟩ := o.ok _ List.mem_cons_self
    obtain ⟨vs, ev, dv⟩ := o.ok _ (List.mem_cons_of_mem _ List.mem_cons_self)
    have q2 := dv.ints
    subst q2
    have q1 := deck_kvs dk
    exact ⟨ns, cs, h1, h2, by rw [← q1]; exact ek, ev⟩
  · refine o.ok p (List.mem_cons_of_mem _ (List.mem_cons_of_mem _ ?_))
    refine List.mem_eraseIdx_iff_getElem?.mpr ⟨j, cji, hj⟩
end
end Wk

set_option Elab.async false
set_option linter.all false
set_option maxRecDepth 100000
namespace PySem
open Sem (wp)
section
variable {prog : Program} {w : World} {A : Around} {E : Value → Shared → Prop} {s : Shared}
theorem F.args_max4 (a b c d : Value) : argsOk "max" ⟨[a, b, c, d], []⟩ := by unfold argsOk; kernel_rfl
theorem F.args_max5 (a b c d e : Value) : argsOk "max" ⟨[a, b, c, d, e], []⟩ := by unfold argsOk; kernel_rfl
theorem F.args_min3' (a b c : Value) : argsOk "min" ⟨[a, b, c], []⟩ := by unfold argsOk; kernel_rfl
theorem F.args_min4 (a b c d : Value) : argsOk "min" ⟨[a, b, c, d], []⟩ := by unfold argsOk; kernel_rfl
theorem wk_call_max {a b : Value} {r : List Value} {Q : Value → Shared → Prop} (hargs : argsOk "max" ⟨a :: b :: r, []⟩) (hz : (a :: b :: r).length ≤ sizeLine)
    (h : wpAny (model prog w) A.in1 (pyIter (.ref s.heap.objs.size)) (fun it s₂ => ∃ I fp wr n P St bt, it = .ref I ∧ Walks prog w A.in1 I fp wr n P St ∧ St 0 s₂.heap ∧ (∀ b ∈ fp, b < s₂.heap.objs.size) ∧ 0 < n ∧ CmpOf prog w A.in1 .Gt P bt ∧
      ∀ v h' tk, P (argBest bt (n - 1)) v → (∀ b o, b ∉ wr → s₂.heap.get? b = some o → h'.get? b = some o) → Q v { s₂ with heap := h', toks := tk }) E
      { s with heap := s.heap.push { cls := .type "tuple", data := .seq (a :: b :: r).toArray } }) :
    wpAny (model prog w) A (call (.builtin "max") (a :: b :: r)) Q E s := by
  have hname : (toString "max" ++ toString ".loop" : String) = "max.loop" := by decide
  refine call_function_tree F.kind_max F.plain_max F.entry_max hargs ?_
  show wpAny _ A.in1 (Builtin.Builtins.bindParams "max" ["key", "default"] 0 ⟨[], []⟩ >>= _) _ _ s
  refine wpAny_bind (wpAny_of_eq (show Builtin.Builtins.bindParams "max" ["key", "default"] 0 ⟨[], []⟩ = pure [none, none] from rfl) ?_)
  show wpAny _ A.in1 (newTuple (a :: b :: r) >>= _) _ _ s
  refine wpAny_bind (wpAny_newObj_type ?_ hz)
  refine wpAny_bind (wpAny_mono h (fun it s₂ h₂ => ?_) fun _ _ e => e)
  obtain ⟨I, fp, wr, n, P, St, bt, rfl, W, hst, hfp, hn, hcmp, hQ⟩ := h₂
  refine wpAny_bind (wpAny_newObj_type ?_)
  have hSf : s₂.heap.objs.size ∉ fp := fun hm => Nat.lt_irrefl _ (hfp _ hm)
  rw [hname]
  refine wpAny_pure ⟨plainId_quiet F.plain_max_loop _, codeAny_max_loop_first W bt hcmp s₂.heap.objs.size hSf hn (W.frame _ _ _ hst fun b _ o e => Heap.get?_push_of_some _ e) (Heap.get?_push_size _ rfl) fun v h' tk hP hk => ?_⟩
  exact hQ v h' tk hP fun b o hbw e => hk b o hbw (Nat.ne_of_lt (Heap.lt_size e)) (Heap.get?_push_of_some _ e)
theorem wk_call_min {a b : Value} {r : List Value} {Q : Value → Shared → Prop} (hargs : argsOk "min" ⟨a :: b :: r, []⟩) (hz : (a :: b :: r).length ≤ sizeLine)
    (h : wpAny (model prog w) A.in1 (pyIter (.ref s.heap.objs.size)) (fun it s₂ => ∃ I fp wr n P St bt, it = .ref I ∧ Walks prog w A.in1 I fp wr n P St ∧ St 0 s₂.heap ∧ (∀ b ∈ fp, b < s₂.heap.objs.size) ∧ 0 < n ∧ CmpOf prog w A.in1 .Lt P bt ∧
      ∀ v h' tk, P (argBest bt (n - 1)) v → (∀ b o, b ∉ wr → s₂.heap.get? b = some o → h'.get? b = some o) → Q v { s₂ with heap := h', toks := tk }) E
      { s with heap := s.heap.push { cls := .type "tuple", data := .seq (a :: b :: r).toArray } }) :
    wpAny (model prog w) A (call (.builtin "min") (a :: b :: r)) Q E s := by
  have hname : (toString "min" ++ toString ".loop" : String) = "min.loop" := by decide
  refine call_function_tree F.kind_min F.plain_min F.entry_min hargs ?_
  show wpAny _ A.in1 (Builtin.Builtins.bindParams "min" ["key", "default"] 0 ⟨[], []⟩ >>= _) _ _ s
  refine wpAny_bind (wpAny_of_eq (show Builtin.Builtins.bindParams "min" ["key", "default"] 0 ⟨[], []⟩ = pure [none, none] from rfl) ?_)
  show wpAny _ A.in1 (newTuple (a :: b :: r) >>= _) _ _ s
  refine wpAny_bind (wpAny_newObj_type ?_ hz)
  refine wpAny_bind (wpAny_mono h (fun it s₂ h₂ => ?_) fun _ _ e => e)
  obtain ⟨I, fp, wr, n, P, St, bt, rfl, W, hst, hfp, hn, hcmp, hQ⟩ := h₂
  refine wpAny_bind (wpAny_newObj_type ?_)
  have hSf : s₂.heap.objs.size ∉ fp := fun hm => Nat.lt_irrefl _ (hfp _ hm)
  rw [hname]
  refine wpAny_pure ⟨plainId_quiet F.plain_min_loop _, codeAny_min_loop_first W bt hcmp s₂.heap.objs.size hSf hn (W.frame _ _ _ hst fun b _ o e => Heap.get?_push_of_some _ e) (Heap.get?_push_size _ rfl) fun v h' tk hP hk => ?_⟩
  exact hQ v h' tk hP fun b o hbw e => hk b o hbw (Nat.ne_of_lt (Heap.lt_size e)) (Heap.get?_push_of_some _ e)
theorem wk_max_ints {a b : Int × Tok} {r : List (Int × Tok)} {Q : Value → Shared → Prop} (hh : A.handled = none) (hargs : argsOk "max" ⟨.int a.1 a.2 :: .int b.1 b.2 :: r.map (fun p => .int p.1 p.2), []⟩) (hz : (a :: b :: r).length ≤ sizeLine)
    (h : ∀ h' tk M t', (∀ d o, s.heap.get? d = some o → h'.get? d = some o) → M ∈ (a :: b :: r).map (·.1) → (∀ x ∈ (a :: b :: r).map (·.1), x ≤ M) → Q (.int M t') { s with heap := h', toks := tk }) :
    wpAny (model prog w) A (call (.builtin "max") (.int a.1 a.2 :: .int b.1 b.2 :: r.map (fun p => .int p.1 p.2))) Q E s := by
  have e0 : (intItems (a :: b :: r).toArray).toList = .int a.1 a.2 :: .int b.1 b.2 :: r.map (fun p => .int p.1 p.2) := by simp [intItems]
  have hT : (s.heap.push { cls := .type "tuple", data := .seq (Value.int a.1 a.2 :: .int b.1 b.2 :: r.map (fun p => .int p.1 p.2)).toArray }).IsTuple s.heap.objs.size (intItems (a :: b :: r).toArray) := ⟨_, Heap.get?_push_size _ rfl, rfl, 0, by rw [← e0]⟩
  refine wk_call_max hargs (by simpa using hz) (wpAny_pyIter_tuple hT ?_)
  have hsz : (s.heap.push { cls := .type "tuple", data := .seq (Value.int a.1 a.2 :: .int b.1 b.2 :: r.map (fun p => .int p.1 p.2)).toArray }).objs.size = s.heap.objs.size + 1 := Heap.size_push ..
  refine ⟨_, [_, s.heap.objs.size], [_], _, _, _, _, rfl, Walks.tuple (A := A.in1) hh _ s.heap.objs.size (by rw [hsz]; exact Nat.ne_of_lt (Nat.lt_succ_self _)) (intItems (a :: b :: r).toArray),
    ⟨⟨_, Heap.get?_push_size _ rfl, rfl, rfl⟩, hT.push _⟩, fun d hd => ?_, by simp [intItems], CmpOf.ints_gt (numAt (a :: b :: r).toArray) (fun _ _ => intItems_at), fun v h' tk hP hk => ?_⟩
  · show d < ((s.heap.push _).push _).objs.size
    rw [Heap.size_push, hsz]
    rcases List.mem_cons.mp hd with rfl | hd
    · rw [hsz]; exact Nat.lt_succ_self _
    · rcases List.mem_cons.mp hd with rfl | hd
      · exact Nat.lt_succ_of_lt (Nat.lt_succ_self _)
      · cases hd
  · have hold : ∀ d o, s.heap.get? d = some o → h'.get? d = some o := fun d o e => by
      refine hk d o (fun hm => ?_) (Heap.get?_push_of_some _ (Heap.get?_push_of_some _ e))
      rcases List.mem_cons.mp hm with e1 | hm
      · have := Heap.lt_size e; rw [e1, hsz] at this; exact Nat.lt_irrefl _ (Nat.lt_of_succ_lt this)
      · cases hm
    obtain ⟨t, rfl⟩ := intItems_at hP
    have hlen : (intItems (a :: b :: r).toArray).size = (a :: b :: r).length := by simp [intItems]
    obtain ⟨h1, h2⟩ := argBest_gt (numAt (a :: b :: r).toArray) ((intItems (a :: b :: r).toArray).size - 1)
    refine h h' tk _ t hold ?_ fun x hx => ?_
    · rw [numAt_eq]; exact PySem.getD_mem (by rw [List.length_map]; simp only [hlen] at h1 ⊢; simp at h1 ⊢; omega)
    · obtain ⟨j, hj, rfl⟩ := mem_getD hx
      rw [List.length_map] at hj
      have := h2 j (by simp [hlen] at hj ⊢; omega)
      rw [numAt_eq] at this
      exact this
theorem wk_min_ints {a b : Int × Tok} {r : List (Int × Tok)} {Q : Value → Shared → Prop} (hh : A.handled = none) (hargs : argsOk "min" ⟨.int a.1 a.2 :: .int b.1 b.2 :: r.map (fun p => .int p.1 p.2), []⟩) (hz : (a :: b :: r).length ≤ sizeLine)
    (h : ∀ h' tk M t', (∀ d o, s.heap.get? d = some o → h'.get? d = some o) → M ∈ (a :: b :: r).map (·.1) → (∀ x ∈ (a :: b :: r).map (·.1), M ≤ x) → Q (.int M t') { s with heap := h', toks := tk }) :
    wpAny (model prog w) A (call (.builtin "min") (.int a.1 a.2 :: .int b.1 b.2 :: r.map (fun p => .int p.1 p.2))) Q E s := by
  have e0 : (intItems (a :: b :: r).toArray).toList = .int a.1 a.2 :: .int b.1 b.2 :: r.map (fun p => .int p.1 p.2) := by simp [intItems]
  have hT : (s.heap.push { cls := .type "tuple", data := .seq (Value.int a.1 a.2 :: .int b.1 b.2 :: r.map (fun p => .int p.1 p.2)).toArray }).IsTuple s.heap.objs.size (intItems (a :: b :: r).toArray) := ⟨_, Heap.get?_push_size _ rfl, rfl, 0, by rw [← e0]⟩
  refine wk_call_min hargs (by simpa using hz) (wpAny_pyIter_tuple hT ?_)
  have hsz : (s.heap.push { cls := .type "tuple", data := .seq (Value.int a.1 a.2 :: .int b.1 b.2 :: r.map (fun p => .int p.1 p.2)).toArray }).objs.size = s.heap.objs.size + 1 := Heap.size_push ..
  refine ⟨_, [_, s.heap.objs.size], [_], _, _, _, _, rfl, Walks.tuple (A := A.in1) hh _ s.heap.objs.size (by rw [hsz]; exact Nat.ne_of_lt (Nat.lt_succ_self _)) (intItems (a :: b :: r).toArray),
    ⟨⟨_, Heap.get?_push_size _ rfl, rfl, rfl⟩, hT.push _⟩, fun d hd => ?_, by simp [intItems], CmpOf.ints_lt (numAt (a :: b :: r).toArray) (fun _ _ => intItems_at), fun v h' tk hP hk => ?_⟩
  · show d < ((s.heap.push _).push _).objs.size
    rw [Heap.size_push, hsz]
    rcases List.mem_cons.mp hd with rfl | hd
    · rw [hsz]; exact Nat.lt_succ_self _
    · rcases List.mem_cons.mp hd with rfl | hd
      · exact Nat.lt_succ_of_lt (Nat.lt_succ_self _)
      · cases hd
  · have hold : ∀ d o, s.heap.get? d = some o → h'.get? d = some o := fun d o e => by
      refine hk d o (fun hm => ?_) (Heap.get?_push_of_some _ (Heap.get?_push_of_some _ e))
      rcases List.mem_cons.mp hm with e1 | hm
      · have := Heap.lt_size e; rw [e1, hsz] at this; exact Nat.lt_irrefl _ (Nat.lt_of_succ_lt this)
      · cases hm
    obtain ⟨t, rfl⟩ := intItems_at hP
    have hlen : (intItems (a :: b :: r).toArray).size = (a :: b :: r).length := by simp [intItems]
    obtain ⟨h1, h2⟩ := argBest_lt (numAt (a :: b :: r).toArray) ((intItems (a :: b :: r).toArray).size - 1)
    refine h h' tk _ t hold ?_ fun x hx => ?_
    · rw [numAt_eq]; exact PySem.getD_mem (by rw [List.length_map]; simp only [hlen] at h1 ⊢; simp at h1 ⊢; omega)
    · obtain ⟨j, hj, rfl⟩ := mem_getD hx
      rw [List.length_map] at hj
      have := h2 j (by simp [hlen] at hj ⊢; omega)
      rw [numAt_eq, numAt_eq] at this
      rw [numAt_eq]
      exact this
end
section
variable {prog : Program} {w : World} {A : Around} {E : Value → Shared → Prop} {s : Shared} {l : Addr} {its : List Value} {ns : List Int} {Q : Value → Shared → Prop}
open L2 PyProof.Rows
theorem wk_max_tup (hh : A.handled = none) (hl : s.heap.IsTuple l its.toArray) (hi : IntsAre its ns) (hne : 0 < ns.length)
    (h : ∀ h' tk M t', (∀ b o, s.heap.get? b = some o → h'.get? b = some o) → M ∈ ns → (∀ a, a ∈ ns → a ≤ M) → Q (.int M t') { s with heap := h', toks := tk }) : wpAny (model prog w) A (call (.builtin "max") [.ref l]) Q E s := by
  obtain ⟨xs, e⟩ := hi.allInts.items
  have hn : numsOf (intItems xs).toList = ns := by rw [← e]; exact hi.numsOf
  rw [nums_intItems] at hn
  subst hn
  rw [e] at hl
  have hsz : 0 < xs.size := by simpa using hne
  obtain ⟨o0, ho0, hc0, n0, hd0⟩ := id hl
  have hlt := Heap.lt_size ho0
  refine call_max_walk (wpAny_pyIter_tuple hl ?_)
  refine ⟨_, [_, l], [_], _, _, _, _, rfl, Walks.tuple (A := A.in1) hh _ l (Nat.ne_of_lt hlt) (intItems xs), ⟨⟨_, Heap.get?_push_size _ rfl, rfl, rfl⟩, hl.push _⟩, fun d hd => ?_, by simpa [intItems] using hsz, CmpOf.ints_gt (numAt xs) (fun _ _ => intItems_at), fun v h' tk hP hk => ?_⟩
  · show d < (s.heap.push _).objs.size
    rw [Heap.size_push]
    rcases List.mem_cons.mp hd with rfl | hd
    · exact Nat.lt_succ_self _
    · rcases List.mem_cons.mp hd with rfl | hd
      · exact Nat.lt_succ_of_lt hlt
      · cases hd
  · have hold : ∀ d o, s.heap.get? d = some o → h'.get? d = some o := fun d o e => by
      refine hk d o (fun hm => ?_) (Heap.get?_push_of_some _ e)
      rcases List.mem_cons.mp hm with e1 | hm
      · have := Heap.lt_size e; rw [e1] at this; exact Nat.lt_irrefl _ this
      · cases hm
    obtain ⟨t, rfl⟩ := intItems_at hP
    have hlen : (intItems xs).size = xs.size := by simp [intItems]
    rw [hlen]
    obtain ⟨h1, h2⟩ := argBest_gt (numAt xs) (xs.size - 1)
    refine h h' tk _ t hold ?_ fun x hx => ?_
    · rw [numAt_eq]; exact PySem.getD_mem (by rw [List.length_map, Array.length_toList]; omega)
    · obtain ⟨j, hj, rfl⟩ := mem_getD hx
      rw [List.length_map, Array.length_toList] at hj
      rw [← numAt_eq]; exact h2 j (by omega)
theorem wk_min_tup (hh : A.handled = none) (hl : s.heap.IsTuple l its.toArray) (hi : IntsAre its ns) (hne : 0 < ns.length)
    (h : ∀ h' tk M t', (∀ b o, s.heap.get? b = some o → h'.get? b = some o) → M ∈ ns → (∀ a, a ∈ ns → M ≤ a) → Q (.int M t') { s with heap := h', toks := tk }) : wpAny (model prog w) A (call (.builtin "min") [.ref l]) Q E s := by
  obtain ⟨xs, e⟩ := hi.allInts.items
  have hn : numsOf (intItems xs).toList = ns := by rw [← e]; exact hi.numsOf
  rw [nums_intItems] at hn
  subst hn
  rw [e] at hl
  have hsz : 0 < xs.size := by simpa using hne
  obtain ⟨o0, ho0, hc0, n0, hd0⟩ := id hl
  have hlt := Heap.lt_size ho0
  refine call_min_walk (wpAny_pyIter_tuple hl ?_)
  refine ⟨_, [_, l], [_], _, _, _, _, rfl, Walks.tuple (A := A.in1) hh _ l (Nat.ne_of_lt hlt) (intItems xs), ⟨⟨_, Heap.get?_push_size _ rfl, rfl, rfl⟩, hl.push _⟩, fun d hd => ?_, by simpa [intItems] using hsz, CmpOf.ints_lt (numAt xs) (fun _ _ => intItems_at), fun v h' tk hP hk => ?_⟩
  · show d < (s.heap.push _).objs.size
    rw [Heap.size_push]
    rcases List.mem_cons.mp hd with rfl | hd
    · exact Nat.lt_succ_self _
    · rcases List.mem_cons.mp hd with rfl | hd
      · exact Nat.lt_succ_of_lt hlt
      · cases hd
  · have hold : ∀ d o, s.heap.get? d = some o → h'.get? d = some o := fun d o e => by
      refine hk d o (fun hm => ?_) (Heap.get?_push_of_some _ e)
      rcases List.mem_cons.mp hm with e1 | hm
      · have := Heap.lt_size e; rw [e1] at this; exact Nat.lt_irrefl _ this
      · cases hm
    obtain ⟨t, rfl⟩ := intItems_at hP
    have hlen : (intItems xs).size = xs.size := by simp [intItems]
    rw [hlen]
    obtain ⟨h1, h2⟩ := argBest_lt (numAt xs) (xs.size - 1)
    refine h h' tk _ t hold ?_ fun x hx => ?_
    · rw [numAt_eq]; exact PySem.getD_mem (by rw [List.length_map, Array.length_toList]; omega)
    · obtain ⟨j, hj, rfl⟩ := mem_getD hx
      rw [List.length_map, Array.length_toList] at hj
      rw [← numAt_eq]; exact h2 j (by omega)
theorem wk_sum_tup (hh : A.handled = none) (hl : s.heap.IsTuple l its.toArray) (hi : IntsAre its ns)
    (h : ∀ h' tk t', (∀ b o, s.heap.get? b = some o → h'.get? b = some o) → Q (.int ns.sum t') { s with heap := h', toks := tk }) : wpAny (model prog w) A (call (.builtin "sum") [.ref l]) Q E s := by
  obtain ⟨xs, e⟩ := hi.allInts.items
  have hn : numsOf (intItems xs).toList = ns := by rw [← e]; exact hi.numsOf
  rw [nums_intItems] at hn
  rw [e] at hl
  refine PySem.W.ktm_sumG hh hl fun h' tk t' hk => ?_
  have := h h' tk t' hk
  rw [preSum_eq, List.take_of_length_le (by simp), hn]; exact this
end
end PySem

namespace Wk
open PySem PySem.Spec L2

/-- the greatest, the least of a list -/
def maxL : List Int → Int
  | [] => 0
  | a :: r => r.foldl max a
def minL : List Int → Int
  | [] => 0
  | a :: r => r.foldl min a
theorem foldl_max : ∀ (r : List Int) (a : Int), a ≤ r.foldl max a ∧ (∀ x ∈ r, x ≤ r.foldl max a) ∧ (r.foldl max a = a ∨ r.foldl max a ∈ r)
  | [], a => ⟨Int.le_refl _, fun _ h => (by cases h), .inl rfl⟩
  | b :: r, a => by
    obtain ⟨h1, h2, h3⟩ := foldl_max r (max a b)
    rw [List.foldl_cons]
    refine ⟨by omega, fun x hx => ?_, ?_⟩
    · rcases List.mem_cons.mp hx with rfl | hx
      · omega
      · exact h2 x hx
    · rcases h3 with h3 | h3
      · by_cases c : a ≤ b
        · exact .inr (by rw [h3, Int.max_eq_right c]; exact List.mem_cons_self)
        · exact .inl (by rw [h3, Int.max_eq_left (by omega)])
      · exact .inr (List.mem_cons_of_mem _ h3)
theorem foldl_min : ∀ (r : List Int) (a : Int), r.foldl min a ≤ a ∧ (∀ x ∈ r, r.foldl min a ≤ x) ∧ (r.foldl min a = a ∨ r.foldl min a ∈ r)
  | [], a => ⟨Int.le_refl _, fun _ h => (by cases h), .inl rfl⟩
  | b :: r, a => by
    obtain ⟨h1, h2, h3⟩ := foldl_min r (min a b)
    rw [List.foldl_cons]
    refine ⟨by omega, fun x hx => ?_, ?_⟩
    · rcases List.mem_cons.mp hx with rfl | hx
      · omega
      · exact h2 x hx
    · rcases h3 with h3 | h3
      · by_cases c : a ≤ b
        · exact .inl (by rw [h3, Int.min_eq_left c])
        · exact .inr (by rw [h3, Int.min_eq_right (by omega)]; exact List.mem_cons_self)
      · exact .inr (List.mem_cons_of_mem _ h3)
theorem maxL_ge : ∀ (l : List Int), ∀ x ∈ l, x ≤ maxL l
  | [], x, h => by cases h
  | a :: r, x, h => by
    obtain ⟨h1, h2, _⟩ := foldl_max r a
    rcases List.mem_cons.mp h with rfl | h
    · exact h1
    · exact h2 x h
theorem maxL_mem : ∀ (l : List Int), l ≠ [] → maxL l ∈ l
  | [], h => (h rfl).elim
  | a :: r, _ => by
    obtain ⟨_, _, h⟩ := foldl_max r a
    rcases h with h | h
    · exact List.mem_cons.mpr (.inl h)
    · exact List.mem_cons_of_mem _ h
theorem maxL_uniq {l : List Int} {m : Int} (h1 : m ∈ l) (h2 : ∀ x ∈ l, x ≤ m) : m = maxL l :=
  Int.le_antisymm (maxL_ge l m h1) (h2 _ (maxL_mem l fun e => by rw [e] at h1; cases h1))
theorem minL_le : ∀ (l : List Int), ∀ x ∈ l, minL l ≤ x
  | [], x, h => by cases h
  | a :: r, x, h => by
    obtain ⟨h1, h2, _⟩ := foldl_min r a
    rcases List.mem_cons.mp h with rfl | h
    · exact h1
    · exact h2 x h
theorem minL_mem : ∀ (l : List Int), l ≠ [] → minL l ∈ l
  | [], h => (h rfl).elim
  | a :: r, _ => by
    obtain ⟨_, _, h⟩ := foldl_min r a
    rcases h with h | h
    · exact List.mem_cons.mpr (.inl h)
    · exact List.mem_cons_of_mem _ h
theorem minL_uniq {l : List Int} {m : Int} (h1 : m ∈ l) (h2 : ∀ x ∈ l, m ≤ x) : m = minL l :=
  Int.le_antisymm (h2 _ (minL_mem l fun e => by rw [e] at h1; cases h1)) (minL_le l m h1)

/-- max, min of two to five numbers, or of a list of them -/
def rMaxG (K : PySem.W.Frag) : List V → Hp → VK → Prop := fun xs H Q => (∃ ns : List Int, xs = ns.map V.int ∧ (2 ≤ ns.length ∧ ns.length ≤ 5) ∧ Q (.int (maxL ns)) H) ∨ rMax K xs H Q ∨ ∃ (a : Addr) (ns : List Int), xs = [V.ref a] ∧ SqT K H a (ns.map V.int) ∧ 0 < ns.length ∧ ∀ m, m ∈ ns → (∀ y, y ∈ ns → y ≤ m) → Q (.int m) H
def rMinG (K : PySem.W.Frag) : List V → Hp → VK → Prop := fun xs H Q => (∃ ns : List Int, xs = ns.map V.int ∧ (2 ≤ ns.length ∧ ns.length ≤ 4) ∧ Q (.int (minL ns)) H) ∨ rMin K xs H Q ∨ ∃ (a : Addr) (ns : List Int), xs = [V.ref a] ∧ SqT K H a (ns.map V.int) ∧ 0 < ns.length ∧ ∀ m, m ∈ ns → (∀ y, y ∈ ns → m ≤ y) → Q (.int m) H
theorem vals_pairs : ∀ {ns : List Int} {us : List Value}, Vals (ns.map V.int) us → ∃ ps : List (Int × Tok), ps.map (·.1) = ns ∧ us = ps.map fun p => Value.int p.1 p.2
  | [], _, h => by cases h; exact ⟨[], rfl, rfl⟩
  | n :: ns, _, h => by
    cases h with
    | cons a b =>
      obtain ⟨t, rfl⟩ := a
      obtain ⟨ps, h1, h2⟩ := vals_pairs b
      exact ⟨(n, t) :: ps, by rw [List.map_cons, h1], by rw [h2]; rfl⟩
section
variable {X : Cx}
theorem call_maxG (hc : X.calm = true) : CallR X (.builtin "max") (rMaxG X.K) := by
  intro pins s σ H xs us Q I r h
  rcases h with ⟨ns, rfl, ⟨h2, h5⟩, q⟩ | h | h
  · obtain ⟨ps, e1, rfl⟩ := vals_pairs r
    subst e1
    rw [List.length_map] at h2 h5
    match ps, h2, h5 with
    | a :: b :: l, h2, h5 =>
      refine wk_max_ints (I.ok.hd hc) ?_ (Nat.le_trans h5 (by decide)) fun h' tk m t hk h1 h2 => ⟨.int _, H, I.kept hk, ⟨t, by rw [maxL_uniq h1 h2]⟩, q⟩
      match l, h5 with
      | [], _ => exact PySem.F.args_max2 _ _
      | [_], _ => exact PySem.F.args_max3 _ _ _
      | [_, _], _ => exact PySem.F.args_max4 _ _ _ _
      | [_, _, _], _ => exact PySem.F.args_max5 _ _ _ _ _
  · exact cr_max hc pins s σ H xs us Q I r h
  · obtain ⟨a, ns, rfl, hs, hne, q⟩ := h
    obtain ⟨its, rv, hl, _⟩ := I.tuple hs
    rw [Vals.ref1 r]
    exact wk_max_tup (I.ok.hd hc) hl (ints_of_vals rv) hne fun h' tk m t' hk h1 h2 => ⟨.int _, H, I.kept hk, ⟨_, rfl⟩, q m h1 h2⟩
theorem call_minG (hc : X.calm = true) : CallR X (.builtin "min") (rMinG X.K) := by
  intro pins s σ H xs us Q I r h
  rcases h with ⟨ns, rfl, ⟨h2, h5⟩, q⟩ | h | h
  · obtain ⟨ps, e1, rfl⟩ := vals_pairs r
    subst e1
    rw [List.length_map] at h2 h5
    match ps, h2, h5 with
    | a :: b :: l, h2, h5 =>
      refine wk_min_ints (I.ok.hd hc) ?_ (Nat.le_trans h5 (by decide)) fun h' tk m t hk h1 h2 => ⟨.int _, H, I.kept hk, ⟨t, by rw [minL_uniq h1 h2]⟩, q⟩
      match l, h5 with
      | [], _ => exact PySem.F.args_min2 _ _
      | [_], _ => exact PySem.F.args_min3' _ _ _
      | [_, _], _ => exact PySem.F.args_min4 _ _ _ _
  · exact cr_min hc pins s σ H xs us Q I r h
  · obtain ⟨a, ns, rfl, hs, hne, q⟩ := h
    obtain ⟨its, rv, hl, _⟩ := I.tuple hs
    rw [Vals.ref1 r]
    exact wk_min_tup (I.ok.hd hc) hl (ints_of_vals rv) hne fun h' tk m t' hk h1 h2 => ⟨.int _, H, I.kept hk, ⟨_, rfl⟩, q m h1 h2⟩
end
section
variable {K : PySem.W.Frag} {δ : Dl} {μ : Mu} {P : D → Mu → Prop} {a : Addr} {x y d : D} {xs ds : List D}
theorem wc_maxN {ns : List Int} (h : 2 ≤ ns.length ∧ ns.length ≤ 5) (q : P (.int (maxL ns)) μ) : WC K (rMaxG K) (ns.map D.int) μ P := fun H vs m r Q k => .inl ⟨ns, r.ints, h, k _ H _ μ .refl m (.int _) q⟩
theorem wc_minN {ns : List Int} (h : 2 ≤ ns.length ∧ ns.length ≤ 4) (q : P (.int (minL ns)) μ) : WC K (rMinG K) (ns.map D.int) μ P := fun H vs m r Q k => .inl ⟨ns, r.ints, h, k _ H _ μ .refl m (.int _) q⟩
theorem wc_max2 {i j : Int} (q : P (.int (max i j)) μ) : WC K (rMaxG K) [.int i, .int j] μ P := wc_maxN (ns := [i, j]) (by simp) q
theorem wc_max3 {i j k : Int} (q : P (.int (max (max i j) k)) μ) : WC K (rMaxG K) [.int i, .int j, .int k] μ P := wc_maxN (ns := [i, j, k]) (by simp) q
theorem wc_max4 {i j k l : Int} (q : P (.int (max (max (max i j) k) l)) μ) : WC K (rMaxG K) [.int i, .int j, .int k, .int l] μ P := wc_maxN (ns := [i, j, k, l]) (by simp) q
theorem wc_max5 {i j k l n : Int} (q : P (.int (max (max (max (max i j) k) l) n)) μ) : WC K (rMaxG K) [.int i, .int j, .int k, .int l, .int n] μ P := wc_maxN (ns := [i, j, k, l, n]) (by simp) q
theorem wc_min2 {i j : Int} (q : P (.int (min i j)) μ) : WC K (rMinG K) [.int i, .int j] μ P := wc_minN (ns := [i, j]) (by simp) q
theorem wc_min3 {i j k : Int} (q : P (.int (min (min i j) k)) μ) : WC K (rMinG K) [.int i, .int j, .int k] μ P := wc_minN (ns := [i, j, k]) (by simp) q
theorem wc_maxL {ns : List Int} {j : Nat} (hm : μ[j]? = some (a, .lst (ns.map D.int))) (hn : 0 < ns.length) (q : ∀ m, m ∈ ns → (∀ y ∈ ns, y ≤ m) → P (.int m) μ) : WC K (rMaxG K) [.ref a] μ P := fun H vs m r Q k => by
  cases r with
  | cons a r =>
    cases r
    cases a
    obtain ⟨vs, hv, hl⟩ := m.at hm
    have e := hl.ints
    subst e
    exact .inr (.inl ⟨_, ns, rfl, .inl (.inl hv), hn, fun z h1 h2 => k _ H _ μ .refl m (.int _) (q z h1 h2)⟩)
theorem wc_minL {ns : List Int} {j : Nat} (hm : μ[j]? = some (a, .lst (ns.map D.int))) (hn : 0 < ns.length) (q : ∀ m, m ∈ ns → (∀ y ∈ ns, m ≤ y) → P (.int m) μ) : WC K (rMinG K) [.ref a] μ P := fun H vs m r Q k => by
  cases r with
  | cons a r =>
    cases r
    cases a
    obtain ⟨vs, hv, hl⟩ := m.at hm
    have e := hl.ints
    subst e
    exact .inr (.inl ⟨_, ns, rfl, .inl (.inl hv), hn, fun z h1 h2 => k _ H _ μ .refl m (.int _) (q z h1 h2)⟩)

theorem wc_maxT {ns : List Int} (hn : ns ≠ []) (q : P (.int (maxL ns)) μ) : WC K (rMaxG K) [.tup (ns.map D.int)] μ P := fun H vs m r Q k => by
  cases r with
  | cons r1 r2 =>
    cases r2
    cases r1 with
    | tup hs_ hl =>
      have hs := TpA.sqt hs_
      have e := hl.ints
      subst e
      exact .inr (.inr ⟨_, ns, rfl, hs, List.length_pos_iff.mpr hn, fun z h1 h2 => k _ H _ μ .refl m (.int _) (by rw [maxL_uniq h1 h2]; exact q)⟩)
theorem wc_minT {ns : List Int} (hn : ns ≠ []) (q : P (.int (minL ns)) μ) : WC K (rMinG K) [.tup (ns.map D.int)] μ P := fun H vs m r Q k => by
  cases r with
  | cons r1 r2 =>
    cases r2
    cases r1 with
    | tup hs_ hl =>
      have hs := TpA.sqt hs_
      have e := hl.ints
      subst e
      exact .inr (.inr ⟨_, ns, rfl, hs, List.length_pos_iff.mpr hn, fun z h1 h2 => k _ H _ μ .refl m (.int _) (by rw [minL_uniq h1 h2]; exact q)⟩)
/-- sum of a list or a tuple of ints -/
def rSumG (K : PySem.W.Frag) : List V → Hp → VK → Prop := fun xs H Q => rSum K xs H Q ∨ ∃ (a : Addr) (ns : List Int), xs = [V.ref a] ∧ SqT K H a (ns.map V.int) ∧ Q (.int ns.sum) H
theorem call_sumG {X : Cx} (hc : X.calm = true) : CallR X (.builtin "sum") (rSumG X.K) := by
  intro pins s σ H xs us Q I r h
  rcases h with h | h
  · exact cr_sum hc pins s σ H xs us Q I r h
  · obtain ⟨a, ns, rfl, hs, q⟩ := h
    obtain ⟨its, rv, hl, _⟩ := I.tuple hs
    rw [Vals.ref1 r]
    exact wk_sum_tup (I.ok.hd hc) hl (ints_of_vals rv) fun h' tk t' hk => ⟨.int _, H, I.kept hk, ⟨_, rfl⟩, q⟩
theorem wc_sumT {ns : List Int} (q : P (.int ns.sum) μ) : WC K (rSumG K) [.tup (ns.map D.int)] μ P := fun H vs m r Q k => by
  cases r with
  | cons r1 r2 =>
    cases r2
    cases r1 with
    | tup hs_ hl =>
      have hs := TpA.sqt hs_
      have e := hl.ints
      subst e
      exact .inr ⟨_, ns, rfl, hs, k _ H _ μ .refl m (.int _) q⟩
theorem wc_sum {ns : List Int} {j : Nat} (hm : μ[j]? = some (a, .lst (ns.map D.int))) (q : P (.int ns.sum) μ) : WC K (rSumG K) [.ref a] μ P := fun H vs m r Q k => by
  cases r with
  | cons a r =>
    cases r
    cases a
    obtain ⟨vs, hv, hl⟩ := m.at hm
    have e := hl.ints
    subst e
    exact .inl ⟨_, ns, rfl, .inl (.inl hv), k _ H _ μ .refl m (.int _) q⟩
/-! ### comprehensions -/
def wipeD (δ : Dl) : List Nat → Dl
  | [] => δ
  | v :: vs => (wipeD δ vs).set v none
theorem wipeD_length (δ : Dl) : ∀ vs : List Nat, (wipeD δ vs).length = δ.length
  | [] => rfl
  | v :: vs => by unfold wipeD; rw [List.length_set, wipeD_length δ vs]
theorem wipeD_some {i : Nat} {d : D} : ∀ {vs : List Nat}, (wipeD δ vs)[i]? = some (some d) → δ[i]? = some (some d) ∧ i ∉ vs
  | [], h => ⟨h, by simp⟩
  | v :: vs, h => by
    unfold wipeD at h
    by_cases hi : v = i
    · subst hi
      by_cases hv : v < (wipeD δ vs).length
      · rw [List.getElem?_set_self hv] at h; cases h
      · rw [List.getElem?_eq_none (by simpa using hv)] at h; cases h
    · rw [List.getElem?_set_ne hi] at h
      obtain ⟨h1, h2⟩ := wipeD_some h
      exact ⟨h1, by simp only [List.mem_cons, not_or]; exact ⟨fun e => hi e.symm, h2⟩⟩
theorem wipe_keep {σ : St} {i : Nat} {v : V} : ∀ {vs : List Nat}, i ∉ vs → σ[i]? = some (some v) → (wipe σ vs)[i]? = some (some v)
  | [], _, h => h
  | j :: vs, hn, h => by
    unfold wipe
    rw [List.getElem?_set_ne fun z => hn (by rw [z]; exact List.mem_cons_self)]
    exact wipe_keep (fun z => hn (List.mem_cons_of_mem _ z)) h
theorem Ok.wipe {H : Hp} {σ : St} (h : Ok K H σ δ μ) (vs : List Nat) : Ok K H (L2.wipe σ vs) (wipeD δ vs) μ :=
  ⟨h.m, fun i d e => by
    obtain ⟨h1, h2⟩ := wipeD_some e
    obtain ⟨v, h3, h4⟩ := h.s i d h1
    exact ⟨v, wipe_keep h2 h3, h4⟩, by rw [wipe_length, wipeD_length, h.l]⟩
theorem wipe_set {σ : St} {i : Nat} {o : Option V} : ∀ {vs : List Nat}, i ∈ vs → wipe (σ.set i o) vs = wipe σ vs
  | [], h => by cases h
  | j :: vs, h => by
    unfold wipe
    by_cases c : i ∈ vs
    · rw [wipe_set c]
    · have e : i = j := by
        rcases List.mem_cons.mp h with e | e
        · exact e
        · exact (c e).elim
      subst e
      have : ∀ {vs : List Nat}, i ∉ vs → wipe (σ.set i o) vs = (wipe σ vs).set i o := by
        intro vs
        induction vs with
        | nil => intro _; rfl
        | cons k vs ih =>
          intro hn
          unfold wipe
          rw [ih fun z => hn (List.mem_cons_of_mem _ z), List.set_comm _ _ (fun z => hn (by rw [z]; exact List.mem_cons_self))]
      rw [this c, List.set_set]
theorem wipe_wipe {σ : St} (vs : List Nat) : wipe (wipe σ vs) vs = wipe σ vs := by
  have : ∀ ws : List Nat, (∀ x ∈ ws, x ∈ vs) → wipe (wipe σ ws) vs = wipe σ vs := by
    intro ws
    induction ws with
    | nil => intro _; rfl
    | cons k ws ih =>
      intro h
      show wipe ((wipe σ ws).set k none) vs = _
      rw [wipe_set (h k List.mem_cons_self), ih fun x hx => h x (List.mem_cons_of_mem _ hx)]
  exact this vs fun _ h => h
/-- a target that stores to these slots alone -/
def GIn (g : TG) (vs : List Nat) : Prop := ∀ v σ H Q Q', (∀ σ' H', Q σ' H' → wipe σ' vs = wipe σ vs → Q' σ' H') → g v σ H Q → g v σ H Q'
def GIns (g : TGs) (vs : List Nat) : Prop := ∀ v σ H Q Q', (∀ σ' H', Q σ' H' → wipe σ' vs = wipe σ vs → Q' σ' H') → g v σ H Q → g v σ H Q'
theorem gin_name {i : Nat} {vs : List Nat} (h : i ∈ vs) : GIn (gName i) vs := fun v σ H Q Q' k q => k _ _ q (wipe_set h)
theorem gins_nil {vs : List Nat} : GIns gNil vs := fun v σ H Q Q' k q => ⟨q.1, k _ _ q.2 rfl⟩
theorem gins_cons {i : Nat} {gs : TGs} {vs : List Nat} (h : i ∈ vs) (h2 : GIns gs vs) : GIns (gCons (gName i) gs) vs := fun v σ H Q Q' k ⟨a, r, e, q⟩ => ⟨a, r, e, h2 r (σ.set i (some a)) H Q Q' (fun σ' H' z e => k σ' H' z (by rw [e, wipe_set h])) q⟩
theorem gin_tup {n : Nat} {gs : TGs} {vs : List Nat} (h : GIns gs vs) : GIn (gTup K n gs) vs := fun v σ H Q Q' k ⟨a, xs, e, hs, hl, q⟩ => ⟨a, xs, e, hs, hl, h xs σ H Q Q' k q⟩
theorem w_lc {wi : TI} {g : TG} {tt : TT} {te : TE} {vs : List Nat} (hg : GIn g vs) (h : WI K wi δ μ fun ds G μ1 => ds.length < sizeLine ∧ ∀ p, ∃ I : Nat → List D → Mu → Prop, I 0 [] μ1 ∧
    (∀ i acc μ', I i acc μ' → G ((p, .lst acc) :: μ')) ∧
    (∀ i d acc μ', ds[i]? = some d → I i acc μ' → acc.length ≤ i → WG K g d (wipeD δ vs) ((p, .lst acc) :: μ') fun δ2 μ2 => WT K tt δ2 μ2 fun b μ3 =>
      (b = true → W K te δ2 μ3 fun y μ4 => ∃ μ5, Weak μ4 ((p, .lst acc) :: μ5) ∧ I (i + 1) (acc ++ [y]) μ5) ∧ (b = false → ∃ μ5, Weak μ3 ((p, .lst acc) :: μ5) ∧ I (i + 1) acc μ5)) ∧
    ∀ acc μ', I ds.length acc μ' → acc.length ≤ ds.length → P (.ref p) ((p, .lst acc) :: μ')) : W K (tLc wi g tt te vs) δ μ P := fun σ H ok Q f =>
  h σ H ok _ fun J H1 ds G μ1 s1 m1 wk ⟨hz, hI⟩ p hp => by
    obtain ⟨I, h0, hG, hs, hd⟩ := hI p
    have st0 : Step μ1 H1 ((p, .lst []) :: μ1) (upd H1 p (.lst [])) := step_join hp rfl
    have m0 : OkM K (upd H1 p (.lst [])) ((p, .lst []) :: μ1) := m1.join (m := .lst []) hp rfl ⟨[], upd_same, .nil⟩
    refine ⟨fun i m H' => m = ds.length - i ∧ i ≤ ds.length ∧ ∃ acc μ', Step μ1 H1 ((p, .lst acc) :: μ') H' ∧ OkM K H' ((p, .lst acc) :: μ') ∧ I i acc μ' ∧ acc.length ≤ i, ⟨ds.length, by simp, Nat.zero_le _, [], μ1, st0, m0, h0, Nat.le_refl _⟩, ?_⟩
    rintro i m H2 ⟨rfl, hi, acc, μ2, s2, m2, i2, la⟩
    have w2 := wk H2 _ s2 m2 (hG _ _ _ i2)
    by_cases hlt : i < ds.length
    · obtain ⟨d, hd'⟩ : ∃ d, ds[i]? = some d := ⟨_, List.getElem?_eq_getElem hlt⟩
      obtain ⟨go, yl⟩ := w2.2 i d hd'
      refine .inr ⟨go, fun H' => ∃ acc μ', Step μ1 H1 ((p, .lst acc) :: μ') H' ∧ OkM K H' ((p, .lst acc) :: μ') ∧ I (i + 1) acc μ' ∧ acc.length ≤ i + 1, fun H' ⟨acc, μ', a1, a2, a3, a4⟩ => ⟨ds.length - (i + 1), by omega, rfl, hlt, acc, μ', a1, a2, a3, a4⟩, fun x H3 hy => ?_⟩
      obtain ⟨s3, m3, r3⟩ := yl x H3 hy
      have s13 := s2.trans s3
      have ok3 : Ok K H3 (wipe σ vs) (wipeD δ vs) ((p, .lst acc) :: μ2) := (ok.step (s1.trans s13) m3).wipe vs
      have hw := hs i d acc μ2 hd' i2 la (wipe σ vs) H3 x ok3 r3
      refine hg x (wipe σ vs) H3 _ _ (fun σ4 H4 z e => ⟨by rw [e, wipe_wipe], ?_⟩) (hw _ fun σ4 H4 δ4 μ4 s4 o4 h4 => (⟨δ4, μ4, s4, o4, h4⟩ : ∃ δ4 μ4, Step ((p, .lst acc) :: μ2) H3 μ4 H4 ∧ Ok K H4 σ4 δ4 μ4 ∧ WT K tt δ4 μ4 fun b μ3 =>
        (b = true → W K te δ4 μ3 fun y μ4 => ∃ μ5, Weak μ4 ((p, .lst acc) :: μ5) ∧ I (i + 1) (acc ++ [y]) μ5) ∧ (b = false → ∃ μ5, Weak μ3 ((p, .lst acc) :: μ5) ∧ I (i + 1) acc μ5)))
      obtain ⟨δ4, μ4, s4, o4, h4⟩ := z
      refine h4 σ4 H4 o4 _ fun b H5 μ5 s5 m5 ⟨h5, h6⟩ => ?_
      have s15 := s13.trans (s4.trans s5)
      cases b with
      | false =>
        obtain ⟨μ6, wk6, j6⟩ := h6 rfl
        exact iteF ⟨acc, μ6, wk6.step m5 s15, (wk6 K H5 m5).1, j6, Nat.le_succ_of_le la⟩
      | true =>
        refine iteT (h5 rfl σ4 H5 (o4.step s5 m5) _ fun y H6 dy μ6 s6 m6 r6 ⟨μ7, wk7, j7⟩ => ?_)
        have m7 := (wk7 K H6 m6).1
        have s7 := wk7.step m6 (s15.trans s6)
        obtain ⟨va, hva, hla⟩ := m7.ok _ List.mem_cons_self
        have stx : Step ((p, .lst acc) :: μ7) H6 ((p, .lst (acc ++ [dy])) :: μ7) (upd H6 p (.lst (va ++ [y]))) := step_set (i := 0) (μ := (p, .lst acc) :: μ7) rfl rfl
        have r7 := r6
        refine ⟨va, hva, by rw [hla.length]; omega, acc ++ [dy], μ7, s7.trans stx, ?_, j7, by rw [List.length_append]; exact Nat.succ_le_succ la⟩
        exact OkM.set (i := 0) (μ := (p, .lst acc) :: μ7) (m := .lst acc) (m' := .lst (acc ++ [dy])) m7 rfl rfl ⟨_, upd_same, (hla.append (.cons r7 .nil)).step m7 stx⟩
    · have e : i = ds.length := by omega
      subst e
      exact .inl ⟨w2.1 _ (Nat.le_refl _), f _ H2 _ _ (s1.trans s2) m2 (.ref p) (hd _ _ i2 la)⟩
end
end Wk

set_option Elab.async false
set_option linter.all false
set_option maxRecDepth 100000
namespace Wk
open PySem PySem.Spec L2
/-- a statement's four ways, each by itself -/
def S4 (K : PySem.W.Frag) (ts : TS) (δ : Dl) (μ : Mu) (N : Dl → Mu → Prop) (R : D → Mu → Prop) (B C : Dl → Mu → Prop) : Prop := WS K ts δ μ ⟨N, R, B, C⟩
section
variable {K : PySem.W.Frag} {δ : Dl} {μ : Mu} {N B C J : Dl → Mu → Prop} {R : D → Mu → Prop} {PA : List D → Mu → Prop} {ta tb tc te td ty tv : TE} {t u : TT} {al ar : TA} {ts ts1 ts2 : TS} {g : TG} {gs : TGs} {x y d : D} {xs ds : List D} {a b : Addr}
theorem s_seq (h : S4 K ts1 δ μ (fun δ' μ' => S4 K ts2 δ' μ' N R B C) R B C) : S4 K (tSeq ts1 ts2) δ μ N R B C := ws_seq h
theorem s_cut (J : Dl → Mu → Prop) (h : S4 K ts1 δ μ J R B C) (k : ∀ δ' μ', J δ' μ' → S4 K ts2 δ' μ' N R B C) : S4 K (tSeq ts1 ts2) δ μ N R B C := ws_cut (E := ⟨N, R, B, C⟩) (J := J) h k
theorem s_next (q : N δ μ) : S4 K tNext δ μ N R B C := ws_next (E := ⟨N, R, B, C⟩) q
theorem s_brk (q : B δ μ) : S4 K tBreak δ μ N R B C := ws_brk (E := ⟨N, R, B, C⟩) q
theorem s_cont (q : C δ μ) : S4 K tCont δ μ N R B C := ws_cont (E := ⟨N, R, B, C⟩) q
theorem s_asg (h : W K te δ μ fun d μ1 => WG K g d δ μ1 N) : S4 K (tAsg te g) δ μ N R B C := ws_asg (E := ⟨N, R, B, C⟩) h
theorem s_drop (h : W K te δ μ fun d μ1 => N δ μ1) : S4 K (tDrop te) δ μ N R B C := ws_drop (E := ⟨N, R, B, C⟩) h
theorem s_ret (h : W K te δ μ R) : S4 K (tRet te) δ μ N R B C := ws_ret (E := ⟨N, R, B, C⟩) h
theorem s_retN (q : R .non μ) : S4 K tRetN δ μ N R B C := ws_retN (E := ⟨N, R, B, C⟩) q
theorem s_if (h : WT K t δ μ fun b μ1 => (b = true → S4 K ts1 δ μ1 N R B C) ∧ (b = false → S4 K ts2 δ μ1 N R B C)) : S4 K (tIfS t ts1 ts2) δ μ N R B C := ws_if (E := ⟨N, R, B, C⟩) h
theorem s_aug {i : Nat} {ti : TIp} (hx : δ[i]? = some (some x)) (h : W K te δ μ fun y μ1 => W2 K ti x y μ1 fun z μ2 => N (δ.set i (some z)) μ2) : S4 K (tAug i te ti) δ μ N R B C := ws_aug (E := ⟨N, R, B, C⟩) hx h
theorem s_dput (h : W K tv δ μ fun d μ1 => W K td δ μ1 fun x μ2 => W K ty δ μ2 fun y μ3 => ∃ (a : Addr) (j : Nat) (kds : List (Key × D)) (k : Key) (kds' : List (Key × D)), x = .ref a ∧ y = kD k ∧ μ3[j]? = some (a, M.dic kds) ∧ kds.length < sizeLine ∧ putD kds k d = kds' ∧ N δ (μ3.set j (a, .dic kds'))) : S4 K (sDPut td ty tv) δ μ N R B C :=
  ws_dput (E := ⟨N, R, B, C⟩) (h.imp fun d μ1 h => h.imp fun x μ2 h => h.imp fun y μ3 ⟨a, j, kds, k, kds', e1, e2, e3, e4, e5, q⟩ => ⟨a, j, kds, k, e1, e2, e3, e4, by rw [e5]; exact q⟩)
theorem s_imp {N' B' C' : Dl → Mu → Prop} {R' : D → Mu → Prop} (h : S4 K ts δ μ N' R' B' C') (hn : ∀ δ μ, N' δ μ → N δ μ) (hr : ∀ d μ, R' d μ → R d μ) (hb : ∀ δ μ, B' δ μ → B δ μ) (hc : ∀ δ μ, C' δ μ → C δ μ) : S4 K ts δ μ N R B C := WS.imp (E := ⟨N, R, B, C⟩) h hn hr hb hc
/-- forget -/
theorem s_weak {μ' : Mu} (w : Weak μ μ') (h : S4 K ts δ μ' N R B C) : S4 K ts δ μ N R B C := fun σ H ok Dn n r b c => by
  have st : Step μ H μ' H := w.step (H := H) ok.m .refl
  exact h σ H ⟨(w K H ok.m).1, ok.s, ok.l⟩ Dn (fun σ' H' δ' μ' s => n σ' H' δ' μ' (st.trans s)) (fun v H' d μ' s => r v H' d μ' (st.trans s)) (fun σ' H' δ' μ' s => b σ' H' δ' μ' (st.trans s)) (fun σ' H' δ' μ' s => c σ' H' δ' μ' (st.trans s))
/-- forget slots -/
def LeD : Dl → Dl → Prop
  | [], [] => True
  | none :: r, _ :: t => LeD r t
  | some d :: r, o :: t => o = some d ∧ LeD r t
  | _, _ => False
theorem LeD.len : ∀ {δ' δ : Dl}, LeD δ' δ → δ'.length = δ.length
  | [], [], _ => rfl
  | none :: r, _ :: t, h => congrArg (· + 1) (LeD.len (δ' := r) (δ := t) h)
  | some d :: r, o :: t, h => congrArg (· + 1) (LeD.len (δ' := r) (δ := t) h.2)
  | [], _ :: _, h => h.elim
  | none :: _, [], h => h.elim
  | some _ :: _, [], h => h.elim
theorem LeD.get : ∀ {δ' δ : Dl}, LeD δ' δ → ∀ (i : Nat) (d : D), δ'[i]? = some (some d) → δ[i]? = some (some d)
  | [], [], _, _, _, e => by simp at e
  | none :: r, _ :: t, h, 0, d, e => by simp at e
  | none :: r, _ :: t, h, i + 1, d, e => by
    have := LeD.get (δ' := r) (δ := t) h i d (by simpa using e)
    simpa using this
  | some x :: r, o :: t, h, 0, d, e => by
    simp at e
    subst e
    simp [h.1]
  | some x :: r, o :: t, h, i + 1, d, e => by
    have := LeD.get (δ' := r) (δ := t) h.2 i d (by simpa using e)
    simpa using this
  | [], _ :: _, h, _, _, _ => h.elim
  | none :: _, [], h, _, _, _ => h.elim
  | some _ :: _, [], h, _, _, _ => h.elim
theorem s_forget {δ' : Dl} (w : LeD δ' δ) (h : S4 K ts δ' μ N R B C) : S4 K ts δ μ N R B C := fun σ H ok Dn n r b c => h σ H ⟨ok.m, fun i d e => ok.s i d (w.get i d e), by rw [ok.l, w.len]⟩ Dn n r b c
/-- over what is walked, ds: I by the turn -/
theorem s_for {wi : TI} (h : WI K wi δ μ fun ds G μ1 => ∃ I : Nat → Dl → Mu → Prop, (∃ δ0 μ0, LeD δ0 δ ∧ Weak μ1 μ0 ∧ I 0 δ0 μ0) ∧ (∀ i δ' μ', I i δ' μ' → G μ') ∧
    (∀ i d δ' μ', ds[i]? = some d → I i δ' μ' → WG K g d δ' μ' fun δ2 μ2 => S4 K ts δ2 μ2 (fun δ3 μ3 => ∃ δ4 μ4, LeD δ4 δ3 ∧ Weak μ3 μ4 ∧ I (i + 1) δ4 μ4) R N (fun δ3 μ3 => ∃ δ4 μ4, LeD δ4 δ3 ∧ Weak μ3 μ4 ∧ I (i + 1) δ4 μ4)) ∧ ∀ δ' μ', I ds.length δ' μ' → N δ' μ') : S4 K (tFor wi g ts) δ μ N R B C := fun σ H ok Dn n r b c =>
  h σ H ok _ fun J H1 ds G μ1 s1 m1 wk ⟨I, ⟨δ0, μ0, le0, wk0, h0⟩, hG, hs, hd⟩ => by
    have ok1 := ok.step s1 m1
    have ok0 : Ok K H1 σ δ0 μ0 := ⟨(wk0 K H1 m1).1, fun i d e => ok1.s i d (le0.get i d e), by rw [ok1.l, le0.len]⟩
    refine ⟨fun i m σ' H' => m = ds.length - i ∧ i ≤ ds.length ∧ ∃ δ' μ', Step μ1 H1 μ' H' ∧ Ok K H' σ' δ' μ' ∧ I i δ' μ', ⟨ds.length, by simp, Nat.zero_le _, δ0, μ0, wk0.step m1 .refl, ok0, h0⟩, ?_⟩
    rintro i m σ2 H2 ⟨rfl, hi, δ2, μ2, s2, o2, i2⟩
    have w2 := wk H2 μ2 s2 o2.m (hG _ _ _ i2)
    by_cases hlt : i < ds.length
    · obtain ⟨d, hd'⟩ : ∃ d, ds[i]? = some d := ⟨_, List.getElem?_eq_getElem hlt⟩
      obtain ⟨go, yl⟩ := w2.2 i d hd'
      refine .inr ⟨go, fun σ' H' => i + 1 ≤ ds.length ∧ ∃ δ' μ', Step μ1 H1 μ' H' ∧ Ok K H' σ' δ' μ' ∧ I (i + 1) δ' μ', fun σ' H' ⟨z, q⟩ => ⟨ds.length - (i + 1), by omega, rfl, z, q⟩, fun x H3 hy => ?_⟩
      obtain ⟨s3, m3, r3⟩ := yl x H3 hy
      refine hs i d δ2 μ2 hd' i2 σ2 H3 x (o2.step s3 m3) r3 _ fun σ4 H4 δ4 μ4 s4 o4 h4 => ?_
      have s14 := s2.trans (s3.trans s4)
      have fin : ∀ σ5 H5 δ5 μ5, Step μ4 H4 μ5 H5 → Ok K H5 σ5 δ5 μ5 → (∃ δ6 μ6, LeD δ6 δ5 ∧ Weak μ5 μ6 ∧ I (i + 1) δ6 μ6) → i + 1 ≤ ds.length ∧ ∃ δ' μ', Step μ1 H1 μ' H5 ∧ Ok K H5 σ5 δ' μ' ∧ I (i + 1) δ' μ' := fun σ5 H5 δ5 μ5 s5 o5 ⟨δ6, μ6, le6, wk6, j⟩ =>
        ⟨hlt, δ6, μ6, wk6.step o5.m (s14.trans s5), ⟨(wk6 K H5 o5.m).1, fun i d e => o5.s i d (le6.get i d e), by rw [o5.l, le6.len]⟩, j⟩
      exact h4 σ4 H4 o4 _ fin (fun v H5 d μ5 s5 m5 r5 j => r v H5 d μ5 (s1.trans (s14.trans s5)) m5 r5 j)
        (fun σ5 H5 δ5 μ5 s5 o5 j => n σ5 H5 δ5 μ5 (s1.trans (s14.trans s5)) o5 j) fin
    · have e : i = ds.length := by omega
      subst e
      exact .inl ⟨w2.1 _ (Nat.le_refl _), n σ2 H2 δ2 μ2 (s1.trans s2) o2 (hd _ _ i2)⟩
/-- while: I by a measure -/
theorem s_while (I : Nat → Dl → Mu → Prop) (m0 : Nat) (h0 : I m0 δ μ) (hs : ∀ m δ' μ', I m δ' μ' → WT K t δ' μ' fun b μ1 => (b = true → S4 K ts δ' μ1 (fun δ2 μ2 => ∃ δ3 μ3 m', LeD δ3 δ2 ∧ Weak μ2 μ3 ∧ m' < m ∧ I m' δ3 μ3) R N (fun δ2 μ2 => ∃ δ3 μ3 m', LeD δ3 δ2 ∧ Weak μ2 μ3 ∧ m' < m ∧ I m' δ3 μ3)) ∧
    (b = false → N δ' μ1)) : S4 K (tWhile t ts) δ μ N R B C := fun σ H ok Dn n r b c => by
  refine ⟨fun m σ' H' => ∃ δ' μ', Step μ H μ' H' ∧ Ok K H' σ' δ' μ' ∧ I m δ' μ', ⟨m0, δ, μ, .refl, ok, h0⟩, ?_⟩
  rintro m σ1 H1 ⟨δ1, μ1, s1, o1, i1⟩
  refine hs m δ1 μ1 i1 σ1 H1 o1 _ fun k H2 μ2 s2 m2 ⟨h1, h2⟩ => ?_
  have o2 := o1.step s2 m2
  cases k with
  | true =>
    refine iteT ⟨fun σ' H' => ∃ m', m' < m ∧ ∃ δ' μ', Step μ H μ' H' ∧ Ok K H' σ' δ' μ' ∧ I m' δ' μ', fun σ' H' z => z, ?_⟩
    have fin : ∀ σ5 H5 δ5 μ5, Step μ2 H2 μ5 H5 → Ok K H5 σ5 δ5 μ5 → (∃ δ6 μ6 m', LeD δ6 δ5 ∧ Weak μ5 μ6 ∧ m' < m ∧ I m' δ6 μ6) → ∃ m', m' < m ∧ ∃ δ' μ', Step μ H μ' H5 ∧ Ok K H5 σ5 δ' μ' ∧ I m' δ' μ' := fun σ5 H5 δ5 μ5 s5 o5 ⟨δ6, μ6, m', le6, wk6, l, j⟩ =>
      ⟨m', l, δ6, μ6, wk6.step o5.m (s1.trans (s2.trans s5)), ⟨(wk6 K H5 o5.m).1, fun i d e => o5.s i d (le6.get i d e), by rw [o5.l, le6.len]⟩, j⟩
    exact h1 rfl σ1 H2 o2 _ fin (fun v H5 d μ5 s5 m5 r5 j => r v H5 d μ5 (s1.trans (s2.trans s5)) m5 r5 j) (fun σ5 H5 δ5 μ5 s5 o5 j => n σ5 H5 δ5 μ5 (s1.trans (s2.trans s5)) o5 j) fin
  | false => exact iteF (n σ1 H2 δ1 μ2 (s1.trans s2) o2 (h2 rfl))
theorem s_open {i : Nat} {ks : List Str} {c : Addr} (hm : μ[i]? = some (a, .deck ks c)) (h : ∀ (ns cs : List Int), (ns.length = ks.length ∧ ∀ n ∈ ns, 0 ≤ n) → cs.length ≤ 63 → S4 K ts δ ((a, .dic (deckKds ks ns c)) :: (c, .lst (cs.map D.int)) :: μ.eraseIdx i) N R B C) : S4 K ts δ μ N R B C := ws_open (E := ⟨N, R, B, C⟩) hm h
/-- a def -/
theorem fn_ok4 {Pg : Program} {w : World} {mg : Str → Option Value} {base : Heap} {x qual : Str} {st : Stmt} {f : Addr} {fd : FuncData} {NN ps : List Str} {k n : Nat} {S : SpD} (F : Fun K x qual st f fd) (sc : FnScope NN ps (defScope st)) (hn : n = ps.length)
    (body : ∀ (cdv : Value) (A : Around) (outer : List Env) (s : Shared) (H : Hp) (X : XK), Room k (A.deeper (PyProof.Rows.envOfC qual (defScope st) s.heap.objs.size f cdv)) →
      ∃ t, PSs (cxOf CX0 Pg w K mg base NN qual (defScope st) f cdv A outer s H X).nox (defBody st) t ∧ ∀ ds μ P, ds.length = n → S ds μ P → S4 K t (startD NN ds) μ (fun _ μ' => ∃ μ'', Weak μ' μ'' ∧ P .non μ'') (fun d μ' => ∃ μ'', Weak μ' μ'' ∧ P d μ'') (fun _ _ => False) (fun _ _ => False)) :
    FnOk Pg w K mg base CX0 (k + 1) f fd ps (spOf K n S) := fn_ok F sc hn body
/-- a test whose answer is used twice over -/
theorem iff_split {b : Bool} {p q : Prop} (h1 : b = true → p) (h2 : b = false → q) : (b = true → p) ∧ (b = false → q) := ⟨h1, h2⟩
/-- the law's own promise -/
def spLaw : SpD := fun ds μ P => ∃ ns : List Int, ds = [.scr ns] ∧ ns.length ≤ 63 ∧ P (.bl true) μ
theorem law_sp (K : PySem.W.Frag) (H : Hp) (a : Addr) (ns : List Int) (h1 : ns.length ≤ 63) (h2 : Only H) (h3 : SqL K H a (ns.map V.int)) : spOf K 1 spLaw [.ref a] H (fun v _ => v = .bl true) fun _ _ _ => False := by
  refine ⟨rfl, [.scr ns], [], fun d _ => d = .bl true, ⟨List.nodup_nil, fun _ h => nomatch h⟩, .cons (.scr ?_) .nil, ⟨ns, rfl, h1, rfl⟩, fun v H' d μ' _ _ r e => ?_⟩
  · rcases h3 with (h3 | h3) | h3
    · rcases h2 a with z | ⟨o, xs, z⟩
      · rw [h3] at z; cases z
      · rw [h3] at z; cases z
    · exact .inl h3
    · exact .inr h3
  · subst e
    cases r
    rfl
end
end Wk
namespace Wk
open PySem PySem.Spec L2
/-- a ** b of written numbers -/
def rPowK (a b r : Int) : R2 := fun x y H Q => x = .int a ∧ y = .int b ∧ Q (.int r) H
theorem op_powK {X : Cx} {a b r : Int} (h1 : 0 ≤ b ∧ b ≤ 1000000) (h2 : a.natAbs < 2 ^ 64) (h3 : a ^ b.toNat = r) : OpR X (binaryOp .Pow) (rPowK a b r) := by
  intro pins s σ H x y v u Q I rx ry h
  obtain ⟨rfl, rfl, q⟩ := h
  exact op_pow pins s σ H _ _ v u Q I rx ry ⟨a, b, rfl, rfl, ⟨h1.1, h1.2, h2⟩, by show Q (V.int (a ^ b.toNat)) H; rw [h3]; exact q⟩
theorem w2_powK {K : PySem.W.Frag} {μ : Mu} {P : D → Mu → Prop} {a b r : Int} (q : P (.int r) μ) : W2 K (rPowK a b r) (.int a) (.int b) μ P := fun H v u m r1 r2 Q k => by
  cases r1
  cases r2
  exact ⟨rfl, rfl, k _ H _ μ .refl m (.int _) q⟩
theorem mul_l {i j : Int} (h1 : -(2 ^ 64) < i) (h2 : i < 2 ^ 64) : CMul i j := .inl ⟨h1, h2⟩
theorem mul_r {i j : Int} (h1 : -(2 ^ 64) < j) (h2 : j < 2 ^ 64) : CMul i j := .inr ⟨h1, h2⟩
theorem div_w {i j : Int} (h1 : 0 < j) (h2 : j < 2 ^ 64) : CDivW i j := wide_div (b := 64) h1 (by omega) (by decide) (by decide)
/-- an item of a list of written items at an open place -/
theorem w2_ixO {K : PySem.W.Frag} {μ : Mu} {P : D → Mu → Prop} {a : Addr} {ds : List D} {i : Int} (j : Nat) (hm : μ[j]? = some (a, .lst ds)) (h0 : 0 ≤ i) (h1 : i < ds.length) (q : ∀ (k : Nat) (d : D), ds[k]? = some d → i = (k : Int) → P d μ) : W2 K (rIx K) (.ref a) (.int i) μ P := by
  obtain ⟨d, hd⟩ : ∃ d, ds[i.toNat]? = some d := ⟨_, List.getElem?_eq_getElem (by omega)⟩
  refine w2_ixL hm (d := d) ?_ (q i.toNat d hd (by omega))
  unfold atI ixN
  rw [if_pos h0, if_pos h1]
  exact hd
theorem w2_ixTO {K : PySem.W.Frag} {μ : Mu} {P : D → Mu → Prop} {ds : List D} {i : Int} (h0 : 0 ≤ i) (h1 : i < ds.length) (q : ∀ (k : Nat) (d : D), ds[k]? = some d → i = (k : Int) → P d μ) : W2 K (rIx K) (.tup ds) (.int i) μ P := by
  obtain ⟨d, hd⟩ : ∃ d, ds[i.toNat]? = some d := ⟨_, List.getElem?_eq_getElem (by omega)⟩
  refine w2_ixT (d := d) ?_ (q i.toNat d hd (by omega))
  unfold atI ixN
  rw [if_pos h0, if_pos h1]
  exact hd
end Wk
namespace Wk
open PySem PySem.Spec L2
section
variable {X : Cx} {K : PySem.W.Frag}
theorem k_ix (h : X.K = K) : IxR X (rIx K) := h ▸ ix_seq
theorem k_add (h : X.K = K) : OpR X (binaryOp .Add) (rAddG K) := h ▸ op_addG
theorem k_eq (h : X.K = K) (hu : X.A.units + 64 < cLine) : OpR X (compareOp .Eq) (rEqD K) := h ▸ op_eqD hu
theorem k_ne (h : X.K = K) (hu : X.A.units + 64 < cLine) : OpR X (compareOp .NotEq) (rNeD K) := h ▸ op_neD hu
theorem k_sl (h : X.K = K) : SlR X (rSlG K) := h ▸ sl_any
theorem k_len (h : X.K = K) : CallR X (.builtin "len") (rLenG K) := h ▸ call_lenG
theorem k_isi (h : X.K = K) : CallR X (.builtin "isinstance") (rIsi K) := h ▸ call_isi
theorem k_max (h : X.K = K) (hc : X.calm = true) : CallR X (.builtin "max") (rMaxG K) := h ▸ call_maxG hc
theorem k_min (h : X.K = K) (hc : X.calm = true) : CallR X (.builtin "min") (rMinG K) := h ▸ call_minG hc
theorem k_in (h : X.K = K) : OpR X (compareOp .In) (rIn K false) := h ▸ op_in_seq
theorem k_nin (h : X.K = K) : OpR X (compareOp .NotIn) (rIn K true) := h ▸ op_notIn_seq
theorem k_tup (h : X.K = K) : CallR X (.type "tuple") (fun xs H Q => ∃ p ys, xs = [V.ref p] ∧ ((SqL K H p ys ∧ ∀ l, H l = none → Q (.ref l) (upd H l (.tup ys))) ∨ (SqT K H p ys ∧ Q (.ref p) H))) := h ▸ call_tuple_of
theorem k_lst (h : X.K = K) : CallR X (.type "list") (fun xs H Q => ∃ p ys, xs = [V.ref p] ∧ (SqL K H p ys ∨ SqT K H p ys) ∧ ∀ l, H l = none → Q (.ref l) (upd H l (.lst ys))) := h ▸ call_list_of
theorem k_sum (h : X.K = K) (hc : X.calm = true) : CallR X (.builtin "sum") (rSumG K) := h ▸ call_sumG hc
theorem k_all (h : X.K = K) (hc : X.calm = true) : CallR X (.builtin "all") (rAll K) := h ▸ cr_all hc
theorem k_any (h : X.K = K) (hc : X.calm = true) : CallR X (.builtin "any") (rAny K) := h ▸ cr_any hc
theorem k_ilist (h : X.K = K) {tg l : Expr} {tl : TE} (hl : PE X l tl) : PI X tg l (iList K tl) := h ▸ pi_list hl
theorem k_itup (h : X.K = K) {tg l : Expr} {tl : TE} (hl : PE X l tl) : PI X tg l (iTup K tl) := h ▸ pi_tup hl
theorem k_gtup (h : X.K = K) {es : List Expr} {k : Nat} {t : TGs} {n : Nat} {pos : Pos} (hc : X.calm = true) (ht : PGs X es t)
    (hn : (assignEach es X.env).length = n := by rfl) (hst : (assignEach es X.env).findIdx? (·.1) = none := by rfl) : PG X (.Tuple es k pos) (gTup K n t) := h ▸ pg_tup hc ht hn hst
end
end Wk
namespace Wk
open PySem PySem.Spec L2
section
variable {X : Cx} {K : PySem.W.Frag} {o e : Expr} {es : List Expr} {to : TE} {t : TA} {name : Str} {apos cpos : Pos} {T id : String} {r : V → List V → Hp → VK → Prop}
theorem k_bm0 (h : X.K = K) (pa : PlainAttrs T) (slot : Slot T name id) (hty : typeOf (.builtin id) = pure (.type "method_descriptor")) (hm : MtR X id r) (ho : PE X o to)
    (hbase : attributeBase o name X.env (eval o X.env) = eval o X.env := by rfl) (hline : (apos.endLine == cpos.line) = true := by rfl) : PE X (.Call (.Attribute o name apos) [] [] cpos) (tBM0 K T r to) := h ▸ pe_bm0 pa slot hty hm ho hbase hline
theorem k_bm (h : X.K = K) (pa : PlainAttrs T) (slot : Slot T name id) (hty : typeOf (.builtin id) = pure (.type "method_descriptor")) (hm : MtR X id r) (ho : PE X o to) (ha : PA X (e :: es) t)
    (hbase : attributeBase o name X.env (eval o X.env) = eval o X.env := by rfl)
    (hfew : ((backTo cpos (starEach (e :: es) X.env)).all (fun x => !x.1) && (backToKw cpos (keywordEach [] X.env)).all (fun x => x.1.isSome)
      && decide ((e :: es).length + ([] : List Keyword).length + (if ([] : List Keyword).isEmpty then 0 else 1) < 30)) = true := by rfl)
    (hline : (apos.endLine == cpos.line) = true := by rfl) (hs : starEach (e :: es) X.env = (false, eval e X.env) :: starEach es X.env := by rfl) (hplain : (backTo cpos (starEach es X.env)).any (·.1) = false := by rfl) :
    PE X (.Call (.Attribute o name apos) (e :: es) [] cpos) (tBM K T r to t) := h ▸ pe_bm pa slot hty hm ho ha hbase hfew hline hs hplain
end
end Wk

set_option Elab.async false
set_option linter.all false
set_option maxRecDepth 100000
namespace Wk
open PySem PySem.Spec L2
section
variable {K : PySem.W.Frag} {δ : Dl} {μ μ' : Mu} {N B C J : Dl → Mu → Prop} {R : D → Mu → Prop} {P : D → Mu → Prop} {PA : List D → Mu → Prop} {ta tb tc te td ty tv : TE} {t u : TT} {al ar : TA} {ts ts1 ts2 : TS} {g : TG} {gs : TGs} {x y d : D} {xs ds : List D} {a b : Addr}
theorem foot_permL : ∀ {μ μ' : Mu}, μ.Perm μ' → (foot μ).Perm (foot μ')
  | _, _, .nil => .nil
  | _, _, .cons p h => ((foot_permL h).append_left _).cons _
  | _, _, .swap p q μ => by
    show (q.1 :: (q.2.own ++ p.1 :: (p.2.own ++ foot μ))).Perm (p.1 :: (p.2.own ++ q.1 :: (q.2.own ++ foot μ)))
    have e1 : (q.1 :: (q.2.own ++ p.1 :: (p.2.own ++ foot μ))) = (q.1 :: q.2.own) ++ ((p.1 :: p.2.own) ++ foot μ) := by simp
    have e2 : (p.1 :: (p.2.own ++ q.1 :: (q.2.own ++ foot μ))) = (p.1 :: p.2.own) ++ ((q.1 :: q.2.own) ++ foot μ) := by simp
    rw [e1, e2, ← List.append_assoc, ← List.append_assoc]
    exact List.perm_append_comm.append_right _
  | _, _, .trans h1 h2 => (foot_permL h1).trans (foot_permL h2)
theorem weak_perm (h : μ.Perm μ') : Weak μ μ' := fun K H o => ⟨⟨(foot_permL h).nodup_iff.mp o.nd, fun p hp => o.ok p (h.mem_iff.mpr hp)⟩, fun a z => (foot_permL h).mem_iff.mpr z⟩
theorem weak_drop {p : Addr × M} : Weak (p :: μ) μ := weak_sub (List.sublist_cons_self _ _)
theorem weak_skip {p : Addr × M} (h : Weak μ μ') : Weak (p :: μ) μ' := weak_drop.trans h
theorem weak_2 {p q : Addr × M} : Weak (p :: q :: μ) (p :: μ) := weak_sub ((List.sublist_cons_self _ _).cons₂ _)
theorem weak_keep {p : Addr × M} (h : Weak μ μ') : Weak (p :: μ) (p :: μ') := fun K H o => by
  obtain ⟨o1, s1⟩ := (weak_drop (p := p) (μ := μ)) K H o
  obtain ⟨o2, s2⟩ := h K H o1
  have nd := o.nd
  have e : foot (p :: μ) = (p.1 :: p.2.own) ++ foot μ := rfl
  have e' : foot (p :: μ') = (p.1 :: p.2.own) ++ foot μ' := rfl
  rw [e] at nd
  obtain ⟨n1, n2, n3⟩ := List.nodup_append.mp nd
  refine ⟨⟨?_, fun q hq => ?_⟩, fun a z => ?_⟩
  · rw [e']
    exact List.nodup_append.mpr ⟨n1, o2.nd, fun a ha b hb => n3 a ha b (s2 b hb)⟩
  · rcases List.mem_cons.mp hq with e | hq
    · rw [e]; exact o.ok p List.mem_cons_self
    · exact o2.ok q hq
  · rw [e'] at z
    rw [e]
    rcases List.mem_append.mp z with z | z
    · exact List.mem_append_left _ z
    · exact List.mem_append_right _ (s2 a z)
theorem lt_size {n : Nat} (h : n < 100000) : n < sizeLine := Nat.lt_of_lt_of_le h (by decide)
theorem weak_swap {p q : Addr × M} : Weak (p :: q :: μ) (q :: p :: μ) := weak_perm (.swap _ _ _)
theorem wps_nil {Pp : List (D × D) → Mu → Prop} (h : Pp [] μ) : WPs K [] δ μ Pp := h
theorem wps_cons {tk tv : TE} {r : List (TE × TE)} {Pp : List (D × D) → Mu → Prop} (h : W K tk δ μ fun k μ1 => W K tv δ μ1 fun v μ2 => WPs K r δ μ2 fun ps μ3 => Pp ((k, v) :: ps) μ3) : WPs K ((tk, tv) :: r) δ μ Pp := h
/-- a cut of the script: some ints -/
theorem wsl_scrI {ns : List Int} {lo hi : Option Int} (q : ∀ p (cs : List Int), cs.length ≤ ns.length → P (.ref p) ((p, .lst (cs.map D.int)) :: μ)) : WSl K (rSlG K) (.scr ns) lo hi μ P := by
  refine wsl_scr fun p => ?_
  have e : cutD (ns.map D.int) lo hi = (((ns.drop (HT.sIx ns.length 0 lo)).take (HT.sIx ns.length ns.length hi - HT.sIx ns.length 0 lo))).map D.int := by
    unfold cutD
    rw [List.length_map, List.map_take, List.map_drop]
  rw [e]
  exact q p _ (by rw [List.length_take, List.length_drop]; omega)
/-- the deck that is made -/
theorem weak_deck {p q r : Addr} {m : M} {cs : List Int} {ks : List Str} {ns : List Int} {kds : List (Key × D)} (h1 : ns.length = ks.length ∧ ∀ n ∈ ns, 0 ≤ n) (h2 : cs.length ≤ 63) (e : kds = deckKds ks ns q) : Weak ((q, .lst (cs.map D.int)) :: (r, m) :: (p, .dic kds) :: μ) ((p, .deck ks q) :: μ) := by
  refine (weak_sub (.cons₂ _ (.cons _ (List.Sublist.refl _)))).trans (weak_swap.trans ?_)
  exact weak_close (i := 0) (μ := (p, .deck ks q) :: μ) rfl h1 h2 e rfl
/-- a deck is in sight -/
def Dk (ks : List Str) (μ : Mu) (d : Addr) : Prop := ∃ (i : Nat) (c : Addr), μ[i]? = some (d, .deck ks c)
theorem Dk.here {ks : List Str} {d c : Addr} : Dk ks ((d, .deck ks c) :: μ) d := ⟨0, c, rfl⟩
theorem Dk.cons {ks : List Str} {d : Addr} {p : Addr × M} (h : Dk ks μ d) : Dk ks (p :: μ) d := let ⟨i, c, e⟩ := h; ⟨i + 1, c, by simpa using e⟩
/-- a drawn number -/
def SpDraw (ks : List Str) : SpD := fun ds μ P => ∃ (d : Addr) (m : Int), ds = [.ref d, .int m] ∧ Dk ks μ d ∧ 0 < m ∧ m < 2 ^ 62 ∧ ∀ n, 0 ≤ n → n < m → P (.int n) μ
theorem sp_draw {ks : List Str} {d : Addr} {m : Int} (hm : Dk ks μ d) (h0 : 0 < m) (h1 : m < 2 ^ 62) (q : ∀ n, 0 ≤ n → n < m → P (.int n) μ) : SpDraw ks [.ref d, .int m] μ P := ⟨d, m, rfl, hm, h0, h1, q⟩
theorem eqB_self {x : D} (h : x.sh = true) : eqB x x = true := SeqAt.eqv_refl _ (SeqAt.canLay_of_shaped (Bool.and_eq_true_iff.mp h).2)
theorem w2_eqs {x : D} (hx : x.sh = true) (q : P (.bl true) μ) : W2 K (rEqD K) x x μ P := w2_eq hx hx (by rw [eqB_self hx]; exact q)
theorem w2_nes {x : D} (hx : x.sh = true) (q : P (.bl false) μ) : W2 K (rNeD K) x x μ P := w2_ne hx hx (by rw [eqB_self hx]; exact q)
theorem w2_isntT {ds : List D} (q : P (.bl false) μ) : W2 K (fun x y H Q => y = V.non ∧ Q (.bl (decide (x = .non))) H) (.tup ds) .non μ P := w2_isnt (fun z => nomatch z) q
theorem w2_notNT {ds : List D} (q : P (.bl true) μ) : W2 K (fun x y H Q => y = V.non ∧ Q (.bl (!decide (x = .non))) H) (.tup ds) .non μ P := w2_notN (fun z => nomatch z) q
theorem w2_isntR {a : Addr} (q : P (.bl false) μ) : W2 K (fun x y H Q => y = V.non ∧ Q (.bl (decide (x = .non))) H) (.ref a) .non μ P := w2_isnt (fun z => nomatch z) q
theorem w2_notNR {a : Addr} (q : P (.bl true) μ) : W2 K (fun x y H Q => y = V.non ∧ Q (.bl (!decide (x = .non))) H) (.ref a) .non μ P := w2_notN (fun z => nomatch z) q
theorem w2_isntI {i : Int} (q : P (.bl false) μ) : W2 K (fun x y H Q => y = V.non ∧ Q (.bl (decide (x = .non))) H) (.int i) .non μ P := w2_isnt (fun z => nomatch z) q
theorem w2_notNI {i : Int} (q : P (.bl true) μ) : W2 K (fun x y H Q => y = V.non ∧ Q (.bl (!decide (x = .non))) H) (.int i) .non μ P := w2_notN (fun z => nomatch z) q
theorem w2_isntS {i : Str} (q : P (.bl false) μ) : W2 K (fun x y H Q => y = V.non ∧ Q (.bl (decide (x = .non))) H) (.str i) .non μ P := w2_isnt (fun z => nomatch z) q
theorem w2_notNS {i : Str} (q : P (.bl true) μ) : W2 K (fun x y H Q => y = V.non ∧ Q (.bl (!decide (x = .non))) H) (.str i) .non μ P := w2_notN (fun z => nomatch z) q
theorem w2_eqE {x y : D} (h : x = y) (hx : x.sh = true) (q : P (.bl true) μ) : W2 K (rEqD K) x y μ P := by subst h; exact w2_eqs hx q
theorem w2_neE {x y : D} (h : x = y) (hx : x.sh = true) (q : P (.bl false) μ) : W2 K (rNeD K) x y μ P := by subst h; exact w2_nes hx q
theorem le_size {n : Nat} (h : n ≤ 100000) : n ≤ sizeLine := Nat.le_trans h (by decide)
theorem w2_eqI {i j : Int} (q : P (.bl (decide (i = j))) μ) : W2 K (rEqD K) (.int i) (.int j) μ P := w2_eq rfl rfl (by rw [show eqB (.int i) (.int j) = decide (i = j) from Bool.beq_eq_decide_eq i j]; exact q)
theorem w2_neI {i j : Int} (q : P (.bl (!decide (i = j))) μ) : W2 K (rNeD K) (.int i) (.int j) μ P := w2_ne rfl rfl (by rw [show eqB (.int i) (.int j) = decide (i = j) from Bool.beq_eq_decide_eq i j]; exact q)
theorem w2_eqB {i j : Bool} (q : P (.bl (i == j)) μ) : W2 K (rEqD K) (.bl i) (.bl j) μ P := w2_eq rfl rfl q
theorem w2_neB {i j : Bool} (q : P (.bl (!(i == j))) μ) : W2 K (rNeD K) (.bl i) (.bl j) μ P := w2_ne rfl rfl q
theorem wc_isiIt {i : Int} {c : String} (hk : kitB "int" c = some true) (q : P (.bl true) μ) : WC K (rIsi K) [.int i, .ty c] μ P := wc_isi (n := "int") rfl (by decide) hk q
theorem wc_isiIf {i : Int} {c : String} (hk : kitB "int" c = some false) (q : P (.bl false) μ) : WC K (rIsi K) [.int i, .ty c] μ P := wc_isi (n := "int") rfl (by decide) hk q
theorem wc_isiBt {i : Bool} {c : String} (hk : kitB "bool" c = some true) (q : P (.bl true) μ) : WC K (rIsi K) [.bl i, .ty c] μ P := wc_isi (n := "bool") rfl (by decide) hk q
theorem wc_isiBf {i : Bool} {c : String} (hk : kitB "bool" c = some false) (q : P (.bl false) μ) : WC K (rIsi K) [.bl i, .ty c] μ P := wc_isi (n := "bool") rfl (by decide) hk q
theorem wc_isiSt {i : Str} {c : String} (hk : kitB "str" c = some true) (q : P (.bl true) μ) : WC K (rIsi K) [.str i, .ty c] μ P := wc_isi (n := "str") rfl (by decide) hk q
theorem wc_isiSf {i : Str} {c : String} (hk : kitB "str" c = some false) (q : P (.bl false) μ) : WC K (rIsi K) [.str i, .ty c] μ P := wc_isi (n := "str") rfl (by decide) hk q
theorem wc_isiTt {i : List D} {c : String} (hk : kitB "tuple" c = some true) (q : P (.bl true) μ) : WC K (rIsi K) [.tup i, .ty c] μ P := wc_isi (n := "tuple") rfl (by decide) hk q
theorem wc_isiTf {i : List D} {c : String} (hk : kitB "tuple" c = some false) (q : P (.bl false) μ) : WC K (rIsi K) [.tup i, .ty c] μ P := wc_isi (n := "tuple") rfl (by decide) hk q
theorem wc_isiNt  {c : String} (hk : kitB "NoneType" c = some true) (q : P (.bl true) μ) : WC K (rIsi K) [.non, .ty c] μ P := wc_isi (n := "NoneType") rfl (by decide) hk q
theorem wc_isiNf  {c : String} (hk : kitB "NoneType" c = some false) (q : P (.bl false) μ) : WC K (rIsi K) [.non, .ty c] μ P := wc_isi (n := "NoneType") rfl (by decide) hk q
theorem wc_absM {i : Int} (q : P (.int (max i (-i))) μ) : WC K (fun xs H Q => ∃ i, xs = [V.int i] ∧ Q (.int (if i < 0 then -i else i)) H) [.int i] μ P := wc_abs (by
  have e : (if i < 0 then -i else i) = max i (-i) := by split <;> omega
  rw [e]; exact q)
theorem split2 {b : Bool} {p q : Prop} (h1 : b = true → p) (h2 : b = false → q) : (b = true → p) ∧ (b = false → q) := ⟨h1, h2⟩
theorem split_t {p q : Prop} (h1 : p) : (true = true → p) ∧ (true = false → q) := ⟨fun _ => h1, fun h => nomatch h⟩
theorem split_f {p q : Prop} (h1 : q) : (false = true → p) ∧ (false = false → q) := ⟨(fun h => nomatch h), fun _ => h1⟩
theorem split_nt {p q : Prop} (h1 : q) : ((!true) = true → p) ∧ ((!true) = false → q) := ⟨(fun h => nomatch h), fun _ => h1⟩
theorem split_nf {p q : Prop} (h1 : p) : ((!false) = true → p) ∧ ((!false) = false → q) := ⟨fun _ => h1, fun h => nomatch h⟩
theorem split_d {c p q : Prop} [Decidable c] (h1 : c → p) (h2 : ¬ c → q) : (decide c = true → p) ∧ (decide c = false → q) := ⟨fun h => h1 (of_decide_eq_true h), fun h => h2 (of_decide_eq_false h)⟩
theorem split_dt {c p q : Prop} [Decidable c] (h : c) (h1 : p) : (decide c = true → p) ∧ (decide c = false → q) := ⟨fun _ => h1, fun e => absurd h (of_decide_eq_false e)⟩
theorem split_df {c p q : Prop} [Decidable c] (h : ¬ c) (h1 : q) : (decide c = true → p) ∧ (decide c = false → q) := ⟨fun e => absurd (of_decide_eq_true e) h, fun _ => h1⟩
theorem split_ndt {c p q : Prop} [Decidable c] (h : c) (h1 : q) : ((!decide c) = true → p) ∧ ((!decide c) = false → q) := by rw [decide_eq_true h]; exact split_nt h1
theorem split_ndf {c p q : Prop} [Decidable c] (h : ¬ c) (h1 : p) : ((!decide c) = true → p) ∧ ((!decide c) = false → q) := by rw [decide_eq_false h]; exact split_nf h1
theorem w2_eqIt {i j : Int} (h : i = j) (q : P (.bl true) μ) : W2 K (rEqD K) (.int i) (.int j) μ P := w2_eqI (by rw [decide_eq_true h]; exact q)
theorem w2_neIt {i j : Int} (h : i = j) (q : P (.bl false) μ) : W2 K (rNeD K) (.int i) (.int j) μ P := w2_neI (by rw [decide_eq_true h]; exact q)
theorem split_n {b : Bool} {p q : Prop} (h : (b = true → q) ∧ (b = false → p)) : ((!b) = true → p) ∧ ((!b) = false → q) := ⟨fun e => h.2 (by simpa using e), fun e => h.1 (by simpa using e)⟩
theorem mod_nn {a m : Int} (h : 0 < m) : 0 ≤ a % m ∧ a % m < m := ⟨Int.emod_nonneg a (by omega), Int.emod_lt_of_pos a h⟩
theorem eqB_ints {i j : Int} : eqB (.int i) (.int j) = decide (i = j) := Bool.beq_eq_decide_eq i j
theorem eqB_bls {i j : Bool} : eqB (.bl i) (.bl j) = decide (i = j) := Bool.beq_eq_decide_eq i j
theorem eqB_nil : eqB (.tup []) (.tup []) = true := rfl
theorem eqB_cons {x y : D} {xs ys : List D} : eqB (.tup (x :: xs)) (.tup (y :: ys)) = (eqB x y && eqB (.tup xs) (.tup ys)) := rfl
theorem eqBL_nil : eqBL [] [] = true := rfl
theorem eqBL_cons {x y : D} {xs ys : List D} : eqBL (x :: xs) (y :: ys) = (eqB x y && eqBL xs ys) := rfl
theorem s_open3 {i : Nat} {k1 k2 k3 : Str} {c : Addr} (hm : μ[i]? = some (a, .deck [k1, k2, k3] c)) (h : ∀ (x y z : Int) (cs : List Int), 0 ≤ x → 0 ≤ y → 0 ≤ z → cs.length ≤ 63 →
    S4 K ts δ ((a, .dic [(.inr "cells", .ref c), (.inr k1, .int x), (.inr k2, .int y), (.inr k3, .int z)]) :: (c, .lst (cs.map D.int)) :: μ.eraseIdx i) N R B C) : S4 K ts δ μ N R B C := by
  refine s_open hm fun ns cs hns hcs => ?_
  match ns, hns with
  | [x, y, z], hns => exact h x y z cs (hns.2 x (by simp)) (hns.2 y (by simp)) (hns.2 z (by simp)) hcs
theorem weak_close3 {i : Nat} {k1 k2 k3 : Str} {c : Addr} {kds : List (Key × D)} {ds : List D} {x y z : Int} {cs : List Int} (hm : μ[i]? = some (a, .deck [k1, k2, k3] c))
    (e1 : kds = [(.inr "cells", .ref c), (.inr k1, .int x), (.inr k2, .int y), (.inr k3, .int z)]) (e2 : ds = cs.map D.int) (h1 : 0 ≤ x) (h2 : 0 ≤ y) (h3 : 0 ≤ z) (h4 : cs.length ≤ 63) : Weak ((a, .dic kds) :: (c, .lst ds) :: μ.eraseIdx i) μ :=
  weak_close (ns := [x, y, z]) hm ⟨rfl, fun n h => by
    simp only [List.mem_cons, List.not_mem_nil, or_false] at h
    rcases h with rfl | rfl | rfl <;> assumption⟩ h4 e1 e2
theorem map_int_get {cs : List Int} {k : Nat} {d : D} (h : (cs.map D.int)[k]? = some d) : ∃ v, cs[k]? = some v ∧ d = .int v := by
  rw [List.getElem?_map] at h
  cases e : cs[k]? with
  | none => rw [e] at h; cases h
  | some v => rw [e] at h; cases h; exact ⟨v, rfl, rfl⟩
theorem wt_yes {PT : Bool → Mu → Prop} (q : PT true μ) : WT K tYes δ μ PT := fun σ H ok Q f => f true H μ .refl ok.m q
theorem wsl_02 {x y z w : D} (q : P (.tup [x, y]) μ) : WSl K (rSlG K) (.tup [x, y, z, w]) none (some 2) μ P := wsl_tup q
theorem wsl_24 {x y z w : D} (q : P (.tup [z, w]) μ) : WSl K (rSlG K) (.tup [x, y, z, w]) (some 2) none μ P := wsl_tup q
/-- a cut behind which slots and objects are forgotten -/
theorem s_cutW (J : Dl → Mu → Prop) (h : S4 K ts1 δ μ (fun δ' μ' => ∃ δ0 μ0, LeD δ0 δ' ∧ Weak μ' μ0 ∧ J δ0 μ0) R B C) (k : ∀ δ' μ', J δ' μ' → S4 K ts2 δ' μ' N R B C) : S4 K (tSeq ts1 ts2) δ μ N R B C :=
  s_cut _ h fun δ' μ' ⟨δ0, μ0, le, wk, j⟩ => s_forget le (s_weak wk (k δ0 μ0 j))
theorem split_xb {b1 b2 : Bool} {p q : Prop} (h : b1 = b2) (h1 : q) : ((!(b1 == b2)) = true → p) ∧ ((!(b1 == b2)) = false → q) := by
  subst h
  rw [beq_self_eq_true]
  exact split_nt h1
theorem split_xe {b1 b2 : Bool} {p q : Prop} (h : b1 = b2) (h1 : p) : ((b1 == b2) = true → p) ∧ ((b1 == b2) = false → q) := by
  subst h
  rw [beq_self_eq_true]
  exact split_t h1
/-- plain data of depth at most n -/
def D.flat (n : Nat) (x : D) : Prop := x.dat = true ∧ x.py.canLay0 = true ∧ x.py.depth ≤ n
theorem flat_int {i : Int} : (D.int i).flat n := ⟨rfl, rfl, Nat.zero_le _⟩
theorem flat_bl {b : Bool} : (D.bl b).flat n := ⟨rfl, rfl, Nat.zero_le _⟩
theorem flat_non : D.non.flat n := ⟨rfl, rfl, Nat.zero_le _⟩
theorem flat_L : ∀ {ds : List D}, (∀ x ∈ ds, x.flat n) → D.datL ds = true ∧ PyData.canLayAll0 (D.pyL ds) = true ∧ PyData.depthAll (D.pyL ds) ≤ n
  | [], _ => ⟨rfl, rfl, Nat.zero_le _⟩
  | x :: ds, h => by
    obtain ⟨a1, a2, a3⟩ := h x List.mem_cons_self
    obtain ⟨b1, b2, b3⟩ := flat_L fun y hy => h y (List.mem_cons_of_mem _ hy)
    refine ⟨?_, ?_, ?_⟩
    · show (x.dat && D.datL ds) = true
      rw [a1, b1]; rfl
    · show (x.py.canLay0 && PyData.canLayAll0 (D.pyL ds)) = true
      rw [a2, b2]; rfl
    · show max x.py.depth (PyData.depthAll (D.pyL ds)) ≤ n
      omega
theorem flat_tup {ds : List D} (h : ∀ x ∈ ds, x.flat n) : (D.tup ds).flat (n + 1) := by
  obtain ⟨b1, b2, b3⟩ := flat_L h
  exact ⟨b1, b2, Nat.succ_le_succ b3⟩
theorem flat_up {x : D} {m : Nat} (h : x.flat n) (hn : n ≤ m) : x.flat m := ⟨h.1, h.2.1, Nat.le_trans h.2.2 hn⟩
theorem flat_dec {x : D} (h : (x.dat && (x.py.canLay0 && Nat.ble x.py.depth n)) = true) : x.flat n :=
  have h1 := Bool.and_eq_true_iff.mp h
  have h2 := Bool.and_eq_true_iff.mp h1.2
  ⟨h1.1, h2.1, Nat.le_of_ble_eq_true h2.2⟩
theorem sh_flat {x : D} (h : x.flat n) (hn : n ≤ 64) : x.sh = true := by
  unfold D.sh SeqAt.shaped
  rw [h.1, h.2.1, decide_eq_true (Nat.le_trans h.2.2 hn)]
  rfl
theorem eqBL_nil_r {xs : List D} : eqBL xs [] = xs.isEmpty := by cases xs <;> rfl
theorem wc_lenTm {α : Type} {f : α → D} {es : List α} (q : P (.int (es.length : Nat)) μ) : WC K (rLenG K) [.tup (es.map f)] μ P := wc_lenT (by rw [List.length_map]; exact q)
theorem wc_lenLm {α : Type} {f : α → D} {es : List α} {j : Nat} (hm : μ[j]? = some (a, .lst (es.map f))) (q : P (.int (es.length : Nat)) μ) : WC K (rLenG K) [.ref a] μ P := wc_lenL hm (by rw [List.length_map]; exact q)
/-- an entry of a list of numbers that lie in a range -/
theorem w2_ixR {cs : List Int} {i : Int} (j : Nat) (lo hi : Int) (hm : μ[j]? = some (a, .lst (cs.map D.int))) (h0 : 0 ≤ i) (h1 : i < cs.length) (hc : ∀ c ∈ cs, lo ≤ c ∧ c ≤ hi) (q : ∀ n : Int, lo ≤ n → n ≤ hi → P (.int n) μ) : W2 K (rIx K) (.ref a) (.int i) μ P :=
  w2_ixO j hm h0 (by rw [List.length_map]; exact h1) fun k d hk _ => by
    rw [List.getElem?_map] at hk
    obtain ⟨n, hn, rfl⟩ := Option.map_eq_some_iff.mp hk
    have := hc n (List.mem_of_getElem? hn)
    exact q n this.1 this.2
theorem three_of {ns : List Int} (h : ns.length = 3) : ∃ a b c, ns = [a, b, c] := by
  match ns, h with
  | [a, b, c], _ => exact ⟨a, b, c, rfl⟩
end
end Wk

set_option Elab.async false
set_option linter.all false
set_option maxRecDepth 100000
/-! enumerate of a tuple; t[::-1] of a list or a tuple -/
namespace WkE
open PySem PySem.Spec PyProof.Rows L2
open Sem (wp)
open AutoSeq1 (wpAny_loadPart')

theorem meets_enumerate_newT (l : Addr) (items : Array Value) (n : Nat) (dct : Option Addr) (sl : Array (Option Value)) :
    Meets (Builtin.«enumerate.__new__» ⟨[.type "enumerate", .ref l], []⟩) (fun _ R s => s.heap.get? l = some { cls := .type "tuple", dict := dct, data := .seq items n, slots := sl } ∧
      R (.ok (.ret (.ref (s.heap.push { cls := .type "tuple_iterator", data := .fields #[.ref l, .int 0 0] }).objs.size)))
        { s with heap := (s.heap.push { cls := .type "tuple_iterator", data := .fields #[.ref l, .int 0 0] }).push { cls := .type "enumerate", data := .fields #[.none, .bool false, .ref s.heap.objs.size, rawInt 0, .none, .none] } }) :=
  .of_wp fun prog w A R s h => by
    obtain ⟨hp, g, d, tk, os⟩ := s; obtain ⟨hl, h⟩ := h
    have hsub := sub_enumerate
    have hL : Heap.IsTuple (Shared.heap ⟨hp, g, d, tk, os⟩) l items := ⟨_, hl, rfl, n, rfl⟩
    wp_walk using wpAny_loadPart' hl
    refine wpAny_stack_any fun st => wpAny_pure ?_
    split
    · rename_i c _ _ _ _ _
      cases (c == Value.type "enumerate")
      · wp_walk using wpAny_loadPart' hl, wpAny_pyIter_tuple hL
        exact ⟨_, rfl, h⟩
      · wp_walk using wpAny_loadPart' hl, wpAny_pyIter_tuple hL
        exact ⟨_, rfl, h⟩
    · wp_walk using wpAny_loadPart' hl, wpAny_pyIter_tuple hL
      exact ⟨_, rfl, h⟩
section
variable {prog : Program} {w : World} {A : Around} {E : Value → Shared → Prop} {s : Shared}
theorem call_enumerate_tuple {l : Addr} {items : Array Value} {Q : Value → Shared → Prop} (hL : s.heap.IsTuple l items)
    (h : ∀ h', IsEnum h' (s.heap.objs.size + 1) s.heap.objs.size 0 .none → h'.IsTupleIter s.heap.objs.size l 0 → h'.objs.size = s.heap.objs.size + 2 →
      (∀ b o, s.heap.get? b = some o → h'.get? b = some o) → Q (.ref (s.heap.objs.size + 1)) { s with heap := h' }) :
    wpAny (model prog w) A (call (.type "enumerate") [.ref l]) Q E s := by
  obtain ⟨⟨c, dct, dt, sl⟩, hl, hc, n, hd⟩ := hL
  replace hc : c = .type "tuple" := hc
  replace hd : dt = .seq items n := hd
  subst hc hd
  refine callType_new F.called_enumerate (by decide) (F.typeCall_enumerate_1 _) (F.newCall_enumerate_1 _) (fun obj => F.args_object_init_2 obj _) F.entry_enumerate_new
    (meets_enumerate_newT l items n dct sl) ⟨hl, ?_⟩
  have hz : (s.heap.push { cls := .type "tuple_iterator", data := .fields #[.ref l, .int 0 0] }).objs.size = s.heap.objs.size + 1 := Heap.size_push ..
  show _ ∧ _
  rw [hz]
  have he : IsEnum ((s.heap.push { cls := .type "tuple_iterator", data := .fields #[.ref l, .int 0 0] }).push
      { cls := .type "enumerate", data := .fields #[.none, .bool false, .ref s.heap.objs.size, rawInt 0, .none, .none] }) (s.heap.objs.size + 1) s.heap.objs.size 0 .none := by
    have := Heap.get?_push_size (s.heap.push { cls := .type "tuple_iterator", data := .fields #[.ref l, .int 0 0] })
      (o := { cls := .type "enumerate", data := .fields #[.none, .bool false, .ref s.heap.objs.size, rawInt 0, .none, .none] }) rfl
    rw [hz] at this; exact this
  refine ⟨⟨_, he, rfl⟩, h _ he ⟨_, Heap.get?_push_of_some _ (Heap.get?_push_size _ rfl), rfl, rfl⟩ (by rw [Heap.size_push, hz]) fun b o x => Heap.get?_push_of_some _ (Heap.get?_push_of_some _ x)⟩
end
/-- the tuple at a, each item in a new pair -/
def IteT (K : PySem.W.Frag) (a : Addr) : It :=
  ⟨fun i H => ∃ (xs : List V) (x : V), SqT K H a xs ∧ xs[i]? = some x, fun i H v H' => ∃ T x, v = .ref T ∧ H T = none ∧ H' = upd H T (.tup [.int (i : Nat), x]) ∧ ∀ xs, SqT K H a xs → xs[i]? = some x, fun i H => ∃ xs : List V, SqT K H a xs ∧ xs.length ≤ i⟩
theorem turn_enumT {P : Program} {w : World} {K : PySem.W.Frag} {elts : List Expr} {kk : Nat} {tpos : Pos} (a e it : Addr) :
    Turn P w K (.Tuple elts kk tpos) (IteT K a) [e, it] e (fun i h => (∃ old, IsEnum h e it ((i : Nat) : Int) old) ∧ h.IsTupleIter it a i ∧ e ≠ it ∧ a ≠ it ∧ e ≠ a) where
  mem := by simp
  obj := fun i h st b hb => by
    obtain ⟨⟨old, he⟩, ⟨o, ho, hc, hd⟩, _⟩ := st
    have e' : b = e ∨ b = it := by simpa using hb
    rcases e' with z | z
    · rw [z]; exact ⟨_, he, fun v q => nomatch q⟩
    · rw [z]; exact ⟨o, ho, fun v q => by rw [hd] at q; cases q⟩
  keep := fun i h h' st k => let ⟨⟨old, he⟩, ⟨o, ho, r⟩, hne⟩ := st; ⟨⟨old, k e (by simp) _ he⟩, ⟨o, k it (by simp) o ho, r⟩, hne⟩
  item := by
    intro X hP hw hK hc i pins s σ H E I hf st hg
    subst hP hw hK
    obtain ⟨⟨old, he⟩, hit, hne, hai, hea⟩ := st
    obtain ⟨xs, x, hq, hx⟩ := hg
    obtain ⟨its, rv, p, hz⟩ := I.tuple hq
    obtain ⟨u, hu, ru⟩ := rv.get hx
    have hel : e < s.heap.objs.size := Heap.lt_size he
    have hil : it < s.heap.objs.size := by obtain ⟨_, q, _⟩ := hit; exact Heap.lt_size q
    have hlt : i < its.toArray.size := by
      have := (List.getElem?_eq_some_iff.mp hu).1
      simpa using this
    obtain ⟨ot, hot, hct, nt, hdt⟩ := p
    refine wpAny_pyNext_enum_itemD (Draws.tuple (prog := X.prog) (w := X.w) (A := X.A.in1) (I.ok.hd hc) it a hai its.toArray) he ⟨hit, ⟨ot, hot, hct, nt, hdt⟩⟩ hlt hne (by simp [hne, hea]) fun x' h' tk hP' ho hit' hT hsz hk => ?_
    have hxu : x' = u := by
      have h1 : its.toArray[i]? = some u := by simpa using hu
      rw [hP'] at h1
      exact Option.some.inj h1
    subst hxu
    refine ⟨_, rfl, wpAny_letOwnedTupleGo_enum (s := { s with heap := h', toks := tk + 1 }) ho fun h'' he' sb => ?_⟩
    have hT2 : h''.get? s.heap.objs.size = some { cls := .type "tuple", data := .seq #[.int i tk, x'] } := (sb.2 _ (Nat.ne_of_gt hel)).trans hT
    have new : ObjOk X.prog X.w (upd H s.heap.objs.size (.tup [.int (i : Nat), x])) h'' s.heap.objs.size (.tup [.int (i : Nat), x]) :=
      ⟨by show 2 ≤ sizeLine; decide, [.int i tk, x'], .cons ⟨_, rfl⟩ (.cons ru .nil), ⟨_, hT2, rfl, _, rfl⟩⟩
    have I1 : Inv X pins σ (upd H s.heap.objs.size (.tup [.int (i : Nat), x])) { s with heap := h'', toks := tk + 1 } :=
      I.turnedNew (ch := [e, it]) (fun b ob hb q => (sb.2 b (fun z => hb (by simp [z]))).trans (hk b ob (fun z => hb (by simp [z])) (fun z => hb (by simp [z])) q)) hf (Nat.le_refl _) new
    obtain ⟨⟨o2, ho2, r2⟩, _⟩ := hit'
    refine ⟨.ref s.heap.objs.size, _, I1, rfl, ⟨_, x, rfl, I.hok.fresh (Nat.le_refl _), rfl, fun ys hy => by rw [I.tuple_inj hy hq]; exact hx⟩, ⟨⟨x', ?_⟩, ⟨o2, (sb.2 it (Ne.symm hne)).trans ho2, r2⟩, hne, hai, hea⟩, fun b hb => ?_⟩
    · have e1 : ((i + 1 : Nat) : Int) = (i : Int) + 1 := by omega
      rw [e1]; exact he'
    · have hb' : b < s.heap.objs.size := by
        have e' : b = e ∨ b = it := by simpa using hb
        rcases e' with z | z
        · rw [z]; exact hel
        · rw [z]; exact hil
      rw [upd_ne (Nat.ne_of_lt hb')]
      exact (hf b hb).1
  done := by
    intro X hP hw hK hc i pins s σ H E I hf st hg
    subst hP hw hK
    obtain ⟨⟨old, he⟩, hit, hne, hai, hea⟩ := st
    obtain ⟨xs, hq, hx⟩ := hg
    obtain ⟨its, rv, p, hz⟩ := I.tuple hq
    obtain ⟨f0, f1, f2, f3, f4, f5⟩ := hf it (by simp)
    have hl := rv.length
    obtain ⟨ot, hot, hct, nt, hdt⟩ := p
    unfold pyNext
    have hT : s.TypeIs (.ref e) "enumerate" := ⟨_, he, rfl⟩
    refine wpAny_bind (wpAny_attempt (wpAny_callSpecial?_slot (name := Str.ofString "__next__") hT F.slot_enumerate_next
      (wpAny_call_entry F.slot_enumerate_next hT F.entry_enumerate_next ?_ (F.args_enumerate_next_1 _))))
    show wpAny _ _ (field (.ref e) 2 >>= _) _ _ _
    refine wpAny_bind (wpAny_field he rfl (x := .ref it) rfl ?_)
    refine wpAny_bind (wpAny_nextOf_tuple_end (I.ok.hd hc) hit ⟨ot, hot, hct, nt, hdt⟩ (by simp; omega) fun h' x eb hx' => ?_)
    obtain ⟨o, ho, hcx⟩ := hx'
    refine wpAny_bind (wpAny_isInstance (T := "StopIteration") (b := true) ⟨o, ho, hcx⟩ isSubtype_stop ?_)
    exact wpAny_pure ⟨rfl, I.turned (t' := s.toks) (fun b o hb q => eb b o hb q) f0 f1 f3 f4 f5⟩
  self := fun A i s Q E st h => let ⟨⟨_, he⟩, _⟩ := st; wpAny_pyIter_enum he h
def iEnumT (K : PySem.W.Frag) (ta : TA) : TI := fun σ H R => ta σ H fun vs H1 => ∃ a xs, vs = [.ref a] ∧ SqT K H1 a xs ∧ R (IteT K a) H1
theorem pi_enumT {X : Cx} {e : Expr} {ta : TA} {p pos tpos : Pos} {elts : List Expr} {kk : Nat} (hg : Gl X "enumerate") (hm : X.mg "enumerate" = none) (ha : PA X [e] ta) (hs : starEach [e] X.env = [(false, eval e X.env)] := by rfl) :
    PI X (.Tuple elts kk tpos) (.Call (.Name "enumerate" p) [e] [] pos) (iEnumT X.K ta) := by
  refine ⟨fun pins s σ H R I h => ?_⟩
  refine Call_ (ld_blt I hg hm boot_enumerate (PyProof.Rows.callWith_type1 (thn (ha.run pos pins s σ H _ I h) fun us s1 ⟨vs, H1, I1, r1, q1⟩ => ?_) hs rfl))
  obtain ⟨a, xs, ex, hq, q⟩ := q1
  subst ex
  cases r1 with
  | cons r rr =>
    cases rr
    cases r
    obtain ⟨its, rv, p', hz⟩ := I1.tuple hq
    obtain ⟨ot, hot, hct, nt, hdt⟩ := p'
    have hal : a < s1.heap.objs.size := Heap.lt_size hot
    refine call_enumerate_tuple ⟨ot, hot, hct, nt, hdt⟩ fun h' he hit hsz hk => wpAny_pyIter_enum he ?_
    have I2 : Inv X pins σ H1 { s1 with heap := h' } := I1.kept (t' := s1.toks) hk
    refine ⟨s1.heap.objs.size + 1, [s1.heap.objs.size + 1, s1.heap.objs.size], _, _, H1, rfl, I2, turn_enumT a (s1.heap.objs.size + 1) s1.heap.objs.size, ⟨⟨.none, he⟩, hit, Nat.succ_ne_self _, Nat.ne_of_lt hal, Nat.ne_of_gt (Nat.lt_succ_of_lt hal)⟩, fun b hb => ?_, q⟩
    have e' : b = s1.heap.objs.size + 1 ∨ b = s1.heap.objs.size := by simpa using hb
    have hle : s1.heap.objs.size ≤ b := by
      rcases e' with z | z
      · rw [z]; exact Nat.le_add_right _ _
      · rw [z]; exact Nat.le_refl _
    exact I1.fpOk hle (I1.hok.fresh hle)

/-! t[::-1] -/
theorem fm_congr {α β : Type} {f g : α → Option β} : ∀ {l : List α}, (∀ x ∈ l, f x = g x) → l.filterMap f = l.filterMap g
  | [], _ => rfl
  | x :: l, h => by rw [List.filterMap_cons, List.filterMap_cons, h x List.mem_cons_self, fm_congr fun y hy => h y (List.mem_cons_of_mem _ hy)]
theorem rev_pick (xs : Array Value) : ((List.range xs.size).filterMap fun (m : Nat) => xs[(((xs.size : Int) - 1) + (m : Int) * (-1)).toNat]?).toArray = xs.toList.reverse.toArray := by
  have h := PySem.W.krv_all xs.toList.reverse.toArray
  have hz : xs.toList.reverse.toArray.size = xs.size := by simp
  rw [hz] at h
  refine congrArg List.toArray (Eq.trans (fm_congr fun m hm => ?_) (h.trans (by simp)))
  have hm2 := List.mem_range.mp hm
  have e : (((xs.size : Int) - 1) + (m : Int) * (-1)).toNat = xs.size - 1 - m := by omega
  rw [e]
  simp only [List.getElem?_toArray]
  rw [List.getElem?_reverse (by simpa using hm2)]
  simp
section
variable {prog : Program} {w : World} {A : Around} {E : Value → Shared → Prop} {s : Shared}
open HT
theorem sliceApplied_rev {sl : Addr} {vs : Value} {n : Nat} {Q : Int × Int × Nat → Shared → Prop} (hs : s.heap.IsSliceOf sl .none .none vs) (ps : IsPart vs (some (-1)))
    (h : Q (((n : Int) - 1), -1, n) s) : wpAny (model prog w) A (Builtin.Slice.sliceApplied (.ref sl) (pure (n : Int))) Q E s := by
  obtain ⟨os, hos, hcs, hds⟩ := id hs
  unfold Builtin.Slice.sliceApplied Builtin.Slice.sliceFields
  refine wpAny_bind (wpAny_bind (wpAny_field hos hds (x := .none) rfl (wpAny_bind (wpAny_field hos hds (x := .none) rfl (wpAny_bind (wpAny_field hos hds (x := vs) rfl (wpAny_pure ?_)))))))
  refine wpAny_bind (slicePart_ ps ?_)
  show wpAny _ _ (if ((-1 : Int) == 0) = true then _ else _) _ _ s
  rw [if_neg (by decide)]
  refine wpAny_bind (slicePart_none (wpAny_bind (slicePart_none (wpAny_bind (wpAny_pure ?_)))))
  show wpAny _ _ (match Builtin.Slice.sliceAdjust none none (-1) (n : Int) with | (lo, hi) => pure (lo, (-1 : Int), Builtin.Slice.slicePlaces lo hi (-1))) _ _ s
  have e : Builtin.Slice.sliceAdjust none none (-1) (n : Int) = ((n : Int) - 1, -1) := by
    unfold Builtin.Slice.sliceAdjust
    have h1 : ((-1 : Int) < 0) := by omega
    simp only [h1, if_true]
  rw [e]
  show wpAny _ _ (pure ((n : Int) - 1, (-1 : Int), Builtin.Slice.slicePlaces ((n : Int) - 1) (-1) (-1))) _ _ s
  have e2 : Builtin.Slice.slicePlaces ((n : Int) - 1) (-1) (-1) = n := by
    unfold Builtin.Slice.slicePlaces
    have h1 : ¬ ((-1 : Int) > 0) := by omega
    simp only [h1, if_false]
    rw [show (- -1 : Int) = 1 by decide, Int.ediv_one]
    split <;> omega
  rw [e2]
  exact wpAny_pure h
theorem getItem_tuple_rev {t sl : Addr} {items : Array Value} {vs : Value} {Q : Value → Shared → Prop} (ht : IsTup s.heap t items) (hs : s.heap.IsSliceOf sl .none .none vs) (ps : IsPart vs (some (-1)))
    (h : Q (.ref s.heap.objs.size) { s with heap := s.heap.push { cls := .type "tuple", data := .seq items.toList.reverse.toArray } })
    (hsz : items.size ≤ sizeLine) : wpAny (model prog w) A (getItem (.ref t) (.ref sl)) Q E s := by
  have htake : sizeOk (.seq items.toList.reverse.toArray) := by
    show items.toList.reverse.toArray.size ≤ sizeLine
    rw [List.size_toArray, List.length_reverse, Array.length_toList]
    exact hsz
  obtain ⟨os, hos, hcs, hds⟩ := id hs
  have hTs : s.TypeIs (.ref sl) "slice" := ⟨os, hos, hcs⟩
  unfold getItem
  try with_reducible refine wpAny_holding ?_
  first | refine wpAny_bind (wpAny_pure ?_) | skip
  refine wpAny_bind (wpAny_sequenceKey ht.typeIs (by decide) ?_)
  refine wpAny_bind (wpAny_callSpecial?_slot (name := Str.ofString "__getitem__") ht.typeIs PyProof.Rows.slot_tuple_getitem
    (wpAny_call_entry PyProof.Rows.slot_tuple_getitem ht.typeIs entry_tuple_getitem ?_ (args_tuple_getitem _ _)))
  show wpAny _ _ (Builtin.Tuple.tupleItemsOf (.ref t) >>= _) _ _ s
  refine wpAny_bind (tupleItemsOf_ ht ?_)
  refine wpAny_bind (wpAny_typeOf hTs ?_)
  rw [if_pos (by decide)]
  refine wpAny_bind (sliceApplied_rev hs ps ?_)
  have hno : ¬ ((((items.size : Int) - 1) == 0 && (-1 : Int) == 1 && items.size == items.size) = true) := by
    rw [show ((-1 : Int) == 1) = false from by decide, Bool.and_false, Bool.false_and]
    exact Bool.false_ne_true
  show wpAny _ _ (if ((((items.size : Int) - 1) == 0 && (-1 : Int) == 1 && items.size == items.size) = true) then _ else _) _ _ s
  rw [if_neg hno, rev_pick]
  first
    | exact wpAny_bind (m := Builtin.Tuple.tupleExact _) (wpAny_newObj_type (wpAny_pure ⟨_, rfl, wpAny_pure h⟩) htake)
    | exact wpAny_bind (m := Builtin.Tuple.tupleExact _) (wpAny_newObj_type (wpAny_bind (wpAny_pure (wpAny_pure ⟨_, rfl, wpAny_pure h⟩))) htake)
    | exact wpAny_bind (wpAny_bind (m := Builtin.Tuple.tupleExact _) (wpAny_newObj_type (wpAny_pure (wpAny_pure ⟨_, rfl, wpAny_pure h⟩)) htake))
    | exact wpAny_bind (wpAny_bind (m := Builtin.Tuple.tupleExact _) (wpAny_newObj_type (wpAny_pure ⟨_, rfl, wpAny_pure h⟩) htake))
end
section
variable {X : Cx}
def tRevG (K : PySem.W.Frag) (te : TE) : TE := fun σ H Q => te σ H fun x H1 => (∃ a xs, x = .ref a ∧ SqL K H1 a xs ∧ ∀ p, H1 p = none → Q (.ref p) (upd H1 p (.lst xs.reverse))) ∨
  (∃ a xs, x = .ref a ∧ SqT K H1 a xs ∧ ∀ p, H1 p = none → Q (.ref p) (upd H1 p (.tup xs.reverse)))
theorem pe_rev {e : Expr} {te : TE} {k : Nat} {p1 p2 p3 pos : Pos} (he : PE X e te) : PE X (.Subscript e (.Slice none none (some (.UnaryOp .USub (.Constant (.int 1) k p1) p2)) p3) pos) (tRevG X.K te) := by
  refine ⟨fun pins s σ H Q I h => ?_⟩
  refine Subscript_ (thn (he.run pins s σ H _ I h) fun v s1 ⟨x, H1, I1, r1, q1⟩ => ?_)
  have hst : PO X (some (.UnaryOp .USub (.Constant (.int 1) k p1) p2)) (tPart (tUn (rU fun i => .int (-i)) (tC (.int 1)))) := po_some (pe_un un_neg pe_int)
  refine wpAny_Slice (thn (po_none.run pins s1 σ H1 (fun o H2 => o = none ∧ H2 = H1) I1 ⟨rfl, rfl⟩) fun vl s2 ⟨l, H2, I2, pl, el, e2⟩ => ?_)
  subst el e2
  refine thn (po_none.run pins s2 σ H2 (fun o H3 => o = none ∧ H3 = H2) I2 ⟨rfl, rfl⟩) fun vu s3 ⟨u, H3, I3, pu, eu, e3⟩ => ?_
  subst eu e3
  refine thn (hst.run pins s3 σ H3 (fun o H4 => o = some (-1) ∧ H4 = H3) I3 ⟨1, rfl, -1, rfl, rfl, rfl⟩) fun vs s4 ⟨o, H4, I4, ps, eo, e4⟩ => ?_
  subst eo e4
  have I5 : Inv X pins σ H4 { s4 with heap := s4.heap.push { cls := .type "slice", data := .fields #[vl, vu, vs] } } := I4.kept (t' := s4.toks) fun b ob q => Heap.get?_push_of_some _ q
  rcases q1 with ⟨a, xs, ex, hx, q⟩ | ⟨a, xs, ex, hx, q⟩
  · subst ex
    cases r1
    obtain ⟨its, r, ht, hz⟩ := I5.list hx
    have hlen := r.length
    show wpAny (model X.prog X.w) X.A (subscriptTail e (.Slice none none (some (.UnaryOp .USub (.Constant (.int 1) k p1) p2)) p3) (.ref a) (.ref s4.heap.objs.size)) (EP X pins σ Q) X.xe { s4 with heap := s4.heap.push { cls := .type "slice", data := .fields #[vl, vu, vs] } }
    refine tail_any (ops := [.ref a, .ref s4.heap.objs.size]) ht.isList.typeIs (PySem.slot_list_getitem.lookup) ?_ (by with_unfolding_all rfl)
    refine wpAny_getItem_list_slice ht.isList (Heap.IsSliceOf.new _ vl vu vs) pl pu ps (by decide) ?_ (by rw [List.size_toArray]; omega)
    rw [PySem.W.krv_pick]
    refine ⟨.ref _, _, I5.laid (t' := s4.toks) (o := .lst xs.reverse) (fun b ob q => Heap.get?_push_of_some _ q) (Nat.le_refl _) ?_, rfl, q _ (I5.hok.fresh (Nat.le_refl _))⟩
    exact ⟨by rw [List.length_reverse]; exact hz, _, 0, r.reverse, Heap.get?_push_size _ rfl⟩
  · subst ex
    cases r1
    obtain ⟨its, r, ht, hz⟩ := I5.tuple hx
    have hlen := r.length
    cases pl
    cases pu
    show wpAny (model X.prog X.w) X.A (subscriptTail e (.Slice none none (some (.UnaryOp .USub (.Constant (.int 1) k p1) p2)) p3) (.ref a) (.ref s4.heap.objs.size)) (EP X pins σ Q) X.xe { s4 with heap := s4.heap.push { cls := .type "slice", data := .fields #[.none, .none, vs] } }
    refine tail_any (ops := [.ref a, .ref s4.heap.objs.size]) ht.typeIs (PyProof.Rows.slot_tuple_getitem.lookup) ?_ (by with_unfolding_all rfl)
    refine getItem_tuple_rev ht (Heap.IsSliceOf.new _ .none .none vs) ps ?_ (by rw [List.size_toArray]; omega)
    refine ⟨.ref _, _, I5.laid (t' := s4.toks) (o := .tup xs.reverse) (fun b ob q => Heap.get?_push_of_some _ q) (Nat.le_refl _) ?_, rfl, q _ (I5.hok.fresh (Nat.le_refl _))⟩
    exact ⟨by rw [List.length_reverse]; exact hz, _, r.reverse, IsTup.new _ _⟩
end
theorem k_enumT {X : Cx} {K : PySem.W.Frag} {e : Expr} {ta : TA} {p pos tpos : Pos} {elts : List Expr} {kk : Nat} (h : X.K = K) (hg : Gl X "enumerate") (hm : X.mg "enumerate" = none) (ha : PA X [e] ta) (hs : starEach [e] X.env = [(false, eval e X.env)] := by rfl) :
    PI X (.Tuple elts kk tpos) (.Call (.Name "enumerate" p) [e] [] pos) (iEnumT K ta) := h ▸ pi_enumT hg hm ha hs
theorem k_enumL {X : Cx} {K : PySem.W.Frag} {e : Expr} {ta : TA} {p pos tpos : Pos} {elts : List Expr} {kk : Nat} (h : X.K = K) (hg : Gl X "enumerate") (hm : X.mg "enumerate" = none) (ha : PA X [e] ta) (hs : starEach [e] X.env = [(false, eval e X.env)] := by rfl) :
    PI X (.Tuple elts kk tpos) (.Call (.Name "enumerate" p) [e] [] pos) (iEnum K ta) := h ▸ pi_enum hg hm ha hs
theorem k_rev {X : Cx} {K : PySem.W.Frag} {e : Expr} {te : TE} {k : Nat} {p1 p2 p3 pos : Pos} (h : X.K = K) (he : PE X e te) : PE X (.Subscript e (.Slice none none (some (.UnaryOp .USub (.Constant (.int 1) k p1) p2)) p3) pos) (tRevG K te) := h ▸ pe_rev he
end WkE
namespace Wk
open PySem PySem.Spec L2 WkE
section
variable {K : PySem.W.Frag} {δ : Dl} {μ μ' : Mu} {P : D → Mu → Prop} {ta te : TE} {al : TA} {x y d : D} {xs ds : List D} {a b : Addr}
/-- what stands behind x[::-1] -/
def WRev (x : D) (μ : Mu) (P : D → Mu → Prop) : Prop := (∃ ds, x = .tup ds ∧ P (.tup ds.reverse) μ) ∨ ∃ (a : Addr) (j : Nat) (ds : List D), x = .ref a ∧ μ[j]? = some (a, M.lst ds) ∧ ∀ p, P (.ref p) ((p, .lst ds.reverse) :: μ)
theorem w_rev (h : W K te δ μ fun x μ1 => WRev x μ1 P) : W K (tRevG K te) δ μ P := fun σ H ok Q f =>
  h σ H ok _ fun v H1 x μ1 s1 m1 r1 h1 => by
    rcases h1 with ⟨ds, e, p⟩ | ⟨a, j, ds, e, hm, p⟩
    · subst e
      cases r1 with
      | tup hs_ hl =>
        have hs := TpA.sqt hs_
        refine .inr ⟨_, _, rfl, hs, fun a ha => ?_⟩
        exact f (.ref a) _ (.tup ds.reverse) μ1 (s1.trans (step_new ha)) (m1.new ha) (.tup upd_same (hl.reverse.step m1 (step_new ha))) p
    · subst e
      cases r1
      obtain ⟨vs, hv, hl⟩ := m1.at hm
      refine .inl ⟨_, _, rfl, .inl (.inl hv), fun p' hp => ?_⟩
      exact f (.ref p') _ (.ref p') ((p', .lst ds.reverse) :: μ1) (s1.trans (step_join hp rfl)) (m1.join hp rfl ⟨_, upd_same, hl.reverse.step m1 (step_new hp)⟩) (.ref p') (p p')
theorem wrev_t (q : P (.tup ds.reverse) μ) : WRev (.tup ds) μ P := .inl ⟨ds, rfl, q⟩
theorem wrev_2 (q : P (.tup [y, x]) μ) : WRev (.tup [x, y]) μ P := .inl ⟨_, rfl, q⟩
theorem wrev_m {α : Type} {f : α → D} {es : List α} (q : P (.tup (es.reverse.map f)) μ) : WRev (.tup (es.map f)) μ P := wrev_t (by rw [← List.map_reverse]; exact q)
theorem wrev_l {j : Nat} (hm : μ[j]? = some (a, .lst ds)) (q : ∀ p, P (.ref p) ((p, .lst ds.reverse) :: μ)) : WRev (.ref a) μ P := .inr ⟨a, j, ds, rfl, hm, q⟩
theorem wrev_lm {α : Type} {f : α → D} {es : List α} {j : Nat} (hm : μ[j]? = some (a, .lst (es.map f))) (q : ∀ p, P (.ref p) ((p, .lst (es.reverse.map f)) :: μ)) : WRev (.ref a) μ P := wrev_l hm (by rw [← List.map_reverse]; exact q)
def enumD (xs : List D) : List D := xs.mapIdx fun i d => .tup [.int (i : Int), d]
theorem enumD_length (xs : List D) : (enumD xs).length = xs.length := List.length_mapIdx
theorem enumD_get {i : Nat} (h : (enumD xs)[i]? = some d) : ∃ x, xs[i]? = some x ∧ d = .tup [.int (i : Int), x] := by
  unfold enumD at h
  rw [List.getElem?_mapIdx] at h
  obtain ⟨x, h1, rfl⟩ := Option.map_eq_some_iff.mp h
  exact ⟨x, h1, rfl⟩
theorem wi_enumT {PI : List D → (Mu → Prop) → Mu → Prop} (h : WA K al δ μ fun ds μ1 => ∃ xs, ds = [.tup xs] ∧ PI (enumD xs) (fun _ => True) μ1) : WI K (iEnumT K al) δ μ PI := fun σ H ok R f =>
  h σ H ok _ fun vs H1 ds μ1 s1 m1 r1 ⟨xs, e, p⟩ => by
    subst e
    cases r1 with
    | cons r rr =>
      cases rr
      cases r with
      | tup hs_ hl =>
        have hs := TpA.sqt hs_
        refine ⟨_, _, rfl, hs, f _ H1 (enumD xs) _ μ1 s1 m1 (fun H2 μ2 s2 m2 _ => ?_) p⟩
        have hs2 := sqT_step m1 s2 hs
        have hl2 := hl.step m1 s2
        refine ⟨fun i hi => ⟨_, hs2, by rw [hl2.length]; rw [enumD_length] at hi; exact hi⟩, fun i d hd => ?_⟩
        obtain ⟨x, hx, rfl⟩ := enumD_get hd
        obtain ⟨w, ew, rw'⟩ := hl2.get hx
        refine ⟨⟨_, w, hs2, ew⟩, fun x' H' hy => ?_⟩
        obtain ⟨T, x2, rfl, hT, rfl, hall⟩ := hy
        have e3 := hall _ hs2
        rw [ew] at e3
        cases e3
        refine ⟨step_new hT, m2.new hT, .tup upd_same (.cons (.int _) (.cons (rw'.step m2 (step_new hT)) .nil))⟩
theorem wi_enumL {PI : List D → (Mu → Prop) → Mu → Prop} (h : WA K al δ μ fun ds μ1 => ∃ (a : Addr) (j : Nat) (xs : List D), ds = [.ref a] ∧ μ1[j]? = some (a, M.lst xs) ∧ PI (enumD xs) (fun μ' => (a, M.lst xs) ∈ μ') μ1) : WI K (iEnum K al) δ μ PI := fun σ H ok R f =>
  h σ H ok _ fun vs H1 ds μ1 s1 m1 r1 ⟨a, j, xs, e, hm, p⟩ => by
    subst e
    cases r1 with
    | cons r rr =>
      cases rr
      cases r
      obtain ⟨vs, hv, hl⟩ := m1.at hm
      refine ⟨_, _, rfl, .inl (.inl hv), f _ H1 (enumD xs) _ μ1 s1 m1 (fun H2 μ2 s2 m2 g => ?_) p⟩
      obtain ⟨ws, hw, hl2⟩ := m2.ok _ g
      refine ⟨fun i hi => ⟨_, .inl (.inl hw), by rw [hl2.length]; rw [enumD_length] at hi; exact hi⟩, fun i d hd => ?_⟩
      obtain ⟨x, hx, rfl⟩ := enumD_get hd
      obtain ⟨w, ew, rw'⟩ := hl2.get hx
      refine ⟨⟨_, w, .inl (.inl hw), ew⟩, fun x' H' hy => ?_⟩
      obtain ⟨T, x2, rfl, hT, rfl, hall⟩ := hy
      have e3 := hall _ (.inl (.inl hw))
      rw [ew] at e3
      cases e3
      refine ⟨step_new hT, m2.new hT, .tup upd_same (.cons (.int _) (.cons (rw'.step m2 (step_new hT)) .nil))⟩
theorem den_rg {H : Hp} {a b : Int} : DenL K H (rgV a b) (rngD a (b - a).toNat) := by
  have e1 : rgV a b = ((List.range (b - a).toNat).map fun i : Nat => a + (i : Int)).map V.int := by
    unfold rgV
    rw [List.map_map]
    rfl
  have e2 : rngD a (b - a).toNat = ((List.range (b - a).toNat).map fun i : Nat => a + (i : Int)).map D.int := by
    unfold rngD
    rw [List.map_map]
    rfl
  rw [e1, e2]
  exact DenL.of_ints _
theorem w_listRg1 (h : W K ta δ μ fun x μ1 => ∃ n : Int, x = .int n ∧ (0 ≤ n ∧ n ≤ 16777216) ∧ ∀ p, P (.ref p) ((p, .lst (rngD 0 n.toNat)) :: μ1)) : W K (tLstRg (tRg1 ta)) δ μ P := fun σ H ok Q f =>
  h σ H ok _ fun v H1 x μ1 s1 m1 r1 ⟨n, e, b, p⟩ => by
    subst e
    cases r1
    refine ⟨n, rfl, RgOk.of_le (by omega) b.2 (by omega) b.1, fun q hq => ?_⟩
    have dn : DenL K H1 (rgV 0 n) (rngD 0 n.toNat) := by
      have := den_rg (K := K) (H := H1) (a := 0) (b := n)
      rw [Int.sub_zero] at this
      exact this
    exact f (.ref q) _ (.ref q) ((q, .lst (rngD 0 n.toNat)) :: μ1) (s1.trans (step_join hq rfl)) (m1.join hq rfl ⟨_, upd_same, dn.step m1 (step_new hq)⟩) (.ref q) (p q)
theorem w_tupRg1 (h : W K ta δ μ fun x μ1 => ∃ n : Int, x = .int n ∧ (0 ≤ n ∧ n ≤ 16777216) ∧ P (.tup (rngD 0 n.toNat)) μ1) : W K (tTupRg (tRg1 ta)) δ μ P := fun σ H ok Q f =>
  h σ H ok _ fun v H1 x μ1 s1 m1 r1 ⟨n, e, b, p⟩ => by
    subst e
    cases r1
    refine ⟨n, rfl, RgOk.of_le (by omega) b.2 (by omega) b.1, fun q hq => ?_⟩
    have dn : DenL K H1 (rgV 0 n) (rngD 0 n.toNat) := by
      have := den_rg (K := K) (H := H1) (a := 0) (b := n)
      rw [Int.sub_zero] at this
      exact this
    exact f (.ref q) _ (.tup (rngD 0 n.toNat)) μ1 (s1.trans (step_new hq)) (m1.new hq) (.tup upd_same (dn.step m1 (step_new hq))) p
end
end Wk

set_option Elab.async false
set_option linter.all false
set_option maxRecDepth 100000
namespace Wk
open PySem PySem.Spec L2 WkE
/-- a list stands at p -/
def Lk (ds : List D) (μ : Mu) (p : Addr) : Prop := ∃ j : Nat, μ[j]? = some (p, M.lst ds)
theorem Lk.here {ds : List D} {μ : Mu} {p : Addr} : Lk ds ((p, .lst ds) :: μ) p := ⟨0, rfl⟩
theorem Lk.cons {ds : List D} {μ : Mu} {p : Addr} {x : Addr × M} (h : Lk ds μ p) : Lk ds (x :: μ) p := h.elim fun j hj => ⟨j + 1, hj⟩
theorem Lk.mem {ds : List D} {μ : Mu} {p : Addr} (h : Lk ds μ p) : (p, M.lst ds) ∈ μ := h.elim fun _ hj => List.mem_of_getElem? hj
/-- a dict stands at p -/
def Ck (ds : List (Key × D)) (μ : Mu) (p : Addr) : Prop := ∃ j : Nat, μ[j]? = some (p, M.dic ds)
theorem Ck.here {ds : List (Key × D)} {μ : Mu} {p : Addr} : Ck ds ((p, .dic ds) :: μ) p := ⟨0, rfl⟩
theorem Ck.cons {ds : List (Key × D)} {μ : Mu} {p : Addr} {x : Addr × M} (h : Ck ds μ p) : Ck ds (x :: μ) p := h.elim fun j hj => ⟨j + 1, hj⟩
section
variable {α β : Type} {K : PySem.W.Frag} {δ : Dl} {μ μ' μ1 : Mu} {N B C J : Dl → Mu → Prop} {R : D → Mu → Prop} {P : D → Mu → Prop} {PA : List D → Mu → Prop} {ta tb tc te td ty tv : TE} {t u tt : TT} {al ar : TA} {ts ts1 ts2 : TS} {g : TG} {gs : TGs} {x y d : D} {xs ds : List D} {a b : Addr}

/-! ### for, over a mapped list -/
abbrev ForP (K : PySem.W.Frag) (δ : Dl) (g : TG) (ts : TS) (N : Dl → Mu → Prop) (R : D → Mu → Prop) (ds : List D) (G : Mu → Prop) (μ1 : Mu) : Prop := ∃ I : Nat → Dl → Mu → Prop, (∃ δ0 μ0, LeD δ0 δ ∧ Weak μ1 μ0 ∧ I 0 δ0 μ0) ∧ (∀ i δ' μ', I i δ' μ' → G μ') ∧
    (∀ i d δ' μ', ds[i]? = some d → I i δ' μ' → WG K g d δ' μ' fun δ2 μ2 => S4 K ts δ2 μ2 (fun δ3 μ3 => ∃ δ4 μ4, LeD δ4 δ3 ∧ Weak μ3 μ4 ∧ I (i + 1) δ4 μ4) R N (fun δ3 μ3 => ∃ δ4 μ4, LeD δ4 δ3 ∧ Weak μ3 μ4 ∧ I (i + 1) δ4 μ4)) ∧ ∀ δ' μ', I ds.length δ' μ' → N δ' μ'
theorem s_forQ {wi : TI} (h : WI K wi δ μ (ForP K δ g ts N R)) : S4 K (tFor wi g ts) δ μ N R B C := s_for h
theorem map_take_get {f : α → D} {es : List α} {i : Nat} (h : (es.map f)[i]? = some d) : ∃ x, es[i]? = some x ∧ d = f x ∧ es = es.take i ++ x :: es.drop (i + 1) ∧ es.take (i + 1) = es.take i ++ [x] := by
  rw [List.getElem?_map] at h
  obtain ⟨x, h1, rfl⟩ := Option.map_eq_some_iff.mp h
  obtain ⟨hi, e⟩ := List.getElem?_eq_some_iff.mp h1
  refine ⟨x, h1, rfl, ?_, ?_⟩
  · rw [← e, ← List.drop_eq_getElem_cons hi, List.take_append_drop]
  · rw [List.take_add_one, h1]; rfl
theorem forMm {f : α → D} {es : List α} {G : Mu → Prop} (I : List α → Dl → Mu → Prop) (h0 : ∃ δ0 μ0, LeD δ0 δ ∧ Weak μ1 μ0 ∧ I [] δ0 μ0) (hG : ∀ pre δ' μ', I pre δ' μ' → G μ')
    (hs : ∀ pre x suf δ' μ', es = pre ++ x :: suf → I pre δ' μ' → WG K g (f x) δ' μ' fun δ2 μ2 => S4 K ts δ2 μ2 (fun δ3 μ3 => ∃ δ4 μ4, LeD δ4 δ3 ∧ Weak μ3 μ4 ∧ I (pre ++ [x]) δ4 μ4) R N (fun δ3 μ3 => ∃ δ4 μ4, LeD δ4 δ3 ∧ Weak μ3 μ4 ∧ I (pre ++ [x]) δ4 μ4))
    (hd : ∀ δ' μ', I es δ' μ' → N δ' μ') : ForP K δ g ts N R (es.map f) G μ1 := by
  refine ⟨fun i => I (es.take i), h0, fun i => hG _, fun i d δ' μ' hd h => ?_, fun δ' μ' h => hd δ' μ' ?_⟩
  · obtain ⟨x, _, rfl, e, e2⟩ := map_take_get hd
    simp only [e2]
    exact hs _ x _ δ' μ' e h
  · rw [List.length_map, List.take_length] at h; exact h
/-- over lo .. lo + n - 1 -/
theorem forR {lo : Int} {n : Nat} {G : Mu → Prop} (I : Nat → Dl → Mu → Prop) (h0 : ∃ δ0 μ0, LeD δ0 δ ∧ Weak μ1 μ0 ∧ I 0 δ0 μ0) (hG : ∀ i δ' μ', I i δ' μ' → G μ')
    (hs : ∀ i δ' μ', i < n → I i δ' μ' → WG K g (.int (lo + (i : Int))) δ' μ' fun δ2 μ2 => S4 K ts δ2 μ2 (fun δ3 μ3 => ∃ δ4 μ4, LeD δ4 δ3 ∧ Weak μ3 μ4 ∧ I (i + 1) δ4 μ4) R N (fun δ3 μ3 => ∃ δ4 μ4, LeD δ4 δ3 ∧ Weak μ3 μ4 ∧ I (i + 1) δ4 μ4))
    (hd : ∀ δ' μ', I n δ' μ' → N δ' μ') : ForP K δ g ts N R (rngD lo n) G μ1 := by
  refine ⟨I, h0, hG, fun i d δ' μ' hd h => ?_, fun δ' μ' h => hd δ' μ' ?_⟩
  · obtain ⟨hi, rfl⟩ := rngD_get hd
    exact hs i δ' μ' hi h
  · rw [rngD_length] at h; exact h
/-- over enumerate of a mapped list -/
theorem forE {f : α → D} {es : List α} {G : Mu → Prop} (I : List α → Dl → Mu → Prop) (h0 : ∃ δ0 μ0, LeD δ0 δ ∧ Weak μ1 μ0 ∧ I [] δ0 μ0) (hG : ∀ pre δ' μ', I pre δ' μ' → G μ')
    (hs : ∀ pre x suf δ' μ', es = pre ++ x :: suf → I pre δ' μ' → WG K g (.tup [.int (pre.length : Nat), f x]) δ' μ' fun δ2 μ2 => S4 K ts δ2 μ2 (fun δ3 μ3 => ∃ δ4 μ4, LeD δ4 δ3 ∧ Weak μ3 μ4 ∧ I (pre ++ [x]) δ4 μ4) R N (fun δ3 μ3 => ∃ δ4 μ4, LeD δ4 δ3 ∧ Weak μ3 μ4 ∧ I (pre ++ [x]) δ4 μ4))
    (hd : ∀ δ' μ', I es δ' μ' → N δ' μ') : ForP K δ g ts N R (enumD (es.map f)) G μ1 := by
  refine ⟨fun i => I (es.take i), h0, fun i => hG _, fun i d δ' μ' hd h => ?_, fun δ' μ' h => hd δ' μ' ?_⟩
  · obtain ⟨z, hz, rfl⟩ := enumD_get hd
    obtain ⟨x, hx, rfl, e, e2⟩ := map_take_get hz
    simp only [e2]
    have hl : (es.take i).length = i := by
      rw [List.length_take]
      have := (List.getElem?_eq_some_iff.mp hx).1
      omega
    have h2 := hs _ x _ δ' μ' e h
    rw [hl] at h2
    exact h2
  · rw [enumD_length, List.length_map, List.take_length] at h; exact h

theorem leD_refl : ∀ δ : Dl, LeD δ δ
  | [] => True.intro
  | none :: r => leD_refl r
  | some d :: r => ⟨rfl, leD_refl r⟩
theorem leD_set : ∀ {δ1 δ2 : Dl} (i : Nat), LeD δ1 δ2 → LeD (δ1.set i none) δ2
  | [], [], _, h => h
  | none :: r, _ :: t, 0, h => h
  | none :: r, _ :: t, i + 1, h => leD_set (δ1 := r) (δ2 := t) i h
  | some d :: r, o :: t, 0, h => h.2
  | some d :: r, o :: t, i + 1, h => ⟨h.1, leD_set (δ1 := r) (δ2 := t) i h.2⟩
  | [], _ :: _, _, h => h.elim
  | none :: _, [], _, h => h.elim
  | some _ :: _, [], _, h => h.elim
theorem leD_wipe (δ : Dl) : ∀ vs : List Nat, LeD (wipeD δ vs) δ
  | [] => leD_refl δ
  | v :: vs => leD_set v (leD_wipe δ vs)
theorem leD_setr : ∀ {δ1 δ2 : Dl} (i : Nat) (x : Option D), δ1[i]? = some none ∨ δ1[i]? = none → LeD δ1 δ2 → LeD δ1 (δ2.set i x)
  | [], [], _, _, _, h => h
  | none :: r, _ :: t, 0, _, _, h => h
  | none :: r, _ :: t, i + 1, x, c, h => leD_setr (δ1 := r) (δ2 := t) i x (by simpa using c) h
  | some d :: r, o :: t, 0, _, c, h => by simp at c
  | some d :: r, o :: t, i + 1, x, c, h => ⟨h.1, leD_setr (δ1 := r) (δ2 := t) i x (by simpa using c) h.2⟩
  | [], _ :: _, _, _, _, h => h.elim
  | none :: _, [], _, _, _, h => h.elim
  | some _ :: _, [], _, _, _, h => h.elim
theorem wipeD_none {i : Nat} : ∀ {vs : List Nat}, i ∈ vs → (wipeD δ vs)[i]? = some none ∨ (wipeD δ vs)[i]? = none
  | v :: vs, h => by
    unfold wipeD
    by_cases c : v = i
    · subst c
      by_cases l : v < (wipeD δ vs).length
      · rw [List.getElem?_set_self l]; exact .inl rfl
      · rw [List.getElem?_eq_none (by rw [List.length_set]; omega)]; exact .inr rfl
    · rw [List.getElem?_set_ne c]
      rcases List.mem_cons.mp h with e | h
      · exact absurd e.symm c
      · exact wipeD_none h
theorem leW_refl {vs : List Nat} : LeD (wipeD δ vs) (wipeD δ vs) := leD_refl _
theorem leW_set {δ3 : Dl} {vs : List Nat} {i : Nat} {x : Option D} (hi : i ∈ vs) (h : LeD (wipeD δ vs) δ3) : LeD (wipeD δ vs) (δ3.set i x) := leD_setr i x (wipeD_none hi) h
theorem leW_wipe {δ3 : Dl} {vs : List Nat} : ∀ {ws : List Nat}, (∀ i ∈ ws, i ∈ vs) → LeD (wipeD δ vs) δ3 → LeD (wipeD δ vs) (wipeD δ3 ws)
  | [], _, h => h
  | w :: ws, k, h => leW_set (k w List.mem_cons_self) (leW_wipe (ws := ws) (fun i hi => k i (List.mem_cons_of_mem _ hi)) h)
theorem leW_base {δ : Dl} {vs : List Nat} : LeD (wipeD δ vs) δ := leD_wipe δ vs
/-! ### slots in sight -/
theorem s_start {NN : List Str} {ds : List D} {δ' : Dl} (h : startD NN ds = δ') (q : S4 K ts δ' μ N R B C) : S4 K ts (startD NN ds) μ N R B C := by subst h; exact q
theorem wg_nameN {i : Nat} {δ' : Dl} {PG : Dl → Mu → Prop} (h : δ.set i (some d) = δ') (q : PG δ' μ) : WG K (gName i) d δ μ PG := wg_name (by subst h; exact q)
theorem wg_wipe {vs vs' : List Nat} {δ' : Dl} {PG : Dl → Mu → Prop} (h1 : vs = vs') (h : wipeD δ vs' = δ') (q : WG K g d δ' μ PG) : WG K g d (wipeD δ vs) μ PG := by subst h1 h; exact q
theorem s_augN {i : Nat} {ti : TIp} {x : D} (hx : δ[i]? = some (some x)) (h : W K te δ μ fun y μ1 => W2 K ti x y μ1 fun z μ2 => ∃ δ', δ.set i (some z) = δ' ∧ N δ' μ2) : S4 K (tAug i te ti) δ μ N R B C :=
  s_aug hx (h.imp fun y μ1 h => fun H v u m r1 r2 Q k => h H v u m r1 r2 Q fun v' H' d μ' s m' r ⟨δ', e, q⟩ => k v' H' d μ' s m' r (by subst e; exact q))
theorem augN {δ' : Dl} {μ : Mu} {x : D} {i : Nat} (h : δ.set i (some x) = δ') (q : N δ' μ) : ∃ δ', δ.set i (some x) = δ' ∧ N δ' μ := ⟨_, h, q⟩
/-- a for whose turns change nothing but the slots vs -/
theorem forC (vs : List Nat) {δ0 : Dl} {G : Mu → Prop} (hw : wipeD δ vs = δ0) (hG : G μ1)
    (hs : ∀ x, x ∈ ds → WG K g x δ0 μ1 fun δ2 μ2 => S4 K ts δ2 μ2 (fun δ3 μ3 => LeD δ0 δ3 ∧ Weak μ3 μ1) R N (fun δ3 μ3 => LeD δ0 δ3 ∧ Weak μ3 μ1))
    (hd : N δ0 μ1) : ForP K δ g ts N R ds G μ1 := by
  subst hw
  refine ⟨fun _ δ' μ' => δ' = wipeD δ vs ∧ μ' = μ1, ⟨_, _, leD_wipe δ vs, Weak.refl, rfl, rfl⟩, ?_, ?_, ?_⟩
  · rintro i δ' μ' ⟨rfl, rfl⟩; exact hG
  · rintro i d δ' μ' hd' ⟨rfl, rfl⟩
    intro σ H v ok rv Q k
    refine hs d (List.mem_of_getElem? hd') σ H v ok rv Q fun σ' H' δ2 μ2 s o h => k σ' H' δ2 μ2 s o ?_
    exact s_imp h (fun δ3 μ3 ⟨l, w⟩ => ⟨_, _, l, w, rfl, rfl⟩) (fun _ _ z => z) (fun _ _ z => z) (fun δ3 μ3 ⟨l, w⟩ => ⟨_, _, l, w, rfl, rfl⟩)
  · rintro δ' μ' ⟨rfl, rfl⟩; exact hd
theorem forCm {f : α → D} {es : List α} (vs : List Nat) {δ0 : Dl} {G : Mu → Prop} (hw : wipeD δ vs = δ0) (hG : G μ1)
    (hs : ∀ x, x ∈ es → WG K g (f x) δ0 μ1 fun δ2 μ2 => S4 K ts δ2 μ2 (fun δ3 μ3 => LeD δ0 δ3 ∧ Weak μ3 μ1) R N (fun δ3 μ3 => LeD δ0 δ3 ∧ Weak μ3 μ1))
    (hd : N δ0 μ1) : ForP K δ g ts N R (es.map f) G μ1 := forC vs hw hG (fun d hd => by
      obtain ⟨x, hx, rfl⟩ := List.mem_map.mp hd
      exact hs x hx) hd
theorem forCr {lo : Int} {n : Nat} (vs : List Nat) {δ0 : Dl} {G : Mu → Prop} (hw : wipeD δ vs = δ0) (hG : G μ1)
    (hs : ∀ i : Nat, i < n → WG K g (.int (lo + (i : Int))) δ0 μ1 fun δ2 μ2 => S4 K ts δ2 μ2 (fun δ3 μ3 => LeD δ0 δ3 ∧ Weak μ3 μ1) R N (fun δ3 μ3 => LeD δ0 δ3 ∧ Weak μ3 μ1))
    (hd : N δ0 μ1) : ForP K δ g ts N R (rngD lo n) G μ1 := forC vs hw hG (fun d hd => by
      obtain ⟨x, hx, rfl⟩ := List.mem_map.mp hd
      exact hs x (List.mem_range.mp hx)) hd
theorem forCe {f : α → D} {es : List α} (vs : List Nat) {δ0 : Dl} {G : Mu → Prop} (hw : wipeD δ vs = δ0) (hG : G μ1)
    (hs : ∀ (i : Nat) x, es[i]? = some x → WG K g (.tup [.int (i : Nat), f x]) δ0 μ1 fun δ2 μ2 => S4 K ts δ2 μ2 (fun δ3 μ3 => LeD δ0 δ3 ∧ Weak μ3 μ1) R N (fun δ3 μ3 => LeD δ0 δ3 ∧ Weak μ3 μ1))
    (hd : N δ0 μ1) : ForP K δ g ts N R (enumD (es.map f)) G μ1 := forC vs hw hG (fun d hd => by
      obtain ⟨i, hi⟩ := List.getElem?_of_mem hd
      obtain ⟨z, hz, rfl⟩ := enumD_get hi
      obtain ⟨x, hx, rfl, _⟩ := map_take_get hz
      exact hs i x hx) hd

/-! ### comprehensions over a mapped list -/
/-- what stands behind w_lc -/
def LcP (K : PySem.W.Frag) (δ : Dl) (vs : List Nat) (g : TG) (tt : TT) (te : TE) (P : D → Mu → Prop) (ds : List D) (G : Mu → Prop) (μ1 : Mu) : Prop := ds.length < sizeLine ∧ ∀ p, ∃ I : Nat → List D → Mu → Prop, I 0 [] μ1 ∧
    (∀ i acc μ', I i acc μ' → G ((p, .lst acc) :: μ')) ∧
    (∀ i d acc μ', ds[i]? = some d → I i acc μ' → acc.length ≤ i → WG K g d (wipeD δ vs) ((p, .lst acc) :: μ') fun δ2 μ2 => WT K tt δ2 μ2 fun b μ3 =>
      (b = true → W K te δ2 μ3 fun y μ4 => ∃ μ5, Weak μ4 ((p, .lst acc) :: μ5) ∧ I (i + 1) (acc ++ [y]) μ5) ∧ (b = false → ∃ μ5, Weak μ3 ((p, .lst acc) :: μ5) ∧ I (i + 1) acc μ5)) ∧
    ∀ acc μ', I ds.length acc μ' → acc.length ≤ ds.length → P (.ref p) ((p, .lst acc) :: μ')
theorem lcRaw {P : D → Mu → Prop} {vs : List Nat} {G : Mu → Prop} (h : ds.length < sizeLine ∧ ∀ p, ∃ I : Nat → List D → Mu → Prop, I 0 [] μ1 ∧
    (∀ i acc μ', I i acc μ' → G ((p, .lst acc) :: μ')) ∧
    (∀ i d acc μ', ds[i]? = some d → I i acc μ' → acc.length ≤ i → WG K g d (wipeD δ vs) ((p, .lst acc) :: μ') fun δ2 μ2 => WT K tt δ2 μ2 fun b μ3 =>
      (b = true → W K te δ2 μ3 fun y μ4 => ∃ μ5, Weak μ4 ((p, .lst acc) :: μ5) ∧ I (i + 1) (acc ++ [y]) μ5) ∧ (b = false → ∃ μ5, Weak μ3 ((p, .lst acc) :: μ5) ∧ I (i + 1) acc μ5)) ∧
    ∀ acc μ', I ds.length acc μ' → acc.length ≤ ds.length → P (.ref p) ((p, .lst acc) :: μ')) : LcP K δ vs g tt te P ds G μ1 := h
theorem w_lcQ {wi : TI} {vs : List Nat} (hg : GIn g vs) (h : WI K wi δ μ (LcP K δ vs g tt te P)) : W K (tLc wi g tt te vs) δ μ P := w_lc hg h
/-- no test, each item by itself -/
theorem lcM {f r : α → D} {es : List α} {vs : List Nat} {G : Mu → Prop} (hl : es.length < sizeLine) (hG : ∀ p acc, G ((p, .lst acc) :: μ1))
    (hs : ∀ x, x ∈ es → ∀ p acc, WG K g (f x) (wipeD δ vs) ((p, .lst acc) :: μ1) fun δ2 μ2 => W K te δ2 μ2 fun y μ4 => y = r x ∧ Weak μ4 ((p, .lst acc) :: μ1))
    (q : ∀ p, P (.ref p) ((p, .lst (es.map r)) :: μ1)) : LcP K δ vs g tYes te P (es.map f) G μ1 := by
  refine ⟨by rw [List.length_map]; exact hl, fun p => ⟨fun i acc μ' => acc = (es.take i).map r ∧ μ' = μ1, ⟨rfl, rfl⟩, ?_, ?_, ?_⟩⟩
  · rintro i acc μ' ⟨_, rfl⟩; exact hG p acc
  · rintro i d acc μ' hd ⟨rfl, rfl⟩ _
    obtain ⟨x, hx, rfl, _, e2⟩ := map_take_get hd
    intro σ H v ok rv Q k
    refine hs x (List.mem_of_getElem? hx) p _ σ H v ok rv Q fun σ' H' δ2 μ2 s o h => k σ' H' δ2 μ2 s o ?_
    refine wt_yes (split_t (h.imp fun y μ4 ⟨e, w⟩ => ⟨_, w, ?_, rfl⟩))
    rw [e2, e, List.map_append]; rfl
  · rintro acc μ' ⟨rfl, rfl⟩ _
    rw [List.length_map, List.take_length]
    exact q p
/-- a test, each item by itself -/
theorem lcF {f r : α → D} {es : List α} {c : α → Bool} {vs : List Nat} {G : Mu → Prop} (hl : es.length < sizeLine) (hG : ∀ p acc, G ((p, .lst acc) :: μ1))
    (hs : ∀ x, x ∈ es → ∀ p acc, WG K g (f x) (wipeD δ vs) ((p, .lst acc) :: μ1) fun δ2 μ2 => WT K tt δ2 μ2 fun b μ3 => b = c x ∧ Weak μ3 ((p, .lst acc) :: μ1) ∧ (c x = true → W K te δ2 μ3 fun y μ4 => y = r x ∧ Weak μ4 ((p, .lst acc) :: μ1)))
    (q : ∀ p, P (.ref p) ((p, .lst ((es.filter c).map r)) :: μ1)) : LcP K δ vs g tt te P (es.map f) G μ1 := by
  refine ⟨by rw [List.length_map]; exact hl, fun p => ⟨fun i acc μ' => acc = ((es.take i).filter c).map r ∧ μ' = μ1, ⟨rfl, rfl⟩, ?_, ?_, ?_⟩⟩
  · rintro i acc μ' ⟨_, rfl⟩; exact hG p acc
  · rintro i d acc μ' hd ⟨rfl, rfl⟩ _
    obtain ⟨x, hx, rfl, _, e2⟩ := map_take_get hd
    intro σ H v ok rv Q k
    refine hs x (List.mem_of_getElem? hx) p _ σ H v ok rv Q fun σ' H' δ2 μ2 s o h => k σ' H' δ2 μ2 s o (h.imp fun b μ3 ⟨eb, w3, h3⟩ => ?_)
    subst eb
    refine ⟨fun hc => (h3 hc).imp fun y μ4 ⟨e, w⟩ => ⟨_, w, ?_, rfl⟩, fun hc => ⟨_, w3, ?_, rfl⟩⟩
    · rw [e2, e, List.filter_append, List.map_append]
      simp [hc]
    · rw [e2, List.filter_append]
      simp [hc]
  · rintro acc μ' ⟨rfl, rfl⟩ _
    rw [List.length_map, List.take_length]
    exact q p
/-- no test, a relation of what went and what is told -/
theorem lcI {f : α → D} {es : List α} {vs : List Nat} {G : Mu → Prop} (hl : es.length < sizeLine) (hG : ∀ p acc, G ((p, .lst acc) :: μ1)) (I : List α → List D → Prop) (h0 : I [] [])
    (hs : ∀ pre x suf p acc, es = pre ++ x :: suf → I pre acc → WG K g (f x) (wipeD δ vs) ((p, .lst acc) :: μ1) fun δ2 μ2 => W K te δ2 μ2 fun y μ4 => I (pre ++ [x]) (acc ++ [y]) ∧ Weak μ4 ((p, .lst acc) :: μ1))
    (q : ∀ p acc, I es acc → P (.ref p) ((p, .lst acc) :: μ1)) : LcP K δ vs g tYes te P (es.map f) G μ1 := by
  refine ⟨by rw [List.length_map]; exact hl, fun p => ⟨fun i acc μ' => I (es.take i) acc ∧ μ' = μ1, ⟨h0, rfl⟩, ?_, ?_, ?_⟩⟩
  · rintro i acc μ' ⟨_, rfl⟩; exact hG p acc
  · rintro i d acc μ' hd ⟨hI, rfl⟩ _
    obtain ⟨x, hx, rfl, e, e2⟩ := map_take_get hd
    intro σ H v ok rv Q k
    refine hs _ x _ p acc e hI σ H v ok rv Q fun σ' H' δ2 μ2 s o h => k σ' H' δ2 μ2 s o ?_
    refine wt_yes (split_t (h.imp fun y μ4 ⟨e, w⟩ => ⟨_, w, ?_, rfl⟩))
    rw [e2]; exact e
  · rintro acc μ' ⟨hI, rfl⟩ _
    rw [List.length_map, List.take_length] at hI
    exact q p acc hI
theorem rngD_map (lo : Int) (n : Nat) : rngD lo n = (List.range n).map fun i : Nat => D.int (lo + (i : Int)) := rfl
theorem enumD_map {f : α → D} {es : List α} : enumD (es.map f) = es.zipIdx.map fun p => .tup [.int (p.2 : Nat), f p.1] := by
  unfold enumD
  apply List.ext_getElem?
  intro i
  rw [List.getElem?_mapIdx, List.getElem?_map, List.getElem?_map, List.getElem?_zipIdx]
  cases es[i]? <;> simp

/-! ### reading lists by Lk -/
theorem wi_listK {PI : List D → (Mu → Prop) → Mu → Prop} (h : W K ta δ μ fun x μ1 => ∃ (a : Addr) (ds : List D), x = .ref a ∧ Lk ds μ1 a ∧ PI ds (fun μ' => (a, M.lst ds) ∈ μ') μ1) : WI K (iList K ta) δ μ PI :=
  wi_list (h.imp fun x μ1 ⟨a, ds, e, ⟨j, hj⟩, q⟩ => ⟨a, j, ds, e, hj, q⟩)
theorem wi_enumK {PI : List D → (Mu → Prop) → Mu → Prop} (h : WA K al δ μ fun ds μ1 => ∃ (a : Addr) (xs : List D), ds = [.ref a] ∧ Lk xs μ1 a ∧ PI (enumD xs) (fun μ' => (a, M.lst xs) ∈ μ') μ1) : WI K (iEnum K al) δ μ PI :=
  wi_enumL fun σ H ok Q f => h σ H ok Q fun vs H' ds μ' s m r ⟨a, xs, e, ⟨j, hj⟩, q⟩ => f vs H' ds μ' s m r ⟨a, j, xs, e, hj, q⟩
theorem lk_intro {PI : List D → (Mu → Prop) → Mu → Prop} (h : Lk ds μ a) (q : PI ds (fun μ' => (a, M.lst ds) ∈ μ') μ) : ∃ (a' : Addr) (ds' : List D), D.ref a = .ref a' ∧ Lk ds' μ a' ∧ PI ds' (fun μ' => (a', M.lst ds') ∈ μ') μ := ⟨a, ds, rfl, h, q⟩
theorem lk_intro1 {PI : List D → (Mu → Prop) → Mu → Prop} (h : Lk ds μ a) (q : PI ds (fun μ' => (a, M.lst ds) ∈ μ') μ) : ∃ (a' : Addr) (ds' : List D), [D.ref a] = [.ref a'] ∧ Lk ds' μ a' ∧ PI ds' (fun μ' => (a', M.lst ds') ∈ μ') μ := ⟨a, ds, rfl, h, q⟩
theorem wc_lenK (hm : Lk ds μ a) (q : P (.int (ds.length : Nat)) μ) : WC K (rLenG K) [.ref a] μ P := hm.elim fun _ hj => wc_lenL hj q
theorem wc_lenKm {f : α → D} {es : List α} (hm : Lk (es.map f) μ a) (q : P (.int (es.length : Nat)) μ) : WC K (rLenG K) [.ref a] μ P := hm.elim fun _ hj => wc_lenLm hj q
theorem wc_tupK (hm : Lk ds μ a) (q : P (.tup ds) μ) : WC K (fun xs H Q => ∃ p ys, xs = [V.ref p] ∧ ((SqL K H p ys ∧ ∀ l, H l = none → Q (.ref l) (upd H l (.tup ys))) ∨ (SqT K H p ys ∧ Q (.ref p) H))) [.ref a] μ P := hm.elim fun _ hj => wc_tupL hj q
theorem wc_listK (hm : Lk ds μ a) (q : ∀ p, P (.ref p) ((p, .lst ds) :: μ)) : WC K (fun xs H Q => ∃ p ys, xs = [V.ref p] ∧ (SqL K H p ys ∨ SqT K H p ys) ∧ ∀ l, H l = none → Q (.ref l) (upd H l (.lst ys))) [.ref a] μ P := hm.elim fun _ hj => wc_listL hj q
theorem wc_sumK {es : List α} {h : α → Int} (hm : Lk (es.map fun x => D.int (h x)) μ a) (q : P (.int (es.map h).sum) μ) : WC K (rSumG K) [.ref a] μ P := hm.elim fun _ hj => wc_sum (ns := es.map h) (by rw [List.map_map]; exact hj) q
theorem wc_sumKi {es : List Int} (hm : Lk (es.map D.int) μ a) (q : P (.int es.sum) μ) : WC K (rSumG K) [.ref a] μ P := hm.elim fun _ hj => wc_sum hj q
theorem wc_allK {es : List α} {h : α → Bool} (hm : Lk (es.map fun x => D.bl (h x)) μ a) (q : P (.bl (es.all h)) μ) : WC K (rAll K) [.ref a] μ P := hm.elim fun _ hj => wc_all (ns := es.map h) (by rw [List.map_map]; exact hj) (by rw [List.all_map]; exact q)
theorem wc_anyK {es : List α} {h : α → Bool} (hm : Lk (es.map fun x => D.bl (h x)) μ a) (q : P (.bl (es.any h)) μ) : WC K (rAny K) [.ref a] μ P := hm.elim fun _ hj => wc_any (ns := es.map h) (by rw [List.map_map]; exact hj) (by rw [List.any_map]; exact q)
theorem wc_maxKi {es : List Int} (hm : Lk (es.map D.int) μ a) (hn : es ≠ []) (q : P (.int (maxL es)) μ) : WC K (rMaxG K) [.ref a] μ P := hm.elim fun _ hj => wc_maxL hj (List.length_pos_iff.mpr hn) fun m h1 h2 => by rw [maxL_uniq h1 h2]; exact q
theorem wc_minKi {es : List Int} (hm : Lk (es.map D.int) μ a) (hn : es ≠ []) (q : P (.int (minL es)) μ) : WC K (rMinG K) [.ref a] μ P := hm.elim fun _ hj => wc_minL hj (List.length_pos_iff.mpr hn) fun m h1 h2 => by rw [minL_uniq h1 h2]; exact q
theorem wc_maxK {es : List α} {h : α → Int} (hm : Lk (es.map fun x => D.int (h x)) μ a) (hn : es ≠ []) (q : P (.int (maxL (es.map h))) μ) : WC K (rMaxG K) [.ref a] μ P :=
  wc_maxKi (es := es.map h) (by rw [List.map_map]; exact hm) (by simpa using hn) q
theorem wc_minK {es : List α} {h : α → Int} (hm : Lk (es.map fun x => D.int (h x)) μ a) (hn : es ≠ []) (q : P (.int (minL (es.map h))) μ) : WC K (rMinG K) [.ref a] μ P :=
  wc_minKi (es := es.map h) (by rw [List.map_map]; exact hm) (by simpa using hn) q
theorem wrev_k {f : α → D} {es : List α} (hm : Lk (es.map f) μ a) (q : ∀ p, P (.ref p) ((p, .lst (es.reverse.map f)) :: μ)) : WRev (.ref a) μ P := hm.elim fun _ hj => wrev_lm hj q
theorem wsl_K {lo hi : Option Int} (hm : Lk ds μ a) (q : ∀ p, P (.ref p) ((p, .lst (cutD ds lo hi)) :: μ)) : WSl K (rSlG K) (.ref a) lo hi μ P := hm.elim fun _ hj => wsl_lst hj q
theorem w2_addK (ha : Lk xs μ a) (hb : Lk ds μ b) (hz : xs.length + ds.length ≤ sizeLine) (q : ∀ p, P (.ref p) ((p, .lst (xs ++ ds)) :: μ)) : W2 K (rAddG K) (.ref a) (.ref b) μ P := ha.elim fun _ h1 => hb.elim fun _ h2 => w2_addL h1 h2 hz q
theorem w2_ixK {i : Int} (hm : Lk ds μ a) (hc : atI ds i = some d) (q : P d μ) : W2 K (rIx K) (.ref a) (.int i) μ P := hm.elim fun _ hj => w2_ixL hj hc q
/-- an item of a mapped list -/
theorem w2_ixKm {f : α → D} {es : List α} {e : α} {k : Nat} (hm : Lk (es.map f) μ a) (hk : es[k]? = some e) (q : P (f e) μ) : W2 K (rIx K) (.ref a) (.int (k : Nat)) μ P := w2_ixK hm (d := f e) (by
  have hl : k < es.length := (List.getElem?_eq_some_iff.mp hk).1
  unfold atI ixN
  rw [if_pos (by omega), if_pos (by rw [List.length_map]; omega)]
  show (es.map f)[Int.toNat (k : Int)]? = _
  rw [Int.toNat_natCast, List.getElem?_map, hk]; rfl) q
theorem w2_ixTm {f : α → D} {es : List α} {e : α} {k : Nat} (hk : es[k]? = some e) (q : P (f e) μ) : W2 K (rIx K) (.tup (es.map f)) (.int (k : Nat)) μ P := w2_ixT (d := f e) (by
  have hl : k < es.length := (List.getElem?_eq_some_iff.mp hk).1
  unfold atI ixN
  rw [if_pos (by omega), if_pos (by rw [List.length_map]; omega)]
  show (es.map f)[Int.toNat (k : Int)]? = _
  rw [Int.toNat_natCast, List.getElem?_map, hk]; rfl) q
theorem cut_from {f : α → D} {l : List α} {i : Int} (h : 0 ≤ i) : cutD (l.map f) (some i) none = (l.drop i.toNat).map f := by
  obtain ⟨k, rfl⟩ := Int.eq_ofNat_of_zero_le h
  rw [Int.toNat_natCast]
  unfold cutD
  rw [HT.sIx_nat, HT.sIx_none, List.length_map, List.map_drop, List.take_of_length_le]
  · rcases Nat.le_total k l.length with h | h
    · rw [Nat.min_eq_left h]
    · rw [Nat.min_eq_right h, List.drop_of_length_le (by rw [List.length_map]; exact Nat.le_refl _), List.drop_of_length_le (by rw [List.length_map]; exact h)]
  · rw [List.length_drop, List.length_map]
    exact Nat.le_refl _
theorem cut_to {f : α → D} {l : List α} {i : Int} (h : 0 ≤ i) : cutD (l.map f) none (some i) = (l.take i.toNat).map f := by
  obtain ⟨k, rfl⟩ := Int.eq_ofNat_of_zero_le h
  rw [Int.toNat_natCast]
  unfold cutD
  rw [HT.sIx_nat, HT.sIx_none, List.length_map, List.map_take, List.drop_zero, Nat.sub_zero]
  rcases Nat.le_total k l.length with h | h
  · rw [Nat.min_eq_left h]
  · rw [Nat.min_eq_right h, List.take_of_length_le (by rw [List.length_map]; exact Nat.le_refl _), List.take_of_length_le (by rw [List.length_map]; exact h)]
theorem wsl_Kfrom {f : α → D} {es : List α} {i : Int} (h : 0 ≤ i) (hm : Lk (es.map f) μ a) (q : ∀ p, P (.ref p) ((p, .lst ((es.drop i.toNat).map f)) :: μ)) : WSl K (rSlG K) (.ref a) (some i) none μ P := wsl_K hm (by rw [cut_from h]; exact q)
theorem wsl_KfromN {f : α → D} {es : List α} {k : Nat} (hm : Lk (es.map f) μ a) (q : ∀ p, P (.ref p) ((p, .lst ((es.drop k).map f)) :: μ)) : WSl K (rSlG K) (.ref a) (some (k : Nat)) none μ P := wsl_K hm (by rw [cut_from (by omega), Int.toNat_natCast]; exact q)
theorem wsl_KtoN {f : α → D} {es : List α} {k : Nat} (hm : Lk (es.map f) μ a) (q : ∀ p, P (.ref p) ((p, .lst ((es.take k).map f)) :: μ)) : WSl K (rSlG K) (.ref a) none (some (k : Nat)) μ P := wsl_K hm (by rw [cut_to (by omega), Int.toNat_natCast]; exact q)
theorem wsl_TfromN {f : α → D} {es : List α} {k : Nat} (q : P (.tup ((es.drop k).map f)) μ) : WSl K (rSlG K) (.tup (es.map f)) (some (k : Nat)) none μ P := wsl_tup (by rw [cut_from (by omega), Int.toNat_natCast]; exact q)
theorem wsl_TtoN {f : α → D} {es : List α} {k : Nat} (q : P (.tup ((es.take k).map f)) μ) : WSl K (rSlG K) (.tup (es.map f)) none (some (k : Nat)) μ P := wsl_tup (by rw [cut_to (by omega), Int.toNat_natCast]; exact q)
theorem wsl_Kto {f : α → D} {es : List α} {i : Int} (h : 0 ≤ i) (hm : Lk (es.map f) μ a) (q : ∀ p, P (.ref p) ((p, .lst ((es.take i.toNat).map f)) :: μ)) : WSl K (rSlG K) (.ref a) none (some i) μ P := wsl_K hm (by rw [cut_to h]; exact q)
theorem wsl_K1 {f : α → D} {es : List α} (hm : Lk (es.map f) μ a) (q : ∀ p, P (.ref p) ((p, .lst ((es.drop 1).map f)) :: μ)) : WSl K (rSlG K) (.ref a) (some 1) none μ P := wsl_K hm (by rw [cut_from (by decide)]; exact q)
theorem wsl_Tfrom {f : α → D} {es : List α} {i : Int} (h : 0 ≤ i) (q : P (.tup ((es.drop i.toNat).map f)) μ) : WSl K (rSlG K) (.tup (es.map f)) (some i) none μ P := wsl_tup (by rw [cut_from h]; exact q)
theorem wsl_Tto {f : α → D} {es : List α} {i : Int} (h : 0 ≤ i) (q : P (.tup ((es.take i.toNat).map f)) μ) : WSl K (rSlG K) (.tup (es.map f)) none (some i) μ P := wsl_tup (by rw [cut_to h]; exact q)
theorem wsl_T1 {f : α → D} {es : List α} (q : P (.tup ((es.drop 1).map f)) μ) : WSl K (rSlG K) (.tup (es.map f)) (some 1) none μ P := wsl_tup (by rw [cut_from (by decide)]; exact q)
theorem w2_addKm {f : α → D} {us ws : List α} (ha : Lk (us.map f) μ a) (hb : Lk (ws.map f) μ b) (hz : us.length + ws.length ≤ sizeLine) (q : ∀ p, P (.ref p) ((p, .lst ((us ++ ws).map f)) :: μ)) : W2 K (rAddG K) (.ref a) (.ref b) μ P :=
  w2_addK ha hb (by rw [List.length_map, List.length_map]; exact hz) (by rw [← List.map_append]; exact q)
/-- lists, equal -/
theorem w2_eqKs (ha : Lk ds μ a) (hb : Lk ds μ b) (hx : (D.tup ds).sh = true) (q : P (.bl true) μ) : W2 K (rEqD K) (.ref a) (.ref b) μ P := ha.elim fun _ h1 => hb.elim fun _ h2 => w2_eqL h1 h2 hx hx (by
  rw [show eqBL ds ds = true from eqB_self hx]; exact q)
theorem w2_neKs (ha : Lk ds μ a) (hb : Lk ds μ b) (hx : (D.tup ds).sh = true) (q : P (.bl false) μ) : W2 K (rNeD K) (.ref a) (.ref b) μ P := ha.elim fun _ h1 => hb.elim fun _ h2 => w2_neL h1 h2 hx hx (by
  rw [show eqBL ds ds = true from eqB_self hx]; exact q)
theorem w2_eqK (ha : Lk xs μ a) (hb : Lk ds μ b) (hx : (D.tup xs).sh = true) (hy : (D.tup ds).sh = true) (q : P (.bl (eqBL xs ds)) μ) : W2 K (rEqD K) (.ref a) (.ref b) μ P := ha.elim fun _ h1 => hb.elim fun _ h2 => w2_eqL h1 h2 hx hy q
theorem w2_neK (ha : Lk xs μ a) (hb : Lk ds μ b) (hx : (D.tup xs).sh = true) (hy : (D.tup ds).sh = true) (q : P (.bl (!eqBL xs ds)) μ) : W2 K (rNeD K) (.ref a) (.ref b) μ P := ha.elim fun _ h1 => hb.elim fun _ h2 => w2_neL h1 h2 hx hy q
theorem at0 {m : M} : ((a, m) :: μ)[0]? = some (a, m) := rfl
theorem atS {j : Nat} {m : M} {p : Addr × M} (h : μ[j]? = some (a, m)) : (p :: μ)[j + 1]? = some (a, m) := by rw [List.getElem?_cons_succ]; exact h
theorem ty_lstK (hm : Lk ds μ a) : ∀ H v, OkM K H μ → Den K H v (.ref a) → tyV K "list" v H := hm.elim fun _ h => ty_lst h
theorem ty_introK {p : Prop} (hm : Lk ds μ a) (h : p) : (∀ H v, OkM K H μ → Den K H v (.ref a) → tyV K "list" v H) ∧ p := ⟨ty_lstK hm, h⟩
theorem wm_appendK {j : Nat} (hm : μ[j]? = some (a, .lst xs)) (hz : xs.length < sizeLine) (h : μ.set j (a, .lst (xs ++ [d])) = μ') (q : P .non μ') : WM K rAppend (.ref a) [d] μ P := wm_append hm hz (by rw [h]; exact q)
theorem wm_popK {j : Nat} (hm : μ[j]? = some (a, .lst xs)) (hz : xs[xs.length - 1]? = some d) (h : μ.set j (a, .lst xs.dropLast) = μ') (q : P d μ') : WM K rPop (.ref a) [] μ P := wm_pop hm hz (by rw [h]; exact q)
theorem wg_setLK {to ti : TE} {PG : Dl → Mu → Prop} (h : W K to δ μ fun o μ1 => W K ti δ μ1 fun i μ2 => ∃ (a : Addr) (j : Nat) (xs : List D) (n : Int) (k : Nat) (μ3 : Mu), o = .ref a ∧ i = .int n ∧ μ2[j]? = some (a, M.lst xs) ∧ ixN xs.length n = some k ∧ μ2.set j (a, .lst (xs.set k d)) = μ3 ∧ PG δ μ3) : WG K (gSub to ti rSetL) d δ μ PG :=
  wg_setL (h.imp fun o μ1 h => h.imp fun i μ2 ⟨a, j, xs, n, k, μ3, h1, h2, h3, h4, h5, h6⟩ => ⟨a, j, xs, n, k, h1, h2, h3, h4, by rw [h5]; exact h6⟩)
theorem map_snoc (f : α → D) (x : α) {l : List α} : l.map f ++ [f x] = (l ++ [x]).map f := by rw [List.map_append]; rfl
/-- a test that is known -/
theorem split_kt {b : Bool} {p q : Prop} (h : b = true) (h1 : p) : (b = true → p) ∧ (b = false → q) := by subst h; exact split_t h1
theorem split_kf {b : Bool} {p q : Prop} (h : b = false) (h1 : q) : (b = true → p) ∧ (b = false → q) := by subst h; exact split_f h1
theorem split_knt {b : Bool} {p q : Prop} (h : b = true) (h1 : q) : ((!b) = true → p) ∧ ((!b) = false → q) := by subst h; exact split_nt h1
theorem split_knf {b : Bool} {p q : Prop} (h : b = false) (h1 : p) : ((!b) = true → p) ∧ ((!b) = false → q) := by subst h; exact split_nf h1
end
end Wk

set_option Elab.async false
set_option linter.all false
set_option maxRecDepth 100000
namespace Wk
open PySem PySem.Spec L2 WkE
abbrev jD (j : Nat) : D := .int (j : Int)
section
variable {α : Type} {K : PySem.W.Frag} {δ : Dl} {μ μ' μ1 : Mu} {P : D → Mu → Prop} {te : TE} {al : TA} {x y d : D} {xs ds : List D} {a b : Addr}
theorem inV_ints {i : Int} : ∀ ns : List Int, inV (V.int i) (ns.map V.int) = decide (i ∈ ns)
  | [] => rfl
  | n :: ns => by
    have ih := inV_ints (i := i) ns
    unfold inV at ih ⊢
    rw [List.map_cons, List.any_cons, ih]
    show ((n == i) || decide (i ∈ ns)) = _
    by_cases h : n = i
    · subst h; simp
    · have h2 : ¬ i = n := fun e => h e.symm
      have h3 : (n == i) = false := by simpa using h
      rw [h3]
      simp [List.mem_cons, h2]
theorem flat_ints (ns : List Int) : (ns.map V.int).all flatV = true := by
  rw [List.all_map]; exact List.all_eq_true.mpr fun _ _ => rfl
theorem w2_inT {ns : List Int} {i : Int} (q : P (.bl (decide (i ∈ ns))) μ) : W2 K (rIn K false) (.int i) (.tup (ns.map D.int)) μ P := fun H v u m r1 r2 Q k => by
  cases r1
  cases r2 with
  | tup hs_ hl =>
    have hs := TpA.sqt hs_
    have e := hl.ints
    subst e
    exact ⟨_, _, rfl, .inr hs, rfl, flat_ints ns, k _ H _ μ .refl m (.bl _) (by rw [inV_ints]; exact q)⟩
theorem w2_ninT {ns : List Int} {i : Int} (q : P (.bl (!decide (i ∈ ns))) μ) : W2 K (rIn K true) (.int i) (.tup (ns.map D.int)) μ P := fun H v u m r1 r2 Q k => by
  cases r1
  cases r2 with
  | tup hs_ hl =>
    have hs := TpA.sqt hs_
    have e := hl.ints
    subst e
    exact ⟨_, _, rfl, .inr hs, rfl, flat_ints ns, k _ H _ μ .refl m (.bl _) (by rw [inV_ints]; exact q)⟩
theorem w2_inK {ns : List Int} {i : Int} (hm : Lk (ns.map D.int) μ a) (q : P (.bl (decide (i ∈ ns))) μ) : W2 K (rIn K false) (.int i) (.ref a) μ P := fun H v u m r1 r2 Q k => by
  cases r1
  cases r2
  obtain ⟨j, hj⟩ := hm
  obtain ⟨vs, hv, hl⟩ := m.at hj
  have e := hl.ints
  subst e
  exact ⟨_, _, rfl, .inl (.inl (.inl hv)), rfl, flat_ints ns, k _ H _ μ .refl m (.bl _) (by rw [inV_ints]; exact q)⟩
theorem w2_ninK {ns : List Int} {i : Int} (hm : Lk (ns.map D.int) μ a) (q : P (.bl (!decide (i ∈ ns))) μ) : W2 K (rIn K true) (.int i) (.ref a) μ P := fun H v u m r1 r2 Q k => by
  cases r1
  cases r2
  obtain ⟨j, hj⟩ := hm
  obtain ⟨vs, hv, hl⟩ := m.at hj
  have e := hl.ints
  subst e
  exact ⟨_, _, rfl, .inl (.inl (.inl hv)), rfl, flat_ints ns, k _ H _ μ .refl m (.bl _) (by rw [inV_ints]; exact q)⟩
theorem jD_map (js : List Nat) : js.map jD = (js.map fun j : Nat => (j : Int)).map D.int := by rw [List.map_map]; rfl
theorem jD_in {k : Nat} {js : List Nat} : decide ((k : Int) ∈ js.map fun j : Nat => (j : Int)) = decide (k ∈ js) := decide_eq_decide.mpr ⟨fun h => by
  obtain ⟨j, hj, e⟩ := List.mem_map.mp h
  obtain rfl : j = k := by omega
  exact hj, fun h => List.mem_map.mpr ⟨k, h, rfl⟩⟩
theorem w2_inTn {js : List Nat} {k : Nat} (q : P (.bl (decide (k ∈ js))) μ) : W2 K (rIn K false) (.int (k : Nat)) (.tup (js.map jD)) μ P := by
  rw [jD_map]; exact w2_inT (by rw [jD_in]; exact q)
theorem w2_ninTn {js : List Nat} {k : Nat} (q : P (.bl (!decide (k ∈ js))) μ) : W2 K (rIn K true) (.int (k : Nat)) (.tup (js.map jD)) μ P := by
  rw [jD_map]; exact w2_ninT (by rw [jD_in]; exact q)
theorem w2_inKn {js : List Nat} {k : Nat} (hm : Lk (js.map jD) μ a) (q : P (.bl (decide (k ∈ js))) μ) : W2 K (rIn K false) (.int (k : Nat)) (.ref a) μ P :=
  w2_inK (by rw [jD_map] at hm; exact hm) (by rw [jD_in]; exact q)
theorem w2_ninKn {js : List Nat} {k : Nat} (hm : Lk (js.map jD) μ a) (q : P (.bl (!decide (k ∈ js))) μ) : W2 K (rIn K true) (.int (k : Nat)) (.ref a) μ P :=
  w2_ninK (by rw [jD_map] at hm; exact hm) (by rw [jD_in]; exact q)
theorem rng0 (n : Nat) : rngD 0 n = (List.range n).map jD := by
  unfold rngD
  exact List.map_congr_left fun i _ => by rw [Int.zero_add]
theorem forR0 {ts : TS} {g : TG} {N : Dl → Mu → Prop} {R : D → Mu → Prop} {n : Nat} {G : Mu → Prop} (I : Nat → Dl → Mu → Prop) (h0 : ∃ δ0 μ0, LeD δ0 δ ∧ Weak μ1 μ0 ∧ I 0 δ0 μ0) (hG : ∀ i δ' μ', I i δ' μ' → G μ')
    (hs : ∀ i δ' μ', i < n → I i δ' μ' → WG K g (jD i) δ' μ' fun δ2 μ2 => S4 K ts δ2 μ2 (fun δ3 μ3 => ∃ δ4 μ4, LeD δ4 δ3 ∧ Weak μ3 μ4 ∧ I (i + 1) δ4 μ4) R N (fun δ3 μ3 => ∃ δ4 μ4, LeD δ4 δ3 ∧ Weak μ3 μ4 ∧ I (i + 1) δ4 μ4))
    (hd : ∀ δ' μ', I n δ' μ' → N δ' μ') : ForP K δ g ts N R (rngD 0 n) G μ1 := forR I h0 hG (fun i δ' μ' hi h => by rw [Int.zero_add]; exact hs i δ' μ' hi h) hd
theorem forCr0 {ts : TS} {g : TG} {N : Dl → Mu → Prop} {R : D → Mu → Prop} {n : Nat} (vs : List Nat) {δ0 : Dl} {G : Mu → Prop} (hw : wipeD δ vs = δ0) (hG : G μ1)
    (hs : ∀ i : Nat, i < n → WG K g (jD i) δ0 μ1 fun δ2 μ2 => S4 K ts δ2 μ2 (fun δ3 μ3 => LeD δ0 δ3 ∧ Weak μ3 μ1) R N (fun δ3 μ3 => LeD δ0 δ3 ∧ Weak μ3 μ1))
    (hd : N δ0 μ1) : ForP K δ g ts N R (rngD 0 n) G μ1 := forCr vs hw hG (fun i hi => by rw [Int.zero_add]; exact hs i hi) hd
theorem lc0 {vs : List Nat} {g : TG} {tt : TT} {n : Nat} {G : Mu → Prop} (h : LcP K δ vs g tt te P ((List.range n).map jD) G μ1) : LcP K δ vs g tt te P (rngD 0 n) G μ1 := by rw [rng0]; exact h
theorem lcE {f : α → D} {es : List α} {vs : List Nat} {g : TG} {tt : TT} {G : Mu → Prop} (h : LcP K δ vs g tt te P (es.zipIdx.map fun p => .tup [.int (p.2 : Nat), f p.1]) G μ1) : LcP K δ vs g tt te P (enumD (es.map f)) G μ1 := by rw [enumD_map]; exact h
/-! ### sorted -/
theorem k_sortedI {X : Cx} {K : PySem.W.Frag} (h : X.K = K) : CallR X (.builtin "sorted") (rSortedI K) := h ▸ cr_sortedI
theorem wc_sortedK {ns : List Int} (hm : Lk (ns.map D.int) μ a) (q : ∀ (p : Addr) (ns' : List Int), ns'.Perm ns → ns'.Pairwise (· ≤ ·) → P (.ref p) ((p, .lst (ns'.map D.int)) :: μ)) : WC K (rSortedI K) [.ref a] μ P := fun H vs m r Q k => by
  cases r with
  | cons r1 r2 =>
    cases r2
    cases r1
    obtain ⟨j, hj⟩ := hm
    obtain ⟨vs, hv, hl⟩ := m.at hj
    have e := hl.ints
    subst e
    exact ⟨_, ns, rfl, .inl (.inl hv), fun ns' p h1 h2 hp => k _ _ _ _ (step_join hp rfl) (m.join (m := .lst (ns'.map D.int)) hp rfl ⟨_, upd_same, (DenL.of_ints ns').step m (step_new hp)⟩) (.ref p) (q p ns' h1 h2)⟩
theorem wc_sortedKn {js : List Nat} (hm : Lk (js.map jD) μ a) (q : ∀ (p : Addr) (js' : List Nat), js'.Perm js → js'.Pairwise (· ≤ ·) → P (.ref p) ((p, .lst (js'.map jD)) :: μ)) : WC K (rSortedI K) [.ref a] μ P :=
  wc_sortedK (ns := js.map fun j : Nat => (j : Int)) (by rw [← jD_map]; exact hm) fun p ns' h1 h2 => by
    have hz : ∀ n ∈ ns', 0 ≤ n := fun n hn => by
      obtain ⟨j, _, rfl⟩ := List.mem_map.mp (h1.mem_iff.mp hn)
      omega
    have e : ns' = (ns'.map Int.toNat).map fun j : Nat => (j : Int) := by
      rw [List.map_map]
      conv => lhs; rw [← List.map_id ns']
      exact List.map_congr_left fun n hn => by
        show n = ((n.toNat : Nat) : Int)
        have := hz n hn; omega
    rw [e, ← jD_map]
    refine q p _ ?_ ?_
    · have := h1.map Int.toNat
      rw [List.map_map] at this
      have e2 : (Int.toNat ∘ fun j : Nat => (j : Int)) = id := funext fun j => Int.toNat_natCast j
      rw [e2, List.map_id] at this
      exact this
    · rw [List.pairwise_map]
      exact h2.imp fun {a b} h => by omega
/-! ### sorted(set(t)) of a tuple of ints -/
def rSetI (K : PySem.W.Frag) (w : World) : List V → Hp → VK → Prop := fun vs H Q => ∃ (p : Addr) (ns : List Int), vs = [V.ref p] ∧ SqT K H p (ns.map V.int) ∧ ns.length ≤ 1000 ∧ ∀ (q : Addr) (c : Nat), (∃ ks : List Int, ks.Nodup ∧ (∀ k, k ∈ ks ↔ k ∈ ns) ∧ ks.length = c) → H q = none → Q (.ref q) (upd H q (SetO w q (fun j => decide (j ∈ ns)) c))
theorem k_sset {X : Cx} {w : World} (hw : X.w = w) (hc : X.calm = true) : CallR X (.builtin "sorted") (rSortedSet w) := hw ▸ cr_sortedSet hc
theorem cr_setI {X : Cx} {K : PySem.W.Frag} {w : World} (hK : X.K = K) (hw : X.w = w) (hc : X.calm = true) : CallR X (.type "set") (rSetI K w) := by
  subst hK hw
  intro pins s σ H xs us Q I r h
  obtain ⟨p0, ns, rfl, hq, hl, q⟩ := h
  rw [Vals.ref1 r]
  obtain ⟨its, rv, pt, hz⟩ := I.tuple hq
  refine call_set_tupI ns (I.ok.hd hc) (show s.heap.IsTuple p0 its.toArray from pt) (ints_of_vals rv) (by unfold scanBound; omega) fun h' tk c R hcn k => ?_
  refine ⟨.ref _, upd H s.heap.objs.size (SetO X.w s.heap.objs.size (fun j => decide (j ∈ ns)) c), ?x1, rfl, q _ c ?_ (I.hok.fresh (Nat.le_refl _))⟩
  · exact I.laid (t' := tk) k (Nat.le_refl _) (setO_new R)
  · obtain ⟨o, es, ep, t, ho, hex, hdt, g, nd, hm2, hb, hf, hn, hr, hl2⟩ := id R
    exact ⟨_, nd, fun k => by rw [← hm2 k, decide_eq_true_iff], by rw [List.length_map, Array.length_toList]; exact hn⟩
theorem w_sortSet {w : World} (h : W K te δ μ fun x μ1 => ∃ ns : List Int, x = .tup (ns.map D.int) ∧ ns.length ≤ 1000 ∧ (∃ B : List Int, B.length < 64 ∧ ∀ k ∈ ns, k ∈ B) ∧ ∀ (p : Addr) (ns' : List Int), ns'.Pairwise (· < ·) → (∀ k, k ∈ ns' ↔ k ∈ ns) → P (.ref p) ((p, .lst (ns'.map D.int)) :: μ1)) :
    W K (tCB (rSortedSet w) (tCons (tCB (rSetI K w) (tCons te tNil)) tNil)) δ μ P := by
  intro σ H ok Q f
  refine h σ H ok _ fun v H1 x μ1 s1 m1 r1 ⟨ns, e, hz, ⟨B, hB1, hB2⟩, q⟩ => ?_
  subst e
  cases r1 with
  | tup hs_ hl =>
    have hs := TpA.sqt hs_
    have e := hl.ints
    subst e
    refine ⟨_, ns, rfl, hs, hz, fun p c ⟨ks, hc1, hc2, hc3⟩ hp => ?_⟩
    refine ⟨p, _, c, rfl, upd_same, by
      have := hc1.length_le_of_subset fun k hk => hB2 k ((hc2 k).mp hk)
      omega, fun ns' p2 h1 h2 _ hp2 => ?_⟩
    have hne : p ≠ p2 := fun e => by rw [e, upd_same] at hp2; cases hp2
    have s2 : Step μ1 H1 μ1 (upd H1 p (SetO w p (fun j => decide (j ∈ ns)) c)) := step_new hp
    have m2 := m1.new (o := SetO w p (fun j => decide (j ∈ ns)) c) hp
    have s3 : Step μ1 (upd H1 p (SetO w p (fun j => decide (j ∈ ns)) c)) ((p2, .lst (ns'.map D.int)) :: μ1) (upd (upd H1 p (SetO w p (fun j => decide (j ∈ ns)) c)) p2 (.lst (ns'.map V.int))) := step_join hp2 rfl
    exact f (.ref p2) _ (.ref p2) _ (s1.trans (s2.trans s3)) (m2.join (m := .lst (ns'.map D.int)) hp2 rfl ⟨_, upd_same, (DenL.of_ints ns').step m2 (step_new hp2)⟩) (.ref p2) (q p2 ns' h1 fun k => by rw [h2]; exact decide_eq_true_iff)
theorem w_sortSetN {w : World} (h : W K te δ μ fun x μ1 => ∃ js : List Nat, x = .tup (js.map jD) ∧ js.length ≤ 1000 ∧ (∃ m : Nat, m < 64 ∧ ∀ k ∈ js, k < m) ∧ ∀ (p : Addr) (js' : List Nat), js'.Pairwise (· < ·) → (∀ k, k ∈ js' ↔ k ∈ js) → P (.ref p) ((p, .lst (js'.map jD)) :: μ1)) :
    W K (tCB (rSortedSet w) (tCons (tCB (rSetI K w) (tCons te tNil)) tNil)) δ μ P := by
  refine w_sortSet (h.imp fun x μ1 ⟨js, e, hl, ⟨m, hm1, hm2⟩, q⟩ => ⟨js.map fun j : Nat => (j : Int), by rw [e, jD_map], by rw [List.length_map]; exact hl, ⟨(List.range m).map fun j : Nat => (j : Int), by rw [List.length_map, List.length_range]; exact hm1, fun k hk => by
    obtain ⟨j, hj, rfl⟩ := List.mem_map.mp hk
    exact List.mem_map.mpr ⟨j, List.mem_range.mpr (hm2 j hj), rfl⟩⟩, fun p ns' h1 h2 => ?_⟩)
  have hz : ∀ n ∈ ns', 0 ≤ n := fun n hn => by
    obtain ⟨j, _, rfl⟩ := List.mem_map.mp ((h2 n).mp hn)
    omega
  have e : ns' = (ns'.map Int.toNat).map fun j : Nat => (j : Int) := by
    rw [List.map_map]
    conv => lhs; rw [← List.map_id ns']
    exact List.map_congr_left fun n hn => by
      show n = ((n.toNat : Nat) : Int)
      have := hz n hn; omega
  rw [e, ← jD_map]
  refine q p _ ?_ fun k => ?_
  · rw [List.pairwise_map]
    exact List.Pairwise.imp_of_mem (fun {a b} ha hb h => by have := hz a ha; have := hz b hb; omega) h1
  · rw [List.mem_map]
    constructor
    · rintro ⟨n, hn, rfl⟩
      obtain ⟨j, hj, rfl⟩ := List.mem_map.mp ((h2 n).mp hn)
      simpa using hj
    · intro hk
      exact ⟨(k : Int), (h2 _).mpr (List.mem_map.mpr ⟨k, hk, rfl⟩), by simp⟩
theorem w2_addTE {r : List D} (hn : xs ≠ []) (hz : xs.length + ds.length ≤ sizeLine) (h : xs ++ ds = r) (q : P (.tup r) μ) : W2 K (rAddG K) (.tup xs) (.tup ds) μ P := w2_addT hn hz (by rw [h]; exact q)
theorem w2_addTm {f : α → D} {us ws : List α} (hn : us ≠ []) (hz : us.length + ws.length ≤ sizeLine) (q : P (.tup ((us ++ ws).map f)) μ) : W2 K (rAddG K) (.tup (us.map f)) (.tup (ws.map f)) μ P := w2_addT (by simpa using hn) (by rw [List.length_map, List.length_map]; exact hz) (by rw [← List.map_append]; exact q)
theorem wc_minT2 {i j : Int} (q : P (.int (min i j)) μ) : WC K (rMinG K) [.tup [.int i, .int j]] μ P := wc_minT (ns := [i, j]) (by simp) q
theorem wc_maxT2 {i j : Int} (q : P (.int (max i j)) μ) : WC K (rMaxG K) [.tup [.int i, .int j]] μ P := wc_maxT (ns := [i, j]) (by simp) q
end
end Wk
namespace Wk
open PySem PySem.Spec L2 WkE
section
variable {α : Type} {K : PySem.W.Frag} {δ : Dl} {μ μ' μ1 : Mu} {P : D → Mu → Prop} {x y d : D} {xs ds : List D} {a b : Addr}
/-! ### pop at a place, insert ahead -/
theorem eraseIdx_mapW {f : α → D} : ∀ (es : List α) (k : Nat), (es.map f).eraseIdx k = (es.eraseIdx k).map f
  | [], _ => rfl
  | _ :: _, 0 => rfl
  | e :: es, k + 1 => by rw [List.map_cons, List.eraseIdx_cons_succ, List.eraseIdx_cons_succ, List.map_cons, eraseIdx_mapW es k]
theorem perm_eraseIdx {e : α} : ∀ {es : List α} {k : Nat}, es[k]? = some e → es.Perm (e :: es.eraseIdx k)
  | [], _, h => by simp at h
  | x :: es, 0, h => by simp at h; subst h; exact .refl _
  | x :: es, k + 1, h => by
    rw [List.eraseIdx_cons_succ]
    exact ((perm_eraseIdx (es := es) (k := k) (by simpa using h)).cons x).trans (.swap _ _ _)
theorem wm_popAtM {f : α → D} {es : List α} {v : Int} {j : Nat} (hm : μ[j]? = some (a, .lst (es.map f))) (h0 : 0 ≤ v) (h1 : v < es.length) (hz : es.length < 100000) (q : ∀ (k : Nat) (e : α), es[k]? = some e → es.Perm (e :: es.eraseIdx k) → P (f e) (μ.set j (a, .lst ((es.eraseIdx k).map f)))) : WM K rPopAt (.ref a) [.int v] μ P := by
  obtain ⟨k, rfl⟩ := Int.eq_ofNat_of_zero_le h0
  have hk : k < es.length := by omega
  refine wm_popAt (d := f es[k]) hm (by have : es.length < 2 ^ 62 := by omega
                                        omega) (by rw [List.getElem?_map, List.getElem?_eq_getElem hk]; rfl) ?_
  rw [eraseIdx_mapW]
  exact q k es[k] (List.getElem?_eq_getElem hk) (perm_eraseIdx (List.getElem?_eq_getElem hk))
theorem wm_popAtN {f : α → D} {es : List α} {v : Int} {j : Nat} (hm : μ[j]? = some (a, .lst (es.map f))) (h0 : 0 ≤ v) (h1 : v < es.length) (hz : es.length < 100000) (q : ∀ (k : Nat) (e : α), es[k]? = some e → es.Perm (e :: es.eraseIdx k) → ∃ μ', μ.set j (a, .lst ((es.eraseIdx k).map f)) = μ' ∧ P (f e) μ') : WM K rPopAt (.ref a) [.int v] μ P :=
  wm_popAtM hm h0 h1 hz fun k e h2 h3 => by
    obtain ⟨μ', e1, q1⟩ := q k e h2 h3
    rw [e1]; exact q1
theorem mu_set {j : Nat} {m : M} {μ' : Mu} {Q : Mu → Prop} (h : μ.set j (a, m) = μ') (q : Q μ') : ∃ μ', μ.set j (a, m) = μ' ∧ Q μ' := ⟨_, h, q⟩
def rIns : V → List V → Hp → VK → Prop := fun x vs H Q => ∃ (l : Addr) (xs : List V) (i : Int) (y : V), x = .ref l ∧ vs = [.int i, y] ∧ H l = some (.lst xs) ∧ xs.length < sizeLine ∧ 0 ≤ i ∧ i < 2 ^ 63 ∧ Q .non (upd H l (.lst (xs.take i.toNat ++ [y] ++ xs.drop i.toNat)))
theorem mt_ins {X : Cx} : MtR X "list.insert" rIns := mt_insert
theorem wm_ins0 {j : Nat} (hm : μ[j]? = some (a, .lst xs)) (hz : xs.length < sizeLine) (h : μ.set j (a, .lst (d :: xs)) = μ') (q : P .non μ') : WM K rIns (.ref a) [.int 0, d] μ P := fun H v vs m r rs Q k => by
  subst h
  cases r
  cases rs with
  | cons r0 r2 =>
    cases r0
    cases r2 with
    | cons r1 r2 =>
      cases r2
      obtain ⟨ws, hv, hl⟩ := m.at hm
      refine ⟨_, _, 0, _, rfl, rfl, hv, by rw [hl.length]; exact hz, by decide, by decide, ?_⟩
      exact k _ _ _ _ (step_set (m' := .lst (d :: xs)) hm rfl) (m.set (m' := .lst (d :: xs)) hm rfl ⟨_, upd_same, (DenL.cons r1 hl).step m (step_set (m' := .lst (d :: xs)) hm rfl)⟩) .non q
/-! ### items at sums of places -/
theorem w2_ixTi {f : α → D} {es : List α} {e : α} {i : Int} {k : Nat} (hi : i = (k : Int)) (hk : es[k]? = some e) (q : P (f e) μ) : W2 K (rIx K) (.tup (es.map f)) (.int i) μ P := by subst hi; exact w2_ixTm hk q
theorem w2_ixKi {f : α → D} {es : List α} {e : α} {i : Int} {k : Nat} (hm : Lk (es.map f) μ a) (hi : i = (k : Int)) (hk : es[k]? = some e) (q : P (f e) μ) : W2 K (rIx K) (.ref a) (.int i) μ P := by subst hi; exact w2_ixKm hm hk q
theorem atI_last {d : D} (h : ds.getLast? = some d) : atI ds (-1) = some d := by
  have hn : ds ≠ [] := by rintro rfl; cases h
  have hp := List.length_pos_iff.mpr hn
  unfold atI ixN
  rw [if_neg (by omega), if_pos (by omega)]
  show ds[(-1 + (ds.length : Int)).toNat]? = _
  rw [show (-1 + (ds.length : Int)).toNat = ds.length - 1 by omega, ← List.getLast?_eq_getElem?]
  exact h
theorem w2_ixTz {f : α → D} {es : List α} {e : α} (hk : es.getLast? = some e) (q : P (f e) μ) : W2 K (rIx K) (.tup (es.map f)) (.int (-1)) μ P := w2_ixT (atI_last (by rw [List.getLast?_map, hk]; rfl)) q
theorem w2_ixKz {f : α → D} {es : List α} {e : α} (hm : Lk (es.map f) μ a) (hk : es.getLast? = some e) (q : P (f e) μ) : W2 K (rIx K) (.ref a) (.int (-1)) μ P := w2_ixK hm (atI_last (by rw [List.getLast?_map, hk]; rfl)) q
theorem Lk.app {ν : Mu} (h : Lk ds μ a) : Lk ds (ν ++ μ) a := by
  obtain ⟨j, hj⟩ := h
  exact ⟨ν.length + j, by rw [List.getElem?_append_right (by omega), Nat.add_sub_cancel_left]; exact hj⟩
theorem Lk.of_mem {ν : Mu} (h : (a, M.lst ds) ∈ ν) : Lk ds (ν ++ μ) a := by
  obtain ⟨j, hj⟩ := List.getElem?_of_mem h
  exact ⟨j, by rw [List.getElem?_append_left (List.getElem?_eq_some_iff.mp hj).1]; exact hj⟩
theorem Dk.app {ks : List Str} {d : Addr} {ν : Mu} (h : Dk ks μ d) : Dk ks (ν ++ μ) d := by
  obtain ⟨i, c, e⟩ := h
  exact ⟨ν.length + i, c, by rw [List.getElem?_append_right (by omega), Nat.add_sub_cancel_left]; exact e⟩
theorem weak_app {ν : Mu} : Weak (ν ++ μ) μ := weak_sub (List.sublist_append_right _ _)
theorem weak_appS {ν : Mu} (h : Weak μ μ') : Weak (ν ++ μ) μ' := weak_app.trans h
end
end Wk
namespace Wk
open PySem PySem.Spec L2 WkE
section
variable {μ : Mu} {P : D → Mu → Prop} {d d1 : D} {a : Addr} {k k1 : Key} {r kds : List (Key × D)}
theorem valD_here : valD ((k, d) :: r) k = some d := by unfold valD; rw [List.find?_cons, decide_eq_true rfl]; rfl
theorem valD_next (h : k1 ≠ k) (q : valD r k = some d) : valD ((k1, d1) :: r) k = some d := by unfold valD at q ⊢; rw [List.find?_cons, decide_eq_false h]; exact q
theorem dget_str {Q : D → Prop} {s : Str} (hm : Ck kds μ a) (hv : valD kds (.inr s) = some d) (q : Q d) : ∃ (a' : Addr) (j : Nat) (kds' : List (Key × D)) (k : Key) (d' : D), D.ref a = .ref a' ∧ D.str s = kD k ∧ μ[j]? = some (a', M.dic kds') ∧ valD kds' k = some d' ∧ Q d' := by
  obtain ⟨j, hj⟩ := hm
  exact ⟨a, j, kds, .inr s, d, rfl, rfl, hj, hv, q⟩
end
end Wk
namespace Wk
open PySem PySem.Spec L2 WkE
theorem k_gunl {X : Cx} {K : PySem.W.Frag} (h : X.K = K) {es : List Expr} {k : Nat} {t : TGs} {n : Nat} {pos : Pos} (hc : X.calm = true) (ht : PGs X es t)
    (hn : (assignEach es X.env).length = n := by rfl) (hst : (assignEach es X.env).findIdx? (·.1) = none := by rfl) : PG X (.Tuple es k pos) (gUnl K n t) := h ▸ pg_unl hc ht hn hst
theorem wg_unl {K : PySem.W.Frag} {δ : Dl} {μ : Mu} {a : Addr} {ds : List D} {gs : TGs} {n : Nat} {PG : Dl → Mu → Prop} (hm : Lk ds μ a) (hl : ds.length = n) (h : WGs K gs ds δ μ PG) : WG K (gUnl K n gs) (.ref a) δ μ PG := fun σ H v ok r Q f => by
  cases r
  obtain ⟨j, hj⟩ := hm
  obtain ⟨vs, hv, hd⟩ := ok.m.at hj
  exact ⟨_, _, rfl, .inl (.inl hv), by rw [hd.length]; exact hl, h σ H _ ok hd Q f⟩
end Wk
namespace Wk
open PySem PySem.Spec L2 WkE
theorem w2_inT2 {K : PySem.W.Frag} {μ : Mu} {P : D → Mu → Prop} {i x y : Int} (q : P (.bl (decide (i = x ∨ i = y))) μ) : W2 K (rIn K false) (.int i) (.tup [.int x, .int y]) μ P := w2_inT (ns := [x, y]) (by
  rw [show decide (i ∈ [x, y]) = decide (i = x ∨ i = y) from decide_eq_decide.mpr (by simp)]; exact q)
end Wk
namespace Wk
open PySem PySem.Spec L2 WkE
/-! ### extend by a tuple -/
theorem list_extend_tupO (l : Addr) (items : Array Value) (n : Nat) (b : Addr) (o : Obj) (items2 : Array Value) (n2 : Nat) (hc : o.cls = .type "tuple") (hd : o.data = .seq items2 n2) (hs0 : (!items.isEmpty && Builtin.List.listTooLong (items.size + items2.size)) = false) (hs1 : items.size ≤ sizeLine) (hs2 : items.size + items2.size ≤ sizeLine + 1) :
    Meets (Builtin.«list.extend» ⟨[.ref l, .ref b], []⟩) (fun _ R s => s.heap.get? l = some { cls := .type "list", dict := none, data := .seq items n, slots := #[] } ∧ s.heap.get? b = some o ∧ R (.ok (.ret Value.none)) { s with heap := s.heap.update l (Obj.mapSeq fun x => x ++ items2), toks := s.toks }) :=
  .of_wp fun prog w A R s h => by
    obtain ⟨hl, hb, h⟩ := h
    show wpAny _ A.in1 (Builtin.List.listExtendWith (.ref l) (.ref b) .none) _ _ s
    unfold Builtin.List.listExtendWith
    refine wpAny_bind (wpAny_typeOf ⟨o, hb, hc⟩ ?_)
    have h1 : (Builtin.List.listSameRef (.ref l) (.ref b) || Value.type "tuple" == Value.type "list" || Value.type "tuple" == Value.type "tuple") = true := by simp
    simp only [h1, if_true]
    refine wpAny_bind ?_
    unfold Builtin.List.listItems
    refine wpAny_bind (wpAny_seqItems hb hd (wpAny_pure ?_))
    refine wpAny_bind ?_
    refine wpAny_bind (wpAny_seqItems hl rfl (wpAny_pure ?_))
    simp only [hs0]
    have hz' : (items ++ items2).size ≤ sizeLine + 1 := by rw [Array.size_append]; exact hs2
    show wpAny _ A.in1 (updateSeq l (· ++ items2) >>= fun _ => ret .none) _ _ s
    refine wpAny_bind (wpAny_updateSeq hl rfl ?_ (hz := hs1) (_hz' := hz'))
    exact wpAny_pure ⟨_, rfl, h⟩
def rExtT (K : PySem.W.Frag) : V → List V → Hp → VK → Prop := fun x vs H Q => ∃ l b xs zs, x = .ref l ∧ vs = [.ref b] ∧ H l = some (.lst xs) ∧ SqT K H b zs ∧ xs.length + zs.length ≤ sizeLine ∧ Q .non (upd H l (.lst (xs ++ zs)))
def rExtG (K : PySem.W.Frag) : V → List V → Hp → VK → Prop := fun x vs H Q => rExtend x vs H Q ∨ rExtT K x vs H Q
theorem mt_extendT {X : Cx} : MtM X "list.extend" (rExtT X.K) := by
  intro pins s σ H x vs v us Q I rx rv h
  obtain ⟨l, b, xs, zs, rfl, rfl, hH, hB, hz, q⟩ := h
  cases rx
  obtain ⟨u, rfl, ru⟩ := rv.one
  cases ru
  obtain ⟨z, its, n, r, hl, e⟩ := I.lstM hH
  obtain ⟨its2, r2, pt, hl2⟩ := I.tuple hB
  obtain ⟨o2, e2, c2, n2, d2⟩ := pt
  have l2 := r2.length
  have hsz : its.toArray.size + its2.toArray.size ≤ sizeLine := by rw [List.size_toArray, List.size_toArray]; omega
  have hlong : (!its.toArray.isEmpty && Builtin.List.listTooLong (its.toArray.size + its2.toArray.size)) = false := by
    rw [notLongL hsz, Bool.and_false]
  refine call_meets F.slot_list_extend ⟨_, e, rfl⟩ F.entry_list_extend (F.args_list_extend_2 _ _)
    (list_extend_tupO l its.toArray n b o2 its2.toArray n2 c2 d2 hlong (by rw [List.size_toArray]; omega) (by omega)) ⟨e, e2, ?_⟩
  refine ⟨.non, _, I.lset (its' := its ++ its2) hH e (by simp) (r.append r2) ?_, rfl, q⟩
  rw [List.length_append]
  omega
theorem mt_extG {X : Cx} {K : PySem.W.Frag} (hK : X.K = K) : MtM X "list.extend" (rExtG K) := by
  subst hK
  intro pins s σ H x vs v us Q I rx rv h
  rcases h with h | h
  · exact mt_extend pins s σ H x vs v us Q I rx rv h
  · exact mt_extendT pins s σ H x vs v us Q I rx rv h
theorem wm_extT {K : PySem.W.Frag} {μ μ' : Mu} {P : D → Mu → Prop} {a : Addr} {xs zs : List D} {j : Nat} (hm : μ[j]? = some (a, .lst xs)) (hz : xs.length + zs.length ≤ sizeLine) (h : μ.set j (a, .lst (xs ++ zs)) = μ') (q : P .non μ') : WM K (rExtG K) (.ref a) [.tup zs] μ P := fun H v vs m r rs Q k => by
  subst h
  cases r
  cases rs with
  | cons r1 r2 =>
    cases r2
    cases r1 with
    | tup hs_ hl2 =>
      have hs := TpA.sqt hs_
      obtain ⟨ws, hv, hl⟩ := m.at hm
      refine .inr ⟨_, _, _, _, rfl, rfl, hv, hs, by rw [hl.length, hl2.length]; exact hz, ?_⟩
      exact k _ _ _ _ (step_set (m' := .lst (xs ++ zs)) hm rfl) (m.set (m' := .lst (xs ++ zs)) hm rfl ⟨_, upd_same, (hl.append hl2).step m (step_set (m' := .lst (xs ++ zs)) hm rfl)⟩) .non q
end Wk
namespace Wk
open PySem PySem.Spec L2 WkE
theorem wm_popC {α : Type} {K : PySem.W.Frag} {μ μ' : Mu} {P : D → Mu → Prop} {a : Addr} {f : α → D} {es : List α} {e : α} {j : Nat} (hm : μ[j]? = some (a, .lst ((es ++ [e]).map f))) (h : μ.set j (a, .lst (es.map f)) = μ') (q : P (f e) μ') : WM K rPop (.ref a) [] μ P := by
  refine wm_popK hm (d := f e) ?_ ?_ q
  · rw [List.map_append, List.length_append, List.length_map, List.map_cons, List.map_nil, List.length_singleton, List.getElem?_append_right (by rw [List.length_map]; omega), List.length_map]
    simp
  · rw [List.map_append, List.map_cons, List.map_nil, List.dropLast_concat]; exact h
end Wk
namespace Wk
open PySem PySem.Spec L2 WkE
theorem den_rep {K : PySem.W.Frag} {H : Hp} {v : V} {d : D} (r : Den K H v d) : ∀ n : Nat, DenL K H (List.replicate n [v]).flatten (List.replicate n d)
  | 0 => .nil
  | n + 1 => .cons r (den_rep r n)
/-- [x] * n -/
theorem w2_rep1 {K : PySem.W.Frag} {μ : Mu} {P : D → Mu → Prop} {a : Addr} {d : D} {i : Int} {n : Nat} (hm : Lk [d] μ a) (hi : i = (n : Int)) (hz : n ≤ 100000) (q : ∀ p, P (.ref p) ((p, .lst (List.replicate n d)) :: μ)) : W2 K rRep (.ref a) (.int i) μ P := fun H v u m r1 r2 Q k => by
  subst hi
  cases r1
  cases r2
  obtain ⟨j, hj⟩ := hm
  obtain ⟨vs, hv, hl⟩ := m.at hj
  cases hl with
  | cons r rr =>
    cases rr
    refine ⟨_, _, _, rfl, rfl, hv, by omega, by omega, ?_, fun p hp => ?_⟩
    · rw [Int.toNat_natCast]; exact Nat.le_trans (by simp; omega) (show 100000 ≤ sizeLine by decide)
    · rw [Int.toNat_natCast]
      exact k _ _ _ _ (step_join hp rfl) (m.join (m := .lst (List.replicate n d)) hp rfl ⟨_, upd_same, (den_rep r n).step m (step_new hp)⟩) (.ref p) (q p)
end Wk
namespace Wk
open PySem PySem.Spec L2 WkE
/-- a list's item is set -/
theorem set_intro {α : Type} {μ μ' : Mu} {a : Addr} {d : D} {Q : Mu → Prop} {f : α → D} {es : List α} {e : α} {i : Int} {k j : Nat} (hm : μ[j]? = some (a, M.lst (es.map f))) (hi : i = (k : Int)) (hk : k < es.length) (hd : d = f e) (h : μ.set j (a, .lst ((es.set k e).map f)) = μ') (q : Q μ') :
    ∃ (a' : Addr) (j' : Nat) (xs : List D) (n : Int) (k' : Nat) (μ3 : Mu), D.ref a = .ref a' ∧ D.int i = .int n ∧ μ[j']? = some (a', M.lst xs) ∧ ixN xs.length n = some k' ∧ μ.set j' (a', .lst (xs.set k' d)) = μ3 ∧ Q μ3 := by
  subst hi hd h
  refine ⟨a, j, es.map f, _, k, _, rfl, rfl, hm, ?_, by rw [← List.map_set], q⟩
  unfold ixN
  rw [List.length_map, if_pos (by omega), if_pos (by omega), Int.toNat_natCast]
/-- .. of a list known item by item -/
theorem set_introK {μ μ' : Mu} {a : Addr} {d : D} {Q : Mu → Prop} {xs xs' : List D} {i : Int} {j : Nat} (k : Nat) (hm : μ[j]? = some (a, M.lst xs)) (hi : ixN xs.length i = some k) (hx : xs.set k d = xs') (h : μ.set j (a, .lst xs') = μ') (q : Q μ') :
    ∃ (a' : Addr) (j' : Nat) (xs : List D) (n : Int) (k' : Nat) (μ3 : Mu), D.ref a = .ref a' ∧ D.int i = .int n ∧ μ[j']? = some (a', M.lst xs) ∧ ixN xs.length n = some k' ∧ μ.set j' (a', .lst (xs.set k' d)) = μ3 ∧ Q μ3 := by
  subst h hx
  exact ⟨a, j, xs, _, k, _, rfl, rfl, hm, hi, rfl, q⟩
end Wk

set_option Elab.async false
set_option linter.all false
set_option maxRecDepth 100000
namespace Wk
open PySem PySem.Spec L2 WkE
section
variable {K : PySem.W.Frag} {δ : Dl} {μ μ' : Mu} {ts : TS} {N B C : Dl → Mu → Prop} {R : D → Mu → Prop} {a : Addr}
/-! ### a deck that is a list -/
theorem s_openL {i : Nat} {c : Addr} (hm : μ[i]? = some (a, .ldk c)) (h : ∀ (x y z : Int) (cs : List Int), 0 ≤ z → cs.length ≤ 63 → S4 K ts δ ((a, .lst [.ref c, .int x, .int y, .int z]) :: (c, .lst (cs.map D.int)) :: μ.eraseIdx i) N R B C) : S4 K ts δ μ N R B C := fun σ H ok Dn n r b cc => by
  obtain ⟨x, y, z, cs, h1, h2, e1, e2⟩ := ok.m.at hm
  have hp := foot_perm hm
  have fe : foot ((a, M.lst [.ref c, .int x, .int y, .int z]) :: (c, .lst (cs.map D.int)) :: μ.eraseIdx i) = a :: ([c] ++ foot (μ.eraseIdx i)) := rfl
  have m' : OkM K H ((a, M.lst [.ref c, .int x, .int y, .int z]) :: (c, .lst (cs.map D.int)) :: μ.eraseIdx i) := by
    refine ⟨by rw [fe]; exact hp.nodup_iff.mp ok.m.nd, fun p hp' => ?_⟩
    rcases List.mem_cons.mp hp' with rfl | hp'
    · exact ⟨_, e1, .cons (.ref c) (.cons (.int x) (.cons (.int y) (.cons (.int z) .nil)))⟩
    rcases List.mem_cons.mp hp' with rfl | hp'
    · exact ⟨_, e2, DenL.of_ints cs⟩
    · exact ok.m.ok p ((erase_sub μ i).subset hp')
  have st : Step μ H ((a, M.lst [.ref c, .int x, .int y, .int z]) :: (c, .lst (cs.map D.int)) :: μ.eraseIdx i) H := ⟨fun _ _ z _ => z, fun x z => by rw [fe] at z; exact .inl (hp.mem_iff.mpr z)⟩
  exact h x y z cs h1 h2 σ H (ok.step st m') Dn (fun σ' H' δ' μ' s => n σ' H' δ' μ' (st.trans s)) (fun v H' d μ' s => r v H' d μ' (st.trans s)) (fun σ' H' δ' μ' s => b σ' H' δ' μ' (st.trans s)) (fun σ' H' δ' μ' s => cc σ' H' δ' μ' (st.trans s))
theorem weak_closeL {i : Nat} {c : Addr} {xs ds : List D} {x y z : Int} {cs : List Int} (hm : μ[i]? = some (a, .ldk c)) (e1 : xs = [.ref c, .int x, .int y, .int z]) (e2 : ds = cs.map D.int) (h1 : 0 ≤ z) (h2 : cs.length ≤ 63) :
    Weak ((a, .lst xs) :: (c, .lst ds) :: μ.eraseIdx i) μ := fun K H o => by
  have hp := foot_perm hm
  have fe : foot ((a, M.lst xs) :: (c, .lst ds) :: μ.eraseIdx i) = a :: ([c] ++ foot (μ.eraseIdx i)) := rfl
  subst e1 e2
  refine ⟨⟨hp.nodup_iff.mpr (by rw [fe] at *; exact o.nd), fun p hp' => ?_⟩, fun x z => by rw [fe]; exact hp.mem_iff.mp z⟩
  obtain ⟨j, hj⟩ := List.getElem?_of_mem hp'
  by_cases cji : j = i
  · subst cji
    rw [hm] at hj
    cases hj
    obtain ⟨ks, ek, dk⟩ := o.ok _ List.mem_cons_self
    obtain ⟨vs, ev, dv⟩ := o.ok _ (List.mem_cons_of_mem _ List.mem_cons_self)
    have q2 := dv.ints
    subst q2
    have q1 : ks = [.ref c, .int x, .int y, .int z] := by
      cases dk with
      | cons a1 b1 => cases a1; cases b1 with
        | cons a2 b2 => cases a2; cases b2 with
          | cons a3 b3 => cases a3; cases b3 with
            | cons a4 b4 => cases a4; cases b4; rfl
    exact ⟨x, y, z, cs, h1, h2, by rw [← q1]; exact ek, ev⟩
  · refine o.ok p (List.mem_cons_of_mem _ (List.mem_cons_of_mem _ ?_))
    refine List.mem_eraseIdx_iff_getElem?.mpr ⟨j, cji, hj⟩
/-- such a deck is made -/
theorem weak_deckL {p q : Addr} {x y z : Int} {cs : List Int} {xs : List D} (e : xs = [.ref q, .int x, .int y, .int z]) (h1 : 0 ≤ z) (h2 : cs.length ≤ 63) : Weak ((p, .lst xs) :: (q, .lst (cs.map D.int)) :: μ) ((p, .ldk q) :: μ) :=
  weak_closeL (i := 0) (μ := (p, .ldk q) :: μ) rfl e rfl h1 h2
/-- such a deck is in sight -/
def Ld (μ : Mu) (d : Addr) : Prop := ∃ (i : Nat) (c : Addr), μ[i]? = some (d, .ldk c)
theorem Ld.here {d c : Addr} : Ld ((d, .ldk c) :: μ) d := ⟨0, c, rfl⟩
theorem Ld.cons {d : Addr} {p : Addr × M} (h : Ld μ d) : Ld (p :: μ) d := let ⟨i, c, e⟩ := h; ⟨i + 1, c, by simpa using e⟩
theorem Ld.app {d : Addr} {ν : Mu} (h : Ld μ d) : Ld (ν ++ μ) d := by
  obtain ⟨i, c, e⟩ := h
  exact ⟨ν.length + i, c, by rw [List.getElem?_append_right (by omega), Nat.add_sub_cancel_left]; exact e⟩
/-- a drawn number -/
def SpDrawL : SpD := fun ds μ P => ∃ (d : Addr) (m : Int), ds = [.ref d, .int m] ∧ Ld μ d ∧ 0 < m ∧ m < 2 ^ 62 ∧ ∀ n, 0 ≤ n → n < m → P (.int n) μ
theorem sp_drawL {d : Addr} {m : Int} {P : D → Mu → Prop} (hm : Ld μ d) (h0 : 0 < m) (h1 : m < 2 ^ 62) (q : ∀ n, 0 ≤ n → n < m → P (.int n) μ) : SpDrawL [.ref d, .int m] μ P := ⟨d, m, rfl, hm, h0, h1, q⟩
/-! ### lists -/
/-- an item of some ints at a number -/
theorem w2_ixInts {P : D → Mu → Prop} {cs : List Int} {i : Int} {xs : List D} (hm : Lk xs μ a) (e : xs = cs.map D.int) (h0 : 0 ≤ i) (h1 : i < cs.length) (q : ∀ v ∈ cs, P (.int v) μ) : W2 K (rIx K) (.ref a) (.int i) μ P := by
  subst e
  obtain ⟨j, hj⟩ := hm
  refine w2_ixO j hj h0 (by rw [List.length_map]; exact h1) fun k d hk _ => ?_
  obtain ⟨v, hv, rfl⟩ := map_int_get hk
  exact q v (List.mem_of_getElem? hv)
/-- pop(i): one of them, from behind too -/
theorem wm_popAtZ {α : Type} {f : α → D} {P : D → Mu → Prop} {es : List α} {v : Int} {j : Nat} (hm : μ[j]? = some (a, .lst (es.map f))) (h0 : -1 ≤ v) (h1 : v < es.length) (hz : es.length < 100000) (hn : 0 < es.length) (q : ∀ (k : Nat) (e : α), es[k]? = some e → es.Perm (e :: es.eraseIdx k) → ∃ μ', μ.set j (a, .lst ((es.eraseIdx k).map f)) = μ' ∧ P (f e) μ') : WM K rPopAt (.ref a) [.int v] μ P := by
  by_cases c : 0 ≤ v
  · exact wm_popAtN hm c h1 hz q
  obtain rfl : v = -1 := by omega
  intro H u vs m r rs Q k
  cases r
  cases rs with
  | cons r1 r2 =>
    cases r1; cases r2
    obtain ⟨ws, hv, hl⟩ := m.at hm
    have hx := List.getElem?_eq_getElem (l := es) (i := es.length - 1) (by omega)
    generalize es[es.length - 1]'_ = e at hx
    obtain ⟨μ', e1, q1⟩ := q _ e hx (perm_eraseIdx hx)
    obtain ⟨w, hw, rw'⟩ := hl.get (d := f e) (show (es.map f)[es.length - 1]? = some (f e) by rw [List.getElem?_map, hx]; rfl)
    have hll : ws.length = es.length := by rw [hl.length, List.length_map]
    refine ⟨_, _, _, es.length - 1, w, rfl, rfl, hv, by omega, by omega, ?_, hw, ?_⟩
    · unfold PySem.seqIndex?
      simp; omega
    · subst e1
      have e3 : (es.map f).eraseIdx (es.length - 1) = (es.eraseIdx (es.length - 1)).map f := eraseIdx_mapW _ _
      exact k _ _ _ _ (step_set (m' := .lst ((es.eraseIdx (es.length - 1)).map f)) hm rfl) (m.set (m' := .lst ((es.eraseIdx (es.length - 1)).map f)) hm rfl ⟨_, upd_same, by rw [← e3]; exact (hl.eraseIdx _).step m (step_set (m' := .lst ((es.map f).eraseIdx (es.length - 1))) hm rfl)⟩) (rw'.step m (step_set (m' := .lst ((es.eraseIdx (es.length - 1)).map f)) hm rfl)) q1
end
end Wk
namespace WkE
open PySem PySem.Spec L2
theorem k_zip {X : Cx} {K : PySem.W.Frag} {e e2 : Expr} {ta : TA} {p pos tpos : Pos} {elts : List Expr} {kk : Nat} (h : X.K = K) (hg : Gl X "zip") (hm : X.mg "zip" = none) (ha : PA X [e, e2] ta)
    (hs : starEach [e, e2] X.env = (false, eval e X.env) :: starEach [e2] X.env := by rfl) (hpl : (backTo pos (starEach [e2] X.env)).any (·.1) = false := by rfl) :
    PI X (.Tuple elts kk tpos) (.Call (.Name "zip" p) [e, e2] [] pos) (RZ.iZipA K ta) := h ▸ RZ.pi_zipA hg hm ha hs hpl
end WkE
namespace Wk
open PySem PySem.Spec L2 WkE
section
variable {K : PySem.W.Frag} {δ : Dl} {μ μ' : Mu} {ts : TS} {N B C : Dl → Mu → Prop} {R : D → Mu → Prop} {P : D → Mu → Prop} {al : TA} {a b : Addr} {xs ys : List D} {g : TG}
/-! ### zip -/
def zipD (xs ys : List D) : List D := List.zipWith (fun x y => .tup [x, y]) xs ys
theorem zipD_get {i : Nat} {d : D} (h : (zipD xs ys)[i]? = some d) : ∃ x y, xs[i]? = some x ∧ ys[i]? = some y ∧ d = .tup [x, y] := by
  unfold zipD at h
  rw [List.getElem?_zipWith] at h
  cases e1 : xs[i]? with
  | none => rw [e1] at h; simp at h
  | some x =>
    cases e2 : ys[i]? with
    | none => rw [e1, e2] at h; simp at h
    | some y => rw [e1, e2] at h; exact ⟨x, y, rfl, rfl, by simpa using h.symm⟩
def WZ (x y : D) (μ : Mu) (PI : List D → (Mu → Prop) → Mu → Prop) : Prop := (∃ xs ys, x = .tup xs ∧ y = .tup ys ∧ PI (zipD xs ys) (fun _ => True) μ) ∨
  ∃ a b xs ys, x = .ref a ∧ y = .ref b ∧ Lk xs μ a ∧ Lk ys μ b ∧ PI (zipD xs ys) (fun μ' => (a, M.lst xs) ∈ μ' ∧ (b, M.lst ys) ∈ μ') μ
theorem wi_zip {PI : List D → (Mu → Prop) → Mu → Prop} (h : WA K al δ μ fun ds μ1 => ∃ x y, ds = [x, y] ∧ WZ x y μ1 PI) : WI K (RZ.iZipA K al) δ μ PI := fun σ H ok R f =>
  h σ H ok _ fun vs H1 ds μ1 s1 m1 r1 ⟨x, y, e, h⟩ => by
    subst e
    cases r1 with
    | cons rx rr =>
    cases rr with
    | cons ry rr =>
    cases rr
    rcases h with ⟨xs, ys, rfl, rfl, p⟩ | ⟨a, b, xs, ys, rfl, rfl, ha, hb, p⟩
    · cases rx with
      | tup hx_ lx =>
      have hx := TpA.sqt hx_
      cases ry with
      | tup hy_ ly =>
        have hy := TpA.sqt hy_
        refine ⟨_, _, _, _, rfl, .inr ⟨hx, hy, f _ H1 (zipD xs ys) _ μ1 s1 m1 (fun H2 μ2 s2 m2 _ => ?_) p⟩⟩
        have hx2 := sqT_step m1 s2 hx
        have lx2 := lx.step m1 s2
        have hy2 := sqT_step m1 s2 hy
        have ly2 := ly.step m1 s2
        refine ⟨fun i hi => ⟨_, _, hx2, hy2, by rw [lx2.length, ly2.length]; unfold zipD at hi; rw [List.length_zipWith] at hi; omega⟩, fun i d hd => ?_⟩
        obtain ⟨u, v, hu, hv, rfl⟩ := zipD_get hd
        obtain ⟨wu, eu, ru⟩ := lx2.get hu
        obtain ⟨wv, ev, rv⟩ := ly2.get hv
        refine ⟨⟨_, _, wu, wv, hx2, hy2, eu, ev⟩, fun x' H' hq => ?_⟩
        obtain ⟨T, x2, y2, rfl, hT, rfl, h1, h2⟩ := hq
        have e1 := h1 _ hx2
        rw [eu] at e1
        cases e1
        have e2 := h2 _ hy2
        rw [ev] at e2
        cases e2
        exact ⟨step_new hT, m2.new hT, .tup upd_same (.cons (ru.step m2 (step_new hT)) (.cons (rv.step m2 (step_new hT)) .nil))⟩
    · cases rx
      cases ry
      obtain ⟨i1, j1⟩ := ha
      obtain ⟨i2, j2⟩ := hb
      obtain ⟨vs1, hv1, hl1⟩ := m1.at j1
      obtain ⟨vs2, hv2, hl2⟩ := m1.at j2
      refine ⟨_, _, _, _, rfl, .inl ⟨.inl (.inl hv1), .inl (.inl hv2), f _ H1 (zipD xs ys) _ μ1 s1 m1 (fun H2 μ2 s2 m2 g => ?_) p⟩⟩
      obtain ⟨g1, g2⟩ := g
      obtain ⟨ws, hw, lx2⟩ := m2.ok _ g1
      obtain ⟨us, hw2, ly2⟩ := m2.ok _ g2
      refine ⟨fun i hi => ⟨_, _, .inl (.inl hw), .inl (.inl hw2), by rw [lx2.length, ly2.length]; unfold zipD at hi; rw [List.length_zipWith] at hi; omega⟩, fun i d hd => ?_⟩
      obtain ⟨u, v, hu, hv, rfl⟩ := zipD_get hd
      obtain ⟨wu, eu, ru⟩ := lx2.get hu
      obtain ⟨wv, ev, rv⟩ := ly2.get hv
      refine ⟨⟨_, _, wu, wv, .inl (.inl hw), .inl (.inl hw2), eu, ev⟩, fun x' H' hq => ?_⟩
      obtain ⟨T, x2, y2, rfl, hT, rfl, h1, h2⟩ := hq
      have e1 := h1 _ (.inl (.inl hw))
      rw [eu] at e1
      cases e1
      have e2 := h2 _ (.inl (.inl hw2))
      rw [ev] at e2
      cases e2
      exact ⟨step_new hT, m2.new hT, .tup upd_same (.cons (ru.step m2 (step_new hT)) (.cons (rv.step m2 (step_new hT)) .nil))⟩
theorem zip_intro {x y : D} {PI : List D → (Mu → Prop) → Mu → Prop} (h : WZ x y μ PI) : ∃ x' y', [x, y] = [x', y'] ∧ WZ x' y' μ PI := ⟨x, y, rfl, h⟩
theorem zipD_map {α β : Type} {f : α → D} {h : β → D} {us : List α} {ws : List β} : zipD (us.map f) (ws.map h) = (us.zip ws).map fun p => .tup [f p.1, h p.2] := by
  unfold zipD
  rw [List.zipWith_map, List.zip, List.map_zipWith]
theorem wz_T {α β : Type} {f : α → D} {h : β → D} {us : List α} {ws : List β} {PI : List D → (Mu → Prop) → Mu → Prop} (q : PI ((us.zip ws).map fun p => .tup [f p.1, h p.2]) (fun _ => True) μ) : WZ (.tup (us.map f)) (.tup (ws.map h)) μ PI :=
  .inl ⟨_, _, rfl, rfl, by rw [zipD_map]; exact q⟩
theorem wz_L {α β : Type} {f : α → D} {h : β → D} {us : List α} {ws : List β} {PI : List D → (Mu → Prop) → Mu → Prop} (ha : Lk (us.map f) μ a) (hb : Lk (ws.map h) μ b) (q : PI ((us.zip ws).map fun p => .tup [f p.1, h p.2]) (fun μ' => (a, M.lst (us.map f)) ∈ μ' ∧ (b, M.lst (ws.map h)) ∈ μ') μ) : WZ (.ref a) (.ref b) μ PI :=
  .inr ⟨_, _, _, _, rfl, rfl, ha, hb, by rw [zipD_map]; exact q⟩
/-! ### a loop over two items -/
theorem for2 {d1 d2 : D} {G : Mu → Prop} {μ1 : Mu} (I : Dl → Mu → Prop) (I2 : Dl → Mu → Prop) (hG : ∀ μ', G μ')
    (h1 : WG K g d1 δ μ1 fun δ2 μ2 => S4 K ts δ2 μ2 (fun δ3 μ3 => ∃ δ4 μ4, LeD δ4 δ3 ∧ Weak μ3 μ4 ∧ I δ4 μ4) R N (fun δ3 μ3 => ∃ δ4 μ4, LeD δ4 δ3 ∧ Weak μ3 μ4 ∧ I δ4 μ4))
    (h2 : ∀ δ' μ', I δ' μ' → WG K g d2 δ' μ' fun δ2 μ2 => S4 K ts δ2 μ2 (fun δ3 μ3 => ∃ δ4 μ4, LeD δ4 δ3 ∧ Weak μ3 μ4 ∧ I2 δ4 μ4) R N (fun δ3 μ3 => ∃ δ4 μ4, LeD δ4 δ3 ∧ Weak μ3 μ4 ∧ I2 δ4 μ4))
    (hd : ∀ δ' μ', I2 δ' μ' → N δ' μ') : ForP K δ g ts N R [d1, d2] G μ1 := by
  refine ⟨fun i δ' μ' => match i with | 0 => δ' = δ ∧ μ' = μ1 | 1 => I δ' μ' | _ => I2 δ' μ', ⟨δ, μ1, leD_refl δ, Weak.refl, rfl, rfl⟩, fun _ _ _ _ => hG _, fun i d δ' μ' hd' h => ?_, fun δ' μ' h => hd δ' μ' h⟩
  match i, hd', h with
  | 0, hd', h =>
    obtain ⟨rfl, rfl⟩ := h
    cases hd'
    exact h1
  | 1, hd', h =>
    cases hd'
    exact h2 δ' μ' h
  | i + 2, hd', h => simp at hd'
/-! ### dicts with numbers for keys -/
theorem valD_put {k k' : Key} {d : D} : ∀ {kds : List (Key × D)}, valD (putD kds k d) k' = if k = k' then some d else valD kds k' := by
  intro kds
  have app : ∀ l : List (Key × D), (∀ p ∈ l, p.1 ≠ k) → valD (l ++ [(k, d)]) k' = if k = k' then some d else valD l k' := by
    intro l
    induction l with
    | nil =>
      intro _
      by_cases c : k = k'
      · subst c; rw [if_pos rfl]; exact valD_here
      · rw [if_neg c]; unfold valD; simp [c]
    | cons p l ih =>
      intro hp
      have ih := ih fun q hq => hp q (List.mem_cons_of_mem _ hq)
      by_cases c : p.1 = k'
      · have hk : k ≠ k' := fun e => hp p List.mem_cons_self (by rw [c, e])
        rw [if_neg hk]
        unfold valD
        rw [List.cons_append, List.find?_cons, List.find?_cons, decide_eq_true c]
      · unfold valD at *
        rw [List.cons_append, List.find?_cons, List.find?_cons, decide_eq_false c]
        exact ih
  have mp : ∀ l : List (Key × D), (∃ p ∈ l, p.1 = k) → valD (l.map fun kv => if kv.1 = k then (kv.1, d) else kv) k' = if k = k' then some d else valD l k' := by
    intro l
    have off : k ≠ k' → ∀ l : List (Key × D), valD (l.map fun kv => if kv.1 = k then (kv.1, d) else kv) k' = valD l k' := by
      intro hk l
      induction l with
      | nil => rfl
      | cons p l ih =>
        unfold valD at *
        rw [List.map_cons, List.find?_cons, List.find?_cons]
        by_cases c : p.1 = k
        · rw [if_pos c, decide_eq_false (show ¬ p.1 = k' from fun e => hk (by rw [← c, e]))]
          exact ih
        · rw [if_neg c]
          by_cases c2 : p.1 = k'
          · rw [decide_eq_true c2]
          · rw [decide_eq_false c2]; exact ih
    by_cases hk : k = k'
    · subst hk
      rw [if_pos rfl]
      induction l with
      | nil => rintro ⟨p, hp, _⟩; cases hp
      | cons p l ih =>
        intro hp
        unfold valD at *
        rw [List.map_cons, List.find?_cons]
        by_cases c : p.1 = k
        · rw [if_pos c]
          simp only [c, decide_true]
          rfl
        · rw [if_neg c, decide_eq_false c]
          refine ih ?_
          obtain ⟨q, hq, e⟩ := hp
          rcases List.mem_cons.mp hq with rfl | hq
          · exact absurd e c
          · exact ⟨q, hq, e⟩
    · intro _
      rw [if_neg hk]
      exact off hk l
  unfold putD
  split
  · next h =>
    rw [List.any_eq_true] at h
    obtain ⟨p, hp, e⟩ := h
    exact mp _ ⟨p, hp, by simpa using e⟩
  · next h =>
    refine app _ fun p hp e => h ?_
    rw [List.any_eq_true]
    exact ⟨p, hp, by simpa using e⟩
theorem putD_length {k : Key} {d : D} {kds : List (Key × D)} : (putD kds k d).length ≤ kds.length + 1 := by
  unfold putD
  split
  · rw [List.length_map]; omega
  · rw [List.length_append]; exact Nat.le_refl _
/-- a dict from numbers, known by what it tells -/
def DicN (kds : List (Key × D)) (f : Nat → Option D) : Prop := ∀ k : Nat, valD kds (.inl (k : Int)) = f k
theorem DicN.nil : DicN [] fun _ => none := fun _ => rfl
theorem DicN.put {kds : List (Key × D)} {f : Nat → Option D} (h : DicN kds f) (k : Nat) (d : D) : DicN (putD kds (.inl (k : Int)) d) fun j => if k = j then some d else f j := fun j => by
  show _ = if k = j then some d else f j
  rw [valD_put]
  by_cases c : k = j
  · subst c; rw [if_pos rfl, if_pos rfl]
  · rw [if_neg c, if_neg (fun e => c (by have := Sum.inl.inj e; omega))]; exact h j
theorem Ck.app {ds : List (Key × D)} {ν : Mu} (h : Ck ds μ a) : Ck ds (ν ++ μ) a := by
  obtain ⟨i, e⟩ := h
  exact ⟨ν.length + i, by rw [List.getElem?_append_right (by omega), Nat.add_sub_cancel_left]; exact e⟩
theorem s_dputK {tv td ty : TE} (h : W K tv δ μ fun d μ1 => W K td δ μ1 fun x μ2 => W K ty δ μ2 fun y μ3 => ∃ (a : Addr) (j : Nat) (kds : List (Key × D)) (k : Key) (kds' : List (Key × D)) (μ4 : Mu), x = .ref a ∧ y = kD k ∧ μ3[j]? = some (a, M.dic kds) ∧ kds.length < sizeLine ∧ putD kds k d = kds' ∧ μ3.set j (a, .dic kds') = μ4 ∧ N δ μ4) : S4 K (sDPut td ty tv) δ μ N R B C :=
  s_dput (h.imp fun d μ1 h => h.imp fun x μ2 h => h.imp fun y μ3 ⟨a, j, kds, k, kds', μ4, e1, e2, e3, e4, e5, e6, q⟩ => ⟨a, j, kds, k, kds', e1, e2, e3, e4, e5, by rw [e6]; exact q⟩)
theorem dput_N {Q : Mu → Prop} {kds : List (Key × D)} {k j : Nat} {d : D} (hm : μ[j]? = some (a, M.dic kds)) (hz : kds.length < 100000) (h : μ.set j (a, .dic (putD kds (.inl (k : Int)) d)) = μ') (q : Q μ') :
    ∃ (a' : Addr) (j' : Nat) (kds1 : List (Key × D)) (k' : Key) (kds' : List (Key × D)) (μ4 : Mu), D.ref a = .ref a' ∧ D.int (k : Int) = kD k' ∧ μ[j']? = some (a', M.dic kds1) ∧ kds1.length < sizeLine ∧ putD kds1 k' d = kds' ∧ μ.set j' (a', .dic kds') = μ4 ∧ Q μ4 :=
  ⟨a, j, kds, .inl k, _, _, rfl, rfl, hm, lt_size hz, rfl, h, q⟩
theorem dget_N {Q : D → Prop} {kds : List (Key × D)} {f : Nat → Option D} {k : Nat} {d : D} (hm : Ck kds μ a) (hf : DicN kds f) (hv : f k = some d) (q : Q d) : ∃ (a' : Addr) (j : Nat) (kds' : List (Key × D)) (k' : Key) (d' : D), D.ref a = .ref a' ∧ D.int (k : Int) = kD k' ∧ μ[j]? = some (a', M.dic kds') ∧ valD kds' k' = some d' ∧ Q d' := by
  obtain ⟨j, hj⟩ := hm
  exact ⟨a, j, kds, .inl k, d, rfl, rfl, hj, by rw [hf k]; exact hv, q⟩
theorem din_t {X Y : Prop} {kds : List (Key × D)} {f : Nat → Option D} {k : Nat} {d : D} (hm : Ck kds μ a) (hf : DicN kds f) (hv : f k = some d) (q : X) : ∃ (a' : Addr) (j : Nat) (kds' : List (Key × D)) (k' : Key), D.ref a = .ref a' ∧ D.int (k : Int) = kD k' ∧ μ[j]? = some (a', M.dic kds') ∧ ∃ b, D.bl (valD kds' k').isSome = .bl b ∧ (b = true → X) ∧ (b = false → Y) := by
  obtain ⟨j, hj⟩ := hm
  exact ⟨a, j, kds, .inl k, rfl, rfl, hj, true, by rw [hf k, hv]; rfl, fun _ => q, fun z => nomatch z⟩
theorem din_f {X Y : Prop} {kds : List (Key × D)} {f : Nat → Option D} {k : Nat} (hm : Ck kds μ a) (hf : DicN kds f) (hv : f k = none) (q : Y) : ∃ (a' : Addr) (j : Nat) (kds' : List (Key × D)) (k' : Key), D.ref a = .ref a' ∧ D.int (k : Int) = kD k' ∧ μ[j]? = some (a', M.dic kds') ∧ ∃ b, D.bl (valD kds' k').isSome = .bl b ∧ (b = true → X) ∧ (b = false → Y) := by
  obtain ⟨j, hj⟩ := hm
  exact ⟨a, j, kds, .inl k, rfl, rfl, hj, false, by rw [hf k, hv]; rfl, fun z => (nomatch z), fun _ => q⟩
/-! ### tuples put together -/
theorem w2_addTmA {α : Type} {f : α → D} {us ws : List α} {P : D → Mu → Prop} (hz : us.length + ws.length ≤ sizeLine) (q : P (.tup ((us ++ ws).map f)) μ) : W2 K (rAddG K) (.tup (us.map f)) (.tup (ws.map f)) μ P := w2_addTA (by rw [List.length_map, List.length_map]; exact hz) (by rw [← List.map_append]; exact q)
theorem w2_addTi1 {us : List Int} {i : Int} {P : D → Mu → Prop} (hz : us.length + 1 ≤ sizeLine) (q : P (.tup ((us ++ [i]).map D.int)) μ) : W2 K (rAddG K) (.tup (us.map D.int)) (.tup [.int i]) μ P := w2_addTmA (ws := [i]) hz q
/-- a known part of a list -/
def SlE {α : Type} (es : List α) (lo hi : Int) (sub : List α) : Prop := (es.drop (HT.sIx es.length 0 (some lo))).take (HT.sIx es.length es.length (some hi) - HT.sIx es.length 0 (some lo)) = sub
theorem wsl_Kx {K : PySem.W.Frag} {P : D → Mu → Prop} {α : Type} {f : α → D} {es sub : List α} {lo hi : Int} {a : Addr} {μ : Mu} (hm : Lk (es.map f) μ a) (hx : SlE es lo hi sub) (q : ∀ p, P (.ref p) ((p, .lst (sub.map f)) :: μ)) : WSl K (rSlG K) (.ref a) (some lo) (some hi) μ P := by
  refine wsl_K hm fun p => ?_
  have e : cutD (es.map f) (some lo) (some hi) = (((es.drop (HT.sIx es.length 0 (some lo))).take (HT.sIx es.length es.length (some hi) - HT.sIx es.length 0 (some lo)))).map f := by
    unfold cutD
    rw [List.length_map, List.map_take, List.map_drop]
  rw [e, show _ = sub from hx]
  exact q p
/-- a part of a list -/
theorem wsl_Ksub {K : PySem.W.Frag} {P : D → Mu → Prop} {α : Type} {f : α → D} {es : List α} {lo hi : Int} {a : Addr} {μ : Mu} (hm : Lk (es.map f) μ a) (q : ∀ p (sub : List α), sub.length ≤ es.length → (∀ x ∈ sub, x ∈ es) → P (.ref p) ((p, .lst (sub.map f)) :: μ)) : WSl K (rSlG K) (.ref a) (some lo) (some hi) μ P := by
  refine wsl_K hm fun p => ?_
  have e : cutD (es.map f) (some lo) (some hi) = (((es.drop (HT.sIx es.length 0 (some lo))).take (HT.sIx es.length es.length (some hi) - HT.sIx es.length 0 (some lo)))).map f := by
    unfold cutD
    rw [List.length_map, List.map_take, List.map_drop]
  rw [e]
  exact q p _ (by rw [List.length_take, List.length_drop]; omega) fun x hx => List.mem_of_mem_drop (List.mem_of_mem_take hx)
end
end Wk

set_option Elab.async false
set_option linter.all false
set_option maxRecDepth 100000
namespace Wk
open PySem PySem.Spec L2 WkE
section
variable {K : PySem.W.Frag} {δ : Dl} {μ μ' : Mu} {ts : TS} {N B C : Dl → Mu → Prop} {R : D → Mu → Prop} {a : Addr}
/-! ### a list of numbers that is out of sight -/
theorem s_openH {i : Nat} {I : List Int → Prop} (hm : μ[i]? = some (a, .hid I)) (h : ∀ ns : List Int, I ns → S4 K ts δ ((a, .lst (ns.map D.int)) :: μ.eraseIdx i) N R B C) : S4 K ts δ μ N R B C := fun σ H ok Dn n r b cc => by
  obtain ⟨ns, h1, e1⟩ := ok.m.at hm
  have hp := foot_perm hm
  have fe : foot ((a, M.lst (ns.map D.int)) :: μ.eraseIdx i) = a :: ([] ++ foot (μ.eraseIdx i)) := rfl
  have m' : OkM K H ((a, M.lst (ns.map D.int)) :: μ.eraseIdx i) := by
    refine ⟨by rw [fe]; exact hp.nodup_iff.mp ok.m.nd, fun p hp' => ?_⟩
    rcases List.mem_cons.mp hp' with rfl | hp'
    · exact ⟨_, e1, DenL.of_ints ns⟩
    · exact ok.m.ok p ((erase_sub μ i).subset hp')
  have st : Step μ H ((a, M.lst (ns.map D.int)) :: μ.eraseIdx i) H := ⟨fun _ _ z _ => z, fun x z => by rw [fe] at z; exact .inl (hp.mem_iff.mpr z)⟩
  exact h ns h1 σ H (ok.step st m') Dn (fun σ' H' δ' μ' s => n σ' H' δ' μ' (st.trans s)) (fun v H' d μ' s => r v H' d μ' (st.trans s)) (fun σ' H' δ' μ' s => b σ' H' δ' μ' (st.trans s)) (fun σ' H' δ' μ' s => cc σ' H' δ' μ' (st.trans s))
theorem weak_closeH {i : Nat} {I : List Int → Prop} {xs : List D} {ns : List Int} (hm : μ[i]? = some (a, .hid I)) (e1 : xs = ns.map D.int) (h1 : I ns) :
    Weak ((a, .lst xs) :: μ.eraseIdx i) μ := fun K H o => by
  have hp := foot_perm hm
  have fe : foot ((a, M.lst xs) :: μ.eraseIdx i) = a :: ([] ++ foot (μ.eraseIdx i)) := rfl
  subst e1
  refine ⟨⟨hp.nodup_iff.mpr (by rw [fe] at *; exact o.nd), fun p hp' => ?_⟩, fun x z => by rw [fe]; exact hp.mem_iff.mp z⟩
  obtain ⟨j, hj⟩ := List.getElem?_of_mem hp'
  by_cases cji : j = i
  · subst cji
    rw [hm] at hj
    cases hj
    obtain ⟨ks, ek, dk⟩ := o.ok _ List.mem_cons_self
    have q2 := dk.ints
    subst q2
    exact ⟨ns, h1, ek⟩
  · refine o.ok p (List.mem_cons_of_mem _ ?_)
    refine List.mem_eraseIdx_iff_getElem?.mpr ⟨j, cji, hj⟩
theorem weak_deckH {p : Addr} {I : List Int → Prop} {ns : List Int} {xs : List D} (e : xs = ns.map D.int) (h : I ns) : Weak ((p, .lst xs) :: μ) ((p, .hid I) :: μ) :=
  weak_closeH (i := 0) (μ := (p, .hid I) :: μ) rfl e h
def Hd (I : List Int → Prop) (μ : Mu) (d : Addr) : Prop := ∃ i : Nat, μ[i]? = some (d, .hid I)
theorem Hd.here {I : List Int → Prop} {d : Addr} : Hd I ((d, .hid I) :: μ) d := ⟨0, rfl⟩
theorem Hd.cons {I : List Int → Prop} {d : Addr} {p : Addr × M} (h : Hd I μ d) : Hd I (p :: μ) d := let ⟨i, e⟩ := h; ⟨i + 1, by simpa using e⟩
theorem Hd.app {I : List Int → Prop} {d : Addr} {ν : Mu} (h : Hd I μ d) : Hd I (ν ++ μ) d := by
  obtain ⟨i, e⟩ := h
  exact ⟨ν.length + i, by rw [List.getElem?_append_right (by omega), Nat.add_sub_cancel_left]; exact e⟩
/-! ### a list behind its cells, out of sight -/
theorem s_openC {i : Nat} {I : List Int → Prop} {c : Addr} (hm : μ[i]? = some (a, .lkc I c)) (h : ∀ ns cs : List Int, I ns → cs.length ≤ 63 → S4 K ts δ ((a, .lst (.ref c :: ns.map D.int)) :: (c, .lst (cs.map D.int)) :: μ.eraseIdx i) N R B C) : S4 K ts δ μ N R B C := fun σ H ok Dn n r b cc => by
  obtain ⟨ns, cs, h1, h2, e1, e2⟩ := ok.m.at hm
  have hp := foot_perm hm
  have fe : foot ((a, M.lst (.ref c :: ns.map D.int)) :: (c, .lst (cs.map D.int)) :: μ.eraseIdx i) = a :: ([c] ++ foot (μ.eraseIdx i)) := rfl
  have m' : OkM K H ((a, M.lst (.ref c :: ns.map D.int)) :: (c, .lst (cs.map D.int)) :: μ.eraseIdx i) := by
    refine ⟨by rw [fe]; exact hp.nodup_iff.mp ok.m.nd, fun p hp' => ?_⟩
    rcases List.mem_cons.mp hp' with rfl | hp'
    · exact ⟨_, e1, .cons (.ref c) (DenL.of_ints ns)⟩
    rcases List.mem_cons.mp hp' with rfl | hp'
    · exact ⟨_, e2, DenL.of_ints cs⟩
    · exact ok.m.ok p ((erase_sub μ i).subset hp')
  have st : Step μ H ((a, M.lst (.ref c :: ns.map D.int)) :: (c, .lst (cs.map D.int)) :: μ.eraseIdx i) H := ⟨fun _ _ z _ => z, fun x z => by rw [fe] at z; exact .inl (hp.mem_iff.mpr z)⟩
  exact h ns cs h1 h2 σ H (ok.step st m') Dn (fun σ' H' δ' μ' s => n σ' H' δ' μ' (st.trans s)) (fun v H' d μ' s => r v H' d μ' (st.trans s)) (fun σ' H' δ' μ' s => b σ' H' δ' μ' (st.trans s)) (fun σ' H' δ' μ' s => cc σ' H' δ' μ' (st.trans s))
theorem weak_closeC {i : Nat} {I : List Int → Prop} {c : Addr} {xs ds : List D} {ns cs : List Int} (hm : μ[i]? = some (a, .lkc I c)) (e1 : xs = .ref c :: ns.map D.int) (e2 : ds = cs.map D.int) (h1 : I ns) (h2 : cs.length ≤ 63) :
    Weak ((a, .lst xs) :: (c, .lst ds) :: μ.eraseIdx i) μ := fun K H o => by
  have hp := foot_perm hm
  have fe : foot ((a, M.lst xs) :: (c, .lst ds) :: μ.eraseIdx i) = a :: ([c] ++ foot (μ.eraseIdx i)) := rfl
  subst e1 e2
  refine ⟨⟨hp.nodup_iff.mpr (by rw [fe] at *; exact o.nd), fun p hp' => ?_⟩, fun x z => by rw [fe]; exact hp.mem_iff.mp z⟩
  obtain ⟨j, hj⟩ := List.getElem?_of_mem hp'
  by_cases cji : j = i
  · subst cji
    rw [hm] at hj
    cases hj
    obtain ⟨ks, ek, dk⟩ := o.ok _ List.mem_cons_self
    obtain ⟨vs, ev, dv⟩ := o.ok _ (List.mem_cons_of_mem _ List.mem_cons_self)
    have q2 := dv.ints
    subst q2
    cases dk with
    | cons a1 b1 =>
      cases a1
      have q3 := b1.ints
      subst q3
      exact ⟨ns, cs, h1, h2, ek, ev⟩
  · refine o.ok p (List.mem_cons_of_mem _ (List.mem_cons_of_mem _ ?_))
    refine List.mem_eraseIdx_iff_getElem?.mpr ⟨j, cji, hj⟩
theorem weak_deckC {p q : Addr} {I : List Int → Prop} {ns cs : List Int} {xs : List D} (e : xs = .ref q :: ns.map D.int) (h1 : I ns) (h2 : cs.length ≤ 63) : Weak ((p, .lst xs) :: (q, .lst (cs.map D.int)) :: μ) ((p, .lkc I q) :: μ) :=
  weak_closeC (i := 0) (μ := (p, .lkc I q) :: μ) rfl e rfl h1 h2
def Cd (I : List Int → Prop) (μ : Mu) (d : Addr) : Prop := ∃ (i : Nat) (c : Addr), μ[i]? = some (d, .lkc I c)
theorem Cd.here {I : List Int → Prop} {d c : Addr} : Cd I ((d, .lkc I c) :: μ) d := ⟨0, c, rfl⟩
theorem Cd.cons {I : List Int → Prop} {d : Addr} {p : Addr × M} (h : Cd I μ d) : Cd I (p :: μ) d := let ⟨i, c, e⟩ := h; ⟨i + 1, c, by simpa using e⟩
theorem Cd.app {I : List Int → Prop} {d : Addr} {ν : Mu} (h : Cd I μ d) : Cd I (ν ++ μ) d := by
  obtain ⟨i, c, e⟩ := h
  exact ⟨ν.length + i, c, by rw [List.getElem?_append_right (by omega), Nat.add_sub_cancel_left]; exact e⟩
end
/-! ### xs[k] += e -/
def rGetL (K : PySem.W.Frag) : R2 := rIxL K
theorem get_list {X : Cx} {K : PySem.W.Frag} (hK : X.K = K) : PGet X (rGetL K) := by
  subst hK
  intro pins s σ H x y v u Q I rx ry h
  obtain ⟨p, xs, i, z, rfl, rfl, hq, he, q⟩ := h
  cases rx
  obtain ⟨t, rfl⟩ := ry
  obtain ⟨its, r, pl, hz⟩ := I.list hq
  obtain ⟨j, h1, h2, h3, h4, h5⟩ := atI_get he
  obtain ⟨w, ew, rw'⟩ := r.get h2
  have hl := r.length
  have hn := line63
  have fin : EP X pins σ Q w s := ⟨z, H, I, rw', q⟩
  by_cases h0 : 0 ≤ i
  · have hj : i.toNat = j := by
      rw [seqIndex_of h0 h5] at h1
      exact Option.some.inj h1
    exact wpAny_getItem_list pl.isList h0 (by omega) (by rw [hj]; simpa using ew) fin
  · have hj : (i + (its.toArray.size : Int)).toNat = j := by
      rw [seqIndex_neg (by omega) h4] at h1
      rw [List.size_toArray, ← hl]
      exact Option.some.inj h1
    exact wpAny_getItem_list_neg pl.isList (by omega) (by rw [List.size_toArray] <;> omega) (by omega) (by rw [hj]; simpa using ew) fin
def tAugL (K : PySem.W.Frag) (to ti te : TE) (tip : TIp) : TS := tAugS to ti te (rGetL K) tip rSetL
theorem ps_augL {X : Cx} {K : PySem.W.Frag} (hK : X.K = K) {o i e : Expr} {to ti te : TE} {tip : TIp} {op : Operator} {pos tpos : Pos} (ho : PE X o to) (hi : PE X i ti) (he : PE X e te) (hp : PIp X op tip)
    (ha : ∀ ov iv new, augStore i ov iv new = (do holding [new, ov, iv] (setItem ov iv new); release [new, ov, iv] []; pure .next) := by intros; rfl) : PS X (.AugAssign (.Subscript o i tpos) op e pos) (tAugL K to ti te tip) :=
  ps_augS ho hi (get_list hK) he hp set_list ha
section
variable {K : PySem.W.Frag} {δ : Dl} {μ μ' : Mu} {N B C : Dl → Mu → Prop} {R : D → Mu → Prop} {to ti te : TE} {tip : TIp}
def AugQ (N : Dl → Mu → Prop) (δ : Dl) (a : Addr) (n : Int) (z : D) (μ5 : Mu) : Prop := ∃ (j : Nat) (xs : List D) (k : Nat) (μ6 : Mu), μ5[j]? = some (a, M.lst xs) ∧ ixN xs.length n = some k ∧ μ5.set j (a, .lst (xs.set k z)) = μ6 ∧ N δ μ6
def AugP (K : PySem.W.Frag) (δ : Dl) (te : TE) (tip : TIp) (N : Dl → Mu → Prop) (o i : D) (μ2 : Mu) : Prop := ∃ (a : Addr) (j : Nat) (xs : List D) (n : Int) (d : D), o = .ref a ∧ i = .int n ∧ μ2[j]? = some (a, M.lst xs) ∧ atI xs n = some d ∧
  W K te δ μ2 fun y μ4 => W2 K tip d y μ4 fun z μ5 => AugQ N δ a n z μ5
theorem s_augL (h : W K to δ μ fun o μ1 => W K ti δ μ1 fun i μ2 => AugP K δ te tip N o i μ2) : S4 K (tAugL K to ti te tip) δ μ N R B C := fun σ H ok Dn n r b c =>
  h σ H ok _ fun o H1 do1 μ1 s1 m1 r1 h1 => h1 σ H1 (ok.step s1 m1) _ fun i H2 di μ2 s2 m2 r2 ⟨a, j, xs, nn, d, e1, e2, hm, hk, q⟩ => by
    subst e1 e2
    cases r1
    cases r2
    obtain ⟨ws, hv, hl⟩ := m2.at hm
    obtain ⟨v, hv2, rv⟩ := at_den hl hk
    refine ⟨_, _, _, v, rfl, rfl, .inl (.inl hv), hv2, ?_⟩
    refine q σ H2 (ok.step (s1.trans s2) m2) _ fun y H4 dy μ4 s4 m4 r4 q4 => ?_
    refine q4 H4 v y m4 (rv.step m2 s4) r4 _ fun z H5 dz μ5 s5 m5 r5 ⟨j', xs', k, μ6, hm5, hk5, e6, q6⟩ => ?_
    subst e6
    obtain ⟨ws', hv', hl'⟩ := m5.at hm5
    have st : Step μ5 H5 (μ5.set j' (a, .lst (xs'.set k dz))) (upd H5 a (.lst (ws'.set k z))) := step_set hm5 rfl
    have s12 := (((s1.trans s2).trans s4).trans s5)
    refine ⟨_, _, _, k, rfl, rfl, hv', by rw [hl'.length]; exact hk5, ?_⟩
    exact n σ _ δ _ (s12.trans st) ((ok.step s12 m5).step st (m5.set hm5 rfl ⟨_, upd_same, (DenL.set r5 k hl').step m5 st⟩)) q6
theorem aug_in {α : Type} {f : α → D} {es : List α} {e : α} {a : Addr} {k : Nat} {μ2 : Mu} (hm : Lk (es.map f) μ2 a) (hk : es[k]? = some e) (q : W K te δ μ2 fun y μ4 => W2 K tip (f e) y μ4 fun z μ5 => AugQ N δ a (k : Int) z μ5) : AugP K δ te tip N (.ref a) (.int (k : Nat)) μ2 := by
  obtain ⟨j, hj⟩ := hm
  refine ⟨a, j, _, _, f e, rfl, rfl, hj, ?_, q⟩
  have hl : k < (es.map f).length := by rw [List.length_map]; exact (List.getElem?_eq_some_iff.mp hk).1
  unfold atI ixN
  rw [if_pos (by omega), if_pos (by omega)]
  show (es.map f)[(k : Int).toNat]? = _
  rw [Int.toNat_natCast, List.getElem?_map, hk]; rfl
theorem aug_out {xs : List D} {a : Addr} {j k : Nat} {z : D} {μ5 μ6 : Mu} (hm : μ5[j]? = some (a, M.lst xs)) (hk : k < xs.length) (h : μ5.set j (a, .lst (xs.set k z)) = μ6) (q : N δ μ6) : AugQ N δ a (k : Int) z μ5 := by
  refine ⟨j, xs, k, μ6, hm, ?_, h, q⟩
  unfold ixN
  rw [if_pos (by omega), if_pos (by omega), Int.toNat_natCast]
theorem w2_ipI {f : Int → Int → Int} {i j : Int} {P : D → Mu → Prop} (q : P (.int (f i j)) μ) : W2 K (ipI f) (.int i) (.int j) μ P := w2_i (f := f) q
/-! ### divmod(n, k)[i] -/
theorem k_divmod {X : Cx} {K : PySem.W.Frag} (_h : X.K = K) : CallR X (.builtin "divmod") (fun xs H Q => ∃ i j, xs = [.int i, .int j] ∧ CDivP i j ∧ ∀ p, H p = none → Q (.ref p) (upd H p (.tup [.int (i / j), .int (i % j)]))) := call_divmodW
theorem wc_divmod {i j : Int} {P : D → Mu → Prop} (h : CDivP i j) (q : P (.tup [.int (i / j), .int (i % j)]) μ) : WC K (fun xs H Q => ∃ i j, xs = [V.int i, V.int j] ∧ CDivP i j ∧ ∀ p, H p = none → Q (.ref p) (upd H p (.tup [.int (i / j), .int (i % j)]))) [.int i, .int j] μ P := fun H vs m r Q k => by
  have e := DenL.ints (ns := [i, j]) r
  subst e
  refine ⟨i, j, rfl, h, fun p hp => ?_⟩
  have st : Step μ H μ (upd H p (.tup [.int (i / j), .int (i % j)])) := step_new hp
  exact k _ _ _ μ st (m.new hp) (.tup upd_same (.cons (.int _) (.cons (.int _) .nil))) q
theorem cdivp_small {i j : Int} (hj : 0 < j) (h1 : -(2 ^ 200) < i) (h2 : i < 2 ^ 200) : CDivP i j :=
  divp_ok hj (Nat.le_trans (PyProof.Rows.intBits_le (k := 200) (by omega)) (by omega))
end
end Wk

set_option Elab.async false
set_option linter.all false
set_option maxRecDepth 100000
namespace WkE
open PySem PySem.Spec L2 PyProof.Rows
/-! what is walked: a list or a tuple -/
section
variable {X : Cx} {tg : Expr}
def iSeqU (K : PySem.W.Frag) (tl : TE) : TI := fun σ H R => tl σ H fun x H1 => ∃ a, x = .ref a ∧ (((∃ xs, SqL K H1 a xs) ∧ R (Itl K a) H1) ∨ ((∃ xs, SqT K H1 a xs) ∧ R (Itt K a) H1))
theorem pi_seqU {l : Expr} {tl : TE} (hl : PE X l tl) : PI X tg l (iSeqU X.K tl) := by
  refine ⟨fun pins s σ H R I h => ?_⟩
  refine thn (hl.run pins s σ H _ I h) fun v s1 ⟨x, H1, I1, r1, q1⟩ => ?_
  obtain ⟨a, e, q1⟩ := q1
  subst e
  cases r1
  rcases q1 with ⟨⟨xs, hq⟩, q⟩ | ⟨⟨xs, hq⟩, q⟩
  · obtain ⟨its, rv, p, hz⟩ := I1.list hq
    refine wpAny_pyIter_list p.isList ?_
    refine ⟨s1.heap.objs.size, [s1.heap.objs.size], _, _, H1, rfl, I1.kept (t' := s1.toks) fun b o e => Heap.get?_push_of_some _ e, turn_list a _, ⟨_, Heap.get?_push_size _ rfl, rfl, rfl⟩, fun b hb => ?_, q⟩
    have e : b = s1.heap.objs.size := by simpa using hb
    subst e
    exact I1.fpOk (Nat.le_refl _) (I1.hok.fresh (Nat.le_refl _))
  · obtain ⟨its, rv, p, hz⟩ := I1.tuple hq
    refine wpAny_pyIter_tuple (show s1.heap.IsTuple a its.toArray from p) ?_
    refine ⟨s1.heap.objs.size, [s1.heap.objs.size], _, _, H1, rfl, I1.kept (t' := s1.toks) fun b o e => Heap.get?_push_of_some _ e, turn_tuple a _, ⟨_, Heap.get?_push_size _ rfl, rfl, rfl⟩, fun b hb => ?_, q⟩
    have e : b = s1.heap.objs.size := by simpa using hb
    subst e
    exact I1.fpOk (Nat.le_refl _) (I1.hok.fresh (Nat.le_refl _))
theorem k_iU {K : PySem.W.Frag} (h : X.K = K) {l : Expr} {tl : TE} (hl : PE X l tl) : PI X tg l (iSeqU K tl) := h ▸ pi_seqU hl
def iEnumU (K : PySem.W.Frag) (ta : TA) : TI := fun σ H R => ta σ H fun vs H1 => ∃ a, vs = [.ref a] ∧ ((∃ xs, SqL K H1 a xs ∧ R (Ite K a) H1) ∨ (∃ xs, SqT K H1 a xs ∧ R (IteT K a) H1))
theorem pi_enumU {e : Expr} {ta : TA} {p pos tpos : Pos} {elts : List Expr} {kk : Nat} (hg : Gl X "enumerate") (hm : X.mg "enumerate" = none) (ha : PA X [e] ta) (hs : starEach [e] X.env = [(false, eval e X.env)] := by rfl) :
    PI X (.Tuple elts kk tpos) (.Call (.Name "enumerate" p) [e] [] pos) (iEnumU X.K ta) := by
  refine ⟨fun pins s σ H R I h => ?_⟩
  refine Call_ (ld_blt I hg hm boot_enumerate (PyProof.Rows.callWith_type1 (thn (ha.run pos pins s σ H _ I h) fun us s1 ⟨vs, H1, I1, r1, q1⟩ => ?_) hs rfl))
  obtain ⟨a, ex, q1⟩ := q1
  subst ex
  cases r1 with
  | cons r rr =>
    cases rr
    cases r
    rcases q1 with ⟨xs, hq, q⟩ | ⟨xs, hq, q⟩
    · obtain ⟨its, rv, p', hz⟩ := I1.list hq
      refine call_enumerate_list p'.isList fun h' he hit hsz hk => wpAny_pyIter_enum he ?_
      have I2 : Inv X pins σ H1 { s1 with heap := h' } := I1.kept (t' := s1.toks) hk
      refine ⟨s1.heap.objs.size + 1, [s1.heap.objs.size + 1, s1.heap.objs.size], _, _, H1, rfl, I2, turn_enum a (s1.heap.objs.size + 1) s1.heap.objs.size, ⟨⟨.none, he⟩, hit, Nat.succ_ne_self _⟩, fun b hb => ?_, q⟩
      have e' : b = s1.heap.objs.size + 1 ∨ b = s1.heap.objs.size := by simpa using hb
      have hle : s1.heap.objs.size ≤ b := by
        rcases e' with z | z
        · rw [z]; exact Nat.le_add_right _ _
        · rw [z]; exact Nat.le_refl _
      exact I1.fpOk hle (I1.hok.fresh hle)
    · obtain ⟨its, rv, p', hz⟩ := I1.tuple hq
      obtain ⟨ot, hot, hct, nt, hdt⟩ := p'
      have hal : a < s1.heap.objs.size := Heap.lt_size hot
      refine call_enumerate_tuple ⟨ot, hot, hct, nt, hdt⟩ fun h' he hit hsz hk => wpAny_pyIter_enum he ?_
      have I2 : Inv X pins σ H1 { s1 with heap := h' } := I1.kept (t' := s1.toks) hk
      refine ⟨s1.heap.objs.size + 1, [s1.heap.objs.size + 1, s1.heap.objs.size], _, _, H1, rfl, I2, turn_enumT a (s1.heap.objs.size + 1) s1.heap.objs.size, ⟨⟨.none, he⟩, hit, Nat.succ_ne_self _, Nat.ne_of_lt hal, Nat.ne_of_gt (Nat.lt_succ_of_lt hal)⟩, fun b hb => ?_, q⟩
      have e' : b = s1.heap.objs.size + 1 ∨ b = s1.heap.objs.size := by simpa using hb
      have hle : s1.heap.objs.size ≤ b := by
        rcases e' with z | z
        · rw [z]; exact Nat.le_add_right _ _
        · rw [z]; exact Nat.le_refl _
      exact I1.fpOk hle (I1.hok.fresh hle)
theorem k_enumU {K : PySem.W.Frag} {e : Expr} {ta : TA} {p pos tpos : Pos} {elts : List Expr} {kk : Nat} (h : X.K = K) (hg : Gl X "enumerate") (hm : X.mg "enumerate" = none) (ha : PA X [e] ta) (hs : starEach [e] X.env = [(false, eval e X.env)] := by rfl) :
    PI X (.Tuple elts kk tpos) (.Call (.Name "enumerate" p) [e] [] pos) (iEnumU K ta) := h ▸ pi_enumU hg hm ha hs
end
end WkE
namespace Wk
open PySem PySem.Spec L2 WkE
section
variable {K : PySem.W.Frag} {δ : Dl} {μ : Mu} {ta : TE} {al : TA}
/-- what stands behind it: by kind -/
def SeqU (x : D) (μ : Mu) (PI : List D → (Mu → Prop) → Mu → Prop) : Prop := (∃ (a : Addr) (ds : List D), x = .ref a ∧ Lk ds μ a ∧ PI ds (fun μ' => (a, M.lst ds) ∈ μ') μ) ∨ ((∃ ds, x = .tup ds ∧ PI ds (fun _ => True) μ) ∨ ∃ ds, x = .lis ds ∧ PI ds (fun _ => True) μ)
theorem sequ_t {ds : List D} {PI : List D → (Mu → Prop) → Mu → Prop} (q : PI ds (fun _ => True) μ) : SeqU (.tup ds) μ PI := .inr (.inl ⟨ds, rfl, q⟩)
theorem sequ_i {ds : List D} {PI : List D → (Mu → Prop) → Mu → Prop} (q : PI ds (fun _ => True) μ) : SeqU (.lis ds) μ PI := .inr (.inr ⟨ds, rfl, q⟩)
theorem sequ_l {a : Addr} {ds : List D} {PI : List D → (Mu → Prop) → Mu → Prop} (h : Lk ds μ a) (q : PI ds (fun μ' => (a, M.lst ds) ∈ μ') μ) : SeqU (.ref a) μ PI := .inl ⟨a, ds, rfl, h, q⟩
theorem wi_seqU {PI : List D → (Mu → Prop) → Mu → Prop} (h : W K ta δ μ fun x μ1 => SeqU x μ1 PI) : WI K (iSeqU K ta) δ μ PI := fun σ H ok R f =>
  h σ H ok _ fun v H1 x μ1 s1 m1 r1 u => by
    rcases u with ⟨a, ds, e, ⟨j, hm⟩, p⟩ | ⟨ds, e, p⟩ | ⟨ds, e, p⟩
    · subst e
      cases r1
      obtain ⟨vs, hv, hl⟩ := m1.at hm
      refine ⟨_, rfl, .inl ⟨⟨_, .inl (.inl hv)⟩, f _ H1 ds _ μ1 s1 m1 (fun H2 μ2 s2 m2 g => ?_) p⟩⟩
      obtain ⟨ws, hw, hl2⟩ := m2.ok _ g
      refine ⟨fun i hi => ⟨_, .inl (.inl hw), by rw [hl2.length]; exact hi⟩, fun i d hd => ?_⟩
      obtain ⟨w, ew, rw'⟩ := hl2.get hd
      refine ⟨⟨_, w, .inl (.inl hw), ew⟩, fun x H' hy => ?_⟩
      obtain ⟨e1, e2⟩ := hy
      subst e1
      have e3 := e2 _ (.inl (.inl hw))
      rw [ew] at e3
      cases e3
      exact ⟨.refl, m2, rw'⟩
    · subst e
      cases r1 with
      | tup hs_ hl =>
        have hs := TpA.sqt hs_
        refine ⟨_, rfl, .inr ⟨⟨_, hs⟩, f _ H1 ds _ μ1 s1 m1 (fun H2 μ2 s2 m2 _ => ?_) p⟩⟩
        have hs2 := sqT_step m1 s2 hs
        have hl2 := hl.step m1 s2
        refine ⟨fun i hi => ⟨_, hs2, by rw [hl2.length]; exact hi⟩, fun i d hd => ?_⟩
        obtain ⟨w, ew, rw'⟩ := hl2.get hd
        refine ⟨⟨_, w, hs2, ew⟩, fun x H' hy => ?_⟩
        obtain ⟨e1, e2⟩ := hy
        subst e1
        have e3 := e2 _ hs2
        rw [ew] at e3
        cases e3
        exact ⟨.refl, m2, rw'⟩
    · subst e
      cases r1 with
      | lis hq hl =>
        refine ⟨_, rfl, .inl ⟨⟨_, .inl (.inr ⟨_, hq⟩)⟩, f _ H1 ds _ μ1 s1 m1 (fun H2 μ2 s2 m2 _ => ?_) p⟩⟩
        have hw := (ps_step m1 s2).2.2 _ _ _ hq
        have hl2 := hl.step m1 s2
        refine ⟨fun i hi => ⟨_, .inl (.inr ⟨_, hw⟩), by rw [hl2.length]; exact hi⟩, fun i d hd => ?_⟩
        obtain ⟨w, ew, rw'⟩ := hl2.get hd
        refine ⟨⟨_, w, .inl (.inr ⟨_, hw⟩), ew⟩, fun x H' hy => ?_⟩
        obtain ⟨e1, e2⟩ := hy
        subst e1
        have e3 := e2 _ (.inl (.inr ⟨_, hw⟩))
        rw [ew] at e3
        cases e3
        exact ⟨.refl, m2, rw'⟩
def EnumU (x : D) (μ : Mu) (PI : List D → (Mu → Prop) → Mu → Prop) : Prop := (∃ (a : Addr) (ds : List D), x = .ref a ∧ Lk ds μ a ∧ PI (enumD ds) (fun μ' => (a, M.lst ds) ∈ μ') μ) ∨ ((∃ ds, x = .tup ds ∧ PI (enumD ds) (fun _ => True) μ) ∨ ∃ ds, x = .lis ds ∧ PI (enumD ds) (fun _ => True) μ)
theorem enumu_t {ds : List D} {PI : List D → (Mu → Prop) → Mu → Prop} (q : PI (enumD ds) (fun _ => True) μ) : EnumU (.tup ds) μ PI := .inr (.inl ⟨ds, rfl, q⟩)
theorem enumu_i {ds : List D} {PI : List D → (Mu → Prop) → Mu → Prop} (q : PI (enumD ds) (fun _ => True) μ) : EnumU (.lis ds) μ PI := .inr (.inr ⟨ds, rfl, q⟩)
theorem enumu_l {a : Addr} {ds : List D} {PI : List D → (Mu → Prop) → Mu → Prop} (h : Lk ds μ a) (q : PI (enumD ds) (fun μ' => (a, M.lst ds) ∈ μ') μ) : EnumU (.ref a) μ PI := .inl ⟨a, ds, rfl, h, q⟩
theorem enumu_in {x : D} {PI : List D → (Mu → Prop) → Mu → Prop} (q : EnumU x μ PI) : ∃ y, [x] = [y] ∧ EnumU y μ PI := ⟨x, rfl, q⟩
theorem wi_enumU {PI : List D → (Mu → Prop) → Mu → Prop} (h : WA K al δ μ fun ds μ1 => ∃ x, ds = [x] ∧ EnumU x μ1 PI) : WI K (iEnumU K al) δ μ PI := fun σ H ok R f =>
  h σ H ok _ fun vs H1 ds0 μ1 s1 m1 r1 ⟨x, e0, u⟩ => by
    subst e0
    cases r1 with
    | cons r rr =>
      cases rr
      rcases u with ⟨a, ds, e, ⟨j, hm⟩, p⟩ | ⟨ds, e, p⟩ | ⟨ds, e, p⟩
      · subst e
        cases r
        obtain ⟨vs, hv, hl⟩ := m1.at hm
        refine ⟨_, rfl, .inl ⟨_, .inl (.inl hv), f _ H1 (enumD ds) _ μ1 s1 m1 (fun H2 μ2 s2 m2 g => ?_) p⟩⟩
        obtain ⟨ws, hw, hl2⟩ := m2.ok _ g
        refine ⟨fun i hi => ⟨_, .inl (.inl hw), by rw [hl2.length]; rw [enumD_length] at hi; exact hi⟩, fun i d hd => ?_⟩
        obtain ⟨x, hx, rfl⟩ := enumD_get hd
        obtain ⟨w, ew, rw'⟩ := hl2.get hx
        refine ⟨⟨_, w, .inl (.inl hw), ew⟩, fun x' H' hy => ?_⟩
        obtain ⟨T, x2, rfl, hT, rfl, hall⟩ := hy
        have e3 := hall _ (.inl (.inl hw))
        rw [ew] at e3
        cases e3
        refine ⟨step_new hT, m2.new hT, .tup upd_same (.cons (.int _) (.cons (rw'.step m2 (step_new hT)) .nil))⟩
      · subst e
        cases r with
        | tup hs_ hl =>
          have hs := TpA.sqt hs_
          refine ⟨_, rfl, .inr ⟨_, hs, f _ H1 (enumD ds) _ μ1 s1 m1 (fun H2 μ2 s2 m2 _ => ?_) p⟩⟩
          have hs2 := sqT_step m1 s2 hs
          have hl2 := hl.step m1 s2
          refine ⟨fun i hi => ⟨_, hs2, by rw [hl2.length]; rw [enumD_length] at hi; exact hi⟩, fun i d hd => ?_⟩
          obtain ⟨x, hx, rfl⟩ := enumD_get hd
          obtain ⟨w, ew, rw'⟩ := hl2.get hx
          refine ⟨⟨_, w, hs2, ew⟩, fun x' H' hy => ?_⟩
          obtain ⟨T, x2, rfl, hT, rfl, hall⟩ := hy
          have e3 := hall _ hs2
          rw [ew] at e3
          cases e3
          refine ⟨step_new hT, m2.new hT, .tup upd_same (.cons (.int _) (.cons (rw'.step m2 (step_new hT)) .nil))⟩
      · subst e
        cases r with
        | lis hq hl =>
          refine ⟨_, rfl, .inl ⟨_, .inl (.inr ⟨_, hq⟩), f _ H1 (enumD ds) _ μ1 s1 m1 (fun H2 μ2 s2 m2 _ => ?_) p⟩⟩
          have hw := (ps_step m1 s2).2.2 _ _ _ hq
          have hl2 := hl.step m1 s2
          refine ⟨fun i hi => ⟨_, .inl (.inr ⟨_, hw⟩), by rw [hl2.length]; rw [enumD_length] at hi; exact hi⟩, fun i d hd => ?_⟩
          obtain ⟨x, hx, rfl⟩ := enumD_get hd
          obtain ⟨w, ew, rw'⟩ := hl2.get hx
          refine ⟨⟨_, w, .inl (.inr ⟨_, hw⟩), ew⟩, fun x' H' hy => ?_⟩
          obtain ⟨T, x2, rfl, hT, rfl, hall⟩ := hy
          have e3 := hall _ (.inl (.inr ⟨_, hw⟩))
          rw [ew] at e3
          cases e3
          refine ⟨step_new hT, m2.new hT, .tup upd_same (.cons (.int _) (.cons (rw'.step m2 (step_new hT)) .nil))⟩
end
end Wk

set_option Elab.async false
set_option linter.all false
set_option maxRecDepth 100000
namespace Wk
open PySem PySem.Spec L2 WkE
section
variable {K : PySem.W.Frag} {δ : Dl} {μ : Mu} {P : D → Mu → Prop}
/-- d.get(k, x) -/
theorem w_dget2 {td ty tx : TE} (h : W K td δ μ fun x μ1 => ∃ (a : Addr) (j : Nat) (kds : List (Key × D)), x = .ref a ∧ μ1[j]? = some (a, M.dic kds) ∧ W K ty δ μ1 fun y μ2 => W K tx δ μ2 fun z μ3 => ∃ (j3 : Nat) (kds3 : List (Key × D)) (k : Key) (d : D), y = kD k ∧ μ3[j3]? = some (a, M.dic kds3) ∧ (valD kds3 k).getD z = d ∧ P d μ3) : W K (tDGet2 td ty tx) δ μ P := fun σ H ok Q f =>
  h σ H ok _ fun v H1 x μ1 s1 m1 r1 ⟨a, j, kds, e1, hm, h1⟩ => by
    subst e1
    cases r1
    obtain ⟨kvs0, hd0, _⟩ := m1.at hm
    refine ⟨a, rfl, .inl ⟨kvs0, .inl hd0⟩, ?_⟩
    exact h1 σ H1 (ok.step s1 m1) _ fun u H2 y μ2 s2 m2 r2 h2 => h2 σ H2 (ok.step (s1.trans s2) m2) _ fun u3 H3 z μ3 s3 m3 r3 ⟨j3, kds3, k, _, e2, hm3, e3, q⟩ => by
      subst e2 e3
      have e := den_kD r2
      subst e
      obtain ⟨kvs, hd, hl⟩ := m3.at hm3
      refine ⟨valV kvs k, DGet.k hd, ?_⟩
      cases c : valD kds3 k with
      | none =>
        rw [(hl.val (k := k)).1 c]
        rw [c] at q
        exact f _ H3 _ μ3 (s1.trans (s2.trans s3)) m3 r3 q
      | some d =>
        obtain ⟨w, hw, rw'⟩ := (hl.val (k := k)).2 d c
        rw [hw]
        rw [c] at q
        exact f _ H3 _ μ3 (s1.trans (s2.trans s3)) m3 rw' q
theorem dget2_N {Q : D → Prop} {kds : List (Key × D)} {f : Nat → Option D} {a : Addr} {k : Nat} {d z : D} (hm : Ck kds μ a) (hf : DicN kds f) (hv : (f k).getD z = d) (q : Q d) : ∃ (j3 : Nat) (kds3 : List (Key × D)) (k' : Key) (d' : D), D.int (k : Int) = kD k' ∧ μ[j3]? = some (a, M.dic kds3) ∧ (valD kds3 k').getD z = d' ∧ Q d' := by
  obtain ⟨j, hj⟩ := hm
  exact ⟨j, kds, .inl k, d, rfl, hj, by rw [hf k, hv], q⟩
theorem dget2_in {kds : List (Key × D)} {a : Addr} {Q : Prop} (hm : Ck kds μ a) (q : Q) : ∃ (a' : Addr) (j : Nat) (kds' : List (Key × D)), D.ref a = .ref a' ∧ μ[j]? = some (a', M.dic kds') ∧ Q := by
  obtain ⟨j, hj⟩ := hm
  exact ⟨a, j, kds, rfl, hj, q⟩
/-- a, b = x, y -/
theorem s_par {i j : Nat} {ta : TA} {N B C : Dl → Mu → Prop} {R : D → Mu → Prop} (h : WA K ta δ μ fun ds μ1 => ∃ d e δ', ds = [d, e] ∧ (δ.set i (some d)).set j (some e) = δ' ∧ N δ' μ1) : S4 K (tPar i j ta) δ μ N R B C := fun σ H ok Dn n r b c =>
  h σ H ok _ fun vs H1 ds μ1 s1 m1 r1 ⟨d, e, δ', e1, e2, q⟩ => by
    subst e1 e2
    cases r1 with
    | cons a r2 =>
      cases r2 with
      | cons a2 r3 =>
        cases r3
        exact ⟨_, _, rfl, n _ H1 _ μ1 s1 (((ok.step s1 m1).set a i).set a2 j) q⟩
theorem par_in {i j : Nat} {d e : D} {δ' : Dl} {Q : Dl → Prop} (h : (δ.set i (some d)).set j (some e) = δ') (q : Q δ') : ∃ d' e' δ', [d, e] = [d', e'] ∧ (δ.set i (some d')).set j (some e') = δ' ∧ Q δ' := ⟨d, e, δ', rfl, h, q⟩
end
end Wk

set_option Elab.async false
set_option linter.all false
set_option maxRecDepth 100000
set_option maxHeartbeats 2000000
/-! sorted(t) of a tuple of ints -/
namespace SrtO
open PySem PySem.Spec PyProof.Rows
section
variable {prog : Program} {w : World} {A : Around} {E : Value → Shared → Prop} {s : Shared}
/-- collecting a sequence: the new list stands in the way -/
theorem collect_at {Q : List Value → Shared → Prop} (it : Addr) {T : String} {o : Obj} {items : Array Value} {n : Nat} (hT : T = "list" ∨ T = "tuple")
    (ho : s.heap.get? it = some o) (hc : o.cls = .type T) (hd : o.data = .seq items n)
    (hQ : ∀ h', (∀ b o', s.heap.get? b = some o' → h'.get? b = some o') → s.heap.objs.size ≤ h'.objs.size → Q items.toList { s with heap := h' }) (hsz : items.size ≤ sizeLine) :
    wpAny (model prog w) A (collect (.ref it)) Q E s := by
  unfold collect
  refine wpAny_bind (wpAny_runValue (codeAny_builtin F.entry_proto_collect ?_))
  rw [Around.under_plainId F.plain_proto_collect _]
  show wpAny _ A.in1 (newList [] >>= fun l => again (.builtin "list.__iadd__" ⟨[l, .ref it], []⟩)) _ _ s
  refine wpAny_bind (wpAny_newObj_type ?_)
  refine wpAny_pure ⟨plainId_quiet F.plain_list_iadd _, codeAny_builtin F.entry_list_iadd ?_⟩
  rw [Around.under_plainId F.plain_list_iadd _]
  show wpAny _ A.in1 (Builtin.List.listExtendWith (.ref s.heap.objs.size) (.ref it) (.ref s.heap.objs.size)) _ _ _
  have hS : (s.heap.push { cls := .type "list", data := .seq ([] : List Value).toArray }).get? s.heap.objs.size = some { cls := .type "list", data := .seq #[] 0 } := Heap.get?_push_size _ rfl
  have hS₂ := Heap.get?_update_self (Obj.mapSeq (· ++ items)) hS rfl
  have fin' : wpAny (model prog w) A (match Value.ref s.heap.objs.size with
      | Value.ref a => do
        match (← load a).data with
          | Data.seq xs _ => pure xs.toList
          | _ => unsupported "internal:collect"
      | _ => unsupported "internal:collect") Q E { s with heap := (s.heap.push { cls := .type "list", data := .seq ([] : List Value).toArray }).update s.heap.objs.size (Obj.mapSeq (· ++ items)) } := by
    show wpAny _ A (load s.heap.objs.size >>= _) _ _ _
    refine wpAny_bind (wpAny_load hS₂ (wpAny_pure ?_))
    show Q ((#[] : Array Value) ++ items).toList _
    rw [show ((#[] : Array Value) ++ items).toList = items.toList by simp]
    exact hQ _ (fun b o' hb => (Heap.get?_update_other _ _ (Nat.ne_of_gt (Heap.lt_size hb))).trans (Heap.get?_push_of_some _ hb)) (by rw [Heap.size_update, Heap.size_push]; exact Nat.le_succ _)
  refine wpAny_mono (wpAny_extend_seq (hsz := hsz) (A := A) (R := fun r s' => r = .ok (.ret (.ref s.heap.objs.size)) ∧ s' = { s with heap := (s.heap.push { cls := .type "list", data := .seq ([] : List Value).toArray }).update s.heap.objs.size (Obj.mapSeq (· ++ items)) })
    (s := { s with heap := s.heap.push { cls := .type "list", data := .seq ([] : List Value).toArray } }) _ it _ 0 hT hS (Heap.get?_push_of_some _ ho) hc hd ⟨rfl, rfl⟩) (fun fin s' h => ?_) (fun e s' h => absurd h.1 (by simp))
  cases fin with
  | done f =>
    obtain ⟨e, rfl⟩ := h
    cases e
    exact fin'
  | again c' => exact ⟨h.1, codeAny_mono h.2 fun r s'' hr => by obtain ⟨rfl, rfl⟩ := hr; exact fin'⟩
theorem sorted_ordT {l : Addr} {vs : List Value} {ltv : Value → Value → Bool} {Q : Value → Shared → Prop} (O : Swo ltv) (hl : s.heap.IsTuple l vs.toArray) (hz : vs.length ≤ sizeLine)
    (hS : 2 ≤ vs.length → ∀ (h₁ : Heap) (a : Addr), SortableO prog w A.in1.in1 { s with heap := h₁ } a vs ltv)
    (h : ∀ (h' : Heap) (out : List Value), (∀ b o, s.heap.get? b = some o → h'.get? b = some o) → s.heap.objs.size ≤ h'.objs.size → Srtd ltv out → Stb ltv out vs → Q (.ref h'.objs.size) { s with heap := sortedHeap (h'.push (seqObj "list" vs.toArray 0)) h'.objs.size vs out.toArray }) :
    wpAny (model prog w) A (call (.builtin "sorted") [.ref l]) Q E s := by
  refine Calls.call_function_entry kind_sorted plain_sorted entry_sorted (args_sorted1 _) ?_
  unfold Builtin.«sorted»
  refine wpAny_bind (m := checkCount "sorted" 1 1 _) (wpAny_pure ?_)
  obtain ⟨o, ho, hc, n, hd⟩ := id hl
  refine wpAny_bind (collect_at l (.inr rfl) ho hc hd (fun h' hk hsz => ?_) (by rw [List.size_toArray]; exact hz))
  rw [show vs.toArray.toList = vs by simp]
  refine wpAny_bind (wpAny_newList ?_ hz)
  have hoL : (h'.push (seqObj "list" vs.toArray 0)).get? h'.objs.size = some (seqObj "list" vs.toArray 0) := Heap.get?_push_size _ rfl
  show wpAny _ _ _ _ _ { s with heap := h'.push (seqObj "list" vs.toArray 0) }
  refine wpAny_bind (wpAny_holding (wpAny_call_entry slot_list_sort ⟨_, hoL, rfl⟩ entry_list_sort (list_sort_ord (s := { s with heap := h'.push (seqObj "list" vs.toArray 0) }) O hoL hz (fun h2 => hS h2 _ _) fun out hs hb => ⟨_, rfl, ?_⟩) (args_list_sort _)))
  exact wpAny_pure ⟨_, rfl, h h' out hk hsz hs hb⟩
end
end SrtO
namespace Wk
open PySem PySem.Spec PyProof.Rows L2 WkE
/-- sorted(xs) of a list or of a tuple of ints -/
def rSortedG (K : PySem.W.Frag) : List V → Hp → VK → Prop := fun vs H Q => ∃ (a : Addr) (ns : List Int), vs = [V.ref a] ∧ (SqL K H a (ns.map V.int) ∨ SqT K H a (ns.map V.int)) ∧
  ∀ (ns' : List Int) (p : Addr), ns'.Perm ns → ns'.Pairwise (· ≤ ·) → H p = none → Q (.ref p) (upd H p (.lst (ns'.map V.int)))
theorem cr_sortedG {X : Cx} {K : PySem.W.Frag} (hK : X.K = K) : CallR X (.builtin "sorted") (rSortedG K) := by
  subst hK
  intro pins s σ H vs us Q I r h
  obtain ⟨a, ns, rfl, hs, q⟩ := h
  rcases hs with hs | hs
  · exact cr_sortedI pins s σ H _ us Q I r ⟨a, ns, rfl, hs, q⟩
  obtain ⟨its, rv, hl, hz⟩ := I.tuple hs
  rw [Vals.ref1 r]
  have hi := rv.ints
  refine SrtO.sorted_ordT SrtO.swo_int (show s.heap.IsTuple a its.toArray from hl) (by rw [← rv.length]; exact hz) (fun h2 h₁ a' => SrtO.ints_sortable hi h2) fun h' out hk hsz h1 h2 => ?_
  obtain ⟨k1, k2, k3⟩ := SrtO.ints_out hi h1 h2
  have hoL : (h'.push (seqObj "list" its.toArray 0)).get? h'.objs.size = some (seqObj "list" its.toArray 0) := Heap.get?_push_size _ rfl
  obtain ⟨ep, he'⟩ := PyProof.Rows.sortedHeap_at (out := out.toArray) hoL
  have hlen : ((out.map SrtO.iv).map V.int).length ≤ sizeLine := by
    rw [List.length_map, k2.length_eq]
    rw [List.length_map] at hz
    exact hz
  refine ⟨.ref _, upd H h'.objs.size (.lst ((out.map SrtO.iv).map V.int)), I.laid (t' := s.toks) (fun b o e => ?_) hsz ⟨hlen, out, ep, vals_of_ints k1, he'⟩, rfl, q _ _ k2 k3 (I.hok.fresh hsz)⟩
  have hlt : b < h'.objs.size := Heap.lt_size (hk b o e)
  rw [PyProof.Rows.sortedHeap_old (Nat.ne_of_lt hlt) (by rw [PyProof.Rows.size_push']; exact Nat.lt_succ_of_lt hlt)]
  exact Heap.get?_push_of_some _ (hk b o e)
theorem wc_sortedT {K : PySem.W.Frag} {μ : Mu} {P : D → Mu → Prop} {ns : List Int} (q : ∀ (p : Addr) (ns' : List Int), ns'.Perm ns → ns'.Pairwise (· ≤ ·) → P (.ref p) ((p, .lst (ns'.map D.int)) :: μ)) : WC K (rSortedG K) [.tup (ns.map D.int)] μ P := fun H vs m r Q k => by
  cases r with
  | cons r rr =>
    cases rr
    cases r with
    | tup hs_ hl =>
      have hs := TpA.sqt hs_
      have e := hl.ints
      subst e
      refine ⟨_, ns, rfl, .inr hs, fun ns' p h1 h2 hp => ?_⟩
      exact k (.ref p) _ (.ref p) ((p, .lst (ns'.map D.int)) :: μ) (step_join hp rfl) (m.join (m := .lst (ns'.map D.int)) hp rfl ⟨_, upd_same, DenL.of_ints ns'⟩) (.ref p) (q p ns' h1 h2)
end Wk
namespace Wk
open PySem PySem.Spec L2 WkE
/-- i, i - 1, .. 0 -/
def rngR (i : Int) : List D := (List.range (i + 1).toNat).map fun k : Nat => D.int (i - (k : Int))
theorem wi_rng3 {K : PySem.W.Frag} {δ : Dl} {μ : Mu} {al : TA} {PI : List D → (Mu → Prop) → Mu → Prop} (h : WA K al δ μ fun ds μ1 => ∃ i : Int, ds = [.int i, .int (-1), .int (-1)] ∧ (-1 ≤ i ∧ i < 2 ^ 62) ∧ PI (rngR i) (fun _ => True) μ1) : WI K (iRng3 al) δ μ PI := fun σ H ok R f =>
  h σ H ok _ fun vs H1 ds μ1 s1 m1 r1 ⟨i, e, b, p⟩ => by
    subst e
    cases r1 with
    | cons a r =>
    cases a
    cases r with
    | cons a r =>
    cases a
    cases r with
    | cons a r =>
    cases a
    cases r
    refine ⟨i, -1, -1, (i - -1).toNat, rfl, RgC.neg (by omega) (by omega) (by omega) (by omega), f _ H1 (rngR i) _ μ1 s1 m1 (fun H2 μ2 s2 m2 _ => ⟨fun k hk => ?_, fun k d hd => ?_⟩) p⟩
    · unfold rngR at hk
      rw [List.length_map, List.length_range] at hk
      show (i - -1).toNat ≤ k
      omega
    · unfold rngR at hd
      rw [List.getElem?_map] at hd
      obtain ⟨k2, h1, rfl⟩ := Option.map_eq_some_iff.mp hd
      obtain ⟨hlt, e⟩ := List.getElem?_eq_some_iff.mp h1
      rw [List.getElem_range] at e
      subst e
      rw [List.length_range] at hlt
      refine ⟨show k < (i - -1).toNat by omega, fun x H' hy => ?_⟩
      obtain ⟨e1, e2⟩ := hy
      subst e1 e2
      rw [show i + (k : Int) * -1 = i - (k : Int) by omega]
      exact ⟨.refl, m2, .int _⟩
end Wk

set_option Elab.async false
set_option linter.all false
set_option maxRecDepth 100000
namespace Wk
open PySem PySem.Spec L2 WkE
section
variable {K : PySem.W.Frag} {δ : Dl} {μ : Mu} {P : D → Mu → Prop}
/-! ### dict(pairs) -/
def rDictP (K : PySem.W.Frag) : List V → Hp → VK → Prop := fun xs H Q => ∃ (a : Addr) (ps : List Addr) (kvs : List (Key × V)), xs = [.ref a] ∧ SqL K H a (ps.map V.ref) ∧ Paired (fun p kv => SqT K H p [kV kv.1, kv.2]) ps kvs ∧ ∀ p, H p = none → Q (.ref p) (upd H p (.dK (mergeK [] kvs)))
theorem k_dictP {X : Cx} {K : PySem.W.Frag} (h : X.K = K) (hc : X.calm = true) : CallR X (.type "dict") (rDictP K) := h ▸ call_dictP hc
theorem den_pairs {H : Hp} : ∀ {kds : List (Key × D)} {vs : List V}, DenL K H vs (kds.map fun p => D.tup [kD p.1, p.2]) → ∃ (ps : List Addr) (kvs : List (Key × V)), vs = ps.map V.ref ∧ Paired (fun p kv => SqT K H p [kV kv.1, kv.2]) ps kvs ∧ DenK K H kvs kds
  | [], _, h => by cases h; exact ⟨[], [], rfl, .nil, .nil⟩
  | (k, d) :: kds, _, h => by
    rw [List.map_cons] at h
    cases h with
    | cons a b =>
      obtain ⟨ps, kvs, rfl, hp, hk⟩ := den_pairs b
      cases a with
      | tup hs_ hl =>
        have hs := TpA.sqt hs_
        cases hl with
        | cons r1 r2 =>
          cases r2 with
          | cons r3 r4 =>
            cases r4
            have e := den_kD r1
            subst e
            exact ⟨_ :: ps, (k, _) :: kvs, rfl, .cons hs hp, .cons r3 hk⟩
theorem wc_dictP {a : Addr} {kds : List (Key × D)} (hm : Lk (kds.map fun p => D.tup [kD p.1, p.2]) μ a) (q : ∀ p, P (.ref p) ((p, .dic (mergeD [] kds)) :: μ)) : WC K (rDictP K) [.ref a] μ P := fun H vs m r Q k => by
  cases r with
  | cons r1 r2 =>
    cases r2
    cases r1
    obtain ⟨j, hj⟩ := hm
    obtain ⟨vs, hv, hl⟩ := m.at hj
    obtain ⟨ps, kvs, rfl, hp, hk⟩ := den_pairs hl
    exact ⟨_, ps, kvs, rfl, .inl (.inl hv), hp, fun p hp2 => k _ _ _ _ (step_join hp2 rfl) (m.join (m := .dic (mergeD [] kds)) hp2 rfl ⟨_, upd_same, DenK.step' (ps_step m (step_new hp2)) (hk.merge .nil)⟩) (.ref p) (q p)⟩
end
end Wk
namespace Wk
open PySem PySem.Spec L2 WkE
/-! ### defs with defaults -/
section
variable {K : PySem.W.Frag}
theorem funD_mk {x qual : Str} {st : Stmt} {f : Addr} {oc : Value} {od an : Option Addr} {osl : Array (Option Value)} {dV kV doc pm cdv ct : Value} {dvs : List V} (l : K.lookup f = some ⟨oc, od, .func (PySem.W.fnOf x qual (defArgs st) (defBody st) (defScope st) dV kV doc pm an cdv ct), osl⟩)
    (c : PySem.W.codeIn K cdv qual = true) (k : PySem.W.keepIn K (.ref f) = true) (d : DflV K dV dvs) : FunD K x qual (defArgs st) (defBody st) (defScope st) dvs [] f (PySem.W.fnOf x qual (defArgs st) (defBody st) (defScope st) dV kV doc pm an cdv ct) := ⟨⟨oc, od, dV, kV, doc, pm, an, cdv, ct, osl, rfl, l, c, d, .inl rfl⟩, k⟩
theorem binds_all {x qual : Str} {params : Arguments} {body : List Stmt} {scope : Scope} {dvs : List V} {kws : List (Str × V)} {f : Addr} {fd : FuncData} {ps : List Str} (F : FunD K x qual params body scope dvs kws f fd) (n : Nat) (hd : dvs ≠ []) (hn : n = ps.length)
    (h : ∀ (T : Addr) (kV doc pm : Value) (an : Option Addr) (cdv ct : Value) (us its : List Value), us.length = n → its.length = dvs.length →
      ∃ k, bindArgs (PySem.W.fnOf x qual params body scope (.ref T) kV doc pm an cdv ct) ⟨us, []⟩ = seqItems? (.ref T) >>= k ∧ k (some its.toArray) = pure (ps.zip us)) : Binds K fd ps [] := by
  obtain ⟨ds, r, b⟩ := F.binds1 (ps := ps) n dvs.length hd (by rw [Nat.sub_self]; exact hn) fun T kV doc pm an cdv ct us its hu hi => by
    obtain ⟨k, e1, e2⟩ := h T kV doc pm an cdv ct us its hu hi
    exact ⟨k, e1, by rw [e2, ← hi, List.drop_length, List.append_nil]⟩
  rw [List.drop_length] at r
  cases r
  exact b
theorem fn_ok4D {Pg : Program} {w : World} {mg : Str → Option Value} {base : Heap} {x qual : Str} {params : Arguments} {sb : List Stmt} {scope : Scope} {dvs : List V} {kws : List (Str × V)} {f : Addr} {fd : FuncData} {NN ps : List Str} {k n : Nat} {S : SpD} (F : FunD K x qual params sb scope dvs kws f fd) (sc : FnScope NN ps scope) (hn : n = ps.length)
    (body : ∀ (cdv : Value) (A : Around) (outer : List Env) (s : Shared) (H : Hp) (X : XK), Room k (A.deeper (PyProof.Rows.envOfC qual scope s.heap.objs.size f cdv)) →
      ∃ t, PSs (cxOf CX0 Pg w K mg base NN qual scope f cdv A outer s H X).nox sb t ∧ ∀ ds μ P, ds.length = n → S ds μ P → S4 K t (startD NN ds) μ (fun _ μ' => ∃ μ'', Weak μ' μ'' ∧ P .non μ'') (fun d μ' => ∃ μ'', Weak μ' μ'' ∧ P d μ'') (fun _ _ => False) (fun _ _ => False)) :
    FnOk Pg w K mg base CX0 (k + 1) f fd ps (spOf K n S) := by
  refine F.ok (CX := CX0) sc (fun vs H Q E h => h.1.trans hn) (fun cdv A outer s H vs Q E hr h => ?_)
  obtain ⟨t, h1, h2⟩ := body cdv A outer s H E hr
  obtain ⟨hl, ds, μ, P, m, r, hs, q⟩ := h
  refine ⟨t, h1.nox, h2 ds μ P (by rw [← r.length]; exact hl) hs (L2.start NN vs) H ⟨m, sg_start r, by unfold L2.start startD; simp [r.length]⟩ _ ?_ ?_ ?_ ?_⟩
  · rintro σ' H' δ' μ' s' o' ⟨μ'', wk, p⟩
    exact q .non H' .non μ'' (wk.step o'.m s') (wk K H' o'.m).1 .non p
  · rintro v H' d μ' s' m' r' ⟨μ'', wk, p⟩
    exact q v H' d μ'' (wk.step m' s') (wk K H' m').1 r' p
  · intro _ _ _ _ _ _ z; exact z.elim
  · intro _ _ _ _ _ _ z; exact z.elim
end
end Wk
namespace Wk
open PySem PySem.Spec L2 WkE
/-! ### reversed(range(n)) -/
def rngW (n : Nat) : List D := (List.range n).map fun k : Nat => D.int ((n : Int) - 1 - (k : Int))
theorem wi_revR1 {K : PySem.W.Frag} {δ : Dl} {μ : Mu} {te : TE} {PI : List D → (Mu → Prop) → Mu → Prop} (h : W K te δ μ fun x μ1 => ∃ n : Nat, x = .int (n : Int) ∧ n < 100000 ∧ PI (rngW n) (fun _ => True) μ1) : WI K (iRevR (tRg1 te)) δ μ PI := fun σ H ok R f =>
  h σ H ok _ fun v H1 x μ1 s1 m1 r1 ⟨n, e, b, p⟩ => by
    subst e
    cases r1
    have e0 : ((n : Int) - 0).toNat = n := by omega
    refine ⟨n, rfl, by omega, by omega, by omega, by omega, f _ H1 (rngW n) _ μ1 s1 m1 (fun H2 μ2 s2 m2 _ => ⟨fun k hk => ?_, fun k d hd => ?_⟩) p⟩
    · unfold rngW at hk
      rw [List.length_map, List.length_range] at hk
      show ((n : Int) - 0).toNat ≤ k
      omega
    · unfold rngW at hd
      rw [List.getElem?_map] at hd
      obtain ⟨k2, h1, rfl⟩ := Option.map_eq_some_iff.mp hd
      obtain ⟨hlt, e⟩ := List.getElem?_eq_some_iff.mp h1
      rw [List.getElem_range] at e
      subst e
      rw [List.length_range] at hlt
      refine ⟨show k < ((n : Int) - 0).toNat by omega, fun x H' hy => ?_⟩
      obtain ⟨e1, e2⟩ := hy
      subst e1 e2
      rw [show (0 : Int) + ((((n : Int) - 0).toNat : Nat) : Int) - 1 + (k : Int) * -1 = (n : Int) - 1 - (k : Int) by omega]
      exact ⟨.refl, m2, .int _⟩
/-- a walk down: what is settled from r on -/
theorem forDown {K : PySem.W.Frag} {δ : Dl} {μ1 : Mu} {ts : TS} {g : TG} {N : Dl → Mu → Prop} {R : D → Mu → Prop} {n : Nat} {G : Mu → Prop} (I : Nat → Dl → Mu → Prop) (h0 : ∃ δ0 μ0, LeD δ0 δ ∧ Weak μ1 μ0 ∧ I n δ0 μ0) (hG : ∀ i δ' μ', I i δ' μ' → G μ')
    (hs : ∀ r δ' μ', r < n → I (r + 1) δ' μ' → WG K g (jD r) δ' μ' fun δ2 μ2 => S4 K ts δ2 μ2 (fun δ3 μ3 => ∃ δ4 μ4, LeD δ4 δ3 ∧ Weak μ3 μ4 ∧ I r δ4 μ4) R N (fun δ3 μ3 => ∃ δ4 μ4, LeD δ4 δ3 ∧ Weak μ3 μ4 ∧ I r δ4 μ4))
    (hd : ∀ δ' μ', I 0 δ' μ' → N δ' μ') : ForP K δ g ts N R (rngW n) G μ1 := by
  unfold rngW
  refine forMm (fun pre => I (n - pre.length)) h0 (fun pre => hG _) ?_ ?_
  · intro pre x suf δ' μ' hx hI
    have hpl : pre.length < n := by
      have := congrArg List.length hx
      rw [List.length_range, List.length_append, List.length_cons] at this
      omega
    have hxp : x = pre.length := by
      have : (List.range n)[pre.length]? = some x := by rw [hx]; simp
      rw [List.getElem?_range hpl] at this
      simpa using this.symm
    have er : D.int ((n : Int) - 1 - (x : Int)) = jD (n - 1 - pre.length) := congrArg D.int (by omega)
    have hln : (pre ++ [x]).length = pre.length + 1 := by rw [List.length_append]; rfl
    rw [er]
    have := hs (n - 1 - pre.length) δ' μ' (by omega) (by rw [show n - 1 - pre.length + 1 = n - pre.length by omega]; exact hI)
    rw [hln, show n - (pre.length + 1) = n - 1 - pre.length by omega]
    exact this
  · intro δ' μ' hI
    rw [List.length_range, Nat.sub_self] at hI
    exact hd _ _ hI
theorem revR_in {PI : List D → (Mu → Prop) → Mu → Prop} {n : Nat} {μ : Mu} (hz : n < 100000) (q : PI (rngW n) (fun _ => True) μ) : ∃ n' : Nat, D.int (n : Int) = .int (n' : Int) ∧ n' < 100000 ∧ PI (rngW n') (fun _ => True) μ := ⟨n, rfl, hz, q⟩
/-! ### a call whose last argument is a default None -/
theorem w_callN {K : PySem.W.Frag} {δ : Dl} {μ : Mu} {al : TA} {P : D → Mu → Prop} {n : Nat} {S : SpD} {X : XK} (h : WA K al δ μ fun ds μ1 => ds.length + 1 = n ∧ ∃ ds', ds ++ [D.non] = ds' ∧ S ds' μ1 P) : W K (tCall (spOf K n S) [.non] X al) δ μ P := fun σ H ok Q f =>
  h σ H ok _ fun vs H1 ds μ1 s1 m1 r1 ⟨hl, ds', e, h1⟩ => by
    subst e
    exact ⟨by rw [List.length_append, r1.length]; exact hl, _, μ1, P, m1, r1.append (.cons .non .nil), h1, fun v H2 d μ2 s2 m2 r2 p => f v H2 d μ2 (s1.trans s2) m2 r2 p⟩
theorem cn2 {x y : D} {n : Nat} {p : List D → Prop} (hn : 3 = n) (h : p [x, y, .non]) : [x, y].length + 1 = n ∧ ∃ ds', [x, y] ++ [D.non] = ds' ∧ p ds' := ⟨hn, _, rfl, h⟩
theorem cn4 {x y z u : D} {n : Nat} {p : List D → Prop} (hn : 5 = n) (h : p [x, y, z, u, .non]) : [x, y, z, u].length + 1 = n ∧ ∃ ds', [x, y, z, u] ++ [D.non] = ds' ∧ p ds' := ⟨hn, _, rfl, h⟩
/-- None, n times -/
theorem fil_none {α : Type} {f : α → D} {c : α → Bool} {l : List α} : ((l.filter c).map f).isEmpty = true ↔ ∀ x ∈ l, c x = false := by
  rw [List.isEmpty_iff, List.map_eq_nil_iff, List.filter_eq_nil_iff]
  exact ⟨fun h x hx => by simpa using h x hx, fun h x hx => by simpa using h x hx⟩
end Wk

set_option Elab.async false
set_option linter.all false
set_option maxRecDepth 100000
set_option maxHeartbeats 2000000
/-! defs that are called where nothing is being shown: repr of data -/
namespace Wk
open PySem PySem.Spec PyProof.Rows L2 WkE
/-- a def's promise where nothing is being shown -/
structure FnG (P : Program) (w : World) (K : PySem.W.Frag) (mg : Str → Option Value) (base : Heap) (k : Nat) (f : Addr) (fd : FuncData) (ps : List Str) (sp : Sp) : Prop where
  len : ∀ vs H Q E, sp vs H Q E → vs.length = ps.length
  run : ∀ (A : Around) (outer : List Env) (s : Shared) (H : Hp) (args : Args) (us : List Value) (vs : List V) (Q : VK) (E : XK), Room k A → A.guards = some [] → Env0 P w K mg base A outer s H → BindsTo s fd args (ps.zip us) → Vals vs us → sp vs H Q E →
    codeAny (model P w) A (.call (.ref f) args) (CR CX0 outer P w H s Q E) s
section
variable {Pg : Program} {w : World} {K : PySem.W.Frag} {mg : Str → Option Value} {base : Heap} {x qual : Str} {st : Stmt} {f : Addr} {fd : FuncData} {NN ps : List Str} {k n : Nat}
theorem fn_G {sp : Sp} (F : Fun K x qual st f fd) (S : FnScope NN ps (defScope st)) (len : ∀ vs H Q E, sp vs H Q E → vs.length = ps.length)
    (body : ∀ (cdv : Value) (A : Around) (outer : List Env) (s : Shared) (H : Hp) (vs : List V) (Q : VK) (E : XK), Room k (A.deeper (envOfC qual (defScope st) s.heap.objs.size f cdv)) → A.guards = some [] → sp vs H Q E →
      ∃ t, PSs (cxOf CX0 Pg w K mg base NN qual (defScope st) f cdv A outer s H E).nox (defBody st) t ∧ t { nx := fun _ H' => Q .non H', rt := Q } (L2.start NN vs) H) : FnG Pg w K mg base (k + 1) f fd ps sp := by
  obtain ⟨oc, od, kV, doc, pm, an, cdv, ct, osl, rfl, lk, hcd⟩ := F.ex
  refine ⟨len, fun A outer s H args us vs Q E hr hg e0 hb r hsp => ?_⟩
  have old : ∀ b o, base.get? b = some o → s.heap.get? b = some o := fun b o e => (e0.bs b o e).1
  have KX : K.In s.heap := e0.mod.kin.keeps old
  refine codeAny_call_function hr.depth (KX _ _ lk) rfl S.co S.gen rfl (PySem.W.codeRec_of KX hcd) (hb _ _ _ _ (wpAny_newFunctionEnv_cells S.kind (fun y hy => ?_) fun env he s1 z => ?_))
  · obtain ⟨y, v⟩ := y
    rcases S.par y (List.of_mem_zip hy).1 with q | q
    · exact .inl q
    · exact .inr ⟨q, PySem.W.cellsFrom_some _ _ _ (.inl q)⟩
  subst he
  refine ⟨(e0.mod.nolimit.keeps old).keeps z.toInCall.keep, codeAny_func ?_⟩
  obtain ⟨t, ht, hq⟩ := body cdv A outer s H vs Q E (hr.deeper _) hg hsp
  have I : Inv (cxOf CX0 Pg w K mg base NN qual (defScope st) f cdv A outer s H E) [] (L2.start NN vs) H s1 := inv_start S hr.hd e0 (len _ _ _ _ hsp) r z
  refine wpAny_mono (ht.nox.run [] s1 (L2.start NN vs) H _ I hq) (fun fl s' hs => ?_) fun e s' hs => hs
  cases fl with
  | ret u =>
    obtain ⟨v, σ', H', J, rv, q⟩ := hs
    exact ⟨v, H', J.os, J.bare, J.base, J.hok, rv, q⟩
  | next =>
    obtain ⟨σ', H', J, q⟩ := hs
    exact ⟨.non, H', J.os, J.bare, J.base, J.hok, rfl, q⟩
  | brk =>
    obtain ⟨_, _, _, q⟩ := hs
    exact False.elim q
  | cont =>
    obtain ⟨_, _, _, q⟩ := hs
    exact False.elim q
theorem fn_ok4G {S : SpD} (F : Fun K x qual st f fd) (sc : FnScope NN ps (defScope st)) (hn : n = ps.length)
    (body : ∀ (cdv : Value) (A : Around) (outer : List Env) (s : Shared) (H : Hp) (X : XK), Room k (A.deeper (envOfC qual (defScope st) s.heap.objs.size f cdv)) → A.guards = some [] →
      ∃ t, PSs (cxOf CX0 Pg w K mg base NN qual (defScope st) f cdv A outer s H X).nox (defBody st) t ∧ ∀ ds μ P, ds.length = n → S ds μ P → S4 K t (startD NN ds) μ (fun _ μ' => ∃ μ'', Weak μ' μ'' ∧ P .non μ'') (fun d μ' => ∃ μ'', Weak μ' μ'' ∧ P d μ'') (fun _ _ => False) (fun _ _ => False)) :
    FnG Pg w K mg base (k + 1) f fd ps (spOf K n S) := by
  refine fn_G F sc (fun vs H Q E h => h.1.trans hn) (fun cdv A outer s H vs Q E hr hg h => ?_)
  obtain ⟨t, h1, h2⟩ := body cdv A outer s H E hr hg
  obtain ⟨hl, ds, μ, P, m, r, hs, q⟩ := h
  refine ⟨t, h1, h2 ds μ P (by rw [← r.length]; exact hl) hs (L2.start NN vs) H ⟨m, sg_start r, by unfold L2.start startD; simp [r.length]⟩ _ ?_ ?_ ?_ ?_⟩
  · rintro σ' H' δ' μ' s' o' ⟨μ'', wk, p⟩
    exact q .non H' .non μ'' (wk.step o'.m s') (wk K H' o'.m).1 .non p
  · rintro v H' d μ' s' m' r' ⟨μ'', wk, p⟩
    exact q v H' d μ'' (wk.step m' s') (wk K H' m').1 r' p
  · intro _ _ _ _ _ _ z; exact z
  · intro _ _ _ _ _ _ z; exact z
end
section
variable {X : Cx} {k : Nat} {f : Addr} {fd : FuncData} {ps : List Str} {sp : Sp} {dvs : List V} {ds : List Value} {E : XK} {x : Str} {p pos : Pos} {e : Expr} {es : List Expr} {t : TA}
theorem run_G {pins : List (Addr × Obj)} {σ : L2.St} {H : Hp} {s : Shared} {Q : VK} {us : List Value} {vs : List V} (F : FnG X.prog X.w X.K X.mg X.base k f fd ps sp) (hr : Room k X.A) (hG : X.A.guards = some []) (hb : Binds X.K fd ps ds) (hd : Vals dvs ds) (hx : Passes CX0 X E)
    (I : Inv X pins σ H s) (r : Vals vs us) (h : sp (vs ++ dvs) H Q E) : wpAny (model X.prog X.w) X.A (call (.ref f) us) (EP X pins σ Q) X.xe s := by
  have r2 := r.append hd
  refine wpAny_call (codeAny_mono (F.run X.A X.stack s H ⟨us, []⟩ (us ++ ds) (vs ++ dvs) Q E hr hG I.env0 (hb s us I.kIn (by rw [← r2.length]; exact F.len _ _ _ _ h)) r2 h) fun res s' hq => ?_)
  match res, hq with
  | .error e, hq => exact hx pins σ H s e s' I hq
  | .ok (.ret u), hq => exact I.after hq
theorem pe_callG (F : FnG X.prog X.w X.K X.mg X.base k f fd ps sp) (hr : Room k X.A) (hG : X.A.guards = some []) (hg : Gl X x) (hm : X.mg x = some (.ref f)) (hk : PySem.W.keepIn X.K (.ref f) = true) (hb : Binds X.K fd ps ds) (hd : Vals dvs ds) (hx : Passes CX0 X E)
    (ha : PA X (e :: es) t) (hdb : (x == ("__debug__" : Str)) = false := by decide) (he : starEach (e :: es) X.env = (false, eval e X.env) :: starEach es X.env := by rfl) (hpl : (backTo pos (starEach es X.env)).any (·.1) = false := by rfl) :
    PE X (.Call (.Name x p) (e :: es) [] pos) (tCall sp dvs E t) :=
  ⟨fun pins s σ H Q I h => wpAny_Call_Name_kw (ld_glob I hg hm (PySem.W.callWith_K (h₀ := X.base) I.ok.mod.kin hk (thn (ha.run pos pins s σ H _ I h) fun us s1 ⟨vs, H1, I1, r, q⟩ => ⟨I1.kIn, run_G F hr hG hb hd hx I1 r q⟩) he hpl) hdb)⟩
theorem pe_call0G (F : FnG X.prog X.w X.K X.mg X.base k f fd ps sp) (hr : Room k X.A) (hG : X.A.guards = some []) (hg : Gl X x) (hm : X.mg x = some (.ref f)) (hk : PySem.W.keepIn X.K (.ref f) = true) (hb : Binds X.K fd ps ds) (hd : Vals dvs ds) (hx : Passes CX0 X E)
    (hdb : (x == ("__debug__" : Str)) = false := by decide) : PE X (.Call (.Name x p) [] [] pos) (tCall sp dvs E tNil) :=
  ⟨fun pins s σ H Q I h => wpAny_Call_Name_kw (ld_glob I hg hm (PySem.W.callWith_K0 I.kIn hk (run_G (us := []) F hr hG hb hd hx I .nil h)) hdb)⟩
end

/-! ### the law itself -/
section
variable {P : Program} {w : World} {K : PySem.W.Frag} {mg mb : Str → Option Value} {k : Nat} {fa a : Addr} {fd : FuncData} {x : Str} {sp : Sp} {s₁ : Shared} {vs : List Value} {ns : List Int}
/-- the law is called, the script's place hidden or the module's own -/
theorem law_G0 {H : Hp} (KX : K.In s₁.heap) (hns : s₁.heap.Ns mainGlobals mg) (hb : s₁.heap.Ns builtinsNs mb) (hbb : ∀ x : Str, x ≠ "__name__" → mb x = bootBuiltins x) (hlim : s₁.heap.NoLimit) (hg : s₁.gens = #[])
    (ha : s₁.heap.get? a = some { cls := .type "list", data := .seq vs.toArray }) (hr : Room k callerA)
    (F : ∀ base : Heap, K.In base → base.Ns mainGlobals mg → FnG P w K mg base k fa fd [x] sp) (hbind : ∀ (s : Shared) (u : Value), BindsTo s fd ⟨[u], []⟩ [(x, u)])
    (hsp : sp [.ref a] H (fun v _ => v = .bl true) fun _ _ _ => False)
    (hO : Only H) (hok : HOk P w H s₁.heap) (hA : ∀ b, H b ≠ none → b = a) (hK : H a ≠ none → K.lookup a = none) :
    codeAny (model P w) callerA (.call (.ref fa) ⟨[.ref a], []⟩) (fun r s' => r = .ok (.ret (.bool true)) ∧ OldK s₁.heap s'.heap ∧ s'.os = s₁.os ∧ AllBare s'.gens) s₁ := by
  have off : ∀ {b : Addr} {o : Obj}, s₁.heap.get? b = some o → (∀ u, H b = some u → b = a → False) → H b = none := fun {b o} e n => by
    cases q : H b with
    | none => rfl
    | some u => exact (n u q (hA b (by rw [q]; simp))).elim
  have nsK : ∀ {b : Addr} {m : Str → Option Value}, s₁.heap.Ns b m → (hidT s₁.heap H).Ns b m := fun {b m} ⟨o, es, ep, e, d, r⟩ => ⟨o, es, ep, hidT_get e (off e fun u q z => by
    subst z
    rw [ha] at e
    cases e
    cases d), d, r⟩
  have hKb : K.In (hidT s₁.heap H) := fun b o e => hidT_get (KX b o e) (off (KX b o e) fun u q z => by
    subst z
    rw [hK (by rw [q]; simp)] at e
    cases e)
  have hM : Mod K mg (hidT s₁.heap H) := ⟨hKb, nsK hns, ⟨mb, nsK hb, hbb⟩, let ⟨mc, h1, h2⟩ := hlim; ⟨mc, nsK h1, h2⟩⟩
  have e0 : Env0 P w K mg (hidT s₁.heap H) callerA [] s₁ H := ⟨rfl, hM, fun b o e => of_hidT e, Nat.le_of_eq (hidT_size _ _), trivial, fun b hb => absurd (show b ∈ ([] : List Addr) from hb) (by simp), hok, .of_eq hg⟩
  refine codeAny_mono ((F _ hKb (nsK hns)).run callerA [] s₁ H ⟨[.ref a], []⟩ [.ref a] [.ref a] _ _ hr rfl e0 (hbind s₁ (.ref a)) (.cons rfl .nil) hsp) fun r s' h => ?_
  match r, h with
  | .error e, h => exact False.elim (by simpa [CR, CX0] using h)
  | .ok (.ret u), ⟨v, H', os, bare, un, hok', r', q⟩ =>
    have q' : v = .bl true := q
    subst q'
    obtain rfl : u = Value.bool true := r'
    refine ⟨rfl, OldK.of_keep fun b o e => ?_, os, bare⟩
    cases q : H b with
    | none => exact un.keep b o e q (by intro z; exact absurd (show b ∈ ([] : List Addr) from z) (by simp)) (by simp)
    | some u =>
      rcases hO b with z | ⟨ob, xs, z⟩
      · rw [q] at z; cases z
      · have e1 := (hok b _ z).1
        have e2 := (hok' b _ (un.frzs b ob _ z)).1
        rw [e] at e1; cases e1
        exact e2
theorem law_G (KX : K.In s₁.heap) (hns : s₁.heap.Ns mainGlobals mg) (hb : s₁.heap.Ns builtinsNs mb) (hbb : ∀ x : Str, x ≠ "__name__" → mb x = bootBuiltins x) (hlim : s₁.heap.NoLimit) (hg : s₁.gens = #[])
    (ha : s₁.heap.get? a = some { cls := .type "list", data := .seq vs.toArray }) (hi : IntsAre vs ns) (hl : ns.length ≤ sizeLine) (hr : Room k callerA)
    (F : ∀ base : Heap, K.In base → base.Ns mainGlobals mg → FnG P w K mg base k fa fd [x] sp) (hbind : ∀ (s : Shared) (u : Value), BindsTo s fd ⟨[u], []⟩ [(x, u)])
    (hsp : ∀ H : Hp, Only H → SqL K H a (ns.map V.int) → sp [.ref a] H (fun v _ => v = .bl true) fun _ _ _ => False) :
    codeAny (model P w) callerA (.call (.ref fa) ⟨[.ref a], []⟩) (fun r s' => r = .ok (.ret (.bool true)) ∧ OldK s₁.heap s'.heap ∧ s'.os = s₁.os ∧ AllBare s'.gens) s₁ := by
  have rv := vals_ints hi
  cases hk : K.lookup a with
  | some o =>
    have e := KX a o hk
    rw [ha] at e
    cases e
    have hO : Only fun _ => none := fun _ => .inl rfl
    exact law_G0 (H := fun _ => none) KX hns hb hbb hlim hg ha hr F hbind (hsp _ hO (.inr ⟨_, vs.toArray, _, hk, rfl, rfl, rfl, by rw [List.size_toArray, hi.length]; exact hl, by simpa using rv⟩)) hO (fun b u z => nomatch z) (fun b z => absurd rfl z) fun z => absurd rfl z
  | none =>
    have hO : Only fun b => if b = a then some (.frz { cls := .type "list", data := .seq vs.toArray } (.lst (ns.map V.int))) else none := fun b => by
      by_cases c : b = a
      · exact .inr ⟨_, _, if_pos c⟩
      · exact .inl (if_neg c)
    refine law_G0 (H := fun b => if b = a then some (.frz { cls := .type "list", data := .seq vs.toArray } (.lst (ns.map V.int))) else none) KX hns hb hbb hlim hg ha hr F hbind (hsp _ hO (.inl (.inr ⟨_, if_pos rfl⟩))) hO (fun b u z => ?_) (fun b z => ?_) fun _ => hk
    · by_cases c : b = a
      · have z' := (if_pos c).symm.trans z
        cases z'
        subst c
        exact ⟨ha, by rw [List.length_map]; exact hl, vs, _, rv, ha⟩
      · have z' := (if_neg c).symm.trans z
        cases z'
    · by_cases c : b = a
      · exact c
      · exact absurd (if_neg c) z
end
theorem walk_G {l : PySem.W.OpenLaw} {n k : Nat} {q : Program} {loose : List Str} {XP : (Str → Option Value) → Heap → Prop} {YP : World → Heap → Prop} {d : DefRec} {K : Params → PySem.W.Frag} {sp : World → Sp} {x : Str}
    (hn : l.most = some n) (hn2 : n ≤ sizeLine) (hdf : d.params.defaults = []) (hr : Room k callerA)
    (hY : ∀ (w : World) (h : Heap), YP w h → (K w.params).In h)
    (F : ∀ (w : World) (mg : Str → Option Value) (fa : Addr) (h : Heap), (K w.params).In h → h.Ns mainGlobals mg → mg d.name = some (.ref fa) →
      ∃ fd : FuncData, (∀ (s : Shared) (u : Value), BindsTo s fd ⟨[u], []⟩ [(x, u)]) ∧
        ∀ base : Heap, (K w.params).In base → base.Ns mainGlobals mg → FnG l.prog w (K w.params) mg base k fa fd [x] (sp w))
    (hsp : ∀ (w : World) (H : Hp) (a : Addr) (ns : List Int), ns.length ≤ n → Only H → SqL (K w.params) H a (ns.map V.int) → sp w [.ref a] H (fun v _ => v = .bl true) fun _ _ _ => False) :
    PySem.W.WalkO q loose XP YP l.row.toRowW d [] (fun f vs => PySem.call f vs) := by
  refine Att.attach_call hn hdf fun w s₀ s₁ mg mb fa o pm cd doc a vs ns G Y ho hd hcd hmg hobj hints hlen hg => ?_
  have KX := hY w _ Y
  obtain ⟨fd, hb, hF⟩ := F w mg fa _ KX G.T.g hmg
  exact law_G KX G.T.g G.T.b G.T.builtins G.T.nolimit hg hobj hints (Nat.le_trans hlen hn2) hr hF hb fun H hO hS => hsp w H a ns hlen hO hS
end Wk
namespace Wk
open PySem PySem.Spec PyProof.Rows L2 WkE
/-! ### what data look like -/
mutual
def D.small : D → Bool
  | .int i => decide (i.natAbs < 10 ^ 20)
  | .tup ds => D.smallL ds
  | .non => true
  | .bl _ => true
  | _ => false
def D.smallL : List D → Bool
  | [] => true
  | d :: ds => d.small && D.smallL ds
end
mutual
def D.cost : D → Nat
  | .int _ => 21
  | .tup ds => 2 + D.costL ds
  | _ => 5
def D.costL : List D → Nat
  | [] => 0
  | d :: ds => d.cost + 2 + D.costL ds
end
theorem int_len {i : Int} (h : i.natAbs < 10 ^ 20) : (Str.ofString (toString i)).length ≤ 21 := by
  have hn : ∀ n : Nat, n < 10 ^ 20 → (Nat.repr n).length ≤ 20 := fun n h => by
    have := digitsCore10_len 20 (n + 1) n [] (by decide) h
    simpa [Nat.repr, Nat.toDigits] using this
  rw [PySem.ofString_length]
  cases i with
  | ofNat m => exact Nat.le_succ_of_le (hn m h)
  | negSucc m =>
    have := hn (m + 1) h
    show ("-" ++ Nat.repr (m + 1)).length ≤ 21
    have h1 : "-".length = 1 := by first | rfl | decide
    rw [String.length_append, h1]
    omega
theorem log2_lt {n : Nat} (h : n < 10 ^ 20) : n.log2 < 1920 := by
  by_cases c : n = 0
  · subst c; decide
  · have := (Nat.log2_lt c (k := 1920)).mpr (Nat.lt_trans h (by decide +kernel))
    exact this
mutual
theorem small_py : ∀ {d : D}, d.small = true → d.py.shown.length ≤ d.cost ∧ d.py.showable = true ∧ d.py.hasDict = false ∧ d.dat = true
  | .int i, h => by
    have h := of_decide_eq_true (show decide (i.natAbs < 10 ^ 20) = true from h)
    exact ⟨int_len h, decide_eq_true (log2_lt h), rfl, rfl⟩
  | .tup ds, h => by
    obtain ⟨h1, h2, h3, h4⟩ := small_pyL (ds := ds) h
    refine ⟨?_, h2, h3, h4⟩
    show (tupleText (PyData.shownAll (D.pyL ds))).length ≤ _
    have := fmt_text (PyData.shownAll (D.pyL ds))
    show _ ≤ 2 + D.costL ds
    omega
  | .non, _ => ⟨by decide +kernel, rfl, rfl, rfl⟩
  | .bl b, _ => ⟨by cases b <;> decide +kernel, rfl, rfl, rfl⟩
theorem small_pyL : ∀ {ds : List D}, D.smallL ds = true → piled (PyData.shownAll (D.pyL ds)) ≤ D.costL ds ∧ PyData.showableAll (D.pyL ds) = true ∧ PyData.hasDictAll (D.pyL ds) = false ∧ D.datL ds = true
  | [], _ => ⟨Nat.le_refl _, rfl, rfl, rfl⟩
  | d :: ds, h => by
    obtain ⟨a, b⟩ := Bool.and_eq_true_iff.mp (show (d.small && D.smallL ds) = true from h)
    obtain ⟨h1, h2, h3, h4⟩ := small_py a
    obtain ⟨k1, k2, k3, k4⟩ := small_pyL b
    refine ⟨?_, ?_, ?_, ?_⟩
    · show piled (d.py.shown :: PyData.shownAll (D.pyL ds)) ≤ d.cost + 2 + D.costL ds
      rw [piled_cons]; omega
    · show (d.py.showable && PyData.showableAll (D.pyL ds)) = true
      rw [h2, k2]; rfl
    · show (d.py.hasDict || PyData.hasDictAll (D.pyL ds)) = false
      rw [h3, k3]; rfl
    · show (d.dat && D.datL ds) = true
      rw [h4, k4]; rfl
end
/-- data of some items alike -/
theorem small_tup {n c : Nat} : ∀ {ds : List D}, (∀ x ∈ ds, x.small = true ∧ x.cost ≤ c ∧ x.py.depth ≤ n) → (D.tup ds).small = true ∧ (D.tup ds).cost ≤ 2 + (c + 2) * ds.length ∧ (D.tup ds).py.depth ≤ n + 1 := by
  intro ds h
  have key : ∀ {ds : List D}, (∀ x ∈ ds, x.small = true ∧ x.cost ≤ c ∧ x.py.depth ≤ n) → D.smallL ds = true ∧ D.costL ds ≤ (c + 2) * ds.length ∧ PyData.depthAll (D.pyL ds) ≤ n := by
    intro ds
    induction ds with
    | nil => intro _; exact ⟨rfl, Nat.zero_le _, Nat.zero_le _⟩
    | cons d ds ih =>
      intro h
      obtain ⟨h1, h2, h3⟩ := h d List.mem_cons_self
      obtain ⟨k1, k2, k3⟩ := ih fun x hx => h x (List.mem_cons_of_mem _ hx)
      refine ⟨?_, ?_, ?_⟩
      · show (d.small && D.smallL ds) = true
        rw [h1, k1]; rfl
      · show d.cost + 2 + D.costL ds ≤ _
        rw [List.length_cons, Nat.mul_add]; omega
      · show max d.py.depth (PyData.depthAll (D.pyL ds)) ≤ n
        omega
  obtain ⟨k1, k2, k3⟩ := key h
  refine ⟨k1, ?_, ?_⟩
  · show 2 + D.costL ds ≤ _
    omega
  · show PyData.depthAll (D.pyL ds) + 1 ≤ _
    omega
theorem strOk_of (s : String) : PyData.strOk (Str.ofString s) = true := by
  rw [Str.ofString_eq_toList]
  unfold PyData.strOk
  rw [Array.all_eq_true']
  intro c hc
  obtain ⟨k, hk, rfl⟩ := List.mem_map.mp (by simpa using hc)
  exact decide_eq_true (by
    have := k.valid
    rcases this with h | h
    · exact Nat.lt_trans h (by decide)
    · exact h.2)
theorem strOk_append {x y : Str} (h1 : PyData.strOk x = true) (h2 : PyData.strOk y = true) : PyData.strOk (x ++ y) = true := by
  show (x.cps ++ y.cps).all _ = true
  rw [Array.all_append]
  exact Bool.and_eq_true_iff.mpr ⟨h1, h2⟩
theorem strOk_join : ∀ {ts : List Str}, (∀ t ∈ ts, PyData.strOk t = true) → PyData.strOk (Str.join ", " ts) = true
  | [], _ => by decide +kernel
  | [x], h => h x (by simp)
  | x :: y :: r, h => strOk_append (strOk_append (h x (by simp)) (strOk_of ", ")) (strOk_join fun t ht => h t (List.mem_cons_of_mem _ ht))
mutual
theorem small_ok : ∀ {d : D}, d.small = true → PyData.strOk d.py.shown = true
  | .int i, _ => strOk_of _
  | .tup ds, h => by
    have h1 := small_okL (ds := ds) h
    show PyData.strOk (tupleText (PyData.shownAll (D.pyL ds))) = true
    unfold tupleText
    refine strOk_append (strOk_append (strOk_of "(") (strOk_join h1)) ?_
    split
    · exact strOk_of ",)"
    · exact strOk_of ")"
  | .non, _ => strOk_of "None"
  | .bl b, _ => by
    cases b
    · exact strOk_of "False"
    · exact strOk_of "True"
theorem small_okL : ∀ {ds : List D}, D.smallL ds = true → ∀ t ∈ PyData.shownAll (D.pyL ds), PyData.strOk t = true
  | [], _ => fun t ht => by cases ht
  | d :: ds, h => by
    obtain ⟨a, b⟩ := Bool.and_eq_true_iff.mp (show (d.small && D.smallL ds) = true from h)
    intro t ht
    rcases List.mem_cons.mp (show t ∈ d.py.shown :: PyData.shownAll (D.pyL ds) from ht) with rfl | ht
    · exact small_ok a
    · exact small_okL b t ht
end
/-- repr of data -/
def rRepr (K : PySem.W.Frag) : List V → Hp → VK → Prop := fun vs H Q => ∃ (v : V) (d : PyData), vs = [v] ∧ Dp K H v d ∧ isDisplay d = true ∧ d.showable = true ∧ d.hasDict = false ∧ d.depth ≤ 8 ∧ d.shown.length ≤ 100000 ∧ Q (.str d.shown) H
theorem cr_repr {X : Cx} {K : PySem.W.Frag} (hK : X.K = K) (hG : X.A.guards = some []) (hu : X.A.units + 64 < cLine) : CallR X (.builtin "repr") (rRepr K) := by
  subst hK
  intro pins s σ H xs us Q I r h
  obtain ⟨v, d, rfl, hd, h1, h2, h3, h4, h5, q⟩ := h
  obtain ⟨u, rfl, ru⟩ := vals1 r
  obtain ⟨as, r1⟩ := Dp.reads I d v u hd ru
  obtain ⟨a, rfl⟩ := isRef_of_reads r1 h1
  exact repr_of_reads' r1 h2 (PyData.noDict_hsm h3) hG (by omega) (fun _ _ e => e) (fun h' u tk hk => ⟨.str d.shown, H, I.kept (t' := tk) hk, ⟨_, rfl⟩, q⟩) (le_size h5)
/-- the text of data -/
def D.show (d : D) : Str := d.py.shown
theorem wc_repr {K : PySem.W.Frag} {μ : Mu} {P : D → Mu → Prop} {ds : List D} (h : (D.tup ds).small = true ∧ (D.tup ds).cost ≤ 100000 ∧ (D.tup ds).py.depth ≤ 8) (q : (D.str (D.tup ds).show).sh = true → P (.str (D.tup ds).show) μ) : WC K (rRepr K) [.tup ds] μ P := fun H vs m r Q k => by
  cases r with
  | cons r rr =>
    cases rr
    obtain ⟨s1, s2, s3, s4⟩ := small_py h.1
    exact ⟨_, _, rfl, r.dp s4, rfl, s2, s3, h.2.2, Nat.le_trans s1 h.2.1, k _ H _ μ .refl m (.str _) (q (show (true && (PyData.strOk (D.tup ds).py.shown && _)) = true by rw [small_ok h.1]; rfl))⟩
end Wk

set_option Elab.async false
set_option linter.all false
set_option maxRecDepth 100000
namespace WkE
open PySem PySem.Spec L2 PyProof.Rows
section
variable {X : Cx}
/-! what was just reckoned may be locked for good: it is never written again -/
def tFrzE (t : TE) : TE := fun σ H Q => t σ H fun v H1 => Q v H1 ∨ ∃ d u, H1 d = some u ∧ Mut (some u) ∧ ∀ od, Q v (upd H1 d (.frz od u))
theorem pe_frz {e : Expr} {t : TE} (h : PE X e t) : PE X e (tFrzE t) := by
  refine ⟨fun pins s σ H Q I hw => ?_⟩
  refine thn (h.run pins s σ _ _ I hw) fun v s1 ⟨x, H1, I1, r, q⟩ => ?_
  rcases q with q | ⟨d, u, hd, mu, q⟩
  · exact ⟨x, H1, I1, r, q⟩
  · obtain ⟨od, I2⟩ := I1.lock hd mu
    exact ⟨x, _, I2, r, q od⟩
end
end WkE
namespace Wk
open PySem PySem.Spec L2 WkE
section
variable {K : PySem.W.Frag} {δ : Dl} {μ μ' : Mu} {te td ty : TE} {P : D → Mu → Prop} {a : Addr}
def dD (kds : List (Key × D)) : D := .dct (kds.map (·.1)) (kds.map (·.2))
theorem denK_dct {H : Hp} : ∀ {kvs : List (Key × V)} {kds : List (Key × D)}, DenK K H kvs kds → kvs.map (·.1) = kds.map (·.1) ∧ DenL K H (kvs.map (·.2)) (kds.map (·.2))
  | _, _, .nil => ⟨rfl, .nil⟩
  | _, _, .cons a b => ⟨by rw [List.map_cons, List.map_cons, (denK_dct b).1], .cons a (denK_dct b).2⟩
theorem dct_denK {H : Hp} : ∀ {kvs : List (Key × V)} {kds : List (Key × D)}, kvs.map (·.1) = kds.map (·.1) → DenL K H (kvs.map (·.2)) (kds.map (·.2)) → DenK K H kvs kds
  | [], [], _, _ => .nil
  | [], _ :: _, h, _ => by simp at h
  | _ :: _, [], h, _ => by simp at h
  | (k, v) :: r, (k', d) :: r', h, h2 => by
    rw [List.map_cons, List.map_cons] at h h2
    injection h with h3 h4
    simp only at h3
    subst h3
    cases h2 with
    | cons x y => exact .cons x (dct_denK h4 y)
/-- how it is locked -/
def FrzQ (P : D → Mu → Prop) (x : D) (μ : Mu) : Prop := P x μ ∨ (∃ (a : Addr) (i : Nat) (ds : List D) (μ' : Mu), x = .ref a ∧ μ[i]? = some (a, .lst ds) ∧ μ.eraseIdx i = μ' ∧ P (.lis ds) μ') ∨
  ∃ (a : Addr) (i : Nat) (kds : List (Key × D)) (μ' : Mu), x = .ref a ∧ μ[i]? = some (a, .dic kds) ∧ μ.eraseIdx i = μ' ∧ P (dD kds) μ'
theorem frz_no {x : D} (q : P x μ) : FrzQ P x μ := .inl q
theorem frz_L {i : Nat} {ds : List D} (hm : μ[i]? = some (a, .lst ds)) (h : μ.eraseIdx i = μ') (q : P (.lis ds) μ') : FrzQ P (.ref a) μ := .inr (.inl ⟨a, i, ds, μ', rfl, hm, h, q⟩)
theorem frz_D {i : Nat} {kds : List (Key × D)} (hm : μ[i]? = some (a, .dic kds)) (h : μ.eraseIdx i = μ') (q : P (dD kds) μ') : FrzQ P (.ref a) μ := .inr (.inr ⟨a, i, kds, μ', rfl, hm, h, q⟩)
theorem frz_step {i : Nat} {m : M} {H : Hp} {o : HO} (hm : μ[i]? = some (a, m)) (hw : m.own = []) (ok : OkM K H μ) (ho : isMt o = false) : Step μ H (μ.eraseIdx i) (upd H a o) ∧ OkM K (upd H a o) (μ.eraseIdx i) := by
  have hp := foot_perm hm
  simp only [hw, List.nil_append] at hp
  have nd := hp.nodup_iff.mp ok.nd
  have na := (List.nodup_cons.mp nd).1
  have st : Step μ H (μ.eraseIdx i) (upd H a o) := ⟨fun b u e n => by
      rw [upd_ne (show b ≠ a from fun z => n (by rw [z]; exact mem_foot (List.mem_of_getElem? hm) a (.inl rfl)))]; exact e,
    fun b z => .inl (hp.mem_iff.mpr (List.mem_cons_of_mem _ z))⟩
  refine ⟨st, ⟨(List.nodup_cons.mp nd).2, fun q hq => ?_⟩⟩
  have hq2 : q ∈ μ := (erase_sub μ i).subset hq
  refine (ok.ok q hq2).keep (fun b u hb e => ?_) (ps_step ok st)
  rw [upd_ne (show b ≠ a from fun z => na (by rw [← z]; exact mem_foot hq b hb))]; exact e
theorem w_frz (h : W K te δ μ fun x μ1 => FrzQ P x μ1) : W K (tFrzE te) δ μ P := fun σ H ok Q f =>
  h σ H ok _ fun v H1 x μ1 s1 m1 r1 q => by
    rcases q with q | ⟨a, i, ds, μ', e, hm, e2, q⟩ | ⟨a, i, kds, μ', e, hm, e2, q⟩
    · exact .inl (f v H1 x μ1 s1 m1 r1 q)
    · subst e e2
      cases r1
      obtain ⟨vs, hv, hl⟩ := m1.at hm
      refine .inr ⟨a, _, hv, True.intro, fun od => ?_⟩
      obtain ⟨st, m2⟩ := frz_step (o := .frz od (.lst vs)) hm rfl m1 rfl
      exact f _ _ _ _ (s1.trans st) m2 (.lis upd_same (hl.step m1 st)) q
    · subst e e2
      cases r1
      obtain ⟨kvs, hv, hl⟩ := m1.at hm
      refine .inr ⟨a, _, hv, True.intro, fun od => ?_⟩
      obtain ⟨st, m2⟩ := frz_step (o := .frz od (.dK kvs)) hm rfl m1 rfl
      have hk := denK_dct (DenK.step' (ps_step m1 st) hl)
      exact f _ _ _ _ (s1.trans st) m2 (.dct upd_same hk.1 hk.2) q
/-! what is read of it -/
theorem wc_lenI {ds : List D} (q : P (.int (ds.length : Int)) μ) : WC K (rLenG K) [.lis ds] μ P := fun H vs m r Q k => by
  cases r with
  | cons a r =>
    cases r
    cases a with
    | lis hs hl => exact .inl ⟨_, _, rfl, .inl (.inl (.inr ⟨_, hs⟩)), by rw [hl.length]; exact k _ H _ μ .refl m (.int _) q⟩
theorem w2_ixI {ds : List D} {d : D} {i : Int} (hc : atI ds i = some d) (q : P d μ) : W2 K (rIx K) (.lis ds) (.int i) μ P := fun H v u m r1 r2 Q k => by
  cases r1 with
  | lis hs hl =>
    cases r2
    obtain ⟨w, hw, rw'⟩ := at_den hl hc
    exact .inl ⟨_, _, _, w, rfl, rfl, .inl (.inr ⟨_, hs⟩), hw, k _ H _ μ .refl m rw' q⟩
theorem w2_ixIm {α : Type} {f : α → D} {es : List α} {e : α} {k : Nat} (hk : es[k]? = some e) (q : P (f e) μ) : W2 K (rIx K) (.lis (es.map f)) (.int (k : Nat)) μ P := w2_ixI (d := f e) (by
  have hl : k < (es.map f).length := by rw [List.length_map]; exact (List.getElem?_eq_some_iff.mp hk).1
  unfold atI ixN
  rw [if_pos (by omega), if_pos (by omega)]
  show (es.map f)[(k : Int).toNat]? = _
  rw [Int.toNat_natCast, List.getElem?_map, hk]; rfl) q
/-- a dict's value, of a dict that stands still or of one that may change -/
def DgQ (P : D → Mu → Prop) (x y : D) (μ : Mu) : Prop := (∃ (a : Addr) (j : Nat) (kds : List (Key × D)) (k : Key) (d : D), x = .ref a ∧ y = kD k ∧ μ[j]? = some (a, M.dic kds) ∧ valD kds k = some d ∧ P d μ) ∨
  ∃ (kds : List (Key × D)) (k : Key) (d : D), x = dD kds ∧ y = kD k ∧ valD kds k = some d ∧ P d μ
theorem dg_ref {a : Addr} {y : D} (h : ∃ (a' : Addr) (j : Nat) (kds : List (Key × D)) (k : Key) (d : D), D.ref a = .ref a' ∧ y = kD k ∧ μ[j]? = some (a', M.dic kds) ∧ valD kds k = some d ∧ P d μ) : DgQ P (.ref a) y μ := .inl h
theorem dg_dct {kds : List (Key × D)} {k : Key} {d : D} (hv : valD kds k = some d) (q : P d μ) : DgQ P (dD kds) (kD k) μ := .inr ⟨kds, k, d, rfl, rfl, hv, q⟩
theorem dg_N {kds : List (Key × D)} {k : Nat} {d : D} (hv : valD kds (.inl (k : Int)) = some d) (q : P d μ) : DgQ P (dD kds) (.int (k : Int)) μ := dg_dct (k := .inl (k : Int)) hv q
theorem w_dgetU (h : W K td δ μ fun x μ1 => W K ty δ μ1 fun y μ2 => DgQ P x y μ2) : W K (tDGet td ty) δ μ P := fun σ H ok Q f =>
  h σ H ok _ fun v H1 x μ1 s1 m1 r1 h1 => h1 σ H1 (ok.step s1 m1) _ fun u H2 y μ2 s2 m2 r2 q => by
    rcases q with ⟨a, j, kds, k, d, e1, e2, hm, hv, q⟩ | ⟨kds, k, d, e1, e2, hv, q⟩
    · subst e1 e2
      cases r1
      have e := den_kD r2
      subst e
      obtain ⟨kvs, hd, hl⟩ := m2.at hm
      obtain ⟨w, hw, rw'⟩ := (hl.val (k := k)).2 d hv
      exact ⟨a, w, rfl, by rw [← hw]; exact DGet.k hd, f _ H2 _ μ2 (s1.trans s2) m2 rw' q⟩
    · subst e1 e2
      have e := den_kD r2
      subst e
      cases r1.step m1 s2 with
      | dct hq he hl =>
        obtain ⟨w, hw, rw'⟩ := ((dct_denK he hl).val (k := k)).2 d hv
        refine ⟨_, w, rfl, ?_, f _ H2 _ μ2 (s1.trans s2) m2 rw' q⟩
        rw [← hw]
        exact .inl ⟨_, k, .inr ⟨_, hq⟩, rfl, rfl⟩
theorem den_key {H : Hp} : ∀ k : Key, Den K H (kV k) (kD k)
  | .inl i => .int i
  | .inr s => .str s
/-- a dict that stands still is walked: its keys -/
theorem wi_keysU {PI : List D → (Mu → Prop) → Mu → Prop} (h : W K td δ μ fun x μ1 => ∃ kds : List (Key × D), x = dD kds ∧ PI (kds.map fun p => kD p.1) (fun _ => True) μ1) : WI K (iKeys td) δ μ PI := fun σ H ok R f =>
  h σ H ok _ fun v H1 x μ1 s1 m1 r1 ⟨kds, e, p⟩ => by
    subst e
    cases r1 with
    | @dct a o kvs _ _ hq he hl =>
      refine ⟨_, _, rfl, .inl ⟨_, hq, f _ H1 _ _ μ1 s1 m1 (fun H2 μ2 s2 m2 _ => ?_) p⟩⟩
      have hw := (ps_step m1 s2).2.2 _ _ _ hq
      have hlen : kvs.length = kds.length := by have := congrArg List.length he; rwa [List.length_map, List.length_map] at this
      refine ⟨fun i hi => ⟨hw, by rw [hlen]; rwa [List.length_map] at hi⟩, fun i d hd => ?_⟩
      rw [List.getElem?_map] at hd
      cases hk : kds[i]? with
      | none => rw [hk] at hd; cases hd
      | some kd =>
        rw [hk] at hd
        cases hd
        have hi := (List.getElem?_eq_some_iff.mp hk).1
        have hkv : kvs[i]? = some (kvs[i]'(by omega)) := List.getElem?_eq_getElem (by omega)
        have e1 : (kvs[i]'(by omega)).1 = kd.1 := by
          have h1 := congrArg (fun l : List Key => l[i]?) he
          simp only [List.getElem?_map, hkv, hk, Option.map_some] at h1
          exact Option.some.inj h1
        refine ⟨⟨hw, by omega⟩, fun x H' hy => ?_⟩
        obtain ⟨e2, k, v, e3, e4⟩ := hy
        subst e2 e4
        rw [hkv] at e3
        have e5 : (kvs[i]'(by omega)) = (k, v) := Option.some.inj e3
        rw [e5] at e1
        simp only at e1
        subst e1
        refine ⟨.refl, m2, ?_⟩
        exact den_key _
theorem keys_in {kds : List (Key × D)} {PI : List D → (Mu → Prop) → Mu → Prop} (q : PI (kds.map fun p => kD p.1) (fun _ => True) μ) : ∃ kds' : List (Key × D), dD kds = dD kds' ∧ PI (kds'.map fun p => kD p.1) (fun _ => True) μ := ⟨kds, rfl, q⟩
/-- dicts of numbers by numbers -/
def nkv (w : List (Nat × Int)) : List (Key × D) := w.map fun p => (.inl (p.1 : Int), .int p.2)
theorem nkv_keys (w : List (Nat × Int)) : (nkv w).map (fun p => kD p.1) = (w.map (·.1)).map fun k : Nat => D.int (k : Int) := by
  unfold nkv; rw [List.map_map, List.map_map]; rfl
theorem nkv_val {w : List (Nat × Int)} {k : Nat} {v : Int} (nd : (w.map (·.1)).Nodup) (h : (k, v) ∈ w) : valD (nkv w) (.inl (k : Int)) = some (.int v) := by
  induction w with
  | nil => cases h
  | cons p r ih =>
    rw [List.map_cons] at nd
    obtain ⟨n1, n2⟩ := List.nodup_cons.mp nd
    show valD ((.inl (p.1 : Int), .int p.2) :: nkv r) _ = _
    rcases List.mem_cons.mp h with e | h
    · subst e
      exact valD_here
    · refine valD_next (fun z => ?_) (ih n2 h)
      have : (p.1 : Int) = k := Sum.inl.inj z
      have : p.1 = k := by omega
      exact n1 (this ▸ List.mem_map.mpr ⟨_, h, rfl⟩)
theorem nkv_put {w : List (Nat × Int)} {k : Nat} {v : Int} (h : k ∉ w.map (·.1)) : putD (nkv w) (.inl (k : Int)) (.int v) = nkv (w ++ [(k, v)]) := by
  unfold putD
  rw [if_neg]
  · unfold nkv; rw [List.map_append]; rfl
  · intro z
    obtain ⟨x, hx, e⟩ := List.any_eq_true.mp z
    unfold nkv at hx
    obtain ⟨p, hp, rfl⟩ := List.mem_map.mp hx
    have : (p.1 : Int) = k := Sum.inl.inj (of_decide_eq_true e)
    have : p.1 = k := by omega
    exact h (this ▸ List.mem_map.mpr ⟨p, hp, rfl⟩)
theorem flat_lis {n : Nat} {ds : List D} (h : ∀ x ∈ ds, x.flat n) : (D.lis ds).flat (n + 1) := by
  obtain ⟨b1, b2, b3⟩ := flat_L h
  exact ⟨b1, b2, Nat.succ_le_succ b3⟩
theorem flat_map {α : Type} {n : Nat} {f : α → D} {es : List α} (h : ∀ x ∈ es, (f x).flat n) : ∀ x ∈ es.map f, x.flat n := fun x hx => by
  obtain ⟨z, hz, rfl⟩ := List.mem_map.mp hx
  exact h z hz
theorem flat_list2 {n : Nat} {x y : D} (hx : x.flat n) (hy : y.flat n) : ∀ z ∈ [x, y], z.flat n := fun z hz => by
  simp only [List.mem_cons, List.not_mem_nil, or_false] at hz
  rcases hz with rfl | rfl <;> assumption
theorem flat_list3 {n : Nat} {x y u : D} (hx : x.flat n) (hy : y.flat n) (hu : u.flat n) : ∀ z ∈ [x, y, u], z.flat n := fun z hz => by
  simp only [List.mem_cons, List.not_mem_nil, or_false] at hz
  rcases hz with rfl | rfl | rfl <;> assumption
theorem flat_list4 {n : Nat} {x y u v : D} (hx : x.flat n) (hy : y.flat n) (hu : u.flat n) (hv : v.flat n) : ∀ z ∈ [x, y, u, v], z.flat n := fun z hz => by
  simp only [List.mem_cons, List.not_mem_nil, or_false] at hz
  rcases hz with rfl | rfl | rfl | rfl <;> assumption
end
end Wk

set_option Elab.async false
set_option linter.all false
set_option maxRecDepth 100000
set_option maxHeartbeats 4000000
namespace Wk
open PySem PySem.Spec L2 WkE PyProof.Rows
/-! ### a tuple some times, none and once too -/
theorem tup_mul1 (l : Addr) (items : Array Value) (n : Nat) (dd : Option Addr) (sl : Array (Option Value)) (u : Tok) :
    Meets (Builtin.«tuple.__mul__» ⟨[.ref l, .int 1 u], []⟩) (fun _ R s => s.heap.get? l = some { cls := .type "tuple", dict := dd, data := .seq items n, slots := sl } ∧ R (.ok (.ret (Value.ref l))) s) :=
  .of_wp fun prog w A R s h => by
    obtain ⟨hp, g, d, tk, os⟩ := s
    obtain ⟨hl, h⟩ := h
    have f1 := AutoSeq1.idx_int
    wp_walk using wpAny_loadPart' hl
    exact ⟨_, rfl, h⟩
theorem tup_mul0 (l : Addr) (items : Array Value) (n : Nat) (dd : Option Addr) (sl : Array (Option Value)) (u : Tok) (he : items.isEmpty = false) :
    Meets (Builtin.«tuple.__mul__» ⟨[.ref l, .int 0 u], []⟩) (fun _ R s => s.heap.get? l = some { cls := .type "tuple", dict := dd, data := .seq items n, slots := sl } ∧ R (.ok (.ret (Value.ref s.heap.objs.size))) { s with heap := s.heap.push { cls := Value.type "tuple", data := Data.seq #[] }, toks := s.toks }) :=
  .of_wp fun prog w A R s h => by
    obtain ⟨hp, g, d, tk, os⟩ := s
    obtain ⟨hl, h⟩ := h
    have f1 := AutoSeq1.idx_int
    have c1 : (items.isEmpty || (0 : Int) == 1) = false := by rw [he]; rfl
    wp_walk using wpAny_loadPart' hl
    exact ⟨_, rfl, h⟩
def rRepU (K : PySem.W.Frag) : R2 := fun x y H Q => ∃ (l : Addr) (k : Int) (xs : List V), x = .ref l ∧ y = .int k ∧ SqT K H l xs ∧ xs ≠ [] ∧ 0 ≤ k ∧ k ≤ 1000 ∧ xs.length ≤ 1000 ∧ (k = 1 → Q (.ref l) H) ∧ (k ≠ 1 → ∀ p, H p = none → Q (.ref p) (upd H p (.tup (List.replicate k.toNat xs).flatten)))
theorem k_repU {X : Cx} {K : PySem.W.Frag} (h : X.K = K) : OpR X (binaryOp .Mult) (rRepU K) := by
  subst h
  intro pins s σ H x y v u Q I rx ry h
  obtain ⟨l, k, xs, rfl, rfl, hT, hne, h1, h2, hz, q1, q⟩ := h
  by_cases k2 : 2 ≤ k
  · exact op_repT pins s σ H _ _ v u Q I rx ry ⟨l, k, xs, rfl, rfl, hT, hne, k2, h2, hz, q (by omega)⟩
  cases rx
  obtain ⟨t, rfl⟩ := ry
  obtain ⟨its, r, ⟨⟨cls, dd, data, sl⟩, ho, hc, n, hd⟩, hs⟩ := I.tuple hT
  simp only at hc hd
  subst hc hd
  have hle := r.length
  have hi : its.toArray.isEmpty = false := by
    cases its with
    | nil => exact absurd (List.eq_nil_of_length_eq_zero hle) hne
    | cons a b => rfl
  have hk : k = 0 ∨ k = 1 := by omega
  rcases hk with rfl | rfl
  · refine wpAny_binaryOp_repeat_ref (T := "tuple") (U := "int") (by decide) ⟨_, ho, rfl⟩ (fun s' => typeIs_int s' 0 t) noFill_tuple_mul F.fills_int_mul F.slot_int_rmul repeat_tuple F.slot_int_index.lookup
      (call_meets F.slot_int_rmul (typeIs_int s 0 t) F.entry_int_rmul (F.args_int_rmul_2 _ _) (int_rmul_tuple 0 t l its.toArray n dd sl)
        ⟨ho, rfl, ⟨_, ho, rfl⟩, call_meets F.slot_tuple_mul ⟨_, ho, rfl⟩ F.entry_tuple_mul (F.args_tuple_mul_2 _ _) (tup_mul0 l its.toArray n dd sl t hi) ⟨ho, ?_⟩⟩)
    refine ⟨.ref s.heap.objs.size, _, I.laid (t' := s.toks) (o := .tup (List.replicate (0 : Int).toNat xs).flatten) (fun b ob q => Heap.get?_push_of_some _ q) (Nat.le_refl _) ?_, rfl, q (by decide) _ (I.hok.fresh (Nat.le_refl _))⟩
    exact ⟨Nat.zero_le _, [], .nil, IsTup.new _ _⟩
  · refine wpAny_binaryOp_repeat_ref (T := "tuple") (U := "int") (by decide) ⟨_, ho, rfl⟩ (fun s' => typeIs_int s' 1 t) noFill_tuple_mul F.fills_int_mul F.slot_int_rmul repeat_tuple F.slot_int_index.lookup
      (call_meets F.slot_int_rmul (typeIs_int s 1 t) F.entry_int_rmul (F.args_int_rmul_2 _ _) (int_rmul_tuple 1 t l its.toArray n dd sl)
        ⟨ho, rfl, ⟨_, ho, rfl⟩, call_meets F.slot_tuple_mul ⟨_, ho, rfl⟩ F.entry_tuple_mul (F.args_tuple_mul_2 _ _) (tup_mul1 l its.toArray n dd sl t) ⟨ho, ?_⟩⟩)
    exact ⟨.ref l, H, I, rfl, q1 rfl⟩
theorem w2_repU {K : PySem.W.Frag} {μ : Mu} {P : D → Mu → Prop} {d : D} {i : Int} {n : Nat} (hi : i = (n : Int)) (hz : n ≤ 1000) (q : P (.tup (List.replicate n d)) μ) : W2 K (rRepU K) (.tup [d]) (.int i) μ P := fun H v u m r1 r2 Q k => by
  subst hi
  cases r2
  cases r1 with
  | tup hs_ hl =>
    have hs := TpA.sqt hs_
    have hl0 := hl
    cases hl with
    | cons r rr =>
      cases rr
      refine ⟨_, _, _, rfl, rfl, hs, by simp, by omega, by omega, by simp, fun e => ?_, fun _ p hp => ?_⟩
      · have e2 : n = 1 := by omega
        subst e2
        exact k _ H _ μ .refl m (.tup hs_ hl0) q
      · rw [Int.toNat_natCast]
        exact k _ _ _ _ (step_new hp) (m.new hp) (.tup upd_same ((den_rep r n).step m (step_new hp))) q
end Wk

set_option Elab.async false
set_option linter.all false
set_option maxRecDepth 100000
namespace WkE
open PySem PySem.Spec L2 PyProof.Rows
/-! == and != with a tuple, or a list, that is empty: whatever the other's items are -/
def eNil (K : PySem.W.Frag) (x y : V) (H : Hp) (b : Bool) : Prop := ∃ p q xs, x = .ref p ∧ y = .ref q ∧ b = xs.isEmpty ∧ ((SqT K H p xs ∧ SqT K H q []) ∨ (SqL K H p xs ∧ SqL K H q []))
def rEqU (K : PySem.W.Frag) : R2 := fun x y H Q => rEqD K x y H Q ∨ ∃ b, eNil K x y H b ∧ Q (.bl b) H
def rNeU (K : PySem.W.Frag) : R2 := fun x y H Q => rNeD K x y H Q ∨ ∃ b, eNil K x y H b ∧ Q (.bl (!b)) H
section
variable {X : Cx}
theorem vals_nil {us : List Value} (r : Vals [] us) : us = [] := by cases r; rfl
theorem vals_size {xs : List V} {us : List Value} (r : Vals xs us) : us.isEmpty = xs.isEmpty := by cases r <;> rfl
theorem op_eqU {K : PySem.W.Frag} (hK : X.K = K) (hu : X.A.units + 64 < cLine) : OpR X (compareOp .Eq) (rEqU K) := by
  subst hK
  intro pins s σ H x y v u Q I rx ry h
  rcases h with h | ⟨b, ⟨p, q, xs, rfl, rfl, hb, h⟩, hq⟩
  · exact op_eqD hu pins s σ H x y v u Q I rx ry h
  · cases rx
    cases ry
    have hu2 : X.A.units < cLine := by omega
    rcases h with ⟨h1, h2⟩ | ⟨h1, h2⟩
    · obtain ⟨i1, r1, p1, _⟩ := I.tuple h1
      obtain ⟨i2, r2, p2, _⟩ := I.tuple h2
      have e2 := vals_nil r2
      subst e2
      have e1 := vals_size r1
      refine SeqAt.RcAt.tuples (e := fun _ => true) p1 p2 hu2 (fun j _ h2 => absurd h2 (Nat.not_lt_zero _)) X.prog X.w _ _ ?_
      refine ⟨.bl _, H, I, rfl, ?_⟩
      have e : ((List.range (min i1.toArray.size ([] : List Value).toArray.size)).all (fun _ => true) && i1.toArray.size == ([] : List Value).toArray.size) = b := by
        rw [hb, ← e1]
        cases i1 <;> simp
      rw [e]; exact hq
    · obtain ⟨i1, r1, p1, _⟩ := I.list h1
      obtain ⟨i2, r2, p2, _⟩ := I.list h2
      have e2 := vals_nil r2
      subst e2
      have e1 := vals_size r1
      by_cases hs : i1.toArray.size = ([] : List Value).toArray.size
      · refine SeqAt.RcAt.lists (e := fun _ => true) p1.isList p2.isList hs hu2 (fun j _ h2 => absurd h2 (Nat.not_lt_zero _)) X.prog X.w _ _ ?_
        refine ⟨.bl _, H, I, rfl, ?_⟩
        have e : ((List.range i1.toArray.size).all fun _ => true) = b := by
          rw [hb, ← e1]
          cases i1 with
          | nil => rfl
          | cons _ _ => simp at hs
        rw [e]; exact hq
      · refine SeqAt.RcAt.lists_lengths p1.isList p2.isList (by simpa using hs) hu2 X.prog X.w _ _ ?_
        refine ⟨.bl _, H, I, rfl, ?_⟩
        have e : false = b := by
          rw [hb, ← e1]
          cases i1 with
          | nil => exact absurd rfl hs
          | cons _ _ => rfl
        rw [e]; exact hq
theorem op_neU {K : PySem.W.Frag} (hK : X.K = K) (hu : X.A.units + 64 < cLine) : OpR X (compareOp .NotEq) (rNeU K) := by
  subst hK
  intro pins s σ H x y v u Q I rx ry h
  rcases h with h | ⟨b, ⟨p, q, xs, rfl, rfl, hb, h⟩, hq⟩
  · exact op_neD hu pins s σ H x y v u Q I rx ry h
  · cases rx
    cases ry
    have hu2 : X.A.units < cLine := by omega
    rcases h with ⟨h1, h2⟩ | ⟨h1, h2⟩
    · obtain ⟨i1, r1, p1, _⟩ := I.tuple h1
      obtain ⟨i2, r2, p2, _⟩ := I.tuple h2
      have e2 := vals_nil r2
      subst e2
      have e1 := vals_size r1
      refine SeqAt.RcNeAt.tuples (e := fun _ => true) p1 p2 hu2 (fun j _ h2 => absurd h2 (Nat.not_lt_zero _)) X.prog X.w _ _ ?_
      refine ⟨.bl _, H, I, rfl, ?_⟩
      have e : (!((List.range (min i1.toArray.size ([] : List Value).toArray.size)).all (fun _ => true) && i1.toArray.size == ([] : List Value).toArray.size)) = !b := by
        rw [hb, ← e1]
        cases i1 <;> simp
      rw [e]; exact hq
    · obtain ⟨i1, r1, p1, _⟩ := I.list h1
      obtain ⟨i2, r2, p2, _⟩ := I.list h2
      have e2 := vals_nil r2
      subst e2
      have e1 := vals_size r1
      by_cases hs : i1.toArray.size = ([] : List Value).toArray.size
      · refine SeqAt.RcNeAt.lists (e := fun _ => true) p1.isList p2.isList hs hu2 (fun j _ h2 => absurd h2 (Nat.not_lt_zero _)) X.prog X.w _ _ ?_
        refine ⟨.bl _, H, I, rfl, ?_⟩
        have e : (!((List.range i1.toArray.size).all fun _ => true)) = !b := by
          rw [hb, ← e1]
          cases i1 with
          | nil => rfl
          | cons _ _ => simp at hs
        rw [e]; exact hq
      · refine SeqAt.RcNeAt.lists_lengths p1.isList p2.isList (by simpa using hs) hu2 X.prog X.w _ _ ?_
        refine ⟨.bl _, H, I, rfl, ?_⟩
        have e : true = !b := by
          rw [hb, ← e1]
          cases i1 with
          | nil => exact absurd rfl hs
          | cons _ _ => rfl
        rw [e]; exact hq
end
end WkE
namespace Wk
open PySem PySem.Spec L2 WkE
section
variable {K : PySem.W.Frag} {μ : Mu} {P : D → Mu → Prop} {x y : D} {xs : List D}
theorem w2_eqUd (h : W2 K (rEqD K) x y μ P) : W2 K (rEqU K) x y μ P := fun H v u m r1 r2 Q k => .inl (h H v u m r1 r2 Q k)
theorem w2_neUd (h : W2 K (rNeD K) x y μ P) : W2 K (rNeU K) x y μ P := fun H v u m r1 r2 Q k => .inl (h H v u m r1 r2 Q k)
theorem denl_empty {H : Hp} {vs : List V} {ds : List D} (h : DenL K H vs ds) : vs.isEmpty = ds.isEmpty := by cases h <;> rfl
theorem denl_nil {H : Hp} {vs : List V} (h : DenL K H vs []) : vs = [] := by cases h; rfl
theorem w2_eqUt (q : P (.bl xs.isEmpty) μ) : W2 K (rEqU K) (.tup xs) (.tup []) μ P := fun H v u m r1 r2 Q k => by
  cases r1 with
  | tup h1_ l1 =>
    have h1 := TpA.sqt h1_
    cases r2 with
    | tup h2_ l2 =>
      have h2 := TpA.sqt h2_
      have e2 := denl_nil l2
      subst e2
      exact .inr ⟨_, ⟨_, _, _, rfl, rfl, (denl_empty l1).symm, .inl ⟨h1, h2⟩⟩, k _ H _ μ .refl m (.bl _) q⟩
theorem w2_neUt (q : P (.bl (!xs.isEmpty)) μ) : W2 K (rNeU K) (.tup xs) (.tup []) μ P := fun H v u m r1 r2 Q k => by
  cases r1 with
  | tup h1_ l1 =>
    have h1 := TpA.sqt h1_
    cases r2 with
    | tup h2_ l2 =>
      have h2 := TpA.sqt h2_
      have e2 := denl_nil l2
      subst e2
      exact .inr ⟨_, ⟨_, _, _, rfl, rfl, (denl_empty l1).symm, .inl ⟨h1, h2⟩⟩, k _ H _ μ .refl m (.bl _) q⟩
theorem w2_eqUl {a b : Addr} (ha : Lk xs μ a) (hb : Lk [] μ b) (q : P (.bl xs.isEmpty) μ) : W2 K (rEqU K) (.ref a) (.ref b) μ P := fun H v u m r1 r2 Q k => by
  cases r1
  cases r2
  obtain ⟨_, h1⟩ := ha
  obtain ⟨_, h2⟩ := hb
  obtain ⟨vs, hv, hl⟩ := m.at h1
  obtain ⟨ws, hw, hl'⟩ := m.at h2
  have e2 := denl_nil hl'
  subst e2
  exact .inr ⟨_, ⟨_, _, _, rfl, rfl, (denl_empty hl).symm, .inr ⟨.inl (.inl hv), .inl (.inl hw)⟩⟩, k _ H _ μ .refl m (.bl _) q⟩
theorem w2_neUl {a b : Addr} (ha : Lk xs μ a) (hb : Lk [] μ b) (q : P (.bl (!xs.isEmpty)) μ) : W2 K (rNeU K) (.ref a) (.ref b) μ P := fun H v u m r1 r2 Q k => by
  cases r1
  cases r2
  obtain ⟨_, h1⟩ := ha
  obtain ⟨_, h2⟩ := hb
  obtain ⟨vs, hv, hl⟩ := m.at h1
  obtain ⟨ws, hw, hl'⟩ := m.at h2
  have e2 := denl_nil hl'
  subst e2
  exact .inr ⟨_, ⟨_, _, _, rfl, rfl, (denl_empty hl).symm, .inr ⟨.inl (.inl hv), .inl (.inl hw)⟩⟩, k _ H _ μ .refl m (.bl _) q⟩
/-! data: no addresses in sight -/
mutual
def D.thg : D → Bool
  | .non => true | .bl _ => true | .int _ => true | .str _ => true | .tup ds => D.thgL ds | .ref _ => false | .ty _ => false | .scr _ => false | .lis ds => D.thgL ds | .dct _ _ => true
def D.thgL : List D → Bool
  | [] => true | d :: ds => d.thg && D.thgL ds
end
theorem thgL_iff : ∀ {ds : List D}, D.thgL ds = true ↔ ∀ d ∈ ds, d.thg = true
  | [] => ⟨fun _ _ h => (nomatch h), fun _ => rfl⟩
  | d :: ds => by
    show (d.thg && D.thgL ds) = true ↔ _
    rw [Bool.and_eq_true, thgL_iff (ds := ds)]
    constructor
    · rintro ⟨h1, h2⟩ x hx
      rcases List.mem_cons.mp hx with rfl | hx
      · exact h1
      · exact h2 x hx
    · intro h
      exact ⟨h d List.mem_cons_self, fun x hx => h x (List.mem_cons_of_mem _ hx)⟩
theorem thg_tup {ds : List D} : (D.tup ds).thg = true ↔ ∀ d ∈ ds, d.thg = true := thgL_iff
theorem thg_lis {ds : List D} : (D.lis ds).thg = true ↔ ∀ d ∈ ds, d.thg = true := thgL_iff
theorem thg_app {xs ys : List D} (h1 : D.thgL xs = true) (h2 : D.thgL ys = true) : D.thgL (xs ++ ys) = true := thgL_iff.mpr fun d hd => by
  rcases List.mem_append.mp hd with h | h
  · exact thgL_iff.mp h1 d h
  · exact thgL_iff.mp h2 d h
theorem cut_sub {xs : List D} {lo hi : Option Int} : ∀ d ∈ cutD xs lo hi, d ∈ xs := fun d hd => List.mem_of_mem_drop (List.mem_of_mem_take hd)
theorem thg_cut {xs : List D} {lo hi : Option Int} (h : D.thgL xs = true) : D.thgL (cutD xs lo hi) = true := thgL_iff.mpr fun d hd => thgL_iff.mp h d (cut_sub d hd)
theorem cut_len {xs : List D} {lo hi : Option Int} : (cutD xs lo hi).length ≤ xs.length := by
  unfold cutD
  rw [List.length_take, List.length_drop]; omega
/-- whole numbers -/
def wholeD : D → Bool
  | .int _ => true
  | _ => false
theorem wholeD_ex {x : D} (h : wholeD x = true) : ∃ i, x = .int i := by
  cases x <;> first | exact ⟨_, rfl⟩ | cases h
theorem den_reps {H : Hp} {vs : List V} {ds : List D} (r : DenL K H vs ds) : ∀ n : Nat, DenL K H (List.replicate n vs).flatten (List.replicate n ds).flatten
  | 0 => .nil
  | n + 1 => by
    rw [List.replicate_succ, List.replicate_succ, List.flatten_cons, List.flatten_cons]
    exact DenL.append r (den_reps r n)
theorem w2_repG {ds : List D} {i : Int} {n : Nat} (hn : ds ≠ []) (hl9 : ds.length ≤ 1000) (hi : i = (n : Int)) (hz : n ≤ 1000) (q : P (.tup (List.replicate n ds).flatten) μ) : W2 K (rRepU K) (.tup ds) (.int i) μ P := fun H v u m r1 r2 Q k => by
  subst hi
  cases r2
  cases r1 with
  | tup hs_ hl =>
    have hs := TpA.sqt hs_
    have hlen := hl.length
    refine ⟨_, _, _, rfl, rfl, hs, fun e => hn (by rw [e] at hlen; exact List.eq_nil_of_length_eq_zero hlen.symm), by omega, by omega, by omega, fun e => ?_, fun _ p hp => ?_⟩
    · have e2 : n = 1 := by omega
      subst e2
      rw [show (List.replicate 1 ds).flatten = ds from by simp] at q
      exact k _ H _ μ .refl m (.tup hs_ hl) q
    · rw [Int.toNat_natCast]
      exact k _ _ _ _ (step_new hp) (m.new hp) (.tup upd_same ((den_reps hl n).step m (step_new hp))) q
theorem wc_isiUt {ds : List D} {c : String} (hz : kitB "list" c = some true) (q : P (.bl true) μ) : WC K (rIsi K) [.lis ds, .ty c] μ P := wc_isi (n := "list") rfl (by decide) hz q
theorem wc_isiUf {ds : List D} {c : String} (hz : kitB "list" c = some false) (q : P (.bl false) μ) : WC K (rIsi K) [.lis ds, .ty c] μ P := wc_isi (n := "list") rfl (by decide) hz q
theorem wc_isiVt {ks : List Key} {ds : List D} {c : String} (hz : kitB "dict" c = some true) (q : P (.bl true) μ) : WC K (rIsi K) [.dct ks ds, .ty c] μ P := wc_isi (n := "dict") rfl (by decide) hz q
theorem wc_isiVf {ks : List Key} {ds : List D} {c : String} (hz : kitB "dict" c = some false) (q : P (.bl false) μ) : WC K (rIsi K) [.dct ks ds, .ty c] μ P := wc_isi (n := "dict") rfl (by decide) hz q
/-! over plain data -/
variable {δ : Dl} {te : TE} {tt : TT} {g : TG} {ts : TS} {N : Dl → Mu → Prop} {R : D → Mu → Prop} {μ1 : Mu}
theorem lcMd {r : D → D} {es : List D} {vs : List Nat} {G : Mu → Prop} (hl : es.length < sizeLine) (hG : ∀ p acc, G ((p, .lst acc) :: μ1))
    (hs : ∀ x, x ∈ es → ∀ p acc, WG K g x (wipeD δ vs) ((p, .lst acc) :: μ1) fun δ2 μ2 => W K te δ2 μ2 fun y μ4 => y = r x ∧ Weak μ4 ((p, .lst acc) :: μ1))
    (q : ∀ p, P (.ref p) ((p, .lst (es.map r)) :: μ1)) : LcP K δ vs g tYes te P es G μ1 := by
  have h := lcM (f := fun x => x) hl hG hs q
  rwa [List.map_id'] at h
theorem lcFd {r : D → D} {es : List D} {c : D → Bool} {vs : List Nat} {G : Mu → Prop} (hl : es.length < sizeLine) (hG : ∀ p acc, G ((p, .lst acc) :: μ1))
    (hs : ∀ x, x ∈ es → ∀ p acc, WG K g x (wipeD δ vs) ((p, .lst acc) :: μ1) fun δ2 μ2 => WT K tt δ2 μ2 fun b μ3 => b = c x ∧ Weak μ3 ((p, .lst acc) :: μ1) ∧ (c x = true → W K te δ2 μ3 fun y μ4 => y = r x ∧ Weak μ4 ((p, .lst acc) :: μ1)))
    (q : ∀ p, P (.ref p) ((p, .lst ((es.filter c).map r)) :: μ1)) : LcP K δ vs g tt te P es G μ1 := by
  have h := lcF (f := fun x => x) hl hG hs q
  rwa [List.map_id'] at h
theorem forD {es : List D} {G : Mu → Prop} (I : List D → Dl → Mu → Prop) (h0 : ∃ δ0 μ0, LeD δ0 δ ∧ Weak μ1 μ0 ∧ I [] δ0 μ0) (hG : ∀ pre δ' μ', I pre δ' μ' → G μ')
    (hs : ∀ pre x suf δ' μ', es = pre ++ x :: suf → I pre δ' μ' → WG K g x δ' μ' fun δ2 μ2 => S4 K ts δ2 μ2 (fun δ3 μ3 => ∃ δ4 μ4, LeD δ4 δ3 ∧ Weak μ3 μ4 ∧ I (pre ++ [x]) δ4 μ4) R N (fun δ3 μ3 => ∃ δ4 μ4, LeD δ4 δ3 ∧ Weak μ3 μ4 ∧ I (pre ++ [x]) δ4 μ4))
    (hd : ∀ δ' μ', I es δ' μ' → N δ' μ') : ForP K δ g ts N R es G μ1 := by
  have h := forMm (f := fun x => x) I h0 hG hs hd
  rwa [List.map_id'] at h
theorem w2_ixKd {ds : List D} {a : Addr} {i : Int} (hm : Lk ds μ a) (h0 : 0 ≤ i) (h1 : i < ds.length) (q : ∀ x ∈ ds, P x μ) : W2 K (rIx K) (.ref a) (.int i) μ P := by
  obtain ⟨k, rfl⟩ := Int.eq_ofNat_of_zero_le h0
  have hk : k < ds.length := by omega
  exact w2_ixK hm (d := ds[k]) (by
    unfold atI ixN
    rw [if_pos (by omega), if_pos (by omega)]
    show ds[(k : Int).toNat]? = _
    rw [Int.toNat_natCast, List.getElem?_eq_getElem hk]) (q _ (List.getElem_mem hk))
theorem w2_ixTd {ds : List D} {i : Int} (h0 : 0 ≤ i) (h1 : i < ds.length) (q : ∀ x ∈ ds, P x μ) : W2 K (rIx K) (.tup ds) (.int i) μ P := by
  obtain ⟨k, rfl⟩ := Int.eq_ofNat_of_zero_le h0
  have hk : k < ds.length := by omega
  exact w2_ixT (d := ds[k]) (by
    unfold atI ixN
    rw [if_pos (by omega), if_pos (by omega)]
    show ds[(k : Int).toNat]? = _
    rw [Int.toNat_natCast, List.getElem?_eq_getElem hk]) (q _ (List.getElem_mem hk))
theorem forEd {es : List D} {G : Mu → Prop} (I : List D → Dl → Mu → Prop) (h0 : ∃ δ0 μ0, LeD δ0 δ ∧ Weak μ1 μ0 ∧ I [] δ0 μ0) (hG : ∀ pre δ' μ', I pre δ' μ' → G μ')
    (hs : ∀ pre x suf δ' μ', es = pre ++ x :: suf → I pre δ' μ' → WG K g (.tup [.int (pre.length : Nat), x]) δ' μ' fun δ2 μ2 => S4 K ts δ2 μ2 (fun δ3 μ3 => ∃ δ4 μ4, LeD δ4 δ3 ∧ Weak μ3 μ4 ∧ I (pre ++ [x]) δ4 μ4) R N (fun δ3 μ3 => ∃ δ4 μ4, LeD δ4 δ3 ∧ Weak μ3 μ4 ∧ I (pre ++ [x]) δ4 μ4))
    (hd : ∀ δ' μ', I es δ' μ' → N δ' μ') : ForP K δ g ts N R (enumD es) G μ1 := by
  have h := forE (f := fun x => x) I h0 hG hs hd
  rwa [List.map_id'] at h
end
end Wk

set_option Elab.async false
set_option linter.all false
set_option maxRecDepth 100000
set_option maxHeartbeats 2000000
/-! repr of things: lists, dicts, texts too -/
namespace WkE
open PySem PySem.Spec L2 PyProof.Rows Wk
def kpz : Key → PyData
  | .inl i => .int i
  | .inr s => .str s
mutual
inductive Dz (K : PySem.W.Frag) (H : Hp) : V → PyData → Prop
  | non : Dz K H .non .none
  | bl (b : Bool) : Dz K H (.bl b) (.bool b)
  | int (i : Int) : Dz K H (.int i) (.int i)
  | str (x : Str) : Dz K H (.str x) (.str x)
  | lst {a : Addr} {o : Obj} {xs : List V} {ds : List PyData} : H a = some (.frz o (.lst xs)) → DzA K H xs ds → Dz K H (.ref a) (.list ds)
  | tup {a : Addr} {xs : List V} {ds : List PyData} : SqT K H a xs → DzA K H xs ds → Dz K H (.ref a) (.tuple ds)
  | dct {a : Addr} {o : Obj} {kvs : List (Key × V)} {ds : List (PyData × PyData)} : H a = some (.frz o (.dK kvs)) → DzA K H (kvs.map fun p => kV p.1) (ds.map (·.1)) → DzA K H (kvs.map (·.2)) (ds.map (·.2)) → Dz K H (.ref a) (.dict ds)
inductive DzA (K : PySem.W.Frag) (H : Hp) : List V → List PyData → Prop
  | nil : DzA K H [] []
  | cons {v : V} {vs : List V} {d : PyData} {ds : List PyData} : Dz K H v d → DzA K H vs ds → DzA K H (v :: vs) (d :: ds)
end
theorem DzA.keys {K : PySem.W.Frag} {H : Hp} : ∀ ks : List Key, DzA K H (ks.map kV) (ks.map kpz)
  | [] => .nil
  | .inl i :: ks => .cons (.int i) (DzA.keys ks)
  | .inr s :: ks => .cons (.str s) (DzA.keys ks)
section
variable {X : Cx} {pins : List (Addr × Obj)} {σ : L2.St} {H : Hp} {s : Shared}
theorem nosys (I : Inv X pins σ H s) (hs : ∃ m, X.base.Ns sysModules m) {a : Addr} {u : HO} (h : H a = some u) : a ≠ sysModules := fun e => by
  obtain ⟨_, o, _, _, ho, _⟩ := hs
  have := (I.bs sysModules o ho).2
  rw [← e, h] at this; cases this
theorem pairs_keys {P : Program} {w : World} : ∀ {es : List DictEntry} {vs : List (Key × Value)}, Pairs (mixKind P w) es vs → ∀ {ks : List Key}, vs.map (·.1) = ks → Vals (ks.map kV) (es.map (·.key)) ∧ es.map (·.val) = vs.map (·.2)
  | _, _, .nil, ks, e => by subst e; exact ⟨.nil, rfl⟩
  | _, _, .cons h1 h2 r, ks, e => by
    subst e
    obtain ⟨a, b⟩ := pairs_keys r rfl
    exact ⟨.cons (relV_key h1) a, by rw [List.map_cons, List.map_cons, h2, b]⟩
theorem kv_vals : ∀ {kvs : List (Key × V)} {vs : List (Key × Value)}, KV kvs vs → vs.map (·.1) = kvs.map (·.1) ∧ Vals (kvs.map (·.2)) (vs.map (·.2))
  | _, _, .nil => ⟨rfl, .nil⟩
  | _, _, .cons h r => by
    obtain ⟨a, b⟩ := kv_vals r
    exact ⟨by rw [List.map_cons, List.map_cons, h.1, a], .cons h.2 b⟩
mutual
theorem Dz.reads (I : Inv X pins σ H s) (hs : ∃ m, X.base.Ns sysModules m) : ∀ {d : PyData} {v : V} {u : Value}, Dz X.K H v d → RelV v u → ∃ as, Reads s.heap u d as ∧ sysModules ∉ as
  | _, _, _, .non, r => by
    cases r
    exact ⟨_, Reads.none, List.not_mem_nil⟩
  | _, _, _, .bl b, r => by
    cases r
    exact ⟨_, Reads.bool b, List.not_mem_nil⟩
  | _, _, _, .int i, r => by
    obtain ⟨t, rfl⟩ := r
    exact ⟨_, Reads.int i t, List.not_mem_nil⟩
  | _, _, _, .str x, r => by
    obtain ⟨t, rfl⟩ := r
    exact ⟨_, Reads.str x t, List.not_mem_nil⟩
  | _, _, _, .lst h ha, r => by
    cases r
    obtain ⟨its, rv, ⟨o, n, ho, hc, _, hd⟩, _⟩ := I.list (.inl (.inr ⟨_, h⟩))
    obtain ⟨as, hr, hn⟩ := DzA.reads I hs ha rv
    exact ⟨_, Reads.list ho hc hd hr, fun z => by
      rcases List.mem_cons.mp z with z | z
      · exact nosys I hs h z.symm
      · exact hn z⟩
  | _, _, _, .tup h ha, r => by
    cases r
    obtain ⟨its, rv, ⟨o, ho, hc, n, hd⟩, _⟩ := I.tuple h
    obtain ⟨as, hr, hn⟩ := DzA.reads I hs ha rv
    exact ⟨_, Reads.tuple ho hc hd hr, hn⟩
  | _, _, _, .dct (kvs := kvs) h hk ha, r => by
    cases r
    obtain ⟨h1, hd, hx, es, ep, vs, hdt, hz, kv, o', es', ho', hx', hdt', _, pr, _⟩ := I.frzK h
    rw [hd] at ho'
    cases ho'
    rw [hdt] at hdt'
    cases hdt'
    obtain ⟨k1, k2⟩ := kv_vals kv
    obtain ⟨p1, p2⟩ := pairs_keys pr k1
    have p1' : Vals (kvs.map fun p => kV p.1) (es.toList.map (·.key)) := by rw [List.map_map] at p1; exact p1
    obtain ⟨as, hr, hn⟩ := DzA.reads I hs hk p1'
    obtain ⟨bs, hr2, hn2⟩ := DzA.reads I hs ha (us := es.toList.map (·.val)) (by rw [p2]; exact k2)
    exact ⟨_, Reads.dict hd hx.1 hdt hr hr2, fun z => by
      rcases List.mem_append.mp z with z | z
      · rcases List.mem_cons.mp z with z | z
        · exact nosys I hs h z.symm
        · exact hn z
      · exact hn2 z⟩
theorem DzA.reads (I : Inv X pins σ H s) (hs : ∃ m, X.base.Ns sysModules m) : ∀ {ds : List PyData} {vs : List V} {us : List Value}, DzA X.K H vs ds → Vals vs us → ∃ as, ReadsAll s.heap us ds as ∧ sysModules ∉ as
  | _, _, _, .nil, r => by
    cases r
    exact ⟨_, ReadsAll.nil, List.not_mem_nil⟩
  | _, _, _, .cons h1 h2, r => by
    cases r with
    | cons r1 r2 =>
      obtain ⟨as, q1, n1⟩ := Dz.reads I hs h1 r1
      obtain ⟨bs, q2, n2⟩ := DzA.reads I hs h2 r2
      exact ⟨_, ReadsAll.cons q1 q2, fun z => (List.mem_append.mp z).elim n1 n2⟩
end
end
theorem le_sizeM {n : Nat} (h : n ≤ 10000000) : n ≤ sizeLine := Nat.le_trans h (by decide)
/-- repr of things -/
def rReprU (K : PySem.W.Frag) : List V → Hp → VK → Prop := fun vs H Q => rRepr K vs H Q ∨ ∃ (v : V) (d : PyData), vs = [v] ∧ Dz K H v d ∧ d.showable = true ∧ d.depth ≤ 30 ∧ d.shown.length ≤ 10000000 ∧ Q (.str d.shown) H
theorem cr_reprU {X : Cx} {K : PySem.W.Frag} (hK : X.K = K) (hs : ∃ m, X.base.Ns sysModules m) (hG : X.A.guards = some []) (hu : X.A.units + 64 < cLine) : CallR X (.builtin "repr") (rReprU K) := by
  subst hK
  intro pins s σ H xs us Q I r h
  rcases h with h | h
  · exact cr_repr rfl hG hu pins s σ H xs us Q I r h
  obtain ⟨v, d, rfl, hd, h2, h4, h5, q⟩ := h
  obtain ⟨u, rfl, ru⟩ := vals1 r
  have key : ∀ a, u = .ref a → wpAny (model X.prog X.w) X.A (call (.builtin "repr") [u]) (EP X pins σ Q) X.xe s := by
    rintro a rfl
    obtain ⟨as, r1, hn⟩ := Dz.reads I hs hd ru
    exact repr_of_reads' r1 h2 (fun _ => hn) hG (by omega) (fun _ _ e => e) (fun h' u tk hk => ⟨.str d.shown, H, I.kept (t' := tk) hk, ⟨_, rfl⟩, q⟩) (le_sizeM h5)
  cases hd with
  | non =>
    cases ru
    exact PySem.P.repr_of_none ⟨.str _, H, I.tok _, ⟨_, rfl⟩, q⟩
  | bl b =>
    cases ru
    exact PySem.P.repr_of_bool ⟨.str _, H, I.tok _, ⟨_, rfl⟩, q⟩
  | int i =>
    obtain ⟨t, rfl⟩ := ru
    exact PySem.P.repr_of_int (of_decide_eq_true h2) ⟨.str _, H, I.tok _, ⟨_, rfl⟩, q⟩
  | str x =>
    obtain ⟨t, rfl⟩ := ru
    exact PySem.P.repr_of_str ⟨.str _, H, I.tok _, ⟨_, rfl⟩, q⟩ (hsz := le_sizeM h5)
  | lst _ _ => cases ru; exact key _ rfl
  | tup _ _ => cases ru; exact key _ rfl
  | dct _ _ _ => cases ru; exact key _ rfl
end WkE
namespace Wk
open PySem PySem.Spec PyProof.Rows L2 WkE
/-! ### the law itself -/
section
variable {P : Program} {w : World} {K : PySem.W.Frag} {mg mb : Str → Option Value} {k : Nat} {fa a : Addr} {fd : FuncData} {x : Str} {sp : Sp} {s₁ : Shared} {vs : List Value} {ns : List Int}
/-- the law is called, the script's place hidden or the module's own -/
theorem law_Z0 {H : Hp} (KX : K.In s₁.heap) (hns : s₁.heap.Ns mainGlobals mg) (hb : s₁.heap.Ns builtinsNs mb) (hbb : ∀ x : Str, x ≠ "__name__" → mb x = bootBuiltins x) (hlim : s₁.heap.NoLimit) (hg : s₁.gens = #[])
    (ha : s₁.heap.get? a = some { cls := .type "list", data := .seq vs.toArray }) (hr : Room k callerA)
    (F : ∀ base : Heap, K.In base → base.Ns mainGlobals mg → (∃ m, base.Ns sysModules m) → FnG P w K mg base k fa fd [x] sp) (hsm : ∃ m, s₁.heap.Ns sysModules m) (hbind : ∀ (s : Shared) (u : Value), BindsTo s fd ⟨[u], []⟩ [(x, u)])
    (hsp : sp [.ref a] H (fun v _ => v = .bl true) fun _ _ _ => False)
    (hO : Only H) (hok : HOk P w H s₁.heap) (hA : ∀ b, H b ≠ none → b = a) (hK : H a ≠ none → K.lookup a = none) :
    codeAny (model P w) callerA (.call (.ref fa) ⟨[.ref a], []⟩) (fun r s' => r = .ok (.ret (.bool true)) ∧ OldK s₁.heap s'.heap ∧ s'.os = s₁.os ∧ AllBare s'.gens) s₁ := by
  have off : ∀ {b : Addr} {o : Obj}, s₁.heap.get? b = some o → (∀ u, H b = some u → b = a → False) → H b = none := fun {b o} e n => by
    cases q : H b with
    | none => rfl
    | some u => exact (n u q (hA b (by rw [q]; simp))).elim
  have nsK : ∀ {b : Addr} {m : Str → Option Value}, s₁.heap.Ns b m → (hidT s₁.heap H).Ns b m := fun {b m} ⟨o, es, ep, e, d, r⟩ => ⟨o, es, ep, hidT_get e (off e fun u q z => by
    subst z
    rw [ha] at e
    cases e
    cases d), d, r⟩
  have hKb : K.In (hidT s₁.heap H) := fun b o e => hidT_get (KX b o e) (off (KX b o e) fun u q z => by
    subst z
    rw [hK (by rw [q]; simp)] at e
    cases e)
  have hM : Mod K mg (hidT s₁.heap H) := ⟨hKb, nsK hns, ⟨mb, nsK hb, hbb⟩, let ⟨mc, h1, h2⟩ := hlim; ⟨mc, nsK h1, h2⟩⟩
  have e0 : Env0 P w K mg (hidT s₁.heap H) callerA [] s₁ H := ⟨rfl, hM, fun b o e => of_hidT e, Nat.le_of_eq (hidT_size _ _), trivial, fun b hb => absurd (show b ∈ ([] : List Addr) from hb) (by simp), hok, .of_eq hg⟩
  refine codeAny_mono ((F _ hKb (nsK hns) (hsm.imp fun _ => nsK)).run callerA [] s₁ H ⟨[.ref a], []⟩ [.ref a] [.ref a] _ _ hr rfl e0 (hbind s₁ (.ref a)) (.cons rfl .nil) hsp) fun r s' h => ?_
  match r, h with
  | .error e, h => exact False.elim (by simpa [CR, CX0] using h)
  | .ok (.ret u), ⟨v, H', os, bare, un, hok', r', q⟩ =>
    have q' : v = .bl true := q
    subst q'
    obtain rfl : u = Value.bool true := r'
    refine ⟨rfl, OldK.of_keep fun b o e => ?_, os, bare⟩
    cases q : H b with
    | none => exact un.keep b o e q (by intro z; exact absurd (show b ∈ ([] : List Addr) from z) (by simp)) (by simp)
    | some u =>
      rcases hO b with z | ⟨ob, xs, z⟩
      · rw [q] at z; cases z
      · have e1 := (hok b _ z).1
        have e2 := (hok' b _ (un.frzs b ob _ z)).1
        rw [e] at e1; cases e1
        exact e2
theorem law_Z (KX : K.In s₁.heap) (hns : s₁.heap.Ns mainGlobals mg) (hb : s₁.heap.Ns builtinsNs mb) (hbb : ∀ x : Str, x ≠ "__name__" → mb x = bootBuiltins x) (hlim : s₁.heap.NoLimit) (hg : s₁.gens = #[])
    (ha : s₁.heap.get? a = some { cls := .type "list", data := .seq vs.toArray }) (hi : IntsAre vs ns) (hl : ns.length ≤ sizeLine) (hr : Room k callerA)
    (F : ∀ base : Heap, K.In base → base.Ns mainGlobals mg → (∃ m, base.Ns sysModules m) → FnG P w K mg base k fa fd [x] sp) (hsm : ∃ m, s₁.heap.Ns sysModules m) (hbind : ∀ (s : Shared) (u : Value), BindsTo s fd ⟨[u], []⟩ [(x, u)])
    (hsp : ∀ H : Hp, Only H → SqL K H a (ns.map V.int) → sp [.ref a] H (fun v _ => v = .bl true) fun _ _ _ => False) :
    codeAny (model P w) callerA (.call (.ref fa) ⟨[.ref a], []⟩) (fun r s' => r = .ok (.ret (.bool true)) ∧ OldK s₁.heap s'.heap ∧ s'.os = s₁.os ∧ AllBare s'.gens) s₁ := by
  have rv := vals_ints hi
  cases hk : K.lookup a with
  | some o =>
    have e := KX a o hk
    rw [ha] at e
    cases e
    have hO : Only fun _ => none := fun _ => .inl rfl
    exact law_Z0 (H := fun _ => none) KX hns hb hbb hlim hg ha hr F hsm hbind (hsp _ hO (.inr ⟨_, vs.toArray, _, hk, rfl, rfl, rfl, by rw [List.size_toArray, hi.length]; exact hl, by simpa using rv⟩)) hO (fun b u z => nomatch z) (fun b z => absurd rfl z) fun z => absurd rfl z
  | none =>
    have hO : Only fun b => if b = a then some (.frz { cls := .type "list", data := .seq vs.toArray } (.lst (ns.map V.int))) else none := fun b => by
      by_cases c : b = a
      · exact .inr ⟨_, _, if_pos c⟩
      · exact .inl (if_neg c)
    refine law_Z0 (H := fun b => if b = a then some (.frz { cls := .type "list", data := .seq vs.toArray } (.lst (ns.map V.int))) else none) KX hns hb hbb hlim hg ha hr F hsm hbind (hsp _ hO (.inl (.inr ⟨_, if_pos rfl⟩))) hO (fun b u z => ?_) (fun b z => ?_) fun _ => hk
    · by_cases c : b = a
      · have z' := (if_pos c).symm.trans z
        cases z'
        subst c
        exact ⟨ha, by rw [List.length_map]; exact hl, vs, _, rv, ha⟩
      · have z' := (if_neg c).symm.trans z
        cases z'
    · by_cases c : b = a
      · exact c
      · exact absurd (if_neg c) z
end
theorem walk_Z {l : PySem.W.OpenLaw} {n k : Nat} {q : Program} {loose : List Str} {XP : (Str → Option Value) → Heap → Prop} {YP : World → Heap → Prop} {d : DefRec} {K : Params → PySem.W.Frag} {sp : World → Sp} {x : Str}
    (himp : importsNone q = true) (hn : l.most = some n) (hn2 : n ≤ sizeLine) (hdf : d.params.defaults = []) (hr : Room k callerA)
    (hY : ∀ (w : World) (h : Heap), YP w h → (K w.params).In h)
    (F : ∀ (w : World) (mg : Str → Option Value) (fa : Addr) (h : Heap), (K w.params).In h → h.Ns mainGlobals mg → mg d.name = some (.ref fa) →
      ∃ fd : FuncData, (∀ (s : Shared) (u : Value), BindsTo s fd ⟨[u], []⟩ [(x, u)]) ∧
        ∀ base : Heap, (K w.params).In base → base.Ns mainGlobals mg → (∃ m, base.Ns sysModules m) → FnG l.prog w (K w.params) mg base k fa fd [x] (sp w))
    (hsp : ∀ (w : World) (H : Hp) (a : Addr) (ns : List Int), ns.length ≤ n → Only H → SqL (K w.params) H a (ns.map V.int) → sp w [.ref a] H (fun v _ => v = .bl true) fun _ _ _ => False) :
    PySem.W.WalkO q loose XP YP l.row.toRowW d [] (fun f vs => PySem.call f vs) := by
  refine Att.attach_call hn hdf fun w s₀ s₁ mg mb fa o pm cd doc a vs ns G Y ho hd hcd hmg hobj hints hlen hg => ?_
  have KX := hY w _ Y
  obtain ⟨fd, hb, hF⟩ := F w mg fa _ KX G.T.g hmg
  exact law_Z KX G.T.g G.T.b G.T.builtins G.T.nolimit hg hobj hints (Nat.le_trans hlen hn2) hr hF (let ⟨mm, z, _⟩ := (G.T.seer himp).mods; ⟨mm, z⟩) hb fun H hO hS => hsp w H a ns hlen hO hS
end Wk
namespace Wk
open PySem PySem.Spec PyProof.Rows L2 WkE PySem.Builtin.Str
mutual
def D.pz : D → PyData
  | .non => .none | .bl b => .bool b | .int i => .int i | .str x => .str x | .tup ds => .tuple (D.pzL ds) | .ref _ => .none | .ty _ => .none | .scr _ => .none | .lis ds => .list (D.pzL ds) | .dct ks ds => .dict ((ks.map kpz).zip (D.pzL ds))
def D.pzL : List D → List PyData
  | [] => [] | d :: ds => d.pz :: D.pzL ds
end
/-! data, dicts' values too -/
mutual
def D.tz : D → Bool
  | .non => true | .bl _ => true | .int _ => true | .str _ => true | .tup ds => D.tzL ds | .ref _ => false | .ty _ => false | .scr _ => false | .lis ds => D.tzL ds | .dct _ ds => D.tzL ds
def D.tzL : List D → Bool
  | [] => true | d :: ds => d.tz && D.tzL ds
end
theorem pzL_len : ∀ ds : List D, (D.pzL ds).length = ds.length
  | [] => rfl
  | _ :: ds => congrArg (· + 1) (pzL_len ds)
mutual
theorem Den.dz {K : PySem.W.Frag} {H : Hp} : ∀ {d : D} {v : V}, Den K H v d → d.tz = true → Dz K H v d.pz
  | _, _, .non, _ => .non
  | _, _, .bl b, _ => .bl b
  | _, _, .int b, _ => .int b
  | _, _, .str b, _ => .str b
  | _, _, .ref b, h => by cases h
  | _, _, .ty b, h => by cases h
  | _, _, .scr _, h => by cases h
  | _, _, .dct (kvs := kvs) (ks := ks) (ds := ds) q e r, h => by
    have hl : (ks.map kpz).length = (D.pzL ds).length := by rw [List.length_map, pzL_len, ← r.length, ← e, List.length_map, List.length_map]
    refine .dct q ?_ ?_
    · rw [List.map_fst_zip (Nat.le_of_eq hl), ← e, List.map_map]
      have := DzA.keys (K := K) (H := H) (kvs.map (·.1))
      rw [List.map_map, List.map_map] at this
      exact this
    · rw [List.map_snd_zip (Nat.le_of_eq hl.symm)]
      exact DenL.dz r h
  | _, _, .lis q r, h => .lst q (DenL.dz r h)
  | _, _, .tup q r, h => .tup (TpA.sqt q) (DenL.dz r h)
theorem DenL.dz {K : PySem.W.Frag} {H : Hp} : ∀ {ds : List D} {vs : List V}, DenL K H vs ds → D.tzL ds = true → DzA K H vs (D.pzL ds)
  | _, _, .nil, _ => .nil
  | _, _, .cons a b, h => .cons (Den.dz a (Bool.and_eq_true_iff.mp h).1) (DenL.dz b (Bool.and_eq_true_iff.mp h).2)
end
/-- may be shown: of a depth, in so many signs -/
structure Rp (n w : Nat) (d : D) : Prop where
  tz : d.tz = true
  sh : d.pz.showable = true
  dp : d.pz.depth ≤ n
  ln : d.pz.shown.length ≤ w
  ok : PyData.strOk d.pz.shown = true
theorem Rp.mono {n w n' w' : Nat} {d : D} (h : Rp n w d) (h1 : n ≤ n' := by omega) (h2 : w ≤ w' := by omega) : Rp n' w' d := ⟨h.tz, h.sh, Nat.le_trans h.dp h1, Nat.le_trans h.ln h2, h.ok⟩
theorem Rp.int {i : Int} (h : i.natAbs < 10 ^ 61) : Rp 0 62 (.int i) := by
  refine ⟨rfl, decide_eq_true ?_, Nat.le_refl _, ?_, strOk_of _⟩
  · by_cases c : i.natAbs = 0
    · rw [c]; decide
    · exact (Nat.log2_lt c (k := 1920)).mpr (Nat.lt_trans h (by decide +kernel))
  · have hn : ∀ n : Nat, n < 10 ^ 61 → (Nat.repr n).length ≤ 61 := fun n h => by
      have := digitsCore10_len 61 (n + 1) n [] (by decide) h
      simpa [Nat.repr, Nat.toDigits] using this
    show (Str.ofString (toString i)).length ≤ 62
    rw [PySem.ofString_length]
    cases i with
    | ofNat m => exact Nat.le_succ_of_le (hn m h)
    | negSucc m =>
      have := hn (m + 1) h
      show ("-" ++ Nat.repr (m + 1)).length ≤ 62
      have h1 : "-".length = 1 := by first | rfl | decide
      rw [String.length_append, h1]
      omega
theorem Rp.bl (b : Bool) : Rp 0 5 (.bl b) := by cases b <;> exact ⟨rfl, rfl, Nat.le_refl _, by decide +kernel, by decide +kernel⟩
theorem Rp.non : Rp 0 4 .non := ⟨rfl, rfl, Nat.le_refl _, by decide +kernel, by decide +kernel⟩
theorem piled_le {n w : Nat} : ∀ {ds : List D}, (∀ x ∈ ds, Rp n w x) → D.tzL ds = true ∧ PyData.showableAll (D.pzL ds) = true ∧ PyData.depthAll (D.pzL ds) ≤ n ∧ piled (PyData.shownAll (D.pzL ds)) ≤ (w + 2) * ds.length ∧ ∀ t ∈ PyData.shownAll (D.pzL ds), PyData.strOk t = true
  | [], _ => ⟨rfl, rfl, Nat.zero_le _, Nat.le_refl _, fun t ht => by cases ht⟩
  | d :: ds, h => by
    obtain ⟨h1, h2, h3, h4, h5⟩ := h d List.mem_cons_self
    obtain ⟨k1, k2, k3, k4, k5⟩ := piled_le fun x hx => h x (List.mem_cons_of_mem _ hx)
    refine ⟨?_, ?_, ?_, ?_, ?_⟩
    · show (d.tz && D.tzL ds) = true
      rw [h1, k1]; rfl
    · show (d.pz.showable && PyData.showableAll (D.pzL ds)) = true
      rw [h2, k2]; rfl
    · show max d.pz.depth (PyData.depthAll (D.pzL ds)) ≤ n
      omega
    · show piled (d.pz.shown :: PyData.shownAll (D.pzL ds)) ≤ _
      rw [piled_cons, List.length_cons, Nat.mul_add]; omega
    · intro t ht
      rcases List.mem_cons.mp (show t ∈ d.pz.shown :: PyData.shownAll (D.pzL ds) from ht) with rfl | ht
      · exact h5
      · exact k5 t ht
theorem Rp.tup {n w : Nat} {ds : List D} (h : ∀ x ∈ ds, Rp n w x) : Rp (n + 1) (2 + (w + 2) * ds.length) (.tup ds) := by
  obtain ⟨k1, k2, k3, k4, k5⟩ := piled_le h
  refine ⟨k1, k2, Nat.succ_le_succ k3, ?_, ?_⟩
  · show (tupleText (PyData.shownAll (D.pzL ds))).length ≤ _
    have := fmt_text (PyData.shownAll (D.pzL ds))
    omega
  · show PyData.strOk (tupleText (PyData.shownAll (D.pzL ds))) = true
    unfold tupleText
    refine strOk_append (strOk_append (strOk_of "(") (strOk_join k5)) ?_
    split
    · exact strOk_of ",)"
    · exact strOk_of ")"
theorem textFrom_le : ∀ (ts : List Str) (k : Nat) (acc : Str), (textFrom k acc ts).length ≤ acc.length + piled ts
  | [], _, acc => by show acc.length ≤ acc.length + 0; omega
  | t :: r, k, acc => by
    have ih := textFrom_le r (k + 1) (acc ++ (if k > 0 then ", " else "" : String) ++ t)
    have e : (acc ++ (if k > 0 then ", " else "" : String) ++ t).length ≤ acc.length + 2 + t.length := by
      rw [strLen_append, strLen_append]
      split
      · exact Nat.le_refl _
      · show acc.length + 0 + t.length ≤ _; omega
    show (textFrom (k + 1) _ r).length ≤ _
    rw [piled_cons]; omega
theorem textFrom_ok : ∀ (ts : List Str) (k : Nat) (acc : Str), PyData.strOk acc = true → (∀ t ∈ ts, PyData.strOk t = true) → PyData.strOk (textFrom k acc ts) = true
  | [], _, acc, h, _ => h
  | t :: r, k, acc, h, h2 => by
    show PyData.strOk (textFrom (k + 1) _ r) = true
    refine textFrom_ok r _ _ (strOk_append (strOk_append h (strOk_of _)) (h2 t List.mem_cons_self)) fun x hx => h2 x (List.mem_cons_of_mem _ hx)
theorem Rp.lis {n w : Nat} {ds : List D} (h : ∀ x ∈ ds, Rp n w x) : Rp (n + 1) (2 + (w + 2) * ds.length) (.lis ds) := by
  obtain ⟨k1, k2, k3, k4, k5⟩ := piled_le h
  refine ⟨k1, k2, Nat.succ_le_succ k3, ?_, ?_⟩
  · show (textFrom 0 "[" (PyData.shownAll (D.pzL ds)) ++ ("]" : Str)).length ≤ _
    rw [strLen_append]
    have := textFrom_le (PyData.shownAll (D.pzL ds)) 0 "["
    have e1 : (("[" : String) : Str).length = 1 := rfl
    have e2 : (("]" : String) : Str).length = 1 := rfl
    omega
  · show PyData.strOk (textFrom 0 "[" (PyData.shownAll (D.pzL ds)) ++ ("]" : Str)) = true
    exact strOk_append (textFrom_ok _ _ _ (strOk_of "[") k5) (strOk_of "]")
/-- of one kind: what is written out -/
theorem Rp.of {n w : Nat} {d : D} (h : (d.tz && d.pz.showable && decide (d.pz.depth ≤ n) && decide (d.pz.shown.length ≤ w) && PyData.strOk d.pz.shown) = true) : Rp n w d := by
  simp only [Bool.and_eq_true, decide_eq_true_eq] at h
  exact ⟨h.1.1.1.1, h.1.1.1.2, h.1.1.2, h.1.2, h.2⟩
theorem reprChar_ok {q c : Nat} (hq : q < 0x110000) (hc : c < 0x110000) : ∀ d ∈ reprChar q c, d < 0x110000 := by
  have hx : ∀ (k : Nat) (d : Nat), d ∈ List.replicate k 48 ++ (Nat.toDigits 16 c).map Char.toNat → d < 0x110000 := fun k d hd => by
    rcases List.mem_append.mp hd with h | h
    · rw [List.eq_of_mem_replicate h]; decide
    · obtain ⟨z, _, rfl⟩ := List.mem_map.mp h
      rcases z.valid with h | h
      · exact Nat.lt_trans h (by decide)
      · exact h.2
  intro d hd
  unfold reprChar at hd
  dsimp only at hd
  split at hd
  · simp only [List.mem_cons, List.not_mem_nil, or_false] at hd
    rcases hd with rfl | rfl <;> omega
  split at hd
  · simp only [List.mem_cons, List.not_mem_nil, or_false] at hd
    rcases hd with rfl | rfl <;> omega
  split at hd
  · simp only [List.mem_cons, List.not_mem_nil, or_false] at hd
    rcases hd with rfl | rfl <;> omega
  split at hd
  · simp only [List.mem_cons, List.not_mem_nil, or_false] at hd
    rcases hd with rfl | rfl <;> omega
  split at hd
  · simp only [List.mem_cons, List.not_mem_nil, or_false] at hd
    subst hd; exact hc
  split at hd
  · rcases List.mem_append.mp hd with h | h
    · simp only [List.mem_cons, List.not_mem_nil, or_false] at h
      rcases h with rfl | rfl <;> omega
    · exact hx _ d h
  split at hd
  · rcases List.mem_append.mp hd with h | h
    · simp only [List.mem_cons, List.not_mem_nil, or_false] at h
      rcases h with rfl | rfl <;> omega
    · exact hx _ d h
  · rcases List.mem_append.mp hd with h | h
    · simp only [List.mem_cons, List.not_mem_nil, or_false] at h
      rcases h with rfl | rfl <;> omega
    · exact hx _ d h
theorem strOk_all {x : Str} (h : PyData.strOk x = true) : ∀ c ∈ x.cps.toList, c < 0x110000 := fun c hc => of_decide_eq_true (Array.all_eq_true'.mp h c (by simpa using hc))
theorem foldl_repr_ok {q : Nat} (hq : q < 0x110000) : ∀ (l : List Nat) (acc : Array Nat), (∀ c ∈ acc.toList, c < 0x110000) → (∀ c ∈ l, c < 0x110000) → ∀ c ∈ (l.foldl (fun out c => out ++ (reprChar q c).toArray) acc).toList, c < 0x110000
  | [], acc, h, _ => h
  | c :: r, acc, h, h2 => by
    rw [List.foldl_cons]
    refine foldl_repr_ok hq r _ (fun d hd => ?_) fun d hd => h2 d (List.mem_cons_of_mem _ hd)
    rw [Array.toList_append] at hd
    rcases List.mem_append.mp hd with z | z
    · exact h d z
    · exact reprChar_ok hq (h2 c List.mem_cons_self) d (by simpa using z)
theorem reprQuote_lt (x : Str) : reprQuote x < 0x110000 := by unfold reprQuote; split <;> decide
theorem reprText_ok {x : Str} (h : PyData.strOk x = true) : PyData.strOk (reprText x) = true := by
  unfold PyData.strOk
  rw [Array.all_eq_true']
  intro c hc
  unfold reprText at hc
  rw [← Array.foldl_toList] at hc
  rcases Array.mem_push.mp hc with z | z
  · refine decide_eq_true (foldl_repr_ok (reprQuote_lt x) x.cps.toList #[reprQuote x] (fun d hd => ?_) (strOk_all h) c (Array.mem_toList_iff.mpr z))
    have hd : d = reprQuote x := by simpa using hd
    rw [hd]; exact reprQuote_lt x
  · rw [z]; exact decide_eq_true (reprQuote_lt x)
theorem Rp.str {x : Str} {n : Nat} (h : PyData.strOk x = true) (hl : x.length ≤ n) : Rp 0 (10 * n + 2) (.str x) := by
  refine ⟨rfl, rfl, Nat.le_refl _, ?_, reprText_ok h⟩
  have := PySem.StrLaws.reprText_len x fun c hc => Nat.lt_trans (strOk_all h c hc) (by decide)
  show (reprText x).length ≤ _
  omega
/-- str of a whole number -/
def rStrI : List V → Hp → VK → Prop := fun xs H Q => ∃ i, xs = [.int i] ∧ i.natAbs.log2 < 1920 ∧ Q (.str (toString i)) H
theorem k_strI {X : Cx} : CallR X (.type "str") rStrI := L2.call_str_int
theorem log2_lt61 {n : Nat} (h : n < 10 ^ 61) : n.log2 < 1920 := by
  by_cases c : n = 0
  · rw [c]; decide
  · exact (Nat.log2_lt c (k := 1920)).mpr (Nat.lt_trans h (by decide +kernel))
theorem wc_strI {K : PySem.W.Frag} {μ : Mu} {P : D → Mu → Prop} {i : Int} (h : i.natAbs < 10 ^ 61) (q : P (.str (Str.ofString (toString i))) μ) : WC K rStrI [.int i] μ P := fun H vs m r Q k => by
  cases r with
  | cons r rr =>
    cases rr
    cases r
    exact ⟨i, rfl, log2_lt61 h, k _ H _ μ .refl m (.str _) q⟩
theorem Rp.strI {i : Int} (h : i.natAbs < 10 ^ 61) : Rp 0 622 (.str (Str.ofString (toString i))) := Rp.str (strOk_of _) (Rp.int h).ln
/-- the text of a thing -/
def D.showz (d : D) : Str := d.pz.shown
theorem wc_reprW {K : PySem.W.Frag} {μ : Mu} {P : D → Mu → Prop} {d : D} (h : Rp 30 10000000 d) (q : (D.str d.showz).sh = true → P (.str d.showz) μ) : WC K (rReprU K) [d] μ P := fun H vs m r Q k => by
  cases r with
  | cons r rr =>
    cases rr
    exact .inr ⟨_, _, rfl, r.dz h.tz, h.sh, h.dp, h.ln, k _ H _ μ .refl m (.str _) (q (show (true && (PyData.strOk d.pz.shown && _)) = true by rw [h.ok]; rfl))⟩
section
variable {K : PySem.W.Frag} {μ : Mu} {P : D → Mu → Prop} {a : Addr}
theorem in_jD {js : List Nat} {i : Int} : decide (i ∈ js.map fun n : Nat => (n : Int)) = decide (0 ≤ i ∧ i.toNat ∈ js) := decide_eq_decide.mpr (by
  rw [List.mem_map]
  constructor
  · rintro ⟨n, hn, rfl⟩
    exact ⟨by omega, by rw [Int.toNat_natCast]; exact hn⟩
  · rintro ⟨h1, h2⟩
    exact ⟨i.toNat, h2, by omega⟩)
theorem w2_inTz {js : List Nat} {i : Int} (q : P (.bl (decide (0 ≤ i ∧ i.toNat ∈ js))) μ) : W2 K (rIn K false) (.int i) (.tup (js.map jD)) μ P := by
  rw [jD_map]; exact w2_inT (by rw [in_jD]; exact q)
theorem w2_ninTz {js : List Nat} {i : Int} (q : P (.bl (!decide (0 ≤ i ∧ i.toNat ∈ js))) μ) : W2 K (rIn K true) (.int i) (.tup (js.map jD)) μ P := by
  rw [jD_map]; exact w2_ninT (by rw [in_jD]; exact q)
theorem w2_inKz {js : List Nat} {i : Int} (hm : Lk (js.map jD) μ a) (q : P (.bl (decide (0 ≤ i ∧ i.toNat ∈ js))) μ) : W2 K (rIn K false) (.int i) (.ref a) μ P :=
  w2_inK (by rw [jD_map] at hm; exact hm) (by rw [in_jD]; exact q)
theorem w2_ninKz {js : List Nat} {i : Int} (hm : Lk (js.map jD) μ a) (q : P (.bl (!decide (0 ≤ i ∧ i.toNat ∈ js))) μ) : W2 K (rIn K true) (.int i) (.ref a) μ P :=
  w2_ninK (by rw [jD_map] at hm; exact hm) (by rw [in_jD]; exact q)
end
theorem wc_reprU {K : PySem.W.Frag} {μ : Mu} {P : D → Mu → Prop} {d : D} (h : Rp 30 100000 d) (q : (D.str d.showz).sh = true → P (.str d.showz) μ) : WC K (rReprU K) [d] μ P := wc_reprW h.mono q
end Wk

set_option Elab.async false
set_option linter.all false
set_option maxRecDepth 100000
namespace Wk
open PySem PySem.Spec L2 WkE
section
variable {K : PySem.W.Frag} {δ : Dl} {μ μ' : Mu} {ts : TS} {N B C : Dl → Mu → Prop} {R : D → Mu → Prop} {a : Addr} {P : D → Mu → Prop}
/-! ### the script itself -/
theorem wc_lenScr {ns : List Int} (q : P (.int (ns.length : Nat)) μ) : WC K (rLenG K) [.scr ns] μ P := fun H vs m r Q k => by
  cases r with
  | cons r1 r2 =>
    cases r2
    cases r1 with
    | scr h =>
      refine .inl ⟨_, _, rfl, .inl h.sql, ?_⟩
      rw [List.length_map]
      exact k _ H _ μ .refl m (.int _) q
theorem w2_ixScr {ns : List Int} {k : Nat} (hk : k < ns.length) (q : ∀ c : Int, P (.int c) μ) : W2 K (rIx K) (.scr ns) (.int (k : Nat)) μ P := fun H v u m r1 r2 Q f => by
  cases r2
  cases r1 with
  | scr h =>
    refine .inl ⟨_, _, _, .int ns[k], rfl, rfl, h.sql, ?_, f _ H _ μ .refl m (.int _) (q _)⟩
    unfold atI ixN
    rw [List.length_map, if_pos (by omega), if_pos (by omega)]
    show (ns.map V.int)[(k : Int).toNat]? = _
    rw [Int.toNat_natCast, List.getElem?_map, List.getElem?_eq_getElem hk]; rfl
/-! ### a well: a list of three numbers, the last one counting -/
def WelI (n : Nat) (ns : List Int) : Prop := ∃ x y z : Int, ns = [x, y, z] ∧ 0 ≤ z ∧ z ≤ n
abbrev wl (n : Nat) : M := .hid (WelI n)
theorem weak_at {i n m : Nat} (hm : μ[i]? = some (a, wl n)) (h : n ≤ m) : Weak μ (μ.set i (a, wl m)) := fun K H o => by
  have fe : foot (μ.set i (a, wl m)) = foot μ := foot_set hm rfl
  refine ⟨⟨by rw [fe]; exact o.nd, fun p hp => ?_⟩, fun x z => by rw [fe] at z; exact z⟩
  obtain ⟨j, hj⟩ := List.getElem?_of_mem hp
  rw [List.getElem?_set] at hj
  split at hj
  · split at hj
    · cases hj
      obtain ⟨ns, ⟨x, y, z, e, z0, z1⟩, e2⟩ := o.at hm
      exact ⟨ns, ⟨x, y, z, e, z0, by omega⟩, e2⟩
    · cases hj
  · exact o.ok p (List.mem_of_getElem? hj)
theorem weak_set {i n m : Nat} {m0 : M} (hm : μ[i]? = some (a, m0)) (h : n ≤ m) : Weak (μ.set i (a, wl n)) (μ.set i (a, wl m)) := by
  have hl : i < μ.length := (List.getElem?_eq_some_iff.mp hm).1
  have := weak_at (μ := μ.set i (a, wl n)) (i := i) (n := n) (m := m) (a := a) (by rw [List.getElem?_set_self hl]) h
  rwa [List.set_set] at this
theorem weak_wlh {n m : Nat} (h : n ≤ m) (hw : Weak μ μ') : Weak ((a, wl n) :: μ) ((a, wl m) :: μ') := (weak_keep hw).trans (weak_at (μ := (a, wl n) :: μ') (i := 0) (a := a) (n := n) rfl h)
theorem atSet {i : Nat} {x y : Addr × M} (h : μ[i]? = some x) : (μ.set i y)[i]? = some y := by
  rw [List.getElem?_set_self (List.getElem?_eq_some_iff.mp h).1]
theorem s_openW {i n : Nat} (hm : μ[i]? = some (a, wl n)) (h : ∀ x y z : Int, 0 ≤ z → z ≤ n → S4 K ts δ ((a, .lst [.int x, .int y, .int z]) :: μ.eraseIdx i) N R B C) : S4 K ts δ μ N R B C :=
  s_openH hm fun ns ⟨x, y, z, e, h0, h1⟩ => by subst e; exact h x y z h0 h1
theorem weak_closeW {i n m : Nat} {x y z : Int} {xs : List D} (hm : μ[i]? = some (a, wl n)) (e : xs = [.int x, .int y, .int z]) (h0 : 0 ≤ z) (h1 : z ≤ m) : Weak ((a, .lst xs) :: μ.eraseIdx i) (μ.set i (a, wl m)) := by
  subst e
  have hl : i < μ.length := (List.getElem?_eq_some_iff.mp hm).1
  have := weak_closeH (μ := μ.set i (a, wl m)) (i := i) (a := a) (I := WelI m) (xs := [.int x, .int y, .int z]) (ns := [x, y, z]) (by rw [List.getElem?_set_self hl]) rfl ⟨x, y, z, rfl, h0, h1⟩
  have e2 : (μ.set i (a, wl m)).eraseIdx i = μ.eraseIdx i := by
    apply List.ext_getElem?
    intro j
    rw [List.getElem?_eraseIdx, List.getElem?_eraseIdx]
    split
    · rw [List.getElem?_set_ne (by omega)]
    · rw [List.getElem?_set_ne (by omega)]
  rwa [e2] at this
theorem Lk.setW {ds : List D} {p d : Addr} {i n : Nat} {x : Addr × M} (h : Lk ds μ p) (hm : μ[i]? = some (d, wl n)) : Lk ds (μ.set i x) p := by
  obtain ⟨j, hj⟩ := h
  refine ⟨j, ?_⟩
  by_cases c : i = j
  · subst c; rw [hm] at hj; cases hj
  · rw [List.getElem?_set_ne c]; exact hj
/-- a drawn number -/
def SpDrawW : SpD := fun ds μ P => ∃ (d : Addr) (m : Int) (i n : Nat), ds = [.ref d, .int m] ∧ μ[i]? = some (d, wl n) ∧ n < 1000000 ∧ 0 < m ∧ m < 2 ^ 62 ∧ ∀ k, 0 ≤ k → k < m → P (.int k) (μ.set i (d, wl (n + 1)))
theorem sp_drawW {d : Addr} {m : Int} {i n : Nat} (hm : μ[i]? = some (d, wl n)) (hn : n < 1000000) (h0 : 0 < m) (h1 : m < 2 ^ 62) (h : μ.set i (d, wl (n + 1)) = μ') (q : ∀ k, 0 ≤ k → k < m → P (.int k) μ') : SpDrawW [.ref d, .int m] μ P := ⟨d, m, i, n, rfl, hm, hn, h0, h1, by subst h; exact q⟩
end
end Wk

set_option Elab.async false
set_option linter.all false
set_option maxRecDepth 100000
namespace Wk
open PySem PySem.Spec L2 WkE
/-- a box, or none -/
abbrev OB := Option (Int × Int × Int × Int)
abbrev bx (a b c e : Int) : D := .tup [.int a, .int b, .int c, .int e]
def oD : OB → D
  | none => .non
  | some (a, b, c, e) => bx a b c e
def metO : OB → OB → OB
  | some (a, b, c, e), some (a', b', c', e') => if max a a' > min b b' ∨ max c c' > min e e' then none else some (max a a', min b b', max c c', min e e')
  | _, _ => none
theorem metO_no {a b c e a' b' c' e' : Int} (h : max a a' > min b b' ∨ max c c' > min e e') : metO (some (a, b, c, e)) (some (a', b', c', e')) = none := if_pos h
theorem metO_yes {a b c e a' b' c' e' : Int} (h : ¬ (max a a' > min b b' ∨ max c c' > min e e')) : metO (some (a, b, c, e)) (some (a', b', c', e')) = some (max a a', min b b', max c c', min e e') := if_neg h
theorem metO_comm (x y : OB) : metO x y = metO y x := by
  match x, y with
  | none, none => rfl
  | none, some _ => rfl
  | some _, none => rfl
  | some (a, b, c, e), some (a', b', c', e') =>
    by_cases h : max a a' > min b b' ∨ max c c' > min e e'
    · rw [metO_no h, metO_no (by omega)]
    · rw [metO_yes h, metO_yes (by omega), Int.max_comm a, Int.min_comm b, Int.max_comm c, Int.min_comm e]
/-- how far apart two boxes are -/
def apI (a b c e a' b' c' e' : Int) : Int := max (max 0 (max (a - b') (a' - b))) (max (c - e') (c' - e))
theorem apI_comm (a b c e a' b' c' e' : Int) : apI a b c e a' b' c' e' = apI a' b' c' e' a b c e := by
  unfold apI
  rw [Int.max_comm (a - b'), Int.max_comm (c - e')]
theorem apI_facts {a b c e a' b' c' e' n : Int} (h : apI a b c e a' b' c' e' = n) : 0 ≤ n ∧ a - b' ≤ n ∧ a' - b ≤ n ∧ c - e' ≤ n ∧ c' - e ≤ n ∧ (n = 0 ∨ a - b' = n ∨ a' - b = n ∨ c - e' = n ∨ c' - e = n) := by
  unfold apI at h
  omega
theorem oD_no {a b c e a' b' c' e' : Int} (h : a > b' ∨ a' > b ∨ c > e' ∨ c' > e) : oD (metO (some (a, b, c, e)) (some (a', b', c', e'))) = .non := by
  rw [metO_no (by omega)]; rfl
theorem oD_yes {a b c e a' b' c' e' : Int} (h : a ≤ b ∧ c ≤ e ∧ a' ≤ b' ∧ c' ≤ e') (h2 : a ≤ b' ∧ a' ≤ b ∧ c ≤ e' ∧ c' ≤ e) : oD (metO (some (a, b, c, e)) (some (a', b', c', e'))) = .tup [.int (max a a'), .int (min b b'), .int (max c c'), .int (min e e')] := by
  rw [metO_yes (by omega)]; rfl
end Wk

set_option Elab.async false
set_option linter.all false
set_option maxRecDepth 100000
namespace Wk
open PySem PySem.Spec L2 WkE
/-- an end -/
structure En where
  x : Int
  y : Int
  s : Int
  l : Int
abbrev eD (e : En) : D := .tup [.int e.x, .int e.y, .int e.s, .int e.l]
/-- how far two numbers are apart -/
abbrev di (i j : Int) : Int := max (i - j) (-(i - j))
/-- what two ends want -/
def wI (e f : En) : Int := e.s + f.s + (di e.x f.x + di e.y f.y)
theorem eD_flat {es : List En} : ∀ x ∈ es.map eD, x.flat 1 := by
  intro x hx
  obtain ⟨e, _, rfl⟩ := List.mem_map.mp hx
  exact flat_dec rfl
theorem eD_get {es : List En} {k : Nat} {d : D} (h : (es.map eD)[k]? = some d) : ∃ e, es[k]? = some e ∧ d = eD e := by
  rw [List.getElem?_map] at h
  obtain ⟨e, h1, rfl⟩ := Option.map_eq_some_iff.mp h
  exact ⟨e, h1, rfl⟩
/-- the end at a number -/
def atE (es : List En) (i : Int) (e : En) : Prop := 0 ≤ i ∧ es[i.toNat]? = some e
theorem atE_ex {es : List En} {i : Int} (h0 : 0 ≤ i) (h1 : i < es.length) : ∃ e, atE es i e := ⟨_, h0, List.getElem?_eq_getElem (by omega)⟩
theorem atE_nat {es : List En} {i : Nat} {e : En} (h : es[i]? = some e) : atE es i e := ⟨by omega, h⟩
theorem atE.ix {K : PySem.W.Frag} {μ : Mu} {P : D → Mu → Prop} {es : List En} {i : Int} {e : En} (h : atE es i e) (q : P (eD e) μ) : W2 K (rIx K) (.tup (es.map eD)) (.int i) μ P := by
  have h2 := (List.getElem?_eq_some_iff.mp h.2).1
  have h1 := h.1
  refine w2_ixTO h.1 (by rw [List.length_map]; omega) fun k d hk ek => ?_
  obtain ⟨e1, he1, rfl⟩ := eD_get hk
  obtain rfl : k = i.toNat := by omega
  cases h.2.symm.trans he1
  exact q
/-- the row of some ends: the height and the box -/
structure RowOf (es : List En) (h a b c e : Int) : Prop where
  ne : es ≠ []
  pos : ∀ x ∈ es, 0 ≤ x.s
  hx : ∃ x ∈ es, ∃ y ∈ es, wI x y = h
  hm : ∀ x ∈ es, ∀ y ∈ es, wI x y ≤ h
  ax : ∃ x ∈ es, 2 * (x.x + x.y) - (h - 2 * x.s) = a
  am : ∀ x ∈ es, 2 * (x.x + x.y) - (h - 2 * x.s) ≤ a
  bx : ∃ x ∈ es, 2 * (x.x + x.y) + (h - 2 * x.s) = b
  bm : ∀ x ∈ es, b ≤ 2 * (x.x + x.y) + (h - 2 * x.s)
  cx : ∃ x ∈ es, 2 * (x.x - x.y) - (h - 2 * x.s) = c
  cm : ∀ x ∈ es, 2 * (x.x - x.y) - (h - 2 * x.s) ≤ c
  ex : ∃ x ∈ es, 2 * (x.x - x.y) + (h - 2 * x.s) = e
  em : ∀ x ∈ es, e ≤ 2 * (x.x - x.y) + (h - 2 * x.s)
theorem RowOf.wide {es : List En} {h a b c e : Int} (R : RowOf es h a b c e) : b - a ≤ 2 * h ∧ e - c ≤ 2 * h := by
  obtain ⟨x, hx, _⟩ := R.ax
  have m1 := R.am x hx
  have m2 := R.bm x hx
  have m3 := R.cm x hx
  have m4 := R.em x hx
  have m5 := R.pos x hx
  omega
theorem RowOf.thin {es : List En} {h a b c e : Int} (R : RowOf es h a b c e) : b ≤ a ∨ e ≤ c := by
  obtain ⟨x, hx, y, hy, hw⟩ := R.hx
  have m1 := R.am x hx
  have m2 := R.bm x hx
  have m3 := R.cm x hx
  have m4 := R.em x hx
  have n1 := R.am y hy
  have n2 := R.bm y hy
  have n3 := R.cm y hy
  have n4 := R.em y hy
  unfold wI di at hw
  omega
/-- the part of it that the second loop goes through -/
structure BoxOf (es : List En) (h a b c e : Int) : Prop where
  ax : ∃ x ∈ es, 2 * (x.x + x.y) - (h - 2 * x.s) = a
  am : ∀ x ∈ es, 2 * (x.x + x.y) - (h - 2 * x.s) ≤ a
  bx : ∃ x ∈ es, 2 * (x.x + x.y) + (h - 2 * x.s) = b
  bm : ∀ x ∈ es, b ≤ 2 * (x.x + x.y) + (h - 2 * x.s)
  cx : ∃ x ∈ es, 2 * (x.x - x.y) - (h - 2 * x.s) = c
  cm : ∀ x ∈ es, 2 * (x.x - x.y) - (h - 2 * x.s) ≤ c
  ex : ∃ x ∈ es, 2 * (x.x - x.y) + (h - 2 * x.s) = e
  em : ∀ x ∈ es, e ≤ 2 * (x.x - x.y) + (h - 2 * x.s)
theorem wI_comm (x y : En) : wI x y = wI y x := by
  unfold wI di
  omega
theorem wI_self (x : En) : wI x x = 2 * x.s := by
  unfold wI di
  omega
theorem BoxOf.one (x : En) (h : Int) : BoxOf [x] h (2 * (x.x + x.y) - (h - 2 * x.s)) (2 * (x.x + x.y) + (h - 2 * x.s)) (2 * (x.x - x.y) - (h - 2 * x.s)) (2 * (x.x - x.y) + (h - 2 * x.s)) := by
  constructor
  all_goals first
    | exact ⟨x, List.mem_singleton.mpr rfl, rfl⟩
    | (intro y hy; rw [List.mem_singleton.mp hy]; exact Int.le_refl _)
/-- the boxes of two ends that want no more than the height meet -/
theorem box_meet {x y : En} {h : Int} (hw : wI x y ≤ h) : 2 * (x.x + x.y) - (h - 2 * x.s) ≤ 2 * (y.x + y.y) + (h - 2 * y.s) ∧ 2 * (x.x - x.y) - (h - 2 * x.s) ≤ 2 * (y.x - y.y) + (h - 2 * y.s) := by
  unfold wI di at hw
  omega
theorem BoxOf.grow {es : List En} {h a b c e : Int} (B : BoxOf es h a b c e) (x : En) : BoxOf (es ++ [x]) h (max a (2 * (x.x + x.y) - (h - 2 * x.s))) (min b (2 * (x.x + x.y) + (h - 2 * x.s))) (max c (2 * (x.x - x.y) - (h - 2 * x.s))) (min e (2 * (x.x - x.y) + (h - 2 * x.s))) := by
  have hl : ∀ y ∈ es, y ∈ es ++ [x] := fun y hy => List.mem_append_left _ hy
  have hr : x ∈ es ++ [x] := List.mem_append_right _ (List.mem_singleton.mpr rfl)
  have hh : ∀ {p : En → Prop}, (∀ y ∈ es, p y) → p x → ∀ y ∈ es ++ [x], p y := fun h1 h2 y hy => by
    rcases List.mem_append.mp hy with hy | hy
    · exact h1 y hy
    · rw [List.mem_singleton.mp hy]; exact h2
  constructor
  · obtain ⟨y, hy, e1⟩ := B.ax
    rcases Int.le_total a (2 * (x.x + x.y) - (h - 2 * x.s)) with q | q
    · exact ⟨x, hr, by rw [Int.max_eq_right q]⟩
    · exact ⟨y, hl y hy, by rw [Int.max_eq_left q]; exact e1⟩
  · exact hh (fun y hy => Int.le_trans (B.am y hy) (Int.le_max_left _ _)) (Int.le_max_right _ _)
  · obtain ⟨y, hy, e1⟩ := B.bx
    rcases Int.le_total b (2 * (x.x + x.y) + (h - 2 * x.s)) with q | q
    · exact ⟨y, hl y hy, by rw [Int.min_eq_left q]; exact e1⟩
    · exact ⟨x, hr, by rw [Int.min_eq_right q]⟩
  · exact hh (fun y hy => Int.le_trans (Int.min_le_left _ _) (B.bm y hy)) (Int.min_le_right _ _)
  · obtain ⟨y, hy, e1⟩ := B.cx
    rcases Int.le_total c (2 * (x.x - x.y) - (h - 2 * x.s)) with q | q
    · exact ⟨x, hr, by rw [Int.max_eq_right q]⟩
    · exact ⟨y, hl y hy, by rw [Int.max_eq_left q]; exact e1⟩
  · exact hh (fun y hy => Int.le_trans (B.cm y hy) (Int.le_max_left _ _)) (Int.le_max_right _ _)
  · obtain ⟨y, hy, e1⟩ := B.ex
    rcases Int.le_total e (2 * (x.x - x.y) + (h - 2 * x.s)) with q | q
    · exact ⟨y, hl y hy, by rw [Int.min_eq_left q]; exact e1⟩
    · exact ⟨x, hr, by rw [Int.min_eq_right q]⟩
  · exact hh (fun y hy => Int.le_trans (Int.min_le_left _ _) (B.em y hy)) (Int.min_le_right _ _)
theorem BoxOf.meets {es : List En} {h a b c e : Int} (B : BoxOf es h a b c e) (x : En) (hM : ∀ y ∈ es, wI y x ≤ h) : a ≤ 2 * (x.x + x.y) + (h - 2 * x.s) ∧ 2 * (x.x + x.y) - (h - 2 * x.s) ≤ b ∧ c ≤ 2 * (x.x - x.y) + (h - 2 * x.s) ∧ 2 * (x.x - x.y) - (h - 2 * x.s) ≤ e := by
  obtain ⟨y1, hy1, e1⟩ := B.ax
  obtain ⟨y2, hy2, e2⟩ := B.bx
  obtain ⟨y3, hy3, e3⟩ := B.cx
  obtain ⟨y4, hy4, e4⟩ := B.ex
  have m1 := box_meet (hM y1 hy1)
  have m2 := box_meet (by rw [wI_comm]; exact hM y2 hy2 : wI x y2 ≤ h)
  have m3 := box_meet (hM y3 hy3)
  have m4 := box_meet (by rw [wI_comm]; exact hM y4 hy4 : wI x y4 ≤ h)
  omega
theorem BoxOf.le {es : List En} {h a b c e : Int} (B : BoxOf es h a b c e) (hM : ∀ x ∈ es, ∀ y ∈ es, wI x y ≤ h) : a ≤ b ∧ c ≤ e := by
  obtain ⟨y1, hy1, e1⟩ := B.ax
  obtain ⟨y3, hy3, e3⟩ := B.cx
  have m1 := B.bm y1 hy1
  obtain ⟨y2, hy2, e2⟩ := B.bx
  obtain ⟨y4, hy4, e4⟩ := B.ex
  have q1 := box_meet (hM y1 hy1 y2 hy2)
  have q2 := box_meet (hM y3 hy3 y4 hy4)
  omega
theorem w2_ixT0 {K : PySem.W.Frag} {μ : Mu} {P : D → Mu → Prop} {x : D} {xs : List D} (q : P x μ) : W2 K (rIx K) (.tup (x :: xs)) (.int 0) μ P :=
  w2_ixTO (by omega) (by rw [List.length_cons]; omega) fun k d hk e => by
    obtain rfl : k = 0 := by omega
    cases hk
    exact q
theorem RowOf.le {es : List En} {h a b c e : Int} (R : RowOf es h a b c e) : a ≤ b ∧ c ≤ e :=
  BoxOf.le ⟨R.ax, R.am, R.bx, R.bm, R.cx, R.cm, R.ex, R.em⟩ R.hm
theorem RowOf.starts {es : List En} {h a b c e : Int} (R : RowOf es h a b c e) (hz : ¬ max (b - a) (e - c) = 0) : ∀ x ∈ es, 2 * x.s < h := by
  intro x hx
  have m1 := R.am x hx
  have m2 := R.bm x hx
  have m3 := R.cm x hx
  have m4 := R.em x hx
  have m5 := R.hm x hx x hx
  have m6 := R.le
  rw [wI_self] at m5
  omega
theorem RowOf.uniq {es es' : List En} {h a b c e h' a' b' c' e' : Int} (R : RowOf es h a b c e) (R' : RowOf es' h' a' b' c' e') (hm : ∀ x, x ∈ es ↔ x ∈ es') : h = h' ∧ a = a' ∧ b = b' ∧ c = c' ∧ e = e' := by
  have e1 : h = h' := by
    obtain ⟨x, hx, y, hy, hw⟩ := R.hx
    obtain ⟨x', hx', y', hy', hw'⟩ := R'.hx
    have m1 := R.hm x' ((hm _).mpr hx') y' ((hm _).mpr hy')
    have m2 := R'.hm x ((hm _).mp hx) y ((hm _).mp hy)
    omega
  subst e1
  refine ⟨rfl, ?_, ?_, ?_, ?_⟩
  · obtain ⟨x, hx, e1⟩ := R.ax
    obtain ⟨y, hy, e2⟩ := R'.ax
    have m1 := R.am y ((hm _).mpr hy)
    have m2 := R'.am x ((hm _).mp hx)
    omega
  · obtain ⟨x, hx, e1⟩ := R.bx
    obtain ⟨y, hy, e2⟩ := R'.bx
    have m1 := R.bm y ((hm _).mpr hy)
    have m2 := R'.bm x ((hm _).mp hx)
    omega
  · obtain ⟨x, hx, e1⟩ := R.cx
    obtain ⟨y, hy, e2⟩ := R'.cx
    have m1 := R.cm y ((hm _).mpr hy)
    have m2 := R'.cm x ((hm _).mp hx)
    omega
  · obtain ⟨x, hx, e1⟩ := R.ex
    obtain ⟨y, hy, e2⟩ := R'.ex
    have m1 := R.em y ((hm _).mpr hy)
    have m2 := R'.em x ((hm _).mp hx)
    omega
/-- the ends at the numbers -/
def atEs (es : List En) (js : List Nat) (xs : List En) : Prop := js.length = xs.length ∧ ∀ (i j : Nat), js[i]? = some j → ∃ x, xs[i]? = some x ∧ es[j]? = some x
theorem atEs.pos {es : List En} {js : List Nat} {xs : List En} (h : atEs es js xs) (hs : ∀ x ∈ es, 0 ≤ x.s) : ∀ x ∈ xs, 0 ≤ x.s := by
  intro x hx
  obtain ⟨k, hk⟩ := List.getElem?_of_mem hx
  have hk2 := (List.getElem?_eq_some_iff.mp hk).1
  obtain ⟨x2, h2, h3⟩ := h.2 k _ (List.getElem?_eq_getElem (by rw [h.1]; exact hk2))
  cases hk.symm.trans h2
  exact hs _ (List.mem_of_getElem? h3)
theorem jD_get {js : List Nat} {k : Nat} {d : D} (h : (js.map jD)[k]? = some d) : ∃ j, js[k]? = some j ∧ d = jD j := by
  rw [List.getElem?_map] at h
  obtain ⟨e, h1, rfl⟩ := Option.map_eq_some_iff.mp h
  exact ⟨e, h1, rfl⟩
theorem atEs_ex {es : List En} : ∀ {js : List Nat}, (∀ j ∈ js, j < es.length) → js ≠ [] → ∃ xs, atEs es js xs ∧ xs.length = js.length ∧ xs ≠ [] ∧ ∀ x, x ∈ xs ↔ ∃ j ∈ js, es[j]? = some x := by
  intro js hj hne
  have : ∀ {js : List Nat}, (∀ j ∈ js, j < es.length) → ∃ xs, atEs es js xs ∧ ∀ x, x ∈ xs ↔ ∃ j ∈ js, es[j]? = some x := by
    intro js
    induction js with
    | nil => exact fun _ => ⟨[], ⟨rfl, fun i j h => by simp at h⟩, fun x => by simp⟩
    | cons j js ih =>
      intro hj
      obtain ⟨xs, ⟨h1, h2⟩, h3⟩ := ih fun k hk => hj k (List.mem_cons_of_mem _ hk)
      have hlt := hj j List.mem_cons_self
      refine ⟨es[j] :: xs, ⟨by simp [h1], fun i k hk => ?_⟩, fun x => ?_⟩
      · cases i with
        | zero =>
          cases hk
          exact ⟨_, rfl, List.getElem?_eq_getElem hlt⟩
        | succ i => exact h2 i k hk
      · rw [List.mem_cons, h3]
        constructor
        · rintro (rfl | ⟨k, hk, e⟩)
          · exact ⟨j, List.mem_cons_self, List.getElem?_eq_getElem hlt⟩
          · exact ⟨k, List.mem_cons_of_mem _ hk, e⟩
        · rintro ⟨k, hk, e⟩
          rcases List.mem_cons.mp hk with rfl | hk
          · rw [List.getElem?_eq_getElem hlt] at e
            exact .inl (Option.some.inj e).symm
          · exact .inr ⟨k, hk, e⟩
  obtain ⟨xs, h1, h2⟩ := this hj
  refine ⟨xs, h1, h1.1.symm, fun h => ?_, h2⟩
  subst h
  exact hne (List.length_eq_zero_iff.mp h1.1)
/-- the height ahead of the pair (i, j) -/
structure HtOf (xs : List En) (i j : Nat) (h : Int) : Prop where
  pos : 0 ≤ h
  hx : h = 0 ∨ ∃ x ∈ xs, ∃ y ∈ xs, wI x y = h
  hm : ∀ k l x y, xs[k]? = some x → xs[l]? = some y → k ≤ l → (k < i ∨ k = i ∧ l < j) → wI x y ≤ h
theorem wI_ge (x y : En) : (x.x + x.y) - (y.x + y.y) + x.s + y.s ≤ wI x y ∧ (y.x + y.y) - (x.x + x.y) + x.s + y.s ≤ wI x y ∧ (x.x - x.y) - (y.x - y.y) + x.s + y.s ≤ wI x y ∧ (y.x - y.y) - (x.x - x.y) + x.s + y.s ≤ wI x y := by
  unfold wI di
  omega
theorem wI_le {x y : En} {n : Int} (h1 : (x.x + x.y) - (y.x + y.y) + x.s + y.s ≤ n) (h2 : (y.x + y.y) - (x.x + x.y) + x.s + y.s ≤ n) (h3 : (x.x - x.y) - (y.x - y.y) + x.s + y.s ≤ n) (h4 : (y.x - y.y) - (x.x - x.y) + x.s + y.s ≤ n) : wI x y ≤ n := by
  unfold wI di
  omega
set_option maxHeartbeats 4000000 in
theorem RowOf.join {xs ys : List En} {h a b c e h' a' b' c' e' : Int} (R : RowOf xs h a b c e) (S : RowOf ys h' a' b' c' e') : ∃ H A B C E : Int, RowOf (xs ++ ys) H A B C E ∧ H = max (max h h') ((h + h' + apI a b c e a' b' c' e') / 2) ∧
    A = max (a - (H - h)) (a' - (H - h')) ∧ B = min (b + (H - h)) (b' + (H - h')) ∧ C = max (c - (H - h)) (c' - (H - h')) ∧ E = min (e + (H - h)) (e' + (H - h')) := by
  have F := apI_facts (rfl : apI a b c e a' b' c' e' = _)
  obtain ⟨H, hH⟩ : ∃ H, H = max (max h h') ((h + h' + apI a b c e a' b' c' e') / 2) := ⟨_, rfl⟩
  have hcross : ∀ x ∈ xs, ∀ y ∈ ys, wI x y ≤ H := fun x hx y hy => by
    have r1 := R.am x hx
    have r2 := R.bm x hx
    have r3 := R.cm x hx
    have r4 := R.em x hx
    have s1 := S.am y hy
    have s2 := S.bm y hy
    have s3 := S.cm y hy
    have s4 := S.em y hy
    clear R S
    exact wI_le (by omega) (by omega) (by omega) (by omega)
  have hl : ∀ {x}, x ∈ xs → x ∈ xs ++ ys := fun h => List.mem_append_left _ h
  have hr : ∀ {x}, x ∈ ys → x ∈ xs ++ ys := fun h => List.mem_append_right _ h
  have hall : ∀ {p : En → Prop}, (∀ x ∈ xs, p x) → (∀ y ∈ ys, p y) → ∀ z ∈ xs ++ ys, p z := fun h1 h2 z hz => (List.mem_append.mp hz).elim (h1 z) (h2 z)
  have hhm : ∀ x ∈ xs ++ ys, ∀ y ∈ xs ++ ys, wI x y ≤ H := hall
    (fun x hx => hall (fun y hy => by have := R.hm x hx y hy; omega) (fun y hy => hcross x hx y hy))
    (fun x hx => hall (fun y hy => by rw [wI_comm]; exact hcross y hy x hx) (fun y hy => by have := S.hm x hx y hy; omega))
  refine ⟨H, _, _, _, _, ⟨by simp [R.ne], hall R.pos S.pos, ?_, hhm, ?_, ?_, ?_, ?_, ?_, ?_, ?_, ?_⟩, hH, rfl, rfl, rfl, rfl⟩
  · by_cases h1 : H = h
    · obtain ⟨x, hx, y, hy, e1⟩ := R.hx
      exact ⟨x, hl hx, y, hl hy, by omega⟩
    by_cases h2 : H = h'
    · obtain ⟨x, hx, y, hy, e1⟩ := S.hx
      exact ⟨x, hr hx, y, hr hy, by omega⟩
    obtain ⟨p1, hp1, q1⟩ := R.ax
    obtain ⟨p2, hp2, q2⟩ := R.bx
    obtain ⟨p3, hp3, q3⟩ := R.cx
    obtain ⟨p4, hp4, q4⟩ := R.ex
    obtain ⟨t1, ht1, u1⟩ := S.ax
    obtain ⟨t2, ht2, u2⟩ := S.bx
    obtain ⟨t3, ht3, u3⟩ := S.cx
    obtain ⟨t4, ht4, u4⟩ := S.ex
    obtain ⟨_, _, _, _, _, F5⟩ := F
    have w1 := hcross p1 hp1 t2 ht2
    have w2 := hcross p2 hp2 t1 ht1
    have w3 := hcross p3 hp3 t4 ht4
    have w4 := hcross p4 hp4 t3 ht3
    rcases F5 with F5 | F5 | F5 | F5 | F5
    · omega
    · exact ⟨p1, hl hp1, t2, hr ht2, by have g := (wI_ge p1 t2).1; clear w2 w3 w4; omega⟩
    · exact ⟨p2, hl hp2, t1, hr ht1, by have g := (wI_ge p2 t1).2.1; clear w3 w4 w1; omega⟩
    · exact ⟨p3, hl hp3, t4, hr ht4, by have g := (wI_ge p3 t4).2.2.1; clear w4 w1 w2; omega⟩
    · exact ⟨p4, hl hp4, t3, hr ht3, by have g := (wI_ge p4 t3).2.2.2; clear w1 w2 w3; omega⟩
  · rcases Int.le_total (a - (H - h)) (a' - (H - h')) with z | z
    · obtain ⟨x, hx, e1⟩ := S.ax; exact ⟨x, hr hx, by omega⟩
    · obtain ⟨x, hx, e1⟩ := R.ax; exact ⟨x, hl hx, by omega⟩
  · exact hall (fun x hx => by have := R.am x hx; omega) (fun x hx => by have := S.am x hx; omega)
  · rcases Int.le_total (b + (H - h)) (b' + (H - h')) with z | z
    · obtain ⟨x, hx, e1⟩ := R.bx; exact ⟨x, hl hx, by omega⟩
    · obtain ⟨x, hx, e1⟩ := S.bx; exact ⟨x, hr hx, by omega⟩
  · exact hall (fun x hx => by have := R.bm x hx; omega) (fun x hx => by have := S.bm x hx; omega)
  · rcases Int.le_total (c - (H - h)) (c' - (H - h')) with z | z
    · obtain ⟨x, hx, e1⟩ := S.cx; exact ⟨x, hr hx, by omega⟩
    · obtain ⟨x, hx, e1⟩ := R.cx; exact ⟨x, hl hx, by omega⟩
  · exact hall (fun x hx => by have := R.cm x hx; omega) (fun x hx => by have := S.cm x hx; omega)
  · rcases Int.le_total (e + (H - h)) (e' + (H - h')) with z | z
    · obtain ⟨x, hx, e1⟩ := R.ex; exact ⟨x, hl hx, by omega⟩
    · obtain ⟨x, hx, e1⟩ := S.ex; exact ⟨x, hr hx, by omega⟩
  · exact hall (fun x hx => by have := R.em x hx; omega) (fun x hx => by have := S.em x hx; omega)
theorem RowOf.one (x : En) (h : 0 ≤ x.s) : RowOf [x] (2 * x.s) (2 * (x.x + x.y)) (2 * (x.x + x.y)) (2 * (x.x - x.y)) (2 * (x.x - x.y)) := by
  have hm : x ∈ [x] := List.mem_singleton.mpr rfl
  have hh : ∀ {p : En → Prop}, p x → ∀ y ∈ [x], p y := fun h y hy => by rw [List.mem_singleton.mp hy]; exact h
  exact ⟨by simp, hh h, ⟨x, hm, x, hm, wI_self x⟩, hh (hh (Int.le_of_eq (wI_self x))), ⟨x, hm, by omega⟩, hh (by omega), ⟨x, hm, by omega⟩, hh (by omega), ⟨x, hm, by omega⟩, hh (by omega), ⟨x, hm, by omega⟩, hh (by omega)⟩
theorem RowOf.some : ∀ (xs : List En), xs ≠ [] → (∀ x ∈ xs, 0 ≤ x.s) → ∃ h a b c e, RowOf xs h a b c e
  | [], hn, _ => absurd rfl hn
  | [x], _, hs => ⟨_, _, _, _, _, RowOf.one x (hs x (List.mem_singleton.mpr rfl))⟩
  | x :: y :: r, _, hs => by
    obtain ⟨h, a, b, c, e, R⟩ := RowOf.some (y :: r) (by simp) fun z hz => hs z (List.mem_cons_of_mem _ hz)
    obtain ⟨H, A, B, C, E, T, _⟩ := (RowOf.one x (hs x List.mem_cons_self)).join R
    exact ⟨H, A, B, C, E, T⟩
/-- of the same ends -/
theorem RowOf.of_mem {xs ys : List En} {h a b c e : Int} (R : RowOf xs h a b c e) (hm : ∀ x, x ∈ xs ↔ x ∈ ys) : RowOf ys h a b c e := by
  refine ⟨fun z => ?_, fun x hx => R.pos x ((hm x).mpr hx), ?_, fun x hx y hy => R.hm x ((hm x).mpr hx) y ((hm y).mpr hy), ?_, fun x hx => R.am x ((hm x).mpr hx), ?_, fun x hx => R.bm x ((hm x).mpr hx), ?_, fun x hx => R.cm x ((hm x).mpr hx), ?_, fun x hx => R.em x ((hm x).mpr hx)⟩
  · subst z
    obtain ⟨x, hx, _⟩ := R.ax
    exact absurd ((hm x).mp hx) (by simp)
  · obtain ⟨x, hx, y, hy, q⟩ := R.hx; exact ⟨x, (hm x).mp hx, y, (hm y).mp hy, q⟩
  · obtain ⟨x, hx, q⟩ := R.ax; exact ⟨x, (hm x).mp hx, q⟩
  · obtain ⟨x, hx, q⟩ := R.bx; exact ⟨x, (hm x).mp hx, q⟩
  · obtain ⟨x, hx, q⟩ := R.cx; exact ⟨x, (hm x).mp hx, q⟩
  · obtain ⟨x, hx, q⟩ := R.ex; exact ⟨x, (hm x).mp hx, q⟩
end Wk

set_option Elab.async false
set_option linter.all false
set_option maxRecDepth 100000
namespace Wk
open PySem PySem.Spec L2 WkE
/-- a pair of knots -/
abbrev pD (p : Nat × Nat) : D := .tup [jD p.1, jD p.2]
/-- rows of a joining of m ends; what waits to be joined -/
inductive Joins (m : Nat) : List (Nat × Nat) → List Nat → Prop
  | nil : Joins m [] (List.range m)
  | step {J : List (Nat × Nat)} {W W' W2 : List Nat} {a b : Nat} : Joins m J W → W.Perm (a :: b :: W') → W2.Perm ((m + J.length) :: W') → Joins m (J ++ [(a, b)]) W2
/-- the ends beneath each knot -/
def bel (m : Nat) (J : List (Nat × Nat)) : List (List Nat) := J.foldl (fun B p => B ++ [B.getD p.1 [] ++ B.getD p.2 []]) ((List.range m).map fun i => [i])
theorem bel_nil (m : Nat) : bel m [] = (List.range m).map fun i => [i] := rfl
theorem bel_snoc (m : Nat) (J : List (Nat × Nat)) (p : Nat × Nat) : bel m (J ++ [p]) = bel m J ++ [(bel m J).getD p.1 [] ++ (bel m J).getD p.2 []] := by
  unfold bel
  rw [List.foldl_append]; rfl
theorem bel_length (m : Nat) (J : List (Nat × Nat)) : (bel m J).length = m + J.length := by
  have : ∀ (J : List (Nat × Nat)) (B : List (List Nat)), (J.foldl (fun B p => B ++ [B.getD p.1 [] ++ B.getD p.2 []]) B).length = B.length + J.length := by
    intro J
    induction J with
    | nil => intro B; rfl
    | cons p J ih => intro B; rw [List.foldl_cons, ih, List.length_append, List.length_cons, List.length_cons, List.length_nil]; omega
  unfold bel
  rw [this, List.length_map, List.length_range]
def belAt (m : Nat) (J : List (Nat × Nat)) (k : Nat) : List Nat := (bel m J).getD k []
theorem belAt_snoc_lt {m k : Nat} {J : List (Nat × Nat)} {p : Nat × Nat} (h : k < m + J.length) : belAt m (J ++ [p]) k = belAt m J k := by
  unfold belAt
  rw [bel_snoc, List.getD_eq_getElem?_getD, List.getElem?_append_left (by rw [bel_length]; exact h), ← List.getD_eq_getElem?_getD]
theorem belAt_new {m : Nat} {J : List (Nat × Nat)} {p : Nat × Nat} : belAt m (J ++ [p]) (m + J.length) = belAt m J p.1 ++ belAt m J p.2 := by
  unfold belAt
  rw [bel_snoc, List.getD_eq_getElem?_getD, List.getElem?_append_right (by rw [bel_length]; exact Nat.le_refl _), bel_length, Nat.sub_self]
  rfl
theorem belAt_end {m k : Nat} (h : k < m) : ∀ J : List (Nat × Nat), belAt m J k = [k] := by
  intro J
  rcases List.eq_nil_or_concat J with rfl | ⟨J, p, rfl⟩
  · unfold belAt
    rw [bel_nil, List.getD_eq_getElem?_getD, List.getElem?_map, List.getElem?_range h]; rfl
  · rw [List.concat_eq_append, belAt_snoc_lt (by omega), belAt_end h J]
termination_by J => J.length
theorem bel_get {m k : Nat} {J : List (Nat × Nat)} (h : k < m + J.length) : (bel m J)[k]? = some (belAt m J k) := by
  unfold belAt
  rw [List.getD_eq_getElem?_getD, List.getElem?_eq_getElem (by rw [bel_length]; exact h)]
  rfl
structure JFacts (m : Nat) (J : List (Nat × Nat)) (W : List Nat) : Prop where
  len : W.length + J.length = m
  lt : ∀ w ∈ W, w < m + J.length
  part : (W.flatMap (belAt m J)).Perm (List.range m)
  sides : (W ++ J.flatMap fun p => [p.1, p.2]).Perm (List.range (m + J.length))
  low : ∀ k p, J[k]? = some p → p.1 < m + k ∧ p.2 < m + k
  bnd : ∀ k, k < m + J.length → belAt m J k ≠ [] ∧ (belAt m J k).Nodup ∧ ∀ i ∈ belAt m J k, i < m
theorem flatMap_single : ∀ l : List Nat, l.flatMap (fun i => [i]) = l
  | [] => rfl
  | x :: l => by rw [List.flatMap_cons, flatMap_single l]; rfl
theorem flatMap_congrL {f g : Nat → List Nat} : ∀ {l : List Nat}, (∀ x ∈ l, f x = g x) → l.flatMap f = l.flatMap g
  | [], _ => rfl
  | x :: l, h => by rw [List.flatMap_cons, List.flatMap_cons, h x List.mem_cons_self, flatMap_congrL fun y hy => h y (List.mem_cons_of_mem _ hy)]
theorem Joins.facts {m : Nat} {J : List (Nat × Nat)} {W : List Nat} (h : Joins m J W) : JFacts m J W := by
  induction h with
  | nil =>
    refine ⟨by rw [List.length_range]; rfl, fun w hw => List.mem_range.mp hw, ?_, by simp, fun k p h => by simp at h, fun k hk => ?_⟩
    · rw [flatMap_congrL (g := fun i => [i]) fun x hx => belAt_end (List.mem_range.mp hx) [], flatMap_single]
    · have hk2 : k < m := hk
      rw [belAt_end hk2]
      refine ⟨by simp, by simp, fun i hi => ?_⟩
      rw [List.mem_singleton.mp hi]; exact hk2
  | @step J W W' W2 a b _ hp hq ih =>
    have hl : W.length = W'.length + 2 := by rw [hp.length_eq]; rfl
    have ha : a < m + J.length := ih.lt a (hp.mem_iff.mpr (by simp))
    have hb : b < m + J.length := ih.lt b (hp.mem_iff.mpr (by simp))
    have hW' : ∀ w ∈ W', w < m + J.length := fun w hw => ih.lt w (hp.mem_iff.mpr (by simp [hw]))
    have hln : (J ++ [(a, b)]).length = J.length + 1 := by rw [List.length_append]; rfl
    have pt := (hp.symm.flatMap_right (belAt m J)).trans ih.part
    rw [List.flatMap_cons, List.flatMap_cons] at pt
    refine ⟨?_, fun w hw => ?_, ?_, ?_, fun k p hk => ?_, fun k hk => ?_⟩
    · rw [hq.length_eq, hln, List.length_cons]
      have := ih.len; omega
    · rw [hln]
      rcases List.mem_cons.mp (hq.mem_iff.mp hw) with rfl | hw
      · omega
      · have := hW' w hw; omega
    · refine (hq.flatMap_right _).trans ?_
      rw [List.flatMap_cons, belAt_new, flatMap_congrL (g := belAt m J) fun x hx => belAt_snoc_lt (hW' x hx), List.append_assoc]
      exact pt
    · rw [hln, ← Nat.add_assoc, List.range_succ, List.flatMap_append]
      refine (hq.append_right _).trans ?_
      have e1 : (m + J.length) :: W' ++ (J.flatMap (fun p => [p.1, p.2]) ++ [(a, b)].flatMap fun p => [p.1, p.2]) = [m + J.length] ++ (W' ++ (J.flatMap (fun p => [p.1, p.2]) ++ [a, b])) := by simp
      rw [e1]
      refine List.perm_append_comm.trans (List.Perm.append_right _ ?_)
      have e2 : (W' ++ (J.flatMap (fun p => [p.1, p.2]) ++ [a, b])).Perm ((a :: b :: W') ++ J.flatMap fun p => [p.1, p.2]) := by
        have : ((a :: b :: W') ++ J.flatMap fun p => [p.1, p.2]) = [a, b] ++ (W' ++ J.flatMap fun p => [p.1, p.2]) := by simp
        rw [this, ← List.append_assoc]
        exact List.perm_append_comm
      exact e2.trans ((hp.symm.append_right _).trans ih.sides)
    · by_cases c : k < J.length
      · rw [List.getElem?_append_left c] at hk
        exact ih.low k p hk
      · rw [List.getElem?_append_right (by omega)] at hk
        have e : k - J.length = 0 := by
          have := (List.getElem?_eq_some_iff.mp hk).1
          simp at this; omega
        rw [e] at hk
        cases hk
        exact ⟨by omega, by omega⟩
    · by_cases c : k < m + J.length
      · rw [belAt_snoc_lt c]; exact ih.bnd k c
      · have e : k = m + J.length := by rw [hln] at hk; omega
        subst e
        rw [belAt_new]
        have nd := pt.nodup_iff.mpr List.nodup_range
        rw [← List.append_assoc] at nd
        refine ⟨by have := (ih.bnd a ha).1; simp [this], (List.nodup_append.mp nd).1, fun i hi => ?_⟩
        rcases List.mem_append.mp hi with hi | hi
        · exact (ih.bnd a ha).2.2 i hi
        · exact (ih.bnd b hb).2.2 i hi
theorem Joins.perm {m : Nat} {J : List (Nat × Nat)} {W W2 : List Nat} (h : Joins m J W) (hp : W2.Perm W) (hJ : J ≠ []) : Joins m J W2 := by
  cases h with
  | nil => exact absurd rfl hJ
  | step h1 h2 h3 => exact .step h1 h2 (hp.trans h3)
/-- a joining of m ends -/
def Jng (m : Nat) (J : List (Nat × Nat)) : Prop := J.length + 1 = m ∧ ∃ W, Joins m J W
theorem Jng.root {m : Nat} {J : List (Nat × Nat)} (h : Jng m J) : Joins m J [m + J.length - 1] := by
  obtain ⟨hl, W, hj⟩ := h
  have F := hj.facts
  have hW : W.length = 1 := by have := F.len; omega
  cases hj with
  | nil => cases (by simpa using hl : 1 = m); exact .nil
  | @step J' W0 W' W2 a b h1 h2 h3 =>
      have e : W' = [] := by
        have := h3.length_eq
        rw [hW] at this
        simp at this
        exact this
      subst e
      have hln : m + (J' ++ [(a, b)]).length - 1 = m + J'.length := by rw [List.length_append]; rfl
      rw [hln]
      exact .step h1 h2 (.refl _)
theorem Jng.whole {m : Nat} {J : List (Nat × Nat)} (h : Jng m J) : (belAt m J (m + J.length - 1)).Perm (List.range m) := by
  have := h.root.facts.part
  simpa using this
theorem Jng.facts {m : Nat} {J : List (Nat × Nat)} (h : Jng m J) : JFacts m J [m + J.length - 1] := h.root.facts
/-! sides exchanged -/
def sw (p : Nat × Nat) : Nat × Nat := (p.2, p.1)
theorem Joins.swap {m : Nat} {J : List (Nat × Nat)} {W : List Nat} (h : Joins m J W) : Joins m (J.map sw) W := by
  induction h with
  | nil => exact .nil
  | @step J W W' W2 a b _ hp hq ih =>
    rw [List.map_append]
    refine .step (W' := W') ih (hp.trans (.swap _ _ _)) ?_
    rw [List.length_map]; exact hq
theorem bel_swap {m : Nat} : ∀ (n : Nat) (J : List (Nat × Nat)), J.length = n → ∀ k, (belAt m (J.map sw) k).Perm (belAt m J k) := by
  intro n
  induction n with
  | zero => intro J hJ k; rw [List.length_eq_zero_iff.mp hJ]; exact .refl _
  | succ n ih =>
    intro J hJ k
    rcases List.eq_nil_or_concat J with rfl | ⟨J, p, rfl⟩
    · simp at hJ
    rw [List.concat_eq_append] at hJ ⊢
    have hn : J.length = n := by rw [List.length_append] at hJ; simpa using hJ
    rw [List.map_append]
    show (belAt m (J.map sw ++ [sw p]) k).Perm _
    by_cases c : k < m + J.length
    · rw [belAt_snoc_lt (by rw [List.length_map]; exact c), belAt_snoc_lt c]
      exact ih J hn k
    · by_cases e : k = m + J.length
      · subst e
        have e2 : m + J.length = m + (J.map sw).length := by rw [List.length_map]
        rw [belAt_new]
        conv => lhs; rw [e2]
        rw [belAt_new]
        exact ((ih J hn _).append (ih J hn _)).trans List.perm_append_comm
      · have e1 : belAt m (J ++ [p]) k = [] := by
          unfold belAt
          rw [List.getD_eq_getElem?_getD, List.getElem?_eq_none (by rw [bel_length, List.length_append, List.length_singleton]; omega)]; rfl
        have e2 : belAt m (J.map sw ++ [sw p]) k = [] := by
          unfold belAt
          rw [List.getD_eq_getElem?_getD, List.getElem?_eq_none (by rw [bel_length, List.length_append, List.length_map, List.length_singleton]; omega)]; rfl
        rw [e1, e2]
end Wk
namespace Wk
theorem joins_pre {m : Nat} {J : List (Nat × Nat)} {W : List Nat} (h : Joins m J W) : ∀ {pre suf : List (Nat × Nat)} {x : Nat × Nat}, J = pre ++ x :: suf → ∃ W', Joins m pre W' := by
  induction h with
  | nil => intro pre suf x e; simp at e
  | @step J W W' W2 a b h1 h2 h3 ih =>
    intro pre suf x e
    rcases List.eq_nil_or_concat suf with rfl | ⟨suf, y, rfl⟩
    · have := List.append_inj' e rfl
      exact ⟨_, this.1 ▸ h1⟩
    · rw [List.concat_eq_append, ← List.cons_append, ← List.append_assoc] at e
      have := List.append_inj' e rfl
      exact ih this.1
end Wk
namespace Wk
theorem belAt_pre {m k : Nat} : ∀ {suf pre : List (Nat × Nat)}, k < m + pre.length → belAt m (pre ++ suf) k = belAt m pre k
  | [], pre, _ => by rw [List.append_nil]
  | x :: suf, pre, h => by
    rw [show pre ++ x :: suf = (pre ++ [x]) ++ suf by simp, belAt_pre (suf := suf) (pre := pre ++ [x]) (by rw [List.length_append]; omega), belAt_snoc_lt h]
/-- beneath a joint: beneath its sides -/
theorem belAt_joint {m k : Nat} {J : List (Nat × Nat)} {x : Nat × Nat} (h : J[k]? = some x) (hl : x.1 < m + k ∧ x.2 < m + k) : belAt m J (m + k) = belAt m J x.1 ++ belAt m J x.2 := by
  obtain ⟨hk, e⟩ := List.getElem?_eq_some_iff.mp h
  have hs : J = (J.take k ++ [x]) ++ J.drop (k + 1) := by
    rw [← e, List.append_assoc]
    show J = J.take k ++ J[k] :: J.drop (k + 1)
    rw [← List.drop_eq_getElem_cons hk, List.take_append_drop]
  have ht : (J.take k).length = k := by rw [List.length_take]; omega
  generalize J.take k = pre at *
  generalize J.drop (k + 1) = suf at *
  subst hs
  have hl1 : (pre ++ [x]).length = k + 1 := by rw [List.length_append, ht]; rfl
  rw [belAt_pre (by omega), belAt_pre (k := x.1) (by omega), belAt_pre (k := x.2) (by omega), belAt_snoc_lt (k := x.1) (by omega), belAt_snoc_lt (k := x.2) (by omega)]
  have := belAt_new (m := m) (J := pre) (p := x)
  rwa [ht] at this
end Wk
namespace Wk
/-- put in order -/
def srt (L : List Nat) : List Nat := L.mergeSort fun a b => decide (a ≤ b)
theorem srt_perm (L : List Nat) : (srt L).Perm L := List.mergeSort_perm L _
theorem srt_le (L : List Nat) : (srt L).Pairwise (· ≤ ·) := by
  have := List.pairwise_mergeSort (le := fun a b : Nat => decide (a ≤ b)) (fun a b c h1 h2 => by simp at *; omega) (fun a b => by simp; omega) L
  exact this.imp fun h => by simpa using h
theorem srt_uniq {L M : List Nat} (hp : L.Perm M) (hs : L.Pairwise (· ≤ ·)) : L = srt M :=
  List.Perm.eq_of_pairwise (le := fun a b : Nat => a ≤ b) (fun a b _ _ h1 h2 => by omega) hs (srt_le M) (hp.trans (srt_perm M).symm)
theorem srt_congr {L M : List Nat} (hp : L.Perm M) : srt L = srt M := srt_uniq ((srt_perm L).trans hp) (srt_le L)
/-- how many knots are beneath, in all -/
def kn (m : Nat) (J : List (Nat × Nat)) (W : List Nat) : Nat := (W.map fun w => 2 * (belAt m J w).length - 1).sum
end Wk
namespace Wk
theorem flat_len {f : Nat → List Nat} : ∀ {W : List Nat}, (∀ w ∈ W, f w ≠ []) → W.length ≤ (W.flatMap f).length
  | [], _ => Nat.le_refl _
  | w :: W, h => by
    rw [List.flatMap_cons, List.length_append, List.length_cons]
    have h1 := List.length_pos_iff.mpr (h w List.mem_cons_self)
    have h2 := flat_len (W := W) fun z hz => h z (List.mem_cons_of_mem _ hz)
    omega
theorem JFacts.few {m k : Nat} {J : List (Nat × Nat)} {W : List Nat} (F : JFacts m J W) (h : k < m + J.length) : (belAt m J k).length ≤ m := by
  obtain ⟨_, d, b⟩ := F.bnd k h
  have := d.length_le_of_subset (l₂ := List.range m) fun j hj => List.mem_range.mpr (b j hj)
  rwa [List.length_range] at this
end Wk
namespace Wk
/-- a knot is the side of one row alone -/
theorem JFacts.uniq {m i j k : Nat} {J : List (Nat × Nat)} {W : List Nat} {x y : Nat × Nat} (F : JFacts m J W) (hx : J[i]? = some x) (hy : J[j]? = some y) (h1 : x.1 = k ∨ x.2 = k) (h2 : y.1 = k ∨ y.2 = k) : i = j := by
  have nd := F.sides.nodup_iff.mpr List.nodup_range
  have nd2 := (List.nodup_append.mp nd).2.1
  have pw := (List.pairwise_flatMap.mp nd2).2
  have mem : ∀ {z : Nat × Nat}, (z.1 = k ∨ z.2 = k) → k ∈ [z.1, z.2] := fun h => by simp; rcases h with h | h <;> simp [h]
  obtain ⟨hi, ei⟩ := List.getElem?_eq_some_iff.mp hx
  obtain ⟨hj, ej⟩ := List.getElem?_eq_some_iff.mp hy
  rcases Nat.lt_trichotomy i j with c | c | c
  · have := List.pairwise_iff_getElem.mp pw i j hi hj c
    rw [ei, ej] at this
    exact absurd rfl (this k (mem h1) k (mem h2))
  · exact c
  · have := List.pairwise_iff_getElem.mp pw j i hj hi c
    rw [ei, ej] at this
    exact absurd rfl (this k (mem h2) k (mem h1))
theorem belAt_lt {m k e : Nat} {J : List (Nat × Nat)} (h : e ∈ belAt m J k) : k < m + J.length := by
  refine Classical.byContradiction fun c => ?_
  unfold belAt at h
  rw [List.getD_eq_getElem?_getD, List.getElem?_eq_none (by rw [bel_length]; omega)] at h
  simp at h
/-- between a knot and the joint above it no knot has an end in common with it -/
theorem JFacts.gap {m : Nat} {J : List (Nat × Nat)} {W : List Nat} (F : JFacts m J W) : ∀ (n k j e : Nat), k + j < n → k < j → (∀ i x, J[i]? = some x → (x.1 = k ∨ x.2 = k) → j < m + i) → e ∈ belAt m J k → e ∈ belAt m J j → False := by
  intro n
  induction n with
  | zero => intro k j e h; omega
  | succ n ih =>
    intro k j e hn hkj hup h1 h2
    have hj := belAt_lt h2
    by_cases c : j < m
    · rw [belAt_end c] at h2
      rw [belAt_end (by omega)] at h1
      simp at h1 h2; omega
    have hx : ∃ x, J[j - m]? = some x := ⟨_, List.getElem?_eq_getElem (by omega)⟩
    obtain ⟨x, hx⟩ := hx
    have hlow := F.low _ x hx
    have hb := belAt_joint hx hlow
    rw [show m + (j - m) = j by omega] at hb
    rw [hb] at h2
    have side : ∀ s, (x.1 = s ∨ x.2 = s) → e ∈ belAt m J s → False := by
      intro s hs he
      have hsj : s < j := by rcases hs with rfl | rfl <;> omega
      rcases Nat.lt_trichotomy s k with d | d | d
      · exact ih s k e (by omega) d (fun i y hy hs2 => by
          have := F.uniq hx hy hs hs2
          omega) he h1
      · subst d
        have := hup _ x hx hs
        omega
      · exact ih k s e (by omega) d (fun i y hy hk => by have := hup i y hy hk; omega) h1 he
    rcases List.mem_append.mp h2 with h2 | h2
    · exact side _ (.inl rfl) h2
    · exact side _ (.inr rfl) h2
/-- of two knots that have an end in common the greater has all ends of the lesser -/
theorem JFacts.nest {m : Nat} {J : List (Nat × Nat)} {W : List Nat} (F : JFacts m J W) : ∀ (n k j e : Nat), j < n → k ≤ j → e ∈ belAt m J k → e ∈ belAt m J j → ∀ z ∈ belAt m J k, z ∈ belAt m J j := by
  intro n
  induction n with
  | zero => intro k j e h; omega
  | succ n ih =>
    intro k j e hn hkj h1 h2
    by_cases ekj : k = j
    · subst ekj; exact fun _ h => h
    have hj := belAt_lt h2
    by_cases c : j < m
    · rw [belAt_end c] at h2
      rw [belAt_end (by omega)] at h1
      simp at h1 h2; omega
    have hx : ∃ x, J[j - m]? = some x := ⟨_, List.getElem?_eq_getElem (by omega)⟩
    obtain ⟨x, hx⟩ := hx
    have hlow := F.low _ x hx
    have hb := belAt_joint hx hlow
    rw [show m + (j - m) = j by omega] at hb
    rw [hb] at h2
    have side : ∀ s, (x.1 = s ∨ x.2 = s) → e ∈ belAt m J s → ∀ z ∈ belAt m J k, z ∈ belAt m J s := by
      intro s hs he
      have hsj : s < j := by rcases hs with rfl | rfl <;> omega
      by_cases d : k ≤ s
      · exact ih k s e (by omega) d h1 he
      · exact (F.gap _ s k e (Nat.lt_succ_self _) (by omega) (fun i y hy hs2 => by have := F.uniq hx hy hs hs2; omega) he h1).elim
    intro z hz
    rw [hb]
    rcases List.mem_append.mp h2 with h2 | h2
    · exact List.mem_append_left _ (side _ (.inl rfl) h2 z hz)
    · exact List.mem_append_right _ (side _ (.inr rfl) h2 z hz)
/-- the chain of a knot: the knots above it that have its ends -/
def chn (m : Nat) (J : List (Nat × Nat)) (k : Nat) : List Nat := (List.range (m + J.length)).filter fun j => decide (k ≤ j ∧ ∀ e ∈ belAt m J k, e ∈ belAt m J j)
theorem rise_ext : ∀ {l l' : List Nat}, l.Pairwise (· < ·) → l'.Pairwise (· < ·) → (∀ x, x ∈ l ↔ x ∈ l') → l = l' := by
  intro l l' h1 h2 h
  have nd : ∀ {l : List Nat}, l.Pairwise (· < ·) → l.Nodup := fun h => h.imp fun q => by omega
  refine List.Perm.eq_of_pairwise (le := fun a b : Nat => a ≤ b) (fun a b _ _ h1 h2 => by omega) (h1.imp fun q => by omega) (h2.imp fun q => by omega) ?_
  exact (List.perm_ext_iff_of_nodup (nd h1) (nd h2)).mpr h
theorem chn_rise {m k : Nat} {J : List (Nat × Nat)} : (chn m J k).Pairwise (· < ·) := List.pairwise_lt_range.sublist List.filter_sublist
theorem chn_mem {m k j : Nat} {J : List (Nat × Nat)} : j ∈ chn m J k ↔ j < m + J.length ∧ k ≤ j ∧ ∀ e ∈ belAt m J k, e ∈ belAt m J j := by
  unfold chn; simp
theorem chn_ge {m k j : Nat} {J : List (Nat × Nat)} (h : j ∈ chn m J k) : k ≤ j := (chn_mem.mp h).2.1
theorem chn_root {m k : Nat} {J : List (Nat × Nat)} (h : k + 1 = m + J.length) : chn m J k = [k] := by
  refine rise_ext chn_rise (List.pairwise_singleton _ _) fun j => ?_
  rw [chn_mem, List.mem_singleton]
  exact ⟨fun ⟨h1, h2, _⟩ => by omega, fun e => by subst e; exact ⟨by omega, Nat.le_refl _, fun _ h => h⟩⟩
theorem JFacts.chn_step {m i k : Nat} {J : List (Nat × Nat)} {W : List Nat} {x : Nat × Nat} (F : JFacts m J W) (hx : J[i]? = some x) (hs : x.1 = k ∨ x.2 = k) : chn m J k = k :: chn m J (m + i) := by
  have hi := (List.getElem?_eq_some_iff.mp hx).1
  have hlow := F.low _ x hx
  have hk : k < m + i := by rcases hs with rfl | rfl <;> omega
  have hb := belAt_joint hx hlow
  have hsub : ∀ e ∈ belAt m J k, e ∈ belAt m J (m + i) := fun e he => by
    rw [hb]
    rcases hs with rfl | rfl
    · exact List.mem_append_left _ he
    · exact List.mem_append_right _ he
  refine rise_ext chn_rise (List.pairwise_cons.mpr ⟨fun j hj => by have := chn_ge hj; omega, chn_rise⟩) fun j => ?_
  rw [List.mem_cons, chn_mem, chn_mem]
  constructor
  · rintro ⟨h1, h2, h3⟩
    by_cases c : j = k
    · exact .inl c
    obtain ⟨e, he⟩ := List.exists_mem_of_ne_nil _ (F.bnd k (by omega)).1
    have hej := h3 e he
    by_cases c2 : j < m + i
    · exact (F.gap _ k j e (Nat.lt_succ_self _) (by omega) (fun i2 y hy hk2 => by have := F.uniq hx hy hs hk2; omega) he hej).elim
    refine .inr ⟨h1, by omega, ?_⟩
    exact F.nest _ (m + i) j e (Nat.lt_succ_self _) (by omega) (hsub e he) hej
  · rintro (rfl | ⟨h1, h2, h3⟩)
    · exact ⟨by omega, Nat.le_refl _, fun _ h => h⟩
    · exact ⟨h1, by omega, fun e he => h3 e (hsub e he)⟩
theorem chn_end {m e : Nat} {J : List (Nat × Nat)} (h : e < m) : chn m J e = (List.range (m + J.length)).filter fun j => decide (e ∈ belAt m J j) := by
  unfold chn
  refine List.filter_congr fun j _ => decide_eq_decide.mpr ?_
  rw [belAt_end h]
  constructor
  · rintro ⟨_, q⟩; exact q e (by simp)
  · intro q
    refine ⟨?_, fun z hz => by rw [List.mem_singleton.mp hz]; exact q⟩
    by_cases c : j < m
    · rw [belAt_end c] at q
      simp at q; omega
    · omega
/-- a knot that is no side is the last one -/
theorem JFacts.top {m k : Nat} {J : List (Nat × Nat)} {r : Nat} (F : JFacts m J [r]) (hk : k < m + J.length) (h : ∀ (i : Nat) (x : Nat × Nat), J[i]? = some x → x.1 ≠ k ∧ x.2 ≠ k) : k = r := by
  have := F.sides.mem_iff.mpr (List.mem_range.mpr hk)
  rcases List.mem_append.mp this with h1 | h1
  · exact List.mem_singleton.mp h1
  · obtain ⟨x, hx, hz⟩ := List.mem_flatMap.mp h1
    obtain ⟨i, hi⟩ := List.getElem?_of_mem hx
    have := h i x hi
    simp at hz
    rcases hz with rfl | rfl
    · exact absurd rfl this.1
    · exact absurd rfl this.2
/-- what stands above each knot, behind n rows -/
def AbvP (m : Nat) (J : List (Nat × Nat)) (n : Nat) (A : List (Option Nat)) : Prop := A.length = m + J.length ∧ (∀ k p, A[k]? = some (some p) → ∃ i x, J[i]? = some x ∧ p = m + i ∧ (x.1 = k ∨ x.2 = k)) ∧ ∀ i x, i < n → J[i]? = some x → (∃ p, A[x.1]? = some (some p)) ∧ ∃ p, A[x.2]? = some (some p)
theorem AbvP.nil {m : Nat} {J : List (Nat × Nat)} : AbvP m J 0 (List.replicate (m + J.length) none) :=
  ⟨List.length_replicate, fun k p h => by rw [List.getElem?_replicate] at h; split at h <;> simp at h, fun _ _ h => by omega⟩
theorem AbvP.step {m n : Nat} {J : List (Nat × Nat)} {A : List (Option Nat)} {x : Nat × Nat} (h : AbvP m J n A) (hx : J[n]? = some x) (hl : x.1 < m + J.length ∧ x.2 < m + J.length) : AbvP m J (n + 1) ((A.set x.1 (some (m + n))).set x.2 (some (m + n))) := by
  obtain ⟨h1, h2, h3⟩ := h
  refine ⟨by rw [List.length_set, List.length_set, h1], fun k p hk => ?_, fun i y hi hy => ?_⟩
  · rw [List.getElem?_set] at hk
    split at hk
    · next e =>
      split at hk
      · exact ⟨n, x, hx, by simpa using hk.symm, .inr e⟩
      · simp at hk
    · rw [List.getElem?_set] at hk
      split at hk
      · next e =>
        split at hk
        · exact ⟨n, x, hx, by simpa using hk.symm, .inl e⟩
        · simp at hk
      · exact h2 k p hk
  · have keep : ∀ s, s < m + J.length → ((∃ p, A[s]? = some (some p)) ∨ s = x.1 ∨ s = x.2) → ∃ p, ((A.set x.1 (some (m + n))).set x.2 (some (m + n)))[s]? = some (some p) := by
      intro s hs hp
      rw [List.getElem?_set]
      split
      · rw [List.length_set, h1, if_pos (by omega)]; exact ⟨_, rfl⟩
      · rw [List.getElem?_set]
        split
        · rw [h1, if_pos (by omega)]; exact ⟨_, rfl⟩
        · rcases hp with hp | hp | hp
          · exact hp
          · omega
          · omega
    by_cases c : i < n
    · obtain ⟨⟨p, hp⟩, ⟨q, hq⟩⟩ := h3 i y c hy
      have l1 := (List.getElem?_eq_some_iff.mp hp).1
      have l2 := (List.getElem?_eq_some_iff.mp hq).1
      exact ⟨keep _ (by omega) (.inl ⟨p, hp⟩), keep _ (by omega) (.inl ⟨q, hq⟩)⟩
    · obtain rfl : i = n := by omega
      cases hx.symm.trans hy
      exact ⟨keep _ hl.1 (.inr (.inl rfl)), keep _ hl.2 (.inr (.inr rfl))⟩
/-- one step along a chain -/
theorem AbvP.go {m k : Nat} {J : List (Nat × Nat)} {A : List (Option Nat)} (h : AbvP m J J.length A) (hJ : Jng m J) (hk : k < m + J.length) : (A[k]? = some none ∧ chn m J k = [k]) ∨ ∃ p, A[k]? = some (some p) ∧ k < p ∧ p < m + J.length ∧ chn m J k = k :: chn m J p := by
  have F := hJ.facts
  obtain ⟨h1, h2, h3⟩ := h
  have e := List.getElem?_eq_getElem (l := A) (i := k) (by omega)
  cases c : A[k]'(by omega) with
  | none =>
    rw [c] at e
    refine .inl ⟨e, ?_⟩
    have := F.top hk fun i x hx => by
      obtain ⟨⟨p, hp⟩, q, hq⟩ := h3 i x (List.getElem?_eq_some_iff.mp hx).1 hx
      constructor
      · rintro rfl; rw [e] at hp; simp at hp
      · rintro rfl; rw [e] at hq; simp at hq
    exact chn_root (by have := hJ.1; omega)
  | some p =>
    rw [c] at e
    obtain ⟨i, x, hx, rfl, hs⟩ := h2 k p e
    have hi := (List.getElem?_eq_some_iff.mp hx).1
    have hlow := F.low i x hx
    exact .inr ⟨_, e, by rcases hs with rfl | rfl <;> omega, by omega, F.chn_step hx hs⟩
end Wk
namespace Wk
open PySem PySem.Spec L2 WkE
/-- what stands above each knot, as a dict -/
abbrev abvF (A : List (Option Nat)) : Nat → Option D := fun k => (A.getD k none).map jD
theorem abvF_nil {n : Nat} : DicN [] (abvF (List.replicate n none)) := fun k => by
  show none = _
  unfold abvF
  rw [List.getD_eq_getElem?_getD, List.getElem?_replicate]
  split <;> rfl
theorem abvF_put {A : List (Option Nat)} {kds : List (Key × D)} {k : Nat} (v : Nat) (h : DicN kds (abvF A)) (hk : k < A.length) : DicN (putD kds (.inl (k : Int)) (jD v)) (abvF (A.set k (some v))) := by
  have e : (fun j => if k = j then some (jD v) else abvF A j) = abvF (A.set k (some v)) := by
    funext j
    unfold abvF
    rw [List.getD_eq_getElem?_getD, List.getD_eq_getElem?_getD, List.getElem?_set]
    by_cases c : k = j
    · subst c; rw [if_pos rfl, if_pos rfl, if_pos hk]; rfl
    · rw [if_neg c, if_neg c]
  rw [← e]
  exact h.put k _
end Wk
namespace Wk
open PySem PySem.Spec L2 WkE
/-- the joint over each knot but the last, behind n rows -/
def OverP (m : Nat) (J : List (Nat × Nat)) (n : Nat) (A : List Nat) : Prop := A.length + 1 = m + J.length ∧ ∀ i x, i < n → J[i]? = some x → A[x.1]? = some (m + i) ∧ A[x.2]? = some (m + i)
theorem OverP.nil {m n : Nat} {J : List (Nat × Nat)} (h : n + 1 = m + J.length) : OverP m J 0 (List.replicate n 0) := ⟨by rw [List.length_replicate, h], fun _ _ h => by omega⟩
theorem OverP.step {m n : Nat} {J : List (Nat × Nat)} {W A : List Nat} {x : Nat × Nat} (F : JFacts m J W) (h : OverP m J n A) (hx : J[n]? = some x) : OverP m J (n + 1) ((A.set x.1 (m + n)).set x.2 (m + n)) := by
  obtain ⟨h1, h2⟩ := h
  have hlow := F.low _ x hx
  have hn := (List.getElem?_eq_some_iff.mp hx).1
  refine ⟨by rw [List.length_set, List.length_set, h1], fun i y hi hy => ?_⟩
  have hlowy := F.low _ y hy
  have hin := (List.getElem?_eq_some_iff.mp hy).1
  have go : ∀ s, (y.1 = s ∨ y.2 = s) → ((A.set x.1 (m + n)).set x.2 (m + n))[s]? = some (m + i) := by
    intro s hs
    have hsl : s < A.length := by rcases hs with rfl | rfl <;> omega
    by_cases c : i = n
    · subst c
      cases hx.symm.trans hy
      rw [List.getElem?_set]
      split
      · rw [List.length_set, if_pos (by omega)]
      · rw [List.getElem?_set]
        split
        · rw [if_pos (by omega)]
        · rcases hs with rfl | rfl <;> contradiction
    · have n1 : x.1 ≠ s := fun e => c (F.uniq hy hx hs (.inl e))
      have n2 : x.2 ≠ s := fun e => c (F.uniq hy hx hs (.inr e))
      rw [List.getElem?_set_ne n2, List.getElem?_set_ne n1]
      have := h2 i y (by omega) hy
      rcases hs with rfl | rfl
      · exact this.1
      · exact this.2
  exact ⟨go _ (.inl rfl), go _ (.inr rfl)⟩
/-- one step upwards -/
theorem OverP.up {m k : Nat} {J : List (Nat × Nat)} {A : List Nat} (h : OverP m J J.length A) (hJ : Jng m J) (hk : k < A.length) : ∃ p, A[k]? = some p ∧ k < p ∧ p < m + J.length ∧ chn m J k = k :: chn m J p := by
  have F := hJ.facts
  have hA := h.1
  have : ∃ (i : Nat) (x : Nat × Nat), J[i]? = some x ∧ (x.1 = k ∨ x.2 = k) := by
    refine Classical.byContradiction fun c => ?_
    have := F.top (k := k) (by omega) fun i x hx => ⟨fun e => c ⟨i, x, hx, .inl e⟩, fun e => c ⟨i, x, hx, .inr e⟩⟩
    omega
  obtain ⟨i, x, hx, hs⟩ := this
  have hi := (List.getElem?_eq_some_iff.mp hx).1
  have hlow := F.low i x hx
  have g := h.2 i x hi hx
  refine ⟨m + i, ?_, by rcases hs with rfl | rfl <;> omega, by omega, F.chn_step hx hs⟩
  rcases hs with rfl | rfl
  · exact g.1
  · exact g.2
/-- both kinds of looking up tell the same -/
theorem OverP.abv {m k : Nat} {J : List (Nat × Nat)} {A : List Nat} {B : List (Option Nat)} (h : OverP m J J.length A) (hB : AbvP m J J.length B) (hJ : Jng m J) (hk : k < A.length) : ∃ p, A[k]? = some p ∧ abvF B k = some (jD p) ∧ p < m + J.length := by
  obtain ⟨p, e1, h1, h2, h3⟩ := h.up hJ hk
  refine ⟨p, e1, ?_, h2⟩
  have hA := h.1
  rcases hB.go hJ (k := k) (by omega) with ⟨e2, h4⟩ | ⟨q, e2, h4, h5, h6⟩
  · rw [h4] at h3
    have hp : p ∈ chn m J p := chn_mem.mpr ⟨h2, Nat.le_refl _, fun _ h => h⟩
    rw [← (List.cons.inj h3).2] at hp
    cases hp
  · have e3 := (List.cons.inj (h6.symm.trans h3)).2
    have hq : q = p := by
      have hd : ∀ z, z < m + J.length → (chn m J z).head? = some z := fun z hz => by
        have hz2 : z ∈ chn m J z := chn_mem.mpr ⟨hz, Nat.le_refl _, fun _ h => h⟩
        cases hc : chn m J z with
        | nil => rw [hc] at hz2; cases hz2
        | cons a l =>
          have ha : a ∈ chn m J z := by rw [hc]; exact List.mem_cons_self
          have := chn_ge ha
          have pw := chn_rise (m := m) (J := J) (k := z)
          rw [hc] at pw hz2
          rcases List.mem_cons.mp hz2 with rfl | hz3
          · rfl
          · have := (List.pairwise_cons.mp pw).1 z hz3
            omega
      have := (hd q h5).symm.trans ((congrArg List.head? e3).trans (hd p h2))
      simpa using this
    subst hq
    unfold abvF
    rw [List.getD_eq_getElem?_getD, e2]; rfl
end Wk
namespace Wk
open PySem PySem.Spec L2 WkE
theorem chn_len {m : Nat} {J : List (Nat × Nat)} (k : Nat) : (chn m J k).length ≤ m + J.length := by
  have := (List.filter_sublist (l := List.range (m + J.length)) (p := fun j => decide (k ≤ j ∧ ∀ e ∈ belAt m J k, e ∈ belAt m J j))).length_le
  rw [List.length_range] at this
  exact this
theorem chn_self {m k : Nat} {J : List (Nat × Nat)} (h : k < m + J.length) : k ∈ chn m J k := chn_mem.mpr ⟨h, Nat.le_refl _, fun _ h => h⟩
theorem chn_head {m k : Nat} {J : List (Nat × Nat)} (h : k < m + J.length) : (chn m J k)[0]? = some k := by
  have hz := chn_self h
  have pw := chn_rise (m := m) (J := J) (k := k)
  cases hc : chn m J k with
  | nil => rw [hc] at hz; cases hz
  | cons a l =>
    have ha : a ∈ chn m J k := by rw [hc]; exact List.mem_cons_self
    have h1 := chn_ge ha
    rw [hc] at pw hz
    rcases List.mem_cons.mp hz with rfl | hz
    · rfl
    · have := (List.pairwise_cons.mp pw).1 k hz
      omega
theorem chn_top {m k : Nat} {J : List (Nat × Nat)} (hJ : Jng m J) (h : k < m + J.length) : m + J.length - 1 ∈ chn m J k := by
  have := hJ.1
  refine chn_mem.mpr ⟨by omega, by omega, fun e he => hJ.whole.mem_iff.mpr (List.mem_range.mpr ((hJ.facts.bnd k h).2.2 e he))⟩
theorem chn_last {m k : Nat} {J : List (Nat × Nat)} (hJ : Jng m J) (h : k < m + J.length) : (chn m J k).getLast? = some (m + J.length - 1) := by
  have ht := chn_top hJ h
  have pw := chn_rise (m := m) (J := J) (k := k)
  rcases List.eq_nil_or_concat (chn m J k) with hc | ⟨l, a, hc⟩
  · rw [hc] at ht; cases ht
  · rw [List.concat_eq_append] at hc
    have ha : a ∈ chn m J k := by rw [hc]; simp
    have h1 := (chn_mem.mp ha).1
    rw [hc] at pw ht ⊢
    rw [List.getLast?_append]
    show some a = _
    rcases List.mem_append.mp ht with ht | ht
    · have := (List.pairwise_append.mp pw).2.2 _ ht a (by simp)
      omega
    · rw [List.mem_singleton.mp ht]
/-- where two knots meet -/
def meetN (m : Nat) (J : List (Nat × Nat)) (a b : Nat) : Nat := ((chn m J a).filter fun k => decide (k ∈ chn m J b)).getD 0 0
theorem meetN_get {m a b : Nat} {J : List (Nat × Nat)} (hJ : Jng m J) (ha : a < m + J.length) (hb : b < m + J.length) : ((chn m J a).filter fun k => decide (k ∈ chn m J b))[0]? = some (meetN m J a b) := by
  have hm : m + J.length - 1 ∈ (chn m J a).filter fun k => decide (k ∈ chn m J b) := List.mem_filter.mpr ⟨chn_top hJ ha, decide_eq_true (chn_top hJ hb)⟩
  unfold meetN
  rw [List.getD_eq_getElem?_getD, List.getElem?_eq_getElem (List.length_pos_iff.mpr (List.ne_nil_of_mem hm))]; rfl
theorem meetN_comm {m a b : Nat} {J : List (Nat × Nat)} : meetN m J a b = meetN m J b a := by
  unfold meetN
  congr 1
  refine rise_ext (chn_rise.sublist List.filter_sublist) (chn_rise.sublist List.filter_sublist) fun x => ?_
  simp only [List.mem_filter, decide_eq_true_eq]
  exact And.comm
theorem meetN_self {m a : Nat} {J : List (Nat × Nat)} (ha : a < m + J.length) : meetN m J a a = a := by
  unfold meetN
  rw [List.filter_eq_self.mpr fun x hx => decide_eq_true hx, List.getD_eq_getElem?_getD, chn_head ha]; rfl
theorem meetN_lt {m a b : Nat} {J : List (Nat × Nat)} (hJ : Jng m J) (ha : a < m + J.length) (hb : b < m + J.length) : meetN m J a b < m + J.length :=
  (chn_mem.mp (List.mem_filter.mp (List.mem_of_getElem? (meetN_get hJ ha hb))).1).1
/-- the first knot of the one chain that is in the other -/
theorem meetN_first {m a b x : Nat} {J : List (Nat × Nat)} {l r : List Nat} (h : chn m J a = l ++ x :: r) (hl : ∀ y ∈ l, y ∉ chn m J b) (hx : x ∈ chn m J b) : meetN m J a b = x := by
  unfold meetN
  rw [h, List.filter_append, List.filter_eq_nil_iff.mpr fun y hy => by simpa using hl y hy, List.nil_append, List.filter_cons, if_pos (decide_eq_true hx)]; rfl
end Wk

set_option Elab.async false
set_option linter.all false
set_option maxRecDepth 100000
namespace Wk
open PySem PySem.Spec L2 WkE
/-- a row -/
structure Rw where
  h : Int
  a : Int
  b : Int
  c : Int
  e : Int
abbrev rD (r : Rw) : D := .tup [.int r.h, .tup [.int r.a, .int r.b, .int r.c, .int r.e]]
abbrev RowR (xs : List En) (r : Rw) : Prop := RowOf xs r.h r.a r.b r.c r.e
/-- the row of some ends, as a function -/
noncomputable def rowF (xs : List En) : Rw := open Classical in if h : ∃ r : Rw, RowR xs r then Classical.choose h else ⟨0, 0, 0, 0, 0⟩
theorem rowF_spec {xs : List En} (hn : xs ≠ []) (hs : ∀ x ∈ xs, 0 ≤ x.s) : RowR xs (rowF xs) := by
  have h : ∃ r : Rw, RowR xs r := by
    obtain ⟨h, a, b, c, e, R⟩ := RowOf.some xs hn hs
    exact ⟨⟨h, a, b, c, e⟩, R⟩
  unfold rowF
  rw [dif_pos h]
  exact Classical.choose_spec h
theorem rowF_eq {xs ys : List En} {h a b c e : Int} (R : RowOf ys h a b c e) (hm : ∀ x, x ∈ xs ↔ x ∈ ys) : rowF xs = ⟨h, a, b, c, e⟩ := by
  have R' := R.of_mem fun x => (hm x).symm
  have S := rowF_spec R'.ne R'.pos
  obtain ⟨e1, e2, e3, e4, e5⟩ := S.uniq R' fun _ => Iff.rfl
  generalize rowF xs = r at *
  cases r
  simp at *
  exact ⟨e1, e2, e3, e4, e5⟩
theorem rowF_congr {xs ys : List En} (hn : ys ≠ []) (hs : ∀ x ∈ ys, 0 ≤ x.s) (hm : ∀ x, x ∈ xs ↔ x ∈ ys) : rowF xs = rowF ys := rowF_eq (rowF_spec hn hs) hm
/-- the end of a number -/
def eAt (es : List En) (j : Nat) : En := es[j]?.getD ⟨0, 0, 0, 0⟩
theorem eAt_get {es : List En} {j : Nat} (h : j < es.length) : es[j]? = some (eAt es j) := by
  unfold eAt
  rw [List.getElem?_eq_getElem h]; rfl
/-- the ends of numbers -/
def atL (es : List En) (L : List Nat) : List En := L.map (eAt es)
theorem atL_atEs {es : List En} {L : List Nat} (h : ∀ j ∈ L, j < es.length) : atEs es L (atL es L) := by
  refine ⟨by unfold atL; rw [List.length_map], fun i j hj => ⟨eAt es j, ?_, eAt_get (h j (List.mem_of_getElem? hj))⟩⟩
  unfold atL
  rw [List.getElem?_map, hj]; rfl
theorem atL_pos {es : List En} {L : List Nat} (hs : ∀ x ∈ es, 0 ≤ x.s) (h : ∀ j ∈ L, j < es.length) : ∀ x ∈ atL es L, 0 ≤ x.s := by
  intro x hx
  obtain ⟨j, hj, rfl⟩ := List.mem_map.mp hx
  exact hs _ (List.mem_of_getElem? (eAt_get (h j hj)))
theorem atL_ne {es : List En} {L : List Nat} (h : L ≠ []) : atL es L ≠ [] := by unfold atL; simpa using h
theorem atL_append {es : List En} {L M : List Nat} : atL es (L ++ M) = atL es L ++ atL es M := List.map_append
theorem atL_mem {es : List En} {L M : List Nat} (h : ∀ j, j ∈ L ↔ j ∈ M) : ∀ x, x ∈ atL es L ↔ x ∈ atL es M := fun x => by
  unfold atL
  simp only [List.mem_map, h]
/-- the row of the ends of numbers -/
noncomputable def rwL (es : List En) (L : List Nat) : Rw := rowF (atL es L)
theorem rwL_spec {es : List En} {L : List Nat} (hs : ∀ x ∈ es, 0 ≤ x.s) (hn : L ≠ []) (h : ∀ j ∈ L, j < es.length) : RowR (atL es L) (rwL es L) := rowF_spec (atL_ne hn) (atL_pos hs h)
theorem rwL_congr {es : List En} {L M : List Nat} (hs : ∀ x ∈ es, 0 ≤ x.s) (hn : M ≠ []) (h : ∀ j ∈ M, j < es.length) (hm : ∀ j, j ∈ L ↔ j ∈ M) : rwL es L = rwL es M := rowF_congr (atL_ne hn) (atL_pos hs h) (atL_mem hm)
theorem rwL_eq {es : List En} {L : List Nat} {h a b c e : Int} (R : RowOf (atL es L) h a b c e) : rwL es L = ⟨h, a, b, c, e⟩ := rowF_eq R fun _ => Iff.rfl
end Wk
namespace Wk
open PySem PySem.Spec L2 WkE
/-- lists, each by itself, told by their places -/
def Segs (B : List (List Nat)) (As : List Addr) (ν : Mu) : Prop := As.length = B.length ∧ ∀ (i : Nat) (a : Addr) (L : List Nat), As[i]? = some a → B[i]? = some L → (a, M.lst (L.map jD)) ∈ ν
theorem Segs.snoc {B : List (List Nat)} {As : List Addr} {ν : Mu} (h : Segs B As ν) (a : Addr) (L : List Nat) : Segs (B ++ [L]) (As ++ [a]) ((a, M.lst (L.map jD)) :: ν) := by
  refine ⟨by rw [List.length_append, List.length_append, h.1]; rfl, fun i x M hx hM => ?_⟩
  by_cases c : i < As.length
  · rw [List.getElem?_append_left c] at hx
    rw [List.getElem?_append_left (by rw [← h.1]; exact c)] at hM
    exact List.mem_cons_of_mem _ (h.2 i x M hx hM)
  · rw [List.getElem?_append_right (by omega)] at hx
    rw [List.getElem?_append_right (by rw [← h.1]; omega), ← h.1] at hM
    have e : i - As.length = 0 := by
      have := (List.getElem?_eq_some_iff.mp hx).1
      simp at this; omega
    rw [e] at hx hM
    cases hx; cases hM
    exact List.mem_cons_self
/-- sorted lists of what is beneath -/
def BelS (m : Nat) (J : List (Nat × Nat)) (B : List (List Nat)) : Prop := B.length = m + J.length ∧ ∀ (i : Nat) (L : List Nat), B[i]? = some L → L.Perm (belAt m J i)
end Wk

set_option Elab.async false
set_option linter.all false
set_option maxRecDepth 100000
namespace Wk
open PySem PySem.Spec L2 WkE
/-- sums over 0 .. n - 1 -/
def sumN (n : Nat) (f : Nat → Int) : Int := ((List.range n).map f).sum
theorem sumN_zero {f : Nat → Int} : sumN 0 f = 0 := rfl
theorem sumN_succ {n : Nat} {f : Nat → Int} : sumN (n + 1) f = sumN n f + f n := by
  unfold sumN
  rw [List.range_succ, List.map_append, List.sum_append]; simp
theorem sumN_congr {f g : Nat → Int} : ∀ {n : Nat}, (∀ i, i < n → f i = g i) → sumN n f = sumN n g
  | 0, _ => rfl
  | n + 1, h => by rw [sumN_succ, sumN_succ, sumN_congr fun i hi => h i (by omega), h n (by omega)]
theorem sumN_const0 : ∀ {n : Nat}, sumN n (fun _ => 0) = 0
  | 0 => rfl
  | n + 1 => by rw [sumN_succ, sumN_const0]; rfl
theorem sumN_add {f g : Nat → Int} : ∀ {n : Nat}, sumN n (fun i => f i + g i) = sumN n f + sumN n g
  | 0 => rfl
  | n + 1 => by rw [sumN_succ, sumN_succ, sumN_succ, sumN_add]; omega
theorem sumN_mulL {c : Int} {f : Nat → Int} : ∀ {n : Nat}, sumN n (fun i => c * f i) = c * sumN n f
  | 0 => by rw [sumN_zero, sumN_zero, Int.mul_zero]
  | n + 1 => by rw [sumN_succ, sumN_succ, sumN_mulL, Int.mul_add]
theorem sumN_mulR {c : Int} {f : Nat → Int} {n : Nat} : sumN n (fun i => f i * c) = sumN n f * c := by
  rw [Int.mul_comm, ← sumN_mulL]
  exact sumN_congr fun i _ => Int.mul_comm _ _
theorem sumN_comm {f : Nat → Nat → Int} {m : Nat} : ∀ {n : Nat}, sumN n (fun i => sumN m fun j => f i j) = sumN m fun j => sumN n fun i => f i j
  | 0 => by
    show (0 : Int) = _
    rw [sumN_congr (g := fun _ => 0) fun j _ => sumN_zero, sumN_const0]
  | n + 1 => by
    rw [sumN_succ, sumN_comm, ← sumN_add]
    exact sumN_congr fun j _ => sumN_succ.symm
theorem sumN_sub {f g : Nat → Int} : ∀ {n : Nat}, sumN n (fun i => f i - g i) = sumN n f - sumN n g
  | 0 => rfl
  | n + 1 => by rw [sumN_succ, sumN_succ, sumN_succ, sumN_sub]; omega
theorem sumN_le {f g : Nat → Int} : ∀ {n : Nat}, (∀ i, i < n → f i ≤ g i) → sumN n f ≤ sumN n g
  | 0, _ => Int.le_refl _
  | n + 1, h => by
    rw [sumN_succ, sumN_succ]
    have := sumN_le (n := n) fun i hi => h i (by omega)
    have := h n (by omega)
    omega
theorem sumN_nn {f : Nat → Int} {n : Nat} (h : ∀ i, i < n → 0 ≤ f i) : 0 ≤ sumN n f := by
  have := sumN_le (f := fun _ => 0) h
  rwa [sumN_const0] at this
theorem sum_perm {α : Type} {f : α → Int} {l l' : List α} (h : l.Perm l') : (l.map f).sum = (l'.map f).sum := by
  induction h with
  | nil => rfl
  | cons x _ ih => rw [List.map_cons, List.map_cons, List.sum_cons, List.sum_cons, ih]
  | swap x y l => simp only [List.map_cons, List.sum_cons]; omega
  | trans _ _ h1 h2 => exact h1.trans h2
theorem sum_filter {f : Nat → Int} {c : Nat → Bool} : ∀ {n : Nat}, (((List.range n).filter c).map f).sum = sumN n fun i => if c i = true then f i else 0
  | 0 => rfl
  | n + 1 => by
    rw [List.range_succ, List.filter_append, List.map_append, List.sum_append, sum_filter, sumN_succ]
    congr 1
    by_cases h : c n = true <;> simp [h]
theorem sum_mem {f : Nat → Int} {L : List Nat} {m : Nat} (d : L.Nodup) (b : ∀ i ∈ L, i < m) : (L.map f).sum = sumN m fun i => if i ∈ L then f i else 0 := by
  have hp : L.Perm ((List.range m).filter fun i => decide (i ∈ L)) := (List.perm_ext_iff_of_nodup d (List.nodup_range.sublist List.filter_sublist)).mpr fun i => by
    simp only [List.mem_filter, List.mem_range, decide_eq_true_eq]
    exact ⟨fun h => ⟨b i h, h⟩, fun h => h.2⟩
  rw [sum_perm hp, sum_filter]
  exact sumN_congr fun i _ => by simp
theorem sum_get {ls : List Int} : ls.sum = sumN ls.length fun k => ls.getD k 0 := by
  have e : (List.range ls.length).map (fun k => ls.getD k 0) = ls := by
    apply List.ext_getElem?
    intro i
    rw [List.getElem?_map]
    by_cases h : i < ls.length
    · rw [List.getElem?_range h, List.getElem?_eq_getElem h]
      show some (ls.getD i 0) = _
      rw [List.getD_eq_getElem?_getD, List.getElem?_eq_getElem h]; rfl
    · have h2 : ls.length ≤ i := by omega
      rw [List.getElem?_eq_none h2, List.getElem?_eq_none (l := List.range ls.length) (by rw [List.length_range]; exact h2)]; rfl
  unfold sumN
  rw [e]
theorem map_eAt {β : Type} {es : List En} {f : En → β} : es.map f = (List.range es.length).map fun i => f (eAt es i) := by
  apply List.ext_getElem?
  intro i
  rw [List.getElem?_map, List.getElem?_map]
  by_cases h : i < es.length
  · rw [List.getElem?_range h, eAt_get h]; rfl
  · have h2 : es.length ≤ i := by omega
    rw [List.getElem?_eq_none h2, List.getElem?_eq_none (l := List.range es.length) (by rw [List.length_range]; exact h2)]; rfl
/-- the load of the ends of numbers -/
def ldS (es : List En) (L : List Nat) : Int := (L.map fun i => (eAt es i).l).sum
theorem ldS_append {es : List En} {L M : List Nat} : ldS es (L ++ M) = ldS es L + ldS es M := by unfold ldS; rw [List.map_append, List.sum_append]
theorem ldS_one {es : List En} {i : Nat} : ldS es [i] = (eAt es i).l := by unfold ldS; simp
/-- what lengths bear -/
def bornI (es : List En) (J : List (Nat × Nat)) (ls : List Int) : Int := ((ls.zip (bel es.length J)).map fun p => p.1 * ldS es p.2).sum
theorem zip_sum {ls : List Int} {B : List (List Nat)} {f : List Nat → Int} (h : ls.length ≤ B.length) : ((ls.zip B).map fun p => p.1 * f p.2).sum = sumN ls.length fun k => ls.getD k 0 * f (B.getD k []) := by
  have e : ((ls.zip B).map fun p => p.1 * f p.2) = (List.range ls.length).map fun k => ls.getD k 0 * f (B.getD k []) := by
    apply List.ext_getElem?
    intro i
    rw [List.getElem?_map, List.getElem?_map]
    by_cases c : i < ls.length
    · rw [List.getElem?_range c]
      have c2 : i < B.length := by omega
      rw [List.getElem?_eq_getElem (l := ls.zip B) (by rw [List.length_zip]; omega), List.getElem_zip]
      show some _ = some (ls.getD i 0 * f (B.getD i []))
      rw [List.getD_eq_getElem?_getD, List.getD_eq_getElem?_getD, List.getElem?_eq_getElem c, List.getElem?_eq_getElem c2]; rfl
    · have h2 : ls.length ≤ i := by omega
      rw [List.getElem?_eq_none (l := ls.zip B) (by rw [List.length_zip]; omega), List.getElem?_eq_none (l := List.range ls.length) (by rw [List.length_range]; exact h2)]; rfl
  unfold sumN
  rw [e]
theorem bornI_sum {es : List En} {J : List (Nat × Nat)} {ls : List Int} (h : ls.length ≤ es.length + J.length) : bornI es J ls = sumN ls.length fun k => ls.getD k 0 * ldS es (belAt es.length J k) := by
  unfold bornI
  rw [zip_sum (by rw [bel_length]; exact h)]
  rfl
/-- the wire of a knot's way up -/
def wayS (ls : List Int) (m : Nat) (J : List (Nat × Nat)) (k : Nat) : Int := ((chn m J k).dropLast.map fun j => ls.getD j 0).sum
theorem wayS_root {ls : List Int} {m k : Nat} {J : List (Nat × Nat)} (h : chn m J k = [k]) : wayS ls m J k = 0 := by unfold wayS; rw [h]; rfl
theorem wayS_step {ls : List Int} {m k p : Nat} {J : List (Nat × Nat)} (h : chn m J k = k :: chn m J p) (hp : p < m + J.length) : wayS ls m J k = ls.getD k 0 + wayS ls m J p := by
  have hne : chn m J p ≠ [] := by
    have : p ∈ chn m J p := chn_mem.mpr ⟨hp, Nat.le_refl _, fun _ h => h⟩
    intro e
    rw [e] at this
    cases this
  unfold wayS
  rw [h, List.dropLast_cons_of_ne_nil hne, List.map_cons, List.sum_cons]
theorem wayS_end {ls : List Int} {m e : Nat} {J : List (Nat × Nat)} (hJ : Jng m J) (he : e < m) : wayS ls m J e = sumN (m + J.length - 1) fun k => if e ∈ belAt m J k then ls.getD k 0 else 0 := by
  have hl := hJ.1
  unfold wayS
  rw [chn_end he]
  obtain ⟨n, hn⟩ : ∃ n, m + J.length = n + 1 := ⟨m + J.length - 1, by omega⟩
  have hr : e ∈ belAt m J n := by
    have := hJ.whole.mem_iff.mpr (List.mem_range.mpr he)
    rwa [show m + J.length - 1 = n by omega] at this
  rw [hn, List.range_succ, List.filter_append]
  have e1 : List.filter (fun j => decide (e ∈ belAt m J j)) [n] = [n] := by simp [hr]
  rw [e1, List.dropLast_concat, sum_filter, show n + 1 - 1 = n by omega]
  exact sumN_congr fun i _ => by simp
theorem born_due {es : List En} {J : List (Nat × Nat)} {ls : List Int} (hJ : Jng es.length J) (h : ls.length + 1 = es.length + J.length) : (sumN es.length fun i => wayS ls es.length J i * (eAt es i).l) = bornI es J ls := by
  have F := hJ.facts
  rw [bornI_sum (by omega)]
  rw [sumN_congr (g := fun i => sumN ls.length fun k => (if i ∈ belAt es.length J k then ls.getD k 0 else 0) * (eAt es i).l) fun i hi => by
    rw [wayS_end hJ hi, ← sumN_mulR, show es.length + J.length - 1 = ls.length by omega], sumN_comm]
  refine sumN_congr fun k hk => ?_
  obtain ⟨_, d, b⟩ := F.bnd k (by omega)
  unfold ldS
  rw [sum_mem d b, ← sumN_mulL]
  refine sumN_congr fun i _ => ?_
  by_cases c : i ∈ belAt es.length J k
  · rw [if_pos c, if_pos c]
  · rw [if_neg c, if_neg c, Int.zero_mul, Int.mul_zero]
theorem bornI_more {es : List En} {J : List (Nat × Nat)} {ls : List Int} {k : Nat} {x : Int} (h : ls.length ≤ es.length + J.length) (hk : k < ls.length) : bornI es J (ls.set k (ls.getD k 0 + x)) = bornI es J ls + x * ldS es (belAt es.length J k) := by
  rw [bornI_sum (by rw [List.length_set]; exact h), bornI_sum h, List.length_set]
  have : ∀ n, n ≤ ls.length → (sumN n fun i => (ls.set k (ls.getD k 0 + x)).getD i 0 * ldS es (belAt es.length J i)) = (sumN n fun i => ls.getD i 0 * ldS es (belAt es.length J i)) + if k < n then x * ldS es (belAt es.length J k) else 0 := by
    intro n
    induction n with
    | zero => intro _; rw [sumN_zero, sumN_zero, if_neg (by omega)]; rfl
    | succ n ih =>
      intro hn
      rw [sumN_succ, sumN_succ, ih (by omega)]
      by_cases c : n = k
      · subst c
        rw [if_neg (by omega), if_pos (by omega), List.getD_eq_getElem?_getD, List.getElem?_set_self hk]
        show _ + (ls.getD n 0 + x) * _ = _
        rw [Int.add_mul]; omega
      · rw [List.getD_eq_getElem?_getD, List.getElem?_set_ne (by omega), ← List.getD_eq_getElem?_getD]
        by_cases c2 : k < n
        · rw [if_pos c2, if_pos (by omega)]; omega
        · rw [if_neg c2, if_neg (by omega)]; omega
  rw [this _ (Nat.le_refl _), if_pos hk]
end Wk
namespace Wk
open PySem PySem.Spec L2 WkE
/-- the least even wire -/
noncomputable def evenI (es : List En) (J : List (Nat × Nat)) : Int := (rwL es (belAt es.length J (es.length + J.length - 1))).h + (((bel es.length J).drop es.length).map fun L => (rwL es L).h).sum - 2 * (es.map fun e : En => e.s).sum
end Wk
namespace Wk
open PySem PySem.Spec L2 WkE
/-- the most that two of some ends want -/
theorem rwL_max {es : List En} {L : List Nat} (hs : ∀ x ∈ es, 0 ≤ x.s) (hn : L ≠ []) (hb : ∀ j ∈ L, j < es.length) : maxL (L.map fun i => maxL (L.map fun j => wI (eAt es i) (eAt es j))) = (rwL es L).h := by
  have R := rwL_spec hs hn hb
  have hm : ∀ i ∈ L, eAt es i ∈ atL es L := fun i hi => List.mem_map.mpr ⟨i, hi, rfl⟩
  have up : ∀ i ∈ L, maxL (L.map fun j => wI (eAt es i) (eAt es j)) ≤ (rwL es L).h := fun i hi => by
    have hne : (L.map fun j => wI (eAt es i) (eAt es j)) ≠ [] := by simpa using hn
    obtain ⟨j, hj, e⟩ := List.mem_map.mp (maxL_mem _ hne)
    rw [← e]
    exact R.hm _ (hm i hi) _ (hm j hj)
  refine (maxL_uniq ?_ ?_).symm
  · obtain ⟨x, hx, y, hy, e⟩ := R.hx
    obtain ⟨i, hi, rfl⟩ := List.mem_map.mp hx
    obtain ⟨j, hj, rfl⟩ := List.mem_map.mp hy
    refine List.mem_map.mpr ⟨i, hi, Int.le_antisymm (up i hi) ?_⟩
    rw [← e]
    exact maxL_ge _ _ (List.mem_map.mpr ⟨j, hj, rfl⟩)
  · intro x hx
    obtain ⟨i, hi, rfl⟩ := List.mem_map.mp hx
    exact up i hi
end Wk
namespace Wk
open PySem PySem.Spec L2 WkE
theorem evenI_one {es : List En} (h : es.length = 1) (hs : ∀ x ∈ es, 0 ≤ x.s) : evenI es [] = 0 := by
  match es, h with
  | [e], _ =>
    have e1 : rwL [e] (belAt [e].length [] ([e].length + ([] : List (Nat × Nat)).length - 1)) = ⟨2 * e.s, 2 * (e.x + e.y), 2 * (e.x + e.y), 2 * (e.x - e.y), 2 * (e.x - e.y)⟩ := rwL_eq (RowOf.one e (hs e (by simp)))
    unfold evenI
    rw [e1]
    show 2 * e.s + (([[0]] : List (List Nat)).drop 1 |>.map fun L => (rwL [e] L).h).sum - 2 * (e.s + 0) = 0
    simp
/-- heights of lists that are alike -/
theorem rwL_bels {es : List En} {J : List (Nat × Nat)} {B : List (List Nat)} (hs : ∀ x ∈ es, 0 ≤ x.s) (hJ : Jng es.length J) (hB : BelS es.length J B) : (B.map fun L => (rwL es L).h) = (bel es.length J).map fun L => (rwL es L).h := by
  apply List.ext_getElem?
  intro i
  rw [List.getElem?_map, List.getElem?_map]
  by_cases c : i < es.length + J.length
  · have e1 := List.getElem?_eq_getElem (l := B) (i := i) (by rw [hB.1]; exact c)
    generalize B[i]'_ = L at e1
    obtain ⟨n, _, b⟩ := hJ.facts.bnd i c
    have hp := hB.2 _ _ e1
    rw [e1, bel_get c]
    exact congrArg some (congrArg Rw.h (rwL_congr hs n b fun j => hp.mem_iff))
  · rw [List.getElem?_eq_none (by rw [hB.1]; omega), List.getElem?_eq_none (by rw [bel_length]; omega)]
end Wk
namespace Wk
open PySem PySem.Spec L2 WkE
/-- what an end reaches -/
def sumsI (es : List En) (J : List (Nat × Nat)) (g : Int) (ls : List Int) (i : Nat) : Int := wayS ls es.length J i + (eAt es i).s * g
/-- lengths in a tuple or in a list -/
def LsArg (d : D) (μ : Mu) (ls : List Int) : Prop := d = .tup (ls.map D.int) ∨ ∃ a, d = .ref a ∧ Lk (ls.map D.int) μ a
theorem LsArg.ix {K : PySem.W.Frag} {P : D → Mu → Prop} {d : D} {μ : Mu} {ls : List Int} {k : Nat} {v : Int} (h : LsArg d μ ls) (hv : ls[k]? = some v) (q : P (.int v) μ) : W2 K (rIx K) d (jD k) μ P := by
  rcases h with rfl | ⟨a, rfl, ha⟩
  · exact w2_ixTm hv q
  · exact w2_ixKm ha hv q
theorem LsArg.cons {d : D} {μ : Mu} {ls : List Int} {p : Addr × M} (h : LsArg d μ ls) : LsArg d (p :: μ) ls := h.imp id fun ⟨a, e, ha⟩ => ⟨a, e, ha.cons⟩
end Wk
namespace Wk
open PySem PySem.Spec L2 WkE
/-- a spot -/
abbrev zD (p : Int × Int) : D := .tup [.int p.1, .int p.2]
end Wk
namespace Wk
open PySem PySem.Spec L2 WkE
theorem eAt_all {es : List En} {p : En → Prop} (h : ∀ e ∈ es, p e) (h0 : p ⟨0, 0, 0, 0⟩) (i : Nat) : p (eAt es i) := by
  unfold eAt
  cases e : es[i]? with
  | none => exact h0
  | some x => exact h x (List.mem_of_getElem? e)
theorem ldS_bnd {es : List En} (h : ∀ e ∈ es, 0 ≤ e.l ∧ e.l ≤ 1000000) : ∀ L : List Nat, 0 ≤ ldS es L ∧ ldS es L ≤ 1000000 * L.length
  | [] => ⟨Int.le_refl _, Int.le_refl _⟩
  | i :: L => by
    have h1 := ldS_bnd h L
    have h2 : 0 ≤ (eAt es i).l ∧ (eAt es i).l ≤ 1000000 := eAt_all (p := fun e => 0 ≤ e.l ∧ e.l ≤ 1000000) h (by decide) i
    have e : ldS es (i :: L) = (eAt es i).l + ldS es L := by unfold ldS; rw [List.map_cons, List.sum_cons]
    rw [e, List.length_cons]
    omega
theorem ldS_perm {es : List En} {L M : List Nat} (h : L.Perm M) : ldS es L = ldS es M := sum_perm h
/-- what is due, behind some ends, and some knots of the next one -/
def DueP (es : List En) (J : List (Nat × Nat)) (e : Nat) (C : List Nat) (dl : List Int) : Prop := dl.length = es.length + J.length ∧ ∀ j, j < es.length + J.length →
  dl[j]? = some ((sumN e fun i => if i ∈ belAt es.length J j then (eAt es i).l else 0) + if j ∈ C then (eAt es e).l else 0)
theorem DueP.nil {es : List En} {J : List (Nat × Nat)} : DueP es J 0 [] (List.replicate (es.length + J.length) 0) := ⟨List.length_replicate, fun j hj => by rw [List.getElem?_replicate, if_pos hj]; rfl⟩
theorem DueP.set {es : List En} {J : List (Nat × Nat)} {e k : Nat} {C : List Nat} {dl : List Int} (h : DueP es J e C dl) (hk : k < es.length + J.length) (hC : k ∉ C) : DueP es J e (C ++ [k]) (dl.set k (dl.getD k 0 + (eAt es e).l)) := by
  obtain ⟨h1, h2⟩ := h
  refine ⟨by rw [List.length_set, h1], fun j hj => ?_⟩
  rw [List.getElem?_set]
  by_cases c : k = j
  · subst c
    have := h2 k hk
    rw [if_pos rfl, if_pos (by omega), List.getD_eq_getElem?_getD, this, if_neg hC, if_pos (by simp)]
    rw [Int.add_zero]; rfl
  · rw [if_neg c, h2 j hj]
    have : j ∈ C ++ [k] ↔ j ∈ C := by simp; omega
    by_cases c2 : j ∈ C
    · rw [if_pos c2, if_pos (this.mpr c2)]
    · rw [if_neg c2, if_neg fun z => c2 (this.mp z)]
theorem DueP.next {es : List En} {J : List (Nat × Nat)} {e : Nat} {dl : List Int} (he : e < es.length) (h : DueP es J e (chn es.length J e) dl) : DueP es J (e + 1) [] dl := by
  obtain ⟨h1, h2⟩ := h
  refine ⟨h1, fun j hj => ?_⟩
  rw [h2 j hj, sumN_succ, if_neg (show j ∉ ([] : List Nat) by simp), Int.add_zero]
  have : j ∈ chn es.length J e ↔ e ∈ belAt es.length J j := by
    rw [chn_end he, List.mem_filter, List.mem_range]
    simp [hj]
  by_cases c : e ∈ belAt es.length J j
  · rw [if_pos c, if_pos (this.mpr c)]
  · rw [if_neg c, if_neg fun z => c (this.mp z)]
theorem DueP.done {es : List En} {J : List (Nat × Nat)} {dl : List Int} (hJ : Jng es.length J) (h : DueP es J es.length [] dl) : dl.map D.int = (bel es.length J).map fun L => D.int (ldS es L) := by
  obtain ⟨h1, h2⟩ := h
  apply List.ext_getElem?
  intro j
  rw [List.getElem?_map, List.getElem?_map]
  by_cases c : j < es.length + J.length
  · obtain ⟨_, d, b⟩ := hJ.facts.bnd j c
    rw [h2 j c, bel_get c, if_neg (show j ∉ ([] : List Nat) by simp), Int.add_zero]
    show some (D.int _) = some (D.int (ldS es _))
    unfold ldS
    rw [sum_mem d b]
  · rw [List.getElem?_eq_none (by omega), List.getElem?_eq_none (by rw [bel_length]; omega)]; rfl
theorem chn_few {m e : Nat} {J : List (Nat × Nat)} (he : e < m) : (chn m J e).length ≤ J.length + 1 := by
  have hs : ∀ j ∈ chn m J e, j ∈ e :: (List.range J.length).map (m + ·) := fun j hj => by
    obtain ⟨h1, h2, h3⟩ := chn_mem.mp hj
    by_cases c : j < m
    · have := h3 e (by rw [belAt_end he]; simp)
      rw [belAt_end c] at this
      simp at this
      simp [this]
    · refine List.mem_cons_of_mem _ (List.mem_map.mpr ⟨j - m, List.mem_range.mpr (by omega), by omega⟩)
  have nd : (chn m J e).Nodup := chn_rise.imp fun h => by omega
  have := nd.length_le_of_subset hs
  simpa using this
theorem bel_swapL {es : List En} {J : List (Nat × Nat)} : ((bel es.length (J.map sw)).map fun L => D.int (ldS es L)) = (bel es.length J).map fun L => D.int (ldS es L) := by
  apply List.ext_getElem?
  intro j
  rw [List.getElem?_map, List.getElem?_map]
  by_cases c : j < es.length + J.length
  · rw [bel_get c, bel_get (by rw [List.length_map]; exact c)]
    exact congrArg (fun z => some (D.int z)) (ldS_perm (bel_swap _ J rfl j))
  · rw [List.getElem?_eq_none (by rw [bel_length, List.length_map]; omega), List.getElem?_eq_none (by rw [bel_length]; omega)]
theorem Jng.swap {m : Nat} {J : List (Nat × Nat)} (h : Jng m J) : Jng m (J.map sw) := ⟨by rw [List.length_map]; exact h.1, h.2.elim fun W hW => ⟨W, hW.swap⟩⟩
theorem ldS_other {es : List En} {L : List Nat} {f : En → En} (hf : ∀ e, (f e).l = e.l) : ldS (es.map f) L = ldS es L := by
  unfold ldS
  congr 1
  refine List.map_congr_left fun i _ => ?_
  unfold eAt
  rw [List.getElem?_map]
  cases es[i]? with
  | none => rfl
  | some x => exact hf x
theorem ldS_root {es : List En} {J : List (Nat × Nat)} (h : Jng es.length J) : ldS es (belAt es.length J (es.length + J.length - 1)) = (es.map fun e : En => e.l).sum := by
  rw [ldS_perm h.whole, map_eAt]; rfl
end Wk
namespace Wk
open PySem PySem.Spec L2 WkE
/-- the rows that have a knot, with their numbers -/
theorem rows_nil {m k : Nat} {J : List (Nat × Nat)} (hJ : Jng m J) (hk : k < m + J.length) (h : J.zipIdx.filter (fun z => decide (k = z.1.1 ∨ k = z.1.2)) = []) : chn m J k = [k] := by
  have hl := hJ.1
  have := hJ.facts.top hk fun i x hx => by
    have hm : (x, i) ∈ J.zipIdx := List.mem_zipIdx_iff_getElem?.mpr hx
    have hn : ¬ (k = x.1 ∨ k = x.2) := fun c => by
      have : (x, i) ∈ J.zipIdx.filter (fun z => decide (k = z.1.1 ∨ k = z.1.2)) := List.mem_filter.mpr ⟨hm, decide_eq_true c⟩
      rw [h] at this
      cases this
    exact ⟨fun e => hn (.inl e.symm), fun e => hn (.inr e.symm)⟩
  exact chn_root (by omega)
theorem rows_cons {m k : Nat} {J : List (Nat × Nat)} {z : (Nat × Nat) × Nat} {r : List ((Nat × Nat) × Nat)} (hJ : Jng m J) (h : J.zipIdx.filter (fun z => decide (k = z.1.1 ∨ k = z.1.2)) = z :: r) : chn m J k = k :: chn m J (m + z.2) ∧ z.2 < J.length ∧ r.length + 1 ≤ J.length := by
  have hm : z ∈ J.zipIdx.filter (fun z => decide (k = z.1.1 ∨ k = z.1.2)) := by rw [h]; exact List.mem_cons_self
  obtain ⟨h1, h2⟩ := List.mem_filter.mp hm
  have g := List.mem_zipIdx_iff_getElem?.mp h1
  have h2 := of_decide_eq_true h2
  have hl := List.length_filter_le (fun z => decide (k = z.1.1 ∨ k = z.1.2)) J.zipIdx
  rw [h, List.length_cons, List.length_zipIdx] at hl
  exact ⟨hJ.facts.chn_step g (h2.imp Eq.symm Eq.symm), (List.getElem?_eq_some_iff.mp g).1, hl⟩
end Wk

set_option Elab.async false
set_option linter.all false
set_option maxRecDepth 100000
namespace Wk
open PySem PySem.Spec L2 WkE
abbrev wP (es : List En) (a b : Nat) : Int := wI (eAt es a) (eAt es b)
abbrev lexN (i' j' i j : Nat) : Prop := i' < i ∨ i' = i ∧ j' < j
/-- the first of the pairs that want the most -/
def FstP (es : List En) (L : List Nat) (p : Nat × Nat) : Prop := ∃ i j, i ≤ j ∧ L[i]? = some p.1 ∧ L[j]? = some p.2 ∧ wP es p.1 p.2 = (rwL es L).h ∧
  ∀ i' j' a b, L[i']? = some a → L[j']? = some b → i' ≤ j' → lexN i' j' i j → wP es a b < (rwL es L).h
theorem FstP.uniq {es : List En} {L : List Nat} {p q : Nat × Nat} (h1 : FstP es L p) (h2 : FstP es L q) : p = q := by
  obtain ⟨i, j, a1, a2, a3, a4, a5⟩ := h1
  obtain ⟨k, l, b1, b2, b3, b4, b5⟩ := h2
  by_cases c1 : lexN i j k l
  · have := b5 i j _ _ a2 a3 a1 c1; omega
  by_cases c2 : lexN k l i j
  · have := a5 k l _ _ b2 b3 b1 c2; omega
  unfold lexN at *
  obtain rfl : i = k := by omega
  obtain rfl : j = l := by omega
  rw [a2] at b2; rw [a3] at b3
  obtain ⟨p1, p2⟩ := p
  obtain ⟨q1, q2⟩ := q
  simp at b2 b3
  rw [b2, b3]
noncomputable def fpF (es : List En) (L : List Nat) : Nat × Nat := open Classical in if h : ∃ p, FstP es L p then Classical.choose h else (0, 0)
theorem FstP.fpF {es : List En} {L : List Nat} {p : Nat × Nat} (h : FstP es L p) : p = fpF es L := by
  have hx : ∃ p, FstP es L p := ⟨p, h⟩
  unfold Wk.fpF
  rw [dif_pos hx]
  exact h.uniq (Classical.choose_spec hx)
section
variable {es : List En} {L : List Nat}
theorem rwL_le (hs : ∀ x ∈ es, 0 ≤ x.s) (hb : ∀ j ∈ L, j < es.length) {i j a b : Nat} (h1 : L[i]? = some a) (h2 : L[j]? = some b) : wP es a b ≤ (rwL es L).h := by
  have m1 := List.mem_of_getElem? h1
  have m2 := List.mem_of_getElem? h2
  have R := rwL_spec hs (List.ne_nil_of_mem m1) hb
  exact R.hm _ (List.mem_map.mpr ⟨a, m1, rfl⟩) _ (List.mem_map.mpr ⟨b, m2, rfl⟩)
theorem rwL_hit (hs : ∀ x ∈ es, 0 ≤ x.s) (hn : L ≠ []) (hb : ∀ j ∈ L, j < es.length) : ∃ (i j a b : Nat), i ≤ j ∧ L[i]? = some a ∧ L[j]? = some b ∧ wP es a b = (rwL es L).h := by
  have R := rwL_spec hs hn hb
  obtain ⟨x, hx, y, hy, e⟩ := R.hx
  obtain ⟨a, ha, rfl⟩ := List.mem_map.mp hx
  obtain ⟨b, hb2, rfl⟩ := List.mem_map.mp hy
  obtain ⟨i, hi⟩ := List.getElem?_of_mem ha
  obtain ⟨j, hj⟩ := List.getElem?_of_mem hb2
  rcases Nat.le_total i j with c | c
  · exact ⟨i, j, a, b, c, hi, hj, e⟩
  · exact ⟨j, i, b, a, c, hj, hi, by unfold wP; rw [wI_comm]; exact e⟩
/-- none of the pairs ahead wants the most -/
def NoI (es : List En) (L : List Nat) (i j : Nat) : Prop := ∀ i' j' a b, L[i']? = some a → L[j']? = some b → i' ≤ j' → lexN i' j' i j → wP es a b < (rwL es L).h
theorem NoI.start : NoI es L 0 0 := fun i' j' a b _ _ _ h => by unfold lexN at h; omega
theorem NoI.enter {i : Nat} (h : NoI es L i 0) : NoI es L i i := fun i' j' a b h1 h2 h3 h4 => h i' j' a b h1 h2 h3 (by unfold lexN at *; omega)
theorem NoI.skip {i j a b : Nat} (hs : ∀ x ∈ es, 0 ≤ x.s) (hb : ∀ j ∈ L, j < es.length) (h : NoI es L i j) (h1 : L[i]? = some a) (h2 : L[j]? = some b) (hw : wP es a b ≠ (rwL es L).h) : NoI es L i (j + 1) := fun i' j' a' b' k1 k2 k3 k4 => by
  by_cases c : i' = i ∧ j' = j
  · obtain ⟨rfl, rfl⟩ := c
    rw [h1] at k1; rw [h2] at k2
    cases k1; cases k2
    have := rwL_le hs hb h1 h2
    omega
  · exact h i' j' a' b' k1 k2 k3 (by unfold lexN at *; omega)
theorem NoI.next {i : Nat} (h : NoI es L i L.length) : NoI es L (i + 1) 0 := fun i' j' a b h1 h2 h3 h4 => h i' j' a b h1 h2 h3 (by
  have := (List.getElem?_eq_some_iff.mp h2).1
  unfold lexN at *; omega)
theorem NoI.done {j : Nat} (hs : ∀ x ∈ es, 0 ≤ x.s) (hn : L ≠ []) (hb : ∀ j ∈ L, j < es.length) (h : NoI es L L.length j) : False := by
  obtain ⟨i, j, a, b, c, h1, h2, e⟩ := rwL_hit hs hn hb
  have := h i j a b h1 h2 c (by
    have := (List.getElem?_eq_some_iff.mp h1).1
    unfold lexN; omega)
  omega
theorem NoI.hit {i j a b : Nat} (h : NoI es L i j) (hij : i ≤ j) (h1 : L[i]? = some a) (h2 : L[j]? = some b) (hw : wP es a b = (rwL es L).h) : FstP es L (a, b) := ⟨i, j, hij, h1, h2, hw, h⟩
/-- the best one of the pairs ahead -/
def BestI (es : List En) (L : List Nat) (i j : Nat) (p : Nat × Nat) : Prop := ∃ bi bj, bi ≤ bj ∧ L[bi]? = some p.1 ∧ L[bj]? = some p.2 ∧
  (∀ i' j' a b, L[i']? = some a → L[j']? = some b → i' ≤ j' → lexN i' j' i j → wP es a b ≤ wP es p.1 p.2) ∧
  ∀ i' j' a b, L[i']? = some a → L[j']? = some b → i' ≤ j' → lexN i' j' bi bj → wP es a b < wP es p.1 p.2
theorem BestI.start {x : Nat} (h : L[0]? = some x) : BestI es L 0 0 (x, x) := ⟨0, 0, Nat.le_refl _, h, h, fun i' j' a b _ _ _ h => by unfold lexN at h; omega, fun i' j' a b _ _ _ h => by unfold lexN at h; omega⟩
theorem BestI.take {i j a b : Nat} {p : Nat × Nat} (h : BestI es L i j p) (hij : i ≤ j) (h1 : L[i]? = some a) (h2 : L[j]? = some b) (hw : wP es p.1 p.2 < wP es a b) : BestI es L i (j + 1) (a, b) := by
  obtain ⟨bi, bj, _, _, _, k1, k2⟩ := h
  refine ⟨i, j, hij, h1, h2, fun i' j' a' b' m1 m2 m3 m4 => ?_, fun i' j' a' b' m1 m2 m3 m4 => ?_⟩
  · by_cases c : i' = i ∧ j' = j
    · obtain ⟨rfl, rfl⟩ := c
      rw [h1] at m1; rw [h2] at m2
      cases m1; cases m2
      exact Int.le_refl _
    · have := k1 i' j' a' b' m1 m2 m3 (by unfold lexN at *; omega)
      show _ ≤ wP es a b
      omega
  · have := k1 i' j' a' b' m1 m2 m3 m4
    show _ < wP es a b
    omega
theorem BestI.keep {i j a b : Nat} {p : Nat × Nat} (h : BestI es L i j p) (h1 : L[i]? = some a) (h2 : L[j]? = some b) (hw : i ≤ j → wP es a b ≤ wP es p.1 p.2) : BestI es L i (j + 1) p := by
  obtain ⟨bi, bj, b0, b1, b2, k1, k2⟩ := h
  refine ⟨bi, bj, b0, b1, b2, fun i' j' a' b' m1 m2 m3 m4 => ?_, k2⟩
  by_cases c : i' = i ∧ j' = j
  · obtain ⟨rfl, rfl⟩ := c
    rw [h1] at m1; rw [h2] at m2
    cases m1; cases m2
    exact hw m3
  · exact k1 i' j' a' b' m1 m2 m3 (by unfold lexN at *; omega)
theorem BestI.next {i : Nat} {p : Nat × Nat} (h : BestI es L i L.length p) : BestI es L (i + 1) 0 p := by
  obtain ⟨bi, bj, b0, b1, b2, k1, k2⟩ := h
  exact ⟨bi, bj, b0, b1, b2, fun i' j' a b h1 h2 h3 h4 => k1 i' j' a b h1 h2 h3 (by
    have := (List.getElem?_eq_some_iff.mp h2).1
    unfold lexN at *; omega), k2⟩
theorem BestI.done {j : Nat} {p : Nat × Nat} (hs : ∀ x ∈ es, 0 ≤ x.s) (hn : L ≠ []) (hb : ∀ j ∈ L, j < es.length) (h : BestI es L L.length j p) : FstP es L p := by
  obtain ⟨bi, bj, b0, b1, b2, k1, k2⟩ := h
  obtain ⟨i, l, a, b, c, h1, h2, e⟩ := rwL_hit hs hn hb
  have q1 := k1 i l a b h1 h2 c (by
    have := (List.getElem?_eq_some_iff.mp h1).1
    unfold lexN; omega)
  have q2 := rwL_le hs hb b1 b2
  have e2 : wP es p.1 p.2 = (rwL es L).h := by omega
  exact ⟨bi, bj, b0, b1, b2, e2, fun i' j' a b h1 h2 h3 h4 => by have := k2 i' j' a b h1 h2 h3 h4; omega⟩
end
/-- of a rising list: the places are as the items are -/
theorem rise_ix {L : List Nat} {i j a b : Nat} (hr : L.Pairwise (· < ·)) (h1 : L[i]? = some a) (h2 : L[j]? = some b) : a ≤ b ↔ i ≤ j := by
  obtain ⟨hi, rfl⟩ := List.getElem?_eq_some_iff.mp h1
  obtain ⟨hj, rfl⟩ := List.getElem?_eq_some_iff.mp h2
  have pw := List.pairwise_iff_getElem.mp hr
  constructor
  · intro h
    refine Classical.byContradiction fun c => ?_
    have := pw j i hj hi (by omega)
    omega
  · intro h
    by_cases c : i = j
    · subst c; exact Nat.le_refl _
    · have := pw i j hi hj (by omega)
      omega
theorem rise_of {L : List Nat} (h : L.Pairwise (· ≤ ·)) (d : L.Nodup) : L.Pairwise (· < ·) := (h.and d).imp fun ⟨h1, h2⟩ => by omega
end Wk

set_option Elab.async false
set_option linter.all false
set_option maxRecDepth 100000
namespace Wk
open PySem PySem.Spec L2 WkE
/-! layers: rows of a paper, and what they show -/
structure La where
  lo : Int
  hi : Int
  so : List Nat
abbrev laD (r : La) : D := .tup [.int r.lo, .int r.hi, .tup (r.so.map jD)]
structure SoP (m : Nat) (S : List Nat) : Prop where
  two : 2 ≤ S.length
  rise : S.Pairwise (· < ·)
  low : ∀ j ∈ S, j < m
theorem rise_len : ∀ {S : List Nat} {k m : Nat}, S.Pairwise (· < ·) → (∀ j ∈ S, k ≤ j ∧ j < m) → S.length ≤ m - k
  | [], _, _, _, _ => Nat.zero_le _
  | a :: r, k, m, h, hb => by
    have h1 := List.pairwise_cons.mp h
    have h2 := hb a List.mem_cons_self
    have := rise_len (S := r) (k := a + 1) (m := m) h1.2 fun j hj => ⟨h1.1 j hj, (hb j (List.mem_cons_of_mem _ hj)).2⟩
    rw [List.length_cons]; omega
theorem SoP.len {m : Nat} {S : List Nat} (h : SoP m S) : S.length ≤ m := rise_len h.rise fun j hj => ⟨Nat.zero_le _, h.low j hj⟩
def AptP (es : List En) (lo hi : Int) (S : List Nat) : Prop := (∀ a ∈ S, 2 * (eAt es a).s ≤ lo) ∧ S.Pairwise fun a b => hi ≤ wP es a b
instance {es : List En} {lo hi : Int} {S : List Nat} : Decidable (AptP es lo hi S) := inferInstanceAs (Decidable (_ ∧ _))
def LayP (es : List En) (ah : Int) (r : La) : Prop := (0 ≤ r.lo ∧ 0 ≤ r.hi ∧ ah ≤ r.lo ∧ r.lo < r.hi) ∧ AptP es r.lo r.hi r.so
instance {es : List En} {ah : Int} {r : La} : Decidable (LayP es ah r) := inferInstanceAs (Decidable (_ ∧ _))
def shw (es : List En) : Int → Int → List La → Option Int
  | _, sh, [] => some sh
  | ah, sh, r :: rs => if LayP es ah r then shw es r.hi (sh + (r.hi - r.lo) * (r.so.length : Int)) rs else none
theorem shw_yes {es : List En} {ah sh : Int} {r : La} {rs : List La} (h : LayP es ah r) : shw es ah sh (r :: rs) = shw es r.hi (sh + (r.hi - r.lo) * (r.so.length : Int)) rs := if_pos h
theorem shw_no {es : List En} {ah sh : Int} {r : La} {rs : List La} (h : ¬ LayP es ah r) : shw es ah sh (r :: rs) = none := if_neg h
def oI : Option Int → D
  | none => .non
  | some i => .int i
/-- rows that are right ones -/
def GoodL (es : List En) : Int → List La → Prop
  | _, [] => True
  | ah, r :: rs => LayP es ah r ∧ GoodL es r.hi rs
def sumL (R : List La) : Int := (R.map fun r => (r.hi - r.lo) * (r.so.length : Int)).sum
theorem GoodL.shw {es : List En} : ∀ {R : List La} {ah sh : Int}, GoodL es ah R → shw es ah sh R = some (sh + sumL R)
  | [], ah, sh, _ => by show some sh = _; rw [show sumL [] = 0 from rfl, Int.add_zero]
  | r :: rs, ah, sh, h => by
    rw [shw_yes h.1, GoodL.shw h.2]
    unfold sumL
    rw [List.map_cons, List.sum_cons, ← Int.add_assoc]
theorem GoodL.take {es : List En} : ∀ {R : List La} {ah : Int} (k : Nat), GoodL es ah R → GoodL es ah (R.take k)
  | [], ah, k, _ => by rw [List.take_nil]; exact True.intro
  | r :: rs, ah, 0, h => True.intro
  | r :: rs, ah, k + 1, h => ⟨h.1, GoodL.take k h.2⟩
def lastH (ah : Int) : List La → Int
  | [] => ah
  | r :: rs => lastH r.hi rs
theorem GoodL.snoc {es : List En} : ∀ {R : List La} {ah : Int} {r : La}, GoodL es ah R → LayP es (lastH ah R) r → GoodL es ah (R ++ [r])
  | [], ah, r, _, h => ⟨h, True.intro⟩
  | x :: xs, ah, r, h, h2 => ⟨h.1, GoodL.snoc h.2 h2⟩
theorem lastH_snoc {r : La} : ∀ {R : List La} {ah : Int}, lastH ah (R ++ [r]) = r.hi
  | [], _ => rfl
  | _ :: xs, _ => lastH_snoc (R := xs)
/-- what any two of some ends want -/
def prs (es : List En) : List Nat → List Int
  | [] => []
  | a :: r => (r.map fun b => wP es a b) ++ prs es r
theorem prs_pw {es : List En} {v : Int} : ∀ {S : List Nat}, (S.Pairwise fun a b => v ≤ wP es a b) ↔ ∀ x ∈ prs es S, v ≤ x
  | [] => ⟨fun _ _ h => (nomatch h), fun _ => List.Pairwise.nil⟩
  | a :: r => by
    rw [List.pairwise_cons, prs_pw (S := r), show prs es (a :: r) = (r.map fun b => wP es a b) ++ prs es r from rfl]
    constructor
    · rintro ⟨h1, h2⟩ x hx
      rcases List.mem_append.mp hx with hx | hx
      · obtain ⟨b, hb, rfl⟩ := List.mem_map.mp hx
        exact h1 b hb
      · exact h2 x hx
    · intro h
      exact ⟨fun b hb => h _ (List.mem_append_left _ (List.mem_map.mpr ⟨b, hb, rfl⟩)), fun x hx => h x (List.mem_append_right _ hx)⟩
theorem prs_ne {es : List En} {S : List Nat} (h : 2 ≤ S.length) : prs es S ≠ [] := by
  match S, h with
  | a :: b :: r, _ => exact List.cons_ne_nil _ _
def lwN (es : List En) (S : List Nat) : Int := minL (prs es S)
theorem lwN_le {es : List En} {S : List Nat} {v : Int} (h : 2 ≤ S.length) : v ≤ lwN es S ↔ S.Pairwise fun a b => v ≤ wP es a b := by
  rw [prs_pw]
  constructor
  · intro k x hx; exact Int.le_trans k (minL_le _ x hx)
  · intro k; exact k _ (minL_mem _ (prs_ne h))
theorem prs_in {es : List En} {P : Int → Prop} (h : ∀ a b, P (wP es a b)) : ∀ (S : List Nat), ∀ x ∈ prs es S, P x
  | [], _, h => nomatch h
  | a :: r, x, hx => by
    rw [show prs es (a :: r) = (r.map fun b => wP es a b) ++ prs es r from rfl] at hx
    rcases List.mem_append.mp hx with hx | hx
    · obtain ⟨b, hb, rfl⟩ := List.mem_map.mp hx
      exact h a b
    · exact prs_in h r x hx
def EnB (es : List En) : Prop := ∀ e ∈ es, (-1000000 ≤ e.x ∧ e.x ≤ 1000000) ∧ (-1000000 ≤ e.y ∧ e.y ≤ 1000000) ∧ (0 ≤ e.s ∧ e.s ≤ 1000000) ∧ (0 ≤ e.l ∧ e.l ≤ 1000000)
theorem EnB.at {es : List En} (h : EnB es) (a : Nat) : (-1000000 ≤ (eAt es a).x ∧ (eAt es a).x ≤ 1000000) ∧ (-1000000 ≤ (eAt es a).y ∧ (eAt es a).y ≤ 1000000) ∧ (0 ≤ (eAt es a).s ∧ (eAt es a).s ≤ 1000000) ∧ (0 ≤ (eAt es a).l ∧ (eAt es a).l ≤ 1000000) := by
  by_cases c : a < es.length
  · exact h _ (List.mem_of_getElem? (eAt_get c))
  · have : eAt es a = ⟨0, 0, 0, 0⟩ := by unfold eAt; rw [List.getElem?_eq_none (by omega)]; rfl
    rw [this]; decide
theorem EnB.wP {es : List En} (h : EnB es) (a b : Nat) : 0 ≤ wP es a b ∧ wP es a b ≤ 6000000 := by
  have h1 := h.at a
  have h2 := h.at b
  unfold Wk.wP wI di
  omega
theorem EnB.lw {es : List En} (h : EnB es) {S : List Nat} (h2 : 2 ≤ S.length) : 0 ≤ lwN es S ∧ lwN es S ≤ 6000000 :=
  prs_in (P := fun x => 0 ≤ x ∧ x ≤ 6000000) h.wP S _ (minL_mem _ (prs_ne h2))
theorem pw_snoc {R : Nat → Nat → Prop} {l : List Nat} {x : Nat} : (l ++ [x]).Pairwise R ↔ l.Pairwise R ∧ ∀ a ∈ l, R a x := by
  rw [List.pairwise_append]
  constructor
  · rintro ⟨h1, _, h3⟩; exact ⟨h1, fun a ha => h3 a ha x (List.mem_singleton.mpr rfl)⟩
  · rintro ⟨h1, h2⟩; exact ⟨h1, List.pairwise_singleton _ _, fun a ha b hb => by rw [List.mem_singleton.mp hb]; exact h2 a ha⟩
end Wk

set_option Elab.async false
set_option linter.all false
set_option maxRecDepth 100000
namespace Wk
open PySem PySem.Spec L2 WkE
/-! layers of any kind -/
def whD : D → Bool
  | .int i => decide (0 ≤ i)
  | _ => false
theorem whD_ex {x : D} (h : whD x = true) : ∃ n : Nat, x = jD n := by
  cases x with
  | int i =>
    have h := of_decide_eq_true h
    exact ⟨i.toNat, by show D.int i = D.int ((i.toNat : Nat) : Int); rw [Int.toNat_of_nonneg h]⟩
  | _ => cases h
theorem whD_jD {n : Nat} : whD (jD n) = true := by
  show decide (0 ≤ (n : Int)) = true
  exact decide_eq_true (by omega)
/-- of an end -/
def endB (m : Nat) : D → Bool
  | .int i => decide (0 ≤ i ∧ i < (m : Int))
  | _ => false
theorem endB_all {m : Nat} : ∀ {xs : List D}, (∀ x ∈ xs, endB m x = true) → ∃ S : List Nat, xs = S.map jD ∧ ∀ j ∈ S, j < m
  | [], _ => ⟨[], rfl, fun _ h => nomatch h⟩
  | x :: xs, h => by
    obtain ⟨S, rfl, hS⟩ := endB_all fun y hy => h y (List.mem_cons_of_mem _ hy)
    have h1 := h x List.mem_cons_self
    cases x with
    | int i =>
      have h1 := of_decide_eq_true h1
      refine ⟨i.toNat :: S, ?_, fun j hj => ?_⟩
      · show D.int i :: _ = D.int ((i.toNat : Nat) : Int) :: _
        rw [Int.toNat_of_nonneg h1.1]
      · rcases List.mem_cons.mp hj with e | h
        · omega
        · exact hS j h
    | _ => cases h1
theorem endB_jD {m n : Nat} (h : n < m) : endB m (jD n) = true := by
  show decide (0 ≤ (n : Int) ∧ (n : Int) < (m : Int)) = true
  exact decide_eq_true ⟨by omega, by omega⟩
def SomeD (m : Nat) (x : D) : Prop := ∃ S : List Nat, x = .tup (S.map jD) ∧ SoP m S
noncomputable instance {m : Nat} {x : D} : Decidable (SomeD m x) := Classical.propDecidable _
noncomputable def someD (m : Nat) (x : D) : Bool := decide (SomeD m x)
def LaD (es : List En) (ah : Int) (x : D) : Prop := ∃ r : La, x = laD r ∧ SoP es.length r.so ∧ LayP es ah r
noncomputable instance {es : List En} {ah : Int} {x : D} : Decidable (LaD es ah x) := Classical.propDecidable _
noncomputable def laB (es : List En) (ah : Int) (x : D) : Bool := decide (LaD es ah x)
theorem someD_t {m : Nat} {S : List Nat} (h : SoP m S) : someD m (.tup (S.map jD)) = true := decide_eq_true ⟨S, rfl, h⟩
theorem someD_f {m : Nat} {x : D} (h : ¬ SomeD m x) : someD m x = false := decide_eq_false h
theorem someD_no {m : Nat} {x : D} {μ : Mu} {P : D → Mu → Prop} (q : P (.bl (someD m x)) μ) (h : ∀ xs, x ≠ .tup xs) : P (.bl false) μ := by
  rw [someD_f (fun ⟨S, e, _⟩ => h _ e)] at q; exact q
theorem someD_ex {m : Nat} {x : D} (h : someD m x = true) : SomeD m x := of_decide_eq_true h
theorem jDs_inj : ∀ {S T : List Nat}, S.map jD = T.map jD → S = T
  | [], [], _ => rfl
  | [], _ :: _, h => by simp at h
  | _ :: _, [], h => by simp at h
  | x :: xs, y :: ys, h => by
    rw [List.map_cons, List.map_cons] at h
    injection h with h1 h2
    injection h1 with h1
    rw [show x = y by omega, jDs_inj h2]
theorem someD_S {m : Nat} {S : List Nat} (h : someD m (.tup (S.map jD)) = true) : SoP m S := by
  obtain ⟨T, e, hT⟩ := someD_ex h
  injection e with e
  rw [jDs_inj e]; exact hT
theorem laB_ex {es : List En} {ah : Int} {x : D} (h : laB es ah x = true) : LaD es ah x := of_decide_eq_true h
theorem laB_f {es : List En} {ah : Int} {x : D} (h : ¬ LaD es ah x) : laB es ah x = false := decide_eq_false h
theorem laD_inj {r s : La} (h : laD r = laD s) : r = s := by
  obtain ⟨a, b, c⟩ := r
  obtain ⟨a', b', c'⟩ := s
  simp only [laD, D.tup.injEq, List.cons.injEq, D.int.injEq, and_true] at h
  obtain ⟨h1, h2, h3⟩ := h
  rw [h1, h2, jDs_inj h3]
theorem laB_r {es : List En} {ah : Int} {r : La} (h : SoP es.length r.so) : laB es ah (laD r) = decide (LayP es ah r) := by
  unfold laB
  apply decide_eq_decide.mpr
  constructor
  · rintro ⟨s, e, _, h2⟩
    rw [laD_inj e]; exact h2
  · exact fun k => ⟨r, rfl, h, k⟩
/-- what rows of any kind show -/
noncomputable def shwD (es : List En) : Int → Int → List D → D
  | _, sh, [] => .int sh
  | ah, sh, x :: xs => if h : LaD es ah x then shwD es h.choose.hi (sh + (h.choose.hi - h.choose.lo) * (h.choose.so.length : Int)) xs else .non
theorem shwD_yes {es : List En} {ah sh : Int} {r : La} {xs : List D} (h : SoP es.length r.so) (h2 : LayP es ah r) : shwD es ah sh (laD r :: xs) = shwD es r.hi (sh + (r.hi - r.lo) * (r.so.length : Int)) xs := by
  have hx : LaD es ah (laD r) := ⟨r, rfl, h, h2⟩
  show dite _ _ _ = _
  rw [dif_pos hx]
  have e : hx.choose = r := (laD_inj hx.choose_spec.1).symm
  rw [e]
theorem shwD_no {es : List En} {ah sh : Int} {x : D} {xs : List D} (h : ¬ LaD es ah x) : shwD es ah sh (x :: xs) = .non := by
  show dite _ _ _ = _
  rw [dif_neg h]
/-- what a thing shows -/
noncomputable def shT (es : List En) : D → D
  | .tup xs => shwD es 0 0 xs
  | _ => .non
theorem shT_noP {es : List En} {x : D} {μ : Mu} {P : D → Mu → Prop} (q : P (shT es x) μ) (h : ∀ xs, x ≠ .tup xs) : P .non μ := by
  cases x with
  | tup xs => exact absurd rfl (h xs)
  | _ => exact q
theorem shwD_good {es : List En} : ∀ {R : List La} {ah sh : Int}, (∀ r ∈ R, SoP es.length r.so) → GoodL es ah R → shwD es ah sh (R.map laD) = .int (sh + sumL R)
  | [], ah, sh, _, _ => by show D.int sh = _; rw [show sumL [] = 0 from rfl, Int.add_zero]
  | r :: rs, ah, sh, h1, h => by
    rw [List.map_cons, shwD_yes (h1 r List.mem_cons_self) h.1, shwD_good (fun x hx => h1 x (List.mem_cons_of_mem _ hx)) h.2]
    unfold sumL
    rw [List.map_cons, List.sum_cons, ← Int.add_assoc]
theorem shwD_cases {es : List En} : ∀ {xs : List D} {ah sh : Int}, shwD es ah sh xs = .non ∨ ∃ n, shwD es ah sh xs = .int n
  | [], _, sh => .inr ⟨sh, rfl⟩
  | x :: xs, ah, sh => by
    show dite _ _ _ = _ ∨ ∃ n, dite _ _ _ = _
    split
    · exact shwD_cases
    · exact .inl rfl
theorem shT_cases (es : List En) (x : D) : shT es x = .non ∨ ∃ n, shT es x = .int n := by
  cases x with
  | tup xs => exact shwD_cases
  | _ => exact .inl rfl
theorem rise_adj : ∀ {S : List Nat}, S.Pairwise (· < ·) ↔ ∀ k, k + 1 < S.length → S.getD k 0 < S.getD (k + 1) 0
  | [] => ⟨fun _ k h => absurd h (by simp), fun _ => List.Pairwise.nil⟩
  | [a] => ⟨fun _ k h => absurd h (by simp), fun _ => List.pairwise_singleton _ _⟩
  | a :: b :: r => by
    constructor
    · intro h k hk
      have l1 : k < (a :: b :: r).length := by omega
      rw [List.getD_eq_getElem?_getD, List.getD_eq_getElem?_getD, List.getElem?_eq_getElem l1, List.getElem?_eq_getElem hk]
      exact List.pairwise_iff_getElem.mp h k (k + 1) l1 hk (by omega)
    · intro h
      have h2 : (b :: r).Pairwise (· < ·) := rise_adj.mpr fun k hk => h (k + 1) (by simpa using hk)
      refine List.pairwise_cons.mpr ⟨fun x hx => ?_, h2⟩
      have h0 : a < b := h 0 (by simp)
      rcases List.mem_cons.mp hx with rfl | hx
      · exact h0
      · exact Nat.lt_trans h0 ((List.pairwise_cons.mp h2).1 x hx)
theorem eqBL_jD : ∀ {A B : List Nat}, eqBL (A.map jD) (B.map jD) = decide (A = B)
  | [], [] => rfl
  | [], _ :: _ => rfl
  | _ :: _, [] => rfl
  | a :: A, b :: B => by
    rw [List.map_cons, List.map_cons, eqBL_cons, eqB_ints, eqBL_jD, Bool.eq_iff_iff, Bool.and_eq_true, decide_eq_true_eq, decide_eq_true_eq, decide_eq_true_eq]
    constructor
    · rintro ⟨h1, h2⟩
      rw [show a = b by omega, h2]
    · intro h
      injection h with h1 h2
      exact ⟨by rw [h1], h2⟩
/-! things, bounded -/
def D.nt : D → Bool
  | .tup _ => false
  | _ => true
def ItB (y : D) : Prop := y.thg = true ∧ Rp 4 700 y
/-- odd ones, small -/
def OdB (y : D) : Prop := y.thg = true ∧ Rp 4 700 y ∧ ∀ ys, y = .tup ys → ys.length ≤ 4 ∧ ∀ z ∈ ys, ∀ zs, z = .tup zs → zs.length ≤ 4 ∧ ∀ w ∈ zs, w.nt = true
def D.nt2 : D → Bool
  | .tup zs => decide (zs.length ≤ 4) && zs.all D.nt
  | _ => true
def D.nt3 : D → Bool
  | .tup zs => decide (zs.length ≤ 4) && zs.all D.nt2
  | _ => true
theorem OdB.of {y : D} (h : (y.thg && y.nt3) = true) (h2 : Rp 4 700 y) : OdB y := by
  obtain ⟨h, h3⟩ := Bool.and_eq_true_iff.mp h
  refine ⟨h, h2, fun ys e => ?_⟩
  subst e
  obtain ⟨h4, h5⟩ := Bool.and_eq_true_iff.mp (show (decide (ys.length ≤ 4) && ys.all D.nt2) = true from h3)
  refine ⟨of_decide_eq_true h4, fun z hz zs e => ?_⟩
  subst e
  have h6 := List.all_eq_true.mp h5 _ hz
  obtain ⟨h7, h8⟩ := Bool.and_eq_true_iff.mp (show (decide (zs.length ≤ 4) && zs.all D.nt) = true from h6)
  exact ⟨of_decide_eq_true h7, fun w hw => List.all_eq_true.mp h8 w hw⟩
/-- in the place of some ends -/
def SmB (y : D) : Prop := y.thg = true ∧ Rp 5 19000 y ∧ ∀ ys, y = .tup ys → ys.length ≤ 100
/-- in the place of a row -/
def RwB (x : D) : Prop := x.thg = true ∧ Rp 6 96000 x ∧ ∀ zs, x = .tup zs → ∀ y ∈ zs, ∀ ys, y = .tup ys → ys.length ≤ 100
/-- a paper of any kind: bounded -/
def PpB (x : D) : Prop := x.thg = true ∧ ∀ xs, x = .tup xs → xs.length ≤ 100 ∧ ∀ z ∈ xs, ∀ zs, z = .tup zs → ∀ y ∈ zs, ∀ ys, y = .tup ys → ys.length ≤ 100
def PaB (x : D) : Prop := PpB x ∧ Rp 30 10000000 x
theorem OdB.it {y : D} (h : OdB y) : ItB y := ⟨h.1, h.2.1⟩
theorem OdB.sm {y : D} (h : OdB y) : SmB y := ⟨h.1, h.2.1.mono, fun ys e => Nat.le_trans (h.2.2 ys e).1 (by omega)⟩
theorem OdB.rw {y : D} (h : OdB y) : RwB y := ⟨h.1, h.2.1.mono, fun zs e z hz ys e2 => Nat.le_trans ((h.2.2 zs e).2 z hz ys e2).1 (by omega)⟩
theorem ItB.int {i : Int} (h : -10000000 < i) (h2 : i < 10000000) : ItB (.int i) := ⟨rfl, (Rp.int (Nat.lt_trans (by omega : i.natAbs < 10000000) (by decide))).mono⟩
theorem ItB.jD {n : Nat} (h : n < 1000) : ItB (Wk.jD n) := ItB.int (by omega) (by omega)
theorem SmB.tup {xs : List D} (hl : xs.length ≤ 27) (h : ∀ y ∈ xs, ItB y) : SmB (.tup xs) := ⟨thg_tup.mpr fun y hy => (h y hy).1, (Rp.tup fun y hy => (h y hy).2).mono (by omega) (by omega), fun ys e => by cases e; omega⟩
theorem SmB.lis {xs : List D} (hl : xs.length ≤ 27) (h : ∀ y ∈ xs, ItB y) : SmB (.lis xs) := ⟨thg_lis.mpr fun y hy => (h y hy).1, (Rp.lis fun y hy => (h y hy).2).mono (by omega) (by omega), fun ys e => nomatch e⟩
theorem ItB.sm {i : Int} (h : ItB (.int i)) : SmB (.int i) := ⟨h.1, h.2.mono, fun ys e => nomatch e⟩
theorem SmB.so {m : Nat} {S : List Nat} (h : SoP m S) (hm : m ≤ 24) : SmB (.tup (S.map Wk.jD)) := SmB.tup (by have := h.len; rw [List.length_map]; omega) fun y hy => by
  obtain ⟨n, hn, rfl⟩ := List.mem_map.mp hy
  exact ItB.jD (by have := h.low n hn; omega)
theorem RwB.tup {xs : List D} (hl : xs.length ≤ 5) (h : ∀ y ∈ xs, SmB y) : RwB (.tup xs) := ⟨thg_tup.mpr fun y hy => (h y hy).1, (Rp.tup fun y hy => (h y hy).2.1).mono (by omega) (by omega), fun zs e y hy => by cases e; exact (h y hy).2.2⟩
theorem RwB.lis {xs : List D} (hl : xs.length ≤ 5) (h : ∀ y ∈ xs, SmB y) : RwB (.lis xs) := ⟨thg_lis.mpr fun y hy => (h y hy).1, (Rp.lis fun y hy => (h y hy).2.1).mono (by omega) (by omega), fun zs e => nomatch e⟩
theorem PaB.tup {xs : List D} (hl : xs.length ≤ 20) (h : ∀ y ∈ xs, RwB y) : PaB (.tup xs) := ⟨⟨thg_tup.mpr fun y hy => (h y hy).1, fun ys e => by cases e; exact ⟨by omega, fun z hz => (h z hz).2.2⟩⟩, (Rp.tup fun y hy => (h y hy).2.1).mono (by omega) (by omega)⟩
theorem PaB.lis {xs : List D} (hl : xs.length ≤ 20) (h : ∀ y ∈ xs, RwB y) : PaB (.lis xs) := ⟨⟨thg_lis.mpr fun y hy => (h y hy).1, fun ys e => nomatch e⟩, (Rp.lis fun y hy => (h y hy).2.1).mono (by omega) (by omega)⟩
theorem OdB.pa {y : D} (h : OdB y) : PaB y := ⟨⟨h.1, fun xs e => ⟨Nat.le_trans (h.2.2 xs e).1 (by omega), fun z hz zs e2 w hw ws e3 => by
  have := ((h.2.2 xs e).2 z hz zs e2).2 w hw
  rw [e3] at this; cases this⟩⟩, h.2.1.mono⟩
theorem GoodL.bnd {es : List En} (hB : EnB es) : ∀ {R : List La} {ah : Int}, (∀ r ∈ R, SoP es.length r.so) → GoodL es ah R → ∀ r ∈ R, 0 ≤ r.lo ∧ r.lo ≤ 6000000 ∧ 0 ≤ r.hi ∧ r.hi ≤ 6000000
  | [], _, _, _, r, hr => nomatch hr
  | x :: xs, ah, h1, h, r, hr => by
    rcases List.mem_cons.mp hr with rfl | hr
    · have h3 := h.1
      have hS := h1 r List.mem_cons_self
      have h4 := h3.2.2
      have h5 := hS.two
      obtain ⟨a, b, S, e⟩ : ∃ a b S, r.so = a :: b :: S := by
        match r.so, h5 with
        | a :: b :: S, _ => exact ⟨a, b, S, rfl⟩
      rw [e] at h4
      have h6 := (List.pairwise_cons.mp h4).1 b List.mem_cons_self
      have h7 := hB.wP a b
      have h8 := h3.1
      omega
    · exact GoodL.bnd hB (fun r hr => h1 r (List.mem_cons_of_mem _ hr)) h.2 r hr
theorem RwB.la {es : List En} {r : La} (h : SoP es.length r.so) (hm : es.length ≤ 24) (hb : 0 ≤ r.lo ∧ r.lo ≤ 6000000 ∧ 0 ≤ r.hi ∧ r.hi ≤ 6000000) : RwB (laD r) := RwB.tup (by simp) fun y hy => by
  simp only [List.mem_cons, List.not_mem_nil, or_false] at hy
  rcases hy with rfl | rfl | rfl
  · exact (ItB.int (by omega) (by omega)).sm
  · exact (ItB.int (by omega) (by omega)).sm
  · exact SmB.so h hm
end Wk

namespace Lw
open PySem PySem.Spec L2 Wk
local macro_rules | `(tactic| exists "gx") => `(tactic| fail)
local macro_rules | `(tactic| exists "sz") => `(tactic| exact Nat.le_of_ble_eq_true (by rfl))
local macro_rules | `(tactic| exists "cc") => `(tactic| first
  | exact mul_l (by omega) (by omega)
  | exact mul_r (by omega) (by omega)
  | exact div_w (by omega) (by omega)
  | (show (0 : Int) < _; omega))
local macro_rules | `(tactic| exists "om") => `(tactic| first | omega | (simp only [List.length_cons, List.length_nil]; omega))
local macro_rules | `(tactic| exists "bo") => `(tactic| first | rfl | exact decide_eq_decide.mpr (by omega) | exact (decide_eq_true (by omega)).symm | exact (decide_eq_false (by omega)).symm | exact decide_eq_true (by omega) | exact decide_eq_false (by omega))
local macro_rules | `(tactic| exists "lz") => `(tactic| first | exact lt_size (by simp only [List.length_map, List.length_range, List.length_zipIdx]; omega) | exact lt_size (by omega) | exact Nat.le_of_ble_eq_true (by rfl) | exact lt_size (by simp only [List.length_append, List.length_cons, List.length_nil, List.length_take, List.length_map]; omega))
local macro_rules | `(tactic| exists "ls") => `(tactic| first | exact le_size (by omega) | exact le_size (by simp only [List.length_append, List.length_cons, List.length_nil] <;> omega) | exact le_size (by simp only [List.length_map, List.length_append, List.length_cons, List.length_nil, List.length_zipIdx, List.length_range] <;> omega))
local macro_rules | `(tactic| exists "sn") => `(tactic| with_reducible refine s_next ?_)
local macro_rules | `(tactic| exists "dk") => `(tactic| repeat (first | with_reducible assumption | with_reducible apply Dk.here | with_reducible apply Dk.cons | with_reducible apply Dk.app))
local macro_rules | `(tactic| exists "le") => `(tactic| repeat (first | exact True.intro | refine ⟨rfl, ?_⟩))
local macro_rules | `(tactic| exists "nd") => `(tactic| ((try simp only [wipeD, List.set_cons_zero, List.set_cons_succ, List.set_nil, List.set_set]); with_reducible rfl))
local macro_rules | `(tactic| exists "de") => `(tactic| first | with_reducible assumption | rfl | (simp only [D.tup.injEq, List.cons.injEq, D.int.injEq, and_true, true_and, and_self, Int.sub_self, Int.mul_add, Int.mul_sub]; try omega))
local macro_rules | `(tactic| exists "wk") => `(tactic| repeat (first | with_reducible exact Weak.refl | with_reducible apply weak_skip | with_reducible apply weak_appS))
local macro_rules | `(tactic| exists "gW") => `(tactic| first
  | ((with_reducible refine' w_var ?hv ?_); (case hv => rfl))
  | with_reducible refine w_int ?_
  | with_reducible refine w_op ?_
  | with_reducible refine w_call ?_
  | with_reducible refine w_cb ?_
  | with_reducible refine w_tup ?_
  | with_reducible refine w_lst ?_
  | with_reducible refine w_bl ?_
  | with_reducible refine w_str ?_
  | with_reducible refine w_non ?_
  | with_reducible refine w_ty ?_
  | with_reducible refine w_un ?_
  | with_reducible refine w_sl ?_
  | with_reducible refine w_andV ?_
  | with_reducible refine w_orV ?_
  | with_reducible refine w_notV ?_
  | with_reducible refine w_chain ?_
  | with_reducible refine w_ifE ?_
  | with_reducible refine w_bm ?_
  | with_reducible refine w_bm0 ?_
  | with_reducible refine w_dget ?_
  | with_reducible refine w_din ?_
  | with_reducible refine w_dnotin ?_
  | with_reducible refine w_dnew ?_
  | ((with_reducible refine' w_lcQ ?hg ?_); (case hg => (first | exact gin_name (by simp) | exact gin_tup (gins_cons (by simp) (gins_cons (by simp) gins_nil)) | exact gin_tup (gins_cons (by simp) (gins_cons (by simp) (gins_cons (by simp) gins_nil))) | exact gin_tup (gins_cons (by simp) (gins_cons (by simp) (gins_cons (by simp) (gins_cons (by simp) gins_nil)))))))
  | with_reducible refine w_rev ?_
  | with_reducible refine w_listRg1 ?_
  | with_reducible refine w_tupRg1 ?_
  | with_reducible refine w_refc ?_)
local macro_rules | `(tactic| exists "gS") => `(tactic| first
  | with_reducible refine s_seq ?_
  | with_reducible refine s_asg ?_
  | with_reducible refine s_next ?_
  | with_reducible refine s_ret ?_
  | with_reducible refine s_if ?_
  | with_reducible refine s_forQ ?_
  | with_reducible refine s_drop ?_
  | with_reducible refine s_brk ?_
  | with_reducible refine s_cont ?_
  | with_reducible refine s_retN ?_
  | with_reducible refine s_dputK ?_
  | ((with_reducible refine' s_aug ?hv ?_); (case hv => rfl)))
local macro_rules | `(tactic| exists "gT") => `(tactic| first
  | with_reducible refine wt_test ?_
  | with_reducible refine wt_B ?_
  | with_reducible refine wt_not ?_
  | with_reducible refine wt_and ?_
  | with_reducible refine wt_or ?_
  | with_reducible refine wt_yes ?_)
local macro_rules | `(tactic| exists "gA") => `(tactic| first
  | with_reducible refine wa_cons ?_
  | with_reducible refine wa_nil ?_)
local macro_rules | `(tactic| exists "gG") => `(tactic| first
  | with_reducible refine wg_name ?_
  | ((with_reducible refine' wg_tup ?hv ?_); (case hv => rfl))
  | with_reducible refine wgs_cons ?_
  | with_reducible refine wgs_nil ?_
  | with_reducible refine wg_setLK ?_)
local macro_rules | `(tactic| exists "gO") => `(tactic| first
  | with_reducible refine wo_none ?_
  | with_reducible refine wo_some ?_)
local macro_rules | `(tactic| exists "g2") => `(tactic| first
  | with_reducible refine w2_addI ?_
  | with_reducible refine w2_i ?_
  | with_reducible refine w2_b ?_
  | with_reducible refine w2_powK ?_
  | ((with_reducible refine' w2_c ?hc ?_); (case hc => (exists "cc")))
  | ((with_reducible refine' w2_ixT ?hc ?_); (case hc => rfl))
  | ((with_reducible refine' w2_ixL (j := 0) ?hm ?hc ?_); (case hm => rfl); (case hc => rfl))
  | ((with_reducible refine' w2_ixL (j := 1) ?hm ?hc ?_); (case hm => rfl); (case hc => rfl))
  | ((with_reducible refine' w2_ixL (j := 2) ?hm ?hc ?_); (case hm => rfl); (case hc => rfl))
  | ((with_reducible refine' w2_ixL (j := 3) ?hm ?hc ?_); (case hm => rfl); (case hc => rfl))
  | ((with_reducible refine' w2_ixL (j := 4) ?hm ?hc ?_); (case hm => rfl); (case hc => rfl))
  | ((with_reducible refine' w2_eqs ?hx ?_); (case hx => first | with_reducible assumption | rfl))
  | ((with_reducible refine' w2_nes ?hx ?_); (case hx => first | with_reducible assumption | rfl))
  | ((with_reducible refine' w2_eqIt ?h ?_); (case h => (exists "om")))
  | ((with_reducible refine' w2_neIt ?h ?_); (case h => (exists "om")))
  | with_reducible refine w2_eqI ?_
  | with_reducible refine w2_neI ?_
  | with_reducible refine w2_eqB ?_
  | with_reducible refine w2_neB ?_
  | ((with_reducible refine' w2_eqE ?he ?hx ?_); (case he => (exists "de")); (case hx => first | with_reducible assumption | rfl))
  | ((with_reducible refine' w2_neE ?he ?hx ?_); (case he => (exists "de")); (case hx => first | with_reducible assumption | rfl))
  | ((with_reducible refine' w2_eq ?hx ?hy ?_); (case hx => rfl); (case hy => rfl))
  | ((with_reducible refine' w2_ne ?hx ?hy ?_); (case hx => rfl); (case hy => rfl))
  | with_reducible refine w2_isN rfl ?_
  | with_reducible refine w2_isntT ?_
  | with_reducible refine w2_isntR ?_
  | with_reducible refine w2_isntI ?_
  | with_reducible refine w2_isntS ?_
  | with_reducible refine w2_notnt rfl ?_
  | with_reducible refine w2_notNT ?_
  | with_reducible refine w2_notNR ?_
  | with_reducible refine w2_notNI ?_
  | with_reducible refine w2_notNS ?_
  | ((with_reducible refine' w2_addT ?hx ?hy ?_); (case hx => exact List.cons_ne_nil _ _); (case hy => (exists "sz"))))
local macro_rules | `(tactic| exists "g2") => `(tactic| first
  | ((with_reducible refine' w2_addL (i := 1) (j := 0) ?ha ?hb ?hz ?_); (case ha => rfl); (case hb => rfl); (case hz => (exists "ls")))
  | ((with_reducible refine' w2_addL (i := 0) (j := 1) ?ha ?hb ?hz ?_); (case ha => rfl); (case hb => rfl); (case hz => (exists "ls")))
  | ((with_reducible refine' w2_addL (i := 2) (j := 0) ?ha ?hb ?hz ?_); (case ha => rfl); (case hb => rfl); (case hz => (exists "ls"))))
local macro_rules | `(tactic| exists "g1") => `(tactic| first
  | with_reducible refine w1_neg ?_)
local macro_rules | `(tactic| exists "gC") => `(tactic| first
  | with_reducible refine wc_max2 ?_
  | with_reducible refine wc_min2 ?_
  | with_reducible refine wc_absM ?_
  | with_reducible refine wc_max3 ?_
  | with_reducible refine wc_max4 ?_
  | with_reducible refine wc_max5 ?_
  | with_reducible refine wc_min3 ?_
  | with_reducible refine wc_lenTm ?_
  | with_reducible refine wc_lenT ?_
  | ((with_reducible refine' wc_lenLm (j := 0) ?hm ?_); (case hm => (with_reducible rfl)))
  | ((with_reducible refine' wc_lenL (j := 0) ?hm ?_); (case hm => rfl))
  | ((with_reducible refine' wc_lenL (j := 1) ?hm ?_); (case hm => rfl))
  | with_reducible refine wc_intI ?_
  | with_reducible refine wc_intB ?_
  | ((with_reducible refine' wc_isiIt ?hz ?_); (case hz => decide +kernel))
  | ((with_reducible refine' wc_isiIf ?hz ?_); (case hz => decide +kernel))
  | ((with_reducible refine' wc_isiTt ?hz ?_); (case hz => decide +kernel))
  | ((with_reducible refine' wc_isiTf ?hz ?_); (case hz => decide +kernel))
  | ((with_reducible refine' wc_isiBt ?hz ?_); (case hz => decide +kernel))
  | ((with_reducible refine' wc_isiBf ?hz ?_); (case hz => decide +kernel))
  | ((with_reducible refine' wc_isiSt ?hz ?_); (case hz => decide +kernel))
  | ((with_reducible refine' wc_isiSf ?hz ?_); (case hz => decide +kernel))
  | ((with_reducible refine' wc_isiNt ?hz ?_); (case hz => decide +kernel))
  | ((with_reducible refine' wc_isiNf ?hz ?_); (case hz => decide +kernel))
  | with_reducible refine wc_tupT ?_
  | ((with_reducible refine' wc_tupL (j := 0) ?hm ?_); (case hm => rfl))
  | ((with_reducible refine' wc_tupL (j := 1) ?hm ?_); (case hm => rfl))
  | with_reducible refine wc_listT ?_
  | ((with_reducible refine' wc_listL (j := 0) ?hm ?_); (case hm => rfl)))
local macro_rules | `(tactic| exists "gL") => `(tactic| first
  | with_reducible refine wsl_02 ?_
  | with_reducible refine wsl_24 ?_
  | with_reducible refine wsl_tup ?_
  | with_reducible refine wsl_scrI fun _ _ _ => ?_
  | ((with_reducible refine' wsl_lst (j := 0) ?hm ?_); (case hm => rfl))
  | ((with_reducible refine' wsl_lst (j := 1) ?hm ?_); (case hm => rfl))
  | ((with_reducible refine' wsl_lst (j := 2) ?hm ?_); (case hm => rfl))
  | ((with_reducible refine' wsl_lst (j := 3) ?hm ?_); (case hm => rfl)))
local macro_rules | `(tactic| exists "gP") => `(tactic| first
  | with_reducible refine wps_cons ?_
  | with_reducible refine wps_nil ?_)
local macro_rules | `(tactic| exists "gM") => `(tactic| first
  | ((with_reducible refine' wm_append (j := 0) ?hm ?hz ?_); (case hm => rfl); (case hz => (exists "lz")))
  | ((with_reducible refine' wm_append (j := 1) ?hm ?hz ?_); (case hm => rfl); (case hz => (exists "lz")))
  | ((with_reducible refine' wm_append (j := 2) ?hm ?hz ?_); (case hm => rfl); (case hz => (exists "lz")))
  | ((with_reducible refine' wm_append (j := 3) ?hm ?hz ?_); (case hm => rfl); (case hz => (exists "lz"))))
local macro_rules | `(tactic| exists "gI") => `(tactic| first
  | with_reducible refine wi_listK ?_
  | with_reducible refine wi_tup ?_
  | with_reducible refine wi_enumT ?_
  | with_reducible refine wi_enumK ?_
  | with_reducible refine wi_zip ?_
  | with_reducible refine wi_rng1 ?_
  | with_reducible refine wi_rng2 ?_)
local macro_rules | `(tactic| exists "g3") => `(tactic| first
  | with_reducible refine split_t ?_
  | with_reducible refine split_f ?_
  | with_reducible refine split_nt ?_
  | with_reducible refine split_nf ?_
  | ((with_reducible refine' split_xb ?h ?_); (case h => (exists "bo")))
  | ((with_reducible refine' split_xe ?h ?_); (case h => (exists "bo")))
  | ((with_reducible refine' split_dt ?h ?_); (case h => (exists "om")))
  | ((with_reducible refine' split_df ?h ?_); (case h => (exists "om")))
  | ((with_reducible refine' split_ndt ?h ?_); (case h => (exists "om")))
  | ((with_reducible refine' split_ndf ?h ?_); (case h => (exists "om")))
  | ((with_reducible refine' ⟨ty_lst (j := 0) ?hm, ?_⟩); (case hm => rfl))
  | ((with_reducible refine' ⟨ty_lst (j := 1) ?hm, ?_⟩); (case hm => rfl))
  | ((with_reducible refine' ⟨ty_lst (j := 2) ?hm, ?_⟩); (case hm => rfl))
  | ((with_reducible refine' ⟨ty_lst (j := 3) ?hm, ?_⟩); (case hm => rfl))
  | refine ⟨_, 0, _, rfl, rfl, ?_⟩
  | refine ⟨_, 1, _, rfl, rfl, ?_⟩
  | refine ⟨_, 2, _, rfl, rfl, ?_⟩
  | refine ⟨_, 0, _, _, _, rfl, rfl, rfl, by rfl, ?_⟩
  | refine ⟨_, 1, _, _, _, rfl, rfl, rfl, by rfl, ?_⟩
  | refine ⟨_, 2, _, _, _, rfl, rfl, rfl, by rfl, ?_⟩
  | refine ⟨_, rfl, ⟨by omega, by omega⟩, ?_⟩
  | refine ⟨_, 0, _, .inr _, _, rfl, rfl, rfl, by rfl, ?_⟩
  | refine ⟨_, 0, _, .inr _, [(_, _), (_, _), (_, _), (_, _)], _, rfl, rfl, rfl, Nat.le_of_ble_eq_true (by rfl), by rfl, rfl, ?_⟩
  | ((with_reducible refine ⟨?hz, ?_⟩); (case hz => (exists "sz")))
  | (refine ⟨?hz, ?_⟩; (case hz => rfl))
  | (refine ⟨_, rfl, ?_⟩)
  | (with_reducible intro _))
local macro_rules | `(tactic| exists "gR") => `(tactic| first
  | with_reducible refine wrev_2 ?_
  | with_reducible refine wrev_m ?_
  | with_reducible refine wrev_t ?_
  | ((with_reducible refine' wrev_lm (j := 0) ?hm ?_); (case hm => (with_reducible rfl)))
  | ((with_reducible refine' wrev_l (j := 0) ?hm ?_); (case hm => rfl))
  | ((with_reducible refine' wrev_l (j := 1) ?hm ?_); (case hm => rfl))
  | ((with_reducible refine' wrev_l (j := 2) ?hm ?_); (case hm => rfl)))
local macro_rules | `(tactic| exists "lk12") => `(tactic| first | with_reducible assumption | with_reducible apply Lk.here)
local macro_rules | `(tactic| exists "lk11") => `(tactic| first | with_reducible assumption | with_reducible apply Lk.here | ((first | with_reducible apply Lk.cons | with_reducible apply Lk.app); (exists "lk12")))
local macro_rules | `(tactic| exists "lk10") => `(tactic| first | with_reducible assumption | with_reducible apply Lk.here | ((first | with_reducible apply Lk.cons | with_reducible apply Lk.app); (exists "lk11")))
local macro_rules | `(tactic| exists "lk9") => `(tactic| first | with_reducible assumption | with_reducible apply Lk.here | ((first | with_reducible apply Lk.cons | with_reducible apply Lk.app); (exists "lk10")))
local macro_rules | `(tactic| exists "lk8") => `(tactic| first | with_reducible assumption | with_reducible apply Lk.here | ((first | with_reducible apply Lk.cons | with_reducible apply Lk.app); (exists "lk9")))
local macro_rules | `(tactic| exists "lk7") => `(tactic| first | with_reducible assumption | with_reducible apply Lk.here | ((first | with_reducible apply Lk.cons | with_reducible apply Lk.app); (exists "lk8")))
local macro_rules | `(tactic| exists "lk6") => `(tactic| first | with_reducible assumption | with_reducible apply Lk.here | ((first | with_reducible apply Lk.cons | with_reducible apply Lk.app); (exists "lk7")))
local macro_rules | `(tactic| exists "lk5") => `(tactic| first | with_reducible assumption | with_reducible apply Lk.here | ((first | with_reducible apply Lk.cons | with_reducible apply Lk.app); (exists "lk6")))
local macro_rules | `(tactic| exists "lk4") => `(tactic| first | with_reducible assumption | with_reducible apply Lk.here | ((first | with_reducible apply Lk.cons | with_reducible apply Lk.app); (exists "lk5")))
local macro_rules | `(tactic| exists "lk3") => `(tactic| first | with_reducible assumption | with_reducible apply Lk.here | ((first | with_reducible apply Lk.cons | with_reducible apply Lk.app); (exists "lk4")))
local macro_rules | `(tactic| exists "lk2") => `(tactic| first | with_reducible assumption | with_reducible apply Lk.here | ((first | with_reducible apply Lk.cons | with_reducible apply Lk.app); (exists "lk3")))
local macro_rules | `(tactic| exists "lk1") => `(tactic| first | with_reducible assumption | with_reducible apply Lk.here | ((first | with_reducible apply Lk.cons | with_reducible apply Lk.app); (exists "lk2")))
local macro_rules | `(tactic| exists "lk") => `(tactic| first | with_reducible assumption | with_reducible apply Lk.here | ((first | with_reducible apply Lk.cons | with_reducible apply Lk.app); (exists "lk1")))
local macro_rules | `(tactic| exists "ck12") => `(tactic| first | with_reducible assumption | with_reducible apply Ck.here)
local macro_rules | `(tactic| exists "ck11") => `(tactic| first | with_reducible assumption | with_reducible apply Ck.here | (with_reducible apply Ck.cons; (exists "ck12")))
local macro_rules | `(tactic| exists "ck10") => `(tactic| first | with_reducible assumption | with_reducible apply Ck.here | (with_reducible apply Ck.cons; (exists "ck11")))
local macro_rules | `(tactic| exists "ck9") => `(tactic| first | with_reducible assumption | with_reducible apply Ck.here | (with_reducible apply Ck.cons; (exists "ck10")))
local macro_rules | `(tactic| exists "ck8") => `(tactic| first | with_reducible assumption | with_reducible apply Ck.here | (with_reducible apply Ck.cons; (exists "ck9")))
local macro_rules | `(tactic| exists "ck7") => `(tactic| first | with_reducible assumption | with_reducible apply Ck.here | (with_reducible apply Ck.cons; (exists "ck8")))
local macro_rules | `(tactic| exists "ck6") => `(tactic| first | with_reducible assumption | with_reducible apply Ck.here | (with_reducible apply Ck.cons; (exists "ck7")))
local macro_rules | `(tactic| exists "ck5") => `(tactic| first | with_reducible assumption | with_reducible apply Ck.here | (with_reducible apply Ck.cons; (exists "ck6")))
local macro_rules | `(tactic| exists "ck4") => `(tactic| first | with_reducible assumption | with_reducible apply Ck.here | (with_reducible apply Ck.cons; (exists "ck5")))
local macro_rules | `(tactic| exists "ck3") => `(tactic| first | with_reducible assumption | with_reducible apply Ck.here | (with_reducible apply Ck.cons; (exists "ck4")))
local macro_rules | `(tactic| exists "ck2") => `(tactic| first | with_reducible assumption | with_reducible apply Ck.here | (with_reducible apply Ck.cons; (exists "ck3")))
local macro_rules | `(tactic| exists "ck1") => `(tactic| first | with_reducible assumption | with_reducible apply Ck.here | (with_reducible apply Ck.cons; (exists "ck2")))
local macro_rules | `(tactic| exists "ck") => `(tactic| first | with_reducible assumption | with_reducible apply Ck.here | (with_reducible apply Ck.cons; (exists "ck1")))
local macro_rules | `(tactic| exists "ne") => `(tactic| first | assumption | (intro he; subst he; simp at *; done) | (simp; done) | (simp [*]; done))
local macro_rules | `(tactic| exists "gC") => `(tactic| first
  | ((with_reducible refine' wc_lenKm ?hm ?_); (case hm => (exists "lk")))
  | ((with_reducible refine' wc_lenK ?hm ?_); (case hm => (exists "lk")))
  | ((with_reducible refine' wc_tupK ?hm ?_); (case hm => (exists "lk")))
  | ((with_reducible refine' wc_listK ?hm ?_); (case hm => (exists "lk")))
  | ((with_reducible refine' wc_sumKi ?hm ?_); (case hm => (exists "lk")))
  | ((with_reducible refine' wc_sumK ?hm ?_); (case hm => (exists "lk")))
  | ((with_reducible refine' wc_allK ?hm ?_); (case hm => (exists "lk")))
  | ((with_reducible refine' wc_anyK ?hm ?_); (case hm => (exists "lk")))
  | ((with_reducible refine' wc_maxKi ?hm ?hn ?_); (case hm => (exists "lk")); (case hn => (exists "ne")))
  | ((with_reducible refine' wc_minKi ?hm ?hn ?_); (case hm => (exists "lk")); (case hn => (exists "ne")))
  | ((with_reducible refine' wc_maxK ?hm ?hn ?_); (case hm => (exists "lk")); (case hn => (exists "ne")))
  | ((with_reducible refine' wc_minK ?hm ?hn ?_); (case hm => (exists "lk")); (case hn => (exists "ne"))))
local macro_rules | `(tactic| exists "gL") => `(tactic| first
  | with_reducible refine wsl_TfromN ?_
  | with_reducible refine wsl_TtoN ?_
  | with_reducible refine wsl_T1 ?_
  | ((with_reducible refine' wsl_KfromN ?hm ?_); (case hm => (exists "lk")))
  | ((with_reducible refine' wsl_KtoN ?hm ?_); (case hm => (exists "lk")))
  | ((with_reducible refine' wsl_Tfrom ?h ?_); (case h => omega))
  | ((with_reducible refine' wsl_Tto ?h ?_); (case h => omega))
  | ((with_reducible refine' wsl_K1 ?hm ?_); (case hm => (exists "lk")))
  | ((with_reducible refine' wsl_Kfrom ?h ?hm ?_); (case hm => (exists "lk")); (case h => omega))
  | ((with_reducible refine' wsl_Kto ?h ?hm ?_); (case hm => (exists "lk")); (case h => omega))
  | ((with_reducible refine' wsl_K ?hm ?_); (case hm => (exists "lk"))))
local macro_rules | `(tactic| exists "g2") => `(tactic| first
  | ((with_reducible refine' w2_addKm ?ha ?hb ?hz ?_); (case ha => (exists "lk")); (case hb => (exists "lk")); (case hz => (exists "lm")))
  | ((with_reducible refine' w2_eqKs ?ha ?hb ?hx ?_); (case ha => (exists "lk")); (case hb => (exists "lk")); (case hx => rfl))
  | ((with_reducible refine' w2_neKs ?ha ?hb ?hx ?_); (case ha => (exists "lk")); (case hb => (exists "lk")); (case hx => rfl))
  | ((with_reducible refine' w2_addK ?ha ?hb ?hz ?_); (case ha => (exists "lk")); (case hb => (exists "lk")); (case hz => (exists "ls"))))
local macro_rules | `(tactic| exists "gR") => `(tactic| ((with_reducible refine' wrev_k ?hm ?_); (case hm => (exists "lk"))))
local macro_rules | `(tactic| exists "g3") => `(tactic| first
  | ((with_reducible refine' lk_intro ?h ?_); (case h => (exists "lk")))
  | ((with_reducible refine' lk_intro1 ?h ?_); (case h => (exists "lk"))))
local macro_rules | `(tactic| exists "gW") => `(tactic| with_reducible refine w_sortSetN ?_)
local macro_rules | `(tactic| exists "ap") => `(tactic| ((try simp only [List.cons_append, List.nil_append]); with_reducible rfl))
local macro_rules | `(tactic| exists "lm") => `(tactic| (exact le_size (by (try simp only [List.length_map, List.length_take, List.length_drop, List.length_append, List.length_reverse, List.length_range, List.length_cons, List.length_nil]); omega)))
local macro_rules | `(tactic| exists "g2") => `(tactic| first
  | ((with_reducible refine' w2_addTm ?hn ?hz ?_); (case hn => (exists "ne")); (case hz => (exists "lm")))
  | ((with_reducible refine' w2_addTE ?hn ?hz ?h ?_); (case hn => exact List.cons_ne_nil _ _); (case hz => (exists "sz")); (case h => (exists "ap"))))
local macro_rules | `(tactic| exists "nc") => `(tactic| first | rfl | exact (Int.natCast_add _ _).symm | omega)
local macro_rules | `(tactic| exists "gM") => `(tactic| first
  | ((with_reducible refine' wm_popAtN ?hm ?h0 ?h1 ?hz ?_); (case hm => (exists "at")); (case h0 => omega); (case h1 => omega); (case hz => omega))
  | ((with_reducible refine' wm_popC ?hm ?h ?_); (case hm => (exists "at")); (case h => (exists "nd")))
  | ((with_reducible refine' wm_extT ?hm ?hz ?h ?_); (case hm => (exists "at")); (case hz => (exists "lm")); (case h => (exists "nd")))
  | ((with_reducible refine' wm_ins0 ?hm ?hz ?h ?_); (case hm => (exists "at")); (case hz => (exists "lz")); (case h => (exists "nd"))))
local macro_rules | `(tactic| exists "g3") => `(tactic| ((with_reducible refine' mu_set ?h ?_); (case h => (exists "nd"))))
local macro_rules | `(tactic| exists "g2") => `(tactic| ((with_reducible refine' w2_rep1 ?hm ?hi ?hz ?_); (case hm => (exists "lk")); (case hi => first | exact (Int.natCast_add _ _).symm | rfl | omega); (case hz => omega)))
local macro_rules | `(tactic| exists "g2") => `(tactic| first
  | ((with_reducible refine' w2_ixTz ?hk ?_); (case hk => with_reducible assumption))
  | ((with_reducible refine' w2_ixKz ?hm ?hk ?_); (case hm => (exists "lk")); (case hk => with_reducible assumption))
  | ((with_reducible refine' w2_ixTi ?hi ?hk ?_); (case hi => exact (Int.natCast_add _ _).symm); (case hk => with_reducible assumption))
  | ((with_reducible refine' w2_ixKi ?hm ?hi ?hk ?_); (case hm => (exists "lk")); (case hi => exact (Int.natCast_add _ _).symm); (case hk => with_reducible assumption)))
local macro_rules | `(tactic| exists "g2") => `(tactic| first
  | ((with_reducible refine' w2_ixTm ?hk ?_); (case hk => with_reducible assumption))
  | ((with_reducible refine' w2_ixKm ?hm ?hk ?_); (case hm => (exists "lk")); (case hk => with_reducible assumption))
  | ((with_reducible refine' w2_ixK ?hm ?hc ?_); (case hm => (exists "lk")); (case hc => rfl)))
local macro_rules | `(tactic| exists "gC") => `(tactic| first
  | with_reducible refine wc_minT2 ?_
  | with_reducible refine wc_maxT2 ?_)
local macro_rules | `(tactic| exists "gC") => `(tactic| first
  | ((with_reducible refine' wc_sortedKn ?hm ?_); (case hm => (exists "lk")))
  | ((with_reducible refine' wc_sortedK ?hm ?_); (case hm => (exists "lk")))
  | with_reducible refine wc_sumT ?_
  | ((with_reducible refine' wc_maxT ?hn ?_); (case hn => (exists "ne")))
  | ((with_reducible refine' wc_minT ?hn ?_); (case hn => (exists "ne"))))
local macro_rules | `(tactic| exists "g2") => `(tactic| first
  | with_reducible refine w2_inT2 ?_
  | with_reducible refine w2_inTn ?_
  | with_reducible refine w2_ninTn ?_
  | with_reducible refine w2_inT ?_
  | with_reducible refine w2_ninT ?_
  | ((with_reducible refine' w2_inKn ?hm ?_); (case hm => (exists "lk")))
  | ((with_reducible refine' w2_ninKn ?hm ?_); (case hm => (exists "lk")))
  | ((with_reducible refine' w2_inK ?hm ?_); (case hm => (exists "lk")))
  | ((with_reducible refine' w2_ninK ?hm ?_); (case hm => (exists "lk"))))
local macro_rules | `(tactic| exists "at12") => `(tactic| first | with_reducible assumption | with_reducible apply at0)
local macro_rules | `(tactic| exists "at11") => `(tactic| first | with_reducible assumption | with_reducible apply at0 | (with_reducible apply atS; (exists "at12")))
local macro_rules | `(tactic| exists "at10") => `(tactic| first | with_reducible assumption | with_reducible apply at0 | (with_reducible apply atS; (exists "at11")))
local macro_rules | `(tactic| exists "at9") => `(tactic| first | with_reducible assumption | with_reducible apply at0 | (with_reducible apply atS; (exists "at10")))
local macro_rules | `(tactic| exists "at8") => `(tactic| first | with_reducible assumption | with_reducible apply at0 | (with_reducible apply atS; (exists "at9")))
local macro_rules | `(tactic| exists "at7") => `(tactic| first | with_reducible assumption | with_reducible apply at0 | (with_reducible apply atS; (exists "at8")))
local macro_rules | `(tactic| exists "at6") => `(tactic| first | with_reducible assumption | with_reducible apply at0 | (with_reducible apply atS; (exists "at7")))
local macro_rules | `(tactic| exists "at5") => `(tactic| first | with_reducible assumption | with_reducible apply at0 | (with_reducible apply atS; (exists "at6")))
local macro_rules | `(tactic| exists "at4") => `(tactic| first | with_reducible assumption | with_reducible apply at0 | (with_reducible apply atS; (exists "at5")))
local macro_rules | `(tactic| exists "at3") => `(tactic| first | with_reducible assumption | with_reducible apply at0 | (with_reducible apply atS; (exists "at4")))
local macro_rules | `(tactic| exists "at2") => `(tactic| first | with_reducible assumption | with_reducible apply at0 | (with_reducible apply atS; (exists "at3")))
local macro_rules | `(tactic| exists "at1") => `(tactic| first | with_reducible assumption | with_reducible apply at0 | (with_reducible apply atS; (exists "at2")))
local macro_rules | `(tactic| exists "at") => `(tactic| first | with_reducible assumption | with_reducible apply at0 | (with_reducible apply atS; (exists "at1")))
local macro_rules | `(tactic| exists "gM") => `(tactic| first
  | ((with_reducible refine' wm_appendK ?hm ?hz ?h ?_); (case hm => (exists "at")); (case hz => (exists "lz")); (case h => (exists "nd"))))
local macro_rules | `(tactic| exists "g3") => `(tactic| ((with_reducible refine' ty_introK ?hm ?_); (case hm => (exists "lk"))))
local macro_rules | `(tactic| exists "vd9") => `(tactic| first | with_reducible exact valD_here)
local macro_rules | `(tactic| exists "vd8") => `(tactic| first | with_reducible exact valD_here | ((with_reducible refine valD_next ?_ ?_); (decide +kernel); (exists "vd9")))
local macro_rules | `(tactic| exists "vd7") => `(tactic| first | with_reducible exact valD_here | ((with_reducible refine valD_next ?_ ?_); (decide +kernel); (exists "vd8")))
local macro_rules | `(tactic| exists "vd6") => `(tactic| first | with_reducible exact valD_here | ((with_reducible refine valD_next ?_ ?_); (decide +kernel); (exists "vd7")))
local macro_rules | `(tactic| exists "vd5") => `(tactic| first | with_reducible exact valD_here | ((with_reducible refine valD_next ?_ ?_); (decide +kernel); (exists "vd6")))
local macro_rules | `(tactic| exists "vd4") => `(tactic| first | with_reducible exact valD_here | ((with_reducible refine valD_next ?_ ?_); (decide +kernel); (exists "vd5")))
local macro_rules | `(tactic| exists "vd3") => `(tactic| first | with_reducible exact valD_here | ((with_reducible refine valD_next ?_ ?_); (decide +kernel); (exists "vd4")))
local macro_rules | `(tactic| exists "vd2") => `(tactic| first | with_reducible exact valD_here | ((with_reducible refine valD_next ?_ ?_); (decide +kernel); (exists "vd3")))
local macro_rules | `(tactic| exists "vd1") => `(tactic| first | with_reducible exact valD_here | ((with_reducible refine valD_next ?_ ?_); (decide +kernel); (exists "vd2")))
local macro_rules | `(tactic| exists "vd") => `(tactic| first | with_reducible exact valD_here | ((with_reducible refine valD_next ?_ ?_); (decide +kernel); (exists "vd1")))
local macro_rules | `(tactic| exists "g3") => `(tactic| ((with_reducible refine' dget_str ?hm ?hv ?_); (case hm => (exists "ck")); (case hv => (exists "vd"))))
local macro_rules | `(tactic| exists "hG") => `(tactic| (intros; (first | exact True.intro | exact Lk.mem (by (exists "lk")))))
local macro_rules | `(tactic| exists "gS") => `(tactic| first
  | ((with_reducible refine' s_start ?h ?_); (case h => (exists "sd")))
  | ((with_reducible refine' s_augN ?hv ?_); (case hv => rfl)))
local macro_rules | `(tactic| exists "gG") => `(tactic| first
  | ((with_reducible refine' wg_unl ?hm ?hl ?_); (case hm => (exists "lk")); (case hl => rfl))
  | ((with_reducible refine' wg_wipe ?h1 ?h ?_); (case h1 => ((try simp only [List.map_cons, List.map_nil]); with_reducible rfl)); (case h => (exists "nd")))
  | ((with_reducible refine' wg_nameN ?h ?_); (case h => (exists "nd"))))
local macro_rules | `(tactic| exists "g3") => `(tactic| ((with_reducible refine' augN ?h ?_); (case h => (exists "nd"))))
local macro_rules | `(tactic| exists "g3") => `(tactic| first
  | ((with_reducible refine' dput_N ?hm ?hz ?h ?_); (case hm => (exists "at")); (case hz => omega); (case h => (exists "nd")))
  | ((with_reducible refine' dget_N ?hm ?hf ?hv ?_); (case hm => (exists "ck")); (case hf => with_reducible assumption); (case hv => with_reducible assumption))
  | ((with_reducible refine' din_t ?hm ?hf ?hv ?_); (case hm => (exists "ck")); (case hf => with_reducible assumption); (case hv => with_reducible assumption))
  | ((with_reducible refine' din_f ?hm ?hf ?hv ?_); (case hm => (exists "ck")); (case hf => with_reducible assumption); (case hv => with_reducible assumption))
  | with_reducible refine zip_intro ?_
  | with_reducible refine wz_T ?_
  | ((with_reducible refine' wz_L ?ha ?hb ?_); (case ha => (exists "lk")); (case hb => (exists "lk"))))
local macro_rules | `(tactic| exists "g2") => `(tactic| first
  | ((with_reducible refine' w2_addTi1 ?hz ?_); (case hz => (exists "lm")))
  | ((with_reducible refine' w2_addTmA ?hz ?_); (case hz => (exists "lm"))))
local macro_rules | `(tactic| exists "g3") => `(tactic| first
  | ((with_reducible refine' set_introK 0 ?hm ?hi ?hx ?h ?_); (case hm => (exists "at")); (case hi => rfl); (case hx => (exists "nd")); (case h => (exists "nd")))
  | ((with_reducible refine' set_introK 1 ?hm ?hi ?hx ?h ?_); (case hm => (exists "at")); (case hi => rfl); (case hx => (exists "nd")); (case h => (exists "nd")))
  | ((with_reducible refine' set_introK 2 ?hm ?hi ?hx ?h ?_); (case hm => (exists "at")); (case hi => rfl); (case hx => (exists "nd")); (case h => (exists "nd")))
  | ((with_reducible refine' set_introK 3 ?hm ?hi ?hx ?h ?_); (case hm => (exists "at")); (case hi => rfl); (case hx => (exists "nd")); (case h => (exists "nd"))))
local macro_rules | `(tactic| exists "ld") => `(tactic| repeat (first | with_reducible assumption | with_reducible apply Ld.here | with_reducible apply Ld.cons | with_reducible apply Ld.app))
local macro_rules | `(tactic| exists "gL") => `(tactic| ((with_reducible refine' wsl_Ksub ?hm ?_); (case hm => (exists "lk"))))
local macro_rules | `(tactic| exists "gL") => `(tactic| ((with_reducible refine' wsl_Kx ?hm ?hx ?_); (case hm => (exists "lk")); (case hx => with_reducible assumption)))
local macro_rules | `(tactic| exists "gW") => `(tactic| with_reducible refine w_sortSetL ?_)
local macro_rules | `(tactic| exists "g3") => `(tactic| ((with_reducible refine' sortl_intro ?hm ?hz ?_); (case hm => (exists "lk")); (case hz => omega)))
local macro_rules | `(tactic| exists "gI") => `(tactic| with_reducible refine wi_rng3 ?_)
local macro_rules | `(tactic| exists "gS") => `(tactic| with_reducible refine s_par ?_)
local macro_rules | `(tactic| exists "g3") => `(tactic| ((with_reducible refine' par_in ?h ?_); (case h => (exists "nd"))))
local macro_rules | `(tactic| exists "gW") => `(tactic| with_reducible refine w_dget2 ?_)
local macro_rules | `(tactic| exists "g3") => `(tactic| first
  | ((with_reducible refine' dget2_in ?hm ?_); (case hm => (exists "ck")))
  | ((with_reducible refine' dget2_N ?hm ?hf ?hv ?_); (case hm => (exists "ck")); (case hf => with_reducible assumption); (case hv => with_reducible assumption)))
local macro_rules | `(tactic| exists "gC") => `(tactic| with_reducible refine wc_sortedT ?_)
local macro_rules | `(tactic| exists "gS") => `(tactic| with_reducible refine s_augL ?_)
local macro_rules | `(tactic| exists "cv") => `(tactic| exact cdivp_small (by omega) (by omega) (by omega))
local macro_rules | `(tactic| exists "gC") => `(tactic| with_reducible refine wc_lenScr ?_)
local macro_rules | `(tactic| exists "gC") => `(tactic| ((with_reducible refine' wc_divmod ?hc ?_); (case hc => (exists "cv"))))
local macro_rules | `(tactic| exists "g2") => `(tactic| with_reducible refine w2_ipI ?_)
local macro_rules | `(tactic| exists "g3") => `(tactic| first
  | ((with_reducible refine' aug_in ?hm ?hk ?_); (case hm => (exists "lk")); (case hk => with_reducible assumption))
  | ((with_reducible refine' aug_out ?hm ?hk ?h ?_); (case hm => (exists "at")); (case hk => ((try simp only [List.length_map, List.length_set, List.length_range]); omega)); (case h => (exists "nd"))))
local macro_rules | `(tactic| exists "hd") => `(tactic| repeat (first | with_reducible assumption | with_reducible apply Hd.here | with_reducible apply Hd.cons | with_reducible apply Hd.app))
local macro_rules | `(tactic| exists "cd") => `(tactic| repeat (first | with_reducible assumption | with_reducible apply Cd.here | with_reducible apply Cd.cons | with_reducible apply Cd.app))
local macro_rules | `(tactic| exists "gI") => `(tactic| first
  | with_reducible refine wi_seqU ?_
  | with_reducible refine wi_enumU ?_)
local macro_rules | `(tactic| exists "g3") => `(tactic| first
  | with_reducible refine sequ_t ?_
  | ((with_reducible refine' sequ_l ?h ?_); (case h => (exists "lk")))
  | with_reducible refine enumu_in ?_
  | with_reducible refine enumu_t ?_
  | ((with_reducible refine' enumu_l ?h ?_); (case h => (exists "lk"))))
local macro_rules | `(tactic| exists "gW") => `(tactic| with_reducible refine w_callN ?_)
local macro_rules | `(tactic| exists "gI") => `(tactic| with_reducible refine wi_revR1 ?_)
local macro_rules | `(tactic| exists "g3") => `(tactic| first
  | ((with_reducible refine' cn2 ?hn ?_); (case hn => rfl))
  | ((with_reducible refine' cn4 ?hn ?_); (case hn => rfl))
  | ((with_reducible refine' revR_in ?hz ?_); (case hz => omega)))
/-! one step: by the judgement at hand -/
local macro_rules | `(tactic| exists "st") => `(tactic| first
  | ((with_reducible show W _ _ _ _ _); (exists "gW"))
  | ((with_reducible show S4 _ _ _ _ _ _ _ _); (exists "gS"))
  | ((with_reducible show WA _ _ _ _ _); (exists "gA"))
  | ((with_reducible show W2 _ _ _ _ _ _); (exists "g2"))
  | ((with_reducible show WT _ _ _ _ _); (exists "gT"))
  | ((with_reducible show WG _ _ _ _ _ _); (exists "gG"))
  | ((with_reducible show WGs _ _ _ _ _ _); (exists "gG"))
  | ((with_reducible show WC _ _ _ _ _); (exists "gC"))
  | ((with_reducible show WO _ _ _ _ _); (exists "gO"))
  | ((with_reducible show WSl _ _ _ _ _ _ _); (exists "gL"))
  | ((with_reducible show W1 _ _ _ _ _); (exists "g1"))
  | ((with_reducible show WPs _ _ _ _ _); (exists "gP"))
  | ((with_reducible show WM _ _ _ _ _ _); (exists "gM"))
  | ((with_reducible show WI _ _ _ _ _); (exists "gI"))
  | ((with_reducible show WRev _ _ _); (exists "gR"))
  | (exists "gx")
  | (exists "g3"))
/-! the same, but no statement -/
local macro_rules | `(tactic| exists "se") => `(tactic| first
  | ((with_reducible show S4 _ _ _ _ _ _ _ _); fail)
  | (exists "st"))
local macro_rules | `(tactic| exists "ge") => `(tactic| repeat ((fail_if_success (with_reducible show S4 _ _ _ _ _ _ _ _)); (exists "st")))
/-! one statement -/
local macro_rules | `(tactic| exists "ss") => `(tactic| ((try ((with_reducible refine' s_start ?h ?_); (case h => (exists "sd")))); (with_reducible refine s_seq ?_); (exists "gS"); (exists "ge")))
local macro_rules | `(tactic| exists "go") => `(tactic| repeat (exists "st"))
/-! a test's answer: known, or both ways -/
local macro_rules | `(tactic| exists "br") => `(tactic| first
  | refine split_t ?_
  | refine split_f ?_
  | refine split_d (fun hc => ?_) (fun hc => ?_)
  | (refine split_n ?_; (exists "br"))
  | refine split2 (fun hc => ?_) (fun hc => ?_))
/-! a boolean value as one decide: goals `W .. fun d μ' => d = .bl (decide q) ∧ μ' = μ` -/
local macro_rules | `(tactic| exists "be") => `(tactic| exact And.intro (congrArg D.bl (by first | exact decide_eq_decide.mpr (by omega) | exact (decide_eq_true (by omega)).symm | exact (decide_eq_false (by omega)).symm)) rfl)
local macro_rules | `(tactic| exists "pb") => `(tactic| repeat (first | (exists "st") | refine split_d (fun _ => ?_) (fun _ => ?_) | (exists "be")))
local macro_rules | `(tactic| exists "rw") => `(tactic| first | exact ⟨rfl, by (exists "wk")⟩ | ((with_reducible show Weak _ _); (exists "wk")))
/-! a comprehension, no test: items each by itself; and what follows -/
local macro_rules | `(tactic| exists "lc0") => `(tactic| ((first | refine' lcM ?hl ?hG ?hs ?hq | refine' lc0 (lcM ?hl ?hG ?hs ?hq) | refine' lcE (lcM ?hl ?hG ?hs ?hq)); (case hl => (exists "lz")); (case hG => (exists "hG"))))
local macro_rules | `(tactic| exists "lc") => `(tactic| ((exists "lc0"); (case hs => (intro x hx p acc; (exists "go"); (exists "rw"))); (case' hq => intro p)))
local macro_rules | `(tactic| exists "lf0") => `(tactic| ((first | refine' lcF ?hl ?hG ?hs ?hq | refine' lc0 (lcF ?hl ?hG ?hs ?hq) | refine' lcE (lcF ?hl ?hG ?hs ?hq)); (case hl => (exists "lz")); (case hG => (exists "hG"))))
/-! a test whose answer is plain by its form -/
local macro_rules | `(tactic| exists "ff") => `(tactic| (refine ⟨fun h => absurd (show false = true from h) Bool.false_ne_true, fun _ => ?_⟩))
local macro_rules | `(tactic| exists "tt") => `(tactic| (refine ⟨fun _ => ?_, fun h => absurd (show true = false from h) Bool.noConfusion⟩))

local macro_rules | `(tactic| exists "g2") => `(tactic| first
  | with_reducible refine w2_eqUt ?_
  | with_reducible refine w2_neUt ?_
  | ((with_reducible refine' w2_eqUl ?ha ?hb ?_); (case ha => (exists "lk")); (case hb => (exists "lk")))
  | ((with_reducible refine' w2_neUl ?ha ?hb ?_); (case ha => (exists "lk")); (case hb => (exists "lk")))
  | with_reducible refine w2_eqUd ?_
  | with_reducible refine w2_neUd ?_)
local macro_rules | `(tactic| exists "gC") => `(tactic| first
  | ((with_reducible refine' wc_isiUt ?hz ?_); (case hz => decide +kernel))
  | ((with_reducible refine' wc_isiUf ?hz ?_); (case hz => decide +kernel))
  | ((with_reducible refine' wc_isiVt ?hz ?_); (case hz => decide +kernel))
  | ((with_reducible refine' wc_isiVf ?hz ?_); (case hz => decide +kernel)))
local macro_rules | `(tactic| exists "gC") => `(tactic| first
  | ((with_reducible refine' wc_reprU ?h ?_); (case h => with_reducible assumption))
  | ((with_reducible refine' wc_reprW ?h ?_); (case h => with_reducible assumption))
  | ((with_reducible refine' wc_strI ?h ?_); (case h => with_reducible assumption)))
local macro_rules | `(tactic| exists "gW") => `(tactic| first
  | with_reducible refine w_frz ?_
  | with_reducible refine w_dgetU ?_)
local macro_rules | `(tactic| exists "g3") => `(tactic| first
  | with_reducible refine dg_ref ?_
  | ((with_reducible refine' dg_N ?hv ?_); (case hv => with_reducible assumption))
  | with_reducible refine keys_in ?_
  | with_reducible refine sequ_i ?_
  | with_reducible refine enumu_i ?_
  | ((with_reducible refine' frz_L ?hm ?h ?_); (case hm => (exists "at")); (case h => ((try simp only [List.eraseIdx_cons_zero, List.eraseIdx_cons_succ]); with_reducible rfl)))
  | ((with_reducible refine' frz_D ?hm ?h ?_); (case hm => (exists "at")); (case h => ((try simp only [List.eraseIdx_cons_zero, List.eraseIdx_cons_succ]); with_reducible rfl))))
local macro_rules | `(tactic| exists "g2") => `(tactic| first
  | ((with_reducible refine' w2_ixIm ?hk ?_); (case hk => with_reducible assumption)))
local macro_rules | `(tactic| exists "gC") => `(tactic| with_reducible refine wc_lenI ?_)
local macro_rules | `(tactic| exists "gI") => `(tactic| with_reducible refine wi_keysU ?_)
def topS (i : Nat) : Stmt := PySem.Challenge.pw_equalwires_k68_spoilt_layers.main.body.getD i (.Pass ⟨0, 0, 0, 0⟩)
abbrev L_steps (v_one : Option D := none) (v_other : Option D := none) : Dl := [v_one, v_other]
abbrev s_steps : Stmt := topS 1
abbrev N_steps : List Str := ["one", "other"]
theorem sd_steps (x0 x1 : D) : startD N_steps [x0, x1] = [some x0, some x1] := rfl
theorem sc_steps : FnScope N_steps ["one", "other"] (defScope s_steps) := ⟨rfl, rfl, rfl, by decide +kernel, rfl, by decide +kernel, by decide +kernel⟩
abbrev L_wanted (v_ends : Option D := none) (v_one : Option D := none) (v_other : Option D := none) (v_here : Option D := none) (v_there : Option D := none) : Dl := [v_ends, v_one, v_other, v_here, v_there]
abbrev s_wanted : Stmt := topS 3
abbrev N_wanted : List Str := ["ends", "one", "other", "here", "there"]
theorem sd_wanted (x0 x1 x2 : D) : startD N_wanted [x0, x1, x2] = [some x0, some x1, some x2, none, none] := rfl
theorem sc_wanted : FnScope N_wanted ["ends", "one", "other"] (defScope s_wanted) := ⟨rfl, rfl, rfl, by decide +kernel, rfl, by decide +kernel, by decide +kernel⟩
abbrev L_is_whole (v_thing : Option D := none) : Dl := [v_thing]
abbrev s_is_whole : Stmt := topS 5
abbrev N_is_whole : List Str := ["thing"]
theorem sd_is_whole (x0 : D) : startD N_is_whole [x0] = [some x0] := rfl
theorem sc_is_whole : FnScope N_is_whole ["thing"] (defScope s_is_whole) := ⟨rfl, rfl, rfl, by decide +kernel, rfl, by decide +kernel, by decide +kernel⟩
abbrev L_are_some (v_many : Option D := none) (v_thing : Option D := none) (v_one : Option D := none) (v_k : Option D := none) : Dl := [v_many, v_thing, v_one, v_k]
abbrev s_are_some : Stmt := topS 6
abbrev N_are_some : List Str := ["many", "thing", "one", "k"]
theorem sd_are_some (x0 x1 : D) : startD N_are_some [x0, x1] = [some x0, some x1, none, none] := rfl
theorem sc_are_some : FnScope N_are_some ["many", "thing"] (defScope s_are_some) := ⟨rfl, rfl, rfl, by decide +kernel, rfl, by decide +kernel, by decide +kernel⟩
abbrev L_stand_apart (v_ends : Option D := none) (v_low : Option D := none) (v_high : Option D := none) (v_some : Option D := none) (v_at : Option D := none) (v_one : Option D := none) (v_other : Option D := none) : Dl := [v_ends, v_low, v_high, v_some, v_at, v_one, v_other]
abbrev F_stand_apart0 : List Nat := [4, 5, 6]
abbrev F_stand_apart1 : List Nat := [6]
abbrev s_stand_apart : Stmt := topS 7
abbrev N_stand_apart : List Str := ["ends", "low", "high", "some", "at", "one", "other"]
theorem sd_stand_apart (x0 x1 x2 x3 : D) : startD N_stand_apart [x0, x1, x2, x3] = [some x0, some x1, some x2, some x3, none, none, none] := rfl
theorem sc_stand_apart : FnScope N_stand_apart ["ends", "low", "high", "some"] (defScope s_stand_apart) := ⟨rfl, rfl, rfl, by decide +kernel, rfl, by decide +kernel, by decide +kernel⟩
abbrev L_is_layer (v_ends : Option D := none) (v_ahead : Option D := none) (v_thing : Option D := none) (v_low : Option D := none) (v_high : Option D := none) (v_some : Option D := none) : Dl := [v_ends, v_ahead, v_thing, v_low, v_high, v_some]
abbrev s_is_layer : Stmt := topS 8
abbrev N_is_layer : List Str := ["ends", "ahead", "thing", "low", "high", "some"]
theorem sd_is_layer (x0 x1 x2 : D) : startD N_is_layer [x0, x1, x2] = [some x0, some x1, some x2, none, none, none] := rfl
theorem sc_is_layer : FnScope N_is_layer ["ends", "ahead", "thing"] (defScope s_is_layer) := ⟨rfl, rfl, rfl, by decide +kernel, rfl, by decide +kernel, by decide +kernel⟩
abbrev L_layers_shown (v_ends : Option D := none) (v_thing : Option D := none) (v_ahead : Option D := none) (v_shown : Option D := none) (v_row : Option D := none) : Dl := [v_ends, v_thing, v_ahead, v_shown, v_row]
abbrev F_layers_shown0 : List Nat := [2, 3, 4]
abbrev s_layers_shown : Stmt := topS 9
abbrev N_layers_shown : List Str := ["ends", "thing", "ahead", "shown", "row"]
theorem sd_layers_shown (x0 x1 : D) : startD N_layers_shown [x0, x1] = [some x0, some x1, none, none, none] := rfl
theorem sc_layers_shown : FnScope N_layers_shown ["ends", "thing"] (defScope s_layers_shown) := ⟨rfl, rfl, rfl, by decide +kernel, rfl, by decide +kernel, by decide +kernel⟩
abbrev L_law_cell_at (v_script : Option D := none) (v_k : Option D := none) : Dl := [v_script, v_k]
abbrev s_law_cell_at : Stmt := topS 11
abbrev N_law_cell_at : List Str := ["_law_script", "_law_k"]
theorem sd_law_cell_at (x0 x1 : D) : startD N_law_cell_at [x0, x1] = [some x0, some x1] := rfl
theorem sc_law_cell_at : FnScope N_law_cell_at ["_law_script", "_law_k"] (defScope s_law_cell_at) := ⟨rfl, rfl, rfl, by decide +kernel, rfl, by decide +kernel, by decide +kernel⟩
abbrev L_law_well (v_cell : Option D := none) : Dl := [v_cell]
abbrev s_law_well : Stmt := topS 12
abbrev N_law_well : List Str := ["_law_cell"]
theorem sd_law_well (x0 : D) : startD N_law_well [x0] = [some x0] := rfl
theorem sc_law_well : FnScope N_law_well ["_law_cell"] (defScope s_law_well) := ⟨rfl, rfl, rfl, by decide +kernel, rfl, by decide +kernel, by decide +kernel⟩
abbrev L_law_draw (v_well_here : Option D := none) (v_many : Option D := none) (v_digit : Option D := none) (v_mixed : Option D := none) : Dl := [v_well_here, v_many, v_digit, v_mixed]
abbrev s_law_draw : Stmt := topS 13
abbrev N_law_draw : List Str := ["_law_well_here", "_law_many", "_law_digit", "_law_mixed"]
theorem sd_law_draw (x0 x1 : D) : startD N_law_draw [x0, x1] = [some x0, some x1, none, none] := rfl
theorem sc_law_draw : FnScope N_law_draw ["_law_well_here", "_law_many"] (defScope s_law_draw) := ⟨rfl, rfl, rfl, by decide +kernel, rfl, by decide +kernel, by decide +kernel⟩
abbrev L_law_number (v_well_here : Option D := none) (v_way : Option D := none) : Dl := [v_well_here, v_way]
abbrev s_law_number : Stmt := topS 14
abbrev N_law_number : List Str := ["_law_well_here", "_law_way"]
theorem sd_law_number (x0 x1 : D) : startD N_law_number [x0, x1] = [some x0, some x1] := rfl
theorem sc_law_number : FnScope N_law_number ["_law_well_here", "_law_way"] (defScope s_law_number) := ⟨rfl, rfl, rfl, by decide +kernel, rfl, by decide +kernel, by decide +kernel⟩
abbrev L_law_start (v_well_here : Option D := none) (v_way : Option D := none) : Dl := [v_well_here, v_way]
abbrev s_law_start : Stmt := topS 15
abbrev N_law_start : List Str := ["_law_well_here", "_law_way"]
theorem sd_law_start (x0 x1 : D) : startD N_law_start [x0, x1] = [some x0, some x1] := rfl
theorem sc_law_start : FnScope N_law_start ["_law_well_here", "_law_way"] (defScope s_law_start) := ⟨rfl, rfl, rfl, by decide +kernel, rfl, by decide +kernel, by decide +kernel⟩
abbrev L_law_ends (v_well_here : Option D := none) (v_most : Option D := none) (v_great : Option D := none) (v_many : Option D := none) (v_way : Option D := none) (v_line : Option D := none) (v_starts : Option D := none) (v_found : Option D := none) (v_k : Option D := none) (v_again : Option D := none) (v_x : Option D := none) (v_y : Option D := none) : Dl := [v_well_here, v_most, v_great, v_many, v_way, v_line, v_starts, v_found, v_k, v_again, v_x, v_y]
abbrev F_law_ends0 : List Nat := [8, 9, 10, 11]
abbrev s_law_ends : Stmt := topS 16
abbrev N_law_ends : List Str := ["_law_well_here", "_law_most", "_law_great", "_law_many", "_law_way", "_law_line", "_law_starts", "_law_found", "_law_k", "_law_again", "_law_x", "_law_y"]
theorem sd_law_ends (x0 x1 : D) : startD N_law_ends [x0, x1] = [some x0, some x1, none, none, none, none, none, none, none, none, none, none] := rfl
theorem sc_law_ends : FnScope N_law_ends ["_law_well_here", "_law_most"] (defScope s_law_ends) := ⟨rfl, rfl, rfl, by decide +kernel, rfl, by decide +kernel, by decide +kernel⟩
abbrev L_law_want (v_ends_here : Option D := none) (v_one : Option D := none) (v_other : Option D := none) (v_here : Option D := none) (v_there : Option D := none) : Dl := [v_ends_here, v_one, v_other, v_here, v_there]
abbrev s_law_want : Stmt := topS 17
abbrev N_law_want : List Str := ["_law_ends_here", "_law_one", "_law_other", "_law_here", "_law_there"]
theorem sd_law_want (x0 x1 x2 : D) : startD N_law_want [x0, x1, x2] = [some x0, some x1, some x2, none, none] := rfl
theorem sc_law_want : FnScope N_law_want ["_law_ends_here", "_law_one", "_law_other"] (defScope s_law_want) := ⟨rfl, rfl, rfl, by decide +kernel, rfl, by decide +kernel, by decide +kernel⟩
abbrev L_law_least_want (v_ends_here : Option D := none) (v_some_here : Option D := none) (v_found : Option D := none) (v_at : Option D := none) (v_one : Option D := none) (v_other : Option D := none) : Dl := [v_ends_here, v_some_here, v_found, v_at, v_one, v_other]
abbrev F_law_least_want0 : List Nat := [2, 3, 4, 5]
abbrev s_law_least_want : Stmt := topS 18
abbrev N_law_least_want : List Str := ["_law_ends_here", "_law_some_here", "_law_found", "_law_at", "_law_one", "_law_other"]
theorem sd_law_least_want (x0 x1 : D) : startD N_law_least_want [x0, x1] = [some x0, some x1, none, none, none, none] := rfl
theorem sc_law_least_want : FnScope N_law_least_want ["_law_ends_here", "_law_some_here"] (defScope s_law_least_want) := ⟨rfl, rfl, rfl, by decide +kernel, rfl, by decide +kernel, by decide +kernel⟩
abbrev L_law_some (v_well_here : Option D := none) (v_ends_here : Option D := none) (v_many : Option D := none) (v_one : Option D := none) (v_other : Option D := none) (v_want_here : Option D := none) (v_turn : Option D := none) (v_some_here : Option D := none) (v_k : Option D := none) (v_third : Option D := none) (v_less : Option D := none) (v_here : Option D := none) : Dl := [v_well_here, v_ends_here, v_many, v_one, v_other, v_want_here, v_turn, v_some_here, v_k, v_third, v_less, v_here]
abbrev F_law_some0 : List Nat := [8, 9, 10, 11]
abbrev s_law_some : Stmt := topS 19
abbrev N_law_some : List Str := ["_law_well_here", "_law_ends_here", "_law_many", "_law_one", "_law_other", "_law_want_here", "_law_turn", "_law_some_here", "_law_k", "_law_third", "_law_less", "_law_here"]
theorem sd_law_some (x0 x1 : D) : startD N_law_some [x0, x1] = [some x0, some x1, none, none, none, none, none, none, none, none, none, none] := rfl
theorem sc_law_some : FnScope N_law_some ["_law_well_here", "_law_ends_here"] (defScope s_law_some) := ⟨rfl, rfl, rfl, by decide +kernel, rfl, by decide +kernel, by decide +kernel⟩
abbrev L_law_layers (v_well_here : Option D := none) (v_ends_here : Option D := none) (v_found : Option D := none) (v_ahead : Option D := none) (v_k : Option D := none) (v_narrow : Option D := none) (v_some_here : Option D := none) (v_low : Option D := none) (v_high : Option D := none) (v_one : Option D := none) : Dl := [v_well_here, v_ends_here, v_found, v_ahead, v_k, v_narrow, v_some_here, v_low, v_high, v_one]
abbrev F_law_layers0 : List Nat := [3, 4, 5, 6, 7, 8, 9]
abbrev s_law_layers : Stmt := topS 20
abbrev N_law_layers : List Str := ["_law_well_here", "_law_ends_here", "_law_found", "_law_ahead", "_law_k", "_law_narrow", "_law_some_here", "_law_low", "_law_high", "_law_one"]
theorem sd_law_layers (x0 x1 : D) : startD N_law_layers [x0, x1] = [some x0, some x1, none, none, none, none, none, none, none, none] := rfl
theorem sc_law_layers : FnScope N_law_layers ["_law_well_here", "_law_ends_here"] (defScope s_law_layers) := ⟨rfl, rfl, rfl, by decide +kernel, rfl, by decide +kernel, by decide +kernel⟩
abbrev L_law_is_whole (v_thing : Option D := none) : Dl := [v_thing]
abbrev s_law_is_whole : Stmt := topS 21
abbrev N_law_is_whole : List Str := ["_law_thing"]
theorem sd_law_is_whole (x0 : D) : startD N_law_is_whole [x0] = [some x0] := rfl
theorem sc_law_is_whole : FnScope N_law_is_whole ["_law_thing"] (defScope s_law_is_whole) := ⟨rfl, rfl, rfl, by decide +kernel, rfl, by decide +kernel, by decide +kernel⟩
abbrev L_law_is_layer (v_ends_here : Option D := none) (v_ahead : Option D := none) (v_row : Option D := none) (v_low : Option D := none) (v_high : Option D := none) (v_some_here : Option D := none) (v_one : Option D := none) : Dl := [v_ends_here, v_ahead, v_row, v_low, v_high, v_some_here, v_one]
abbrev s_law_is_layer : Stmt := topS 22
abbrev N_law_is_layer : List Str := ["_law_ends_here", "_law_ahead", "_law_row", "_law_low", "_law_high", "_law_some_here", "_law_one"]
theorem sd_law_is_layer (x0 x1 x2 : D) : startD N_law_is_layer [x0, x1, x2] = [some x0, some x1, some x2, none, none, none, none] := rfl
theorem sc_law_is_layer : FnScope N_law_is_layer ["_law_ends_here", "_law_ahead", "_law_row"] (defScope s_law_is_layer) := ⟨rfl, rfl, rfl, by decide +kernel, rfl, by decide +kernel, by decide +kernel⟩
abbrev L_law_due (v_ends_here : Option D := none) (v_thing : Option D := none) (v_ahead : Option D := none) (v_shown : Option D := none) (v_row : Option D := none) : Dl := [v_ends_here, v_thing, v_ahead, v_shown, v_row]
abbrev F_law_due0 : List Nat := [2, 3, 4]
abbrev s_law_due : Stmt := topS 23
abbrev N_law_due : List Str := ["_law_ends_here", "_law_thing", "_law_ahead", "_law_shown", "_law_row"]
theorem sd_law_due (x0 x1 : D) : startD N_law_due [x0, x1] = [some x0, some x1, none, none, none] := rfl
theorem sc_law_due : FnScope N_law_due ["_law_ends_here", "_law_thing"] (defScope s_law_due) := ⟨rfl, rfl, rfl, by decide +kernel, rfl, by decide +kernel, by decide +kernel⟩
abbrev L_law_told (v_ends_here : Option D := none) (v_thing : Option D := none) (v_due_here : Option D := none) (v_found : Option D := none) : Dl := [v_ends_here, v_thing, v_due_here, v_found]
abbrev s_law_told : Stmt := topS 24
abbrev N_law_told : List Str := ["_law_ends_here", "_law_thing", "_law_due_here", "_law_found"]
theorem sd_law_told (x0 x1 x2 : D) : startD N_law_told [x0, x1, x2] = [some x0, some x1, some x2, none] := rfl
theorem sc_law_told : FnScope N_law_told ["_law_ends_here", "_law_thing", "_law_due_here"] (defScope s_law_told) := ⟨rfl, rfl, rfl, by decide +kernel, rfl, by decide +kernel, by decide +kernel⟩
abbrev L_law_odd (v_well_here : Option D := none) (v_some_here : Option D := none) : Dl := [v_well_here, v_some_here]
abbrev s_law_odd : Stmt := topS 25
abbrev N_law_odd : List Str := ["_law_well_here", "_law_some_here"]
theorem sd_law_odd (x0 : D) : startD N_law_odd [x0] = [some x0, none] := rfl
theorem sc_law_odd : FnScope N_law_odd ["_law_well_here"] (defScope s_law_odd) := ⟨rfl, rfl, rfl, by decide +kernel, rfl, by decide +kernel, by decide +kernel⟩
abbrev L_law_spoilt_some (v_well_here : Option D := none) (v_some_here : Option D := none) (v_odd_here : Option D := none) (v_way : Option D := none) (v_at : Option D := none) : Dl := [v_well_here, v_some_here, v_odd_here, v_way, v_at]
abbrev s_law_spoilt_some : Stmt := topS 26
abbrev N_law_spoilt_some : List Str := ["_law_well_here", "_law_some_here", "_law_odd_here", "_law_way", "_law_at"]
theorem sd_law_spoilt_some (x0 x1 x2 : D) : startD N_law_spoilt_some [x0, x1, x2] = [some x0, some x1, some x2, none, none] := rfl
theorem sc_law_spoilt_some : FnScope N_law_spoilt_some ["_law_well_here", "_law_some_here", "_law_odd_here"] (defScope s_law_spoilt_some) := ⟨rfl, rfl, rfl, by decide +kernel, rfl, by decide +kernel, by decide +kernel⟩
abbrev L_law_spoilt_row (v_well_here : Option D := none) (v_row : Option D := none) (v_odd_here : Option D := none) (v_way : Option D := none) (v_part : Option D := none) : Dl := [v_well_here, v_row, v_odd_here, v_way, v_part]
abbrev s_law_spoilt_row : Stmt := topS 27
abbrev N_law_spoilt_row : List Str := ["_law_well_here", "_law_row", "_law_odd_here", "_law_way", "_law_part"]
theorem sd_law_spoilt_row (x0 x1 x2 : D) : startD N_law_spoilt_row [x0, x1, x2] = [some x0, some x1, some x2, none, none] := rfl
theorem sc_law_spoilt_row : FnScope N_law_spoilt_row ["_law_well_here", "_law_row", "_law_odd_here"] (defScope s_law_spoilt_row) := ⟨rfl, rfl, rfl, by decide +kernel, rfl, by decide +kernel, by decide +kernel⟩
abbrev L_law_spoilt (v_well_here : Option D := none) (v_rows : Option D := none) (v_way : Option D := none) (v_odd_here : Option D := none) (v_some_here : Option D := none) (v_at : Option D := none) : Dl := [v_well_here, v_rows, v_way, v_odd_here, v_some_here, v_at]
abbrev s_law_spoilt : Stmt := topS 28
abbrev N_law_spoilt : List Str := ["_law_well_here", "_law_rows", "_law_way", "_law_odd_here", "_law_some_here", "_law_at"]
theorem sd_law_spoilt (x0 x1 : D) : startD N_law_spoilt [x0, x1] = [some x0, some x1, none, none, none, none] := rfl
theorem sc_law_spoilt : FnScope N_law_spoilt ["_law_well_here", "_law_rows"] (defScope s_law_spoilt) := ⟨rfl, rfl, rfl, by decide +kernel, rfl, by decide +kernel, by decide +kernel⟩
abbrev L_law (v_script : Option D := none) (v_k : Option D := none) (v_well_here : Option D := none) (v_ends_here : Option D := none) (v_rows : Option D := none) (v_due_here : Option D := none) (v_turn : Option D := none) (v_thing : Option D := none) (v_kept : Option D := none) : Dl := [v_script, v_k, v_well_here, v_ends_here, v_rows, v_due_here, v_turn, v_thing, v_kept]
abbrev F_law0 : List Nat := [1, 2, 3, 4, 5, 6, 7, 8]
abbrev F_law1 : List Nat := [6, 7, 8]
abbrev s_law : Stmt := topS 29
abbrev N_law : List Str := ["_law_script", "_law_k", "_law_well_here", "_law_ends_here", "_law_rows", "_law_due_here", "_law_turn", "_law_thing", "_law_kept"]
theorem sd_law (x0 : D) : startD N_law [x0] = [some x0, none, none, none, none, none, none, none, none] := rfl
theorem sc_law : FnScope N_law ["_law_script"] (defScope s_law) := ⟨rfl, rfl, rfl, by decide +kernel, rfl, by decide +kernel, by decide +kernel⟩
set_option genSizeOf false in
set_option genInjectivity false in
structure T (K : PySem.W.Frag) (mg : Str → Option Value) (base : Heap) where
  a_steps : Addr
  d_steps : FuncData
  F_steps : Fun K "steps" "steps" s_steps a_steps d_steps
  g_steps : mg "steps" = some (.ref a_steps)
  b_steps : Binds K d_steps ["one", "other"] []
  a_wanted : Addr
  d_wanted : FuncData
  F_wanted : Fun K "wanted" "wanted" s_wanted a_wanted d_wanted
  g_wanted : mg "wanted" = some (.ref a_wanted)
  b_wanted : Binds K d_wanted ["ends", "one", "other"] []
  a_is_whole : Addr
  d_is_whole : FuncData
  F_is_whole : Fun K "is_whole" "is_whole" s_is_whole a_is_whole d_is_whole
  g_is_whole : mg "is_whole" = some (.ref a_is_whole)
  b_is_whole : Binds K d_is_whole ["thing"] []
  a_are_some : Addr
  d_are_some : FuncData
  F_are_some : Fun K "are_some" "are_some" s_are_some a_are_some d_are_some
  g_are_some : mg "are_some" = some (.ref a_are_some)
  b_are_some : Binds K d_are_some ["many", "thing"] []
  a_stand_apart : Addr
  d_stand_apart : FuncData
  F_stand_apart : Fun K "stand_apart" "stand_apart" s_stand_apart a_stand_apart d_stand_apart
  g_stand_apart : mg "stand_apart" = some (.ref a_stand_apart)
  b_stand_apart : Binds K d_stand_apart ["ends", "low", "high", "some"] []
  a_is_layer : Addr
  d_is_layer : FuncData
  F_is_layer : Fun K "is_layer" "is_layer" s_is_layer a_is_layer d_is_layer
  g_is_layer : mg "is_layer" = some (.ref a_is_layer)
  b_is_layer : Binds K d_is_layer ["ends", "ahead", "thing"] []
  a_layers_shown : Addr
  d_layers_shown : FuncData
  F_layers_shown : Fun K "layers_shown" "layers_shown" s_layers_shown a_layers_shown d_layers_shown
  g_layers_shown : mg "layers_shown" = some (.ref a_layers_shown)
  b_layers_shown : Binds K d_layers_shown ["ends", "thing"] []
  a_law_cell_at : Addr
  d_law_cell_at : FuncData
  F_law_cell_at : Fun K "_law_cell_at" "_law_cell_at" s_law_cell_at a_law_cell_at d_law_cell_at
  g_law_cell_at : mg "_law_cell_at" = some (.ref a_law_cell_at)
  b_law_cell_at : Binds K d_law_cell_at ["_law_script", "_law_k"] []
  a_law_well : Addr
  d_law_well : FuncData
  F_law_well : Fun K "_law_well" "_law_well" s_law_well a_law_well d_law_well
  g_law_well : mg "_law_well" = some (.ref a_law_well)
  b_law_well : Binds K d_law_well ["_law_cell"] []
  a_law_draw : Addr
  d_law_draw : FuncData
  F_law_draw : Fun K "_law_draw" "_law_draw" s_law_draw a_law_draw d_law_draw
  g_law_draw : mg "_law_draw" = some (.ref a_law_draw)
  b_law_draw : Binds K d_law_draw ["_law_well_here", "_law_many"] []
  a_law_number : Addr
  d_law_number : FuncData
  F_law_number : Fun K "_law_number" "_law_number" s_law_number a_law_number d_law_number
  g_law_number : mg "_law_number" = some (.ref a_law_number)
  b_law_number : Binds K d_law_number ["_law_well_here", "_law_way"] []
  a_law_start : Addr
  d_law_start : FuncData
  F_law_start : Fun K "_law_start" "_law_start" s_law_start a_law_start d_law_start
  g_law_start : mg "_law_start" = some (.ref a_law_start)
  b_law_start : Binds K d_law_start ["_law_well_here", "_law_way"] []
  a_law_ends : Addr
  d_law_ends : FuncData
  F_law_ends : Fun K "_law_ends" "_law_ends" s_law_ends a_law_ends d_law_ends
  g_law_ends : mg "_law_ends" = some (.ref a_law_ends)
  b_law_ends : Binds K d_law_ends ["_law_well_here", "_law_most"] []
  a_law_want : Addr
  d_law_want : FuncData
  F_law_want : Fun K "_law_want" "_law_want" s_law_want a_law_want d_law_want
  g_law_want : mg "_law_want" = some (.ref a_law_want)
  b_law_want : Binds K d_law_want ["_law_ends_here", "_law_one", "_law_other"] []
  a_law_least_want : Addr
  d_law_least_want : FuncData
  F_law_least_want : Fun K "_law_least_want" "_law_least_want" s_law_least_want a_law_least_want d_law_least_want
  g_law_least_want : mg "_law_least_want" = some (.ref a_law_least_want)
  b_law_least_want : Binds K d_law_least_want ["_law_ends_here", "_law_some_here"] []
  a_law_some : Addr
  d_law_some : FuncData
  F_law_some : Fun K "_law_some" "_law_some" s_law_some a_law_some d_law_some
  g_law_some : mg "_law_some" = some (.ref a_law_some)
  b_law_some : Binds K d_law_some ["_law_well_here", "_law_ends_here"] []
  a_law_layers : Addr
  d_law_layers : FuncData
  F_law_layers : Fun K "_law_layers" "_law_layers" s_law_layers a_law_layers d_law_layers
  g_law_layers : mg "_law_layers" = some (.ref a_law_layers)
  b_law_layers : Binds K d_law_layers ["_law_well_here", "_law_ends_here"] []
  a_law_is_whole : Addr
  d_law_is_whole : FuncData
  F_law_is_whole : Fun K "_law_is_whole" "_law_is_whole" s_law_is_whole a_law_is_whole d_law_is_whole
  g_law_is_whole : mg "_law_is_whole" = some (.ref a_law_is_whole)
  b_law_is_whole : Binds K d_law_is_whole ["_law_thing"] []
  a_law_is_layer : Addr
  d_law_is_layer : FuncData
  F_law_is_layer : Fun K "_law_is_layer" "_law_is_layer" s_law_is_layer a_law_is_layer d_law_is_layer
  g_law_is_layer : mg "_law_is_layer" = some (.ref a_law_is_layer)
  b_law_is_layer : Binds K d_law_is_layer ["_law_ends_here", "_law_ahead", "_law_row"] []
  a_law_due : Addr
  d_law_due : FuncData
  F_law_due : Fun K "_law_due" "_law_due" s_law_due a_law_due d_law_due
  g_law_due : mg "_law_due" = some (.ref a_law_due)
  b_law_due : Binds K d_law_due ["_law_ends_here", "_law_thing"] []
  a_law_told : Addr
  d_law_told : FuncData
  F_law_told : Fun K "_law_told" "_law_told" s_law_told a_law_told d_law_told
  g_law_told : mg "_law_told" = some (.ref a_law_told)
  b_law_told : Binds K d_law_told ["_law_ends_here", "_law_thing", "_law_due_here"] []
  a_law_odd : Addr
  d_law_odd : FuncData
  F_law_odd : Fun K "_law_odd" "_law_odd" s_law_odd a_law_odd d_law_odd
  g_law_odd : mg "_law_odd" = some (.ref a_law_odd)
  b_law_odd : Binds K d_law_odd ["_law_well_here"] []
  a_law_spoilt_some : Addr
  d_law_spoilt_some : FuncData
  F_law_spoilt_some : Fun K "_law_spoilt_some" "_law_spoilt_some" s_law_spoilt_some a_law_spoilt_some d_law_spoilt_some
  g_law_spoilt_some : mg "_law_spoilt_some" = some (.ref a_law_spoilt_some)
  b_law_spoilt_some : Binds K d_law_spoilt_some ["_law_well_here", "_law_some_here", "_law_odd_here"] []
  a_law_spoilt_row : Addr
  d_law_spoilt_row : FuncData
  F_law_spoilt_row : Fun K "_law_spoilt_row" "_law_spoilt_row" s_law_spoilt_row a_law_spoilt_row d_law_spoilt_row
  g_law_spoilt_row : mg "_law_spoilt_row" = some (.ref a_law_spoilt_row)
  b_law_spoilt_row : Binds K d_law_spoilt_row ["_law_well_here", "_law_row", "_law_odd_here"] []
  a_law_spoilt : Addr
  d_law_spoilt : FuncData
  F_law_spoilt : Fun K "_law_spoilt" "_law_spoilt" s_law_spoilt a_law_spoilt d_law_spoilt
  g_law_spoilt : mg "_law_spoilt" = some (.ref a_law_spoilt)
  b_law_spoilt : Binds K d_law_spoilt ["_law_well_here", "_law_rows"] []
  a_law : Addr
  d_law : FuncData
  F_law : Fun K "law" "law" s_law a_law d_law
  g_law : mg "law" = some (.ref a_law)
  b_law : Binds K d_law ["_law_script"] []
  m_abs : mg "abs" = none
  m_all : mg "all" = none
  m_bool : mg "bool" = none
  m_enumerate : mg "enumerate" = none
  m_int : mg "int" = none
  m_isinstance : mg "isinstance" = none
  m_len : mg "len" = none
  m_list : mg "list" = none
  m_max : mg "max" = none
  m_min : mg "min" = none
  m_range : mg "range" = none
  m_repr : mg "repr" = none
  m_set : mg "set" = none
  m_sorted : mg "sorted" = none
  m_tuple : mg "tuple" = none
  sS : ∃ m, base.Ns sysModules m
local macro_rules | `(tactic| exists "at") => `(tactic| (with_reducible apply atSet; with_reducible assumption))
local macro_rules | `(tactic| exists "lk") => `(tactic| (with_reducible apply Lk.setW; with_reducible assumption; with_reducible assumption))
local macro_rules | `(tactic| exists "at1") => `(tactic| (with_reducible apply atSet; with_reducible assumption))
local macro_rules | `(tactic| exists "lk1") => `(tactic| (with_reducible apply Lk.setW; with_reducible assumption; with_reducible assumption))
local macro_rules | `(tactic| exists "at2") => `(tactic| (with_reducible apply atSet; with_reducible assumption))
local macro_rules | `(tactic| exists "lk2") => `(tactic| (with_reducible apply Lk.setW; with_reducible assumption; with_reducible assumption))
local macro_rules | `(tactic| exists "at3") => `(tactic| (with_reducible apply atSet; with_reducible assumption))
local macro_rules | `(tactic| exists "lk3") => `(tactic| (with_reducible apply Lk.setW; with_reducible assumption; with_reducible assumption))
local macro_rules | `(tactic| exists "at4") => `(tactic| (with_reducible apply atSet; with_reducible assumption))
local macro_rules | `(tactic| exists "lk4") => `(tactic| (with_reducible apply Lk.setW; with_reducible assumption; with_reducible assumption))
local macro_rules | `(tactic| exists "at5") => `(tactic| (with_reducible apply atSet; with_reducible assumption))
local macro_rules | `(tactic| exists "lk5") => `(tactic| (with_reducible apply Lk.setW; with_reducible assumption; with_reducible assumption))
local macro_rules | `(tactic| exists "at6") => `(tactic| (with_reducible apply atSet; with_reducible assumption))
local macro_rules | `(tactic| exists "lk6") => `(tactic| (with_reducible apply Lk.setW; with_reducible assumption; with_reducible assumption))
local macro_rules | `(tactic| exists "at7") => `(tactic| (with_reducible apply atSet; with_reducible assumption))
local macro_rules | `(tactic| exists "lk7") => `(tactic| (with_reducible apply Lk.setW; with_reducible assumption; with_reducible assumption))
local macro_rules | `(tactic| exists "at8") => `(tactic| (with_reducible apply atSet; with_reducible assumption))
local macro_rules | `(tactic| exists "lk8") => `(tactic| (with_reducible apply Lk.setW; with_reducible assumption; with_reducible assumption))
local macro_rules | `(tactic| exists "at9") => `(tactic| (with_reducible apply atSet; with_reducible assumption))
local macro_rules | `(tactic| exists "lk9") => `(tactic| (with_reducible apply Lk.setW; with_reducible assumption; with_reducible assumption))
local macro_rules | `(tactic| exists "at10") => `(tactic| (with_reducible apply atSet; with_reducible assumption))
local macro_rules | `(tactic| exists "lk10") => `(tactic| (with_reducible apply Lk.setW; with_reducible assumption; with_reducible assumption))
local macro_rules | `(tactic| exists "at11") => `(tactic| (with_reducible apply atSet; with_reducible assumption))
local macro_rules | `(tactic| exists "lk11") => `(tactic| (with_reducible apply Lk.setW; with_reducible assumption; with_reducible assumption))
local macro_rules | `(tactic| exists "at12") => `(tactic| (with_reducible apply atSet; with_reducible assumption))
local macro_rules | `(tactic| exists "lk12") => `(tactic| (with_reducible apply Lk.setW; with_reducible assumption; with_reducible assumption))
local macro_rules | `(tactic| exists "wk") => `(tactic| repeat (first | with_reducible exact Weak.refl | with_reducible apply weak_keep | ((with_reducible refine' weak_wlh ?h ?hw); (case h => omega)) | with_reducible apply weak_skip | with_reducible apply weak_appS | ((with_reducible refine' weak_set ?hm ?h); (case hm => with_reducible assumption); (case h => omega)) | ((with_reducible refine' weak_at ?hm ?h); (case hm => with_reducible assumption); (case h => omega))))
section
variable {Pg : Program} {w : World} {K : PySem.W.Frag} {mg : Str → Option Value} {base : Heap}
abbrev S_steps : SpD := fun ds μ P => ∃ u v a b : Int, ds = [.tup [.int u, .int v], .tup [.int a, .int b]] ∧ P (.int (di u a + di v b)) μ
theorem sp_steps {u v a b : Int} {μ : Mu} {P : D → Mu → Prop} (q : P (.int (di u a + di v b)) μ) : S_steps [.tup [.int u, .int v], .tup [.int a, .int b]] μ P := ⟨u, v, a, b, rfl, q⟩

local macro_rules | `(tactic| exists "gx") => `(tactic| first
  | (with_reducible refine sp_steps ?_))
local macro_rules | `(tactic| exists "sd") => `(tactic| exact sd_steps _ _)
set_option maxHeartbeats 4000000 in
theorem ok_steps (X : T K mg base) : FnG Pg w K mg base 1 X.a_steps X.d_steps ["one", "other"] (spOf K 2 S_steps) := by
  refine fn_ok4G X.F_steps sc_steps rfl (fun cdv A outer s H E hr hg => ⟨_, (pss_one (ps_ret (pe_op (k_add (K := K) rfl) (pe_callB call_abs (by rfl) X.m_abs (by decide +kernel) (pa_cons (pe_op op_sub (pe_ix (k_ix (K := K) rfl) (pv 0) pe_int (fun _ _ => rfl)) (pe_ix (k_ix (K := K) rfl) (pv 1) pe_int (fun _ _ => rfl))) pa_nil)) (pe_callB call_abs (by rfl) X.m_abs (by decide +kernel) (pa_cons (pe_op op_sub (pe_ix (k_ix (K := K) rfl) (pv 0) pe_int (fun _ _ => rfl)) (pe_ix (k_ix (K := K) rfl) (pv 1) pe_int (fun _ _ => rfl))) pa_nil))))), ?_⟩)
  intro ds μ P hl h
  obtain ⟨u, v, a, b, rfl, q⟩ := h
  (exists "go")
  exact ⟨_, Weak.refl, q⟩
  
abbrev S_wanted : SpD := fun ds μ P => ∃ (es : List En) (i j : Nat), ds = [.tup (es.map eD), jD i, jD j] ∧ i < es.length ∧ j < es.length ∧ P (.int (wP es i j)) μ
theorem sp_wanted {es : List En} {i j : Nat} {μ : Mu} {P : D → Mu → Prop} (h1 : i < es.length) (h2 : j < es.length) (q : P (.int (wP es i j)) μ) : S_wanted [.tup (es.map eD), jD i, jD j] μ P := ⟨es, i, j, rfl, h1, h2, q⟩

local macro_rules | `(tactic| exists "gx") => `(tactic| first
  | (((with_reducible refine' sp_wanted ?h1 ?h2 ?_); (case h1 => omega); (case h2 => omega))))
local macro_rules | `(tactic| exists "sd") => `(tactic| exact sd_wanted _ _ _)
set_option maxHeartbeats 4000000 in
theorem ok_wanted (X : T K mg base) : FnG Pg w K mg base 2 X.a_wanted X.d_wanted ["ends", "one", "other"] (spOf K 3 S_wanted) := by
  refine fn_ok4G X.F_wanted sc_wanted rfl (fun cdv A outer s H E hr hg => ⟨_, (pss_cons (ps_set (i := 3) sc_wanted.nd rfl (Or.inl rfl) (pe_ix (k_ix (K := K) rfl) (pv 0) (pv 1) (fun _ _ => rfl)))
  (pss_cons (ps_set (i := 4) sc_wanted.nd rfl (Or.inl rfl) (pe_ix (k_ix (K := K) rfl) (pv 0) (pv 2) (fun _ _ => rfl)))
  (pss_one (ps_ret (pe_op (k_add (K := K) rfl) (pe_op (k_add (K := K) rfl) (pe_ix (k_ix (K := K) rfl) (pv 3) pe_int (fun _ _ => rfl)) (pe_ix (k_ix (K := K) rfl) (pv 4) pe_int (fun _ _ => rfl))) (pe_callG (ok_steps X) (hr.mono (by decide)) hg (by rfl) X.g_steps X.F_steps.kp X.b_steps .nil pass0 (pa_cons (pe_slice (k_sl (K := K) rfl) (pv 3) po_none (po_some pe_int)) (pa_cons (pe_slice (k_sl (K := K) rfl) (pv 4) po_none (po_some pe_int)) pa_nil)))))))), ?_⟩)
  intro ds μ P hl h
  obtain ⟨es, i, j, rfl, hi, hj, q⟩ := h
  have gi := eAt_get hi
  have gj := eAt_get hj
  (exists "go")
  exact ⟨_, Weak.refl, q⟩
abbrev S_is_whole : SpD := fun ds μ P => ∃ x : D, ds = [x] ∧ x.thg = true ∧ P (.bl (whD x)) μ
theorem sp_is_whole {x : D} {μ : Mu} {P : D → Mu → Prop} (h : x.thg = true) (q : P (.bl (whD x)) μ) : S_is_whole [x] μ P := ⟨x, rfl, h, q⟩

local macro_rules | `(tactic| exists "gx") => `(tactic| first
  | (((with_reducible refine' sp_is_whole ?h ?_); (case h => first | with_reducible assumption | rfl))))
local macro_rules | `(tactic| exists "sd") => `(tactic| exact sd_is_whole _)
set_option maxHeartbeats 4000000 in
theorem ok_is_whole (X : T K mg base) : FnG Pg w K mg base 1 X.a_is_whole X.d_is_whole ["thing"] (spOf K 1 S_is_whole) := by
  refine fn_ok4G X.F_is_whole sc_is_whole rfl (fun cdv A outer s H E hr hg => ⟨_, (pss_one (ps_ret (pe_and (pe_callB (k_isi (K := K) rfl) (by rfl) X.m_isinstance (by decide +kernel) (pa_cons (pv 0) (pa_cons (pe_bltn (v := .ty "int") (by rfl) X.m_int (by decide +kernel) rfl) pa_nil))) (pe_and (pe_not (pe_callB (k_isi (K := K) rfl) (by rfl) X.m_isinstance (by decide +kernel) (pa_cons (pv 0) (pa_cons (pe_bltn (v := .ty "bool") (by rfl) X.m_bool (by decide +kernel) rfl) pa_nil)))) (pe_one (pe_cmpR op_ge (pv 0) pe_int (nomark _))))))), ?_⟩)
  intro ds μ P hl h
  obtain ⟨x, rfl, h, q⟩ := h
  cases x with
  | ref a => cases h
  | ty n => cases h
  | scr ns => cases h
  | _ =>
    (exists "go")
    exact ⟨_, Weak.refl, q⟩
abbrev S_are_some : SpD := fun ds μ P => ∃ (m : Nat) (x : D), ds = [.int (m : Nat), x] ∧ x.thg = true ∧ (∀ xs, x = .tup xs → xs.length ≤ 100) ∧ m ≤ 24 ∧ P (.bl (someD m x)) μ
theorem sp_are_some {m : Nat} {x : D} {μ : Mu} {P : D → Mu → Prop} (h1 : x.thg = true) (h3 : ∀ xs, x = .tup xs → xs.length ≤ 100) (h2 : m ≤ 24) (q : P (.bl (someD m x)) μ) : S_are_some [.int (m : Nat), x] μ P := ⟨m, x, rfl, h1, h3, h2, q⟩

local macro_rules | `(tactic| exists "gx") => `(tactic| first
  | (((with_reducible refine' sp_are_some ?h1 ?h3 ?h2 ?_); (case h1 => with_reducible assumption); (case h3 => with_reducible assumption); (case h2 => omega))))
local macro_rules | `(tactic| exists "sd") => `(tactic| exact sd_are_some _ _)
set_option maxHeartbeats 4000000 in
theorem ok_are_some (X : T K mg base) : FnG Pg w K mg base 2 X.a_are_some X.d_are_some ["many", "thing"] (spOf K 2 S_are_some) := by
  refine fn_ok4G X.F_are_some sc_are_some rfl (fun cdv A outer s H E hr hg => ⟨_, (pss_cons (ps_if (PW.pt (pw_or (pt_not (pt_val (pe_callB (k_isi (K := K) rfl) (by rfl) X.m_isinstance (by decide +kernel) (pa_cons (pv 1) (pa_cons (pe_bltn (v := .ty "tuple") (by rfl) X.m_tuple (by decide +kernel) rfl) pa_nil))))) (pw_or1 (pt_cmpR op_lt (pe_callB (k_len (K := K) rfl) (by rfl) X.m_len (by decide +kernel) (pa_cons (pv 1) pa_nil)) pe_int (nomark _))))) (pss_one (ps_ret pe_bl)) pss_nil)
  (pss_cons (ps_if (pt_not (pt_val (pe_callB (k_all (K := K) rfl rfl) (by rfl) X.m_all (by decide +kernel) (pa_cons (pe_lc (own := [("one", 2)]) (g := gName 2) (tt := tYes) rfl sc_are_some.nd (WkE.k_iU (K := K) rfl (pv 1)) (blkOk_by (N := N_are_some) (sc := defScope s_are_some) (by decide +kernel)) (fun _ _ _ _ _ => (pg_name (i := 2) sc_are_some.nd rfl (.inl rfl))) (fun _ _ _ _ _ => pts_nil) (fun _ _ _ _ _ => (pe_and (pe_callG (ok_is_whole X) (hr.mono (by decide)) hg (by rfl) X.g_is_whole X.F_is_whole.kp X.b_is_whole .nil pass0 (pa_cons (pv 2) pa_nil)) (pe_one (pe_cmpR op_lt (pv 2) (pv 0) (nomark _)))))) pa_nil)))) (pss_one (ps_ret pe_bl)) pss_nil)
  (pss_one (ps_ret (pe_callB (k_all (K := K) rfl rfl) (by rfl) X.m_all (by decide +kernel) (pa_cons (pe_lc (own := [("k", 3)]) (g := gName 3) (tt := tYes) rfl sc_are_some.nd (pi_range1 (by rfl) X.m_range (pa_cons (pe_op op_sub (pe_callB (k_len (K := K) rfl) (by rfl) X.m_len (by decide +kernel) (pa_cons (pv 1) pa_nil)) pe_int) pa_nil)) (blkOk_by (N := N_are_some) (sc := defScope s_are_some) (by decide +kernel)) (fun _ _ _ _ _ => (pg_name (i := 3) sc_are_some.nd rfl (.inl rfl))) (fun _ _ _ _ _ => pts_nil) (fun _ _ _ _ _ => (pe_cmpR op_lt (pe_ix (k_ix (K := K) rfl) (pv 1) (pv 3) (fun _ _ => rfl)) (pe_ix (k_ix (K := K) rfl) (pv 1) (pe_op (k_add (K := K) rfl) (pv 3) pe_int) (fun _ _ => rfl)) (nomark _)))) pa_nil)))))), ?_⟩)
  intro ds μ P hl h
  obtain ⟨m, x, rfl, h1, h3, h2, q⟩ := h
  cases x with
  | tup xs =>
    have h5 := thg_tup.mp h1
    have hxl := h3 xs rfl
    (exists "go")
    refine split_d (fun hc => ?_) (fun hc => ?_)
    · rw [someD_f (fun ⟨S, e, hS⟩ => by
        cases e
        have := hS.two
        rw [List.length_map] at hc
        omega)] at q
      (exists "go")
      exact ⟨_, Weak.refl, q⟩
    (exists "go")
    refine lcMd (r := fun z => D.bl (endB m z)) (lt_size (by omega)) (by (exists "hG")) (fun z hz p1 acc => ?_) (fun p1 => ?_)
    · have hz2 := h5 z hz
      cases z with
      | int i =>
        (exists "go")
        cases hw : whD (D.int i) with
        | true =>
          have h0 : 0 ≤ i := of_decide_eq_true (show decide (0 ≤ i) = true from hw)
          (exists "go")
          exact ⟨congrArg D.bl (decide_eq_decide.mpr ⟨fun h => ⟨h0, h⟩, fun h => h.2⟩), by (exists "wk")⟩
        | false =>
          have h0 : ¬ 0 ≤ i := of_decide_eq_false (show decide (0 ≤ i) = false from hw)
          (exists "go")
          exact ⟨congrArg D.bl (show false = decide (0 ≤ i ∧ i < (m : Int)) from (decide_eq_false (fun h => h0 h.1)).symm), by (exists "wk")⟩
      | ref a => cases hz2
      | ty n => cases hz2
      | scr ns => cases hz2
      | _ =>
        (exists "go")
        (exists "ff")
        (exists "go")
        (exists "rw")
    rw [show xs.map (fun z => D.bl (endB m z)) = (xs.map fun z => endB m z).map D.bl from by rw [List.map_map]; rfl]
    cases hall : (xs.map fun z => endB m z).all (fun x => x) with
    | false =>
      rw [someD_f (fun ⟨S, e, hS⟩ => by
        cases e
        rw [List.all_eq_true.mpr fun b hb => by
          obtain ⟨z, hz, rfl⟩ := List.mem_map.mp hb
          obtain ⟨n, hn, rfl⟩ := List.mem_map.mp hz
          exact endB_jD (hS.low n hn)] at hall
        cases hall)] at q
      (exists "go")
      rw [hall]
      (exists "go")
      exact ⟨_, (by (exists "wk")), q⟩
    | true =>
      obtain ⟨S, rfl, hS⟩ := endB_all (m := m) (xs := xs) fun z hz => List.all_eq_true.mp hall _ (List.mem_map.mpr ⟨z, hz, rfl⟩)
      rw [List.length_map] at hc hxl
      (exists "go")
      rw [hall]
      (exists "go")
      rw [show ((S.length : Int) - 1).toNat = S.length - 1 by omega]
      refine lc0 (lcM (r := fun k => D.bl (decide (S.getD k 0 < S.getD (k + 1) 0))) (lt_size (by rw [List.length_range]; omega)) (by (exists "hG")) (fun k hk p1 acc => ?_) (fun p2 => ?_))
      · have hk := List.mem_range.mp hk
        have g1 : S[k]? = some (S.getD k 0) := by rw [List.getD_eq_getElem?_getD, List.getElem?_eq_getElem (by omega)]; rfl
        have g2 : S[k + 1]? = some (S.getD (k + 1) 0) := by rw [List.getD_eq_getElem?_getD, List.getElem?_eq_getElem (by omega)]; rfl
        generalize S.getD k 0 = u at *
        generalize S.getD (k + 1) 0 = v at *
        (exists "go")
        exact ⟨congrArg D.bl (decide_eq_decide.mpr (by omega)), by (exists "wk")⟩
      rw [show (List.range (S.length - 1)).map (fun k => D.bl (decide (S.getD k 0 < S.getD (k + 1) 0))) = ((List.range (S.length - 1)).map fun k => decide (S.getD k 0 < S.getD (k + 1) 0)).map D.bl from by rw [List.map_map]; rfl]
      have e9 : ((List.range (S.length - 1)).map fun k => decide (S.getD k 0 < S.getD (k + 1) 0)).all (fun x => x) = someD m (.tup (S.map jD)) := by
        rw [Bool.eq_iff_iff, List.all_eq_true]
        constructor
        · intro h
          exact someD_t ⟨by omega, rise_adj.mpr fun k hk => of_decide_eq_true (h _ (List.mem_map.mpr ⟨k, List.mem_range.mpr (by omega), rfl⟩)), hS⟩
        · intro h b hb
          obtain ⟨k, hk, rfl⟩ := List.mem_map.mp hb
          have hk := List.mem_range.mp hk
          exact decide_eq_true (rise_adj.mp (someD_S h).rise k (by omega))
      rw [← e9] at q
      (exists "go")
      exact ⟨_, (by (exists "wk")), q⟩
  | ref a => cases h1
  | ty n => cases h1
  | scr ns => cases h1
  | _ =>
    replace q := someD_no (P := P) (μ := μ) q (fun xs h => nomatch h)
    (exists "go")
    exact ⟨_, Weak.refl, q⟩
abbrev S_stand_apart : SpD := fun ds μ P => ∃ (es : List En) (lo hi : Int) (S : List Nat), ds = [.tup (es.map eD), .int lo, .int hi, .tup (S.map jD)] ∧ SoP es.length S ∧ es.length ≤ 24 ∧ P (.bl (decide (AptP es lo hi S))) μ
theorem sp_stand {es : List En} {lo hi : Int} {S : List Nat} {μ : Mu} {P : D → Mu → Prop} (h1 : SoP es.length S) (h2 : es.length ≤ 24) (q : P (.bl (decide (AptP es lo hi S))) μ) : S_stand_apart [.tup (es.map eD), .int lo, .int hi, .tup (S.map jD)] μ P := ⟨es, lo, hi, S, rfl, h1, h2, q⟩

local macro_rules | `(tactic| exists "gx") => `(tactic| first
  | (((with_reducible refine' sp_stand ?h1 ?h2 ?_); (case h1 => with_reducible assumption); (case h2 => omega))))
local macro_rules | `(tactic| exists "sd") => `(tactic| exact sd_stand_apart _ _ _ _)
set_option maxHeartbeats 4000000 in
theorem ok_stand_apart (X : T K mg base) : FnG Pg w K mg base 3 X.a_stand_apart X.d_stand_apart ["ends", "low", "high", "some"] (spOf K 4 S_stand_apart) := by
  refine fn_ok4G X.F_stand_apart sc_stand_apart rfl (fun cdv A outer s H E hr hg => ⟨_, (pss_cons (ps_for PassesOwn.never rfl (WkE.k_enumU (K := K) rfl (by rfl) X.m_enumerate (pa_cons (pv 3) pa_nil)) (k_gtup (K := K) (n := 2) rfl (by rfl) (pgs_cons (pg_name (i := 4) sc_stand_apart.nd rfl (.inl rfl)) (pgs_cons (pg_name (i := 5) sc_stand_apart.nd rfl (.inl rfl)) pgs_nil))) (pss_cons (ps_if (pt_cmpR op_gt (pe_op op_mul pe_int (pe_ix (k_ix (K := K) rfl) (pe_ix (k_ix (K := K) rfl) (pv 0) (pv 5) (fun _ _ => rfl)) pe_int (fun _ _ => rfl))) (pv 1) (nomark _)) (pss_one (ps_ret pe_bl)) pss_nil)
  (pss_one (ps_for PassesOwn.never rfl (WkE.k_iU (K := K) rfl (pe_slice (k_sl (K := K) rfl) (pv 3) (po_some (pe_op (k_add (K := K) rfl) (pv 4) pe_int)) po_none)) (pg_name (i := 6) sc_stand_apart.nd rfl (.inl rfl)) (pss_one (ps_if (pt_cmpR op_lt (pe_callG (ok_wanted X) (hr.mono (by decide)) hg (by rfl) X.g_wanted X.F_wanted.kp X.b_wanted .nil pass0 (pa_cons (pv 0) (pa_cons (pv 5) (pa_cons (pv 6) pa_nil)))) (pv 2) (nomark _)) (pss_one (ps_ret pe_bl)) pss_nil))))))
  (pss_one (ps_ret pe_bl))), ?_⟩)
  intro ds μ P hl h
  obtain ⟨es, lo, hi, S, rfl, h1, h2, q⟩ := h
  have hSl := h1.len
  (exists "go")
  refine forE (fun pre δ' μ' => ((∀ a ∈ pre, 2 * (eAt es a).s ≤ lo) ∧ ∀ i j a b, i < pre.length → i < j → S[i]? = some a → S[j]? = some b → hi ≤ wP es a b) ∧ δ' = L_stand_apart (v_ends := some (.tup (es.map eD))) (v_low := some (.int lo)) (v_high := some (.int hi)) (v_some := some (.tup (S.map jD))) ∧ μ' = μ) ⟨_, _, (by (exists "le")), Weak.refl, ⟨(fun _ h => nomatch h), (fun _ _ _ _ h => absurd h (Nat.not_lt_zero _))⟩, rfl, rfl⟩ (fun _ _ _ _ => True.intro) ?_ ?_
  · rintro pre x suf δ' ν hx ⟨⟨hA, hB⟩, rfl, rfl⟩
    have g1 : S[pre.length]? = some x := by rw [hx]; simp
    have b1 := h1.low x (List.mem_of_getElem? g1)
    have ge := eAt_get b1
    (exists "go")
    refine split_d (fun hc => ?_) (fun hc => ?_)
    · rw [decide_eq_false (fun hP : AptP es lo hi S => absurd (hP.1 x (List.mem_of_getElem? g1)) (by omega))] at q
      (exists "go")
      exact ⟨_, Weak.refl, q⟩
    (exists "go")
    have hpl : pre.length < S.length := (List.getElem?_eq_some_iff.mp g1).1
    rw [show ((pre.length : Int) + 1).toNat = pre.length + 1 by omega]
    refine forMm (fun pre2 δ' μ' => (∀ j b, pre.length < j → j < pre.length + 1 + pre2.length → S[j]? = some b → hi ≤ wP es x b) ∧ δ' = L_stand_apart (v_ends := some (.tup (es.map eD))) (v_low := some (.int lo)) (v_high := some (.int hi)) (v_some := some (.tup (S.map jD))) (v_at := some (jD pre.length)) (v_one := some (jD x)) ∧ μ' = ν) ⟨_, _, (by (exists "le")), Weak.refl, (fun j b k1 k2 => absurd k2 (by simp only [List.length_nil]; omega)), rfl, rfl⟩ (fun _ _ _ _ => True.intro) ?_ ?_
    · rintro pre2 y suf2 δ' ν2 hy ⟨hN, rfl, rfl⟩
      have g2 : S[pre.length + 1 + pre2.length]? = some y := by
        rw [← List.getElem?_drop, hy]; simp
      have b2 := h1.low y (List.mem_of_getElem? g2)
      (exists "go")
      refine split_d (fun hc2 => ?_) (fun hc2 => ?_)
      · rw [decide_eq_false (fun hP : AptP es lo hi S => by
          obtain ⟨l1, e1⟩ := List.getElem?_eq_some_iff.mp g1
          obtain ⟨l2, e2⟩ := List.getElem?_eq_some_iff.mp g2
          have := List.pairwise_iff_getElem.mp hP.2 _ _ l1 l2 (by omega)
          rw [e1, e2] at this
          omega)] at q
        (exists "go")
        exact ⟨_, Weak.refl, q⟩
      · (exists "go")
        refine ⟨_, _, (by (exists "le")), Weak.refl, fun j b k1 k2 k3 => ?_, rfl, rfl⟩
        rw [List.length_append, List.length_singleton] at k2
        by_cases c : j = pre.length + 1 + pre2.length
        · subst c
          rw [g2] at k3
          cases k3
          omega
        · exact hN j b k1 (by omega) k3
    · rintro δ' ν2 ⟨hN, rfl, rfl⟩
      refine ⟨_, _, (by (exists "le")), Weak.refl, ⟨fun a ha => ?_, fun i j a b k1 k2 k3 k4 => ?_⟩, rfl, rfl⟩
      · rcases List.mem_append.mp ha with ha | ha
        · exact hA a ha
        · rw [List.mem_singleton.mp ha]; omega
      · rw [List.length_append, List.length_singleton] at k1
        by_cases c : i = pre.length
        · subst c
          rw [g1] at k3
          cases k3
          have := (List.getElem?_eq_some_iff.mp k4).1
          exact hN j b k2 (by rw [List.length_drop]; omega) k4
        · exact hB i j a b (by omega) k2 k3 k4
  rintro δ' ν ⟨⟨hA, hB⟩, rfl, rfl⟩
  have hP : AptP es lo hi S := ⟨hA, List.pairwise_iff_getElem.mpr fun i j k1 k2 k3 => hB i j _ _ k1 k3 (List.getElem?_eq_getElem k1) (List.getElem?_eq_getElem k2)⟩
  rw [decide_eq_true hP] at q
  (exists "go")
  exact ⟨_, Weak.refl, q⟩
abbrev S_is_layer : SpD := fun ds μ P => ∃ (es : List En) (ah : Int) (x : D), ds = [.tup (es.map eD), .int ah, x] ∧ x.thg = true ∧ (∀ xs, x = .tup xs → ∀ y ∈ xs, ∀ ys, y = .tup ys → ys.length ≤ 100) ∧ es.length ≤ 24 ∧ P (.bl (laB es ah x)) μ
theorem sp_is_layer {es : List En} {ah : Int} {x : D} {μ : Mu} {P : D → Mu → Prop} (h1 : x.thg = true) (h3 : ∀ xs, x = .tup xs → ∀ y ∈ xs, ∀ ys, y = .tup ys → ys.length ≤ 100) (h2 : es.length ≤ 24) (q : P (.bl (laB es ah x)) μ) : S_is_layer [.tup (es.map eD), .int ah, x] μ P := ⟨es, ah, x, rfl, h1, h3, h2, q⟩

local macro_rules | `(tactic| exists "gx") => `(tactic| first
  | (((with_reducible refine' sp_is_layer ?h1 ?h3 ?h2 ?_); (case h1 => with_reducible assumption); (case h3 => with_reducible assumption); (case h2 => omega))))
local macro_rules | `(tactic| exists "sd") => `(tactic| exact sd_is_layer _ _ _)
set_option maxHeartbeats 4000000 in
theorem ok_is_layer (X : T K mg base) : FnG Pg w K mg base 4 X.a_is_layer X.d_is_layer ["ends", "ahead", "thing"] (spOf K 3 S_is_layer) := by
  refine fn_ok4G X.F_is_layer sc_is_layer rfl (fun cdv A outer s H E hr hg => ⟨_, (pss_cons (ps_if (PW.pt (pw_or (pt_not (pt_val (pe_callB (k_isi (K := K) rfl) (by rfl) X.m_isinstance (by decide +kernel) (pa_cons (pv 2) (pa_cons (pe_bltn (v := .ty "tuple") (by rfl) X.m_tuple (by decide +kernel) rfl) pa_nil))))) (pw_or1 (pt_cmpR (WkE.op_neU (K := K) rfl hr.units) (pe_callB (k_len (K := K) rfl) (by rfl) X.m_len (by decide +kernel) (pa_cons (pv 2) pa_nil)) pe_int (nomark _))))) (pss_one (ps_ret pe_bl)) pss_nil)
  (pss_cons (ps_asg (pv 2) (k_gtup (K := K) (n := 3) rfl (by rfl) (pgs_cons (pg_name (i := 3) sc_is_layer.nd rfl (.inl rfl)) (pgs_cons (pg_name (i := 4) sc_is_layer.nd rfl (.inl rfl)) (pgs_cons (pg_name (i := 5) sc_is_layer.nd rfl (.inl rfl)) pgs_nil)))))
  (pss_cons (ps_if (PW.pt (pw_or (pt_not (pt_val (pe_callG (ok_is_whole X) (hr.mono (by decide)) hg (by rfl) X.g_is_whole X.F_is_whole.kp X.b_is_whole .nil pass0 (pa_cons (pv 3) pa_nil)))) (pw_or (pt_not (pt_val (pe_callG (ok_is_whole X) (hr.mono (by decide)) hg (by rfl) X.g_is_whole X.F_is_whole.kp X.b_is_whole .nil pass0 (pa_cons (pv 4) pa_nil)))) (pw_or (pt_not (pt_chain op_le op_lt (pv 1) (pv 3) (pv 4))) (pw_or1 (pt_not (pt_val (pe_callG (ok_are_some X) (hr.mono (by decide)) hg (by rfl) X.g_are_some X.F_are_some.kp X.b_are_some .nil pass0 (pa_cons (pe_callB (k_len (K := K) rfl) (by rfl) X.m_len (by decide +kernel) (pa_cons (pv 0) pa_nil)) (pa_cons (pv 5) pa_nil)))))))))) (pss_one (ps_ret pe_bl)) pss_nil)
  (pss_one (ps_ret (pe_callG (ok_stand_apart X) (hr.mono (by decide)) hg (by rfl) X.g_stand_apart X.F_stand_apart.kp X.b_stand_apart .nil pass0 (pa_cons (pv 0) (pa_cons (pv 3) (pa_cons (pv 4) (pa_cons (pv 5) pa_nil)))))))))), ?_⟩)
  intro ds μ P hl h
  obtain ⟨es, ah, x, rfl, h1, h3, h2, q⟩ := h
  have nol : (¬ LaD es ah x) → P (.bl false) μ := fun h => by rw [laB_f h] at q; exact q
  cases x with
  | tup xs =>
    have h5 := thg_tup.mp h1
    have h4 := h3 xs rfl
    (exists "go")
    refine split_n (split_d (fun hc => ?_) (fun hc => ?_))
    · have hc2 : xs.length = 3 := by omega
      obtain ⟨a, b, c, rfl⟩ : ∃ a b c, xs = [a, b, c] := by
        match xs, hc2 with
        | [a, b, c], _ => exact ⟨a, b, c, rfl⟩
      have ha := h5 a (by simp)
      have hb := h5 b (by simp)
      have hcc := h5 c (by simp)
      have h4c := h4 c (by simp)
      (exists "go")
      cases hw1 : whD a with
      | false =>
        have q9 := nol (fun ⟨r, e, _, hL⟩ => by
          simp only [laD, D.tup.injEq, List.cons.injEq, and_true] at e
          rw [e.1, show whD (D.int r.lo) = true from decide_eq_true hL.1.1] at hw1
          cases hw1)
        (exists "go")
        exact ⟨_, Weak.refl, q9⟩
      | true =>
      obtain ⟨lo, rfl⟩ := whD_ex hw1
      (exists "go")
      cases hw2 : whD b with
      | false =>
        have q9 := nol (fun ⟨r, e, _, hL⟩ => by
          simp only [laD, D.tup.injEq, List.cons.injEq, and_true] at e
          rw [e.2.1, show whD (D.int r.hi) = true from decide_eq_true hL.1.2.1] at hw2
          cases hw2)
        (exists "go")
        exact ⟨_, Weak.refl, q9⟩
      | true =>
      obtain ⟨hi, rfl⟩ := whD_ex hw2
      have bad : ¬ (ah ≤ (lo : Int) ∧ (lo : Int) < (hi : Int)) → P (.bl false) μ := fun hn => nol (fun ⟨r, e, _, hL⟩ => by
        simp only [laD, D.tup.injEq, List.cons.injEq, D.int.injEq, and_true] at e
        exact hn ⟨by rw [e.1]; exact hL.1.2.2.1, by rw [e.1, e.2.1]; exact hL.1.2.2.2⟩)
      (exists "go")
      refine split_d (fun k3 => ?_) (fun k3 => ?_)
      · (exists "go")
        refine split_n (split_d (fun k4 => ?_) (fun k4 => ?_))
        · (exists "go")
          cases hs : someD es.length c with
          | false =>
            have q9 := nol (fun ⟨r, e, hS, _⟩ => by
              simp only [laD, D.tup.injEq, List.cons.injEq, and_true] at e
              rw [e.2.2, someD_t hS] at hs
              cases hs)
            (exists "go")
            exact ⟨_, Weak.refl, q9⟩
          | true =>
            obtain ⟨S, rfl, hS⟩ := someD_ex hs
            have e9 : laB es ah (.tup [jD lo, jD hi, .tup (S.map jD)]) = decide (AptP es lo hi S) := by
              rw [show D.tup [jD lo, jD hi, .tup (S.map jD)] = laD ⟨lo, hi, S⟩ from rfl, laB_r hS]
              exact decide_eq_decide.mpr ⟨fun h => h.2, fun h => ⟨⟨by show 0 ≤ (lo : Int); omega, by show 0 ≤ (hi : Int); omega, k3, k4⟩, h⟩⟩
            rw [e9] at q
            (exists "go")
            exact ⟨_, Weak.refl, q⟩
        · have q9 := bad (fun h => k4 h.2)
          (exists "go")
          exact ⟨_, Weak.refl, q9⟩
      · have q9 := bad (fun h => k3 h.1)
        (exists "go")
        exact ⟨_, Weak.refl, q9⟩
    · have q9 := nol (fun ⟨r, e, _⟩ => by cases e; exact hc rfl)
      (exists "go")
      exact ⟨_, Weak.refl, q9⟩
  | ref a => cases h1
  | ty n => cases h1
  | scr ns => cases h1
  | _ =>
    have q9 := nol (fun ⟨r, e, _⟩ => nomatch e)
    (exists "go")
    exact ⟨_, Weak.refl, q9⟩
abbrev S_layers_shown : SpD := fun ds μ P => ∃ (es : List En) (x : D), ds = [.tup (es.map eD), x] ∧ PpB x ∧ es.length ≤ 24 ∧ P (shT es x) μ
theorem sp_shown {es : List En} {x : D} {μ : Mu} {P : D → Mu → Prop} (h1 : PpB x) (h2 : es.length ≤ 24) (q : P (shT es x) μ) : S_layers_shown [.tup (es.map eD), x] μ P := ⟨es, x, rfl, h1, h2, q⟩

local macro_rules | `(tactic| exists "gx") => `(tactic| first
  | (((with_reducible refine' sp_shown ?h1 ?h2 ?_); (case h1 => with_reducible assumption); (case h2 => omega))))
local macro_rules | `(tactic| exists "sd") => `(tactic| exact sd_layers_shown _ _)
set_option maxHeartbeats 4000000 in
theorem ok_layers_shown (X : T K mg base) : FnG Pg w K mg base 5 X.a_layers_shown X.d_layers_shown ["ends", "thing"] (spOf K 2 S_layers_shown) := by
  refine fn_ok4G X.F_layers_shown sc_layers_shown rfl (fun cdv A outer s H E hr hg => ⟨_, (pss_cons (ps_if (pt_not (pt_val (pe_callB (k_isi (K := K) rfl) (by rfl) X.m_isinstance (by decide +kernel) (pa_cons (pv 1) (pa_cons (pe_bltn (v := .ty "tuple") (by rfl) X.m_tuple (by decide +kernel) rfl) pa_nil))))) (pss_one (ps_ret pe_non)) pss_nil)
  (pss_cons (ps_set (i := 2) sc_layers_shown.nd rfl (Or.inl rfl) pe_int)
  (pss_cons (ps_set (i := 3) sc_layers_shown.nd rfl (Or.inl rfl) pe_int)
  (pss_cons (ps_for PassesOwn.never rfl (WkE.k_iU (K := K) rfl (pv 1)) (pg_name (i := 4) sc_layers_shown.nd rfl (.inl rfl)) (pss_cons (ps_if (pt_not (pt_val (pe_callG (ok_is_layer X) (hr.mono (by decide)) hg (by rfl) X.g_is_layer X.F_is_layer.kp X.b_is_layer .nil pass0 (pa_cons (pv 0) (pa_cons (pv 2) (pa_cons (pv 4) pa_nil)))))) (pss_one (ps_ret pe_non)) pss_nil)
  (pss_cons (ps_set (i := 2) sc_layers_shown.nd rfl (Or.inl rfl) (pe_ix (k_ix (K := K) rfl) (pv 4) pe_int (fun _ _ => rfl)))
  (pss_one (ps_aug (i := 3) sc_layers_shown.nd rfl (Or.inl rfl) (pe_op op_mul (pe_op op_sub (pe_ix (k_ix (K := K) rfl) (pv 4) pe_int (fun _ _ => rfl)) (pe_ix (k_ix (K := K) rfl) (pv 4) pe_int (fun _ _ => rfl))) (pe_callB (k_len (K := K) rfl) (by rfl) X.m_len (by decide +kernel) (pa_cons (pe_ix (k_ix (K := K) rfl) (pv 4) pe_int (fun _ _ => rfl)) pa_nil))) ip_add)))))
  (pss_one (ps_ret (pv 3))))))), ?_⟩)
  intro ds μ P hl h
  obtain ⟨es, x, rfl, ⟨h1, h3⟩, h2, q⟩ := h
  cases x with
  | tup xs =>
    have h5 := thg_tup.mp h1
    obtain ⟨h6, h7⟩ := h3 xs rfl
    (exists "go")
    refine forD (fun pre δ' μ' => ∃ ah sh : Int, (∀ suf, xs = pre ++ suf → shT es (.tup xs) = shwD es ah sh suf) ∧ δ' = L_layers_shown (v_ends := some (.tup (es.map eD))) (v_thing := some (.tup xs)) (v_ahead := some (.int ah)) (v_shown := some (.int sh)) ∧ μ' = μ) ⟨_, _, (by (exists "le")), Weak.refl, 0, 0, fun suf h => by rw [List.nil_append] at h; subst h; rfl, rfl, rfl⟩ (fun _ _ _ _ => True.intro) ?_ ?_
    · rintro pre x suf δ' ν hx ⟨ah, sh, hA, rfl, rfl⟩
      have hxm : x ∈ xs := by rw [hx]; simp
      have hx1 := h5 x hxm
      have hx2 := h7 x hxm
      have hA2 := hA _ hx
      (exists "go")
      cases hb : laB es ah x with
      | true =>
        obtain ⟨r, rfl, hS, hL⟩ := laB_ex hb
        have hSl := hS.len
        rw [shwD_yes hS hL] at hA2
        (exists "go")
        refine ⟨_, _, (by (exists "le")), Weak.refl, r.hi, sh + (r.hi - r.lo) * (r.so.length : Int), fun suf2 h => ?_, rfl, rfl⟩
        have := hA _ (show xs = pre ++ laD r :: suf2 by rw [h, List.append_assoc]; rfl)
        rw [this, shwD_yes hS hL]
      | false =>
        rw [hA2, shwD_no (fun k => by rw [show laB es ah x = true from decide_eq_true k] at hb; cases hb)] at q
        (exists "go")
        exact ⟨_, Weak.refl, q⟩
    rintro δ' ν ⟨ah, sh, hA, rfl, rfl⟩
    have hA2 := hA [] (List.append_nil _).symm
    (exists "go")
    rw [hA2] at q
    exact ⟨_, Weak.refl, q⟩
  | ref a => cases h1
  | ty n => cases h1
  | scr ns => cases h1
  | _ =>
    replace q := shT_noP (P := P) (μ := μ) q (fun xs h => nomatch h)
    (exists "go")
    exact ⟨_, Weak.refl, q⟩
  
abbrev S_law_cell_at : SpD := fun ds μ P => ∃ (ns : List Int) (k : Nat), ds = [.scr ns, .int (k : Nat)] ∧ ∀ c : Int, P (.int c) μ
theorem sp_cell_at {ns : List Int} {k : Nat} {μ : Mu} {P : D → Mu → Prop} (q : ∀ c : Int, P (.int c) μ) : S_law_cell_at [.scr ns, .int (k : Nat)] μ P := ⟨ns, k, rfl, q⟩

local macro_rules | `(tactic| exists "gx") => `(tactic| first
  | (with_reducible refine' sp_cell_at ?_))
local macro_rules | `(tactic| exists "sd") => `(tactic| exact sd_law_cell_at _ _)
set_option maxHeartbeats 4000000 in
theorem ok_law_cell_at (X : T K mg base) : FnG Pg w K mg base 1 X.a_law_cell_at X.d_law_cell_at ["_law_script", "_law_k"] (spOf K 2 S_law_cell_at) := by
  refine fn_ok4G X.F_law_cell_at sc_law_cell_at rfl (fun cdv A outer s H E hr hg => ⟨_, (pss_cons (ps_if (pt_cmpR op_lt (pv 1) (pe_callB (k_len (K := K) rfl) (by rfl) X.m_len (by decide +kernel) (pa_cons (pv 0) pa_nil)) (nomark _)) (pss_one (ps_ret (pe_ix (k_ix (K := K) rfl) (pv 0) (pv 1) (fun _ _ => rfl)))) pss_nil)
  (pss_one (ps_ret pe_int))), ?_⟩)
  intro ds μ P hl h
  obtain ⟨ns, k, rfl, q⟩ := h
  (exists "go")
  refine split_d (fun hc => ?_) (fun hc => ?_)
  · (exists "go")
    refine w2_ixScr (by omega) fun c => ?_
    exact ⟨_, Weak.refl, q _⟩
  · (exists "go")
    exact ⟨_, Weak.refl, q _⟩
abbrev S_law_well : SpD := fun ds μ P => ∃ c : Int, ds = [.int c] ∧ ∀ p, P (.ref p) ((p, wl 0) :: μ)
theorem sp_well {c : Int} {μ : Mu} {P : D → Mu → Prop} (q : ∀ p, P (.ref p) ((p, wl 0) :: μ)) : S_law_well [.int c] μ P := ⟨c, rfl, q⟩

local macro_rules | `(tactic| exists "gx") => `(tactic| first
  | (with_reducible refine' sp_well ?_))
local macro_rules | `(tactic| exists "sd") => `(tactic| exact sd_law_well _)
set_option maxHeartbeats 4000000 in
theorem ok_law_well (X : T K mg base) : FnG Pg w K mg base 1 X.a_law_well X.d_law_well ["_law_cell"] (spOf K 1 S_law_well) := by
  refine fn_ok4G X.F_law_well sc_law_well rfl (fun cdv A outer s H E hr hg => ⟨_, (pss_one (ps_ret (pe_lst (pa_cons (pe_op op_mul (pe_callTy call_int1 (by rfl) X.m_int (by decide +kernel) (pa_cons (pe_cmpR op_ge (pv 0) (pe_op (op_powK (a := 10) (b := 18) (r := 1000000000000000000) (by decide) (by decide) (by decide +kernel)) pe_int pe_int) (nomark _)) pa_nil)) (pv 0)) (pa_cons (pe_op op_mod (pv 0) pe_int) (pa_cons pe_int pa_nil)))))), ?_⟩)
  intro ds μ P hl h
  obtain ⟨c, rfl, q⟩ := h
  (exists "go")
  exact ⟨_, weak_deckH (I := WelI 0) (ns := [_, _, 0]) rfl ⟨_, _, _, rfl, Int.le_refl _, Int.le_refl _⟩, q _⟩
abbrev S_law_draw : SpD := SpDrawW
local macro_rules | `(tactic| exists "gx") => `(tactic| first
  | (((with_reducible refine' sp_drawW ?hm ?hn ?h1 ?h2 ?h ?_); (case hm => (exists "at")); (case hn => omega); (case h1 => omega); (case h2 => omega); (case h => (exists "nd")))))
local macro_rules | `(tactic| exists "sd") => `(tactic| exact sd_law_draw _ _)
set_option maxHeartbeats 4000000 in
theorem ok_law_draw (X : T K mg base) : FnG Pg w K mg base 1 X.a_law_draw X.d_law_draw ["_law_well_here", "_law_many"] (spOf K 2 S_law_draw) := by
  refine fn_ok4G X.F_law_draw sc_law_draw rfl (fun cdv A outer s H E hr hg => ⟨_, (pss_cons (ps_if (pt_cmpR op_gt (pe_ix (k_ix (K := K) rfl) (pv 0) pe_int (fun _ _ => rfl)) pe_int (nomark _)) (pss_cons (ps_set (i := 2) sc_law_draw.nd rfl (Or.inl rfl) (pe_op op_mod (pe_ix (k_ix (K := K) rfl) (pv 0) pe_int (fun _ _ => rfl)) (pv 1)))
  (pss_cons (ps_asg (pe_op op_fdivW (pe_ix (k_ix (K := K) rfl) (pv 0) pe_int (fun _ _ => rfl)) (pv 1)) (pg_sub (pv 0) pe_int set_list))
  (pss_one (ps_ret (pv 2))))) pss_nil)
  (pss_cons (ps_asg (pe_op (k_add (K := K) rfl) (pe_ix (k_ix (K := K) rfl) (pv 0) pe_int (fun _ _ => rfl)) pe_int) (pg_sub (pv 0) pe_int set_list))
  (pss_cons (ps_set (i := 3) sc_law_draw.nd rfl (Or.inl rfl) (pe_op op_mod (pe_op op_mul (pe_op (k_add (K := K) rfl) (pe_ix (k_ix (K := K) rfl) (pv 0) pe_int (fun _ _ => rfl)) (pe_op op_mul (pe_op op_mul pe_int (pe_ix (k_ix (K := K) rfl) (pv 0) pe_int (fun _ _ => rfl))) (pe_ix (k_ix (K := K) rfl) (pv 0) pe_int (fun _ _ => rfl)))) pe_int) pe_int))
  (pss_cons (ps_set (i := 3) sc_law_draw.nd rfl (Or.inl rfl) (pe_op op_mod (pe_op op_mul (pv 3) (pe_op (k_add (K := K) rfl) (pv 3) pe_int)) pe_int))
  (pss_one (ps_ret (pe_op op_mod (pe_op op_fdivW (pv 3) pe_int) (pv 1)))))))), ?_⟩)
  intro ds μ P hl h
  obtain ⟨d, m, i, n, rfl, hm, hn, h0, h1, q⟩ := h
  refine s_openW hm fun x y z hz hzn => ?_
  (exists "go")
  (exists "br")
  · (exists "go")
    exact ⟨_, weak_closeW hm rfl hz (by omega), q _ (mod_nn h0).1 (mod_nn h0).2⟩
  · (exists "go")
    exact ⟨_, weak_closeW hm rfl (by omega) (by omega), q _ (mod_nn h0).1 (mod_nn h0).2⟩
abbrev S_law_number : SpD := fun ds μ P => ∃ (d : Addr) (w : Int) (i n : Nat), ds = [.ref d, .int w] ∧ μ[i]? = some (d, wl n) ∧ n < 900000 ∧ ∀ x : Int, -1000000 ≤ x → x ≤ 1000000 → P (.int x) (μ.set i (d, wl (n + 1)))
theorem sp_number {d : Addr} {w : Int} {i n : Nat} {μ μ' : Mu} {P : D → Mu → Prop} (hm : μ[i]? = some (d, wl n)) (hn : n < 900000) (h : μ.set i (d, wl (n + 1)) = μ') (q : ∀ x : Int, -1000000 ≤ x → x ≤ 1000000 → P (.int x) μ') : S_law_number [.ref d, .int w] μ P := ⟨d, w, i, n, rfl, hm, hn, by subst h; exact q⟩

local macro_rules | `(tactic| exists "gx") => `(tactic| first
  | (((with_reducible refine' sp_number ?hm ?hn ?h ?_); (case hm => (exists "at")); (case hn => omega); (case h => (exists "nd")))))
local macro_rules | `(tactic| exists "sd") => `(tactic| exact sd_law_number _ _)
set_option maxHeartbeats 4000000 in
theorem ok_law_number (X : T K mg base) : FnG Pg w K mg base 2 X.a_law_number X.d_law_number ["_law_well_here", "_law_way"] (spOf K 2 S_law_number) := by
  refine fn_ok4G X.F_law_number sc_law_number rfl (fun cdv A outer s H E hr hg => ⟨_, (pss_cons (ps_if (pt_cmpR (WkE.op_eqU (K := K) rfl hr.units) (pv 1) pe_int (nomark _)) (pss_one (ps_ret (pe_callG (ok_law_draw X) (hr.mono (by decide)) hg (by rfl) X.g_law_draw X.F_law_draw.kp X.b_law_draw .nil pass0 (pa_cons (pv 0) (pa_cons pe_int pa_nil))))) pss_nil)
  (pss_cons (ps_if (pt_cmpR (WkE.op_eqU (K := K) rfl hr.units) (pv 1) pe_int (nomark _)) (pss_one (ps_ret (pe_ix (k_ix (K := K) rfl) (pe_lst (pa_cons (pe_op (op_powK (a := 10) (b := 6) (r := 1000000) (by decide) (by decide) (by decide +kernel)) pe_int pe_int) (pa_cons (pe_op op_sub (pe_op (op_powK (a := 10) (b := 6) (r := 1000000) (by decide) (by decide) (by decide +kernel)) pe_int pe_int) pe_int) (pa_cons (pe_un un_neg (pe_op (op_powK (a := 10) (b := 6) (r := 1000000) (by decide) (by decide) (by decide +kernel)) pe_int pe_int)) (pa_cons (pe_op op_sub pe_int (pe_op (op_powK (a := 10) (b := 6) (r := 1000000) (by decide) (by decide) (by decide +kernel)) pe_int pe_int)) (pa_cons pe_int pa_nil)))))) (pe_callG (ok_law_draw X) (hr.mono (by decide)) hg (by rfl) X.g_law_draw X.F_law_draw.kp X.b_law_draw .nil pass0 (pa_cons (pv 0) (pa_cons pe_int pa_nil))) (fun _ _ => rfl)))) pss_nil)
  (pss_one (ps_ret (pe_op op_sub (pe_callG (ok_law_draw X) (hr.mono (by decide)) hg (by rfl) X.g_law_draw X.F_law_draw.kp X.b_law_draw .nil pass0 (pa_cons (pv 0) (pa_cons (pe_op (k_add (K := K) rfl) (pe_op op_mul pe_int (pe_op (op_powK (a := 10) (b := 6) (r := 1000000) (by decide) (by decide) (by decide +kernel)) pe_int pe_int)) pe_int) pa_nil))) (pe_op (op_powK (a := 10) (b := 6) (r := 1000000) (by decide) (by decide) (by decide +kernel)) pe_int pe_int)))))), ?_⟩)
  intro ds μ P hl h
  obtain ⟨d, w, i, n, rfl, hm, hn, q⟩ := h
  (exists "go")
  refine split_d (fun hc => ?_) (fun hc => ?_)
  · (exists "go")
    exact ⟨_, (by (exists "wk")), q _ (by omega) (by omega)⟩
  (exists "go")
  refine split_d (fun hc => ?_) (fun hc => ?_)
  · (exists "go")
    refine w2_ixInts (cs := [10 ^ 6, 10 ^ 6 - 1, -10 ^ 6, 1 - 10 ^ 6, 0]) Lk.here rfl (by omega) (by show _ < 5; omega) fun v hv => ?_
    have hv2 : -1000000 ≤ v ∧ v ≤ 1000000 := by
      simp at hv
      rcases hv with rfl | rfl | rfl | rfl | rfl <;> omega
    (exists "go")
    exact ⟨_, (by (exists "wk")), q _ hv2.1 hv2.2⟩
  (exists "go")
  exact ⟨_, (by (exists "wk")), q _ (by omega) (by omega)⟩
abbrev S_law_start : SpD := fun ds μ P => ∃ (d : Addr) (w : Int) (i n : Nat), ds = [.ref d, .int w] ∧ μ[i]? = some (d, wl n) ∧ n < 900000 ∧ ∀ x : Int, 0 ≤ x → x ≤ 1000000 → P (.int x) (μ.set i (d, wl (n + 2)))
theorem sp_start {d : Addr} {w : Int} {i n : Nat} {μ μ' : Mu} {P : D → Mu → Prop} (hm : μ[i]? = some (d, wl n)) (hn : n < 900000) (h : μ.set i (d, wl (n + 2)) = μ') (q : ∀ x : Int, 0 ≤ x → x ≤ 1000000 → P (.int x) μ') : S_law_start [.ref d, .int w] μ P := ⟨d, w, i, n, rfl, hm, hn, by subst h; exact q⟩

local macro_rules | `(tactic| exists "gx") => `(tactic| first
  | (((with_reducible refine' sp_start ?hm ?hn ?h ?_); (case hm => (exists "at")); (case hn => omega); (case h => (exists "nd")))))
local macro_rules | `(tactic| exists "sd") => `(tactic| exact sd_law_start _ _)
set_option maxHeartbeats 4000000 in
theorem ok_law_start (X : T K mg base) : FnG Pg w K mg base 2 X.a_law_start X.d_law_start ["_law_well_here", "_law_way"] (spOf K 2 S_law_start) := by
  refine fn_ok4G X.F_law_start sc_law_start rfl (fun cdv A outer s H E hr hg => ⟨_, (pss_cons (ps_if (pt_cmpR op_lt (pv 1) pe_int (nomark _)) (pss_one (ps_ret pe_int)) pss_nil)
  (pss_cons (ps_if (pt_cmpR (WkE.op_eqU (K := K) rfl hr.units) (pv 1) pe_int (nomark _)) (pss_one (ps_ret (pe_callG (ok_law_draw X) (hr.mono (by decide)) hg (by rfl) X.g_law_draw X.F_law_draw.kp X.b_law_draw .nil pass0 (pa_cons (pv 0) (pa_cons pe_int pa_nil))))) pss_nil)
  (pss_one (ps_ret (pe_ix (k_ix (K := K) rfl) (pe_lst (pa_cons pe_int (pa_cons (pe_op (op_powK (a := 10) (b := 6) (r := 1000000) (by decide) (by decide) (by decide +kernel)) pe_int pe_int) (pa_cons (pe_callG (ok_law_draw X) (hr.mono (by decide)) hg (by rfl) X.g_law_draw X.F_law_draw.kp X.b_law_draw .nil pass0 (pa_cons (pv 0) (pa_cons (pe_op (k_add (K := K) rfl) (pe_op (op_powK (a := 10) (b := 6) (r := 1000000) (by decide) (by decide) (by decide +kernel)) pe_int pe_int) pe_int) pa_nil))) pa_nil)))) (pe_callG (ok_law_draw X) (hr.mono (by decide)) hg (by rfl) X.g_law_draw X.F_law_draw.kp X.b_law_draw .nil pass0 (pa_cons (pv 0) (pa_cons pe_int pa_nil))) (fun _ _ => rfl)))))), ?_⟩)
  intro ds μ P hl h
  obtain ⟨d, w, i, n, rfl, hm, hn, q⟩ := h
  (exists "go")
  refine split_d (fun hc => ?_) (fun hc => ?_)
  · (exists "go")
    exact ⟨_, (by (exists "wk")), q _ (by omega) (by omega)⟩
  (exists "go")
  refine split_d (fun hc => ?_) (fun hc => ?_)
  · (exists "go")
    exact ⟨_, (by (exists "wk")), q _ (by omega) (by omega)⟩
  (exists "go")
  rename_i k1 h10 h11 p1 k2 h20 h21
  refine w2_ixInts (cs := [0, 10 ^ 6, k1]) Lk.here rfl (by omega) (by show _ < 3; omega) fun v hv => ?_
  have hv2 : 0 ≤ v ∧ v ≤ 1000000 := by
    simp at hv
    rcases hv with rfl | rfl | rfl <;> omega
  exact ⟨_, (by (exists "wk")), q _ hv2.1 hv2.2⟩
abbrev S_law_ends : SpD := fun ds μ P => ∃ (d : Addr) (w : Int) (i n : Nat), ds = [.ref d, .int w] ∧ 6 ≤ w ∧ w ≤ 24 ∧ μ[i]? = some (d, wl n) ∧ n < 800000 ∧ ∀ es : List En, 1 ≤ es.length → (es.length : Int) ≤ w → (∀ e ∈ es, (-1000000 ≤ e.x ∧ e.x ≤ 1000000) ∧ (-1000000 ≤ e.y ∧ e.y ≤ 1000000) ∧ (0 ≤ e.s ∧ e.s ≤ 1000000) ∧ (0 ≤ e.l ∧ e.l ≤ 1000000)) → P (.tup (es.map eD)) (μ.set i (d, wl (n + 200)))
theorem sp_ends {d : Addr} {w : Int} {i n : Nat} {μ μ' : Mu} {P : D → Mu → Prop} (h1 : 6 ≤ w) (h2 : w ≤ 24) (hm : μ[i]? = some (d, wl n)) (hn : n < 800000) (h : μ.set i (d, wl (n + 200)) = μ') (q : ∀ es : List En, 1 ≤ es.length → (es.length : Int) ≤ w → (∀ e ∈ es, (-1000000 ≤ e.x ∧ e.x ≤ 1000000) ∧ (-1000000 ≤ e.y ∧ e.y ≤ 1000000) ∧ (0 ≤ e.s ∧ e.s ≤ 1000000) ∧ (0 ≤ e.l ∧ e.l ≤ 1000000)) → P (.tup (es.map eD)) μ') : S_law_ends [.ref d, .int w] μ P := ⟨d, w, i, n, rfl, h1, h2, hm, hn, by subst h; exact q⟩

local macro_rules | `(tactic| exists "gx") => `(tactic| first
  | (((with_reducible refine' sp_ends ?h1 ?h2 ?hm ?hn ?h ?_); (case h1 => omega); (case h2 => omega); (case hm => (exists "at")); (case hn => omega); (case h => (exists "nd")))))
local macro_rules | `(tactic| exists "sd") => `(tactic| exact sd_law_ends _ _)
set_option maxHeartbeats 4000000 in
theorem ok_law_ends (X : T K mg base) : FnG Pg w K mg base 3 X.a_law_ends X.d_law_ends ["_law_well_here", "_law_most"] (spOf K 2 S_law_ends) := by
  refine fn_ok4G X.F_law_ends sc_law_ends rfl (fun cdv A outer s H E hr hg => ⟨_, (pss_cons (ps_set (i := 2) sc_law_ends.nd rfl (Or.inl rfl) (pe_callTy call_int1 (by rfl) X.m_int (by decide +kernel) (pa_cons (pe_cmpR (k_eq (K := K) rfl hr.units) (pe_callG (ok_law_draw X) (hr.mono (by decide)) hg (by rfl) X.g_law_draw X.F_law_draw.kp X.b_law_draw .nil pass0 (pa_cons (pv 0) (pa_cons pe_int pa_nil))) pe_int (nomark _)) pa_nil)))
  (pss_cons (ps_set (i := 3) sc_law_ends.nd rfl (Or.inl rfl) (pe_op (k_add (K := K) rfl) pe_int (pe_callG (ok_law_draw X) (hr.mono (by decide)) hg (by rfl) X.g_law_draw X.F_law_draw.kp X.b_law_draw .nil pass0 (pa_cons (pv 0) (pa_cons (pe_ix (k_ix (K := K) rfl) (pe_lst (pa_cons pe_int (pa_cons (pv 1) pa_nil))) (pv 2) (fun _ _ => rfl)) pa_nil)))))
  (pss_cons (ps_set (i := 3) sc_law_ends.nd rfl (Or.inl rfl) (pe_ix (k_ix (K := K) rfl) (pe_lst (pa_cons (pv 3) (pa_cons (pv 1) pa_nil))) (pe_op op_mul (pv 2) (pe_callTy call_int1 (by rfl) X.m_int (by decide +kernel) (pa_cons (pe_cmpR (k_eq (K := K) rfl hr.units) (pe_callG (ok_law_draw X) (hr.mono (by decide)) hg (by rfl) X.g_law_draw X.F_law_draw.kp X.b_law_draw .nil pass0 (pa_cons (pv 0) (pa_cons pe_int pa_nil))) pe_int (nomark _)) pa_nil))) (fun _ _ => rfl)))
  (pss_cons (ps_set (i := 4) sc_law_ends.nd rfl (Or.inl rfl) (pe_ix (k_ix (K := K) rfl) (pe_lst (pa_cons pe_int (pa_cons pe_int (pa_cons pe_int (pa_cons pe_int pa_nil))))) (pe_callG (ok_law_draw X) (hr.mono (by decide)) hg (by rfl) X.g_law_draw X.F_law_draw.kp X.b_law_draw .nil pass0 (pa_cons (pv 0) (pa_cons pe_int pa_nil))) (fun _ _ => rfl)))
  (pss_cons (ps_set (i := 5) sc_law_ends.nd rfl (Or.inl rfl) (pe_callG (ok_law_draw X) (hr.mono (by decide)) hg (by rfl) X.g_law_draw X.F_law_draw.kp X.b_law_draw .nil pass0 (pa_cons (pv 0) (pa_cons pe_int pa_nil))))
  (pss_cons (ps_set (i := 6) sc_law_ends.nd rfl (Or.inl rfl) (pe_callG (ok_law_draw X) (hr.mono (by decide)) hg (by rfl) X.g_law_draw X.F_law_draw.kp X.b_law_draw .nil pass0 (pa_cons (pv 0) (pa_cons pe_int pa_nil))))
  (pss_cons (ps_set (i := 7) sc_law_ends.nd rfl (Or.inl rfl) (pe_lst pa_nil))
  (pss_cons (ps_for PassesOwn.never rfl (pi_range1 (by rfl) X.m_range (pa_cons (pv 3) pa_nil)) (pg_name (i := 8) sc_law_ends.nd rfl (.inl rfl)) (pss_cons (ps_set (i := 9) sc_law_ends.nd rfl (Or.inl rfl) (pe_callG (ok_law_draw X) (hr.mono (by decide)) hg (by rfl) X.g_law_draw X.F_law_draw.kp X.b_law_draw .nil pass0 (pa_cons (pv 0) (pa_cons pe_int pa_nil))))
  (pss_cons (ps_set (i := 10) sc_law_ends.nd rfl (Or.inl rfl) (pe_callG (ok_law_number X) (hr.mono (by decide)) hg (by rfl) X.g_law_number X.F_law_number.kp X.b_law_number .nil pass0 (pa_cons (pv 0) (pa_cons (pv 4) pa_nil))))
  (pss_cons (ps_set (i := 11) sc_law_ends.nd rfl (Or.inl rfl) (pe_ix (k_ix (K := K) rfl) (pe_lst (pa_cons (pe_callG (ok_law_number X) (hr.mono (by decide)) hg (by rfl) X.g_law_number X.F_law_number.kp X.b_law_number .nil pass0 (pa_cons (pv 0) (pa_cons (pv 4) pa_nil))) (pa_cons pe_int (pa_cons (pe_op op_sub pe_int (pv 10)) pa_nil)))) (pe_ix (k_ix (K := K) rfl) (pe_lst (pa_cons pe_int (pa_cons pe_int (pa_cons pe_int (pa_cons pe_int (pa_cons pe_int (pa_cons pe_int pa_nil))))))) (pv 5) (fun _ _ => rfl)) (fun _ _ => rfl)))
  (pss_cons (ps_if (PW.pt (pw_and (pt_cmpR (k_eq (K := K) rfl hr.units) (pv 9) pe_int (nomark _)) (pw_and1 (pt_cmpR (k_ne (K := K) rfl hr.units) (pv 7) (pe_lst pa_nil) (nomark _))))) (pss_one (ps_asg (pe_slice (k_sl (K := K) rfl) (pe_ix (k_ix (K := K) rfl) (pv 7) (pe_callG (ok_law_draw X) (hr.mono (by decide)) hg (by rfl) X.g_law_draw X.F_law_draw.kp X.b_law_draw .nil pass0 (pa_cons (pv 0) (pa_cons (pe_callB (k_len (K := K) rfl) (by rfl) X.m_len (by decide +kernel) (pa_cons (pv 7) pa_nil)) pa_nil))) (fun _ _ => rfl)) po_none (po_some pe_int)) (k_gtup (K := K) (n := 2) rfl (by rfl) (pgs_cons (pg_name (i := 10) sc_law_ends.nd rfl (.inl rfl)) (pgs_cons (pg_name (i := 11) sc_law_ends.nd rfl (.inl rfl)) pgs_nil))))) pss_nil)
  (pss_one (ps_expr (k_bm (K := K) rfl PySem.F.plainAttrs_list PySem.F.slot_list_append PySem.F.type_list_append mt_append (pv 7) (pa_cons (pe_tup (pa_cons (pv 10) (pa_cons (pv 11) (pa_cons (pe_callG (ok_law_start X) (hr.mono (by decide)) hg (by rfl) X.g_law_start X.F_law_start.kp X.b_law_start .nil pass0 (pa_cons (pv 0) (pa_cons (pv 6) pa_nil))) (pa_cons (pe_callG (ok_law_draw X) (hr.mono (by decide)) hg (by rfl) X.g_law_draw X.F_law_draw.kp X.b_law_draw .nil pass0 (pa_cons (pv 0) (pa_cons (pe_op (k_add (K := K) rfl) (pe_op (op_powK (a := 10) (b := 6) (r := 1000000) (by decide) (by decide) (by decide +kernel)) pe_int pe_int) pe_int) pa_nil))) pa_nil))))) pa_nil)))))))))
  (pss_one (ps_ret (pe_callTy (k_tup (K := K) rfl) (by rfl) X.m_tuple (by decide +kernel) (pa_cons (pv 7) pa_nil)))))))))))), ?_⟩)
  intro ds μ P hl h
  obtain ⟨d, w, i, n, rfl, h1, h2, hm, hn, q⟩ := h
  (exists "ss")
  rename_i g hg0 hg1
  have hgb : 0 ≤ (if decide (g = 5) = true then (1 : Int) else 0) ∧ (if decide (g = 5) = true then (1 : Int) else 0) ≤ 1 := by split <;> omega
  generalize (if decide (g = 5) = true then (1 : Int) else 0) = gg at *
  refine s_cutW (fun δ' μ' => ∃ m : Nat, 1 ≤ m ∧ (m : Int) ≤ w ∧ δ' = L_law_ends (v_well_here := some (.ref d)) (v_most := some (.int w)) (v_great := some (.int gg)) (v_many := some (.int (m : Nat))) ∧ μ' = μ.set i (d, wl (n + 2))) ?_ ?_
  · (exists "go")
    refine w2_ixInts (cs := [6, w]) Lk.here rfl (by omega) (by show _ < 2; omega) fun v hv => ?_
    have hv2 : 1 ≤ v ∧ v ≤ w := by
      simp at hv
      rcases hv with rfl | rfl <;> omega
    (exists "go")
    rename_i k hk0 hk1
    obtain ⟨m, hm9⟩ : ∃ m : Nat, 1 + k = (m : Int) := ⟨(1 + k).toNat, by omega⟩
    rw [hm9]
    exact ⟨_, _, (by (exists "le")), (by (exists "wk")), m, by omega, by omega, rfl, rfl⟩
  rintro δ' ν ⟨m0, hm01, hm02, rfl, rfl⟩
  refine s_cutW (fun δ' μ' => ∃ m : Nat, 1 ≤ m ∧ (m : Int) ≤ w ∧ δ' = L_law_ends (v_well_here := some (.ref d)) (v_most := some (.int w)) (v_great := some (.int gg)) (v_many := some (.int (m : Nat))) ∧ μ' = μ.set i (d, wl (n + 3))) ?_ ?_
  · (exists "go")
    rename_i k hk0 hk1
    have hbb : 0 ≤ gg * (if decide (k = 1) = true then (1 : Int) else 0) ∧ gg * (if decide (k = 1) = true then (1 : Int) else 0) ≤ 1 := by
      split <;> omega
    refine w2_ixInts (cs := [(m0 : Int), w]) Lk.here rfl (by omega) (by show _ < 2; omega) fun v hv => ?_
    have hv2 : 1 ≤ v ∧ v ≤ w := by
      simp at hv
      rcases hv with rfl | rfl <;> omega
    obtain ⟨m, rfl⟩ : ∃ m : Nat, v = (m : Int) := ⟨v.toNat, by omega⟩
    (exists "go")
    exact ⟨_, _, (by (exists "le")), (by (exists "wk")), m, by omega, by omega, rfl, rfl⟩
  rintro δ' ν ⟨m, hm1, hm2, rfl, rfl⟩
  (exists "go")
  refine w2_ixInts (cs := [0, 0, 1, 2]) Lk.here rfl (by omega) (by show _ < 4; omega) fun wy hwy => ?_
  (exists "go")
  rename_i ln hln0 hln1 st hst0 hst1 p
  rw [Int.toNat_natCast]
  refine forR0 (fun j δ' μ' => ∃ es : List En, es.length = j ∧ (∀ e ∈ es, (-1000000 ≤ e.x ∧ e.x ≤ 1000000) ∧ (-1000000 ≤ e.y ∧ e.y ≤ 1000000) ∧ (0 ≤ e.s ∧ e.s ≤ 1000000) ∧ (0 ≤ e.l ∧ e.l ≤ 1000000)) ∧ δ' = L_law_ends (v_well_here := some (.ref d)) (v_most := some (.int w)) (v_great := some (.int gg)) (v_many := some (.int (m : Nat))) (v_way := some (.int wy)) (v_line := some (.int ln)) (v_starts := some (.int st)) (v_found := some (.ref p)) ∧ μ' = (p, .lst (es.map eD)) :: μ.set i (d, wl (n + 6 + 8 * j))) ⟨_, _, (by (exists "le")), weak_keep (by (exists "wk")), [], rfl, (fun _ h => nomatch h), rfl, rfl⟩ (fun _ _ _ _ => True.intro) ?_ ?_
  · rintro j δ' ν2 hj ⟨es, hl, hs, rfl, rfl⟩
    (exists "ge")
    (exists "ss")
    rename_i ag hag0 hag1
    (exists "ss")
    rename_i x0 hx0 hx1
    (exists "ss")
    rename_i x1 hx2 hx3 p1 p2
    refine w2_ixInts (cs := [0, 0, 0, 0, 1, 2]) Lk.here rfl (by omega) (by show _ < 6; omega) fun v hv => ?_
    have hv2 : 0 ≤ v ∧ v ≤ 2 := by
      simp at hv
      rcases hv with rfl | rfl | rfl <;> omega
    refine w2_ixInts (cs := [x1, 3, 0 - x0]) Lk.here.cons rfl (by omega) (by show _ < 3; omega) fun y0 hy => ?_
    have hy0 : -1000000 ≤ y0 ∧ y0 ≤ 1000000 := by
      simp at hy
      rcases hy with rfl | rfl | rfl <;> omega
    (exists "ge")
    refine s_cutW (fun δ' μ' => ∃ x y : Int, ((-1000000 ≤ x ∧ x ≤ 1000000) ∧ (-1000000 ≤ y ∧ y ≤ 1000000)) ∧ δ' = L_law_ends (v_well_here := some (.ref d)) (v_most := some (.int w)) (v_great := some (.int gg)) (v_many := some (.int (m : Nat))) (v_way := some (.int wy)) (v_line := some (.int ln)) (v_starts := some (.int st)) (v_found := some (.ref p)) (v_k := some (jD j)) (v_again := some (.int ag)) (v_x := some (.int x)) (v_y := some (.int y)) ∧ μ' = (p, .lst (es.map eD)) :: μ.set i (d, wl (n + 6 + 8 * j + 4))) ?_ ?_
    · (exists "go")
      refine split_d (fun hag => ?_) (fun hag => ?_)
      · (exists "go")
        by_cases hnil : es = []
        · subst hnil
          rw [List.map_nil]
          (exists "go")
          exact ⟨_, _, (by (exists "le")), (by (exists "wk")), x0, y0, ⟨⟨hx0, hx1⟩, hy0⟩, rfl, rfl⟩
        have hpos := List.length_pos_iff.mpr hnil
        refine w2_neK Lk.here.cons.cons.cons Lk.here (sh_flat (flat_tup (n := 1) eD_flat) (by decide)) rfl ?_
        rw [eqBL_nil_r, show (List.map eD es).isEmpty = false from by simpa using hnil]
        (exists "go")
        rename_i n h0 h1
        obtain ⟨k, rfl⟩ := Int.eq_ofNat_of_zero_le h0
        have gk := eAt_get (es := es) (j := k) (by omega)
        have hk := hs _ (List.mem_of_getElem? gk)
        (exists "go")
        exact ⟨_, _, (by (exists "le")), (by (exists "wk")), (eAt es k).x, (eAt es k).y, ⟨hk.1, hk.2.1⟩, rfl, rfl⟩
      · (exists "go")
        exact ⟨_, _, (by (exists "le")), (by (exists "wk")), x0, y0, ⟨⟨hx0, hx1⟩, hy0⟩, rfl, rfl⟩
    rintro δ' ν2 ⟨x, y, hxy, rfl, rfl⟩
    (exists "go")
    rename_i v0 h00 h01 l hl0 hl1
    have hl3 : 0 ≤ l ∧ l ≤ 1000000 := ⟨hl0, by omega⟩
    rw [show List.map eD es ++ [D.tup [D.int x, D.int y, D.int v0, D.int l]] = (es ++ [(⟨x, y, v0, l⟩ : En)]).map eD from by rw [List.map_append]; rfl]
    refine ⟨_, _, (by (exists "le")), weak_keep (by (exists "wk")), es ++ [⟨x, y, v0, l⟩], by rw [List.length_append, hl]; rfl, fun e he => ?_, rfl, rfl⟩
    rcases List.mem_append.mp he with he | he
    · exact hs e he
    · rw [List.mem_singleton.mp he]; exact ⟨hxy.1, hxy.2, ⟨h00, h01⟩, hl3⟩
  rintro δ' ν2 ⟨es, hl, hs, rfl, rfl⟩
  (exists "go")
  exact ⟨_, (by (exists "wk")), q es (by omega) (by omega) hs⟩
  
abbrev S_law_want : SpD := fun ds μ P => ∃ (es : List En) (i j : Nat), ds = [.tup (es.map eD), jD i, jD j] ∧ i < es.length ∧ j < es.length ∧ P (.int (wP es i j)) μ
theorem sp_want {es : List En} {i j : Nat} {μ : Mu} {P : D → Mu → Prop} (h1 : i < es.length) (h2 : j < es.length) (q : P (.int (wP es i j)) μ) : S_law_want [.tup (es.map eD), jD i, jD j] μ P := ⟨es, i, j, rfl, h1, h2, q⟩

local macro_rules | `(tactic| exists "gx") => `(tactic| first
  | (((with_reducible refine' sp_want ?h1 ?h2 ?_); (case h1 => omega); (case h2 => omega))))
local macro_rules | `(tactic| exists "sd") => `(tactic| exact sd_law_want _ _ _)
set_option maxHeartbeats 4000000 in
theorem ok_law_want (X : T K mg base) : FnG Pg w K mg base 1 X.a_law_want X.d_law_want ["_law_ends_here", "_law_one", "_law_other"] (spOf K 3 S_law_want) := by
  refine fn_ok4G X.F_law_want sc_law_want rfl (fun cdv A outer s H E hr hg => ⟨_, (pss_cons (ps_par (i := 3) (j := 4) (by rfl) sc_law_want.nd rfl rfl (by decide) rfl rfl (pa_cons (pe_ix (k_ix (K := K) rfl) (pv 0) (pv 1) (fun _ _ => rfl)) (pa_cons (pe_ix (k_ix (K := K) rfl) (pv 0) (pv 2) (fun _ _ => rfl)) pa_nil)) (by rfl))
  (pss_one (ps_ret (pe_op (k_add (K := K) rfl) (pe_op (k_add (K := K) rfl) (pe_op (k_add (K := K) rfl) (pe_ix (k_ix (K := K) rfl) (pv 3) pe_int (fun _ _ => rfl)) (pe_ix (k_ix (K := K) rfl) (pv 4) pe_int (fun _ _ => rfl))) (pe_callB call_abs (by rfl) X.m_abs (by decide +kernel) (pa_cons (pe_op op_sub (pe_ix (k_ix (K := K) rfl) (pv 3) pe_int (fun _ _ => rfl)) (pe_ix (k_ix (K := K) rfl) (pv 4) pe_int (fun _ _ => rfl))) pa_nil))) (pe_callB call_abs (by rfl) X.m_abs (by decide +kernel) (pa_cons (pe_op op_sub (pe_ix (k_ix (K := K) rfl) (pv 3) pe_int (fun _ _ => rfl)) (pe_ix (k_ix (K := K) rfl) (pv 4) pe_int (fun _ _ => rfl))) pa_nil)))))), ?_⟩)
  intro ds μ P hl h
  obtain ⟨es, i, j, rfl, hi, hj, q⟩ := h
  have gi := eAt_get hi
  have gj := eAt_get hj
  have e : wP es i j = (eAt es i).s + (eAt es j).s + max ((eAt es i).x - (eAt es j).x) (-((eAt es i).x - (eAt es j).x)) + max ((eAt es i).y - (eAt es j).y) (-((eAt es i).y - (eAt es j).y)) := by
    unfold wP wI di; omega
  rw [e] at q
  (exists "go")
  exact ⟨_, Weak.refl, q⟩
abbrev S_law_least_want : SpD := fun ds μ P => ∃ (es : List En) (x : D) (S : List Nat), ds = [.tup (es.map eD), x] ∧ (x = .tup (S.map jD) ∨ ∃ p, x = .ref p ∧ Lk (S.map jD) μ p) ∧ SoP es.length S ∧ es.length ≤ 24 ∧ P (.int (lwN es S)) μ
theorem sp_least_t {es : List En} {S : List Nat} {μ : Mu} {P : D → Mu → Prop} (h1 : SoP es.length S) (h2 : es.length ≤ 24) (q : P (.int (lwN es S)) μ) : S_law_least_want [.tup (es.map eD), .tup (S.map jD)] μ P := ⟨es, _, S, rfl, .inl rfl, h1, h2, q⟩
theorem sp_least_l {es : List En} {S : List Nat} {p : Addr} {μ : Mu} {P : D → Mu → Prop} (hm : Lk (S.map jD) μ p) (h1 : SoP es.length S) (h2 : es.length ≤ 24) (q : P (.int (lwN es S)) μ) : S_law_least_want [.tup (es.map eD), .ref p] μ P := ⟨es, _, S, rfl, .inr ⟨p, rfl, hm⟩, h1, h2, q⟩

local macro_rules | `(tactic| exists "gx") => `(tactic| first
  | (((with_reducible refine' sp_least_t ?h1 ?h2 ?_); (case h1 => with_reducible assumption); (case h2 => omega)))
  | (((with_reducible refine' sp_least_l ?hm ?h1 ?h2 ?_); (case hm => (exists "lk")); (case h1 => with_reducible assumption); (case h2 => omega))))
local macro_rules | `(tactic| exists "sd") => `(tactic| exact sd_law_least_want _ _)
set_option maxHeartbeats 4000000 in
theorem ok_law_least_want (X : T K mg base) : FnG Pg w K mg base 2 X.a_law_least_want X.d_law_least_want ["_law_ends_here", "_law_some_here"] (spOf K 2 S_law_least_want) := by
  refine fn_ok4G X.F_law_least_want sc_law_least_want rfl (fun cdv A outer s H E hr hg => ⟨_, (pss_cons (ps_set (i := 2) sc_law_least_want.nd rfl (Or.inl rfl) (pe_lst pa_nil))
  (pss_cons (ps_for PassesOwn.never rfl (WkE.k_enumU (K := K) rfl (by rfl) X.m_enumerate (pa_cons (pv 1) pa_nil)) (k_gtup (K := K) (n := 2) rfl (by rfl) (pgs_cons (pg_name (i := 3) sc_law_least_want.nd rfl (.inl rfl)) (pgs_cons (pg_name (i := 4) sc_law_least_want.nd rfl (.inr rfl)) pgs_nil))) (pss_one (ps_set (i := 2) sc_law_least_want.nd rfl (Or.inl rfl) (pe_op (k_add (K := K) rfl) (pv 2) (pe_lc (own := [("_law_other", 5)]) (g := gName 5) (tt := tYes) rfl sc_law_least_want.nd (WkE.k_iU (K := K) rfl (pe_slice (k_sl (K := K) rfl) (pv 1) (po_some (pe_op (k_add (K := K) rfl) (pv 3) pe_int)) po_none)) (blkOk_by (N := N_law_least_want) (sc := defScope s_law_least_want) (by decide +kernel)) (fun _ _ _ _ _ => (pg_name (i := 5) sc_law_least_want.nd rfl (.inl rfl))) (fun _ _ _ _ _ => pts_nil) (fun _ _ _ _ _ => (pe_callG (ok_law_want X) (hr.mono (by decide)) hg (by rfl) X.g_law_want X.F_law_want.kp X.b_law_want .nil pass0 (pa_cons (pv 0) (pa_cons (pv 4) (pa_cons (pv 5) pa_nil))))))))))
  (pss_one (ps_ret (pe_callB (k_min (K := K) rfl rfl) (by rfl) X.m_min (by decide +kernel) (pa_cons (pv 2) pa_nil)))))), ?_⟩)
  intro ds μ P hl h
  obtain ⟨es, x, S, rfl, hx, h1, h2, q⟩ := h
  have hSl := h1.len
  (exists "ss")
  rename_i pf
  rcases hx with rfl | ⟨p, rfl, hm⟩
  · (exists "go")
    refine forE (fun pre δ' μ' => ∃ (pc : Addr) (W : List Int), (∀ suf, S = pre ++ suf → prs es S = W ++ prs es suf) ∧ W.length ≤ 24 * pre.length ∧ δ' = L_law_least_want (v_ends_here := some (.tup (es.map eD))) (v_some_here := some (.tup (S.map jD))) (v_found := some (.ref pc)) ∧ μ' = (pc, .lst (W.map D.int)) :: μ) ⟨_, _, (by (exists "le")), Weak.refl, pf, [], (fun suf h => by rw [List.nil_append] at h; rw [h]; rfl), Nat.zero_le _, rfl, rfl⟩ (fun _ _ _ _ => True.intro) ?_ ?_
    · rintro pre x suf δ' ν hx ⟨pc, W, hW, hWl, rfl, rfl⟩
      have g1 : S[pre.length]? = some x := by rw [hx]; simp
      have b1 := h1.low x (List.mem_of_getElem? g1)
      have hpl : pre.length < S.length := (List.getElem?_eq_some_iff.mp g1).1
      have hdr : S.drop (pre.length + 1) = suf := by rw [hx, List.drop_append, List.drop_eq_nil_of_le (by omega), Nat.add_sub_cancel_left]; rfl
      have hsl : suf.length ≤ 24 := by rw [← hdr, List.length_drop]; omega
      (exists "go")
      rw [show ((pre.length : Int) + 1).toNat = pre.length + 1 by omega, hdr]
      refine lcM (es := suf) (r := fun y => D.int (wP es x y)) (lt_size (by omega)) (by (exists "hG")) (fun y hy p1 acc => ?_) (fun p2 => ?_)
      · have b2 := h1.low y (by rw [hx]; simp [hy])
        (exists "go")
        (exists "rw")
      rw [show (suf.map fun y => D.int (wP es x y)) = (suf.map fun y => wP es x y).map D.int from by rw [List.map_map]; rfl]
      (exists "go")
      refine ⟨_, _, (by (exists "le")), weak_keep (by (exists "wk")), _, W ++ suf.map (fun y => wP es x y), fun suf2 h => ?_, ?_, rfl, rfl⟩
      · have e := hW _ hx
        have e2 : suf2 = suf := by
          rw [hx, List.append_assoc] at h
          exact (List.cons.inj (List.append_cancel_left h)).2.symm
        rw [e, e2, List.append_assoc]; rfl
      · rw [List.length_append, List.length_append, List.length_map, List.length_singleton]; omega
    rintro δ' ν ⟨pc, W, hW, hWl, rfl, rfl⟩
    have e := hW [] (List.append_nil _).symm
    rw [show prs es [] = [] from rfl, List.append_nil] at e
    have hne : W ≠ [] := by rw [← e]; exact prs_ne h1.two
    rw [show lwN es S = minL W by unfold lwN; rw [e]] at q
    (exists "go")
    exact ⟨_, (by (exists "wk")), q⟩
  · (exists "go")
    refine forE (fun pre δ' μ' => ∃ (pc : Addr) (W : List Int), (∀ suf, S = pre ++ suf → prs es S = W ++ prs es suf) ∧ W.length ≤ 24 * pre.length ∧ δ' = L_law_least_want (v_ends_here := some (.tup (es.map eD))) (v_some_here := some (.ref p)) (v_found := some (.ref pc)) ∧ μ' = (pc, .lst (W.map D.int)) :: μ) ⟨_, _, (by (exists "le")), Weak.refl, pf, [], (fun suf h => by rw [List.nil_append] at h; rw [h]; rfl), Nat.zero_le _, rfl, rfl⟩ (by rintro _ _ _ ⟨_, _, _, _, _, rfl⟩; exact Lk.mem (by (exists "lk"))) ?_ ?_
    · rintro pre x suf δ' ν hx ⟨pc, W, hW, hWl, rfl, rfl⟩
      have g1 : S[pre.length]? = some x := by rw [hx]; simp
      have b1 := h1.low x (List.mem_of_getElem? g1)
      have hpl : pre.length < S.length := (List.getElem?_eq_some_iff.mp g1).1
      have hdr : S.drop (pre.length + 1) = suf := by rw [hx, List.drop_append, List.drop_eq_nil_of_le (by omega), Nat.add_sub_cancel_left]; rfl
      have hsl : suf.length ≤ 24 := by rw [← hdr, List.length_drop]; omega
      (exists "go")
      rw [show ((pre.length : Int) + 1).toNat = pre.length + 1 by omega, hdr]
      refine lcM (es := suf) (r := fun y => D.int (wP es x y)) (lt_size (by omega)) (by (exists "hG")) (fun y hy p1 acc => ?_) (fun p2 => ?_)
      · have b2 := h1.low y (by rw [hx]; simp [hy])
        (exists "go")
        (exists "rw")
      rw [show (suf.map fun y => D.int (wP es x y)) = (suf.map fun y => wP es x y).map D.int from by rw [List.map_map]; rfl]
      (exists "go")
      refine ⟨_, _, (by (exists "le")), weak_keep (by (exists "wk")), _, W ++ suf.map (fun y => wP es x y), fun suf2 h => ?_, ?_, rfl, rfl⟩
      · have e := hW _ hx
        have e2 : suf2 = suf := by
          rw [hx, List.append_assoc] at h
          exact (List.cons.inj (List.append_cancel_left h)).2.symm
        rw [e, e2, List.append_assoc]; rfl
      · rw [List.length_append, List.length_append, List.length_map, List.length_singleton]; omega
    rintro δ' ν ⟨pc, W, hW, hWl, rfl, rfl⟩
    have e := hW [] (List.append_nil _).symm
    rw [show prs es [] = [] from rfl, List.append_nil] at e
    have hne : W ≠ [] := by rw [← e]; exact prs_ne h1.two
    rw [show lwN es S = minL W by unfold lwN; rw [e]] at q
    (exists "go")
    exact ⟨_, (by (exists "wk")), q⟩
abbrev S_law_some : SpD := fun ds μ P => ∃ (d : Addr) (es : List En) (i n : Nat), ds = [.ref d, .tup (es.map eD)] ∧ 2 ≤ es.length ∧ es.length ≤ 24 ∧ EnB es ∧ μ[i]? = some (d, wl n) ∧ n < 700000 ∧ ∀ (p : Addr) (S : List Nat), SoP es.length S → P (.ref p) ((p, .lst (S.map jD)) :: μ.set i (d, wl (n + 4)))
theorem sp_some {d : Addr} {es : List En} {i n : Nat} {μ μ' : Mu} {P : D → Mu → Prop} (h1 : 2 ≤ es.length) (h2 : es.length ≤ 24) (h3 : EnB es) (hm : μ[i]? = some (d, wl n)) (hn : n < 700000) (h : μ.set i (d, wl (n + 4)) = μ') (q : ∀ (p : Addr) (S : List Nat), SoP es.length S → P (.ref p) ((p, .lst (S.map jD)) :: μ')) : S_law_some [.ref d, .tup (es.map eD)] μ P := ⟨d, es, i, n, rfl, h1, h2, h3, hm, hn, by subst h; exact q⟩

local macro_rules | `(tactic| exists "gx") => `(tactic| first
  | (((with_reducible refine' sp_some ?h1 ?h2 ?h3 ?hm ?hn ?h ?_); (case h1 => omega); (case h2 => omega); (case h3 => with_reducible assumption); (case hm => (exists "at")); (case hn => omega); (case h => (exists "nd")))))
local macro_rules | `(tactic| exists "sd") => `(tactic| exact sd_law_some _ _)
set_option maxHeartbeats 4000000 in
theorem ok_law_some (X : T K mg base) : FnG Pg w K mg base 2 X.a_law_some X.d_law_some ["_law_well_here", "_law_ends_here"] (spOf K 2 S_law_some) := by
  refine fn_ok4G X.F_law_some sc_law_some rfl (fun cdv A outer s H E hr hg => ⟨_, (pss_cons (ps_set (i := 2) sc_law_some.nd rfl (Or.inl rfl) (pe_callB (k_len (K := K) rfl) (by rfl) X.m_len (by decide +kernel) (pa_cons (pv 1) pa_nil)))
  (pss_cons (ps_set (i := 3) sc_law_some.nd rfl (Or.inl rfl) (pe_callG (ok_law_draw X) (hr.mono (by decide)) hg (by rfl) X.g_law_draw X.F_law_draw.kp X.b_law_draw .nil pass0 (pa_cons (pv 0) (pa_cons (pv 2) pa_nil))))
  (pss_cons (ps_set (i := 4) sc_law_some.nd rfl (Or.inl rfl) (pe_op op_mod (pe_op (k_add (K := K) rfl) (pe_op (k_add (K := K) rfl) (pv 3) pe_int) (pe_callG (ok_law_draw X) (hr.mono (by decide)) hg (by rfl) X.g_law_draw X.F_law_draw.kp X.b_law_draw .nil pass0 (pa_cons (pv 0) (pa_cons (pe_op op_sub (pv 2) pe_int) pa_nil)))) (pv 2)))
  (pss_cons (ps_set (i := 5) sc_law_some.nd rfl (Or.inr rfl) (pe_op op_mul (pe_callG (ok_law_want X) (hr.mono (by decide)) hg (by rfl) X.g_law_want X.F_law_want.kp X.b_law_want .nil pass0 (pa_cons (pv 1) (pa_cons (pv 3) (pa_cons (pv 4) pa_nil)))) (pe_ix (k_ix (K := K) rfl) (pe_lst (pa_cons pe_int (pa_cons pe_int (pa_cons pe_int pa_nil)))) (pe_callG (ok_law_draw X) (hr.mono (by decide)) hg (by rfl) X.g_law_draw X.F_law_draw.kp X.b_law_draw .nil pass0 (pa_cons (pv 0) (pa_cons pe_int pa_nil))) (fun _ _ => rfl))))
  (pss_cons (ps_set (i := 6) sc_law_some.nd rfl (Or.inl rfl) (pe_callG (ok_law_draw X) (hr.mono (by decide)) hg (by rfl) X.g_law_draw X.F_law_draw.kp X.b_law_draw .nil pass0 (pa_cons (pv 0) (pa_cons (pv 2) pa_nil))))
  (pss_cons (ps_set (i := 7) sc_law_some.nd rfl (Or.inl rfl) (pe_lst (pa_cons (pv 3) (pa_cons (pv 4) pa_nil))))
  (pss_cons (ps_for PassesOwn.never rfl (pi_range1 (by rfl) X.m_range (pa_cons (pv 2) pa_nil)) (pg_name (i := 8) sc_law_some.nd rfl (.inl rfl)) (pss_cons (ps_set (i := 9) sc_law_some.nd rfl (Or.inr rfl) (pe_op op_mod (pe_op (k_add (K := K) rfl) (pv 6) (pv 8)) (pv 2)))
  (pss_cons (ps_setLc (i := 10) (own := [("_law_here", 11)]) (g := gName 11) rfl sc_law_some.nd rfl rfl (sw_true rfl rfl rfl (by decide +kernel)) (WkE.k_iU (K := K) rfl (pv 7)) (blkOk_by (N := N_law_some) (sc := defScope s_law_some) (by decide +kernel)) (fun _ _ _ _ _ => (pg_name (i := 11) sc_law_some.nd rfl (.inl rfl))) (fun _ _ _ _ _ => (pts_one (pt_cmpR op_lt (pe_callG (ok_law_want X) (hr.mono (by decide)) hg (by rfl) X.g_law_want X.F_law_want.kp X.b_law_want .nil pass0 (pa_cons (pv 1) (pa_cons (pv 9) (pa_cons (pv 11) pa_nil)))) (pv 5) (nomark _)))) (fun _ _ _ _ _ => (pv 11)))
  (pss_one (ps_if (PW.pt (pw_and (pt_cmpR (k_nin (K := K) rfl) (pv 9) (pv 7) (by with_unfolding_all rfl)) (pw_and1 (pt_cmpR (k_eq (K := K) rfl hr.units) (pv 10) (pe_lst pa_nil) (nomark _))))) (pss_one (ps_expr (k_bm (K := K) rfl PySem.F.plainAttrs_list PySem.F.slot_list_append PySem.F.type_list_append mt_append (pv 7) (pa_cons (pv 9) pa_nil)))) pss_nil)))))
  (pss_one (ps_ret (pe_callB (k_sortedI (K := K) rfl) (by rfl) X.m_sorted (by decide +kernel) (pa_cons (pv 7) pa_nil))))))))))), ?_⟩)
  intro ds μ P hl h
  obtain ⟨d, es, i, n, rfl, h1, h2, h3, hm, hn, q⟩ := h
  (exists "ss")
  (exists "ss")
  rename_i one ho0 ho1
  (exists "ge")
  (exists "ss")
  rename_i k hk0 hk1
  obtain ⟨a, rfl⟩ := Int.eq_ofNat_of_zero_le ho0
  obtain ⟨b, rfl⟩ := Int.eq_ofNat_of_zero_le hk0
  have e : ((a : Int) + 1 + (b : Int)) % (es.length : Int) = (((a + 1 + b) % es.length : Nat) : Int) := by norm_cast
  rw [e]
  have hc1 : (a + 1 + b) % es.length < es.length := Nat.mod_lt _ (by omega)
  have hne : a ≠ (a + 1 + b) % es.length := by
    by_cases c : a + 1 + b < es.length
    · rw [Nat.mod_eq_of_lt c]; omega
    · rw [Nat.mod_eq_sub_mod (by omega), Nat.mod_eq_of_lt (by omega)]; omega
  generalize (a + 1 + b) % es.length = c at *
  (exists "go")
  refine w2_ixInts (cs := [1, 1, 0]) Lk.here rfl (by omega) (by show _ < 3; omega) fun v hv => ?_
  have hv2 : 0 ≤ v ∧ v ≤ 1 := by
    simp at hv
    rcases hv with rfl | rfl <;> omega
  (exists "ge")
  (exists "ss")
  rename_i t0 ht0 ht1
  obtain ⟨t, rfl⟩ := Int.eq_ofNat_of_zero_le ht0
  generalize wP es a c * v = wv
  (exists "go")
  rename_i p
  rw [Int.toNat_natCast]
  refine forR0 (fun j δ' μ' => ∃ S : List Nat, 2 ≤ S.length ∧ S.length ≤ 2 + j ∧ S.Nodup ∧ (∀ k ∈ S, k < es.length) ∧ δ' = L_law_some (v_well_here := some (.ref d)) (v_ends_here := some (.tup (es.map eD))) (v_many := some (jD es.length)) (v_one := some (jD a)) (v_other := some (jD c)) (v_want_here := some (.int wv)) (v_turn := some (jD t)) (v_some_here := some (.ref p)) ∧ μ' = (p, .lst (S.map jD)) :: μ.set i (d, wl (n + 4))) ⟨_, _, (by (exists "le")), weak_keep (by (exists "wk")), [a, c], Nat.le_refl _, Nat.le_refl _, by simp [hne], (fun k hk => by simp at hk; rcases hk with rfl | rfl <;> omega), rfl, rfl⟩ (fun _ _ _ _ => True.intro) ?_ ?_
  · rintro j δ' ν2 hj ⟨S, hS1, hS2, hS3, hS4, rfl, rfl⟩
    (exists "ge")
    (exists "ss")
    rw [show ((t : Int) + (j : Int)) % (es.length : Int) = (((t + j) % es.length : Nat) : Int) by norm_cast]
    have hth : (t + j) % es.length < es.length := Nat.mod_lt _ (by omega)
    generalize (t + j) % es.length = th at *
    (exists "go")
    refine lcF (es := S) (r := jD) (c := fun x => decide (wP es th x < wv)) (lt_size (by omega)) (by (exists "hG")) (fun x hx p1 acc => ?_) (fun p2 => ?_)
    · have b2 := hS4 x hx
      (exists "go")
      exact ⟨by (exists "wk"), fun _ => by ((exists "go"); (exists "rw"))⟩
    (exists "go")
    refine split_n (split_d (fun h5 => ?_) (fun h5 => ?_))
    · (exists "go")
      exact ⟨_, _, (by (exists "le")), (by (exists "wk")), S, hS1, by omega, hS3, hS4, rfl, rfl⟩
    (exists "go")
    refine w2_eqK Lk.here.cons Lk.here (sh_flat (flat_tup (n := 0) fun x hx => by
      obtain ⟨z, _, rfl⟩ := List.mem_map.mp hx
      exact flat_int) (by decide)) rfl ?_
    rw [eqBL_nil_r]
    (exists "go")
    refine split2 (fun h6 => ?_) (fun h6 => ?_)
    · (exists "go")
      rw [show S.map jD ++ [jD th] = (S ++ [th]).map jD from by rw [List.map_append]; rfl]
      refine ⟨_, _, (by (exists "le")), (by (exists "wk")), S ++ [th], by rw [List.length_append]; omega, by rw [List.length_append, List.length_singleton]; omega, ?_, fun k hk => ?_, rfl, rfl⟩
      · rw [List.nodup_append]
        exact ⟨hS3, by simp, fun x hx y hy => by rw [List.mem_singleton.mp hy]; intro e2; subst e2; exact h5 hx⟩
      · rcases List.mem_append.mp hk with hk | hk
        · exact hS4 k hk
        · rw [List.mem_singleton.mp hk]; exact hth
    · (exists "go")
      exact ⟨_, _, (by (exists "le")), (by (exists "wk")), S, hS1, by omega, hS3, hS4, rfl, rfl⟩
  rintro δ' ν2 ⟨S, hS1, hS2, hS3, hS4, rfl, rfl⟩
  (exists "go")
  rename_i p3 S' hp hle
  exact ⟨_, (by (exists "wk")), q _ S' ⟨by rw [hp.length_eq]; exact hS1, (hle.and (hp.nodup_iff.mpr hS3)).imp (fun ⟨k1, k2⟩ => by omega), fun k hk => hS4 k (hp.mem_iff.mp hk)⟩⟩
abbrev S_law_layers : SpD := fun ds μ P => ∃ (d : Addr) (es : List En) (i n : Nat), ds = [.ref d, .tup (es.map eD)] ∧ 1 ≤ es.length ∧ es.length ≤ 24 ∧ EnB es ∧ μ[i]? = some (d, wl n) ∧ n < 600000 ∧ ∀ R : List La, R.length ≤ 5 → (∀ r ∈ R, SoP es.length r.so) → GoodL es 0 R → P (.tup (R.map laD)) (μ.set i (d, wl (n + 50)))
theorem sp_layers {d : Addr} {es : List En} {i n : Nat} {μ μ' : Mu} {P : D → Mu → Prop} (h1 : 1 ≤ es.length) (h2 : es.length ≤ 24) (h3 : EnB es) (hm : μ[i]? = some (d, wl n)) (hn : n < 600000) (h : μ.set i (d, wl (n + 50)) = μ') (q : ∀ R : List La, R.length ≤ 5 → (∀ r ∈ R, SoP es.length r.so) → GoodL es 0 R → P (.tup (R.map laD)) μ') : S_law_layers [.ref d, .tup (es.map eD)] μ P := ⟨d, es, i, n, rfl, h1, h2, h3, hm, hn, by subst h; exact q⟩

local macro_rules | `(tactic| exists "gx") => `(tactic| first
  | (((with_reducible refine' sp_layers ?h1 ?h2 ?h3 ?hm ?hn ?h ?_); (case h1 => omega); (case h2 => omega); (case h3 => with_reducible assumption); (case hm => (exists "at")); (case hn => omega); (case h => (exists "nd")))))
local macro_rules | `(tactic| exists "sd") => `(tactic| exact sd_law_layers _ _)
set_option maxHeartbeats 4000000 in
theorem ok_law_layers (X : T K mg base) : FnG Pg w K mg base 3 X.a_law_layers X.d_law_layers ["_law_well_here", "_law_ends_here"] (spOf K 2 S_law_layers) := by
  refine fn_ok4G X.F_law_layers sc_law_layers rfl (fun cdv A outer s H E hr hg => ⟨_, (pss_cons (ps_set (i := 2) sc_law_layers.nd rfl (Or.inl rfl) (pe_lst pa_nil))
  (pss_cons (ps_set (i := 3) sc_law_layers.nd rfl (Or.inl rfl) pe_int)
  (pss_cons (ps_for PassesOwn.never rfl (pi_range1 (by rfl) X.m_range (pa_cons (pe_op op_mul (pe_callG (ok_law_draw X) (hr.mono (by decide)) hg (by rfl) X.g_law_draw X.F_law_draw.kp X.b_law_draw .nil pass0 (pa_cons (pv 0) (pa_cons pe_int pa_nil))) (pe_callTy call_int1 (by rfl) X.m_int (by decide +kernel) (pa_cons (pe_cmpR op_gt (pe_callB (k_len (K := K) rfl) (by rfl) X.m_len (by decide +kernel) (pa_cons (pv 1) pa_nil)) pe_int (nomark _)) pa_nil))) pa_nil)) (pg_name (i := 4) sc_law_layers.nd rfl (.inl rfl)) (pss_cons (ps_set (i := 5) sc_law_layers.nd rfl (Or.inl rfl) (pe_callG (ok_law_draw X) (hr.mono (by decide)) hg (by rfl) X.g_law_draw X.F_law_draw.kp X.b_law_draw .nil pass0 (pa_cons (pv 0) (pa_cons pe_int pa_nil))))
  (pss_cons (ps_set (i := 6) sc_law_layers.nd rfl (Or.inl rfl) (pe_callG (ok_law_some X) (hr.mono (by decide)) hg (by rfl) X.g_law_some X.F_law_some.kp X.b_law_some .nil pass0 (pa_cons (pv 0) (pa_cons (pv 1) pa_nil))))
  (pss_cons (ps_set (i := 7) sc_law_layers.nd rfl (Or.inl rfl) (pe_op (k_add (K := K) rfl) (pe_callB (k_max (K := K) rfl rfl) (by rfl) X.m_max (by decide +kernel) (pa_cons (pe_op (k_add (K := K) rfl) (pe_lst (pa_cons (pv 3) pa_nil)) (pe_lc (own := [("_law_one", 9)]) (g := gName 9) (tt := tYes) rfl sc_law_layers.nd (WkE.k_iU (K := K) rfl (pv 6)) (blkOk_by (N := N_law_layers) (sc := defScope s_law_layers) (by decide +kernel)) (fun _ _ _ _ _ => (pg_name (i := 9) sc_law_layers.nd rfl (.inl rfl))) (fun _ _ _ _ _ => pts_nil) (fun _ _ _ _ _ => (pe_op op_mul pe_int (pe_ix (k_ix (K := K) rfl) (pe_ix (k_ix (K := K) rfl) (pv 1) (pv 9) (fun _ _ => rfl)) pe_int (fun _ _ => rfl)))))) pa_nil)) (pe_op op_fdivW (pv 5) pe_int)))
  (pss_cons (ps_set (i := 8) sc_law_layers.nd rfl (Or.inl rfl) (pe_callG (ok_law_least_want X) (hr.mono (by decide)) hg (by rfl) X.g_law_least_want X.F_law_least_want.kp X.b_law_least_want .nil pass0 (pa_cons (pv 1) (pa_cons (pv 6) pa_nil))))
  (pss_one (ps_if (pt_cmpR op_lt (pv 7) (pv 8) (nomark _)) (pss_cons (ps_set (i := 8) sc_law_layers.nd rfl (Or.inl rfl) (pe_ix (k_ix (K := K) rfl) (pe_lst (pa_cons (pv 8) (pa_cons (pe_op (k_add (K := K) rfl) (pe_op (k_add (K := K) rfl) (pv 7) pe_int) (pe_callG (ok_law_draw X) (hr.mono (by decide)) hg (by rfl) X.g_law_draw X.F_law_draw.kp X.b_law_draw .nil pass0 (pa_cons (pv 0) (pa_cons (pe_op op_sub (pv 8) (pv 7)) pa_nil)))) (pa_cons (pe_op op_fdivW (pe_op (k_add (K := K) rfl) (pe_op (k_add (K := K) rfl) (pv 7) (pv 8)) pe_int) pe_int) pa_nil)))) (pe_callG (ok_law_draw X) (hr.mono (by decide)) hg (by rfl) X.g_law_draw X.F_law_draw.kp X.b_law_draw .nil pass0 (pa_cons (pv 0) (pa_cons pe_int pa_nil))) (fun _ _ => rfl)))
  (pss_cons (ps_expr (k_bm (K := K) rfl PySem.F.plainAttrs_list PySem.F.slot_list_append PySem.F.type_list_append mt_append (pv 2) (pa_cons (pe_tup (pa_cons (pv 7) (pa_cons (pv 8) (pa_cons (pe_callTy (k_tup (K := K) rfl) (by rfl) X.m_tuple (by decide +kernel) (pa_cons (pv 6) pa_nil)) pa_nil)))) pa_nil)))
  (pss_one (ps_set (i := 3) sc_law_layers.nd rfl (Or.inl rfl) (pv 8))))) pss_nil)))))))
  (pss_one (ps_ret (pe_callTy (k_tup (K := K) rfl) (by rfl) X.m_tuple (by decide +kernel) (pa_cons (pv 2) pa_nil))))))), ?_⟩)
  intro ds μ P hl h
  obtain ⟨d, es, i, n, rfl, h1, h2, h3, hm, hn, q⟩ := h
  (exists "go")
  rename_i p k hk0 hk1
  have hb : 0 ≤ k * (if decide (1 < (es.length : Int)) = true then (1 : Int) else 0) ∧ k * (if decide (1 < (es.length : Int)) = true then (1 : Int) else 0) ≤ 5 := by split <;> omega
  have hb2 : es.length = 1 → k * (if decide (1 < (es.length : Int)) = true then (1 : Int) else 0) = 0 := fun e => by rw [e]; simp
  generalize k * (if decide (1 < (es.length : Int)) = true then (1 : Int) else 0) = kk at *
  obtain ⟨c, rfl⟩ := Int.eq_ofNat_of_zero_le hb.1
  refine ⟨⟨by omega, by omega⟩, ?_⟩
  rw [Int.toNat_natCast]
  refine forR0 (fun j δ' μ' => ∃ R : List La, R.length ≤ j ∧ (∀ r ∈ R, SoP es.length r.so) ∧ GoodL es 0 R ∧ 0 ≤ lastH 0 R ∧ δ' = L_law_layers (v_well_here := some (.ref d)) (v_ends_here := some (.tup (es.map eD))) (v_found := some (.ref p)) (v_ahead := some (.int (lastH 0 R))) ∧ μ' = (p, .lst (R.map laD)) :: μ.set i (d, wl (n + 1 + 7 * j))) ⟨_, _, (by (exists "le")), weak_keep (by (exists "wk")), [], Nat.le_refl _, (fun _ h => nomatch h), True.intro, Int.le_refl _, rfl, rfl⟩ (fun _ _ _ _ => True.intro) ?_ ?_
  · rintro j δ' ν2 hj ⟨R, hR1, hR2, hR3, hR4, rfl, rfl⟩
    have h4 : 2 ≤ es.length := by
      by_cases e : es.length = 1
      · have := hb2 e; omega
      · omega
    (exists "ge")
    (exists "ss")
    rename_i nr hnr0 hnr1
    (exists "ss")
    rename_i ps S hS
    have hSl := hS.len
    have hS2 := hS.two
    (exists "go")
    rename_i p9
    refine lcM (es := S) (r := fun a => D.int (2 * (eAt es a).s)) (lt_size (by omega)) (by (exists "hG")) (fun x hx p1 acc => ?_) (fun p2 => ?_)
    · have ge := eAt_get (hS.low x hx)
      (exists "go")
      (exists "rw")
    refine w2_addK Lk.here.cons Lk.here (le_size (by rw [List.length_map, List.length_singleton]; omega)) fun p3 => ?_
    rw [show [D.int (lastH 0 R)] ++ S.map (fun a => D.int (2 * (eAt es a).s)) = (lastH 0 R :: S.map fun a => 2 * (eAt es a).s).map D.int from by rw [List.map_cons, List.map_map]; rfl]
    have m1 := maxL_ge (lastH 0 R :: S.map fun a => 2 * (eAt es a).s)
    obtain ⟨mx, hmx⟩ : ∃ mx, mx = maxL (lastH 0 R :: S.map fun a => 2 * (eAt es a).s) := ⟨_, rfl⟩
    have m2 := m1 _ List.mem_cons_self
    have m3 : ∀ a ∈ S, 2 * (eAt es a).s ≤ maxL (lastH 0 R :: S.map fun a => 2 * (eAt es a).s) := fun a ha => m1 _ (List.mem_cons_of_mem _ (List.mem_map.mpr ⟨a, ha, rfl⟩))
    have hlw := h3.lw hS2
    (exists "ge")
    rw [← hmx] at *
    obtain ⟨lo, hlo⟩ : ∃ lo, lo = mx + nr / 2 := ⟨_, rfl⟩
    rw [← hlo]
    (exists "go")
    refine split_d (fun hc => ?_) (fun hc => ?_)
    · (exists "go")
      rename_i k1 hk10 hk11 p5 k2 hk20 hk21
      refine w2_ixInts (cs := [lwN es S, lo + 1 + k1, (lo + lwN es S + 1) / 2]) Lk.here rfl (by omega) (by show _ < 3; omega) fun v hv => ?_
      have hv2 : lo < v ∧ v ≤ lwN es S := by
        simp only [List.mem_cons, List.not_mem_nil, or_false] at hv
        rcases hv with rfl | rfl | rfl <;> omega
      have hLay : LayP es (lastH 0 R) ⟨lo, v, S⟩ := by
        refine ⟨⟨by show 0 ≤ lo; omega, by show 0 ≤ v; omega, by show lastH 0 R ≤ lo; omega, hv2.1⟩, fun a ha => ?_, (lwN_le hS2).mp hv2.2⟩
        have := m3 a ha
        show _ ≤ lo
        omega
      (exists "go")
      rw [show R.map laD ++ [D.tup [D.int lo, D.int v, D.tup (S.map jD)]] = (R ++ [(⟨lo, v, S⟩ : La)]).map laD from by rw [List.map_append]; rfl]
      have eL : lastH 0 (R ++ [(⟨lo, v, S⟩ : La)]) = v := lastH_snoc
      refine ⟨L_law_layers (v_well_here := some (.ref d)) (v_ends_here := some (.tup (es.map eD))) (v_found := some (.ref p)) (v_ahead := some (.int (lastH 0 (R ++ [(⟨lo, v, S⟩ : La)])))), _, (by rw [eL]; (exists "le")), (by (exists "wk")), R ++ [⟨lo, v, S⟩], by rw [List.length_append, List.length_singleton]; omega, fun r hr => ?_, hR3.snoc hLay, ?_, rfl, rfl⟩
      · rcases List.mem_append.mp hr with hr | hr
        · exact hR2 r hr
        · rw [List.mem_singleton.mp hr]; exact hS
      · rw [eL]; omega
    · (exists "go")
      exact ⟨_, _, (by (exists "le")), (by (exists "wk")), R, by omega, hR2, hR3, hR4, rfl, rfl⟩
  rintro δ' ν2 ⟨R, hR1, hR2, hR3, hR4, rfl, rfl⟩
  (exists "go")
  exact ⟨_, (by (exists "wk")), q R (by omega) hR2 hR3⟩
  
abbrev S_law_is_whole : SpD := fun ds μ P => ∃ x : D, ds = [x] ∧ x.thg = true ∧ P (.bl (whD x)) μ
theorem sp_lis_whole {x : D} {μ : Mu} {P : D → Mu → Prop} (h : x.thg = true) (q : P (.bl (whD x)) μ) : S_law_is_whole [x] μ P := ⟨x, rfl, h, q⟩

local macro_rules | `(tactic| exists "gx") => `(tactic| first
  | (((with_reducible refine' sp_lis_whole ?h ?_); (case h => first | with_reducible assumption | rfl))))
local macro_rules | `(tactic| exists "sd") => `(tactic| exact sd_law_is_whole _)
set_option maxHeartbeats 4000000 in
theorem ok_law_is_whole (X : T K mg base) : FnG Pg w K mg base 1 X.a_law_is_whole X.d_law_is_whole ["_law_thing"] (spOf K 1 S_law_is_whole) := by
  refine fn_ok4G X.F_law_is_whole sc_law_is_whole rfl (fun cdv A outer s H E hr hg => ⟨_, (pss_one (ps_ret (pe_and (pe_callB (k_isi (K := K) rfl) (by rfl) X.m_isinstance (by decide +kernel) (pa_cons (pv 0) (pa_cons (pe_bltn (v := .ty "int") (by rfl) X.m_int (by decide +kernel) rfl) pa_nil))) (pe_and (pe_not (pe_callB (k_isi (K := K) rfl) (by rfl) X.m_isinstance (by decide +kernel) (pa_cons (pv 0) (pa_cons (pe_bltn (v := .ty "bool") (by rfl) X.m_bool (by decide +kernel) rfl) pa_nil)))) (pe_one (pe_cmpR op_ge (pv 0) pe_int (nomark _))))))), ?_⟩)
  intro ds μ P hl h
  obtain ⟨x, rfl, h, q⟩ := h
  cases x with
  | ref a => cases h
  | ty n => cases h
  | scr ns => cases h
  | _ =>
    (exists "go")
    exact ⟨_, Weak.refl, q⟩
abbrev S_law_is_layer : SpD := fun ds μ P => ∃ (es : List En) (ah : Int) (x : D), ds = [.tup (es.map eD), .int ah, x] ∧ x.thg = true ∧ (∀ xs, x = .tup xs → ∀ y ∈ xs, ∀ ys, y = .tup ys → ys.length ≤ 100) ∧ es.length ≤ 24 ∧ P (.bl (laB es ah x)) μ
theorem sp_lis_layer {es : List En} {ah : Int} {x : D} {μ : Mu} {P : D → Mu → Prop} (h1 : x.thg = true) (h3 : ∀ xs, x = .tup xs → ∀ y ∈ xs, ∀ ys, y = .tup ys → ys.length ≤ 100) (h2 : es.length ≤ 24) (q : P (.bl (laB es ah x)) μ) : S_law_is_layer [.tup (es.map eD), .int ah, x] μ P := ⟨es, ah, x, rfl, h1, h3, h2, q⟩

local macro_rules | `(tactic| exists "gx") => `(tactic| first
  | (((with_reducible refine' sp_lis_layer ?h1 ?h3 ?h2 ?_); (case h1 => with_reducible assumption); (case h3 => with_reducible assumption); (case h2 => omega))))
local macro_rules | `(tactic| exists "sd") => `(tactic| exact sd_law_is_layer _ _ _)
set_option maxHeartbeats 4000000 in
theorem ok_law_is_layer (X : T K mg base) : FnG Pg w K mg base 3 X.a_law_is_layer X.d_law_is_layer ["_law_ends_here", "_law_ahead", "_law_row"] (spOf K 3 S_law_is_layer) := by
  refine fn_ok4G X.F_law_is_layer sc_law_is_layer rfl (fun cdv A outer s H E hr hg => ⟨_, (pss_cons (ps_if (PW.pt (pw_or (pt_not (pt_val (pe_callB (k_isi (K := K) rfl) (by rfl) X.m_isinstance (by decide +kernel) (pa_cons (pv 2) (pa_cons (pe_bltn (v := .ty "tuple") (by rfl) X.m_tuple (by decide +kernel) rfl) pa_nil))))) (pw_or (pt_cmpR (WkE.op_neU (K := K) rfl hr.units) (pe_callB (k_len (K := K) rfl) (by rfl) X.m_len (by decide +kernel) (pa_cons (pv 2) pa_nil)) pe_int (nomark _)) (pw_or (pt_not (pt_val (pe_callG (ok_law_is_whole X) (hr.mono (by decide)) hg (by rfl) X.g_law_is_whole X.F_law_is_whole.kp X.b_law_is_whole .nil pass0 (pa_cons (pe_ix (k_ix (K := K) rfl) (pv 2) pe_int (fun _ _ => rfl)) pa_nil)))) (pw_or1 (pt_not (pt_val (pe_callG (ok_law_is_whole X) (hr.mono (by decide)) hg (by rfl) X.g_law_is_whole X.F_law_is_whole.kp X.b_law_is_whole .nil pass0 (pa_cons (pe_ix (k_ix (K := K) rfl) (pv 2) pe_int (fun _ _ => rfl)) pa_nil))))))))) (pss_one (ps_ret pe_bl)) pss_nil)
  (pss_cons (ps_asg (pv 2) (k_gtup (K := K) (n := 3) rfl (by rfl) (pgs_cons (pg_name (i := 3) sc_law_is_layer.nd rfl (.inl rfl)) (pgs_cons (pg_name (i := 4) sc_law_is_layer.nd rfl (.inl rfl)) (pgs_cons (pg_name (i := 5) sc_law_is_layer.nd rfl (.inl rfl)) pgs_nil)))))
  (pss_cons (ps_if (PW.pt (pw_or (pt_not (pt_chain op_le op_lt (pv 1) (pv 3) (pv 4))) (pw_or (pt_not (pt_val (pe_callB (k_isi (K := K) rfl) (by rfl) X.m_isinstance (by decide +kernel) (pa_cons (pv 5) (pa_cons (pe_bltn (v := .ty "tuple") (by rfl) X.m_tuple (by decide +kernel) rfl) pa_nil))))) (pw_or1 (pt_cmpR op_lt (pe_callB (k_len (K := K) rfl) (by rfl) X.m_len (by decide +kernel) (pa_cons (pv 5) pa_nil)) pe_int (nomark _)))))) (pss_one (ps_ret pe_bl)) pss_nil)
  (pss_cons (ps_if (pt_cmpR (WkE.op_neU (K := K) rfl hr.units) (pe_lc (own := [("_law_one", 6)]) (g := gName 6) rfl sc_law_is_layer.nd (WkE.k_iU (K := K) rfl (pv 5)) (blkOk_by (N := N_law_is_layer) (sc := defScope s_law_is_layer) (by decide +kernel)) (fun _ _ _ _ _ => (pg_name (i := 6) sc_law_is_layer.nd rfl (.inl rfl))) (fun _ _ _ _ _ => (pts_one (PW.pt (pw_or (pt_not (pt_val (pe_callG (ok_law_is_whole X) (hr.mono (by decide)) hg (by rfl) X.g_law_is_whole X.F_law_is_whole.kp X.b_law_is_whole .nil pass0 (pa_cons (pv 6) pa_nil)))) (pw_or1 (pt_cmpR op_ge (pv 6) (pe_callB (k_len (K := K) rfl) (by rfl) X.m_len (by decide +kernel) (pa_cons (pv 0) pa_nil)) (nomark _))))))) (fun _ _ _ _ _ => (pv 6))) (pe_lst pa_nil) (nomark _)) (pss_one (ps_ret pe_bl)) pss_nil)
  (pss_cons (ps_if (pt_cmpR (WkE.op_neU (K := K) rfl hr.units) (pe_callTy (k_lst (K := K) rfl) (by rfl) X.m_list (by decide +kernel) (pa_cons (pv 5) pa_nil)) (pe_callB (k_sset (w := w) rfl rfl) (by rfl) X.m_sorted (by decide +kernel) (pa_cons (pe_callTy (cr_setI (K := K) (w := w) rfl rfl rfl) (by rfl) X.m_set (by decide +kernel) (pa_cons (pv 5) pa_nil)) pa_nil)) (nomark _)) (pss_one (ps_ret pe_bl)) pss_nil)
  (pss_one (ps_ret (pe_and (pe_cmpR op_ge (pe_callG (ok_law_least_want X) (hr.mono (by decide)) hg (by rfl) X.g_law_least_want X.F_law_least_want.kp X.b_law_least_want .nil pass0 (pa_cons (pv 0) (pa_cons (pv 5) pa_nil))) (pv 4) (nomark _)) (pe_one (pe_cmpR op_le (pe_op op_mul pe_int (pe_callB (k_max (K := K) rfl rfl) (by rfl) X.m_max (by decide +kernel) (pa_cons (pe_lc (own := [("_law_one", 6)]) (g := gName 6) (tt := tYes) rfl sc_law_is_layer.nd (WkE.k_iU (K := K) rfl (pv 5)) (blkOk_by (N := N_law_is_layer) (sc := defScope s_law_is_layer) (by decide +kernel)) (fun _ _ _ _ _ => (pg_name (i := 6) sc_law_is_layer.nd rfl (.inl rfl))) (fun _ _ _ _ _ => pts_nil) (fun _ _ _ _ _ => (pe_ix (k_ix (K := K) rfl) (pe_ix (k_ix (K := K) rfl) (pv 0) (pv 6) (fun _ _ => rfl)) pe_int (fun _ _ => rfl)))) pa_nil))) (pv 3) (nomark _))))))))))), ?_⟩)
  intro ds μ P hl h
  obtain ⟨es, ah, x, rfl, h1, h3, h2, q⟩ := h
  have nol : (¬ LaD es ah x) → P (.bl false) μ := fun h => by rw [laB_f h] at q; exact q
  cases x with
  | tup xs =>
    have h5 := thg_tup.mp h1
    have h4 := h3 xs rfl
    by_cases hc2 : xs.length = 3
    · obtain ⟨a, b, c, rfl⟩ : ∃ a b c, xs = [a, b, c] := by
        match xs, hc2 with
        | [a, b, c], _ => exact ⟨a, b, c, rfl⟩
      have ha := h5 a (by simp)
      have hb := h5 b (by simp)
      have hcc := h5 c (by simp)
      have h4c := h4 c (by simp)
      (exists "go")
      cases hw1 : whD a with
      | false =>
        have q9 := nol (fun ⟨r, e, _, hL⟩ => by
          simp only [laD, D.tup.injEq, List.cons.injEq, and_true] at e
          rw [e.1, show whD (D.int r.lo) = true from decide_eq_true hL.1.1] at hw1
          cases hw1)
        (exists "go")
        exact ⟨_, Weak.refl, q9⟩
      | true =>
      obtain ⟨lo, rfl⟩ := whD_ex hw1
      (exists "go")
      cases hw2 : whD b with
      | false =>
        have q9 := nol (fun ⟨r, e, _, hL⟩ => by
          simp only [laD, D.tup.injEq, List.cons.injEq, and_true] at e
          rw [e.2.1, show whD (D.int r.hi) = true from decide_eq_true hL.1.2.1] at hw2
          cases hw2)
        (exists "go")
        exact ⟨_, Weak.refl, q9⟩
      | true =>
      obtain ⟨hi, rfl⟩ := whD_ex hw2
      have bad : ¬ (ah ≤ (lo : Int) ∧ (lo : Int) < (hi : Int)) → P (.bl false) μ := fun hn => nol (fun ⟨r, e, _, hL⟩ => by
        simp only [laD, D.tup.injEq, List.cons.injEq, D.int.injEq, and_true] at e
        exact hn ⟨by rw [e.1]; exact hL.1.2.2.1, by rw [e.1, e.2.1]; exact hL.1.2.2.2⟩)
      have nos : ¬ SomeD es.length c → P (.bl false) μ := fun hn => nol (fun ⟨r, e, hS, _⟩ => by
        simp only [laD, D.tup.injEq, List.cons.injEq, and_true] at e
        exact hn ⟨r.so, e.2.2, hS⟩)
      (exists "go")
      refine split_d (fun k3 => ?_) (fun k3 => ?_)
      · (exists "go")
        refine split_n (split_d (fun k4 => ?_) (fun k4 => ?_))
        · (exists "go")
          cases c with
          | tup cs =>
            have h8 := h4c cs rfl
            have h9 := thg_tup.mp hcc
            (exists "go")
            refine split_d (fun k5 => ?_) (fun k5 => ?_)
            · have q9 := nos (fun ⟨S, e, hS⟩ => by
                cases e
                have := hS.two
                rw [List.length_map] at k5
                omega)
              (exists "go")
              exact ⟨_, Weak.refl, q9⟩
            (exists "go")
            refine lcFd (r := fun z => z) (c := fun z => !endB es.length z) (lt_size (by omega)) (by (exists "hG")) (fun z hz p1 acc => ?_) (fun p1 => ?_)
            · have hz2 := h9 z hz
              cases z with
              | int i =>
                (exists "go")
                cases hw : whD (D.int i) with
                | true =>
                  have h0 : 0 ≤ i := of_decide_eq_true (show decide (0 ≤ i) = true from hw)
                  (exists "go")
                  refine ⟨?_, (by (exists "wk")), fun _ => ?_⟩
                  · show decide ((es.length : Int) ≤ i) = !decide (0 ≤ i ∧ i < (es.length : Int))
                    by_cases c : (es.length : Int) ≤ i
                    · rw [decide_eq_true c, decide_eq_false (show ¬ (0 ≤ i ∧ i < (es.length : Int)) by omega)]; rfl
                    · rw [decide_eq_false c, decide_eq_true (show 0 ≤ i ∧ i < (es.length : Int) by omega)]; rfl
                  · (exists "go")
                    (exists "rw")
                | false =>
                  have h0 : ¬ 0 ≤ i := of_decide_eq_false (show decide (0 ≤ i) = false from hw)
                  (exists "go")
                  refine ⟨?_, (by (exists "wk")), fun _ => ?_⟩
                  · show true = !decide (0 ≤ i ∧ i < (es.length : Int))
                    rw [decide_eq_false (show ¬ (0 ≤ i ∧ i < (es.length : Int)) by omega)]; rfl
                  · (exists "go")
                    (exists "rw")
              | ref a => cases hz2
              | ty n => cases hz2
              | scr ns => cases hz2
              | _ =>
                (exists "go")
                refine ⟨fun _ => ⟨rfl, (by (exists "wk")), fun _ => ?_⟩, fun h => absurd (show true = false from h) Bool.noConfusion⟩
                (exists "go")
                (exists "rw")
            rw [List.map_id']
            cases hf : cs.filter (fun z => !endB es.length z) with
            | cons f0 fr =>
              have q9 := nos (fun ⟨S, e, hS⟩ => by
                cases e
                have hm : f0 ∈ (S.map jD).filter (fun z => !endB es.length z) := by rw [hf]; exact List.mem_cons_self
                obtain ⟨h10, h11⟩ := List.mem_filter.mp hm
                obtain ⟨n, hn, rfl⟩ := List.mem_map.mp h10
                rw [endB_jD (hS.low n hn)] at h11
                cases h11)
              (exists "go")
              (exists "tt")
              (exists "go")
              exact ⟨_, (by (exists "wk")), q9⟩
            | nil =>
              obtain ⟨S, rfl, hS⟩ := endB_all (m := es.length) (xs := cs) fun z hz => by
                cases h10 : endB es.length z with
                | true => rfl
                | false =>
                  have : z ∈ cs.filter (fun z => !endB es.length z) := List.mem_filter.mpr ⟨hz, by rw [h10]; rfl⟩
                  rw [hf] at this; cases this
              rw [List.length_map] at h8 k5
              (exists "go")
              (exists "ff")
              (exists "go")
              refine ⟨by omega, ⟨24, by omega, fun k hk => by have := hS k hk; omega⟩, fun p5 js' hp5 hm5 => ?_⟩
              refine w2_neUd (w2_neK Lk.here.cons Lk.here (sh_flat (flat_tup (n := 0) fun x hx => by
                obtain ⟨z, _, rfl⟩ := List.mem_map.mp hx
                exact flat_int) (by decide)) (sh_flat (flat_tup (n := 0) fun x hx => by
                obtain ⟨z, _, rfl⟩ := List.mem_map.mp hx
                exact flat_int) (by decide)) ?_)
              rw [eqBL_jD]
              (exists "go")
              refine split_n (split_d (fun k6 => ?_) (fun k6 => ?_))
              · have hSo : SoP es.length S := ⟨by omega, by rw [k6]; exact hp5, hS⟩
                have e9 : laB es ah (.tup [jD lo, jD hi, .tup (S.map jD)]) = decide (AptP es lo hi S) := by
                  rw [show D.tup [jD lo, jD hi, .tup (S.map jD)] = laD ⟨lo, hi, S⟩ from rfl, laB_r hSo]
                  exact decide_eq_decide.mpr ⟨fun h => h.2, fun h => ⟨⟨by show 0 ≤ (lo : Int); omega, by show 0 ≤ (hi : Int); omega, k3, k4⟩, h⟩⟩
                rw [e9] at q
                (exists "go")
                have eA : AptP es lo hi S ↔ (hi : Int) ≤ lwN es S ∧ ∀ a ∈ S, 2 * (eAt es a).s ≤ (lo : Int) := by
                  rw [lwN_le hSo.two]; exact and_comm
                refine split2 (fun h6 => ?_) (fun h6 => ?_)
                · (exists "go")
                  refine lcM (es := S) (r := fun a => D.int (eAt es a).s) (lt_size (by omega)) (by (exists "hG")) (fun x hx p1 acc => ?_) (fun p7 => ?_)
                  · have ge := eAt_get (hS x hx)
                    (exists "go")
                    (exists "rw")
                  have hne : S ≠ [] := fun e => by have := hSo.two; rw [e] at this; cases this
                  have m1 := maxL_ge (S.map fun a => (eAt es a).s)
                  have m2 := maxL_mem (S.map fun a => (eAt es a).s) (by simpa using hne)
                  refine wa_nil (wc_maxK (h := fun a => (eAt es a).s) Lk.here hne ?_)
                  obtain ⟨b, hb, eb⟩ := List.mem_map.mp m2
                  generalize maxL (S.map fun a => (eAt es a).s) = mx at *
                  (exists "go")
                  refine ⟨μ, (by (exists "wk")), ?_⟩
                  rw [show decide (2 * mx ≤ (lo : Int)) = decide (AptP es lo hi S) from decide_eq_decide.mpr ?_]
                  · exact q
                  rw [eA]
                  constructor
                  · intro k
                    exact ⟨of_decide_eq_true h6, fun a ha => by have := m1 _ (List.mem_map.mpr ⟨a, ha, rfl⟩); omega⟩
                  · rintro ⟨_, k⟩
                    have := k b hb
                    omega
                · have : ¬ AptP es lo hi S := fun k => of_decide_eq_false h6 (eA.mp k).1
                  rw [decide_eq_false this] at q
                  exact ⟨_, (by (exists "wk")), q⟩
              · have q9 := nos (fun ⟨T, e, hT⟩ => k6 (by
                  injection e with e
                  have e := jDs_inj e
                  subst e
                  exact rise_ext hT.rise hp5 fun x => (hm5 x).symm))
                (exists "go")
                exact ⟨_, (by (exists "wk")), q9⟩
          | ref a => cases hcc
          | ty n => cases hcc
          | scr ns => cases hcc
          | _ =>
            have q9 := nos (fun ⟨S, e, _⟩ => nomatch e)
            (exists "go")
            exact ⟨_, Weak.refl, q9⟩
        · have q9 := bad (fun h => k4 h.2)
          (exists "go")
          exact ⟨_, Weak.refl, q9⟩
      · have q9 := bad (fun h => k3 h.1)
        (exists "go")
        exact ⟨_, Weak.refl, q9⟩
    · have q9 := nol (fun ⟨r, e, _⟩ => by cases e; exact hc2 rfl)
      (exists "go")
      exact ⟨_, Weak.refl, q9⟩
  | ref a => cases h1
  | ty n => cases h1
  | scr ns => cases h1
  | _ =>
    have q9 := nol (fun ⟨r, e, _⟩ => nomatch e)
    (exists "go")
    exact ⟨_, Weak.refl, q9⟩
abbrev S_law_due : SpD := fun ds μ P => ∃ (es : List En) (x : D), ds = [.tup (es.map eD), x] ∧ PpB x ∧ es.length ≤ 24 ∧ P (shT es x) μ
theorem sp_due {es : List En} {x : D} {μ : Mu} {P : D → Mu → Prop} (h1 : PpB x) (h2 : es.length ≤ 24) (q : P (shT es x) μ) : S_law_due [.tup (es.map eD), x] μ P := ⟨es, x, rfl, h1, h2, q⟩

local macro_rules | `(tactic| exists "gx") => `(tactic| first
  | (((with_reducible refine' sp_due ?h1 ?h2 ?_); (case h1 => with_reducible assumption); (case h2 => omega))))
local macro_rules | `(tactic| exists "sd") => `(tactic| exact sd_law_due _ _)
set_option maxHeartbeats 4000000 in
theorem ok_law_due (X : T K mg base) : FnG Pg w K mg base 4 X.a_law_due X.d_law_due ["_law_ends_here", "_law_thing"] (spOf K 2 S_law_due) := by
  refine fn_ok4G X.F_law_due sc_law_due rfl (fun cdv A outer s H E hr hg => ⟨_, (pss_cons (ps_if (pt_not (pt_val (pe_callB (k_isi (K := K) rfl) (by rfl) X.m_isinstance (by decide +kernel) (pa_cons (pv 1) (pa_cons (pe_bltn (v := .ty "tuple") (by rfl) X.m_tuple (by decide +kernel) rfl) pa_nil))))) (pss_one (ps_ret pe_non)) pss_nil)
  (pss_cons (ps_set (i := 2) sc_law_due.nd rfl (Or.inl rfl) pe_int)
  (pss_cons (ps_set (i := 3) sc_law_due.nd rfl (Or.inl rfl) pe_int)
  (pss_cons (ps_for PassesOwn.never rfl (WkE.k_iU (K := K) rfl (pv 1)) (pg_name (i := 4) sc_law_due.nd rfl (.inl rfl)) (pss_cons (ps_if (pt_not (pt_val (pe_callG (ok_law_is_layer X) (hr.mono (by decide)) hg (by rfl) X.g_law_is_layer X.F_law_is_layer.kp X.b_law_is_layer .nil pass0 (pa_cons (pv 0) (pa_cons (pv 2) (pa_cons (pv 4) pa_nil)))))) (pss_one (ps_ret pe_non)) pss_nil)
  (pss_cons (ps_set (i := 2) sc_law_due.nd rfl (Or.inl rfl) (pe_ix (k_ix (K := K) rfl) (pv 4) pe_int (fun _ _ => rfl)))
  (pss_one (ps_set (i := 3) sc_law_due.nd rfl (Or.inl rfl) (pe_op (k_add (K := K) rfl) (pv 3) (pe_op op_mul (pe_op op_sub (pe_ix (k_ix (K := K) rfl) (pv 4) pe_int (fun _ _ => rfl)) (pe_ix (k_ix (K := K) rfl) (pv 4) pe_int (fun _ _ => rfl))) (pe_callB (k_len (K := K) rfl) (by rfl) X.m_len (by decide +kernel) (pa_cons (pe_ix (k_ix (K := K) rfl) (pv 4) pe_int (fun _ _ => rfl)) pa_nil)))))))))
  (pss_one (ps_ret (pv 3))))))), ?_⟩)
  intro ds μ P hl h
  obtain ⟨es, x, rfl, ⟨h1, h3⟩, h2, q⟩ := h
  cases x with
  | tup xs =>
    have h5 := thg_tup.mp h1
    obtain ⟨h6, h7⟩ := h3 xs rfl
    (exists "go")
    refine forD (fun pre δ' μ' => ∃ ah sh : Int, (∀ suf, xs = pre ++ suf → shT es (.tup xs) = shwD es ah sh suf) ∧ δ' = L_law_due (v_ends_here := some (.tup (es.map eD))) (v_thing := some (.tup xs)) (v_ahead := some (.int ah)) (v_shown := some (.int sh)) ∧ μ' = μ) ⟨_, _, (by (exists "le")), Weak.refl, 0, 0, fun suf h => by rw [List.nil_append] at h; subst h; rfl, rfl, rfl⟩ (fun _ _ _ _ => True.intro) ?_ ?_
    · rintro pre x suf δ' ν hx ⟨ah, sh, hA, rfl, rfl⟩
      have hxm : x ∈ xs := by rw [hx]; simp
      have hx1 := h5 x hxm
      have hx2 := h7 x hxm
      have hA2 := hA _ hx
      (exists "go")
      cases hb : laB es ah x with
      | true =>
        obtain ⟨r, rfl, hS, hL⟩ := laB_ex hb
        have hSl := hS.len
        rw [shwD_yes hS hL] at hA2
        (exists "go")
        refine ⟨_, _, (by (exists "le")), Weak.refl, r.hi, sh + (r.hi - r.lo) * (r.so.length : Int), fun suf2 h => ?_, rfl, rfl⟩
        have := hA _ (show xs = pre ++ laD r :: suf2 by rw [h, List.append_assoc]; rfl)
        rw [this, shwD_yes hS hL]
      | false =>
        rw [hA2, shwD_no (fun k => by rw [show laB es ah x = true from decide_eq_true k] at hb; cases hb)] at q
        (exists "go")
        exact ⟨_, Weak.refl, q⟩
    rintro δ' ν ⟨ah, sh, hA, rfl, rfl⟩
    have hA2 := hA [] (List.append_nil _).symm
    (exists "go")
    rw [hA2] at q
    exact ⟨_, Weak.refl, q⟩
  | ref a => cases h1
  | ty n => cases h1
  | scr ns => cases h1
  | _ =>
    replace q := shT_noP (P := P) (μ := μ) q (fun xs h => nomatch h)
    (exists "go")
    exact ⟨_, Weak.refl, q⟩
abbrev S_law_told : SpD := fun ds μ P => ∃ (es : List En) (x : D), ds = [.tup (es.map eD), x, shT es x] ∧ PpB x ∧ es.length ≤ 24 ∧ P (.bl true) μ
theorem sp_told {es : List En} {x y : D} {μ : Mu} {P : D → Mu → Prop} (h0 : y = shT es x) (h1 : PpB x) (h2 : es.length ≤ 24) (q : P (.bl true) μ) : S_law_told [.tup (es.map eD), x, y] μ P := ⟨es, x, by rw [h0], h1, h2, q⟩

local macro_rules | `(tactic| exists "gx") => `(tactic| first
  | (((with_reducible refine' sp_told ?h0 ?h1 ?h2 ?_); (case h0 => first | with_reducible assumption | rfl); (case h1 => with_reducible assumption); (case h2 => omega))))
local macro_rules | `(tactic| exists "sd") => `(tactic| exact sd_law_told _ _ _)
set_option maxHeartbeats 4000000 in
theorem ok_law_told (X : T K mg base) : FnG Pg w K mg base 6 X.a_law_told X.d_law_told ["_law_ends_here", "_law_thing", "_law_due_here"] (spOf K 3 S_law_told) := by
  refine fn_ok4G X.F_law_told sc_law_told rfl (fun cdv A outer s H E hr hg => ⟨_, (pss_cons (ps_set (i := 3) sc_law_told.nd rfl (Or.inl rfl) (pe_callG (ok_layers_shown X) (hr.mono (by decide)) hg (by rfl) X.g_layers_shown X.F_layers_shown.kp X.b_layers_shown .nil pass0 (pa_cons (pv 0) (pa_cons (pv 1) pa_nil))))
  (pss_cons (ps_if (pt_cmpR op_isN (pv 2) pe_non (nomark _)) (pss_one (ps_ret (pe_cmpR op_isN (pv 3) pe_non (nomark _)))) pss_nil)
  (pss_one (ps_ret (pe_and (pe_callB (k_isi (K := K) rfl) (by rfl) X.m_isinstance (by decide +kernel) (pa_cons (pv 3) (pa_cons (pe_bltn (v := .ty "int") (by rfl) X.m_int (by decide +kernel) rfl) pa_nil))) (pe_and (pe_not (pe_callB (k_isi (K := K) rfl) (by rfl) X.m_isinstance (by decide +kernel) (pa_cons (pv 3) (pa_cons (pe_bltn (v := .ty "bool") (by rfl) X.m_bool (by decide +kernel) rfl) pa_nil)))) (pe_one (pe_cmpR (WkE.op_eqU (K := K) rfl hr.units) (pv 3) (pv 2) (nomark _))))))))), ?_⟩)
  intro ds μ P hl h
  obtain ⟨es, x, rfl, h1, h2, q⟩ := h
  (exists "go")
  rcases shT_cases es x with e | ⟨n, e⟩
  · rw [e]
    (exists "go")
    exact ⟨_, Weak.refl, q⟩
  · rw [e]
    (exists "go")
    exact ⟨_, Weak.refl, q⟩
  
abbrev S_law_odd : SpD := fun ds μ P => ∃ (d : Addr) (i n : Nat), ds = [.ref d] ∧ μ[i]? = some (d, wl n) ∧ n < 900000 ∧ ∀ x, OdB x → P x (μ.set i (d, wl (n + 1)))
theorem sp_lodd {d : Addr} {i n : Nat} {μ μ' : Mu} {P : D → Mu → Prop} (hm : μ[i]? = some (d, wl n)) (hn : n < 900000) (h : μ.set i (d, wl (n + 1)) = μ') (q : ∀ x, OdB x → P x μ') : S_law_odd [.ref d] μ P := ⟨d, i, n, rfl, hm, hn, by subst h; exact q⟩

local macro_rules | `(tactic| exists "gx") => `(tactic| first
  | (((with_reducible refine' sp_lodd ?hm ?hn ?h ?_); (case hm => (exists "at")); (case hn => omega); (case h => (exists "nd")))))
local macro_rules | `(tactic| exists "sd") => `(tactic| exact sd_law_odd _)
set_option maxHeartbeats 4000000 in
theorem ok_law_odd (X : T K mg base) : FnG Pg w K mg base 2 X.a_law_odd X.d_law_odd ["_law_well_here"] (spOf K 1 S_law_odd) := by
  refine fn_ok4G X.F_law_odd sc_law_odd rfl (fun cdv A outer s H E hr hg => ⟨_, (pss_cons (ps_set (i := 1) sc_law_odd.nd rfl (Or.inl rfl) (pe_lst (pa_cons pe_non (pa_cons pe_bl (pa_cons pe_bl (pa_cons (pe_un un_neg pe_int) (pa_cons pe_int (pa_cons pe_int (pa_cons pe_int (pa_cons (pe_op op_sub (pe_op (op_powK (a := 10) (b := 60) (r := 1000000000000000000000000000000000000000000000000000000000000) (by decide) (by decide) (by decide +kernel)) pe_int pe_int) pe_int) (pa_cons pe_str (pa_cons pe_str (pa_cons (pe_tup pa_nil) (pa_cons (WkE.pe_frz (pe_lst pa_nil)) (pa_cons (WkE.pe_frz pe_dnewK) (pa_cons (pe_tup (pa_cons pe_int (pa_cons pe_int pa_nil))) (pa_cons (pe_tup (pa_cons pe_int (pa_cons pe_int (pa_cons (pe_tup (pa_cons pe_int (pa_cons pe_int pa_nil))) pa_nil)))) (pa_cons (WkE.pe_frz (pe_lst (pa_cons pe_int (pa_cons pe_int (pa_cons (pe_tup (pa_cons pe_int (pa_cons pe_int pa_nil))) pa_nil))))) pa_nil))))))))))))))))))
  (pss_one (ps_ret (pe_ix (k_ix (K := K) rfl) (pe_op (k_add (K := K) rfl) (pv 1) (pe_lst (pa_cons (pe_tup (pa_cons pe_int (pa_cons pe_int (pa_cons (pe_tup (pa_cons pe_int (pa_cons pe_int pa_nil))) pa_nil)))) (pa_cons (pe_tup (pa_cons pe_int (pa_cons (pe_op (op_powK (a := 10) (b := 9) (r := 1000000000) (by decide) (by decide) (by decide +kernel)) pe_int pe_int) (pa_cons (pe_tup (pa_cons pe_int (pa_cons pe_int pa_nil))) pa_nil)))) (pa_cons (pe_tup (pa_cons pe_int (pa_cons pe_int (pa_cons (pe_tup (pa_cons pe_int (pa_cons pe_int pa_nil))) pa_nil)))) (pa_cons (pe_tup (pa_cons pe_int (pa_cons pe_int (pa_cons (pe_tup (pa_cons pe_int pa_nil)) pa_nil)))) pa_nil)))))) (pe_callG (ok_law_draw X) (hr.mono (by decide)) hg (by rfl) X.g_law_draw X.F_law_draw.kp X.b_law_draw .nil pass0 (pa_cons (pv 0) (pa_cons pe_int pa_nil))) (fun _ _ => rfl))))), ?_⟩)
  intro ds μ P hl h
  obtain ⟨d, i, n, rfl, hm, hn, q⟩ := h
  (exists "ss")
  (exists "go")
  rename_i p1 p2 k hk0 hk1
  refine w2_ixKd Lk.here hk0 (by show _ < 20; omega) fun x hx => ?_
  have key : OdB x := by
    simp only [List.cons_append, List.nil_append, List.mem_cons, List.not_mem_nil, or_false] at hx
    rcases hx with rfl | rfl | rfl | rfl | rfl | rfl | rfl | rfl | rfl | rfl | rfl | rfl | rfl | rfl | rfl | rfl | rfl | rfl | rfl | rfl
    all_goals exact OdB.of rfl (Rp.of (by decide +kernel))
  exact ⟨_, (by (exists "wk")), q x key⟩
abbrev S_law_spoilt_some : SpD := fun ds μ P => ∃ (d : Addr) (m i n : Nat) (S : List Nat) (o : D), ds = [.ref d, .tup (S.map jD), o] ∧ SoP m S ∧ m ≤ 24 ∧ OdB o ∧ μ[i]? = some (d, wl n) ∧ n < 900000 ∧ ∀ x, SmB x → P x (μ.set i (d, wl (n + 3)))
theorem sp_spsome {d : Addr} {m i n : Nat} {S : List Nat} {o : D} {μ μ' : Mu} {P : D → Mu → Prop} (h1 : SoP m S) (h2 : m ≤ 24) (h3 : OdB o) (hm : μ[i]? = some (d, wl n)) (hn : n < 900000) (h : μ.set i (d, wl (n + 3)) = μ') (q : ∀ x, SmB x → P x μ') : S_law_spoilt_some [.ref d, .tup (S.map jD), o] μ P := ⟨d, m, i, n, S, o, rfl, h1, h2, h3, hm, hn, by subst h; exact q⟩

local macro_rules | `(tactic| exists "gx") => `(tactic| first
  | (((with_reducible refine' sp_spsome ?h1 ?h2 ?h3 ?hm ?hn ?h ?_); (case h1 => with_reducible assumption); (case h2 => omega); (case h3 => with_reducible assumption); (case hm => (exists "at")); (case hn => omega); (case h => (exists "nd")))))
local macro_rules | `(tactic| exists "sd") => `(tactic| exact sd_law_spoilt_some _ _ _)
set_option maxHeartbeats 4000000 in
theorem ok_law_spoilt_some (X : T K mg base) : FnG Pg w K mg base 2 X.a_law_spoilt_some X.d_law_spoilt_some ["_law_well_here", "_law_some_here", "_law_odd_here"] (spOf K 3 S_law_spoilt_some) := by
  refine fn_ok4G X.F_law_spoilt_some sc_law_spoilt_some rfl (fun cdv A outer s H E hr hg => ⟨_, (pss_cons (ps_set (i := 3) sc_law_spoilt_some.nd rfl (Or.inl rfl) (pe_callG (ok_law_draw X) (hr.mono (by decide)) hg (by rfl) X.g_law_draw X.F_law_draw.kp X.b_law_draw .nil pass0 (pa_cons (pv 0) (pa_cons pe_int pa_nil))))
  (pss_cons (ps_set (i := 4) sc_law_spoilt_some.nd rfl (Or.inl rfl) (pe_callG (ok_law_draw X) (hr.mono (by decide)) hg (by rfl) X.g_law_draw X.F_law_draw.kp X.b_law_draw .nil pass0 (pa_cons (pv 0) (pa_cons (pe_callB (k_len (K := K) rfl) (by rfl) X.m_len (by decide +kernel) (pa_cons (pv 1) pa_nil)) pa_nil))))
  (pss_cons (ps_if (pt_cmpR (WkE.op_eqU (K := K) rfl hr.units) (pv 3) pe_int (nomark _)) (pss_one (ps_ret (pe_op (k_add (K := K) rfl) (pe_slice (k_sl (K := K) rfl) (pv 1) po_none (po_some (pv 4))) (pe_slice (k_sl (K := K) rfl) (pv 1) (po_some (pe_op (k_add (K := K) rfl) (pv 4) pe_int)) po_none)))) pss_nil)
  (pss_cons (ps_if (pt_cmpR (WkE.op_eqU (K := K) rfl hr.units) (pv 3) pe_int (nomark _)) (pss_one (ps_ret (pe_op (k_add (K := K) rfl) (pe_op (k_add (K := K) rfl) (pe_slice (k_sl (K := K) rfl) (pv 1) po_none (po_some (pv 4))) (pe_slice (k_sl (K := K) rfl) (pv 1) (po_some (pv 4)) (po_some (pe_op (k_add (K := K) rfl) (pv 4) pe_int)))) (pe_slice (k_sl (K := K) rfl) (pv 1) (po_some (pv 4)) po_none)))) pss_nil)
  (pss_cons (ps_if (pt_cmpR (WkE.op_eqU (K := K) rfl hr.units) (pv 3) pe_int (nomark _)) (pss_one (ps_ret (pe_callTy (k_tup (K := K) rfl) (by rfl) X.m_tuple (by decide +kernel) (pa_cons (pe_callB (cr_sortedG (K := K) rfl) (by rfl) X.m_sorted (by decide +kernel) (pa_cons (pe_op (k_add (K := K) rfl) (pv 1) (pe_tup (pa_cons (pe_callG (ok_law_draw X) (hr.mono (by decide)) hg (by rfl) X.g_law_draw X.F_law_draw.kp X.b_law_draw .nil pass0 (pa_cons (pv 0) (pa_cons pe_int pa_nil))) pa_nil))) pa_nil)) pa_nil)))) pss_nil)
  (pss_cons (ps_if (pt_cmpR (WkE.op_eqU (K := K) rfl hr.units) (pv 3) pe_int (nomark _)) (pss_one (ps_ret (pe_ix (k_ix (K := K) rfl) (pe_lst (pa_cons (WkE.pe_frz (pe_callTy (k_lst (K := K) rfl) (by rfl) X.m_list (by decide +kernel) (pa_cons (pv 1) pa_nil))) (pa_cons (WkE.k_rev (K := K) rfl (pv 1)) pa_nil))) (pe_op op_mod (pv 4) pe_int) (fun _ _ => rfl)))) pss_nil)
  (pss_cons (ps_if (pt_cmpR (WkE.op_eqU (K := K) rfl hr.units) (pv 3) pe_int (nomark _)) (pss_one (ps_ret (pe_op (k_add (K := K) rfl) (pe_op (k_add (K := K) rfl) (pe_slice (k_sl (K := K) rfl) (pv 1) po_none (po_some (pv 4))) (pe_tup (pa_cons (pv 2) pa_nil))) (pe_slice (k_sl (K := K) rfl) (pv 1) (po_some (pe_op (k_add (K := K) rfl) (pv 4) pe_int)) po_none)))) pss_nil)
  (pss_one (ps_ret (pe_op (k_add (K := K) rfl) (pe_op (k_add (K := K) rfl) (pe_slice (k_sl (K := K) rfl) (pv 1) po_none (po_some (pv 4))) (pe_tup (pa_cons (pe_op (k_add (K := K) rfl) (pe_ix (k_ix (K := K) rfl) (pv 1) (pv 4) (fun _ _ => rfl)) (pe_ix (k_ix (K := K) rfl) (pe_lst (pa_cons pe_int (pa_cons (pe_un un_neg pe_int) pa_nil))) (pe_op op_sub (pv 3) pe_int) (fun _ _ => rfl))) pa_nil))) (pe_slice (k_sl (K := K) rfl) (pv 1) (po_some (pe_op (k_add (K := K) rfl) (pv 4) pe_int)) po_none))))))))))), ?_⟩)
  intro ds μ P hl h
  obtain ⟨d, m, i, n, S, o, rfl, h1, h2, h3, hm, hn, q⟩ := h
  have hSl := h1.len
  have hS2 := h1.two
  have hlen : (S.map jD).length = S.length := List.length_map _
  have hit : ∀ y ∈ S.map jD, ItB y := fun y hy => by
    obtain ⟨z, hz, rfl⟩ := List.mem_map.mp hy
    have := h1.low z hz
    exact ItB.jD (by omega)
  have hk : ∀ lo hi, (cutD (S.map jD) lo hi).length ≤ S.length := fun lo hi => hlen ▸ cut_len
  have hc : ∀ lo hi, ∀ y ∈ cutD (S.map jD) lo hi, ItB y := fun lo hi y hy => hit y (cut_sub y hy)
  have app : ∀ {xs ys : List D}, (∀ y ∈ xs, ItB y) → (∀ y ∈ ys, ItB y) → ∀ y ∈ xs ++ ys, ItB y := fun h1 h2 y hy => (List.mem_append.mp hy).elim (h1 y) (h2 y)
  have one : ∀ {x : D}, ItB x → ∀ y ∈ [x], ItB y := fun h y hy => by rw [List.mem_singleton.mp hy]; exact h
  (exists "ss")
  rename_i w hw0 hw1
  (exists "ss")
  rename_i a ha0 ha1
  obtain ⟨a, rfl⟩ := Int.eq_ofNat_of_zero_le ha0
  have ha2 : a < S.length := by omega
  have ga : S[a]? = some (S[a]'ha2) := List.getElem?_eq_getElem ha2
  have gz := h1.low _ (List.mem_of_getElem? ga)
  generalize S[a]'ha2 = z at ga gz
  have gL : atI (S.map jD) (a : Int) = some (jD z) := by
    unfold atI ixN
    rw [if_pos (by omega), if_pos (by omega)]
    show (S.map jD)[(a : Int).toNat]? = _
    rw [Int.toNat_natCast, List.getElem?_map, ga]; rfl
  have k4 : (cutD (S.map jD) (some (a : Int)) (some ((a : Int) + 1))).length ≤ 1 := by
    unfold cutD HT.sIx
    simp only [List.length_take, List.length_drop, hlen]
    rw [if_neg (show ¬ (a : Int) < 0 by omega), if_neg (show ¬ (a : Int) + 1 < 0 by omega)]
    omega
  have k1 : (cutD (S.map jD) none (some (a : Int))).length = a := by
    rw [cut_to (by omega), List.length_map, List.length_take]; omega
  have k2 : (cutD (S.map jD) (some ((a : Int) + 1)) none).length = S.length - (a + 1) := by
    rw [cut_from (by omega), List.length_map, List.length_drop]; omega
  have k3 : (cutD (S.map jD) (some (a : Int)) none).length = S.length - a := by
    rw [cut_from (by omega), List.length_map, List.length_drop]; omega
  (exists "ss")
  refine split_d (fun hc0 => ?_) (fun hc0 => ?_)
  · generalize hL : S.map jD = L at *
    (exists "go")
    refine w2_addTA (le_size (by omega)) ?_
    exact ⟨_, (by (exists "wk")), q _ (SmB.tup (by rw [List.length_append]; omega) (app (hc _ _) (hc _ _)))⟩
  (exists "sn")
  (exists "ss")
  refine split_d (fun hc1 => ?_) (fun hc1 => ?_)
  · generalize hL : S.map jD = L at *
    (exists "go")
    refine w2_addTA (le_size (by omega)) ?_
    (exists "go")
    refine w2_addTA (le_size (by rw [List.length_append]; omega)) ?_
    exact ⟨_, (by (exists "wk")), q _ (SmB.tup (by rw [List.length_append, List.length_append]; omega) (app (app (hc _ _) (hc _ _)) (hc _ _)))⟩
  (exists "sn")
  (exists "ss")
  refine split_d (fun hc2 => ?_) (fun hc2 => ?_)
  · (exists "go")
    rename_i j j0 j1
    obtain ⟨j, rfl⟩ := Int.eq_ofNat_of_zero_le j0
    refine w2_addTA (le_size (by rw [hlen, List.length_singleton]; omega)) ?_
    rw [map_snoc jD j, show List.map jD (S ++ [j]) = ((S ++ [j]).map fun n : Nat => (n : Int)).map D.int from by rw [List.map_map]; rfl]
    (exists "go")
    rename_i p9 ns' hp hle
    refine ⟨_, (by (exists "wk")), q _ (SmB.tup (by rw [List.length_map, hp.length_eq, List.length_map, List.length_append, List.length_singleton]; omega) fun y hy => ?_)⟩
    obtain ⟨v, hv, rfl⟩ := List.mem_map.mp hy
    obtain ⟨u, hu, rfl⟩ := List.mem_map.mp (hp.mem_iff.mp hv)
    have : u < 1000 := by
      rcases List.mem_append.mp hu with h | h
      · have := h1.low u h; omega
      · rw [List.mem_singleton.mp h]; omega
    exact ItB.int (by omega) (by omega)
  (exists "sn")
  (exists "ss")
  generalize hL : S.map jD = L at *
  refine split_d (fun hc3 => ?_) (fun hc3 => ?_)
  · (exists "go")
    refine w2_ixKd Lk.here (by omega) (by show _ < 2; omega) fun x hx => ?_
    have key : SmB x := by
      simp only [List.mem_cons, List.not_mem_nil, or_false] at hx
      rcases hx with rfl | rfl
      · exact SmB.lis (by omega) hit
      · exact SmB.tup (by rw [List.length_reverse]; omega) fun y hy => hit y (List.mem_reverse.mp hy)
    exact ⟨_, (by (exists "wk")), q _ key⟩
  (exists "sn")
  (exists "ss")
  refine split_d (fun hc4 => ?_) (fun hc4 => ?_)
  · (exists "go")
    refine w2_addTA (le_size (by rw [List.length_singleton]; omega)) ?_
    (exists "go")
    refine w2_addTA (le_size (by rw [List.length_append, List.length_singleton]; omega)) ?_
    exact ⟨_, (by (exists "wk")), q _ (SmB.tup (by rw [List.length_append, List.length_append, List.length_singleton]; omega) (app (app (hc _ _) (one h3.it)) (hc _ _)))⟩
  (exists "sn")
  (exists "go")
  refine w2_ixT gL ?_
  (exists "go")
  refine w2_ixInts (cs := [1, -1]) Lk.here rfl (by omega) (by show _ < 2; omega) fun v hv => ?_
  have hv2 : -1 ≤ v ∧ v ≤ 1 := by
    simp at hv
    rcases hv with rfl | rfl <;> omega
  (exists "go")
  refine w2_addTA (le_size (by rw [List.length_singleton]; omega)) ?_
  (exists "go")
  refine w2_addTA (le_size (by rw [List.length_append, List.length_singleton]; omega)) ?_
  exact ⟨_, (by (exists "wk")), q _ (SmB.tup (by rw [List.length_append, List.length_append, List.length_singleton]; omega) (app (app (hc _ _) (one (ItB.int (by omega) (by omega)))) (hc _ _)))⟩
abbrev S_law_spoilt_row : SpD := fun ds μ P => ∃ (d : Addr) (m i n : Nat) (r : La) (o : D), ds = [.ref d, laD r, o] ∧ SoP m r.so ∧ m ≤ 24 ∧ (0 ≤ r.lo ∧ r.lo ≤ 6000000 ∧ 0 ≤ r.hi ∧ r.hi ≤ 6000000) ∧ OdB o ∧ μ[i]? = some (d, wl n) ∧ n < 800000 ∧ ∀ x, RwB x → P x (μ.set i (d, wl (n + 6)))
theorem sp_sprow {d : Addr} {m i n : Nat} {r : La} {o : D} {μ μ' : Mu} {P : D → Mu → Prop} (h1 : SoP m r.so) (h2 : m ≤ 24) (h4 : 0 ≤ r.lo ∧ r.lo ≤ 6000000 ∧ 0 ≤ r.hi ∧ r.hi ≤ 6000000) (h3 : OdB o) (hm : μ[i]? = some (d, wl n)) (hn : n < 800000) (h : μ.set i (d, wl (n + 6)) = μ') (q : ∀ x, RwB x → P x μ') : S_law_spoilt_row [.ref d, laD r, o] μ P := ⟨d, m, i, n, r, o, rfl, h1, h2, h4, h3, hm, hn, by subst h; exact q⟩

local macro_rules | `(tactic| exists "gx") => `(tactic| first
  | (((with_reducible refine' sp_sprow ?h1 ?h2 ?h4 ?h3 ?hm ?hn ?h ?_); (case h1 => with_reducible assumption); (case h2 => omega); (case h4 => with_reducible assumption); (case h3 => with_reducible assumption); (case hm => (exists "at")); (case hn => omega); (case h => (exists "nd")))))
local macro_rules | `(tactic| exists "sd") => `(tactic| exact sd_law_spoilt_row _ _ _)
set_option maxHeartbeats 4000000 in
theorem ok_law_spoilt_row (X : T K mg base) : FnG Pg w K mg base 3 X.a_law_spoilt_row X.d_law_spoilt_row ["_law_well_here", "_law_row", "_law_odd_here"] (spOf K 3 S_law_spoilt_row) := by
  refine fn_ok4G X.F_law_spoilt_row sc_law_spoilt_row rfl (fun cdv A outer s H E hr hg => ⟨_, (pss_cons (ps_set (i := 3) sc_law_spoilt_row.nd rfl (Or.inl rfl) (pe_callG (ok_law_draw X) (hr.mono (by decide)) hg (by rfl) X.g_law_draw X.F_law_draw.kp X.b_law_draw .nil pass0 (pa_cons (pv 0) (pa_cons pe_int pa_nil))))
  (pss_cons (ps_set (i := 4) sc_law_spoilt_row.nd rfl (Or.inl rfl) (pe_callG (ok_law_draw X) (hr.mono (by decide)) hg (by rfl) X.g_law_draw X.F_law_draw.kp X.b_law_draw .nil pass0 (pa_cons (pv 0) (pa_cons pe_int pa_nil))))
  (pss_cons (ps_if (pt_cmpR (WkE.op_eqU (K := K) rfl hr.units) (pv 3) pe_int (nomark _)) (pss_one (ps_ret (pe_op (k_add (K := K) rfl) (pe_op (k_add (K := K) rfl) (pe_slice (k_sl (K := K) rfl) (pv 1) po_none (po_some (pv 4))) (pe_tup (pa_cons (pv 2) pa_nil))) (pe_slice (k_sl (K := K) rfl) (pv 1) (po_some (pe_op (k_add (K := K) rfl) (pv 4) pe_int)) po_none)))) pss_nil)
  (pss_cons (ps_if (pt_cmpR (WkE.op_eqU (K := K) rfl hr.units) (pv 3) pe_int (nomark _)) (pss_one (ps_ret (pe_ix (k_ix (K := K) rfl) (pe_lst (pa_cons (pe_op (k_add (K := K) rfl) (pe_slice (k_sl (K := K) rfl) (pv 1) po_none (po_some (pv 4))) (pe_slice (k_sl (K := K) rfl) (pv 1) (po_some (pe_op (k_add (K := K) rfl) (pv 4) pe_int)) po_none)) (pa_cons (pe_op (k_add (K := K) rfl) (pv 1) (pe_tup (pa_cons (pv 2) pa_nil))) (pa_cons (WkE.pe_frz (pe_callTy (k_lst (K := K) rfl) (by rfl) X.m_list (by decide +kernel) (pa_cons (pv 1) pa_nil))) pa_nil)))) (pv 4) (fun _ _ => rfl)))) pss_nil)
  (pss_cons (ps_if (PW.pt (pw_or (pt_cmpR (WkE.op_eqU (K := K) rfl hr.units) (pv 3) pe_int (nomark _)) (pw_or1 (pt_cmpR (WkE.op_eqU (K := K) rfl hr.units) (pv 4) pe_int (nomark _))))) (pss_one (ps_ret (pe_op (k_add (K := K) rfl) (pe_slice (k_sl (K := K) rfl) (pv 1) po_none (po_some pe_int)) (pe_tup (pa_cons (pe_callG (ok_law_spoilt_some X) (hr.mono (by decide)) hg (by rfl) X.g_law_spoilt_some X.F_law_spoilt_some.kp X.b_law_spoilt_some .nil pass0 (pa_cons (pv 0) (pa_cons (pe_ix (k_ix (K := K) rfl) (pv 1) pe_int (fun _ _ => rfl)) (pa_cons (pv 2) pa_nil)))) pa_nil))))) pss_nil)
  (pss_one (ps_ret (pe_op (k_add (K := K) rfl) (pe_op (k_add (K := K) rfl) (pe_slice (k_sl (K := K) rfl) (pv 1) po_none (po_some (pv 4))) (pe_tup (pa_cons (pe_op (k_add (K := K) rfl) (pe_ix (k_ix (K := K) rfl) (pv 1) (pv 4) (fun _ _ => rfl)) (pe_ix (k_ix (K := K) rfl) (pe_lst (pa_cons pe_int (pa_cons (pe_un un_neg pe_int) (pa_cons pe_int pa_nil)))) (pe_op op_sub (pv 3) pe_int) (fun _ _ => rfl))) pa_nil))) (pe_slice (k_sl (K := K) rfl) (pv 1) (po_some (pe_op (k_add (K := K) rfl) (pv 4) pe_int)) po_none))))))))), ?_⟩)
  intro ds μ P hl h
  obtain ⟨d, m, i, n, r, o, rfl, h1, h2, h4, h3, hm, hn, q⟩ := h
  have hit : ∀ y ∈ [D.int r.lo, D.int r.hi, D.tup (r.so.map jD)], SmB y := fun y hy => by
    simp only [List.mem_cons, List.not_mem_nil, or_false] at hy
    rcases hy with rfl | rfl | rfl
    · exact (ItB.int (by omega) (by omega)).sm
    · exact (ItB.int (by omega) (by omega)).sm
    · exact SmB.so h1 h2
  have hlen : [D.int r.lo, D.int r.hi, D.tup (r.so.map jD)].length = 3 := rfl
  have hk : ∀ a b, (cutD [D.int r.lo, D.int r.hi, D.tup (r.so.map jD)] a b).length ≤ 3 := fun a b => cut_len
  have hc : ∀ a b, ∀ y ∈ cutD [D.int r.lo, D.int r.hi, D.tup (r.so.map jD)] a b, SmB y := fun a b y hy => hit y (cut_sub y hy)
  have app : ∀ {xs ys : List D}, (∀ y ∈ xs, SmB y) → (∀ y ∈ ys, SmB y) → ∀ y ∈ xs ++ ys, SmB y := fun h1 h2 y hy => (List.mem_append.mp hy).elim (h1 y) (h2 y)
  have one : ∀ {x : D}, SmB x → ∀ y ∈ [x], SmB y := fun h y hy => by rw [List.mem_singleton.mp hy]; exact h
  (exists "ss")
  rename_i w hw0 hw1
  (exists "ss")
  rename_i a ha0 ha1
  obtain ⟨a, rfl⟩ := Int.eq_ofNat_of_zero_le ha0
  have k1 := hk none (some (a : Int))
  have k2 := hk (some ((a : Int) + 1)) none
  have k3 : (cutD [D.int r.lo, D.int r.hi, D.tup (r.so.map jD)] none (some (a : Int))).length = a := by
    rw [← List.map_id' [D.int r.lo, D.int r.hi, D.tup (r.so.map jD)], cut_to (by omega), List.length_map, List.length_take]
    show min (a : Int).toNat 3 = a
    omega
  have k4 : (cutD [D.int r.lo, D.int r.hi, D.tup (r.so.map jD)] (some ((a : Int) + 1)) none).length = 3 - (a + 1) := by
    rw [← List.map_id' [D.int r.lo, D.int r.hi, D.tup (r.so.map jD)], cut_from (by omega), List.length_map, List.length_drop]
    show 3 - ((a : Int) + 1).toNat = _
    omega
  (exists "ss")
  refine split_d (fun hc0 => ?_) (fun hc0 => ?_)
  · (exists "go")
    refine w2_addTA (le_size (by rw [List.length_singleton]; omega)) ?_
    (exists "go")
    refine w2_addTA (le_size (by rw [List.length_append, List.length_singleton]; omega)) ?_
    exact ⟨_, (by (exists "wk")), q _ (RwB.tup (by rw [List.length_append, List.length_append, List.length_singleton]; omega) (app (app (hc _ _) (one h3.sm)) (hc _ _)))⟩
  (exists "sn")
  (exists "ss")
  refine split_d (fun hc1 => ?_) (fun hc1 => ?_)
  · (exists "go")
    refine w2_addTA (le_size (by omega)) ?_
    (exists "go")
    refine w2_ixKd Lk.here (by omega) (by show _ < 3; omega) fun x hx => ?_
    have key : RwB x := by
      simp only [List.mem_cons, List.not_mem_nil, or_false] at hx
      rcases hx with rfl | rfl | rfl
      · exact RwB.tup (by rw [List.length_append]; omega) (app (hc _ _) (hc _ _))
      · exact RwB.tup (by simp) (app hit (one h3.sm))
      · exact RwB.lis (by simp) hit
    exact ⟨_, (by (exists "wk")), q _ key⟩
  (exists "sn")
  (exists "ss")
  refine split_d (fun hc2 => ?_) (fun hc2 => ?_)
  · (exists "go")
    rename_i x hx
    exact ⟨_, (by (exists "wk")), q _ (RwB.tup (by rw [List.length_append, List.length_singleton]; have := hk none (some 2); omega) (app (hc _ _) (one hx)))⟩
  (exists "ge")
  refine split_d (fun hc3 => ?_) (fun hc3 => ?_)
  · (exists "go")
    rename_i x hx
    exact ⟨_, (by (exists "wk")), q _ (RwB.tup (by rw [List.length_append, List.length_singleton]; have := hk none (some 2); omega) (app (hc _ _) (one hx)))⟩
  (exists "sn")
  (exists "ge")
  have h01 : a = 0 ∨ a = 1 := by omega
  have fin : ∀ (v x : Int), (v = 1 ∨ v = -1 ∨ v = 2) → 0 ≤ x → x ≤ 6000000 → SmB (.int (x + v)) := fun v x hv h0 h1 => (ItB.int (by omega) (by omega)).sm
  rcases h01 with rfl | rfl
  · (exists "go")
    refine w2_ixInts (cs := [1, -1, 2]) Lk.here rfl (by omega) (by show _ < 3; omega) fun v hv => ?_
    have hv2 : v = 1 ∨ v = -1 ∨ v = 2 := by simpa using hv
    (exists "go")
    refine w2_addTA (le_size (by rw [List.length_singleton]; omega)) ?_
    (exists "go")
    exact ⟨_, (by (exists "wk")), q _ (RwB.tup (by rw [List.length_append, List.length_append, List.length_singleton]; omega) (app (app (hc _ _) (one (x := D.int (r.lo + v)) (fin v r.lo hv2 (by omega) (by omega)))) (hc _ _)))⟩
  · (exists "go")
    refine w2_ixInts (cs := [1, -1, 2]) Lk.here rfl (by omega) (by show _ < 3; omega) fun v hv => ?_
    have hv2 : v = 1 ∨ v = -1 ∨ v = 2 := by simpa using hv
    (exists "go")
    exact ⟨_, (by (exists "wk")), q _ (RwB.tup (by rw [List.length_append, List.length_append, List.length_singleton]; omega) (app (app (hc _ _) (one (x := D.int (r.hi + v)) (fin v r.hi hv2 (by omega) (by omega)))) (hc _ _)))⟩
abbrev S_law_spoilt : SpD := fun ds μ P => ∃ (d : Addr) (es : List En) (i n : Nat) (R : List La), ds = [.ref d, .tup (R.map laD)] ∧ R.length ≤ 5 ∧ (∀ r ∈ R, SoP es.length r.so) ∧ es.length ≤ 24 ∧ EnB es ∧ GoodL es 0 R ∧ μ[i]? = some (d, wl n) ∧ n < 700000 ∧ ∀ x, PaB x → P x (μ.set i (d, wl (n + 10)))
theorem sp_spoilt {d : Addr} {es : List En} {i n : Nat} {R : List La} {μ μ' : Mu} {P : D → Mu → Prop} (h0 : R.length ≤ 5) (h1 : ∀ r ∈ R, SoP es.length r.so) (h2 : es.length ≤ 24) (h3 : EnB es) (h4 : GoodL es 0 R) (hm : μ[i]? = some (d, wl n)) (hn : n < 700000) (h : μ.set i (d, wl (n + 10)) = μ') (q : ∀ x, PaB x → P x μ') : S_law_spoilt [.ref d, .tup (R.map laD)] μ P := ⟨d, es, i, n, R, rfl, h0, h1, h2, h3, h4, hm, hn, by subst h; exact q⟩

local macro_rules | `(tactic| exists "gx") => `(tactic| first
  | (((with_reducible refine' sp_spoilt ?h0 ?h1 ?h2 ?h3 ?h4 ?hm ?hn ?h ?_); (case h0 => omega); (case h1 => with_reducible assumption); (case h2 => omega); (case h3 => with_reducible assumption); (case h4 => with_reducible assumption); (case hm => (exists "at")); (case hn => omega); (case h => (exists "nd")))))
local macro_rules | `(tactic| exists "sd") => `(tactic| exact sd_law_spoilt _ _)
set_option maxHeartbeats 4000000 in
theorem ok_law_spoilt (X : T K mg base) : FnG Pg w K mg base 4 X.a_law_spoilt X.d_law_spoilt ["_law_well_here", "_law_rows"] (spOf K 2 S_law_spoilt) := by
  refine fn_ok4G X.F_law_spoilt sc_law_spoilt rfl (fun cdv A outer s H E hr hg => ⟨_, (pss_cons (ps_set (i := 2) sc_law_spoilt.nd rfl (Or.inl rfl) (pe_callG (ok_law_draw X) (hr.mono (by decide)) hg (by rfl) X.g_law_draw X.F_law_draw.kp X.b_law_draw .nil pass0 (pa_cons (pv 0) (pa_cons pe_int pa_nil))))
  (pss_cons (ps_set (i := 3) sc_law_spoilt.nd rfl (Or.inl rfl) (pe_callG (ok_law_odd X) (hr.mono (by decide)) hg (by rfl) X.g_law_odd X.F_law_odd.kp X.b_law_odd .nil pass0 (pa_cons (pv 0) pa_nil)))
  (pss_cons (ps_set (i := 4) sc_law_spoilt.nd rfl (Or.inl rfl) (pe_lst (pa_cons (pv 3) (pa_cons (WkE.pe_frz (pe_callTy (k_lst (K := K) rfl) (by rfl) X.m_list (by decide +kernel) (pa_cons (pv 1) pa_nil))) (pa_cons (pe_op (k_add (K := K) rfl) (pv 1) (pe_tup (pa_cons (pv 3) pa_nil))) (pa_cons (pe_op (k_add (K := K) rfl) (pe_tup (pa_cons (pv 3) pa_nil)) (pv 1)) (pa_cons (pe_op (k_add (K := K) rfl) (pv 1) (pe_slice (k_sl (K := K) rfl) (pv 1) po_none (po_some pe_int))) (pa_cons (pe_slice (k_sl (K := K) rfl) (pv 1) (po_some pe_int) po_none) (pa_cons (WkE.k_rev (K := K) rfl (pv 1)) pa_nil)))))))))
  (pss_cons (ps_if (PW.pt (pw_or (pt_cmpR op_lt (pv 2) pe_int (nomark _)) (pw_or1 (pt_cmpR (WkE.op_eqU (K := K) rfl hr.units) (pv 1) (pe_tup pa_nil) (nomark _))))) (pss_one (ps_ret (pe_ix (k_ix (K := K) rfl) (pv 4) (pe_op op_mod (pv 2) pe_int) (fun _ _ => rfl)))) pss_nil)
  (pss_cons (ps_set (i := 5) sc_law_spoilt.nd rfl (Or.inl rfl) (pe_callG (ok_law_draw X) (hr.mono (by decide)) hg (by rfl) X.g_law_draw X.F_law_draw.kp X.b_law_draw .nil pass0 (pa_cons (pv 0) (pa_cons (pe_callB (k_len (K := K) rfl) (by rfl) X.m_len (by decide +kernel) (pa_cons (pv 1) pa_nil)) pa_nil))))
  (pss_one (ps_ret (pe_op (k_add (K := K) rfl) (pe_op (k_add (K := K) rfl) (pe_slice (k_sl (K := K) rfl) (pv 1) po_none (po_some (pv 5))) (pe_tup (pa_cons (pe_callG (ok_law_spoilt_row X) (hr.mono (by decide)) hg (by rfl) X.g_law_spoilt_row X.F_law_spoilt_row.kp X.b_law_spoilt_row .nil pass0 (pa_cons (pv 0) (pa_cons (pe_ix (k_ix (K := K) rfl) (pv 1) (pv 5) (fun _ _ => rfl)) (pa_cons (pv 3) pa_nil)))) pa_nil))) (pe_slice (k_sl (K := K) rfl) (pv 1) (po_some (pe_op (k_add (K := K) rfl) (pv 5) pe_int)) po_none))))))))), ?_⟩)
  intro ds μ P hl h
  obtain ⟨d, es, i, n, R, rfl, h0, h1, h2, h3, h4, hm, hn, q⟩ := h
  have hbd := h4.bnd h3 h1
  have hlen : (R.map laD).length = R.length := List.length_map _
  have hit : ∀ y ∈ R.map laD, RwB y := fun y hy => by
    obtain ⟨r, hr, rfl⟩ := List.mem_map.mp hy
    exact RwB.la (h1 r hr) h2 (hbd r hr)
  have hk : ∀ a b, (cutD (R.map laD) a b).length ≤ R.length := fun a b => hlen ▸ cut_len
  have hc : ∀ a b, ∀ y ∈ cutD (R.map laD) a b, RwB y := fun a b y hy => hit y (cut_sub y hy)
  have app : ∀ {xs ys : List D}, (∀ y ∈ xs, RwB y) → (∀ y ∈ ys, RwB y) → ∀ y ∈ xs ++ ys, RwB y := fun h1 h2 y hy => (List.mem_append.mp hy).elim (h1 y) (h2 y)
  have one : ∀ {x : D}, RwB x → ∀ y ∈ [x], RwB y := fun h y hy => by rw [List.mem_singleton.mp hy]; exact h
  (exists "ss")
  rename_i w hw0 hw1
  (exists "ss")
  rename_i o ho
  have gR : ∀ a : Nat, a < R.length → ∃ r, R[a]? = some r ∧ r ∈ R := fun a ha => ⟨_, List.getElem?_eq_getElem ha, List.getElem_mem ha⟩
  have gL : ∀ (a : Nat) (r : La), R[a]? = some r → atI (R.map laD) (a : Int) = some (laD r) := fun a r ga => by
    have ha := (List.getElem?_eq_some_iff.mp ga).1
    unfold atI ixN
    rw [if_pos (by omega), if_pos (by omega)]
    show (R.map laD)[(a : Int).toNat]? = _
    rw [Int.toNat_natCast, List.getElem?_map, ga]; rfl
  have k1 : ∀ a : Nat, a < R.length → (cutD (R.map laD) none (some (a : Int))).length = a := fun a h => by
    rw [cut_to (by omega), List.length_map, List.length_take]; omega
  have k2 : ∀ a : Nat, a < R.length → (cutD (R.map laD) (some ((a : Int) + 1)) none).length = R.length - (a + 1) := fun a h => by
    rw [cut_from (by omega), List.length_map, List.length_drop]; omega
  have k3 := hk none (some 1)
  have k4 := hk (some 1) none
  generalize hL : R.map laD = L at *
  have hne : L.isEmpty = false → 0 < R.length := fun h => by
    rw [← hlen]
    cases L with
    | nil => cases h
    | cons _ _ => exact Nat.succ_pos _
  have key : ∀ x ∈ [o, D.lis L, D.tup (L ++ [o]), D.tup ([o] ++ L), D.tup (L ++ cutD L none (some 1)), D.tup (cutD L (some 1) none), D.tup L.reverse], PaB x := fun x hx => by
    simp only [List.mem_cons, List.not_mem_nil, or_false] at hx
    rcases hx with rfl | rfl | rfl | rfl | rfl | rfl | rfl
    · exact ho.pa
    · exact PaB.lis (by omega) hit
    · exact PaB.tup (by rw [List.length_append, List.length_singleton]; omega) (app hit (one ho.rw))
    · exact PaB.tup (by rw [List.length_append, List.length_singleton]; omega) (app (one ho.rw) hit)
    · exact PaB.tup (by rw [List.length_append]; omega) (app hit (hc _ _))
    · exact PaB.tup (by omega) (hc _ _)
    · exact PaB.tup (by rw [List.length_reverse]; omega) fun y hy => hit y (List.mem_reverse.mp hy)
  (exists "ss")
  refine w2_addTA (le_size (by rw [hlen, List.length_singleton]; omega)) ?_
  (exists "ge")
  refine w2_addTA (le_size (by rw [hlen, List.length_singleton]; omega)) ?_
  (exists "ge")
  refine w2_addTA (le_size (by omega)) ?_
  (exists "ge")
  (exists "ss")
  refine split_d (fun hc0 => ?_) (fun hc0 => ?_)
  · (exists "go")
    rw [Int.emod_eq_of_lt hw0 hc0]
    refine w2_ixKd Lk.here hw0 (by show _ < 7; omega) fun x hx => ?_
    exact ⟨_, (by (exists "wk")), q _ (key x hx)⟩
  (exists "ge")
  cases hemp : L.isEmpty with
  | true =>
    (exists "go")
    have hm7 := Int.emod_nonneg w (show (7 : Int) ≠ 0 by omega)
    have hm8 := Int.emod_lt_of_pos w (show (0 : Int) < 7 by omega)
    refine w2_ixKd Lk.here hm7 (by show _ < 7; omega) fun x hx => ?_
    exact ⟨_, (by (exists "wk")), q _ (key x hx)⟩
  | false =>
    have hpos := hne hemp
    (exists "ff")
    (exists "sn")
    (exists "ss")
    rename_i a ha0 ha1
    obtain ⟨a, rfl⟩ := Int.eq_ofNat_of_zero_le ha0
    have ha2 : a < R.length := by omega
    obtain ⟨r, ga, hr⟩ := gR a ha2
    have gl := gL a r ga
    have k5 := k1 a ha2
    have k6 := k2 a ha2
    have hS := h1 r hr
    have hb := hbd r hr
    (exists "go")
    refine w2_ixT gl ?_
    (exists "go")
    rename_i x hx
    refine w2_addTA (le_size (by rw [List.length_singleton]; omega)) ?_
    (exists "go")
    refine w2_addTA (le_size (by rw [List.length_append, List.length_singleton]; omega)) ?_
    exact ⟨_, (by (exists "wk")), q _ (PaB.tup (by rw [List.length_append, List.length_append, List.length_singleton]; omega) (app (app (hc _ _) (one hx)) (hc _ _)))⟩
abbrev S_law : SpD := spLaw
local macro_rules | `(tactic| exists "sd") => `(tactic| exact sd_law _)
set_option maxHeartbeats 4000000 in
theorem ok_law (X : T K mg base) : FnG Pg w K mg base 7 X.a_law X.d_law ["_law_script"] (spOf K 1 S_law) := by
  refine fn_ok4G X.F_law sc_law rfl (fun cdv A outer s H E hr hg => ⟨_, (pss_cons (ps_for PassesOwn.never rfl (pi_range1 (by rfl) X.m_range (pa_cons (pe_callB (k_max (K := K) rfl rfl) (by rfl) X.m_max (by decide +kernel) (pa_cons pe_int (pa_cons (pe_callB (k_min (K := K) rfl rfl) (by rfl) X.m_min (by decide +kernel) (pa_cons (pe_callB (k_len (K := K) rfl) (by rfl) X.m_len (by decide +kernel) (pa_cons (pv 0) pa_nil)) (pa_cons pe_int pa_nil))) pa_nil))) pa_nil)) (pg_name (i := 1) sc_law.nd rfl (.inl rfl)) (pss_cons (ps_set (i := 2) sc_law.nd rfl (Or.inl rfl) (pe_callG (ok_law_well X) (hr.mono (by decide)) hg (by rfl) X.g_law_well X.F_law_well.kp X.b_law_well .nil pass0 (pa_cons (pe_callG (ok_law_cell_at X) (hr.mono (by decide)) hg (by rfl) X.g_law_cell_at X.F_law_cell_at.kp X.b_law_cell_at .nil pass0 (pa_cons (pv 0) (pa_cons (pv 1) pa_nil))) pa_nil)))
  (pss_cons (ps_set (i := 3) sc_law.nd rfl (Or.inl rfl) (pe_callG (ok_law_ends X) (hr.mono (by decide)) hg (by rfl) X.g_law_ends X.F_law_ends.kp X.b_law_ends .nil pass0 (pa_cons (pv 2) (pa_cons pe_int pa_nil))))
  (pss_cons (ps_set (i := 4) sc_law.nd rfl (Or.inl rfl) (pe_callG (ok_law_layers X) (hr.mono (by decide)) hg (by rfl) X.g_law_layers X.F_law_layers.kp X.b_law_layers .nil pass0 (pa_cons (pv 2) (pa_cons (pv 3) pa_nil))))
  (pss_cons (ps_set (i := 5) sc_law.nd rfl (Or.inl rfl) (pe_callG (ok_law_due X) (hr.mono (by decide)) hg (by rfl) X.g_law_due X.F_law_due.kp X.b_law_due .nil pass0 (pa_cons (pv 3) (pa_cons (pv 4) pa_nil))))
  (pss_cons (ps_for PassesOwn.never rfl (pi_range1 (by rfl) X.m_range (pa_cons pe_int pa_nil)) (pg_name (i := 6) sc_law.nd rfl (.inl rfl)) (pss_cons (ps_if (PW.pt (pw_or (pt_cmpR op_isN (pv 5) pe_non (nomark _)) (pw_or1 (pt_not (pt_val (pe_callG (ok_law_told X) (hr.mono (by decide)) hg (by rfl) X.g_law_told X.F_law_told.kp X.b_law_told .nil pass0 (pa_cons (pv 3) (pa_cons (pv 4) (pa_cons (pv 5) pa_nil))))))))) (pss_one (ps_ret pe_bl)) pss_nil)
  (pss_cons (ps_set (i := 7) sc_law.nd rfl (Or.inl rfl) (pe_callG (ok_law_spoilt X) (hr.mono (by decide)) hg (by rfl) X.g_law_spoilt X.F_law_spoilt.kp X.b_law_spoilt .nil pass0 (pa_cons (pv 2) (pa_cons (pv 4) pa_nil))))
  (pss_cons (ps_set (i := 8) sc_law.nd rfl (Or.inl rfl) (pe_callB (WkE.cr_reprU (K := K) rfl X.sS hg hr.units) (by rfl) X.m_repr (by decide +kernel) (pa_cons (pv 7) pa_nil)))
  (pss_one (ps_if (PW.pt (pw_or (pt_not (pt_val (pe_callG (ok_law_told X) (hr.mono (by decide)) hg (by rfl) X.g_law_told X.F_law_told.kp X.b_law_told .nil pass0 (pa_cons (pv 3) (pa_cons (pv 7) (pa_cons (pe_callG (ok_law_due X) (hr.mono (by decide)) hg (by rfl) X.g_law_due X.F_law_due.kp X.b_law_due .nil pass0 (pa_cons (pv 3) (pa_cons (pv 7) pa_nil))) pa_nil)))))) (pw_or1 (pt_cmpR (WkE.op_neU (K := K) rfl hr.units) (pe_callB (WkE.cr_reprU (K := K) rfl X.sS hg hr.units) (by rfl) X.m_repr (by decide +kernel) (pa_cons (pv 7) pa_nil)) (pv 8) (nomark _))))) (pss_one (ps_ret pe_bl)) pss_nil))))))
  (pss_one (ps_if (pt_not (pt_val (pe_callG (ok_law_told X) (hr.mono (by decide)) hg (by rfl) X.g_law_told X.F_law_told.kp X.b_law_told .nil pass0 (pa_cons (pv 3) (pa_cons (pv 4) (pa_cons (pv 5) pa_nil)))))) (pss_one (ps_ret pe_bl)) pss_nil))))))))
  (pss_one (ps_ret pe_bl))), ?_⟩)
  intro ds μ P hl h
  obtain ⟨ns, rfl, hn, q⟩ := h
  (exists "go")
  rw [show (max 1 (min (ns.length : Int) 6)).toNat = max 1 (min ns.length 6) by omega]
  refine forCr0 F_law0 (by (exists "nd")) (by (exists "hG")) (fun i hi => ?_) ?_
  · (exists "ge")
    (exists "ss")
    rename_i w
    (exists "ss")
    rename_i es he1 he2 hes
    have h2 : es.length ≤ 24 := by omega
    have h3 : EnB es := hes
    (exists "ss")
    rename_i R hR1 hR2 hR3
    have hpa : PaB (.tup (R.map laD)) := PaB.tup (by rw [List.length_map]; omega) fun y hy => by
      obtain ⟨r, hr, rfl⟩ := List.mem_map.mp hy
      exact RwB.la (hR2 r hr) h2 (hR3.bnd h3 hR2 r hr)
    have hpp := hpa.1
    have hsh : shT es (.tup (R.map laD)) = .int (sumL R) := by
      show shwD es 0 0 (R.map laD) = _
      rw [shwD_good hR2 hR3, Int.zero_add]
    (exists "ss")
    rw [hsh]
    have hsh2 := hsh.symm
    (exists "go")
    refine forR0 (fun k δ' μ' => ∃ y z : Option D, δ' = L_law (v_script := some (.scr ns)) (v_k := some (jD i)) (v_well_here := some (.ref w)) (v_ends_here := some (.tup (es.map eD))) (v_rows := some (.tup (R.map laD))) (v_due_here := some (.int (sumL R))) ∧ μ' = (w, wl (0 + 200 + 50 + 10 * k)) :: μ) ⟨_, _, (by (exists "le")), (by (exists "wk")), none, none, rfl, rfl⟩ (fun _ _ _ _ => True.intro) ?_ ?_
    · rintro k δ' ν2 hk ⟨_, _, rfl, rfl⟩
      (exists "ge")
      (exists "ss")
      (exists "sn")
      (exists "ss")
      rename_i x hx
      have hx1 := hx.1
      have hx2 := hx.2
      (exists "go")
      exact ⟨_, _, (by (exists "le")), (by (exists "wk")), none, none, rfl, rfl⟩
    rintro δ' ν2 ⟨_, _, rfl, rfl⟩
    (exists "go")
    exact ⟨by (exists "le"), by (exists "wk")⟩
  (exists "go")
  exact ⟨_, (by (exists "wk")), q⟩
  
end

theorem fin_law {Pg : Program} {w : World} {K : PySem.W.Frag} {mg : Str → Option Value} {base : Heap} {fa : Addr} {fd : FuncData} (F : Fun K "law" "law" s_law fa fd) (X : T K mg base) (e1 : X.a_law = fa := by rfl) (e2 : X.d_law = fd := by rfl) : FnG Pg w K mg base 7 fa fd ["_law_script"] (spOf K 1 spLaw) := by
  subst e1 e2
  exact ok_law X
set_option maxHeartbeats 0 in
theorem all_mk {Pg : Program} {w : World} {K : PySem.W.Frag} {h : Heap} {mg : Str → Option Value} {fa : Addr} (XX : K.In h) (G : h.Ns mainGlobals mg) (hfa : mg "law" = some (.ref fa))
    {od0 an0 : Option Addr} {sl0 : Array (Option Value)} {oc0 kV0 dc0 pm0 cd0 ct0 : Value} {f0 : Addr}
    (a0 : PySem.W.nsIn K mainGlobals "steps" = some (some (.ref f0))) (l0 : K.lookup f0 = some ⟨oc0, od0, .func (PySem.W.fnOf "steps" "steps" (defArgs s_steps) (defBody s_steps) (defScope s_steps) .none kV0 dc0 pm0 an0 cd0 ct0), sl0⟩) (c0 : PySem.W.codeIn K cd0 "steps" = true) (k0 : PySem.W.keepIn K (.ref f0) = true)
    {od1 an1 : Option Addr} {sl1 : Array (Option Value)} {oc1 kV1 dc1 pm1 cd1 ct1 : Value} {f1 : Addr}
    (a1 : PySem.W.nsIn K mainGlobals "wanted" = some (some (.ref f1))) (l1 : K.lookup f1 = some ⟨oc1, od1, .func (PySem.W.fnOf "wanted" "wanted" (defArgs s_wanted) (defBody s_wanted) (defScope s_wanted) .none kV1 dc1 pm1 an1 cd1 ct1), sl1⟩) (c1 : PySem.W.codeIn K cd1 "wanted" = true) (k1 : PySem.W.keepIn K (.ref f1) = true)
    {od2 an2 : Option Addr} {sl2 : Array (Option Value)} {oc2 kV2 dc2 pm2 cd2 ct2 : Value} {f2 : Addr}
    (a2 : PySem.W.nsIn K mainGlobals "is_whole" = some (some (.ref f2))) (l2 : K.lookup f2 = some ⟨oc2, od2, .func (PySem.W.fnOf "is_whole" "is_whole" (defArgs s_is_whole) (defBody s_is_whole) (defScope s_is_whole) .none kV2 dc2 pm2 an2 cd2 ct2), sl2⟩) (c2 : PySem.W.codeIn K cd2 "is_whole" = true) (k2 : PySem.W.keepIn K (.ref f2) = true)
    {od3 an3 : Option Addr} {sl3 : Array (Option Value)} {oc3 kV3 dc3 pm3 cd3 ct3 : Value} {f3 : Addr}
    (a3 : PySem.W.nsIn K mainGlobals "are_some" = some (some (.ref f3))) (l3 : K.lookup f3 = some ⟨oc3, od3, .func (PySem.W.fnOf "are_some" "are_some" (defArgs s_are_some) (defBody s_are_some) (defScope s_are_some) .none kV3 dc3 pm3 an3 cd3 ct3), sl3⟩) (c3 : PySem.W.codeIn K cd3 "are_some" = true) (k3 : PySem.W.keepIn K (.ref f3) = true)
    {od4 an4 : Option Addr} {sl4 : Array (Option Value)} {oc4 kV4 dc4 pm4 cd4 ct4 : Value} {f4 : Addr}
    (a4 : PySem.W.nsIn K mainGlobals "stand_apart" = some (some (.ref f4))) (l4 : K.lookup f4 = some ⟨oc4, od4, .func (PySem.W.fnOf "stand_apart" "stand_apart" (defArgs s_stand_apart) (defBody s_stand_apart) (defScope s_stand_apart) .none kV4 dc4 pm4 an4 cd4 ct4), sl4⟩) (c4 : PySem.W.codeIn K cd4 "stand_apart" = true) (k4 : PySem.W.keepIn K (.ref f4) = true)
    {od5 an5 : Option Addr} {sl5 : Array (Option Value)} {oc5 kV5 dc5 pm5 cd5 ct5 : Value} {f5 : Addr}
    (a5 : PySem.W.nsIn K mainGlobals "is_layer" = some (some (.ref f5))) (l5 : K.lookup f5 = some ⟨oc5, od5, .func (PySem.W.fnOf "is_layer" "is_layer" (defArgs s_is_layer) (defBody s_is_layer) (defScope s_is_layer) .none kV5 dc5 pm5 an5 cd5 ct5), sl5⟩) (c5 : PySem.W.codeIn K cd5 "is_layer" = true) (k5 : PySem.W.keepIn K (.ref f5) = true)
    {od6 an6 : Option Addr} {sl6 : Array (Option Value)} {oc6 kV6 dc6 pm6 cd6 ct6 : Value} {f6 : Addr}
    (a6 : PySem.W.nsIn K mainGlobals "layers_shown" = some (some (.ref f6))) (l6 : K.lookup f6 = some ⟨oc6, od6, .func (PySem.W.fnOf "layers_shown" "layers_shown" (defArgs s_layers_shown) (defBody s_layers_shown) (defScope s_layers_shown) .none kV6 dc6 pm6 an6 cd6 ct6), sl6⟩) (c6 : PySem.W.codeIn K cd6 "layers_shown" = true) (k6 : PySem.W.keepIn K (.ref f6) = true)
    {od7 an7 : Option Addr} {sl7 : Array (Option Value)} {oc7 kV7 dc7 pm7 cd7 ct7 : Value} {f7 : Addr}
    (a7 : PySem.W.nsIn K mainGlobals "_law_cell_at" = some (some (.ref f7))) (l7 : K.lookup f7 = some ⟨oc7, od7, .func (PySem.W.fnOf "_law_cell_at" "_law_cell_at" (defArgs s_law_cell_at) (defBody s_law_cell_at) (defScope s_law_cell_at) .none kV7 dc7 pm7 an7 cd7 ct7), sl7⟩) (c7 : PySem.W.codeIn K cd7 "_law_cell_at" = true) (k7 : PySem.W.keepIn K (.ref f7) = true)
    {od8 an8 : Option Addr} {sl8 : Array (Option Value)} {oc8 kV8 dc8 pm8 cd8 ct8 : Value} {f8 : Addr}
    (a8 : PySem.W.nsIn K mainGlobals "_law_well" = some (some (.ref f8))) (l8 : K.lookup f8 = some ⟨oc8, od8, .func (PySem.W.fnOf "_law_well" "_law_well" (defArgs s_law_well) (defBody s_law_well) (defScope s_law_well) .none kV8 dc8 pm8 an8 cd8 ct8), sl8⟩) (c8 : PySem.W.codeIn K cd8 "_law_well" = true) (k8 : PySem.W.keepIn K (.ref f8) = true)
    {od9 an9 : Option Addr} {sl9 : Array (Option Value)} {oc9 kV9 dc9 pm9 cd9 ct9 : Value} {f9 : Addr}
    (a9 : PySem.W.nsIn K mainGlobals "_law_draw" = some (some (.ref f9))) (l9 : K.lookup f9 = some ⟨oc9, od9, .func (PySem.W.fnOf "_law_draw" "_law_draw" (defArgs s_law_draw) (defBody s_law_draw) (defScope s_law_draw) .none kV9 dc9 pm9 an9 cd9 ct9), sl9⟩) (c9 : PySem.W.codeIn K cd9 "_law_draw" = true) (k9 : PySem.W.keepIn K (.ref f9) = true)
    {od10 an10 : Option Addr} {sl10 : Array (Option Value)} {oc10 kV10 dc10 pm10 cd10 ct10 : Value} {f10 : Addr}
    (a10 : PySem.W.nsIn K mainGlobals "_law_number" = some (some (.ref f10))) (l10 : K.lookup f10 = some ⟨oc10, od10, .func (PySem.W.fnOf "_law_number" "_law_number" (defArgs s_law_number) (defBody s_law_number) (defScope s_law_number) .none kV10 dc10 pm10 an10 cd10 ct10), sl10⟩) (c10 : PySem.W.codeIn K cd10 "_law_number" = true) (k10 : PySem.W.keepIn K (.ref f10) = true)
    {od11 an11 : Option Addr} {sl11 : Array (Option Value)} {oc11 kV11 dc11 pm11 cd11 ct11 : Value} {f11 : Addr}
    (a11 : PySem.W.nsIn K mainGlobals "_law_start" = some (some (.ref f11))) (l11 : K.lookup f11 = some ⟨oc11, od11, .func (PySem.W.fnOf "_law_start" "_law_start" (defArgs s_law_start) (defBody s_law_start) (defScope s_law_start) .none kV11 dc11 pm11 an11 cd11 ct11), sl11⟩) (c11 : PySem.W.codeIn K cd11 "_law_start" = true) (k11 : PySem.W.keepIn K (.ref f11) = true)
    {od12 an12 : Option Addr} {sl12 : Array (Option Value)} {oc12 kV12 dc12 pm12 cd12 ct12 : Value} {f12 : Addr}
    (a12 : PySem.W.nsIn K mainGlobals "_law_ends" = some (some (.ref f12))) (l12 : K.lookup f12 = some ⟨oc12, od12, .func (PySem.W.fnOf "_law_ends" "_law_ends" (defArgs s_law_ends) (defBody s_law_ends) (defScope s_law_ends) .none kV12 dc12 pm12 an12 cd12 ct12), sl12⟩) (c12 : PySem.W.codeIn K cd12 "_law_ends" = true) (k12 : PySem.W.keepIn K (.ref f12) = true)
    {od13 an13 : Option Addr} {sl13 : Array (Option Value)} {oc13 kV13 dc13 pm13 cd13 ct13 : Value} {f13 : Addr}
    (a13 : PySem.W.nsIn K mainGlobals "_law_want" = some (some (.ref f13))) (l13 : K.lookup f13 = some ⟨oc13, od13, .func (PySem.W.fnOf "_law_want" "_law_want" (defArgs s_law_want) (defBody s_law_want) (defScope s_law_want) .none kV13 dc13 pm13 an13 cd13 ct13), sl13⟩) (c13 : PySem.W.codeIn K cd13 "_law_want" = true) (k13 : PySem.W.keepIn K (.ref f13) = true)
    {od14 an14 : Option Addr} {sl14 : Array (Option Value)} {oc14 kV14 dc14 pm14 cd14 ct14 : Value} {f14 : Addr}
    (a14 : PySem.W.nsIn K mainGlobals "_law_least_want" = some (some (.ref f14))) (l14 : K.lookup f14 = some ⟨oc14, od14, .func (PySem.W.fnOf "_law_least_want" "_law_least_want" (defArgs s_law_least_want) (defBody s_law_least_want) (defScope s_law_least_want) .none kV14 dc14 pm14 an14 cd14 ct14), sl14⟩) (c14 : PySem.W.codeIn K cd14 "_law_least_want" = true) (k14 : PySem.W.keepIn K (.ref f14) = true)
    {od15 an15 : Option Addr} {sl15 : Array (Option Value)} {oc15 kV15 dc15 pm15 cd15 ct15 : Value} {f15 : Addr}
    (a15 : PySem.W.nsIn K mainGlobals "_law_some" = some (some (.ref f15))) (l15 : K.lookup f15 = some ⟨oc15, od15, .func (PySem.W.fnOf "_law_some" "_law_some" (defArgs s_law_some) (defBody s_law_some) (defScope s_law_some) .none kV15 dc15 pm15 an15 cd15 ct15), sl15⟩) (c15 : PySem.W.codeIn K cd15 "_law_some" = true) (k15 : PySem.W.keepIn K (.ref f15) = true)
    {od16 an16 : Option Addr} {sl16 : Array (Option Value)} {oc16 kV16 dc16 pm16 cd16 ct16 : Value} {f16 : Addr}
    (a16 : PySem.W.nsIn K mainGlobals "_law_layers" = some (some (.ref f16))) (l16 : K.lookup f16 = some ⟨oc16, od16, .func (PySem.W.fnOf "_law_layers" "_law_layers" (defArgs s_law_layers) (defBody s_law_layers) (defScope s_law_layers) .none kV16 dc16 pm16 an16 cd16 ct16), sl16⟩) (c16 : PySem.W.codeIn K cd16 "_law_layers" = true) (k16 : PySem.W.keepIn K (.ref f16) = true)
    {od17 an17 : Option Addr} {sl17 : Array (Option Value)} {oc17 kV17 dc17 pm17 cd17 ct17 : Value} {f17 : Addr}
    (a17 : PySem.W.nsIn K mainGlobals "_law_is_whole" = some (some (.ref f17))) (l17 : K.lookup f17 = some ⟨oc17, od17, .func (PySem.W.fnOf "_law_is_whole" "_law_is_whole" (defArgs s_law_is_whole) (defBody s_law_is_whole) (defScope s_law_is_whole) .none kV17 dc17 pm17 an17 cd17 ct17), sl17⟩) (c17 : PySem.W.codeIn K cd17 "_law_is_whole" = true) (k17 : PySem.W.keepIn K (.ref f17) = true)
    {od18 an18 : Option Addr} {sl18 : Array (Option Value)} {oc18 kV18 dc18 pm18 cd18 ct18 : Value} {f18 : Addr}
    (a18 : PySem.W.nsIn K mainGlobals "_law_is_layer" = some (some (.ref f18))) (l18 : K.lookup f18 = some ⟨oc18, od18, .func (PySem.W.fnOf "_law_is_layer" "_law_is_layer" (defArgs s_law_is_layer) (defBody s_law_is_layer) (defScope s_law_is_layer) .none kV18 dc18 pm18 an18 cd18 ct18), sl18⟩) (c18 : PySem.W.codeIn K cd18 "_law_is_layer" = true) (k18 : PySem.W.keepIn K (.ref f18) = true)
    {od19 an19 : Option Addr} {sl19 : Array (Option Value)} {oc19 kV19 dc19 pm19 cd19 ct19 : Value} {f19 : Addr}
    (a19 : PySem.W.nsIn K mainGlobals "_law_due" = some (some (.ref f19))) (l19 : K.lookup f19 = some ⟨oc19, od19, .func (PySem.W.fnOf "_law_due" "_law_due" (defArgs s_law_due) (defBody s_law_due) (defScope s_law_due) .none kV19 dc19 pm19 an19 cd19 ct19), sl19⟩) (c19 : PySem.W.codeIn K cd19 "_law_due" = true) (k19 : PySem.W.keepIn K (.ref f19) = true)
    {od20 an20 : Option Addr} {sl20 : Array (Option Value)} {oc20 kV20 dc20 pm20 cd20 ct20 : Value} {f20 : Addr}
    (a20 : PySem.W.nsIn K mainGlobals "_law_told" = some (some (.ref f20))) (l20 : K.lookup f20 = some ⟨oc20, od20, .func (PySem.W.fnOf "_law_told" "_law_told" (defArgs s_law_told) (defBody s_law_told) (defScope s_law_told) .none kV20 dc20 pm20 an20 cd20 ct20), sl20⟩) (c20 : PySem.W.codeIn K cd20 "_law_told" = true) (k20 : PySem.W.keepIn K (.ref f20) = true)
    {od21 an21 : Option Addr} {sl21 : Array (Option Value)} {oc21 kV21 dc21 pm21 cd21 ct21 : Value} {f21 : Addr}
    (a21 : PySem.W.nsIn K mainGlobals "_law_odd" = some (some (.ref f21))) (l21 : K.lookup f21 = some ⟨oc21, od21, .func (PySem.W.fnOf "_law_odd" "_law_odd" (defArgs s_law_odd) (defBody s_law_odd) (defScope s_law_odd) .none kV21 dc21 pm21 an21 cd21 ct21), sl21⟩) (c21 : PySem.W.codeIn K cd21 "_law_odd" = true) (k21 : PySem.W.keepIn K (.ref f21) = true)
    {od22 an22 : Option Addr} {sl22 : Array (Option Value)} {oc22 kV22 dc22 pm22 cd22 ct22 : Value} {f22 : Addr}
    (a22 : PySem.W.nsIn K mainGlobals "_law_spoilt_some" = some (some (.ref f22))) (l22 : K.lookup f22 = some ⟨oc22, od22, .func (PySem.W.fnOf "_law_spoilt_some" "_law_spoilt_some" (defArgs s_law_spoilt_some) (defBody s_law_spoilt_some) (defScope s_law_spoilt_some) .none kV22 dc22 pm22 an22 cd22 ct22), sl22⟩) (c22 : PySem.W.codeIn K cd22 "_law_spoilt_some" = true) (k22 : PySem.W.keepIn K (.ref f22) = true)
    {od23 an23 : Option Addr} {sl23 : Array (Option Value)} {oc23 kV23 dc23 pm23 cd23 ct23 : Value} {f23 : Addr}
    (a23 : PySem.W.nsIn K mainGlobals "_law_spoilt_row" = some (some (.ref f23))) (l23 : K.lookup f23 = some ⟨oc23, od23, .func (PySem.W.fnOf "_law_spoilt_row" "_law_spoilt_row" (defArgs s_law_spoilt_row) (defBody s_law_spoilt_row) (defScope s_law_spoilt_row) .none kV23 dc23 pm23 an23 cd23 ct23), sl23⟩) (c23 : PySem.W.codeIn K cd23 "_law_spoilt_row" = true) (k23 : PySem.W.keepIn K (.ref f23) = true)
    {od24 an24 : Option Addr} {sl24 : Array (Option Value)} {oc24 kV24 dc24 pm24 cd24 ct24 : Value} {f24 : Addr}
    (a24 : PySem.W.nsIn K mainGlobals "_law_spoilt" = some (some (.ref f24))) (l24 : K.lookup f24 = some ⟨oc24, od24, .func (PySem.W.fnOf "_law_spoilt" "_law_spoilt" (defArgs s_law_spoilt) (defBody s_law_spoilt) (defScope s_law_spoilt) .none kV24 dc24 pm24 an24 cd24 ct24), sl24⟩) (c24 : PySem.W.codeIn K cd24 "_law_spoilt" = true) (k24 : PySem.W.keepIn K (.ref f24) = true)
    {od25 an25 : Option Addr} {sl25 : Array (Option Value)} {oc25 kV25 dc25 pm25 cd25 ct25 : Value} {f25 : Addr}
    (a25 : PySem.W.nsIn K mainGlobals "law" = some (some (.ref f25))) (l25 : K.lookup f25 = some ⟨oc25, od25, .func (PySem.W.fnOf "law" "law" (defArgs s_law) (defBody s_law) (defScope s_law) .none kV25 dc25 pm25 an25 cd25 ct25), sl25⟩) (c25 : PySem.W.codeIn K cd25 "law" = true) (k25 : PySem.W.keepIn K (.ref f25) = true)
    (z_abs : PySem.W.nsIn K mainGlobals "abs" = some none)
    (z_all : PySem.W.nsIn K mainGlobals "all" = some none)
    (z_bool : PySem.W.nsIn K mainGlobals "bool" = some none)
    (z_enumerate : PySem.W.nsIn K mainGlobals "enumerate" = some none)
    (z_int : PySem.W.nsIn K mainGlobals "int" = some none)
    (z_isinstance : PySem.W.nsIn K mainGlobals "isinstance" = some none)
    (z_len : PySem.W.nsIn K mainGlobals "len" = some none)
    (z_list : PySem.W.nsIn K mainGlobals "list" = some none)
    (z_max : PySem.W.nsIn K mainGlobals "max" = some none)
    (z_min : PySem.W.nsIn K mainGlobals "min" = some none)
    (z_range : PySem.W.nsIn K mainGlobals "range" = some none)
    (z_repr : PySem.W.nsIn K mainGlobals "repr" = some none)
    (z_set : PySem.W.nsIn K mainGlobals "set" = some none)
    (z_sorted : PySem.W.nsIn K mainGlobals "sorted" = some none)
    (z_tuple : PySem.W.nsIn K mainGlobals "tuple" = some none)
    : ∃ fd : FuncData, (∀ (s : Shared) (v : Value), BindsTo s fd ⟨[v], []⟩ [("_law_script", v)]) ∧ ∀ base : Heap, K.In base → base.Ns mainGlobals mg → (∃ m, base.Ns sysModules m) → FnG Pg w K mg base 7 fa fd ["_law_script"] (spOf K 1 spLaw) := by
  have e := hfa.symm.trans (PySem.W.mg_of XX G a25)
  cases e
  have F0 := fun_mk (st := s_steps) l0 c0 k0
  have b0 := F0.binds (ps := ["one", "other"]) fun _ _ _ _ _ _ us hl => match us, hl with | [_, _], _ => rfl
  have F1 := fun_mk (st := s_wanted) l1 c1 k1
  have b1 := F1.binds (ps := ["ends", "one", "other"]) fun _ _ _ _ _ _ us hl => match us, hl with | [_, _, _], _ => rfl
  have F2 := fun_mk (st := s_is_whole) l2 c2 k2
  have b2 := F2.binds (ps := ["thing"]) fun _ _ _ _ _ _ us hl => match us, hl with | [_], _ => rfl
  have F3 := fun_mk (st := s_are_some) l3 c3 k3
  have b3 := F3.binds (ps := ["many", "thing"]) fun _ _ _ _ _ _ us hl => match us, hl with | [_, _], _ => rfl
  have F4 := fun_mk (st := s_stand_apart) l4 c4 k4
  have b4 := F4.binds (ps := ["ends", "low", "high", "some"]) fun _ _ _ _ _ _ us hl => match us, hl with | [_, _, _, _], _ => rfl
  have F5 := fun_mk (st := s_is_layer) l5 c5 k5
  have b5 := F5.binds (ps := ["ends", "ahead", "thing"]) fun _ _ _ _ _ _ us hl => match us, hl with | [_, _, _], _ => rfl
  have F6 := fun_mk (st := s_layers_shown) l6 c6 k6
  have b6 := F6.binds (ps := ["ends", "thing"]) fun _ _ _ _ _ _ us hl => match us, hl with | [_, _], _ => rfl
  have F7 := fun_mk (st := s_law_cell_at) l7 c7 k7
  have b7 := F7.binds (ps := ["_law_script", "_law_k"]) fun _ _ _ _ _ _ us hl => match us, hl with | [_, _], _ => rfl
  have F8 := fun_mk (st := s_law_well) l8 c8 k8
  have b8 := F8.binds (ps := ["_law_cell"]) fun _ _ _ _ _ _ us hl => match us, hl with | [_], _ => rfl
  have F9 := fun_mk (st := s_law_draw) l9 c9 k9
  have b9 := F9.binds (ps := ["_law_well_here", "_law_many"]) fun _ _ _ _ _ _ us hl => match us, hl with | [_, _], _ => rfl
  have F10 := fun_mk (st := s_law_number) l10 c10 k10
  have b10 := F10.binds (ps := ["_law_well_here", "_law_way"]) fun _ _ _ _ _ _ us hl => match us, hl with | [_, _], _ => rfl
  have F11 := fun_mk (st := s_law_start) l11 c11 k11
  have b11 := F11.binds (ps := ["_law_well_here", "_law_way"]) fun _ _ _ _ _ _ us hl => match us, hl with | [_, _], _ => rfl
  have F12 := fun_mk (st := s_law_ends) l12 c12 k12
  have b12 := F12.binds (ps := ["_law_well_here", "_law_most"]) fun _ _ _ _ _ _ us hl => match us, hl with | [_, _], _ => rfl
  have F13 := fun_mk (st := s_law_want) l13 c13 k13
  have b13 := F13.binds (ps := ["_law_ends_here", "_law_one", "_law_other"]) fun _ _ _ _ _ _ us hl => match us, hl with | [_, _, _], _ => rfl
  have F14 := fun_mk (st := s_law_least_want) l14 c14 k14
  have b14 := F14.binds (ps := ["_law_ends_here", "_law_some_here"]) fun _ _ _ _ _ _ us hl => match us, hl with | [_, _], _ => rfl
  have F15 := fun_mk (st := s_law_some) l15 c15 k15
  have b15 := F15.binds (ps := ["_law_well_here", "_law_ends_here"]) fun _ _ _ _ _ _ us hl => match us, hl with | [_, _], _ => rfl
  have F16 := fun_mk (st := s_law_layers) l16 c16 k16
  have b16 := F16.binds (ps := ["_law_well_here", "_law_ends_here"]) fun _ _ _ _ _ _ us hl => match us, hl with | [_, _], _ => rfl
  have F17 := fun_mk (st := s_law_is_whole) l17 c17 k17
  have b17 := F17.binds (ps := ["_law_thing"]) fun _ _ _ _ _ _ us hl => match us, hl with | [_], _ => rfl
  have F18 := fun_mk (st := s_law_is_layer) l18 c18 k18
  have b18 := F18.binds (ps := ["_law_ends_here", "_law_ahead", "_law_row"]) fun _ _ _ _ _ _ us hl => match us, hl with | [_, _, _], _ => rfl
  have F19 := fun_mk (st := s_law_due) l19 c19 k19
  have b19 := F19.binds (ps := ["_law_ends_here", "_law_thing"]) fun _ _ _ _ _ _ us hl => match us, hl with | [_, _], _ => rfl
  have F20 := fun_mk (st := s_law_told) l20 c20 k20
  have b20 := F20.binds (ps := ["_law_ends_here", "_law_thing", "_law_due_here"]) fun _ _ _ _ _ _ us hl => match us, hl with | [_, _, _], _ => rfl
  have F21 := fun_mk (st := s_law_odd) l21 c21 k21
  have b21 := F21.binds (ps := ["_law_well_here"]) fun _ _ _ _ _ _ us hl => match us, hl with | [_], _ => rfl
  have F22 := fun_mk (st := s_law_spoilt_some) l22 c22 k22
  have b22 := F22.binds (ps := ["_law_well_here", "_law_some_here", "_law_odd_here"]) fun _ _ _ _ _ _ us hl => match us, hl with | [_, _, _], _ => rfl
  have F23 := fun_mk (st := s_law_spoilt_row) l23 c23 k23
  have b23 := F23.binds (ps := ["_law_well_here", "_law_row", "_law_odd_here"]) fun _ _ _ _ _ _ us hl => match us, hl with | [_, _, _], _ => rfl
  have F24 := fun_mk (st := s_law_spoilt) l24 c24 k24
  have b24 := F24.binds (ps := ["_law_well_here", "_law_rows"]) fun _ _ _ _ _ _ us hl => match us, hl with | [_, _], _ => rfl
  have F25 := fun_mk (st := s_law) l25 c25 k25
  have b25 := F25.binds (ps := ["_law_script"]) fun _ _ _ _ _ _ us hl => match us, hl with | [_], _ => rfl
  exact ⟨PySem.W.fnOf "law" "law" (defArgs s_law) (defBody s_law) (defScope s_law) .none kV25 dc25 pm25 an25 cd25 ct25, fun s v => .of_eq rfl, fun base _ _ hsS => fin_law F25 ({ a_steps := f0, d_steps := _, F_steps := F0, g_steps := PySem.W.mg_of XX G a0, b_steps := b0, a_wanted := f1, d_wanted := _, F_wanted := F1, g_wanted := PySem.W.mg_of XX G a1, b_wanted := b1, a_is_whole := f2, d_is_whole := _, F_is_whole := F2, g_is_whole := PySem.W.mg_of XX G a2, b_is_whole := b2, a_are_some := f3, d_are_some := _, F_are_some := F3, g_are_some := PySem.W.mg_of XX G a3, b_are_some := b3, a_stand_apart := f4, d_stand_apart := _, F_stand_apart := F4, g_stand_apart := PySem.W.mg_of XX G a4, b_stand_apart := b4, a_is_layer := f5, d_is_layer := _, F_is_layer := F5, g_is_layer := PySem.W.mg_of XX G a5, b_is_layer := b5, a_layers_shown := f6, d_layers_shown := _, F_layers_shown := F6, g_layers_shown := PySem.W.mg_of XX G a6, b_layers_shown := b6, a_law_cell_at := f7, d_law_cell_at := _, F_law_cell_at := F7, g_law_cell_at := PySem.W.mg_of XX G a7, b_law_cell_at := b7, a_law_well := f8, d_law_well := _, F_law_well := F8, g_law_well := PySem.W.mg_of XX G a8, b_law_well := b8, a_law_draw := f9, d_law_draw := _, F_law_draw := F9, g_law_draw := PySem.W.mg_of XX G a9, b_law_draw := b9, a_law_number := f10, d_law_number := _, F_law_number := F10, g_law_number := PySem.W.mg_of XX G a10, b_law_number := b10, a_law_start := f11, d_law_start := _, F_law_start := F11, g_law_start := PySem.W.mg_of XX G a11, b_law_start := b11, a_law_ends := f12, d_law_ends := _, F_law_ends := F12, g_law_ends := PySem.W.mg_of XX G a12, b_law_ends := b12, a_law_want := f13, d_law_want := _, F_law_want := F13, g_law_want := PySem.W.mg_of XX G a13, b_law_want := b13, a_law_least_want := f14, d_law_least_want := _, F_law_least_want := F14, g_law_least_want := PySem.W.mg_of XX G a14, b_law_least_want := b14, a_law_some := f15, d_law_some := _, F_law_some := F15, g_law_some := PySem.W.mg_of XX G a15, b_law_some := b15, a_law_layers := f16, d_law_layers := _, F_law_layers := F16, g_law_layers := PySem.W.mg_of XX G a16, b_law_layers := b16, a_law_is_whole := f17, d_law_is_whole := _, F_law_is_whole := F17, g_law_is_whole := PySem.W.mg_of XX G a17, b_law_is_whole := b17, a_law_is_layer := f18, d_law_is_layer := _, F_law_is_layer := F18, g_law_is_layer := PySem.W.mg_of XX G a18, b_law_is_layer := b18, a_law_due := f19, d_law_due := _, F_law_due := F19, g_law_due := PySem.W.mg_of XX G a19, b_law_due := b19, a_law_told := f20, d_law_told := _, F_law_told := F20, g_law_told := PySem.W.mg_of XX G a20, b_law_told := b20, a_law_odd := f21, d_law_odd := _, F_law_odd := F21, g_law_odd := PySem.W.mg_of XX G a21, b_law_odd := b21, a_law_spoilt_some := f22, d_law_spoilt_some := _, F_law_spoilt_some := F22, g_law_spoilt_some := PySem.W.mg_of XX G a22, b_law_spoilt_some := b22, a_law_spoilt_row := f23, d_law_spoilt_row := _, F_law_spoilt_row := F23, g_law_spoilt_row := PySem.W.mg_of XX G a23, b_law_spoilt_row := b23, a_law_spoilt := f24, d_law_spoilt := _, F_law_spoilt := F24, g_law_spoilt := PySem.W.mg_of XX G a24, b_law_spoilt := b24, a_law := fa, d_law := _, F_law := F25, g_law := PySem.W.mg_of XX G a25, b_law := b25, m_abs := PySem.W.mg_none_of XX G z_abs, m_all := PySem.W.mg_none_of XX G z_all, m_bool := PySem.W.mg_none_of XX G z_bool, m_enumerate := PySem.W.mg_none_of XX G z_enumerate, m_int := PySem.W.mg_none_of XX G z_int, m_isinstance := PySem.W.mg_none_of XX G z_isinstance, m_len := PySem.W.mg_none_of XX G z_len, m_list := PySem.W.mg_none_of XX G z_list, m_max := PySem.W.mg_none_of XX G z_max, m_min := PySem.W.mg_none_of XX G z_min, m_range := PySem.W.mg_none_of XX G z_range, m_repr := PySem.W.mg_none_of XX G z_repr, m_set := PySem.W.mg_none_of XX G z_set, m_sorted := PySem.W.mg_none_of XX G z_sorted, m_tuple := PySem.W.mg_none_of XX G z_tuple, sS := hsS } : T K mg base)⟩
end Lw
open PySem PySem.W PyProof.Rows
set_option maxHeartbeats 0 in
theorem PySem.Challenge.cw_equalwires_k68_spoilt_layers_holds : PySem.Challenge.rw_equalwires_k68_spoilt_layers.Holds := by
  w_on; o_law; k_head; (case hw => w_witness2)
  k_fill
  refine Wk.walk_Z (by decide +kernel) (l := PySem.Challenge.rw_equalwires_k68_spoilt_layers) (n := 63) (k := 7) (x := "_law_script") (sp := fun w => Wk.spOf _ 1 Wk.spLaw) rfl (by decide) rfl ⟨rfl, by decide, by decide⟩ (fun w h Y => PySem.W.kIn_of Y) ?F (fun _ H a ns hl hO hS => Wk.law_sp _ H a ns hl hO hS)
  case F =>
    intro w mg fa h KX G hmg
    refine' Lw.all_mk KX G hmg ?a0 ?l0 ?c0 ?k0 ?a1 ?l1 ?c1 ?k1 ?a2 ?l2 ?c2 ?k2 ?a3 ?l3 ?c3 ?k3 ?a4 ?l4 ?c4 ?k4 ?a5 ?l5 ?c5 ?k5 ?a6 ?l6 ?c6 ?k6 ?a7 ?l7 ?c7 ?k7 ?a8 ?l8 ?c8 ?k8 ?a9 ?l9 ?c9 ?k9 ?a10 ?l10 ?c10 ?k10 ?a11 ?l11 ?c11 ?k11 ?a12 ?l12 ?c12 ?k12 ?a13 ?l13 ?c13 ?k13 ?a14 ?l14 ?c14 ?k14 ?a15 ?l15 ?c15 ?k15 ?a16 ?l16 ?c16 ?k16 ?a17 ?l17 ?c17 ?k17 ?a18 ?l18 ?c18 ?k18 ?a19 ?l19 ?c19 ?k19 ?a20 ?l20 ?c20 ?k20 ?a21 ?l21 ?c21 ?k21 ?a22 ?l22 ?c22 ?k22 ?a23 ?l23 ?c23 ?k23 ?a24 ?l24 ?c24 ?k24 ?a25 ?l25 ?c25 ?k25 ?z_abs ?z_all ?z_bool ?z_enumerate ?z_int ?z_isinstance ?z_len ?z_list ?z_max ?z_min ?z_range ?z_repr ?z_set ?z_sorted ?z_tuple
    (case a0 => k_is); (case l0 => k_is); (case c0 => k_is); (case k0 => k_is); (case a1 => k_is); (case l1 => k_is); (case c1 => k_is); (case k1 => k_is); (case a2 => k_is); (case l2 => k_is); (case c2 => k_is); (case k2 => k_is); (case a3 => k_is); (case l3 => k_is); (case c3 => k_is); (case k3 => k_is); (case a4 => k_is); (case l4 => k_is); (case c4 => k_is); (case k4 => k_is); (case a5 => k_is); (case l5 => k_is); (case c5 => k_is); (case k5 => k_is); (case a6 => k_is); (case l6 => k_is); (case c6 => k_is); (case k6 => k_is); (case a7 => k_is); (case l7 => k_is); (case c7 => k_is); (case k7 => k_is); (case a8 => k_is); (case l8 => k_is); (case c8 => k_is); (case k8 => k_is); (case a9 => k_is); (case l9 => k_is); (case c9 => k_is); (case k9 => k_is); (case a10 => k_is); (case l10 => k_is); (case c10 => k_is); (case k10 => k_is); (case a11 => k_is); (case l11 => k_is); (case c11 => k_is); (case k11 => k_is); (case a12 => k_is); (case l12 => k_is); (case c12 => k_is); (case k12 => k_is); (case a13 => k_is); (case l13 => k_is); (case c13 => k_is); (case k13 => k_is); (case a14 => k_is); (case l14 => k_is); (case c14 => k_is); (case k14 => k_is); (case a15 => k_is); (case l15 => k_is); (case c15 => k_is); (case k15 => k_is); (case a16 => k_is); (case l16 => k_is); (case c16 => k_is); (case k16 => k_is); (case a17 => k_is); (case l17 => k_is); (case c17 => k_is); (case k17 => k_is); (case a18 => k_is); (case l18 => k_is); (case c18 => k_is); (case k18 => k_is); (case a19 => k_is); (case l19 => k_is); (case c19 => k_is); (case k19 => k_is); (case a20 => k_is); (case l20 => k_is); (case c20 => k_is); (case k20 => k_is); (case a21 => k_is); (case l21 => k_is); (case c21 => k_is); (case k21 => k_is); (case a22 => k_is); (case l22 => k_is); (case c22 => k_is); (case k22 => k_is); (case a23 => k_is); (case l23 => k_is); (case c23 => k_is); (case k23 => k_is); (case a24 => k_is); (case l24 => k_is); (case c24 => k_is); (case k24 => k_is); (case a25 => k_is); (case l25 => k_is); (case c25 => k_is); (case k25 => k_is); (case z_abs => k_is); (case z_all => k_is); (case z_bool => k_is); (case z_enumerate => k_is); (case z_int => k_is); (case z_isinstance => k_is); (case z_len => k_is); (case z_list => k_is); (case z_max => k_is); (case z_min => k_is); (case z_range => k_is); (case z_repr => k_is); (case z_set => k_is); (case z_sorted => k_is); (case z_tuple => k_is)
