import PyProof.Rows.All
import PySem.Challenge.RW_tokensteps_k61_whole_main_counted
import HandS.Conv
import HandS.Deep
import HandS.Flt
import HandS.ForExc
import HandS.ForMost
import HandS.HeadEnd
import HandS.ListItems
import HandS.More
import HandS.Rev
import HandS.SortInts
import HandS.Style
import HandS.TupAny
import HandS.TupMul
import HandS.Zip
import PyProof.CallFns
import PyProof.Rows.ReprR
set_option Elab.async false
set_option linter.all false
set_option maxRecDepth 100000
set_option maxHeartbeats 4000000
/-! DL0: data without a heap over the hand layer: what a value is worth, what a frame owns. -/
namespace DL
open PySem PySem.Spec PyProof.Rows L2

abbrev D := PyData
abbrev Fg := PySem.W.Frag
abbrev Sg := L2.St

def keyD : Key → D
  | .inl i => .int i
  | .inr x => .str x

/-! ### what a value is worth in a heap -/
mutual
inductive Rp (K : Fg) (H : Hp) : V → D → Prop
  | non : Rp K H .non .none
  | bl (b : Bool) : Rp K H (.bl b) (.bool b)
  | int (i : Int) : Rp K H (.int i) (.int i)
  | str (x : Str) : Rp K H (.str x) (.str x)
  | lst {a : Addr} {xs : List V} {ds : List D} : H a = some (.lst xs) → RpA K H xs ds → Rp K H (.ref a) (.list ds)
  | tup {a : Addr} {xs : List V} {ds : List D} : H a = some (.tup xs) → RpA K H xs ds → Rp K H (.ref a) (.tuple ds)
  | dK {a : Addr} {kvs : List (Key × V)} {ds : List D} : H a = some (.dK kvs) → RpA K H (kvs.map (·.2)) ds → Rp K H (.ref a) (.dict ((kvs.map fun p => keyD p.1).zip ds))
  | dT {a : Addr} {kvs : List (List Key × V)} {ds : List D} : H a = some (.dT kvs) → kvs ≠ [] → RpA K H (kvs.map (·.2)) ds → Rp K H (.ref a) (.dict ((kvs.map fun p => PyData.tuple (p.1.map keyD)).zip ds))
inductive RpA (K : Fg) (H : Hp) : List V → List D → Prop
  | nil : RpA K H [] []
  | cons {v : V} {vs : List V} {d : D} {ds : List D} : Rp K H v d → RpA K H vs ds → RpA K H (v :: vs) (d :: ds)
end

theorem _root_.L2.Same.sqT {K : Fg} {H H' : Hp} {a : Addr} {xs : List V} (e : Same H H') (h : SqT K H a xs) : SqT K H' a xs := by
  rcases h with (h | ⟨o, h⟩) | h
  · exact .inl (.inl (e _ _ h))
  · exact .inl (.inr ⟨o, e _ _ h⟩)
  · exact .inr h

/-- the script's list: nobody of ours made it -/
def Scr (K : Fg) (H : Hp) (a : Addr) (xs : List V) : Prop :=
  (∃ o, H a = some (.frz o (.lst xs))) ∨
    ∃ (o : Obj) (its : Array Value) (n : Nat), K.lookup a = some o ∧ o.cls = .type "list" ∧ o.dict = none ∧ o.data = .seq its n ∧ its.size ≤ sizeLine ∧ Vals xs its.toList
theorem Scr.sq {K : Fg} {H : Hp} {a : Addr} {xs : List V} (h : Scr K H a xs) : SqL K H a xs := by
  rcases h with ⟨o, h⟩ | h
  · exact .inl (.inr ⟨o, h⟩)
  · exact .inr h
theorem Scr.mono {K : Fg} {H H' : Hp} {a : Addr} {xs : List V} (h : Scr K H a xs) (s : Same H H') : Scr K H' a xs := by
  rcases h with ⟨o, h⟩ | h
  · exact .inl ⟨o, s _ _ h⟩
  · exact .inr h

mutual
theorem Rp.mono {K : Fg} {H H' : Hp} (s : Same H H') : ∀ {v : V} {d : D}, Rp K H v d → Rp K H' v d
  | _, _, .non => .non
  | _, _, .bl b => .bl b
  | _, _, .int i => .int i
  | _, _, .str x => .str x
  | _, _, .lst h r => .lst (s _ _ h) (RpA.mono s r)
  | _, _, .tup h r => .tup (s _ _ h) (RpA.mono s r)
  | _, _, .dK h r => .dK (s _ _ h) (RpA.mono s r)
  | _, _, .dT h n r => .dT (s _ _ h) n (RpA.mono s r)
theorem RpA.mono {K : Fg} {H H' : Hp} (s : Same H H') : ∀ {vs : List V} {ds : List D}, RpA K H vs ds → RpA K H' vs ds
  | _, _, .nil => .nil
  | _, _, .cons h r => .cons (Rp.mono s h) (RpA.mono s r)
end

section
variable {K : Fg} {H : Hp}
theorem RpA.length : ∀ {vs : List V} {ds : List D}, RpA K H vs ds → vs.length = ds.length
  | _, _, .nil => rfl
  | _, _, .cons _ r => congrArg (· + 1) (RpA.length r)
theorem RpA.get : ∀ {vs : List V} {ds : List D} {i : Nat} {d : D}, RpA K H vs ds → ds[i]? = some d → ∃ v, vs[i]? = some v ∧ Rp K H v d
  | _, _, _, _, .nil, e => by simp at e
  | _, _, 0, _, .cons h _, e => by simp at e; subst e; exact ⟨_, rfl, h⟩
  | _, _, i + 1, _, .cons _ r, e => by
    obtain ⟨v, h1, h2⟩ := RpA.get (i := i) r (by simpa using e)
    exact ⟨v, by simpa using h1, h2⟩
theorem RpA.getV : ∀ {vs : List V} {ds : List D} {i : Nat} {v : V}, RpA K H vs ds → vs[i]? = some v → ∃ d, ds[i]? = some d ∧ Rp K H v d
  | _, _, _, _, .nil, e => by simp at e
  | _, _, 0, _, .cons h _, e => by simp at e; subst e; exact ⟨_, rfl, h⟩
  | _, _, i + 1, _, .cons _ r, e => by
    obtain ⟨v, h1, h2⟩ := RpA.getV (i := i) r (by simpa using e)
    exact ⟨v, by simpa using h1, h2⟩
theorem RpA.append : ∀ {vs ws : List V} {ds es : List D}, RpA K H vs ds → RpA K H ws es → RpA K H (vs ++ ws) (ds ++ es)
  | _, _, _, _, .nil, s => s
  | _, _, _, _, .cons h r, s => .cons h (RpA.append r s)
theorem RpA.take : ∀ {vs : List V} {ds : List D} (n : Nat), RpA K H vs ds → RpA K H (vs.take n) (ds.take n)
  | _, _, 0, _ => .nil
  | _, _, _ + 1, .nil => .nil
  | _, _, n + 1, .cons h r => .cons h (RpA.take n r)
theorem RpA.drop : ∀ {vs : List V} {ds : List D} (n : Nat), RpA K H vs ds → RpA K H (vs.drop n) (ds.drop n)
  | _, _, 0, r => r
  | _, _, _ + 1, .nil => .nil
  | _, _, n + 1, .cons _ r => RpA.drop n r
theorem RpA.set : ∀ {vs : List V} {ds : List D} (i : Nat) {v : V} {d : D}, RpA K H vs ds → Rp K H v d → RpA K H (vs.set i v) (ds.set i d)
  | _, _, _, _, _, .nil, _ => .nil
  | _, _, 0, _, _, .cons _ r, q => .cons q r
  | _, _, i + 1, _, _, .cons h r, q => .cons h (RpA.set i r q)
theorem RpA.reverse : ∀ {vs : List V} {ds : List D}, RpA K H vs ds → RpA K H vs.reverse ds.reverse
  | _, _, .nil => .nil
  | _, _, .cons h r => by
    rw [List.reverse_cons, List.reverse_cons]
    exact (RpA.reverse r).append (.cons h .nil)
theorem RpA.replicate {v : V} {d : D} (h : Rp K H v d) : ∀ n : Nat, RpA K H (List.replicate n v) (List.replicate n d)
  | 0 => .nil
  | n + 1 => .cons h (RpA.replicate h n)
theorem RpA.erase : ∀ {vs : List V} {ds : List D} (i : Nat), RpA K H vs ds → RpA K H (vs.eraseIdx i) (ds.eraseIdx i)
  | _, _, _, .nil => .nil
  | _, _, 0, .cons _ r => r
  | _, _, i + 1, .cons h r => .cons h (RpA.erase i r)
theorem RpA.ints : ∀ ns : List Int, RpA K H (ns.map V.int) (ns.map PyData.int)
  | [] => .nil
  | n :: ns => .cons (.int n) (RpA.ints ns)
end

/-! ### a step of the heaps: what is shared stays, what is tracked stays but for the bag's lists, what becomes shared is new -/
structure Step (bg : List Addr) (Hs H Hs' H' : Hp) : Prop where
  sh : Same Hs Hs'
  keep : ∀ a o, H a = some o → a ∉ bg → H' a = some o
  dom : ∀ a, H a ≠ none → H' a ≠ none
  new : ∀ a, Hs' a ≠ none → Hs a ≠ none ∨ H a = none
theorem Step.refl (bg : List Addr) (Hs H : Hp) : Step bg Hs H Hs H := ⟨Same.refl _, fun _ _ h _ => h, fun _ h => h, fun _ h => .inl h⟩
theorem Step.trans {bg : List Addr} {A0 B0 A1 B1 A2 B2 : Hp} (s : Step bg A0 B0 A1 B1) (t : Step bg A1 B1 A2 B2) : Step bg A0 B0 A2 B2 where
  sh := s.sh.trans t.sh
  keep := fun a o h n => t.keep a o (s.keep a o h n) n
  dom := fun a h => t.dom a (s.dom a h)
  new := fun a h => by
    rcases t.new a h with q | q
    · exact s.new a q
    · refine .inr ?_
      cases e : B0 a with
      | none => rfl
      | some o => exact absurd q (s.dom a (by rw [e]; simp))

/-! ### what a frame holds -/
inductive Slot where
  | no
  | sh (d : D)
  | ow (d : D)
  | bag
  | scr (ns : List Int)
inductive Res where
  | sh (d : D)
  | fr (d : D)
  | br (i : Nat) (d : D)
@[reducible] def Res.d : Res → D
  | .sh d => d
  | .fr d => d
  | .br _ d => d

/-- the entry: the shared heap, the heap, the addresses that may be written -/
structure En where
  Hs0 : Hp
  H0 : Hp
  W : List Addr

def OwnO (K : Fg) (Hs H : Hp) (a : Addr) : D → Prop
  | .list ds => ∃ xs, H a = some (.lst xs) ∧ RpA K Hs xs ds
  | .dict kds => (∃ (kvs : List (Key × V)) (ds : List D), H a = some (.dK kvs) ∧ RpA K Hs (kvs.map (·.2)) ds ∧ kds = (kvs.map fun p => keyD p.1).zip ds) ∨
      (∃ (kvs : List (List Key × V)) (ds : List D), H a = some (.dT kvs) ∧ kvs ≠ [] ∧ RpA K Hs (kvs.map (·.2)) ds ∧ kds = (kvs.map fun p => PyData.tuple (p.1.map keyD)).zip ds)
  | _ => False
theorem OwnO.at {K : Fg} {Hs H : Hp} {a : Addr} {d : D} (h : OwnO K Hs H a d) : ∃ o, H a = some o := by
  cases d with
  | list ds => obtain ⟨xs, e, _⟩ := h; exact ⟨_, e⟩
  | dict kds =>
    rcases h with ⟨_, _, e, _⟩ | ⟨_, _, e, _⟩
    · exact ⟨_, e⟩
    · exact ⟨_, e⟩
  | _ => exact h.elim
theorem OwnO.move {K : Fg} {Hs H Hs' H' : Hp} {a : Addr} {d : D} (h : OwnO K Hs H a d) (s : Same Hs Hs') (k : ∀ o, H a = some o → H' a = some o) : OwnO K Hs' H' a d := by
  cases d with
  | list ds => obtain ⟨xs, e, r⟩ := h; exact ⟨xs, k _ e, r.mono s⟩
  | dict kds =>
    rcases h with ⟨kvs, ds, e, r, q⟩ | ⟨kvs, ds, e, n, r, q⟩
    · exact .inl ⟨kvs, ds, k _ e, r.mono s, q⟩
    · exact .inr ⟨kvs, ds, k _ e, n, r.mono s, q⟩
  | _ => exact h.elim
/-- what is owned, read at the whole heap -/
theorem OwnO.rp {K : Fg} {Hs H : Hp} {a : Addr} {d : D} (h : OwnO K Hs H a d) (s : Same Hs H) : Rp K H (.ref a) d := by
  cases d with
  | list ds => obtain ⟨xs, e, r⟩ := h; exact .lst e (r.mono s)
  | dict kds =>
    rcases h with ⟨kvs, ds, e, r, q⟩ | ⟨kvs, ds, e, n, r, q⟩
    · subst q; exact .dK e (r.mono s)
    · subst q; exact .dT e n (r.mono s)
  | _ => exact h.elim

/-- where the mixed number stays below -/
structure BagTop (m : Int) : Prop where
  lt : m < 2147483647
/-- the draws' list: cells still to come, digits, a mixed number -/
def BagAt (H : Hp) (b c : Addr) : Prop := ∃ (cells : List Int) (x m : Int), H b = some (.lst [.ref c, .int x, .int m]) ∧ H c = some (.lst (cells.map V.int)) ∧ (∀ z ∈ cells, 0 ≤ z) ∧ 0 ≤ x ∧ 0 ≤ m ∧ BagTop m
def SlotOk (K : Fg) (en : En) (ad : Nat → Option Addr) (bg : List Addr) (Hs H : Hp) (so : Option (Option V)) (i : Nat) : Slot → Prop
  | .no => True
  | .sh d => ∃ v, so = some (some v) ∧ Rp K Hs v d
  | .ow d => ∃ a, so = some (some (.ref a)) ∧ ad i = some a ∧ Hs a = none ∧ en.H0 a = none ∧ OwnO K Hs H a d
  | .bag => ∃ b c, so = some (some (.ref b)) ∧ bg = [b, c]
  | .scr ns => ∃ a, so = some (some (.ref a)) ∧ Scr K Hs a (ns.map V.int) ∧ en.W = []
structure EnvOk (K : Fg) (en : En) (ad : Nat → Option Addr) (bg : List Addr) (Hs H : Hp) (σ : Sg) (δ : List Slot) : Prop where
  len : σ.length = δ.length
  st : Step en.W en.Hs0 en.H0 Hs H
  sub : Same Hs H
  slot : ∀ i s, δ[i]? = some s → SlotOk K en ad bg Hs H σ[i]? i s
  inj : ∀ i j a, ad i = some a → ad j = some a → i = j
  out : ∀ i a, ad i = some a → a ∉ bg ∧ H a ≠ none
  bgs : ∀ a, a ∈ bg → Hs a = none ∧ (a ∈ en.W ∨ en.H0 a = none)
  bok : bg = [] ∨ ∃ b c, bg = [b, c] ∧ b ≠ c ∧ BagAt H b c
  bw : en.W ≠ [] → bg = en.W
def VRel (K : Fg) (en : En) (ad : Nat → Option Addr) (bg : List Addr) (Hs H : Hp) (σ : Sg) (δ : List Slot) (v : V) : Res → Prop
  | .sh d => Rp K Hs v d
  | .fr d => ∃ a, v = .ref a ∧ Hs a = none ∧ en.H0 a = none ∧ a ∉ bg ∧ (∀ j, ad j ≠ some a) ∧ OwnO K Hs H a d
  | .br i d => δ[i]? = some (.ow d) ∧ σ[i]? = some (some v)
/-- a fresh thing was made since H -/
def Born (H : Hp) (v : V) : Res → Prop
  | .fr _ => ∃ a, v = .ref a ∧ H a = none
  | _ => True

section
variable {K : Fg} {en : En} {ad : Nat → Option Addr} {bg : List Addr} {Hs H Hs' H' : Hp} {σ : Sg} {δ : List Slot} {v : V} {r : Res}
theorem VRel.step (h : VRel K en ad bg Hs H σ δ v r) (s : Step bg Hs H Hs' H') : VRel K en ad bg Hs' H' σ δ v r := by
  cases r with
  | sh d => exact Rp.mono s.sh h
  | br i d => exact h
  | fr d =>
    obtain ⟨a, e, n, n0, nb, na, o⟩ := h
    refine ⟨a, e, ?_, n0, nb, na, o.move s.sh fun x q => s.keep _ _ q nb⟩
    cases q : Hs' a with
    | none => rfl
    | some u =>
      obtain ⟨x, hx⟩ := o.at
      rcases s.new a (by rw [q]; simp) with z | z
      · exact absurd n z
      · rw [hx] at z; cases z
theorem Born.back {bg : List Addr} {A B : Hp} (h : Born H' v r) (s : Step bg A H B H') : Born H v r := by
  cases r with
  | fr d =>
    obtain ⟨a, e, n⟩ := h
    refine ⟨a, e, ?_⟩
    cases q : H a with
    | none => rfl
    | some o => exact absurd n (s.dom a (by rw [q]; simp))
  | _ => trivial
/-- any value, read at the whole heap -/
theorem VRel.rp (h : VRel K en ad bg Hs H σ δ v r) (E : EnvOk K en ad bg Hs H σ δ) : Rp K H v r.d := by
  cases r with
  | sh d => exact Rp.mono E.sub h
  | fr d =>
    obtain ⟨a, rfl, _, _, _, _, o⟩ := h
    exact o.rp E.sub
  | br i d =>
    obtain ⟨h1, h2⟩ := h
    obtain ⟨a, e, _, _, _, o⟩ := E.slot i _ h1
    rw [h2] at e
    cases e
    exact o.rp E.sub
/-- the items of a list -/
theorem VRel.items {ds : List D} (h : VRel K en ad bg Hs H σ δ v r) (E : EnvOk K en ad bg Hs H σ δ) (hd : r.d = .list ds) : ∃ a xs, v = .ref a ∧ H a = some (.lst xs) ∧ RpA K Hs xs ds := by
  cases r with
  | sh d =>
    cases (show d = .list ds from hd)
    cases h with
    | lst h1 h2 => exact ⟨_, _, rfl, E.sub _ _ h1, h2⟩
  | fr d =>
    cases (show d = .list ds from hd)
    obtain ⟨a, rfl, _, _, _, _, xs, e, q⟩ := h
    exact ⟨a, xs, rfl, e, q⟩
  | br i d =>
    cases (show d = .list ds from hd)
    obtain ⟨h1, h2⟩ := h
    obtain ⟨a, e, _, _, _, xs, e2, q⟩ := E.slot i _ h1
    rw [h2] at e
    cases e
    exact ⟨a, xs, rfl, e2, q⟩
theorem VRel.titems {ds : List D} (h : VRel K en ad bg Hs H σ δ v r) (E : EnvOk K en ad bg Hs H σ δ) (hd : r.d = .tuple ds) : ∃ a xs, v = .ref a ∧ H a = some (.tup xs) ∧ RpA K Hs xs ds := by
  cases r with
  | sh d =>
    cases (show d = .tuple ds from hd)
    cases h with
    | tup h1 h2 => exact ⟨_, _, rfl, E.sub _ _ h1, h2⟩
  | fr d =>
    cases (show d = .tuple ds from hd)
    obtain ⟨a, rfl, _, _, _, _, z⟩ := h
    exact z.elim
  | br i d =>
    cases (show d = .tuple ds from hd)
    obtain ⟨h1, h2⟩ := h
    obtain ⟨a, e, _, _, _, z⟩ := E.slot i _ h1
    exact z.elim
theorem Rp.int_inv {i : Int} (h : Rp K H v (.int i)) : v = .int i := by cases h; rfl
theorem Rp.bl_inv {b : Bool} (h : Rp K H v (.bool b)) : v = .bl b := by cases h; rfl
theorem Rp.str_inv {x : Str} (h : Rp K H v (.str x)) : v = .str x := by cases h; rfl
theorem Rp.non_inv (h : Rp K H v .none) : v = .non := by cases h; rfl

/-- a new object becomes shared -/
theorem EnvOk.addS {p : Addr} {o : HO} (E : EnvOk K en ad bg Hs H σ δ) (hp : H p = none) : EnvOk K en ad bg (upd Hs p o) (upd H p o) σ δ ∧ Step bg Hs H (upd Hs p o) (upd H p o) ∧ Hs p = none := by
  have hsp : Hs p = none := E.sub.free hp
  have up : ∀ {A : Hp}, A p = none → Same A (upd A p o) := fun n b x e => by rw [upd_ne (ne_of_none e n)]; exact e
  have h0 : en.H0 p = none := by
    cases q : en.H0 p with
    | none => rfl
    | some x => exact absurd hp (E.st.dom p (by rw [q]; simp))
  have st : Step bg Hs H (upd Hs p o) (upd H p o) := ⟨up hsp, fun a x e _ => up hp a x e, fun a e => by
      cases q : H a with
      | none => exact absurd q e
      | some x => rw [up hp a x q]; simp, fun a e => by
      by_cases ha : a = p
      · exact .inr (by rw [ha]; exact hp)
      · rw [upd_ne ha] at e; exact .inl e⟩
  have nbg : p ∉ bg := fun hm => by
    rcases E.bok with z | ⟨b, c, z, _, cells, x, m, e1, e2, _⟩
    · rw [z] at hm; cases hm
    · rw [z] at hm
      simp at hm
      rcases hm with rfl | rfl
      · rw [hp] at e1; cases e1
      · rw [hp] at e2; cases e2
  refine ⟨⟨E.len, ?_, fun b x e => ?_, fun i s h => ?_, E.inj, fun i a h => ⟨(E.out i a h).1, st.dom a (E.out i a h).2⟩, fun a h => ⟨?_, (E.bgs a h).2⟩, ?_, E.bw⟩, st, hsp⟩
  · refine ⟨E.st.sh.trans st.sh, fun a x e n => up hp _ _ (E.st.keep a x e n), fun a e => st.dom a (E.st.dom a e), fun a e => ?_⟩
    by_cases ha : a = p
    · exact .inr (by rw [ha]; exact h0)
    · rw [upd_ne ha] at e; exact E.st.new a e
  · by_cases hb : b = p
    · subst hb; rw [upd_same] at e ⊢; exact e
    · rw [upd_ne hb] at e ⊢; exact E.sub b x e
  · have q := E.slot i s h
    cases s with
    | no => trivial
    | sh d => obtain ⟨u, e, r⟩ := q; exact ⟨u, e, r.mono st.sh⟩
    | ow d =>
      obtain ⟨a, e1, e2, e3, e4, o'⟩ := q
      obtain ⟨x, hx⟩ := o'.at
      refine ⟨a, e1, e2, ?_, e4, o'.move st.sh fun y hy => up hp _ _ hy⟩
      rw [upd_ne (ne_of_none hx hp)]; exact e3
    | bag => exact q
    | scr ns => obtain ⟨a, e1, e2⟩ := q; exact ⟨a, e1, e2.1.mono st.sh, e2.2⟩
  · rw [upd_ne (fun z => nbg (by rw [← z]; exact h))]; exact (E.bgs a h).1
  · rcases E.bok with z | ⟨b, c, z, nc, cells, x, m, e1, e2, g⟩
    · exact .inl z
    · exact .inr ⟨b, c, z, nc, cells, x, m, up hp _ _ e1, up hp _ _ e2, g⟩
/-- a new object stays with who made it -/
theorem EnvOk.addO {p : Addr} {o : HO} (E : EnvOk K en ad bg Hs H σ δ) (hp : H p = none) : EnvOk K en ad bg Hs (upd H p o) σ δ ∧ Step bg Hs H Hs (upd H p o) ∧ Hs p = none ∧ en.H0 p = none ∧ p ∉ bg ∧ ∀ j, ad j ≠ some p := by
  have hsp : Hs p = none := E.sub.free hp
  have up : ∀ {A : Hp}, A p = none → Same A (upd A p o) := fun n b x e => by rw [upd_ne (ne_of_none e n)]; exact e
  have h0 : en.H0 p = none := by
    cases q : en.H0 p with
    | none => rfl
    | some x => exact absurd hp (E.st.dom p (by rw [q]; simp))
  have st : Step bg Hs H Hs (upd H p o) := ⟨Same.refl _, fun a x e _ => up hp a x e, fun a e => by
      cases q : H a with
      | none => exact absurd q e
      | some x => rw [up hp a x q]; simp, fun a e => .inl e⟩
  have nbg : p ∉ bg := fun hm => by
    rcases E.bok with z | ⟨b, c, z, _, cells, x, m, e1, e2, _⟩
    · rw [z] at hm; cases hm
    · rw [z] at hm
      simp at hm
      rcases hm with rfl | rfl
      · rw [hp] at e1; cases e1
      · rw [hp] at e2; cases e2
  refine ⟨⟨E.len, ?_, fun b x e => up hp _ _ (E.sub b x e), fun i s h => ?_, E.inj, fun i a h => ⟨(E.out i a h).1, st.dom a (E.out i a h).2⟩, E.bgs, ?_, E.bw⟩, st, hsp, h0, nbg, fun j z => (E.out j p z).2 hp⟩
  · exact ⟨E.st.sh, fun a x e n => up hp _ _ (E.st.keep a x e n), fun a e => st.dom a (E.st.dom a e), E.st.new⟩
  · have q := E.slot i s h
    cases s with
    | no => trivial
    | sh d => exact q
    | ow d =>
      obtain ⟨a, e1, e2, e3, e4, o'⟩ := q
      exact ⟨a, e1, e2, e3, e4, o'.move (Same.refl _) fun y hy => up hp _ _ hy⟩
    | bag => exact q
    | scr ns => exact q
  · rcases E.bok with z | ⟨b, c, z, nc, cells, x, m, e1, e2, g⟩
    · exact .inl z
    · exact .inr ⟨b, c, z, nc, cells, x, m, up hp _ _ e1, up hp _ _ e2, g⟩
end
end DL

/-! DL1: readings over data: expressions, tests, arguments. -/
namespace DL
open PySem PySem.Spec PyProof.Rows L2

/-! ### canonical readings -/
structure XD where
  cls : Value
  fs : List (Str × D)
def XRel (K : Fg) (Hs H : Hp) (cls : Value) (d : Option Addr) (x : XD) : Prop :=
  cls = x.cls ∧ ((d = none ∧ x.fs = []) ∨ ∃ dx fv, d = some dx ∧ H dx = some (.xd fv) ∧ fv.map (·.1) = x.fs.map (·.1) ∧ RpA K Hs (fv.map (·.2)) (x.fs.map (·.2)))
abbrev FE := List Slot → (Res → Prop) → (XD → Prop) → Prop
abbrev FT := List Slot → (Bool → Prop) → (XD → Prop) → Prop
abbrev FA := List Slot → (List D → Prop) → (XD → Prop) → Prop

section
variable (K : Fg) (W : WX)
def Kont (en : En) (ad : Nat → Option Addr) (bg : List Addr) (Hs H : Hp) (σ : Sg) (δ : List Slot) (QD : Res → Prop) (Q : VK) : Prop :=
  ∀ v r Hs' H', EnvOk K en ad bg Hs' H' σ δ → Step bg Hs H Hs' H' → VRel K en ad bg Hs' H' σ δ v r → Born H v r → QD r → Q v H'
def KontT (en : En) (ad : Nat → Option Addr) (bg : List Addr) (Hs H : Hp) (σ : Sg) (δ : List Slot) (QD : Bool → Prop) (Q : Bool → Hp → Prop) : Prop :=
  ∀ b Hs' H', EnvOk K en ad bg Hs' H' σ δ → Step bg Hs H Hs' H' → QD b → Q b H'
def KontA (en : En) (ad : Nat → Option Addr) (bg : List Addr) (Hs H : Hp) (σ : Sg) (δ : List Slot) (QD : List D → Prop) (Q : List V → Hp → Prop) : Prop :=
  ∀ vs ds Hs' H', EnvOk K en ad bg Hs' H' σ δ → Step bg Hs H Hs' H' → RpA K Hs' vs ds → QD ds → Q vs H'
def KontX (en : En) (ad : Nat → Option Addr) (bg : List Addr) (σ : Sg) (δ : List Slot) (ED : XD → Prop) : Prop :=
  ∀ cls d x Hs' H', EnvOk K en ad bg Hs' H' σ δ → XRel K Hs' H' cls d x → ED x → W cls d σ H'
def cE (f : FE) : TE := fun σ H Q => ∃ en ad bg Hs δ QD ED, EnvOk K en ad bg Hs H σ δ ∧ f δ QD ED ∧ Kont K en ad bg Hs H σ δ QD Q ∧ KontX K W en ad bg σ δ ED
def cT (f : FT) : TT := fun σ H Q => ∃ en ad bg Hs δ QD ED, EnvOk K en ad bg Hs H σ δ ∧ f δ QD ED ∧ KontT K en ad bg Hs H σ δ QD Q ∧ KontX K W en ad bg σ δ ED
def cA (f : FA) : TA := fun σ H Q => ∃ en ad bg Hs δ QD ED, EnvOk K en ad bg Hs H σ δ ∧ f δ QD ED ∧ KontA K en ad bg Hs H σ δ QD Q ∧ KontX K W en ad bg σ δ ED
end
def DE (X : Cx) (W : WX) (e : Expr) (f : FE) : Prop := PE X e (cE X.K W f)
def DT (X : Cx) (W : WX) (e : Expr) (f : FT) : Prop := PT X e (cT X.K W f)
def DW (X : Cx) (W : WX) (e : Expr) (f : FT) : Prop := PW X e (cT X.K W f)
def DA (X : Cx) (W : WX) (es : List Expr) (f : FA) : Prop := PA X es (cA X.K W f)

theorem peImp {X : Cx} {e : Expr} {t t' : TE} (h : PE X e t) (i : ∀ σ H Q, t' σ H Q → t σ H Q) : PE X e t' := ⟨fun p s σ H Q I q => h.run p s σ H Q I (i σ H Q q)⟩
theorem ptImp {X : Cx} {e : Expr} {t t' : TT} (h : PT X e t) (i : ∀ σ H Q, t' σ H Q → t σ H Q) : PT X e t' := ⟨fun p s σ H Q I q => h.run p s σ H Q I (i σ H Q q)⟩
theorem pwImp {X : Cx} {e : Expr} {t t' : TT} (h : PW X e t) (i : ∀ σ H Q, t' σ H Q → t σ H Q) : PW X e t' := ⟨fun wh p s σ H Q I q => h.run wh p s σ H Q I (i σ H Q q)⟩
theorem paImp {X : Cx} {e : List Expr} {t t' : TA} (h : PA X e t) (i : ∀ σ H Q, t' σ H Q → t σ H Q) : PA X e t' := ⟨fun ps p s σ H Q I q => h.run ps p s σ H Q I (i σ H Q q)⟩

section
variable {K : Fg} {W : WX} {en : En} {ad : Nat → Option Addr} {bg : List Addr} {Hs H Hs' H' A B : Hp} {σ : Sg} {δ : List Slot} {QD : Res → Prop} {Q : VK} {v : V} {d : D} {r : Res}
theorem Kont.step (k : Kont K en ad bg Hs H σ δ QD Q) (s : Step bg Hs H Hs' H') : Kont K en ad bg Hs' H' σ δ QD Q :=
  fun v r A B E t R b q => k v r A B E (s.trans t) R (b.back s) q
theorem KontT.step {QD : Bool → Prop} {Q : Bool → Hp → Prop} (k : KontT K en ad bg Hs H σ δ QD Q) (s : Step bg Hs H Hs' H') : KontT K en ad bg Hs' H' σ δ QD Q :=
  fun b A B E t q => k b A B E (s.trans t) q
theorem KontA.step {QD : List D → Prop} {Q : List V → Hp → Prop} (k : KontA K en ad bg Hs H σ δ QD Q) (s : Step bg Hs H Hs' H') : KontA K en ad bg Hs' H' σ δ QD Q :=
  fun v r A B E t R q => k v r A B E (s.trans t) R q
/-- an answer that leans on no heap -/
inductive Sc : V → D → Prop
  | non : Sc .non .none
  | bl (b : Bool) : Sc (.bl b) (.bool b)
  | int (i : Int) : Sc (.int i) (.int i)
  | str (x : Str) : Sc (.str x) (.str x)
theorem Sc.rp (h : Sc v d) : Rp K H v d := by
  cases h with
  | non => exact .non
  | bl b => exact .bl b
  | int i => exact .int i
  | str x => exact .str x
theorem Kont.sh (k : Kont K en ad bg Hs H σ δ QD Q) (E : EnvOk K en ad bg Hs H σ δ) (q : QD (.sh d)) (h : Rp K Hs v d) : Q v H := k v (.sh d) Hs H E (.refl _ _ _) h trivial q
theorem Kont.sc (k : Kont K en ad bg Hs H σ δ QD Q) (E : EnvOk K en ad bg Hs H σ δ) (q : QD (.sh d)) (h : Sc v d) : Q v H := k.sh E q h.rp
theorem Kont.tup {xs : List V} {ds : List D} (k : Kont K en ad bg Hs H σ δ QD Q) (E : EnvOk K en ad bg Hs H σ δ) (q : QD (.sh (.tuple ds))) (h : RpA K Hs xs ds) (p : Addr) (hp : H p = none) : Q (.ref p) (upd H p (.tup xs)) := by
  obtain ⟨E', s, n⟩ := E.addS (o := .tup xs) hp
  exact k _ (.sh (.tuple ds)) _ _ E' s (.tup upd_same (h.mono s.sh)) trivial q
theorem Kont.lst {xs : List V} {ds : List D} (k : Kont K en ad bg Hs H σ δ QD Q) (E : EnvOk K en ad bg Hs H σ δ) (q : QD (.fr (.list ds))) (h : RpA K Hs xs ds) (p : Addr) (hp : H p = none) : Q (.ref p) (upd H p (.lst xs)) := by
  obtain ⟨E', s, n, n0, nb, na⟩ := E.addO (o := .lst xs) hp
  exact k _ (.fr (.list ds)) _ _ E' s ⟨p, rfl, n, n0, nb, na, xs, upd_same, h⟩ ⟨p, rfl, hp⟩ q
/-- a fresh thing is shared from here on -/
theorem EnvOk.share (E : EnvOk K en ad bg Hs H σ δ) (s : Step bg A B Hs H) (R : VRel K en ad bg Hs H σ δ v (.fr d)) (b : Born B v (.fr d)) :
    ∃ Hs', EnvOk K en ad bg Hs' H σ δ ∧ Step bg A B Hs' H ∧ Rp K Hs' v d ∧ Same Hs Hs' := by
  obtain ⟨a, rfl, n, n0, nb, na, o⟩ := R
  obtain ⟨a', e, nB⟩ := b
  cases e
  obtain ⟨x, hx⟩ := o.at
  have S : Same Hs (upd Hs a x) := fun c u e => by rw [upd_ne (ne_of_none e n)]; exact e
  have S' : Same (upd Hs a x) H := fun c u e => by
    by_cases hc : c = a
    · subst hc; rw [upd_same] at e; cases e; exact hx
    · rw [upd_ne hc] at e; exact E.sub c u e
  refine ⟨upd Hs a x, ⟨E.len, ⟨E.st.sh.trans S, E.st.keep, E.st.dom, fun c e => ?_⟩, S', fun i sl h => ?_, E.inj, E.out, fun c h => ⟨?_, (E.bgs c h).2⟩, E.bok, E.bw⟩, ⟨s.sh.trans S, s.keep, s.dom, fun c e => ?_⟩, ?_, S⟩
  · by_cases hc : c = a
    · subst hc; exact .inr n0
    · rw [upd_ne hc] at e; exact E.st.new c e
  · have q := E.slot i sl h
    cases sl with
    | no => trivial
    | sh d' => obtain ⟨u, e, r⟩ := q; exact ⟨u, e, r.mono S⟩
    | ow d' =>
      obtain ⟨c, e1, e2, e3, e4, o'⟩ := q
      refine ⟨c, e1, e2, ?_, e4, o'.move S fun y hy => hy⟩
      rw [upd_ne (fun z => na i (by rw [e2, z]))]; exact e3
    | bag => exact q
    | scr ns => obtain ⟨c, e1, e2⟩ := q; exact ⟨c, e1, e2.1.mono S, e2.2⟩
  · rw [upd_ne (fun z => nb (by rw [← z]; exact h))]; exact (E.bgs c h).1
  · by_cases hc : c = a
    · subst hc; exact .inr nB
    · rw [upd_ne hc] at e; exact s.new c e
  · have o2 : OwnO K (upd Hs a x) (upd Hs a x) a d := by
      cases d with
      | list ds => obtain ⟨xs, e, r⟩ := o; rw [hx] at e; cases e; exact ⟨xs, upd_same, r.mono S⟩
      | dict kds =>
        rcases o with ⟨kvs, ds, e, r, q⟩ | ⟨kvs, ds, e, n', r, q⟩
        · rw [hx] at e; cases e; exact .inl ⟨kvs, ds, upd_same, r.mono S, q⟩
        · rw [hx] at e; cases e; exact .inr ⟨kvs, ds, upd_same, n', r.mono S, q⟩
      | _ => exact o.elim
    exact o2.rp (Same.refl _)
end

/-- a value that may be kept by others -/
def stab : Res → (D → Prop) → Prop
  | .sh d, Q => Q d
  | .fr d, Q => Q d
  | .br _ _, _ => False
theorem EnvOk.stab {K : Fg} {en : En} {ad : Nat → Option Addr} {bg : List Addr} {Hs H A B : Hp} {σ : Sg} {δ : List Slot} {v : V} {r : Res} {Q : D → Prop} (E : EnvOk K en ad bg Hs H σ δ) (s : Step bg A B Hs H) (R : VRel K en ad bg Hs H σ δ v r) (b : Born B v r) (q : stab r Q) :
    ∃ Hs', EnvOk K en ad bg Hs' H σ δ ∧ Step bg A B Hs' H ∧ Rp K Hs' v r.d ∧ Same Hs Hs' ∧ Q r.d := by
  cases r with
  | sh d => exact ⟨Hs, E, s, R, Same.refl _, q⟩
  | fr d =>
    obtain ⟨Hs', E', s', R', S⟩ := E.share s R b
    exact ⟨Hs', E', s', R', S, q⟩
  | br i d => exact q.elim

/-! ### names and constants -/
section
variable {X : Cx} {W : WX} {pos : Pos}
def fVar (i : Nat) : FE := fun δ Q _ => match δ[i]? with
  | some (.sh d) => Q (.sh d)
  | some (.ow d) => Q (.br i d)
  | _ => False
theorem de_var (i : Nat) {x : Str} (hN : X.N[i]? = some x := by rfl) (hv : Vis X.env.scope x := by first | exact Or.inl rfl | exact Or.inr (Or.inl rfl) | exact Or.inr (Or.inr rfl)) (hd : (x == ("__debug__" : Str)) = false := by decide)
    (hcd : (x == ("__classdict__" : Str)) = false := by decide) : DE X W (.Name x pos) (fVar i) := by
  refine peImp (pe_var (i := i) hN hv hd hcd) fun σ H Q ⟨en, ad, bg, Hs, δ, QD, ED, E, h, k, _⟩ => ?_
  unfold fVar at h
  split at h
  · rename_i d e
    obtain ⟨v, hv', r⟩ := E.slot i _ e
    exact ⟨v, hv', k.sh E h r⟩
  · rename_i d e
    obtain ⟨a, hv', r⟩ := E.slot i _ e
    exact ⟨.ref a, hv', k _ (.br i d) Hs H E (.refl _ _ _) ⟨e, hv'⟩ trivial h⟩
  · exact h.elim
def fC (d : D) : FE := fun _ Q _ => Q (.sh d)
theorem de_of_c {e : Expr} {v : V} {d : D} (h : PE X e (tC v)) (s : Sc v d) : DE X W e (fC d) :=
  peImp h fun σ H Q ⟨en, ad, bg, Hs, δ, QD, ED, E, h, k, _⟩ => k.sc E h s
theorem de_int {i j} : DE X W (.Constant (.int i) j pos) (fC (.int i)) := de_of_c pe_int (.int i)
theorem de_bl {b j} : DE X W (.Constant (.bool b) j pos) (fC (.bool b)) := de_of_c pe_bl (.bl b)
theorem de_non {j} : DE X W (.Constant .none j pos) (fC .none) := de_of_c pe_non .non
theorem de_str {x j} : DE X W (.Constant (.str x) j pos) (fC (.str x)) := de_of_c pe_str (.str x)
/-- a whole number of the module -/
theorem de_globI {x : Str} {n : Int} (hm : ∃ t, X.mg x = some (.int n t)) (hg : Gl X x := by rfl) (hd : (x == ("__debug__" : Str)) = false := by decide) : DE X W (.Name x pos) (fC (.int n)) := by
  obtain ⟨t, hm⟩ := hm
  exact de_of_c (pe_glob (v := .int n) hg hm ⟨t, rfl⟩ hd) (.int n)
end

/-! ### operators with answers that lean on no heap -/
/-- what a rule of values asks, by data -/
def Br2 (K : Fg) (r : R2) (g : D → D → (D → Prop) → Prop) : Prop :=
  ∀ (H : Hp) (v w : V) (d e : D) (Q : VK) (QD : D → Prop), Rp K H v d → Rp K H w e → g d e QD → (∀ v' d', Sc v' d' → QD d' → Q v' H) → r v w H Q
def Br1 (K : Fg) (r : V → Hp → VK → Prop) (g : D → (D → Prop) → Prop) : Prop :=
  ∀ (H : Hp) (v : V) (d : D) (Q : VK) (QD : D → Prop), Rp K H v d → g d QD → (∀ v' d', Sc v' d' → QD d' → Q v' H) → r v H Q
def f2 (g : D → D → (D → Prop) → Prop) (fa fb : FE) : FE := fun δ Q ED => fa δ (fun x => fb δ (fun y => g x.d y.d fun d => Q (.sh d)) ED) ED
def f1 (g : D → (D → Prop) → Prop) (fa : FE) : FE := fun δ Q ED => fa δ (fun x => g x.d fun d => Q (.sh d)) ED
section
variable {X : Cx} {W : WX} {a b : Expr} {fa fb : FE} {pos : Pos}
theorem c2_imp {K : Fg} {r : R2} {g : D → D → (D → Prop) → Prop} (br : Br2 K r g) (σ : Sg) (H : Hp) (Q : VK) (h : cE K W (f2 g fa fb) σ H Q) : tOp r (cE K W fa) (cE K W fb) σ H Q := by
  obtain ⟨en, ad, bg, Hs, δ, QD, ED, E, h, k, kx⟩ := h
  refine ⟨en, ad, bg, Hs, δ, _, ED, E, h, fun v1 r1 Hs1 H1 E1 s1 R1 b1 q1 => ?_, kx⟩
  refine ⟨en, ad, bg, Hs1, δ, _, ED, E1, q1, fun v2 r2 Hs2 H2 E2 s2 R2 b2 q2 => ?_, kx⟩
  exact br H2 v1 v2 _ _ Q _ ((R1.step s2).rp E2) (R2.rp E2) q2 fun v' d' sc q => ((k.step s1).step s2).sc E2 q sc
theorem c1_imp {K : Fg} {r : V → Hp → VK → Prop} {g : D → (D → Prop) → Prop} (br : Br1 K r g) (σ : Sg) (H : Hp) (Q : VK) (h : cE K W (f1 g fa) σ H Q) : tUn r (cE K W fa) σ H Q := by
  obtain ⟨en, ad, bg, Hs, δ, QD, ED, E, h, k, kx⟩ := h
  refine ⟨en, ad, bg, Hs, δ, _, ED, E, h, fun v1 r1 Hs1 H1 E1 s1 R1 b1 q1 => ?_, kx⟩
  exact br H1 v1 _ Q _ (R1.rp E1) q1 fun v' d' sc q => (k.step s1).sc E1 q sc
theorem de_bin {op : Operator} {r : R2} {g : D → D → (D → Prop) → Prop} (ho : OpR X (binaryOp op) r) (br : Br2 X.K r g) (ha : DE X W a fa) (hb : DE X W b fb) : DE X W (.BinOp a op b pos) (f2 g fa fb) :=
  peImp (pe_op ho ha hb) (c2_imp br)
theorem de_un {op : UnaryOp} {r : V → Hp → VK → Prop} {g : D → (D → Prop) → Prop} (ho : UnR X (unaryOp op) r) (br : Br1 X.K r g) (ha : DE X W a fa) : DE X W (.UnaryOp op a pos) (f1 g fa) :=
  peImp (pe_un ho ha) (c1_imp br)
end

def gI2 (f : Int → Int → Int) (d e : D) (Q : D → Prop) : Prop := match d, e with
  | .int i, .int j => Q (.int (f i j))
  | _, _ => False
def gI2C (C : Int → Int → Prop) (f : Int → Int → Int) (d e : D) (Q : D → Prop) : Prop := match d, e with
  | .int i, .int j => C i j ∧ Q (.int (f i j))
  | _, _ => False
def gB2 (f : Int → Int → Bool) (d e : D) (Q : D → Prop) : Prop := match d, e with
  | .int i, .int j => Q (.bool (f i j))
  | _, _ => False
theorem br_rI0 {K : Fg} (f : Int → Int → Int) : Br2 K (rI0 fun i j => .int (f i j)) (gI2 f) := by
  intro H v w d e Q QD hv hw g k
  unfold gI2 at g
  split at g
  · cases hv; cases hw
    exact ⟨_, _, rfl, rfl, k _ _ (.int _) g⟩
  · exact g.elim
theorem br_rI {K : Fg} (C : Int → Int → Prop) (f : Int → Int → Int) : Br2 K (rI C fun i j => .int (f i j)) (gI2C C f) := by
  intro H v w d e Q QD hv hw g k
  unfold gI2C at g
  split at g
  · cases hv; cases hw
    exact ⟨_, _, rfl, rfl, g.1, k _ _ (.int _) g.2⟩
  · exact g.elim
theorem br_rB0 {K : Fg} (f : Int → Int → Bool) : Br2 K (rI0 fun i j => .bl (f i j)) (gB2 f) := by
  intro H v w d e Q QD hv hw g k
  unfold gB2 at g
  split at g
  · cases hv; cases hw
    exact ⟨_, _, rfl, rfl, k _ _ (.bl _) g⟩
  · exact g.elim
end DL

/-! DL2: operators, comparisons, tests, subscripts, displays. -/
namespace DL
open PySem PySem.Spec PyProof.Rows L2

/-! ### rules that see the frame -/
def BrK2 (K : Fg) (r : R2) (g : Res → Res → (Res → Prop) → Prop) : Prop :=
  ∀ en ad bg Hs H (σ : Sg) δ v w r1 r2 (Q : VK) QD, EnvOk K en ad bg Hs H σ δ → VRel K en ad bg Hs H σ δ v r1 → VRel K en ad bg Hs H σ δ w r2 → g r1 r2 QD → Kont K en ad bg Hs H σ δ QD Q → r v w H Q
def f2R (g : Res → Res → (Res → Prop) → Prop) (fa fb : FE) : FE := fun δ Q ED => fa δ (fun x => fb δ (fun y => g x y Q) ED) ED
section
variable {X : Cx} {W : WX} {a b c : Expr} {fa fb fc : FE} {pos : Pos}
theorem c2R_imp {K : Fg} {r : R2} {g : Res → Res → (Res → Prop) → Prop} (br : BrK2 K r g) (σ : Sg) (H : Hp) (Q : VK) (h : cE K W (f2R g fa fb) σ H Q) : tOp r (cE K W fa) (cE K W fb) σ H Q := by
  obtain ⟨en, ad, bg, Hs, δ, QD, ED, E, h, k, kx⟩ := h
  refine ⟨en, ad, bg, Hs, δ, _, ED, E, h, fun v1 r1 Hs1 H1 E1 s1 R1 b1 q1 => ?_, kx⟩
  refine ⟨en, ad, bg, Hs1, δ, _, ED, E1, q1, fun v2 r2 Hs2 H2 E2 s2 R2 b2 q2 => ?_, kx⟩
  exact br _ _ _ _ _ _ _ v1 v2 _ _ Q _ E2 (R1.step s2) R2 q2 ((k.step s1).step s2)
theorem de_binR {op : Operator} {r : R2} {g : Res → Res → (Res → Prop) → Prop} (ho : OpR X (binaryOp op) r) (br : BrK2 X.K r g) (ha : DE X W a fa) (hb : DE X W b fb) : DE X W (.BinOp a op b pos) (f2R g fa fb) :=
  peImp (pe_op ho ha hb) (c2R_imp br)

/-! ### + -/
def gAdd (x y : Res) (Q : Res → Prop) : Prop := match x.d, y.d with
  | .int i, .int j => Q (.sh (.int (i + j)))
  | .str i, .str j => i.length + j.length ≤ sizeLine ∧ Q (.sh (.str (i ++ j)))
  | .list i, .list j => i.length + j.length ≤ sizeLine ∧ Q (.fr (.list (i ++ j)))
  | .tuple i, .tuple j => i.length + j.length ≤ sizeLine ∧ Q (.sh (.tuple (i ++ j)))
  | _, _ => False
def rAdd (K : Fg) : R2 := fun x y H Q => ((∃ i j, x = .int i ∧ y = .int j ∧ Q (.int (i + j)) H) ∨ (∃ i j, x = .str i ∧ y = .str j ∧ i.length + j.length ≤ sizeLine ∧ Q (.str (i ++ j)) H)) ∨ rCat x y H Q ∨ rCatA K x y H Q
theorem op_addAll : OpR X (binaryOp .Add) (rAdd X.K) := by
  refine OpR.or (OpR.or ?_ ?_) (OpR.or op_cat op_catA)
  · intro pins s σ H x y v u Q I rx ry h
    exact op_add pins s σ H x y v u Q I rx ry h
  · intro pins s σ H x y v u Q I rx ry h
    exact op_add_str pins s σ H x y v u Q I rx ry h
theorem br_add {K : Fg} : BrK2 K (rAdd K) gAdd := by
  intro en ad bg Hs H σ δ v w r1 r2 Q QD E R1 R2 g k
  unfold gAdd at g
  split at g
  · rename_i i j e1 e2
    have h1 := R1.rp E; have h2 := R2.rp E
    rw [e1] at h1; rw [e2] at h2
    cases h1; cases h2
    exact .inl (.inl ⟨_, _, rfl, rfl, k.sc E g (.int _)⟩)
  · rename_i i j e1 e2
    have h1 := R1.rp E; have h2 := R2.rp E
    rw [e1] at h1; rw [e2] at h2
    cases h1; cases h2
    exact .inl (.inr ⟨_, _, rfl, rfl, g.1, k.sc E g.2 (.str _)⟩)
  · rename_i i j e1 e2
    obtain ⟨a, xs, rfl, h1, q1⟩ := R1.items E e1
    obtain ⟨b, ys, rfl, h2, q2⟩ := R2.items E e2
    exact .inr (.inl ⟨a, b, xs, ys, rfl, rfl, h1, h2, by rw [q1.length, q2.length]; exact g.1, k.lst E g.2 (q1.append q2)⟩)
  · rename_i i j e1 e2
    obtain ⟨a, xs, rfl, h1, q1⟩ := R1.titems E e1
    obtain ⟨b, ys, rfl, h2, q2⟩ := R2.titems E e2
    have k1 : ∀ {r : Res} {v : V} {ds : List D}, VRel K en ad bg Hs H σ δ v r → r.d = .tuple ds → QD (.sh (.tuple ds)) → Q v H := fun {r v ds} h e q => by
      cases r with
      | sh d => cases (show d = .tuple ds from e); exact k.sh E q h
      | fr d => cases (show d = .tuple ds from e); obtain ⟨_, _, _, _, _, _, z⟩ := h; exact z.elim
      | br i d => cases (show d = .tuple ds from e); obtain ⟨z1, z2⟩ := h; obtain ⟨_, _, _, _, _, z⟩ := E.slot _ _ z1; exact z.elim
    refine .inr (.inr ⟨a, b, xs, ys, rfl, rfl, .of h1, .of h2, by rw [q1.length, q2.length]; exact g.1, fun z => ?_, fun _ z => ?_, fun _ _ => k.tup E g.2 (q1.append q2)⟩)
    · subst z; cases q1; exact k1 R2 e2 g.2
    · subst z; cases q2; rw [List.append_nil] at g; exact k1 R1 e1 g.2
  · exact g.elim
abbrev fAdd : FE → FE → FE := f2R gAdd
theorem de_add (ha : DE X W a fa) (hb : DE X W b fb) : DE X W (.BinOp a .Add b pos) (fAdd fa fb) := de_binR op_addAll br_add ha hb

/-! ### - * // % ** -/
abbrev fSub : FE → FE → FE := f2 (gI2 fun i j => i - j)
theorem de_sub (ha : DE X W a fa) (hb : DE X W b fb) : DE X W (.BinOp a .Sub b pos) (fSub fa fb) := de_bin op_sub (br_rI0 _) ha hb
def gMul (x y : Res) (Q : Res → Prop) : Prop := match x.d, y.d with
  | .int i, .int j => CMul i j ∧ Q (.sh (.int (i * j)))
  | .list i, .int k => (-(2 ^ 63) ≤ k ∧ k < 2 ^ 63 ∧ i.length * k.toNat ≤ sizeLine) ∧ Q (.fr (.list (List.replicate k.toNat i).flatten))
  | _, _ => False
theorem RpA.flat {K : Fg} {H : Hp} {vs : List V} {ds : List D} (h : RpA K H vs ds) : ∀ n : Nat, RpA K H (List.replicate n vs).flatten (List.replicate n ds).flatten
  | 0 => .nil
  | n + 1 => by
    rw [List.replicate_succ, List.replicate_succ, List.flatten_cons, List.flatten_cons]
    exact h.append (RpA.flat h n)
def rMulA : R2 := fun x y H Q => (∃ i j, x = .int i ∧ y = .int j ∧ CMul i j ∧ Q (.int (i * j)) H) ∨ rRep x y H Q
theorem op_mulAll : OpR X (binaryOp .Mult) rMulA := by
  refine OpR.or ?_ op_rep
  intro pins s σ H x y v u Q I rx ry h
  exact op_mul pins s σ H x y v u Q I rx ry h
theorem br_mul {K : Fg} : BrK2 K rMulA gMul := by
  intro en ad bg Hs H σ δ v w r1 r2 Q QD E R1 R2 g k
  unfold gMul at g
  split at g
  · rename_i i j e1 e2
    have h1 := R1.rp E; have h2 := R2.rp E
    rw [e1] at h1; rw [e2] at h2
    cases h1; cases h2
    exact .inl ⟨_, _, rfl, rfl, g.1, k.sc E g.2 (.int _)⟩
  · rename_i i n e1 e2
    obtain ⟨a, xs, rfl, h1, q1⟩ := R1.items E e1
    have h2 := R2.rp E
    rw [e2] at h2
    cases h2
    obtain ⟨⟨g1, g2, g3⟩, g4⟩ := g
    exact .inr ⟨a, n, xs, rfl, rfl, h1, g1, g2, by rw [q1.length]; exact g3, k.lst E g4 (q1.flat _)⟩
  · exact g.elim
abbrev fMul : FE → FE → FE := f2R gMul
theorem de_mul (ha : DE X W a fa) (hb : DE X W b fb) : DE X W (.BinOp a .Mult b pos) (fMul fa fb) := de_binR op_mulAll br_mul ha hb
abbrev fMod : FE → FE → FE := f2 (gI2C (fun _ j => 0 < j) fun i j => i % j)
theorem de_mod (ha : DE X W a fa) (hb : DE X W b fb) : DE X W (.BinOp a .Mod b pos) (fMod fa fb) := de_bin op_mod (br_rI _ _) ha hb
abbrev fDiv : FE → FE → FE := f2 (gI2C CDiv fun i j => i / j)
theorem de_div (ha : DE X W a fa) (hb : DE X W b fb) : DE X W (.BinOp a .FloorDiv b pos) (fDiv fa fb) := de_bin op_fdiv (br_rI _ _) ha hb
abbrev fPow : FE → FE → FE := f2 (gI2C CPow fun i j => i ^ j.toNat)
theorem de_pow (ha : DE X W a fa) (hb : DE X W b fb) : DE X W (.BinOp a .Pow b pos) (fPow fa fb) := de_bin op_pow (br_rI _ _) ha hb
def gNeg (d : D) (Q : D → Prop) : Prop := match d with
  | .int i => Q (.int (-i))
  | _ => False
abbrev fNeg : FE → FE := f1 gNeg
theorem de_neg (ha : DE X W a fa) : DE X W (.UnaryOp .USub a pos) (fNeg fa) := de_un un_neg (fun H v d Q QD hv g k => by
  unfold gNeg at g
  split at g
  · cases hv; exact ⟨_, rfl, k _ _ (.int _) g⟩
  · exact g.elim) ha

/-! ### comparisons -/
theorem de_cmp {op : CmpOp} {r : R2} {g : D → D → (D → Prop) → Prop} (ho : OpR X (compareOp op) r) (br : Br2 X.K r g) (ha : DE X W a fa) (hb : DE X W b fb) (hm : behindInMarks op b = false) : DE X W (.Compare a [op] [b] pos) (f2 g fa fb) :=
  peImp (pe_cmpR ho ha hb hm) (c2_imp br)
/-- a value that is a truth, as a test -/
def boolW (d : D) (Q : Bool → Prop) : Prop := match d with
  | .bool b => Q b
  | _ => False
def fTest (f : FE) : FT := fun δ Q ED => f δ (fun r => boolW r.d Q) ED
theorem cTest_imp {K : Fg} {f : FE} {σ : Sg} {H : Hp} {Q : Bool → Hp → Prop} (h : cT K W (fTest f) σ H Q) : cE K W f σ H fun x H' => ∃ k, x = .bl k ∧ Q k H' := by
  obtain ⟨en, ad, bg, Hs, δ, QD, ED, E, h, k, kx⟩ := h
  refine ⟨en, ad, bg, Hs, δ, _, ED, E, h, fun v1 r1 Hs1 H1 E1 s1 R1 b1 q1 => ?_, kx⟩
  have h1 := R1.rp E1
  have q1 : boolW r1.d QD := q1
  unfold boolW at q1
  split at q1
  · rename_i b e
    rw [e] at h1
    cases h1
    exact ⟨b, rfl, k b Hs1 H1 E1 s1 q1⟩
  · exact q1.elim
theorem dt_cmp {op : CmpOp} {r : R2} {g : D → D → (D → Prop) → Prop} (ho : OpR X (compareOp op) r) (br : Br2 X.K r g) (ha : DE X W a fa) (hb : DE X W b fb) (hm : behindInMarks op b = false) : DT X W (.Compare a [op] [b] pos) (fTest (f2 g fa fb)) :=
  ptImp (pt_cmpR ho ha hb hm) fun σ H Q h => c2_imp br σ H _ (cTest_imp h)
/-- an expression whose value is a truth, as a test -/
theorem dt_val {e : Expr} {f : FE} (h : DE X W e f) (he : ∀ whole, isTrue e X.env whole = (do let v ← whole; standAt e.pos; holding [v] (truthy v)) := by intro _; rfl) : DT X W e (fTest f) :=
  ptImp (pt_val h he) fun σ H Q q => cTest_imp q

abbrev gLt := gB2 fun i j => decide (i < j)
abbrev gLe := gB2 fun i j => decide (i ≤ j)
abbrev gGt := gB2 fun i j => decide (j < i)
abbrev gGe := gB2 fun i j => decide (j ≤ i)
theorem br_lt {K : Fg} : Br2 K (rI0 fun i j => .bl (decide (i < j))) gLt := br_rB0 _

/-- what can be compared by == as data -/
def scalD : D → D → Bool
  | .none, .none => true | .none, .int _ => true | .int _, .none => true | .none, .bool _ => true | .bool _, .none => true | .none, .str _ => true | .str _, .none => true
  | .int _, .int _ => true | .bool _, .bool _ => true | .str _, .str _ => true
  | .int _, .str _ => true | .str _, .int _ => true | .bool _, .str _ => true | .str _, .bool _ => true
  | _, _ => false
mutual
def eqD : D → D → Bool
  | .none, .none => true
  | .bool a, .bool b => a == b
  | .int a, .int b => a == b
  | .str a, .str b => a == b
  | .list a, .list b => eqDs a b
  | .tuple a, .tuple b => eqDs a b
  | _, _ => false
def eqDs : List D → List D → Bool
  | [], [] => true
  | x :: xs, y :: ys => eqD x y && eqDs xs ys
  | _, _ => false
end
def gEq (d e : D) (Q : D → Prop) : Prop := (scalD d e = true ∧ Q (.bool (eqD d e))) ∨ (SeqAt.shaped d = true ∧ SeqAt.shaped e = true ∧ Q (.bool (PyData.eqv d e)))
def gNe (d e : D) (Q : D → Prop) : Prop := (scalD d e = true ∧ Q (.bool (!eqD d e))) ∨ (SeqAt.shaped d = true ∧ SeqAt.shaped e = true ∧ Q (.bool (!PyData.eqv d e)))
mutual
theorem Rp.dp {K : Fg} {H : Hp} : ∀ {v : V} {d : D}, Rp K H v d → PyData.canLay0 d = true → Dp K H v d
  | _, _, .non, _ => .non
  | _, _, .bl b, _ => .bl b
  | _, _, .int i, _ => .int i
  | _, _, .str x, _ => .str x
  | _, _, .lst h r, c => .lst (.of h) (RpA.dp r (by simpa [PyData.canLay0] using c))
  | _, _, .tup h r, c => .tup (.of h) (RpA.dp r (by simpa [PyData.canLay0] using c))
  | _, _, .dK h r, c => by simp [PyData.canLay0] at c
  | _, _, .dT h n r, c => by simp [PyData.canLay0] at c
theorem RpA.dp {K : Fg} {H : Hp} : ∀ {vs : List V} {ds : List D}, RpA K H vs ds → PyData.canLayAll0 ds = true → DpAll K H vs ds
  | _, _, .nil, _ => .nil
  | _, _, .cons h r, c => by
    simp only [PyData.canLayAll0, Bool.and_eq_true] at c
    exact .cons (Rp.dp h c.1) (RpA.dp r c.2)
end
theorem scal_of {K : Fg} {H : Hp} {v w : V} {d e : D} (hv : Rp K H v d) (hw : Rp K H w e) (s : scalD d e = true) : scal v w = true ∧ decide (v = w) = eqD d e := by
  cases hv <;> cases hw <;> first
    | (exfalso; simp [scalD] at s; done)
    | (refine ⟨rfl, ?_⟩; simp [eqD]; done)
    | (refine ⟨rfl, ?_⟩; simp only [eqD]; rw [Bool.eq_iff_iff]; simp)
def rEqA (K : Fg) : R2 := fun x y H Q => rEq x y H Q ∨ rEqD K x y H Q
def rNeA (K : Fg) : R2 := fun x y H Q => rNe x y H Q ∨ rNeD K x y H Q
theorem br_eq {K : Fg} : Br2 K (rEqA K) gEq := by
  intro H v w d e Q QD hv hw g k
  rcases g with ⟨s, g⟩ | ⟨s1, s2, g⟩
  · obtain ⟨h1, h2⟩ := scal_of hv hw s
    refine .inl ⟨h1, ?_⟩
    rw [h2]
    exact k _ _ (.bl _) g
  · exact .inr ⟨d, e, hv.dp (SeqAt.canLay_of_shaped s1), hw.dp (SeqAt.canLay_of_shaped s2), s1, s2, k _ _ (.bl _) g⟩
theorem br_ne {K : Fg} : Br2 K (rNeA K) gNe := by
  intro H v w d e Q QD hv hw g k
  rcases g with ⟨s, g⟩ | ⟨s1, s2, g⟩
  · obtain ⟨h1, h2⟩ := scal_of hv hw s
    refine .inl ⟨h1, ?_⟩
    rw [h2]
    exact k _ _ (.bl _) g
  · exact .inr ⟨d, e, hv.dp (SeqAt.canLay_of_shaped s1), hw.dp (SeqAt.canLay_of_shaped s2), s1, s2, k _ _ (.bl _) g⟩
theorem op_eqAll (hu : X.A.units + 64 < cLine) : OpR X (compareOp .Eq) (rEqA X.K) := OpR.or op_eq (op_eqD hu)
theorem op_neAll (hu : X.A.units + 64 < cLine) : OpR X (compareOp .NotEq) (rNeA X.K) := OpR.or op_ne (op_neD hu)
/-- is None -/
def isNone : D → Bool
  | .none => true
  | _ => false
def gIsN (d e : D) (Q : D → Prop) : Prop := e = .none ∧ Q (.bool (isNone d))
def gNotN (d e : D) (Q : D → Prop) : Prop := e = .none ∧ Q (.bool (!isNone d))
theorem non_iff {K : Fg} {H : Hp} {v : V} {d : D} (h : Rp K H v d) : decide (v = .non) = isNone d := by
  cases h <;> simp [isNone]
theorem br_isN {K : Fg} : Br2 K (fun x y H Q => y = .non ∧ Q (.bl (decide (x = .non))) H) gIsN := by
  intro H v w d e Q QD hv hw g k
  obtain ⟨rfl, g⟩ := g
  cases hw
  refine ⟨rfl, ?_⟩
  rw [non_iff hv]
  exact k _ _ (.bl _) g
theorem br_notN {K : Fg} : Br2 K (fun x y H Q => y = .non ∧ Q (.bl (!decide (x = .non))) H) gNotN := by
  intro H v w d e Q QD hv hw g k
  obtain ⟨rfl, g⟩ := g
  cases hw
  refine ⟨rfl, ?_⟩
  rw [non_iff hv]
  exact k _ _ (.bl _) g
end
end DL

/-! DL3: tests, subscripts, slices, displays, argument lists, calls of built-ins. -/
namespace DL
open PySem PySem.Spec PyProof.Rows L2
section
variable {X : Cx} {W : WX} {a b c : Expr} {fa fb fc : FE} {ta tb : FT} {pos : Pos} {rest : List Expr}

/-! ### and, or, not, if -/
def fAnd (t u : FT) : FT := fun δ Q ED => t δ (fun c => if c = true then u δ Q ED else Q false) ED
def fOr (t u : FT) : FT := fun δ Q ED => t δ (fun c => if c = true then Q true else u δ Q ED) ED
def fNot (t : FT) : FT := fun δ Q ED => t δ (fun c => Q (!c)) ED
theorem dw_and1 (h : DT X W a ta) : DW X W (.BoolOp .And [a] pos) ta := pw_and1 h
theorem dw_or1 (h : DT X W a ta) : DW X W (.BoolOp .Or [a] pos) ta := pw_or1 h
theorem cT_seq {K : Fg} {t : FT} {en ad bg Hs H} {σ : Sg} {δ QD ED} {R : Bool → Hp → Prop} (E : EnvOk K en ad bg Hs H σ δ) (h : t δ QD ED) (k : KontT K en ad bg Hs H σ δ QD R) (kx : KontX K W en ad bg σ δ ED) : cT K W t σ H R :=
  ⟨en, ad, bg, Hs, δ, QD, ED, E, h, k, kx⟩
theorem cE_seq {K : Fg} {t : FE} {en ad bg Hs H} {σ : Sg} {δ QD ED} {R : VK} (E : EnvOk K en ad bg Hs H σ δ) (h : t δ QD ED) (k : Kont K en ad bg Hs H σ δ QD R) (kx : KontX K W en ad bg σ δ ED) : cE K W t σ H R :=
  ⟨en, ad, bg, Hs, δ, QD, ED, E, h, k, kx⟩
theorem dw_and (ha : DT X W a ta) (hb : DW X W (.BoolOp .And (b :: rest) pos) tb) : DW X W (.BoolOp .And (a :: b :: rest) pos) (fAnd ta tb) :=
  pwImp (pw_and ha hb) fun σ H Q ⟨en, ad, bg, Hs, δ, QD, ED, E, h, k, kx⟩ => cT_seq E h (fun c Hs1 H1 E1 s1 q => by
    cases c with
    | true => rw [if_pos rfl]; exact cT_seq E1 (by simpa using q) (k.step s1) kx
    | false => rw [if_neg Bool.false_ne_true]; exact k false _ _ E1 s1 (by simpa using q)) kx
theorem dw_or (ha : DT X W a ta) (hb : DW X W (.BoolOp .Or (b :: rest) pos) tb) : DW X W (.BoolOp .Or (a :: b :: rest) pos) (fOr ta tb) :=
  pwImp (pw_or ha hb) fun σ H Q ⟨en, ad, bg, Hs, δ, QD, ED, E, h, k, kx⟩ => cT_seq E h (fun c Hs1 H1 E1 s1 q => by
    cases c with
    | false => rw [if_neg Bool.false_ne_true]; exact cT_seq E1 (by simpa using q) (k.step s1) kx
    | true => rw [if_pos rfl]; exact k true _ _ E1 s1 (by simpa using q)) kx
theorem dt_w {e : Expr} {t : FT} (h : DW X W e t) : DT X W e t := PW.pt h
theorem dt_not (ha : DT X W a ta) : DT X W (.UnaryOp .Not a pos) (fNot ta) :=
  ptImp (pt_not ha) fun σ H Q ⟨en, ad, bg, Hs, δ, QD, ED, E, h, k, kx⟩ => cT_seq E h (fun c Hs1 H1 E1 s1 q => k _ _ _ E1 s1 q) kx
/-- as values -/
def fAndV (f g : FE) : FE := fun δ Q ED => f δ (fun r => boolW r.d fun c => if c = true then g δ Q ED else Q (.sh (.bool false))) ED
def fOrV (f g : FE) : FE := fun δ Q ED => f δ (fun r => boolW r.d fun c => if c = true then Q (.sh (.bool true)) else g δ Q ED) ED
def fNotV (f : FE) : FE := fun δ Q ED => f δ (fun r => boolW r.d fun c => Q (.sh (.bool (!c)))) ED
theorem boolW_inv {K : Fg} {H : Hp} {v : V} {d : D} {Q : Bool → Prop} (h : boolW d Q) (r : Rp K H v d) : ∃ b, v = .bl b ∧ Q b := by
  cases r <;> first | exact h.elim | exact ⟨_, rfl, h⟩
theorem de_one {op} (h : DE X W a fa) : DE X W (.BoolOp op [a] pos) fa := pe_one h
theorem de_and (ha : DE X W a fa) (hb : DE X W (.BoolOp .And (b :: rest) pos) fb) : DE X W (.BoolOp .And (a :: b :: rest) pos) (fAndV fa fb) :=
  peImp (pe_and ha hb) fun σ H Q ⟨en, ad, bg, Hs, δ, QD, ED, E, h, k, kx⟩ => cE_seq E h (fun v r Hs1 H1 E1 s1 R1 b1 q => by
    obtain ⟨c, e, q⟩ := boolW_inv q (R1.rp E1)
    refine ⟨c, e, ?_⟩
    cases c with
    | true => rw [if_pos rfl]; exact cE_seq E1 (by simpa using q) (k.step s1) kx
    | false => rw [if_neg Bool.false_ne_true]; exact (k.step s1).sc E1 (by simpa using q) (.bl _)) kx
theorem de_or (ha : DE X W a fa) (hb : DE X W (.BoolOp .Or (b :: rest) pos) fb) : DE X W (.BoolOp .Or (a :: b :: rest) pos) (fOrV fa fb) :=
  peImp (pe_or ha hb) fun σ H Q ⟨en, ad, bg, Hs, δ, QD, ED, E, h, k, kx⟩ => cE_seq E h (fun v r Hs1 H1 E1 s1 R1 b1 q => by
    obtain ⟨c, e, q⟩ := boolW_inv q (R1.rp E1)
    refine ⟨c, e, ?_⟩
    cases c with
    | false => rw [if_neg Bool.false_ne_true]; exact cE_seq E1 (by simpa using q) (k.step s1) kx
    | true => rw [if_pos rfl]; exact (k.step s1).sc E1 (by simpa using q) (.bl _)) kx
theorem de_not (ha : DE X W a fa) : DE X W (.UnaryOp .Not a pos) (fNotV fa) :=
  peImp (pe_not ha) fun σ H Q ⟨en, ad, bg, Hs, δ, QD, ED, E, h, k, kx⟩ => cE_seq E h (fun v r Hs1 H1 E1 s1 R1 b1 q => by
    obtain ⟨c, e, q⟩ := boolW_inv q (R1.rp E1)
    exact ⟨c, e, (k.step s1).sc E1 q (.bl _)⟩) kx
def fIfE (t : FT) (f g : FE) : FE := fun δ Q ED => t δ (fun c => if c = true then f δ Q ED else g δ Q ED) ED
theorem de_if {e : Expr} (hc : DT X W e ta) (ha : DE X W a fa) (hb : DE X W b fb) : DE X W (.IfExp e a b pos) (fIfE ta fa fb) :=
  peImp (pe_ifExp hc ha hb) fun σ H Q ⟨en, ad, bg, Hs, δ, QD, ED, E, h, k, kx⟩ => cT_seq E h (fun c Hs1 H1 E1 s1 q => by
    cases c with
    | true => rw [if_pos rfl]; exact cE_seq E1 (by simpa using q) (k.step s1) kx
    | false => rw [if_neg Bool.false_ne_true]; exact cE_seq E1 (by simpa using q) (k.step s1) kx) kx
/-- a op b op' c -/
def fChain (g g' : D → D → (D → Prop) → Prop) (fa fb fc : FE) : FE := fun δ Q ED => fa δ (fun x => fb δ (fun y => g x.d y.d fun d => boolW d fun k => if k = true then fc δ (fun z => g' y.d z.d fun d => Q (.sh d)) ED else Q (.sh (.bool false))) ED) ED
theorem cChain_imp {K : Fg} {r r' : R2} {g g' : D → D → (D → Prop) → Prop} (br : Br2 K r g) (br' : Br2 K r' g') (σ : Sg) (H : Hp) (Q : VK) (h : cE K W (fChain g g' fa fb fc) σ H Q) :
    tChain r r' (cE K W fa) (cE K W fb) (cE K W fc) σ H Q := by
  obtain ⟨en, ad, bg, Hs, δ, QD, ED, E, h, k, kx⟩ := h
  refine cE_seq E h (fun v1 r1 Hs1 H1 E1 s1 R1 b1 q1 => cE_seq E1 q1 (fun v2 r2 Hs2 H2 E2 s2 R2 b2 q2 => ?_) kx) kx
  refine br H2 v1 v2 _ _ _ _ ((R1.step s2).rp E2) (R2.rp E2) q2 fun v' d' sc q => ?_
  obtain ⟨c, e, q⟩ := boolW_inv q (sc.rp (K := K) (H := H2))
  refine ⟨c, e, ?_⟩
  cases c with
  | true =>
    rw [if_pos rfl]
    refine cE_seq E2 (by simpa using q) (fun v3 r3 Hs3 H3 E3 s3 R3 b3 q3 => ?_) kx
    exact br' H3 v2 v3 _ _ _ _ ((R2.step s3).rp E3) (R3.rp E3) q3 fun v'' d'' sc' q' => (((k.step s1).step s2).step s3).sc E3 q' sc'
  | false => rw [if_neg Bool.false_ne_true]; exact ((k.step s1).step s2).sc E2 (by simpa using q) (.bl _)
theorem de_chain {op op' : CmpOp} {r r' : R2} {g g' : D → D → (D → Prop) → Prop} (ho : OpR X (compareOp op) r) (ho' : OpR X (compareOp op') r') (br : Br2 X.K r g) (br' : Br2 X.K r' g') (ha : DE X W a fa) (hb : DE X W b fb) (hc : DE X W c fc)
    (hm : lastMarks [op, op'] [b, c] = false := by with_unfolding_all rfl) : DE X W (.Compare a [op, op'] [b, c] pos) (fChain g g' fa fb fc) :=
  peImp (pe_chain ho ho' ha hb hc hm) (cChain_imp br br')
theorem dt_chain {op op' : CmpOp} {r r' : R2} {g g' : D → D → (D → Prop) → Prop} (ho : OpR X (compareOp op) r) (ho' : OpR X (compareOp op') r') (br : Br2 X.K r g) (br' : Br2 X.K r' g') (ha : DE X W a fa) (hb : DE X W b fb) (hc : DE X W c fc)
    (hm : lastMarks [op, op'] [b, c] = false := by with_unfolding_all rfl) : DT X W (.Compare a [op, op'] [b, c] pos) (fTest (fChain g g' fa fb fc)) :=
  ptImp (pt_chain ho ho' ha hb hc hm) fun σ H Q h => cChain_imp br br' σ H _ (cTest_imp h)

/-! ### dicts as lists of pairs -/
def lookD (kds : List (D × D)) (k : D) : Option D := (kds.find? fun p => PyData.eqv p.1 k).map (·.2)
def putD (kds : List (D × D)) (k d : D) : List (D × D) := if (kds.any fun p => PyData.eqv p.1 k) = true then kds.map (fun p => if PyData.eqv p.1 k = true then (p.1, d) else p) else kds ++ [(k, d)]
theorem eqv_key (k j : Key) : PyData.eqv (keyD k) (keyD j) = decide (k = j) := by
  cases k <;> cases j <;> simp [keyD, PyData.eqv] <;> (rw [Bool.eq_iff_iff]; simp)
theorem eqvAll_keys : ∀ ks js : List Key, PyData.eqvAll (ks.map keyD) (js.map keyD) = decide (ks = js)
  | [], [] => by simp [PyData.eqvAll]
  | [], j :: js => by simp [PyData.eqvAll]
  | k :: ks, [] => by simp [PyData.eqvAll]
  | k :: ks, j :: js => by
    rw [List.map_cons, List.map_cons, PyData.eqvAll, eqv_key, eqvAll_keys ks js, Bool.eq_iff_iff]
    simp
theorem eqv_tkey (ks js : List Key) : PyData.eqv (.tuple (ks.map keyD)) (.tuple (js.map keyD)) = decide (ks = js) := by
  rw [PyData.eqv, eqvAll_keys]
section
variable {κ : Type} [DecidableEq κ] {K : Fg} {H : Hp} (kd : κ → D) (hk : ∀ k j, PyData.eqv (kd k) (kd j) = decide (k = j))
include hk
theorem look_val (k : κ) : ∀ (kvs : List (κ × V)) (ds : List D), RpA K H (kvs.map (·.2)) ds →
    (∀ d, lookD ((kvs.map fun p => kd p.1).zip ds) (kd k) = some d → ∃ v, valV kvs k = some v ∧ Rp K H v d) ∧ (valV kvs k).isSome = (lookD ((kvs.map fun p => kd p.1).zip ds) (kd k)).isSome
  | [], ds, r => by
    cases r
    exact ⟨fun d h => by simp [lookD] at h, rfl⟩
  | p :: kvs, ds, r => by
    cases r with
    | cons r1 r2 =>
      rename_i d ds
      obtain ⟨h1, h2⟩ := look_val k kvs ds r2
      by_cases e : p.1 = k
      · rw [valV_pos e]
        have q : lookD (((p :: kvs).map fun p => kd p.1).zip (d :: ds)) (kd k) = some d := by simp [lookD, hk, e]
        rw [q]
        exact ⟨fun d' h => ⟨_, rfl, by cases h; exact r1⟩, rfl⟩
      · rw [valV_neg e]
        have q : lookD (((p :: kvs).map fun p => kd p.1).zip (d :: ds)) (kd k) = lookD ((kvs.map fun p => kd p.1).zip ds) (kd k) := by simp [lookD, hk, e]
        rw [q]
        exact ⟨h1, h2⟩
theorem any_key (k : κ) : ∀ (kvs : List (κ × V)) (ds : List D), kvs.length = ds.length → (((kvs.map fun p => kd p.1).zip ds).any fun p => PyData.eqv p.1 (kd k)) = kvs.any fun p => decide (p.1 = k)
  | [], _, _ => rfl
  | _ :: _, [], h => by simp at h
  | p :: kvs, d :: ds, h => by
    simp only [List.map_cons, List.zip_cons_cons, List.any_cons, hk]
    rw [any_key k kvs ds (by simpa using h)]
theorem put_val (k : κ) {v : V} {d : D} (hv : Rp K H v d) (kvs : List (κ × V)) (ds : List D) (r : RpA K H (kvs.map (·.2)) ds) :
    ∃ es, RpA K H ((putK kvs k v).map (·.2)) es ∧ putD ((kvs.map fun p => kd p.1).zip ds) (kd k) d = ((putK kvs k v).map fun p => kd p.1).zip es := by
  have hl : kvs.length = ds.length := by have := r.length; rwa [List.length_map] at this
  unfold putK putD
  rw [any_key kd hk k kvs ds hl]
  split
  · have go : ∀ (kvs : List (κ × V)) (ds : List D), RpA K H (kvs.map (·.2)) ds → ∃ es, RpA K H ((kvs.map fun kv => if kv.1 = k then (kv.1, v) else kv).map (·.2)) es ∧
        (((kvs.map fun p => kd p.1).zip ds).map fun p => if PyData.eqv p.1 (kd k) = true then (p.1, d) else p) = ((kvs.map fun kv => if kv.1 = k then (kv.1, v) else kv).map fun p => kd p.1).zip es := by
      intro kvs
      induction kvs with
      | nil => intro ds r; exact ⟨[], .nil, rfl⟩
      | cons p kvs ih =>
        intro ds r
        cases r with
        | cons r1 r2 =>
          rename_i d' ds
          obtain ⟨es, h1, h2⟩ := ih ds r2
          by_cases e : p.1 = k
          · refine ⟨d :: es, ?_, ?_⟩
            · simp only [List.map_cons, if_pos e]; exact .cons hv h1
            · simp only [List.map_cons, List.zip_cons_cons, hk, if_pos e, decide_eq_true e, if_true, h2]
          · refine ⟨d' :: es, ?_, ?_⟩
            · simp only [List.map_cons, if_neg e]; exact .cons r1 h1
            · simp only [List.map_cons, List.zip_cons_cons, hk, if_neg e, decide_eq_false e, h2]
              simp
    exact go kvs ds r
  · refine ⟨ds ++ [d], ?_, ?_⟩
    · rw [List.map_append]; exact r.append (.cons hv .nil)
    · rw [List.map_append]
      have e : (kvs.map fun p => kd p.1).length = ds.length := by rw [List.length_map, hl]
      rw [List.zip_append e]
      rfl
end

/-! ### subscripts -/
/-- an int or a text -/
def scK : D → Bool
  | .int _ => true
  | .str _ => true
  | _ => false
def gIx (x y : Res) (Q : Res → Prop) : Prop := match x.d, y.d with
  | .list ds, .int i => ∃ d, atI ds i = some d ∧ Q (.sh d)
  | .tuple ds, .int i => ∃ d, atI ds i = some d ∧ Q (.sh d)
  | .dict kds, k => (scK k = true ∧ kds.all (fun p => scK p.1) = true) ∧ ∃ d, lookD kds k = some d ∧ Q (.sh d)
  | _, _ => False
theorem RpA.atI {K : Fg} {H : Hp} {vs : List V} {ds : List D} {i : Int} {d : D} (r : RpA K H vs ds) (h : atI ds i = some d) : ∃ v, L2.atI vs i = some v ∧ Rp K H v d := by
  unfold L2.atI at h ⊢
  rw [r.length]
  cases e : ixN ds.length i with
  | none => rw [e] at h; cases h
  | some j => rw [e] at h; exact r.get h
def rIxD : R2 := fun x y H Q => ∃ a v, x = .ref a ∧ DGet H a y (some v) ∧ Q v H
theorem ix_dict (hu : X.A.units + 1 < cLine) : IxR X rIxD := by
  intro value slice pins s σ H x y v u Q I rx ry h hs
  obtain ⟨a, z, rfl, g, q⟩ := h
  cases rx
  exact tail_any (dict_typeIs I g) PySem.F.slot_dict_getitem.lookup (d_getItem hu I g ry fun w' s3 I3 rw' => ⟨z, H, I3, rw', q⟩) hs
def rIxA (K : Fg) : R2 := fun x y H Q => rIxD x y H Q ∨ rIxL K x y H Q ∨ rIxT K x y H Q
theorem ix_all (hu : X.A.units + 1 < cLine) : IxR X (rIxA X.K) := (ix_dict hu).or (ix_list.or ix_tup)
theorem VRel.dict {K : Fg} {en ad bg Hs H} {σ : Sg} {δ v r} {kds : List (D × D)} (h : VRel K en ad bg Hs H σ δ v r) (E : EnvOk K en ad bg Hs H σ δ) (hd : r.d = .dict kds) : ∃ a, v = .ref a ∧
    ((∃ (kvs : List (Key × V)) (ds : List D), H a = some (.dK kvs) ∧ RpA K Hs (kvs.map (·.2)) ds ∧ kds = (kvs.map fun p => keyD p.1).zip ds) ∨
      (∃ (kvs : List (List Key × V)) (ds : List D), H a = some (.dT kvs) ∧ kvs ≠ [] ∧ RpA K Hs (kvs.map (·.2)) ds ∧ kds = (kvs.map fun p => PyData.tuple (p.1.map keyD)).zip ds)) := by
  cases r with
  | sh d =>
    cases (show d = .dict kds from hd)
    cases h with
    | dK h1 h2 => exact ⟨_, rfl, .inl ⟨_, _, E.sub _ _ h1, h2, rfl⟩⟩
    | dT h1 n h2 => exact ⟨_, rfl, .inr ⟨_, _, E.sub _ _ h1, n, h2, rfl⟩⟩
  | fr d =>
    cases (show d = .dict kds from hd)
    obtain ⟨a, rfl, _, _, _, _, o⟩ := h
    exact ⟨a, rfl, o⟩
  | br i d =>
    cases (show d = .dict kds from hd)
    obtain ⟨h1, h2⟩ := h
    obtain ⟨a, e, _, _, _, o⟩ := E.slot i _ h1
    rw [h2] at e
    cases e
    exact ⟨a, rfl, o⟩
theorem scK_key {K : Fg} {H : Hp} {v : V} {d : D} (h : Rp K H v d) (s : scK d = true) : ∃ k : Key, v = kV k ∧ d = keyD k := by
  cases h <;> first | exact absurd s Bool.false_ne_true | exact ⟨.inl _, rfl, rfl⟩ | exact ⟨.inr _, rfl, rfl⟩
/-- a dict whose keys are ints and texts -/
theorem VRel.dictK {K : Fg} {en ad bg Hs H} {σ : Sg} {δ v r} {kds : List (D × D)} (h : VRel K en ad bg Hs H σ δ v r) (E : EnvOk K en ad bg Hs H σ δ) (hd : r.d = .dict kds) (hk : kds.all (fun p => scK p.1) = true) :
    ∃ a kvs ds, v = .ref a ∧ H a = some (.dK kvs) ∧ RpA K Hs (kvs.map (·.2)) ds ∧ kds = (kvs.map fun p => keyD p.1).zip ds := by
  obtain ⟨a, rfl, h | h⟩ := h.dict E hd
  · obtain ⟨kvs, ds, h1, h2, h3⟩ := h
    exact ⟨a, kvs, ds, rfl, h1, h2, h3⟩
  · obtain ⟨kvs, ds, h1, n, h2, h3⟩ := h
    cases kvs with
    | nil => exact absurd rfl n
    | cons p kvs =>
      cases h2 with
      | cons r1 r2 =>
        subst h3
        exact absurd hk (by simp [scK])
theorem br_ix {K : Fg} : BrK2 K (rIxA K) gIx := by
  intro en ad bg Hs H σ δ v w r1 r2 Q QD E R1 R2 g k
  unfold gIx at g
  split at g
  · rename_i ds i e1 e2
    obtain ⟨d, g1, g2⟩ := g
    obtain ⟨a, xs, rfl, h1, q1⟩ := R1.items E e1
    have h2 := R2.rp E
    rw [e2] at h2
    cases h2
    obtain ⟨z, hz, rz⟩ := q1.atI g1
    exact .inr (.inl ⟨a, xs, i, z, rfl, rfl, .of h1, hz, k.sh E g2 rz⟩)
  · rename_i ds i e1 e2
    obtain ⟨d, g1, g2⟩ := g
    obtain ⟨a, xs, rfl, h1, q1⟩ := R1.titems E e1
    have h2 := R2.rp E
    rw [e2] at h2
    cases h2
    obtain ⟨z, hz, rz⟩ := q1.atI g1
    exact .inr (.inr ⟨a, xs, i, z, rfl, rfl, .of h1, hz, k.sh E g2 rz⟩)
  · rename_i kds kk e1
    obtain ⟨⟨g0, g1⟩, d, g2, g3⟩ := g
    obtain ⟨a, kvs, ds, rfl, h1, h2, rfl⟩ := R1.dictK E e1 g1
    obtain ⟨j, rfl, ej⟩ := scK_key (R2.rp E) g0
    rw [ej] at g2
    obtain ⟨z, hz, rz⟩ := (look_val keyD eqv_key j kvs ds h2).1 d g2
    exact .inl ⟨a, z, rfl, by rw [← hz]; exact .k h1, k.sh E g3 rz⟩
  · exact g.elim
abbrev fIx : FE → FE → FE := f2R gIx
theorem de_ix (hu : X.A.units + 1 < cLine) (ha : DE X W a fa) (hb : DE X W b fb) (hs : PlainIx b := by exact fun _ _ => rfl) : DE X W (.Subscript a b pos) (fIx fa fb) :=
  peImp (pe_ix (ix_all hu) ha hb hs) (c2R_imp br_ix)

/-! ### in, not in -/
def gIn (neg : Bool) (x y : Res) (Q : Res → Prop) : Prop := match y.d with
  | .list ds => (SeqAt.shaped x.d = true ∧ SeqAt.shaped (.list ds) = true) ∧ Q (.sh (.bool (xor neg (ds.any fun z => PyData.eqv z x.d))))
  | .tuple ds => (SeqAt.shaped x.d = true ∧ SeqAt.shaped (.tuple ds) = true) ∧ Q (.sh (.bool (xor neg (ds.any fun z => PyData.eqv z x.d))))
  | .dict kds => (scK x.d = true ∧ kds.all (fun p => scK p.1) = true) ∧ Q (.sh (.bool (xor neg (lookD kds x.d).isSome)))
  | _ => False
def rInA (K : Fg) (neg : Bool) : R2 := fun x y H Q => (∃ a o, y = .ref a ∧ DGet H a x o ∧ Q (.bl (xor neg o.isSome)) H) ∨
  (∃ d ds, Dp K H x d ∧ Dp K H y (.list ds) ∧ SeqAt.shaped d = true ∧ SeqAt.shaped (.list ds) = true ∧ Q (.bl (xor neg (ds.any fun z => PyData.eqv z d))) H) ∨
  (∃ d ds, Dp K H x d ∧ Dp K H y (.tuple ds) ∧ SeqAt.shaped d = true ∧ SeqAt.shaped (.tuple ds) = true ∧ Q (.bl (xor neg (ds.any fun z => PyData.eqv z d))) H)
theorem op_inAll (hu : X.A.units + 65 < cLine) : OpR X (compareOp .In) (rInA X.K false) := by
  refine OpR.or ?_ (OpR.or ?_ ?_)
  · intro pins s σ H x y v u Q I rx ry h
    obtain ⟨a, o, rfl, g, q⟩ := h
    cases ry
    exact d_in (by omega) I g rx fun s' I' => ⟨.bl o.isSome, H, I', rfl, by simpa using q⟩
  · intro pins s σ H x y v u Q I rx ry h
    obtain ⟨d, ds, h1, h2, h3, h4, q⟩ := h
    exact op_inD hu pins s σ H x y v u Q I rx ry ⟨d, ds, h1, h2, h3, h4, by simpa using q⟩
  · intro pins s σ H x y v u Q I rx ry h
    obtain ⟨d, ds, hd, he, sd, se, q⟩ := h
    obtain ⟨as, r1⟩ := Dp.reads I d x v hd rx
    obtain ⟨bs, r2⟩ := Dp.reads I (.tuple ds) y u he ry
    exact SeqAt.in_tuple_reads r2 r1 (SeqAt.canLay_of_shaped se) (SeqAt.canLay_of_shaped sd) (room_in_shaped sd hu) ⟨.bl _, H, I, rfl, by simpa using q⟩
theorem op_notInAll (hu : X.A.units + 65 < cLine) : OpR X (compareOp .NotIn) (rInA X.K true) := by
  refine OpR.or ?_ (OpR.or ?_ ?_)
  · intro pins s σ H x y v u Q I rx ry h
    obtain ⟨a, o, rfl, g, q⟩ := h
    cases ry
    exact d_notIn (by omega) I g rx fun s' I' => ⟨.bl (!o.isSome), H, I', rfl, by simpa using q⟩
  · intro pins s σ H x y v u Q I rx ry h
    obtain ⟨d, ds, h1, h2, h3, h4, q⟩ := h
    exact op_notInD hu pins s σ H x y v u Q I rx ry ⟨d, ds, h1, h2, h3, h4, by simpa using q⟩
  · intro pins s σ H x y v u Q I rx ry h
    obtain ⟨d, ds, hd, he, sd, se, q⟩ := h
    obtain ⟨as, r1⟩ := Dp.reads I d x v hd rx
    obtain ⟨bs, r2⟩ := Dp.reads I (.tuple ds) y u he ry
    exact SeqAt.notIn_tuple_reads r2 r1 (SeqAt.canLay_of_shaped se) (SeqAt.canLay_of_shaped sd) (room_in_shaped sd hu) ⟨.bl _, H, I, rfl, by simpa using q⟩
theorem br_in {K : Fg} (neg : Bool) : BrK2 K (rInA K neg) (gIn neg) := by
  intro en ad bg Hs H σ δ v w r1 r2 Q QD E R1 R2 g k
  unfold gIn at g
  split at g
  · rename_i ds e
    have h2 := R2.rp E
    rw [e] at h2
    exact .inr (.inl ⟨r1.d, ds, (R1.rp E).dp (SeqAt.canLay_of_shaped g.1.1), h2.dp (SeqAt.canLay_of_shaped g.1.2), g.1.1, g.1.2, k.sc E g.2 (.bl _)⟩)
  · rename_i ds e
    have h2 := R2.rp E
    rw [e] at h2
    exact .inr (.inr ⟨r1.d, ds, (R1.rp E).dp (SeqAt.canLay_of_shaped g.1.1), h2.dp (SeqAt.canLay_of_shaped g.1.2), g.1.1, g.1.2, k.sc E g.2 (.bl _)⟩)
  · rename_i kds e
    obtain ⟨a, kvs, ds, rfl, h1, h2, rfl⟩ := R2.dictK E e g.1.2
    obtain ⟨j, rfl, ej⟩ := scK_key (R1.rp E) g.1.1
    refine .inl ⟨a, valV kvs j, rfl, .k h1, ?_⟩
    rw [(look_val keyD eqv_key j kvs ds h2).2, ← ej]
    exact k.sc E g.2 (.bl _)
  · exact g.elim
theorem de_cmpR {op : CmpOp} {r : R2} {g : Res → Res → (Res → Prop) → Prop} (ho : OpR X (compareOp op) r) (br : BrK2 X.K r g) (ha : DE X W a fa) (hb : DE X W b fb) (hm : behindInMarks op b = false) : DE X W (.Compare a [op] [b] pos) (f2R g fa fb) :=
  peImp (pe_cmpR ho ha hb hm) (c2R_imp br)
theorem dt_cmpR {op : CmpOp} {r : R2} {g : Res → Res → (Res → Prop) → Prop} (ho : OpR X (compareOp op) r) (br : BrK2 X.K r g) (ha : DE X W a fa) (hb : DE X W b fb) (hm : behindInMarks op b = false) : DT X W (.Compare a [op] [b] pos) (fTest (f2R g fa fb)) :=
  ptImp (pt_cmpR ho ha hb hm) fun σ H Q h => c2R_imp br σ H _ (cTest_imp h)
end
end DL

/-! DL4: slices, displays, argument lists, built-ins. -/
namespace DL
open PySem PySem.Spec PyProof.Rows L2

/-! ### slices -/
abbrev FO := List Slot → (Option Int → Prop) → (XD → Prop) → Prop
def KontO (K : Fg) (en : En) (ad : Nat → Option Addr) (bg : List Addr) (Hs H : Hp) (σ : Sg) (δ : List Slot) (QD : Option Int → Prop) (Q : Option Int → Hp → Prop) : Prop :=
  ∀ o Hs' H', EnvOk K en ad bg Hs' H' σ δ → Step bg Hs H Hs' H' → QD o → Q o H'
def cO (K : Fg) (W : WX) (f : FO) : TO := fun σ H Q => ∃ en ad bg Hs δ QD ED, EnvOk K en ad bg Hs H σ δ ∧ f δ QD ED ∧ KontO K en ad bg Hs H σ δ QD Q ∧ KontX K W en ad bg σ δ ED
def DO (X : Cx) (W : WX) (e : Option Expr) (f : FO) : Prop := PO X e (cO X.K W f)
theorem poImp {X : Cx} {e : Option Expr} {t t' : TO} (h : PO X e t) (i : ∀ σ H Q, t' σ H Q → t σ H Q) : PO X e t' := ⟨fun p s σ H Q I q => h.run p s σ H Q I (i σ H Q q)⟩
def intW (d : D) (Q : Int → Prop) : Prop := match d with
  | .int i => Q i
  | _ => False
theorem intW_inv {K : Fg} {H : Hp} {v : V} {d : D} {Q : Int → Prop} (h : intW d Q) (r : Rp K H v d) : ∃ i, v = .int i ∧ Q i := by
  cases r <;> first | exact h.elim | exact ⟨_, rfl, h⟩
def fNoP : FO := fun _ Q _ => Q none
def fPart (f : FE) : FO := fun δ Q ED => f δ (fun r => intW r.d fun i => Q (some i)) ED
def cutL {α : Type} (xs : List α) (lo hi : Option Int) : List α := (xs.drop (HT.sIx xs.length 0 lo)).take (HT.sIx xs.length xs.length hi - HT.sIx xs.length 0 lo)
theorem RpA.cut {K : Fg} {H : Hp} {vs : List V} {ds : List D} (r : RpA K H vs ds) (lo hi : Option Int) : RpA K H (cutV vs lo hi) (cutL ds lo hi) := by
  unfold cutV cutL
  rw [r.length]
  exact (r.drop _).take _
def gSl (d : D) (lo hi : Option Int) (Q : Res → Prop) : Prop := match d with
  | .list ds => Q (.fr (.list (cutL ds lo hi)))
  | .tuple ds => Q (.sh (.tuple (cutL ds lo hi)))
  | _ => False
def fSl (f : FE) (l h : FO) : FE := fun δ Q ED => f δ (fun r => l δ (fun lo => h δ (fun hi => gSl r.d lo hi Q) ED) ED) ED
theorem SlR.or {X : Cx} {r r' : V → Option Int → Option Int → Hp → VK → Prop} (h : SlR X r) (h' : SlR X r') : SlR X (fun x lo hi H Q => r x lo hi H Q ∨ r' x lo hi H Q) := by
  intro pins s σ H x v vl vu lo hi sl Q I rx hs pl pu q
  rcases q with q | q
  · exact h pins s σ H x v vl vu lo hi sl Q I rx hs pl pu q
  · exact h' pins s σ H x v vl vu lo hi sl Q I rx hs pl pu q
section
variable {X : Cx} {W : WX} {a b : Expr} {fa fb : FE} {pos p2 : Pos} {lo hi : Option Expr} {fl fh : FO}
theorem do_none : DO X W none fNoP := poImp po_none fun σ H Q ⟨en, ad, bg, Hs, δ, QD, ED, E, h, k, kx⟩ => k none Hs H E (.refl _ _ _) h
theorem do_some (h : DE X W a fa) : DO X W (some a) (fPart fa) := poImp (po_some h) fun σ H Q ⟨en, ad, bg, Hs, δ, QD, ED, E, h, k, kx⟩ => cE_seq E h (fun v r Hs1 H1 E1 s1 R1 b1 q1 => by
  obtain ⟨i, e, q⟩ := intW_inv q1 (R1.rp E1)
  exact ⟨i, e, k _ _ _ E1 s1 q⟩) kx
theorem VRel.shT {K : Fg} {en ad bg Hs H} {σ : Sg} {δ v r} {ds : List D} (h : VRel K en ad bg Hs H σ δ v r) (E : EnvOk K en ad bg Hs H σ δ) (e : r.d = .tuple ds) : Rp K Hs v (.tuple ds) := by
  cases r with
  | sh d => cases (show d = .tuple ds from e); exact h
  | fr d => cases (show d = .tuple ds from e); obtain ⟨_, _, _, _, _, _, z⟩ := h; exact z.elim
  | br i d => cases (show d = .tuple ds from e); obtain ⟨z1, z2⟩ := h; obtain ⟨_, _, _, _, _, z⟩ := E.slot _ _ z1; exact z.elim
theorem cutL_whole {α : Type} (xs : List α) (lo hi : Option Int) (h : HT.sIx xs.length 0 lo = 0 ∧ HT.sIx xs.length xs.length hi = xs.length) : cutL xs lo hi = xs := by
  unfold cutL
  rw [h.1, h.2, List.drop_zero, Nat.sub_zero, List.take_length]
theorem de_sl (he : DE X W a fa) (hl : DO X W lo fl) (hh : DO X W hi fh) : DE X W (.Subscript a (.Slice lo hi none p2) pos) (fSl fa fl fh) :=
  peImp (pe_slice (sl_list.or sl_tupA) he hl hh) fun σ H Q ⟨en, ad, bg, Hs, δ, QD, ED, E, h, k, kx⟩ => cE_seq E h (fun v r Hs1 H1 E1 s1 R1 b1 q1 =>
    ⟨en, ad, bg, Hs1, δ, _, ED, E1, q1, fun o1 Hs2 H2 E2 s2 q2 => ⟨en, ad, bg, Hs2, δ, _, ED, E2, q2, fun o2 Hs3 H3 E3 s3 q3 => by
      have R3 := (R1.step s2).step s3
      have k3 := ((k.step s1).step s2).step s3
      have q3 : gSl r.d o1 o2 QD := q3
      unfold gSl at q3
      split at q3
      · rename_i ds e
        obtain ⟨p, xs, rfl, h1, h2⟩ := R3.items E3 e
        exact .inl ⟨p, xs, rfl, .of h1, k3.lst E3 q3 (h2.cut o1 o2)⟩
      · rename_i ds e
        obtain ⟨p, xs, rfl, h1, h2⟩ := R3.titems E3 e
        refine .inr ⟨p, xs, rfl, .of h1, fun hw => ?_, fun _ => k3.tup E3 q3 (h2.cut o1 o2)⟩
        rw [h2.length] at hw
        rw [cutL_whole ds o1 o2 hw] at q3
        exact k3.sh E3 q3 (R3.shT E3 e)
      · exact q3.elim, kx⟩, kx⟩) kx

/-! ### argument lists whose values may be kept -/
def fNil : FA := fun _ Q _ => Q []
def fCons (f : FE) (g : FA) : FA := fun δ Q ED => f δ (fun r => stab r fun d => g δ (fun ds => Q (d :: ds)) ED) ED
theorem da_nil : DA X W [] fNil := paImp pa_nil fun σ H Q ⟨en, ad, bg, Hs, δ, QD, ED, E, h, k, kx⟩ => k [] [] Hs H E (.refl _ _ _) .nil h
theorem da_cons {es : List Expr} {g : FA} (ha : DE X W a fa) (hr : DA X W es g) (hs : starEach (a :: es) X.env = (false, eval a X.env) :: starEach es X.env := by rfl) : DA X W (a :: es) (fCons fa g) :=
  paImp (pa_cons ha hr hs) fun σ H Q ⟨en, ad, bg, Hs, δ, QD, ED, E, h, k, kx⟩ => cE_seq E h (fun v r Hs1 H1 E1 s1 R1 b1 q1 => by
    obtain ⟨Hs', E', s', R', S, q⟩ := E1.stab s1 R1 b1 q1
    exact ⟨en, ad, bg, Hs', δ, _, ED, E', q, fun vs ds Hs2 H2 E2 s2 r2 q2 => k _ _ _ _ E2 (s'.trans s2) (.cons (R'.mono s2.sh) r2) q2, kx⟩) kx
/-! ### displays -/
def fTup (g : FA) : FE := fun δ Q ED => g δ (fun ds => ds.length ≤ sizeLine ∧ Q (.sh (.tuple ds))) ED
def fLst (g : FA) : FE := fun δ Q ED => g δ (fun ds => ds.length ≤ sizeLine ∧ Q (.fr (.list ds))) ED
theorem de_tup {es : List Expr} {g : FA} {x1} (h : DA X W es g) : DE X W (.Tuple es x1 pos) (fTup g) :=
  peImp (pe_tup h) fun σ H Q ⟨en, ad, bg, Hs, δ, QD, ED, E, h, k, kx⟩ => ⟨en, ad, bg, Hs, δ, _, ED, E, h, fun vs ds Hs1 H1 E1 s1 r1 q1 => ⟨by rw [r1.length]; exact q1.1, (k.step s1).tup E1 q1.2 r1⟩, kx⟩
theorem de_lst {es : List Expr} {g : FA} (h : DA X W es g) : DE X W (.List es pos) (fLst g) :=
  peImp (pe_lst h) fun σ H Q ⟨en, ad, bg, Hs, δ, QD, ED, E, h, k, kx⟩ => ⟨en, ad, bg, Hs, δ, _, ED, E, h, fun vs ds Hs1 H1 E1 s1 r1 q1 => ⟨by rw [r1.length]; exact q1.1, (k.step s1).lst E1 q1.2 r1⟩, kx⟩

/-! ### argument lists that are only looked at -/
abbrev FR := List Slot → (List Res → Prop) → (XD → Prop) → Prop
inductive VRelL (K : Fg) (en : En) (ad : Nat → Option Addr) (bg : List Addr) (Hs H : Hp) (σ : Sg) (δ : List Slot) : List V → List Res → Prop
  | nil : VRelL K en ad bg Hs H σ δ [] []
  | cons {v vs r rs} : VRel K en ad bg Hs H σ δ v r → VRelL K en ad bg Hs H σ δ vs rs → VRelL K en ad bg Hs H σ δ (v :: vs) (r :: rs)
theorem VRelL.step {K : Fg} {en ad bg Hs H Hs' H'} {σ : Sg} {δ vs rs} (s : Step bg Hs H Hs' H') (h : VRelL K en ad bg Hs H σ δ vs rs) : VRelL K en ad bg Hs' H' σ δ vs rs := by
  induction h with
  | nil => exact .nil
  | cons h _ ih => exact .cons (h.step s) ih
def KontR (K : Fg) (en : En) (ad : Nat → Option Addr) (bg : List Addr) (Hs H : Hp) (σ : Sg) (δ : List Slot) (QD : List Res → Prop) (Q : List V → Hp → Prop) : Prop :=
  ∀ vs rs Hs' H', EnvOk K en ad bg Hs' H' σ δ → Step bg Hs H Hs' H' → VRelL K en ad bg Hs' H' σ δ vs rs → QD rs → Q vs H'
def cR (K : Fg) (W : WX) (f : FR) : TA := fun σ H Q => ∃ en ad bg Hs δ QD ED, EnvOk K en ad bg Hs H σ δ ∧ f δ QD ED ∧ KontR K en ad bg Hs H σ δ QD Q ∧ KontX K W en ad bg σ δ ED
def DR (X : Cx) (W : WX) (es : List Expr) (f : FR) : Prop := PA X es (cR X.K W f)
def rNil : FR := fun _ Q _ => Q []
def rCons (f : FE) (g : FR) : FR := fun δ Q ED => f δ (fun r => g δ (fun rs => Q (r :: rs)) ED) ED
theorem dr_nil : DR X W [] rNil := paImp pa_nil fun σ H Q ⟨en, ad, bg, Hs, δ, QD, ED, E, h, k, kx⟩ => k [] [] Hs H E (.refl _ _ _) .nil h
theorem dr_cons {es : List Expr} {g : FR} (ha : DE X W a fa) (hr : DR X W es g) (hs : starEach (a :: es) X.env = (false, eval a X.env) :: starEach es X.env := by rfl) : DR X W (a :: es) (rCons fa g) :=
  paImp (pa_cons ha hr hs) fun σ H Q ⟨en, ad, bg, Hs, δ, QD, ED, E, h, k, kx⟩ => cE_seq E h (fun v r Hs1 H1 E1 s1 R1 b1 q1 =>
    ⟨en, ad, bg, Hs1, δ, _, ED, E1, q1, fun vs ds Hs2 H2 E2 s2 r2 q2 => k _ _ _ _ E2 (s1.trans s2) (.cons (R1.step s2) r2) q2, kx⟩) kx

/-! ### built-ins by name -/
def BrC (K : Fg) (r : List V → Hp → VK → Prop) (g : List Res → (Res → Prop) → Prop) : Prop :=
  ∀ en ad bg Hs H (σ : Sg) δ vs rs (Q : VK) QD, EnvOk K en ad bg Hs H σ δ → VRelL K en ad bg Hs H σ δ vs rs → g rs QD → Kont K en ad bg Hs H σ δ QD Q → r vs H Q
def fB (g : List Res → (Res → Prop) → Prop) (f : FR) : FE := fun δ Q ED => f δ (fun rs => g rs Q) ED
theorem cB_imp {K : Fg} {r : List V → Hp → VK → Prop} {g : List Res → (Res → Prop) → Prop} {f : FR} (br : BrC K r g) (σ : Sg) (H : Hp) (Q : VK) (h : cE K W (fB g f) σ H Q) : tCB r (cR K W f) σ H Q := by
  obtain ⟨en, ad, bg, Hs, δ, QD, ED, E, h, k, kx⟩ := h
  exact ⟨en, ad, bg, Hs, δ, _, ED, E, h, fun vs rs Hs1 H1 E1 s1 R1 q1 => br _ _ _ _ _ _ _ vs rs Q _ E1 R1 q1 (k.step s1), kx⟩
variable {x : Str} {p : Pos} {es : List Expr} {f : FR} {id T : String} {r : List V → Hp → VK → Prop} {g : List Res → (Res → Prop) → Prop}
theorem de_callB (hc : CallR X (.builtin id) r) (br : BrC X.K r g) (hm : X.mg x = none) (ha : DR X W (a :: es) f) (hg : Gl X x := by rfl) (hv : bootBuiltins x = some (.builtin id) := by decide +kernel) (hn : x ≠ "__name__" := by decide) (hdb : (x == ("__debug__" : Str)) = false := by decide)
    (he : starEach (a :: es) X.env = (false, eval a X.env) :: starEach es X.env := by rfl) (hpl : (backTo pos (starEach es X.env)).any (·.1) = false := by rfl) : DE X W (.Call (.Name x p) (a :: es) [] pos) (fB g f) :=
  peImp (pe_callB hc hg hm hv ha hn hdb he hpl) (cB_imp br)
theorem de_callT (hc : CallR X (.type T) r) (br : BrC X.K r g) (hm : X.mg x = none) (ha : DR X W (a :: es) f) (hg : Gl X x := by rfl) (hv : bootBuiltins x = some (.type T) := by decide +kernel) (hn : x ≠ "__name__" := by decide) (hdb : (x == ("__debug__" : Str)) = false := by decide)
    (he : starEach (a :: es) X.env = (false, eval a X.env) :: starEach es X.env := by rfl) (hpl : (backTo pos (starEach es X.env)).any (·.1) = false := by rfl) : DE X W (.Call (.Name x p) (a :: es) [] pos) (fB g f) :=
  peImp (pe_callTy hc hg hm hv ha hn hdb he hpl) (cB_imp br)

/-! what each asks -/
def gLen (rs : List Res) (Q : Res → Prop) : Prop := match rs with
  | [r] => (match r.d with
    | .list ds => Q (.sh (.int ds.length))
    | .tuple ds => Q (.sh (.int ds.length))
    | _ => False)
  | _ => False
theorem br_len {K : Fg} : BrC K (fun xs H Q => ∃ p ys, xs = [.ref p] ∧ (SqL K H p ys ∨ SqT K H p ys) ∧ Q (.int ys.length) H) gLen := by
  intro en ad bg Hs H σ δ vs rs Q QD E R g k
  cases R with
  | nil => exact g.elim
  | cons R1 R2 =>
    cases R2 with
    | cons _ _ => exact g.elim
    | nil =>
      unfold gLen at g
      dsimp only at g
      split at g
      · rename_i ds e
        obtain ⟨a, xs, rfl, h1, h2⟩ := R1.items E e
        refine ⟨a, xs, rfl, .inl (.of h1), ?_⟩
        rw [h2.length]
        exact k.sc E g (.int _)
      · rename_i ds e
        obtain ⟨a, xs, rfl, h1, h2⟩ := R1.titems E e
        refine ⟨a, xs, rfl, .inr (.of h1), ?_⟩
        rw [h2.length]
        exact k.sc E g (.int _)
      · exact g.elim
/-- one whole number in, one out -/
def gI1 (f : Int → Int) (rs : List Res) (Q : Res → Prop) : Prop := match rs with
  | [r] => intW r.d fun i => Q (.sh (.int (f i)))
  | _ => False
def gI2a (f : Int → Int → Int) (rs : List Res) (Q : Res → Prop) : Prop := match rs with
  | [r, t] => intW r.d fun i => intW t.d fun j => Q (.sh (.int (f i j)))
  | _ => False
def gI3a (f : Int → Int → Int → Int) (rs : List Res) (Q : Res → Prop) : Prop := match rs with
  | [r, t, u] => intW r.d fun i => intW t.d fun j => intW u.d fun l => Q (.sh (.int (f i j l)))
  | _ => False
theorem br_i1 {K : Fg} (f : Int → Int) {r : List V → Hp → VK → Prop} (hr : ∀ i H Q, Q (.int (f i)) H → r [.int i] H Q) : BrC K r (gI1 f) := by
  intro en ad bg Hs H σ δ vs rs Q QD E R g k
  cases R with
  | nil => exact g.elim
  | cons R1 R2 =>
    cases R2 with
    | cons _ _ => exact g.elim
    | nil =>
      obtain ⟨i, rfl, q⟩ := intW_inv g (R1.rp E)
      exact hr i H Q (k.sc E q (.int _))
theorem br_i2 {K : Fg} (f : Int → Int → Int) {r : List V → Hp → VK → Prop} (hr : ∀ i j H Q, Q (.int (f i j)) H → r [.int i, .int j] H Q) : BrC K r (gI2a f) := by
  intro en ad bg Hs H σ δ vs rs Q QD E R g k
  cases R with
  | nil => exact g.elim
  | cons R1 R2 =>
    cases R2 with
    | nil => exact g.elim
    | cons R2 R3 =>
      cases R3 with
      | cons _ _ => exact g.elim
      | nil =>
        obtain ⟨i, rfl, q⟩ := intW_inv g (R1.rp E)
        obtain ⟨j, rfl, q⟩ := intW_inv q (R2.rp E)
        exact hr i j H Q (k.sc E q (.int _))
theorem br_i3 {K : Fg} (f : Int → Int → Int → Int) {r : List V → Hp → VK → Prop} (hr : ∀ i j l H Q, Q (.int (f i j l)) H → r [.int i, .int j, .int l] H Q) : BrC K r (gI3a f) := by
  intro en ad bg Hs H σ δ vs rs Q QD E R g k
  cases R with
  | nil => exact g.elim
  | cons R1 R2 =>
    cases R2 with
    | nil => exact g.elim
    | cons R2 R3 =>
      cases R3 with
      | nil => exact g.elim
      | cons R3 R4 =>
        cases R4 with
        | cons _ _ => exact g.elim
        | nil =>
          obtain ⟨i, rfl, q⟩ := intW_inv g (R1.rp E)
          obtain ⟨j, rfl, q⟩ := intW_inv q (R2.rp E)
          obtain ⟨l, rfl, q⟩ := intW_inv q (R3.rp E)
          exact hr i j l H Q (k.sc E q (.int _))
abbrev fLen (f : FE) : FE := fB gLen (rCons f rNil)
abbrev iAbs (i : Int) : Int := if i < 0 then -i else i
abbrev iMax (i j : Int) : Int := if j > i then j else i
abbrev iMin (i j : Int) : Int := if j < i then j else i
abbrev fAbs (f : FE) : FE := fB (gI1 iAbs) (rCons f rNil)
abbrev fInt (f : FE) : FE := fB (gI1 fun i => i) (rCons f rNil)
abbrev fMax2 (f g : FE) : FE := fB (gI2a iMax) (rCons f (rCons g rNil))
abbrev fMin2 (f g : FE) : FE := fB (gI2a iMin) (rCons f (rCons g rNil))
theorem de_len (hm : X.mg "len" = none) (ha : DE X W a fa) (hg : Gl X "len" := by rfl) (he : starEach [a] X.env = (false, eval a X.env) :: starEach [] X.env := by rfl) : DE X W (.Call (.Name "len" p) [a] [] pos) (fLen fa) :=
  de_callB call_len_seq br_len hm (dr_cons ha dr_nil he) hg PySem.boot_len (by decide) (by decide) he
theorem de_abs (hm : X.mg "abs" = none) (ha : DE X W a fa) (hg : Gl X "abs" := by rfl) (he : starEach [a] X.env = (false, eval a X.env) :: starEach [] X.env := by rfl) : DE X W (.Call (.Name "abs" p) [a] [] pos) (fAbs fa) :=
  de_callB call_abs (br_i1 iAbs fun i H Q q => ⟨i, rfl, q⟩) hm (dr_cons ha dr_nil he) hg (by decide +kernel) (by decide) (by decide) he
theorem de_int1 (hm : X.mg "int" = none) (ha : DE X W a fa) (hg : Gl X "int" := by rfl) (he : starEach [a] X.env = (false, eval a X.env) :: starEach [] X.env := by rfl) : DE X W (.Call (.Name "int" p) [a] [] pos) (fInt fa) :=
  de_callT call_int1 (br_i1 (fun i => i) fun i H Q q => .inl ⟨i, rfl, q⟩) hm (dr_cons ha dr_nil he) hg (by decide +kernel) (by decide) (by decide) he
theorem de_max2 (hc : X.calm = true) (hm : X.mg "max" = none) (ha : DE X W a fa) (hb : DE X W b fb) (hg : Gl X "max" := by rfl) (he : starEach [a, b] X.env = (false, eval a X.env) :: starEach [b] X.env := by rfl) (he2 : starEach [b] X.env = (false, eval b X.env) :: starEach [] X.env := by rfl)
    (hpl : (backTo pos (starEach [b] X.env)).any (·.1) = false := by rfl) : DE X W (.Call (.Name "max" p) [a, b] [] pos) (fMax2 fa fb) :=
  de_callB (call_max2 hc) (br_i2 iMax fun i j H Q q => ⟨i, j, rfl, q⟩) hm (dr_cons ha (dr_cons hb dr_nil he2) he) hg (by decide +kernel) (by decide) (by decide) he hpl
theorem de_min2 (hc : X.calm = true) (hm : X.mg "min" = none) (ha : DE X W a fa) (hb : DE X W b fb) (hg : Gl X "min" := by rfl) (he : starEach [a, b] X.env = (false, eval a X.env) :: starEach [b] X.env := by rfl) (he2 : starEach [b] X.env = (false, eval b X.env) :: starEach [] X.env := by rfl)
    (hpl : (backTo pos (starEach [b] X.env)).any (·.1) = false := by rfl) : DE X W (.Call (.Name "min" p) [a, b] [] pos) (fMin2 fa fb) :=
  de_callB (call_min2 hc) (br_i2 iMin fun i j H Q q => ⟨i, j, rfl, q⟩) hm (dr_cons ha (dr_cons hb dr_nil he2) he) hg (by decide +kernel) (by decide) (by decide) he hpl
end
end DL

/-! DL5: more built-ins: max of three, tuple, list, sorted, repr, any, all, sum. -/
namespace DL
open PySem PySem.Spec PyProof.Rows L2
section
variable {X : Cx} {W : WX} {a b c : Expr} {fa fb fc : FE} {pos p : Pos}
theorem BrC.one {K : Fg} {r : List V → Hp → VK → Prop} {g : Res → (Res → Prop) → Prop}
    (h : ∀ en ad bg Hs H (σ : Sg) δ v t (Q : VK) QD, EnvOk K en ad bg Hs H σ δ → VRel K en ad bg Hs H σ δ v t → g t QD → Kont K en ad bg Hs H σ δ QD Q → r [v] H Q) : BrC K r (fun rs Q => match rs with | [t] => g t Q | _ => False) := by
  intro en ad bg Hs H σ δ vs rs Q QD E R q k
  cases R with
  | nil => exact q.elim
  | cons R1 R2 =>
    cases R2 with
    | cons _ _ => exact q.elim
    | nil => exact h en ad bg Hs H σ δ _ _ Q QD E R1 q k
def g1 (g : Res → (Res → Prop) → Prop) (rs : List Res) (Q : Res → Prop) : Prop := match rs with
  | [t] => g t Q
  | _ => False
theorem nuMax3_int (i j l : Int) : nuMax3 (.int i) (.int j) (.int l) = some (.int (iMax (iMax i j) l)) := by
  unfold nuMax3 nuMax2 nuLt nuCB iMax
  by_cases h : i < j
  · by_cases h2 : j < l <;> simp [h, h2, Option.map, Option.bind]
  · by_cases h2 : i < l <;> simp [h, h2, Option.map, Option.bind]
abbrev fMax3 (f g h : FE) : FE := fB (gI3a fun i j l => iMax (iMax i j) l) (rCons f (rCons g (rCons h rNil)))
theorem de_max3 (hc : X.calm = true) (hm : X.mg "max" = none) (ha : DE X W a fa) (hb : DE X W b fb) (hd : DE X W c fc) (hg : Gl X "max" := by rfl) (he : starEach [a, b, c] X.env = (false, eval a X.env) :: starEach [b, c] X.env := by rfl)
    (he2 : starEach [b, c] X.env = (false, eval b X.env) :: starEach [c] X.env := by rfl) (he3 : starEach [c] X.env = (false, eval c X.env) :: starEach [] X.env := by rfl)
    (hpl : (backTo pos (starEach [b, c] X.env)).any (·.1) = false := by rfl) : DE X W (.Call (.Name "max" p) [a, b, c] [] pos) (fMax3 fa fb fc) :=
  de_callB (call_max3Nu hc) (br_i3 _ fun i j l H Q q => ⟨_, _, _, _, rfl, nuMax3_int i j l, q⟩) hm (dr_cons ha (dr_cons hb (dr_cons hd dr_nil he3) he2) he) hg (by decide +kernel) (by decide) (by decide) he hpl

/-! ### tuple(x), list(x) -/
def gTuple (t : Res) (Q : Res → Prop) : Prop := match t.d with
  | .list ds => Q (.sh (.tuple ds))
  | .tuple ds => Q (.sh (.tuple ds))
  | _ => False
abbrev fTuple (f : FE) : FE := fB (g1 gTuple) (rCons f rNil)
theorem de_tuple (hm : X.mg "tuple" = none) (ha : DE X W a fa) (hg : Gl X "tuple" := by rfl) (he : starEach [a] X.env = (false, eval a X.env) :: starEach [] X.env := by rfl) : DE X W (.Call (.Name "tuple" p) [a] [] pos) (fTuple fa) :=
  de_callT (g := g1 gTuple) call_tuple_of (BrC.one fun en ad bg Hs H σ δ v t Q QD E R g k => by
    unfold gTuple at g
    split at g
    · rename_i ds e
      obtain ⟨q, xs, rfl, h1, h2⟩ := R.items E e
      exact ⟨q, xs, rfl, .inl ⟨.of h1, k.tup E g h2⟩⟩
    · rename_i ds e
      obtain ⟨q, xs, rfl, h1, h2⟩ := R.titems E e
      exact ⟨q, xs, rfl, .inr ⟨.of h1, k.sh E g (R.shT E e)⟩⟩
    · exact g.elim) hm (dr_cons ha dr_nil he) hg (by decide +kernel) (by decide) (by decide) he
def keysD (kds : List (D × D)) : List D := kds.map (·.1)
def gList (t : Res) (Q : Res → Prop) : Prop := match t.d with
  | .list ds => Q (.fr (.list ds))
  | .tuple ds => Q (.fr (.list ds))
  | .dict kds => kds.all (fun p => scK p.1) = true ∧ Q (.fr (.list (keysD kds)))
  | _ => False
theorem CallR.or {id : Value} {r r' : List V → Hp → VK → Prop} (h : CallR X id r) (h' : CallR X id r') : CallR X id (fun xs H Q => r xs H Q ∨ r' xs H Q) := by
  intro pins s σ H xs us Q I rx q
  rcases q with q | q
  · exact h pins s σ H xs us Q I rx q
  · exact h' pins s σ H xs us Q I rx q
theorem keys_rp {K : Fg} {H : Hp} (kvs : List (Key × V)) : ∀ ds : List D, ds.length = kvs.length → RpA K H (kvs.map fun kv => kV kv.1) (keysD ((kvs.map fun p => keyD p.1).zip ds)) := by
  induction kvs with
  | nil => intro ds h; exact .nil
  | cons p kvs ih =>
    intro ds h
    cases ds with
    | nil => simp at h
    | cons d ds =>
      refine .cons ?_ (ih ds (by simpa using h))
      show Rp K H (kV p.1) (keyD p.1)
      cases p.1 with
      | inl i => exact .int i
      | inr x => exact .str x
abbrev fList (f : FE) : FE := fB (g1 gList) (rCons f rNil)
theorem de_list (hc : X.calm = true) (hm : X.mg "list" = none) (ha : DE X W a fa) (hg : Gl X "list" := by rfl) (he : starEach [a] X.env = (false, eval a X.env) :: starEach [] X.env := by rfl) : DE X W (.Call (.Name "list" p) [a] [] pos) (fList fa) :=
  de_callT (g := g1 gList) (CallR.or call_list_of (call_list_dK hc)) (BrC.one fun en ad bg Hs H σ δ v t Q QD E R g k => by
    unfold gList at g
    split at g
    · rename_i ds e
      obtain ⟨q, xs, rfl, h1, h2⟩ := R.items E e
      exact .inl ⟨q, xs, rfl, .inl (.of h1), k.lst E g h2⟩
    · rename_i ds e
      obtain ⟨q, xs, rfl, h1, h2⟩ := R.titems E e
      exact .inl ⟨q, xs, rfl, .inr (.of h1), k.lst E g h2⟩
    · rename_i kds e
      obtain ⟨q, kvs, ds, rfl, h1, h2, rfl⟩ := R.dictK E e g.1
      have hl := h2.length
      rw [List.length_map] at hl
      exact .inr ⟨q, kvs, rfl, h1, k.lst E g.2 (keys_rp kvs ds hl.symm)⟩
    · exact g.elim) hm (dr_cons ha dr_nil he) hg (by decide +kernel) (by decide) (by decide) he

/-! ### list(range(a)), list(range(a, b)) -/
def rgD (i j : Int) : List D := (List.range (j - i).toNat).map fun k : Nat => PyData.int (i + (k : Int))
theorem rg_rp {K : Fg} {H : Hp} (i j : Int) : RpA K H (rgV i j) (rgD i j) := by
  unfold rgV rgD
  generalize List.range (j - i).toNat = l
  induction l with
  | nil => exact .nil
  | cons n l ih => exact .cons (.int _) ih
def fListRg1 (f : FE) : FE := fun δ Q ED => f δ (fun r => intW r.d fun n => RgOk 0 n ∧ Q (.fr (.list (rgD 0 n)))) ED
theorem de_listRg1 {p2 pos2 : Pos} (hc : X.calm = true) (hm : X.mg "list" = none) (hr : X.mg "range" = none) (ha : DE X W a fa) (hg : Gl X "list" := by rfl) (hg2 : Gl X "range" := by rfl) (na : starEach [a] X.env = (false, eval a X.env) :: starEach [] X.env := by rfl)
    (na2 : starEach [Expr.Call (.Name "range" p2) [a] [] pos2] X.env = (false, eval (.Call (.Name "range" p2) [a] [] pos2) X.env) :: starEach [] X.env := by rfl) : DE X W (.Call (.Name "list" p) [.Call (.Name "range" p2) [a] [] pos2] [] pos) (fListRg1 fa) :=
  peImp (pe_listRg hc hg hm (prg_1 hg2 hr ha na) na2) fun σ H Q ⟨en, ad, bg, Hs, δ, QD, ED, E, h, k, kx⟩ => cE_seq E h (fun v r Hs1 H1 E1 s1 R1 b1 q1 => by
    obtain ⟨n, e, q⟩ := intW_inv q1 (R1.rp E1)
    exact ⟨n, e, q.1, (k.step s1).lst E1 q.2 (rg_rp 0 n)⟩) kx

/-! ### sorted -/
/-- the one ascending list of these -/
def sortI (ns : List Int) : List Int := ns.mergeSort (· ≤ ·)
theorem sortI_eq {ns ms : List Int} (h1 : ms.Perm ns) (h2 : ms.Pairwise (· ≤ ·)) : ms = sortI ns := by
  have p : (sortI ns).Perm ns := List.mergeSort_perm ns _
  have s : (sortI ns).Pairwise (· ≤ ·) := by
    have := List.pairwise_mergeSort (le := fun a b : Int => decide (a ≤ b)) (by intro a b c h1 h2; simp at *; omega) (by intro a b; simp; omega) ns
    simpa [sortI] using this
  exact (h1.trans p.symm).eq_of_pairwise (fun a b _ _ h h' => Int.le_antisymm h h') h2 s
def rSortDI : List V → Hp → VK → Prop := fun xs H Q => ∃ (a : Addr) (kvs : List (Key × V)) (ks : List Int), xs = [.ref a] ∧ Rd H a (.dK kvs) ∧ kvs.map (·.1) = ks.map Sum.inl ∧
    ∀ (ys : List Int) (p : Addr), ys.Perm ks → ys.Pairwise (· ≤ ·) → H p = none → Q (.ref p) (upd H p (.lst (ys.map V.int)))
theorem call_sortDI (hcalm : X.calm = true) : CallR X (.builtin "sorted") rSortDI := by
  intro pins s σ H xs us Q I r q
  obtain ⟨a, kvs, ks, rfl, hd, hks, q⟩ := q
  obtain ⟨u, rfl, rx⟩ := vals1 r
  cases rx
  obtain ⟨z, notSys, ws, rel, isD⟩ := dk_rd I.hok hd
  obtain ⟨ep, hat⟩ := isD.dictAt
  have hkeys : ws.map (·.1) = ks.map Sum.inl := rel.keys.symm.trans hks
  have hl : ws.length = ks.length := by
    have := congrArg List.length hkeys
    simpa using this
  have hz : ws.length ≤ sizeLine := by rw [← rel.length]; exact z
  refine Calls.call_function_entry kind_sorted plain_sorted entry_sorted (args_sorted1 _) ?_
  unfold Builtin.«sorted»
  refine wpAny_bind (m := checkCount "sorted" 1 1 _) (wpAny_pure ?_)
  refine wpAny_bind (PySem.W.kdu_collect (A := X.A.in1) (PySem.W.kdl_dict (knd := mixKind X.prog X.w) (kvs := ws) (ep := ep) notSys) (I.ok.hd hcalm) hat hz fun g tk acc keep got => ?_)
  have hal : acc.toList.length = ks.length := by rw [Array.length_toList, got.1, hl]
  have hS : IntsAre acc.toList ks := ints_each hal fun j v e => by
    obtain ⟨k, x, e1, e2⟩ := got.2 j v (by rw [← Array.getElem?_toList]; exact e)
    have e3 : (ws.map (·.1))[j]? = some k := by rw [List.getElem?_map, e1]; rfl
    rw [hkeys, List.getElem?_map] at e3
    cases e4 : ks[j]? with
    | none => rw [e4] at e3; cases e3
    | some y =>
      rw [e4] at e3
      cases Option.some.inj e3
      rcases keyIs_shape (show keyIs (Sum.inl y) v = true from e2) with ⟨i, t, ek, ev⟩ | ⟨w, t, ek, ev⟩
      · cases ek; exact ⟨y, t, rfl, ev⟩
      · cases ek
  have J : Inv X pins σ H { s with heap := g, toks := tk } := I.kept keep
  have hzz : acc.toList.length ≤ sizeLine := by rw [hal, ← hl]; exact hz
  refine wpAny_bind (wpAny_newList ?_ hzz)
  have hoL : (g.push (seqObj "list" acc.toList.toArray 0)).get? g.objs.size = some (seqObj "list" acc.toList.toArray 0) := Heap.get?_push_size _ rfl
  show wpAny _ _ _ _ _ { s with heap := g.push (seqObj "list" acc.toList.toArray 0), toks := tk }
  refine wpAny_bind (wpAny_holding (wpAny_call_entry slot_list_sort ⟨_, hoL, rfl⟩ entry_list_sort
    (SrtO.list_sort_ord SrtO.swo_int hoL hzz (fun h2 => SrtO.ints_sortable hS h2) fun out hs hb => ⟨_, rfl, ?_⟩) (args_list_sort _)))
  obtain ⟨k1, k2, k3⟩ := SrtO.ints_out hS hs hb
  obtain ⟨e', he'⟩ := sortedHeap_at (vs := acc.toList) (out := out.toArray) hoL
  have hlen : ((out.map SrtO.iv).map V.int).length ≤ sizeLine := by
    rw [List.length_map, k2.length_eq, ← hl]
    exact hz
  refine wpAny_pure ⟨_, rfl, .ref g.objs.size, upd H g.objs.size (.lst ((out.map SrtO.iv).map V.int)), J.laid (t' := tk) (fun b u e => ?_) (Nat.le_refl _)
    (show ObjOk X.prog X.w _ _ _ (.lst ((out.map SrtO.iv).map V.int)) from ⟨hlen, out, e', vals_of_ints k1, he'⟩), rfl, q _ _ k2 k3 (J.hok.fresh (Nat.le_refl _))⟩
  have hb : b < g.objs.size := Heap.lt_size e
  rw [sortedHeap_old (Nat.ne_of_lt hb) (by rw [size_push']; exact Nat.lt_succ_of_lt hb)]
  exact Heap.get?_push_of_some _ e
theorem RpA.ints_inv {K : Fg} {H : Hp} : ∀ {ns : List Int} {vs : List V}, RpA K H vs (ns.map PyData.int) → vs = ns.map V.int
  | [], _, h => by cases h; rfl
  | n :: ns, _, h => by
    cases h with
    | cons h1 h2 => cases h1; rw [RpA.ints_inv h2]; rfl
def gSorted (t : Res) (Q : Res → Prop) : Prop := match t.d with
  | .list ds => ∃ ns : List Int, ds = ns.map PyData.int ∧ Q (.fr (.list ((sortI ns).map PyData.int)))
  | .dict kds => ∃ ns : List Int, keysD kds = ns.map PyData.int ∧ Q (.fr (.list ((sortI ns).map PyData.int)))
  | _ => False
abbrev fSorted (f : FE) : FE := fB (g1 gSorted) (rCons f rNil)
theorem keys_ints {kvs : List (Key × V)} : ∀ {ds : List D} {ns : List Int}, ds.length = kvs.length → keysD ((kvs.map fun p => keyD p.1).zip ds) = ns.map PyData.int → kvs.map (·.1) = ns.map Sum.inl := by
  induction kvs with
  | nil => intro ds ns hl h; cases ns with
    | nil => rfl
    | cons n ns => simp [keysD] at h
  | cons p kvs ih =>
    intro ds ns hl h
    cases ds with
    | nil => simp at hl
    | cons d ds =>
      cases ns with
      | nil => simp [keysD] at h
      | cons n ns =>
        simp only [keysD, List.map_cons, List.zip_cons_cons, List.cons.injEq] at h
        obtain ⟨h1, h2⟩ := h
        rw [List.map_cons, List.map_cons, ih (ds := ds) (ns := ns) (by simpa using hl) h2]
        congr 1
        cases e : p.1 with
        | inl i => rw [e] at h1; simp [keyD] at h1; rw [h1]
        | inr x => rw [e] at h1; simp [keyD] at h1
theorem de_sorted (hc : X.calm = true) (hm : X.mg "sorted" = none) (ha : DE X W a fa) (hg : Gl X "sorted" := by rfl) (he : starEach [a] X.env = (false, eval a X.env) :: starEach [] X.env := by rfl) : DE X W (.Call (.Name "sorted" p) [a] [] pos) (fSorted fa) :=
  de_callB (g := g1 gSorted) (CallR.or cr_sortedI (call_sortDI hc)) (BrC.one fun en ad bg Hs H σ δ v t Q QD E R g k => by
    unfold gSorted at g
    split at g
    · rename_i ds e
      obtain ⟨ns, rfl, g⟩ := g
      obtain ⟨q, xs, rfl, h1, h2⟩ := R.items E e
      cases h2.ints_inv
      refine .inl ⟨q, ns, rfl, .of h1, fun ns' p' i1 i2 hp => ?_⟩
      cases sortI_eq i1 i2
      exact k.lst E g (RpA.ints _) p' hp
    · rename_i kds e
      obtain ⟨ns, g0, g⟩ := g
      have all : kds.all (fun p => scK p.1) = true := by
        rw [List.all_eq_true]
        intro x hx
        have : x.1 ∈ keysD kds := List.mem_map_of_mem hx
        rw [g0] at this
        obtain ⟨i, _, hi⟩ := List.mem_map.mp this
        rw [← hi]
        rfl
      obtain ⟨q, kvs, ds, rfl, h1, h2, rfl⟩ := R.dictK E e all
      have hl := h2.length
      rw [List.length_map] at hl
      refine .inr ⟨q, kvs, ns, rfl, .inl h1, keys_ints hl.symm g0, fun ns' p' i1 i2 hp => ?_⟩
      cases sortI_eq i1 i2
      exact k.lst E g (RpA.ints _) p' hp
    · exact g.elim) hm (dr_cons ha dr_nil he) hg (by decide +kernel) (by decide) (by decide) he
end
end DL

/-! DL6: repr, any, all, sum, least and greatest. -/
namespace DL
open PySem PySem.Spec PyProof.Rows L2
mutual
theorem Rp.dpn {K : Fg} {H : Hp} : ∀ {v : V} {d : D}, Rp K H v d → PyData.hasDict d = false → Dp K H v d
  | _, _, .non, _ => .non
  | _, _, .bl b, _ => .bl b
  | _, _, .int i, _ => .int i
  | _, _, .str x, _ => .str x
  | _, _, .lst h r, c => .lst (.of h) (RpA.dpn r (by simpa [PyData.hasDict] using c))
  | _, _, .tup h r, c => .tup (.of h) (RpA.dpn r (by simpa [PyData.hasDict] using c))
  | _, _, .dK h r, c => by simp [PyData.hasDict] at c
  | _, _, .dT h n r, c => by simp [PyData.hasDict] at c
theorem RpA.dpn {K : Fg} {H : Hp} : ∀ {vs : List V} {ds : List D}, RpA K H vs ds → PyData.hasDictAll ds = false → DpAll K H vs ds
  | _, _, .nil, _ => .nil
  | _, _, .cons h r, c => by
    simp only [PyData.hasDictAll, Bool.or_eq_false_iff] at c
    exact .cons (Rp.dpn h c.1) (RpA.dpn r c.2)
end
section
variable {X : Cx} {W : WX} {a b c : Expr} {fa fb fc : FE} {pos p : Pos}

/-! ### repr -/
/-- what can be shown -/
def shows (d : D) : Prop := PyData.hasDict d = false ∧ d.showable = true ∧ d.depth ≤ 64 ∧ d.shown.length ≤ sizeLine
def rRepr (K : Fg) : List V → Hp → VK → Prop := fun xs H Q => ∃ v d, xs = [v] ∧ Dp K H v d ∧ shows d ∧ Q (.str d.shown) H
theorem call_repr (hg : X.A.guards = some []) (hu : X.A.units + 100 < cLine) : CallR X (.builtin "repr") (rRepr X.K) := by
  intro pins s σ H xs us Q I r h
  obtain ⟨v, d, rfl, hd, ⟨s0, s1, s2, s3⟩, q⟩ := h
  obtain ⟨u, rfl, ru⟩ := vals1 r
  have R := Dp.reads I d v u hd ru
  have fin : ∀ (h' : Heap) (t : Tok) (tk : Nat), (∀ b o, s.heap.get? b = some o → h'.get? b = some o) → EP X pins σ Q (.str d.shown t) { s with heap := h', toks := tk } := fun h' t tk kp =>
    ⟨.str d.shown, H, I.kept kp, ⟨_, rfl⟩, q⟩
  cases d with
  | none => cases hd; cases ru; exact PySem.P.repr_of_none (fin s.heap _ _ fun _ _ e => e)
  | bool b => cases hd; cases ru; exact PySem.P.repr_of_bool (fin s.heap _ _ fun _ _ e => e)
  | int i => cases hd; obtain ⟨t, rfl⟩ := ru; exact PySem.P.repr_of_int (by simpa [PyData.showable] using s1) (fin s.heap _ _ fun _ _ e => e)
  | str x => cases hd; obtain ⟨t, rfl⟩ := ru; exact PySem.P.repr_of_str (fin s.heap _ _ fun _ _ e => e) s3
  | list ds =>
    obtain ⟨as, R⟩ := R
    cases hd with
    | lst h1 h2 =>
      cases ru
      exact repr_of_reads' R s1 (PyData.noDict_hsm s0) hg (by omega) (fun _ _ e => e) fin s3
  | tuple ds =>
    obtain ⟨as, R⟩ := R
    cases hd with
    | tup h1 h2 =>
      cases ru
      exact repr_of_reads' R s1 (PyData.noDict_hsm s0) hg (by omega) (fun _ _ e => e) fin s3
  | dict kvs => simp [PyData.hasDict] at s0
def gRepr (t : Res) (Q : Res → Prop) : Prop := shows t.d ∧ Q (.sh (.str t.d.shown))
abbrev fRepr (f : FE) : FE := fB (g1 gRepr) (rCons f rNil)
theorem de_repr (hgd : X.A.guards = some []) (hu : X.A.units + 100 < cLine) (hm : X.mg "repr" = none) (ha : DE X W a fa) (hg : Gl X "repr" := by rfl) (he : starEach [a] X.env = (false, eval a X.env) :: starEach [] X.env := by rfl) : DE X W (.Call (.Name "repr" p) [a] [] pos) (fRepr fa) :=
  de_callB (g := g1 gRepr) (call_repr hgd hu) (BrC.one fun en ad bg Hs H σ δ v t Q QD E R g k =>
    ⟨v, t.d, rfl, (R.rp E).dpn g.1.1, g.1, k.sc E g.2 (.str _)⟩) hm (dr_cons ha dr_nil he) hg (by decide +kernel) (by decide) (by decide) he

/-! ### any, all, sum, min, max -/
theorem RpA.bls_inv {K : Fg} {H : Hp} : ∀ {bs : List Bool} {vs : List V}, RpA K H vs (bs.map PyData.bool) → vs = bs.map V.bl
  | [], _, h => by cases h; rfl
  | n :: ns, _, h => by
    cases h with
    | cons h1 h2 => cases h1; rw [RpA.bls_inv h2]; rfl
def gBools (f : List Bool → Bool) (t : Res) (Q : Res → Prop) : Prop := match t.d with
  | .list ds => ∃ bs : List Bool, ds = bs.map PyData.bool ∧ Q (.sh (.bool (f bs)))
  | _ => False
theorem br_bools {K : Fg} (f : List Bool → Bool) {r : List V → Hp → VK → Prop} (hr : ∀ a bs H Q, H a = some (.lst (bs.map V.bl)) → Q (.bl (f bs)) H → r [.ref a] H Q) : BrC K r (g1 (gBools f)) :=
  BrC.one fun en ad bg Hs H σ δ v t Q QD E R g k => by
    unfold gBools at g
    split at g
    · rename_i ds e
      obtain ⟨bs, rfl, g⟩ := g
      obtain ⟨q, xs, rfl, h1, h2⟩ := R.items E e
      cases h2.bls_inv
      exact hr q bs H Q h1 (k.sc E g (.bl _))
    · exact g.elim
abbrev fAny (f : FE) : FE := fB (g1 (gBools fun bs => bs.any id)) (rCons f rNil)
abbrev fAll (f : FE) : FE := fB (g1 (gBools fun bs => bs.all id)) (rCons f rNil)
theorem de_any (hc : X.calm = true) (hm : X.mg "any" = none) (ha : DE X W a fa) (hg : Gl X "any" := by rfl) (he : starEach [a] X.env = (false, eval a X.env) :: starEach [] X.env := by rfl) : DE X W (.Call (.Name "any" p) [a] [] pos) (fAny fa) :=
  de_callB (g := g1 (gBools fun bs => bs.any id)) (cr_any hc) (br_bools _ fun a bs H Q h q => ⟨a, bs, rfl, .of h, q⟩) hm (dr_cons ha dr_nil he) hg (by decide +kernel) (by decide) (by decide) he
theorem de_all (hc : X.calm = true) (hm : X.mg "all" = none) (ha : DE X W a fa) (hg : Gl X "all" := by rfl) (he : starEach [a] X.env = (false, eval a X.env) :: starEach [] X.env := by rfl) : DE X W (.Call (.Name "all" p) [a] [] pos) (fAll fa) :=
  de_callB (g := g1 (gBools fun bs => bs.all id)) (cr_all hc) (br_bools _ fun a bs H Q h q => ⟨a, bs, rfl, .of h, q⟩) hm (dr_cons ha dr_nil he) hg (by decide +kernel) (by decide) (by decide) he
/-- a list of whole numbers to one whole number -/
def gInts (C : List Int → Int → Prop) (t : Res) (Q : Res → Prop) : Prop := match t.d with
  | .list ds => ∃ ns : List Int, ds = ns.map PyData.int ∧ (ns = [] → C [] 0) ∧ ∀ m, C ns m → Q (.sh (.int m))
  | _ => False
def CSum (ns : List Int) (m : Int) : Prop := m = ns.sum
def gSum (t : Res) (Q : Res → Prop) : Prop := match t.d with
  | .list ds => ∃ ns : List Int, ds = ns.map PyData.int ∧ Q (.sh (.int ns.sum))
  | _ => False
def gMaxL (t : Res) (Q : Res → Prop) : Prop := match t.d with
  | .list ds => ∃ ns : List Int, ds = ns.map PyData.int ∧ ns ≠ [] ∧ ∀ m, m ∈ ns → (∀ y ∈ ns, y ≤ m) → Q (.sh (.int m))
  | _ => False
def gMinL (t : Res) (Q : Res → Prop) : Prop := match t.d with
  | .list ds => ∃ ns : List Int, ds = ns.map PyData.int ∧ ns ≠ [] ∧ ∀ m, m ∈ ns → (∀ y ∈ ns, m ≤ y) → Q (.sh (.int m))
  | _ => False
abbrev fSum (f : FE) : FE := fB (g1 gSum) (rCons f rNil)
abbrev fMaxL (f : FE) : FE := fB (g1 gMaxL) (rCons f rNil)
abbrev fMinL (f : FE) : FE := fB (g1 gMinL) (rCons f rNil)
theorem de_sum (hc : X.calm = true) (hm : X.mg "sum" = none) (ha : DE X W a fa) (hg : Gl X "sum" := by rfl) (he : starEach [a] X.env = (false, eval a X.env) :: starEach [] X.env := by rfl) : DE X W (.Call (.Name "sum" p) [a] [] pos) (fSum fa) :=
  de_callB (g := g1 gSum) (cr_sum hc) (BrC.one fun en ad bg Hs H σ δ v t Q QD E R g k => by
    unfold gSum at g
    split at g
    · rename_i ds e
      obtain ⟨ns, rfl, g⟩ := g
      obtain ⟨q, xs, rfl, h1, h2⟩ := R.items E e
      cases h2.ints_inv
      exact ⟨q, ns, rfl, .of h1, k.sc E g (.int _)⟩
    · exact g.elim) hm (dr_cons ha dr_nil he) hg (by decide +kernel) (by decide) (by decide) he
theorem de_maxL (hc : X.calm = true) (hm : X.mg "max" = none) (ha : DE X W a fa) (hg : Gl X "max" := by rfl) (he : starEach [a] X.env = (false, eval a X.env) :: starEach [] X.env := by rfl) : DE X W (.Call (.Name "max" p) [a] [] pos) (fMaxL fa) :=
  de_callB (g := g1 gMaxL) (cr_max hc) (BrC.one fun en ad bg Hs H σ δ v t Q QD E R g k => by
    unfold gMaxL at g
    split at g
    · rename_i ds e
      obtain ⟨ns, rfl, hn, g⟩ := g
      obtain ⟨q, xs, rfl, h1, h2⟩ := R.items E e
      cases h2.ints_inv
      exact ⟨q, ns, rfl, .of h1, List.length_pos_iff.mpr hn, fun m m1 m2 => k.sc E (g m m1 m2) (.int _)⟩
    · exact g.elim) hm (dr_cons ha dr_nil he) hg (by decide +kernel) (by decide) (by decide) he
theorem de_minL (hc : X.calm = true) (hm : X.mg "min" = none) (ha : DE X W a fa) (hg : Gl X "min" := by rfl) (he : starEach [a] X.env = (false, eval a X.env) :: starEach [] X.env := by rfl) : DE X W (.Call (.Name "min" p) [a] [] pos) (fMinL fa) :=
  de_callB (g := g1 gMinL) (cr_min hc) (BrC.one fun en ad bg Hs H σ δ v t Q QD E R g k => by
    unfold gMinL at g
    split at g
    · rename_i ds e
      obtain ⟨ns, rfl, hn, g⟩ := g
      obtain ⟨q, xs, rfl, h1, h2⟩ := R.items E e
      cases h2.ints_inv
      exact ⟨q, ns, rfl, .of h1, List.length_pos_iff.mpr hn, fun m m1 m2 => k.sc E (g m m1 m2) (.int _)⟩
    · exact g.elim) hm (dr_cons ha dr_nil he) hg (by decide +kernel) (by decide) (by decide) he
end
end DL

/-! DL7: what is walked; list comprehensions. -/
namespace DL
open PySem PySem.Spec PyProof.Rows L2

/-! ### targets -/
abbrev FG := Res → List Slot → (List Slot → Prop) → Prop
/-- which slots a target may change -/
def Sets (σ σ' : Sg) (l : List Nat) : Prop := σ'.length = σ.length ∧ ∀ i, i ∉ l → σ'[i]? = σ[i]?
theorem Sets.refl (σ : Sg) (l : List Nat) : Sets σ σ l := ⟨rfl, fun _ _ => rfl⟩
theorem Sets.trans {σ σ1 σ2 : Sg} {l l' : List Nat} (a : Sets σ σ1 l) (b : Sets σ1 σ2 l') : Sets σ σ2 (l ++ l') :=
  ⟨b.1.trans a.1, fun i h => (b.2 i fun z => h (List.mem_append_right _ z)).trans (a.2 i fun z => h (List.mem_append_left _ z))⟩
theorem wipe_get (σ : Sg) (l : List Nat) (i : Nat) : (wipe σ l)[i]? = if i ∈ l ∧ i < σ.length then some none else σ[i]? := by
  induction l with
  | nil => simp [wipe]
  | cons v l ih =>
    show ((wipe σ l).set v none)[i]? = _
    rw [List.getElem?_set, wipe_length, ih]
    by_cases e : v = i
    · subst e
      by_cases h : v < σ.length
      · simp [h]
      · have : σ[v]? = none := List.getElem?_eq_none (by omega)
        simp [h, this]
    · have e' : ¬ i = v := fun z => e z.symm
      simp [e, e', List.mem_cons]
theorem Sets.wipe {σ σ' : Sg} {l vs : List Nat} (s : Sets σ σ' l) (h : ∀ i ∈ l, i ∈ vs) : wipe σ' vs = L2.wipe σ vs := by
  apply List.ext_getElem?
  intro i
  rw [wipe_get, wipe_get, s.1]
  by_cases hi : i ∈ vs ∧ i < σ.length
  · rw [if_pos hi, if_pos hi]
  · rw [if_neg hi, if_neg hi]
    by_cases hv : i ∈ vs
    · have n1 : σ.length ≤ i := Nat.le_of_not_lt fun z => hi ⟨hv, z⟩
      have n2 : σ'.length ≤ i := by rw [s.1]; exact n1
      rw [List.getElem?_eq_none n1, List.getElem?_eq_none n2]
    · exact s.2 i fun z => hv (h i z)
def cGl (K : Fg) (g : FG) (l : List Nat) : TG := fun v σ H Q => ∃ en ad bg Hs δ r QD, EnvOk K en ad bg Hs H σ δ ∧ VRel K en ad bg Hs H σ δ v r ∧ g r δ QD ∧
  ∀ σ' δ' ad', EnvOk K en ad' bg Hs H σ' δ' → Sets σ σ' l → QD δ' → Q σ' H
def DG (X : Cx) (tg : Expr) (g : FG) (l : List Nat) : Prop := PG X tg (cGl X.K g l)
theorem pgImp {X : Cx} {e : Expr} {t t' : TG} (h : PG X e t) (i : ∀ v σ H Q, t' v σ H Q → t v σ H Q) : PG X e t' := ⟨fun p s σ H v u Q I r q => h.run p s σ H v u Q I r (i v σ H Q q)⟩
theorem pgsImp {X : Cx} {e : List Expr} {t t' : TGs} (h : PGs X e t) (i : ∀ v σ H Q, t' v σ H Q → t v σ H Q) : PGs X e t' := ⟨fun p s σ H v u Q I r q => h.run p s σ H v u Q I r (i v σ H Q q)⟩
section
variable {K : Fg} {en : En} {ad : Nat → Option Addr} {bg : List Addr} {Hs H : Hp} {σ : Sg} {δ : List Slot} {v : V} {d : D}
def setAd (ad : Nat → Option Addr) (i : Nat) (o : Option Addr) : Nat → Option Addr := fun j => if j = i then o else ad j
theorem setAd_same {i : Nat} {o : Option Addr} : setAd ad i o i = o := if_pos rfl
theorem setAd_ne {i j : Nat} {o : Option Addr} (h : i ≠ j) : setAd ad i o j = ad j := if_neg fun e => h e.symm
/-- a slot gets a shared value -/
theorem EnvOk.setS (E : EnvOk K en ad bg Hs H σ δ) (i : Nat) (hi : i < δ.length) (r : Rp K Hs v d) : EnvOk K en (setAd ad i none) bg Hs H (σ.set i (some v)) (δ.set i (.sh d)) := by
  refine ⟨by rw [List.length_set, List.length_set, E.len], E.st, E.sub, fun j s h => ?_, fun j l a h1 h2 => ?_, fun j a h => ?_, E.bgs, E.bok, E.bw⟩
  · by_cases e : i = j
    · subst e
      rw [List.getElem?_set_self hi] at h
      cases h
      exact ⟨v, by rw [List.getElem?_set_self (by rw [E.len]; exact hi)], r⟩
    · rw [List.getElem?_set_ne e] at h ⊢
      have q := E.slot j s h
      cases s with
      | ow d' =>
        obtain ⟨a, e1, e2, e3⟩ := q
        exact ⟨a, e1, by rw [setAd_ne e]; exact e2, e3⟩
      | _ => exact q
  · unfold setAd at h1 h2
    split at h1
    · cases h1
    · split at h2
      · cases h2
      · exact E.inj j l a h1 h2
  · unfold setAd at h
    split at h
    · cases h
    · exact E.out j a h
/-- a slot gets a fresh thing -/
theorem EnvOk.setO (E : EnvOk K en ad bg Hs H σ δ) (i : Nat) (hi : i < δ.length) (r : VRel K en ad bg Hs H σ δ v (.fr d)) : ∃ ad', EnvOk K en ad' bg Hs H (σ.set i (some v)) (δ.set i (.ow d)) := by
  obtain ⟨a, rfl, n, n0, nb, na, o⟩ := r
  obtain ⟨x, hx⟩ := o.at
  refine ⟨setAd ad i (some a), by rw [List.length_set, List.length_set, E.len], E.st, E.sub, fun j s h => ?_, fun j l c h1 h2 => ?_, fun j c h => ?_, E.bgs, E.bok, E.bw⟩
  · by_cases e : i = j
    · subst e
      rw [List.getElem?_set_self hi] at h
      cases h
      exact ⟨a, by rw [List.getElem?_set_self (by rw [E.len]; exact hi)], setAd_same, n, n0, o⟩
    · rw [List.getElem?_set_ne e] at h ⊢
      have q := E.slot j s h
      cases s with
      | ow d' =>
        obtain ⟨c, e1, e2, e3⟩ := q
        exact ⟨c, e1, by rw [setAd_ne e]; exact e2, e3⟩
      | _ => exact q
  · unfold setAd at h1 h2
    split at h1
    · rename_i e1
      split at h2
      · rename_i e2; rw [e1, e2]
      · cases h1; exact absurd h2 (na l)
    · split at h2
      · cases h2; exact absurd h1 (na j)
      · exact E.inj j l c h1 h2
  · unfold setAd at h
    split at h
    · cases h; exact ⟨nb, by rw [hx]; simp⟩
    · exact E.out j c h
/-- forgotten slots -/
def wipeD (δ : List Slot) : List Nat → List Slot
  | [] => δ
  | v :: vs => (wipeD δ vs).set v .no
theorem wipeD_length (δ : List Slot) : ∀ vs : List Nat, (wipeD δ vs).length = δ.length
  | [] => rfl
  | v :: vs => by unfold wipeD; rw [List.length_set, wipeD_length δ vs]
theorem wipeD_get (δ : List Slot) (l : List Nat) (i : Nat) : (wipeD δ l)[i]? = if i ∈ l ∧ i < δ.length then some .no else δ[i]? := by
  induction l with
  | nil => simp [wipeD]
  | cons v l ih =>
    show ((wipeD δ l).set v .no)[i]? = _
    rw [List.getElem?_set, wipeD_length, ih]
    by_cases e : v = i
    · subst e
      by_cases h : v < δ.length
      · simp [h]
      · have : δ[v]? = none := List.getElem?_eq_none (by omega)
        simp [h, this]
    · have e' : ¬ i = v := fun z => e z.symm
      simp [e, e', List.mem_cons]
theorem EnvOk.wipe (E : EnvOk K en ad bg Hs H σ δ) (vs : List Nat) : EnvOk K en ad bg Hs H (L2.wipe σ vs) (wipeD δ vs) := by
  refine ⟨by rw [wipe_length, wipeD_length, E.len], E.st, E.sub, fun j s h => ?_, E.inj, E.out, E.bgs, E.bok, E.bw⟩
  rw [wipeD_get] at h
  rw [wipe_get, E.len]
  split at h
  · cases h; trivial
  · rename_i hh
    rw [if_neg hh]
    exact E.slot j s h
/-- the frame behind a step -/
theorem EnvOk.back {Hs' H' : Hp} {σ' : Sg} {δ' : List Slot} {ad' : Nat → Option Addr} (E : EnvOk K en ad bg Hs H σ δ) (s : Step bg Hs H Hs' H') (E' : EnvOk K en ad' bg Hs' H' σ' δ') : EnvOk K en ad bg Hs' H' σ δ := by
  refine ⟨E.len, E'.st, E'.sub, fun j t h => ?_, E.inj, fun j a h => ⟨(E.out j a h).1, s.dom a (E.out j a h).2⟩, E'.bgs, E'.bok, E'.bw⟩
  have q := E.slot j t h
  cases t with
  | no => trivial
  | sh d => obtain ⟨v, e, r⟩ := q; exact ⟨v, e, r.mono s.sh⟩
  | ow d =>
    obtain ⟨a, e1, e2, e3, e4, o⟩ := q
    obtain ⟨x, hx⟩ := o.at
    refine ⟨a, e1, e2, ?_, e4, o.move s.sh fun y hy => s.keep _ _ hy (E.out j a e2).1⟩
    cases z : Hs' a with
    | none => rfl
    | some u =>
      rcases s.new a (by rw [z]; simp) with w | w
      · exact absurd e3 w
      · rw [hx] at w; cases w
  | bag => exact q
  | scr ns => obtain ⟨a, e1, e2⟩ := q; exact ⟨a, e1, e2.1.mono s.sh, e2.2⟩
end
section
variable {X : Cx} {W : WX} {pos : Pos}
def tgName (i : Nat) : FG := fun r δ Q => i < δ.length ∧ (match r with
  | .sh d => Q (δ.set i (.sh d))
  | .fr d => Q (δ.set i (.ow d))
  | .br _ _ => False)
theorem dg_name (i : Nat) {x : Str} (hN : X.N.Nodup) (hi : X.N[i]? = some x := by rfl) (hx : Loc X.env.scope x := by first | exact .inl rfl | exact .inr rfl) (hf : X.fn x = true ∨ X.env.scope.names.lookup x = some .local := by first | exact .inl rfl | exact .inr rfl) : DG X (.Name x pos) (tgName i) [i] :=
  pgImp (pg_name (i := i) hN hi hx hf) fun v σ H Q ⟨en, ad, bg, Hs, δ, r, QD, E, R, ⟨hl, g⟩, k⟩ => by
    have st : Sets σ (σ.set i (some v)) [i] := ⟨List.length_set, fun j h => List.getElem?_set_ne (fun e => h (by simp [e]))⟩
    cases r with
    | sh d => exact k _ _ _ (E.setS i hl R) st g
    | fr d => obtain ⟨ad', E'⟩ := E.setO i hl R; exact k _ _ _ E' st g
    | br j d => exact g.elim
abbrev FGs := List D → List Slot → (List Slot → Prop) → Prop
def cGs (K : Fg) (g : FGs) (l : List Nat) : TGs := fun vs σ H Q => ∃ en ad bg Hs δ ds QD, EnvOk K en ad bg Hs H σ δ ∧ RpA K Hs vs ds ∧ g ds δ QD ∧
  ∀ σ' δ' ad', EnvOk K en ad' bg Hs H σ' δ' → Sets σ σ' l → QD δ' → Q σ' H
def DGs (X : Cx) (es : List Expr) (g : FGs) (l : List Nat) : Prop := PGs X es (cGs X.K g l)
def tgNil : FGs := fun ds δ Q => ds = [] ∧ Q δ
def tgCons (g : FG) (h : FGs) : FGs := fun ds δ Q => match ds with
  | d :: ds => g (.sh d) δ fun δ' => h ds δ' Q
  | [] => False
theorem dgs_nil : DGs X [] tgNil [] := pgsImp pgs_nil fun vs σ H Q ⟨en, ad, bg, Hs, δ, ds, QD, E, R, ⟨e, g⟩, k⟩ => by
  subst e
  cases R
  exact ⟨rfl, k σ δ ad E (.refl _ _) g⟩
theorem dgs_cons {e : Expr} {es : List Expr} {g : FG} {h : FGs} {l l' : List Nat} (h1 : DG X e g l) (h2 : DGs X es h l') (hs : (assignEach (e :: es) X.env).map (·.2) = assign e X.env :: (assignEach es X.env).map (·.2) := by rfl) : DGs X (e :: es) (tgCons g h) (l ++ l') :=
  pgsImp (pgs_cons h1 h2 hs) fun vs σ H Q ⟨en, ad, bg, Hs, δ, ds, QD, E, R, g, k⟩ => by
    cases R with
    | nil => exact g.elim
    | @cons v vs d ds r1 r2 =>
      exact ⟨v, vs, rfl, en, ad, bg, Hs, δ, .sh d, _, E, r1, g, fun σ1 δ1 ad1 E1 s1 q1 => ⟨en, ad1, bg, Hs, δ1, _, _, E1, r2, q1, fun σ2 δ2 ad2 E2 s2 q2 => k σ2 δ2 ad2 E2 (s1.trans s2) q2⟩⟩
def tgTup (g : FGs) : FG := fun r δ Q => match r.d with
  | .tuple ds => g ds δ Q
  | _ => False
theorem dg_tup {es : List Expr} {k : Nat} {g : FGs} {l : List Nat} (hc : X.calm = true) (h : DGs X es g l) (n : Nat) (hg : ∀ ds δ Q, g ds δ Q → ds.length = n) (hn : (assignEach es X.env).length = n := by rfl) (hst : (assignEach es X.env).findIdx? (·.1) = none := by rfl) : DG X (.Tuple es k pos) (tgTup g) l :=
  pgImp (pg_tup hc h hn hst) fun v σ H Q ⟨en, ad, bg, Hs, δ, r, QD, E, R, g, k⟩ => by
    unfold tgTup at g
    split at g
    · rename_i ds e
      obtain ⟨a, xs, rfl, h1, h2⟩ := R.titems E e
      exact ⟨a, xs, rfl, .of h1, h2.length.trans (hg _ _ _ g), en, ad, bg, Hs, δ, ds, QD, E, h2, g, k⟩
    · exact g.elim
theorem tg_len0 {ds : List D} {δ Q} (h : tgNil ds δ Q) : ds.length = 0 := by rw [h.1]; rfl
end
end DL

/-! DL8: what is walked; list comprehensions. -/
namespace DL
open PySem PySem.Spec PyProof.Rows L2
abbrev FI := List Slot → (Bool → List D → Prop) → (XD → Prop) → Prop
/-- the walk J gives the items ds, in these heaps -/
def ItAt (K : Fg) (J : It) (ds : List D) (Hs H : Hp) : Prop :=
  (∀ i, i < ds.length → J.go i H) ∧ (∀ i, ds.length ≤ i → J.stop i H) ∧
  ∀ i x H', i < ds.length → J.yld i H x H' → ∃ d, ds[i]? = some d ∧ ((H' = H ∧ Rp K Hs x d) ∨ ∃ p xs es, H p = none ∧ H' = upd H p (.tup xs) ∧ RpA K Hs xs es ∧ d = .tuple es ∧ x = .ref p)
def KontI (K : Fg) (en : En) (ad : Nat → Option Addr) (bg : List Addr) (Hs H : Hp) (σ : Sg) (δ : List Slot) (QD : Bool → List D → Prop) (R : It → Hp → Prop) : Prop :=
  ∀ J st ds Hs' H', EnvOk K en ad bg Hs' H' σ δ → Step bg Hs H Hs' H' → (∀ A B, EnvOk K en ad bg A B σ δ → Step bg Hs' H' A B → ItAt K J ds A B) → (st = true → ∀ A B, Same Hs' A → Same A B → ItAt K J ds A B) → QD st ds → R J H'
def cI (K : Fg) (W : WX) (f : FI) : TI := fun σ H R => ∃ en ad bg Hs δ QD ED, EnvOk K en ad bg Hs H σ δ ∧ f δ QD ED ∧ KontI K en ad bg Hs H σ δ QD R ∧ KontX K W en ad bg σ δ ED
def DI (X : Cx) (W : WX) (tg iter : Expr) (f : FI) : Prop := PI X tg iter (cI X.K W f)
theorem piImp {X : Cx} {tg e : Expr} {t t' : TI} (h : PI X tg e t) (i : ∀ σ H Q, t' σ H Q → t σ H Q) : PI X tg e t' := ⟨fun p s σ H Q I q => h.run p s σ H Q I (i σ H Q q)⟩
section
variable {X : Cx} {W : WX} {a b c tg : Expr} {fa fb fc : FE} {pos p tpos : Pos}
/-! ### a list, a tuple -/
def iSeq (K : Fg) (te : TE) : TI := fun σ H R => te σ H fun x H1 => ∃ a, x = .ref a ∧ ((∃ xs, H1 a = some (.lst xs) ∧ R (Itl K a) H1) ∨ (∃ xs, H1 a = some (.tup xs) ∧ R (Itt K a) H1))
theorem pi_seq {te : TE} (hl : PE X a te) : PI X tg a (iSeq X.K te) := by
  refine ⟨fun pins s σ H R I h => thn (hl.run pins s σ H _ I h) fun v s1 ⟨x, H1, J, r1, q1⟩ => ?_⟩
  obtain ⟨q, rfl, ⟨xs, e, h⟩ | ⟨xs, e, h⟩⟩ := q1
  · cases r1
    obtain ⟨its, rv, isL, _⟩ := J.list (SqL.of e)
    refine wpAny_pyIter_list isL.isList ?_
    refine ⟨_, [s1.heap.objs.size], _, _, H1, rfl, J.kept (t' := s1.toks) fun b o z => Heap.get?_push_of_some _ z, turn_list q _, ⟨_, Heap.get?_push_size _ rfl, rfl, rfl⟩, fun b hb => ?_, h⟩
    cases List.mem_singleton.mp hb
    exact J.fpOk (Nat.le_refl _) (J.hok.fresh (Nat.le_refl _))
  · cases r1
    obtain ⟨its, rv, isT, _⟩ := J.tuple (SqT.of e)
    refine wpAny_pyIter_tuple (show s1.heap.IsTuple q its.toArray from isT) ?_
    refine ⟨_, [s1.heap.objs.size], _, _, H1, rfl, J.kept (t' := s1.toks) fun b o z => Heap.get?_push_of_some _ z, turn_tuple q _, ⟨_, Heap.get?_push_size _ rfl, rfl, rfl⟩, fun b hb => ?_, h⟩
    cases List.mem_singleton.mp hb
    exact J.fpOk (Nat.le_refl _) (J.hok.fresh (Nat.le_refl _))
def Res.ok : Res → Bool
  | .br _ _ => false
  | _ => true
theorem itl_at {K : Fg} {q : Addr} {xs : List V} {ds : List D} {Hs H : Hp} (h : H q = some (.lst xs)) (r : RpA K Hs xs ds) : ItAt K (Itl K q) ds Hs H := by
  have hl := r.length
  refine ⟨fun i hi => ?_, fun i hi => ⟨xs, .of h, by omega⟩, fun i x H' hi y => ?_⟩
  · have : i < xs.length := by omega
    exact ⟨xs, xs[i], .of h, by simp [this]⟩
  · obtain ⟨rfl, y⟩ := y
    have e := y xs (.of h)
    obtain ⟨d, e1, e2⟩ := r.getV e
    exact ⟨d, e1, .inl ⟨rfl, e2⟩⟩
theorem itt_at {K : Fg} {q : Addr} {xs : List V} {ds : List D} {Hs H : Hp} (h : H q = some (.tup xs)) (r : RpA K Hs xs ds) : ItAt K (Itt K q) ds Hs H := by
  have hl := r.length
  refine ⟨fun i hi => ?_, fun i hi => ⟨xs, .of h, by omega⟩, fun i x H' hi y => ?_⟩
  · have : i < xs.length := by omega
    exact ⟨xs, xs[i], .of h, by simp [this]⟩
  · obtain ⟨rfl, y⟩ := y
    have e := y xs (.of h)
    obtain ⟨d, e1, e2⟩ := r.getV e
    exact ⟨d, e1, .inl ⟨rfl, e2⟩⟩
/-- the list that a value is, later on -/
theorem VRel.itemsLater {K : Fg} {en ad bg Hs H} {σ : Sg} {δ v r} {ds : List D} (R : VRel K en ad bg Hs H σ δ v r) (E : EnvOk K en ad bg Hs H σ δ) (e : r.d = .list ds) {q : Addr} {xs : List V} (hv : v = .ref q) (hx : H q = some (.lst xs)) (hr : RpA K Hs xs ds) :
    (∀ A B : Hp, EnvOk K en ad bg A B σ δ → Step bg Hs H A B → B q = some (.lst xs) ∧ RpA K A xs ds) ∧ (r.ok = true → (∃ d, r = .sh d) → ∀ A B : Hp, Same Hs A → Same A B → B q = some (.lst xs) ∧ RpA K A xs ds) := by
  have nb : q ∉ bg := fun hm => by
    cases r with
    | sh d =>
      cases (show d = .list ds from e)
      cases R with
      | lst h1 h2 => cases hv; rw [(E.bgs _ hm).1] at h1; cases h1
    | fr d => obtain ⟨a, rfl, _, _, n, _⟩ := R; cases hv; exact n hm
    | br i d =>
      obtain ⟨z1, z2⟩ := R
      obtain ⟨a, z3, z4, _⟩ := E.slot _ _ z1
      rw [z2, hv] at z3
      cases z3
      exact (E.out _ _ z4).1 hm
  refine ⟨fun A B _ s => ⟨s.keep _ _ hx nb, hr.mono s.sh⟩, fun _ hs A B s1 s2 => ?_⟩
  obtain ⟨d, rfl⟩ := hs
  cases (show d = .list ds from e)
  cases R with
  | lst h1 h2 =>
    cases hv
    rw [E.sub _ _ h1] at hx
    cases hx
    exact ⟨s2 _ _ (s1 _ _ h1), hr.mono s1⟩
def isSh : Res → Bool
  | .sh _ => true
  | _ => false
/-- before a walk a fresh thing is shared -/
theorem EnvOk.settle {K : Fg} {en ad bg A B Hs H} {σ : Sg} {δ v r} (E : EnvOk K en ad bg Hs H σ δ) (s : Step bg A B Hs H) (R : VRel K en ad bg Hs H σ δ v r) (b : Born B v r) :
    ∃ Hs' r', EnvOk K en ad bg Hs' H σ δ ∧ Step bg A B Hs' H ∧ VRel K en ad bg Hs' H σ δ v r' ∧ r'.d = r.d ∧ isSh r' = r.ok := by
  cases r with
  | sh d => exact ⟨Hs, .sh d, E, s, R, rfl, rfl⟩
  | fr d =>
    obtain ⟨Hs', E', s', R', _⟩ := E.share s R b
    exact ⟨Hs', .sh d, E', s', R', rfl, rfl⟩
  | br i d => exact ⟨Hs, .br i d, E, s, R, rfl, rfl⟩
def gSeq (r : Res) (Q : Bool → List D → Prop) : Prop := match r.d with
  | .list ds => Q r.ok ds
  | .tuple ds => Q true ds
  | _ => False
def fiSeq (f : FE) : FI := fun δ Q ED => f δ (fun r => gSeq r Q) ED
theorem di_seq (ha : DE X W a fa) : DI X W tg a (fiSeq fa) :=
  piImp (pi_seq ha) fun σ H R ⟨en, ad, bg, Hs, δ, QD, ED, E, h, k, kx⟩ => cE_seq E h (fun v r Hs1 H1 E1 s1 R1 b1 q1 => by
    obtain ⟨Hs', r', E', s', R', e', o'⟩ := E1.settle s1 R1 b1
    have q1 : gSeq r QD := q1
    unfold gSeq at q1
    rw [← e', ← o'] at q1
    split at q1
    · rename_i ds e
      obtain ⟨q, xs, rfl, h1, h2⟩ := R'.items E' e
      obtain ⟨l1, l2⟩ := R'.itemsLater E' e rfl h1 h2
      refine ⟨q, rfl, .inl ⟨xs, h1, k _ (isSh r') ds Hs' H1 E' s' (fun A B EA st => itl_at (l1 A B EA st).1 (l1 A B EA st).2) (fun ht A B sa sb => ?_) q1⟩⟩
      have hs : ∃ d, r' = .sh d := by
        cases r' with
        | sh d => exact ⟨d, rfl⟩
        | _ => cases ht
      have := l2 (by obtain ⟨d, rfl⟩ := hs; rfl) hs A B sa sb
      exact itl_at this.1 this.2
    · rename_i ds e
      obtain ⟨q, xs, rfl, h1, h2⟩ := R'.titems E' e
      have hR := R'.shT E' e
      refine ⟨q, rfl, .inr ⟨xs, h1, k _ true ds Hs' H1 E' s' (fun A B EA st => ?_) (fun ht A B sa sb => ?_) q1⟩⟩
      · cases hR with
        | tup z1 z2 =>
          rw [E'.sub _ _ z1] at h1; cases h1
          exact itt_at (EA.sub _ _ (st.sh _ _ z1)) (h2.mono st.sh)
      · cases hR with
        | tup z1 z2 =>
          rw [E'.sub _ _ z1] at h1; cases h1
          exact itt_at (sb _ _ (sa _ _ z1)) (h2.mono sa)
    · exact q1.elim) kx

/-! ### range -/
def RgB (j : Int) : Prop := -(2 ^ 62) ≤ j ∧ j < 2 ^ 62
theorem itr_at {K : Fg} {lo hi : Int} {Hs H : Hp} : ItAt K (Itr lo (hi - lo).toNat) (rgD lo hi) Hs H := by
  have hl : (rgD lo hi).length = (hi - lo).toNat := by unfold rgD; simp
  refine ⟨fun i h => by rw [hl] at h; exact h, fun i h => by rw [hl] at h; exact h, fun i x H' h y => ?_⟩
  obtain ⟨rfl, rfl⟩ := y
  rw [hl] at h
  exact ⟨.int (lo + i), by unfold rgD; simp [h], .inl ⟨rfl, .int _⟩⟩
def fiRng1 (f : FE) : FI := fun δ Q ED => f δ (fun r => intW r.d fun n => RgB n ∧ Q true (rgD 0 n)) ED
def fiRng2 (f g : FE) : FI := fun δ Q ED => f δ (fun r => intW r.d fun m => g δ (fun t => intW t.d fun n => (RgB m ∧ RgB n) ∧ Q true (rgD m n)) ED) ED
theorem di_rng1 (hm : X.mg "range" = none) (ha : DE X W a fa) (hg : Gl X "range" := by rfl) (hs : starEach [a] X.env = [(false, eval a X.env)] := by rfl) : DI X W tg (.Call (.Name "range" p) [a] [] pos) (fiRng1 fa) :=
  piImp (pi_range1 hg hm (pa_cons ha pa_nil hs) hs) fun σ H R ⟨en, ad, bg, Hs, δ, QD, ED, E, h, k, kx⟩ => cE_seq E h (fun v r Hs1 H1 E1 s1 R1 b1 q1 => by
    obtain ⟨n, rfl, ⟨h1, h2⟩, q⟩ := intW_inv q1 (R1.rp E1)
    have e : n.toNat = (n - 0).toNat := by rw [Int.sub_zero]
    exact ⟨n, rfl, h1, h2, k _ true (rgD 0 n) Hs1 H1 E1 s1 (fun A B _ _ => by rw [e]; exact itr_at) (fun _ A B _ _ => by rw [e]; exact itr_at) q⟩) kx
theorem di_rng2 (hm : X.mg "range" = none) (ha : DE X W a fa) (hb : DE X W b fb) (hg : Gl X "range" := by rfl) (hs : starEach [a, b] X.env = [(false, eval a X.env), (false, eval b X.env)] := by rfl) (hs2 : starEach [b] X.env = [(false, eval b X.env)] := by rfl) :
    DI X W tg (.Call (.Name "range" p) [a, b] [] pos) (fiRng2 fa fb) :=
  piImp (pi_range2 hg hm (pa_cons ha (pa_cons hb pa_nil hs2) (by rw [hs, hs2])) hs hs2) fun σ H R ⟨en, ad, bg, Hs, δ, QD, ED, E, h, k, kx⟩ => cE_seq E h (fun v r Hs1 H1 E1 s1 R1 b1 q1 => by
    obtain ⟨m, rfl, q⟩ := intW_inv q1 (R1.rp E1)
    refine cE_seq E1 q (fun w t Hs2 H2 E2 s2 R2 b2 q2 => ?_) kx
    obtain ⟨n, rfl, ⟨⟨h1, h2⟩, h3, h4⟩, q⟩ := intW_inv q2 (R2.rp E2)
    exact ⟨m, n, rfl, ⟨h1, h2, h3, h4⟩, k _ true (rgD m n) Hs2 H2 E2 (s1.trans s2) (fun A B _ _ => itr_at) (fun _ A B _ _ => itr_at) q⟩) kx

/-! ### enumerate -/
def numD (ds : List D) : List D := ds.mapIdx fun i d => .tuple [.int (i : Nat), d]
theorem ite_at {K : Fg} {q : Addr} {xs : List V} {ds : List D} {Hs H : Hp} (h : H q = some (.lst xs)) (r : RpA K Hs xs ds) : ItAt K (Ite K q) (numD ds) Hs H := by
  have hl := r.length
  have hn : (numD ds).length = ds.length := by unfold numD; simp
  refine ⟨fun i hi => ?_, fun i hi => ⟨xs, .of h, by omega⟩, fun i x H' hi y => ?_⟩
  · have : i < xs.length := by omega
    exact ⟨xs, xs[i], .of h, by simp [this]⟩
  · obtain ⟨T, z, rfl, nT, rfl, y⟩ := y
    obtain ⟨d, e1, e2⟩ := r.getV (y xs (.of h))
    refine ⟨.tuple [.int (i : Nat), d], by unfold numD; simp [e1], .inr ⟨T, _, [.int (i : Nat), d], nT, rfl, .cons (.int _) (.cons e2 .nil), rfl, rfl⟩⟩
def gEnum (r : Res) (Q : Bool → List D → Prop) : Prop := match r.d with
  | .list ds => Q r.ok (numD ds)
  | _ => False
def fiEnum (f : FE) : FI := fun δ Q ED => f δ (fun r => gEnum r Q) ED
theorem di_enum {elts : List Expr} {kk : Nat} (hm : X.mg "enumerate" = none) (ha : DE X W a fa) (hg : Gl X "enumerate" := by rfl) (hs : starEach [a] X.env = [(false, eval a X.env)] := by rfl) : DI X W (.Tuple elts kk tpos) (.Call (.Name "enumerate" p) [a] [] pos) (fiEnum fa) :=
  piImp (pi_enum hg hm (pa_cons ha pa_nil hs) hs) fun σ H R ⟨en, ad, bg, Hs, δ, QD, ED, E, h, k, kx⟩ => cE_seq E h (fun v r Hs1 H1 E1 s1 R1 b1 q1 => by
    obtain ⟨Hs', r', E', s', R', e', o'⟩ := E1.settle s1 R1 b1
    have q1 : gEnum r QD := q1
    unfold gEnum at q1
    rw [← e', ← o'] at q1
    split at q1
    · rename_i ds e
      obtain ⟨q, xs, rfl, h1, h2⟩ := R'.items E' e
      obtain ⟨l1, l2⟩ := R'.itemsLater E' e rfl h1 h2
      refine ⟨q, xs, rfl, .of h1, k _ (isSh r') (numD ds) Hs' H1 E' s' (fun A B EA st => ite_at (l1 A B EA st).1 (l1 A B EA st).2) (fun ht A B sa sb => ?_) q1⟩
      have hs : ∃ d, r' = .sh d := by
        cases r' with
        | sh d => exact ⟨d, rfl⟩
        | _ => cases ht
      have := l2 (by obtain ⟨d, rfl⟩ := hs; rfl) hs A B sa sb
      exact ite_at this.1 this.2
    · exact q1.elim) kx

/-! ### reversed -/
theorem itv_at {K : Fg} {q : Addr} {xs : List V} {ds : List D} {Hs H : Hp} (h : H q = some (.lst xs)) (r : RpA K Hs xs ds) : ItAt K (Itv K q xs.length) ds.reverse Hs H := by
  have hl := r.length
  have hn : ds.reverse.length = ds.length := List.length_reverse
  refine ⟨fun i hi => ?_, fun i hi => (by show xs.length ≤ i; omega), fun i x H' hi y => ?_⟩
  · have h1 : i < xs.length := by omega
    have h2 : xs.length - 1 - i < xs.length := by omega
    exact ⟨h1, xs, xs[xs.length - 1 - i], .of h, by simp [h2]⟩
  · obtain ⟨rfl, y⟩ := y
    obtain ⟨d, e1, e2⟩ := r.getV (y xs (.of h))
    refine ⟨d, ?_, .inl ⟨rfl, e2⟩⟩
    rw [List.getElem?_reverse (by omega), ← hl]
    exact e1
theorem itvT_at {K : Fg} {q : Addr} {xs : List V} {ds : List D} {Hs H : Hp} (h : H q = some (.tup xs)) (r : RpA K Hs xs ds) : ItAt K (RT.ItvT K q xs.length) ds.reverse Hs H := by
  have hl := r.length
  have hn : ds.reverse.length = ds.length := List.length_reverse
  refine ⟨fun i hi => ?_, fun i hi => (by show xs.length ≤ i; omega), fun i x H' hi y => ?_⟩
  · have h1 : i < xs.length := by omega
    have h2 : xs.length - 1 - i < xs.length := by omega
    exact ⟨h1, xs, xs[xs.length - 1 - i], .of h, by simp [h2]⟩
  · obtain ⟨rfl, y⟩ := y
    obtain ⟨d, e1, e2⟩ := r.getV (y xs (.of h))
    refine ⟨d, ?_, .inl ⟨rfl, e2⟩⟩
    rw [List.getElem?_reverse (by omega), ← hl]
    exact e1
def gRev (r : Res) (Q : Bool → List D → Prop) : Prop := match r.d with
  | .list ds => Q r.ok ds.reverse
  | .tuple ds => Q true ds.reverse
  | _ => False
def fiRev (f : FE) : FI := fun δ Q ED => f δ (fun r => gRev r Q) ED
theorem di_rev (hm : X.mg "reversed" = none) (ha : DE X W a fa) (hg : Gl X "reversed" := by rfl) (hs : starEach [a] X.env = (false, eval a X.env) :: starEach [] X.env := by rfl) : DI X W tg (.Call (.Name "reversed" p) [a] [] pos) (fiRev fa) :=
  piImp (RT.pi_revA hg hm ha hs) fun σ H R ⟨en, ad, bg, Hs, δ, QD, ED, E, h, k, kx⟩ => cE_seq E h (fun v r Hs1 H1 E1 s1 R1 b1 q1 => by
    obtain ⟨Hs', r', E', s', R', e', o'⟩ := E1.settle s1 R1 b1
    have q1 : gRev r QD := q1
    unfold gRev at q1
    rw [← e', ← o'] at q1
    split at q1
    · rename_i ds e
      obtain ⟨q, xs, rfl, h1, h2⟩ := R'.items E' e
      obtain ⟨l1, l2⟩ := R'.itemsLater E' e rfl h1 h2
      refine ⟨q, xs, rfl, .inl ⟨.of h1, k _ (isSh r') ds.reverse Hs' H1 E' s' (fun A B EA st => itv_at (l1 A B EA st).1 (l1 A B EA st).2) (fun ht A B sa sb => ?_) q1⟩⟩
      have hs : ∃ d, r' = .sh d := by
        cases r' with
        | sh d => exact ⟨d, rfl⟩
        | _ => cases ht
      have := l2 (by obtain ⟨d, rfl⟩ := hs; rfl) hs A B sa sb
      exact itv_at this.1 this.2
    · rename_i ds e
      obtain ⟨q, xs, rfl, h1, h2⟩ := R'.titems E' e
      have hR := R'.shT E' e
      refine ⟨q, xs, rfl, .inr ⟨.of h1, k _ true ds.reverse Hs' H1 E' s' (fun A B EA st => ?_) (fun ht A B sa sb => ?_) q1⟩⟩
      · cases hR with
        | tup z1 z2 =>
          rw [E'.sub _ _ z1] at h1; cases h1
          exact itvT_at (EA.sub _ _ (st.sh _ _ z1)) (h2.mono st.sh)
      · cases hR with
        | tup z1 z2 =>
          rw [E'.sub _ _ z1] at h1; cases h1
          exact itvT_at (sb _ _ (sa _ _ z1)) (h2.mono sa)
    · exact q1.elim) kx

/-! ### zip of two lists, of two tuples -/
def zipD (ds es : List D) : List D := (ds.zip es).map fun p => .tuple [p.1, p.2]
theorem itz_at {K : Fg} {q t : Addr} {xs ys : List V} {ds es : List D} {Hs H : Hp} (h : H q = some (.lst xs)) (r : RpA K Hs xs ds) (h' : H t = some (.lst ys)) (r' : RpA K Hs ys es) : ItAt K (Itz K q t) (zipD ds es) Hs H := by
  have hl := r.length
  have hl' := r'.length
  have hn : (zipD ds es).length = min ds.length es.length := by unfold zipD; simp
  refine ⟨fun i hi => ?_, fun i hi => ⟨xs, ys, .of h, .of h', by omega⟩, fun i x H' hi y => ?_⟩
  · have h1 : i < xs.length := by omega
    have h2 : i < ys.length := by omega
    exact ⟨xs, ys, xs[i], ys[i], .of h, .of h', by simp [h1], by simp [h2]⟩
  · obtain ⟨T, z, z', rfl, nT, rfl, y, y'⟩ := y
    obtain ⟨d, e1, e2⟩ := r.getV (y xs (.of h))
    obtain ⟨e, e3, e4⟩ := r'.getV (y' ys (.of h'))
    refine ⟨.tuple [d, e], ?_, .inr ⟨T, _, [d, e], nT, rfl, .cons e2 (.cons e4 .nil), rfl, rfl⟩⟩
    unfold zipD
    rw [List.getElem?_map, List.getElem?_zip_eq_some (z := (d, e)).mpr ⟨e1, e3⟩]
    rfl
theorem itzT_at {K : Fg} {q t : Addr} {xs ys : List V} {ds es : List D} {Hs H : Hp} (h : H q = some (.tup xs)) (r : RpA K Hs xs ds) (h' : H t = some (.tup ys)) (r' : RpA K Hs ys es) : ItAt K (RZ.ItzT K q t) (zipD ds es) Hs H := by
  have hl := r.length
  have hl' := r'.length
  have hn : (zipD ds es).length = min ds.length es.length := by unfold zipD; simp
  refine ⟨fun i hi => ?_, fun i hi => ⟨xs, ys, .of h, .of h', by omega⟩, fun i x H' hi y => ?_⟩
  · have h1 : i < xs.length := by omega
    have h2 : i < ys.length := by omega
    exact ⟨xs, ys, xs[i], ys[i], .of h, .of h', by simp [h1], by simp [h2]⟩
  · obtain ⟨T, z, z', rfl, nT, rfl, y, y'⟩ := y
    obtain ⟨d, e1, e2⟩ := r.getV (y xs (.of h))
    obtain ⟨e, e3, e4⟩ := r'.getV (y' ys (.of h'))
    refine ⟨.tuple [d, e], ?_, .inr ⟨T, _, [d, e], nT, rfl, .cons e2 (.cons e4 .nil), rfl, rfl⟩⟩
    unfold zipD
    rw [List.getElem?_map, List.getElem?_zip_eq_some (z := (d, e)).mpr ⟨e1, e3⟩]
    rfl
end
end DL

/-! DL9: zip, list comprehensions, dict displays. -/
namespace DL
open PySem PySem.Spec PyProof.Rows L2
section
variable {X : Cx} {W : WX} {a b c tg : Expr} {fa fb fc : FE} {pos p tpos : Pos}
/-! ### zip -/
def gZip (ds : List D) (Q : Bool → List D → Prop) : Prop := match ds with
  | [.list x, .list y] => Q true (zipD x y)
  | [.tuple x, .tuple y] => Q true (zipD x y)
  | _ => False
def fiZip (g : FA) : FI := fun δ Q ED => g δ (fun ds => gZip ds Q) ED
theorem di_zip {g : FA} {elts : List Expr} {kk : Nat} (hm : X.mg "zip" = none) (ha : DA X W [a, b] g) (hg : Gl X "zip" := by rfl) (hs : starEach [a, b] X.env = (false, eval a X.env) :: starEach [b] X.env := by rfl) (hpl : (backTo pos (starEach [b] X.env)).any (·.1) = false := by rfl) :
    DI X W (.Tuple elts kk tpos) (.Call (.Name "zip" p) [a, b] [] pos) (fiZip g) :=
  piImp (RZ.pi_zipA hg hm ha hs hpl) fun σ H R ⟨en, ad, bg, Hs, δ, QD, ED, E, h, k, kx⟩ => ⟨en, ad, bg, Hs, δ, _, ED, E, h, fun vs ds Hs1 H1 E1 s1 r1 q1 => by
    have q1 : gZip ds QD := q1
    unfold gZip at q1
    split at q1
    · cases r1 with
      | cons h1 r1 =>
        cases r1 with
        | cons h2 r1 =>
          cases r1
          cases h1 with
          | lst z1 z2 =>
            cases h2 with
            | lst w1 w2 =>
              exact ⟨_, _, _, _, rfl, .inl ⟨.of (E1.sub _ _ z1), .of (E1.sub _ _ w1), k _ true _ Hs1 H1 E1 s1 (fun A B EA st => itz_at (EA.sub _ _ (st.sh _ _ z1)) (z2.mono st.sh) (EA.sub _ _ (st.sh _ _ w1)) (w2.mono st.sh))
                (fun _ A B sa sb => itz_at (sb _ _ (sa _ _ z1)) (z2.mono sa) (sb _ _ (sa _ _ w1)) (w2.mono sa)) q1⟩⟩
    · cases r1 with
      | cons h1 r1 =>
        cases r1 with
        | cons h2 r1 =>
          cases r1
          cases h1 with
          | tup z1 z2 =>
            cases h2 with
            | tup w1 w2 =>
              exact ⟨_, _, _, _, rfl, .inr ⟨.of (E1.sub _ _ z1), .of (E1.sub _ _ w1), k _ true _ Hs1 H1 E1 s1 (fun A B EA st => itzT_at (EA.sub _ _ (st.sh _ _ z1)) (z2.mono st.sh) (EA.sub _ _ (st.sh _ _ w1)) (w2.mono st.sh))
                (fun _ A B sa sb => itzT_at (sb _ _ (sa _ _ z1)) (z2.mono sa) (sb _ _ (sa _ _ w1)) (w2.mono sa)) q1⟩⟩
    · exact q1.elim, kx⟩

/-! ### list comprehensions -/
def noX : WX := fun _ _ _ _ => False
def DTs (X : Cx) (ifs : List Expr) (t : FT) : Prop := PTs X ifs (cT X.K noX t)
def fYes : FT := fun _ Q _ => Q true
theorem dts_nil : DTs X [] fYes := ⟨fun pins s σ H Q I ⟨en, ad, bg, Hs, δ, QD, ED, E, h, k, kx⟩ => pts_nil.run pins s σ H Q I (k true Hs H E (.refl _ _ _) h)⟩
theorem dts_one {e : Expr} {t : FT} (h : DT X noX e t) : DTs X [e] t := pts_one h
/-- each item in its turn: P says what the list holds so far -/
def fLc (it : FI) (g : FG) (t : FT) (f : FE) (vs : List Nat) : FE := fun δ Q ED => it δ (fun _ ds => ∃ P : Nat → List D → Prop, P 0 [] ∧
  (∀ i d acc, ds[i]? = some d → P i acc → g (.sh d) (wipeD δ vs) fun δ2 => t δ2 (fun b => if b = true then f δ2 (fun r => stab r fun y => acc.length < sizeLine ∧ P (i + 1) (acc ++ [y])) (fun _ => False) else P (i + 1) acc) (fun _ => False)) ∧
  ∀ acc, P ds.length acc → Q (.fr (.list acc))) ED
theorem wipe_wipe (σ : Sg) (vs : List Nat) : wipe (wipe σ vs) vs = wipe σ vs := List.ext_getElem? fun j => by
  rw [wipe_get, wipe_get, wipe_length]
  by_cases h : j ∈ vs ∧ j < σ.length
  · rw [if_pos h, if_pos h]
  · rw [if_neg h]
theorem lc_imp {it : FI} {g : FG} {t : FT} {f : FE} {vs l : List Nat} (hl : ∀ i ∈ l, i ∈ vs) (σ : Sg) (H : Hp) (Q : VK) (h : cE X.K W (fLc it g t f vs) σ H Q) :
    tLc (cI X.K W it) (cGl X.K g l) (cT X.K noX t) (cE X.K noX f) vs σ H Q := by
  obtain ⟨en, ad, bg, Hs, δ, QD, ED, E, h, k, kx⟩ := h
  refine ⟨en, ad, bg, Hs, δ, _, ED, E, h, fun J st ds Hs1 H1 E1 s1 it1 _ q1 => ?_, kx⟩
  obtain ⟨P, p0, turn, fin⟩ := q1
  intro L hL
  obtain ⟨E2, s2, n2, n0, nb, na⟩ := E1.addO (o := .lst []) hL
  refine ⟨fun i m A => ∃ As accV acc, m = ds.length - i ∧ i ≤ ds.length ∧ EnvOk X.K en ad bg As A σ δ ∧ Step bg Hs1 H1 As A ∧ A L = some (.lst accV) ∧ As L = none ∧ RpA X.K As accV acc ∧ P i acc,
    ⟨ds.length, Hs1, [], [], by simp, Nat.zero_le _, E2, s2, upd_same, n2, .nil, p0⟩, ?_⟩
  rintro i m A ⟨As, accV, acc, rfl, hi, EA, sA, eL, nL, rA, pA⟩
  obtain ⟨go, stop, yld⟩ := it1 As A EA sA
  by_cases hlt : i < ds.length
  · refine .inr ⟨go i hlt, fun B => ∃ As accV acc, EnvOk X.K en ad bg As B σ δ ∧ Step bg Hs1 H1 As B ∧ B L = some (.lst accV) ∧ As L = none ∧ RpA X.K As accV acc ∧ P (i + 1) acc, fun B ⟨Bs, bV, ba, h1, h2, h3, h4, h5, h6⟩ => ⟨ds.length - (i + 1), by omega, Bs, bV, ba, rfl, hlt, h1, h2, h3, h4, h5, h6⟩, fun x B y => ?_⟩
    obtain ⟨d, ed, hd⟩ := yld i x B hlt y
    -- the item's heap
    have item : ∃ Bs, EnvOk X.K en ad bg Bs B σ δ ∧ Step bg As A Bs B ∧ B L = some (.lst accV) ∧ Bs L = none ∧ Rp X.K Bs x d := by
      rcases hd with ⟨rfl, r⟩ | ⟨p, xs, es, hp, rfl, r, rfl, rfl⟩
      · exact ⟨As, EA, .refl _ _ _, eL, nL, r⟩
      · obtain ⟨E', s', _⟩ := EA.addS (o := .tup xs) hp
        have ne : L ≠ p := fun z => by rw [z, hp] at eL; cases eL
        exact ⟨_, E', s', by rw [upd_ne ne]; exact eL, by rw [upd_ne ne]; exact nL, .tup upd_same (r.mono s'.sh)⟩
    obtain ⟨Bs, EB, sB, eLB, nLB, rx⟩ := item
    have nbL : L ∉ bg := nb
    have base := sA.trans sB
    refine ⟨en, ad, bg, Bs, wipeD δ vs, .sh d, _, EB.wipe vs, rx, turn i d acc ed pA, fun σ2 δ2 ad2 E2' st2 q2 => ⟨by rw [st2.wipe hl]; exact wipe_wipe σ vs, en, ad2, bg, Bs, δ2, _, _, E2', q2, fun bb Cs C EC sC qC => ?_, fun _ _ _ _ _ _ _ z => z.elim⟩⟩
    have qC : if bb = true then f δ2 (fun r => stab r fun y => acc.length < sizeLine ∧ P (i + 1) (acc ++ [y])) (fun _ => False) else P (i + 1) acc := qC
    cases bb with
    | false =>
      have qC : P (i + 1) acc := by simpa using qC
      refine iteF ?_
      have eb := EB.back sC EC
      have nLC : Cs L = none := by
        cases z : Cs L with
        | none => rfl
        | some u =>
          rcases sC.new L (by rw [z]; simp) with w | w
          · exact absurd nLB w
          · rw [eLB] at w; cases w
      exact ⟨Cs, accV, acc, eb, base.trans sC, sC.keep _ _ eLB nbL, nLC, rA.mono (sB.sh.trans sC.sh), qC⟩
    | true =>
      have qC : f δ2 (fun r => stab r fun y => acc.length < sizeLine ∧ P (i + 1) (acc ++ [y])) (fun _ => False) := by simpa using qC
      refine iteT ?_
      refine cE_seq EC qC (fun v r Ds Dh ED' sD RD bD qD => ?_) fun _ _ _ _ _ _ _ z => z.elim
      obtain ⟨Ds', E5, s5, R5, S5, hz, q5⟩ := ED'.stab sD RD bD qD
      have s6 := sC.trans s5
      have e6 : Dh L = some (.lst accV) := s6.keep _ _ eLB nbL
      have n6 : Ds' L = none := by
        cases z : Ds' L with
        | none => rfl
        | some u =>
          rcases s6.new L (by rw [z]; simp) with w | w
          · exact absurd nLB w
          · rw [eLB] at w; cases w
      have eb := EB.back s6 E5
      have racc := rA.mono (sB.sh.trans s6.sh)
      refine ⟨accV, e6, by rw [rA.length]; exact hz, Ds', accV ++ [v], acc ++ [r.d], ?_, ?_, upd_same, n6, racc.append (.cons R5 .nil), q5⟩
      · -- the frame with the list grown
        have upS : ∀ c u, c ≠ L → Dh c = some u → upd Dh L (.lst (accV ++ [v])) c = some u := fun c u hc e => by rw [upd_ne hc]; exact e
        refine ⟨eb.len, ⟨eb.st.sh, fun c u e hc => upS c u (fun z => ?_) (eb.st.keep c u e hc), fun c e => ?_, eb.st.new⟩, fun c u e => upS c u (fun z => by rw [z, n6] at e; cases e) (eb.sub c u e), fun j sl h => ?_, eb.inj, fun j c h => ⟨(eb.out j c h).1, ?_⟩, eb.bgs, ?_, eb.bw⟩
        · rw [z, n0] at e; cases e
        · by_cases hc : c = L
          · rw [hc, upd_same]; simp
          · rw [upd_ne hc]; exact eb.st.dom c e
        · have q := eb.slot j sl h
          cases sl with
          | ow d' =>
            obtain ⟨c, e1, e2, e3, e4, o⟩ := q
            exact ⟨c, e1, e2, e3, e4, o.move (Same.refl _) fun y hy => upS c y (fun z => na j (by rw [e2, z])) hy⟩
          | _ => exact q
        · by_cases hc : c = L
          · rw [hc, upd_same]; simp
          · rw [upd_ne hc]; exact (eb.out j c h).2
        · rcases eb.bok with z | ⟨b, c, z, nc, cells, y, m, z1, z2, z3⟩
          · exact .inl z
          · exact .inr ⟨b, c, z, nc, cells, y, m, upS _ _ (fun w => nbL (by rw [z, ← w]; simp)) z1, upS _ _ (fun w => nbL (by rw [z, ← w]; simp)) z2, z3⟩
      · have tot := base.trans s6
        refine ⟨tot.sh, fun c u e hc => ?_, fun c e => ?_, tot.new⟩
        · rw [upd_ne (fun z => by rw [z, hL] at e; cases e)]; exact tot.keep c u e hc
        · by_cases hc : c = L
          · rw [hc, upd_same]; simp
          · rw [upd_ne hc]; exact tot.dom c e
  · have ei : i = ds.length := by omega
    subst ei
    refine .inl ⟨stop _ (Nat.le_refl _), (k.step s1) (.ref L) (.fr (.list acc)) As A EA sA ⟨L, rfl, nL, n0, nb, na, accV, eL, rA⟩ ⟨L, rfl, hL⟩ (fin acc pA)⟩
theorem de_lc {elt iter : Expr} {ifs : List Expr} {scope : Scope} {own : List (Str × Nat)} {it : FI} {g : FG} {t : FT} {f : FE} {l : List Nat} (hc : X.calm = true) (hN : X.N.Nodup) (hi : DI X W tg iter it) (ok : BlkOk X.N X.env.scope scope own)
    (hg : ∀ (s : Shared) (H : Hp) (C : Addr) (cl : List (Str × Addr)) (fp : List Addr), DG (X.blk s H scope (compEnvC scope cl C X.env) fp) tg g l) (ht : ∀ (s : Shared) (H : Hp) (C : Addr) (cl : List (Str × Addr)) (fp : List Addr), DTs (X.blk s H scope (compEnvC scope cl C X.env) fp) ifs t)
    (he : ∀ (s : Shared) (H : Hp) (C : Addr) (cl : List (Str × Addr)) (fp : List Addr), DE (X.blk s H scope (compEnvC scope cl C X.env) fp) noX elt f) (hl : ∀ i ∈ l, i ∈ own.map (·.2) := by decide) (hs : ∀ x, foldedSetIterable iter X.env x = pure x := by intro _; rfl) :
    DE X W (.ListComp elt [⟨tg, iter, ifs, 0⟩] scope pos) (fLc it g t f (own.map (·.2))) :=
  peImp (pe_lc (wi := cI X.K W it) (g := cGl X.K g l) (tt := cT X.K noX t) (te := cE X.K noX f) hc hN hi ok hg ht he hs) (lc_imp hl)
end
end DL

/-! DL10: statements. -/
namespace DL
open PySem PySem.Spec PyProof.Rows L2
structure DEnds where
  nx : List Slot → Prop
  rt : D → Prop
  bk : List Slot → Prop
  ct : List Slot → Prop
  ex : XD → List Slot → Prop
abbrev FS := DEnds → List Slot → Prop
structure KontS (K : Fg) (W : WX) (en : En) (DD : DEnds) (Z : Ends) : Prop where
  nx : ∀ ad bg Hs δ σ H, EnvOk K en ad bg Hs H σ δ → DD.nx δ → Z.nx σ H
  bk : ∀ ad bg Hs δ σ H, EnvOk K en ad bg Hs H σ δ → DD.bk δ → Z.bk σ H
  ct : ∀ ad bg Hs δ σ H, EnvOk K en ad bg Hs H σ δ → DD.ct δ → Z.ct σ H
  rt : ∀ ad bg Hs δ σ H v d, EnvOk K en ad bg Hs H σ δ → Rp K Hs v d → DD.rt d → Z.rt v H
  ex : ∀ cls d x ad bg Hs δ σ H, EnvOk K en ad bg Hs H σ δ → XRel K Hs H cls d x → DD.ex x δ → W cls d σ H
def cS (K : Fg) (W : WX) (f : FS) : TS := fun Z σ H => ∃ en ad bg Hs δ DD, EnvOk K en ad bg Hs H σ δ ∧ f DD δ ∧ KontS K W en DD Z
def DS (X : Cx) (W : WX) (st : Stmt) (f : FS) : Prop := PS X st (cS X.K W f)
def DSs (X : Cx) (W : WX) (st : List Stmt) (f : FS) : Prop := PSs X st (cS X.K W f)
theorem psImp {X : Cx} {st : Stmt} {t t' : TS} (h : PS X st t) (i : ∀ Z σ H, t' Z σ H → t Z σ H) : PS X st t' := ⟨fun p s σ H Z I q => h.run p s σ H Z I (i Z σ H q)⟩
theorem pssImp {X : Cx} {st : List Stmt} {t t' : TS} (h : PSs X st t) (i : ∀ Z σ H, t' Z σ H → t Z σ H) : PSs X st t' := ⟨fun p s σ H Z I q => h.run p s σ H Z I (i Z σ H q)⟩
theorem KontS.kx {K : Fg} {W : WX} {en : En} {DD : DEnds} {Z : Ends} (k : KontS K W en DD Z) (ad : Nat → Option Addr) (bg : List Addr) (σ : Sg) (δ : List Slot) : KontX K W en ad bg σ δ fun x => DD.ex x δ :=
  fun cls d x Hs H E xr q => k.ex cls d x ad bg Hs δ σ H E xr q

section
variable {K : Fg} {en : En} {ad : Nat → Option Addr} {bg : List Addr} {Hs H : Hp} {σ : Sg} {δ : List Slot}
/-- a change of what slot k owns -/
theorem EnvOk.poke {k : Nat} {d d' : D} {a : Addr} {o' : HO} (E : EnvOk K en ad bg Hs H σ δ) (hk : δ[k]? = some (.ow d)) (ha : σ[k]? = some (some (.ref a))) (ok : OwnO K Hs (upd H a o') a d') : EnvOk K en ad bg Hs (upd H a o') σ (δ.set k (.ow d')) := by
  obtain ⟨c, e1, e2, e3, e4, o⟩ := E.slot k _ hk
  rw [ha] at e1
  cases e1
  have hkl : k < δ.length := (List.getElem?_eq_some_iff.mp hk).1
  obtain ⟨nb, nn⟩ := E.out k a e2
  have off : ∀ c u, c ≠ a → H c = some u → upd H a o' c = some u := fun c u n e => by rw [upd_ne n]; exact e
  have dom : ∀ c, H c ≠ none → upd H a o' c ≠ none := fun c e => by
    by_cases h : c = a
    · rw [h, upd_same]; simp
    · rw [upd_ne h]; exact e
  refine ⟨by rw [List.length_set]; exact E.len, ⟨E.st.sh, fun c u e hc => off c u (fun z => by rw [z, e4] at e; cases e) (E.st.keep c u e hc), fun c e => dom c (E.st.dom c e), E.st.new⟩,
    fun c u e => off c u (fun z => by rw [z, e3] at e; cases e) (E.sub c u e), fun j s h => ?_, E.inj, fun j c h => ⟨(E.out j c h).1, dom c (E.out j c h).2⟩, E.bgs, ?_, E.bw⟩
  · by_cases e : k = j
    · subst e
      rw [List.getElem?_set_self hkl] at h
      cases h
      exact ⟨a, ha, e2, e3, e4, ok⟩
    · rw [List.getElem?_set_ne e] at h
      have q := E.slot j s h
      cases s with
      | ow d2 =>
        obtain ⟨c, f1, f2, f3, f4, f5⟩ := q
        exact ⟨c, f1, f2, f3, f4, f5.move (Same.refl _) fun y hy => off c y (fun z => e (E.inj k j a e2 (by rw [f2, z]))) hy⟩
      | _ => exact q
  · rcases E.bok with z | ⟨b, c, z, nc, cells, y, m, z1, z2, z3⟩
    · exact .inl z
    · exact .inr ⟨b, c, z, nc, cells, y, m, off _ _ (fun w => nb (by rw [z, ← w]; simp)) z1, off _ _ (fun w => nb (by rw [z, ← w]; simp)) z2, z3⟩
/-- what is shared now stays shared: a nearer entry -/
def En.near (en : En) (Hs : Hp) : En := { en with Hs0 := Hs }
theorem EnvOk.near (E : EnvOk K en ad bg Hs H σ δ) : EnvOk K (en.near Hs) ad bg Hs H σ δ :=
  ⟨E.len, ⟨Same.refl _, E.st.keep, E.st.dom, fun a h => .inl h⟩, E.sub, E.slot, E.inj, E.out, E.bgs, E.bok, E.bw⟩
theorem EnvOk.far {ad' bg' Hs' H'} {σ' : Sg} {δ' : List Slot} (E : EnvOk K en ad bg Hs H σ δ) (E' : EnvOk K (en.near Hs) ad' bg' Hs' H' σ' δ') : EnvOk K en ad' bg' Hs' H' σ' δ' :=
  ⟨E'.len, ⟨E.st.sh.trans E'.st.sh, E'.st.keep, E'.st.dom, fun a h => (E'.st.new a h).elim (E.st.new a) .inr⟩, E'.sub, E'.slot, E'.inj, E'.out, E'.bgs, E'.bok, E'.bw⟩
/-- an owned thing is shared from here on -/
def unown (δ : List Slot) (i : Nat) : List Slot := match δ[i]? with
  | some (.ow d) => δ.set i (.sh d)
  | _ => δ
theorem EnvOk.unown (E : EnvOk K en ad bg Hs H σ δ) (i : Nat) : ∃ ad' Hs', EnvOk K en ad' bg Hs' H σ (DL.unown δ i) := by
  unfold DL.unown
  split
  · rename_i d hd
    obtain ⟨a, e1, e2, e3, e4, o⟩ := E.slot i _ hd
    have il : i < δ.length := (List.getElem?_eq_some_iff.mp hd).1
    -- forget the slot, then share
    have E1 : EnvOk K en (setAd ad i none) bg Hs H σ (δ.set i .no) := by
      refine ⟨by rw [List.length_set]; exact E.len, E.st, E.sub, fun j s h => ?_, fun j l c h1 h2 => ?_, fun j c h => ?_, E.bgs, E.bok, E.bw⟩
      · by_cases e : i = j
        · subst e
          rw [List.getElem?_set_self il] at h
          cases h
          trivial
        · rw [List.getElem?_set_ne e] at h
          have q := E.slot j s h
          cases s with
          | ow d2 => obtain ⟨c, f1, f2, f3⟩ := q; exact ⟨c, f1, by rw [setAd_ne e]; exact f2, f3⟩
          | _ => exact q
      · unfold setAd at h1 h2
        split at h1
        · cases h1
        · split at h2
          · cases h2
          · exact E.inj j l c h1 h2
      · unfold setAd at h
        split at h
        · cases h
        · exact E.out j c h
    have R : VRel K en (setAd ad i none) bg Hs H σ (δ.set i .no) (.ref a) (.fr d) := by
      refine ⟨a, rfl, e3, e4, (E.out i a e2).1, fun j z => ?_, o⟩
      unfold setAd at z
      split at z
      · cases z
      · rename_i hj; exact hj (E.inj j i a z e2)
    obtain ⟨Hs', E2, _, r, _⟩ := E1.share (A := en.Hs0) (B := en.H0) (s := by
        refine ⟨E.st.sh, fun c u e n => E.st.keep c u e (fun z => ?_), E.st.dom, E.st.new⟩
        have := E.bw (fun w => by rw [w] at z; cases z)
        exact n (by rw [this]; exact z)) R ⟨a, rfl, e4⟩
    have E3 := E2.setS (v := .ref a) i (by rw [List.length_set]; exact il) r
    rw [List.set_set] at E3
    have es : σ.set i (some (.ref a)) = σ := by
      apply List.ext_getElem?
      intro j
      by_cases e : i = j
      · subst e
        rw [List.getElem?_set_self (by rw [E.len]; exact il), e1]
      · rw [List.getElem?_set_ne e]
    rw [es] at E3
    exact ⟨_, _, E3⟩
  · exact ⟨ad, Hs, E⟩
end
end DL

/-! DL11: the rules for statements. -/
namespace DL
open PySem PySem.Spec PyProof.Rows L2
section
variable {X : Cx} {W : WX} {st : Stmt} {rest : List Stmt} {a b c tg : Expr} {fa fb fc : FE} {fs ft : FS} {pos p : Pos}
def fNext : FS := fun Z δ => Z.nx δ
def fSeq (f g : FS) : FS := fun Z δ => f { Z with nx := g Z } δ
theorem dss_nil : DSs X W [] fNext := pssImp pss_nil fun Z σ H ⟨en, ad, bg, Hs, δ, DD, E, h, k⟩ => k.nx _ _ _ _ _ _ E h
theorem dss_cons (h1 : DS X W st fs) (h2 : DSs X W rest ft) : DSs X W (st :: rest) (fSeq fs ft) :=
  pssImp (pss_cons h1 h2) fun Z σ H ⟨en, ad, bg, Hs, δ, DD, E, h, k⟩ => ⟨en, ad, bg, Hs, δ, _, E, h, ⟨fun ad' bg' Hs' δ' σ' H' E' q => ⟨en, ad', bg', Hs', δ', DD, E', q, k⟩, k.bk, k.ct, k.rt, k.ex⟩⟩
theorem dss_one (h1 : DS X W st fs) : DSs X W [st] fs := pss_one h1
theorem ds_pass : DS X W (.Pass pos) fNext := psImp ps_pass fun Z σ H ⟨en, ad, bg, Hs, δ, DD, E, h, k⟩ => k.nx _ _ _ _ _ _ E h
def fBreak : FS := fun Z δ => Z.bk δ
def fCont : FS := fun Z δ => Z.ct δ
theorem ds_break : DS X W (.Break pos) fBreak := psImp ps_break fun Z σ H ⟨en, ad, bg, Hs, δ, DD, E, h, k⟩ => k.bk _ _ _ _ _ _ E h
theorem ds_cont : DS X W (.Continue pos) fCont := psImp ps_continue fun Z σ H ⟨en, ad, bg, Hs, δ, DD, E, h, k⟩ => k.ct _ _ _ _ _ _ E h
theorem ds_doc {x j pos'} : DS X W (.Expr (.Constant (.str x) j pos) pos') fNext := psImp ps_doc fun Z σ H ⟨en, ad, bg, Hs, δ, DD, E, h, k⟩ => k.nx _ _ _ _ _ _ E h
def fRet (f : FE) : FS := fun Z δ => f δ (fun r => stabR r Z.rt) fun x => Z.ex x δ
where stabR (r : Res) (Q : D → Prop) : Prop := Q r.d
/-- what is handed back may be an own thing: the frame ends -/
theorem ds_ret (ha : DE X W a fa) : DS X W (.Return (some a) pos) (fRet fa) :=
  psImp (ps_ret ha) fun Z σ H ⟨en, ad, bg, Hs, δ, DD, E, h, k⟩ => ⟨en, ad, bg, Hs, δ, _, _, E, h, fun v r Hs1 H1 E1 s1 R1 b1 q1 => by
    have q1 : DD.rt r.d := q1
    cases r with
    | sh d => exact k.rt _ _ _ _ _ _ _ _ E1 R1 q1
    | fr d =>
      obtain ⟨Hs', E', s', R', _⟩ := E1.share s1 R1 b1
      exact k.rt _ _ _ _ _ _ _ _ E' R' q1
    | br i d =>
      obtain ⟨z1, z2⟩ := R1
      obtain ⟨ad', Hs', E'⟩ := E1.unown i
      obtain ⟨v', e, r⟩ := E'.slot i (.sh d) (by unfold DL.unown; rw [z1]; exact List.getElem?_set_self (List.getElem?_eq_some_iff.mp z1).1)
      rw [z2] at e
      cases e
      exact k.rt _ _ _ _ _ _ _ _ E' r q1, k.kx ad bg σ δ⟩
def fRetN : FS := fun Z _ => Z.rt .none
theorem ds_retN : DS X W (.Return none pos) fRetN := psImp ps_retN fun Z σ H ⟨en, ad, bg, Hs, δ, DD, E, h, k⟩ => k.rt _ _ _ _ _ _ _ _ E .non h
def fIf (t : FT) (f g : FS) : FS := fun Z δ => t δ (fun b => if b = true then f Z δ else g Z δ) fun x => Z.ex x δ
theorem ds_if {t : FT} {x y : List Stmt} (hc : DT X W a t) (ha : DSs X W x fs) (hb : DSs X W y ft) : DS X W (.If a x y pos) (fIf t fs ft) :=
  psImp (ps_if hc ha hb) fun Z σ H ⟨en, ad, bg, Hs, δ, DD, E, h, k⟩ => ⟨en, ad, bg, Hs, δ, _, _, E, h, fun bb Hs1 H1 E1 s1 q1 => by
    cases bb with
    | true => exact iteT ⟨en, ad, bg, Hs1, δ, DD, E1, by simpa using q1, k⟩
    | false => exact iteF ⟨en, ad, bg, Hs1, δ, DD, E1, by simpa using q1, k⟩, k.kx ad bg σ δ⟩
def fDrop (f : FE) : FS := fun Z δ => f δ (fun _ => Z.nx δ) fun x => Z.ex x δ
theorem ds_expr (ha : DE X W a fa) (hs : swapsWith a none pos.line X.env = pure false := by rfl) : DS X W (.Expr a pos) (fDrop fa) :=
  psImp (ps_expr ha hs) fun Z σ H ⟨en, ad, bg, Hs, δ, DD, E, h, k⟩ => ⟨en, ad, bg, Hs, δ, _, _, E, h, fun v r Hs1 H1 E1 s1 R1 b1 q1 => k.nx _ _ _ _ _ _ E1 q1, k.kx ad bg σ δ⟩
/-- a ghost: what slot i owns is shared from here on -/
def fShare (i : Nat) (f : FS) : FS := fun Z δ => f Z (DL.unown δ i)
theorem ds_share (i : Nat) (h : DS X W st fs) : DS X W st (fShare i fs) := psImp h fun Z σ H ⟨en, ad, bg, Hs, δ, DD, E, h, k⟩ => by
  obtain ⟨ad', Hs', E'⟩ := E.unown i
  exact ⟨en, ad', bg, Hs', _, DD, E', h, k⟩

/-! ### assignments -/
def fAsg (f : FE) (g : FG) : FS := fun Z δ => f δ (fun r => g r δ Z.nx) fun x => Z.ex x δ
theorem asg_imp {K : Fg} {f : FE} {g : FG} {l : List Nat} (Z : Ends) (σ : Sg) (H : Hp) (h : cS K W (fAsg f g) Z σ H) : tAsg (cE K W f) (cGl K g l) Z σ H := by
  obtain ⟨en, ad, bg, Hs, δ, DD, E, h, k⟩ := h
  exact ⟨en, ad, bg, Hs, δ, _, _, E, h, fun v r Hs1 H1 E1 s1 R1 b1 q1 => ⟨en, ad, bg, Hs1, δ, r, _, E1, R1, q1, fun σ' δ' ad' E' _ q => k.nx _ _ _ _ _ _ E' q⟩, k.kx ad bg σ δ⟩
theorem ds_asg {g : FG} {l : List Nat} (ha : DE X W a fa) (hg : DG X tg g l) (hs : swapsWithSole [tg] a pos.line X.env = pure false := by rfl) (hw : swappedStores [tg] a X.env = pure none := by rfl)
    (h1 : (assignEach [tg] X.env).map (·.2) = [assign tg X.env] := by rfl) : DS X W (.Assign [tg] a pos) (fAsg fa g) := psImp (ps_asg ha hg hs hw h1) asg_imp
abbrev fSet (i : Nat) (f : FE) : FS := fAsg f (tgName i)
theorem name_imp {K : Fg} {i : Nat} (v : V) (σ : Sg) (H : Hp) (Q : Sg → Hp → Prop) (h : cGl K (tgName i) [i] v σ H Q) : gName i v σ H Q := by
  obtain ⟨en, ad, bg, Hs, δ, r, QD, E, R, ⟨hl, g⟩, k⟩ := h
  have st : Sets σ (σ.set i (some v)) [i] := ⟨List.length_set, fun j h => List.getElem?_set_ne (fun e => h (by simp [e]))⟩
  cases r with
  | sh d => exact k _ _ _ (E.setS i hl R) st g
  | fr d => obtain ⟨ad', E'⟩ := E.setO i hl R; exact k _ _ _ E' st g
  | br j d => exact g.elim
theorem set_imp {K : Fg} {i : Nat} {f : FE} (Z : Ends) (σ : Sg) (H : Hp) (h : cS K W (fSet i f) Z σ H) : tAsg (cE K W f) (gName i) Z σ H := by
  obtain ⟨en, ad, bg, Hs, δ, DD, E, h, k⟩ := h
  exact ⟨en, ad, bg, Hs, δ, _, _, E, h, fun v r Hs1 H1 E1 s1 R1 b1 q1 => name_imp (K := K) v σ H1 Z.nx ⟨en, ad, bg, Hs1, δ, r, _, E1, R1, q1, fun σ' δ' ad' E' _ q => k.nx _ _ _ _ _ _ E' q⟩, k.kx ad bg σ δ⟩
theorem ds_set (i : Nat) {x : Str} {pos' : Pos} (hN : X.N.Nodup) (he : DE X W a fa) (hi : X.N[i]? = some x := by rfl) (hx : Loc X.env.scope x := by first | exact .inl rfl | exact .inr rfl) (hs : swapsWith a (some (.Name x pos')) pos.line X.env = pure false := by rfl)
    (hf : X.fn x = true ∨ X.env.scope.names.lookup x = some .local := by first | exact .inl rfl | exact .inr rfl) : DS X W (.Assign [.Name x pos'] a pos) (fSet i fa) := psImp (ps_set (i := i) hN hi hx he hs hf) set_imp
/-- y = [..], y a plain local -/
theorem ds_setLc (i : Nat) {y : Str} {py spos : Pos} {elt iter : Expr} {ifs : List Expr} {scope : Scope} {own : List (Str × Nat)} {it : FI} {g : FG} {t : FT} {f : FE} {l : List Nat} (hc : X.calm = true) (hN : X.N.Nodup)
    (hsw : swapsWith (.ListComp elt [⟨tg, iter, ifs, 0⟩] scope pos) (some (.Name y py)) spos.line X.env = pure true) (hi : DI X W tg iter it) (ok : BlkOk X.N X.env.scope scope own)
    (hg : ∀ (s : Shared) (H : Hp) (C : Addr) (cl : List (Str × Addr)) (fp : List Addr), DG (X.blk s H scope (compEnvC scope cl C X.env) fp) tg g l) (ht : ∀ (s : Shared) (H : Hp) (C : Addr) (cl : List (Str × Addr)) (fp : List Addr), DTs (X.blk s H scope (compEnvC scope cl C X.env) fp) ifs t)
    (he : ∀ (s : Shared) (H : Hp) (C : Addr) (cl : List (Str × Addr)) (fp : List Addr), DE (X.blk s H scope (compEnvC scope cl C X.env) fp) noX elt f) (hl : ∀ i ∈ l, i ∈ own.map (·.2) := by decide) (hy : X.N[i]? = some y := by rfl) (hyl : X.env.scope.names.lookup y = some .local := by rfl)
    (hs : ∀ x, foldedSetIterable iter X.env x = pure x := by intro _; rfl) : DS X W (.Assign [.Name y py] (.ListComp elt [⟨tg, iter, ifs, 0⟩] scope pos) spos) (fSet i (fLc it g t f (own.map (·.2)))) :=
  psImp (ps_setLc (wi := cI X.K W it) (g := cGl X.K g l) (tt := cT X.K noX t) (te := cE X.K noX f) hc hN hy hyl hsw hi ok hg ht he hs) fun Z σ H h => by
    obtain ⟨en, ad, bg, Hs, δ, DD, E, h, k⟩ := h
    exact lc_imp hl σ H _ ⟨en, ad, bg, Hs, δ, _, _, E, h, fun v r Hs1 H1 E1 s1 R1 b1 q1 => name_imp (K := X.K) v σ H1 Z.nx ⟨en, ad, bg, Hs1, δ, r, _, E1, R1, q1, fun σ' δ' ad' E' _ q => k.nx _ _ _ _ _ _ E' q⟩, k.kx ad bg σ δ⟩

/-! ### xs[i] = e, d[k] = e at an own thing -/
def rSetA : TSet := fun o i v H Q => (∃ p xs k j, o = .ref p ∧ i = .int k ∧ H p = some (.lst xs) ∧ ixN xs.length k = some j ∧ Q (upd H p (.lst (xs.set j v)))) ∨ ∃ q H', o = .ref q ∧ DPut H q i v H' ∧ Q H'
theorem set_all (hu : X.A.units + 1 < cLine) : PSet X rSetA := by
  intro pins s σ H o i v ov iv u Q I ro ri rv h
  rcases h with h | ⟨q, H', rfl, g, h⟩
  · exact set_list pins s σ H o i v ov iv u Q I ro ri rv h
  · cases ro
    exact d_setItem hu I g ri rv fun s' I' => ⟨H', I', h⟩
def subW (k : Nat) (j d : D) (δ : List Slot) (Q : List Slot → Prop) : Prop := match δ[k]? with
  | some (.ow (.list ds)) => intW j fun i => ∃ n, ixN ds.length i = some n ∧ Q (δ.set k (.ow (.list (ds.set n d))))
  | some (.ow (.dict kds)) => (scK j = true ∧ kds.all (fun p => scK p.1) = true ∧ kds.length < sizeLine) ∧ Q (δ.set k (.ow (.dict (putD kds j d))))
  | _ => False
def fPut (k : Nat) (fi fe : FE) : FS := fun Z δ => fe δ (fun r => stab r fun d => (∃ d0, δ[k]? = some (.ow d0)) ∧ fi δ (fun t => subW k t.d d δ Z.nx) fun x => Z.ex x δ) fun x => Z.ex x δ
theorem OwnO.dictK {K : Fg} {Hs H : Hp} {q : Addr} {kds : List (D × D)} (h : OwnO K Hs H q (.dict kds)) (hk : kds.all (fun p => scK p.1) = true) : ∃ kvs ds, H q = some (.dK kvs) ∧ RpA K Hs (kvs.map (·.2)) ds ∧ kds = (kvs.map fun p => keyD p.1).zip ds := by
  rcases h with ⟨kvs, ds, h1, h2, h3⟩ | ⟨kvs, ds, h1, n, h2, h3⟩
  · exact ⟨kvs, ds, h1, h2, h3⟩
  · cases kvs with
    | nil => exact absurd rfl n
    | cons p kvs =>
      cases h2 with
      | cons r1 r2 =>
        subst h3
        exact absurd hk (by simp [scK])
theorem ds_sub (k : Nat) {x : Str} {p1 p2 : Pos} (hu : X.A.units + 1 < cLine) (he : DE X W a fa) (hi : DE X W b fb) (hv : DE X W (.Name x p1) (fVar k))
    (hp : ∀ v, assign (.Subscript (.Name x p1) b p2) X.env v = (do
      let ov ← holding [v] (eval (.Name x p1) X.env)
      let iv ← holding [v, ov] (eval b X.env)
      standAt p2
      holding [v, ov, iv] (setItem ov iv v)
      release [v, ov, iv] []) := by intro _; rfl)
    (hs : swapsWithSole [Expr.Subscript (.Name x p1) b p2] a pos.line X.env = pure false := by rfl) (hw : swappedStores [Expr.Subscript (.Name x p1) b p2] a X.env = pure none := by rfl)
    (h1 : (assignEach [Expr.Subscript (.Name x p1) b p2] X.env).map (·.2) = [assign (.Subscript (.Name x p1) b p2) X.env] := by rfl) : DS X W (.Assign [.Subscript (.Name x p1) b p2] a pos) (fPut k fb fa) :=
  psImp (ps_asg (te := cE X.K W fa) he (pg_sub (to := cE X.K W (fVar k)) (ti := cE X.K W fb) hv hi (set_all hu) hp) hs hw h1) fun Z σ H ⟨en, ad, bg, Hs, δ, DD, E, h, kk⟩ => ⟨en, ad, bg, Hs, δ, _, _, E, h, fun v r Hs1 H1 E1 s1 R1 b1 q1 => by
    obtain ⟨Hs2, E2, s2, R2, S2, q2⟩ := E1.stab s1 R1 b1 q1
    obtain ⟨⟨d0, hd0⟩, q2⟩ := q2
    obtain ⟨q, e1, e2, e3, e4, o⟩ := E2.slot k _ hd0
    refine cE_seq (QD := fun t => t = .br k d0) E2 (by unfold fVar; rw [hd0]) (fun ov t Hs3 H3 E3 s3 R3 b3 ht => ?_) (kk.kx ad bg σ δ)
    subst ht
    obtain ⟨z1, z2⟩ := R3
    rw [e1] at z2
    cases z2
    refine cE_seq E3 q2 (fun iv t Hs4 H4 E4 s4 R4 b4 q4 => ?_) (kk.kx ad bg σ δ)
    have q4 : subW k t.d r.d δ DD.nx := q4
    have R5 := R2.mono (s3.sh.trans s4.sh)
    obtain ⟨q', f1, f2, f3, f4, o4⟩ := E4.slot k _ hd0
    rw [e1] at f1
    cases f1
    unfold subW at q4
    rw [hd0] at q4
    cases d0 with
    | list ds =>
      obtain ⟨n, rfl, m, hm, q5⟩ := intW_inv q4 (R4.rp E4)
      obtain ⟨xs, hx, rx⟩ := o4
      refine .inl ⟨q, xs, n, m, rfl, rfl, hx, by rw [rx.length]; exact hm, kk.nx _ _ _ _ _ _ (E4.poke hd0 e1 ?_) q5⟩
      exact ⟨_, upd_same, rx.set m R5⟩
    | dict kds =>
      obtain ⟨⟨g1, g2, g3⟩, q5⟩ := q4
      obtain ⟨kvs, ds, hx, rx, rfl⟩ := o4.dictK g2
      obtain ⟨j, rfl, ej⟩ := scK_key (R4.rp E4) g1
      rw [ej] at q5
      obtain ⟨es, r1, r2⟩ := put_val keyD eqv_key j R5 kvs ds rx
      rw [r2] at q5
      have hl := rx.length
      rw [List.length_map] at hl
      refine .inr ⟨q, _, rfl, .k hx (by simpa [hl] using g3), kk.nx _ _ _ _ _ _ (E4.poke hd0 e1 ?_) q5⟩
      exact .inl ⟨_, es, upd_same, r1, rfl⟩
    | _ => exact q4.elim, kk.kx ad bg σ δ⟩

/-! ### xs.append(e), xs.extend(e) at an own list -/
def appW (k : Nat) (d : D) (δ : List Slot) (Q : List Slot → Prop) : Prop := match δ[k]? with
  | some (.ow (.list ds)) => ds.length < sizeLine ∧ Q (δ.set k (.ow (.list (ds ++ [d]))))
  | _ => False
def isOwL (δ : List Slot) (k : Nat) : Prop := ∃ ds, δ[k]? = some (.ow (.list ds))
def fApp (k : Nat) (fe : FE) : FS := fun Z δ => isOwL δ k ∧ fe δ (fun r => stab r fun d => appW k d δ Z.nx) fun x => Z.ex x δ
theorem ds_app (k : Nat) {x : Str} {p1 apos cpos : Pos} (he : DE X W a fa) (hv : DE X W (.Name x p1) (fVar k))
    (hbase : attributeBase (.Name x p1) "append" X.env (eval (.Name x p1) X.env) = eval (.Name x p1) X.env := by rfl)
    (hfew : ((backTo cpos (starEach [a] X.env)).all (fun x => !x.1) && (backToKw cpos (keywordEach [] X.env)).all (fun x => x.1.isSome)
      && decide ([a].length + ([] : List Keyword).length + (if ([] : List Keyword).isEmpty then 0 else 1) < 30)) = true := by rfl)
    (hline : (apos.endLine == cpos.line) = true := by rfl) (hst : starEach [a] X.env = (false, eval a X.env) :: starEach [] X.env := by rfl)
    (hsw : swapsWith (.Call (.Attribute (.Name x p1) "append" apos) [a] [] cpos) none pos.line X.env = pure false := by rfl) : DS X W (.Expr (.Call (.Attribute (.Name x p1) "append" apos) [a] [] cpos) pos) (fApp k fa) :=
  psImp (ps_expr (pe_bm PySem.F.plainAttrs_list PySem.F.slot_list_append PySem.F.type_list_append mt_append (to := cE X.K W (fVar k)) hv (pa_cons (te := cE X.K W fa) he pa_nil hst) hbase hfew hline hst rfl) hsw) fun Z σ H ⟨en, ad, bg, Hs, δ, DD, E, ⟨⟨ds, hds⟩, h⟩, kk⟩ => by
    obtain ⟨q, e1, e2, e3, e4, xs0, hx0, _⟩ := E.slot k _ hds
    refine cE_seq (QD := fun t => t = .br k (.list ds)) E (by unfold fVar; rw [hds]) (fun ov t Hs3 H3 E3 s3 R3 b3 ht => ?_) (kk.kx ad bg σ δ)
    subst ht
    obtain ⟨z1, z2⟩ := R3
    rw [e1] at z2
    cases z2
    obtain ⟨q', g1, g2, g3, g4, xs3, hx3, _⟩ := E3.slot k _ hds
    rw [e1] at g1
    cases g1
    refine ⟨.inl ⟨rfl, xs3, .of hx3⟩, cE_seq E3 h (fun v r Hs4 H4 E4 s4 R4 b4 q4 => ?_) (kk.kx ad bg σ δ)⟩
    obtain ⟨Hs5, E5, s5, R5, S5, q5⟩ := E4.stab s4 R4 b4 q4
    unfold appW at q5
    rw [hds] at q5
    obtain ⟨q', f1, f2, f3, f4, xs, hx, rx⟩ := E5.slot k _ hds
    rw [e1] at f1
    cases f1
    refine ⟨q, xs, v, rfl, rfl, hx, by rw [rx.length]; exact q5.1, kk.nx _ _ _ _ _ _ (E5.poke hds e1 ?_) q5.2⟩
    exact ⟨_, upd_same, rx.append (.cons R5 .nil)⟩
def extW (k : Nat) (d : D) (δ : List Slot) (Q : List Slot → Prop) : Prop := match δ[k]?, d with
  | some (.ow (.list ds)), .list es => ds.length + es.length ≤ sizeLine ∧ Q (δ.set k (.ow (.list (ds ++ es))))
  | _, _ => False
def fExt (k : Nat) (fe : FE) : FS := fun Z δ => isOwL δ k ∧ fe δ (fun r => extW k r.d δ Z.nx) fun x => Z.ex x δ
theorem ds_ext (k : Nat) {x : Str} {p1 apos cpos : Pos} (he : DE X W a fa) (hv : DE X W (.Name x p1) (fVar k))
    (hbase : attributeBase (.Name x p1) "extend" X.env (eval (.Name x p1) X.env) = eval (.Name x p1) X.env := by rfl)
    (hfew : ((backTo cpos (starEach [a] X.env)).all (fun x => !x.1) && (backToKw cpos (keywordEach [] X.env)).all (fun x => x.1.isSome)
      && decide ([a].length + ([] : List Keyword).length + (if ([] : List Keyword).isEmpty then 0 else 1) < 30)) = true := by rfl)
    (hline : (apos.endLine == cpos.line) = true := by rfl) (hst : starEach [a] X.env = (false, eval a X.env) :: starEach [] X.env := by rfl)
    (hsw : swapsWith (.Call (.Attribute (.Name x p1) "extend" apos) [a] [] cpos) none pos.line X.env = pure false := by rfl) : DS X W (.Expr (.Call (.Attribute (.Name x p1) "extend" apos) [a] [] cpos) pos) (fExt k fa) :=
  psImp (ps_expr (pe_bm PySem.F.plainAttrs_list PySem.F.slot_list_extend PySem.F.type_list_extend mt_extend (to := cE X.K W (fVar k)) hv (pa_cons (te := cE X.K W fa) he pa_nil hst) hbase hfew hline hst rfl) hsw) fun Z σ H ⟨en, ad, bg, Hs, δ, DD, E, ⟨⟨ds, hds⟩, h⟩, kk⟩ => by
    obtain ⟨q, e1, e2, e3, e4, xs0, hx0, _⟩ := E.slot k _ hds
    refine cE_seq (QD := fun t => t = .br k (.list ds)) E (by unfold fVar; rw [hds]) (fun ov t Hs3 H3 E3 s3 R3 b3 ht => ?_) (kk.kx ad bg σ δ)
    subst ht
    obtain ⟨z1, z2⟩ := R3
    rw [e1] at z2
    cases z2
    obtain ⟨q', g1, g2, g3, g4, xs3, hx3, _⟩ := E3.slot k _ hds
    rw [e1] at g1
    cases g1
    refine ⟨.inl ⟨rfl, xs3, .of hx3⟩, cE_seq E3 h (fun v r Hs4 H4 E4 s4 R4 b4 q4 => ?_) (kk.kx ad bg σ δ)⟩
    have q4 : extW k r.d δ DD.nx := q4
    unfold extW at q4
    rw [hds] at q4
    obtain ⟨q', f1, f2, f3, f4, xs, hx, rx⟩ := E4.slot k _ hds
    rw [e1] at f1
    cases f1
    cases hr : r.d with
    | list es =>
      rw [hr] at q4
      obtain ⟨t, ys, rfl, hy, ry⟩ := R4.items E4 hr
      refine ⟨q, t, xs, ys, rfl, rfl, hx, hy, by rw [rx.length, ry.length]; exact q4.1, kk.nx _ _ _ _ _ _ (E4.poke hds e1 ?_) q4.2⟩
      exact ⟨_, upd_same, rx.append ry⟩
    | _ => rw [hr] at q4; exact q4.elim

/-! ### while, for -/
def fWhile (t : FT) (body : FS) : FS := fun Z δ => ∃ P : Nat → List Slot → Prop, (∃ m, P m δ) ∧ ∀ m δ, P m δ →
  t δ (fun b => if b = true then body { Z with nx := fun δ' => ∃ m', m' < m ∧ P m' δ', ct := fun δ' => ∃ m', m' < m ∧ P m' δ', bk := Z.nx } δ else Z.nx δ) fun x => Z.ex x δ
theorem ds_while {t : FT} {body : List Stmt} (hp : PassesOwn (model X.prog X.w) X.A X.env X.xe) (hc : DT X W a t) (hb : DSs X W body fs) : DS X W (.While a body [] pos) (fWhile t fs) :=
  psImp (ps_while hp hc hb) fun Z σ H ⟨en, ad, bg, Hs, δ, DD, E, ⟨P, ⟨m, p0⟩, turn⟩, k⟩ => by
    refine ⟨fun m σ H => ∃ ad bg Hs δ, EnvOk X.K en ad bg Hs H σ δ ∧ P m δ, ⟨m, ad, bg, Hs, δ, E, p0⟩, ?_⟩
    rintro m σ H ⟨ad, bg, Hs, δ, E, p⟩
    refine ⟨en, ad, bg, Hs, δ, _, _, E, turn m δ p, fun bb Hs1 H1 E1 s1 q1 => ?_, k.kx ad bg σ δ⟩
    cases bb with
    | true =>
      refine iteT ⟨fun σ H => ∃ m', m' < m ∧ ∃ ad bg Hs δ, EnvOk X.K en ad bg Hs H σ δ ∧ P m' δ, fun σ' H' h => h, en, ad, bg, Hs1, δ, _, E1, by simpa using q1, ?_⟩
      exact ⟨fun ad bg Hs δ σ H E ⟨m', hm, q⟩ => ⟨m', hm, ad, bg, Hs, δ, E, q⟩, fun ad bg Hs δ σ H E q => k.nx _ _ _ _ _ _ E q, fun ad bg Hs δ σ H E ⟨m', hm, q⟩ => ⟨m', hm, ad, bg, Hs, δ, E, q⟩, k.rt, k.ex⟩
    | false => exact iteF (k.nx _ _ _ _ _ _ E1 (by simpa using q1))
def fFor (it : FI) (g : FG) (body : FS) : FS := fun Z δ => it δ (fun st ds => st = true ∧ ∃ P : Nat → List Slot → Prop, P 0 δ ∧
  (∀ i d δ, ds[i]? = some d → P i δ → g (.sh d) δ fun δ2 => body { Z with nx := P (i + 1), ct := P (i + 1), bk := Z.nx } δ2) ∧ ∀ δ, P ds.length δ → Z.nx δ) fun x => Z.ex x δ
theorem ds_for {it : FI} {g : FG} {l : List Nat} {iter : Expr} {body : List Stmt} (hp : PassesOwn (model X.prog X.w) X.A X.env X.xe) (hc : X.calm = true) (hi : DI X W tg iter it) (hg : DG X tg g l) (hb : DSs X W body fs)
    (hs : ∀ x, foldedSetIterable iter X.env x = pure x := by intro _; rfl) : DS X W (.For tg iter body [] pos) (fFor it g fs) :=
  psImp (ps_for (wi := cI X.K W it) (g := cGl X.K g l) (tb := cS X.K W fs) hp hc hi hg hb hs) fun Z σ H ⟨en, ad, bg, Hs, δ, DD, E, h, k⟩ => ⟨en, ad, bg, Hs, δ, _, _, E, h, fun J st ds Hs1 H1 E1 s1 _ its q1 => by
    obtain ⟨hst, P, p0, turn, fin⟩ := q1
    have its := its hst
    refine ⟨fun i m σ A => ∃ ad bg As δ, m = ds.length - i ∧ i ≤ ds.length ∧ EnvOk X.K (en.near Hs1) ad bg As A σ δ ∧ P i δ, ⟨ds.length, ad, bg, Hs1, δ, by simp, Nat.zero_le _, E1.near, p0⟩, ?_⟩
    rintro i m σ A ⟨ad, bg, As, δ, rfl, hi, EA, pA⟩
    obtain ⟨go, stop, yld⟩ := its As A EA.st.sh EA.sub
    by_cases hlt : i < ds.length
    · refine .inr ⟨go i hlt, fun σ A => ∃ ad bg As δ, EnvOk X.K (en.near Hs1) ad bg As A σ δ ∧ P (i + 1) δ, fun σ' B ⟨ad, bg, Bs, δ, h1, h2⟩ => ⟨ds.length - (i + 1), by omega, ad, bg, Bs, δ, rfl, hlt, h1, h2⟩, fun x B y => ?_⟩
      obtain ⟨d, ed, hd⟩ := yld i x B hlt y
      have item : ∃ Bs, EnvOk X.K (en.near Hs1) ad bg Bs B σ δ ∧ Rp X.K Bs x d := by
        rcases hd with ⟨rfl, r⟩ | ⟨p, xs, es, hp, rfl, r, rfl, rfl⟩
        · exact ⟨As, EA, r⟩
        · obtain ⟨E', s', _⟩ := EA.addS (o := .tup xs) hp
          exact ⟨_, E', .tup upd_same (r.mono s'.sh)⟩
      obtain ⟨Bs, EB, rx⟩ := item
      refine ⟨en.near Hs1, ad, bg, Bs, δ, .sh d, _, EB, rx, turn i d δ ed pA, fun σ2 δ2 ad2 E2 _ q2 => ⟨en.near Hs1, ad2, bg, Bs, δ2, _, E2, q2, ?_⟩⟩
      exact ⟨fun ad bg Hs δ σ H E q => ⟨ad, bg, Hs, δ, E, q⟩, fun ad bg Hs δ σ H E q => k.nx _ _ _ _ _ _ (E1.far E) q, fun ad bg Hs δ σ H E q => ⟨ad, bg, Hs, δ, E, q⟩,
        fun ad bg Hs δ σ H v d E r q => k.rt _ _ _ _ _ _ _ _ (E1.far E) r q, fun cls d x ad bg Hs δ σ H E xr q => k.ex _ _ _ _ _ _ _ _ _ (E1.far E) xr q⟩
    · have ei : i = ds.length := by omega
      subst ei
      exact .inl ⟨stop _ (Nat.le_refl _), k.nx _ _ _ _ _ _ (E1.far EA) (fin δ pA)⟩, k.kx ad bg σ δ⟩
end
end DL

/-! DL12: defs: what they promise, by data; calls. -/
namespace DL
open PySem PySem.Spec PyProof.Rows L2

/-! ### a def where nothing is being shown -/
structure FnG (P : Program) (w : World) (K : Fg) (mg : Str → Option Value) (base : Heap) (k : Nat) (f : Addr) (fd : FuncData) (ps : List Str) (sp : Sp) : Prop where
  len : ∀ vs H Q E, sp vs H Q E → vs.length = ps.length
  run : ∀ (A : Around) (outer : List Env) (s : Shared) (H : Hp) (args : Args) (us : List Value) (vs : List V) (Q : VK) (E : XK), A.guards = some [] → Room k A → Env0 P w K mg base A outer s H → BindsTo s fd args (ps.zip us) → Vals vs us → sp vs H Q E →
    codeAny (model P w) A (.call (.ref f) args) (CR (L2.CX P w) outer P w H s Q E) s
section
variable {P : Program} {w : World} {K : Fg} {mg : Str → Option Value} {base : Heap}
theorem FnG.mono {j k : Nat} {f : Addr} {fd : FuncData} {ps : List Str} {sp : Sp} (F : FnG P w K mg base j f fd ps sp) (h : j ≤ k) : FnG P w K mg base k f fd ps sp :=
  ⟨F.len, fun A outer s H args us vs Q E g r => F.run A outer s H args us vs Q E g (r.mono h)⟩
theorem FnG.of {x : Str} {st : Stmt} {f : Addr} {fd : FuncData} {N ps : List Str} {k : Nat} {sp : Sp} (F : Fun K x x st f fd) (S : FnScope N ps (defScope st)) (len : ∀ vs H Q E, sp vs H Q E → vs.length = ps.length)
    (body : ∀ (cdv : Value) (A : Around) (outer : List Env) (s : Shared) (H : Hp) (vs : List V) (Q : VK) (E : XK), A.guards = some [] → Room k (A.deeper (envOfC x (defScope st) s.heap.objs.size f cdv)) → sp vs H Q E →
      ∃ t, PSs (cxOf (L2.CX P w) P w K mg base N x (defScope st) f cdv A outer s H E) (defBody st) t ∧ t { nx := fun _ H' => Q .non H', rt := Q } (start N vs) H) : FnG P w K mg base (k + 1) f fd ps sp := by
  obtain ⟨oc, od, kV, doc, pm, an, cdv, ct, osl, rfl, lk, hcd⟩ := F.ex
  refine ⟨len, fun A outer s H args us vs Q E hgd room env0 bound rel hsp => ?_⟩
  have same := len _ _ _ _ hsp
  have inK : K.In s.heap := env0.mod.kin.keeps fun b o e => (env0.bs b o e).1
  have noLim : s.heap.NoLimit := env0.mod.nolimit.keeps fun b o e => (env0.bs b o e).1
  refine codeAny_call_function room.depth (inK _ _ lk) rfl S.co S.gen rfl (PySem.W.codeRec_of inK hcd) (bound _ _ _ _ ?_)
  refine wpAny_newFunctionEnv_cells S.kind (fun ⟨n, v⟩ hy => ?_) fun env isEnv s1 ent => ?_
  · rcases S.par n (List.of_mem_zip hy).1 with q | q
    · exact .inl q
    · exact .inr ⟨q, PySem.W.cellsFrom_some _ _ _ (.inl q)⟩
  subst isEnv
  refine ⟨noLim.keeps ent.toInCall.keep, codeAny_func ?_⟩
  obtain ⟨t, run, goal⟩ := body cdv A outer s H vs Q E hgd (room.deeper _) hsp
  have J := inv_start (CX := L2.CX P w) (E := E) S room.hd env0 same rel ent
  refine wpAny_mono (run.run [] s1 (start N vs) H _ J goal) (fun fl s' ends => ?_) fun e s' ends => ends
  have done : ∀ {σ' : Sg} {H' : Hp} {v : V} {u : Value}, L2.Inv (cxOf (L2.CX P w) P w K mg base N x (defScope st) f cdv A outer s H E) [] σ' H' s' → RelV v u → Q v H' → CE outer P w H s Q u s' :=
    fun {σ' H' v u} L rv q => ⟨v, H', L.os, L.bare, L.base, L.hok, rv, q⟩
  cases fl with
  | ret u => obtain ⟨v, σ', H', L, rv, q⟩ := ends; exact done L rv q
  | next => obtain ⟨σ', H', L, q⟩ := ends; exact done (v := V.non) (u := Value.none) L rfl q
  | brk => obtain ⟨_, _, _, q⟩ := ends; exact q.elim
  | cont => obtain ⟨_, _, _, q⟩ := ends; exact q.elim
end
section
variable {X : Cx} {W : WX} {k : Nat} {f : Addr} {fd : FuncData} {ps ks : List Str} {sp : Sp} {x : Str} {p pos : Pos} {e : Expr} {es : List Expr} {t tk : TA} {kws : List Keyword}
theorem run_G {pins : List (Addr × Obj)} {σ : Sg} {H : Hp} {s : Shared} {Q : VK} {args : Args} {us : List Value} {vs : List V} (F : FnG X.prog X.w X.K X.mg X.base k f fd ps sp) (hgd : X.A.guards = some []) (hr : Room k X.A) (tk : Takes X W)
    (hb : us.length = ps.length → BindsTo s fd args (ps.zip us)) (I : L2.Inv X pins σ H s) (r : Vals vs us) (h : sp vs H Q (fun cls d H => W cls d σ H)) : wpAny (model X.prog X.w) X.A (call (.ref f) args.pos args.kw) (EP X pins σ Q) X.xe s := by
  have hl : us.length = ps.length := by rw [← r.length]; exact F.len _ _ _ _ h
  refine wpAny_call (codeAny_mono (F.run X.A X.stack s H args us vs Q _ hgd hr I.env0 (hb hl) r h) fun fin s' hq => ?_)
  cases fin with
  | error ex => exact passAt tk σ pins H s ex s' I hq
  | ok fl =>
    cases fl with
    | ret u => exact I.after hq
    | next => exact hq.elim
    | brk => exact hq.elim
    | cont => exact hq.elim
def tG (W : WX) (sp : Sp) (t : TA) : TE := fun σ H Q => t σ H fun vs H1 => sp vs H1 Q fun cls d H => W cls d σ H
theorem pe_G (F : FnG X.prog X.w X.K X.mg X.base k f fd ps sp) (hgd : X.A.guards = some []) (hr : Room k X.A) (tk : Takes X W) (hm : X.mg x = some (.ref f)) (hk : PySem.W.keepIn X.K (.ref f) = true) (hb : Binds X.K fd ps []) (ha : PA X (e :: es) t)
    (hg : Gl X x) (hdb : (x == ("__debug__" : Str)) = false) (he : starEach (e :: es) X.env = (false, eval e X.env) :: starEach es X.env) (hpl : (backTo pos (starEach es X.env)).any (·.1) = false) : PE X (.Call (.Name x p) (e :: es) [] pos) (tG W sp t) := by
  refine ⟨fun pins s σ H Q I h => wpAny_Call_Name_kw (ld_glob I hg hm ?_ hdb)⟩
  refine PySem.W.callWith_K (h₀ := X.base) I.ok.mod.kin hk (thn (ha.run pos pins s σ H _ I h) fun us s1 ⟨vs, H1, J, r, q⟩ => ⟨J.kIn, ?_⟩) he hpl
  refine run_G (args := ⟨us, []⟩) F hgd hr tk (fun hl => ?_) J r q
  have b := hb s1 us J.kIn (by rw [List.append_nil]; exact hl)
  rwa [List.append_nil] at b
theorem pe_G0 (F : FnG X.prog X.w X.K X.mg X.base k f fd ps sp) (hgd : X.A.guards = some []) (hr : Room k X.A) (tk : Takes X W) (hm : X.mg x = some (.ref f)) (hk : PySem.W.keepIn X.K (.ref f) = true) (hb : Binds X.K fd ps []) (hg : Gl X x) (hdb : (x == ("__debug__" : Str)) = false) :
    PE X (.Call (.Name x p) [] [] pos) (tG W sp tNil) := by
  refine ⟨fun pins s σ H Q I h => wpAny_Call_Name_kw (ld_glob I hg hm ?_ hdb)⟩
  refine PySem.W.callWith_K0 I.kIn hk (run_G (args := ⟨[], []⟩) F hgd hr tk (fun hl => ?_) I .nil h)
  have b := hb s [] I.kIn (by rw [List.append_nil]; exact hl)
  rwa [List.append_nil] at b
/-- keywords alone, or behind positional values: how they stand in the parameters' order -/
structure KB (K : Fg) (fd : FuncData) (ps ks : List Str) (ix : List Nat) : Prop where
  to : ∀ (s : Shared) (us ws : List Value), K.In s.heap → (us ++ ws).length = ix.length → ks.length = ws.length → BindsTo s fd ⟨us, ks.zip ws⟩ (ps.zip (ix.filterMap fun i => (us ++ ws)[i]?))
theorem Vals.pick {vs : List V} {us : List Value} (r : Vals vs us) : ∀ ix : List Nat, Vals (ix.filterMap fun i => vs[i]?) (ix.filterMap fun i => us[i]?)
  | [] => .nil
  | i :: ix => by
    cases h : vs[i]? with
    | none =>
      have h2 := r.none_of h
      rw [List.filterMap_cons_none h, List.filterMap_cons_none h2]
      exact Vals.pick r ix
    | some v =>
      obtain ⟨u, h2, h3⟩ := r.get h
      rw [List.filterMap_cons_some h, List.filterMap_cons_some h2]
      exact .cons h3 (Vals.pick r ix)
def tGK (W : WX) (sp : Sp) (ix : List Nat) (n : Nat) (t tk : TA) : TE := fun σ H Q => t σ H fun vs H1 => tk σ H1 fun zs H2 => ((vs ++ zs).length = ix.length ∧ zs.length = n) ∧ sp (ix.filterMap fun i => (vs ++ zs)[i]?) H2 Q fun cls d H => W cls d σ H
theorem pe_GK {kt : TA} {ix : List Nat} (F : FnG X.prog X.w X.K X.mg X.base k f fd ps sp) (hgd : X.A.guards = some []) (hr : Room k X.A) (tk : Takes X W) (hm : X.mg x = some (.ref f)) (hk : PySem.W.keepIn X.K (.ref f) = true) (hb : KB X.K fd ps ks ix)
    (ha : PA X (e :: es) t) (hkw : PK X kws kt) (hg : Gl X x) (hdb : (x == ("__debug__" : Str)) = false) (hall : (backToKw pos (keywordEach kws X.env)).all (·.1.isSome) = true) (hks : (backToKw pos (keywordEach kws X.env)).filterMap (·.1) = ks)
    (he : starEach (e :: es) X.env = (false, eval e X.env) :: starEach es X.env) (hpl : ((backTo pos (starEach (e :: es) X.env)).any (·.1) || (backToKw pos (keywordEach kws X.env)).any (·.1.isNone)) = false) :
    PE X (.Call (.Name x p) (e :: es) kws pos) (tGK W sp ix ks.length t kt) := by
  refine ⟨fun pins s σ H Q I h => wpAny_Call_Name_kw (ld_glob I hg hm ?_ hdb)⟩
  refine PySem.W.callWith_KW (h₀ := X.base) I.ok.mod.kin hk hall (thn (ha.run pos pins s σ H _ I h) fun us s1 ⟨vs, H1, J, r, q⟩ => thn (hkw.run pos pins s1 σ H1 _ J q) fun ws s2 ⟨zs, H2, L, rz, ⟨h1, h2⟩, q2⟩ => ⟨L.kIn, ?_⟩) hpl he
  have rr := r.append rz
  rw [hks]
  refine run_G (args := ⟨us, ks.zip ws⟩) F hgd hr tk (fun hl => ?_) L (Vals.pick rr ix) q2
  exact hb.to s2 us ws L.kIn (by rw [← rr.length]; exact h1) (by rw [← rz.length]; exact h2.symm)
theorem pe_GK0 {kt : TA} {ix : List Nat} (F : FnG X.prog X.w X.K X.mg X.base k f fd ps sp) (hgd : X.A.guards = some []) (hr : Room k X.A) (tk : Takes X W) (hm : X.mg x = some (.ref f)) (hk : PySem.W.keepIn X.K (.ref f) = true) (hb : KB X.K fd ps ks ix)
    (hkw : PK X kws kt) (hg : Gl X x) (hdb : (x == ("__debug__" : Str)) = false) (hall : (backToKw pos (keywordEach kws X.env)).all (·.1.isSome) = true) (hks : (backToKw pos (keywordEach kws X.env)).filterMap (·.1) = ks)
    (hpl : ((backTo pos (starEach [] X.env)).any (·.1) || (backToKw pos (keywordEach kws X.env)).any (·.1.isNone)) = false) :
    PE X (.Call (.Name x p) [] kws pos) (tGK W sp ix ks.length tNil kt) := by
  refine ⟨fun pins s σ H Q I h => wpAny_Call_Name_kw (ld_glob I hg hm ?_ hdb)⟩
  refine PySem.W.callWith_KW0 (h₀ := X.base) I.ok.mod.kin hk hall (thn (hkw.run pos pins s σ H _ I h) fun ws s2 ⟨zs, H2, L, rz, ⟨h1, h2⟩, q2⟩ => ⟨L.kIn, ?_⟩) hpl
  have rr : Vals ([] ++ zs) ([] ++ ws) := rz
  rw [hks]
  refine run_G (args := ⟨[], ks.zip ws⟩) F hgd hr tk (fun hl => ?_) L (Vals.pick rr ix) q2
  exact hb.to s2 [] ws L.kIn (by rw [← rr.length]; exact h1) (by rw [← rz.length]; exact h2.symm)
end

/-! ### what a def promises, by data -/
abbrev SpD := List D → (D → Prop) → (XD → Prop) → Prop
/-- a def that changes nothing that stood -/
def spP (K : Fg) (g : SpD) : Sp := fun vs H Q E => ∃ Hs ds QD ED, RpA K Hs vs ds ∧ Same Hs H ∧ g ds QD ED ∧ (∀ v d Hs' H', Step [] Hs H Hs' H' → Same Hs' H' → Rp K Hs' v d → QD d → Q v H') ∧
  ∀ cls dx x Hs' H', Step [] Hs H Hs' H' → Same Hs' H' → XRel K Hs' H' cls dx x → ED x → E cls dx H'
/-- a def that draws from the bag, its first parameter -/
def spB (K : Fg) (g : SpD) : Sp := fun vs H Q E => ∃ b c ws Hs ds QD ED, vs = .ref b :: ws ∧ b ≠ c ∧ BagAt H b c ∧ Hs b = none ∧ Hs c = none ∧ RpA K Hs ws ds ∧ Same Hs H ∧ g ds QD ED ∧
  (∀ v d Hs' H', Step [b, c] Hs H Hs' H' → Same Hs' H' → BagAt H' b c → Rp K Hs' v d → QD d → Q v H') ∧
  ∀ cls dx x Hs' H', Step [b, c] Hs H Hs' H' → Same Hs' H' → BagAt H' b c → XRel K Hs' H' cls dx x → ED x → E cls dx H'
theorem Step.weak {bg : List Addr} {A B A' B' : Hp} (s : Step [] A B A' B') : Step bg A B A' B' := ⟨s.sh, fun a o e _ => s.keep a o e (by simp), s.dom, s.new⟩
theorem Step.over {bg bg' : List Addr} {A B A' B' : Hp} (s : Step bg A B A' B') (h : ∀ a ∈ bg, a ∈ bg' ∨ B a = none) : Step bg' A B A' B' :=
  ⟨s.sh, fun a o e n => s.keep a o e (fun m => (h a m).elim n fun z => by rw [z] at e; cases e), s.dom, s.new⟩
section
variable {K : Fg} {en : En} {ad : Nat → Option Addr} {bg : List Addr} {Hs H Hs' H' : Hp} {σ : Sg} {δ : List Slot}
/-- the frame behind a call -/
theorem EnvOk.call (E : EnvOk K en ad bg Hs H σ δ) (s : Step bg Hs H Hs' H') (sub : Same Hs' H') (bok : bg = [] ∨ ∃ b c, bg = [b, c] ∧ b ≠ c ∧ BagAt H' b c) : EnvOk K en ad bg Hs' H' σ δ := by
  have tr : ∀ a, a ∈ bg → H a ≠ none := fun a h => by
    rcases E.bok with z | ⟨b, c, z, _, cells, x, m, e1, e2, _⟩
    · rw [z] at h; cases h
    · rw [z] at h
      simp at h
      rcases h with rfl | rfl
      · rw [e1]; simp
      · rw [e2]; simp
  refine ⟨E.len, ⟨E.st.sh.trans s.sh, fun a o e n => s.keep a o (E.st.keep a o e n) fun m => ?_, fun a h => s.dom a (E.st.dom a h), fun a h => ?_⟩, sub, fun j t h => ?_, E.inj, fun j a h => ⟨(E.out j a h).1, s.dom a (E.out j a h).2⟩, fun a h => ⟨?_, (E.bgs a h).2⟩, bok, E.bw⟩
  · rcases (E.bgs a m).2 with z | z
    · exact n z
    · rw [z] at e; cases e
  · rcases s.new a h with z | z
    · exact E.st.new a z
    · refine .inr ?_
      cases q : en.H0 a with
      | none => rfl
      | some o => exact absurd z (E.st.dom a (by rw [q]; simp))
  · have q := E.slot j t h
    cases t with
    | no => trivial
    | sh d => obtain ⟨v, e, r⟩ := q; exact ⟨v, e, r.mono s.sh⟩
    | ow d =>
      obtain ⟨a, e1, e2, e3, e4, o⟩ := q
      obtain ⟨x, hx⟩ := o.at
      refine ⟨a, e1, e2, ?_, e4, o.move s.sh fun y hy => s.keep _ _ hy (E.out j a e2).1⟩
      cases z : Hs' a with
      | none => rfl
      | some u =>
        rcases s.new a (by rw [z]; simp) with w | w
        · exact absurd e3 w
        · rw [hx] at w; cases w
    | bag => exact q
    | scr ns => obtain ⟨a, e1, e2⟩ := q; exact ⟨a, e1, e2.1.mono s.sh, e2.2⟩
  · cases z : Hs' a with
    | none => rfl
    | some u =>
      rcases s.new a (by rw [z]; simp) with w | w
      · exact absurd (E.bgs a h).1 w
      · exact absurd w (tr a h)
end
/-! ### calls, by data -/
def fCall (g : SpD) (f : FA) : FE := fun δ Q ED => f δ (fun ds => g ds (fun d => Q (.sh d)) ED) ED
def fCallB (i : Nat) (g : SpD) (f : FA) : FE := fun δ Q ED => δ[i]? = some .bag ∧ f δ (fun ds => g ds (fun d => Q (.sh d)) ED) ED
/-- keywords: the values in the order of the parameters -/
def fCallK (g : SpD) (ix : List Nat) (n : Nat) (f h : FA) : FE := fun δ Q ED => f δ (fun ds => h δ (fun es => ((ds ++ es).length = ix.length ∧ es.length = n) ∧ g (ix.filterMap fun i => (ds ++ es)[i]?) (fun d => Q (.sh d)) ED) ED) ED
section
variable {X : Cx} {W : WX} {k : Nat} {f : Addr} {fd : FuncData} {ps ks : List Str} {g : SpD} {x y : Str} {p p1 pos : Pos} {e : Expr} {es : List Expr} {t t2 : FA} {kws : List Keyword}
theorem call_imp {K : Fg} {en : En} {ad : Nat → Option Addr} {bg : List Addr} {Hs H : Hp} {σ : Sg} {δ : List Slot} {QD : Res → Prop} {ED : XD → Prop} {Q : VK} {vs : List V} {ds : List D} (E : EnvOk K en ad bg Hs H σ δ) (r : RpA K Hs vs ds)
    (q : g ds (fun d => QD (.sh d)) ED) (kk : Kont K en ad bg Hs H σ δ QD Q) (kx : KontX K W en ad bg σ δ ED) : spP K g vs H Q fun cls d H => W cls d σ H := by
  have bk : ∀ {Hs' H' : Hp}, Step [] Hs H Hs' H' → bg = [] ∨ ∃ b c, bg = [b, c] ∧ b ≠ c ∧ BagAt H' b c := fun {Hs' H'} s => by
    rcases E.bok with z | ⟨b, c, z, nc, cells, x, m, e1, e2, w⟩
    · exact .inl z
    · exact .inr ⟨b, c, z, nc, cells, x, m, s.keep _ _ e1 (by simp), s.keep _ _ e2 (by simp), w⟩
  refine ⟨Hs, ds, _, ED, r, E.sub, q, fun v d Hs' H' s sub rv qd => ?_, fun cls dx x Hs' H' s sub xr ex => ?_⟩
  · exact kk v (.sh d) Hs' H' (E.call s.weak sub (bk s)) s.weak rv trivial qd
  · exact kx cls dx x Hs' H' (E.call s.weak sub (bk s)) xr ex
theorem de_call (F : FnG X.prog X.w X.K X.mg X.base k f fd ps (spP X.K g)) (hgd : X.A.guards = some []) (hr : Room k X.A) (tk : Takes X W) (hm : X.mg x = some (.ref f)) (hk : PySem.W.keepIn X.K (.ref f) = true) (hb : Binds X.K fd ps []) (ha : DA X W (e :: es) t)
    (hg : Gl X x := by rfl) (hdb : (x == ("__debug__" : Str)) = false := by decide) (he : starEach (e :: es) X.env = (false, eval e X.env) :: starEach es X.env := by rfl) (hpl : (backTo pos (starEach es X.env)).any (·.1) = false := by rfl) :
    DE X W (.Call (.Name x p) (e :: es) [] pos) (fCall g t) :=
  peImp (pe_G (t := cA X.K W t) F hgd hr tk hm hk hb ha hg hdb he hpl) fun σ H Q ⟨en, ad, bg, Hs, δ, QD, ED, E, h, kk, kx⟩ => ⟨en, ad, bg, Hs, δ, _, ED, E, h, fun vs ds Hs1 H1 E1 s1 r1 q1 => call_imp E1 r1 q1 (kk.step s1) kx, kx⟩
theorem de_call0 (F : FnG X.prog X.w X.K X.mg X.base k f fd ps (spP X.K g)) (hgd : X.A.guards = some []) (hr : Room k X.A) (tk : Takes X W) (hm : X.mg x = some (.ref f)) (hk : PySem.W.keepIn X.K (.ref f) = true) (hb : Binds X.K fd ps [])
    (hg : Gl X x := by rfl) (hdb : (x == ("__debug__" : Str)) = false := by decide) : DE X W (.Call (.Name x p) [] [] pos) (fCall g fNil) :=
  peImp (pe_G0 F hgd hr tk hm hk hb hg hdb) fun σ H Q ⟨en, ad, bg, Hs, δ, QD, ED, E, h, kk, kx⟩ => call_imp E .nil h kk kx
/-- a call that hands on the bag -/
theorem de_callBag (i : Nat) (F : FnG X.prog X.w X.K X.mg X.base k f fd ps (spB X.K g)) (hgd : X.A.guards = some []) (hr : Room k X.A) (tk : Takes X W) (hm : X.mg x = some (.ref f)) (hk : PySem.W.keepIn X.K (.ref f) = true) (hb : Binds X.K fd ps []) (ha : DA X W es t)
    (hN : X.N[i]? = some y := by rfl) (hv : Vis X.env.scope y := by first | exact Or.inl rfl | exact Or.inr (Or.inl rfl) | exact Or.inr (Or.inr rfl)) (hd : (y == ("__debug__" : Str)) = false := by decide) (hcd : (y == ("__classdict__" : Str)) = false := by decide)
    (hg : Gl X x := by rfl) (hdb : (x == ("__debug__" : Str)) = false := by decide) (he : starEach (.Name y p1 :: es) X.env = (false, eval (.Name y p1) X.env) :: starEach es X.env := by rfl) (hpl : (backTo pos (starEach es X.env)).any (·.1) = false := by rfl) :
    DE X W (.Call (.Name x p) (.Name y p1 :: es) [] pos) (fCallB i g t) :=
  peImp (pe_G (t := tCons (tVar i) (cA X.K W t)) F hgd hr tk hm hk hb (pa_cons (pe_var hN hv hd hcd) ha he) hg hdb he hpl) fun σ H Q ⟨en, ad, bg, Hs, δ, QD, ED, E, ⟨hi, h⟩, kk, kx⟩ => by
    obtain ⟨b, c, e1, e2⟩ := E.slot i _ hi
    refine ⟨.ref b, e1, en, ad, bg, Hs, δ, _, ED, E, h, fun vs ds Hs1 H1 E1 s1 r1 q1 => ?_, kx⟩
    subst e2
    rcases E1.bok with z | ⟨b', c', z, nc, w⟩
    · cases z
    · cases z
      refine ⟨b, c, vs, Hs1, ds, _, ED, rfl, nc, w, (E1.bgs b (by simp)).1, (E1.bgs c (by simp)).1, r1, E1.sub, q1, fun v d Hs' H' s sub w' rv qd => ?_, fun cls dx x Hs' H' s sub w' xr ex => ?_⟩
      · exact (kk.step s1) v (.sh d) Hs' H' (E1.call s sub (.inr ⟨b, c, rfl, nc, w'⟩)) s rv trivial qd
      · exact kx cls dx x Hs' H' (E1.call s sub (.inr ⟨b, c, rfl, nc, w'⟩)) xr ex
/-- keywords' values -/
def DK (X : Cx) (W : WX) (kws : List Keyword) (f : FA) : Prop := PK X kws (cA X.K W f)
theorem pkImp {X : Cx} {e : List Keyword} {t t' : TA} (h : PK X e t) (i : ∀ σ H Q, t' σ H Q → t σ H Q) : PK X e t' := ⟨fun ps p s σ H Q I q => h.run ps p s σ H Q I (i σ H Q q)⟩
theorem dk_nil : DK X W [] fNil := pkImp pk_nil fun σ H Q ⟨en, ad, bg, Hs, δ, QD, ED, E, h, k, kx⟩ => k [] [] Hs H E (.refl _ _ _) .nil h
theorem dk_cons {fa : FE} {h : FA} {nm : Option Str} {kpos : Pos} (ha : DE X W e fa) (hr : DK X W kws h) : DK X W (⟨nm, e, kpos⟩ :: kws) (fCons fa h) :=
  pkImp (pk_cons ha hr) fun σ H Q ⟨en, ad, bg, Hs, δ, QD, ED, E, h, k, kx⟩ => cE_seq E h (fun v r Hs1 H1 E1 s1 R1 b1 q1 => by
    obtain ⟨Hs', E', s', R', S, q⟩ := E1.stab s1 R1 b1 q1
    exact ⟨en, ad, bg, Hs', δ, _, ED, E', q, fun vs ds Hs2 H2 E2 s2 r2 q2 => k _ _ _ _ E2 (s'.trans s2) (.cons (R'.mono s2.sh) r2) q2, kx⟩) kx
theorem RpA.pick {K : Fg} {H : Hp} {vs : List V} {ds : List D} (r : RpA K H vs ds) : ∀ ix : List Nat, RpA K H (ix.filterMap fun i => vs[i]?) (ix.filterMap fun i => ds[i]?)
  | [] => .nil
  | i :: ix => by
    cases h : ds[i]? with
    | none =>
      have h2 : vs[i]? = none := by
        rw [List.getElem?_eq_none_iff] at h ⊢
        rw [r.length]; exact h
      rw [List.filterMap_cons_none h, List.filterMap_cons_none h2]
      exact RpA.pick r ix
    | some d =>
      obtain ⟨v, h2, h3⟩ := r.get h
      rw [List.filterMap_cons_some h, List.filterMap_cons_some h2]
      exact .cons h3 (RpA.pick r ix)
theorem de_callK0 {ix : List Nat} {n : Nat} (F : FnG X.prog X.w X.K X.mg X.base k f fd ps (spP X.K g)) (hgd : X.A.guards = some []) (hr : Room k X.A) (tk : Takes X W) (hm : X.mg x = some (.ref f)) (hk : PySem.W.keepIn X.K (.ref f) = true) (hb : KB X.K fd ps ks ix) (hkw : DK X W kws t)
    (hg : Gl X x := by rfl) (hdb : (x == ("__debug__" : Str)) = false := by decide) (hall : (backToKw pos (keywordEach kws X.env)).all (·.1.isSome) = true := by rfl) (hks : (backToKw pos (keywordEach kws X.env)).filterMap (·.1) = ks := by rfl)
    (hpl : ((backTo pos (starEach [] X.env)).any (·.1) || (backToKw pos (keywordEach kws X.env)).any (·.1.isNone)) = false := by rfl) (hn : ks.length = n := by rfl) : DE X W (.Call (.Name x p) [] kws pos) (fCallK g ix n fNil t) := by
  subst hn
  exact peImp (pe_GK0 (kt := cA X.K W t) F hgd hr tk hm hk hb hkw hg hdb hall hks hpl) fun σ H Q ⟨en, ad, bg, Hs, δ, QD, ED, E, h, kk, kx⟩ => ⟨en, ad, bg, Hs, δ, _, ED, E, h, fun vs ds Hs1 H1 E1 s1 r1 q1 => by
    obtain ⟨⟨h1, h2⟩, q1⟩ := q1
    have h1 : ds.length = ix.length := h1
    exact ⟨⟨by show vs.length = _; rw [r1.length]; exact h1, by rw [r1.length]; exact h2⟩, call_imp E1 (r1.pick ix) q1 (kk.step s1) kx⟩, kx⟩
theorem de_callK {ix : List Nat} {n : Nat} (F : FnG X.prog X.w X.K X.mg X.base k f fd ps (spP X.K g)) (hgd : X.A.guards = some []) (hr : Room k X.A) (tk : Takes X W) (hm : X.mg x = some (.ref f)) (hk : PySem.W.keepIn X.K (.ref f) = true) (hb : KB X.K fd ps ks ix) (ha : DA X W (e :: es) t2) (hkw : DK X W kws t)
    (hg : Gl X x := by rfl) (hdb : (x == ("__debug__" : Str)) = false := by decide) (hall : (backToKw pos (keywordEach kws X.env)).all (·.1.isSome) = true := by rfl) (hks : (backToKw pos (keywordEach kws X.env)).filterMap (·.1) = ks := by rfl)
    (he : starEach (e :: es) X.env = (false, eval e X.env) :: starEach es X.env := by rfl) (hpl : ((backTo pos (starEach (e :: es) X.env)).any (·.1) || (backToKw pos (keywordEach kws X.env)).any (·.1.isNone)) = false := by rfl) :
    DE X W (.Call (.Name x p) (e :: es) kws pos) (fCallK g ix ks.length t2 t) :=
  peImp (pe_GK (t := cA X.K W t2) (kt := cA X.K W t) F hgd hr tk hm hk hb ha hkw hg hdb hall hks he hpl) fun σ H Q ⟨en, ad, bg, Hs, δ, QD, ED, E, h, kk, kx⟩ => ⟨en, ad, bg, Hs, δ, _, ED, E, h, fun vs ds Hs1 H1 E1 s1 r1 q1 =>
    ⟨en, ad, bg, Hs1, δ, _, ED, E1, q1, fun ws es' Hs2 H2 E2 s2 r2 q2 => by
      obtain ⟨⟨h1, h2⟩, q2⟩ := q2
      have rr := (r1.mono s2.sh).append r2
      exact ⟨⟨by rw [rr.length]; exact h1, by rw [r2.length]; exact h2⟩, call_imp E2 (rr.pick ix) q2 ((kk.step s1).step s2) kx⟩, kx⟩, kx⟩
end
end DL

/-! DL13: several values to several names. -/
namespace DL
open PySem PySem.Spec PyProof.Rows L2
/-! ### values that may be fresh, one beside the other -/
/-- what is left of a value's claim when other names are stored -/
def Hold (K : Fg) (en : En) (bg : List Addr) (Hs H : Hp) (v : V) : Res → Prop
  | .sh d => Rp K Hs v d
  | .fr d => ∃ a, v = .ref a ∧ Hs a = none ∧ en.H0 a = none ∧ a ∉ bg ∧ OwnO K Hs H a d
  | .br _ _ => True
/-- fresh things, all apart, none owned by a slot -/
inductive Holds (K : Fg) (en : En) (ad : Nat → Option Addr) (bg : List Addr) (Hs H : Hp) : List V → List Res → Prop
  | nil : Holds K en ad bg Hs H [] []
  | cons {v vs r rs} : Hold K en bg Hs H v r → (∀ d, r = .fr d → (∀ j a, v = .ref a → ad j ≠ some a) ∧ ∀ w t e, (w, t) ∈ vs.zip rs → t = .fr e → w ≠ v) → Holds K en ad bg Hs H vs rs → Holds K en ad bg Hs H (v :: vs) (r :: rs)
theorem VRel.hold {K : Fg} {en ad bg Hs H} {σ : Sg} {δ v r} (h : VRel K en ad bg Hs H σ δ v r) : Hold K en bg Hs H v r := by
  cases r with
  | sh d => exact h
  | fr d => obtain ⟨a, e, h1, h2, h3, h4, h5⟩ := h; exact ⟨a, e, h1, h2, h3, h5⟩
  | br i d => trivial
def KontH (K : Fg) (en : En) (ad : Nat → Option Addr) (bg : List Addr) (Hs H : Hp) (σ : Sg) (δ : List Slot) (QD : List Res → Prop) (Q : List V → Hp → Prop) : Prop :=
  ∀ vs rs Hs' H', EnvOk K en ad bg Hs' H' σ δ → Step bg Hs H Hs' H' → Holds K en ad bg Hs' H' vs rs → (∀ w t e, (w, t) ∈ vs.zip rs → t = .fr e → ∃ a, w = .ref a ∧ H a = none) → QD rs → Q vs H'
def cH (K : Fg) (W : WX) (f : FR) : TA := fun σ H Q => ∃ en ad bg Hs δ QD ED, EnvOk K en ad bg Hs H σ δ ∧ f δ QD ED ∧ KontH K en ad bg Hs H σ δ QD Q ∧ KontX K W en ad bg σ δ ED
def DH (X : Cx) (W : WX) (es : List Expr) (f : FR) : Prop := PA X es (cH X.K W f)
section
variable {X : Cx} {W : WX} {a b c : Expr} {fa fb fc : FE} {pos p : Pos} {es : List Expr} {g : FR}
theorem dh_nil : DH X W [] rNil := paImp pa_nil fun σ H Q ⟨en, ad, bg, Hs, δ, QD, ED, E, h, k, kx⟩ => k [] [] Hs H E (.refl _ _ _) .nil (fun w t e m => by simp at m) h
theorem dh_cons (ha : DE X W a fa) (hr : DH X W es g) (hs : starEach (a :: es) X.env = (false, eval a X.env) :: starEach es X.env := by rfl) : DH X W (a :: es) (rCons fa g) :=
  paImp (pa_cons ha hr hs) fun σ H Q ⟨en, ad, bg, Hs, δ, QD, ED, E, h, k, kx⟩ => cE_seq E h (fun v r Hs1 H1 E1 s1 R1 b1 q1 =>
    ⟨en, ad, bg, Hs1, δ, _, ED, E1, q1, fun vs rs Hs2 H2 E2 s2 r2 born q2 => k _ _ _ _ E2 (s1.trans s2) (.cons (R1.step s2).hold (fun d hd => by
      subst hd
      obtain ⟨q, rfl, h1, h2, h3, h4, o⟩ := R1
      obtain ⟨x, hx⟩ := o.at
      refine ⟨fun j q' e => by cases e; exact h4 j, fun w t e m ht z => ?_⟩
      obtain ⟨q', e', n⟩ := born w t e m ht
      rw [z] at e'
      cases e'
      rw [hx] at n
      cases n) r2) (fun w t e m ht => by
      rcases List.mem_cons.mp m with z | z
      · cases z
        subst ht
        exact b1
      · obtain ⟨q, e', n⟩ := born w t e z ht
        refine ⟨q, e', ?_⟩
        cases u : H q with
        | none => rfl
        | some o => exact absurd n (s1.dom q (by rw [u]; simp))) q2, kx⟩) kx
end
/-- the names in order -/
def parW : List Nat → List Res → List Slot → (List Slot → Prop) → Prop
  | [], [], δ, Q => Q δ
  | i :: is, r :: rs, δ, Q => tgName i r δ fun δ' => parW is rs δ' Q
  | _, _, _, _ => False
def setAll : List Nat → List V → Sg → Sg
  | i :: is, v :: vs, σ => setAll is vs (σ.set i (some v))
  | _, _, σ => σ
theorem par_run {K : Fg} {en : En} {bg : List Addr} {Hs H : Hp} {Q : List Slot → Prop} : ∀ {is : List Nat} {vs : List V} {rs : List Res} {ad : Nat → Option Addr} {σ : Sg} {δ : List Slot}, EnvOk K en ad bg Hs H σ δ → Holds K en ad bg Hs H vs rs → parW is rs δ Q →
    ∃ ad' δ', EnvOk K en ad' bg Hs H (setAll is vs σ) δ' ∧ Q δ' ∧ vs.length = is.length := by
  intro is
  induction is with
  | nil =>
    intro vs rs ad σ δ E h q
    cases h with
    | nil => exact ⟨ad, δ, E, q, rfl⟩
    | cons h1 h2 h3 => exact q.elim
  | cons i is ih =>
    intro vs rs ad σ δ E h q
    cases h with
    | nil => exact q.elim
    | @cons v vs r rs h1 h2 h3 =>
      obtain ⟨hl, q⟩ := q
      cases r with
      | sh d =>
        have E' := E.setS i hl h1
        have h3' : Holds K en (setAd ad i none) bg Hs H vs rs := by
          clear q
          induction h3 with
          | nil => exact .nil
          | cons g1 g2 g3 ih =>
            refine .cons g1 (fun d e => ⟨fun j a z w => ?_, (g2 d e).2⟩) (ih (fun d e => by cases e))
            unfold setAd at w
            split at w
            · cases w
            · exact (g2 d e).1 j a z w
        obtain ⟨ad', δ', r1, r2, r3⟩ := ih E' h3' q
        exact ⟨ad', δ', r1, r2, by simp [r3]⟩
      | fr d =>
        obtain ⟨a, rfl, k1, k2, k3, k4⟩ := h1
        obtain ⟨n1, n2⟩ := h2 d rfl
        obtain ⟨x, hx⟩ := k4.at
        have il : i < δ.length := hl
        -- the slot takes it
        have E' : EnvOk K en (setAd ad i (some a)) bg Hs H (σ.set i (some (.ref a))) (δ.set i (.ow d)) := by
          have na : ∀ j, ad j ≠ some a := fun j => n1 j a rfl
          refine ⟨by rw [List.length_set, List.length_set, E.len], E.st, E.sub, fun j s h => ?_, fun j l c g1 g2 => ?_, fun j c h => ?_, E.bgs, E.bok, E.bw⟩
          · by_cases e : i = j
            · subst e
              rw [List.getElem?_set_self il] at h
              cases h
              exact ⟨a, by rw [List.getElem?_set_self (by rw [E.len]; exact il)], setAd_same, k1, k2, k4⟩
            · rw [List.getElem?_set_ne e] at h ⊢
              have z := E.slot j s h
              cases s with
              | ow d' => obtain ⟨c, e1, e2, e3⟩ := z; exact ⟨c, e1, by rw [setAd_ne e]; exact e2, e3⟩
              | _ => exact z
          · unfold setAd at g1 g2
            split at g1
            · rename_i z1
              split at g2
              · rename_i z2; rw [z1, z2]
              · cases g1; exact absurd g2 (na l)
            · split at g2
              · cases g2; exact absurd g1 (na j)
              · exact E.inj j l c g1 g2
          · unfold setAd at h
            split at h
            · cases h; exact ⟨k3, by rw [hx]; simp⟩
            · exact E.out j c h
        have h3' : Holds K en (setAd ad i (some a)) bg Hs H vs rs := by
          clear q h2
          have n2' := n2
          clear n2
          induction h3 with
          | nil => exact .nil
          | @cons w ws t ts g1 g2 g3 ih =>
            refine .cons g1 (fun e he => ⟨fun j c z y => ?_, (g2 e he).2⟩) (ih fun w' t' e' m => n2' w' t' e' (List.mem_cons_of_mem _ m))
            unfold setAd at y
            split at y
            · cases y
              exact n2' w t e (by simp) he z
            · exact (g2 e he).1 j c z y
        obtain ⟨ad', δ', r1, r2, r3⟩ := ih E' h3' q
        exact ⟨ad', δ', r1, r2, by simp [r3]⟩
      | br j d => exact q.elim
theorem Holds.move {K : Fg} {en : En} {ad : Nat → Option Addr} {bg : List Addr} {Hs H H' : Hp} {vs : List V} {rs : List Res} (h : Holds K en ad bg Hs H vs rs) (k : ∀ q o, H q = some o → H' q = some o) : Holds K en ad bg Hs H' vs rs := by
  induction h with
  | nil => exact .nil
  | @cons v vs r rs g1 g2 g3 ih =>
    refine .cons ?_ g2 ih
    cases r with
    | sh d => exact g1
    | br i d => trivial
    | fr d =>
      obtain ⟨q, z1, z2, z3, z4, z5⟩ := g1
      exact ⟨q, z1, z2, z3, z4, z5.move (Same.refl _) fun o ho => k q o ho⟩
/-- x, y = e, e' -/
def fPar (is : List Nat) (f : FR) : FS := fun Z δ => f δ (fun rs => parW is rs δ Z.nx) fun x => Z.ex x δ
section
variable {X : Cx} {W : WX} {a b c : Expr} {pos p : Pos} {es : List Expr} {g : FR}
theorem ds_par2 (i j : Nat) {x y : Str} {px py pt : Pos} {kt k2 pt2} (hc : X.calm = true) (hN : X.N.Nodup) (ha : DH X W [a, b] g) (hij : i ≠ j := by decide) (hi : X.N[i]? = some x := by rfl) (hj : X.N[j]? = some y := by rfl)
    (hx : X.env.scope.names.lookup x = some .local := by rfl) (hy : X.env.scope.names.lookup y = some .local := by rfl)
    (hw : swappedStores [.Tuple [.Name x px, .Name y py] kt pt] (.Tuple [a, b] k2 pt2) X.env = pure (some [x, y]) := by rfl)
    (hs : swapsWithSole [.Tuple [.Name x px, .Name y py] kt pt] (.Tuple [a, b] k2 pt2) pos.line X.env = pure false := by rfl) :
    DS X W (.Assign [.Tuple [.Name x px, .Name y py] kt pt] (.Tuple [a, b] k2 pt2) pos) (fPar [i, j] g) :=
  psImp (ps_par (ta := cH X.K W g) hc hN hi hj hij hx hy ha hw hs) fun Z σ H ⟨en, ad, bg, Hs, δ, DD, E, h, k⟩ => ⟨en, ad, bg, Hs, δ, _, _, E, h, fun vs rs Hs1 H1 E1 s1 hh _ q1 => by
    obtain ⟨ad', δ', E', q, hl⟩ := par_run E1 hh q1
    match vs, hl with
    | [v, w], _ => exact ⟨v, w, rfl, k.nx _ _ _ _ _ _ E' q⟩, k.kx ad bg σ δ⟩
theorem ds_par3 (i j l : Nat) {x y z : Str} {px py pz pt : Pos} {kt k2 pt2} (hc : X.calm = true) (hN : X.N.Nodup) (ha : DH X W [a, b, c] g) (hij : i ≠ j := by decide) (hil : i ≠ l := by decide) (hjl : j ≠ l := by decide) (hi : X.N[i]? = some x := by rfl) (hj : X.N[j]? = some y := by rfl) (hl : X.N[l]? = some z := by rfl)
    (hx : X.env.scope.names.lookup x = some .local := by rfl) (hy : X.env.scope.names.lookup y = some .local := by rfl) (hz : X.env.scope.names.lookup z = some .local := by rfl)
    (hw : swappedStores [.Tuple [.Name x px, .Name y py, .Name z pz] kt pt] (.Tuple [a, b, c] k2 pt2) X.env = pure (some [x, y, z]) := by rfl)
    (hs : swapsWithSole [.Tuple [.Name x px, .Name y py, .Name z pz] kt pt] (.Tuple [a, b, c] k2 pt2) pos.line X.env = pure false := by rfl) :
    DS X W (.Assign [.Tuple [.Name x px, .Name y py, .Name z pz] kt pt] (.Tuple [a, b, c] k2 pt2) pos) (fPar [i, j, l] g) :=
  psImp (ps_par3 (ta := cH X.K W g) hc hN hi hj hl hij hil hjl hx hy hz ha hw hs) fun Z σ H ⟨en, ad, bg, Hs, δ, DD, E, h, k⟩ => ⟨en, ad, bg, Hs, δ, _, _, E, h, fun vs rs Hs1 H1 E1 s1 hh _ q1 => by
    obtain ⟨ad', δ', E', q, hlen⟩ := par_run E1 hh q1
    match vs, hlen with
    | [u, v, w], _ => exact ⟨u, v, w, rfl, k.nx _ _ _ _ _ _ E' q⟩, k.kx ad bg σ δ⟩
/-- the places of names -/
inductive Nms (X : Cx) : List Expr → List Nat → TGs → Prop
  | nil : Nms X [] [] gNil
  | cons {i : Nat} {x : Str} {p : Pos} {es is t} : PG X (.Name x p) (gName i) → Nms X es is t → Nms X (.Name x p :: es) (i :: is) (gCons (gName i) t)
theorem set_run {X : Cx} : ∀ {es : List Expr} {is : List Nat} {t : TGs} {vs : List V} {σ : Sg} {H : Hp} {Q : Sg → Hp → Prop}, Nms X es is t → vs.length = is.length → Q (setAll is vs σ) H → t vs σ H Q
  | _, _, _, [], _, _, _, .nil, _, q => ⟨rfl, q⟩
  | _, _, _, v :: vs, σ, H, Q, .cons (is := is) _ n, hl, q => ⟨v, vs, rfl, set_run n (by simpa using hl) q⟩
  | _, _, _, [], _, _, _, .cons _ _, hl, _ => by simp at hl
/-- the same by way of a tuple -/
theorem ds_parT {ts : List Expr} {is : List Nat} {t : TGs} {kt k2 : Nat} {pt pt2 : Pos} {n : Nat} (hc : X.calm = true) (ha : DH X W es g) (hn : Nms X ts is t) (hg : PGs X ts t) (hlen : is.length = n) (hz : n ≤ 1000) (hn1 : (assignEach ts X.env).length = n := by rfl) (hst : (assignEach ts X.env).findIdx? (·.1) = none := by rfl)
    (hs : swapsWithSole [.Tuple ts kt pt] (.Tuple es k2 pt2) pos.line X.env = pure false := by rfl) (hw : swappedStores [.Tuple ts kt pt] (.Tuple es k2 pt2) X.env = pure none := by rfl)
    (h1 : (assignEach [Expr.Tuple ts kt pt] X.env).map (·.2) = [assign (.Tuple ts kt pt) X.env] := by rfl) : DS X W (.Assign [.Tuple ts kt pt] (.Tuple es k2 pt2) pos) (fPar is g) :=
  psImp (ps_asg (pe_tup (t := cH X.K W g) ha) (pg_tup hc hg hn1 hst) hs hw h1) fun Z σ H ⟨en, ad, bg, Hs, δ, DD, E, h, k⟩ => ⟨en, ad, bg, Hs, δ, _, _, E, h, fun vs rs Hs1 H1 E1 s1 hh _ q1 => by
    obtain ⟨ad0, δ0, _, _, hl⟩ := par_run E1 hh q1
    refine ⟨by rw [hl, hlen]; exact Nat.le_trans hz (by decide), fun p hp => ?_⟩
    obtain ⟨E2, s2, e1, e2, e3, e4⟩ := E1.addO (o := .tup vs) hp
    have hh2 := hh.move (H' := upd H1 p (.tup vs)) fun q o ho => by rw [upd_ne (ne_of_none ho hp)]; exact ho
    obtain ⟨ad', δ', E', q, hl'⟩ := par_run E2 hh2 q1
    exact ⟨p, vs, rfl, .of upd_same, by rw [hl, hlen], set_run hn hl' (k.nx _ _ _ _ _ _ E' q)⟩, k.kx ad bg σ δ⟩
end
end DL

/-! DL14: a def's body keeps its promise; the law's own end. -/
namespace DL
open PySem PySem.Spec PyProof.Rows L2
def startD (N : List Str) (ds : List D) : List Slot := ds.map Slot.sh ++ List.replicate (N.length - ds.length) .no
def startB (N : List Str) (ds : List D) : List Slot := .bag :: (ds.map Slot.sh ++ List.replicate (N.length - (ds.length + 1)) .no)
def startL (N : List Str) (ns : List Int) : List Slot := .scr ns :: List.replicate (N.length - 1) .no
def endsP (QD : D → Prop) (ED : XD → Prop) : DEnds := ⟨fun _ => QD .none, QD, fun _ => False, fun _ => False, fun x _ => ED x⟩
section
variable {P : Program} {w : World} {K : Fg} {mg : Str → Option Value} {base : Heap} {x : Str} {st : Stmt} {f : Addr} {fd : FuncData} {N ps : List Str} {k : Nat} {g : SpD} {fb : FS}
abbrev bodyX (P : Program) (w : World) (K : Fg) (mg : Str → Option Value) (base : Heap) (N : List Str) (x : Str) (st : Stmt) (f : Addr) (cdv : Value) (A : Around) (outer : List Env) (s : Shared) (H : Hp) (E : XK) : Cx :=
  cxOf (L2.CX P w) P w K mg base N x (defScope st) f cdv A outer s H E
/-- the body read, at every entry -/
def Reads (P : Program) (w : World) (K : Fg) (mg : Str → Option Value) (base : Heap) (N : List Str) (x : Str) (st : Stmt) (f : Addr) (k : Nat) (fb : FS) : Prop :=
  ∀ (cdv : Value) (A : Around) (outer : List Env) (s : Shared) (H : Hp) (E : XK), A.guards = some [] → Room k (A.deeper (envOfC x (defScope st) s.heap.objs.size f cdv)) →
    DSs (bodyX P w K mg base N x st f cdv A outer s H E) (fun cls d _ H => E cls d H) (defBody st) fb
theorem start_get (vs : List V) (n i : Nat) : (L2.start N vs)[i]? = if i < vs.length then (vs[i]?).map some else if i < vs.length + (N.length - vs.length) then some none else none := by
  unfold L2.start
  by_cases h : i < vs.length
  · rw [if_pos h, List.getElem?_append_left (by simpa using h), List.getElem?_map]
  · rw [if_neg h, List.getElem?_append_right (by simpa using h), List.length_map, List.getElem?_replicate]
    by_cases h2 : i < vs.length + (N.length - vs.length)
    · rw [if_pos h2, if_pos (by omega)]
    · rw [if_neg h2, if_neg (by omega)]
theorem startD_get {ds : List D} {i : Nat} {s : Slot} (h : (ds.map Slot.sh ++ List.replicate n .no)[i]? = some s) : (∃ d, ds[i]? = some d ∧ s = .sh d) ∨ s = .no := by
  by_cases hi : i < ds.length
  · rw [List.getElem?_append_left (by simpa using hi), List.getElem?_map] at h
    cases e : ds[i]? with
    | none => rw [e] at h; cases h
    | some d => rw [e] at h; cases h; exact .inl ⟨d, rfl, rfl⟩
  · rw [List.getElem?_append_right (by simpa using hi), List.getElem?_replicate] at h
    split at h
    · cases h; exact .inr rfl
    · cases h
theorem fnP (F : Fun K x x st f fd) (S : FnScope N ps (defScope st)) (hle : ps.length ≤ N.length) (len : ∀ ds QD ED, g ds QD ED → ds.length = ps.length) (der : Reads P w K mg base N x st f k fb)
    (law : ∀ ds QD ED, g ds QD ED → fb (endsP QD ED) (startD N ds)) : FnG P w K mg base (k + 1) f fd ps (spP K g) := by
  refine FnG.of F S (fun vs H Q E h => ?_) fun cdv A outer s H vs Q E hgd hr h => ⟨cS K (fun cls d _ H => E cls d H) fb, der cdv A outer s H E hgd hr, ?_⟩
  · obtain ⟨Hs, ds, QD, ED, r, _, q, _⟩ := h
    rw [r.length]
    exact len _ _ _ q
  · obtain ⟨Hs, ds, QD, ED, r, sub, q, fin, finX⟩ := h
    have hl := len _ _ _ q
    have hvl := r.length
    refine ⟨⟨Hs, H, []⟩, fun _ => none, [], Hs, startD N ds, endsP QD ED, ⟨?_, .refl _ _ _, sub, fun i t ht => ?_, fun _ _ _ z => (nomatch z), fun _ _ z => (nomatch z), fun _ z => (nomatch z), .inl rfl, fun z => absurd rfl z⟩, law _ _ _ q, ?_⟩
    · unfold L2.start startD
      simp [hvl]
    · rcases startD_get ht with ⟨d, e, rfl⟩ | rfl
      · obtain ⟨v, e1, e2⟩ := r.get e
        refine ⟨v, ?_, e2⟩
        rw [start_get (n := 0), if_pos (List.getElem?_eq_some_iff.mp e1).1, e1]
        rfl
      · trivial
    · exact ⟨fun ad bg Hs' δ σ H' E' qq => fin .non .none Hs' H' E'.st E'.sub .non qq, fun _ _ _ _ _ _ _ z => z.elim, fun _ _ _ _ _ _ _ z => z.elim, fun ad bg Hs' δ σ H' v d E' rv qq => fin v d Hs' H' E'.st E'.sub rv qq,
        fun cls d x ad bg Hs' δ σ H' E' xr qq => finX cls d x Hs' H' E'.st E'.sub xr qq⟩
theorem fnB (F : Fun K x x st f fd) (S : FnScope N ps (defScope st)) (hle : ps.length ≤ N.length) (len : ∀ ds QD ED, g ds QD ED → ds.length + 1 = ps.length) (der : Reads P w K mg base N x st f k fb)
    (law : ∀ ds QD ED, g ds QD ED → fb (endsP QD ED) (startB N ds)) : FnG P w K mg base (k + 1) f fd ps (spB K g) := by
  refine FnG.of F S (fun vs H Q E h => ?_) fun cdv A outer s H vs Q E hgd hr h => ⟨cS K (fun cls d _ H => E cls d H) fb, der cdv A outer s H E hgd hr, ?_⟩
  · obtain ⟨b, c, ws, Hs, ds, QD, ED, rfl, _, _, _, _, r, _, q, _⟩ := h
    rw [List.length_cons, r.length]
    exact len _ _ _ q
  · obtain ⟨b, c, ws, Hs, ds, QD, ED, rfl, nc, bat, nb, ncc, r, sub, q, fin, finX⟩ := h
    have hl := len _ _ _ q
    have hvl := r.length
    have sat : ∀ i t, (startB N ds)[i]? = some t → SlotOk K ⟨Hs, H, [b, c]⟩ (fun _ => none) [b, c] Hs H (L2.start N (.ref b :: ws))[i]? i t := fun i t ht => by
      unfold startB at ht
      rw [start_get (n := 0)]
      cases i with
      | zero => cases ht; exact ⟨b, c, by simp, rfl⟩
      | succ i =>
        rw [List.getElem?_cons_succ] at ht
        rcases startD_get ht with ⟨d, e, rfl⟩ | rfl
        · obtain ⟨v, e1, e2⟩ := r.get e
          refine ⟨v, ?_, e2⟩
          rw [if_pos (by have := (List.getElem?_eq_some_iff.mp e1).1; simp; omega), List.getElem?_cons_succ, e1]
          rfl
        · trivial
    refine ⟨⟨Hs, H, [b, c]⟩, fun _ => none, [b, c], Hs, startB N ds, endsP QD ED, ⟨?_, .refl _ _ _, sub, sat, fun _ _ _ z => (nomatch z), fun _ _ z => (nomatch z), fun a z => ?_, .inr ⟨b, c, rfl, nc, bat⟩, fun _ => rfl⟩, law _ _ _ q, ?_⟩
    · unfold L2.start startB
      simp [hvl]
    · refine ⟨?_, .inl z⟩
      simp at z
      rcases z with rfl | rfl
      · exact nb
      · exact ncc
    · have bagOf : ∀ {ad bg Hs' H' σ δ}, EnvOk K ⟨Hs, H, [b, c]⟩ ad bg Hs' H' σ δ → BagAt H' b c := fun {ad bg Hs' H' σ δ} E' => by
        have e := E'.bw (by simp)
        rcases E'.bok with z | ⟨b', c', z, _, y⟩
        · rw [z] at e; cases e
        · rw [e] at z; cases z; exact y
      exact ⟨fun ad bg Hs' δ σ H' E' qq => fin .non .none Hs' H' E'.st E'.sub (bagOf E') .non qq, fun _ _ _ _ _ _ _ z => z.elim, fun _ _ _ _ _ _ _ z => z.elim, fun ad bg Hs' δ σ H' v d E' rv qq => fin v d Hs' H' E'.st E'.sub (bagOf E') rv qq,
        fun cls d x ad bg Hs' δ σ H' E' xr qq => finX cls d x Hs' H' E'.st E'.sub (bagOf E') xr qq⟩

/-! ### the bag is made; the law -/
/-- what the def promises that makes the bag of the script -/
def spO (K : Fg) : Sp := fun vs H Q _ => ∃ (a : Addr) (ns : List Int), vs = [.ref a] ∧ Scr K H a (ns.map V.int) ∧ ns.length ≤ 63 ∧ ∀ b c H', b ≠ c → H b = none → H c = none → Same H H' → BagAt H' b c → Q (.ref b) H'
def spL (K : Fg) : Sp := fun vs H Q _ => ∃ (a : Addr) (ns : List Int), vs = [.ref a] ∧ Scr K H a (ns.map V.int) ∧ ns.length ≤ 63 ∧ ∀ H', Q (.bl true) H'
def endsL : DEnds := ⟨fun _ => False, fun d => d = .bool true, fun _ => False, fun _ => False, fun _ _ => False⟩
theorem fnL (F : Fun K x x st f fd) (S : FnScope N [y] (defScope st)) (der : Reads P w K mg base N x st f k fb) (law : ∀ ns : List Int, ns.length ≤ 63 → fb endsL (startL N ns)) : FnG P w K mg base (k + 1) f fd [y] (spL K) := by
  refine FnG.of F S (fun vs H Q E h => ?_) fun cdv A outer s H vs Q E hgd hr h => ⟨cS K (fun cls d _ H => E cls d H) fb, der cdv A outer s H E hgd hr, ?_⟩
  · obtain ⟨a, ns, rfl, _⟩ := h
    rfl
  · obtain ⟨a, ns, rfl, hS, hl, fin⟩ := h
    refine ⟨⟨H, H, []⟩, fun _ => none, [], H, startL N ns, endsL, ⟨?_, .refl _ _ _, Same.refl _, fun i t ht => ?_, fun _ _ _ z => (nomatch z), fun _ _ z => (nomatch z), fun _ z => (nomatch z), .inl rfl, fun z => absurd rfl z⟩, law ns hl, ?_⟩
    · unfold L2.start startL
      simp
    · unfold startL at ht
      rw [start_get (n := 0)]
      cases i with
      | zero => cases ht; exact ⟨a, by simp, hS, rfl⟩
      | succ i =>
        rw [List.getElem?_cons_succ, List.getElem?_replicate] at ht
        split at ht
        · cases ht; trivial
        · cases ht
    · exact ⟨fun _ _ _ _ _ _ _ z => z.elim, fun _ _ _ _ _ _ _ z => z.elim, fun _ _ _ _ _ _ _ z => z.elim, fun ad bg Hs' δ σ H' v d E' rv qq => by
        cases (show d = .bool true from qq)
        cases rv
        exact fin H', fun _ _ _ _ _ _ _ _ _ _ _ z => z.elim⟩
end
section
variable {X : Cx} {W : WX} {k : Nat} {f : Addr} {fd : FuncData} {ps : List Str} {x y z : Str} {p p1 pos : Pos} {b : Expr} {g : FE}
/-- the bag takes its place -/
theorem EnvOk.bagIn {K : Fg} {en : En} {ad : Nat → Option Addr} {Hs H : Hp} {σ : Sg} {δ : List Slot} {b c : Addr} (E : EnvOk K en ad [] Hs H σ δ) (i : Nat) (hi : i < δ.length) (nc : b ≠ c) (bat : BagAt H b c) (h1 : Hs b = none) (h2 : Hs c = none) (h3 : en.H0 b = none) (h4 : en.H0 c = none)
    (h5 : ∀ j, ad j ≠ some b) (h6 : ∀ j, ad j ≠ some c) (nbag : ∀ j : Nat, δ[j]? ≠ some .bag) : EnvOk K en (setAd ad i none) [b, c] Hs H (σ.set i (some (.ref b))) (δ.set i .bag) := by
  have hW : en.W = [] := by
    cases e : en.W with
    | nil => rfl
    | cons a r => have := E.bw (by rw [e]; simp); rw [e] at this; cases this
  refine ⟨by rw [List.length_set, List.length_set, E.len], E.st, E.sub, fun j s h => ?_, fun j l a g1 g2 => ?_, fun j a h => ?_, fun a h => ?_, .inr ⟨b, c, rfl, nc, bat⟩, fun z => absurd hW z⟩
  · by_cases e : i = j
    · subst e
      rw [List.getElem?_set_self hi] at h
      cases h
      exact ⟨b, c, by rw [List.getElem?_set_self (by rw [E.len]; exact hi)], rfl⟩
    · rw [List.getElem?_set_ne e] at h ⊢
      have q := E.slot j s h
      cases s with
      | ow d => obtain ⟨a, e1, e2, e3⟩ := q; exact ⟨a, e1, by rw [setAd_ne e]; exact e2, e3⟩
      | bag => exact absurd h (nbag j)
      | _ => exact q
  · unfold setAd at g1 g2
    split at g1
    · cases g1
    · split at g2
      · cases g2
      · exact E.inj j l a g1 g2
  · unfold setAd at h
    split at h
    · cases h
    · refine ⟨fun m => ?_, (E.out j a h).2⟩
      simp at m
      rcases m with rfl | rfl
      · exact h5 j h
      · exact h6 j h
  · simp at h
    rcases h with rfl | rfl
    · exact ⟨h1, .inr h3⟩
    · exact ⟨h2, .inr h4⟩
def noBag (δ : List Slot) : Prop := ∀ j : Nat, δ[j]? ≠ some .bag
theorem EnvOk.noBag {K : Fg} {en ad bg Hs H} {σ : Sg} {δ} (E : EnvOk K en ad bg Hs H σ δ) (hW : en.W = []) (n : DL.noBag δ) : EnvOk K en ad [] Hs H σ δ := by
  refine ⟨E.len, E.st, E.sub, fun j s h => ?_, E.inj, fun j a h => ⟨(nomatch ·), (E.out j a h).2⟩, fun _ z => (nomatch z), .inl rfl, fun z => absurd hW z⟩
  have q := E.slot j s h
  cases s with
  | bag => exact absurd h (n j)
  | _ => exact q
/-- behind the call that makes the bag -/
theorem EnvOk.made {K : Fg} {en ad Hs H H'} {σ : Sg} {δ} (E : EnvOk K en ad [] Hs H σ δ) (s : Same H H') : EnvOk K en ad [] Hs H' σ δ ∧ Step [] Hs H Hs H' := by
  have st : Step [] Hs H Hs H' := ⟨Same.refl _, fun a o e _ => s a o e, fun a e => by
    cases q : H a with
    | none => exact absurd q e
    | some o => rw [s a o q]; simp, fun a e => .inl e⟩
  exact ⟨E.call st (E.sub.trans s) (.inl rfl), st⟩
/-- bag = _law_own_bag(script) -/
def fBag (i j : Nat) : FS := fun Z δ => (∃ ns, δ[j]? = some (.scr ns) ∧ ns.length ≤ 63) ∧ noBag δ ∧ i < δ.length ∧ Z.nx (δ.set i .bag)
/-- bag, z = _law_own_bag(script), e -/
def fBag2 (i l j : Nat) (g : FE) : FS := fun Z δ => (∃ ns, δ[j]? = some (.scr ns) ∧ ns.length ≤ 63) ∧ noBag δ ∧ i < δ.length ∧ g δ (fun r => tgName l r (δ.set i .bag) Z.nx) fun x => Z.ex x δ
theorem ds_bag (i j : Nat) {px : Pos} (F : FnG X.prog X.w X.K X.mg X.base k f fd ps (spO X.K)) (hgd : X.A.guards = some []) (hr : Room k X.A) (tk : Takes X W) (hm : X.mg x = some (.ref f)) (hk : PySem.W.keepIn X.K (.ref f) = true) (hb : Binds X.K fd ps []) (hN : X.N.Nodup)
    (hi : X.N[i]? = some z := by rfl) (hj : X.N[j]? = some y := by rfl) (hl : Loc X.env.scope z := by first | exact .inl rfl | exact .inr rfl) (hf : X.fn z = true ∨ X.env.scope.names.lookup z = some .local := by first | exact .inl rfl | exact .inr rfl) (hv : Vis X.env.scope y := by first | exact Or.inl rfl | exact Or.inr (Or.inl rfl) | exact Or.inr (Or.inr rfl))
    (hd : (y == ("__debug__" : Str)) = false := by decide) (hcd : (y == ("__classdict__" : Str)) = false := by decide) (hg : Gl X x := by rfl) (hdb : (x == ("__debug__" : Str)) = false := by decide)
    (he : starEach [.Name y p1] X.env = (false, eval (.Name y p1) X.env) :: starEach [] X.env := by rfl) (hpl : (backTo p (starEach [] X.env)).any (·.1) = false := by rfl) {q0 : Pos} (hs : swapsWith (.Call (.Name x q0) [.Name y p1] [] p) (some (.Name z px)) pos.line X.env = pure false := by rfl) :
    DS X W (.Assign [.Name z px] (.Call (.Name x q0) [.Name y p1] [] p) pos) (fBag i j) :=
  psImp (ps_set (i := i) hN hi hl (pe_G (t := tCons (tVar j) tNil) F hgd hr tk hm hk hb (pa_cons (pe_var hj hv hd hcd) pa_nil he) hg hdb he hpl) hs hf) fun Z σ H ⟨en, ad, bg, Hs, δ, DD, E, ⟨⟨ns, e1, e2⟩, nb, hil, h⟩, kk⟩ => by
    obtain ⟨a, g1, g2, g3⟩ := E.slot j _ e1
    have E0 := E.noBag g3 nb
    refine ⟨.ref a, g1, a, ns, rfl, (g2.mono E0.sub), e2, fun b c H' nc n1 n2 sm bat => ?_⟩
    obtain ⟨E1, st⟩ := E0.made sm
    have f1 : ∀ q : Addr, H q = none → Hs q = none ∧ en.H0 q = none ∧ ∀ j, ad j ≠ some q := fun q hq => ⟨E0.sub.free hq, by
      cases u : en.H0 q with
      | none => rfl
      | some o => exact absurd hq (E0.st.dom q (by rw [u]; simp)), fun j z => (E0.out j q z).2 hq⟩
    exact kk.nx _ _ _ _ _ _ (E1.bagIn i hil nc bat (f1 b n1).1 (f1 c n2).1 (f1 b n1).2.1 (f1 c n2).2.1 (f1 b n1).2.2 (f1 c n2).2.2 nb) h
theorem ds_bag2 (i l j : Nat) {z2 : Str} {px py pt : Pos} {kt k2 pt2} (hc : X.calm = true) (F : FnG X.prog X.w X.K X.mg X.base k f fd ps (spO X.K)) (hgd : X.A.guards = some []) (hr : Room k X.A) (tk : Takes X W) (hm : X.mg x = some (.ref f)) (hk : PySem.W.keepIn X.K (.ref f) = true) (hb : Binds X.K fd ps []) (hN : X.N.Nodup) (hq : DE X W b g)
    (hil : i ≠ l := by decide) (hi : X.N[i]? = some z := by rfl) (hl : X.N[l]? = some z2 := by rfl) (hj : X.N[j]? = some y := by rfl) (hzl : X.env.scope.names.lookup z = some .local := by rfl) (hz2 : X.env.scope.names.lookup z2 = some .local := by rfl)
    (hv : Vis X.env.scope y := by first | exact Or.inl rfl | exact Or.inr (Or.inl rfl) | exact Or.inr (Or.inr rfl)) (hd : (y == ("__debug__" : Str)) = false := by decide) (hcd : (y == ("__classdict__" : Str)) = false := by decide) (hg : Gl X x := by rfl) (hdb : (x == ("__debug__" : Str)) = false := by decide) {q0 : Pos}
    (he : starEach [.Name y p1] X.env = (false, eval (.Name y p1) X.env) :: starEach [] X.env := by rfl) (hpl : (backTo p (starEach [] X.env)).any (·.1) = false := by rfl) (he2 : starEach [.Call (.Name x q0) [.Name y p1] [] p, b] X.env = (false, eval (.Call (.Name x q0) [.Name y p1] [] p) X.env) :: starEach [b] X.env := by rfl)
    (he3 : starEach [b] X.env = (false, eval b X.env) :: starEach [] X.env := by rfl)
    (hw : swappedStores [.Tuple [.Name z px, .Name z2 py] kt pt] (.Tuple [.Call (.Name x q0) [.Name y p1] [] p, b] k2 pt2) X.env = pure (some [z, z2]) := by rfl)
    (hs : swapsWithSole [.Tuple [.Name z px, .Name z2 py] kt pt] (.Tuple [.Call (.Name x q0) [.Name y p1] [] p, b] k2 pt2) pos.line X.env = pure false := by rfl) :
    DS X W (.Assign [.Tuple [.Name z px, .Name z2 py] kt pt] (.Tuple [.Call (.Name x q0) [.Name y p1] [] p, b] k2 pt2) pos) (fBag2 i l j g) :=
  psImp (ps_par hc hN hi hl hil hzl hz2 (pa_cons (pe_G (t := tCons (tVar j) tNil) F hgd hr tk hm hk hb (pa_cons (pe_var hj hv hd hcd) pa_nil he) hg hdb he hpl) (pa_cons (te := cE X.K W g) hq pa_nil he3) he2) hw hs) fun Z σ H ⟨en, ad, bg, Hs, δ, DD, E, ⟨⟨ns, e1, e2⟩, nb, hil', h⟩, kk⟩ => by
    obtain ⟨a, g1, g2, g3⟩ := E.slot j _ e1
    have E0 := E.noBag g3 nb
    refine ⟨.ref a, g1, a, ns, rfl, (g2.mono E0.sub), e2, fun b c H1 nc n1 n2 sm bat => ?_⟩
    obtain ⟨E1, st⟩ := E0.made sm
    have f1 : ∀ q : Addr, H q = none → Hs q = none ∧ en.H0 q = none ∧ ∀ j, ad j ≠ some q := fun q hq => ⟨E0.sub.free hq, by
      cases u : en.H0 q with
      | none => rfl
      | some o => exact absurd hq (E0.st.dom q (by rw [u]; simp)), fun j z => (E0.out j q z).2 hq⟩
    obtain ⟨cells, x0, m0, b1, b2, b3⟩ := bat
    refine cE_seq E1 h (fun v r Hs2 H2 E2 s2 R2 born q2 => ?_) (kk.kx ad [] σ δ)
    refine ⟨.ref b, v, rfl, ?_⟩
    have bat2 : BagAt H2 b c := ⟨cells, x0, m0, s2.keep _ _ b1 (nomatch ·), s2.keep _ _ b2 (nomatch ·), b3⟩
    have off : ∀ q : Addr, H q = none → H1 q ≠ none → Hs2 q = none := fun q hq h1 => by
      cases u : Hs2 q with
      | none => rfl
      | some o =>
        rcases s2.new q (by rw [u]; simp) with w | w
        · exact absurd (f1 q hq).1 w
        · exact absurd w h1
    have E3 := E2.bagIn i hil' nc bat2 (off b n1 (by rw [b1]; simp)) (off c n2 (by rw [b2]; simp)) (f1 b n1).2.1 (f1 c n2).2.1 (f1 b n1).2.2 (f1 c n2).2.2 nb
    obtain ⟨hl', q2⟩ := q2
    cases r with
    | sh d => exact kk.nx _ _ _ _ _ _ (E3.setS l hl' R2) q2
    | fr d =>
      obtain ⟨t, rfl, r1, r2, r3, r4, r5⟩ := R2
      obtain ⟨t', e', tn⟩ := born
      cases e'
      have u1 : t ∉ [b, c] := fun m => by
        simp at m
        rcases m with rfl | rfl
        · rw [b1] at tn; cases tn
        · rw [b2] at tn; cases tn
      have u2 : ∀ j', setAd ad i none j' ≠ some t := fun j' z => by
        unfold setAd at z
        split at z
        · cases z
        · exact r4 j' z
      obtain ⟨ad', E4⟩ := E3.setO (v := .ref t) (d := d) l hl' ⟨t, rfl, r1, r2, u1, u2, r5⟩
      exact kk.nx _ _ _ _ _ _ E4 q2
    | br m d => exact q2.elim
end
end DL

/-! DL15: the end of a law's row. -/
namespace DL
open PySem PySem.Spec PyProof.Rows L2
section
variable {P : Program} {w : World} {K : Fg} {mg mb : Str → Option Value} {k : Nat} {fa a : Addr} {fd : FuncData} {x : Str} {s1 : Shared} {vs : List Value} {ns : List Int}
theorem cx_false {outer : List Env} {H : Hp} {s s' : Shared} {e : Value} (h : L2.CX P w outer H s (fun _ _ _ => False) e s') : False := by
  obtain ⟨_, _, _, _, _, _, _, _, _, _, _, _, z⟩ := h
  exact z
/-- the law called at the heap H over what the top left -/
theorem law_at {H : Hp} (inK : K.In s1.heap) (ns1 : s1.heap.Ns mainGlobals mg) (hb : s1.heap.Ns builtinsNs mb) (hbb : ∀ x : Str, x ≠ "__name__" → mb x = bootBuiltins x) (hlim : s1.heap.NoLimit) (hg : s1.gens = #[])
    (hr : Room k callerA) (F : ∀ base : Heap, K.In base → base.Ns mainGlobals mg → FnG P w K mg base k fa fd [x] (spL K)) (hbind : ∀ (s : Shared) (u : Value), BindsTo s fd ⟨[u], []⟩ [(x, u)])
    (script : Scr K H a (ns.map V.int)) (few : ns.length ≤ 63) (ok : HOk P w H s1.heap) (alone : ∀ b, H b ≠ none → b = a) (listed : ∀ o, H a ≠ none → s1.heap.get? a = some o → o.cls = .type "list" ∧ K.lookup a = none ∧ ∀ es n, o.data ≠ .dict es n) (froz : ∀ o, H a = some o → ∃ ob u, o = .frz ob u) :
    codeAny (model P w) callerA (.call (.ref fa) ⟨[.ref a], []⟩) (fun r s' => r = .ok (.ret (.bool true)) ∧ OldK s1.heap s'.heap ∧ s'.os = s1.os ∧ AllBare s'.gens) s1 := by
  have free : ∀ {b : Addr} {o : Obj}, s1.heap.get? b = some o → (b = a → H a ≠ none → False) → H b = none := fun {b o} e n => by
    cases q : H b with
    | none => rfl
    | some u =>
      have eb := alone b (by rw [q]; simp)
      subst eb
      exact (n rfl (by rw [q]; simp)).elim
  have seen : ∀ {b : Addr} {m : Str → Option Value}, s1.heap.Ns b m → (hidT s1.heap H).Ns b m := fun {b m} ⟨o, es, ep, e, d, r⟩ =>
    ⟨o, es, ep, hidT_get e (free e fun eb ha => (listed o ha (eb ▸ e)).2.2 es ep d), d, r⟩
  have kin : K.In (hidT s1.heap H) := fun b o e => hidT_get (inK b o e) (free (inK b o e) fun eb ha => by
    have l := (listed o ha (eb ▸ inK b o e)).2.1
    rw [← eb, e] at l
    cases l)
  have mod : L2.Mod K mg (hidT s1.heap H) := ⟨kin, seen ns1, ⟨mb, seen hb, hbb⟩, by
    obtain ⟨mc, h1, h2⟩ := hlim
    exact ⟨mc, seen h1, h2⟩⟩
  have env : Env0 P w K mg (hidT s1.heap H) callerA [] s1 H := ⟨rfl, mod, fun b o e => of_hidT e, Nat.le_of_eq (hidT_size _ _), trivial, fun b z => (nomatch z), ok, .of_eq hg⟩
  have promise : spL K [.ref a] H (fun v _ => v = .bl true) (fun _ _ _ => False) := ⟨a, ns, rfl, script, few, fun _ => rfl⟩
  refine codeAny_mono ((F _ kin (seen ns1)).run callerA [] s1 H ⟨[.ref a], []⟩ [.ref a] [.ref a] _ _ rfl hr env (hbind s1 (.ref a)) (.cons rfl .nil) promise) fun r s' h => ?_
  cases r with
  | error e => exact (cx_false h).elim
  | ok fl =>
    cases fl with
    | next => exact h.elim
    | brk => exact h.elim
    | cont => exact h.elim
    | ret u =>
      obtain ⟨v, H', os, bare, un, ok', rv, q⟩ := h
      cases (show v = .bl true from q)
      cases (show u = Value.bool true from rv)
      refine ⟨rfl, OldK.of_keep fun b o e => ?_, os, bare⟩
      cases q : H b with
      | none => exact un.keep b o e q (nomatch ·) (nomatch ·)
      | some u =>
        have eb := alone b (by rw [q]; simp)
        subst eb
        obtain ⟨ob, u', rfl⟩ := froz u q
        have q' := un.frzs b ob u' q
        obtain ⟨e1, _⟩ := ok b _ q
        obtain ⟨e2, _⟩ := ok' b _ q'
        rw [e] at e1
        cases e1
        exact e2
theorem law_run (inK : K.In s1.heap) (ns1 : s1.heap.Ns mainGlobals mg) (hb : s1.heap.Ns builtinsNs mb) (hbb : ∀ x : Str, x ≠ "__name__" → mb x = bootBuiltins x) (hlim : s1.heap.NoLimit) (hg : s1.gens = #[])
    (ha : s1.heap.get? a = some { cls := .type "list", data := .seq vs.toArray }) (hi : IntsAre vs ns) (few : ns.length ≤ 63) (hr : Room k callerA)
    (F : ∀ base : Heap, K.In base → base.Ns mainGlobals mg → FnG P w K mg base k fa fd [x] (spL K)) (hbind : ∀ (s : Shared) (u : Value), BindsTo s fd ⟨[u], []⟩ [(x, u)]) :
    codeAny (model P w) callerA (.call (.ref fa) ⟨[.ref a], []⟩) (fun r s' => r = .ok (.ret (.bool true)) ∧ OldK s1.heap s'.heap ∧ s'.os = s1.os ∧ AllBare s'.gens) s1 := by
  have rv := vals_ints hi
  have hz : ns.length ≤ sizeLine := Nat.le_trans few (by decide)
  cases hk : K.lookup a with
  | some o =>
    have e := inK a o hk
    rw [ha] at e
    cases e
    exact law_at (H := fun _ => none) inK ns1 hb hbb hlim hg hr F hbind (.inr ⟨_, vs.toArray, _, hk, rfl, rfl, rfl, by rw [List.size_toArray, hi.length]; exact hz, by simpa using rv⟩) few (fun b u z => (nomatch z)) (fun b z => absurd rfl z) (fun o z => absurd rfl z) (fun o z => (nomatch z))
  | none =>
    let H : Hp := fun b => if b = a then some (.frz { cls := .type "list", data := .seq vs.toArray } (.lst (ns.map V.int))) else none
    have at_a : H a = some (.frz { cls := .type "list", data := .seq vs.toArray } (.lst (ns.map V.int))) := if_pos rfl
    have off : ∀ b, b ≠ a → H b = none := fun b n => if_neg n
    refine law_at (H := H) inK ns1 hb hbb hlim hg hr F hbind (.inl ⟨_, at_a⟩) few (fun b u z => ?_) (fun b z => ?_) (fun o _ e => ?_) fun o z => ?_
    · by_cases h : b = a
      · subst h
        rw [at_a] at z
        cases z
        exact ⟨ha, by rw [List.length_map]; exact hz, vs, _, rv, ha⟩
      · rw [off b h] at z
        cases z
    · by_cases h : b = a
      · exact h
      · exact absurd (off b h) z
    · rw [ha] at e
      cases e
      exact ⟨rfl, hk, fun es n z => (nomatch z)⟩
    · rw [at_a] at z
      cases z
      exact ⟨_, _, rfl⟩
end
/-- the goal that k_head leaves -/
theorem walk_G {l : PySem.W.OpenLaw} {k : Nat} {q : Program} {loose : List Str} {XP : (Str → Option Value) → Heap → Prop} {YP : World → Heap → Prop} {d : DefRec} {K : Params → Fg} {x : Str} (hn : l.most = some 63) (hdf : d.params.defaults = []) (hr : Room k callerA)
    (hY : ∀ (w : World) (h : Heap), YP w h → (K w.params).In h)
    (F : ∀ (w : World) (mg : Str → Option Value) (fa : Addr) (h : Heap), (K w.params).In h → h.Ns mainGlobals mg → mg d.name = some (.ref fa) →
      ∃ fd : FuncData, (∀ (s : Shared) (u : Value), BindsTo s fd ⟨[u], []⟩ [(x, u)]) ∧ ∀ base : Heap, (K w.params).In base → base.Ns mainGlobals mg → FnG l.prog w (K w.params) mg base k fa fd [x] (spL (K w.params))) :
    PySem.W.WalkO q loose XP YP l.row.toRowW d [] (fun f vs => PySem.call f vs) := by
  refine Att.attach_call hn hdf fun w s0 s1 mg mb fa o pm cd doc a vs ns G Y ho hd hcd hmg hobj hints hlen hg => ?_
  have inK := hY w _ Y
  obtain ⟨fd, hb, hF⟩ := F w mg fa _ inK G.T.g hmg
  exact law_run inK G.T.g G.T.b G.T.builtins G.T.nolimit hg hobj hints hlen hr hF hb
end DL

/-! DL16: list(reversed(list)), list(d.keys()), d.get(k, x), {}, {k: v}. -/
namespace DL
open PySem PySem.Spec PyProof.Rows L2
section
variable {prog : Program} {w : World} {A : Around} {E : Value → Shared → Prop} {s : Shared}
theorem rl_extend {it l : Addr} {items : Array Value} {R : Result → Shared → Prop} (hh : A.handled = none) (hit : s.heap.IsRevIter it l ((items.size : Int) - 1)) (hl : s.heap.IsList l items) (hne : l ≠ it) (hn : items.size ≤ sizeLine)
    (S : Addr) (hSi : S ≠ it) (hSl : S ≠ l) (res : Value) (c₀ : Nat) (hS : s.heap.get? S = some { cls := .type "list", data := .seq #[] c₀ })
    (hR : ∀ h' tk acc' c', (∀ b o, b ≠ S → b ≠ it → s.heap.get? b = some o → h'.get? b = some o) → h'.get? S = some { cls := .type "list", dict := none, data := .seq acc' c', slots := #[] } → ItemsOf (fun i v => items[items.size - 1 - i]? = some v) acc' items.size → R (.ok (.ret res)) { s with heap := h', toks := tk }) :
    wpAny (model prog w) A.in1 (Builtin.List.listExtendWith (.ref S) (.ref it) res)
      (fun fin s' => match fin with | .done f => R (.ok f) s' | .again c' => c'.quiet = true ∧ codeAny (model prog w) A c' R s') (fun e s' => R (.error e) s') s := by
  have W := (Walks.listRev (prog := prog) (w := w) (A := A.in1) hh it l hne items).toS
  have hSf : S ∉ [it, l] := by simp only [List.mem_cons, List.not_mem_nil, or_false, not_or]; exact ⟨hSi, hSl⟩
  have hT : s.TypeIs (.ref it) "list_reverseiterator" := hit.typeIs
  have h1 : Builtin.List.listSameRef (.ref S) (.ref it) = false := by simp [Builtin.List.listSameRef, hSi]
  unfold Builtin.List.listExtendWith
  refine wpAny_bind (wpAny_typeOf hT ?_)
  rw [if_neg (by rw [h1]; decide)]
  refine wpAny_bind (wpAny_pyIter_revIter hit ?_)
  refine wpAny_bind (wpAny_holding ?_)
  unfold Builtin.List.listLengthHint
  refine wpAny_bind (wpAny_specialOf hT RT.nolen_lri ?_)
  show wpAny _ A.in1 (specialOf (Value.ref it) (Str.ofString "__length_hint__") >>= _) _ _ _
  refine wpAny_bind (wpAny_specialOf hT RT.hint_lri ?_)
  generalize hid : ("list_reverseiterator.__length_hint__" : String) = id0
  wp_delta
  rw [show splitId id0 = some ("list_reverseiterator", "__length_hint__") from by subst hid; decide +kernel]
  subst hid
  refine wpAny_bind (wpAny_isInstance (b := true) hT (by rw [isSubtype_type]; kernel_rfl) ?_)
  refine wpAny_pure ?_
  rw [if_neg (by decide)]
  have e0 : ((items.size : Nat) : Int) - 1 - ((0 : Nat) : Int) = (items.size : Int) - 1 := by omega
  refine wpAny_pure ⟨plainId_quiet F.plain_extend_loop _, codeAny_extend_loopS W hn _ hSf _ items.size 0 _ _ _ rfl (Nat.zero_le _) ⟨Nat.zero_le _, by rw [e0]; exact hit, hl⟩ hS (ItemsOf.nil _) fun s' acc' c' hm hS' hacc => ?_⟩
  rw [Moved.eq_with hm]
  refine hR s'.heap s'.toks acc' c' (fun b o hb hb2 e => hm.heap b o (fun hmem => ?_) e) hS' hacc
  rcases List.mem_cons.mp hmem with e' | hmem
  · exact hb e'
  · exact hb2 (List.mem_singleton.mp hmem)
theorem rl_call {it l : Addr} {items : Array Value} {Q : Value → Shared → Prop} (hh : A.handled = none) (hit : s.heap.IsRevIter it l ((items.size : Int) - 1)) (hl : s.heap.IsList l items) (hne : l ≠ it) (hn : items.size ≤ sizeLine)
    (hQ : ∀ (h' : Heap) (tk : Nat) (acc' : Array Value) (c' : Nat), (∀ b o, b ≠ it → s.heap.get? b = some o → h'.get? b = some o) → h'.get? s.heap.objs.size = some { cls := .type "list", dict := none, data := .seq acc' c', slots := #[] } → ItemsOf (fun i v => items[items.size - 1 - i]? = some v) acc' items.size → Q (.ref s.heap.objs.size) { s with heap := h', toks := tk }) :
    wpAny (model prog w) A (call (.type "list") [.ref it]) Q E s := by
  obtain ⟨oi, hoi, _⟩ := id hit
  obtain ⟨ol, hol, _⟩ := id hl
  have hSi : s.heap.objs.size ≠ it := Nat.ne_of_gt (Heap.lt_size hoi)
  have hSl : s.heap.objs.size ≠ l := Nat.ne_of_gt (Heap.lt_size hol)
  refine callType_codes (Q₁ := fun obj s₁ => obj = .ref s.heap.objs.size ∧ s₁ = { s with heap := s.heap.push { cls := .type "list", data := .seq #[] } }) PySem.F.called_list (PySem.F.typeCall_list_1 _) PySem.F.entry_list_init
    (code_list_new _ ⟨rfl, rfl⟩) fun obj s₁ h₁ => ?_
  obtain ⟨rfl, rfl⟩ := h₁
  have hS : (s.heap.push { cls := .type "list", data := .seq #[] }).get? s.heap.objs.size = some { cls := .type "list", data := .seq #[] } := Heap.get?_push_size _ rfl
  refine ⟨⟨_, hS, rfl⟩, PySem.F.args_list_init_2 _ _, ?_⟩
  show wpAny _ _ (do let old ← Builtin.List.listItems (.ref s.heap.objs.size); Builtin.List.listUpdate (.ref s.heap.objs.size) (fun _ => #[]); letGo old.toList.reverse; Builtin.List.listExtendWith (.ref s.heap.objs.size) (.ref it) .none) _ _ _
  refine wpAny_bind ?_
  unfold Builtin.List.listItems
  refine wpAny_bind (wpAny_seqItems hS rfl (wpAny_pure ?_))
  show wpAny _ _ (updateSeq s.heap.objs.size (fun _ => #[]) >>= fun _ => letGo (#[] : Array Value).toList.reverse >>= fun _ => Builtin.List.listExtendWith (.ref s.heap.objs.size) (.ref it) .none) _ _ _
  refine wpAny_bind (wpAny_updateSeq hS rfl ?_)
  have hS₂ := Heap.get?_update_self (Obj.mapSeq (fun _ => (#[] : Array Value))) hS rfl
  have oth : ∀ b o, b ≠ s.heap.objs.size → s.heap.get? b = some o → ((s.heap.push { cls := .type "list", data := .seq #[] }).update s.heap.objs.size (Obj.mapSeq (fun _ => (#[] : Array Value)))).get? b = some o :=
    fun b o hb e => (Heap.get?_update_other _ _ (Ne.symm hb)).trans (Heap.get?_push_of_some _ e)
  refine wpAny_bind (wpAny_letGo ?_)
  refine rl_extend (A := A.in1) hh (hit.at fun o e => oth _ o (Ne.symm hSi) e) (hl.at fun o e => oth _ o (Ne.symm hSl) e) hne hn _ hSi hSl .none _ hS₂ fun h' tk acc' c' hk hS' hacc => ?_
  exact ⟨rfl, hQ h' tk acc' c' (fun b o hb e => hk b o (Nat.ne_of_lt (Heap.lt_size e)) hb (oth b o (Nat.ne_of_lt (Heap.lt_size e)) e)) hS' hacc⟩
end
/-! ### list(reversed(x)), x a list -/
def tListRev (K : PySem.W.Frag) (te : TE) : TE := fun σ H Q => te σ H fun v H1 => ∃ (a : Addr) (xs : List V), v = .ref a ∧ SqL K H1 a xs ∧ ∀ q, H1 q = none → Q (.ref q) (upd H1 q (.lst xs.reverse))
section
variable {X : Cx}
theorem pe_listRev {e : Expr} {te : TE} {p p2 pos pos2 : Pos} (hc : X.calm = true) (hg : Gl X "list") (hm : X.mg "list" = none) (hg2 : Gl X "reversed") (hm2 : X.mg "reversed" = none) (he : PE X e te)
    (hs : starEach [e] X.env = (false, eval e X.env) :: starEach [] X.env := by rfl)
    (hs2 : starEach [.Call (.Name "reversed" p2) [e] [] pos2] X.env = (false, eval (.Call (.Name "reversed" p2) [e] [] pos2) X.env) :: starEach [] X.env := by rfl) :
    PE X (.Call (.Name "list" p) [.Call (.Name "reversed" p2) [e] [] pos2] [] pos) (tListRev X.K te) := by
  refine ⟨fun pins s σ H Q I h => ?_⟩
  refine wpAny_Call_Name_kw (ld_blt I hg hm (show bootBuiltins "list" = some (.type "list") by decide +kernel) (PyProof.Rows.callWith_type1 (args_cons (Call_ (ld_blt I hg2 hm2 PyProof.Rows.boot_reversed (PyProof.Rows.callWith_type1 (args_cons (thn (he.run pins s σ H _ I h) fun u s1 ⟨v, H1, I1, r1, q1⟩ => args_nil ?_) hs) hs rfl))) hs2) hs2 rfl))
  obtain ⟨a, xs, ev, hq, q⟩ := q1
  subst ev
  obtain rfl : u = Value.ref a := r1
  obtain ⟨its, rv, p', hz⟩ := I1.list hq
  refine call_reversed_list p'.isList (args_nil ?_)
  have k0 : ∀ b o, s1.heap.get? b = some o → (s1.heap.push (revObj a ((its.toArray.size : Int) - 1))).get? b = some o := fun b o e => Heap.get?_push_of_some _ e
  have I2 : Inv X pins σ H1 { s1 with heap := s1.heap.push (revObj a ((its.toArray.size : Int) - 1)) } := I1.kept (t' := s1.toks) k0
  obtain ⟨f0, f1, f2, f3, f4, f5⟩ := I1.fpOk (H' := H1) (b := s1.heap.objs.size) (Nat.le_refl _) (I1.hok.fresh (Nat.le_refl _))
  have hl := p'.isList
  obtain ⟨ol, hol, _⟩ := id hl
  have hne : a ≠ s1.heap.objs.size := Nat.ne_of_lt (Heap.lt_size hol)
  have hn : its.toArray.size ≤ sizeLine := by rw [List.size_toArray, ← rv.length]; exact hz
  have hsz : (s1.heap.push (revObj a ((its.toArray.size : Int) - 1))).objs.size ≠ s1.heap.objs.size := by rw [size_push']; omega
  refine rl_call (s := { s1 with heap := s1.heap.push (revObj a ((its.toArray.size : Int) - 1)) }) (I1.ok.hd hc) ⟨_, Heap.get?_push_size _ rfl, rfl, rfl⟩ (hl.push _) hne hn fun h' tk acc c' hk hS hi => ?_
  refine ⟨.ref (s1.heap.push (revObj a ((its.toArray.size : Int) - 1))).objs.size, upd H1 (s1.heap.push (revObj a ((its.toArray.size : Int) - 1))).objs.size (.lst xs.reverse), I2.turnedNew (t' := tk) (ch := [s1.heap.objs.size]) (fun b o hb e => hk b o (fun z => hb (by simp [z])) e) (fun b hb => by
      have e : b = s1.heap.objs.size := by simpa using hb
      subst e
      exact ⟨f0, f1, f2, f3, f4, f5⟩) (Nat.le_refl _) (show ObjOk X.prog X.w _ _ _ (.lst xs.reverse) from ⟨by rw [List.length_reverse]; exact hz, acc.toList, c', RT.vals_rev rv hi, by rw [Array.toArray_toList]; exact hS⟩), rfl, q _ (I2.hok.fresh (Nat.le_refl _))⟩
/-- list(d.keys()) -/
def tListKeys (te : TE) : TE := fun σ H Q => te σ H fun x H1 => ∃ (a : Addr) (kvs : List (Key × V)), x = .ref a ∧ H1 a = some (.dK kvs) ∧ ∀ q, H1 q = none → Q (.ref q) (upd H1 q (.lst (kvs.map fun kv => kV kv.1)))
theorem pe_listKeys {e : Expr} {te : TE} {p apos cpos pos : Pos} (hc : X.calm = true) (he : PE X e te) (hg : Gl X "list") (hm : X.mg "list" = none) (hbase : attributeBase e "keys" X.env (eval e X.env) = eval e X.env := by rfl) (hline : (apos.endLine == cpos.line) = true := by rfl)
    (hs : starEach [.Call (.Attribute e "keys" apos) [] [] cpos] X.env = (false, eval (.Call (.Attribute e "keys" apos) [] [] cpos) X.env) :: starEach [] X.env := by rfl) :
    PE X (.Call (.Name "list" p) [.Call (.Attribute e "keys" apos) [] [] cpos] [] pos) (tListKeys te) := by
  refine ⟨fun pins s σ H Q I hq => ?_⟩
  refine wpAny_Call_Name_kw (ld_blt I hg hm (show bootBuiltins "list" = some (.type "list") by decide +kernel) ?_)
  refine PyProof.Rows.callWith_type1 ?_ hs rfl
  rw [hs]
  show wpAny _ _ (spliced ((false, eval (.Call (.Attribute e "keys" apos) [] [] cpos) X.env) :: backTo pos (starEach [] X.env))) _ _ s
  refine Calls.spliced_cons ?_
  refine wpAny_Call_method (T := "dict") (id := "dict.keys") hbase rfl hline F.plainAttrs_dict F.slot_dict_keys F.type_dict_keys (thn (he.run pins s σ H _ I hq) fun u s1 ⟨x, H1, I1, rx, d, kvs, ex, hd, q⟩ => ?_)
  subst ex
  obtain rfl : u = Value.ref d := rx
  obtain ⟨hz, hs0, vs, kv, hdo⟩ := I1.hok d _ hd
  obtain ⟨ep, hat⟩ := hdo.dictAt
  have lk : kvs.length = vs.length := Paired.length kv
  have I2 : Inv X pins σ H1 { s1 with heap := s1.heap.push { cls := .type "dict_keys", data := .fields #[.ref d] } } := I1.kept (t' := s1.toks) fun b ob q => Heap.get?_push_of_some _ q
  refine ⟨hdo.typeIs, hdo.mapOf.noDict, ?_⟩
  show wpAny _ _ (callWith cpos (.builtin "dict.keys") [.ref d] [] []) _ X.xe s1
  refine method_meetsIn F.slot_dict_keys F.entry_dict_keys rfl (PySem.evalArgs_none ⟨rfl, hdo.typeIs, F.args_dict_keys_1 _, _, PySem.W.kdl_meets_keys (mixKind X.prog X.w) d hs0, ⟨⟨vs, hdo⟩, ?_⟩⟩)
  refine Calls.spliced_nil ?_
  refine PySem.W.kdl_call (PySem.W.kdl_keys (knd := mixKind X.prog X.w) (kvs := vs) (ep := ep)) (I1.ok.hd hc) ⟨⟨_, Heap.get?_push_size _ rfl, rfl, rfl⟩, hat.push _⟩ (by rw [← lk]; exact hz) fun h' tk acc' c' hkeep hS hacc => ?_
  refine ⟨.ref (s1.heap.push { cls := .type "dict_keys", data := .fields #[.ref d] }).objs.size, upd H1 (s1.heap.push { cls := .type "dict_keys", data := .fields #[.ref d] }).objs.size (.lst (kvs.map fun kv => kV kv.1)), I2.laid (t' := tk) hkeep (Nat.le_refl _) (show ObjOk X.prog X.w _ _ _ (.lst (kvs.map fun kv => kV kv.1)) from ⟨?_, acc'.toList, c', ?_, ?_⟩), rfl, q _ (I2.hok.fresh (Nat.le_refl _))⟩
  · rw [List.length_map]; exact hz
  · have el : acc'.toList.length = acc'.size := by simp
    refine vals_of_at (by rw [List.length_map, el, hacc.1, lk]) fun j x w h1 h2 => ?_
    obtain ⟨k, y, hky, hi⟩ := hacc.2 j w (by rw [← Array.getElem?_toList]; exact h2)
    have e1 : (kvs.map (·.1))[j]? = some k := by
      rw [KV.keys kv, List.getElem?_map, hky] <;> rfl
    have e2 : (kvs.map fun kv => kV kv.1)[j]? = some (kV k) := by
      have e3 : (kvs.map fun kv => kV kv.1) = (kvs.map (·.1)).map kV := by rw [List.map_map] <;> rfl
      rw [e3, List.getElem?_map, e1] <;> rfl
    rw [e2] at h1
    cases h1
    exact keyIs_rel hi
  · rw [Array.toArray_toList]; exact hS
end

/-! ### by data -/
section
variable {X : Cx} {W : WX} {a b c : Expr} {fa fb fc : FE} {p p2 pos pos2 apos cpos : Pos}
def fListRev (f : FE) : FE := fun δ Q ED => f δ (fun r => match r.d with
  | .list ds => Q (.fr (.list ds.reverse))
  | _ => False) ED
theorem de_listRev (hc : X.calm = true) (hm : X.mg "list" = none) (hm2 : X.mg "reversed" = none) (ha : DE X W a fa) (hg : Gl X "list" := by rfl) (hg2 : Gl X "reversed" := by rfl) (hs : starEach [a] X.env = (false, eval a X.env) :: starEach [] X.env := by rfl)
    (hs2 : starEach [.Call (.Name "reversed" p2) [a] [] pos2] X.env = (false, eval (.Call (.Name "reversed" p2) [a] [] pos2) X.env) :: starEach [] X.env := by rfl) :
    DE X W (.Call (.Name "list" p) [.Call (.Name "reversed" p2) [a] [] pos2] [] pos) (fListRev fa) :=
  peImp (pe_listRev hc hg hm hg2 hm2 ha hs hs2) fun σ H Q ⟨en, ad, bg, Hs, δ, QD, ED, E, h, k, kx⟩ => cE_seq E h (fun v r Hs1 H1 E1 s1 R1 b1 q1 => by
    split at q1
    · rename_i ds e
      obtain ⟨q, xs, rfl, h1, h2⟩ := R1.items E1 e
      exact ⟨q, xs, rfl, .inl (.inl h1), fun t ht => (k.step s1).lst E1 q1 h2.reverse t ht⟩
    · exact q1.elim) kx
def fListKeys (f : FE) : FE := fun δ Q ED => f δ (fun r => match r.d with
  | .dict kds => kds.all (fun p => scK p.1) = true ∧ Q (.fr (.list (keysD kds)))
  | _ => False) ED
theorem de_listKeys (hc : X.calm = true) (hm : X.mg "list" = none) (ha : DE X W a fa) (hg : Gl X "list" := by rfl) (hbase : attributeBase a "keys" X.env (eval a X.env) = eval a X.env := by rfl) (hline : (apos.endLine == cpos.line) = true := by rfl)
    (hs : starEach [.Call (.Attribute a "keys" apos) [] [] cpos] X.env = (false, eval (.Call (.Attribute a "keys" apos) [] [] cpos) X.env) :: starEach [] X.env := by rfl) :
    DE X W (.Call (.Name "list" p) [.Call (.Attribute a "keys" apos) [] [] cpos] [] pos) (fListKeys fa) :=
  peImp (pe_listKeys hc ha hg hm hbase hline hs) fun σ H Q ⟨en, ad, bg, Hs, δ, QD, ED, E, h, k, kx⟩ => cE_seq E h (fun v r Hs1 H1 E1 s1 R1 b1 q1 => by
    split at q1
    · rename_i kds e
      obtain ⟨q, kvs, ds, rfl, h1, h2, rfl⟩ := R1.dictK E1 e q1.1
      have hl := h2.length
      rw [List.length_map] at hl
      exact ⟨q, kvs, rfl, h1, fun t ht => (k.step s1).lst E1 q1.2 (keys_rp kvs ds hl.symm) t ht⟩
    · exact q1.elim) kx

def dictW (d : D) (Q : List (D × D) → Prop) : Prop := match d with
  | .dict kds => kds.all (fun p => scK p.1) = true ∧ Q kds
  | _ => False
theorem dictW_inv {d : D} {Q : List (D × D) → Prop} (h : dictW d Q) : ∃ kds, d = .dict kds ∧ kds.all (fun p => scK p.1) = true ∧ Q kds := by
  unfold dictW at h
  split at h
  · exact ⟨_, rfl, h⟩
  · exact h.elim
/-- d.get(k, x) -/
def fGet2 (f g h : FE) : FE := fun δ Q ED => f δ (fun r => dictW r.d fun kds => g δ (fun t => h δ (fun u => scK t.d = true ∧ Q (match lookD kds t.d with | some d => .sh d | none => u)) ED) ED) ED
theorem isD_of {K : Fg} {en ad bg Hs H} {σ : Sg} {δ v r} {kds : List (D × D)} (h : VRel K en ad bg Hs H σ δ v r) (E : EnvOk K en ad bg Hs H σ δ) (hd : r.d = .dict kds) (hk : kds.all (fun p => scK p.1) = true) : ∃ a, v = .ref a ∧ IsD H a := by
  obtain ⟨a, kvs, ds, rfl, h1, _⟩ := h.dictK E hd hk
  exact ⟨a, rfl, .inl ⟨kvs, .of h1⟩⟩
theorem de_get2 (hu : X.A.units + 1 < cLine) (ha : DE X W a fa) (hb : DE X W b fb) (hc : DE X W c fc) (m : M2 X a "get" apos b c cpos := by exact ⟨rfl, rfl, rfl, rfl⟩) : DE X W (.Call (.Attribute a "get" apos) [b, c] [] cpos) (fGet2 fa fb fc) :=
  peImp (pe_dget2 hu ha hb hc m) fun σ H Q ⟨en, ad, bg, Hs, δ, QD, ED, E, h, k, kx⟩ => cE_seq E h (fun v r Hs1 H1 E1 s1 R1 b1 q1 => by
    obtain ⟨kds, e, al, q1⟩ := dictW_inv q1
    obtain ⟨t, rfl, hD⟩ := isD_of R1 E1 e al
    refine ⟨t, rfl, hD, cE_seq E1 q1 (fun v2 r2 Hs2 H2 E2 s2 R2 b2 q2 => ?_) kx⟩
    refine cE_seq E2 q2 (fun v3 r3 Hs3 H3 E3 s3 R3 b3 q3 => ?_) kx
    obtain ⟨a, kvs, ds, ev, h1, h2, rfl⟩ := ((R1.step s2).step s3).dictK E3 e al
    cases ev
    obtain ⟨j, rfl, ej⟩ := scK_key ((R2.step s3).rp E3) q3.1
    have q4 := q3.2
    rw [ej] at q4
    have hl := look_val keyD eqv_key j kvs ds h2
    refine ⟨valV kvs j, .k h1, ?_⟩
    cases e5 : lookD ((kvs.map fun p => keyD p.1).zip ds) (keyD j) with
    | some d =>
      obtain ⟨z, hz, rz⟩ := hl.1 d e5
      rw [e5] at q4
      rw [hz]
      exact (((k.step s1).step s2).step s3).sh E3 q4 rz
    | none =>
      rw [e5] at q4
      have e6 : valV kvs j = none := by
        have := hl.2
        rw [e5] at this
        cases e7 : valV kvs j with
        | none => rfl
        | some z => rw [e7] at this; cases this
      rw [e6]
      exact (((k.step s1).step s2)) _ _ _ _ E3 s3 R3 b3 q4) kx
/-- {} -/
def fDct0 : FE := fun _ Q _ => Q (.fr (.dict []))
theorem de_dct0 : DE X W (.Dict [] [] pos) fDct0 :=
  peImp pe_dnewK fun σ H Q ⟨en, ad, bg, Hs, δ, QD, ED, E, h, k, kx⟩ => fun p hp => by
    obtain ⟨E', s, n, n0, nb, na⟩ := E.addO (o := .dK []) hp
    exact k _ (.fr (.dict [])) _ _ E' s ⟨p, rfl, n, n0, nb, na, .inl ⟨[], [], upd_same, .nil, rfl⟩⟩ ⟨p, rfl, hp⟩ h
theorem EnvOk.tick {K : Fg} {en : En} {ad : Nat → Option Addr} {bg : List Addr} {Hs H A B : Hp} {σ : Sg} {δ : List Slot} {p : Addr} {o o' : HO} (E : EnvOk K en ad bg Hs H σ δ) (s : Step bg A B Hs H) (hp : H p = some o) (h1 : Hs p = none) (h2 : en.H0 p = none) (h3 : p ∉ bg) (h4 : ∀ j, ad j ≠ some p) (hB : B p = none) :
    EnvOk K en ad bg Hs (upd H p o') σ δ ∧ Step bg A B Hs (upd H p o') := by
  have off : ∀ c u, c ≠ p → H c = some u → upd H p o' c = some u := fun c u n e => by rw [upd_ne n]; exact e
  have dom : ∀ c, H c ≠ none → upd H p o' c ≠ none := fun c e => by
    by_cases h : c = p
    · rw [h, upd_same]; simp
    · rw [upd_ne h]; exact e
  refine ⟨⟨E.len, ⟨E.st.sh, fun c u e hc => off c u (fun z => by rw [z, h2] at e; cases e) (E.st.keep c u e hc), fun c e => dom c (E.st.dom c e), E.st.new⟩, fun c u e => off c u (fun z => by rw [z, h1] at e; cases e) (E.sub c u e), fun j sl h => ?_, E.inj, fun j c h => ⟨(E.out j c h).1, dom c (E.out j c h).2⟩, E.bgs, ?_, E.bw⟩,
    ⟨s.sh, fun c u e hc => off c u (fun z => by rw [z, hB] at e; cases e) (s.keep c u e hc), fun c e => dom c (s.dom c e), s.new⟩⟩
  · have q := E.slot j sl h
    cases sl with
    | ow d2 =>
      obtain ⟨c, f1, f2, f3, f4, f5⟩ := q
      exact ⟨c, f1, f2, f3, f4, f5.move (Same.refl _) fun y hy => off c y (fun z => h4 j (by rw [f2, z])) hy⟩
    | _ => exact q
  · rcases E.bok with z | ⟨b, c, z, nc, cells, y, m, z1, z2, z3⟩
    · exact .inl z
    · exact .inr ⟨b, c, z, nc, cells, y, m, off _ _ (fun w => h3 (by rw [z, ← w]; simp)) z1, off _ _ (fun w => h3 (by rw [z, ← w]; simp)) z2, z3⟩
/-- {k: v} -/
def fDct1 (f g : FE) : FE := fun δ Q ED => f δ (fun r => scK r.d = true ∧ g δ (fun t => stab t fun d => Q (.fr (.dict [(r.d, d)]))) ED) ED
theorem de_dct1 (ha : DE X W a fa) (hb : DE X W b fb) : DE X W (.Dict [some a] [b] pos) (fDct1 fa fb) :=
  peImp (pe_disp (pps_cons (tk := cE X.K W fa) (tv := cE X.K W fb) ha hb pps_nil) rfl rfl (by simp) (by simp)) fun σ H Q ⟨en, ad, bg, Hs, δ, QD, ED, E, h, k, kx⟩ => fun p hp => by
    obtain ⟨E0, s0, n, n0, nb, na⟩ := E.addO (o := .dK []) hp
    refine cE_seq E0 h (fun v r Hs1 H1 E1 s1 R1 b1 q1 => ?_) kx
    refine cE_seq E1 q1.2 (fun v2 r2 Hs2 H2 E2 s2 R2 b2 q2 => ?_) kx
    obtain ⟨Hs3, E3, s3, rp, sm, q3⟩ := E2.stab s2 R2 b2 q2
    have sA := s1.trans s3
    have hp2 : H2 p = some (.dK []) := sA.keep _ _ upd_same nb
    have hs3 : Hs3 p = none := by
      cases u : Hs3 p with
      | none => rfl
      | some o =>
        rcases sA.new p (by rw [u]; simp) with z | z
        · exact absurd n z
        · rw [upd_same] at z; cases z
    obtain ⟨j, rfl, ej⟩ := scK_key (R1.rp E1) q1.1
    refine ⟨hp2, [(j, v2)], rfl, by simp, ?_⟩
    obtain ⟨E4, s4⟩ := E3.tick (o' := .dK (mergeK [] [(j, v2)])) (s0.trans sA) hp2 hs3 n0 nb na hp
    have em : mergeK ([] : List (Key × V)) [(j, v2)] = [(j, v2)] := rfl
    refine k _ (.fr (.dict [(keyD j, r2.d)])) _ _ E4 s4 ⟨p, rfl, hs3, n0, nb, na, .inl ⟨[(j, v2)], [r2.d], by rw [upd_same, em], .cons rp .nil, rfl⟩⟩ ⟨p, rfl, hp⟩ ?_
    rw [← ej]
    exact q3
end
end DL

/-! DL17: the bag inside its own defs. -/
namespace DL
open PySem PySem.Spec PyProof.Rows L2
section
variable {K : Fg} {en : En} {ad : Nat → Option Addr} {bg : List Addr} {Hs H : Hp} {σ : Sg} {δ : List Slot}
/-- the bag is written -/
theorem EnvOk.bagPut {b c q : Addr} {o' : HO} (E : EnvOk K en ad [b, c] Hs H σ δ) (hq : q = b ∨ q = c) (hbc : b ≠ c) (bat : BagAt (upd H q o') b c) : EnvOk K en ad [b, c] Hs (upd H q o') σ δ := by
  have qb : q ∈ [b, c] := by rcases hq with rfl | rfl <;> simp
  have off : ∀ x u, x ∉ [b, c] → H x = some u → upd H q o' x = some u := fun x u n e => by
    rw [upd_ne (fun z => n (by rw [z]; exact qb))]; exact e
  have dom : ∀ x, H x ≠ none → upd H q o' x ≠ none := fun x e => by
    by_cases h : x = q
    · rw [h, upd_same]; simp
    · rw [upd_ne h]; exact e
  refine ⟨E.len, ⟨E.st.sh, fun x u e hx => ?_, fun x e => dom x (E.st.dom x e), E.st.new⟩, fun x u e => off x u (fun z => by rw [(E.bgs x z).1] at e; cases e) (E.sub x u e), fun i s h => ?_, E.inj, fun i a h => ⟨(E.out i a h).1, dom a (E.out i a h).2⟩, E.bgs, .inr ⟨b, c, rfl, hbc, bat⟩, E.bw⟩
  · refine off x u (fun z => ?_) (E.st.keep x u e hx)
    rcases (E.bgs x z).2 with w | w
    · exact hx w
    · rw [w] at e; cases e
  · have r := E.slot i s h
    cases s with
    | ow d =>
      obtain ⟨a, e1, e2, e3, e4, o⟩ := r
      exact ⟨a, e1, e2, e3, e4, o.move (Same.refl _) fun u e => off a u (E.out i a e2).1 e⟩
    | _ => exact r
theorem EnvOk.bagOf {i : Nat} (E : EnvOk K en ad bg Hs H σ δ) (h : δ[i]? = some .bag) : ∃ (b c : Addr) (cells : List Int) (x m : Int), bg = [b, c] ∧ σ[i]? = some (some (.ref b)) ∧ b ≠ c ∧ H b = some (.lst [.ref c, .int x, .int m]) ∧ H c = some (.lst (cells.map V.int)) ∧ (∀ z ∈ cells, 0 ≤ z) ∧ 0 ≤ x ∧ 0 ≤ m ∧ BagTop m := by
  obtain ⟨b, c, e1, e2⟩ := E.slot i _ h
  rcases E.bok with z | ⟨b', c', z, nc, cells, x, m, h1, h2, h3⟩
  · rw [e2] at z; cases z
  · rw [e2] at z
    cases z
    exact ⟨b, c, cells, x, m, e2, e1, nc, h1, h2, h3⟩
/-- a name forgotten -/
theorem EnvOk.drop (E : EnvOk K en ad bg Hs H σ δ) (i : Nat) : EnvOk K en (setAd ad i none) bg Hs H σ (δ.set i .no) := by
  refine ⟨by rw [List.length_set]; exact E.len, E.st, E.sub, fun j s h => ?_, fun j l c h1 h2 => ?_, fun j c h => ?_, E.bgs, E.bok, E.bw⟩
  · by_cases e : i = j
    · subst e
      by_cases hi : i < δ.length
      · rw [List.getElem?_set_self hi] at h; cases h; trivial
      · rw [List.getElem?_eq_none (by rw [List.length_set]; omega)] at h; cases h
    · rw [List.getElem?_set_ne e] at h
      have q := E.slot j s h
      cases s with
      | ow d2 => obtain ⟨c, f1, f2, f3⟩ := q; exact ⟨c, f1, by rw [setAd_ne e]; exact f2, f3⟩
      | _ => exact q
  · unfold setAd at h1 h2
    split at h1
    · cases h1
    · split at h2
      · cases h2
      · exact E.inj j l c h1 h2
  · unfold setAd at h
    split at h
    · cases h
    · exact E.out j c h
end
section
variable {X : Cx} {W : WX} {e vx : Expr} {fe : FE} {p pos pa pb pc pd pe pf pg ph pi pj : Pos} {i c : Nat} {x y : Str}
/-- bag[1], bag[2] -/
def fBagI (i : Nat) (k : Int) : FE := fun δ Q _ => δ[i]? = some .bag ∧ ∀ n : Int, 0 ≤ n → (k = 2 → BagTop n) → Q (.sh (.int n))
theorem pe_bagName (i : Nat) (hN : X.N[i]? = some x) (hv : Vis X.env.scope x) (hd : (x == ("__debug__" : Str)) = false) (hcd : (x == ("__classdict__" : Str)) = false) : PE X (.Name x p) (tVar i) := pe_var hN hv hd hcd
theorem de_bagGet (i : Nat) {n : Int} {j} (hn : n = 1 ∨ n = 2 := by decide) (hN : X.N[i]? = some x := by rfl) (hv : Vis X.env.scope x := by first | exact Or.inl rfl | exact Or.inr (Or.inl rfl) | exact Or.inr (Or.inr rfl)) (hd : (x == ("__debug__" : Str)) = false := by decide)
    (hcd : (x == ("__classdict__" : Str)) = false := by decide) (hs : PlainIx (.Constant (.int n) j pa) := by exact fun _ _ => rfl) : DE X W (.Subscript (.Name x p) (.Constant (.int n) j pa) pos) (fBagI i n) :=
  peImp (pe_ix ix_list (pe_var hN hv hd hcd) pe_int hs) fun σ H Q ⟨en, ad, bg, Hs, δ, QD, ED, E, ⟨h1, h2⟩, k, kx⟩ => by
    obtain ⟨b, c, cells, u, m, rfl, e1, nc, hb, hc, g1, g2, g3⟩ := E.bagOf h1
    refine ⟨.ref b, e1, b, _, n, if n = 1 then .int u else .int m, rfl, rfl, .inl (.inl hb), ?_, ?_⟩
    · rcases hn with rfl | rfl <;> rfl
    · rcases hn with rfl | rfl
      · exact k.sc E (h2 u g2 (fun z => absurd z (by decide))) (.int u)
      · exact k.sc E (h2 m g3.1 (fun _ => g3.2)) (.int m)
def nnW (k : Int) (d : D) (P : Prop) : Prop := intW d fun n => (0 ≤ n ∧ (k = 2 → BagTop n)) ∧ P
/-- bag[1] = e, bag[2] = e -/
def fBagS (i : Nat) (k : Int) (f : FE) : FS := fun Z δ => δ[i]? = some .bag ∧ f δ (fun r => nnW k r.d (Z.nx δ)) fun x => Z.ex x δ
theorem ds_bagSet (i : Nat) {n : Int} {j} (he : DE X W e fe) (hn : n = 1 ∨ n = 2 := by decide) (hN : X.N[i]? = some x := by rfl) (hv : Vis X.env.scope x := by first | exact Or.inl rfl | exact Or.inr (Or.inl rfl) | exact Or.inr (Or.inr rfl)) (hd : (x == ("__debug__" : Str)) = false := by decide)
    (hcd : (x == ("__classdict__" : Str)) = false := by decide)
    (hp : ∀ v, assign (.Subscript (.Name x p) (.Constant (.int n) j pa) pb) X.env v = (do
      let ov ← holding [v] (eval (.Name x p) X.env)
      let iv ← holding [v, ov] (eval (.Constant (.int n) j pa) X.env)
      standAt pb
      holding [v, ov, iv] (setItem ov iv v)
      release [v, ov, iv] []) := by intro _; rfl)
    (hs : swapsWithSole [Expr.Subscript (.Name x p) (.Constant (.int n) j pa) pb] e pos.line X.env = pure false := by rfl) (hw : swappedStores [Expr.Subscript (.Name x p) (.Constant (.int n) j pa) pb] e X.env = pure none := by rfl)
    (h1 : (assignEach [Expr.Subscript (.Name x p) (.Constant (.int n) j pa) pb] X.env).map (·.2) = [assign (.Subscript (.Name x p) (.Constant (.int n) j pa) pb) X.env] := by rfl) :
    DS X W (.Assign [.Subscript (.Name x p) (.Constant (.int n) j pa) pb] e pos) (fBagS i n fe) :=
  psImp (ps_asg (te := cE X.K W fe) he (pg_sub (to := tVar i) (ti := tC (.int n)) (pe_var hN hv hd hcd) pe_int set_list hp) hs hw h1) fun Z σ H ⟨en, ad, bg, Hs, δ, DD, E, ⟨g0, h⟩, kk⟩ => ⟨en, ad, bg, Hs, δ, _, _, E, h, fun v r Hs1 H1 E1 s1 R1 b1 q1 => by
    obtain ⟨z, rfl, hz, q⟩ := intW_inv q1 (R1.rp E1)
    obtain ⟨b, c, cells, u, m, rfl, e1, nc, hb, hc, g1, g2, g3⟩ := E1.bagOf g0
    refine ⟨.ref b, e1, b, [.ref c, .int u, .int m], n, n.toNat, rfl, rfl, hb, ?_, ?_⟩
    · rcases hn with rfl | rfl <;> rfl
    · have hc' : upd H1 b (.lst ([.ref c, .int u, .int m].set n.toNat (.int z))) c = some (.lst (cells.map V.int)) := by rw [upd_ne nc.symm]; exact hc
      refine kk.nx _ _ _ _ _ _ (E1.bagPut (.inl rfl) nc ?_) q
      rcases hn with rfl | rfl
      · exact ⟨cells, z, m, upd_same, hc', g1, hz.1, g3⟩
      · exact ⟨cells, u, z, upd_same, hc', g1, g2, hz.1, hz.2 rfl⟩, kk.kx ad bg σ δ⟩
end

/-! ### the loop that looks for a great cell -/
section
variable {X : Cx} {W : WX} {vx : Expr} {fe : FE} {i c : Nat} {x y : Str}
abbrev bagT (K : Fg) (i : Nat) : TT := tAnd (tTest (tOp (rEqA K) (tOp (rIxL K) (tVar i) (tC (.int 1))) (tC (.int 0)))) (tTest (tOp (rNeA K) (tOp (rIxL K) (tVar i) (tC (.int 0))) (tLst tNil)))
theorem shaped_ints (ns : List Int) : SeqAt.shaped (.list (ns.map PyData.int)) = true := by
  have h1 : PyData.canLay0 (.list (ns.map PyData.int)) = true := by
    unfold PyData.canLay0
    induction ns with
    | nil => rfl
    | cons n ns ih => simpa [PyData.canLay0, PyData.canLayAll0] using ih
  have h2 : (PyData.list (ns.map PyData.int)).depth ≤ 64 := by
    have : ∀ ms : List Int, PyData.depthAll (ms.map PyData.int) ≤ 1 := by
      intro ms
      induction ms with
      | nil => simp [PyData.depthAll]
      | cons n ms ih => simp [PyData.depthAll, PyData.depth]; omega
    have := this ns
    simp [PyData.depth]; omega
  unfold SeqAt.shaped
  rw [h1, decide_eq_true h2]; rfl

theorem dp_ints {K : Fg} {H : Hp} : ∀ ns : List Int, DpAll K H (ns.map V.int) (ns.map PyData.int)
  | [] => .nil
  | n :: ns => .cons (.int n) (dp_ints ns)
theorem eqv_nil (ns : List Int) : PyData.eqv (.list (ns.map PyData.int)) (.list []) = ns.isEmpty := by
  cases ns <;> simp [PyData.eqv, PyData.eqvAll]
theorem bagT_run {K : Fg} {en : En} {ad : Nat → Option Addr} {Hs H : Hp} {σ : Sg} {δ : List Slot} {b cc : Addr} {cells : List Int} {u m : Int} {Q : Bool → Hp → Prop} (E : EnvOk K en ad [b, cc] Hs H σ δ) (e1 : σ[i]? = some (some (.ref b)))
    (nc : b ≠ cc) (hb : H b = some (.lst [.ref cc, .int u, .int m])) (hc : H cc = some (.lst (cells.map V.int)))
    (q : ∀ H', EnvOk K en ad [b, cc] Hs H' σ δ → H' b = some (.lst [.ref cc, .int u, .int m]) → H' cc = some (.lst (cells.map V.int)) → Q (decide (u = 0) && !cells.isEmpty) H') : bagT K i σ H Q := by
  refine ⟨.ref b, e1, b, [.ref cc, .int u, .int m], 1, .int u, rfl, rfl, .inl (.inl hb), rfl, .inl ⟨rfl, decide (u = 0), by simp, ?_⟩⟩
  by_cases hu : u = 0
  · rw [decide_eq_true hu]
    refine iteT ?_
    refine ⟨.ref b, e1, b, [.ref cc, .int u, .int m], 0, .ref cc, rfl, rfl, .inl (.inl hb), rfl, by simp, fun p hp => .inr ⟨.list (cells.map PyData.int), .list [], ?_, ?_, shaped_ints cells, rfl, (!cells.isEmpty), ?_, ?_⟩⟩
    · exact .lst (.inl (.inl (by rw [upd_ne (ne_of_none hc hp)]; exact hc))) (dp_ints _)
    · exact .lst (.inl (.inl upd_same)) .nil
    · rw [eqv_nil]
    · have := q (upd H p (.lst [])) (E.addO hp).1 (by rw [upd_ne (ne_of_none hb hp)]; exact hb) (by rw [upd_ne (ne_of_none hc hp)]; exact hc)
      rw [decide_eq_true hu, Bool.true_and] at this
      exact this
  · have := q H E hb hc
    rw [decide_eq_false hu, Bool.false_and] at this
    rw [decide_eq_false hu]
    exact iteF this
variable {p1 p2 p3 p4 p5 p6 p7 p8 p9 p10 p11 p12 p13 p14 p15 p16 p17 p18 p19 pos apos cpos : Pos} {j1 j2 j3 j4 j5 : Option Str}
theorem pt_bag {jj1 jj2 jj3} (i : Nat) (hu : X.A.units + 64 < cLine) (hN : X.N[i]? = some x) (hv : Vis X.env.scope x) (hd : (x == ("__debug__" : Str)) = false) (hcd : (x == ("__classdict__" : Str)) = false) :
    PT X (.BoolOp .And [.Compare (.Subscript (.Name x p1) (.Constant (.int 1) jj1 p2) p3) [.Eq] [.Constant (.int 0) jj2 p4] p5, .Compare (.Subscript (.Name x p6) (.Constant (.int 0) jj3 p7) p8) [.NotEq] [.List [] p9] p10] p11) (bagT X.K i) :=
  PW.pt (pw_and (pt_cmpR (op_eqAll hu) (pe_ix ix_list (pe_var hN hv hd hcd) pe_int (fun _ _ => rfl)) pe_int (by first | exact nobehind _ (by decide) (by decide) | rfl)) (pw_and1 (pt_cmpR (op_neAll hu) (pe_ix ix_list (pe_var hN hv hd hcd) pe_int (fun _ _ => rfl)) (pe_lst pa_nil) (by first | exact nobehind _ (by decide) (by decide) | rfl))))
def tPopB (K : Fg) (i : Nat) : TE := tBM0 K "list" rPop (tOp (rIxL K) (tVar i) (tC (.int 0)))
theorem popB_run {K : Fg} {en : En} {ad : Nat → Option Addr} {Hs H : Hp} {σ : Sg} {δ : List Slot} {b cc : Addr} {cells : List Int} {u m : Int} {Q : VK} (E : EnvOk K en ad [b, cc] Hs H σ δ) (e1 : σ[i]? = some (some (.ref b)))
    (nc : b ≠ cc) (hb : H b = some (.lst [.ref cc, .int u, .int m])) (hc : H cc = some (.lst (cells.map V.int))) (g1 : ∀ z ∈ cells, 0 ≤ z) (g2 : 0 ≤ u) (g3 : 0 ≤ m ∧ BagTop m) (ne : cells ≠ [])
    (q : ∀ n H', 0 ≤ n → EnvOk K en ad [b, cc] Hs H' σ δ → H' b = some (.lst [.ref cc, .int u, .int m]) → H' cc = some (.lst (cells.dropLast.map V.int)) → Q (.int n) H') : tPopB K i σ H Q := by
  have hl : cells.length - 1 < cells.length := by
    cases cells with
    | nil => exact absurd rfl ne
    | cons a l => simp
  have hg : cells[cells.length - 1]? = some cells[cells.length - 1] := List.getElem?_eq_getElem hl
  refine ⟨.ref b, e1, b, [.ref cc, .int u, .int m], 0, .ref cc, rfl, rfl, .inl (.inl hb), rfl, .inl ⟨rfl, _, .inl (.inl hc)⟩, cc, cells.map V.int, .int cells[cells.length - 1], rfl, rfl, hc, ?_, ?_⟩
  · rw [List.length_map, List.getElem?_map, hg]; rfl
  · have hb' : upd H cc (.lst (cells.map V.int).dropLast) b = some (.lst [.ref cc, .int u, .int m]) := by rw [upd_ne nc]; exact hb
    have hc' : upd H cc (.lst (cells.map V.int).dropLast) cc = some (.lst (cells.dropLast.map V.int)) := by rw [upd_same, List.map_dropLast]
    exact q _ _ (g1 _ (List.getElem_mem hl)) (E.bagPut (.inr rfl) nc ⟨cells.dropLast, u, m, hb', hc', fun z hz => g1 z ((List.dropLast_sublist cells).subset hz), g2, g3⟩) hb' hc'
def fBagW (i c : Nat) : FS := fun Z δ => δ[i]? = some .bag ∧ (i ≠ c ∧ c < δ.length) ∧ Z.nx (δ.set c .no)
/-- y if y > 10 ** k else 0, by its value -/
def tNN (c : Nat) : TE := fun σ H Q => ∃ n : Int, σ[c]? = some (some (.int n)) ∧ ∀ n', (n' = n ∨ n' = 0) → Q (.int n') H
theorem pe_great {k : Int} {jj1 jj2 jj3} (c : Nat) (hk : CPow 10 k) (hN : X.N[c]? = some y) (hv : Vis X.env.scope y) (hd : (y == ("__debug__" : Str)) = false) (hcd : (y == ("__classdict__" : Str)) = false) :
    PE X (.IfExp (.Compare (.Name y p1) [.Gt] [.BinOp (.Constant (.int 10) jj1 p2) .Pow (.Constant (.int k) jj2 p3) p4] p5) (.Name y p6) (.Constant (.int 0) jj3 p7) pos) (tNN c) :=
  ⟨fun pins s σ H Q I h => (pe_ifExp (pt_cmpR op_gt (pe_var hN hv hd hcd) (pe_op op_pow pe_int pe_int) (by first | exact nobehind _ (by decide) (by decide) | rfl)) (pe_var hN hv hd hcd) pe_int).run pins s σ H Q I (by
    obtain ⟨n, e, h⟩ := h
    refine ⟨.int n, e, 10, k, rfl, rfl, hk, n, _, rfl, rfl, _, rfl, ?_⟩
    by_cases g : (10 : Int) ^ k.toNat < n
    · rw [decide_eq_true g]
      exact iteT ⟨_, e, h n (.inl rfl)⟩
    · rw [decide_eq_false g]
      exact iteF (h 0 (.inr rfl)))⟩
def BagInv (K : Fg) (en : En) (i : Nat) (δ : List Slot) (m : Nat) (σ : Sg) (H : Hp) : Prop :=
  ∃ (ad : Nat → Option Addr) (Hs : Hp) (b cc : Addr) (cells : List Int) (u v : Int), EnvOk K en ad [b, cc] Hs H σ δ ∧ σ[i]? = some (some (.ref b)) ∧ b ≠ cc ∧ H b = some (.lst [.ref cc, .int u, .int v]) ∧ H cc = some (.lst (cells.map V.int)) ∧ (∀ z ∈ cells, 0 ≤ z) ∧ 0 ≤ u ∧ (0 ≤ v ∧ BagTop v) ∧ cells.length = m
theorem BagInv.of {K : Fg} {en : En} {ad : Nat → Option Addr} {bg : List Addr} {Hs H : Hp} {σ : Sg} {δ : List Slot} (E : EnvOk K en ad bg Hs H σ δ) (h : δ[i]? = some .bag) : ∃ m, BagInv K en i δ m σ H := by
  obtain ⟨b, cc, cells, u, v, rfl, e1, nc, hb, hcc, a1, a2, a3⟩ := E.bagOf h
  exact ⟨cells.length, _, _, b, cc, cells, u, v, E, e1, nc, hb, hcc, a1, a2, a3, rfl⟩
theorem pe_popB {jj} (i : Nat) (hN : X.N[i]? = some x) (hv : Vis X.env.scope x) (hd : (x == ("__debug__" : Str)) = false) (hcd : (x == ("__classdict__" : Str)) = false)
    (hbase : attributeBase (.Subscript (.Name x p13) (.Constant (.int 0) jj p14) p15) "pop" X.env (eval (.Subscript (.Name x p13) (.Constant (.int 0) jj p14) p15) X.env) = eval (.Subscript (.Name x p13) (.Constant (.int 0) jj p14) p15) X.env) (hline : (apos.endLine == cpos.line) = true) :
    PE X (.Call (.Attribute (.Subscript (.Name x p13) (.Constant (.int 0) jj p14) p15) "pop" apos) [] [] cpos) (tPopB X.K i) :=
  pe_bm0 PySem.F.plainAttrs_list PySem.F.slot_list_pop PySem.F.type_list_pop mt_pop (pe_ix ix_list (pe_var hN hv hd hcd) pe_int (fun _ _ => rfl)) hbase hline

/-- while bag[1] == 0 and bag[0] != []: y = bag[0].pop(); bag[1] = e -/
theorem ds_bagW {jj1 jj2 jj3 jj4 jj5} (i c : Nat) (hu : X.A.units + 64 < cLine) (hpo : PassesOwn (model X.prog X.w) X.A X.env X.xe) (hNd : X.N.Nodup) (he : PE X vx (tNN c)) (hN : X.N[i]? = some x := by rfl) (hc : X.N[c]? = some y := by rfl)
    (hv : Vis X.env.scope x := by first | exact Or.inl rfl | exact Or.inr (Or.inl rfl) | exact Or.inr (Or.inr rfl)) (hd : (x == ("__debug__" : Str)) = false := by decide) (hcd : (x == ("__classdict__" : Str)) = false := by decide)
    (hl : Loc X.env.scope y := by first | exact .inl rfl | exact .inr rfl) (hf : X.fn y = true ∨ X.env.scope.names.lookup y = some .local := by first | exact .inl rfl | exact .inr rfl)
    (hbase : attributeBase (.Subscript (.Name x p13) (.Constant (.int 0) jj4 p14) p15) "pop" X.env (eval (.Subscript (.Name x p13) (.Constant (.int 0) jj4 p14) p15) X.env) = eval (.Subscript (.Name x p13) (.Constant (.int 0) jj4 p14) p15) X.env := by rfl) (hline : (apos.endLine == cpos.line) = true := by rfl)
    (hsw : swapsWith (.Call (.Attribute (.Subscript (.Name x p13) (.Constant (.int 0) jj4 p14) p15) "pop" apos) [] [] cpos) (some (.Name y p12)) p16.line X.env = pure false := by rfl)
    (hp : ∀ v, assign (.Subscript (.Name x p17) (.Constant (.int 1) jj5 p18) p19) X.env v = (do
      let ov ← holding [v] (eval (.Name x p17) X.env)
      let iv ← holding [v, ov] (eval (.Constant (.int 1) jj5 p18) X.env)
      standAt p19
      holding [v, ov, iv] (setItem ov iv v)
      release [v, ov, iv] []) := by intro _; rfl)
    {p20 : Pos} (hs : swapsWithSole [Expr.Subscript (.Name x p17) (.Constant (.int 1) jj5 p18) p19] vx p20.line X.env = pure false := by rfl) (hw : swappedStores [Expr.Subscript (.Name x p17) (.Constant (.int 1) jj5 p18) p19] vx X.env = pure none := by rfl)
    (h1 : (assignEach [Expr.Subscript (.Name x p17) (.Constant (.int 1) jj5 p18) p19] X.env).map (·.2) = [assign (.Subscript (.Name x p17) (.Constant (.int 1) jj5 p18) p19) X.env] := by rfl) :
    DS X W (.While (.BoolOp .And [.Compare (.Subscript (.Name x p1) (.Constant (.int 1) jj1 p2) p3) [.Eq] [.Constant (.int 0) jj2 p4] p5, .Compare (.Subscript (.Name x p6) (.Constant (.int 0) jj3 p7) p8) [.NotEq] [.List [] p9] p10] p11)
      [.Assign [.Name y p12] (.Call (.Attribute (.Subscript (.Name x p13) (.Constant (.int 0) jj4 p14) p15) "pop" apos) [] [] cpos) p16, .Assign [.Subscript (.Name x p17) (.Constant (.int 1) jj5 p18) p19] vx p20] [] pos) (fBagW i c) :=
  psImp (ps_while hpo (pt_bag i hu hN hv hd hcd) (pss_cons (ps_set (i := c) hNd hc hl (pe_popB i hN hv hd hcd hbase hline) hsw hf) (pss_one (ps_asg he (pg_sub (to := tVar i) (ti := tC (.int 1)) (pe_var hN hv hd hcd) pe_int set_list hp) hs hw h1)))) fun Z σ H ⟨en, ad, bg, Hs, δ, DD, E0, ⟨g0, ⟨hic, hcl⟩, hnx⟩, kk⟩ => by
    have E := E0.drop c
    have g1 : (δ.set c .no)[i]? = some .bag := by rw [List.getElem?_set_ne (Ne.symm hic)]; exact g0
    refine ⟨BagInv X.K en i (δ.set c .no), BagInv.of E g1, ?_⟩
    rintro m σ H ⟨ad, Hs, b, cc, cells, u, v, E, e1, nc, hb, hcc, a1, a2, a3, rfl⟩
    refine bagT_run E e1 nc hb hcc fun H1 E1 hb1 hcc1 => ?_
    by_cases hcond : (decide (u = 0) && !cells.isEmpty) = true
    · rw [hcond]
      refine iteT ⟨fun σ' H' => ∃ m', m' < cells.length ∧ BagInv X.K en i (δ.set c .no) m' σ' H', fun σ' H' h => h, ?_⟩
      have ne : cells ≠ [] := fun z => by subst z; simp at hcond
      refine popB_run E1 e1 nc hb1 hcc1 a1 a2 a3 ne fun n H2 hn E2 hb2 hcc2 => ?_
      have E3 := E2.setS (v := .int n) (d := .int n) c (by rw [List.length_set]; exact hcl) (.int n)
      rw [List.set_set] at E3
      have E4 := E3.drop c
      rw [List.set_set] at E4
      have hcs : c < σ.length := by rw [E.len, List.length_set]; exact hcl
      refine ⟨n, List.getElem?_set_self hcs, fun n' hn' => ?_⟩
      have e2 : (σ.set c (some (.int n)))[i]? = some (some (.ref b)) := by rw [List.getElem?_set_ne (Ne.symm hic)]; exact e1
      have hn0 : 0 ≤ n' := by rcases hn' with rfl | rfl <;> omega
      refine ⟨.ref b, e2, b, [.ref cc, .int u, .int v], 1, 1, rfl, rfl, hb2, rfl, ?_⟩
      have hcc3 : upd H2 b (.lst [.ref cc, .int n', .int v]) cc = some (.lst (cells.dropLast.map V.int)) := by rw [upd_ne nc.symm]; exact hcc2
      have a1' : ∀ z ∈ cells.dropLast, 0 ≤ z := fun z hz => a1 z ((List.dropLast_sublist cells).subset hz)
      refine ⟨cells.dropLast.length, ?_, _, Hs, b, cc, cells.dropLast, n', v, E4.bagPut (.inl rfl) nc ⟨cells.dropLast, n', v, upd_same, hcc3, a1', hn0, a3⟩, e2, nc, upd_same, hcc3, a1', hn0, a3, rfl⟩
      rw [List.length_dropLast]
      have : cells.length ≠ 0 := fun z => ne (List.length_eq_zero_iff.mp z)
      omega
    · have hf : (decide (u = 0) && !cells.isEmpty) = false := by simpa using hcond
      rw [hf]
      exact iteF (kk.nx _ _ _ _ _ _ E1 hnx)
/-- if bag[1] == 0 and bag[0] != []: bag[1] = bag[0].pop() -/
def fBagIf (i : Nat) : FS := fun Z δ => δ[i]? = some .bag ∧ Z.nx δ
theorem ds_bagIf {jj1 jj2 jj3 jj4 jj5} (i : Nat) (hu : X.A.units + 64 < cLine) (hN : X.N[i]? = some x := by rfl)
    (hv : Vis X.env.scope x := by first | exact Or.inl rfl | exact Or.inr (Or.inl rfl) | exact Or.inr (Or.inr rfl)) (hd : (x == ("__debug__" : Str)) = false := by decide) (hcd : (x == ("__classdict__" : Str)) = false := by decide)
    (hbase : attributeBase (.Subscript (.Name x p13) (.Constant (.int 0) jj4 p14) p15) "pop" X.env (eval (.Subscript (.Name x p13) (.Constant (.int 0) jj4 p14) p15) X.env) = eval (.Subscript (.Name x p13) (.Constant (.int 0) jj4 p14) p15) X.env := by rfl) (hline : (apos.endLine == cpos.line) = true := by rfl)
    (hp : ∀ v, assign (.Subscript (.Name x p17) (.Constant (.int 1) jj5 p18) p19) X.env v = (do
      let ov ← holding [v] (eval (.Name x p17) X.env)
      let iv ← holding [v, ov] (eval (.Constant (.int 1) jj5 p18) X.env)
      standAt p19
      holding [v, ov, iv] (setItem ov iv v)
      release [v, ov, iv] []) := by intro _; rfl)
    {p20 : Pos} (hs : swapsWithSole [Expr.Subscript (.Name x p17) (.Constant (.int 1) jj5 p18) p19] (.Call (.Attribute (.Subscript (.Name x p13) (.Constant (.int 0) jj4 p14) p15) "pop" apos) [] [] cpos) p20.line X.env = pure false := by rfl) (hw : swappedStores [Expr.Subscript (.Name x p17) (.Constant (.int 1) jj5 p18) p19] (.Call (.Attribute (.Subscript (.Name x p13) (.Constant (.int 0) jj4 p14) p15) "pop" apos) [] [] cpos) X.env = pure none := by rfl)
    (h1 : (assignEach [Expr.Subscript (.Name x p17) (.Constant (.int 1) jj5 p18) p19] X.env).map (·.2) = [assign (.Subscript (.Name x p17) (.Constant (.int 1) jj5 p18) p19) X.env] := by rfl) :
    DS X W (.If (.BoolOp .And [.Compare (.Subscript (.Name x p1) (.Constant (.int 1) jj1 p2) p3) [.Eq] [.Constant (.int 0) jj2 p4] p5, .Compare (.Subscript (.Name x p6) (.Constant (.int 0) jj3 p7) p8) [.NotEq] [.List [] p9] p10] p11)
      [.Assign [.Subscript (.Name x p17) (.Constant (.int 1) jj5 p18) p19] (.Call (.Attribute (.Subscript (.Name x p13) (.Constant (.int 0) jj4 p14) p15) "pop" apos) [] [] cpos) p20] [] pos) (fBagIf i) :=
  psImp (ps_if (pt_bag i hu hN hv hd hcd) (pss_one (ps_asg (pe_popB i hN hv hd hcd hbase hline) (pg_sub (to := tVar i) (ti := tC (.int 1)) (pe_var hN hv hd hcd) pe_int set_list hp) hs hw h1)) pss_nil) fun Z σ H ⟨en, ad, bg, Hs, δ, DD, E, ⟨g0, hnx⟩, kk⟩ => by
    obtain ⟨b, cc, cells, u, v, rfl, e1, nc, hb, hcc, a1, a2, a3⟩ := E.bagOf g0
    refine bagT_run E e1 nc hb hcc fun H1 E1 hb1 hcc1 => ?_
    by_cases hcond : (decide (u = 0) && !cells.isEmpty) = true
    · rw [hcond]
      refine iteT ?_
      have ne : cells ≠ [] := fun z => by subst z; simp at hcond
      refine popB_run E1 e1 nc hb1 hcc1 a1 a2 a3 ne fun n H2 hn E2 hb2 hcc2 => ?_
      refine ⟨.ref b, e1, b, [.ref cc, .int u, .int v], 1, 1, rfl, rfl, hb2, rfl, ?_⟩
      have hcc3 : upd H2 b (.lst [.ref cc, .int n, .int v]) cc = some (.lst (cells.dropLast.map V.int)) := by rw [upd_ne nc.symm]; exact hcc2
      exact kk.nx _ _ _ _ _ _ (E2.bagPut (.inl rfl) nc ⟨cells.dropLast, n, v, upd_same, hcc3, fun z hz => a1 z ((List.dropLast_sublist cells).subset hz), hn, a3⟩) hnx
    · have hf : (decide (u = 0) && !cells.isEmpty) = false := by simpa using hcond
      rw [hf]
      exact iteF (kk.nx _ _ _ _ _ _ E1 hnx)
end
end DL

/-! DL18: the def that makes the bag; script[:63]. -/
namespace DL
open PySem PySem.Spec PyProof.Rows L2
section
variable {X : Cx} {W : WX} {p pa p2 pos : Pos} {x : Str}
/-- script[:63] -/
def fScr (i : Nat) : FE := fun δ Q _ => ∃ ns, δ[i]? = some (.scr ns) ∧ ns.length ≤ 63 ∧ Q (.fr (.list (ns.map PyData.int)))
theorem cutV_all {xs : List V} (h : xs.length ≤ 63) : cutV xs none (some 63) = xs := by
  have e1 : HT.sIx xs.length 0 none = 0 := rfl
  have e2 : HT.sIx xs.length xs.length (some 63) = xs.length := by
    unfold HT.sIx
    simp
    omega
  show (xs.drop _).take _ = xs
  rw [e1, e2, List.drop_zero, Nat.sub_zero, List.take_length]
theorem de_scr (i : Nat) {j} (hN : X.N[i]? = some x := by rfl) (hv : Vis X.env.scope x := by first | exact Or.inl rfl | exact Or.inr (Or.inl rfl) | exact Or.inr (Or.inr rfl)) (hd : (x == ("__debug__" : Str)) = false := by decide)
    (hcd : (x == ("__classdict__" : Str)) = false := by decide) : DE X W (.Subscript (.Name x p) (.Slice none (some (.Constant (.int 63) j pa)) none p2) pos) (fScr i) :=
  peImp (pe_slice sl_list (pe_var hN hv hd hcd) po_none (po_some pe_int)) fun σ H Q ⟨en, ad, bg, Hs, δ, QD, ED, E, ⟨ns, e, hl, q⟩, k, kx⟩ => by
    obtain ⟨a, e1, hS, _⟩ := E.slot i _ e
    refine ⟨.ref a, e1, ?_⟩
    refine ⟨63, rfl, a, ns.map V.int, rfl, (hS.mono E.sub).sq, fun q' hq' => ?_⟩
    rw [cutV_all (by rw [List.length_map]; exact hl)]
    exact k.lst E q (RpA.ints ns) q' hq'
end
section
variable {P : Program} {w : World} {K : Fg} {mg : Str → Option Value} {base : Heap} {x y : Str} {st : Stmt} {f : Addr} {fd : FuncData} {N : List Str} {k : Nat} {fb : FS}
def isBagD (d : D) : Prop := ∃ (cells : List Int) (u m : Int), d = .list [.list (cells.map PyData.int), .int u, .int m] ∧ (∀ z ∈ cells, 0 ≤ z) ∧ 0 ≤ u ∧ 0 ≤ m ∧ BagTop m
def endsO : DEnds := ⟨fun _ => False, isBagD, fun _ => False, fun _ => False, fun _ _ => False⟩
/-- the objects that nobody of ours made -/
def frozen (H : Hp) : Hp := fun a => match H a with
  | some (.frz o u) => some (.frz o u)
  | _ => none
theorem frozen_same (H : Hp) : Same (frozen H) H := fun a o h => by
  unfold frozen at h
  split at h
  · rename_i e; rw [e]; exact h
  · cases h
theorem frozen_lst {H Hs : Hp} {a : Addr} {xs : List V} (s : Same (frozen H) Hs) (h : Hs a = some (.lst xs)) : frozen H a = none := by
  cases e : frozen H a with
  | none => rfl
  | some o =>
    have := s _ _ e
    rw [h] at this
    cases this
    unfold frozen at e
    split at e <;> cases e
theorem scr_frozen {K : Fg} {H : Hp} {a : Addr} {xs : List V} (h : Scr K H a xs) : Scr K (frozen H) a xs := by
  rcases h with ⟨o, h⟩ | h
  · exact .inl ⟨o, by unfold frozen; rw [h]⟩
  · exact .inr h
theorem fnO (F : Fun K x x st f fd) (S : FnScope N [y] (defScope st)) (der : Reads P w K mg base N x st f k fb) (law : ∀ ns : List Int, ns.length ≤ 63 → fb endsO (startL N ns)) : FnG P w K mg base (k + 1) f fd [y] (spO K) := by
  refine FnG.of F S (fun vs H Q E h => ?_) fun cdv A outer s H vs Q E hgd hr h => ⟨cS K (fun cls d _ H => E cls d H) fb, der cdv A outer s H E hgd hr, ?_⟩
  · obtain ⟨a, ns, rfl, _⟩ := h
    rfl
  · obtain ⟨a, ns, rfl, hS, hl, fin⟩ := h
    refine ⟨⟨frozen H, H, []⟩, fun _ => none, [], frozen H, startL N ns, endsO, ⟨?_, .refl _ _ _, frozen_same H, fun i t ht => ?_, fun _ _ _ z => (nomatch z), fun _ _ z => (nomatch z), fun _ z => (nomatch z), .inl rfl, fun z => absurd rfl z⟩, law ns hl, ?_⟩
    · unfold L2.start startL
      simp
    · unfold startL at ht
      rw [start_get (n := 0)]
      cases i with
      | zero => cases ht; exact ⟨a, by simp, scr_frozen hS, rfl⟩
      | succ i =>
        rw [List.getElem?_cons_succ, List.getElem?_replicate] at ht
        split at ht
        · cases ht; trivial
        · cases ht
    · refine ⟨fun _ _ _ _ _ _ _ z => z.elim, fun _ _ _ _ _ _ _ z => z.elim, fun _ _ _ _ _ _ _ z => z.elim, fun ad bg Hs' δ σ H' v d E' rv qq => ?_, fun _ _ _ _ _ _ _ _ _ _ _ z => z.elim⟩
      obtain ⟨cells, u, m, rfl, g1, g2, g3⟩ := (show isBagD d from qq)
      cases rv with
      | lst hb rb =>
        rename_i b xs
        cases rb with
        | cons r1 rb =>
          cases rb with
          | cons r2 rb =>
            cases rb with
            | cons r3 rb =>
              cases rb
              cases r2
              cases r3
              cases r1 with
              | lst hc rc =>
                rename_i c ys
                have ey := rc.ints_inv
                subst ey
                have nb : H b = none := by
                  rcases E'.st.new b (by rw [hb]; simp) with z | z
                  · exact absurd (frozen_lst E'.st.sh hb) z
                  · exact z
                have ncc : H c = none := by
                  rcases E'.st.new c (by rw [hc]; simp) with z | z
                  · exact absurd (frozen_lst E'.st.sh hc) z
                  · exact z
                refine fin b c H' (fun z => ?_) nb ncc (fun q o e => E'.st.keep q o e (nomatch ·)) ⟨cells, u, m, E'.sub _ _ hb, E'.sub _ _ hc, g1, g2, g3⟩
                subst z
                rw [hb] at hc
                cases cells with
                | nil => cases hc
                | cons n l => cases hc
end
end DL
namespace DL
/-- a target that goes on -/
def Rc (g : FG) : Prop := ∀ r δ P, g r δ P → ∃ δ', P δ'
def Rs (f : FGs) (n : Nat) : Prop := ∀ ds δ P, f ds δ P → ds.length = n ∧ ∃ δ', P δ'
theorem rs_nil : Rs tgNil 0 := fun ds δ P h => ⟨by rw [h.1]; rfl, _, h.2⟩
theorem rs_cons {g : FG} {f : FGs} {n : Nat} (hg : Rc g) (hf : Rs f n) : Rs (tgCons g f) (n + 1) := fun ds δ P h => by
  cases ds with
  | nil => exact h.elim
  | cons d ds =>
    obtain ⟨δ', h'⟩ := hg _ _ _ (show g (.sh d) δ (fun δ' => f ds δ' P) from h)
    obtain ⟨e, q⟩ := hf _ _ _ h'
    exact ⟨by rw [List.length_cons, e], q⟩
theorem rc_name (i : Nat) : Rc (tgName i) := fun r δ P h => by
  obtain ⟨_, h⟩ := h
  cases r with
  | sh d => exact ⟨_, h⟩
  | fr d => exact ⟨_, h⟩
  | br j d => exact h.elim
theorem rc_tup {f : FGs} {n : Nat} (hf : Rs f n) : Rc (tgTup f) := fun r δ P h => by
  unfold tgTup at h
  split at h
  · exact (hf _ _ _ h).2
  · exact h.elim
theorem Rs.len {f : FGs} {n : Nat} (h : Rs f n) (ds : List D) (δ : List Slot) (Q : List Slot → Prop) (q : f ds δ Q) : ds.length = n := (h ds δ Q q).1
end DL

/-! DL19: calls that look at what the caller owns, and answer without a list. -/
namespace DL
open PySem PySem.Spec PyProof.Rows L2
mutual
def noLst : D → Bool
  | .list _ => false
  | .dict _ => false
  | .tuple ds => noLstA ds
  | _ => true
def noLstA : List D → Bool
  | [] => true
  | d :: ds => noLst d && noLstA ds
end
def dropH (L : List Addr) (H : Hp) : Hp := fun a => if a ∈ L then none else H a
def liftH (L : List Addr) (Hs H : Hp) : Hp := fun a => if a ∈ L then H a else Hs a
mutual
theorem Rp.less {K : Fg} {H : Hp} {L : List Addr} (hL : ∀ a ∈ L, ∀ xs, H a ≠ some (.tup xs)) : ∀ {v : V} {d : D}, Rp K H v d → noLst d = true → Rp K (dropH L H) v d
  | _, _, .non, _ => .non
  | _, _, .bl b, _ => .bl b
  | _, _, .int i, _ => .int i
  | _, _, .str x, _ => .str x
  | _, _, .lst h r, n => by simp [noLst] at n
  | _, _, .tup (a := a) h r, n => .tup (by unfold dropH; rw [if_neg (fun z => hL a z _ h)]; exact h) (RpA.less hL r (by simpa [noLst] using n))
  | _, _, .dK h r, n => by simp [noLst] at n
  | _, _, .dT h m r, n => by simp [noLst] at n
theorem RpA.less {K : Fg} {H : Hp} {L : List Addr} (hL : ∀ a ∈ L, ∀ xs, H a ≠ some (.tup xs)) : ∀ {vs : List V} {ds : List D}, RpA K H vs ds → noLstA ds = true → RpA K (dropH L H) vs ds
  | _, _, .nil, _ => .nil
  | _, _, .cons h r, n => .cons (Rp.less hL h (by simp [noLstA] at n; exact n.1)) (RpA.less hL r (by simp [noLstA] at n; exact n.2))
end
section
variable {K : Fg} {en : En} {ad : Nat → Option Addr} {bg : List Addr} {Hs H : Hp} {σ : Sg} {δ : List Slot}
/-- the addresses that are only looked at -/
def Lent (K : Fg) (bg : List Addr) (Hs H : Hp) (L : List Addr) : Prop := ∀ a ∈ L, Hs a = none ∧ a ∉ bg ∧ H a ≠ none ∧ ∀ xs, H a ≠ some (.tup xs)
theorem OwnO.notTup {a : Addr} {d : D} (o : OwnO K Hs H a d) : H a ≠ none ∧ ∀ xs, H a ≠ some (.tup xs) := by
  cases d with
  | list ds => obtain ⟨xs, e, _⟩ := o; rw [e]; exact ⟨by simp, fun _ z => by cases z⟩
  | dict kds =>
    rcases o with ⟨kvs, ds, e, _⟩ | ⟨kvs, ds, e, _⟩
    · rw [e]; exact ⟨by simp, fun _ z => by cases z⟩
    · rw [e]; exact ⟨by simp, fun _ z => by cases z⟩
  | _ => exact o.elim
theorem lift_same {L : List Addr} (h : Lent K bg Hs H L) : Same Hs (liftH L Hs H) := fun a o e => by
  unfold liftH
  rw [if_neg (fun z => by rw [(h a z).1] at e; cases e)]
  exact e
theorem lift_sub {L : List Addr} (sub : Same Hs H) : Same (liftH L Hs H) H := fun a o e => by
  unfold liftH at e
  split at e
  · exact e
  · exact sub a o e
/-- all arguments, lent -/
theorem lend (E : EnvOk K en ad bg Hs H σ δ) : ∀ {vs : List V} {rs : List Res}, VRelL K en ad bg Hs H σ δ vs rs → ∃ L, Lent K bg Hs H L ∧ RpA K (liftH L Hs H) vs (rs.map Res.d)
  | _, _, .nil => ⟨[], fun a z => (nomatch z), .nil⟩
  | _, _, .cons (v := v) (r := r) h t => by
    obtain ⟨L, hL, rt⟩ := lend E t
    have more : ∀ a d, v = .ref a → r.d = d → Hs a = none → a ∉ bg → OwnO K Hs H a d → ∃ L, Lent K bg Hs H L ∧ RpA K (liftH L Hs H) (v :: _) (r.d :: _) := fun a d ev ed n nb o => by
      have hL' : Lent K bg Hs H (a :: L) := fun c hc => by
        rcases List.mem_cons.mp hc with rfl | hc
        · exact ⟨n, nb, o.notTup.1, o.notTup.2⟩
        · exact hL c hc
      have up : Same (liftH L Hs H) (liftH (a :: L) Hs H) := fun c u e => by
        unfold liftH at e ⊢
        split at e
        · rename_i z; rw [if_pos (List.mem_cons_of_mem _ z)]; exact e
        · rename_i z
          by_cases hc : c ∈ a :: L
          · rw [if_pos hc]; exact E.sub c u e
          · rw [if_neg hc]; exact e
      refine ⟨a :: L, hL', .cons ?_ (rt.mono up)⟩
      subst ev
      rw [ed]
      have o2 : OwnO K (liftH (a :: L) Hs H) (liftH (a :: L) Hs H) a d := o.move (lift_same hL') fun u e => by
        unfold liftH; rw [if_pos (by simp)]; exact e
      exact o2.rp (Same.refl _)
    cases r with
    | sh d => exact ⟨L, hL, .cons (Rp.mono (lift_same hL) h) rt⟩
    | fr d =>
      obtain ⟨a, e, n, n0, nb, na, o⟩ := h
      exact more a d e rfl n nb o
    | br i d =>
      obtain ⟨z1, z2⟩ := h
      obtain ⟨a, e1, e2, e3, e4, o⟩ := E.slot i _ z1
      rw [z2] at e1
      cases e1
      exact more a d rfl rfl e3 (E.out _ _ e2).1 o
/-- the frame behind a call that was lent something -/
theorem lent_back {L : List Addr} {Hs' H' : Hp} (hL : Lent K bg Hs H L) (s : Step bg (liftH L Hs H) H Hs' H') (sub : Same Hs' H') : Step bg Hs H (dropH L Hs') H' ∧ Same (dropH L Hs') H' := by
  refine ⟨⟨fun a o e => ?_, s.keep, s.dom, fun a e => ?_⟩, fun a o e => ?_⟩
  · unfold dropH
    have : a ∉ L := fun z => by rw [(hL a z).1] at e; cases e
    rw [if_neg this]
    exact s.sh a o (lift_same hL a o e)
  · unfold dropH at e
    split at e
    · exact absurd rfl e
    · rename_i z
      rcases s.new a e with w | w
      · unfold liftH at w; rw [if_neg z] at w; exact .inl w
      · exact .inr w
  · unfold dropH at e
    split at e
    · cases e
    · exact sub a o e
theorem lent_rp {L : List Addr} {bg' : List Addr} {Hs' H' : Hp} {v : V} {d : D} (hL : Lent K bg Hs H L) (s : Step bg' (liftH L Hs H) H Hs' H') (sub : Same Hs' H') (hb : ∀ a ∈ bg', a ∈ bg) (r : Rp K Hs' v d) (n : noLst d = true) : Rp K (dropH L Hs') v d :=
  r.less (fun a ha xs e => by
    obtain ⟨h1, h2, h3, h4⟩ := hL a ha
    cases q : H a with
    | none => exact h3 q
    | some o =>
      have := s.keep a o q (fun z => h2 (hb a z))
      rw [sub _ _ e] at this
      cases this
      exact h4 xs q) n
end
def fCallN (g : SpD) (f : FR) : FE := fun δ Q ED => f δ (fun rs => g (rs.map Res.d) (fun d => noLst d = true ∧ Q (.sh d)) fun _ => False) fun x => ED x
def fCallBN (i : Nat) (g : SpD) (f : FR) : FE := fun δ Q ED => δ[i]? = some .bag ∧ f δ (fun rs => g (rs.map Res.d) (fun d => noLst d = true ∧ Q (.sh d)) fun _ => False) fun x => ED x
section
variable {X : Cx} {W : WX} {k : Nat} {f : Addr} {fd : FuncData} {ps ks : List Str} {g : SpD} {x y : Str} {p p1 pos : Pos} {e : Expr} {es : List Expr} {t : FR}
theorem de_callN (F : FnG X.prog X.w X.K X.mg X.base k f fd ps (spP X.K g)) (hgd : X.A.guards = some []) (hr : Room k X.A) (tk : Takes X W) (hm : X.mg x = some (.ref f)) (hk : PySem.W.keepIn X.K (.ref f) = true) (hb : Binds X.K fd ps []) (ha : DR X W (e :: es) t)
    (hg : Gl X x := by rfl) (hdb : (x == ("__debug__" : Str)) = false := by decide) (he : starEach (e :: es) X.env = (false, eval e X.env) :: starEach es X.env := by rfl) (hpl : (backTo pos (starEach es X.env)).any (·.1) = false := by rfl) :
    DE X W (.Call (.Name x p) (e :: es) [] pos) (fCallN g t) :=
  peImp (pe_G (t := cR X.K W t) F hgd hr tk hm hk hb ha hg hdb he hpl) fun σ H Q ⟨en, ad, bg, Hs, δ, QD, ED, E, h, kk, kx⟩ => ⟨en, ad, bg, Hs, δ, _, ED, E, h, fun vs rs Hs1 H1 E1 s1 r1 q1 => by
    obtain ⟨L, hL, rL⟩ := lend E1 r1
    have bk : ∀ {Hs' H' : Hp}, Step [] (liftH L Hs1 H1) H1 Hs' H' → bg = [] ∨ ∃ b c, bg = [b, c] ∧ b ≠ c ∧ BagAt H' b c := fun {Hs' H'} s => by
      rcases E1.bok with z | ⟨b, c, z, nc, cells, x, m, e1, e2, w⟩
      · exact .inl z
      · exact .inr ⟨b, c, z, nc, cells, x, m, s.keep _ _ e1 (by simp), s.keep _ _ e2 (by simp), w⟩
    refine ⟨liftH L Hs1 H1, _, _, _, rL, lift_sub E1.sub, q1, fun v d Hs' H' s sub rv qd => ?_, fun cls dx x Hs' H' s sub xr ex => ex.elim⟩
    obtain ⟨sB, subB⟩ := lent_back hL s.weak sub
    exact (kk.step s1) v (.sh d) (dropH L Hs') H' (E1.call sB subB (bk s)) sB (lent_rp hL s sub (fun a z => (nomatch z)) rv qd.1) trivial qd.2, kx⟩
theorem de_callBN (i : Nat) (F : FnG X.prog X.w X.K X.mg X.base k f fd ps (spB X.K g)) (hgd : X.A.guards = some []) (hr : Room k X.A) (tk : Takes X W) (hm : X.mg x = some (.ref f)) (hk : PySem.W.keepIn X.K (.ref f) = true) (hb : Binds X.K fd ps []) (ha : DR X W es t)
    (hN : X.N[i]? = some y := by rfl) (hv : Vis X.env.scope y := by first | exact Or.inl rfl | exact Or.inr (Or.inl rfl) | exact Or.inr (Or.inr rfl)) (hd : (y == ("__debug__" : Str)) = false := by decide) (hcd : (y == ("__classdict__" : Str)) = false := by decide)
    (hg : Gl X x := by rfl) (hdb : (x == ("__debug__" : Str)) = false := by decide) (he : starEach (.Name y p1 :: es) X.env = (false, eval (.Name y p1) X.env) :: starEach es X.env := by rfl) (hpl : (backTo pos (starEach es X.env)).any (·.1) = false := by rfl) :
    DE X W (.Call (.Name x p) (.Name y p1 :: es) [] pos) (fCallBN i g t) :=
  peImp (pe_G (t := tCons (tVar i) (cR X.K W t)) F hgd hr tk hm hk hb (pa_cons (pe_var hN hv hd hcd) ha he) hg hdb he hpl) fun σ H Q ⟨en, ad, bg, Hs, δ, QD, ED, E, ⟨hi, h⟩, kk, kx⟩ => by
    obtain ⟨b, c, e1, e2⟩ := E.slot i _ hi
    refine ⟨.ref b, e1, en, ad, bg, Hs, δ, _, ED, E, h, fun vs rs Hs1 H1 E1 s1 r1 q1 => ?_, kx⟩
    subst e2
    rcases E1.bok with z | ⟨b', c', z, nc, w⟩
    · cases z
    · cases z
      obtain ⟨L, hL, rL⟩ := lend E1 r1
      have nl : ∀ q, q ∈ [b, c] → liftH L Hs1 H1 q = none := fun q hq => by
        unfold liftH
        rw [if_neg (fun z => (hL q z).2.1 hq)]
        exact (E1.bgs q hq).1
      refine ⟨b, c, vs, liftH L Hs1 H1, _, _, fun _ => False, rfl, nc, w, nl b (by simp), nl c (by simp), rL, lift_sub E1.sub, q1, fun v d Hs' H' s sub w' rv qd => ?_, fun cls dx x Hs' H' s sub w' xr ex => ex.elim⟩
      obtain ⟨sB, subB⟩ := lent_back hL s sub
      exact (kk.step s1) v (.sh d) (dropH L Hs') H' (E1.call sB subB (.inr ⟨b, c, rfl, nc, w'⟩)) sB (lent_rp hL s sub (fun a z => z) rv qd.1) trivial qd.2
end
end DL

namespace G61
open PySem PySem.Spec PyProof.Rows L2 DL
def topS (i : Nat) : Stmt := PySem.Challenge.pw_tokensteps_k61_whole_main_counted.main.body.getD i (.Pass ⟨0, 0, 0, 0⟩)
/-- where a def stands -/
structure At (K : Fg) (mg : Str → Option Value) (x : Str) (st : Stmt) (ps : List Str) (f : Addr) (fd : FuncData) : Prop where
  g : mg x = some (.ref f)
  fn : Fun K x x st f fd
  b : Binds K fd ps []
section
variable {P : Program} {w : World} {K : Fg} {mg : Str → Option Value} {base : Heap} {f : Addr}

/-! ### change_of -/
abbrev N_change_of : List Str := ["net", "k", "taken", "put"]
def F_change_of : FS := fRet (fTuple (fLc (fiZip (fCons (fIx (fIx (fVar 0) (fVar 1)) (fC (.int 0))) (fCons (fIx (fIx (fVar 0) (fVar 1)) (fC (.int 1))) fNil))) (tgTup (tgCons (tgName 2) (tgCons (tgName 3) tgNil))) fYes (fSub (fVar 3) (fVar 2)) [2, 3]))
theorem sc_change_of : FnScope N_change_of ["net", "k"] (defScope (topS 1)) := ⟨rfl, rfl, rfl, by decide +kernel, rfl, by decide +kernel, by decide +kernel⟩
theorem der_change_of (b_zip : mg "zip" = none)
    (b_tuple : mg "tuple" = none) : Reads P w K mg base N_change_of "change_of" (topS 1) f 0 F_change_of := by
  intro cdv A outer s H E hgd hr
  have hN : N_change_of.Nodup := by decide +kernel
  have hu := hu_of hr
  exact dss_one (ds_ret (de_tuple b_tuple (de_lc rfl hN (di_zip b_zip (da_cons (de_ix hu (de_ix hu (de_var 0) (de_var 1)) de_int) (da_cons (de_ix hu (de_ix hu (de_var 0) (de_var 1)) de_int) da_nil))) (own := [("taken", 2), ("put", 3)]) (blkOk_by (by rfl)) (fun _ _ _ _ _ => dg_tup rfl (dgs_cons (dg_name 2 hN) (dgs_cons (dg_name 3 hN) dgs_nil)) 2 (Rs.len (rs_cons (rc_name 2) (rs_cons (rc_name 3) rs_nil)))) (fun _ _ _ _ _ => dts_nil) (fun _ _ _ _ _ => de_sub (de_var 3) (de_var 2)))))
/-! ### rises_of -/
abbrev N_rises_of : List Str := ["net", "k"]
def F_rises_of (G_change_of : SpD) : FS := fRet (fLc (fiRng1 (fLen (fVar 0))) (tgName 1) fYes (fTup (fCons (fIx (fIx (fIx (fVar 0) (fVar 1)) (fC (.int 0))) (fC (.int 0))) (fCons (fIx (fCall G_change_of (fCons (fVar 0) (fCons (fVar 1) fNil))) (fC (.int 0))) fNil))) [1])
theorem sc_rises_of : FnScope N_rises_of ["net"] (defScope (topS 5)) := ⟨rfl, rfl, rfl, by decide +kernel, rfl, by decide +kernel, by decide +kernel⟩
theorem der_rises_of (b_len : mg "len" = none)
    (b_range : mg "range" = none)
    {f_change_of : Addr} {fd_change_of : FuncData} {G_change_of : SpD} (A_change_of : At K mg "change_of" (topS 1) ["net", "k"] f_change_of fd_change_of)
    (F_change_of : FnG P w K mg base 1 f_change_of fd_change_of ["net", "k"] (spP K G_change_of)) : Reads P w K mg base N_rises_of "rises_of" (topS 5) f 1 (F_rises_of G_change_of) := by
  intro cdv A outer s H E hgd hr
  have hN : N_rises_of.Nodup := by decide +kernel
  have hu := hu_of hr
  exact dss_one (ds_ret (de_lc rfl hN (di_rng1 b_range (de_len b_len (de_var 0))) (own := [("k", 1)]) (blkOk_by (by rfl)) (fun _ _ _ _ _ => dg_name 1 hN) (fun _ _ _ _ _ => dts_nil) (fun _ _ _ _ _ => de_tup (da_cons (de_ix hu (de_ix hu (de_ix hu (de_var 0) (de_var 1)) de_int) de_int) (da_cons (de_ix hu (de_call F_change_of hgd (hr.mono (by decide)) takes0 A_change_of.g A_change_of.fn.kp A_change_of.b (da_cons (de_var 0) (da_cons (de_var 1) da_nil))) de_int) da_nil)))))
/-! ### ways_within -/
abbrev N_ways_within : List Str := ["net", "n", "top", "rises", "found", "here", "further", "x", "k", "least", "change"]
def F_ways_within (G_rises_of : SpD) : FS := fSeq (fPar [3, 4, 5] (rCons (fCall G_rises_of (fCons (fVar 0) fNil)) (rCons (fDct1 (fVar 1) (fC .none)) (rCons (fLst (fCons (fVar 1) fNil)) rNil)))) (fSeq (fWhile (fTest (f2 gNe (fVar 5) (fLst fNil))) (fSeq (fSet 6 (fLst fNil)) (fSeq (fShare 5 (fFor (fiSeq (fVar 5)) (tgName 7) (fFor (fiEnum (fVar 3)) (tgTup (tgCons (tgName 8) (tgCons (tgTup (tgCons (tgName 9) (tgCons (tgName 10) tgNil))) tgNil))) (fIf (fAnd (fTest (f2 gGe (fVar 7) (fVar 9))) (fAnd (fTest (f2 gLe (fAdd (fVar 7) (fVar 10)) (fVar 2))) (fTest (f2R (gIn true) (fAdd (fVar 7) (fVar 10)) (fVar 4))))) (fSeq (fPut 4 (fAdd (fVar 7) (fVar 10)) (fTup (fCons (fVar 7) (fCons (fVar 8) fNil)))) (fApp 6 (fAdd (fVar 7) (fVar 10)))) fNext)))) (fSet 5 (fList (fVar 6)))))) (fRet (fVar 4)))
theorem sc_ways_within : FnScope N_ways_within ["net", "n", "top"] (defScope (topS 6)) := ⟨rfl, rfl, rfl, by decide +kernel, rfl, by decide +kernel, by decide +kernel⟩
theorem der_ways_within (b_list : mg "list" = none)
    (b_enumerate : mg "enumerate" = none)
    {f_rises_of : Addr} {fd_rises_of : FuncData} {G_rises_of : SpD} (A_rises_of : At K mg "rises_of" (topS 5) ["net"] f_rises_of fd_rises_of)
    (F_rises_of : FnG P w K mg base 2 f_rises_of fd_rises_of ["net"] (spP K G_rises_of)) : Reads P w K mg base N_ways_within "ways_within" (topS 6) f 2 (F_ways_within G_rises_of) := by
  intro cdv A outer s H E hgd hr
  have hN : N_ways_within.Nodup := by decide +kernel
  have hu := hu_of hr
  have hu64 := hr.units
  have hu65 : (A.deeper (envOfC "ways_within" (defScope (topS 6)) s.heap.objs.size f cdv)).units + 65 < cLine := by have := hr.un; omega
  exact dss_cons (ds_par3 3 4 5 rfl hN (dh_cons (de_call F_rises_of hgd (hr.mono (by decide)) (takes_of rfl rfl rfl rfl) A_rises_of.g A_rises_of.fn.kp A_rises_of.b (da_cons (de_var 0) da_nil)) (dh_cons (de_dct1 (de_var 1) de_non) (dh_cons (de_lst (da_cons (de_var 1) da_nil)) dh_nil)))) (dss_cons (ds_while (passes_of rfl) (dt_cmp (op_neAll hu64) br_ne (de_var 5) (de_lst da_nil) (by rfl)) (dss_cons (ds_set 6 hN (de_lst da_nil)) (dss_cons (ds_share 5 (ds_for (passes_of rfl) rfl (di_seq (de_var 5)) (dg_name 7 hN) (dss_one (ds_for (passes_of rfl) rfl (di_enum b_enumerate (de_var 3)) (dg_tup rfl (dgs_cons (dg_name 8 hN) (dgs_cons (dg_tup rfl (dgs_cons (dg_name 9 hN) (dgs_cons (dg_name 10 hN) dgs_nil)) 2 (Rs.len (rs_cons (rc_name 9) (rs_cons (rc_name 10) rs_nil)))) dgs_nil)) 2 (Rs.len (rs_cons (rc_name 8) (rs_cons (rc_tup (rs_cons (rc_name 9) (rs_cons (rc_name 10) rs_nil))) rs_nil)))) (dss_one (ds_if (dt_w (dw_and (dt_cmp op_ge (br_rB0 _) (de_var 7) (de_var 9) (by rfl)) (dw_and (dt_cmp op_le (br_rB0 _) (de_add (de_var 7) (de_var 10)) (de_var 2) (by rfl)) (dw_and1 (dt_cmpR (op_notInAll hu65) (br_in true) (de_add (de_var 7) (de_var 10)) (de_var 4) (by rfl)))))) (dss_cons (ds_sub 4 hu (de_tup (da_cons (de_var 7) (da_cons (de_var 8) da_nil))) (de_add (de_var 7) (de_var 10)) (de_var 4)) (dss_one (ds_app 6 (de_add (de_var 7) (de_var 10)) (de_var 6)))) dss_nil)))))) (dss_one (ds_set 5 hN (de_list rfl b_list (de_var 6))))))) (dss_one (ds_ret (de_var 4))))
/-! ### top_for -/
abbrev N_top_for : List Str := ["n", "y"]
def F_top_for : FS := fRet (fAdd (fMax3 (fVar 0) (fVar 1) (fC (.int 9))) (fC (.int 18)))
theorem sc_top_for : FnScope N_top_for ["n", "y"] (defScope (topS 7)) := ⟨rfl, rfl, rfl, by decide +kernel, rfl, by decide +kernel, by decide +kernel⟩
theorem der_top_for (c_FREE_FROM : ∃ t, mg "FREE_FROM" = some (.int 9 t))
    (b_max : mg "max" = none)
    (c_MOST_ABOVE : ∃ t, mg "MOST_ABOVE" = some (.int 18 t)) : Reads P w K mg base N_top_for "top_for" (topS 7) f 0 F_top_for := by
  intro cdv A outer s H E hgd hr
  have hN : N_top_for.Nodup := by decide +kernel
  exact dss_one (ds_ret (de_add (de_max3 rfl b_max (de_var 0) (de_var 1) (de_globI c_FREE_FROM)) (de_globI c_MOST_ABOVE)))
/-! ### come_numbers -/
abbrev N_come_numbers : List Str := ["net", "n", "most", "x"]
def F_come_numbers (G_ways_within : SpD) (G_top_for : SpD) : FS := fRet (fTuple (fLc (fiSeq (fSorted (fCall G_ways_within (fCons (fVar 0) (fCons (fVar 1) (fCons (fCall G_top_for (fCons (fVar 1) (fCons (fVar 2) fNil))) fNil)))))) (tgName 3) (fTest (f2 gLe (fVar 3) (fVar 2))) (fVar 3) [3]))
theorem sc_come_numbers : FnScope N_come_numbers ["net", "n", "most"] (defScope (topS 8)) := ⟨rfl, rfl, rfl, by decide +kernel, rfl, by decide +kernel, by decide +kernel⟩
theorem der_come_numbers (b_sorted : mg "sorted" = none)
    (b_tuple : mg "tuple" = none)
    {f_ways_within : Addr} {fd_ways_within : FuncData} {G_ways_within : SpD} (A_ways_within : At K mg "ways_within" (topS 6) ["net", "n", "top"] f_ways_within fd_ways_within)
    (F_ways_within : FnG P w K mg base 3 f_ways_within fd_ways_within ["net", "n", "top"] (spP K G_ways_within))
    {f_top_for : Addr} {fd_top_for : FuncData} {G_top_for : SpD} (A_top_for : At K mg "top_for" (topS 7) ["n", "y"] f_top_for fd_top_for)
    (F_top_for : FnG P w K mg base 1 f_top_for fd_top_for ["n", "y"] (spP K G_top_for)) : Reads P w K mg base N_come_numbers "come_numbers" (topS 8) f 3 (F_come_numbers G_ways_within G_top_for) := by
  intro cdv A outer s H E hgd hr
  have hN : N_come_numbers.Nodup := by decide +kernel
  exact dss_one (ds_ret (de_tuple b_tuple (de_lc rfl hN (di_seq (de_sorted rfl b_sorted (de_call F_ways_within hgd (hr.mono (by decide)) (takes_of rfl rfl rfl rfl) A_ways_within.g A_ways_within.fn.kp A_ways_within.b (da_cons (de_var 0) (da_cons (de_var 1) (da_cons (de_call F_top_for hgd (hr.mono (by decide)) (takes_of rfl rfl rfl rfl) A_top_for.g A_top_for.fn.kp A_top_for.b (da_cons (de_var 1) (da_cons (de_var 2) da_nil))) da_nil)))))) (own := [("x", 3)]) (blkOk_by (by rfl)) (fun _ _ _ _ _ => dg_name 3 hN) (fun _ _ _ _ _ => dts_one (dt_cmp op_le (br_rB0 _) (de_var 3) (de_var 2) (by rfl))) (fun _ _ _ _ _ => de_var 3))))
/-! ### comes_to -/
abbrev N_comes_to : List Str := ["net", "n", "y"]
def F_comes_to (G_ways_within : SpD) (G_top_for : SpD) : FS := fRet (f2R (gIn false) (fVar 2) (fCall G_ways_within (fCons (fVar 0) (fCons (fVar 1) (fCons (fCall G_top_for (fCons (fVar 1) (fCons (fVar 2) fNil))) fNil)))))
theorem sc_comes_to : FnScope N_comes_to ["net", "n", "y"] (defScope (topS 9)) := ⟨rfl, rfl, rfl, by decide +kernel, rfl, by decide +kernel, by decide +kernel⟩
theorem der_comes_to {f_ways_within : Addr} {fd_ways_within : FuncData} {G_ways_within : SpD} (A_ways_within : At K mg "ways_within" (topS 6) ["net", "n", "top"] f_ways_within fd_ways_within)
    (F_ways_within : FnG P w K mg base 3 f_ways_within fd_ways_within ["net", "n", "top"] (spP K G_ways_within))
    {f_top_for : Addr} {fd_top_for : FuncData} {G_top_for : SpD} (A_top_for : At K mg "top_for" (topS 7) ["n", "y"] f_top_for fd_top_for)
    (F_top_for : FnG P w K mg base 1 f_top_for fd_top_for ["n", "y"] (spP K G_top_for)) : Reads P w K mg base N_comes_to "comes_to" (topS 9) f 3 (F_comes_to G_ways_within G_top_for) := by
  intro cdv A outer s H E hgd hr
  have hN : N_comes_to.Nodup := by decide +kernel
  have hu65 : (A.deeper (envOfC "comes_to" (defScope (topS 9)) s.heap.objs.size f cdv)).units + 65 < cLine := by have := hr.un; omega
  exact dss_one (ds_ret (de_cmpR (op_inAll hu65) (br_in false) (de_var 2) (de_call F_ways_within hgd (hr.mono (by decide)) (takes_of rfl rfl rfl rfl) A_ways_within.g A_ways_within.fn.kp A_ways_within.b (da_cons (de_var 0) (da_cons (de_var 1) (da_cons (de_call F_top_for hgd (hr.mono (by decide)) (takes_of rfl rfl rfl rfl) A_top_for.g A_top_for.fn.kp A_top_for.b (da_cons (de_var 1) (da_cons (de_var 2) da_nil))) da_nil)))) (by rfl)))
/-! ### rising_step -/
abbrev N_rising_step : List Str := ["net", "n", "x", "some", "least", "change"]
def F_rising_step (G_ways_within : SpD) (G_rises_of : SpD) : FS := fSeq (fFor (fiSeq (fSorted (fCall G_ways_within (fCons (fVar 0) (fCons (fVar 1) (fCons (fVar 1) fNil)))))) (tgName 2) (fSeq (fSet 3 (fLc (fiSeq (fCall G_rises_of (fCons (fVar 0) fNil))) (tgTup (tgCons (tgName 4) (tgCons (tgName 5) tgNil))) (fAnd (fTest (f2 gGe (fVar 2) (fVar 4))) (fTest (f2 gGt (fVar 5) (fC (.int 0))))) (fVar 5) [4, 5])) (fIf (fTest (f2 gNe (fVar 3) (fLst fNil))) (fRet (fTup (fCons (fVar 2) (fCons (fIx (fVar 3) (fC (.int 0))) fNil)))) fNext))) (fRet (fC .none))
theorem sc_rising_step : FnScope N_rising_step ["net", "n"] (defScope (topS 10)) := ⟨rfl, rfl, rfl, by decide +kernel, rfl, by decide +kernel, by decide +kernel⟩
theorem der_rising_step (b_sorted : mg "sorted" = none)
    {f_ways_within : Addr} {fd_ways_within : FuncData} {G_ways_within : SpD} (A_ways_within : At K mg "ways_within" (topS 6) ["net", "n", "top"] f_ways_within fd_ways_within)
    (F_ways_within : FnG P w K mg base 3 f_ways_within fd_ways_within ["net", "n", "top"] (spP K G_ways_within))
    {f_rises_of : Addr} {fd_rises_of : FuncData} {G_rises_of : SpD} (A_rises_of : At K mg "rises_of" (topS 5) ["net"] f_rises_of fd_rises_of)
    (F_rises_of : FnG P w K mg base 2 f_rises_of fd_rises_of ["net"] (spP K G_rises_of)) : Reads P w K mg base N_rising_step "rising_step" (topS 10) f 3 (F_rising_step G_ways_within G_rises_of) := by
  intro cdv A outer s H E hgd hr
  have hN : N_rising_step.Nodup := by decide +kernel
  have hu := hu_of hr
  have hu64 := hr.units
  exact dss_cons (ds_for (passes_of rfl) rfl (di_seq (de_sorted rfl b_sorted (de_call F_ways_within hgd (hr.mono (by decide)) (takes_of rfl rfl rfl rfl) A_ways_within.g A_ways_within.fn.kp A_ways_within.b (da_cons (de_var 0) (da_cons (de_var 1) (da_cons (de_var 1) da_nil)))))) (dg_name 2 hN) (dss_cons (ds_setLc 3 rfl hN (by rfl) (di_seq (de_call F_rises_of hgd (hr.mono (by decide)) (takes_of rfl rfl rfl rfl) A_rises_of.g A_rises_of.fn.kp A_rises_of.b (da_cons (de_var 0) da_nil))) (own := [("least", 4), ("change", 5)]) (blkOk_by (by rfl)) (fun _ _ _ _ _ => dg_tup rfl (dgs_cons (dg_name 4 hN) (dgs_cons (dg_name 5 hN) dgs_nil)) 2 (Rs.len (rs_cons (rc_name 4) (rs_cons (rc_name 5) rs_nil)))) (fun _ _ _ _ _ => dts_one (dt_w (dw_and (dt_cmp op_ge (br_rB0 _) (de_var 2) (de_var 4) (by rfl)) (dw_and1 (dt_cmp op_gt (br_rB0 _) (de_var 5) de_int (by rfl)))))) (fun _ _ _ _ _ => de_var 5)) (dss_one (ds_if (dt_cmp (op_neAll hu64) br_ne (de_var 3) (de_lst da_nil) (by rfl)) (dss_one (ds_ret (de_tup (da_cons (de_var 2) (da_cons (de_ix hu (de_var 3) de_int) da_nil))))) dss_nil)))) (dss_one (ds_ret de_non))
/-! ### is_endless -/
abbrev N_is_endless : List Str := ["net", "n"]
def F_is_endless (G_rising_step : SpD) : FS := fRet (f2 gNotN (fCall G_rising_step (fCons (fVar 0) (fCons (fVar 1) fNil))) (fC .none))
theorem sc_is_endless : FnScope N_is_endless ["net", "n"] (defScope (topS 11)) := ⟨rfl, rfl, rfl, by decide +kernel, rfl, by decide +kernel, by decide +kernel⟩
theorem der_is_endless {f_rising_step : Addr} {fd_rising_step : FuncData} {G_rising_step : SpD} (A_rising_step : At K mg "rising_step" (topS 10) ["net", "n"] f_rising_step fd_rising_step)
    (F_rising_step : FnG P w K mg base 4 f_rising_step fd_rising_step ["net", "n"] (spP K G_rising_step)) : Reads P w K mg base N_is_endless "is_endless" (topS 11) f 4 (F_is_endless G_rising_step) := by
  intro cdv A outer s H E hgd hr
  have hN : N_is_endless.Nodup := by decide +kernel
  exact dss_one (ds_ret (de_cmp op_notN br_notN (de_call F_rising_step hgd (hr.mono (by decide)) (takes_of rfl rfl rfl rfl) A_rising_step.g A_rising_step.fn.kp A_rising_step.b (da_cons (de_var 0) (da_cons (de_var 1) da_nil))) de_non (by rfl)))
/-! ### net_measure -/
abbrev N_net_measure : List Str := ["net", "found", "least", "change", "one", "other"]
def F_net_measure (G_rises_of : SpD) : FS := fSeq (fSet 1 (fC (.int 0))) (fSeq (fFor (fiSeq (fCall G_rises_of (fCons (fVar 0) fNil))) (tgTup (tgCons (tgName 2) (tgCons (tgName 3) tgNil))) (fSeq (fPar [4, 5] (rCons (fVar 1) (rCons (fAbs (fVar 3)) rNil))) (fSeq (fWhile (fTest (f2 gGt (fVar 5) (fC (.int 0)))) (fPar [4, 5] (rCons (fVar 5) (rCons (fMod (fVar 4) (fVar 5)) rNil)))) (fSet 1 (fVar 4))))) (fRet (fVar 1)))
theorem sc_net_measure : FnScope N_net_measure ["net"] (defScope (topS 12)) := ⟨rfl, rfl, rfl, by decide +kernel, rfl, by decide +kernel, by decide +kernel⟩
theorem der_net_measure (b_abs : mg "abs" = none)
    {f_rises_of : Addr} {fd_rises_of : FuncData} {G_rises_of : SpD} (A_rises_of : At K mg "rises_of" (topS 5) ["net"] f_rises_of fd_rises_of)
    (F_rises_of : FnG P w K mg base 2 f_rises_of fd_rises_of ["net"] (spP K G_rises_of)) : Reads P w K mg base N_net_measure "net_measure" (topS 12) f 2 (F_net_measure G_rises_of) := by
  intro cdv A outer s H E hgd hr
  have hN : N_net_measure.Nodup := by decide +kernel
  exact dss_cons (ds_set 1 hN de_int) (dss_cons (ds_for (passes_of rfl) rfl (di_seq (de_call F_rises_of hgd (hr.mono (by decide)) (takes_of rfl rfl rfl rfl) A_rises_of.g A_rises_of.fn.kp A_rises_of.b (da_cons (de_var 0) da_nil))) (dg_tup rfl (dgs_cons (dg_name 2 hN) (dgs_cons (dg_name 3 hN) dgs_nil)) 2 (Rs.len (rs_cons (rc_name 2) (rs_cons (rc_name 3) rs_nil)))) (dss_cons (ds_par2 4 5 rfl hN (dh_cons (de_var 1) (dh_cons (de_abs b_abs (de_var 3)) dh_nil))) (dss_cons (ds_while (passes_of rfl) (dt_cmp op_gt (br_rB0 _) (de_var 5) de_int (by rfl)) (dss_one (ds_par2 4 5 rfl hN (dh_cons (de_var 5) (dh_cons (de_mod (de_var 4) (de_var 5)) dh_nil))))) (dss_one (ds_set 1 hN (de_var 4)))))) (dss_one (ds_ret (de_var 1))))
/-! ### _law_own_bag -/
abbrev N__law_own_bag : List Str := ["script", "cells", "mixed", "cell"]
def F__law_own_bag : FS := fSeq (fSet 1 (fLc (fiSeq (fScr 0)) (tgName 3) fYes (fAbs (fVar 3)) [3])) (fSeq (fSet 2 (fAdd (fC (.int 3571)) (fLen (fVar 1)))) (fSeq (fShare 1 (fFor (fiSeq (fVar 1)) (tgName 3) (fSet 2 (fMod (fAdd (fAdd (fMul (fVar 2) (fC (.int 48271))) (fMod (fInt (fVar 3)) (fC (.int 2147483629)))) (fC (.int 7))) (fC (.int 2147483647)))))) (fRet (fLst (fCons (fListRev (fList (fVar 1))) (fCons (fC (.int 0)) (fCons (fVar 2) fNil)))))))
theorem sc__law_own_bag : FnScope N__law_own_bag ["script"] (defScope (topS 14)) := ⟨rfl, rfl, rfl, by decide +kernel, rfl, by decide +kernel, by decide +kernel⟩
theorem der__law_own_bag (b_list : mg "list" = none)
    (b_reversed : mg "reversed" = none)
    (b_int : mg "int" = none)
    (b_len : mg "len" = none)
    (b_abs : mg "abs" = none) : Reads P w K mg base N__law_own_bag "_law_own_bag" (topS 14) f 0 F__law_own_bag := by
  intro cdv A outer s H E hgd hr
  have hN : N__law_own_bag.Nodup := by decide +kernel
  exact dss_cons (ds_setLc 1 rfl hN (by rfl) (di_seq (de_scr 0)) (own := [("cell", 3)]) (blkOk_by (by rfl)) (fun _ _ _ _ _ => dg_name 3 hN) (fun _ _ _ _ _ => dts_nil) (fun _ _ _ _ _ => de_abs b_abs (de_var 3))) (dss_cons (ds_set 2 hN (de_add de_int (de_len b_len (de_var 1)))) (dss_cons (ds_share 1 (ds_for (passes_of rfl) rfl (di_seq (de_var 1)) (dg_name 3 hN) (dss_one (ds_set 2 hN (de_mod (de_add (de_add (de_mul (de_var 2) de_int) (de_mod (de_int1 b_int (de_var 3)) de_int)) de_int) de_int))))) (dss_one (ds_ret (de_lst (da_cons (de_listRev rfl b_list b_reversed (de_list rfl b_list (de_var 1))) (da_cons de_int (da_cons (de_var 2) da_nil))))))))
/-! ### _law_draw -/
abbrev N__law_draw : List Str := ["bag", "below", "cell", "found"]
def F__law_draw : FS := fSeq (fBagW 0 2) (fSeq (fIf (fTest (f2 gGt (fBagI 0 1) (fC (.int 0)))) (fSeq (fSet 3 (fMod (fInt (fBagI 0 1)) (fVar 1))) (fSeq (fBagS 0 1 (fDiv (fBagI 0 1) (fVar 1))) (fRet (fVar 3)))) fNext) (fSeq (fBagS 0 2 (fMod (fAdd (fMul (fBagI 0 2) (fC (.int 48271))) (fC (.int 11))) (fC (.int 2147483647)))) (fRet (fMod (fDiv (fMod (fMul (fInt (fBagI 0 2)) (fInt (fBagI 0 2))) (fC (.int 2147483629))) (fC (.int 7))) (fVar 1)))))
theorem sc__law_draw : FnScope N__law_draw ["bag", "below"] (defScope (topS 15)) := ⟨rfl, rfl, rfl, by decide +kernel, rfl, by decide +kernel, by decide +kernel⟩
theorem der__law_draw (b_int : mg "int" = none) : Reads P w K mg base N__law_draw "_law_draw" (topS 15) f 0 F__law_draw := by
  intro cdv A outer s H E hgd hr
  have hN : N__law_draw.Nodup := by decide +kernel
  have hu64 := hr.units
  exact dss_cons (ds_bagW 0 2 hu64 (passes_of rfl) hN (pe_great 2 ⟨by decide, by decide, by decide⟩ rfl (by first | exact Or.inl rfl | exact Or.inr (Or.inl rfl)) (by decide) (by decide))) (dss_cons (ds_if (dt_cmp op_gt (br_rB0 _) (de_bagGet 0) de_int (by rfl)) (dss_cons (ds_set 3 hN (de_mod (de_int1 b_int (de_bagGet 0)) (de_var 1))) (dss_cons (ds_bagSet 0 (de_div (de_bagGet 0) (de_var 1))) (dss_one (ds_ret (de_var 3))))) dss_nil) (dss_cons (ds_bagSet 0 (de_mod (de_add (de_mul (de_bagGet 0) de_int) de_int) de_int)) (dss_one (ds_ret (de_mod (de_div (de_mod (de_mul (de_int1 b_int (de_bagGet 0)) (de_int1 b_int (de_bagGet 0))) de_int) de_int) (de_var 1))))))
/-! ### _law_pick -/
abbrev N__law_pick : List Str := ["bag", "some"]
def F__law_pick (G__law_draw : SpD) : FS := fRet (fIx (fVar 1) (fCallB 0 G__law_draw (fCons (fLen (fVar 1)) fNil)))
theorem sc__law_pick : FnScope N__law_pick ["bag", "some"] (defScope (topS 16)) := ⟨rfl, rfl, rfl, by decide +kernel, rfl, by decide +kernel, by decide +kernel⟩
theorem der__law_pick (b_len : mg "len" = none)
    {f__law_draw : Addr} {fd__law_draw : FuncData} {G__law_draw : SpD} (A__law_draw : At K mg "_law_draw" (topS 15) ["bag", "below"] f__law_draw fd__law_draw)
    (F__law_draw : FnG P w K mg base 1 f__law_draw fd__law_draw ["bag", "below"] (spB K G__law_draw)) : Reads P w K mg base N__law_pick "_law_pick" (topS 16) f 1 (F__law_pick G__law_draw) := by
  intro cdv A outer s H E hgd hr
  have hN : N__law_pick.Nodup := by decide +kernel
  have hu := hu_of hr
  exact dss_one (ds_ret (de_ix hu (de_var 1) (de_callBag 0 F__law_draw hgd (hr.mono (by decide)) (takes_of rfl rfl rfl rfl) A__law_draw.g A__law_draw.fn.kp A__law_draw.b (da_cons (de_len b_len (de_var 1)) da_nil))))
/-! ### _law_number -/
abbrev N__law_number : List Str := ["bag", "most", "way"]
def F__law_number (G__law_draw : SpD) : FS := fSeq (fSet 2 (fCallB 0 G__law_draw (fCons (fC (.int 4)) fNil))) (fSeq (fIf (fTest (f2 gEq (fVar 2) (fC (.int 0)))) (fRet (fCallB 0 G__law_draw (fCons (fC (.int 11)) fNil))) fNext) (fSeq (fIf (fTest (f2 gEq (fVar 2) (fC (.int 1)))) (fRet (fSub (fVar 1) (fCallB 0 G__law_draw (fCons (fC (.int 3)) fNil)))) fNext) (fRet (fCallB 0 G__law_draw (fCons (fAdd (fVar 1) (fC (.int 1))) fNil)))))
theorem sc__law_number : FnScope N__law_number ["bag", "most"] (defScope (topS 17)) := ⟨rfl, rfl, rfl, by decide +kernel, rfl, by decide +kernel, by decide +kernel⟩
theorem der__law_number {f__law_draw : Addr} {fd__law_draw : FuncData} {G__law_draw : SpD} (A__law_draw : At K mg "_law_draw" (topS 15) ["bag", "below"] f__law_draw fd__law_draw)
    (F__law_draw : FnG P w K mg base 1 f__law_draw fd__law_draw ["bag", "below"] (spB K G__law_draw)) : Reads P w K mg base N__law_number "_law_number" (topS 17) f 1 (F__law_number G__law_draw) := by
  intro cdv A outer s H E hgd hr
  have hN : N__law_number.Nodup := by decide +kernel
  have hu64 := hr.units
  exact dss_cons (ds_set 2 hN (de_callBag 0 F__law_draw hgd (hr.mono (by decide)) (takes_of rfl rfl rfl rfl) A__law_draw.g A__law_draw.fn.kp A__law_draw.b (da_cons de_int da_nil))) (dss_cons (ds_if (dt_cmp (op_eqAll hu64) br_eq (de_var 2) de_int (by rfl)) (dss_one (ds_ret (de_callBag 0 F__law_draw hgd (hr.mono (by decide)) (takes_of rfl rfl rfl rfl) A__law_draw.g A__law_draw.fn.kp A__law_draw.b (da_cons de_int da_nil)))) dss_nil) (dss_cons (ds_if (dt_cmp (op_eqAll hu64) br_eq (de_var 2) de_int (by rfl)) (dss_one (ds_ret (de_sub (de_var 1) (de_callBag 0 F__law_draw hgd (hr.mono (by decide)) (takes_of rfl rfl rfl rfl) A__law_draw.g A__law_draw.fn.kp A__law_draw.b (da_cons de_int da_nil))))) dss_nil) (dss_one (ds_ret (de_callBag 0 F__law_draw hgd (hr.mono (by decide)) (takes_of rfl rfl rfl rfl) A__law_draw.g A__law_draw.fn.kp A__law_draw.b (da_cons (de_add (de_var 1) de_int) da_nil))))))
/-! ### _law_is_kind -/
abbrev N__law_is_kind : List Str := ["take", "put", "way", "g", "n"]
def F__law_is_kind : FS := fSeq (fIf (fTest (f2 gEq (fVar 2) (fC (.int 2)))) (fRet (f2 gGe (fVar 1) (fVar 0))) fNext) (fSeq (fIf (fTest (f2 gEq (fVar 2) (fC (.int 3)))) (fRet (f2 gLt (fVar 1) (fVar 0))) fNext) (fSeq (fIf (fTest (f2 gEq (fVar 2) (fC (.int 4)))) (fRet (f2 gEq (fMod (fInt (fSub (fVar 1) (fVar 0))) (fVar 3)) (fC (.int 0)))) fNext) (fSeq (fIf (fTest (f2 gEq (fVar 2) (fC (.int 5)))) (fRet (f2 gGe (fVar 0) (fC (.int 4)))) fNext) (fSeq (fIf (fTest (f2 gEq (fVar 2) (fC (.int 6)))) (fRet (fOrV (f2 gLe (fVar 1) (fVar 0)) (f2 gGt (fVar 0) (fVar 4)))) fNext) (fSeq (fIf (fTest (f2 gEq (fVar 2) (fC (.int 7)))) (fRet (f2 gLt (fAbs (fSub (fVar 1) (fVar 0))) (fC (.int 2)))) fNext) (fSeq (fIf (fTest (f2 gEq (fVar 2) (fC (.int 8)))) (fRet (f2 gGt (fSub (fVar 1) (fVar 0)) (fC (.int 4)))) fNext) (fSeq (fIf (fTest (f2 gEq (fVar 2) (fC (.int 9)))) (fRet (fOrV (f2 gEq (fVar 0) (fC (.int 9))) (fAndV (f2 gLe (fVar 0) (fVar 4)) (f2 gGt (fSub (fVar 1) (fVar 0)) (fC (.int 4)))))) fNext) (fSeq (fIf (fTest (f2 gEq (fVar 2) (fC (.int 10)))) (fRet (f2 gEq (fAbs (fSub (fVar 1) (fVar 0))) (fC (.int 1)))) fNext) (fSeq (fIf (fOr (fTest (f2 gEq (fVar 2) (fC (.int 11)))) (fTest (f2 gEq (fVar 2) (fC (.int 12))))) (fRet (f2 gLe (fVar 1) (fVar 0))) fNext) (fRet (fC (.bool true))))))))))))
theorem sc__law_is_kind : FnScope N__law_is_kind ["take", "put", "way", "g", "n"] (defScope (topS 18)) := ⟨rfl, rfl, rfl, by decide +kernel, rfl, by decide +kernel, by decide +kernel⟩
theorem der__law_is_kind (b_abs : mg "abs" = none)
    (b_int : mg "int" = none) : Reads P w K mg base N__law_is_kind "_law_is_kind" (topS 18) f 0 F__law_is_kind := by
  intro cdv A outer s H E hgd hr
  have hN : N__law_is_kind.Nodup := by decide +kernel
  have hu64 := hr.units
  exact dss_cons (ds_if (dt_cmp (op_eqAll hu64) br_eq (de_var 2) de_int (by rfl)) (dss_one (ds_ret (de_cmp op_ge (br_rB0 _) (de_var 1) (de_var 0) (by rfl)))) dss_nil) (dss_cons (ds_if (dt_cmp (op_eqAll hu64) br_eq (de_var 2) de_int (by rfl)) (dss_one (ds_ret (de_cmp op_lt (br_rB0 _) (de_var 1) (de_var 0) (by rfl)))) dss_nil) (dss_cons (ds_if (dt_cmp (op_eqAll hu64) br_eq (de_var 2) de_int (by rfl)) (dss_one (ds_ret (de_cmp (op_eqAll hu64) br_eq (de_mod (de_int1 b_int (de_sub (de_var 1) (de_var 0))) (de_var 3)) de_int (by rfl)))) dss_nil) (dss_cons (ds_if (dt_cmp (op_eqAll hu64) br_eq (de_var 2) de_int (by rfl)) (dss_one (ds_ret (de_cmp op_ge (br_rB0 _) (de_var 0) de_int (by rfl)))) dss_nil) (dss_cons (ds_if (dt_cmp (op_eqAll hu64) br_eq (de_var 2) de_int (by rfl)) (dss_one (ds_ret (de_or (de_cmp op_le (br_rB0 _) (de_var 1) (de_var 0) (by rfl)) (de_one (de_cmp op_gt (br_rB0 _) (de_var 0) (de_var 4) (by rfl)))))) dss_nil) (dss_cons (ds_if (dt_cmp (op_eqAll hu64) br_eq (de_var 2) de_int (by rfl)) (dss_one (ds_ret (de_cmp op_lt (br_rB0 _) (de_abs b_abs (de_sub (de_var 1) (de_var 0))) de_int (by rfl)))) dss_nil) (dss_cons (ds_if (dt_cmp (op_eqAll hu64) br_eq (de_var 2) de_int (by rfl)) (dss_one (ds_ret (de_cmp op_gt (br_rB0 _) (de_sub (de_var 1) (de_var 0)) de_int (by rfl)))) dss_nil) (dss_cons (ds_if (dt_cmp (op_eqAll hu64) br_eq (de_var 2) de_int (by rfl)) (dss_one (ds_ret (de_or (de_cmp (op_eqAll hu64) br_eq (de_var 0) de_int (by rfl)) (de_one (de_and (de_cmp op_le (br_rB0 _) (de_var 0) (de_var 4) (by rfl)) (de_one (de_cmp op_gt (br_rB0 _) (de_sub (de_var 1) (de_var 0)) de_int (by rfl)))))))) dss_nil) (dss_cons (ds_if (dt_cmp (op_eqAll hu64) br_eq (de_var 2) de_int (by rfl)) (dss_one (ds_ret (de_cmp (op_eqAll hu64) br_eq (de_abs b_abs (de_sub (de_var 1) (de_var 0))) de_int (by rfl)))) dss_nil) (dss_cons (ds_if (dt_w (dw_or (dt_cmp (op_eqAll hu64) br_eq (de_var 2) de_int (by rfl)) (dw_or1 (dt_cmp (op_eqAll hu64) br_eq (de_var 2) de_int (by rfl))))) (dss_one (ds_ret (de_cmp op_le (br_rB0 _) (de_var 1) (de_var 0) (by rfl)))) dss_nil) (dss_one (ds_ret de_bl)))))))))))
/-! ### _law_net -/
abbrev N__law_net : List Str := ["bag", "n", "most", "way", "g", "some", "many", "pairs", "at", "take", "k", "put"]
def F__law_net (G__law_draw : SpD) (G__law_pick : SpD) (G__law_is_kind : SpD) : FS := fSeq (fSet 4 (fMin2 (fC (.int 9)) (fAdd (fC (.int 2)) (fCallB 0 G__law_draw (fCons (fC (.int 11)) fNil))))) (fSeq (fSet 5 (fLc (fiRng1 (fC (.int 100))) (tgName 8) (fTest (fCall G__law_is_kind (fCons (fDiv (fVar 8) (fC (.int 10))) (fCons (fMod (fVar 8) (fC (.int 10))) (fCons (fVar 3) (fCons (fVar 4) (fCons (fVar 1) fNil))))))) (fTup (fCons (fDiv (fVar 8) (fC (.int 10))) (fCons (fMod (fVar 8) (fC (.int 10))) fNil))) [8])) (fSeq (fSet 6 (fIfE (fTest (f2 gEq (fVar 3) (fC (.int 1)))) (fVar 2) (fIfE (fTest (f2 gLt (fVar 3) (fC (.int 5)))) (fCallB 0 G__law_draw (fCons (fAdd (fVar 2) (fC (.int 1))) fNil)) (fAdd (fC (.int 1)) (fCallB 0 G__law_draw (fCons (fC (.int 3)) fNil)))))) (fSeq (fShare 5 (fSet 7 (fLc (fiRng1 (fAdd (fVar 6) (fIfE (fTest (f2 gEq (fVar 3) (fC (.int 9)))) (fC (.int 1)) (fC (.int 0))))) (tgName 10) fYes (fCallB 0 G__law_pick (fCons (fVar 5) fNil)) [10]))) (fSeq (fIf (fAnd (fTest (fChain gLt gLt (fC (.int 0)) (fLen (fVar 7)) (fVar 2))) (fTest (f2 gEq (fCallB 0 G__law_draw (fCons (fC (.int 4)) fNil)) (fC (.int 0))))) (fApp 7 (fCallBN 0 G__law_pick (rCons (fVar 7) rNil))) fNext) (fSeq (fIf (fOr (fTest (f2 gEq (fVar 3) (fC (.int 11)))) (fTest (f2 gEq (fVar 3) (fC (.int 12))))) (fSeq (fPar [8, 9] (rCons (fSub (fSub (fVar 2) (fC (.int 1))) (fMul (fCallB 0 G__law_draw (fCons (fC (.int 2)) fNil)) (fCallB 0 G__law_draw (fCons (fC (.int 4)) fNil)))) (rCons (fCallB 0 G__law_draw (fCons (fAdd (fMin2 (fVar 1) (fC (.int 8))) (fC (.int 1))) fNil)) rNil))) (fSet 7 (fAdd (fAdd (fMul (fSl (fVar 7) fNoP (fPart (fC (.int 1)))) (fVar 8)) (fLst (fCons (fTup (fCons (fVar 9) (fCons (fAdd (fAdd (fVar 9) (fC (.int 1))) (fCallB 0 G__law_draw (fCons (fSub (fC (.int 9)) (fVar 9)) fNil))) fNil))) fNil))) (fMul (fSl (fVar 7) fNoP (fPart (fC (.int 1)))) (fSub (fSub (fVar 2) (fC (.int 1))) (fVar 8)))))) fNext) (fRet (fTuple (fLc (fiSeq (fVar 7)) (tgTup (tgCons (tgName 9) (tgCons (tgName 11) tgNil))) fYes (fTup (fCons (fTup (fCons (fVar 9) fNil)) (fCons (fTup (fCons (fVar 11) fNil)) fNil))) [9, 11]))))))))
theorem sc__law_net : FnScope N__law_net ["bag", "n", "most", "way"] (defScope (topS 19)) := ⟨rfl, rfl, rfl, by decide +kernel, rfl, by decide +kernel, by decide +kernel⟩
theorem der__law_net (b_tuple : mg "tuple" = none)
    (b_min : mg "min" = none)
    (b_len : mg "len" = none)
    (b_range : mg "range" = none)
    {f__law_draw : Addr} {fd__law_draw : FuncData} {G__law_draw : SpD} (A__law_draw : At K mg "_law_draw" (topS 15) ["bag", "below"] f__law_draw fd__law_draw)
    (F__law_draw : FnG P w K mg base 1 f__law_draw fd__law_draw ["bag", "below"] (spB K G__law_draw))
    {f__law_pick : Addr} {fd__law_pick : FuncData} {G__law_pick : SpD} (A__law_pick : At K mg "_law_pick" (topS 16) ["bag", "some"] f__law_pick fd__law_pick)
    (F__law_pick : FnG P w K mg base 2 f__law_pick fd__law_pick ["bag", "some"] (spB K G__law_pick))
    {f__law_is_kind : Addr} {fd__law_is_kind : FuncData} {G__law_is_kind : SpD} (A__law_is_kind : At K mg "_law_is_kind" (topS 18) ["take", "put", "way", "g", "n"] f__law_is_kind fd__law_is_kind)
    (F__law_is_kind : FnG P w K mg base 1 f__law_is_kind fd__law_is_kind ["take", "put", "way", "g", "n"] (spP K G__law_is_kind)) : Reads P w K mg base N__law_net "_law_net" (topS 19) f 2 (F__law_net G__law_draw G__law_pick G__law_is_kind) := by
  intro cdv A outer s H E hgd hr
  have hN : N__law_net.Nodup := by decide +kernel
  have hu64 := hr.units
  exact dss_cons (ds_set 4 hN (de_min2 rfl b_min de_int (de_add de_int (de_callBag 0 F__law_draw hgd (hr.mono (by decide)) (takes_of rfl rfl rfl rfl) A__law_draw.g A__law_draw.fn.kp A__law_draw.b (da_cons de_int da_nil))))) (dss_cons (ds_set 5 hN (de_lc rfl hN (di_rng1 b_range de_int) (own := [("at", 8)]) (blkOk_by (by rfl)) (fun _ _ _ _ _ => dg_name 8 hN) (fun _ _ _ _ _ => dts_one (dt_val (de_call F__law_is_kind hgd (hr.mono (by decide)) takes0 A__law_is_kind.g A__law_is_kind.fn.kp A__law_is_kind.b (da_cons (de_div (de_var 8) de_int) (da_cons (de_mod (de_var 8) de_int) (da_cons (de_var 3) (da_cons (de_var 4) (da_cons (de_var 1) da_nil)))))))) (fun _ _ _ _ _ => de_tup (da_cons (de_div (de_var 8) de_int) (da_cons (de_mod (de_var 8) de_int) da_nil))))) (dss_cons (ds_set 6 hN (de_if (dt_cmp (op_eqAll hu64) br_eq (de_var 3) de_int (by rfl)) (de_var 2) (de_if (dt_cmp op_lt (br_rB0 _) (de_var 3) de_int (by rfl)) (de_callBag 0 F__law_draw hgd (hr.mono (by decide)) (takes_of rfl rfl rfl rfl) A__law_draw.g A__law_draw.fn.kp A__law_draw.b (da_cons (de_add (de_var 2) de_int) da_nil)) (de_add de_int (de_callBag 0 F__law_draw hgd (hr.mono (by decide)) (takes_of rfl rfl rfl rfl) A__law_draw.g A__law_draw.fn.kp A__law_draw.b (da_cons de_int da_nil)))))) (dss_cons (ds_share 5 (ds_setLc 7 rfl hN (by rfl) (di_rng1 b_range (de_add (de_var 6) (de_if (dt_cmp (op_eqAll hu64) br_eq (de_var 3) de_int (by rfl)) de_int de_int))) (own := [("k", 10)]) (blkOk_by (by rfl)) (fun _ _ _ _ _ => dg_name 10 hN) (fun _ _ _ _ _ => dts_nil) (fun _ _ _ _ _ => de_callBag 0 F__law_pick hgd (hr.mono (by decide)) takes0 A__law_pick.g A__law_pick.fn.kp A__law_pick.b (da_cons (de_var 5) da_nil)))) (dss_cons (ds_if (dt_w (dw_and (dt_chain op_lt op_lt (br_rB0 _) (br_rB0 _) de_int (de_len b_len (de_var 7)) (de_var 2)) (dw_and1 (dt_cmp (op_eqAll hu64) br_eq (de_callBag 0 F__law_draw hgd (hr.mono (by decide)) (takes_of rfl rfl rfl rfl) A__law_draw.g A__law_draw.fn.kp A__law_draw.b (da_cons de_int da_nil)) de_int (by rfl))))) (dss_one (ds_app 7 (de_callBN 0 F__law_pick hgd (hr.mono (by decide)) (takes_of rfl rfl rfl rfl) A__law_pick.g A__law_pick.fn.kp A__law_pick.b (dr_cons (de_var 7) dr_nil)) (de_var 7))) dss_nil) (dss_cons (ds_if (dt_w (dw_or (dt_cmp (op_eqAll hu64) br_eq (de_var 3) de_int (by rfl)) (dw_or1 (dt_cmp (op_eqAll hu64) br_eq (de_var 3) de_int (by rfl))))) (dss_cons (ds_par2 8 9 rfl hN (dh_cons (de_sub (de_sub (de_var 2) de_int) (de_mul (de_callBag 0 F__law_draw hgd (hr.mono (by decide)) (takes_of rfl rfl rfl rfl) A__law_draw.g A__law_draw.fn.kp A__law_draw.b (da_cons de_int da_nil)) (de_callBag 0 F__law_draw hgd (hr.mono (by decide)) (takes_of rfl rfl rfl rfl) A__law_draw.g A__law_draw.fn.kp A__law_draw.b (da_cons de_int da_nil)))) (dh_cons (de_callBag 0 F__law_draw hgd (hr.mono (by decide)) (takes_of rfl rfl rfl rfl) A__law_draw.g A__law_draw.fn.kp A__law_draw.b (da_cons (de_add (de_min2 rfl b_min (de_var 1) de_int) de_int) da_nil)) dh_nil))) (dss_one (ds_set 7 hN (de_add (de_add (de_mul (de_sl (de_var 7) do_none (do_some de_int)) (de_var 8)) (de_lst (da_cons (de_tup (da_cons (de_var 9) (da_cons (de_add (de_add (de_var 9) de_int) (de_callBag 0 F__law_draw hgd (hr.mono (by decide)) (takes_of rfl rfl rfl rfl) A__law_draw.g A__law_draw.fn.kp A__law_draw.b (da_cons (de_sub de_int (de_var 9)) da_nil))) da_nil))) da_nil))) (de_mul (de_sl (de_var 7) do_none (do_some de_int)) (de_sub (de_sub (de_var 2) de_int) (de_var 8))))))) dss_nil) (dss_one (ds_ret (de_tuple b_tuple (de_lc rfl hN (di_seq (de_var 7)) (own := [("take", 9), ("put", 11)]) (blkOk_by (by rfl)) (fun _ _ _ _ _ => dg_tup rfl (dgs_cons (dg_name 9 hN) (dgs_cons (dg_name 11 hN) dgs_nil)) 2 (Rs.len (rs_cons (rc_name 9) (rs_cons (rc_name 11) rs_nil)))) (fun _ _ _ _ _ => dts_nil) (fun _ _ _ _ _ => de_tup (da_cons (de_tup (da_cons (de_var 9) da_nil)) (da_cons (de_tup (da_cons (de_var 11) da_nil)) da_nil))))))))))))
/-! ### _law_moves -/
abbrev N__law_moves : List Str := ["net", "least", "step", "c"]
def F__law_moves : FS := fSeq (fSet 1 fDct0) (fSeq (fFor (fiSeq (fVar 0)) (tgName 2) (fSeq (fSet 3 (fSub (fIx (fIx (fVar 2) (fC (.int 1))) (fC (.int 0))) (fIx (fIx (fVar 2) (fC (.int 0))) (fC (.int 0))))) (fIf (fTest (f2 gNe (fVar 3) (fC (.int 0)))) (fPut 1 (fVar 3) (fMin2 (fGet2 (fVar 1) (fVar 3) (fC (.int 9))) (fIx (fIx (fVar 2) (fC (.int 0))) (fC (.int 0))))) fNext))) (fRet (fLc (fiSeq (fSorted (fListKeys (fVar 1)))) (tgName 3) fYes (fTup (fCons (fVar 3) (fCons (fIx (fVar 1) (fVar 3)) fNil))) [3])))
theorem sc__law_moves : FnScope N__law_moves ["net"] (defScope (topS 20)) := ⟨rfl, rfl, rfl, by decide +kernel, rfl, by decide +kernel, by decide +kernel⟩
theorem der__law_moves (b_list : mg "list" = none)
    (b_sorted : mg "sorted" = none)
    (b_min : mg "min" = none) : Reads P w K mg base N__law_moves "_law_moves" (topS 20) f 0 F__law_moves := by
  intro cdv A outer s H E hgd hr
  have hN : N__law_moves.Nodup := by decide +kernel
  have hu := hu_of hr
  have hu64 := hr.units
  exact dss_cons (ds_set 1 hN de_dct0) (dss_cons (ds_for (passes_of rfl) rfl (di_seq (de_var 0)) (dg_name 2 hN) (dss_cons (ds_set 3 hN (de_sub (de_ix hu (de_ix hu (de_var 2) de_int) de_int) (de_ix hu (de_ix hu (de_var 2) de_int) de_int))) (dss_one (ds_if (dt_cmp (op_neAll hu64) br_ne (de_var 3) de_int (by rfl)) (dss_one (ds_sub 1 hu (de_min2 rfl b_min (de_get2 hu (de_var 1) (de_var 3) de_int) (de_ix hu (de_ix hu (de_var 2) de_int) de_int)) (de_var 3) (de_var 1))) dss_nil)))) (dss_one (ds_ret (de_lc rfl hN (di_seq (de_sorted rfl b_sorted (de_listKeys rfl b_list (de_var 1)))) (own := [("c", 3)]) (blkOk_by (by rfl)) (fun _ _ _ _ _ => dg_name 3 hN) (fun _ _ _ _ _ => dts_nil) (fun _ _ _ _ _ => de_tup (da_cons (de_var 3) (da_cons (de_ix hu (de_var 1) (de_var 3)) da_nil)))))))
/-! ### _law_far -/
abbrev N__law_far : List Str := ["net", "n", "top", "moves", "far", "rows", "turn", "x", "new", "z", "c", "take"]
def F__law_far (G__law_moves : SpD) : FS := fSeq (fPar [3, 4, 5] (rCons (fCall G__law_moves (fCons (fVar 0) fNil)) (rCons (fMul (fLst (fCons (fC .none) fNil)) (fAdd (fVar 2) (fC (.int 1)))) (rCons (fLst (fCons (fVar 1) fNil)) rNil)))) (fSeq (fPut 4 (fVar 1) (fC (.int 0))) (fSeq (fFor (fiRng1 (fAdd (fVar 2) (fC (.int 1)))) (tgName 6) (fSeq (fIf (fTest (f2 gEq (fVar 6) (fLen (fVar 5)))) fBreak fNext) (fSeq (fSet 7 (fIx (fVar 5) (fVar 6))) (fSeq (fSet 8 (fLc (fiSeq (fVar 3)) (tgTup (tgCons (tgName 10) (tgCons (tgName 11) tgNil))) (fAnd (fTest (f2 gLe (fVar 11) (fVar 7))) (fAnd (fTest (f2 gLe (fAdd (fVar 7) (fVar 10)) (fVar 2))) (fTest (f2 gIsN (fIx (fVar 4) (fAdd (fVar 7) (fVar 10))) (fC .none))))) (fAdd (fVar 7) (fVar 10)) [10, 11])) (fSeq (fShare 8 (fFor (fiSeq (fVar 8)) (tgName 9) (fPut 4 (fVar 9) (fAdd (fIx (fVar 4) (fVar 7)) (fC (.int 1)))))) (fExt 5 (fVar 8))))))) (fRet (fVar 4))))
theorem sc__law_far : FnScope N__law_far ["net", "n", "top"] (defScope (topS 21)) := ⟨rfl, rfl, rfl, by decide +kernel, rfl, by decide +kernel, by decide +kernel⟩
theorem der__law_far (b_range : mg "range" = none)
    (b_len : mg "len" = none)
    {f__law_moves : Addr} {fd__law_moves : FuncData} {G__law_moves : SpD} (A__law_moves : At K mg "_law_moves" (topS 20) ["net"] f__law_moves fd__law_moves)
    (F__law_moves : FnG P w K mg base 1 f__law_moves fd__law_moves ["net"] (spP K G__law_moves)) : Reads P w K mg base N__law_far "_law_far" (topS 21) f 1 (F__law_far G__law_moves) := by
  intro cdv A outer s H E hgd hr
  have hN : N__law_far.Nodup := by decide +kernel
  have hu := hu_of hr
  have hu64 := hr.units
  exact dss_cons (ds_parT rfl (dh_cons (de_call F__law_moves hgd (hr.mono (by decide)) (takes_of rfl rfl rfl rfl) A__law_moves.g A__law_moves.fn.kp A__law_moves.b (da_cons (de_var 0) da_nil)) (dh_cons (de_mul (de_lst (da_cons de_non da_nil)) (de_add (de_var 2) de_int)) (dh_cons (de_lst (da_cons (de_var 1) da_nil)) dh_nil))) (.cons (pg_name (i := 3) hN rfl (by first | exact .inl rfl | exact .inr rfl)) (.cons (pg_name (i := 4) hN rfl (by first | exact .inl rfl | exact .inr rfl)) (.cons (pg_name (i := 5) hN rfl (by first | exact .inl rfl | exact .inr rfl)) .nil))) (pgs_cons (pg_name (i := 3) hN rfl (by first | exact .inl rfl | exact .inr rfl)) (pgs_cons (pg_name (i := 4) hN rfl (by first | exact .inl rfl | exact .inr rfl)) (pgs_cons (pg_name (i := 5) hN rfl (by first | exact .inl rfl | exact .inr rfl)) pgs_nil))) rfl (by decide)) (dss_cons (ds_sub 4 hu de_int (de_var 1) (de_var 4)) (dss_cons (ds_for (passes_of rfl) rfl (di_rng1 b_range (de_add (de_var 2) de_int)) (dg_name 6 hN) (dss_cons (ds_if (dt_cmp (op_eqAll hu64) br_eq (de_var 6) (de_len b_len (de_var 5)) (by rfl)) (dss_one ds_break) dss_nil) (dss_cons (ds_set 7 hN (de_ix hu (de_var 5) (de_var 6))) (dss_cons (ds_setLc 8 rfl hN (by rfl) (di_seq (de_var 3)) (own := [("c", 10), ("take", 11)]) (blkOk_by (by rfl)) (fun _ _ _ _ _ => dg_tup rfl (dgs_cons (dg_name 10 hN) (dgs_cons (dg_name 11 hN) dgs_nil)) 2 (Rs.len (rs_cons (rc_name 10) (rs_cons (rc_name 11) rs_nil)))) (fun _ _ _ _ _ => dts_one (dt_w (dw_and (dt_cmp op_le (br_rB0 _) (de_var 11) (de_var 7) (by rfl)) (dw_and (dt_cmp op_le (br_rB0 _) (de_add (de_var 7) (de_var 10)) (de_var 2) (by rfl)) (dw_and1 (dt_cmp op_isN br_isN (de_ix hu (de_var 4) (de_add (de_var 7) (de_var 10))) de_non (by rfl))))))) (fun _ _ _ _ _ => de_add (de_var 7) (de_var 10))) (dss_cons (ds_share 8 (ds_for (passes_of rfl) rfl (di_seq (de_var 8)) (dg_name 9 hN) (dss_one (ds_sub 4 hu (de_add (de_ix hu (de_var 4) (de_var 7)) de_int) (de_var 9) (de_var 4))))) (dss_one (ds_ext 5 (de_var 8) (de_var 5)))))))) (dss_one (ds_ret (de_var 4)))))
/-! ### _law_measure -/
abbrev N__law_measure : List Str := ["net", "g", "step", "a"]
def F__law_measure : FS := fSeq (fSet 1 (fC (.int 0))) (fSeq (fFor (fiSeq (fVar 0)) (tgName 2) (fSeq (fSet 3 (fAbs (fSub (fIx (fIx (fVar 2) (fC (.int 1))) (fC (.int 0))) (fIx (fIx (fVar 2) (fC (.int 0))) (fC (.int 0)))))) (fWhile (fTest (f2 gGt (fVar 3) (fC (.int 0)))) (fPar [1, 3] (rCons (fVar 3) (rCons (fMod (fInt (fVar 1)) (fVar 3)) rNil)))))) (fRet (fVar 1)))
theorem sc__law_measure : FnScope N__law_measure ["net"] (defScope (topS 22)) := ⟨rfl, rfl, rfl, by decide +kernel, rfl, by decide +kernel, by decide +kernel⟩
theorem der__law_measure (b_int : mg "int" = none)
    (b_abs : mg "abs" = none) : Reads P w K mg base N__law_measure "_law_measure" (topS 22) f 0 F__law_measure := by
  intro cdv A outer s H E hgd hr
  have hN : N__law_measure.Nodup := by decide +kernel
  have hu := hu_of hr
  exact dss_cons (ds_set 1 hN de_int) (dss_cons (ds_for (passes_of rfl) rfl (di_seq (de_var 0)) (dg_name 2 hN) (dss_cons (ds_set 3 hN (de_abs b_abs (de_sub (de_ix hu (de_ix hu (de_var 2) de_int) de_int) (de_ix hu (de_ix hu (de_var 2) de_int) de_int)))) (dss_one (ds_while (passes_of rfl) (dt_cmp op_gt (br_rB0 _) (de_var 3) de_int (by rfl)) (dss_one (ds_par2 1 3 rfl hN (dh_cons (de_var 3) (dh_cons (de_mod (de_int1 b_int (de_var 1)) (de_var 3)) dh_nil)))))))) (dss_one (ds_ret (de_var 1))))
/-! ### _law_is_endless -/
abbrev N__law_is_endless : List Str := ["net", "n", "step"]
def F__law_is_endless : FS := fRet (fAny (fLc (fiSeq (fVar 0)) (tgName 2) fYes (fAndV (f2 gLe (fIx (fIx (fVar 2) (fC (.int 0))) (fC (.int 0))) (fVar 1)) (f2 gGt (fIx (fIx (fVar 2) (fC (.int 1))) (fC (.int 0))) (fIx (fIx (fVar 2) (fC (.int 0))) (fC (.int 0))))) [2]))
theorem sc__law_is_endless : FnScope N__law_is_endless ["net", "n"] (defScope (topS 23)) := ⟨rfl, rfl, rfl, by decide +kernel, rfl, by decide +kernel, by decide +kernel⟩
theorem der__law_is_endless (b_any : mg "any" = none) : Reads P w K mg base N__law_is_endless "_law_is_endless" (topS 23) f 0 F__law_is_endless := by
  intro cdv A outer s H E hgd hr
  have hN : N__law_is_endless.Nodup := by decide +kernel
  have hu := hu_of hr
  exact dss_one (ds_ret (de_any rfl b_any (de_lc rfl hN (di_seq (de_var 0)) (own := [("step", 2)]) (blkOk_by (by rfl)) (fun _ _ _ _ _ => dg_name 2 hN) (fun _ _ _ _ _ => dts_nil) (fun _ _ _ _ _ => de_and (de_cmp op_le (br_rB0 _) (de_ix hu (de_ix hu (de_var 2) de_int) de_int) (de_var 1) (by rfl)) (de_one (de_cmp op_gt (br_rB0 _) (de_ix hu (de_ix hu (de_var 2) de_int) de_int) (de_ix hu (de_ix hu (de_var 2) de_int) de_int) (by rfl)))))))
/-! ### _law_told -/
abbrev N__law_told : List Str := ["word", "own", "is_named"]
def F__law_told (G_net_measure : SpD) (G_is_endless : SpD) (G_comes_to : SpD) (G_come_numbers : SpD) : FS := fSeq (fIf (fAnd (fTest (f2 gEq (fVar 0) (fC (.str "numbers")))) (fTest (fVar 2))) (fRet (fCallK G_come_numbers [2, 1, 0] 3 fNil (fCons (fIx (fVar 1) (fC (.int 2))) (fCons (fIx (fVar 1) (fC (.int 1))) (fCons (fIx (fVar 1) (fC (.int 0))) fNil))))) fNext) (fSeq (fIf (fTest (f2 gEq (fVar 0) (fC (.str "numbers")))) (fRet (fCall G_come_numbers (fCons (fIx (fVar 1) (fC (.int 0))) (fCons (fIx (fVar 1) (fC (.int 1))) (fCons (fIx (fVar 1) (fC (.int 2))) fNil))))) fNext) (fSeq (fIf (fAnd (fTest (f2 gEq (fVar 0) (fC (.str "comes")))) (fTest (fVar 2))) (fRet (fCallK G_comes_to [2, 1, 0] 3 fNil (fCons (fIx (fVar 1) (fC (.int 2))) (fCons (fIx (fVar 1) (fC (.int 1))) (fCons (fIx (fVar 1) (fC (.int 0))) fNil))))) fNext) (fSeq (fIf (fTest (f2 gEq (fVar 0) (fC (.str "comes")))) (fRet (fCall G_comes_to (fCons (fIx (fVar 1) (fC (.int 0))) (fCons (fIx (fVar 1) (fC (.int 1))) (fCons (fIx (fVar 1) (fC (.int 2))) fNil))))) fNext) (fSeq (fIf (fTest (f2 gEq (fVar 0) (fC (.str "endless")))) (fRet (fIfE (fTest (fVar 2)) (fCallK G_is_endless [0, 1] 2 fNil (fCons (fIx (fVar 1) (fC (.int 0))) (fCons (fIx (fVar 1) (fC (.int 1))) fNil))) (fCall G_is_endless (fCons (fIx (fVar 1) (fC (.int 0))) (fCons (fIx (fVar 1) (fC (.int 1))) fNil))))) fNext) (fRet (fIfE (fTest (fVar 2)) (fCallK G_net_measure [0] 1 fNil (fCons (fIx (fVar 1) (fC (.int 0))) fNil)) (fCall G_net_measure (fCons (fIx (fVar 1) (fC (.int 0))) fNil))))))))
theorem sc__law_told : FnScope N__law_told ["word", "own", "is_named"] (defScope (topS 24)) := ⟨rfl, rfl, rfl, by decide +kernel, rfl, by decide +kernel, by decide +kernel⟩
theorem der__law_told {f_net_measure : Addr} {fd_net_measure : FuncData} {G_net_measure : SpD} (A_net_measure : At K mg "net_measure" (topS 12) ["net"] f_net_measure fd_net_measure)
    (F_net_measure : FnG P w K mg base 3 f_net_measure fd_net_measure ["net"] (spP K G_net_measure))
    {f_is_endless : Addr} {fd_is_endless : FuncData} {G_is_endless : SpD} (A_is_endless : At K mg "is_endless" (topS 11) ["net", "n"] f_is_endless fd_is_endless)
    (F_is_endless : FnG P w K mg base 5 f_is_endless fd_is_endless ["net", "n"] (spP K G_is_endless))
    {f_comes_to : Addr} {fd_comes_to : FuncData} {G_comes_to : SpD} (A_comes_to : At K mg "comes_to" (topS 9) ["net", "n", "y"] f_comes_to fd_comes_to)
    (F_comes_to : FnG P w K mg base 4 f_comes_to fd_comes_to ["net", "n", "y"] (spP K G_comes_to))
    {f_come_numbers : Addr} {fd_come_numbers : FuncData} {G_come_numbers : SpD} (A_come_numbers : At K mg "come_numbers" (topS 8) ["net", "n", "most"] f_come_numbers fd_come_numbers)
    (F_come_numbers : FnG P w K mg base 4 f_come_numbers fd_come_numbers ["net", "n", "most"] (spP K G_come_numbers))
    (KB_net_measure_net : KB K fd_net_measure ["net"] ["net"] [0])
    (KB_is_endless_net_n : KB K fd_is_endless ["net", "n"] ["net", "n"] [0, 1])
    (KB_comes_to_y_n_net : KB K fd_comes_to ["net", "n", "y"] ["y", "n", "net"] [2, 1, 0])
    (KB_come_numbers_most_n_net : KB K fd_come_numbers ["net", "n", "most"] ["most", "n", "net"] [2, 1, 0]) : Reads P w K mg base N__law_told "_law_told" (topS 24) f 5 (F__law_told G_net_measure G_is_endless G_comes_to G_come_numbers) := by
  intro cdv A outer s H E hgd hr
  have hN : N__law_told.Nodup := by decide +kernel
  have hu := hu_of hr
  have hu64 := hr.units
  exact dss_cons (ds_if (dt_w (dw_and (dt_cmp (op_eqAll hu64) br_eq (de_var 0) de_str (by rfl)) (dw_and1 (dt_val (de_var 2))))) (dss_one (ds_ret (de_callK0 F_come_numbers hgd (hr.mono (by decide)) (takes_of rfl rfl rfl rfl) A_come_numbers.g A_come_numbers.fn.kp KB_come_numbers_most_n_net (dk_cons (de_ix hu (de_var 1) de_int) (dk_cons (de_ix hu (de_var 1) de_int) (dk_cons (de_ix hu (de_var 1) de_int) dk_nil)))))) dss_nil) (dss_cons (ds_if (dt_cmp (op_eqAll hu64) br_eq (de_var 0) de_str (by rfl)) (dss_one (ds_ret (de_call F_come_numbers hgd (hr.mono (by decide)) (takes_of rfl rfl rfl rfl) A_come_numbers.g A_come_numbers.fn.kp A_come_numbers.b (da_cons (de_ix hu (de_var 1) de_int) (da_cons (de_ix hu (de_var 1) de_int) (da_cons (de_ix hu (de_var 1) de_int) da_nil)))))) dss_nil) (dss_cons (ds_if (dt_w (dw_and (dt_cmp (op_eqAll hu64) br_eq (de_var 0) de_str (by rfl)) (dw_and1 (dt_val (de_var 2))))) (dss_one (ds_ret (de_callK0 F_comes_to hgd (hr.mono (by decide)) (takes_of rfl rfl rfl rfl) A_comes_to.g A_comes_to.fn.kp KB_comes_to_y_n_net (dk_cons (de_ix hu (de_var 1) de_int) (dk_cons (de_ix hu (de_var 1) de_int) (dk_cons (de_ix hu (de_var 1) de_int) dk_nil)))))) dss_nil) (dss_cons (ds_if (dt_cmp (op_eqAll hu64) br_eq (de_var 0) de_str (by rfl)) (dss_one (ds_ret (de_call F_comes_to hgd (hr.mono (by decide)) (takes_of rfl rfl rfl rfl) A_comes_to.g A_comes_to.fn.kp A_comes_to.b (da_cons (de_ix hu (de_var 1) de_int) (da_cons (de_ix hu (de_var 1) de_int) (da_cons (de_ix hu (de_var 1) de_int) da_nil)))))) dss_nil) (dss_cons (ds_if (dt_cmp (op_eqAll hu64) br_eq (de_var 0) de_str (by rfl)) (dss_one (ds_ret (de_if (dt_val (de_var 2)) (de_callK0 F_is_endless hgd (hr.mono (by decide)) (takes_of rfl rfl rfl rfl) A_is_endless.g A_is_endless.fn.kp KB_is_endless_net_n (dk_cons (de_ix hu (de_var 1) de_int) (dk_cons (de_ix hu (de_var 1) de_int) dk_nil))) (de_call F_is_endless hgd (hr.mono (by decide)) (takes_of rfl rfl rfl rfl) A_is_endless.g A_is_endless.fn.kp A_is_endless.b (da_cons (de_ix hu (de_var 1) de_int) (da_cons (de_ix hu (de_var 1) de_int) da_nil)))))) dss_nil) (dss_one (ds_ret (de_if (dt_val (de_var 2)) (de_callK0 F_net_measure hgd (hr.mono (by decide)) (takes_of rfl rfl rfl rfl) A_net_measure.g A_net_measure.fn.kp KB_net_measure_net (dk_cons (de_ix hu (de_var 1) de_int) dk_nil)) (de_call F_net_measure hgd (hr.mono (by decide)) (takes_of rfl rfl rfl rfl) A_net_measure.g A_net_measure.fn.kp A_net_measure.b (da_cons (de_ix hu (de_var 1) de_int) da_nil)))))))))
/-! ### _law_asks -/
abbrev N__law_asks : List Str := ["bag", "net", "n", "far", "there", "others", "asks", "most", "points", "rises", "least", "x", "at", "some", "y", "step"]
def F__law_asks (G__law_measure : SpD) (G__law_draw : SpD) (G__law_is_endless : SpD) (G__law_pick : SpD) (G__law_number : SpD) (G__law_far : SpD) : FS := fSeq (fSet 3 (fCall G__law_far (fCons (fVar 1) (fCons (fVar 2) (fCons (fC (.int 318)) fNil))))) (fSeq (fSet 4 (fLc (fiRng1 (fC (.int 301))) (tgName 11) (fTest (f2 gNotN (fIx (fVar 3) (fVar 11)) (fC .none))) (fVar 11) [11])) (fSeq (fSet 5 (fLc (fiRng1 (fC (.int 301))) (tgName 11) (fTest (f2 gIsN (fIx (fVar 3) (fVar 11)) (fC .none))) (fVar 11) [11])) (fSeq (fSet 6 (fLst fNil)) (fSeq (fFor (fiSeq (fLst (fCons (fCallB 0 G__law_number (fCons (fC (.int 300)) fNil)) (fCons (fC (.int 300)) (fCons (fVar 2) (fCons (fMax2 (fC (.int 0)) (fSub (fVar 2) (fC (.int 1)))) fNil)))))) (tgName 7) (fApp 6 (fTup (fCons (fC (.str "numbers")) (fCons (fTup (fCons (fVar 1) (fCons (fVar 2) (fCons (fVar 7) fNil)))) (fCons (fTuple (fLc (fiSeq (fVar 4)) (tgName 11) (fTest (f2 gLe (fVar 11) (fVar 7))) (fVar 11) [11])) fNil)))))) (fSeq (fShare 4 (fSet 8 (fLst (fCons (fVar 2) (fCons (fC (.int 0)) (fCons (fC (.int 300)) (fCons (fIx (fVar 4) (fC (.int 0))) (fCons (fIx (fVar 4) (fNeg (fC (.int 1)))) (fCons (fCallB 0 G__law_pick (fCons (fVar 4) fNil)) (fCons (fCallB 0 G__law_number (fCons (fC (.int 300)) fNil)) (fCons (fCallB 0 G__law_draw (fCons (fC (.int 301)) fNil)) fNil))))))))))) (fSeq (fIf (fTest (f2 gLt (fVar 2) (fC (.int 11)))) (fExt 8 (fListRg1 (fC (.int 13)))) fNext) (fSeq (fIf (fTest (f2 gNe (fVar 5) (fLst fNil))) (fShare 5 (fExt 8 (fLst (fCons (fIx (fVar 5) (fC (.int 0))) (fCons (fIx (fVar 5) (fNeg (fC (.int 1)))) (fCons (fCallB 0 G__law_pick (fCons (fVar 5) fNil)) fNil)))))) fNext) (fSeq (fExt 6 (fLc (fiSeq (fVar 8)) (tgName 14) fYes (fTup (fCons (fC (.str "comes")) (fCons (fTup (fCons (fVar 1) (fCons (fVar 2) (fCons (fVar 14) fNil)))) (fCons (f2 gNotN (fIx (fVar 3) (fVar 14)) (fC .none)) fNil)))) [14])) (fSeq (fSet 9 (fLc (fiSeq (fVar 1)) (tgName 15) (fTest (f2 gGt (fIx (fIx (fVar 15) (fC (.int 1))) (fC (.int 0))) (fIx (fIx (fVar 15) (fC (.int 0))) (fC (.int 0))))) (fIx (fIx (fVar 15) (fC (.int 0))) (fC (.int 0))) [15])) (fSeq (fSet 10 (fIfE (fTest (f2 gNe (fVar 9) (fLst fNil))) (fMinL (fVar 9)) (fCallB 0 G__law_draw (fCons (fC (.int 10)) fNil)))) (fSeq (fFor (fiSeq (fLst (fCons (fVar 2) (fCons (fVar 10) (fCons (fMax2 (fC (.int 0)) (fSub (fVar 10) (fC (.int 1)))) (fCons (fAdd (fVar 10) (fC (.int 1))) (fCons (fC (.int 300)) fNil))))))) (tgName 11) (fApp 6 (fTup (fCons (fC (.str "endless")) (fCons (fTup (fCons (fVar 1) (fCons (fVar 11) fNil))) (fCons (fCall G__law_is_endless (fCons (fVar 1) (fCons (fVar 11) fNil))) fNil)))))) (fSeq (fSet 12 (fIfE (fTest (f2 gNe (fVar 1) (fTup fNil))) (fCallB 0 G__law_draw (fCons (fLen (fVar 1)) fNil)) (fC (.int 0)))) (fSeq (fFor (fiSeq (fLst (fCons (fVar 1) (fCons (fAdd (fSl (fVar 1) fNoP (fPart (fVar 12))) (fSl (fVar 1) (fPart (fAdd (fVar 12) (fC (.int 1)))) fNoP)) (fCons (fSl (fVar 1) (fPart (fVar 12)) (fPart (fAdd (fVar 12) (fC (.int 1))))) (fCons (fTup fNil) fNil)))))) (tgName 13) (fApp 6 (fTup (fCons (fC (.str "measure")) (fCons (fTup (fCons (fVar 13) fNil)) (fCons (fCall G__law_measure (fCons (fVar 13) fNil)) fNil)))))) (fRet (fVar 6)))))))))))))))
theorem sc__law_asks : FnScope N__law_asks ["bag", "net", "n"] (defScope (topS 25)) := ⟨rfl, rfl, rfl, by decide +kernel, rfl, by decide +kernel, by decide +kernel⟩
theorem der__law_asks (b_len : mg "len" = none)
    (b_max : mg "max" = none)
    (b_min : mg "min" = none)
    (b_list : mg "list" = none)
    (b_range : mg "range" = none)
    (b_tuple : mg "tuple" = none)
    {f__law_measure : Addr} {fd__law_measure : FuncData} {G__law_measure : SpD} (A__law_measure : At K mg "_law_measure" (topS 22) ["net"] f__law_measure fd__law_measure)
    (F__law_measure : FnG P w K mg base 1 f__law_measure fd__law_measure ["net"] (spP K G__law_measure))
    {f__law_draw : Addr} {fd__law_draw : FuncData} {G__law_draw : SpD} (A__law_draw : At K mg "_law_draw" (topS 15) ["bag", "below"] f__law_draw fd__law_draw)
    (F__law_draw : FnG P w K mg base 1 f__law_draw fd__law_draw ["bag", "below"] (spB K G__law_draw))
    {f__law_is_endless : Addr} {fd__law_is_endless : FuncData} {G__law_is_endless : SpD} (A__law_is_endless : At K mg "_law_is_endless" (topS 23) ["net", "n"] f__law_is_endless fd__law_is_endless)
    (F__law_is_endless : FnG P w K mg base 1 f__law_is_endless fd__law_is_endless ["net", "n"] (spP K G__law_is_endless))
    {f__law_pick : Addr} {fd__law_pick : FuncData} {G__law_pick : SpD} (A__law_pick : At K mg "_law_pick" (topS 16) ["bag", "some"] f__law_pick fd__law_pick)
    (F__law_pick : FnG P w K mg base 2 f__law_pick fd__law_pick ["bag", "some"] (spB K G__law_pick))
    {f__law_number : Addr} {fd__law_number : FuncData} {G__law_number : SpD} (A__law_number : At K mg "_law_number" (topS 17) ["bag", "most"] f__law_number fd__law_number)
    (F__law_number : FnG P w K mg base 2 f__law_number fd__law_number ["bag", "most"] (spB K G__law_number))
    {f__law_far : Addr} {fd__law_far : FuncData} {G__law_far : SpD} (A__law_far : At K mg "_law_far" (topS 21) ["net", "n", "top"] f__law_far fd__law_far)
    (F__law_far : FnG P w K mg base 2 f__law_far fd__law_far ["net", "n", "top"] (spP K G__law_far)) : Reads P w K mg base N__law_asks "_law_asks" (topS 25) f 2 (F__law_asks G__law_measure G__law_draw G__law_is_endless G__law_pick G__law_number G__law_far) := by
  intro cdv A outer s H E hgd hr
  have hN : N__law_asks.Nodup := by decide +kernel
  have hu := hu_of hr
  have hu64 := hr.units
  exact dss_cons (ds_set 3 hN (de_call F__law_far hgd (hr.mono (by decide)) (takes_of rfl rfl rfl rfl) A__law_far.g A__law_far.fn.kp A__law_far.b (da_cons (de_var 1) (da_cons (de_var 2) (da_cons de_int da_nil))))) (dss_cons (ds_setLc 4 rfl hN (by rfl) (di_rng1 b_range de_int) (own := [("x", 11)]) (blkOk_by (by rfl)) (fun _ _ _ _ _ => dg_name 11 hN) (fun _ _ _ _ _ => dts_one (dt_cmp op_notN br_notN (de_ix hu (de_var 3) (de_var 11)) de_non (by rfl))) (fun _ _ _ _ _ => de_var 11)) (dss_cons (ds_setLc 5 rfl hN (by rfl) (di_rng1 b_range de_int) (own := [("x", 11)]) (blkOk_by (by rfl)) (fun _ _ _ _ _ => dg_name 11 hN) (fun _ _ _ _ _ => dts_one (dt_cmp op_isN br_isN (de_ix hu (de_var 3) (de_var 11)) de_non (by rfl))) (fun _ _ _ _ _ => de_var 11)) (dss_cons (ds_set 6 hN (de_lst da_nil)) (dss_cons (ds_for (passes_of rfl) rfl (di_seq (de_lst (da_cons (de_callBag 0 F__law_number hgd (hr.mono (by decide)) (takes_of rfl rfl rfl rfl) A__law_number.g A__law_number.fn.kp A__law_number.b (da_cons de_int da_nil)) (da_cons de_int (da_cons (de_var 2) (da_cons (de_max2 rfl b_max de_int (de_sub (de_var 2) de_int)) da_nil)))))) (dg_name 7 hN) (dss_one (ds_app 6 (de_tup (da_cons de_str (da_cons (de_tup (da_cons (de_var 1) (da_cons (de_var 2) (da_cons (de_var 7) da_nil)))) (da_cons (de_tuple b_tuple (de_lc rfl hN (di_seq (de_var 4)) (own := [("x", 11)]) (blkOk_by (by rfl)) (fun _ _ _ _ _ => dg_name 11 hN) (fun _ _ _ _ _ => dts_one (dt_cmp op_le (br_rB0 _) (de_var 11) (de_var 7) (by rfl))) (fun _ _ _ _ _ => de_var 11))) da_nil)))) (de_var 6)))) (dss_cons (ds_share 4 (ds_set 8 hN (de_lst (da_cons (de_var 2) (da_cons de_int (da_cons de_int (da_cons (de_ix hu (de_var 4) de_int) (da_cons (de_ix hu (de_var 4) (de_neg de_int)) (da_cons (de_callBag 0 F__law_pick hgd (hr.mono (by decide)) (takes_of rfl rfl rfl rfl) A__law_pick.g A__law_pick.fn.kp A__law_pick.b (da_cons (de_var 4) da_nil)) (da_cons (de_callBag 0 F__law_number hgd (hr.mono (by decide)) (takes_of rfl rfl rfl rfl) A__law_number.g A__law_number.fn.kp A__law_number.b (da_cons de_int da_nil)) (da_cons (de_callBag 0 F__law_draw hgd (hr.mono (by decide)) (takes_of rfl rfl rfl rfl) A__law_draw.g A__law_draw.fn.kp A__law_draw.b (da_cons de_int da_nil)) da_nil))))))))))) (dss_cons (ds_if (dt_cmp op_lt (br_rB0 _) (de_var 2) de_int (by rfl)) (dss_one (ds_ext 8 (de_listRg1 rfl b_list b_range de_int) (de_var 8))) dss_nil) (dss_cons (ds_if (dt_cmp (op_neAll hu64) br_ne (de_var 5) (de_lst da_nil) (by rfl)) (dss_one (ds_share 5 (ds_ext 8 (de_lst (da_cons (de_ix hu (de_var 5) de_int) (da_cons (de_ix hu (de_var 5) (de_neg de_int)) (da_cons (de_callBag 0 F__law_pick hgd (hr.mono (by decide)) (takes_of rfl rfl rfl rfl) A__law_pick.g A__law_pick.fn.kp A__law_pick.b (da_cons (de_var 5) da_nil)) da_nil)))) (de_var 8)))) dss_nil) (dss_cons (ds_ext 6 (de_lc rfl hN (di_seq (de_var 8)) (own := [("y", 14)]) (blkOk_by (by rfl)) (fun _ _ _ _ _ => dg_name 14 hN) (fun _ _ _ _ _ => dts_nil) (fun _ _ _ _ _ => de_tup (da_cons de_str (da_cons (de_tup (da_cons (de_var 1) (da_cons (de_var 2) (da_cons (de_var 14) da_nil)))) (da_cons (de_cmp op_notN br_notN (de_ix hu (de_var 3) (de_var 14)) de_non (by rfl)) da_nil))))) (de_var 6)) (dss_cons (ds_setLc 9 rfl hN (by rfl) (di_seq (de_var 1)) (own := [("step", 15)]) (blkOk_by (by rfl)) (fun _ _ _ _ _ => dg_name 15 hN) (fun _ _ _ _ _ => dts_one (dt_cmp op_gt (br_rB0 _) (de_ix hu (de_ix hu (de_var 15) de_int) de_int) (de_ix hu (de_ix hu (de_var 15) de_int) de_int) (by rfl))) (fun _ _ _ _ _ => de_ix hu (de_ix hu (de_var 15) de_int) de_int)) (dss_cons (ds_set 10 hN (de_if (dt_cmp (op_neAll hu64) br_ne (de_var 9) (de_lst da_nil) (by rfl)) (de_minL rfl b_min (de_var 9)) (de_callBag 0 F__law_draw hgd (hr.mono (by decide)) (takes_of rfl rfl rfl rfl) A__law_draw.g A__law_draw.fn.kp A__law_draw.b (da_cons de_int da_nil)))) (dss_cons (ds_for (passes_of rfl) rfl (di_seq (de_lst (da_cons (de_var 2) (da_cons (de_var 10) (da_cons (de_max2 rfl b_max de_int (de_sub (de_var 10) de_int)) (da_cons (de_add (de_var 10) de_int) (da_cons de_int da_nil))))))) (dg_name 11 hN) (dss_one (ds_app 6 (de_tup (da_cons de_str (da_cons (de_tup (da_cons (de_var 1) (da_cons (de_var 11) da_nil))) (da_cons (de_call F__law_is_endless hgd (hr.mono (by decide)) (takes_of rfl rfl rfl rfl) A__law_is_endless.g A__law_is_endless.fn.kp A__law_is_endless.b (da_cons (de_var 1) (da_cons (de_var 11) da_nil))) da_nil)))) (de_var 6)))) (dss_cons (ds_set 12 hN (de_if (dt_cmp (op_neAll hu64) br_ne (de_var 1) (de_tup da_nil) (by rfl)) (de_callBag 0 F__law_draw hgd (hr.mono (by decide)) (takes_of rfl rfl rfl rfl) A__law_draw.g A__law_draw.fn.kp A__law_draw.b (da_cons (de_len b_len (de_var 1)) da_nil)) de_int)) (dss_cons (ds_for (passes_of rfl) rfl (di_seq (de_lst (da_cons (de_var 1) (da_cons (de_add (de_sl (de_var 1) do_none (do_some (de_var 12))) (de_sl (de_var 1) (do_some (de_add (de_var 12) de_int)) do_none)) (da_cons (de_sl (de_var 1) (do_some (de_var 12)) (do_some (de_add (de_var 12) de_int))) (da_cons (de_tup da_nil) da_nil)))))) (dg_name 13 hN) (dss_one (ds_app 6 (de_tup (da_cons de_str (da_cons (de_tup (da_cons (de_var 13) da_nil)) (da_cons (de_call F__law_measure hgd (hr.mono (by decide)) (takes_of rfl rfl rfl rfl) A__law_measure.g A__law_measure.fn.kp A__law_measure.b (da_cons (de_var 13) da_nil)) da_nil)))) (de_var 6)))) (dss_one (ds_ret (de_var 6))))))))))))))))
/-! ### law -/
abbrev N_law : List Str := ["script", "bag", "asks", "turn", "n", "way", "kept", "word", "own", "due"]
def F_law (G__law_told : SpD) (G__law_asks : SpD) (G__law_net : SpD) (G__law_draw : SpD) (G__law_number : SpD) : FS := fSeq (fBag2 1 2 0 (fLst fNil)) (fSeq (fFor (fiRng1 (fC (.int 4))) (tgName 3) (fSeq (fSet 4 (fCallB 1 G__law_number (fCons (fIx (fLst (fCons (fC (.int 300)) (fCons (fC (.int 300)) (fCons (fC (.int 250)) (fCons (fC (.int 10)) fNil))))) (fVar 3)) fNil))) (fSeq (fSet 5 (fCallB 1 G__law_draw (fCons (fC (.int 14)) fNil))) (fSeq (fIf (fAnd (fTest (f2 gGt (fVar 3) (fC (.int 1)))) (fTest (f2 gEq (fCallB 1 G__law_draw (fCons (fC (.int 2)) fNil)) (fC (.int 0))))) (fSet 5 (fAdd (fC (.int 6)) (fVar 3))) fNext) (fExt 2 (fCallB 1 G__law_asks (fCons (fCallB 1 G__law_net (fCons (fVar 4) (fCons (fC (.int 12)) (fCons (fVar 5) fNil)))) (fCons (fVar 4) fNil)))))))) (fSeq (fSet 6 (fRepr (fLc (fiSeq (fVar 2)) (tgTup (tgCons (tgName 7) (tgCons (tgName 8) (tgCons (tgName 9) tgNil)))) fYes (fVar 8) [7, 8, 9]))) (fSeq (fShare 2 (fFor (fiSeq (fVar 2)) (tgTup (tgCons (tgName 7) (tgCons (tgName 8) (tgCons (tgName 9) tgNil)))) (fIf (fTest (f2 gNe (fRepr (fCall G__law_told (fCons (fVar 7) (fCons (fVar 8) (fCons (fC (.bool false)) fNil))))) (fRepr (fVar 9)))) (fRet (fC (.bool false))) fNext))) (fSeq (fFor (fiRev (fList (fVar 2))) (tgTup (tgCons (tgName 7) (tgCons (tgName 8) (tgCons (tgName 9) tgNil)))) (fIf (fTest (f2 gNe (fRepr (fCall G__law_told (fCons (fVar 7) (fCons (fVar 8) (fCons (fC (.bool true)) fNil))))) (fRepr (fVar 9)))) (fRet (fC (.bool false))) fNext)) (fRet (f2 gEq (fRepr (fLc (fiSeq (fVar 2)) (tgTup (tgCons (tgName 7) (tgCons (tgName 8) (tgCons (tgName 9) tgNil)))) fYes (fVar 8) [7, 8, 9])) (fVar 6)))))))
theorem sc_law : FnScope N_law ["script"] (defScope (topS 26)) := ⟨rfl, rfl, rfl, by decide +kernel, rfl, by decide +kernel, by decide +kernel⟩
theorem der_law (b_repr : mg "repr" = none)
    (b_list : mg "list" = none)
    (b_reversed : mg "reversed" = none)
    (b_range : mg "range" = none)
    {f__law_told : Addr} {fd__law_told : FuncData} {G__law_told : SpD} (A__law_told : At K mg "_law_told" (topS 24) ["word", "own", "is_named"] f__law_told fd__law_told)
    (F__law_told : FnG P w K mg base 6 f__law_told fd__law_told ["word", "own", "is_named"] (spP K G__law_told))
    {f__law_asks : Addr} {fd__law_asks : FuncData} {G__law_asks : SpD} (A__law_asks : At K mg "_law_asks" (topS 25) ["bag", "net", "n"] f__law_asks fd__law_asks)
    (F__law_asks : FnG P w K mg base 3 f__law_asks fd__law_asks ["bag", "net", "n"] (spB K G__law_asks))
    {f__law_net : Addr} {fd__law_net : FuncData} {G__law_net : SpD} (A__law_net : At K mg "_law_net" (topS 19) ["bag", "n", "most", "way"] f__law_net fd__law_net)
    (F__law_net : FnG P w K mg base 3 f__law_net fd__law_net ["bag", "n", "most", "way"] (spB K G__law_net))
    {f__law_draw : Addr} {fd__law_draw : FuncData} {G__law_draw : SpD} (A__law_draw : At K mg "_law_draw" (topS 15) ["bag", "below"] f__law_draw fd__law_draw)
    (F__law_draw : FnG P w K mg base 1 f__law_draw fd__law_draw ["bag", "below"] (spB K G__law_draw))
    {f__law_number : Addr} {fd__law_number : FuncData} {G__law_number : SpD} (A__law_number : At K mg "_law_number" (topS 17) ["bag", "most"] f__law_number fd__law_number)
    (F__law_number : FnG P w K mg base 2 f__law_number fd__law_number ["bag", "most"] (spB K G__law_number))
    {f__law_own_bag : Addr} {fd__law_own_bag : FuncData} (A__law_own_bag : At K mg "_law_own_bag" (topS 14) ["script"] f__law_own_bag fd__law_own_bag)
    (F__law_own_bag : FnG P w K mg base 1 f__law_own_bag fd__law_own_bag ["script"] (spO K)) : Reads P w K mg base N_law "law" (topS 26) f 6 (F_law G__law_told G__law_asks G__law_net G__law_draw G__law_number) := by
  intro cdv A outer s H E hgd hr
  have hN : N_law.Nodup := by decide +kernel
  have hu := hu_of hr
  have hu64 := hr.units
  have hu100 : (A.deeper (envOfC "law" (defScope (topS 26)) s.heap.objs.size f cdv)).units + 100 < cLine := by have := hr.un; omega
  exact dss_cons (ds_bag2 1 2 0 rfl F__law_own_bag hgd (hr.mono (by decide)) (takes_of rfl rfl rfl rfl) A__law_own_bag.g A__law_own_bag.fn.kp A__law_own_bag.b hN (de_lst da_nil)) (dss_cons (ds_for (passes_of rfl) rfl (di_rng1 b_range de_int) (dg_name 3 hN) (dss_cons (ds_set 4 hN (de_callBag 1 F__law_number hgd (hr.mono (by decide)) (takes_of rfl rfl rfl rfl) A__law_number.g A__law_number.fn.kp A__law_number.b (da_cons (de_ix hu (de_lst (da_cons de_int (da_cons de_int (da_cons de_int (da_cons de_int da_nil))))) (de_var 3)) da_nil))) (dss_cons (ds_set 5 hN (de_callBag 1 F__law_draw hgd (hr.mono (by decide)) (takes_of rfl rfl rfl rfl) A__law_draw.g A__law_draw.fn.kp A__law_draw.b (da_cons de_int da_nil))) (dss_cons (ds_if (dt_w (dw_and (dt_cmp op_gt (br_rB0 _) (de_var 3) de_int (by rfl)) (dw_and1 (dt_cmp (op_eqAll hu64) br_eq (de_callBag 1 F__law_draw hgd (hr.mono (by decide)) (takes_of rfl rfl rfl rfl) A__law_draw.g A__law_draw.fn.kp A__law_draw.b (da_cons de_int da_nil)) de_int (by rfl))))) (dss_one (ds_set 5 hN (de_add de_int (de_var 3)))) dss_nil) (dss_one (ds_ext 2 (de_callBag 1 F__law_asks hgd (hr.mono (by decide)) (takes_of rfl rfl rfl rfl) A__law_asks.g A__law_asks.fn.kp A__law_asks.b (da_cons (de_callBag 1 F__law_net hgd (hr.mono (by decide)) (takes_of rfl rfl rfl rfl) A__law_net.g A__law_net.fn.kp A__law_net.b (da_cons (de_var 4) (da_cons de_int (da_cons (de_var 5) da_nil)))) (da_cons (de_var 4) da_nil))) (de_var 2))))))) (dss_cons (ds_set 6 hN (de_repr hgd hu100 b_repr (de_lc rfl hN (di_seq (de_var 2)) (own := [("word", 7), ("own", 8), ("due", 9)]) (blkOk_by (by rfl)) (fun _ _ _ _ _ => dg_tup rfl (dgs_cons (dg_name 7 hN) (dgs_cons (dg_name 8 hN) (dgs_cons (dg_name 9 hN) dgs_nil))) 3 (Rs.len (rs_cons (rc_name 7) (rs_cons (rc_name 8) (rs_cons (rc_name 9) rs_nil))))) (fun _ _ _ _ _ => dts_nil) (fun _ _ _ _ _ => de_var 8)))) (dss_cons (ds_share 2 (ds_for (passes_of rfl) rfl (di_seq (de_var 2)) (dg_tup rfl (dgs_cons (dg_name 7 hN) (dgs_cons (dg_name 8 hN) (dgs_cons (dg_name 9 hN) dgs_nil))) 3 (Rs.len (rs_cons (rc_name 7) (rs_cons (rc_name 8) (rs_cons (rc_name 9) rs_nil))))) (dss_one (ds_if (dt_cmp (op_neAll hu64) br_ne (de_repr hgd hu100 b_repr (de_call F__law_told hgd (hr.mono (by decide)) (takes_of rfl rfl rfl rfl) A__law_told.g A__law_told.fn.kp A__law_told.b (da_cons (de_var 7) (da_cons (de_var 8) (da_cons de_bl da_nil))))) (de_repr hgd hu100 b_repr (de_var 9)) (by rfl)) (dss_one (ds_ret de_bl)) dss_nil)))) (dss_cons (ds_for (passes_of rfl) rfl (di_rev b_reversed (de_list rfl b_list (de_var 2))) (dg_tup rfl (dgs_cons (dg_name 7 hN) (dgs_cons (dg_name 8 hN) (dgs_cons (dg_name 9 hN) dgs_nil))) 3 (Rs.len (rs_cons (rc_name 7) (rs_cons (rc_name 8) (rs_cons (rc_name 9) rs_nil))))) (dss_one (ds_if (dt_cmp (op_neAll hu64) br_ne (de_repr hgd hu100 b_repr (de_call F__law_told hgd (hr.mono (by decide)) (takes_of rfl rfl rfl rfl) A__law_told.g A__law_told.fn.kp A__law_told.b (da_cons (de_var 7) (da_cons (de_var 8) (da_cons de_bl da_nil))))) (de_repr hgd hu100 b_repr (de_var 9)) (by rfl)) (dss_one (ds_ret de_bl)) dss_nil))) (dss_one (ds_ret (de_cmp (op_eqAll hu64) br_eq (de_repr hgd hu100 b_repr (de_lc rfl hN (di_seq (de_var 2)) (own := [("word", 7), ("own", 8), ("due", 9)]) (blkOk_by (by rfl)) (fun _ _ _ _ _ => dg_tup rfl (dgs_cons (dg_name 7 hN) (dgs_cons (dg_name 8 hN) (dgs_cons (dg_name 9 hN) dgs_nil))) 3 (Rs.len (rs_cons (rc_name 7) (rs_cons (rc_name 8) (rs_cons (rc_name 9) rs_nil))))) (fun _ _ _ _ _ => dts_nil) (fun _ _ _ _ _ => de_var 8))) (de_var 6) (by rfl))))))))
end
end G61

/-! DL20: helps for the plain part. -/
namespace DL
open PySem L2
theorem gt0 {x0 : Slot} {l : List Slot} : (x0 :: l)[0]? = some x0 := rfl
theorem st0 {x0 y : Slot} {l : List Slot} : (x0 :: l).set 0 y = y :: l := rfl
theorem gt1 {x0 x1 : Slot} {l : List Slot} : (x0 :: x1 :: l)[1]? = some x1 := rfl
theorem st1 {x0 x1 y : Slot} {l : List Slot} : (x0 :: x1 :: l).set 1 y = x0 :: y :: l := rfl
theorem gt2 {x0 x1 x2 : Slot} {l : List Slot} : (x0 :: x1 :: x2 :: l)[2]? = some x2 := rfl
theorem st2 {x0 x1 x2 y : Slot} {l : List Slot} : (x0 :: x1 :: x2 :: l).set 2 y = x0 :: x1 :: y :: l := rfl
theorem gt3 {x0 x1 x2 x3 : Slot} {l : List Slot} : (x0 :: x1 :: x2 :: x3 :: l)[3]? = some x3 := rfl
theorem st3 {x0 x1 x2 x3 y : Slot} {l : List Slot} : (x0 :: x1 :: x2 :: x3 :: l).set 3 y = x0 :: x1 :: x2 :: y :: l := rfl
theorem gt4 {x0 x1 x2 x3 x4 : Slot} {l : List Slot} : (x0 :: x1 :: x2 :: x3 :: x4 :: l)[4]? = some x4 := rfl
theorem st4 {x0 x1 x2 x3 x4 y : Slot} {l : List Slot} : (x0 :: x1 :: x2 :: x3 :: x4 :: l).set 4 y = x0 :: x1 :: x2 :: x3 :: y :: l := rfl
theorem gt5 {x0 x1 x2 x3 x4 x5 : Slot} {l : List Slot} : (x0 :: x1 :: x2 :: x3 :: x4 :: x5 :: l)[5]? = some x5 := rfl
theorem st5 {x0 x1 x2 x3 x4 x5 y : Slot} {l : List Slot} : (x0 :: x1 :: x2 :: x3 :: x4 :: x5 :: l).set 5 y = x0 :: x1 :: x2 :: x3 :: x4 :: y :: l := rfl
theorem gt6 {x0 x1 x2 x3 x4 x5 x6 : Slot} {l : List Slot} : (x0 :: x1 :: x2 :: x3 :: x4 :: x5 :: x6 :: l)[6]? = some x6 := rfl
theorem st6 {x0 x1 x2 x3 x4 x5 x6 y : Slot} {l : List Slot} : (x0 :: x1 :: x2 :: x3 :: x4 :: x5 :: x6 :: l).set 6 y = x0 :: x1 :: x2 :: x3 :: x4 :: x5 :: y :: l := rfl
theorem gt7 {x0 x1 x2 x3 x4 x5 x6 x7 : Slot} {l : List Slot} : (x0 :: x1 :: x2 :: x3 :: x4 :: x5 :: x6 :: x7 :: l)[7]? = some x7 := rfl
theorem st7 {x0 x1 x2 x3 x4 x5 x6 x7 y : Slot} {l : List Slot} : (x0 :: x1 :: x2 :: x3 :: x4 :: x5 :: x6 :: x7 :: l).set 7 y = x0 :: x1 :: x2 :: x3 :: x4 :: x5 :: x6 :: y :: l := rfl
theorem gt8 {x0 x1 x2 x3 x4 x5 x6 x7 x8 : Slot} {l : List Slot} : (x0 :: x1 :: x2 :: x3 :: x4 :: x5 :: x6 :: x7 :: x8 :: l)[8]? = some x8 := rfl
theorem st8 {x0 x1 x2 x3 x4 x5 x6 x7 x8 y : Slot} {l : List Slot} : (x0 :: x1 :: x2 :: x3 :: x4 :: x5 :: x6 :: x7 :: x8 :: l).set 8 y = x0 :: x1 :: x2 :: x3 :: x4 :: x5 :: x6 :: x7 :: y :: l := rfl
theorem gt9 {x0 x1 x2 x3 x4 x5 x6 x7 x8 x9 : Slot} {l : List Slot} : (x0 :: x1 :: x2 :: x3 :: x4 :: x5 :: x6 :: x7 :: x8 :: x9 :: l)[9]? = some x9 := rfl
theorem st9 {x0 x1 x2 x3 x4 x5 x6 x7 x8 x9 y : Slot} {l : List Slot} : (x0 :: x1 :: x2 :: x3 :: x4 :: x5 :: x6 :: x7 :: x8 :: x9 :: l).set 9 y = x0 :: x1 :: x2 :: x3 :: x4 :: x5 :: x6 :: x7 :: x8 :: y :: l := rfl
theorem gt10 {x0 x1 x2 x3 x4 x5 x6 x7 x8 x9 x10 : Slot} {l : List Slot} : (x0 :: x1 :: x2 :: x3 :: x4 :: x5 :: x6 :: x7 :: x8 :: x9 :: x10 :: l)[10]? = some x10 := rfl
theorem st10 {x0 x1 x2 x3 x4 x5 x6 x7 x8 x9 x10 y : Slot} {l : List Slot} : (x0 :: x1 :: x2 :: x3 :: x4 :: x5 :: x6 :: x7 :: x8 :: x9 :: x10 :: l).set 10 y = x0 :: x1 :: x2 :: x3 :: x4 :: x5 :: x6 :: x7 :: x8 :: x9 :: y :: l := rfl
theorem gt11 {x0 x1 x2 x3 x4 x5 x6 x7 x8 x9 x10 x11 : Slot} {l : List Slot} : (x0 :: x1 :: x2 :: x3 :: x4 :: x5 :: x6 :: x7 :: x8 :: x9 :: x10 :: x11 :: l)[11]? = some x11 := rfl
theorem st11 {x0 x1 x2 x3 x4 x5 x6 x7 x8 x9 x10 x11 y : Slot} {l : List Slot} : (x0 :: x1 :: x2 :: x3 :: x4 :: x5 :: x6 :: x7 :: x8 :: x9 :: x10 :: x11 :: l).set 11 y = x0 :: x1 :: x2 :: x3 :: x4 :: x5 :: x6 :: x7 :: x8 :: x9 :: x10 :: y :: l := rfl
theorem gt12 {x0 x1 x2 x3 x4 x5 x6 x7 x8 x9 x10 x11 x12 : Slot} {l : List Slot} : (x0 :: x1 :: x2 :: x3 :: x4 :: x5 :: x6 :: x7 :: x8 :: x9 :: x10 :: x11 :: x12 :: l)[12]? = some x12 := rfl
theorem st12 {x0 x1 x2 x3 x4 x5 x6 x7 x8 x9 x10 x11 x12 y : Slot} {l : List Slot} : (x0 :: x1 :: x2 :: x3 :: x4 :: x5 :: x6 :: x7 :: x8 :: x9 :: x10 :: x11 :: x12 :: l).set 12 y = x0 :: x1 :: x2 :: x3 :: x4 :: x5 :: x6 :: x7 :: x8 :: x9 :: x10 :: x11 :: y :: l := rfl
theorem gt13 {x0 x1 x2 x3 x4 x5 x6 x7 x8 x9 x10 x11 x12 x13 : Slot} {l : List Slot} : (x0 :: x1 :: x2 :: x3 :: x4 :: x5 :: x6 :: x7 :: x8 :: x9 :: x10 :: x11 :: x12 :: x13 :: l)[13]? = some x13 := rfl
theorem st13 {x0 x1 x2 x3 x4 x5 x6 x7 x8 x9 x10 x11 x12 x13 y : Slot} {l : List Slot} : (x0 :: x1 :: x2 :: x3 :: x4 :: x5 :: x6 :: x7 :: x8 :: x9 :: x10 :: x11 :: x12 :: x13 :: l).set 13 y = x0 :: x1 :: x2 :: x3 :: x4 :: x5 :: x6 :: x7 :: x8 :: x9 :: x10 :: x11 :: x12 :: y :: l := rfl
theorem gt14 {x0 x1 x2 x3 x4 x5 x6 x7 x8 x9 x10 x11 x12 x13 x14 : Slot} {l : List Slot} : (x0 :: x1 :: x2 :: x3 :: x4 :: x5 :: x6 :: x7 :: x8 :: x9 :: x10 :: x11 :: x12 :: x13 :: x14 :: l)[14]? = some x14 := rfl
theorem st14 {x0 x1 x2 x3 x4 x5 x6 x7 x8 x9 x10 x11 x12 x13 x14 y : Slot} {l : List Slot} : (x0 :: x1 :: x2 :: x3 :: x4 :: x5 :: x6 :: x7 :: x8 :: x9 :: x10 :: x11 :: x12 :: x13 :: x14 :: l).set 14 y = x0 :: x1 :: x2 :: x3 :: x4 :: x5 :: x6 :: x7 :: x8 :: x9 :: x10 :: x11 :: x12 :: x13 :: y :: l := rfl
theorem gt15 {x0 x1 x2 x3 x4 x5 x6 x7 x8 x9 x10 x11 x12 x13 x14 x15 : Slot} {l : List Slot} : (x0 :: x1 :: x2 :: x3 :: x4 :: x5 :: x6 :: x7 :: x8 :: x9 :: x10 :: x11 :: x12 :: x13 :: x14 :: x15 :: l)[15]? = some x15 := rfl
theorem st15 {x0 x1 x2 x3 x4 x5 x6 x7 x8 x9 x10 x11 x12 x13 x14 x15 y : Slot} {l : List Slot} : (x0 :: x1 :: x2 :: x3 :: x4 :: x5 :: x6 :: x7 :: x8 :: x9 :: x10 :: x11 :: x12 :: x13 :: x14 :: x15 :: l).set 15 y = x0 :: x1 :: x2 :: x3 :: x4 :: x5 :: x6 :: x7 :: x8 :: x9 :: x10 :: x11 :: x12 :: x13 :: x14 :: y :: l := rfl

/-! comprehensions -/
theorem lc_run {g : FG} {t : FT} {f : FE} {vs : List Nat} {δ : List Slot} {Q : Res → Prop} {ds : List D} (out : D → Option D) (hz : ds.length ≤ sizeLine)
    (h : ∀ d ∈ ds, ∀ K : Option D → Prop, K (out d) → g (.sh d) (wipeD δ vs) fun δ2 => t δ2 (fun b => if b = true then f δ2 (fun r => stab r fun y => K (some y)) (fun _ => False) else K none) (fun _ => False))
    (q : Q (.fr (.list (ds.filterMap out)))) :
    ∃ P : Nat → List D → Prop, P 0 [] ∧
      (∀ i d acc, ds[i]? = some d → P i acc → g (.sh d) (wipeD δ vs) fun δ2 => t δ2 (fun b => if b = true then f δ2 (fun r => stab r fun y => acc.length < sizeLine ∧ P (i + 1) (acc ++ [y])) (fun _ => False) else P (i + 1) acc) (fun _ => False)) ∧
      ∀ acc, P ds.length acc → Q (.fr (.list acc)) := by
  refine ⟨fun i acc => acc = (ds.take i).filterMap out, by simp, fun i d acc hd e => ?_, fun acc e => ?_⟩
  · have hi : i < ds.length := (List.getElem?_eq_some_iff.mp hd).1
    have ht : (ds.take (i + 1)).filterMap out = (ds.take i).filterMap out ++ (out d).toList := by
      rw [List.take_succ, hd, List.filterMap_append]
      cases h : out d <;> simp [h]
    refine h d (List.mem_of_getElem? hd) (fun o => match o with | some y => acc.length < sizeLine ∧ acc ++ [y] = (ds.take (i + 1)).filterMap out | none => acc = (ds.take (i + 1)).filterMap out) ?_
    have hl : acc.length ≤ i := by
      rw [e]
      exact Nat.le_trans (List.length_filterMap_le _ _) (by rw [List.length_take]; omega)
    cases ho : out d with
    | none => rw [ho] at ht; simp only [Option.toList, List.append_nil] at ht; show acc = _; rw [ht, e]
    | some y => rw [ho] at ht; simp only [Option.toList] at ht; exact ⟨by omega, by rw [ht, e]⟩
  · rw [e, List.take_length]
    exact q
/-- each answer has a property -/
theorem lc_any {g : FG} {t : FT} {f : FE} {vs : List Nat} {δ : List Slot} {Q : Res → Prop} {ds : List D} (R : D → Prop) (hz : ds.length ≤ sizeLine)
    (h : ∀ d ∈ ds, ∀ K : Option D → Prop, (∀ y, R y → K (some y)) → K none → g (.sh d) (wipeD δ vs) fun δ2 => t δ2 (fun b => if b = true then f δ2 (fun r => stab r fun y => K (some y)) (fun _ => False) else K none) (fun _ => False))
    (q : ∀ ys, ys.length ≤ ds.length → (∀ y ∈ ys, R y) → Q (.fr (.list ys))) :
    ∃ P : Nat → List D → Prop, P 0 [] ∧
      (∀ i d acc, ds[i]? = some d → P i acc → g (.sh d) (wipeD δ vs) fun δ2 => t δ2 (fun b => if b = true then f δ2 (fun r => stab r fun y => acc.length < sizeLine ∧ P (i + 1) (acc ++ [y])) (fun _ => False) else P (i + 1) acc) (fun _ => False)) ∧
      ∀ acc, P ds.length acc → Q (.fr (.list acc)) := by
  refine ⟨fun i acc => acc.length ≤ i ∧ ∀ y ∈ acc, R y, by simp, fun i d acc hd e => ?_, fun acc e => q acc e.1 e.2⟩
  have hi : i < ds.length := (List.getElem?_eq_some_iff.mp hd).1
  refine h d (List.mem_of_getElem? hd) (fun o => match o with | some y => acc.length < sizeLine ∧ (acc ++ [y]).length ≤ i + 1 ∧ ∀ z ∈ acc ++ [y], R z | none => acc.length ≤ i + 1 ∧ ∀ y ∈ acc, R y) (fun y hy => ⟨by omega, by simp; exact e.1, fun z hz => ?_⟩) ⟨by omega, e.2⟩
  rcases List.mem_append.mp hz with z' | z'
  · exact e.2 z z'
  · rw [List.mem_singleton.mp z']; exact hy
/-- and there are as many as items -/
theorem lc_all {g : FG} {f : FE} {vs : List Nat} {δ : List Slot} {Q : Res → Prop} {ds : List D} (R : D → Prop) (hz : ds.length ≤ sizeLine)
    (h : ∀ d ∈ ds, ∀ K : Option D → Prop, (∀ y, R y → K (some y)) → g (.sh d) (wipeD δ vs) fun δ2 => fYes δ2 (fun b => if b = true then f δ2 (fun r => stab r fun y => K (some y)) (fun _ => False) else K none) (fun _ => False))
    (q : ∀ ys, ys.length = ds.length → (∀ y ∈ ys, R y) → Q (.fr (.list ys))) :
    ∃ P : Nat → List D → Prop, P 0 [] ∧
      (∀ i d acc, ds[i]? = some d → P i acc → g (.sh d) (wipeD δ vs) fun δ2 => fYes δ2 (fun b => if b = true then f δ2 (fun r => stab r fun y => acc.length < sizeLine ∧ P (i + 1) (acc ++ [y])) (fun _ => False) else P (i + 1) acc) (fun _ => False)) ∧
      ∀ acc, P ds.length acc → Q (.fr (.list acc)) := by
  refine ⟨fun i acc => acc.length = i ∧ ∀ y ∈ acc, R y, by simp, fun i d acc hd e => ?_, fun acc e => q acc e.1 e.2⟩
  have hi : i < ds.length := (List.getElem?_eq_some_iff.mp hd).1
  have := h d (List.mem_of_getElem? hd) (fun o => match o with | some y => acc.length < sizeLine ∧ (acc ++ [y]).length = i + 1 ∧ ∀ z ∈ acc ++ [y], R z | none => False) (fun y hy => ⟨by omega, by simp; exact e.1, fun z hz => by
    rcases List.mem_append.mp hz with z' | z'
    · exact e.2 z z'
    · rw [List.mem_singleton.mp z']; exact hy⟩)
  exact this
theorem flc_run {it : FI} {g : FG} {t : FT} {f : FE} {vs : List Nat} {δ : List Slot} {Q : Res → Prop} {ED : XD → Prop} (ds : List D) (out : D → Option D) (hit : ∀ R : Bool → List D → Prop, (∀ st, R st ds) → it δ R ED) (hz : ds.length ≤ sizeLine)
    (h : ∀ d ∈ ds, ∀ K : Option D → Prop, K (out d) → g (.sh d) (wipeD δ vs) fun δ2 => t δ2 (fun b => if b = true then f δ2 (fun r => stab r fun y => K (some y)) (fun _ => False) else K none) (fun _ => False))
    (q : Q (.fr (.list (ds.filterMap out)))) : fLc it g t f vs δ Q ED := hit _ fun _ => lc_run out hz h q
theorem flc_map {it : FI} {g : FG} {f : FE} {vs : List Nat} {δ : List Slot} {Q : Res → Prop} {ED : XD → Prop} (ds : List D) (out : D → D) (hit : ∀ R : Bool → List D → Prop, (∀ st, R st ds) → it δ R ED) (hz : ds.length ≤ sizeLine)
    (h : ∀ d ∈ ds, ∀ K : D → Prop, K (out d) → g (.sh d) (wipeD δ vs) fun δ2 => f δ2 (fun r => stab r K) (fun _ => False))
    (q : Q (.fr (.list (ds.map out)))) : fLc it g fYes f vs δ Q ED := by
  refine flc_run ds (fun d => some (out d)) hit hz (fun d hd K k => ?_) (by rw [List.filterMap_eq_map']; exact q)
  exact h d hd (fun y => K (some y)) k
theorem flc_any {it : FI} {g : FG} {t : FT} {f : FE} {vs : List Nat} {δ : List Slot} {Q : Res → Prop} {ED : XD → Prop} (ds : List D) (R : D → Prop) (hit : ∀ R : Bool → List D → Prop, (∀ st, R st ds) → it δ R ED) (hz : ds.length ≤ sizeLine)
    (h : ∀ d ∈ ds, ∀ K : Option D → Prop, (∀ y, R y → K (some y)) → K none → g (.sh d) (wipeD δ vs) fun δ2 => t δ2 (fun b => if b = true then f δ2 (fun r => stab r fun y => K (some y)) (fun _ => False) else K none) (fun _ => False))
    (q : ∀ ys, ys.length ≤ ds.length → (∀ y ∈ ys, R y) → Q (.fr (.list ys))) : fLc it g t f vs δ Q ED := hit _ fun _ => lc_any R hz h q
theorem flc_all {it : FI} {g : FG} {f : FE} {vs : List Nat} {δ : List Slot} {Q : Res → Prop} {ED : XD → Prop} (ds : List D) (R : D → Prop) (hit : ∀ R : Bool → List D → Prop, (∀ st, R st ds) → it δ R ED) (hz : ds.length ≤ sizeLine)
    (h : ∀ d ∈ ds, ∀ K : D → Prop, (∀ y, R y → K y) → g (.sh d) (wipeD δ vs) fun δ2 => f δ2 (fun r => stab r K) (fun _ => False))
    (q : ∀ ys, ys.length = ds.length → (∀ y ∈ ys, R y) → Q (.fr (.list ys))) : fLc it g fYes f vs δ Q ED :=
  hit _ fun _ => lc_all R hz (fun d hd K k => h d hd (fun y => K (some y)) k) q
/-! loops -/
theorem ffor_run {it : FI} {g : FG} {body : FS} {Z : DEnds} {δ : List Slot} (ds : List D) (P : Nat → List Slot → Prop) (hit : ∀ R : Bool → List D → Prop, R true ds → it δ R fun x => Z.ex x δ) (h0 : P 0 δ)
    (h : ∀ i d δ, ds[i]? = some d → P i δ → g (.sh d) δ fun δ2 => body { Z with nx := P (i + 1), ct := P (i + 1), bk := Z.nx } δ2) (q : ∀ δ, P ds.length δ → Z.nx δ) : fFor it g body Z δ := hit _ ⟨rfl, P, h0, h, q⟩
theorem fwhile_run {t : FT} {body : FS} {Z : DEnds} {δ : List Slot} (P : Nat → List Slot → Prop) (m : Nat) (h0 : P m δ) (h : ∀ m δ, P m δ → t δ (fun b => if b = true then body { Z with nx := fun δ' => ∃ m', m' < m ∧ P m' δ', ct := fun δ' => ∃ m', m' < m ∧ P m' δ', bk := Z.nx } δ else Z.nx δ) fun x => Z.ex x δ) : fWhile t body Z δ :=
  ⟨P, ⟨m, h0⟩, h⟩
theorem fseq_run {f g : FS} {Z : DEnds} {δ : List Slot} (h : f { Z with nx := g Z } δ) : fSeq f g Z δ := h
theorem fif_run {t : FT} {f g : FS} {Z : DEnds} {δ : List Slot} (h : t δ (fun b => if b = true then f Z δ else g Z δ) fun x => Z.ex x δ) : fIf t f g Z δ := h
theorem xor_f (b : Bool) : (xor false b) = b := by cases b <;> rfl
theorem xor_t (b : Bool) : (xor true b) = !b := by cases b <;> rfl
theorem len1 {α : Type} (a : α) : [a].length ≤ sizeLine := by show 1 ≤ sizeLine; decide
theorem sl_eq : sizeLine = 16777216 := rfl
theorem atI_ofNat {α : Type} {xs : List α} {i : Int} {x : α} (h0 : 0 ≤ i) (h : xs[i.toNat]? = some x) : atI xs i = some x := by
  have hl : i.toNat < xs.length := (List.getElem?_eq_some_iff.mp h).1
  unfold atI ixN
  rw [if_pos h0, if_pos (by omega)]
  exact h
theorem atI_zero {α : Type} {x : α} {xs : List α} : atI (x :: xs) 0 = some x := atI_ofNat (by decide) rfl
theorem atI_one {α : Type} {x y : α} {xs : List α} : atI (x :: y :: xs) 1 = some y := atI_ofNat (by decide) rfl
theorem atI_two {α : Type} {x y z : α} {xs : List α} : atI (x :: y :: z :: xs) 2 = some z := atI_ofNat (by decide) rfl
end DL

/-! DL21: plain facts: dicts with whole numbers for keys, lists without doubles. -/
namespace DL
open PySem L2
theorem eqv_int (a b : Int) : PyData.eqv (.int a) (.int b) = decide (a = b) := by
  have := eqv_key (.inl a) (.inl b)
  simpa [keyD] using this
theorem lookD_isSome {kds : List (D × D)} {F : List Int} (h : keysD kds = F.map PyData.int) (y : Int) : (lookD kds (.int y)).isSome = decide (y ∈ F) := by
  induction F generalizing kds with
  | nil =>
    cases kds with
    | nil => rfl
    | cons p l => simp [keysD] at h
  | cons x F ih =>
    cases kds with
    | nil => simp [keysD] at h
    | cons p l =>
      simp only [keysD, List.map_cons, List.cons.injEq] at h
      obtain ⟨h1, h2⟩ := h
      have := ih (kds := l) h2
      unfold lookD at this ⊢
      rw [List.find?_cons, h1, eqv_int]
      by_cases e : x = y
      · simp [e]
      · rw [decide_eq_false e]
        have e' : ¬ y = x := fun z => e z.symm
        simp only [List.mem_cons, e', false_or]
        exact this
theorem putD_new {kds : List (D × D)} {F : List Int} (h : keysD kds = F.map PyData.int) {y : Int} (hy : y ∉ F) (d : D) : putD kds (.int y) d = kds ++ [(.int y, d)] := by
  unfold putD
  rw [if_neg]
  intro z
  rw [List.any_eq_true] at z
  obtain ⟨p, hp, hq⟩ := z
  have : p.1 ∈ keysD kds := List.mem_map_of_mem hp
  rw [h] at this
  obtain ⟨x, hx, ex⟩ := List.mem_map.mp this
  rw [← ex, eqv_int] at hq
  simp at hq
  subst hq
  exact hy hx
theorem keysD_snoc {kds : List (D × D)} {F : List Int} (h : keysD kds = F.map PyData.int) (y : Int) (d : D) : keysD (kds ++ [(.int y, d)]) = (F ++ [y]).map PyData.int := by
  unfold keysD at h ⊢
  rw [List.map_append, h, List.map_append]; rfl
theorem keys_sc {kds : List (D × D)} {F : List Int} (h : keysD kds = F.map PyData.int) : kds.all (fun p => scK p.1) = true := by
  rw [List.all_eq_true]
  intro p hp
  have : p.1 ∈ keysD kds := List.mem_map_of_mem hp
  rw [h] at this
  obtain ⟨x, _, ex⟩ := List.mem_map.mp this
  rw [← ex]; rfl
theorem keys_len {kds : List (D × D)} {F : List Int} (h : keysD kds = F.map PyData.int) : kds.length = F.length := by
  have := congrArg List.length h
  simpa [keysD] using this
theorem nodup_len : ∀ (T : Nat) (l : List Int), l.Nodup → (∀ x ∈ l, 0 ≤ x ∧ x < (T : Int)) → l.length ≤ T
  | 0, l, _, h => by
    cases l with
    | nil => exact Nat.le_refl _
    | cons a r => have := h a (by simp); omega
  | T + 1, l, nd, h => by
    have h1 := nodup_len T (l.erase (T : Int)) (nd.erase _) fun x hx => by
      have h2 := (nd.mem_erase_iff).mp hx
      have := h x h2.2
      omega
    by_cases hm : (T : Int) ∈ l
    · rw [List.length_erase_of_mem hm] at h1; omega
    · rw [List.erase_of_not_mem hm] at h1; omega
theorem nodup_snoc {α : Type} {l : List α} {x : α} (h : l.Nodup) (hx : x ∉ l) : (l ++ [x]).Nodup := by
  rw [List.nodup_append]
  refine ⟨h, by simp, fun a ha b hb => ?_⟩
  simp at hb
  subst hb
  intro e
  exact hx (e ▸ ha)
theorem numD_get {ds : List D} {i : Nat} {d : D} (h : (numD ds)[i]? = some d) : ∃ e, ds[i]? = some e ∧ d = .tuple [.int i, e] := by
  unfold numD at h
  rw [List.getElem?_mapIdx] at h
  cases e : ds[i]? with
  | none => rw [e] at h; cases h
  | some x => rw [e] at h; cases h; exact ⟨x, rfl, rfl⟩
theorem numD_len (ds : List D) : (numD ds).length = ds.length := by unfold numD; simp
theorem map_get {α : Type} {xs : List α} {f : α → D} {i : Nat} {d : D} (h : (xs.map f)[i]? = some d) : ∃ x, xs[i]? = some x ∧ d = f x := by
  rw [List.getElem?_map] at h
  cases e : xs[i]? with
  | none => rw [e] at h; cases h
  | some x => rw [e] at h; cases h; exact ⟨x, rfl, rfl⟩
/-- a list of whole numbers against [] -/
theorem gNe_nil {ns : List Int} {Q : D → Prop} (h : Q (.bool (!ns.isEmpty))) : gNe (.list (ns.map PyData.int)) (.list []) Q := .inr ⟨shaped_ints ns, rfl, by rw [eqv_nil]; exact h⟩
theorem gEq_int {a b : Int} {Q : D → Prop} (h : Q (.bool (decide (a = b)))) : gEq (.int a) (.int b) Q := .inl ⟨rfl, by
  have : eqD (.int a) (.int b) = decide (a = b) := rfl
  rw [this]; exact h⟩
theorem gNe_int {a b : Int} {Q : D → Prop} (h : Q (.bool (!decide (a = b)))) : gNe (.int a) (.int b) Q := .inl ⟨rfl, by
  have : eqD (.int a) (.int b) = decide (a = b) := rfl
  rw [this]; exact h⟩
theorem gEq_int_eq (a b : Int) (Q : D → Prop) : gEq (.int a) (.int b) Q ↔ Q (.bool (decide (a = b))) := ⟨fun h => by
  rcases h with ⟨_, h⟩ | ⟨_, _, h⟩
  · exact h
  · rw [eqv_int] at h; exact h, gEq_int⟩
theorem gNe_int_eq (a b : Int) (Q : D → Prop) : gNe (.int a) (.int b) Q ↔ Q (.bool (!decide (a = b))) := ⟨fun h => by
  rcases h with ⟨_, h⟩ | ⟨_, _, h⟩
  · exact h
  · rw [eqv_int] at h; exact h, gNe_int⟩
theorem gIn_keys {neg : Bool} {r : Res} {kds : List (D × D)} {F : List Int} {y : Int} {Q : Res → Prop} (hk : keysD kds = F.map PyData.int) (hr : r.d = .dict kds) (q : Q (.sh (.bool (xor neg (decide (y ∈ F)))))) : gIn neg (.sh (.int y)) r Q := by
  unfold gIn
  rw [hr]
  refine ⟨⟨rfl, keys_sc hk⟩, ?_⟩
  show Q (.sh (.bool (xor neg (lookD kds (.int y)).isSome)))
  rw [lookD_isSome hk]
  exact q
theorem iteT' {b : Bool} {p q : Prop} (e : b = true) (h : p) : if b = true then p else q := by rw [if_pos e]; exact h
theorem iteF' {b : Bool} {p q : Prop} (e : b = false) (h : q) : if b = true then p else q := by rw [if_neg (by rw [e]; decide)]; exact h
/-! when the walk's items come of a call -/
def LcGoal (g : FG) (t : FT) (f : FE) (vs : List Nat) (δ : List Slot) (Q : Res → Prop) (ds : List D) : Prop := ∃ P : Nat → List D → Prop, P 0 [] ∧
  (∀ i d acc, ds[i]? = some d → P i acc → g (.sh d) (wipeD δ vs) fun δ2 => t δ2 (fun b => if b = true then f δ2 (fun r => stab r fun y => acc.length < sizeLine ∧ P (i + 1) (acc ++ [y])) (fun _ => False) else P (i + 1) acc) (fun _ => False)) ∧
  ∀ acc, P ds.length acc → Q (.fr (.list acc))
theorem flc_open {it : FI} {g : FG} {t : FT} {f : FE} {vs : List Nat} {δ : List Slot} {Q : Res → Prop} {ED : XD → Prop} (h : it δ (fun _ ds => LcGoal g t f vs δ Q ds) ED) : fLc it g t f vs δ Q ED := h
theorem lcg_run {g : FG} {t : FT} {f : FE} {vs : List Nat} {δ : List Slot} {Q : Res → Prop} {ds : List D} (out : D → Option D) (hz : ds.length ≤ sizeLine)
    (h : ∀ d ∈ ds, ∀ K : Option D → Prop, K (out d) → g (.sh d) (wipeD δ vs) fun δ2 => t δ2 (fun b => if b = true then f δ2 (fun r => stab r fun y => K (some y)) (fun _ => False) else K none) (fun _ => False))
    (q : Q (.fr (.list (ds.filterMap out)))) : LcGoal g t f vs δ Q ds := lc_run out hz h q
def ForGoal (g : FG) (body : FS) (Z : DEnds) (δ : List Slot) (ds : List D) : Prop := ∃ P : Nat → List Slot → Prop, P 0 δ ∧
  (∀ i d δ, ds[i]? = some d → P i δ → g (.sh d) δ fun δ2 => body { Z with nx := P (i + 1), ct := P (i + 1), bk := Z.nx } δ2) ∧ ∀ δ, P ds.length δ → Z.nx δ
theorem ffor_open {it : FI} {g : FG} {body : FS} {Z : DEnds} {δ : List Slot} (h : it δ (fun st ds => st = true ∧ ForGoal g body Z δ ds) fun x => Z.ex x δ) : fFor it g body Z δ := h
theorem forg_run {g : FG} {body : FS} {Z : DEnds} {δ : List Slot} {ds : List D} (P : Nat → List Slot → Prop) (h0 : P 0 δ)
    (h : ∀ i d δ, ds[i]? = some d → P i δ → g (.sh d) δ fun δ2 => body { Z with nx := P (i + 1), ct := P (i + 1), bk := Z.nx } δ2) (q : ∀ δ, P ds.length δ → Z.nx δ) : ForGoal g body Z δ ds := ⟨P, h0, h, q⟩
/-! comprehensions over lists with a meaning -/
section
variable {α : Type} {it : FI} {g : FG} {t : FT} {f : FE} {vs : List Nat} {δ : List Slot} {Q : Res → Prop} {ED : XD → Prop}
theorem lcg_filter (xs : List α) (enc : α → D) (p : α → Bool) (out : α → D) (hz : xs.length ≤ sizeLine)
    (h : ∀ x ∈ xs, ∀ K : Option D → Prop, (p x = true → K (some (out x))) → (p x = false → K none) → g (.sh (enc x)) (wipeD δ vs) fun δ2 => t δ2 (fun b => if b = true then f δ2 (fun r => stab r fun y => K (some y)) (fun _ => False) else K none) (fun _ => False))
    (q : Q (.fr (.list ((xs.filter p).map out)))) : LcGoal g t f vs δ Q (xs.map enc) := by
  have step : ∀ i x, xs[i]? = some x → ((xs.take (i + 1)).filter p).map out = ((xs.take i).filter p).map out ++ (if p x = true then [out x] else []) := fun i x hx => by
    rw [List.take_succ, hx, List.filter_append, List.map_append]
    by_cases e : p x = true
    · simp [e]
    · simp [e]
  refine ⟨fun i acc => acc = ((xs.take i).filter p).map out, by simp, fun i d acc hd e => ?_, fun acc e => ?_⟩
  · obtain ⟨x, hx, rfl⟩ := map_get hd
    have hi : i < xs.length := (List.getElem?_eq_some_iff.mp hx).1
    have hl : acc.length ≤ i := by
      rw [e, List.length_map]
      exact Nat.le_trans (List.length_filter_le _ _) (by rw [List.length_take]; omega)
    refine h x (List.mem_of_getElem? hx) (fun o => match o with | some y => acc.length < sizeLine ∧ acc ++ [y] = ((xs.take (i + 1)).filter p).map out | none => acc = ((xs.take (i + 1)).filter p).map out) (fun hp => ⟨by omega, by rw [step i x hx, if_pos hp, e]⟩) (fun hp => ?_)
    show acc = _
    rw [step i x hx, if_neg (by rw [hp]; decide), List.append_nil, e]
  · rw [e, List.length_map, List.take_length]
    exact q
theorem flc_filter (xs : List α) (enc : α → D) (p : α → Bool) (out : α → D) (hit : ∀ R : Bool → List D → Prop, (∀ st, R st (xs.map enc)) → it δ R ED) (hz : xs.length ≤ sizeLine)
    (h : ∀ x ∈ xs, ∀ K : Option D → Prop, (p x = true → K (some (out x))) → (p x = false → K none) → g (.sh (enc x)) (wipeD δ vs) fun δ2 => t δ2 (fun b => if b = true then f δ2 (fun r => stab r fun y => K (some y)) (fun _ => False) else K none) (fun _ => False))
    (q : Q (.fr (.list ((xs.filter p).map out)))) : fLc it g t f vs δ Q ED := hit _ fun _ => lcg_filter xs enc p out hz h q
theorem lcg_map (xs : List α) (enc out : α → D) (hz : xs.length ≤ sizeLine) (h : ∀ x ∈ xs, ∀ K : D → Prop, K (out x) → g (.sh (enc x)) (wipeD δ vs) fun δ2 => f δ2 (fun r => stab r K) (fun _ => False)) (q : Q (.fr (.list (xs.map out)))) : LcGoal g fYes f vs δ Q (xs.map enc) := by
  refine lcg_filter xs enc (fun _ => true) out hz (fun x hx K k _ => h x hx (fun y => K (some y)) (k rfl)) ?_
  have e : xs.filter (fun _ => true) = xs := List.filter_eq_self.mpr fun _ _ => rfl
  rw [e]
  exact q
theorem flc_mapX (xs : List α) (enc out : α → D) (hit : ∀ R : Bool → List D → Prop, (∀ st, R st (xs.map enc)) → it δ R ED) (hz : xs.length ≤ sizeLine) (h : ∀ x ∈ xs, ∀ K : D → Prop, K (out x) → g (.sh (enc x)) (wipeD δ vs) fun δ2 => f δ2 (fun r => stab r K) (fun _ => False)) (q : Q (.fr (.list (xs.map out)))) :
    fLc it g fYes f vs δ Q ED := hit _ fun _ => lcg_map xs enc out hz h q
end
theorem rgD_eq (n : Nat) : rgD 0 (n : Nat) = (List.range n).map fun k : Nat => PyData.int k := by
  unfold rgD
  have e : (((n : Nat) : Int) - 0).toNat = n := by omega
  rw [e]
  apply List.map_congr_left
  intro k _
  simp
/-! joins -/
theorem fseq_join {f g : FS} {Z : DEnds} {δ : List Slot} (M : List Slot → Prop) (h : ∀ nx : List Slot → Prop, (∀ δ', M δ' → nx δ') → f { Z with nx := nx } δ) (rest : ∀ δ', M δ' → g Z δ') : fSeq f g Z δ := h _ rest
theorem fset_cut {i : Nat} {f : FE} {Z : DEnds} {δ : List Slot} (R : D → Prop) (he : ∀ Q : Res → Prop, (∀ d, R d → Q (.sh d)) → f δ Q fun x => Z.ex x δ) (hi : i < δ.length) (h : ∀ d, R d → Z.nx (δ.set i (.sh d))) : fSet i f Z δ :=
  he _ fun d hd => ⟨hi, h d hd⟩
theorem list_enc {α : Type} {enc : α → D} {ok : α → Prop} : ∀ {ys : List D}, (∀ y ∈ ys, ∃ p, y = enc p ∧ ok p) → ∃ ps : List α, ys = ps.map enc ∧ ∀ p ∈ ps, ok p
  | [], _ => ⟨[], rfl, fun _ h => (nomatch h)⟩
  | y :: ys, h => by
    obtain ⟨p, rfl, hp⟩ := h y (by simp)
    obtain ⟨ps, rfl, hps⟩ := list_enc (ys := ys) fun z hz => h z (by simp [hz])
    exact ⟨p :: ps, rfl, fun q hq => by
      rcases List.mem_cons.mp hq with rfl | hq
      · exact hp
      · exact hps q hq⟩
theorem cut1 {α : Type} (x : α) (l : List α) : cutL (x :: l) none (some 1) = [x] := by
  have e1 : HT.sIx (x :: l).length 0 none = 0 := rfl
  have e2 : HT.sIx (x :: l).length (x :: l).length (some 1) = 1 := by
    unfold HT.sIx
    simp
  unfold cutL
  rw [e1, e2]; rfl
theorem rep1 {α : Type} (x : α) : ∀ k : Nat, (List.replicate k [x]).flatten = List.replicate k x
  | 0 => rfl
  | k + 1 => by rw [List.replicate_succ, List.flatten_cons, rep1 x k, List.replicate_succ]; rfl
end DL

/-! DL22: data small enough to be shown. -/
namespace DL
open PySem L2
structure Sm (w dep : Nat) (d : D) : Prop where
  lay : d.canLay0 = true
  dp : d.depth ≤ dep
  wt : d.weight ≤ w
  sh : d.intsShort 13 = true
  sb : d.showable = true
structure SmA (w dep : Nat) (ds : List D) : Prop where
  lay : PyData.canLayAll0 ds = true
  dp : PyData.depthAll ds ≤ dep
  wt : PyData.weightAll ds ≤ w
  sh : PyData.intsShortAll 13 ds = true
  sb : PyData.showableAll ds = true
theorem Sm.mono {w dep w' dep' : Nat} {d : D} (h : Sm w dep d) (h1 : w ≤ w') (h2 : dep ≤ dep') : Sm w' dep' d := ⟨h.lay, Nat.le_trans h.dp h2, Nat.le_trans h.wt h1, h.sh, h.sb⟩
theorem SmA.mono {w dep w' dep' : Nat} {d : List D} (h : SmA w dep d) (h1 : w ≤ w') (h2 : dep ≤ dep') : SmA w' dep' d := ⟨h.lay, Nat.le_trans h.dp h2, Nat.le_trans h.wt h1, h.sh, h.sb⟩
theorem log2_lt40 {n : Nat} (h : n < 10 ^ 12) : n.log2 < 40 := by
  by_cases e : n = 0
  · subst e; decide
  · exact (Nat.log2_lt e).mpr (Nat.lt_of_lt_of_le h (by decide))
theorem sm_int {i : Int} (h : i.natAbs < 10 ^ 12) : Sm 40 0 (.int i) := by
  have hl := log2_lt40 h
  refine ⟨rfl, Nat.le_refl _, ?_, ?_, ?_⟩
  · unfold PyData.weight
    split <;> omega
  · simp only [PyData.intsShort, decide_eq_true_eq]
    exact PyData.shown_int_le h
  · simp only [PyData.showable, decide_eq_true_eq]
    omega
theorem sm_bool (b : Bool) : Sm 0 0 (.bool b) := ⟨rfl, Nat.le_refl _, Nat.le_refl _, rfl, rfl⟩
theorem sm_none : Sm 0 0 .none := ⟨rfl, Nat.le_refl _, Nat.le_refl _, rfl, rfl⟩
theorem sm_str {x : Str} (h : PyData.strOk x = true) : Sm x.cps.size 0 (.str x) := ⟨h, Nat.le_refl _, Nat.le_refl _, rfl, rfl⟩
theorem SmA.tup {w dep : Nat} {ds : List D} (h : SmA w dep ds) : Sm w (dep + 1) (.tuple ds) := by
  refine ⟨?_, ?_, ?_, ?_, ?_⟩
  · simpa only [PyData.canLay0] using h.lay
  · simp only [PyData.depth]; have := h.dp; omega
  · simpa only [PyData.weight] using h.wt
  · simpa only [PyData.intsShort] using h.sh
  · simpa only [PyData.showable] using h.sb
theorem SmA.lst {w dep : Nat} {ds : List D} (h : SmA w dep ds) : Sm w (dep + 1) (.list ds) := by
  refine ⟨?_, ?_, ?_, ?_, ?_⟩
  · simpa only [PyData.canLay0] using h.lay
  · simp only [PyData.depth]; have := h.dp; omega
  · simpa only [PyData.weight] using h.wt
  · simpa only [PyData.intsShort] using h.sh
  · simpa only [PyData.showable] using h.sb
theorem smA_nil (dep : Nat) : SmA 0 dep [] := ⟨rfl, Nat.zero_le _, Nat.le_refl _, rfl, rfl⟩
theorem smA_cons {w1 w2 dep : Nat} {d : D} {ds : List D} (h : Sm w1 dep d) (t : SmA w2 dep ds) : SmA (w1 + 1 + w2) dep (d :: ds) := by
  refine ⟨?_, ?_, ?_, ?_, ?_⟩
  · simp only [PyData.canLayAll0, h.lay, t.lay, Bool.and_self]
  · simp only [PyData.depthAll]; have := h.dp; have := t.dp; omega
  · simp only [PyData.weightAll]; have := h.wt; have := t.wt; omega
  · simp only [PyData.intsShortAll, h.sh, t.sh, Bool.and_self]
  · simp only [PyData.showableAll, h.sb, t.sb, Bool.and_self]
theorem smA_all {w dep : Nat} : ∀ {ds : List D}, (∀ d ∈ ds, Sm w dep d) → SmA (ds.length * (w + 1)) dep ds
  | [], _ => by simpa using smA_nil dep
  | d :: ds, h => by
    have := smA_cons (h d (by simp)) (smA_all (ds := ds) fun x hx => h x (by simp [hx]))
    refine this.mono ?_ (Nat.le_refl _)
    rw [List.length_cons, Nat.add_mul]
    omega
theorem Sm.shows {d : D} (h : Sm 1048576 64 d) : shows d := by
  have l : d.leavesShort 13 = true := PyData.leavesShort_of_canLay0 13 d h.lay h.sh
  exact ⟨PyData.hasDict_of_canLay d h.lay, h.sb, h.dp, PyData.shown_fits (by decide) (by decide) l (by have := h.wt; omega)⟩
theorem gEq_str {a b : Str} {Q : D → Prop} (h : Q (.bool (decide (a = b)))) : gEq (.str a) (.str b) Q := .inl ⟨rfl, by
  have : eqD (.str a) (.str b) = decide (a = b) := rfl
  rw [this]; exact h⟩
theorem gNe_str {a b : Str} {Q : D → Prop} (h : Q (.bool (!decide (a = b)))) : gNe (.str a) (.str b) Q := .inl ⟨rfl, by
  have : eqD (.str a) (.str b) = decide (a = b) := rfl
  rw [this]; exact h⟩
theorem eqv_str (a b : Str) : PyData.eqv (.str a) (.str b) = decide (a = b) := by
  have := eqv_key (.inr a) (.inr b)
  simpa [keyD] using this
theorem gEq_str_eq (a b : Str) (Q : D → Prop) : gEq (.str a) (.str b) Q ↔ Q (.bool (decide (a = b))) := ⟨fun h => by
  rcases h with ⟨_, h⟩ | ⟨_, _, h⟩
  · exact h
  · rw [eqv_str] at h; exact h, gEq_str⟩
theorem gNe_str_eq (a b : Str) (Q : D → Prop) : gNe (.str a) (.str b) Q ↔ Q (.bool (!decide (a = b))) := ⟨fun h => by
  rcases h with ⟨_, h⟩ | ⟨_, _, h⟩
  · exact h
  · rw [eqv_str] at h; exact h, gNe_str⟩
/-- strictly ascending rows with the same members -/
theorem asc_ext {a b : List Int} (ha : a.Pairwise (· < ·)) (hb : b.Pairwise (· < ·)) (h : ∀ x, x ∈ a ↔ x ∈ b) : a = b := by
  have n1 : a.Nodup := ha.imp fun {x y} h => by omega
  have n2 : b.Nodup := hb.imp fun {x y} h => by omega
  exact ((List.perm_ext_iff_of_nodup n1 n2).mpr h).eq_of_pairwise (fun x y _ _ h1 h2 => by omega) ha hb
theorem atI_last {α : Type} {l : List α} (h : l ≠ []) : ∃ x ∈ l, atI l (-1) = some x := by
  have hl : l.length ≠ 0 := fun z => h (List.length_eq_zero_iff.mp z)
  have hi : l.length - 1 < l.length := by omega
  refine ⟨l[l.length - 1], List.getElem_mem hi, ?_⟩
  unfold atI ixN
  rw [if_neg (by decide), if_pos (by omega)]
  have e : (-1 + (l.length : Int)).toNat = l.length - 1 := by omega
  show l[(-1 + (l.length : Int)).toNat]? = _
  rw [e]
  exact List.getElem?_eq_getElem hi
theorem atI_first {α : Type} {l : List α} (h : l ≠ []) : ∃ x ∈ l, atI l 0 = some x := by
  cases l with
  | nil => exact absurd rfl h
  | cons a l => exact ⟨a, by simp, atI_zero⟩
theorem cutL_map {α β : Type} (f : α → β) (xs : List α) (lo hi : Option Int) : cutL (xs.map f) lo hi = (cutL xs lo hi).map f := by
  unfold cutL
  rw [List.length_map, List.map_take, List.map_drop]
theorem cutL_mem {α : Type} {xs : List α} {lo hi : Option Int} {x : α} (h : x ∈ cutL xs lo hi) : x ∈ xs := List.mem_of_mem_drop (List.mem_of_mem_take h)
theorem cutL_len {α : Type} (xs : List α) (lo hi : Option Int) : (cutL xs lo hi).length ≤ xs.length := by
  unfold cutL
  rw [List.length_take, List.length_drop]
  omega
theorem Sm.shaped {w dep : Nat} {d : D} (h : Sm w dep d) (hd : dep ≤ 64) : SeqAt.shaped d = true := by
  unfold SeqAt.shaped
  rw [h.lay, decide_eq_true (Nat.le_trans h.dp hd)]; rfl
theorem gNe_tnil {xs : List D} {w dep : Nat} {Q : D → Prop} (h : Sm w dep (.tuple xs)) (hd : dep ≤ 64) (q : Q (.bool (!xs.isEmpty))) : gNe (.tuple xs) (.tuple []) Q := .inr ⟨h.shaped hd, rfl, by
  have : PyData.eqv (.tuple xs) (.tuple []) = xs.isEmpty := by cases xs <;> simp [PyData.eqv, PyData.eqvAll]
  rw [this]; exact q⟩
theorem cut_two {α : Type} (xs : List α) {k : Int} (h : 0 ≤ k) : (cutL xs none (some k) ++ cutL xs (some (k + 1)) none).length ≤ xs.length := by
  have e1 : HT.sIx xs.length 0 none = 0 := rfl
  have e2 : HT.sIx xs.length xs.length (some k) = min k.toNat xs.length := by
    show (if k < 0 then (k + (xs.length : Int)).toNat else min k.toNat xs.length) = _
    rw [if_neg (by omega)]
  have e3 : HT.sIx xs.length 0 (some (k + 1)) = min (k + 1).toNat xs.length := by
    show (if k + 1 < 0 then (k + 1 + (xs.length : Int)).toNat else min (k + 1).toNat xs.length) = _
    rw [if_neg (by omega)]
  have e4 : HT.sIx xs.length xs.length none = xs.length := rfl
  rw [List.length_append]
  unfold cutL
  rw [e1, e2, e3, e4, List.length_take, List.length_drop, List.length_take, List.length_drop]
  omega
end DL

namespace G61
open PySem PySem.Spec PyProof.Rows L2 DL
/-! ### the plain part: nets -/
abbrev iD (i : Int) : D := .int i
def stD (s : Int × Int) : D := .tuple [.tuple [.int s.1], .tuple [.int s.2]]
def netD (net : List (Int × Int)) : D := .tuple (net.map stD)
def riD (s : Int × Int) : D := .tuple [.int s.1, .int (s.2 - s.1)]
theorem atI_map {α β : Type} {f : α → β} {xs : List α} {i : Int} {x : α} (h0 : 0 ≤ i) (h : xs[i.toNat]? = some x) : atI (xs.map f) i = some (f x) := atI_ofNat h0 (by rw [List.getElem?_map, h]; rfl)
theorem rgD_map {α : Type} (xs : List α) (f : α → D) (out : D → D) (h : ∀ (i : Nat) x, xs[i]? = some x → out (.int i) = f x) : (rgD 0 (xs.length : Nat)).map out = xs.map f := by
  apply List.ext_getElem?
  intro i
  unfold rgD
  rw [List.map_map, List.getElem?_map, List.getElem?_map]
  have e : (((xs.length : Nat) : Int) - 0).toNat = xs.length := by omega
  rw [e]
  by_cases hi : i < xs.length
  · rw [List.getElem?_range hi]
    have hx : xs[i]? = some xs[i] := List.getElem?_eq_getElem hi
    rw [hx]
    have := h i _ hx
    simp only [Option.map_some, Function.comp, Int.zero_add]
    rw [this]
  · rw [List.getElem?_eq_none (by simp; omega), List.getElem?_eq_none (by omega)]
    rfl
theorem rgD_mem {n : Nat} {d : D} (h : d ∈ rgD 0 (n : Nat)) : ∃ i : Nat, i < n ∧ d = .int i := by
  unfold rgD at h
  obtain ⟨i, hi, e⟩ := List.mem_map.mp h
  exact ⟨i, by have := List.mem_range.mp hi; omega, by rw [← e]; simp⟩
theorem rgD_len (n : Nat) : (rgD 0 (n : Nat)).length = n := by unfold rgD; simp

def S_change_of : SpD := fun ds QD _ => ∃ net k s, ds = [netD net, .int k] ∧ 0 ≤ k ∧ net[k.toNat]? = some s ∧ QD (.tuple [.int (s.2 - s.1)])
theorem l_change_of : ∀ ds QD ED, S_change_of ds QD ED → F_change_of (endsP QD ED) (startD N_change_of ds) := by
  rintro ds QD ED ⟨net, k, s, rfl, h0, hs, q⟩
  unfold F_change_of
  rw [show startD N_change_of [netD net, .int k] = [.sh (netD net), .sh (.int k), .no, .no] from rfl]
  have e : atI (net.map stD) k = some (stD s) := atI_map h0 hs
  simp only [fRet, fRet.stabR, fTuple, fB, g1, gTuple, gList, fList, fIx, f2R, gIx, fVar, fC, fCons, fNil, fTup, fLst, rCons, rNil, fSet, fAsg, tgName, tgTup, tgCons, tgNil, fYes, fAnd, fOr, fNot, fTest, boolW, gLt, gLe, gGt, gGe, gB2, f2, gI2, gI2C, fAdd, gAdd, fSub, fMul, gMul, fMod, fDiv, fPow, fNeg, f1, gNeg, fIfE, fAndV, fOrV, fNotV, fCall, fCallB, fCallBN, fCallN, fCallK, stab, Res.d, intW, fLen, gLen, fAbs, fInt, fMax2, fMin2, fMax3, gI1, gI2a, gI3a, fiSeq, gSeq, fiRng1, fiRng2, fiEnum, gEnum, fiRev, gRev, fiZip, gZip, fDrop, fNext, fBreak, fCont, fRetN, fShare, unown, fPar, parW, fPut, subW, fApp, appW, isOwL, fExt, extW, fSorted, gSorted, fListRg1, fListRev, fListKeys, fGet2, dictW, fDct0, fDct1, fRepr, gRepr, fAny, fAll, gBools, fSum, gSum, fMaxL, gMaxL, fMinL, gMinL, fChain, fSl, gSl, fPart, fNoP, fBagW, fBagI, fBagS, fBagIf, fScr, fBag, fBag2, nnW, wipeD, Res.ok, endsP, DL.endsL, endsO, gt0, gt1, gt2, gt3, gt4, gt5, gt6, gt7, gt8, gt9, gt10, gt11, gt12, gt13, gt14, gt15, st0, st1, st2, st3, st4, st5, st6, st7, st8, st9, st10, st11, st12, st13, st14, st15, Option.some.injEq, exists_eq_left', exists_eq_left, atI_zero, atI_one, atI_two, List.map_cons, List.map_nil, List.length_cons, List.length_nil, true_and, and_true, List.length_set, Bool.true_and, Bool.and_true, xor_f, xor_t]
  refine flc_map [.tuple [.int s.1, .int s.2]] (fun _ => .int (s.2 - s.1)) (fun R hR => ?_) (len1 _) (fun d hd K k => ?_) ?_
  · simp only [fRet, fRet.stabR, fTuple, fB, g1, gTuple, gList, fList, fIx, f2R, gIx, fVar, fC, fCons, fNil, fTup, fLst, rCons, rNil, fSet, fAsg, tgName, tgTup, tgCons, tgNil, fYes, fAnd, fOr, fNot, fTest, boolW, gLt, gLe, gGt, gGe, gB2, f2, gI2, gI2C, fAdd, gAdd, fSub, fMul, gMul, fMod, fDiv, fPow, fNeg, f1, gNeg, fIfE, fAndV, fOrV, fNotV, fCall, fCallB, fCallBN, fCallN, fCallK, stab, Res.d, intW, fLen, gLen, fAbs, fInt, fMax2, fMin2, fMax3, gI1, gI2a, gI3a, fiSeq, gSeq, fiRng1, fiRng2, fiEnum, gEnum, fiRev, gRev, fiZip, gZip, fDrop, fNext, fBreak, fCont, fRetN, fShare, unown, fPar, parW, fPut, subW, fApp, appW, isOwL, fExt, extW, fSorted, gSorted, fListRg1, fListRev, fListKeys, fGet2, dictW, fDct0, fDct1, fRepr, gRepr, fAny, fAll, gBools, fSum, gSum, fMaxL, gMaxL, fMinL, gMinL, fChain, fSl, gSl, fPart, fNoP, fBagW, fBagI, fBagS, fBagIf, fScr, fBag, fBag2, nnW, wipeD, Res.ok, endsP, DL.endsL, endsO, gt0, gt1, gt2, gt3, gt4, gt5, gt6, gt7, gt8, gt9, gt10, gt11, gt12, gt13, gt14, gt15, st0, st1, st2, st3, st4, st5, st6, st7, st8, st9, st10, st11, st12, st13, st14, st15, Option.some.injEq, exists_eq_left', exists_eq_left, atI_zero, atI_one, atI_two, List.map_cons, List.map_nil, List.length_cons, List.length_nil, true_and, and_true, List.length_set, Bool.true_and, Bool.and_true, xor_f, xor_t, netD, e, stD]
    exact hR _
  · cases List.mem_singleton.mp hd
    simp only [fRet, fRet.stabR, fTuple, fB, g1, gTuple, gList, fList, fIx, f2R, gIx, fVar, fC, fCons, fNil, fTup, fLst, rCons, rNil, fSet, fAsg, tgName, tgTup, tgCons, tgNil, fYes, fAnd, fOr, fNot, fTest, boolW, gLt, gLe, gGt, gGe, gB2, f2, gI2, gI2C, fAdd, gAdd, fSub, fMul, gMul, fMod, fDiv, fPow, fNeg, f1, gNeg, fIfE, fAndV, fOrV, fNotV, fCall, fCallB, fCallBN, fCallN, fCallK, stab, Res.d, intW, fLen, gLen, fAbs, fInt, fMax2, fMin2, fMax3, gI1, gI2a, gI3a, fiSeq, gSeq, fiRng1, fiRng2, fiEnum, gEnum, fiRev, gRev, fiZip, gZip, fDrop, fNext, fBreak, fCont, fRetN, fShare, unown, fPar, parW, fPut, subW, fApp, appW, isOwL, fExt, extW, fSorted, gSorted, fListRg1, fListRev, fListKeys, fGet2, dictW, fDct0, fDct1, fRepr, gRepr, fAny, fAll, gBools, fSum, gSum, fMaxL, gMaxL, fMinL, gMinL, fChain, fSl, gSl, fPart, fNoP, fBagW, fBagI, fBagS, fBagIf, fScr, fBag, fBag2, nnW, wipeD, Res.ok, endsP, DL.endsL, endsO, gt0, gt1, gt2, gt3, gt4, gt5, gt6, gt7, gt8, gt9, gt10, gt11, gt12, gt13, gt14, gt15, st0, st1, st2, st3, st4, st5, st6, st7, st8, st9, st10, st11, st12, st13, st14, st15, Option.some.injEq, exists_eq_left', exists_eq_left, atI_zero, atI_one, atI_two, List.map_cons, List.map_nil, List.length_cons, List.length_nil, true_and, and_true, List.length_set, Bool.true_and, Bool.and_true, xor_f, xor_t]
    exact ⟨by decide, by decide, k⟩
  · exact q
def S_rises_of : SpD := fun ds QD _ => ∃ net, ds = [netD net] ∧ net.length ≤ 1000 ∧ QD (.list (net.map riD))
theorem l_rises_of : ∀ ds QD ED, S_rises_of ds QD ED → F_rises_of S_change_of (endsP QD ED) (startD N_rises_of ds) := by
  rintro ds QD ED ⟨net, rfl, hl, q⟩
  unfold F_rises_of
  rw [show startD N_rises_of [netD net] = [.sh (netD net), .no] from rfl]
  simp only [fRet, fRet.stabR, fTuple, fB, g1, gTuple, gList, fList, fIx, f2R, gIx, fVar, fC, fCons, fNil, fTup, fLst, rCons, rNil, fSet, fAsg, tgName, tgTup, tgCons, tgNil, fYes, fAnd, fOr, fNot, fTest, boolW, gLt, gLe, gGt, gGe, gB2, f2, gI2, gI2C, fAdd, gAdd, fSub, fMul, gMul, fMod, fDiv, fPow, fNeg, f1, gNeg, fIfE, fAndV, fOrV, fNotV, fCall, fCallB, fCallBN, fCallN, fCallK, stab, Res.d, intW, fLen, gLen, fAbs, fInt, fMax2, fMin2, fMax3, gI1, gI2a, gI3a, fiSeq, gSeq, fiRng1, fiRng2, fiEnum, gEnum, fiRev, gRev, fiZip, gZip, fDrop, fNext, fBreak, fCont, fRetN, fShare, unown, fPar, parW, fPut, subW, fApp, appW, isOwL, fExt, extW, fSorted, gSorted, fListRg1, fListRev, fListKeys, fGet2, dictW, fDct0, fDct1, fRepr, gRepr, fAny, fAll, gBools, fSum, gSum, fMaxL, gMaxL, fMinL, gMinL, fChain, fSl, gSl, fPart, fNoP, fBagW, fBagI, fBagS, fBagIf, fScr, fBag, fBag2, nnW, wipeD, Res.ok, endsP, DL.endsL, endsO, gt0, gt1, gt2, gt3, gt4, gt5, gt6, gt7, gt8, gt9, gt10, gt11, gt12, gt13, gt14, gt15, st0, st1, st2, st3, st4, st5, st6, st7, st8, st9, st10, st11, st12, st13, st14, st15, Option.some.injEq, exists_eq_left', exists_eq_left, atI_zero, atI_one, atI_two, List.map_cons, List.map_nil, List.length_cons, List.length_nil, true_and, and_true, List.length_set, Bool.true_and, Bool.and_true, xor_f, xor_t]
  refine flc_map (rgD 0 (net.length : Nat)) (fun d => match d with | .int i => (match net[i.toNat]? with | some s => riD s | none => .none) | _ => .none) (fun R hR => ?_) ?_ (fun d hd K k => ?_) ?_
  · simp only [fRet, fRet.stabR, fTuple, fB, g1, gTuple, gList, fList, fIx, f2R, gIx, fVar, fC, fCons, fNil, fTup, fLst, rCons, rNil, fSet, fAsg, tgName, tgTup, tgCons, tgNil, fYes, fAnd, fOr, fNot, fTest, boolW, gLt, gLe, gGt, gGe, gB2, f2, gI2, gI2C, fAdd, gAdd, fSub, fMul, gMul, fMod, fDiv, fPow, fNeg, f1, gNeg, fIfE, fAndV, fOrV, fNotV, fCall, fCallB, fCallBN, fCallN, fCallK, stab, Res.d, intW, fLen, gLen, fAbs, fInt, fMax2, fMin2, fMax3, gI1, gI2a, gI3a, fiSeq, gSeq, fiRng1, fiRng2, fiEnum, gEnum, fiRev, gRev, fiZip, gZip, fDrop, fNext, fBreak, fCont, fRetN, fShare, unown, fPar, parW, fPut, subW, fApp, appW, isOwL, fExt, extW, fSorted, gSorted, fListRg1, fListRev, fListKeys, fGet2, dictW, fDct0, fDct1, fRepr, gRepr, fAny, fAll, gBools, fSum, gSum, fMaxL, gMaxL, fMinL, gMinL, fChain, fSl, gSl, fPart, fNoP, fBagW, fBagI, fBagS, fBagIf, fScr, fBag, fBag2, nnW, wipeD, Res.ok, endsP, DL.endsL, endsO, gt0, gt1, gt2, gt3, gt4, gt5, gt6, gt7, gt8, gt9, gt10, gt11, gt12, gt13, gt14, gt15, st0, st1, st2, st3, st4, st5, st6, st7, st8, st9, st10, st11, st12, st13, st14, st15, Option.some.injEq, exists_eq_left', exists_eq_left, atI_zero, atI_one, atI_two, List.map_cons, List.map_nil, List.length_cons, List.length_nil, true_and, and_true, List.length_set, Bool.true_and, Bool.and_true, xor_f, xor_t, netD, List.length_map]
    exact ⟨⟨by omega, by omega⟩, hR _⟩
  · rw [rgD_len, sl_eq]; omega
  · obtain ⟨i, hi, rfl⟩ := rgD_mem hd
    have hx : net[i]? = some net[i] := List.getElem?_eq_getElem hi
    have e : atI (net.map stD) (i : Int) = some (stD net[i]) := atI_map (by omega) (by simpa using hx)
    have k : K (riD net[i]) := by simpa [hx] using k
    have hx' : net[(i : Int).toNat]? = some net[i] := by simpa using hx
    simp only [fRet, fRet.stabR, fTuple, fB, g1, gTuple, gList, fList, fIx, f2R, gIx, fVar, fC, fCons, fNil, fTup, fLst, rCons, rNil, fSet, fAsg, tgName, tgTup, tgCons, tgNil, fYes, fAnd, fOr, fNot, fTest, boolW, gLt, gLe, gGt, gGe, gB2, f2, gI2, gI2C, fAdd, gAdd, fSub, fMul, gMul, fMod, fDiv, fPow, fNeg, f1, gNeg, fIfE, fAndV, fOrV, fNotV, fCall, fCallB, fCallBN, fCallN, fCallK, stab, Res.d, intW, fLen, gLen, fAbs, fInt, fMax2, fMin2, fMax3, gI1, gI2a, gI3a, fiSeq, gSeq, fiRng1, fiRng2, fiEnum, gEnum, fiRev, gRev, fiZip, gZip, fDrop, fNext, fBreak, fCont, fRetN, fShare, unown, fPar, parW, fPut, subW, fApp, appW, isOwL, fExt, extW, fSorted, gSorted, fListRg1, fListRev, fListKeys, fGet2, dictW, fDct0, fDct1, fRepr, gRepr, fAny, fAll, gBools, fSum, gSum, fMaxL, gMaxL, fMinL, gMinL, fChain, fSl, gSl, fPart, fNoP, fBagW, fBagI, fBagS, fBagIf, fScr, fBag, fBag2, nnW, wipeD, Res.ok, endsP, DL.endsL, endsO, gt0, gt1, gt2, gt3, gt4, gt5, gt6, gt7, gt8, gt9, gt10, gt11, gt12, gt13, gt14, gt15, st0, st1, st2, st3, st4, st5, st6, st7, st8, st9, st10, st11, st12, st13, st14, st15, Option.some.injEq, exists_eq_left', exists_eq_left, atI_zero, atI_one, atI_two, List.map_cons, List.map_nil, List.length_cons, List.length_nil, true_and, and_true, List.length_set, Bool.true_and, Bool.and_true, xor_f, xor_t, netD, e, stD]
    refine ⟨by decide, net, i, net[i], rfl, by omega, hx', ?_⟩
    simp only [fRet, fRet.stabR, fTuple, fB, g1, gTuple, gList, fList, fIx, f2R, gIx, fVar, fC, fCons, fNil, fTup, fLst, rCons, rNil, fSet, fAsg, tgName, tgTup, tgCons, tgNil, fYes, fAnd, fOr, fNot, fTest, boolW, gLt, gLe, gGt, gGe, gB2, f2, gI2, gI2C, fAdd, gAdd, fSub, fMul, gMul, fMod, fDiv, fPow, fNeg, f1, gNeg, fIfE, fAndV, fOrV, fNotV, fCall, fCallB, fCallBN, fCallN, fCallK, stab, Res.d, intW, fLen, gLen, fAbs, fInt, fMax2, fMin2, fMax3, gI1, gI2a, gI3a, fiSeq, gSeq, fiRng1, fiRng2, fiEnum, gEnum, fiRev, gRev, fiZip, gZip, fDrop, fNext, fBreak, fCont, fRetN, fShare, unown, fPar, parW, fPut, subW, fApp, appW, isOwL, fExt, extW, fSorted, gSorted, fListRg1, fListRev, fListKeys, fGet2, dictW, fDct0, fDct1, fRepr, gRepr, fAny, fAll, gBools, fSum, gSum, fMaxL, gMaxL, fMinL, gMinL, fChain, fSl, gSl, fPart, fNoP, fBagW, fBagI, fBagS, fBagIf, fScr, fBag, fBag2, nnW, wipeD, Res.ok, endsP, DL.endsL, endsO, gt0, gt1, gt2, gt3, gt4, gt5, gt6, gt7, gt8, gt9, gt10, gt11, gt12, gt13, gt14, gt15, st0, st1, st2, st3, st4, st5, st6, st7, st8, st9, st10, st11, st12, st13, st14, st15, Option.some.injEq, exists_eq_left', exists_eq_left, atI_zero, atI_one, atI_two, List.map_cons, List.map_nil, List.length_cons, List.length_nil, true_and, and_true, List.length_set, Bool.true_and, Bool.and_true, xor_f, xor_t, sl_eq]
    exact ⟨by decide, k⟩
  · rw [rgD_map net riD _ (fun i x hx => by simp [hx])]
    exact q
def S_top_for : SpD := fun ds QD _ => ∃ n y : Int, ds = [.int n, .int y] ∧ QD (.int (max (max n y) 9 + 18))
theorem imax (i j : Int) : iMax i j = max i j := by unfold iMax; omega
theorem imin (i j : Int) : iMin i j = min i j := by unfold iMin; omega
theorem iabs (i : Int) : iAbs i = (i.natAbs : Int) := by unfold iAbs; omega
theorem l_top_for : ∀ ds QD ED, S_top_for ds QD ED → F_top_for (endsP QD ED) (startD N_top_for ds) := by
  rintro ds QD ED ⟨n, y, rfl, q⟩
  unfold F_top_for
  rw [show startD N_top_for [.int n, .int y] = [.sh (.int n), .sh (.int y)] from rfl]
  simp only [fRet, fRet.stabR, fTuple, fB, g1, gTuple, gList, fList, fIx, f2R, gIx, fVar, fC, fCons, fNil, fTup, fLst, rCons, rNil, fSet, fAsg, tgName, tgTup, tgCons, tgNil, fYes, fAnd, fOr, fNot, fTest, boolW, gLt, gLe, gGt, gGe, gB2, f2, gI2, gI2C, fAdd, gAdd, fSub, fMul, gMul, fMod, fDiv, fPow, fNeg, f1, gNeg, fIfE, fAndV, fOrV, fNotV, fCall, fCallB, fCallBN, fCallN, fCallK, stab, Res.d, intW, fLen, gLen, fAbs, fInt, fMax2, fMin2, fMax3, gI1, gI2a, gI3a, fiSeq, gSeq, fiRng1, fiRng2, fiEnum, gEnum, fiRev, gRev, fiZip, gZip, fDrop, fNext, fBreak, fCont, fRetN, fShare, unown, fPar, parW, fPut, subW, fApp, appW, isOwL, fExt, extW, fSorted, gSorted, fListRg1, fListRev, fListKeys, fGet2, dictW, fDct0, fDct1, fRepr, gRepr, fAny, fAll, gBools, fSum, gSum, fMaxL, gMaxL, fMinL, gMinL, fChain, fSl, gSl, fPart, fNoP, fBagW, fBagI, fBagS, fBagIf, fScr, fBag, fBag2, nnW, wipeD, Res.ok, endsP, DL.endsL, endsO, gt0, gt1, gt2, gt3, gt4, gt5, gt6, gt7, gt8, gt9, gt10, gt11, gt12, gt13, gt14, gt15, st0, st1, st2, st3, st4, st5, st6, st7, st8, st9, st10, st11, st12, st13, st14, st15, Option.some.injEq, exists_eq_left', exists_eq_left, atI_zero, atI_one, atI_two, List.map_cons, List.map_nil, List.length_cons, List.length_nil, true_and, and_true, List.length_set, Bool.true_and, Bool.and_true, xor_f, xor_t, imax]
  exact q
end G61

namespace G61
open PySem PySem.Spec PyProof.Rows L2 DL
/-! ### the numbers that come within a top -/
inductive RT (net : List (Int × Int)) (T n : Int) : Int → Prop
  | base : RT net T n n
  | step {x : Int} {s : Int × Int} : RT net T n x → s ∈ net → s.1 ≤ x → x + (s.2 - s.1) ≤ T → RT net T n (x + (s.2 - s.1))
def NetOk (net : List (Int × Int)) : Prop := net.length ≤ 12 ∧ ∀ s ∈ net, (0 ≤ s.1 ∧ s.1 ≤ 9) ∧ 0 ≤ s.2 ∧ s.2 ≤ 9
theorem RT.bd {net : List (Int × Int)} {T n y : Int} (ok : NetOk net) (h0 : 0 ≤ n) (hT : n ≤ T) (h : RT net T n y) : 0 ≤ y ∧ y ≤ T := by
  induction h with
  | base => exact ⟨h0, hT⟩
  | @step x s _ hs h1 h2 ih => have := ok.2 s hs; omega
/-- all that comes next of x is in F -/
def Cl (net : List (Int × Int)) (T : Int) (F : List Int) (x : Int) : Prop := ∀ s ∈ net, s.1 ≤ x → x + (s.2 - s.1) ≤ T → x + (s.2 - s.1) ∈ F
theorem RT.of_cl {net : List (Int × Int)} {T n y : Int} {F : List Int} (hn : n ∈ F) (h : ∀ x ∈ F, Cl net T F x) (r : RT net T n y) : y ∈ F := by
  induction r with
  | base => exact hn
  | step _ hs h1 h2 ih => exact h _ ih _ hs h1 h2
def S_ways_within : SpD := fun ds QD _ => ∃ net n top, ds = [netD net, .int n, .int top] ∧ NetOk net ∧ 0 ≤ n ∧ n ≤ top ∧ top ≤ 1000 ∧
  ∀ (kds : List (D × D)) (F : List Int), keysD kds = F.map PyData.int → F.Nodup → (∀ y, y ∈ F ↔ RT net top n y) → QD (.dict kds)
def WW (net : List (Int × Int)) (n top : Int) (kds : List (D × D)) (s5 s6 s7 s8 s9 s10 : Slot) : List Slot := [.sh (netD net), .sh (.int n), .sh (.int top), .sh (.list (net.map riD)), .ow (.dict kds), s5, s6, s7, s8, s9, s10]
structure WI (net : List (Int × Int)) (n top : Int) (kds : List (D × D)) (F : List Int) : Prop where
  keys : keysD kds = F.map PyData.int
  nd : F.Nodup
  base : n ∈ F
  rt : ∀ y ∈ F, RT net top n y
theorem WI.len {net : List (Int × Int)} {n top : Int} {kds : List (D × D)} {F : List Int} (w : WI net n top kds F) (ok : NetOk net) (h0 : 0 ≤ n) (hT : n ≤ top) (h1 : top ≤ 1000) : F.length ≤ (top + 1).toNat :=
  nodup_len _ _ w.nd fun x hx => by have := (w.rt x hx).bd ok h0 hT; omega
/-- the loop over the numbers met last: i of them looked at -/
def WP (net : List (Int × Int)) (n top : Int) (h : List Int) (N0 : Nat) (i : Nat) (kds : List (D × D)) (F g : List Int) : Prop :=
  WI net n top kds F ∧ (∀ y ∈ g, y ∈ F) ∧ (∀ y ∈ h, y ∈ F) ∧ (∀ x ∈ F, x ∉ g → Cl net top F x ∨ ∃ j, i ≤ j ∧ h[j]? = some x) ∧ F.length = N0 + g.length
/-- .. and of the next one's steps j -/
def WQ (net : List (Int × Int)) (n top : Int) (h : List Int) (N0 : Nat) (i j : Nat) (x : Int) (kds : List (D × D)) (F g : List Int) : Prop :=
  WP net n top h N0 i kds F g ∧ ∀ j' s, j' < j → net[j']? = some s → s.1 ≤ x → x + (s.2 - s.1) ≤ top → x + (s.2 - s.1) ∈ F
theorem Cl.mono {net : List (Int × Int)} {T x : Int} {F F' : List Int} (h : Cl net T F x) (s : ∀ y ∈ F, y ∈ F') : Cl net T F' x := fun t ht h1 h2 => s _ (h t ht h1 h2)
theorem WQ.add {net : List (Int × Int)} {n top : Int} {h : List Int} {N0 i j : Nat} {x : Int} {kds : List (D × D)} {F g : List Int} (w : WQ net n top h N0 i j x kds F g) (hx : x ∈ F) {s : Int × Int} (hs : net[j]? = some s) (h1 : s.1 ≤ x) (h2 : x + (s.2 - s.1) ≤ top) (hn : x + (s.2 - s.1) ∉ F) (d : D) :
    WQ net n top h N0 i (j + 1) x (putD kds (.int (x + (s.2 - s.1))) d) (F ++ [x + (s.2 - s.1)]) (g ++ [x + (s.2 - s.1)]) := by
  obtain ⟨⟨wi, a1, a2, a3, a4⟩, a5⟩ := w
  have up : ∀ y ∈ F, y ∈ F ++ [x + (s.2 - s.1)] := fun y hy => List.mem_append_left _ hy
  refine ⟨⟨⟨?_, nodup_snoc wi.nd hn, up _ wi.base, fun y hy => ?_⟩, fun y hy => ?_, fun y hy => up y (a2 y hy), fun y hy hg => ?_, ?_⟩, fun j' t hj ht g1 g2 => ?_⟩
  · rw [putD_new wi.keys hn]; exact keysD_snoc wi.keys _ _
  · rcases List.mem_append.mp hy with z | z
    · exact wi.rt y z
    · rw [List.mem_singleton.mp z]; exact .step (wi.rt x hx) (List.mem_of_getElem? hs) h1 h2
  · rcases List.mem_append.mp hy with z | z
    · exact up y (a1 y z)
    · exact List.mem_append_right _ z
  · rcases List.mem_append.mp hy with z | z
    · rcases a3 y z (fun q => hg (List.mem_append_left _ q)) with q | q
      · exact .inl (q.mono up)
      · exact .inr q
    · exact absurd (List.mem_append_right _ z) hg
  · rw [List.length_append, List.length_append, a4]; simp; omega
  · by_cases e : j' = j
    · subst e
      rw [hs] at ht
      cases ht
      exact List.mem_append_right _ (by simp)
    · exact up _ (a5 j' t (by omega) ht g1 g2)
theorem WQ.skip {net : List (Int × Int)} {n top : Int} {h : List Int} {N0 i j : Nat} {x : Int} {kds : List (D × D)} {F g : List Int} (w : WQ net n top h N0 i j x kds F g) {s : Int × Int} (hs : net[j]? = some s) (hn : s.1 ≤ x → x + (s.2 - s.1) ≤ top → x + (s.2 - s.1) ∈ F) : WQ net n top h N0 i (j + 1) x kds F g :=
  ⟨w.1, fun j' t hj ht g1 g2 => by
    by_cases e : j' = j
    · subst e
      rw [hs] at ht
      cases ht
      exact hn g1 g2
    · exact w.2 j' t (by omega) ht g1 g2⟩
theorem WQ.done {net : List (Int × Int)} {n top : Int} {h : List Int} {N0 i : Nat} {x : Int} {kds : List (D × D)} {F g : List Int} (w : WQ net n top h N0 i net.length x kds F g) (hx : h[i]? = some x) : WP net n top h N0 (i + 1) kds F g := by
  obtain ⟨⟨wi, a1, a2, a3, a4⟩, a5⟩ := w
  refine ⟨wi, a1, a2, fun y hy hg => ?_, a4⟩
  rcases a3 y hy hg with q | ⟨j, hj, e⟩
  · exact .inl q
  · by_cases ej : j = i
    · subst ej
      rw [hx] at e
      cases e
      refine .inl fun s hs h1 h2 => ?_
      obtain ⟨j', hj', ej'⟩ := List.getElem_of_mem hs
      exact a5 j' s hj' (by rw [← ej']; exact List.getElem?_eq_getElem hj') h1 h2
    · exact .inr ⟨j, by omega, e⟩
def WL (net : List (Int × Int)) (n top : Int) (m : Nat) (δ : List Slot) : Prop := ∃ (kds : List (D × D)) (F h : List Int) (s6 s7 s8 s9 s10 : Slot), δ = WW net n top kds (.ow (.list (h.map PyData.int))) s6 s7 s8 s9 s10 ∧ WI net n top kds F ∧ (∀ y ∈ h, y ∈ F) ∧ (∀ x ∈ F, x ∉ h → Cl net top F x) ∧
  m = 2 * ((top + 1).toNat - F.length) + (if h = [] then 0 else 1)
theorem l_ways_within : ∀ ds QD ED, S_ways_within ds QD ED → F_ways_within S_rises_of (endsP QD ED) (startD N_ways_within ds) := by
  rintro ds QD ED ⟨net, n, top, rfl, ok, h0, hT, h1, q⟩
  unfold F_ways_within
  rw [show startD N_ways_within [netD net, .int n, .int top] = [.sh (netD net), .sh (.int n), .sh (.int top), .no, .no, .no, .no, .no, .no, .no, .no] from rfl]
  refine fseq_run ?_
  simp only [fRet, fRet.stabR, fTuple, fB, g1, gTuple, gList, fList, fIx, f2R, gIx, fVar, fC, fCons, fNil, fTup, fLst, rCons, rNil, fSet, fAsg, tgName, tgTup, tgCons, tgNil, fYes, fAnd, fOr, fNot, fTest, boolW, gLt, gLe, gGt, gGe, gB2, f2, gI2, gI2C, fAdd, gAdd, fSub, fMul, gMul, fMod, fDiv, fPow, fNeg, f1, gNeg, fIfE, fAndV, fOrV, fNotV, fCall, fCallB, fCallBN, fCallN, fCallK, stab, Res.d, intW, fLen, gLen, fAbs, fInt, fMax2, fMin2, fMax3, gI1, gI2a, gI3a, fiSeq, gSeq, fiRng1, fiRng2, fiEnum, gEnum, fiRev, gRev, fiZip, gZip, fDrop, fNext, fBreak, fCont, fRetN, fShare, unown, fPar, parW, fPut, subW, fApp, appW, isOwL, fExt, extW, fSorted, gSorted, fListRg1, fListRev, fListKeys, fGet2, dictW, fDct0, fDct1, fRepr, gRepr, fAny, fAll, gBools, fSum, gSum, fMaxL, gMaxL, fMinL, gMinL, fChain, fSl, gSl, fPart, fNoP, fBagW, fBagI, fBagS, fBagIf, fScr, fBag, fBag2, nnW, wipeD, Res.ok, endsP, DL.endsL, endsO, gt0, gt1, gt2, gt3, gt4, gt5, gt6, gt7, gt8, gt9, gt10, gt11, gt12, gt13, gt14, gt15, st0, st1, st2, st3, st4, st5, st6, st7, st8, st9, st10, st11, st12, st13, st14, st15, Option.some.injEq, exists_eq_left', exists_eq_left, atI_zero, atI_one, atI_two, List.map_cons, List.map_nil, List.length_cons, List.length_nil, true_and, and_true, List.length_set, Bool.true_and, Bool.and_true, xor_f, xor_t]
  refine ⟨net, rfl, by have := ok.1; omega, ?_⟩
  simp only [fRet, fRet.stabR, fTuple, fB, g1, gTuple, gList, fList, fIx, f2R, gIx, fVar, fC, fCons, fNil, fTup, fLst, rCons, rNil, fSet, fAsg, tgName, tgTup, tgCons, tgNil, fYes, fAnd, fOr, fNot, fTest, boolW, gLt, gLe, gGt, gGe, gB2, f2, gI2, gI2C, fAdd, gAdd, fSub, fMul, gMul, fMod, fDiv, fPow, fNeg, f1, gNeg, fIfE, fAndV, fOrV, fNotV, fCall, fCallB, fCallBN, fCallN, fCallK, stab, Res.d, intW, fLen, gLen, fAbs, fInt, fMax2, fMin2, fMax3, gI1, gI2a, gI3a, fiSeq, gSeq, fiRng1, fiRng2, fiEnum, gEnum, fiRev, gRev, fiZip, gZip, fDrop, fNext, fBreak, fCont, fRetN, fShare, unown, fPar, parW, fPut, subW, fApp, appW, isOwL, fExt, extW, fSorted, gSorted, fListRg1, fListRev, fListKeys, fGet2, dictW, fDct0, fDct1, fRepr, gRepr, fAny, fAll, gBools, fSum, gSum, fMaxL, gMaxL, fMinL, gMinL, fChain, fSl, gSl, fPart, fNoP, fBagW, fBagI, fBagS, fBagIf, fScr, fBag, fBag2, nnW, wipeD, Res.ok, endsP, DL.endsL, endsO, gt0, gt1, gt2, gt3, gt4, gt5, gt6, gt7, gt8, gt9, gt10, gt11, gt12, gt13, gt14, gt15, st0, st1, st2, st3, st4, st5, st6, st7, st8, st9, st10, st11, st12, st13, st14, st15, Option.some.injEq, exists_eq_left', exists_eq_left, atI_zero, atI_one, atI_two, List.map_cons, List.map_nil, List.length_cons, List.length_nil, true_and, and_true, List.length_set, Bool.true_and, Bool.and_true, xor_f, xor_t, sl_eq]
  refine ⟨rfl, by decide, by decide, by decide, by decide, ?_⟩
  refine fseq_run (fwhile_run (WL net n top) (2 * ((top + 1).toNat - 1) + 1) ⟨[(.int n, .none)], [n], [n], _, _, _, _, _, rfl, ⟨rfl, by simp, by simp, fun y hy => by rw [List.mem_singleton.mp hy]; exact .base⟩, fun y hy => hy, fun x hx hn => absurd hx hn, by simp⟩ ?_)
  rintro m δ ⟨kds, F, h, s6, s7, s8, s9, s10, rfl, wi, hh, hc, rfl⟩
  unfold WW
  simp only [fRet, fRet.stabR, fTuple, fB, g1, gTuple, gList, fList, fIx, f2R, gIx, fVar, fC, fCons, fNil, fTup, fLst, rCons, rNil, fSet, fAsg, tgName, tgTup, tgCons, tgNil, fYes, fAnd, fOr, fNot, fTest, boolW, gLt, gLe, gGt, gGe, gB2, f2, gI2, gI2C, fAdd, gAdd, fSub, fMul, gMul, fMod, fDiv, fPow, fNeg, f1, gNeg, fIfE, fAndV, fOrV, fNotV, fCall, fCallB, fCallBN, fCallN, fCallK, stab, Res.d, intW, fLen, gLen, fAbs, fInt, fMax2, fMin2, fMax3, gI1, gI2a, gI3a, fiSeq, gSeq, fiRng1, fiRng2, fiEnum, gEnum, fiRev, gRev, fiZip, gZip, fDrop, fNext, fBreak, fCont, fRetN, fShare, unown, fPar, parW, fPut, subW, fApp, appW, isOwL, fExt, extW, fSorted, gSorted, fListRg1, fListRev, fListKeys, fGet2, dictW, fDct0, fDct1, fRepr, gRepr, fAny, fAll, gBools, fSum, gSum, fMaxL, gMaxL, fMinL, gMinL, fChain, fSl, gSl, fPart, fNoP, fBagW, fBagI, fBagS, fBagIf, fScr, fBag, fBag2, nnW, wipeD, Res.ok, endsP, DL.endsL, endsO, gt0, gt1, gt2, gt3, gt4, gt5, gt6, gt7, gt8, gt9, gt10, gt11, gt12, gt13, gt14, gt15, st0, st1, st2, st3, st4, st5, st6, st7, st8, st9, st10, st11, st12, st13, st14, st15, Option.some.injEq, exists_eq_left', exists_eq_left, atI_zero, atI_one, atI_two, List.map_cons, List.map_nil, List.length_cons, List.length_nil, true_and, and_true, List.length_set, Bool.true_and, Bool.and_true, xor_f, xor_t, sl_eq]
  refine ⟨by decide, gNe_nil ?_⟩
  by_cases hnil : h = []
  · subst hnil
    simp only [fRet, fRet.stabR, fTuple, fB, g1, gTuple, gList, fList, fIx, f2R, gIx, fVar, fC, fCons, fNil, fTup, fLst, rCons, rNil, fSet, fAsg, tgName, tgTup, tgCons, tgNil, fYes, fAnd, fOr, fNot, fTest, boolW, gLt, gLe, gGt, gGe, gB2, f2, gI2, gI2C, fAdd, gAdd, fSub, fMul, gMul, fMod, fDiv, fPow, fNeg, f1, gNeg, fIfE, fAndV, fOrV, fNotV, fCall, fCallB, fCallBN, fCallN, fCallK, stab, Res.d, intW, fLen, gLen, fAbs, fInt, fMax2, fMin2, fMax3, gI1, gI2a, gI3a, fiSeq, gSeq, fiRng1, fiRng2, fiEnum, gEnum, fiRev, gRev, fiZip, gZip, fDrop, fNext, fBreak, fCont, fRetN, fShare, unown, fPar, parW, fPut, subW, fApp, appW, isOwL, fExt, extW, fSorted, gSorted, fListRg1, fListRev, fListKeys, fGet2, dictW, fDct0, fDct1, fRepr, gRepr, fAny, fAll, gBools, fSum, gSum, fMaxL, gMaxL, fMinL, gMinL, fChain, fSl, gSl, fPart, fNoP, fBagW, fBagI, fBagS, fBagIf, fScr, fBag, fBag2, nnW, wipeD, Res.ok, endsP, DL.endsL, endsO, gt0, gt1, gt2, gt3, gt4, gt5, gt6, gt7, gt8, gt9, gt10, gt11, gt12, gt13, gt14, gt15, st0, st1, st2, st3, st4, st5, st6, st7, st8, st9, st10, st11, st12, st13, st14, st15, Option.some.injEq, exists_eq_left', exists_eq_left, atI_zero, atI_one, atI_two, List.map_cons, List.map_nil, List.length_cons, List.length_nil, true_and, and_true, List.length_set, Bool.true_and, Bool.and_true, xor_f, xor_t]
    rw [if_neg (by simp)]
    exact q kds F wi.keys wi.nd fun y => ⟨wi.rt y, fun r => r.of_cl wi.base (fun x hx => hc x hx (by simp))⟩
  · simp only [fRet, fRet.stabR, fTuple, fB, g1, gTuple, gList, fList, fIx, f2R, gIx, fVar, fC, fCons, fNil, fTup, fLst, rCons, rNil, fSet, fAsg, tgName, tgTup, tgCons, tgNil, fYes, fAnd, fOr, fNot, fTest, boolW, gLt, gLe, gGt, gGe, gB2, f2, gI2, gI2C, fAdd, gAdd, fSub, fMul, gMul, fMod, fDiv, fPow, fNeg, f1, gNeg, fIfE, fAndV, fOrV, fNotV, fCall, fCallB, fCallBN, fCallN, fCallK, stab, Res.d, intW, fLen, gLen, fAbs, fInt, fMax2, fMin2, fMax3, gI1, gI2a, gI3a, fiSeq, gSeq, fiRng1, fiRng2, fiEnum, gEnum, fiRev, gRev, fiZip, gZip, fDrop, fNext, fBreak, fCont, fRetN, fShare, unown, fPar, parW, fPut, subW, fApp, appW, isOwL, fExt, extW, fSorted, gSorted, fListRg1, fListRev, fListKeys, fGet2, dictW, fDct0, fDct1, fRepr, gRepr, fAny, fAll, gBools, fSum, gSum, fMaxL, gMaxL, fMinL, gMinL, fChain, fSl, gSl, fPart, fNoP, fBagW, fBagI, fBagS, fBagIf, fScr, fBag, fBag2, nnW, wipeD, Res.ok, endsP, DL.endsL, endsO, gt0, gt1, gt2, gt3, gt4, gt5, gt6, gt7, gt8, gt9, gt10, gt11, gt12, gt13, gt14, gt15, st0, st1, st2, st3, st4, st5, st6, st7, st8, st9, st10, st11, st12, st13, st14, st15, Option.some.injEq, exists_eq_left', exists_eq_left, atI_zero, atI_one, atI_two, List.map_cons, List.map_nil, List.length_cons, List.length_nil, true_and, and_true, List.length_set, Bool.true_and, Bool.and_true, xor_f, xor_t]
    rw [if_pos (by cases h with
      | nil => exact absurd rfl hnil
      | cons a l => rfl)]
    refine fseq_run ?_
    simp only [fRet, fRet.stabR, fTuple, fB, g1, gTuple, gList, fList, fIx, f2R, gIx, fVar, fC, fCons, fNil, fTup, fLst, rCons, rNil, fSet, fAsg, tgName, tgTup, tgCons, tgNil, fYes, fAnd, fOr, fNot, fTest, boolW, gLt, gLe, gGt, gGe, gB2, f2, gI2, gI2C, fAdd, gAdd, fSub, fMul, gMul, fMod, fDiv, fPow, fNeg, f1, gNeg, fIfE, fAndV, fOrV, fNotV, fCall, fCallB, fCallBN, fCallN, fCallK, stab, Res.d, intW, fLen, gLen, fAbs, fInt, fMax2, fMin2, fMax3, gI1, gI2a, gI3a, fiSeq, gSeq, fiRng1, fiRng2, fiEnum, gEnum, fiRev, gRev, fiZip, gZip, fDrop, fNext, fBreak, fCont, fRetN, fShare, unown, fPar, parW, fPut, subW, fApp, appW, isOwL, fExt, extW, fSorted, gSorted, fListRg1, fListRev, fListKeys, fGet2, dictW, fDct0, fDct1, fRepr, gRepr, fAny, fAll, gBools, fSum, gSum, fMaxL, gMaxL, fMinL, gMinL, fChain, fSl, gSl, fPart, fNoP, fBagW, fBagI, fBagS, fBagIf, fScr, fBag, fBag2, nnW, wipeD, Res.ok, endsP, DL.endsL, endsO, gt0, gt1, gt2, gt3, gt4, gt5, gt6, gt7, gt8, gt9, gt10, gt11, gt12, gt13, gt14, gt15, st0, st1, st2, st3, st4, st5, st6, st7, st8, st9, st10, st11, st12, st13, st14, st15, Option.some.injEq, exists_eq_left', exists_eq_left, atI_zero, atI_one, atI_two, List.map_cons, List.map_nil, List.length_cons, List.length_nil, true_and, and_true, List.length_set, Bool.true_and, Bool.and_true, xor_f, xor_t, sl_eq]
    refine ⟨by decide, by decide, ?_⟩
    refine fseq_run ?_
    simp only [fRet, fRet.stabR, fTuple, fB, g1, gTuple, gList, fList, fIx, f2R, gIx, fVar, fC, fCons, fNil, fTup, fLst, rCons, rNil, fSet, fAsg, tgName, tgTup, tgCons, tgNil, fYes, fAnd, fOr, fNot, fTest, boolW, gLt, gLe, gGt, gGe, gB2, f2, gI2, gI2C, fAdd, gAdd, fSub, fMul, gMul, fMod, fDiv, fPow, fNeg, f1, gNeg, fIfE, fAndV, fOrV, fNotV, fCall, fCallB, fCallBN, fCallN, fCallK, stab, Res.d, intW, fLen, gLen, fAbs, fInt, fMax2, fMin2, fMax3, gI1, gI2a, gI3a, fiSeq, gSeq, fiRng1, fiRng2, fiEnum, gEnum, fiRev, gRev, fiZip, gZip, fDrop, fNext, fBreak, fCont, fRetN, fShare, unown, fPar, parW, fPut, subW, fApp, appW, isOwL, fExt, extW, fSorted, gSorted, fListRg1, fListRev, fListKeys, fGet2, dictW, fDct0, fDct1, fRepr, gRepr, fAny, fAll, gBools, fSum, gSum, fMaxL, gMaxL, fMinL, gMinL, fChain, fSl, gSl, fPart, fNoP, fBagW, fBagI, fBagS, fBagIf, fScr, fBag, fBag2, nnW, wipeD, Res.ok, endsP, DL.endsL, endsO, gt0, gt1, gt2, gt3, gt4, gt5, gt6, gt7, gt8, gt9, gt10, gt11, gt12, gt13, gt14, gt15, st0, st1, st2, st3, st4, st5, st6, st7, st8, st9, st10, st11, st12, st13, st14, st15, Option.some.injEq, exists_eq_left', exists_eq_left, atI_zero, atI_one, atI_two, List.map_cons, List.map_nil, List.length_cons, List.length_nil, true_and, and_true, List.length_set, Bool.true_and, Bool.and_true, xor_f, xor_t]
    have hF := wi.len ok h0 hT h1
    refine ffor_run (h.map PyData.int) (fun i δ => ∃ (kds : List (D × D)) (F' g : List Int) (s7 s8 s9 s10 : Slot), δ = WW net n top kds (.sh (.list (h.map PyData.int))) (.ow (.list (g.map PyData.int))) s7 s8 s9 s10 ∧ WP net n top h F.length i kds F' g) (fun R hR => ?_) ⟨kds, F, [], _, _, _, _, rfl, wi, fun y hy => (nomatch hy), hh, fun x hx _ => ?_, by simp⟩ ?_ ?_
    · simp only [fRet, fRet.stabR, fTuple, fB, g1, gTuple, gList, fList, fIx, f2R, gIx, fVar, fC, fCons, fNil, fTup, fLst, rCons, rNil, fSet, fAsg, tgName, tgTup, tgCons, tgNil, fYes, fAnd, fOr, fNot, fTest, boolW, gLt, gLe, gGt, gGe, gB2, f2, gI2, gI2C, fAdd, gAdd, fSub, fMul, gMul, fMod, fDiv, fPow, fNeg, f1, gNeg, fIfE, fAndV, fOrV, fNotV, fCall, fCallB, fCallBN, fCallN, fCallK, stab, Res.d, intW, fLen, gLen, fAbs, fInt, fMax2, fMin2, fMax3, gI1, gI2a, gI3a, fiSeq, gSeq, fiRng1, fiRng2, fiEnum, gEnum, fiRev, gRev, fiZip, gZip, fDrop, fNext, fBreak, fCont, fRetN, fShare, unown, fPar, parW, fPut, subW, fApp, appW, isOwL, fExt, extW, fSorted, gSorted, fListRg1, fListRev, fListKeys, fGet2, dictW, fDct0, fDct1, fRepr, gRepr, fAny, fAll, gBools, fSum, gSum, fMaxL, gMaxL, fMinL, gMinL, fChain, fSl, gSl, fPart, fNoP, fBagW, fBagI, fBagS, fBagIf, fScr, fBag, fBag2, nnW, wipeD, Res.ok, endsP, DL.endsL, endsO, gt0, gt1, gt2, gt3, gt4, gt5, gt6, gt7, gt8, gt9, gt10, gt11, gt12, gt13, gt14, gt15, st0, st1, st2, st3, st4, st5, st6, st7, st8, st9, st10, st11, st12, st13, st14, st15, Option.some.injEq, exists_eq_left', exists_eq_left, atI_zero, atI_one, atI_two, List.map_cons, List.map_nil, List.length_cons, List.length_nil, true_and, and_true, List.length_set, Bool.true_and, Bool.and_true, xor_f, xor_t]
      exact hR
    · by_cases hm : x ∈ h
      · obtain ⟨j, hj, e⟩ := List.getElem_of_mem hm
        exact .inr ⟨j, Nat.zero_le _, by rw [← e]; exact List.getElem?_eq_getElem hj⟩
      · exact .inl (hc x hx hm)
    · rintro i d δ hd ⟨kds, F', g, s7, s8, s9, s10, rfl, wp⟩
      obtain ⟨x, hx, rfl⟩ := map_get hd
      unfold WW
      simp only [fRet, fRet.stabR, fTuple, fB, g1, gTuple, gList, fList, fIx, f2R, gIx, fVar, fC, fCons, fNil, fTup, fLst, rCons, rNil, fSet, fAsg, tgName, tgTup, tgCons, tgNil, fYes, fAnd, fOr, fNot, fTest, boolW, gLt, gLe, gGt, gGe, gB2, f2, gI2, gI2C, fAdd, gAdd, fSub, fMul, gMul, fMod, fDiv, fPow, fNeg, f1, gNeg, fIfE, fAndV, fOrV, fNotV, fCall, fCallB, fCallBN, fCallN, fCallK, stab, Res.d, intW, fLen, gLen, fAbs, fInt, fMax2, fMin2, fMax3, gI1, gI2a, gI3a, fiSeq, gSeq, fiRng1, fiRng2, fiEnum, gEnum, fiRev, gRev, fiZip, gZip, fDrop, fNext, fBreak, fCont, fRetN, fShare, unown, fPar, parW, fPut, subW, fApp, appW, isOwL, fExt, extW, fSorted, gSorted, fListRg1, fListRev, fListKeys, fGet2, dictW, fDct0, fDct1, fRepr, gRepr, fAny, fAll, gBools, fSum, gSum, fMaxL, gMaxL, fMinL, gMinL, fChain, fSl, gSl, fPart, fNoP, fBagW, fBagI, fBagS, fBagIf, fScr, fBag, fBag2, nnW, wipeD, Res.ok, endsP, DL.endsL, endsO, gt0, gt1, gt2, gt3, gt4, gt5, gt6, gt7, gt8, gt9, gt10, gt11, gt12, gt13, gt14, gt15, st0, st1, st2, st3, st4, st5, st6, st7, st8, st9, st10, st11, st12, st13, st14, st15, Option.some.injEq, exists_eq_left', exists_eq_left, atI_zero, atI_one, atI_two, List.map_cons, List.map_nil, List.length_cons, List.length_nil, true_and, and_true, List.length_set, Bool.true_and, Bool.and_true, xor_f, xor_t]
      refine ⟨by decide, ?_⟩
      refine ffor_run (numD (net.map riD)) (fun j δ => ∃ (kds : List (D × D)) (F' g : List Int) (s8 s9 s10 : Slot), δ = WW net n top kds (.sh (.list (h.map PyData.int))) (.ow (.list (g.map PyData.int))) (.sh (.int x)) s8 s9 s10 ∧ WQ net n top h F.length i j x kds F' g) (fun R hR => ?_) ⟨kds, F', g, _, _, _, rfl, wp, fun j' s hj => absurd hj (Nat.not_lt_zero _)⟩ ?_ ?_
      · simp only [fRet, fRet.stabR, fTuple, fB, g1, gTuple, gList, fList, fIx, f2R, gIx, fVar, fC, fCons, fNil, fTup, fLst, rCons, rNil, fSet, fAsg, tgName, tgTup, tgCons, tgNil, fYes, fAnd, fOr, fNot, fTest, boolW, gLt, gLe, gGt, gGe, gB2, f2, gI2, gI2C, fAdd, gAdd, fSub, fMul, gMul, fMod, fDiv, fPow, fNeg, f1, gNeg, fIfE, fAndV, fOrV, fNotV, fCall, fCallB, fCallBN, fCallN, fCallK, stab, Res.d, intW, fLen, gLen, fAbs, fInt, fMax2, fMin2, fMax3, gI1, gI2a, gI3a, fiSeq, gSeq, fiRng1, fiRng2, fiEnum, gEnum, fiRev, gRev, fiZip, gZip, fDrop, fNext, fBreak, fCont, fRetN, fShare, unown, fPar, parW, fPut, subW, fApp, appW, isOwL, fExt, extW, fSorted, gSorted, fListRg1, fListRev, fListKeys, fGet2, dictW, fDct0, fDct1, fRepr, gRepr, fAny, fAll, gBools, fSum, gSum, fMaxL, gMaxL, fMinL, gMinL, fChain, fSl, gSl, fPart, fNoP, fBagW, fBagI, fBagS, fBagIf, fScr, fBag, fBag2, nnW, wipeD, Res.ok, endsP, DL.endsL, endsO, gt0, gt1, gt2, gt3, gt4, gt5, gt6, gt7, gt8, gt9, gt10, gt11, gt12, gt13, gt14, gt15, st0, st1, st2, st3, st4, st5, st6, st7, st8, st9, st10, st11, st12, st13, st14, st15, Option.some.injEq, exists_eq_left', exists_eq_left, atI_zero, atI_one, atI_two, List.map_cons, List.map_nil, List.length_cons, List.length_nil, true_and, and_true, List.length_set, Bool.true_and, Bool.and_true, xor_f, xor_t]
        exact hR
      · rintro j d δ hd ⟨kds, F', g, s8, s9, s10, rfl, wq⟩
        obtain ⟨e, he, rfl⟩ := numD_get hd
        obtain ⟨s, hs, rfl⟩ := map_get he
        have ls := lookD_isSome wq.1.1.keys (x + (s.2 - s.1))
        have hxF : x ∈ F' := wq.1.2.2.1 x (List.mem_of_getElem? hx)
        have hF' := wq.1.1.len ok h0 hT h1
        unfold WW riD
        simp only [fRet, fRet.stabR, fTuple, fB, g1, gTuple, gList, fList, fIx, f2R, gIx, fVar, fC, fCons, fNil, fTup, fLst, rCons, rNil, fSet, fAsg, tgName, tgTup, tgCons, tgNil, fYes, fAnd, fOr, fNot, fTest, boolW, gLt, gLe, gGt, gGe, gB2, f2, gI2, gI2C, fAdd, gAdd, fSub, fMul, gMul, fMod, fDiv, fPow, fNeg, f1, gNeg, fIfE, fAndV, fOrV, fNotV, fCall, fCallB, fCallBN, fCallN, fCallK, stab, Res.d, intW, fLen, gLen, fAbs, fInt, fMax2, fMin2, fMax3, gI1, gI2a, gI3a, fiSeq, gSeq, fiRng1, fiRng2, fiEnum, gEnum, fiRev, gRev, fiZip, gZip, fDrop, fNext, fBreak, fCont, fRetN, fShare, unown, fPar, parW, fPut, subW, fApp, appW, isOwL, fExt, extW, fSorted, gSorted, fListRg1, fListRev, fListKeys, fGet2, dictW, fDct0, fDct1, fRepr, gRepr, fAny, fAll, gBools, fSum, gSum, fMaxL, gMaxL, fMinL, gMinL, fChain, fSl, gSl, fPart, fNoP, fBagW, fBagI, fBagS, fBagIf, fScr, fBag, fBag2, nnW, wipeD, Res.ok, endsP, DL.endsL, endsO, gt0, gt1, gt2, gt3, gt4, gt5, gt6, gt7, gt8, gt9, gt10, gt11, gt12, gt13, gt14, gt15, st0, st1, st2, st3, st4, st5, st6, st7, st8, st9, st10, st11, st12, st13, st14, st15, Option.some.injEq, exists_eq_left', exists_eq_left, atI_zero, atI_one, atI_two, List.map_cons, List.map_nil, List.length_cons, List.length_nil, true_and, and_true, List.length_set, Bool.true_and, Bool.and_true, xor_f, xor_t]
        refine ⟨by decide, by decide, by decide, ?_⟩
        refine fif_run ?_
        simp only [fRet, fRet.stabR, fTuple, fB, g1, gTuple, gList, fList, fIx, f2R, gIx, fVar, fC, fCons, fNil, fTup, fLst, rCons, rNil, fSet, fAsg, tgName, tgTup, tgCons, tgNil, fYes, fAnd, fOr, fNot, fTest, boolW, gLt, gLe, gGt, gGe, gB2, f2, gI2, gI2C, fAdd, gAdd, fSub, fMul, gMul, fMod, fDiv, fPow, fNeg, f1, gNeg, fIfE, fAndV, fOrV, fNotV, fCall, fCallB, fCallBN, fCallN, fCallK, stab, Res.d, intW, fLen, gLen, fAbs, fInt, fMax2, fMin2, fMax3, gI1, gI2a, gI3a, fiSeq, gSeq, fiRng1, fiRng2, fiEnum, gEnum, fiRev, gRev, fiZip, gZip, fDrop, fNext, fBreak, fCont, fRetN, fShare, unown, fPar, parW, fPut, subW, fApp, appW, isOwL, fExt, extW, fSorted, gSorted, fListRg1, fListRev, fListKeys, fGet2, dictW, fDct0, fDct1, fRepr, gRepr, fAny, fAll, gBools, fSum, gSum, fMaxL, gMaxL, fMinL, gMinL, fChain, fSl, gSl, fPart, fNoP, fBagW, fBagI, fBagS, fBagIf, fScr, fBag, fBag2, nnW, wipeD, Res.ok, endsP, DL.endsL, endsO, gt0, gt1, gt2, gt3, gt4, gt5, gt6, gt7, gt8, gt9, gt10, gt11, gt12, gt13, gt14, gt15, st0, st1, st2, st3, st4, st5, st6, st7, st8, st9, st10, st11, st12, st13, st14, st15, Option.some.injEq, exists_eq_left', exists_eq_left, atI_zero, atI_one, atI_two, List.map_cons, List.map_nil, List.length_cons, List.length_nil, true_and, and_true, List.length_set, Bool.true_and, Bool.and_true, xor_f, xor_t]
        have skip : (s.1 ≤ x → x + (s.2 - s.1) ≤ top → x + (s.2 - s.1) ∈ F') → WQ net n top h F.length i (j + 1) x kds F' g := wq.skip hs
        by_cases g1 : s.1 ≤ x
        · refine iteT' (decide_eq_true g1) ?_
          by_cases g2 : x + (s.2 - s.1) ≤ top
          · refine iteT' (decide_eq_true g2) (gIn_keys wq.1.1.keys rfl ?_)
            by_cases g3 : x + (s.2 - s.1) ∈ F'
            · simp only [fRet, fRet.stabR, fTuple, fB, g1, gTuple, gList, fList, fIx, f2R, gIx, fVar, fC, fCons, fNil, fTup, fLst, rCons, rNil, fSet, fAsg, tgName, tgTup, tgCons, tgNil, fYes, fAnd, fOr, fNot, fTest, boolW, gLt, gLe, gGt, gGe, gB2, f2, gI2, gI2C, fAdd, gAdd, fSub, fMul, gMul, fMod, fDiv, fPow, fNeg, f1, gNeg, fIfE, fAndV, fOrV, fNotV, fCall, fCallB, fCallBN, fCallN, fCallK, stab, Res.d, intW, fLen, gLen, fAbs, fInt, fMax2, fMin2, fMax3, gI1, gI2a, gI3a, fiSeq, gSeq, fiRng1, fiRng2, fiEnum, gEnum, fiRev, gRev, fiZip, gZip, fDrop, fNext, fBreak, fCont, fRetN, fShare, unown, fPar, parW, fPut, subW, fApp, appW, isOwL, fExt, extW, fSorted, gSorted, fListRg1, fListRev, fListKeys, fGet2, dictW, fDct0, fDct1, fRepr, gRepr, fAny, fAll, gBools, fSum, gSum, fMaxL, gMaxL, fMinL, gMinL, fChain, fSl, gSl, fPart, fNoP, fBagW, fBagI, fBagS, fBagIf, fScr, fBag, fBag2, nnW, wipeD, Res.ok, endsP, DL.endsL, endsO, gt0, gt1, gt2, gt3, gt4, gt5, gt6, gt7, gt8, gt9, gt10, gt11, gt12, gt13, gt14, gt15, st0, st1, st2, st3, st4, st5, st6, st7, st8, st9, st10, st11, st12, st13, st14, st15, Option.some.injEq, exists_eq_left', exists_eq_left, atI_zero, atI_one, atI_two, List.map_cons, List.map_nil, List.length_cons, List.length_nil, true_and, and_true, List.length_set, Bool.true_and, Bool.and_true, xor_f, xor_t]
              refine iteF' (by rw [decide_eq_true g3]; rfl) ?_
              exact ⟨_, _, _, _, _, _, rfl, skip fun _ _ => g3⟩
            · simp only [fRet, fRet.stabR, fTuple, fB, g1, gTuple, gList, fList, fIx, f2R, gIx, fVar, fC, fCons, fNil, fTup, fLst, rCons, rNil, fSet, fAsg, tgName, tgTup, tgCons, tgNil, fYes, fAnd, fOr, fNot, fTest, boolW, gLt, gLe, gGt, gGe, gB2, f2, gI2, gI2C, fAdd, gAdd, fSub, fMul, gMul, fMod, fDiv, fPow, fNeg, f1, gNeg, fIfE, fAndV, fOrV, fNotV, fCall, fCallB, fCallBN, fCallN, fCallK, stab, Res.d, intW, fLen, gLen, fAbs, fInt, fMax2, fMin2, fMax3, gI1, gI2a, gI3a, fiSeq, gSeq, fiRng1, fiRng2, fiEnum, gEnum, fiRev, gRev, fiZip, gZip, fDrop, fNext, fBreak, fCont, fRetN, fShare, unown, fPar, parW, fPut, subW, fApp, appW, isOwL, fExt, extW, fSorted, gSorted, fListRg1, fListRev, fListKeys, fGet2, dictW, fDct0, fDct1, fRepr, gRepr, fAny, fAll, gBools, fSum, gSum, fMaxL, gMaxL, fMinL, gMinL, fChain, fSl, gSl, fPart, fNoP, fBagW, fBagI, fBagS, fBagIf, fScr, fBag, fBag2, nnW, wipeD, Res.ok, endsP, DL.endsL, endsO, gt0, gt1, gt2, gt3, gt4, gt5, gt6, gt7, gt8, gt9, gt10, gt11, gt12, gt13, gt14, gt15, st0, st1, st2, st3, st4, st5, st6, st7, st8, st9, st10, st11, st12, st13, st14, st15, Option.some.injEq, exists_eq_left', exists_eq_left, atI_zero, atI_one, atI_two, List.map_cons, List.map_nil, List.length_cons, List.length_nil, true_and, and_true, List.length_set, Bool.true_and, Bool.and_true, xor_f, xor_t]
              refine iteT' (by rw [decide_eq_false g3]; rfl) ?_
              have w2 := wq.add hxF hs g1 g2 g3 (.tuple [.int x, .int j])
              refine fseq_run ?_
              have hkl := keys_len wq.1.1.keys
              have hg := wq.1.2.2.2.2
              simp only [fRet, fRet.stabR, fTuple, fB, g1, gTuple, gList, fList, fIx, f2R, gIx, fVar, fC, fCons, fNil, fTup, fLst, rCons, rNil, fSet, fAsg, tgName, tgTup, tgCons, tgNil, fYes, fAnd, fOr, fNot, fTest, boolW, gLt, gLe, gGt, gGe, gB2, f2, gI2, gI2C, fAdd, gAdd, fSub, fMul, gMul, fMod, fDiv, fPow, fNeg, f1, gNeg, fIfE, fAndV, fOrV, fNotV, fCall, fCallB, fCallBN, fCallN, fCallK, stab, Res.d, intW, fLen, gLen, fAbs, fInt, fMax2, fMin2, fMax3, gI1, gI2a, gI3a, fiSeq, gSeq, fiRng1, fiRng2, fiEnum, gEnum, fiRev, gRev, fiZip, gZip, fDrop, fNext, fBreak, fCont, fRetN, fShare, unown, fPar, parW, fPut, subW, fApp, appW, isOwL, fExt, extW, fSorted, gSorted, fListRg1, fListRev, fListKeys, fGet2, dictW, fDct0, fDct1, fRepr, gRepr, fAny, fAll, gBools, fSum, gSum, fMaxL, gMaxL, fMinL, gMinL, fChain, fSl, gSl, fPart, fNoP, fBagW, fBagI, fBagS, fBagIf, fScr, fBag, fBag2, nnW, wipeD, Res.ok, endsP, DL.endsL, endsO, gt0, gt1, gt2, gt3, gt4, gt5, gt6, gt7, gt8, gt9, gt10, gt11, gt12, gt13, gt14, gt15, st0, st1, st2, st3, st4, st5, st6, st7, st8, st9, st10, st11, st12, st13, st14, st15, Option.some.injEq, exists_eq_left', exists_eq_left, atI_zero, atI_one, atI_two, List.map_cons, List.map_nil, List.length_cons, List.length_nil, true_and, and_true, List.length_set, Bool.true_and, Bool.and_true, xor_f, xor_t, sl_eq]
              refine ⟨by decide, ⟨_, rfl⟩, ⟨rfl, keys_sc wq.1.1.keys, by omega⟩, ?_⟩
              refine ⟨⟨_, rfl⟩, by rw [List.length_map]; omega, ?_⟩
              exact ⟨_, _, _, _, _, _, by rw [List.map_append]; rfl, w2⟩
          · refine iteF' (decide_eq_false g2) (iteF' rfl ?_)
            exact ⟨_, _, _, _, _, _, rfl, skip fun _ z => absurd z g2⟩
        · refine iteF' (decide_eq_false g1) (iteF' rfl ?_)
          exact ⟨_, _, _, _, _, _, rfl, skip fun z _ => absurd z g1⟩
      · rintro δ ⟨kds, F', g, s8, s9, s10, rfl, wq⟩
        rw [numD_len, List.length_map] at wq
        exact ⟨kds, F', g, _, _, _, _, rfl, wq.done hx⟩
    · rintro δ ⟨kds', F', g, s7, s8, s9, s10, rfl, wi', a1, a2, a3, a4⟩
      unfold WW
      simp only [fRet, fRet.stabR, fTuple, fB, g1, gTuple, gList, fList, fIx, f2R, gIx, fVar, fC, fCons, fNil, fTup, fLst, rCons, rNil, fSet, fAsg, tgName, tgTup, tgCons, tgNil, fYes, fAnd, fOr, fNot, fTest, boolW, gLt, gLe, gGt, gGe, gB2, f2, gI2, gI2C, fAdd, gAdd, fSub, fMul, gMul, fMod, fDiv, fPow, fNeg, f1, gNeg, fIfE, fAndV, fOrV, fNotV, fCall, fCallB, fCallBN, fCallN, fCallK, stab, Res.d, intW, fLen, gLen, fAbs, fInt, fMax2, fMin2, fMax3, gI1, gI2a, gI3a, fiSeq, gSeq, fiRng1, fiRng2, fiEnum, gEnum, fiRev, gRev, fiZip, gZip, fDrop, fNext, fBreak, fCont, fRetN, fShare, unown, fPar, parW, fPut, subW, fApp, appW, isOwL, fExt, extW, fSorted, gSorted, fListRg1, fListRev, fListKeys, fGet2, dictW, fDct0, fDct1, fRepr, gRepr, fAny, fAll, gBools, fSum, gSum, fMaxL, gMaxL, fMinL, gMinL, fChain, fSl, gSl, fPart, fNoP, fBagW, fBagI, fBagS, fBagIf, fScr, fBag, fBag2, nnW, wipeD, Res.ok, endsP, DL.endsL, endsO, gt0, gt1, gt2, gt3, gt4, gt5, gt6, gt7, gt8, gt9, gt10, gt11, gt12, gt13, gt14, gt15, st0, st1, st2, st3, st4, st5, st6, st7, st8, st9, st10, st11, st12, st13, st14, st15, Option.some.injEq, exists_eq_left', exists_eq_left, atI_zero, atI_one, atI_two, List.map_cons, List.map_nil, List.length_cons, List.length_nil, true_and, and_true, List.length_set, Bool.true_and, Bool.and_true, xor_f, xor_t]
      refine ⟨by decide, _, ?_, kds', F', g, _, _, _, _, _, rfl, wi', a1, fun x hx hg => ?_, rfl⟩
      · have hF' := wi'.len ok h0 hT h1
        rw [if_neg hnil]
        by_cases hg : g = []
        · rw [if_pos hg]; omega
        · rw [if_neg hg]
          have : g.length ≠ 0 := fun z => hg (List.length_eq_zero_iff.mp z)
          omega
      · rcases a3 x hx hg with z | ⟨j, hj, e⟩
        · exact z
        · have := (List.getElem?_eq_some_iff.mp e).1
          rw [List.length_map] at hj
          omega
end G61

namespace G61
open PySem PySem.Spec PyProof.Rows L2 DL
def topOf (n y : Int) : Int := max (max n y) 9 + 18
theorem sort_mem (F : List Int) (y : Int) : y ∈ sortI F ↔ y ∈ F := (List.mergeSort_perm F _).mem_iff
theorem sort_lt {F : List Int} (h : F.Nodup) : (sortI F).Pairwise (· < ·) := by
  have nd : (sortI F).Nodup := ((List.mergeSort_perm F _).nodup_iff).mpr h
  have s : (sortI F).Pairwise (· ≤ ·) := by
    have := List.pairwise_mergeSort (le := fun a b : Int => decide (a ≤ b)) (by intro a b c h1 h2; simp at *; omega) (by intro a b; simp; omega) F
    simpa [sortI] using this
  exact (s.and nd).imp fun {a b} h => by have := h.1; have := h.2; omega
theorem sort_len (F : List Int) : (sortI F).length = F.length := (List.mergeSort_perm F _).length_eq
theorem filterMap_int (F : List Int) (p : Int → Bool) (out : D → Option D) (h : ∀ x, out (.int x) = if p x = true then some (.int x) else none) : (F.map PyData.int).filterMap out = (F.filter p).map PyData.int := by
  induction F with
  | nil => rfl
  | cons x F ih =>
    rw [List.map_cons, List.filter_cons]
    by_cases e : p x = true
    · rw [if_pos e, List.filterMap_cons_some (b := .int x) (by rw [h, if_pos e]), ih]; rfl
    · rw [if_neg e, List.filterMap_cons_none (by rw [h, if_neg e]), ih]
def S_come_numbers : SpD := fun ds QD _ => ∃ net n most, ds = [netD net, .int n, .int most] ∧ NetOk net ∧ (0 ≤ n ∧ n ≤ 300) ∧ (0 ≤ most ∧ most ≤ 300) ∧
  ∀ L : List Int, L.Pairwise (· < ·) → (∀ y, y ∈ L ↔ RT net (topOf n most) n y ∧ y ≤ most) → QD (.tuple (L.map PyData.int))
theorem l_come_numbers : ∀ ds QD ED, S_come_numbers ds QD ED → F_come_numbers S_ways_within S_top_for (endsP QD ED) (startD N_come_numbers ds) := by
  rintro ds QD ED ⟨net, n, most, rfl, ok, ⟨hn0, hn⟩, ⟨hm0, hm⟩, q⟩
  unfold F_come_numbers
  rw [show startD N_come_numbers [netD net, .int n, .int most] = [.sh (netD net), .sh (.int n), .sh (.int most), .no] from rfl]
  simp only [fRet, fRet.stabR, fTuple, fB, g1, gTuple, gList, fList, fIx, f2R, gIx, fVar, fC, fCons, fNil, fTup, fLst, rCons, rNil, fSet, fAsg, tgName, tgTup, tgCons, tgNil, fYes, fAnd, fOr, fNot, fTest, boolW, gLt, gLe, gGt, gGe, gB2, f2, gI2, gI2C, fAdd, gAdd, fSub, fMul, gMul, fMod, fDiv, fPow, fNeg, f1, gNeg, fIfE, fAndV, fOrV, fNotV, fCall, fCallB, fCallBN, fCallN, fCallK, stab, Res.d, intW, fLen, gLen, fAbs, fInt, fMax2, fMin2, fMax3, gI1, gI2a, gI3a, fiSeq, gSeq, fiRng1, fiRng2, fiEnum, gEnum, fiRev, gRev, fiZip, gZip, fDrop, fNext, fBreak, fCont, fRetN, fShare, unown, fPar, parW, fPut, subW, fApp, appW, isOwL, fExt, extW, fSorted, gSorted, fListRg1, fListRev, fListKeys, fGet2, dictW, fDct0, fDct1, fRepr, gRepr, fAny, fAll, gBools, fSum, gSum, fMaxL, gMaxL, fMinL, gMinL, fChain, fSl, gSl, fPart, fNoP, fBagW, fBagI, fBagS, fBagIf, fScr, fBag, fBag2, nnW, wipeD, Res.ok, endsP, DL.endsL, endsO, gt0, gt1, gt2, gt3, gt4, gt5, gt6, gt7, gt8, gt9, gt10, gt11, gt12, gt13, gt14, gt15, st0, st1, st2, st3, st4, st5, st6, st7, st8, st9, st10, st11, st12, st13, st14, st15, Option.some.injEq, exists_eq_left', exists_eq_left, atI_zero, atI_one, atI_two, List.map_cons, List.map_nil, List.length_cons, List.length_nil, true_and, and_true, List.length_set, Bool.true_and, Bool.and_true, xor_f, xor_t]
  refine flc_open ?_
  simp only [fRet, fRet.stabR, fTuple, fB, g1, gTuple, gList, fList, fIx, f2R, gIx, fVar, fC, fCons, fNil, fTup, fLst, rCons, rNil, fSet, fAsg, tgName, tgTup, tgCons, tgNil, fYes, fAnd, fOr, fNot, fTest, boolW, gLt, gLe, gGt, gGe, gB2, f2, gI2, gI2C, fAdd, gAdd, fSub, fMul, gMul, fMod, fDiv, fPow, fNeg, f1, gNeg, fIfE, fAndV, fOrV, fNotV, fCall, fCallB, fCallBN, fCallN, fCallK, stab, Res.d, intW, fLen, gLen, fAbs, fInt, fMax2, fMin2, fMax3, gI1, gI2a, gI3a, fiSeq, gSeq, fiRng1, fiRng2, fiEnum, gEnum, fiRev, gRev, fiZip, gZip, fDrop, fNext, fBreak, fCont, fRetN, fShare, unown, fPar, parW, fPut, subW, fApp, appW, isOwL, fExt, extW, fSorted, gSorted, fListRg1, fListRev, fListKeys, fGet2, dictW, fDct0, fDct1, fRepr, gRepr, fAny, fAll, gBools, fSum, gSum, fMaxL, gMaxL, fMinL, gMinL, fChain, fSl, gSl, fPart, fNoP, fBagW, fBagI, fBagS, fBagIf, fScr, fBag, fBag2, nnW, wipeD, Res.ok, endsP, DL.endsL, endsO, gt0, gt1, gt2, gt3, gt4, gt5, gt6, gt7, gt8, gt9, gt10, gt11, gt12, gt13, gt14, gt15, st0, st1, st2, st3, st4, st5, st6, st7, st8, st9, st10, st11, st12, st13, st14, st15, Option.some.injEq, exists_eq_left', exists_eq_left, atI_zero, atI_one, atI_two, List.map_cons, List.map_nil, List.length_cons, List.length_nil, true_and, and_true, List.length_set, Bool.true_and, Bool.and_true, xor_f, xor_t]
  refine ⟨n, most, rfl, ?_⟩
  simp only [fRet, fRet.stabR, fTuple, fB, g1, gTuple, gList, fList, fIx, f2R, gIx, fVar, fC, fCons, fNil, fTup, fLst, rCons, rNil, fSet, fAsg, tgName, tgTup, tgCons, tgNil, fYes, fAnd, fOr, fNot, fTest, boolW, gLt, gLe, gGt, gGe, gB2, f2, gI2, gI2C, fAdd, gAdd, fSub, fMul, gMul, fMod, fDiv, fPow, fNeg, f1, gNeg, fIfE, fAndV, fOrV, fNotV, fCall, fCallB, fCallBN, fCallN, fCallK, stab, Res.d, intW, fLen, gLen, fAbs, fInt, fMax2, fMin2, fMax3, gI1, gI2a, gI3a, fiSeq, gSeq, fiRng1, fiRng2, fiEnum, gEnum, fiRev, gRev, fiZip, gZip, fDrop, fNext, fBreak, fCont, fRetN, fShare, unown, fPar, parW, fPut, subW, fApp, appW, isOwL, fExt, extW, fSorted, gSorted, fListRg1, fListRev, fListKeys, fGet2, dictW, fDct0, fDct1, fRepr, gRepr, fAny, fAll, gBools, fSum, gSum, fMaxL, gMaxL, fMinL, gMinL, fChain, fSl, gSl, fPart, fNoP, fBagW, fBagI, fBagS, fBagIf, fScr, fBag, fBag2, nnW, wipeD, Res.ok, endsP, DL.endsL, endsO, gt0, gt1, gt2, gt3, gt4, gt5, gt6, gt7, gt8, gt9, gt10, gt11, gt12, gt13, gt14, gt15, st0, st1, st2, st3, st4, st5, st6, st7, st8, st9, st10, st11, st12, st13, st14, st15, Option.some.injEq, exists_eq_left', exists_eq_left, atI_zero, atI_one, atI_two, List.map_cons, List.map_nil, List.length_cons, List.length_nil, true_and, and_true, List.length_set, Bool.true_and, Bool.and_true, xor_f, xor_t]
  refine ⟨net, n, topOf n most, rfl, ok, hn0, by unfold topOf; omega, by unfold topOf; omega, fun kds F hk nd hF => ?_⟩
  simp only [fRet, fRet.stabR, fTuple, fB, g1, gTuple, gList, fList, fIx, f2R, gIx, fVar, fC, fCons, fNil, fTup, fLst, rCons, rNil, fSet, fAsg, tgName, tgTup, tgCons, tgNil, fYes, fAnd, fOr, fNot, fTest, boolW, gLt, gLe, gGt, gGe, gB2, f2, gI2, gI2C, fAdd, gAdd, fSub, fMul, gMul, fMod, fDiv, fPow, fNeg, f1, gNeg, fIfE, fAndV, fOrV, fNotV, fCall, fCallB, fCallBN, fCallN, fCallK, stab, Res.d, intW, fLen, gLen, fAbs, fInt, fMax2, fMin2, fMax3, gI1, gI2a, gI3a, fiSeq, gSeq, fiRng1, fiRng2, fiEnum, gEnum, fiRev, gRev, fiZip, gZip, fDrop, fNext, fBreak, fCont, fRetN, fShare, unown, fPar, parW, fPut, subW, fApp, appW, isOwL, fExt, extW, fSorted, gSorted, fListRg1, fListRev, fListKeys, fGet2, dictW, fDct0, fDct1, fRepr, gRepr, fAny, fAll, gBools, fSum, gSum, fMaxL, gMaxL, fMinL, gMinL, fChain, fSl, gSl, fPart, fNoP, fBagW, fBagI, fBagS, fBagIf, fScr, fBag, fBag2, nnW, wipeD, Res.ok, endsP, DL.endsL, endsO, gt0, gt1, gt2, gt3, gt4, gt5, gt6, gt7, gt8, gt9, gt10, gt11, gt12, gt13, gt14, gt15, st0, st1, st2, st3, st4, st5, st6, st7, st8, st9, st10, st11, st12, st13, st14, st15, Option.some.injEq, exists_eq_left', exists_eq_left, atI_zero, atI_one, atI_two, List.map_cons, List.map_nil, List.length_cons, List.length_nil, true_and, and_true, List.length_set, Bool.true_and, Bool.and_true, xor_f, xor_t]
  refine ⟨F, hk, ?_⟩
  have hlen : F.length ≤ 1001 := nodup_len _ _ nd fun x hx => by
    have := ((hF x).mp hx).bd ok hn0 (by unfold topOf; omega)
    unfold topOf at this
    omega
  refine lcg_run (fun d => match d with | .int x => (if x ≤ most then some (.int x) else none) | _ => none) (by rw [List.length_map, sort_len, sl_eq]; omega) (fun d hd K k => ?_) ?_
  · obtain ⟨x, hx, rfl⟩ := List.mem_map.mp hd
    simp only [fRet, fRet.stabR, fTuple, fB, g1, gTuple, gList, fList, fIx, f2R, gIx, fVar, fC, fCons, fNil, fTup, fLst, rCons, rNil, fSet, fAsg, tgName, tgTup, tgCons, tgNil, fYes, fAnd, fOr, fNot, fTest, boolW, gLt, gLe, gGt, gGe, gB2, f2, gI2, gI2C, fAdd, gAdd, fSub, fMul, gMul, fMod, fDiv, fPow, fNeg, f1, gNeg, fIfE, fAndV, fOrV, fNotV, fCall, fCallB, fCallBN, fCallN, fCallK, stab, Res.d, intW, fLen, gLen, fAbs, fInt, fMax2, fMin2, fMax3, gI1, gI2a, gI3a, fiSeq, gSeq, fiRng1, fiRng2, fiEnum, gEnum, fiRev, gRev, fiZip, gZip, fDrop, fNext, fBreak, fCont, fRetN, fShare, unown, fPar, parW, fPut, subW, fApp, appW, isOwL, fExt, extW, fSorted, gSorted, fListRg1, fListRev, fListKeys, fGet2, dictW, fDct0, fDct1, fRepr, gRepr, fAny, fAll, gBools, fSum, gSum, fMaxL, gMaxL, fMinL, gMinL, fChain, fSl, gSl, fPart, fNoP, fBagW, fBagI, fBagS, fBagIf, fScr, fBag, fBag2, nnW, wipeD, Res.ok, endsP, DL.endsL, endsO, gt0, gt1, gt2, gt3, gt4, gt5, gt6, gt7, gt8, gt9, gt10, gt11, gt12, gt13, gt14, gt15, st0, st1, st2, st3, st4, st5, st6, st7, st8, st9, st10, st11, st12, st13, st14, st15, Option.some.injEq, exists_eq_left', exists_eq_left, atI_zero, atI_one, atI_two, List.map_cons, List.map_nil, List.length_cons, List.length_nil, true_and, and_true, List.length_set, Bool.true_and, Bool.and_true, xor_f, xor_t]
    refine ⟨by decide, ?_⟩
    by_cases g : x ≤ most
    · refine iteT' (decide_eq_true g) ?_
      simpa [g] using k
    · refine iteF' (decide_eq_false g) ?_
      simpa [g] using k
  · have e := filterMap_int (sortI F) (fun x => decide (x ≤ most)) (fun d => match d with | .int x => (if x ≤ most then some (.int x) else none) | _ => none) (fun x => by simp)
    rw [e]
    refine q _ ((sort_lt nd).filter _) fun y => ?_
    rw [List.mem_filter, sort_mem, hF]
    simp
def S_comes_to : SpD := fun ds QD _ => ∃ net n y, ds = [netD net, .int n, .int y] ∧ NetOk net ∧ (0 ≤ n ∧ n ≤ 300) ∧ (0 ≤ y ∧ y ≤ 300) ∧ ∀ b : Bool, (b = true ↔ RT net (topOf n y) n y) → QD (.bool b)
theorem l_comes_to : ∀ ds QD ED, S_comes_to ds QD ED → F_comes_to S_ways_within S_top_for (endsP QD ED) (startD N_comes_to ds) := by
  rintro ds QD ED ⟨net, n, y, rfl, ok, ⟨hn0, hn⟩, ⟨hm0, hm⟩, q⟩
  unfold F_comes_to
  rw [show startD N_comes_to [netD net, .int n, .int y] = [.sh (netD net), .sh (.int n), .sh (.int y)] from rfl]
  simp only [fRet, fRet.stabR, fTuple, fB, g1, gTuple, gList, fList, fIx, f2R, gIx, fVar, fC, fCons, fNil, fTup, fLst, rCons, rNil, fSet, fAsg, tgName, tgTup, tgCons, tgNil, fYes, fAnd, fOr, fNot, fTest, boolW, gLt, gLe, gGt, gGe, gB2, f2, gI2, gI2C, fAdd, gAdd, fSub, fMul, gMul, fMod, fDiv, fPow, fNeg, f1, gNeg, fIfE, fAndV, fOrV, fNotV, fCall, fCallB, fCallBN, fCallN, fCallK, stab, Res.d, intW, fLen, gLen, fAbs, fInt, fMax2, fMin2, fMax3, gI1, gI2a, gI3a, fiSeq, gSeq, fiRng1, fiRng2, fiEnum, gEnum, fiRev, gRev, fiZip, gZip, fDrop, fNext, fBreak, fCont, fRetN, fShare, unown, fPar, parW, fPut, subW, fApp, appW, isOwL, fExt, extW, fSorted, gSorted, fListRg1, fListRev, fListKeys, fGet2, dictW, fDct0, fDct1, fRepr, gRepr, fAny, fAll, gBools, fSum, gSum, fMaxL, gMaxL, fMinL, gMinL, fChain, fSl, gSl, fPart, fNoP, fBagW, fBagI, fBagS, fBagIf, fScr, fBag, fBag2, nnW, wipeD, Res.ok, endsP, DL.endsL, endsO, gt0, gt1, gt2, gt3, gt4, gt5, gt6, gt7, gt8, gt9, gt10, gt11, gt12, gt13, gt14, gt15, st0, st1, st2, st3, st4, st5, st6, st7, st8, st9, st10, st11, st12, st13, st14, st15, Option.some.injEq, exists_eq_left', exists_eq_left, atI_zero, atI_one, atI_two, List.map_cons, List.map_nil, List.length_cons, List.length_nil, true_and, and_true, List.length_set, Bool.true_and, Bool.and_true, xor_f, xor_t]
  refine ⟨n, y, rfl, ?_⟩
  simp only [fRet, fRet.stabR, fTuple, fB, g1, gTuple, gList, fList, fIx, f2R, gIx, fVar, fC, fCons, fNil, fTup, fLst, rCons, rNil, fSet, fAsg, tgName, tgTup, tgCons, tgNil, fYes, fAnd, fOr, fNot, fTest, boolW, gLt, gLe, gGt, gGe, gB2, f2, gI2, gI2C, fAdd, gAdd, fSub, fMul, gMul, fMod, fDiv, fPow, fNeg, f1, gNeg, fIfE, fAndV, fOrV, fNotV, fCall, fCallB, fCallBN, fCallN, fCallK, stab, Res.d, intW, fLen, gLen, fAbs, fInt, fMax2, fMin2, fMax3, gI1, gI2a, gI3a, fiSeq, gSeq, fiRng1, fiRng2, fiEnum, gEnum, fiRev, gRev, fiZip, gZip, fDrop, fNext, fBreak, fCont, fRetN, fShare, unown, fPar, parW, fPut, subW, fApp, appW, isOwL, fExt, extW, fSorted, gSorted, fListRg1, fListRev, fListKeys, fGet2, dictW, fDct0, fDct1, fRepr, gRepr, fAny, fAll, gBools, fSum, gSum, fMaxL, gMaxL, fMinL, gMinL, fChain, fSl, gSl, fPart, fNoP, fBagW, fBagI, fBagS, fBagIf, fScr, fBag, fBag2, nnW, wipeD, Res.ok, endsP, DL.endsL, endsO, gt0, gt1, gt2, gt3, gt4, gt5, gt6, gt7, gt8, gt9, gt10, gt11, gt12, gt13, gt14, gt15, st0, st1, st2, st3, st4, st5, st6, st7, st8, st9, st10, st11, st12, st13, st14, st15, Option.some.injEq, exists_eq_left', exists_eq_left, atI_zero, atI_one, atI_two, List.map_cons, List.map_nil, List.length_cons, List.length_nil, true_and, and_true, List.length_set, Bool.true_and, Bool.and_true, xor_f, xor_t]
  refine ⟨net, n, topOf n y, rfl, ok, hn0, by unfold topOf; omega, by unfold topOf; omega, fun kds F hk nd hF => ?_⟩
  refine gIn_keys hk rfl ?_
  simp only [fRet, fRet.stabR, fTuple, fB, g1, gTuple, gList, fList, fIx, f2R, gIx, fVar, fC, fCons, fNil, fTup, fLst, rCons, rNil, fSet, fAsg, tgName, tgTup, tgCons, tgNil, fYes, fAnd, fOr, fNot, fTest, boolW, gLt, gLe, gGt, gGe, gB2, f2, gI2, gI2C, fAdd, gAdd, fSub, fMul, gMul, fMod, fDiv, fPow, fNeg, f1, gNeg, fIfE, fAndV, fOrV, fNotV, fCall, fCallB, fCallBN, fCallN, fCallK, stab, Res.d, intW, fLen, gLen, fAbs, fInt, fMax2, fMin2, fMax3, gI1, gI2a, gI3a, fiSeq, gSeq, fiRng1, fiRng2, fiEnum, gEnum, fiRev, gRev, fiZip, gZip, fDrop, fNext, fBreak, fCont, fRetN, fShare, unown, fPar, parW, fPut, subW, fApp, appW, isOwL, fExt, extW, fSorted, gSorted, fListRg1, fListRev, fListKeys, fGet2, dictW, fDct0, fDct1, fRepr, gRepr, fAny, fAll, gBools, fSum, gSum, fMaxL, gMaxL, fMinL, gMinL, fChain, fSl, gSl, fPart, fNoP, fBagW, fBagI, fBagS, fBagIf, fScr, fBag, fBag2, nnW, wipeD, Res.ok, endsP, DL.endsL, endsO, gt0, gt1, gt2, gt3, gt4, gt5, gt6, gt7, gt8, gt9, gt10, gt11, gt12, gt13, gt14, gt15, st0, st1, st2, st3, st4, st5, st6, st7, st8, st9, st10, st11, st12, st13, st14, st15, Option.some.injEq, exists_eq_left', exists_eq_left, atI_zero, atI_one, atI_two, List.map_cons, List.map_nil, List.length_cons, List.length_nil, true_and, and_true, List.length_set, Bool.true_and, Bool.and_true, xor_f, xor_t]
  refine q _ ?_
  rw [decide_eq_true_iff]
  exact hF y
/-- a step that rises is let at a number that comes -/
def Rises (net : List (Int × Int)) (n x : Int) : Prop := ∃ s ∈ net, s.1 ≤ x ∧ 0 < s.2 - s.1
def S_rising_step : SpD := fun ds QD _ => ∃ net n, ds = [netD net, .int n] ∧ NetOk net ∧ (0 ≤ n ∧ n ≤ 300) ∧ ∀ d, (isNone d = false ↔ ∃ x, RT net n n x ∧ Rises net n x) → QD d
theorem l_rising_step : ∀ ds QD ED, S_rising_step ds QD ED → F_rising_step S_ways_within S_rises_of (endsP QD ED) (startD N_rising_step ds) := by
  rintro ds QD ED ⟨net, n, rfl, ok, ⟨hn0, hn⟩, q⟩
  unfold F_rising_step
  rw [show startD N_rising_step [netD net, .int n] = [.sh (netD net), .sh (.int n), .no, .no, .no, .no] from rfl]
  refine fseq_run (ffor_open ?_)
  simp only [fRet, fRet.stabR, fTuple, fB, g1, gTuple, gList, fList, fIx, f2R, gIx, fVar, fC, fCons, fNil, fTup, fLst, rCons, rNil, fSet, fAsg, tgName, tgTup, tgCons, tgNil, fYes, fAnd, fOr, fNot, fTest, boolW, gLt, gLe, gGt, gGe, gB2, f2, gI2, gI2C, fAdd, gAdd, fSub, fMul, gMul, fMod, fDiv, fPow, fNeg, f1, gNeg, fIfE, fAndV, fOrV, fNotV, fCall, fCallB, fCallBN, fCallN, fCallK, stab, Res.d, intW, fLen, gLen, fAbs, fInt, fMax2, fMin2, fMax3, gI1, gI2a, gI3a, fiSeq, gSeq, fiRng1, fiRng2, fiEnum, gEnum, fiRev, gRev, fiZip, gZip, fDrop, fNext, fBreak, fCont, fRetN, fShare, unown, fPar, parW, fPut, subW, fApp, appW, isOwL, fExt, extW, fSorted, gSorted, fListRg1, fListRev, fListKeys, fGet2, dictW, fDct0, fDct1, fRepr, gRepr, fAny, fAll, gBools, fSum, gSum, fMaxL, gMaxL, fMinL, gMinL, fChain, fSl, gSl, fPart, fNoP, fBagW, fBagI, fBagS, fBagIf, fScr, fBag, fBag2, nnW, wipeD, Res.ok, endsP, DL.endsL, endsO, gt0, gt1, gt2, gt3, gt4, gt5, gt6, gt7, gt8, gt9, gt10, gt11, gt12, gt13, gt14, gt15, st0, st1, st2, st3, st4, st5, st6, st7, st8, st9, st10, st11, st12, st13, st14, st15, Option.some.injEq, exists_eq_left', exists_eq_left, atI_zero, atI_one, atI_two, List.map_cons, List.map_nil, List.length_cons, List.length_nil, true_and, and_true, List.length_set, Bool.true_and, Bool.and_true, xor_f, xor_t]
  refine ⟨net, n, n, rfl, ok, hn0, by omega, by omega, fun kds F hk nd hF => ?_⟩
  simp only [fRet, fRet.stabR, fTuple, fB, g1, gTuple, gList, fList, fIx, f2R, gIx, fVar, fC, fCons, fNil, fTup, fLst, rCons, rNil, fSet, fAsg, tgName, tgTup, tgCons, tgNil, fYes, fAnd, fOr, fNot, fTest, boolW, gLt, gLe, gGt, gGe, gB2, f2, gI2, gI2C, fAdd, gAdd, fSub, fMul, gMul, fMod, fDiv, fPow, fNeg, f1, gNeg, fIfE, fAndV, fOrV, fNotV, fCall, fCallB, fCallBN, fCallN, fCallK, stab, Res.d, intW, fLen, gLen, fAbs, fInt, fMax2, fMin2, fMax3, gI1, gI2a, gI3a, fiSeq, gSeq, fiRng1, fiRng2, fiEnum, gEnum, fiRev, gRev, fiZip, gZip, fDrop, fNext, fBreak, fCont, fRetN, fShare, unown, fPar, parW, fPut, subW, fApp, appW, isOwL, fExt, extW, fSorted, gSorted, fListRg1, fListRev, fListKeys, fGet2, dictW, fDct0, fDct1, fRepr, gRepr, fAny, fAll, gBools, fSum, gSum, fMaxL, gMaxL, fMinL, gMinL, fChain, fSl, gSl, fPart, fNoP, fBagW, fBagI, fBagS, fBagIf, fScr, fBag, fBag2, nnW, wipeD, Res.ok, endsP, DL.endsL, endsO, gt0, gt1, gt2, gt3, gt4, gt5, gt6, gt7, gt8, gt9, gt10, gt11, gt12, gt13, gt14, gt15, st0, st1, st2, st3, st4, st5, st6, st7, st8, st9, st10, st11, st12, st13, st14, st15, Option.some.injEq, exists_eq_left', exists_eq_left, atI_zero, atI_one, atI_two, List.map_cons, List.map_nil, List.length_cons, List.length_nil, true_and, and_true, List.length_set, Bool.true_and, Bool.and_true, xor_f, xor_t]
  refine ⟨F, hk, ?_⟩
  refine forg_run (fun i δ => ∃ s2 s3 s4 s5, δ = [.sh (netD net), .sh (.int n), s2, s3, s4, s5] ∧ ∀ j x, j < i → (sortI F)[j]? = some x → ¬ Rises net n x) ⟨_, _, _, _, rfl, fun j x hj => absurd hj (Nat.not_lt_zero _)⟩ ?_ ?_
  · rintro i d δ hd ⟨s2, s3, s4, s5, rfl, hno⟩
    obtain ⟨x, hx, rfl⟩ := map_get hd
    have hxF : RT net n n x := (hF x).mp ((sort_mem F x).mp (List.mem_of_getElem? hx))
    simp only [fRet, fRet.stabR, fTuple, fB, g1, gTuple, gList, fList, fIx, f2R, gIx, fVar, fC, fCons, fNil, fTup, fLst, rCons, rNil, fSet, fAsg, tgName, tgTup, tgCons, tgNil, fYes, fAnd, fOr, fNot, fTest, boolW, gLt, gLe, gGt, gGe, gB2, f2, gI2, gI2C, fAdd, gAdd, fSub, fMul, gMul, fMod, fDiv, fPow, fNeg, f1, gNeg, fIfE, fAndV, fOrV, fNotV, fCall, fCallB, fCallBN, fCallN, fCallK, stab, Res.d, intW, fLen, gLen, fAbs, fInt, fMax2, fMin2, fMax3, gI1, gI2a, gI3a, fiSeq, gSeq, fiRng1, fiRng2, fiEnum, gEnum, fiRev, gRev, fiZip, gZip, fDrop, fNext, fBreak, fCont, fRetN, fShare, unown, fPar, parW, fPut, subW, fApp, appW, isOwL, fExt, extW, fSorted, gSorted, fListRg1, fListRev, fListKeys, fGet2, dictW, fDct0, fDct1, fRepr, gRepr, fAny, fAll, gBools, fSum, gSum, fMaxL, gMaxL, fMinL, gMinL, fChain, fSl, gSl, fPart, fNoP, fBagW, fBagI, fBagS, fBagIf, fScr, fBag, fBag2, nnW, wipeD, Res.ok, endsP, DL.endsL, endsO, gt0, gt1, gt2, gt3, gt4, gt5, gt6, gt7, gt8, gt9, gt10, gt11, gt12, gt13, gt14, gt15, st0, st1, st2, st3, st4, st5, st6, st7, st8, st9, st10, st11, st12, st13, st14, st15, Option.some.injEq, exists_eq_left', exists_eq_left, atI_zero, atI_one, atI_two, List.map_cons, List.map_nil, List.length_cons, List.length_nil, true_and, and_true, List.length_set, Bool.true_and, Bool.and_true, xor_f, xor_t]
    refine ⟨by decide, fseq_run ?_⟩
    simp only [fRet, fRet.stabR, fTuple, fB, g1, gTuple, gList, fList, fIx, f2R, gIx, fVar, fC, fCons, fNil, fTup, fLst, rCons, rNil, fSet, fAsg, tgName, tgTup, tgCons, tgNil, fYes, fAnd, fOr, fNot, fTest, boolW, gLt, gLe, gGt, gGe, gB2, f2, gI2, gI2C, fAdd, gAdd, fSub, fMul, gMul, fMod, fDiv, fPow, fNeg, f1, gNeg, fIfE, fAndV, fOrV, fNotV, fCall, fCallB, fCallBN, fCallN, fCallK, stab, Res.d, intW, fLen, gLen, fAbs, fInt, fMax2, fMin2, fMax3, gI1, gI2a, gI3a, fiSeq, gSeq, fiRng1, fiRng2, fiEnum, gEnum, fiRev, gRev, fiZip, gZip, fDrop, fNext, fBreak, fCont, fRetN, fShare, unown, fPar, parW, fPut, subW, fApp, appW, isOwL, fExt, extW, fSorted, gSorted, fListRg1, fListRev, fListKeys, fGet2, dictW, fDct0, fDct1, fRepr, gRepr, fAny, fAll, gBools, fSum, gSum, fMaxL, gMaxL, fMinL, gMinL, fChain, fSl, gSl, fPart, fNoP, fBagW, fBagI, fBagS, fBagIf, fScr, fBag, fBag2, nnW, wipeD, Res.ok, endsP, DL.endsL, endsO, gt0, gt1, gt2, gt3, gt4, gt5, gt6, gt7, gt8, gt9, gt10, gt11, gt12, gt13, gt14, gt15, st0, st1, st2, st3, st4, st5, st6, st7, st8, st9, st10, st11, st12, st13, st14, st15, Option.some.injEq, exists_eq_left', exists_eq_left, atI_zero, atI_one, atI_two, List.map_cons, List.map_nil, List.length_cons, List.length_nil, true_and, and_true, List.length_set, Bool.true_and, Bool.and_true, xor_f, xor_t]
    refine flc_open ?_
    simp only [fRet, fRet.stabR, fTuple, fB, g1, gTuple, gList, fList, fIx, f2R, gIx, fVar, fC, fCons, fNil, fTup, fLst, rCons, rNil, fSet, fAsg, tgName, tgTup, tgCons, tgNil, fYes, fAnd, fOr, fNot, fTest, boolW, gLt, gLe, gGt, gGe, gB2, f2, gI2, gI2C, fAdd, gAdd, fSub, fMul, gMul, fMod, fDiv, fPow, fNeg, f1, gNeg, fIfE, fAndV, fOrV, fNotV, fCall, fCallB, fCallBN, fCallN, fCallK, stab, Res.d, intW, fLen, gLen, fAbs, fInt, fMax2, fMin2, fMax3, gI1, gI2a, gI3a, fiSeq, gSeq, fiRng1, fiRng2, fiEnum, gEnum, fiRev, gRev, fiZip, gZip, fDrop, fNext, fBreak, fCont, fRetN, fShare, unown, fPar, parW, fPut, subW, fApp, appW, isOwL, fExt, extW, fSorted, gSorted, fListRg1, fListRev, fListKeys, fGet2, dictW, fDct0, fDct1, fRepr, gRepr, fAny, fAll, gBools, fSum, gSum, fMaxL, gMaxL, fMinL, gMinL, fChain, fSl, gSl, fPart, fNoP, fBagW, fBagI, fBagS, fBagIf, fScr, fBag, fBag2, nnW, wipeD, Res.ok, endsP, DL.endsL, endsO, gt0, gt1, gt2, gt3, gt4, gt5, gt6, gt7, gt8, gt9, gt10, gt11, gt12, gt13, gt14, gt15, st0, st1, st2, st3, st4, st5, st6, st7, st8, st9, st10, st11, st12, st13, st14, st15, Option.some.injEq, exists_eq_left', exists_eq_left, atI_zero, atI_one, atI_two, List.map_cons, List.map_nil, List.length_cons, List.length_nil, true_and, and_true, List.length_set, Bool.true_and, Bool.and_true, xor_f, xor_t]
    refine ⟨net, rfl, by have := ok.1; omega, ?_⟩
    let out : D → Option D := fun d => match d with | .tuple [.int a, .int c] => (if a ≤ x ∧ 0 < c then some (.int c) else none) | _ => none
    simp only [fRet, fRet.stabR, fTuple, fB, g1, gTuple, gList, fList, fIx, f2R, gIx, fVar, fC, fCons, fNil, fTup, fLst, rCons, rNil, fSet, fAsg, tgName, tgTup, tgCons, tgNil, fYes, fAnd, fOr, fNot, fTest, boolW, gLt, gLe, gGt, gGe, gB2, f2, gI2, gI2C, fAdd, gAdd, fSub, fMul, gMul, fMod, fDiv, fPow, fNeg, f1, gNeg, fIfE, fAndV, fOrV, fNotV, fCall, fCallB, fCallBN, fCallN, fCallK, stab, Res.d, intW, fLen, gLen, fAbs, fInt, fMax2, fMin2, fMax3, gI1, gI2a, gI3a, fiSeq, gSeq, fiRng1, fiRng2, fiEnum, gEnum, fiRev, gRev, fiZip, gZip, fDrop, fNext, fBreak, fCont, fRetN, fShare, unown, fPar, parW, fPut, subW, fApp, appW, isOwL, fExt, extW, fSorted, gSorted, fListRg1, fListRev, fListKeys, fGet2, dictW, fDct0, fDct1, fRepr, gRepr, fAny, fAll, gBools, fSum, gSum, fMaxL, gMaxL, fMinL, gMinL, fChain, fSl, gSl, fPart, fNoP, fBagW, fBagI, fBagS, fBagIf, fScr, fBag, fBag2, nnW, wipeD, Res.ok, endsP, DL.endsL, endsO, gt0, gt1, gt2, gt3, gt4, gt5, gt6, gt7, gt8, gt9, gt10, gt11, gt12, gt13, gt14, gt15, st0, st1, st2, st3, st4, st5, st6, st7, st8, st9, st10, st11, st12, st13, st14, st15, Option.some.injEq, exists_eq_left', exists_eq_left, atI_zero, atI_one, atI_two, List.map_cons, List.map_nil, List.length_cons, List.length_nil, true_and, and_true, List.length_set, Bool.true_and, Bool.and_true, xor_f, xor_t]
    refine lcg_run out (by rw [List.length_map, sl_eq]; have := ok.1; omega) (fun d hd K k => ?_) ?_
    · obtain ⟨s, hs, rfl⟩ := List.mem_map.mp hd
      unfold riD at k ⊢
      simp only [fRet, fRet.stabR, fTuple, fB, g1, gTuple, gList, fList, fIx, f2R, gIx, fVar, fC, fCons, fNil, fTup, fLst, rCons, rNil, fSet, fAsg, tgName, tgTup, tgCons, tgNil, fYes, fAnd, fOr, fNot, fTest, boolW, gLt, gLe, gGt, gGe, gB2, f2, gI2, gI2C, fAdd, gAdd, fSub, fMul, gMul, fMod, fDiv, fPow, fNeg, f1, gNeg, fIfE, fAndV, fOrV, fNotV, fCall, fCallB, fCallBN, fCallN, fCallK, stab, Res.d, intW, fLen, gLen, fAbs, fInt, fMax2, fMin2, fMax3, gI1, gI2a, gI3a, fiSeq, gSeq, fiRng1, fiRng2, fiEnum, gEnum, fiRev, gRev, fiZip, gZip, fDrop, fNext, fBreak, fCont, fRetN, fShare, unown, fPar, parW, fPut, subW, fApp, appW, isOwL, fExt, extW, fSorted, gSorted, fListRg1, fListRev, fListKeys, fGet2, dictW, fDct0, fDct1, fRepr, gRepr, fAny, fAll, gBools, fSum, gSum, fMaxL, gMaxL, fMinL, gMinL, fChain, fSl, gSl, fPart, fNoP, fBagW, fBagI, fBagS, fBagIf, fScr, fBag, fBag2, nnW, wipeD, Res.ok, endsP, DL.endsL, endsO, gt0, gt1, gt2, gt3, gt4, gt5, gt6, gt7, gt8, gt9, gt10, gt11, gt12, gt13, gt14, gt15, st0, st1, st2, st3, st4, st5, st6, st7, st8, st9, st10, st11, st12, st13, st14, st15, Option.some.injEq, exists_eq_left', exists_eq_left, atI_zero, atI_one, atI_two, List.map_cons, List.map_nil, List.length_cons, List.length_nil, true_and, and_true, List.length_set, Bool.true_and, Bool.and_true, xor_f, xor_t]
      refine ⟨by decide, by decide, ?_⟩
      have k : K (if s.1 ≤ x ∧ 0 < s.2 - s.1 then some (.int (s.2 - s.1)) else none) := k
      by_cases g1 : s.1 ≤ x
      · refine iteT' (decide_eq_true g1) ?_
        by_cases g2 : 0 < s.2 - s.1
        · refine iteT' (decide_eq_true g2) ?_
          rw [if_pos ⟨g1, g2⟩] at k
          exact k
        · refine iteF' (decide_eq_false g2) ?_
          rw [if_neg (fun z => g2 z.2)] at k
          exact k
      · refine iteF' (decide_eq_false g1) (iteF' rfl ?_)
        rw [if_neg (fun z => g1 z.1)] at k
        exact k
    · -- the changes that rise
      have key : ∀ l : List (Int × Int), ∃ cs : List Int, (l.map riD).filterMap out = cs.map PyData.int ∧ (cs = [] ↔ ¬ ∃ s ∈ l, s.1 ≤ x ∧ 0 < s.2 - s.1) := by
        intro l
        induction l with
        | nil => exact ⟨[], rfl, by simp⟩
        | cons s l ih =>
          obtain ⟨cs, e1, e2⟩ := ih
          have eo : out (riD s) = if s.1 ≤ x ∧ 0 < s.2 - s.1 then some (.int (s.2 - s.1)) else none := rfl
          by_cases g : s.1 ≤ x ∧ 0 < s.2 - s.1
          · refine ⟨(s.2 - s.1) :: cs, by rw [List.map_cons, List.filterMap_cons_some (by rw [eo, if_pos g]), e1]; rfl, ?_⟩
            exact ⟨fun z => (nomatch z), fun z => absurd ⟨s, by simp, g⟩ z⟩
          · refine ⟨cs, by rw [List.map_cons, List.filterMap_cons_none (by rw [eo, if_neg g]), e1], ?_⟩
            rw [e2]
            simp only [List.mem_cons, exists_eq_or_imp, g, false_or]
      obtain ⟨cs, e1, e2⟩ := key net
      rw [e1]
      simp only [fRet, fRet.stabR, fTuple, fB, g1, gTuple, gList, fList, fIx, f2R, gIx, fVar, fC, fCons, fNil, fTup, fLst, rCons, rNil, fSet, fAsg, tgName, tgTup, tgCons, tgNil, fYes, fAnd, fOr, fNot, fTest, boolW, gLt, gLe, gGt, gGe, gB2, f2, gI2, gI2C, fAdd, gAdd, fSub, fMul, gMul, fMod, fDiv, fPow, fNeg, f1, gNeg, fIfE, fAndV, fOrV, fNotV, fCall, fCallB, fCallBN, fCallN, fCallK, stab, Res.d, intW, fLen, gLen, fAbs, fInt, fMax2, fMin2, fMax3, gI1, gI2a, gI3a, fiSeq, gSeq, fiRng1, fiRng2, fiEnum, gEnum, fiRev, gRev, fiZip, gZip, fDrop, fNext, fBreak, fCont, fRetN, fShare, unown, fPar, parW, fPut, subW, fApp, appW, isOwL, fExt, extW, fSorted, gSorted, fListRg1, fListRev, fListKeys, fGet2, dictW, fDct0, fDct1, fRepr, gRepr, fAny, fAll, gBools, fSum, gSum, fMaxL, gMaxL, fMinL, gMinL, fChain, fSl, gSl, fPart, fNoP, fBagW, fBagI, fBagS, fBagIf, fScr, fBag, fBag2, nnW, wipeD, Res.ok, endsP, DL.endsL, endsO, gt0, gt1, gt2, gt3, gt4, gt5, gt6, gt7, gt8, gt9, gt10, gt11, gt12, gt13, gt14, gt15, st0, st1, st2, st3, st4, st5, st6, st7, st8, st9, st10, st11, st12, st13, st14, st15, Option.some.injEq, exists_eq_left', exists_eq_left, atI_zero, atI_one, atI_two, List.map_cons, List.map_nil, List.length_cons, List.length_nil, true_and, and_true, List.length_set, Bool.true_and, Bool.and_true, xor_f, xor_t]
      refine ⟨by decide, fif_run ?_⟩
      simp only [fRet, fRet.stabR, fTuple, fB, g1, gTuple, gList, fList, fIx, f2R, gIx, fVar, fC, fCons, fNil, fTup, fLst, rCons, rNil, fSet, fAsg, tgName, tgTup, tgCons, tgNil, fYes, fAnd, fOr, fNot, fTest, boolW, gLt, gLe, gGt, gGe, gB2, f2, gI2, gI2C, fAdd, gAdd, fSub, fMul, gMul, fMod, fDiv, fPow, fNeg, f1, gNeg, fIfE, fAndV, fOrV, fNotV, fCall, fCallB, fCallBN, fCallN, fCallK, stab, Res.d, intW, fLen, gLen, fAbs, fInt, fMax2, fMin2, fMax3, gI1, gI2a, gI3a, fiSeq, gSeq, fiRng1, fiRng2, fiEnum, gEnum, fiRev, gRev, fiZip, gZip, fDrop, fNext, fBreak, fCont, fRetN, fShare, unown, fPar, parW, fPut, subW, fApp, appW, isOwL, fExt, extW, fSorted, gSorted, fListRg1, fListRev, fListKeys, fGet2, dictW, fDct0, fDct1, fRepr, gRepr, fAny, fAll, gBools, fSum, gSum, fMaxL, gMaxL, fMinL, gMinL, fChain, fSl, gSl, fPart, fNoP, fBagW, fBagI, fBagS, fBagIf, fScr, fBag, fBag2, nnW, wipeD, Res.ok, endsP, DL.endsL, endsO, gt0, gt1, gt2, gt3, gt4, gt5, gt6, gt7, gt8, gt9, gt10, gt11, gt12, gt13, gt14, gt15, st0, st1, st2, st3, st4, st5, st6, st7, st8, st9, st10, st11, st12, st13, st14, st15, Option.some.injEq, exists_eq_left', exists_eq_left, atI_zero, atI_one, atI_two, List.map_cons, List.map_nil, List.length_cons, List.length_nil, true_and, and_true, List.length_set, Bool.true_and, Bool.and_true, xor_f, xor_t, sl_eq]
      refine ⟨by decide, gNe_nil ?_⟩
      by_cases hc : cs = []
      · subst hc
        simp only [fRet, fRet.stabR, fTuple, fB, g1, gTuple, gList, fList, fIx, f2R, gIx, fVar, fC, fCons, fNil, fTup, fLst, rCons, rNil, fSet, fAsg, tgName, tgTup, tgCons, tgNil, fYes, fAnd, fOr, fNot, fTest, boolW, gLt, gLe, gGt, gGe, gB2, f2, gI2, gI2C, fAdd, gAdd, fSub, fMul, gMul, fMod, fDiv, fPow, fNeg, f1, gNeg, fIfE, fAndV, fOrV, fNotV, fCall, fCallB, fCallBN, fCallN, fCallK, stab, Res.d, intW, fLen, gLen, fAbs, fInt, fMax2, fMin2, fMax3, gI1, gI2a, gI3a, fiSeq, gSeq, fiRng1, fiRng2, fiEnum, gEnum, fiRev, gRev, fiZip, gZip, fDrop, fNext, fBreak, fCont, fRetN, fShare, unown, fPar, parW, fPut, subW, fApp, appW, isOwL, fExt, extW, fSorted, gSorted, fListRg1, fListRev, fListKeys, fGet2, dictW, fDct0, fDct1, fRepr, gRepr, fAny, fAll, gBools, fSum, gSum, fMaxL, gMaxL, fMinL, gMinL, fChain, fSl, gSl, fPart, fNoP, fBagW, fBagI, fBagS, fBagIf, fScr, fBag, fBag2, nnW, wipeD, Res.ok, endsP, DL.endsL, endsO, gt0, gt1, gt2, gt3, gt4, gt5, gt6, gt7, gt8, gt9, gt10, gt11, gt12, gt13, gt14, gt15, st0, st1, st2, st3, st4, st5, st6, st7, st8, st9, st10, st11, st12, st13, st14, st15, Option.some.injEq, exists_eq_left', exists_eq_left, atI_zero, atI_one, atI_two, List.map_cons, List.map_nil, List.length_cons, List.length_nil, true_and, and_true, List.length_set, Bool.true_and, Bool.and_true, xor_f, xor_t]
        refine iteF' rfl ?_
        exact ⟨_, _, _, _, rfl, fun j y hj hy => by
          by_cases e : j = i
          · subst e
            rw [hx] at hy
            cases hy
            exact e2.mp rfl
          · exact hno j y (by omega) hy⟩
      · obtain ⟨c, cs', rfl⟩ : ∃ c cs', cs = c :: cs' := by
          cases cs with
          | nil => exact absurd rfl hc
          | cons c cs' => exact ⟨c, cs', rfl⟩
        simp only [fRet, fRet.stabR, fTuple, fB, g1, gTuple, gList, fList, fIx, f2R, gIx, fVar, fC, fCons, fNil, fTup, fLst, rCons, rNil, fSet, fAsg, tgName, tgTup, tgCons, tgNil, fYes, fAnd, fOr, fNot, fTest, boolW, gLt, gLe, gGt, gGe, gB2, f2, gI2, gI2C, fAdd, gAdd, fSub, fMul, gMul, fMod, fDiv, fPow, fNeg, f1, gNeg, fIfE, fAndV, fOrV, fNotV, fCall, fCallB, fCallBN, fCallN, fCallK, stab, Res.d, intW, fLen, gLen, fAbs, fInt, fMax2, fMin2, fMax3, gI1, gI2a, gI3a, fiSeq, gSeq, fiRng1, fiRng2, fiEnum, gEnum, fiRev, gRev, fiZip, gZip, fDrop, fNext, fBreak, fCont, fRetN, fShare, unown, fPar, parW, fPut, subW, fApp, appW, isOwL, fExt, extW, fSorted, gSorted, fListRg1, fListRev, fListKeys, fGet2, dictW, fDct0, fDct1, fRepr, gRepr, fAny, fAll, gBools, fSum, gSum, fMaxL, gMaxL, fMinL, gMinL, fChain, fSl, gSl, fPart, fNoP, fBagW, fBagI, fBagS, fBagIf, fScr, fBag, fBag2, nnW, wipeD, Res.ok, endsP, DL.endsL, endsO, gt0, gt1, gt2, gt3, gt4, gt5, gt6, gt7, gt8, gt9, gt10, gt11, gt12, gt13, gt14, gt15, st0, st1, st2, st3, st4, st5, st6, st7, st8, st9, st10, st11, st12, st13, st14, st15, Option.some.injEq, exists_eq_left', exists_eq_left, atI_zero, atI_one, atI_two, List.map_cons, List.map_nil, List.length_cons, List.length_nil, true_and, and_true, List.length_set, Bool.true_and, Bool.and_true, xor_f, xor_t]
        refine iteT' rfl ?_
        refine ⟨by decide, q _ ⟨fun _ => ⟨x, hxF, ?_⟩, fun _ => rfl⟩⟩
        exact Classical.byContradiction fun z => hc (e2.mpr z)
  · rintro δ ⟨s2, s3, s4, s5, rfl, hno⟩
    refine q .none ⟨fun z => absurd z (by decide), fun ⟨x, hx, hr⟩ => ?_⟩
    exfalso
    have : x ∈ sortI F := (sort_mem F x).mpr ((hF x).mpr hx)
    obtain ⟨j, hj, e⟩ := List.getElem_of_mem this
    refine hno j x (by rw [List.length_map]; exact hj) (by rw [← e]; exact List.getElem?_eq_getElem hj) hr
def S_is_endless : SpD := fun ds QD _ => ∃ net n, ds = [netD net, .int n] ∧ NetOk net ∧ (0 ≤ n ∧ n ≤ 300) ∧ ∀ b : Bool, (b = true ↔ ∃ s ∈ net, s.1 ≤ n ∧ s.1 < s.2) → QD (.bool b)
theorem l_is_endless : ∀ ds QD ED, S_is_endless ds QD ED → F_is_endless S_rising_step (endsP QD ED) (startD N_is_endless ds) := by
  rintro ds QD ED ⟨net, n, rfl, ok, ⟨hn0, hn⟩, q⟩
  unfold F_is_endless
  rw [show startD N_is_endless [netD net, .int n] = [.sh (netD net), .sh (.int n)] from rfl]
  simp only [fRet, fRet.stabR, fTuple, fB, g1, gTuple, gList, fList, fIx, f2R, gIx, fVar, fC, fCons, fNil, fTup, fLst, rCons, rNil, fSet, fAsg, tgName, tgTup, tgCons, tgNil, fYes, fAnd, fOr, fNot, fTest, boolW, gLt, gLe, gGt, gGe, gB2, f2, gI2, gI2C, fAdd, gAdd, fSub, fMul, gMul, fMod, fDiv, fPow, fNeg, f1, gNeg, fIfE, fAndV, fOrV, fNotV, fCall, fCallB, fCallBN, fCallN, fCallK, stab, Res.d, intW, fLen, gLen, fAbs, fInt, fMax2, fMin2, fMax3, gI1, gI2a, gI3a, fiSeq, gSeq, fiRng1, fiRng2, fiEnum, gEnum, fiRev, gRev, fiZip, gZip, fDrop, fNext, fBreak, fCont, fRetN, fShare, unown, fPar, parW, fPut, subW, fApp, appW, isOwL, fExt, extW, fSorted, gSorted, fListRg1, fListRev, fListKeys, fGet2, dictW, fDct0, fDct1, fRepr, gRepr, fAny, fAll, gBools, fSum, gSum, fMaxL, gMaxL, fMinL, gMinL, fChain, fSl, gSl, fPart, fNoP, fBagW, fBagI, fBagS, fBagIf, fScr, fBag, fBag2, nnW, wipeD, Res.ok, endsP, DL.endsL, endsO, gt0, gt1, gt2, gt3, gt4, gt5, gt6, gt7, gt8, gt9, gt10, gt11, gt12, gt13, gt14, gt15, st0, st1, st2, st3, st4, st5, st6, st7, st8, st9, st10, st11, st12, st13, st14, st15, Option.some.injEq, exists_eq_left', exists_eq_left, atI_zero, atI_one, atI_two, List.map_cons, List.map_nil, List.length_cons, List.length_nil, true_and, and_true, List.length_set, Bool.true_and, Bool.and_true, xor_f, xor_t]
  refine ⟨net, n, rfl, ok, ⟨hn0, hn⟩, fun d hd => ?_⟩
  refine ⟨rfl, q _ ?_⟩
  rw [Bool.not_eq_true', hd]
  constructor
  · rintro ⟨x, hx, s, hs, h1, h2⟩
    have := hx.bd ok hn0 (Int.le_refl _)
    exact ⟨s, hs, by omega, by omega⟩
  · rintro ⟨s, hs, h1, h2⟩
    exact ⟨n, .base, s, hs, h1, by omega⟩
end G61

namespace G61
open PySem PySem.Spec PyProof.Rows L2 DL
/-! ### the measure -/
def gcdN (net : List (Int × Int)) : Nat := net.foldl (fun g s => Nat.gcd g (s.2 - s.1).natAbs) 0
theorem euc (a b : Nat) (h : 0 < b) : Nat.gcd b (a % b) = Nat.gcd a b := by rw [Nat.gcd_comm b (a % b), ← Nat.gcd_rec, Nat.gcd_comm]
theorem fold_step {net : List (Int × Int)} {i : Nat} {s : Int × Int} (h : net[i]? = some s) : gcdN (net.take (i + 1)) = Nat.gcd (gcdN (net.take i)) (s.2 - s.1).natAbs := by
  unfold gcdN
  rw [List.take_succ, h, List.foldl_append]
  rfl
def S_net_measure : SpD := fun ds QD _ => ∃ net, ds = [netD net] ∧ NetOk net ∧ QD (.int (gcdN net : Nat))
theorem l_net_measure : ∀ ds QD ED, S_net_measure ds QD ED → F_net_measure S_rises_of (endsP QD ED) (startD N_net_measure ds) := by
  rintro ds QD ED ⟨net, rfl, ok, q⟩
  unfold F_net_measure
  rw [show startD N_net_measure [netD net] = [.sh (netD net), .no, .no, .no, .no, .no] from rfl]
  refine fseq_run ?_
  simp only [fRet, fRet.stabR, fTuple, fB, g1, gTuple, gList, fList, fIx, f2R, gIx, fVar, fC, fCons, fNil, fTup, fLst, rCons, rNil, fSet, fAsg, tgName, tgTup, tgCons, tgNil, fYes, fAnd, fOr, fNot, fTest, boolW, gLt, gLe, gGt, gGe, gB2, f2, gI2, gI2C, fAdd, gAdd, fSub, fMul, gMul, fMod, fDiv, fPow, fNeg, f1, gNeg, fIfE, fAndV, fOrV, fNotV, fCall, fCallB, fCallBN, fCallN, fCallK, stab, Res.d, intW, fLen, gLen, fAbs, fInt, fMax2, fMin2, fMax3, gI1, gI2a, gI3a, fiSeq, gSeq, fiRng1, fiRng2, fiEnum, gEnum, fiRev, gRev, fiZip, gZip, fDrop, fNext, fBreak, fCont, fRetN, fShare, unown, fPar, parW, fPut, subW, fApp, appW, isOwL, fExt, extW, fSorted, gSorted, fListRg1, fListRev, fListKeys, fGet2, dictW, fDct0, fDct1, fRepr, gRepr, fAny, fAll, gBools, fSum, gSum, fMaxL, gMaxL, fMinL, gMinL, fChain, fSl, gSl, fPart, fNoP, fBagW, fBagI, fBagS, fBagIf, fScr, fBag, fBag2, nnW, wipeD, Res.ok, endsP, DL.endsL, endsO, gt0, gt1, gt2, gt3, gt4, gt5, gt6, gt7, gt8, gt9, gt10, gt11, gt12, gt13, gt14, gt15, st0, st1, st2, st3, st4, st5, st6, st7, st8, st9, st10, st11, st12, st13, st14, st15, Option.some.injEq, exists_eq_left', exists_eq_left, atI_zero, atI_one, atI_two, List.map_cons, List.map_nil, List.length_cons, List.length_nil, true_and, and_true, List.length_set, Bool.true_and, Bool.and_true, xor_f, xor_t]
  refine ⟨by decide, fseq_run (ffor_open ?_)⟩
  simp only [fRet, fRet.stabR, fTuple, fB, g1, gTuple, gList, fList, fIx, f2R, gIx, fVar, fC, fCons, fNil, fTup, fLst, rCons, rNil, fSet, fAsg, tgName, tgTup, tgCons, tgNil, fYes, fAnd, fOr, fNot, fTest, boolW, gLt, gLe, gGt, gGe, gB2, f2, gI2, gI2C, fAdd, gAdd, fSub, fMul, gMul, fMod, fDiv, fPow, fNeg, f1, gNeg, fIfE, fAndV, fOrV, fNotV, fCall, fCallB, fCallBN, fCallN, fCallK, stab, Res.d, intW, fLen, gLen, fAbs, fInt, fMax2, fMin2, fMax3, gI1, gI2a, gI3a, fiSeq, gSeq, fiRng1, fiRng2, fiEnum, gEnum, fiRev, gRev, fiZip, gZip, fDrop, fNext, fBreak, fCont, fRetN, fShare, unown, fPar, parW, fPut, subW, fApp, appW, isOwL, fExt, extW, fSorted, gSorted, fListRg1, fListRev, fListKeys, fGet2, dictW, fDct0, fDct1, fRepr, gRepr, fAny, fAll, gBools, fSum, gSum, fMaxL, gMaxL, fMinL, gMinL, fChain, fSl, gSl, fPart, fNoP, fBagW, fBagI, fBagS, fBagIf, fScr, fBag, fBag2, nnW, wipeD, Res.ok, endsP, DL.endsL, endsO, gt0, gt1, gt2, gt3, gt4, gt5, gt6, gt7, gt8, gt9, gt10, gt11, gt12, gt13, gt14, gt15, st0, st1, st2, st3, st4, st5, st6, st7, st8, st9, st10, st11, st12, st13, st14, st15, Option.some.injEq, exists_eq_left', exists_eq_left, atI_zero, atI_one, atI_two, List.map_cons, List.map_nil, List.length_cons, List.length_nil, true_and, and_true, List.length_set, Bool.true_and, Bool.and_true, xor_f, xor_t]
  refine ⟨net, rfl, by have := ok.1; omega, ?_⟩
  simp only [fRet, fRet.stabR, fTuple, fB, g1, gTuple, gList, fList, fIx, f2R, gIx, fVar, fC, fCons, fNil, fTup, fLst, rCons, rNil, fSet, fAsg, tgName, tgTup, tgCons, tgNil, fYes, fAnd, fOr, fNot, fTest, boolW, gLt, gLe, gGt, gGe, gB2, f2, gI2, gI2C, fAdd, gAdd, fSub, fMul, gMul, fMod, fDiv, fPow, fNeg, f1, gNeg, fIfE, fAndV, fOrV, fNotV, fCall, fCallB, fCallBN, fCallN, fCallK, stab, Res.d, intW, fLen, gLen, fAbs, fInt, fMax2, fMin2, fMax3, gI1, gI2a, gI3a, fiSeq, gSeq, fiRng1, fiRng2, fiEnum, gEnum, fiRev, gRev, fiZip, gZip, fDrop, fNext, fBreak, fCont, fRetN, fShare, unown, fPar, parW, fPut, subW, fApp, appW, isOwL, fExt, extW, fSorted, gSorted, fListRg1, fListRev, fListKeys, fGet2, dictW, fDct0, fDct1, fRepr, gRepr, fAny, fAll, gBools, fSum, gSum, fMaxL, gMaxL, fMinL, gMinL, fChain, fSl, gSl, fPart, fNoP, fBagW, fBagI, fBagS, fBagIf, fScr, fBag, fBag2, nnW, wipeD, Res.ok, endsP, DL.endsL, endsO, gt0, gt1, gt2, gt3, gt4, gt5, gt6, gt7, gt8, gt9, gt10, gt11, gt12, gt13, gt14, gt15, st0, st1, st2, st3, st4, st5, st6, st7, st8, st9, st10, st11, st12, st13, st14, st15, Option.some.injEq, exists_eq_left', exists_eq_left, atI_zero, atI_one, atI_two, List.map_cons, List.map_nil, List.length_cons, List.length_nil, true_and, and_true, List.length_set, Bool.true_and, Bool.and_true, xor_f, xor_t]
  refine forg_run (fun i δ => ∃ s2 s3 s4 s5, δ = [.sh (netD net), .sh (.int (gcdN (net.take i) : Nat)), s2, s3, s4, s5]) ⟨_, _, _, _, rfl⟩ ?_ ?_
  · rintro i d δ hd ⟨s2, s3, s4, s5, rfl⟩
    obtain ⟨s, hs, rfl⟩ := map_get hd
    unfold riD
    simp only [fRet, fRet.stabR, fTuple, fB, g1, gTuple, gList, fList, fIx, f2R, gIx, fVar, fC, fCons, fNil, fTup, fLst, rCons, rNil, fSet, fAsg, tgName, tgTup, tgCons, tgNil, fYes, fAnd, fOr, fNot, fTest, boolW, gLt, gLe, gGt, gGe, gB2, f2, gI2, gI2C, fAdd, gAdd, fSub, fMul, gMul, fMod, fDiv, fPow, fNeg, f1, gNeg, fIfE, fAndV, fOrV, fNotV, fCall, fCallB, fCallBN, fCallN, fCallK, stab, Res.d, intW, fLen, gLen, fAbs, fInt, fMax2, fMin2, fMax3, gI1, gI2a, gI3a, fiSeq, gSeq, fiRng1, fiRng2, fiEnum, gEnum, fiRev, gRev, fiZip, gZip, fDrop, fNext, fBreak, fCont, fRetN, fShare, unown, fPar, parW, fPut, subW, fApp, appW, isOwL, fExt, extW, fSorted, gSorted, fListRg1, fListRev, fListKeys, fGet2, dictW, fDct0, fDct1, fRepr, gRepr, fAny, fAll, gBools, fSum, gSum, fMaxL, gMaxL, fMinL, gMinL, fChain, fSl, gSl, fPart, fNoP, fBagW, fBagI, fBagS, fBagIf, fScr, fBag, fBag2, nnW, wipeD, Res.ok, endsP, DL.endsL, endsO, gt0, gt1, gt2, gt3, gt4, gt5, gt6, gt7, gt8, gt9, gt10, gt11, gt12, gt13, gt14, gt15, st0, st1, st2, st3, st4, st5, st6, st7, st8, st9, st10, st11, st12, st13, st14, st15, Option.some.injEq, exists_eq_left', exists_eq_left, atI_zero, atI_one, atI_two, List.map_cons, List.map_nil, List.length_cons, List.length_nil, true_and, and_true, List.length_set, Bool.true_and, Bool.and_true, xor_f, xor_t]
    refine ⟨by decide, by decide, fseq_run ?_⟩
    simp only [fRet, fRet.stabR, fTuple, fB, g1, gTuple, gList, fList, fIx, f2R, gIx, fVar, fC, fCons, fNil, fTup, fLst, rCons, rNil, fSet, fAsg, tgName, tgTup, tgCons, tgNil, fYes, fAnd, fOr, fNot, fTest, boolW, gLt, gLe, gGt, gGe, gB2, f2, gI2, gI2C, fAdd, gAdd, fSub, fMul, gMul, fMod, fDiv, fPow, fNeg, f1, gNeg, fIfE, fAndV, fOrV, fNotV, fCall, fCallB, fCallBN, fCallN, fCallK, stab, Res.d, intW, fLen, gLen, fAbs, fInt, fMax2, fMin2, fMax3, gI1, gI2a, gI3a, fiSeq, gSeq, fiRng1, fiRng2, fiEnum, gEnum, fiRev, gRev, fiZip, gZip, fDrop, fNext, fBreak, fCont, fRetN, fShare, unown, fPar, parW, fPut, subW, fApp, appW, isOwL, fExt, extW, fSorted, gSorted, fListRg1, fListRev, fListKeys, fGet2, dictW, fDct0, fDct1, fRepr, gRepr, fAny, fAll, gBools, fSum, gSum, fMaxL, gMaxL, fMinL, gMinL, fChain, fSl, gSl, fPart, fNoP, fBagW, fBagI, fBagS, fBagIf, fScr, fBag, fBag2, nnW, wipeD, Res.ok, endsP, DL.endsL, endsO, gt0, gt1, gt2, gt3, gt4, gt5, gt6, gt7, gt8, gt9, gt10, gt11, gt12, gt13, gt14, gt15, st0, st1, st2, st3, st4, st5, st6, st7, st8, st9, st10, st11, st12, st13, st14, st15, Option.some.injEq, exists_eq_left', exists_eq_left, atI_zero, atI_one, atI_two, List.map_cons, List.map_nil, List.length_cons, List.length_nil, true_and, and_true, List.length_set, Bool.true_and, Bool.and_true, xor_f, xor_t, iabs]
    refine ⟨by decide, by decide, fseq_run ?_⟩
    refine fwhile_run (fun m δ => ∃ a b : Nat, δ = [.sh (netD net), .sh (.int (gcdN (net.take i) : Nat)), .sh (.int s.1), .sh (.int (s.2 - s.1)), .sh (.int a), .sh (.int b)] ∧ Nat.gcd a b = gcdN (net.take (i + 1)) ∧ m = b) _ ⟨_, _, rfl, by rw [fold_step hs], rfl⟩ ?_
    rintro m δ ⟨a, b, rfl, hg, hm⟩
    simp only [fRet, fRet.stabR, fTuple, fB, g1, gTuple, gList, fList, fIx, f2R, gIx, fVar, fC, fCons, fNil, fTup, fLst, rCons, rNil, fSet, fAsg, tgName, tgTup, tgCons, tgNil, fYes, fAnd, fOr, fNot, fTest, boolW, gLt, gLe, gGt, gGe, gB2, f2, gI2, gI2C, fAdd, gAdd, fSub, fMul, gMul, fMod, fDiv, fPow, fNeg, f1, gNeg, fIfE, fAndV, fOrV, fNotV, fCall, fCallB, fCallBN, fCallN, fCallK, stab, Res.d, intW, fLen, gLen, fAbs, fInt, fMax2, fMin2, fMax3, gI1, gI2a, gI3a, fiSeq, gSeq, fiRng1, fiRng2, fiEnum, gEnum, fiRev, gRev, fiZip, gZip, fDrop, fNext, fBreak, fCont, fRetN, fShare, unown, fPar, parW, fPut, subW, fApp, appW, isOwL, fExt, extW, fSorted, gSorted, fListRg1, fListRev, fListKeys, fGet2, dictW, fDct0, fDct1, fRepr, gRepr, fAny, fAll, gBools, fSum, gSum, fMaxL, gMaxL, fMinL, gMinL, fChain, fSl, gSl, fPart, fNoP, fBagW, fBagI, fBagS, fBagIf, fScr, fBag, fBag2, nnW, wipeD, Res.ok, endsP, DL.endsL, endsO, gt0, gt1, gt2, gt3, gt4, gt5, gt6, gt7, gt8, gt9, gt10, gt11, gt12, gt13, gt14, gt15, st0, st1, st2, st3, st4, st5, st6, st7, st8, st9, st10, st11, st12, st13, st14, st15, Option.some.injEq, exists_eq_left', exists_eq_left, atI_zero, atI_one, atI_two, List.map_cons, List.map_nil, List.length_cons, List.length_nil, true_and, and_true, List.length_set, Bool.true_and, Bool.and_true, xor_f, xor_t]
    by_cases hb : (0 : Int) < b
    · refine iteT' (decide_eq_true hb) ?_
      refine ⟨hb, by decide, by decide, a % b, by rw [hm]; exact Nat.mod_lt _ (by omega), b, a % b, rfl, by rw [euc a b (by omega), hg], rfl⟩
    · refine iteF' (decide_eq_false hb) ?_
      have : b = 0 := by omega
      subst this
      rw [Nat.gcd_zero_right] at hg
      exact ⟨by decide, _, _, _, _, by rw [hg]⟩
  · rintro δ ⟨s2, s3, s4, s5, rfl⟩
    rw [List.length_map, List.take_length]
    exact q
def S_measure : SpD := S_net_measure
theorem l_measure : ∀ ds QD ED, S_measure ds QD ED → F__law_measure (endsP QD ED) (startD N__law_measure ds) := by
  rintro ds QD ED ⟨net, rfl, ok, q⟩
  unfold F__law_measure
  rw [show startD N__law_measure [netD net] = [.sh (netD net), .no, .no, .no] from rfl]
  refine fseq_run ?_
  simp only [fRet, fRet.stabR, fTuple, fB, g1, gTuple, gList, fList, fIx, f2R, gIx, fVar, fC, fCons, fNil, fTup, fLst, rCons, rNil, fSet, fAsg, tgName, tgTup, tgCons, tgNil, fYes, fAnd, fOr, fNot, fTest, boolW, gLt, gLe, gGt, gGe, gB2, f2, gI2, gI2C, fAdd, gAdd, fSub, fMul, gMul, fMod, fDiv, fPow, fNeg, f1, gNeg, fIfE, fAndV, fOrV, fNotV, fCall, fCallB, fCallBN, fCallN, fCallK, stab, Res.d, intW, fLen, gLen, fAbs, fInt, fMax2, fMin2, fMax3, gI1, gI2a, gI3a, fiSeq, gSeq, fiRng1, fiRng2, fiEnum, gEnum, fiRev, gRev, fiZip, gZip, fDrop, fNext, fBreak, fCont, fRetN, fShare, unown, fPar, parW, fPut, subW, fApp, appW, isOwL, fExt, extW, fSorted, gSorted, fListRg1, fListRev, fListKeys, fGet2, dictW, fDct0, fDct1, fRepr, gRepr, fAny, fAll, gBools, fSum, gSum, fMaxL, gMaxL, fMinL, gMinL, fChain, fSl, gSl, fPart, fNoP, fBagW, fBagI, fBagS, fBagIf, fScr, fBag, fBag2, nnW, wipeD, Res.ok, endsP, DL.endsL, endsO, gt0, gt1, gt2, gt3, gt4, gt5, gt6, gt7, gt8, gt9, gt10, gt11, gt12, gt13, gt14, gt15, st0, st1, st2, st3, st4, st5, st6, st7, st8, st9, st10, st11, st12, st13, st14, st15, Option.some.injEq, exists_eq_left', exists_eq_left, atI_zero, atI_one, atI_two, List.map_cons, List.map_nil, List.length_cons, List.length_nil, true_and, and_true, List.length_set, Bool.true_and, Bool.and_true, xor_f, xor_t]
  refine ⟨by decide, fseq_run ?_⟩
  refine ffor_run (net.map stD) (fun i δ => ∃ s2 s3, δ = [.sh (netD net), .sh (.int (gcdN (net.take i) : Nat)), s2, s3]) (fun R hR => by simp only [fRet, fRet.stabR, fTuple, fB, g1, gTuple, gList, fList, fIx, f2R, gIx, fVar, fC, fCons, fNil, fTup, fLst, rCons, rNil, fSet, fAsg, tgName, tgTup, tgCons, tgNil, fYes, fAnd, fOr, fNot, fTest, boolW, gLt, gLe, gGt, gGe, gB2, f2, gI2, gI2C, fAdd, gAdd, fSub, fMul, gMul, fMod, fDiv, fPow, fNeg, f1, gNeg, fIfE, fAndV, fOrV, fNotV, fCall, fCallB, fCallBN, fCallN, fCallK, stab, Res.d, intW, fLen, gLen, fAbs, fInt, fMax2, fMin2, fMax3, gI1, gI2a, gI3a, fiSeq, gSeq, fiRng1, fiRng2, fiEnum, gEnum, fiRev, gRev, fiZip, gZip, fDrop, fNext, fBreak, fCont, fRetN, fShare, unown, fPar, parW, fPut, subW, fApp, appW, isOwL, fExt, extW, fSorted, gSorted, fListRg1, fListRev, fListKeys, fGet2, dictW, fDct0, fDct1, fRepr, gRepr, fAny, fAll, gBools, fSum, gSum, fMaxL, gMaxL, fMinL, gMinL, fChain, fSl, gSl, fPart, fNoP, fBagW, fBagI, fBagS, fBagIf, fScr, fBag, fBag2, nnW, wipeD, Res.ok, endsP, DL.endsL, endsO, gt0, gt1, gt2, gt3, gt4, gt5, gt6, gt7, gt8, gt9, gt10, gt11, gt12, gt13, gt14, gt15, st0, st1, st2, st3, st4, st5, st6, st7, st8, st9, st10, st11, st12, st13, st14, st15, Option.some.injEq, exists_eq_left', exists_eq_left, atI_zero, atI_one, atI_two, List.map_cons, List.map_nil, List.length_cons, List.length_nil, true_and, and_true, List.length_set, Bool.true_and, Bool.and_true, xor_f, xor_t, netD]; exact hR) ⟨_, _, rfl⟩ ?_ ?_
  · rintro i d δ hd ⟨s2, s3, rfl⟩
    obtain ⟨s, hs, rfl⟩ := map_get hd
    unfold stD
    simp only [fRet, fRet.stabR, fTuple, fB, g1, gTuple, gList, fList, fIx, f2R, gIx, fVar, fC, fCons, fNil, fTup, fLst, rCons, rNil, fSet, fAsg, tgName, tgTup, tgCons, tgNil, fYes, fAnd, fOr, fNot, fTest, boolW, gLt, gLe, gGt, gGe, gB2, f2, gI2, gI2C, fAdd, gAdd, fSub, fMul, gMul, fMod, fDiv, fPow, fNeg, f1, gNeg, fIfE, fAndV, fOrV, fNotV, fCall, fCallB, fCallBN, fCallN, fCallK, stab, Res.d, intW, fLen, gLen, fAbs, fInt, fMax2, fMin2, fMax3, gI1, gI2a, gI3a, fiSeq, gSeq, fiRng1, fiRng2, fiEnum, gEnum, fiRev, gRev, fiZip, gZip, fDrop, fNext, fBreak, fCont, fRetN, fShare, unown, fPar, parW, fPut, subW, fApp, appW, isOwL, fExt, extW, fSorted, gSorted, fListRg1, fListRev, fListKeys, fGet2, dictW, fDct0, fDct1, fRepr, gRepr, fAny, fAll, gBools, fSum, gSum, fMaxL, gMaxL, fMinL, gMinL, fChain, fSl, gSl, fPart, fNoP, fBagW, fBagI, fBagS, fBagIf, fScr, fBag, fBag2, nnW, wipeD, Res.ok, endsP, DL.endsL, endsO, gt0, gt1, gt2, gt3, gt4, gt5, gt6, gt7, gt8, gt9, gt10, gt11, gt12, gt13, gt14, gt15, st0, st1, st2, st3, st4, st5, st6, st7, st8, st9, st10, st11, st12, st13, st14, st15, Option.some.injEq, exists_eq_left', exists_eq_left, atI_zero, atI_one, atI_two, List.map_cons, List.map_nil, List.length_cons, List.length_nil, true_and, and_true, List.length_set, Bool.true_and, Bool.and_true, xor_f, xor_t]
    refine ⟨by decide, fseq_run ?_⟩
    simp only [fRet, fRet.stabR, fTuple, fB, g1, gTuple, gList, fList, fIx, f2R, gIx, fVar, fC, fCons, fNil, fTup, fLst, rCons, rNil, fSet, fAsg, tgName, tgTup, tgCons, tgNil, fYes, fAnd, fOr, fNot, fTest, boolW, gLt, gLe, gGt, gGe, gB2, f2, gI2, gI2C, fAdd, gAdd, fSub, fMul, gMul, fMod, fDiv, fPow, fNeg, f1, gNeg, fIfE, fAndV, fOrV, fNotV, fCall, fCallB, fCallBN, fCallN, fCallK, stab, Res.d, intW, fLen, gLen, fAbs, fInt, fMax2, fMin2, fMax3, gI1, gI2a, gI3a, fiSeq, gSeq, fiRng1, fiRng2, fiEnum, gEnum, fiRev, gRev, fiZip, gZip, fDrop, fNext, fBreak, fCont, fRetN, fShare, unown, fPar, parW, fPut, subW, fApp, appW, isOwL, fExt, extW, fSorted, gSorted, fListRg1, fListRev, fListKeys, fGet2, dictW, fDct0, fDct1, fRepr, gRepr, fAny, fAll, gBools, fSum, gSum, fMaxL, gMaxL, fMinL, gMinL, fChain, fSl, gSl, fPart, fNoP, fBagW, fBagI, fBagS, fBagIf, fScr, fBag, fBag2, nnW, wipeD, Res.ok, endsP, DL.endsL, endsO, gt0, gt1, gt2, gt3, gt4, gt5, gt6, gt7, gt8, gt9, gt10, gt11, gt12, gt13, gt14, gt15, st0, st1, st2, st3, st4, st5, st6, st7, st8, st9, st10, st11, st12, st13, st14, st15, Option.some.injEq, exists_eq_left', exists_eq_left, atI_zero, atI_one, atI_two, List.map_cons, List.map_nil, List.length_cons, List.length_nil, true_and, and_true, List.length_set, Bool.true_and, Bool.and_true, xor_f, xor_t, iabs]
    refine ⟨by decide, ?_⟩
    refine fwhile_run (fun m δ => ∃ a b : Nat, δ = [.sh (netD net), .sh (.int a), .sh (stD s), .sh (.int b)] ∧ Nat.gcd a b = gcdN (net.take (i + 1)) ∧ m = b) _ ⟨_, _, rfl, by rw [fold_step hs], rfl⟩ ?_
    rintro m δ ⟨a, b, rfl, hg, hm⟩
    simp only [fRet, fRet.stabR, fTuple, fB, g1, gTuple, gList, fList, fIx, f2R, gIx, fVar, fC, fCons, fNil, fTup, fLst, rCons, rNil, fSet, fAsg, tgName, tgTup, tgCons, tgNil, fYes, fAnd, fOr, fNot, fTest, boolW, gLt, gLe, gGt, gGe, gB2, f2, gI2, gI2C, fAdd, gAdd, fSub, fMul, gMul, fMod, fDiv, fPow, fNeg, f1, gNeg, fIfE, fAndV, fOrV, fNotV, fCall, fCallB, fCallBN, fCallN, fCallK, stab, Res.d, intW, fLen, gLen, fAbs, fInt, fMax2, fMin2, fMax3, gI1, gI2a, gI3a, fiSeq, gSeq, fiRng1, fiRng2, fiEnum, gEnum, fiRev, gRev, fiZip, gZip, fDrop, fNext, fBreak, fCont, fRetN, fShare, unown, fPar, parW, fPut, subW, fApp, appW, isOwL, fExt, extW, fSorted, gSorted, fListRg1, fListRev, fListKeys, fGet2, dictW, fDct0, fDct1, fRepr, gRepr, fAny, fAll, gBools, fSum, gSum, fMaxL, gMaxL, fMinL, gMinL, fChain, fSl, gSl, fPart, fNoP, fBagW, fBagI, fBagS, fBagIf, fScr, fBag, fBag2, nnW, wipeD, Res.ok, endsP, DL.endsL, endsO, gt0, gt1, gt2, gt3, gt4, gt5, gt6, gt7, gt8, gt9, gt10, gt11, gt12, gt13, gt14, gt15, st0, st1, st2, st3, st4, st5, st6, st7, st8, st9, st10, st11, st12, st13, st14, st15, Option.some.injEq, exists_eq_left', exists_eq_left, atI_zero, atI_one, atI_two, List.map_cons, List.map_nil, List.length_cons, List.length_nil, true_and, and_true, List.length_set, Bool.true_and, Bool.and_true, xor_f, xor_t]
    by_cases hb : (0 : Int) < b
    · refine iteT' (decide_eq_true hb) ?_
      refine ⟨hb, by decide, by decide, a % b, by rw [hm]; exact Nat.mod_lt _ (by omega), b, a % b, rfl, by rw [euc a b (by omega), hg], rfl⟩
    · refine iteF' (decide_eq_false hb) ?_
      have : b = 0 := by omega
      subst this
      rw [Nat.gcd_zero_right] at hg
      exact ⟨_, _, by rw [hg]⟩
  · rintro δ ⟨s2, s3, rfl⟩
    rw [List.length_map, List.take_length]
    exact q
/-! ### the bag -/
theorem l_own_bag : ∀ ns : List Int, ns.length ≤ 63 → F__law_own_bag endsO (startL N__law_own_bag ns) := by
  intro ns hl
  unfold F__law_own_bag
  rw [show startL N__law_own_bag ns = [.scr ns, .no, .no, .no] from rfl]
  refine fseq_run ?_
  simp only [fRet, fRet.stabR, fTuple, fB, g1, gTuple, gList, fList, fIx, f2R, gIx, fVar, fC, fCons, fNil, fTup, fLst, rCons, rNil, fSet, fAsg, tgName, tgTup, tgCons, tgNil, fYes, fAnd, fOr, fNot, fTest, boolW, gLt, gLe, gGt, gGe, gB2, f2, gI2, gI2C, fAdd, gAdd, fSub, fMul, gMul, fMod, fDiv, fPow, fNeg, f1, gNeg, fIfE, fAndV, fOrV, fNotV, fCall, fCallB, fCallBN, fCallN, fCallK, stab, Res.d, intW, fLen, gLen, fAbs, fInt, fMax2, fMin2, fMax3, gI1, gI2a, gI3a, fiSeq, gSeq, fiRng1, fiRng2, fiEnum, gEnum, fiRev, gRev, fiZip, gZip, fDrop, fNext, fBreak, fCont, fRetN, fShare, unown, fPar, parW, fPut, subW, fApp, appW, isOwL, fExt, extW, fSorted, gSorted, fListRg1, fListRev, fListKeys, fGet2, dictW, fDct0, fDct1, fRepr, gRepr, fAny, fAll, gBools, fSum, gSum, fMaxL, gMaxL, fMinL, gMinL, fChain, fSl, gSl, fPart, fNoP, fBagW, fBagI, fBagS, fBagIf, fScr, fBag, fBag2, nnW, wipeD, Res.ok, endsP, DL.endsL, endsO, gt0, gt1, gt2, gt3, gt4, gt5, gt6, gt7, gt8, gt9, gt10, gt11, gt12, gt13, gt14, gt15, st0, st1, st2, st3, st4, st5, st6, st7, st8, st9, st10, st11, st12, st13, st14, st15, Option.some.injEq, exists_eq_left', exists_eq_left, atI_zero, atI_one, atI_two, List.map_cons, List.map_nil, List.length_cons, List.length_nil, true_and, and_true, List.length_set, Bool.true_and, Bool.and_true, xor_f, xor_t]
  refine flc_mapX ns PyData.int (fun x => .int (iAbs x)) (fun R hR => by simp only [fRet, fRet.stabR, fTuple, fB, g1, gTuple, gList, fList, fIx, f2R, gIx, fVar, fC, fCons, fNil, fTup, fLst, rCons, rNil, fSet, fAsg, tgName, tgTup, tgCons, tgNil, fYes, fAnd, fOr, fNot, fTest, boolW, gLt, gLe, gGt, gGe, gB2, f2, gI2, gI2C, fAdd, gAdd, fSub, fMul, gMul, fMod, fDiv, fPow, fNeg, f1, gNeg, fIfE, fAndV, fOrV, fNotV, fCall, fCallB, fCallBN, fCallN, fCallK, stab, Res.d, intW, fLen, gLen, fAbs, fInt, fMax2, fMin2, fMax3, gI1, gI2a, gI3a, fiSeq, gSeq, fiRng1, fiRng2, fiEnum, gEnum, fiRev, gRev, fiZip, gZip, fDrop, fNext, fBreak, fCont, fRetN, fShare, unown, fPar, parW, fPut, subW, fApp, appW, isOwL, fExt, extW, fSorted, gSorted, fListRg1, fListRev, fListKeys, fGet2, dictW, fDct0, fDct1, fRepr, gRepr, fAny, fAll, gBools, fSum, gSum, fMaxL, gMaxL, fMinL, gMinL, fChain, fSl, gSl, fPart, fNoP, fBagW, fBagI, fBagS, fBagIf, fScr, fBag, fBag2, nnW, wipeD, Res.ok, endsP, DL.endsL, endsO, gt0, gt1, gt2, gt3, gt4, gt5, gt6, gt7, gt8, gt9, gt10, gt11, gt12, gt13, gt14, gt15, st0, st1, st2, st3, st4, st5, st6, st7, st8, st9, st10, st11, st12, st13, st14, st15, Option.some.injEq, exists_eq_left', exists_eq_left, atI_zero, atI_one, atI_two, List.map_cons, List.map_nil, List.length_cons, List.length_nil, true_and, and_true, List.length_set, Bool.true_and, Bool.and_true, xor_f, xor_t]; exact ⟨ns, rfl, hl, hR _⟩) (by rw [sl_eq]; omega) (fun x hx K k => ?_) ?_
  · simp only [fRet, fRet.stabR, fTuple, fB, g1, gTuple, gList, fList, fIx, f2R, gIx, fVar, fC, fCons, fNil, fTup, fLst, rCons, rNil, fSet, fAsg, tgName, tgTup, tgCons, tgNil, fYes, fAnd, fOr, fNot, fTest, boolW, gLt, gLe, gGt, gGe, gB2, f2, gI2, gI2C, fAdd, gAdd, fSub, fMul, gMul, fMod, fDiv, fPow, fNeg, f1, gNeg, fIfE, fAndV, fOrV, fNotV, fCall, fCallB, fCallBN, fCallN, fCallK, stab, Res.d, intW, fLen, gLen, fAbs, fInt, fMax2, fMin2, fMax3, gI1, gI2a, gI3a, fiSeq, gSeq, fiRng1, fiRng2, fiEnum, gEnum, fiRev, gRev, fiZip, gZip, fDrop, fNext, fBreak, fCont, fRetN, fShare, unown, fPar, parW, fPut, subW, fApp, appW, isOwL, fExt, extW, fSorted, gSorted, fListRg1, fListRev, fListKeys, fGet2, dictW, fDct0, fDct1, fRepr, gRepr, fAny, fAll, gBools, fSum, gSum, fMaxL, gMaxL, fMinL, gMinL, fChain, fSl, gSl, fPart, fNoP, fBagW, fBagI, fBagS, fBagIf, fScr, fBag, fBag2, nnW, wipeD, Res.ok, endsP, DL.endsL, endsO, gt0, gt1, gt2, gt3, gt4, gt5, gt6, gt7, gt8, gt9, gt10, gt11, gt12, gt13, gt14, gt15, st0, st1, st2, st3, st4, st5, st6, st7, st8, st9, st10, st11, st12, st13, st14, st15, Option.some.injEq, exists_eq_left', exists_eq_left, atI_zero, atI_one, atI_two, List.map_cons, List.map_nil, List.length_cons, List.length_nil, true_and, and_true, List.length_set, Bool.true_and, Bool.and_true, xor_f, xor_t]
    exact ⟨by decide, k⟩
  rw [show ns.map (fun x => PyData.int (iAbs x)) = (ns.map iAbs).map PyData.int by rw [List.map_map]; rfl]
  simp only [fRet, fRet.stabR, fTuple, fB, g1, gTuple, gList, fList, fIx, f2R, gIx, fVar, fC, fCons, fNil, fTup, fLst, rCons, rNil, fSet, fAsg, tgName, tgTup, tgCons, tgNil, fYes, fAnd, fOr, fNot, fTest, boolW, gLt, gLe, gGt, gGe, gB2, f2, gI2, gI2C, fAdd, gAdd, fSub, fMul, gMul, fMod, fDiv, fPow, fNeg, f1, gNeg, fIfE, fAndV, fOrV, fNotV, fCall, fCallB, fCallBN, fCallN, fCallK, stab, Res.d, intW, fLen, gLen, fAbs, fInt, fMax2, fMin2, fMax3, gI1, gI2a, gI3a, fiSeq, gSeq, fiRng1, fiRng2, fiEnum, gEnum, fiRev, gRev, fiZip, gZip, fDrop, fNext, fBreak, fCont, fRetN, fShare, unown, fPar, parW, fPut, subW, fApp, appW, isOwL, fExt, extW, fSorted, gSorted, fListRg1, fListRev, fListKeys, fGet2, dictW, fDct0, fDct1, fRepr, gRepr, fAny, fAll, gBools, fSum, gSum, fMaxL, gMaxL, fMinL, gMinL, fChain, fSl, gSl, fPart, fNoP, fBagW, fBagI, fBagS, fBagIf, fScr, fBag, fBag2, nnW, wipeD, Res.ok, endsP, DL.endsL, endsO, gt0, gt1, gt2, gt3, gt4, gt5, gt6, gt7, gt8, gt9, gt10, gt11, gt12, gt13, gt14, gt15, st0, st1, st2, st3, st4, st5, st6, st7, st8, st9, st10, st11, st12, st13, st14, st15, Option.some.injEq, exists_eq_left', exists_eq_left, atI_zero, atI_one, atI_two, List.map_cons, List.map_nil, List.length_cons, List.length_nil, true_and, and_true, List.length_set, Bool.true_and, Bool.and_true, xor_f, xor_t]
  refine ⟨by decide, fseq_run ?_⟩
  simp only [fRet, fRet.stabR, fTuple, fB, g1, gTuple, gList, fList, fIx, f2R, gIx, fVar, fC, fCons, fNil, fTup, fLst, rCons, rNil, fSet, fAsg, tgName, tgTup, tgCons, tgNil, fYes, fAnd, fOr, fNot, fTest, boolW, gLt, gLe, gGt, gGe, gB2, f2, gI2, gI2C, fAdd, gAdd, fSub, fMul, gMul, fMod, fDiv, fPow, fNeg, f1, gNeg, fIfE, fAndV, fOrV, fNotV, fCall, fCallB, fCallBN, fCallN, fCallK, stab, Res.d, intW, fLen, gLen, fAbs, fInt, fMax2, fMin2, fMax3, gI1, gI2a, gI3a, fiSeq, gSeq, fiRng1, fiRng2, fiEnum, gEnum, fiRev, gRev, fiZip, gZip, fDrop, fNext, fBreak, fCont, fRetN, fShare, unown, fPar, parW, fPut, subW, fApp, appW, isOwL, fExt, extW, fSorted, gSorted, fListRg1, fListRev, fListKeys, fGet2, dictW, fDct0, fDct1, fRepr, gRepr, fAny, fAll, gBools, fSum, gSum, fMaxL, gMaxL, fMinL, gMinL, fChain, fSl, gSl, fPart, fNoP, fBagW, fBagI, fBagS, fBagIf, fScr, fBag, fBag2, nnW, wipeD, Res.ok, endsP, DL.endsL, endsO, gt0, gt1, gt2, gt3, gt4, gt5, gt6, gt7, gt8, gt9, gt10, gt11, gt12, gt13, gt14, gt15, st0, st1, st2, st3, st4, st5, st6, st7, st8, st9, st10, st11, st12, st13, st14, st15, Option.some.injEq, exists_eq_left', exists_eq_left, atI_zero, atI_one, atI_two, List.map_cons, List.map_nil, List.length_cons, List.length_nil, true_and, and_true, List.length_set, Bool.true_and, Bool.and_true, xor_f, xor_t]
  refine ⟨by decide, fseq_run ?_⟩
  simp only [fRet, fRet.stabR, fTuple, fB, g1, gTuple, gList, fList, fIx, f2R, gIx, fVar, fC, fCons, fNil, fTup, fLst, rCons, rNil, fSet, fAsg, tgName, tgTup, tgCons, tgNil, fYes, fAnd, fOr, fNot, fTest, boolW, gLt, gLe, gGt, gGe, gB2, f2, gI2, gI2C, fAdd, gAdd, fSub, fMul, gMul, fMod, fDiv, fPow, fNeg, f1, gNeg, fIfE, fAndV, fOrV, fNotV, fCall, fCallB, fCallBN, fCallN, fCallK, stab, Res.d, intW, fLen, gLen, fAbs, fInt, fMax2, fMin2, fMax3, gI1, gI2a, gI3a, fiSeq, gSeq, fiRng1, fiRng2, fiEnum, gEnum, fiRev, gRev, fiZip, gZip, fDrop, fNext, fBreak, fCont, fRetN, fShare, unown, fPar, parW, fPut, subW, fApp, appW, isOwL, fExt, extW, fSorted, gSorted, fListRg1, fListRev, fListKeys, fGet2, dictW, fDct0, fDct1, fRepr, gRepr, fAny, fAll, gBools, fSum, gSum, fMaxL, gMaxL, fMinL, gMinL, fChain, fSl, gSl, fPart, fNoP, fBagW, fBagI, fBagS, fBagIf, fScr, fBag, fBag2, nnW, wipeD, Res.ok, endsP, DL.endsL, endsO, gt0, gt1, gt2, gt3, gt4, gt5, gt6, gt7, gt8, gt9, gt10, gt11, gt12, gt13, gt14, gt15, st0, st1, st2, st3, st4, st5, st6, st7, st8, st9, st10, st11, st12, st13, st14, st15, Option.some.injEq, exists_eq_left', exists_eq_left, atI_zero, atI_one, atI_two, List.map_cons, List.map_nil, List.length_cons, List.length_nil, true_and, and_true, List.length_set, Bool.true_and, Bool.and_true, xor_f, xor_t]
  refine ffor_run ((ns.map iAbs).map PyData.int) (fun i δ => ∃ m s3, δ = [.scr ns, .sh (.list ((ns.map iAbs).map PyData.int)), .sh (.int m), s3] ∧ 0 ≤ m ∧ BagTop m) (fun R hR => by simp only [fRet, fRet.stabR, fTuple, fB, g1, gTuple, gList, fList, fIx, f2R, gIx, fVar, fC, fCons, fNil, fTup, fLst, rCons, rNil, fSet, fAsg, tgName, tgTup, tgCons, tgNil, fYes, fAnd, fOr, fNot, fTest, boolW, gLt, gLe, gGt, gGe, gB2, f2, gI2, gI2C, fAdd, gAdd, fSub, fMul, gMul, fMod, fDiv, fPow, fNeg, f1, gNeg, fIfE, fAndV, fOrV, fNotV, fCall, fCallB, fCallBN, fCallN, fCallK, stab, Res.d, intW, fLen, gLen, fAbs, fInt, fMax2, fMin2, fMax3, gI1, gI2a, gI3a, fiSeq, gSeq, fiRng1, fiRng2, fiEnum, gEnum, fiRev, gRev, fiZip, gZip, fDrop, fNext, fBreak, fCont, fRetN, fShare, unown, fPar, parW, fPut, subW, fApp, appW, isOwL, fExt, extW, fSorted, gSorted, fListRg1, fListRev, fListKeys, fGet2, dictW, fDct0, fDct1, fRepr, gRepr, fAny, fAll, gBools, fSum, gSum, fMaxL, gMaxL, fMinL, gMinL, fChain, fSl, gSl, fPart, fNoP, fBagW, fBagI, fBagS, fBagIf, fScr, fBag, fBag2, nnW, wipeD, Res.ok, endsP, DL.endsL, endsO, gt0, gt1, gt2, gt3, gt4, gt5, gt6, gt7, gt8, gt9, gt10, gt11, gt12, gt13, gt14, gt15, st0, st1, st2, st3, st4, st5, st6, st7, st8, st9, st10, st11, st12, st13, st14, st15, Option.some.injEq, exists_eq_left', exists_eq_left, atI_zero, atI_one, atI_two, List.map_cons, List.map_nil, List.length_cons, List.length_nil, true_and, and_true, List.length_set, Bool.true_and, Bool.and_true, xor_f, xor_t]; exact hR) ⟨_, _, rfl, by omega, ⟨by simp; omega⟩⟩ ?_ ?_
  · rintro i d δ hd ⟨m, s3, rfl, h0, h1⟩
    obtain ⟨x, hx, rfl⟩ := map_get hd
    simp only [fRet, fRet.stabR, fTuple, fB, g1, gTuple, gList, fList, fIx, f2R, gIx, fVar, fC, fCons, fNil, fTup, fLst, rCons, rNil, fSet, fAsg, tgName, tgTup, tgCons, tgNil, fYes, fAnd, fOr, fNot, fTest, boolW, gLt, gLe, gGt, gGe, gB2, f2, gI2, gI2C, fAdd, gAdd, fSub, fMul, gMul, fMod, fDiv, fPow, fNeg, f1, gNeg, fIfE, fAndV, fOrV, fNotV, fCall, fCallB, fCallBN, fCallN, fCallK, stab, Res.d, intW, fLen, gLen, fAbs, fInt, fMax2, fMin2, fMax3, gI1, gI2a, gI3a, fiSeq, gSeq, fiRng1, fiRng2, fiEnum, gEnum, fiRev, gRev, fiZip, gZip, fDrop, fNext, fBreak, fCont, fRetN, fShare, unown, fPar, parW, fPut, subW, fApp, appW, isOwL, fExt, extW, fSorted, gSorted, fListRg1, fListRev, fListKeys, fGet2, dictW, fDct0, fDct1, fRepr, gRepr, fAny, fAll, gBools, fSum, gSum, fMaxL, gMaxL, fMinL, gMinL, fChain, fSl, gSl, fPart, fNoP, fBagW, fBagI, fBagS, fBagIf, fScr, fBag, fBag2, nnW, wipeD, Res.ok, endsP, DL.endsL, endsO, gt0, gt1, gt2, gt3, gt4, gt5, gt6, gt7, gt8, gt9, gt10, gt11, gt12, gt13, gt14, gt15, st0, st1, st2, st3, st4, st5, st6, st7, st8, st9, st10, st11, st12, st13, st14, st15, Option.some.injEq, exists_eq_left', exists_eq_left, atI_zero, atI_one, atI_two, List.map_cons, List.map_nil, List.length_cons, List.length_nil, true_and, and_true, List.length_set, Bool.true_and, Bool.and_true, xor_f, xor_t]
    refine ⟨by decide, .inr (by decide), by decide, by decide, by decide, _, _, rfl, Int.emod_nonneg _ (by decide), ⟨Int.emod_lt_of_pos _ (by decide)⟩⟩
  · rintro δ ⟨m, s3, rfl, h0, h1⟩
    simp only [fRet, fRet.stabR, fTuple, fB, g1, gTuple, gList, fList, fIx, f2R, gIx, fVar, fC, fCons, fNil, fTup, fLst, rCons, rNil, fSet, fAsg, tgName, tgTup, tgCons, tgNil, fYes, fAnd, fOr, fNot, fTest, boolW, gLt, gLe, gGt, gGe, gB2, f2, gI2, gI2C, fAdd, gAdd, fSub, fMul, gMul, fMod, fDiv, fPow, fNeg, f1, gNeg, fIfE, fAndV, fOrV, fNotV, fCall, fCallB, fCallBN, fCallN, fCallK, stab, Res.d, intW, fLen, gLen, fAbs, fInt, fMax2, fMin2, fMax3, gI1, gI2a, gI3a, fiSeq, gSeq, fiRng1, fiRng2, fiEnum, gEnum, fiRev, gRev, fiZip, gZip, fDrop, fNext, fBreak, fCont, fRetN, fShare, unown, fPar, parW, fPut, subW, fApp, appW, isOwL, fExt, extW, fSorted, gSorted, fListRg1, fListRev, fListKeys, fGet2, dictW, fDct0, fDct1, fRepr, gRepr, fAny, fAll, gBools, fSum, gSum, fMaxL, gMaxL, fMinL, gMinL, fChain, fSl, gSl, fPart, fNoP, fBagW, fBagI, fBagS, fBagIf, fScr, fBag, fBag2, nnW, wipeD, Res.ok, endsP, DL.endsL, endsO, gt0, gt1, gt2, gt3, gt4, gt5, gt6, gt7, gt8, gt9, gt10, gt11, gt12, gt13, gt14, gt15, st0, st1, st2, st3, st4, st5, st6, st7, st8, st9, st10, st11, st12, st13, st14, st15, Option.some.injEq, exists_eq_left', exists_eq_left, atI_zero, atI_one, atI_two, List.map_cons, List.map_nil, List.length_cons, List.length_nil, true_and, and_true, List.length_set, Bool.true_and, Bool.and_true, xor_f, xor_t]
    refine ⟨by decide, (ns.map iAbs).reverse, 0, m, by rw [List.map_reverse], fun z hz => ?_, by decide, h0, h1⟩
    rw [List.mem_reverse, List.mem_map] at hz
    obtain ⟨a, _, e⟩ := hz
    rw [← e, iabs]
    omega
def S_draw : SpD := fun ds QD _ => ∃ below : Int, ds = [.int below] ∧ 0 < below ∧ below < 1073741824 ∧ ∀ r, 0 ≤ r → r < below → QD (.int r)
theorem l_draw : ∀ ds QD ED, S_draw ds QD ED → F__law_draw (endsP QD ED) (startB N__law_draw ds) := by
  rintro ds QD ED ⟨below, rfl, h0, h1, q⟩
  unfold F__law_draw
  rw [show startB N__law_draw [.int below] = [.bag, .sh (.int below), .no, .no] from rfl]
  have key : ∀ x : Int, QD (.int (x % below)) := fun x => q _ (Int.emod_nonneg _ (by omega)) (Int.emod_lt_of_pos _ h0)
  refine fseq_run ?_
  simp only [fRet, fRet.stabR, fTuple, fB, g1, gTuple, gList, fList, fIx, f2R, gIx, fVar, fC, fCons, fNil, fTup, fLst, rCons, rNil, fSet, fAsg, tgName, tgTup, tgCons, tgNil, fYes, fAnd, fOr, fNot, fTest, boolW, gLt, gLe, gGt, gGe, gB2, f2, gI2, gI2C, fAdd, gAdd, fSub, fMul, gMul, fMod, fDiv, fPow, fNeg, f1, gNeg, fIfE, fAndV, fOrV, fNotV, fCall, fCallB, fCallBN, fCallN, fCallK, stab, Res.d, intW, fLen, gLen, fAbs, fInt, fMax2, fMin2, fMax3, gI1, gI2a, gI3a, fiSeq, gSeq, fiRng1, fiRng2, fiEnum, gEnum, fiRev, gRev, fiZip, gZip, fDrop, fNext, fBreak, fCont, fRetN, fShare, unown, fPar, parW, fPut, subW, fApp, appW, isOwL, fExt, extW, fSorted, gSorted, fListRg1, fListRev, fListKeys, fGet2, dictW, fDct0, fDct1, fRepr, gRepr, fAny, fAll, gBools, fSum, gSum, fMaxL, gMaxL, fMinL, gMinL, fChain, fSl, gSl, fPart, fNoP, fBagW, fBagI, fBagS, fBagIf, fScr, fBag, fBag2, nnW, wipeD, Res.ok, endsP, DL.endsL, endsO, gt0, gt1, gt2, gt3, gt4, gt5, gt6, gt7, gt8, gt9, gt10, gt11, gt12, gt13, gt14, gt15, st0, st1, st2, st3, st4, st5, st6, st7, st8, st9, st10, st11, st12, st13, st14, st15, Option.some.injEq, exists_eq_left', exists_eq_left, atI_zero, atI_one, atI_two, List.map_cons, List.map_nil, List.length_cons, List.length_nil, true_and, and_true, List.length_set, Bool.true_and, Bool.and_true, xor_f, xor_t]
  refine ⟨⟨by decide, by decide⟩, fseq_run (fif_run ?_)⟩
  simp only [fRet, fRet.stabR, fTuple, fB, g1, gTuple, gList, fList, fIx, f2R, gIx, fVar, fC, fCons, fNil, fTup, fLst, rCons, rNil, fSet, fAsg, tgName, tgTup, tgCons, tgNil, fYes, fAnd, fOr, fNot, fTest, boolW, gLt, gLe, gGt, gGe, gB2, f2, gI2, gI2C, fAdd, gAdd, fSub, fMul, gMul, fMod, fDiv, fPow, fNeg, f1, gNeg, fIfE, fAndV, fOrV, fNotV, fCall, fCallB, fCallBN, fCallN, fCallK, stab, Res.d, intW, fLen, gLen, fAbs, fInt, fMax2, fMin2, fMax3, gI1, gI2a, gI3a, fiSeq, gSeq, fiRng1, fiRng2, fiEnum, gEnum, fiRev, gRev, fiZip, gZip, fDrop, fNext, fBreak, fCont, fRetN, fShare, unown, fPar, parW, fPut, subW, fApp, appW, isOwL, fExt, extW, fSorted, gSorted, fListRg1, fListRev, fListKeys, fGet2, dictW, fDct0, fDct1, fRepr, gRepr, fAny, fAll, gBools, fSum, gSum, fMaxL, gMaxL, fMinL, gMinL, fChain, fSl, gSl, fPart, fNoP, fBagW, fBagI, fBagS, fBagIf, fScr, fBag, fBag2, nnW, wipeD, Res.ok, endsP, DL.endsL, endsO, gt0, gt1, gt2, gt3, gt4, gt5, gt6, gt7, gt8, gt9, gt10, gt11, gt12, gt13, gt14, gt15, st0, st1, st2, st3, st4, st5, st6, st7, st8, st9, st10, st11, st12, st13, st14, st15, Option.some.injEq, exists_eq_left', exists_eq_left, atI_zero, atI_one, atI_two, List.map_cons, List.map_nil, List.length_cons, List.length_nil, true_and, and_true, List.length_set, Bool.true_and, Bool.and_true, xor_f, xor_t]
  intro x hx _
  by_cases g : 0 < x
  · refine iteT' (decide_eq_true g) (fseq_run ?_)
    simp only [fRet, fRet.stabR, fTuple, fB, g1, gTuple, gList, fList, fIx, f2R, gIx, fVar, fC, fCons, fNil, fTup, fLst, rCons, rNil, fSet, fAsg, tgName, tgTup, tgCons, tgNil, fYes, fAnd, fOr, fNot, fTest, boolW, gLt, gLe, gGt, gGe, gB2, f2, gI2, gI2C, fAdd, gAdd, fSub, fMul, gMul, fMod, fDiv, fPow, fNeg, f1, gNeg, fIfE, fAndV, fOrV, fNotV, fCall, fCallB, fCallBN, fCallN, fCallK, stab, Res.d, intW, fLen, gLen, fAbs, fInt, fMax2, fMin2, fMax3, gI1, gI2a, gI3a, fiSeq, gSeq, fiRng1, fiRng2, fiEnum, gEnum, fiRev, gRev, fiZip, gZip, fDrop, fNext, fBreak, fCont, fRetN, fShare, unown, fPar, parW, fPut, subW, fApp, appW, isOwL, fExt, extW, fSorted, gSorted, fListRg1, fListRev, fListKeys, fGet2, dictW, fDct0, fDct1, fRepr, gRepr, fAny, fAll, gBools, fSum, gSum, fMaxL, gMaxL, fMinL, gMinL, fChain, fSl, gSl, fPart, fNoP, fBagW, fBagI, fBagS, fBagIf, fScr, fBag, fBag2, nnW, wipeD, Res.ok, endsP, DL.endsL, endsO, gt0, gt1, gt2, gt3, gt4, gt5, gt6, gt7, gt8, gt9, gt10, gt11, gt12, gt13, gt14, gt15, st0, st1, st2, st3, st4, st5, st6, st7, st8, st9, st10, st11, st12, st13, st14, st15, Option.some.injEq, exists_eq_left', exists_eq_left, atI_zero, atI_one, atI_two, List.map_cons, List.map_nil, List.length_cons, List.length_nil, true_and, and_true, List.length_set, Bool.true_and, Bool.and_true, xor_f, xor_t]
    intro x hx _
    refine ⟨h0, by decide, fseq_run ?_⟩
    simp only [fRet, fRet.stabR, fTuple, fB, g1, gTuple, gList, fList, fIx, f2R, gIx, fVar, fC, fCons, fNil, fTup, fLst, rCons, rNil, fSet, fAsg, tgName, tgTup, tgCons, tgNil, fYes, fAnd, fOr, fNot, fTest, boolW, gLt, gLe, gGt, gGe, gB2, f2, gI2, gI2C, fAdd, gAdd, fSub, fMul, gMul, fMod, fDiv, fPow, fNeg, f1, gNeg, fIfE, fAndV, fOrV, fNotV, fCall, fCallB, fCallBN, fCallN, fCallK, stab, Res.d, intW, fLen, gLen, fAbs, fInt, fMax2, fMin2, fMax3, gI1, gI2a, gI3a, fiSeq, gSeq, fiRng1, fiRng2, fiEnum, gEnum, fiRev, gRev, fiZip, gZip, fDrop, fNext, fBreak, fCont, fRetN, fShare, unown, fPar, parW, fPut, subW, fApp, appW, isOwL, fExt, extW, fSorted, gSorted, fListRg1, fListRev, fListKeys, fGet2, dictW, fDct0, fDct1, fRepr, gRepr, fAny, fAll, gBools, fSum, gSum, fMaxL, gMaxL, fMinL, gMinL, fChain, fSl, gSl, fPart, fNoP, fBagW, fBagI, fBagS, fBagIf, fScr, fBag, fBag2, nnW, wipeD, Res.ok, endsP, DL.endsL, endsO, gt0, gt1, gt2, gt3, gt4, gt5, gt6, gt7, gt8, gt9, gt10, gt11, gt12, gt13, gt14, gt15, st0, st1, st2, st3, st4, st5, st6, st7, st8, st9, st10, st11, st12, st13, st14, st15, Option.some.injEq, exists_eq_left', exists_eq_left, atI_zero, atI_one, atI_two, List.map_cons, List.map_nil, List.length_cons, List.length_nil, true_and, and_true, List.length_set, Bool.true_and, Bool.and_true, xor_f, xor_t]
    intro y hy _
    exact ⟨⟨h0, h1⟩, ⟨Int.ediv_nonneg hy (by omega), fun z => absurd z (by decide)⟩, key x⟩
  · refine iteF' (decide_eq_false g) (fseq_run ?_)
    simp only [fRet, fRet.stabR, fTuple, fB, g1, gTuple, gList, fList, fIx, f2R, gIx, fVar, fC, fCons, fNil, fTup, fLst, rCons, rNil, fSet, fAsg, tgName, tgTup, tgCons, tgNil, fYes, fAnd, fOr, fNot, fTest, boolW, gLt, gLe, gGt, gGe, gB2, f2, gI2, gI2C, fAdd, gAdd, fSub, fMul, gMul, fMod, fDiv, fPow, fNeg, f1, gNeg, fIfE, fAndV, fOrV, fNotV, fCall, fCallB, fCallBN, fCallN, fCallK, stab, Res.d, intW, fLen, gLen, fAbs, fInt, fMax2, fMin2, fMax3, gI1, gI2a, gI3a, fiSeq, gSeq, fiRng1, fiRng2, fiEnum, gEnum, fiRev, gRev, fiZip, gZip, fDrop, fNext, fBreak, fCont, fRetN, fShare, unown, fPar, parW, fPut, subW, fApp, appW, isOwL, fExt, extW, fSorted, gSorted, fListRg1, fListRev, fListKeys, fGet2, dictW, fDct0, fDct1, fRepr, gRepr, fAny, fAll, gBools, fSum, gSum, fMaxL, gMaxL, fMinL, gMinL, fChain, fSl, gSl, fPart, fNoP, fBagW, fBagI, fBagS, fBagIf, fScr, fBag, fBag2, nnW, wipeD, Res.ok, endsP, DL.endsL, endsO, gt0, gt1, gt2, gt3, gt4, gt5, gt6, gt7, gt8, gt9, gt10, gt11, gt12, gt13, gt14, gt15, st0, st1, st2, st3, st4, st5, st6, st7, st8, st9, st10, st11, st12, st13, st14, st15, Option.some.injEq, exists_eq_left', exists_eq_left, atI_zero, atI_one, atI_two, List.map_cons, List.map_nil, List.length_cons, List.length_nil, true_and, and_true, List.length_set, Bool.true_and, Bool.and_true, xor_f, xor_t]
    intro x hx hx2
    refine ⟨.inr (by decide), by decide, ⟨Int.emod_nonneg _ (by decide), fun _ => ⟨Int.emod_lt_of_pos _ (by decide)⟩⟩, fun y hy hy2 z hz hz2 => ?_⟩
    have b1 := (hy2 trivial).lt
    refine ⟨.inl ⟨by omega, by omega⟩, by decide, ⟨by decide, by decide⟩, h0, key _⟩
def S_pick : SpD := fun ds QD _ => ∃ xs : List D, (ds = [.list xs] ∨ ds = [.tuple xs]) ∧ xs ≠ [] ∧ xs.length < 1000000 ∧ ∀ x ∈ xs, QD x
theorem l_pick : ∀ ds QD ED, S_pick ds QD ED → F__law_pick S_draw (endsP QD ED) (startB N__law_pick ds) := by
  rintro ds QD ED ⟨xs, h, ne, hl, q⟩
  unfold F__law_pick
  have pos : 0 < (xs.length : Int) := by
    have : xs.length ≠ 0 := fun z => ne (List.length_eq_zero_iff.mp z)
    omega
  have at_ : ∀ r : Int, 0 ≤ r → r < xs.length → ∃ x, atI xs r = some x ∧ x ∈ xs := fun r h0 h1 => by
    have hr : r.toNat < xs.length := by omega
    exact ⟨xs[r.toNat], atI_ofNat h0 (List.getElem?_eq_getElem hr), List.getElem_mem hr⟩
  rcases h with rfl | rfl
  · rw [show startB N__law_pick [.list xs] = [.bag, .sh (.list xs)] from rfl]
    simp only [fRet, fRet.stabR, fTuple, fB, g1, gTuple, gList, fList, fIx, f2R, gIx, fVar, fC, fCons, fNil, fTup, fLst, rCons, rNil, fSet, fAsg, tgName, tgTup, tgCons, tgNil, fYes, fAnd, fOr, fNot, fTest, boolW, gLt, gLe, gGt, gGe, gB2, f2, gI2, gI2C, fAdd, gAdd, fSub, fMul, gMul, fMod, fDiv, fPow, fNeg, f1, gNeg, fIfE, fAndV, fOrV, fNotV, fCall, fCallB, fCallBN, fCallN, fCallK, stab, Res.d, intW, fLen, gLen, fAbs, fInt, fMax2, fMin2, fMax3, gI1, gI2a, gI3a, fiSeq, gSeq, fiRng1, fiRng2, fiEnum, gEnum, fiRev, gRev, fiZip, gZip, fDrop, fNext, fBreak, fCont, fRetN, fShare, unown, fPar, parW, fPut, subW, fApp, appW, isOwL, fExt, extW, fSorted, gSorted, fListRg1, fListRev, fListKeys, fGet2, dictW, fDct0, fDct1, fRepr, gRepr, fAny, fAll, gBools, fSum, gSum, fMaxL, gMaxL, fMinL, gMinL, fChain, fSl, gSl, fPart, fNoP, fBagW, fBagI, fBagS, fBagIf, fScr, fBag, fBag2, nnW, wipeD, Res.ok, endsP, DL.endsL, endsO, gt0, gt1, gt2, gt3, gt4, gt5, gt6, gt7, gt8, gt9, gt10, gt11, gt12, gt13, gt14, gt15, st0, st1, st2, st3, st4, st5, st6, st7, st8, st9, st10, st11, st12, st13, st14, st15, Option.some.injEq, exists_eq_left', exists_eq_left, atI_zero, atI_one, atI_two, List.map_cons, List.map_nil, List.length_cons, List.length_nil, true_and, and_true, List.length_set, Bool.true_and, Bool.and_true, xor_f, xor_t]
    refine ⟨xs.length, rfl, pos, by omega, fun r h0 h1 => ?_⟩
    simp only [fRet, fRet.stabR, fTuple, fB, g1, gTuple, gList, fList, fIx, f2R, gIx, fVar, fC, fCons, fNil, fTup, fLst, rCons, rNil, fSet, fAsg, tgName, tgTup, tgCons, tgNil, fYes, fAnd, fOr, fNot, fTest, boolW, gLt, gLe, gGt, gGe, gB2, f2, gI2, gI2C, fAdd, gAdd, fSub, fMul, gMul, fMod, fDiv, fPow, fNeg, f1, gNeg, fIfE, fAndV, fOrV, fNotV, fCall, fCallB, fCallBN, fCallN, fCallK, stab, Res.d, intW, fLen, gLen, fAbs, fInt, fMax2, fMin2, fMax3, gI1, gI2a, gI3a, fiSeq, gSeq, fiRng1, fiRng2, fiEnum, gEnum, fiRev, gRev, fiZip, gZip, fDrop, fNext, fBreak, fCont, fRetN, fShare, unown, fPar, parW, fPut, subW, fApp, appW, isOwL, fExt, extW, fSorted, gSorted, fListRg1, fListRev, fListKeys, fGet2, dictW, fDct0, fDct1, fRepr, gRepr, fAny, fAll, gBools, fSum, gSum, fMaxL, gMaxL, fMinL, gMinL, fChain, fSl, gSl, fPart, fNoP, fBagW, fBagI, fBagS, fBagIf, fScr, fBag, fBag2, nnW, wipeD, Res.ok, endsP, DL.endsL, endsO, gt0, gt1, gt2, gt3, gt4, gt5, gt6, gt7, gt8, gt9, gt10, gt11, gt12, gt13, gt14, gt15, st0, st1, st2, st3, st4, st5, st6, st7, st8, st9, st10, st11, st12, st13, st14, st15, Option.some.injEq, exists_eq_left', exists_eq_left, atI_zero, atI_one, atI_two, List.map_cons, List.map_nil, List.length_cons, List.length_nil, true_and, and_true, List.length_set, Bool.true_and, Bool.and_true, xor_f, xor_t]
    obtain ⟨x, e, hx⟩ := at_ r h0 h1
    exact ⟨x, e, q x hx⟩
  · rw [show startB N__law_pick [.tuple xs] = [.bag, .sh (.tuple xs)] from rfl]
    simp only [fRet, fRet.stabR, fTuple, fB, g1, gTuple, gList, fList, fIx, f2R, gIx, fVar, fC, fCons, fNil, fTup, fLst, rCons, rNil, fSet, fAsg, tgName, tgTup, tgCons, tgNil, fYes, fAnd, fOr, fNot, fTest, boolW, gLt, gLe, gGt, gGe, gB2, f2, gI2, gI2C, fAdd, gAdd, fSub, fMul, gMul, fMod, fDiv, fPow, fNeg, f1, gNeg, fIfE, fAndV, fOrV, fNotV, fCall, fCallB, fCallBN, fCallN, fCallK, stab, Res.d, intW, fLen, gLen, fAbs, fInt, fMax2, fMin2, fMax3, gI1, gI2a, gI3a, fiSeq, gSeq, fiRng1, fiRng2, fiEnum, gEnum, fiRev, gRev, fiZip, gZip, fDrop, fNext, fBreak, fCont, fRetN, fShare, unown, fPar, parW, fPut, subW, fApp, appW, isOwL, fExt, extW, fSorted, gSorted, fListRg1, fListRev, fListKeys, fGet2, dictW, fDct0, fDct1, fRepr, gRepr, fAny, fAll, gBools, fSum, gSum, fMaxL, gMaxL, fMinL, gMinL, fChain, fSl, gSl, fPart, fNoP, fBagW, fBagI, fBagS, fBagIf, fScr, fBag, fBag2, nnW, wipeD, Res.ok, endsP, DL.endsL, endsO, gt0, gt1, gt2, gt3, gt4, gt5, gt6, gt7, gt8, gt9, gt10, gt11, gt12, gt13, gt14, gt15, st0, st1, st2, st3, st4, st5, st6, st7, st8, st9, st10, st11, st12, st13, st14, st15, Option.some.injEq, exists_eq_left', exists_eq_left, atI_zero, atI_one, atI_two, List.map_cons, List.map_nil, List.length_cons, List.length_nil, true_and, and_true, List.length_set, Bool.true_and, Bool.and_true, xor_f, xor_t]
    refine ⟨xs.length, rfl, pos, by omega, fun r h0 h1 => ?_⟩
    simp only [fRet, fRet.stabR, fTuple, fB, g1, gTuple, gList, fList, fIx, f2R, gIx, fVar, fC, fCons, fNil, fTup, fLst, rCons, rNil, fSet, fAsg, tgName, tgTup, tgCons, tgNil, fYes, fAnd, fOr, fNot, fTest, boolW, gLt, gLe, gGt, gGe, gB2, f2, gI2, gI2C, fAdd, gAdd, fSub, fMul, gMul, fMod, fDiv, fPow, fNeg, f1, gNeg, fIfE, fAndV, fOrV, fNotV, fCall, fCallB, fCallBN, fCallN, fCallK, stab, Res.d, intW, fLen, gLen, fAbs, fInt, fMax2, fMin2, fMax3, gI1, gI2a, gI3a, fiSeq, gSeq, fiRng1, fiRng2, fiEnum, gEnum, fiRev, gRev, fiZip, gZip, fDrop, fNext, fBreak, fCont, fRetN, fShare, unown, fPar, parW, fPut, subW, fApp, appW, isOwL, fExt, extW, fSorted, gSorted, fListRg1, fListRev, fListKeys, fGet2, dictW, fDct0, fDct1, fRepr, gRepr, fAny, fAll, gBools, fSum, gSum, fMaxL, gMaxL, fMinL, gMinL, fChain, fSl, gSl, fPart, fNoP, fBagW, fBagI, fBagS, fBagIf, fScr, fBag, fBag2, nnW, wipeD, Res.ok, endsP, DL.endsL, endsO, gt0, gt1, gt2, gt3, gt4, gt5, gt6, gt7, gt8, gt9, gt10, gt11, gt12, gt13, gt14, gt15, st0, st1, st2, st3, st4, st5, st6, st7, st8, st9, st10, st11, st12, st13, st14, st15, Option.some.injEq, exists_eq_left', exists_eq_left, atI_zero, atI_one, atI_two, List.map_cons, List.map_nil, List.length_cons, List.length_nil, true_and, and_true, List.length_set, Bool.true_and, Bool.and_true, xor_f, xor_t]
    obtain ⟨x, e, hx⟩ := at_ r h0 h1
    exact ⟨x, e, q x hx⟩
def S_number : SpD := fun ds QD _ => ∃ most : Int, ds = [.int most] ∧ 10 ≤ most ∧ most ≤ 1000000 ∧ ∀ r, 0 ≤ r → r ≤ most → QD (.int r)
theorem l_number : ∀ ds QD ED, S_number ds QD ED → F__law_number S_draw (endsP QD ED) (startB N__law_number ds) := by
  rintro ds QD ED ⟨most, rfl, h0, h1, q⟩
  unfold F__law_number
  rw [show startB N__law_number [.int most] = [.bag, .sh (.int most), .no] from rfl]
  refine fseq_run ?_
  simp only [fRet, fRet.stabR, fTuple, fB, g1, gTuple, gList, fList, fIx, f2R, gIx, fVar, fC, fCons, fNil, fTup, fLst, rCons, rNil, fSet, fAsg, tgName, tgTup, tgCons, tgNil, fYes, fAnd, fOr, fNot, fTest, boolW, gLt, gLe, gGt, gGe, gB2, f2, gI2, gI2C, fAdd, gAdd, fSub, fMul, gMul, fMod, fDiv, fPow, fNeg, f1, gNeg, fIfE, fAndV, fOrV, fNotV, fCall, fCallB, fCallBN, fCallN, fCallK, stab, Res.d, intW, fLen, gLen, fAbs, fInt, fMax2, fMin2, fMax3, gI1, gI2a, gI3a, fiSeq, gSeq, fiRng1, fiRng2, fiEnum, gEnum, fiRev, gRev, fiZip, gZip, fDrop, fNext, fBreak, fCont, fRetN, fShare, unown, fPar, parW, fPut, subW, fApp, appW, isOwL, fExt, extW, fSorted, gSorted, fListRg1, fListRev, fListKeys, fGet2, dictW, fDct0, fDct1, fRepr, gRepr, fAny, fAll, gBools, fSum, gSum, fMaxL, gMaxL, fMinL, gMinL, fChain, fSl, gSl, fPart, fNoP, fBagW, fBagI, fBagS, fBagIf, fScr, fBag, fBag2, nnW, wipeD, Res.ok, endsP, DL.endsL, endsO, gt0, gt1, gt2, gt3, gt4, gt5, gt6, gt7, gt8, gt9, gt10, gt11, gt12, gt13, gt14, gt15, st0, st1, st2, st3, st4, st5, st6, st7, st8, st9, st10, st11, st12, st13, st14, st15, Option.some.injEq, exists_eq_left', exists_eq_left, atI_zero, atI_one, atI_two, List.map_cons, List.map_nil, List.length_cons, List.length_nil, true_and, and_true, List.length_set, Bool.true_and, Bool.and_true, xor_f, xor_t]
  refine ⟨4, rfl, by decide, by decide, fun w hw0 hw1 => ?_⟩
  simp only [fRet, fRet.stabR, fTuple, fB, g1, gTuple, gList, fList, fIx, f2R, gIx, fVar, fC, fCons, fNil, fTup, fLst, rCons, rNil, fSet, fAsg, tgName, tgTup, tgCons, tgNil, fYes, fAnd, fOr, fNot, fTest, boolW, gLt, gLe, gGt, gGe, gB2, f2, gI2, gI2C, fAdd, gAdd, fSub, fMul, gMul, fMod, fDiv, fPow, fNeg, f1, gNeg, fIfE, fAndV, fOrV, fNotV, fCall, fCallB, fCallBN, fCallN, fCallK, stab, Res.d, intW, fLen, gLen, fAbs, fInt, fMax2, fMin2, fMax3, gI1, gI2a, gI3a, fiSeq, gSeq, fiRng1, fiRng2, fiEnum, gEnum, fiRev, gRev, fiZip, gZip, fDrop, fNext, fBreak, fCont, fRetN, fShare, unown, fPar, parW, fPut, subW, fApp, appW, isOwL, fExt, extW, fSorted, gSorted, fListRg1, fListRev, fListKeys, fGet2, dictW, fDct0, fDct1, fRepr, gRepr, fAny, fAll, gBools, fSum, gSum, fMaxL, gMaxL, fMinL, gMinL, fChain, fSl, gSl, fPart, fNoP, fBagW, fBagI, fBagS, fBagIf, fScr, fBag, fBag2, nnW, wipeD, Res.ok, endsP, DL.endsL, endsO, gt0, gt1, gt2, gt3, gt4, gt5, gt6, gt7, gt8, gt9, gt10, gt11, gt12, gt13, gt14, gt15, st0, st1, st2, st3, st4, st5, st6, st7, st8, st9, st10, st11, st12, st13, st14, st15, Option.some.injEq, exists_eq_left', exists_eq_left, atI_zero, atI_one, atI_two, List.map_cons, List.map_nil, List.length_cons, List.length_nil, true_and, and_true, List.length_set, Bool.true_and, Bool.and_true, xor_f, xor_t]
  refine ⟨by decide, fseq_run (fif_run ?_)⟩
  simp only [fRet, fRet.stabR, fTuple, fB, g1, gTuple, gList, fList, fIx, f2R, gIx, fVar, fC, fCons, fNil, fTup, fLst, rCons, rNil, fSet, fAsg, tgName, tgTup, tgCons, tgNil, fYes, fAnd, fOr, fNot, fTest, boolW, gLt, gLe, gGt, gGe, gB2, f2, gI2, gI2C, fAdd, gAdd, fSub, fMul, gMul, fMod, fDiv, fPow, fNeg, f1, gNeg, fIfE, fAndV, fOrV, fNotV, fCall, fCallB, fCallBN, fCallN, fCallK, stab, Res.d, intW, fLen, gLen, fAbs, fInt, fMax2, fMin2, fMax3, gI1, gI2a, gI3a, fiSeq, gSeq, fiRng1, fiRng2, fiEnum, gEnum, fiRev, gRev, fiZip, gZip, fDrop, fNext, fBreak, fCont, fRetN, fShare, unown, fPar, parW, fPut, subW, fApp, appW, isOwL, fExt, extW, fSorted, gSorted, fListRg1, fListRev, fListKeys, fGet2, dictW, fDct0, fDct1, fRepr, gRepr, fAny, fAll, gBools, fSum, gSum, fMaxL, gMaxL, fMinL, gMinL, fChain, fSl, gSl, fPart, fNoP, fBagW, fBagI, fBagS, fBagIf, fScr, fBag, fBag2, nnW, wipeD, Res.ok, endsP, DL.endsL, endsO, gt0, gt1, gt2, gt3, gt4, gt5, gt6, gt7, gt8, gt9, gt10, gt11, gt12, gt13, gt14, gt15, st0, st1, st2, st3, st4, st5, st6, st7, st8, st9, st10, st11, st12, st13, st14, st15, Option.some.injEq, exists_eq_left', exists_eq_left, atI_zero, atI_one, atI_two, List.map_cons, List.map_nil, List.length_cons, List.length_nil, true_and, and_true, List.length_set, Bool.true_and, Bool.and_true, xor_f, xor_t, gEq_int_eq]
  by_cases g : w = 0
  · refine iteT' (decide_eq_true g) ?_
    exact ⟨11, rfl, by decide, by decide, fun r a b => q r a (by omega)⟩
  · refine iteF' (decide_eq_false g) (fseq_run (fif_run ?_))
    simp only [fRet, fRet.stabR, fTuple, fB, g1, gTuple, gList, fList, fIx, f2R, gIx, fVar, fC, fCons, fNil, fTup, fLst, rCons, rNil, fSet, fAsg, tgName, tgTup, tgCons, tgNil, fYes, fAnd, fOr, fNot, fTest, boolW, gLt, gLe, gGt, gGe, gB2, f2, gI2, gI2C, fAdd, gAdd, fSub, fMul, gMul, fMod, fDiv, fPow, fNeg, f1, gNeg, fIfE, fAndV, fOrV, fNotV, fCall, fCallB, fCallBN, fCallN, fCallK, stab, Res.d, intW, fLen, gLen, fAbs, fInt, fMax2, fMin2, fMax3, gI1, gI2a, gI3a, fiSeq, gSeq, fiRng1, fiRng2, fiEnum, gEnum, fiRev, gRev, fiZip, gZip, fDrop, fNext, fBreak, fCont, fRetN, fShare, unown, fPar, parW, fPut, subW, fApp, appW, isOwL, fExt, extW, fSorted, gSorted, fListRg1, fListRev, fListKeys, fGet2, dictW, fDct0, fDct1, fRepr, gRepr, fAny, fAll, gBools, fSum, gSum, fMaxL, gMaxL, fMinL, gMinL, fChain, fSl, gSl, fPart, fNoP, fBagW, fBagI, fBagS, fBagIf, fScr, fBag, fBag2, nnW, wipeD, Res.ok, endsP, DL.endsL, endsO, gt0, gt1, gt2, gt3, gt4, gt5, gt6, gt7, gt8, gt9, gt10, gt11, gt12, gt13, gt14, gt15, st0, st1, st2, st3, st4, st5, st6, st7, st8, st9, st10, st11, st12, st13, st14, st15, Option.some.injEq, exists_eq_left', exists_eq_left, atI_zero, atI_one, atI_two, List.map_cons, List.map_nil, List.length_cons, List.length_nil, true_and, and_true, List.length_set, Bool.true_and, Bool.and_true, xor_f, xor_t, gEq_int_eq]
    by_cases g : w = 1
    · refine iteT' (decide_eq_true g) ?_
      exact ⟨3, rfl, by decide, by decide, fun r a b => q _ (by omega) (by omega)⟩
    · refine iteF' (decide_eq_false g) ?_
      exact ⟨most + 1, rfl, by omega, by omega, fun r a b => q r a (by omega)⟩
def S_law_endless : SpD := fun ds QD _ => ∃ net n, ds = [netD net, .int n] ∧ NetOk net ∧ ∀ b : Bool, (b = true ↔ ∃ s ∈ net, s.1 ≤ n ∧ s.1 < s.2) → QD (.bool b)
theorem l_law_endless : ∀ ds QD ED, S_law_endless ds QD ED → F__law_is_endless (endsP QD ED) (startD N__law_is_endless ds) := by
  rintro ds QD ED ⟨net, n, rfl, ok, q⟩
  unfold F__law_is_endless
  rw [show startD N__law_is_endless [netD net, .int n] = [.sh (netD net), .sh (.int n), .no] from rfl]
  simp only [fRet, fRet.stabR, fTuple, fB, g1, gTuple, gList, fList, fIx, f2R, gIx, fVar, fC, fCons, fNil, fTup, fLst, rCons, rNil, fSet, fAsg, tgName, tgTup, tgCons, tgNil, fYes, fAnd, fOr, fNot, fTest, boolW, gLt, gLe, gGt, gGe, gB2, f2, gI2, gI2C, fAdd, gAdd, fSub, fMul, gMul, fMod, fDiv, fPow, fNeg, f1, gNeg, fIfE, fAndV, fOrV, fNotV, fCall, fCallB, fCallBN, fCallN, fCallK, stab, Res.d, intW, fLen, gLen, fAbs, fInt, fMax2, fMin2, fMax3, gI1, gI2a, gI3a, fiSeq, gSeq, fiRng1, fiRng2, fiEnum, gEnum, fiRev, gRev, fiZip, gZip, fDrop, fNext, fBreak, fCont, fRetN, fShare, unown, fPar, parW, fPut, subW, fApp, appW, isOwL, fExt, extW, fSorted, gSorted, fListRg1, fListRev, fListKeys, fGet2, dictW, fDct0, fDct1, fRepr, gRepr, fAny, fAll, gBools, fSum, gSum, fMaxL, gMaxL, fMinL, gMinL, fChain, fSl, gSl, fPart, fNoP, fBagW, fBagI, fBagS, fBagIf, fScr, fBag, fBag2, nnW, wipeD, Res.ok, endsP, DL.endsL, endsO, gt0, gt1, gt2, gt3, gt4, gt5, gt6, gt7, gt8, gt9, gt10, gt11, gt12, gt13, gt14, gt15, st0, st1, st2, st3, st4, st5, st6, st7, st8, st9, st10, st11, st12, st13, st14, st15, Option.some.injEq, exists_eq_left', exists_eq_left, atI_zero, atI_one, atI_two, List.map_cons, List.map_nil, List.length_cons, List.length_nil, true_and, and_true, List.length_set, Bool.true_and, Bool.and_true, xor_f, xor_t]
  let out : D → D := fun d => match d with | .tuple [.tuple [.int a], .tuple [.int b]] => .bool (decide (a ≤ n) && decide (a < b)) | _ => .none
  refine flc_map (net.map stD) out (fun R hR => by simp only [fRet, fRet.stabR, fTuple, fB, g1, gTuple, gList, fList, fIx, f2R, gIx, fVar, fC, fCons, fNil, fTup, fLst, rCons, rNil, fSet, fAsg, tgName, tgTup, tgCons, tgNil, fYes, fAnd, fOr, fNot, fTest, boolW, gLt, gLe, gGt, gGe, gB2, f2, gI2, gI2C, fAdd, gAdd, fSub, fMul, gMul, fMod, fDiv, fPow, fNeg, f1, gNeg, fIfE, fAndV, fOrV, fNotV, fCall, fCallB, fCallBN, fCallN, fCallK, stab, Res.d, intW, fLen, gLen, fAbs, fInt, fMax2, fMin2, fMax3, gI1, gI2a, gI3a, fiSeq, gSeq, fiRng1, fiRng2, fiEnum, gEnum, fiRev, gRev, fiZip, gZip, fDrop, fNext, fBreak, fCont, fRetN, fShare, unown, fPar, parW, fPut, subW, fApp, appW, isOwL, fExt, extW, fSorted, gSorted, fListRg1, fListRev, fListKeys, fGet2, dictW, fDct0, fDct1, fRepr, gRepr, fAny, fAll, gBools, fSum, gSum, fMaxL, gMaxL, fMinL, gMinL, fChain, fSl, gSl, fPart, fNoP, fBagW, fBagI, fBagS, fBagIf, fScr, fBag, fBag2, nnW, wipeD, Res.ok, endsP, DL.endsL, endsO, gt0, gt1, gt2, gt3, gt4, gt5, gt6, gt7, gt8, gt9, gt10, gt11, gt12, gt13, gt14, gt15, st0, st1, st2, st3, st4, st5, st6, st7, st8, st9, st10, st11, st12, st13, st14, st15, Option.some.injEq, exists_eq_left', exists_eq_left, atI_zero, atI_one, atI_two, List.map_cons, List.map_nil, List.length_cons, List.length_nil, true_and, and_true, List.length_set, Bool.true_and, Bool.and_true, xor_f, xor_t, netD]; exact hR _) (by rw [List.length_map, sl_eq]; have := ok.1; omega) (fun d hd K k => ?_) ?_
  · obtain ⟨s, hs, rfl⟩ := List.mem_map.mp hd
    unfold stD at k ⊢
    simp only [fRet, fRet.stabR, fTuple, fB, g1, gTuple, gList, fList, fIx, f2R, gIx, fVar, fC, fCons, fNil, fTup, fLst, rCons, rNil, fSet, fAsg, tgName, tgTup, tgCons, tgNil, fYes, fAnd, fOr, fNot, fTest, boolW, gLt, gLe, gGt, gGe, gB2, f2, gI2, gI2C, fAdd, gAdd, fSub, fMul, gMul, fMod, fDiv, fPow, fNeg, f1, gNeg, fIfE, fAndV, fOrV, fNotV, fCall, fCallB, fCallBN, fCallN, fCallK, stab, Res.d, intW, fLen, gLen, fAbs, fInt, fMax2, fMin2, fMax3, gI1, gI2a, gI3a, fiSeq, gSeq, fiRng1, fiRng2, fiEnum, gEnum, fiRev, gRev, fiZip, gZip, fDrop, fNext, fBreak, fCont, fRetN, fShare, unown, fPar, parW, fPut, subW, fApp, appW, isOwL, fExt, extW, fSorted, gSorted, fListRg1, fListRev, fListKeys, fGet2, dictW, fDct0, fDct1, fRepr, gRepr, fAny, fAll, gBools, fSum, gSum, fMaxL, gMaxL, fMinL, gMinL, fChain, fSl, gSl, fPart, fNoP, fBagW, fBagI, fBagS, fBagIf, fScr, fBag, fBag2, nnW, wipeD, Res.ok, endsP, DL.endsL, endsO, gt0, gt1, gt2, gt3, gt4, gt5, gt6, gt7, gt8, gt9, gt10, gt11, gt12, gt13, gt14, gt15, st0, st1, st2, st3, st4, st5, st6, st7, st8, st9, st10, st11, st12, st13, st14, st15, Option.some.injEq, exists_eq_left', exists_eq_left, atI_zero, atI_one, atI_two, List.map_cons, List.map_nil, List.length_cons, List.length_nil, true_and, and_true, List.length_set, Bool.true_and, Bool.and_true, xor_f, xor_t]
    refine ⟨by decide, ?_⟩
    have k : K (.bool (decide (s.1 ≤ n) && decide (s.1 < s.2))) := k
    by_cases g : s.1 ≤ n
    · refine iteT' (decide_eq_true g) ?_
      rw [decide_eq_true g, Bool.true_and] at k
      exact k
    · refine iteF' (decide_eq_false g) ?_
      rw [decide_eq_false g, Bool.false_and] at k
      exact k
  · rw [List.map_map, show out ∘ stD = PyData.bool ∘ (fun s : Int × Int => decide (s.1 ≤ n) && decide (s.1 < s.2)) from rfl, ← List.map_map]
    simp only [fRet, fRet.stabR, fTuple, fB, g1, gTuple, gList, fList, fIx, f2R, gIx, fVar, fC, fCons, fNil, fTup, fLst, rCons, rNil, fSet, fAsg, tgName, tgTup, tgCons, tgNil, fYes, fAnd, fOr, fNot, fTest, boolW, gLt, gLe, gGt, gGe, gB2, f2, gI2, gI2C, fAdd, gAdd, fSub, fMul, gMul, fMod, fDiv, fPow, fNeg, f1, gNeg, fIfE, fAndV, fOrV, fNotV, fCall, fCallB, fCallBN, fCallN, fCallK, stab, Res.d, intW, fLen, gLen, fAbs, fInt, fMax2, fMin2, fMax3, gI1, gI2a, gI3a, fiSeq, gSeq, fiRng1, fiRng2, fiEnum, gEnum, fiRev, gRev, fiZip, gZip, fDrop, fNext, fBreak, fCont, fRetN, fShare, unown, fPar, parW, fPut, subW, fApp, appW, isOwL, fExt, extW, fSorted, gSorted, fListRg1, fListRev, fListKeys, fGet2, dictW, fDct0, fDct1, fRepr, gRepr, fAny, fAll, gBools, fSum, gSum, fMaxL, gMaxL, fMinL, gMinL, fChain, fSl, gSl, fPart, fNoP, fBagW, fBagI, fBagS, fBagIf, fScr, fBag, fBag2, nnW, wipeD, Res.ok, endsP, DL.endsL, endsO, gt0, gt1, gt2, gt3, gt4, gt5, gt6, gt7, gt8, gt9, gt10, gt11, gt12, gt13, gt14, gt15, st0, st1, st2, st3, st4, st5, st6, st7, st8, st9, st10, st11, st12, st13, st14, st15, Option.some.injEq, exists_eq_left', exists_eq_left, atI_zero, atI_one, atI_two, List.map_cons, List.map_nil, List.length_cons, List.length_nil, true_and, and_true, List.length_set, Bool.true_and, Bool.and_true, xor_f, xor_t]
    refine ⟨_, rfl, ?_⟩
    refine q _ ?_
    rw [List.any_map, List.any_eq_true]
    simp
end G61

namespace G61
open PySem PySem.Spec PyProof.Rows L2 DL
/-! ### the nets -/
def kind (take put way g n : Int) : Bool :=
  if way = 2 then decide (take ≤ put) else if way = 3 then decide (put < take) else if way = 4 then decide ((put - take) % g = 0) else if way = 5 then decide (4 ≤ take)
  else if way = 6 then (decide (put ≤ take) || decide (n < take)) else if way = 7 then decide (iAbs (put - take) < 2) else if way = 8 then decide (4 < put - take)
  else if way = 9 then (decide (take = 9) || (decide (take ≤ n) && decide (4 < put - take))) else if way = 10 then decide (iAbs (put - take) = 1) else if way = 11 then decide (put ≤ take) else if way = 12 then decide (put ≤ take) else true
def S_kind : SpD := fun ds QD _ => ∃ take put way g n : Int, ds = [.int take, .int put, .int way, .int g, .int n] ∧ 0 < g ∧ QD (.bool (kind take put way g n))
theorem q_or {a b : Bool} {Q : Bool → Prop} (h : Q (a || b)) : if a = true then Q true else Q b := by cases a <;> simpa using h
theorem q_and {a b : Bool} {Q : Bool → Prop} (h : Q (a && b)) : if a = true then Q b else Q false := by cases a <;> simpa using h
theorem l_kind : ∀ ds QD ED, S_kind ds QD ED → F__law_is_kind (endsP QD ED) (startD N__law_is_kind ds) := by
  rintro ds QD ED ⟨take, put, way, g, n, rfl, hg, q⟩
  unfold F__law_is_kind
  rw [show startD N__law_is_kind [.int take, .int put, .int way, .int g, .int n] = [.sh (.int take), .sh (.int put), .sh (.int way), .sh (.int g), .sh (.int n)] from rfl]
  unfold kind at q
  refine fseq_run (fif_run ?_)
  simp only [fRet, fRet.stabR, fTuple, fB, g1, gTuple, gList, fList, fIx, f2R, gIx, fVar, fC, fCons, fNil, fTup, fLst, rCons, rNil, fSet, fAsg, tgName, tgTup, tgCons, tgNil, fYes, fAnd, fOr, fNot, fTest, boolW, gLt, gLe, gGt, gGe, gB2, f2, gI2, gI2C, fAdd, gAdd, fSub, fMul, gMul, fMod, fDiv, fPow, fNeg, f1, gNeg, fIfE, fAndV, fOrV, fNotV, fCall, fCallB, fCallBN, fCallN, fCallK, stab, Res.d, intW, fLen, gLen, fAbs, fInt, fMax2, fMin2, fMax3, gI1, gI2a, gI3a, fiSeq, gSeq, fiRng1, fiRng2, fiEnum, gEnum, fiRev, gRev, fiZip, gZip, fDrop, fNext, fBreak, fCont, fRetN, fShare, unown, fPar, parW, fPut, subW, fApp, appW, isOwL, fExt, extW, fSorted, gSorted, fListRg1, fListRev, fListKeys, fGet2, dictW, fDct0, fDct1, fRepr, gRepr, fAny, fAll, gBools, fSum, gSum, fMaxL, gMaxL, fMinL, gMinL, fChain, fSl, gSl, fPart, fNoP, fBagW, fBagI, fBagS, fBagIf, fScr, fBag, fBag2, nnW, wipeD, Res.ok, endsP, DL.endsL, endsO, gt0, gt1, gt2, gt3, gt4, gt5, gt6, gt7, gt8, gt9, gt10, gt11, gt12, gt13, gt14, gt15, st0, st1, st2, st3, st4, st5, st6, st7, st8, st9, st10, st11, st12, st13, st14, st15, Option.some.injEq, exists_eq_left', exists_eq_left, atI_zero, atI_one, atI_two, List.map_cons, List.map_nil, List.length_cons, List.length_nil, true_and, and_true, List.length_set, Bool.true_and, Bool.and_true, xor_f, xor_t, gEq_int_eq]
  by_cases g2 : way = 2
  · rw [if_pos g2] at q
    refine iteT' (decide_eq_true g2) ?_
    exact q
  rw [if_neg g2] at q
  refine iteF' (decide_eq_false g2) ?_
  refine fseq_run (fif_run ?_)
  simp only [fRet, fRet.stabR, fTuple, fB, g1, gTuple, gList, fList, fIx, f2R, gIx, fVar, fC, fCons, fNil, fTup, fLst, rCons, rNil, fSet, fAsg, tgName, tgTup, tgCons, tgNil, fYes, fAnd, fOr, fNot, fTest, boolW, gLt, gLe, gGt, gGe, gB2, f2, gI2, gI2C, fAdd, gAdd, fSub, fMul, gMul, fMod, fDiv, fPow, fNeg, f1, gNeg, fIfE, fAndV, fOrV, fNotV, fCall, fCallB, fCallBN, fCallN, fCallK, stab, Res.d, intW, fLen, gLen, fAbs, fInt, fMax2, fMin2, fMax3, gI1, gI2a, gI3a, fiSeq, gSeq, fiRng1, fiRng2, fiEnum, gEnum, fiRev, gRev, fiZip, gZip, fDrop, fNext, fBreak, fCont, fRetN, fShare, unown, fPar, parW, fPut, subW, fApp, appW, isOwL, fExt, extW, fSorted, gSorted, fListRg1, fListRev, fListKeys, fGet2, dictW, fDct0, fDct1, fRepr, gRepr, fAny, fAll, gBools, fSum, gSum, fMaxL, gMaxL, fMinL, gMinL, fChain, fSl, gSl, fPart, fNoP, fBagW, fBagI, fBagS, fBagIf, fScr, fBag, fBag2, nnW, wipeD, Res.ok, endsP, DL.endsL, endsO, gt0, gt1, gt2, gt3, gt4, gt5, gt6, gt7, gt8, gt9, gt10, gt11, gt12, gt13, gt14, gt15, st0, st1, st2, st3, st4, st5, st6, st7, st8, st9, st10, st11, st12, st13, st14, st15, Option.some.injEq, exists_eq_left', exists_eq_left, atI_zero, atI_one, atI_two, List.map_cons, List.map_nil, List.length_cons, List.length_nil, true_and, and_true, List.length_set, Bool.true_and, Bool.and_true, xor_f, xor_t, gEq_int_eq]
  by_cases g3 : way = 3
  · rw [if_pos g3] at q
    refine iteT' (decide_eq_true g3) ?_
    exact q
  rw [if_neg g3] at q
  refine iteF' (decide_eq_false g3) ?_
  refine fseq_run (fif_run ?_)
  simp only [fRet, fRet.stabR, fTuple, fB, g1, gTuple, gList, fList, fIx, f2R, gIx, fVar, fC, fCons, fNil, fTup, fLst, rCons, rNil, fSet, fAsg, tgName, tgTup, tgCons, tgNil, fYes, fAnd, fOr, fNot, fTest, boolW, gLt, gLe, gGt, gGe, gB2, f2, gI2, gI2C, fAdd, gAdd, fSub, fMul, gMul, fMod, fDiv, fPow, fNeg, f1, gNeg, fIfE, fAndV, fOrV, fNotV, fCall, fCallB, fCallBN, fCallN, fCallK, stab, Res.d, intW, fLen, gLen, fAbs, fInt, fMax2, fMin2, fMax3, gI1, gI2a, gI3a, fiSeq, gSeq, fiRng1, fiRng2, fiEnum, gEnum, fiRev, gRev, fiZip, gZip, fDrop, fNext, fBreak, fCont, fRetN, fShare, unown, fPar, parW, fPut, subW, fApp, appW, isOwL, fExt, extW, fSorted, gSorted, fListRg1, fListRev, fListKeys, fGet2, dictW, fDct0, fDct1, fRepr, gRepr, fAny, fAll, gBools, fSum, gSum, fMaxL, gMaxL, fMinL, gMinL, fChain, fSl, gSl, fPart, fNoP, fBagW, fBagI, fBagS, fBagIf, fScr, fBag, fBag2, nnW, wipeD, Res.ok, endsP, DL.endsL, endsO, gt0, gt1, gt2, gt3, gt4, gt5, gt6, gt7, gt8, gt9, gt10, gt11, gt12, gt13, gt14, gt15, st0, st1, st2, st3, st4, st5, st6, st7, st8, st9, st10, st11, st12, st13, st14, st15, Option.some.injEq, exists_eq_left', exists_eq_left, atI_zero, atI_one, atI_two, List.map_cons, List.map_nil, List.length_cons, List.length_nil, true_and, and_true, List.length_set, Bool.true_and, Bool.and_true, xor_f, xor_t, gEq_int_eq]
  by_cases g4 : way = 4
  · rw [if_pos g4] at q
    refine iteT' (decide_eq_true g4) ?_
    exact ⟨hg, q⟩
  rw [if_neg g4] at q
  refine iteF' (decide_eq_false g4) ?_
  refine fseq_run (fif_run ?_)
  simp only [fRet, fRet.stabR, fTuple, fB, g1, gTuple, gList, fList, fIx, f2R, gIx, fVar, fC, fCons, fNil, fTup, fLst, rCons, rNil, fSet, fAsg, tgName, tgTup, tgCons, tgNil, fYes, fAnd, fOr, fNot, fTest, boolW, gLt, gLe, gGt, gGe, gB2, f2, gI2, gI2C, fAdd, gAdd, fSub, fMul, gMul, fMod, fDiv, fPow, fNeg, f1, gNeg, fIfE, fAndV, fOrV, fNotV, fCall, fCallB, fCallBN, fCallN, fCallK, stab, Res.d, intW, fLen, gLen, fAbs, fInt, fMax2, fMin2, fMax3, gI1, gI2a, gI3a, fiSeq, gSeq, fiRng1, fiRng2, fiEnum, gEnum, fiRev, gRev, fiZip, gZip, fDrop, fNext, fBreak, fCont, fRetN, fShare, unown, fPar, parW, fPut, subW, fApp, appW, isOwL, fExt, extW, fSorted, gSorted, fListRg1, fListRev, fListKeys, fGet2, dictW, fDct0, fDct1, fRepr, gRepr, fAny, fAll, gBools, fSum, gSum, fMaxL, gMaxL, fMinL, gMinL, fChain, fSl, gSl, fPart, fNoP, fBagW, fBagI, fBagS, fBagIf, fScr, fBag, fBag2, nnW, wipeD, Res.ok, endsP, DL.endsL, endsO, gt0, gt1, gt2, gt3, gt4, gt5, gt6, gt7, gt8, gt9, gt10, gt11, gt12, gt13, gt14, gt15, st0, st1, st2, st3, st4, st5, st6, st7, st8, st9, st10, st11, st12, st13, st14, st15, Option.some.injEq, exists_eq_left', exists_eq_left, atI_zero, atI_one, atI_two, List.map_cons, List.map_nil, List.length_cons, List.length_nil, true_and, and_true, List.length_set, Bool.true_and, Bool.and_true, xor_f, xor_t, gEq_int_eq]
  by_cases g5 : way = 5
  · rw [if_pos g5] at q
    refine iteT' (decide_eq_true g5) ?_
    exact q
  rw [if_neg g5] at q
  refine iteF' (decide_eq_false g5) ?_
  refine fseq_run (fif_run ?_)
  simp only [fRet, fRet.stabR, fTuple, fB, g1, gTuple, gList, fList, fIx, f2R, gIx, fVar, fC, fCons, fNil, fTup, fLst, rCons, rNil, fSet, fAsg, tgName, tgTup, tgCons, tgNil, fYes, fAnd, fOr, fNot, fTest, boolW, gLt, gLe, gGt, gGe, gB2, f2, gI2, gI2C, fAdd, gAdd, fSub, fMul, gMul, fMod, fDiv, fPow, fNeg, f1, gNeg, fIfE, fAndV, fOrV, fNotV, fCall, fCallB, fCallBN, fCallN, fCallK, stab, Res.d, intW, fLen, gLen, fAbs, fInt, fMax2, fMin2, fMax3, gI1, gI2a, gI3a, fiSeq, gSeq, fiRng1, fiRng2, fiEnum, gEnum, fiRev, gRev, fiZip, gZip, fDrop, fNext, fBreak, fCont, fRetN, fShare, unown, fPar, parW, fPut, subW, fApp, appW, isOwL, fExt, extW, fSorted, gSorted, fListRg1, fListRev, fListKeys, fGet2, dictW, fDct0, fDct1, fRepr, gRepr, fAny, fAll, gBools, fSum, gSum, fMaxL, gMaxL, fMinL, gMinL, fChain, fSl, gSl, fPart, fNoP, fBagW, fBagI, fBagS, fBagIf, fScr, fBag, fBag2, nnW, wipeD, Res.ok, endsP, DL.endsL, endsO, gt0, gt1, gt2, gt3, gt4, gt5, gt6, gt7, gt8, gt9, gt10, gt11, gt12, gt13, gt14, gt15, st0, st1, st2, st3, st4, st5, st6, st7, st8, st9, st10, st11, st12, st13, st14, st15, Option.some.injEq, exists_eq_left', exists_eq_left, atI_zero, atI_one, atI_two, List.map_cons, List.map_nil, List.length_cons, List.length_nil, true_and, and_true, List.length_set, Bool.true_and, Bool.and_true, xor_f, xor_t, gEq_int_eq]
  by_cases g6 : way = 6
  · rw [if_pos g6] at q
    refine iteT' (decide_eq_true g6) ?_
    exact q_or (Q := fun b => QD (.bool b)) q
  rw [if_neg g6] at q
  refine iteF' (decide_eq_false g6) ?_
  refine fseq_run (fif_run ?_)
  simp only [fRet, fRet.stabR, fTuple, fB, g1, gTuple, gList, fList, fIx, f2R, gIx, fVar, fC, fCons, fNil, fTup, fLst, rCons, rNil, fSet, fAsg, tgName, tgTup, tgCons, tgNil, fYes, fAnd, fOr, fNot, fTest, boolW, gLt, gLe, gGt, gGe, gB2, f2, gI2, gI2C, fAdd, gAdd, fSub, fMul, gMul, fMod, fDiv, fPow, fNeg, f1, gNeg, fIfE, fAndV, fOrV, fNotV, fCall, fCallB, fCallBN, fCallN, fCallK, stab, Res.d, intW, fLen, gLen, fAbs, fInt, fMax2, fMin2, fMax3, gI1, gI2a, gI3a, fiSeq, gSeq, fiRng1, fiRng2, fiEnum, gEnum, fiRev, gRev, fiZip, gZip, fDrop, fNext, fBreak, fCont, fRetN, fShare, unown, fPar, parW, fPut, subW, fApp, appW, isOwL, fExt, extW, fSorted, gSorted, fListRg1, fListRev, fListKeys, fGet2, dictW, fDct0, fDct1, fRepr, gRepr, fAny, fAll, gBools, fSum, gSum, fMaxL, gMaxL, fMinL, gMinL, fChain, fSl, gSl, fPart, fNoP, fBagW, fBagI, fBagS, fBagIf, fScr, fBag, fBag2, nnW, wipeD, Res.ok, endsP, DL.endsL, endsO, gt0, gt1, gt2, gt3, gt4, gt5, gt6, gt7, gt8, gt9, gt10, gt11, gt12, gt13, gt14, gt15, st0, st1, st2, st3, st4, st5, st6, st7, st8, st9, st10, st11, st12, st13, st14, st15, Option.some.injEq, exists_eq_left', exists_eq_left, atI_zero, atI_one, atI_two, List.map_cons, List.map_nil, List.length_cons, List.length_nil, true_and, and_true, List.length_set, Bool.true_and, Bool.and_true, xor_f, xor_t, gEq_int_eq]
  by_cases g7 : way = 7
  · rw [if_pos g7] at q
    refine iteT' (decide_eq_true g7) ?_
    exact q
  rw [if_neg g7] at q
  refine iteF' (decide_eq_false g7) ?_
  refine fseq_run (fif_run ?_)
  simp only [fRet, fRet.stabR, fTuple, fB, g1, gTuple, gList, fList, fIx, f2R, gIx, fVar, fC, fCons, fNil, fTup, fLst, rCons, rNil, fSet, fAsg, tgName, tgTup, tgCons, tgNil, fYes, fAnd, fOr, fNot, fTest, boolW, gLt, gLe, gGt, gGe, gB2, f2, gI2, gI2C, fAdd, gAdd, fSub, fMul, gMul, fMod, fDiv, fPow, fNeg, f1, gNeg, fIfE, fAndV, fOrV, fNotV, fCall, fCallB, fCallBN, fCallN, fCallK, stab, Res.d, intW, fLen, gLen, fAbs, fInt, fMax2, fMin2, fMax3, gI1, gI2a, gI3a, fiSeq, gSeq, fiRng1, fiRng2, fiEnum, gEnum, fiRev, gRev, fiZip, gZip, fDrop, fNext, fBreak, fCont, fRetN, fShare, unown, fPar, parW, fPut, subW, fApp, appW, isOwL, fExt, extW, fSorted, gSorted, fListRg1, fListRev, fListKeys, fGet2, dictW, fDct0, fDct1, fRepr, gRepr, fAny, fAll, gBools, fSum, gSum, fMaxL, gMaxL, fMinL, gMinL, fChain, fSl, gSl, fPart, fNoP, fBagW, fBagI, fBagS, fBagIf, fScr, fBag, fBag2, nnW, wipeD, Res.ok, endsP, DL.endsL, endsO, gt0, gt1, gt2, gt3, gt4, gt5, gt6, gt7, gt8, gt9, gt10, gt11, gt12, gt13, gt14, gt15, st0, st1, st2, st3, st4, st5, st6, st7, st8, st9, st10, st11, st12, st13, st14, st15, Option.some.injEq, exists_eq_left', exists_eq_left, atI_zero, atI_one, atI_two, List.map_cons, List.map_nil, List.length_cons, List.length_nil, true_and, and_true, List.length_set, Bool.true_and, Bool.and_true, xor_f, xor_t, gEq_int_eq]
  by_cases g8 : way = 8
  · rw [if_pos g8] at q
    refine iteT' (decide_eq_true g8) ?_
    exact q
  rw [if_neg g8] at q
  refine iteF' (decide_eq_false g8) ?_
  refine fseq_run (fif_run ?_)
  simp only [fRet, fRet.stabR, fTuple, fB, g1, gTuple, gList, fList, fIx, f2R, gIx, fVar, fC, fCons, fNil, fTup, fLst, rCons, rNil, fSet, fAsg, tgName, tgTup, tgCons, tgNil, fYes, fAnd, fOr, fNot, fTest, boolW, gLt, gLe, gGt, gGe, gB2, f2, gI2, gI2C, fAdd, gAdd, fSub, fMul, gMul, fMod, fDiv, fPow, fNeg, f1, gNeg, fIfE, fAndV, fOrV, fNotV, fCall, fCallB, fCallBN, fCallN, fCallK, stab, Res.d, intW, fLen, gLen, fAbs, fInt, fMax2, fMin2, fMax3, gI1, gI2a, gI3a, fiSeq, gSeq, fiRng1, fiRng2, fiEnum, gEnum, fiRev, gRev, fiZip, gZip, fDrop, fNext, fBreak, fCont, fRetN, fShare, unown, fPar, parW, fPut, subW, fApp, appW, isOwL, fExt, extW, fSorted, gSorted, fListRg1, fListRev, fListKeys, fGet2, dictW, fDct0, fDct1, fRepr, gRepr, fAny, fAll, gBools, fSum, gSum, fMaxL, gMaxL, fMinL, gMinL, fChain, fSl, gSl, fPart, fNoP, fBagW, fBagI, fBagS, fBagIf, fScr, fBag, fBag2, nnW, wipeD, Res.ok, endsP, DL.endsL, endsO, gt0, gt1, gt2, gt3, gt4, gt5, gt6, gt7, gt8, gt9, gt10, gt11, gt12, gt13, gt14, gt15, st0, st1, st2, st3, st4, st5, st6, st7, st8, st9, st10, st11, st12, st13, st14, st15, Option.some.injEq, exists_eq_left', exists_eq_left, atI_zero, atI_one, atI_two, List.map_cons, List.map_nil, List.length_cons, List.length_nil, true_and, and_true, List.length_set, Bool.true_and, Bool.and_true, xor_f, xor_t, gEq_int_eq]
  by_cases g9 : way = 9
  · rw [if_pos g9] at q
    refine iteT' (decide_eq_true g9) ?_
    refine q_or (Q := fun b => QD (.bool b)) (a := decide (take = 9)) (b := decide (take ≤ n) && decide (4 < put - take)) q |> fun z => ?_
    by_cases e1 : take = 9
    · rw [if_pos (decide_eq_true e1)] at z ⊢
      exact z
    · rw [if_neg (by rw [decide_eq_false e1]; decide)] at z
      refine iteF' (decide_eq_false e1) ?_
      exact q_and (Q := fun b => QD (.bool b)) z
  rw [if_neg g9] at q
  refine iteF' (decide_eq_false g9) ?_
  refine fseq_run (fif_run ?_)
  simp only [fRet, fRet.stabR, fTuple, fB, g1, gTuple, gList, fList, fIx, f2R, gIx, fVar, fC, fCons, fNil, fTup, fLst, rCons, rNil, fSet, fAsg, tgName, tgTup, tgCons, tgNil, fYes, fAnd, fOr, fNot, fTest, boolW, gLt, gLe, gGt, gGe, gB2, f2, gI2, gI2C, fAdd, gAdd, fSub, fMul, gMul, fMod, fDiv, fPow, fNeg, f1, gNeg, fIfE, fAndV, fOrV, fNotV, fCall, fCallB, fCallBN, fCallN, fCallK, stab, Res.d, intW, fLen, gLen, fAbs, fInt, fMax2, fMin2, fMax3, gI1, gI2a, gI3a, fiSeq, gSeq, fiRng1, fiRng2, fiEnum, gEnum, fiRev, gRev, fiZip, gZip, fDrop, fNext, fBreak, fCont, fRetN, fShare, unown, fPar, parW, fPut, subW, fApp, appW, isOwL, fExt, extW, fSorted, gSorted, fListRg1, fListRev, fListKeys, fGet2, dictW, fDct0, fDct1, fRepr, gRepr, fAny, fAll, gBools, fSum, gSum, fMaxL, gMaxL, fMinL, gMinL, fChain, fSl, gSl, fPart, fNoP, fBagW, fBagI, fBagS, fBagIf, fScr, fBag, fBag2, nnW, wipeD, Res.ok, endsP, DL.endsL, endsO, gt0, gt1, gt2, gt3, gt4, gt5, gt6, gt7, gt8, gt9, gt10, gt11, gt12, gt13, gt14, gt15, st0, st1, st2, st3, st4, st5, st6, st7, st8, st9, st10, st11, st12, st13, st14, st15, Option.some.injEq, exists_eq_left', exists_eq_left, atI_zero, atI_one, atI_two, List.map_cons, List.map_nil, List.length_cons, List.length_nil, true_and, and_true, List.length_set, Bool.true_and, Bool.and_true, xor_f, xor_t, gEq_int_eq]
  by_cases g10 : way = 10
  · rw [if_pos g10] at q
    refine iteT' (decide_eq_true g10) ?_
    exact q
  rw [if_neg g10] at q
  refine iteF' (decide_eq_false g10) ?_
  refine fseq_run (fif_run ?_)
  simp only [fRet, fRet.stabR, fTuple, fB, g1, gTuple, gList, fList, fIx, f2R, gIx, fVar, fC, fCons, fNil, fTup, fLst, rCons, rNil, fSet, fAsg, tgName, tgTup, tgCons, tgNil, fYes, fAnd, fOr, fNot, fTest, boolW, gLt, gLe, gGt, gGe, gB2, f2, gI2, gI2C, fAdd, gAdd, fSub, fMul, gMul, fMod, fDiv, fPow, fNeg, f1, gNeg, fIfE, fAndV, fOrV, fNotV, fCall, fCallB, fCallBN, fCallN, fCallK, stab, Res.d, intW, fLen, gLen, fAbs, fInt, fMax2, fMin2, fMax3, gI1, gI2a, gI3a, fiSeq, gSeq, fiRng1, fiRng2, fiEnum, gEnum, fiRev, gRev, fiZip, gZip, fDrop, fNext, fBreak, fCont, fRetN, fShare, unown, fPar, parW, fPut, subW, fApp, appW, isOwL, fExt, extW, fSorted, gSorted, fListRg1, fListRev, fListKeys, fGet2, dictW, fDct0, fDct1, fRepr, gRepr, fAny, fAll, gBools, fSum, gSum, fMaxL, gMaxL, fMinL, gMinL, fChain, fSl, gSl, fPart, fNoP, fBagW, fBagI, fBagS, fBagIf, fScr, fBag, fBag2, nnW, wipeD, Res.ok, endsP, DL.endsL, endsO, gt0, gt1, gt2, gt3, gt4, gt5, gt6, gt7, gt8, gt9, gt10, gt11, gt12, gt13, gt14, gt15, st0, st1, st2, st3, st4, st5, st6, st7, st8, st9, st10, st11, st12, st13, st14, st15, Option.some.injEq, exists_eq_left', exists_eq_left, atI_zero, atI_one, atI_two, List.map_cons, List.map_nil, List.length_cons, List.length_nil, true_and, and_true, List.length_set, Bool.true_and, Bool.and_true, xor_f, xor_t, gEq_int_eq]
  by_cases g11 : way = 11
  · rw [if_pos g11] at q
    refine iteT' (decide_eq_true g11) ?_
    exact q
  rw [if_neg g11] at q
  refine iteF' (decide_eq_false g11) ?_
  by_cases g12 : way = 12
  · rw [if_pos g12] at q
    exact iteT' (decide_eq_true g12) q
  rw [if_neg g12] at q
  exact iteF' (decide_eq_false g12) q

def prD (p : Int × Int) : D := .tuple [.int p.1, .int p.2]
def Wt (p : Int × Int) : Prop := (0 ≤ p.1 ∧ p.1 ≤ 9) ∧ 0 ≤ p.2 ∧ p.2 ≤ 9
def S_net : SpD := fun ds QD _ => ∃ n way : Int, ds = [.int n, .int 12, .int way] ∧ (0 ≤ n ∧ n ≤ 300) ∧ (0 ≤ way ∧ way ≤ 13) ∧ ∀ net, NetOk net → QD (netD net)
/-- some step is of each kind -/
theorem kind_some (way g n : Int) (hg : 0 < g) (h0 : 0 ≤ way) (h1 : way ≤ 13) : ∃ k : Nat, k < 100 ∧ kind ((k : Int) / 10) ((k : Int) % 10) way g n = true := by
  by_cases g3 : way = 3
  · exact ⟨10, by decide, by subst g3; rfl⟩
  by_cases g5 : way = 5
  · exact ⟨40, by decide, by subst g5; rfl⟩
  by_cases g8 : way = 8
  · exact ⟨5, by decide, by subst g8; rfl⟩
  by_cases g9 : way = 9
  · exact ⟨90, by decide, by subst g9; rfl⟩
  by_cases g10 : way = 10
  · exact ⟨1, by decide, by subst g10; rfl⟩
  by_cases g4 : way = 4
  · exact ⟨0, by decide, by subst g4; simp [kind]⟩
  refine ⟨0, by decide, ?_⟩
  unfold kind
  by_cases g2 : way = 2
  · rw [if_pos g2]; rfl
  rw [if_neg g2, if_neg g3, if_neg g4, if_neg g5]
  by_cases g6 : way = 6
  · rw [if_pos g6]; rfl
  rw [if_neg g6]
  by_cases g7 : way = 7
  · rw [if_pos g7]; rfl
  rw [if_neg g7, if_neg g8, if_neg g9, if_neg g10]
  by_cases g11 : way = 11
  · rw [if_pos g11]; rfl
  rw [if_neg g11]
  by_cases g12 : way = 12
  · rw [if_pos g12]; rfl
  rw [if_neg g12]
def NW (n way g : Int) (so many s7 s8 s9 s10 s11 : Slot) : List Slot := [.bag, .sh (.int n), .sh (.int 12), .sh (.int way), .sh (.int g), so, many, s7, s8, s9, s10, s11]
theorem l_net : ∀ ds QD ED, S_net ds QD ED → F__law_net S_draw S_pick S_kind (endsP QD ED) (startB N__law_net ds) := by
  rintro ds QD ED ⟨n, way, rfl, ⟨hn0, hn⟩, ⟨hw0, hw⟩, q⟩
  unfold F__law_net
  rw [show startB N__law_net [.int n, .int 12, .int way] = [.bag, .sh (.int n), .sh (.int 12), .sh (.int way), .no, .no, .no, .no, .no, .no, .no, .no] from rfl]
  refine fseq_join (fun δ => ∃ g, δ = NW n way g .no .no .no .no .no .no .no ∧ 0 < g) (fun nx hx => ?_) ?_
  · simp only [fRet, fRet.stabR, fTuple, fB, g1, gTuple, gList, fList, fIx, f2R, gIx, fVar, fC, fCons, fNil, fTup, fLst, rCons, rNil, fSet, fAsg, tgName, tgTup, tgCons, tgNil, fYes, fAnd, fOr, fNot, fTest, boolW, gLt, gLe, gGt, gGe, gB2, f2, gI2, gI2C, fAdd, gAdd, fSub, fMul, gMul, fMod, fDiv, fPow, fNeg, f1, gNeg, fIfE, fAndV, fOrV, fNotV, fCall, fCallB, fCallBN, fCallN, fCallK, stab, Res.d, intW, fLen, gLen, fAbs, fInt, fMax2, fMin2, fMax3, gI1, gI2a, gI3a, fiSeq, gSeq, fiRng1, fiRng2, fiEnum, gEnum, fiRev, gRev, fiZip, gZip, fDrop, fNext, fBreak, fCont, fRetN, fShare, unown, fPar, parW, fPut, subW, fApp, appW, isOwL, fExt, extW, fSorted, gSorted, fListRg1, fListRev, fListKeys, fGet2, dictW, fDct0, fDct1, fRepr, gRepr, fAny, fAll, gBools, fSum, gSum, fMaxL, gMaxL, fMinL, gMinL, fChain, fSl, gSl, fPart, fNoP, fBagW, fBagI, fBagS, fBagIf, fScr, fBag, fBag2, nnW, wipeD, Res.ok, endsP, DL.endsL, endsO, gt0, gt1, gt2, gt3, gt4, gt5, gt6, gt7, gt8, gt9, gt10, gt11, gt12, gt13, gt14, gt15, st0, st1, st2, st3, st4, st5, st6, st7, st8, st9, st10, st11, st12, st13, st14, st15, Option.some.injEq, exists_eq_left', exists_eq_left, atI_zero, atI_one, atI_two, List.map_cons, List.map_nil, List.length_cons, List.length_nil, true_and, and_true, List.length_set, Bool.true_and, Bool.and_true, xor_f, xor_t, imin]
    exact ⟨11, rfl, by decide, by decide, fun r h0 h1 => ⟨by decide, hx _ ⟨_, rfl, by omega⟩⟩⟩
  rintro δ ⟨g, rfl, hg⟩
  unfold NW
  let out : Nat → Int × Int := fun k => ((k : Int) / 10, (k : Int) % 10)
  refine fseq_join (fun δ => ∃ ps : List (Int × Int), δ = NW n way g (.ow (.list (ps.map prD))) .no .no .no .no .no .no ∧ ps ≠ [] ∧ ps.length ≤ 100 ∧ ∀ p ∈ ps, Wt p) (fun nx hx => ?_) ?_
  · simp only [fRet, fRet.stabR, fTuple, fB, g1, gTuple, gList, fList, fIx, f2R, gIx, fVar, fC, fCons, fNil, fTup, fLst, rCons, rNil, fSet, fAsg, tgName, tgTup, tgCons, tgNil, fYes, fAnd, fOr, fNot, fTest, boolW, gLt, gLe, gGt, gGe, gB2, f2, gI2, gI2C, fAdd, gAdd, fSub, fMul, gMul, fMod, fDiv, fPow, fNeg, f1, gNeg, fIfE, fAndV, fOrV, fNotV, fCall, fCallB, fCallBN, fCallN, fCallK, stab, Res.d, intW, fLen, gLen, fAbs, fInt, fMax2, fMin2, fMax3, gI1, gI2a, gI3a, fiSeq, gSeq, fiRng1, fiRng2, fiEnum, gEnum, fiRev, gRev, fiZip, gZip, fDrop, fNext, fBreak, fCont, fRetN, fShare, unown, fPar, parW, fPut, subW, fApp, appW, isOwL, fExt, extW, fSorted, gSorted, fListRg1, fListRev, fListKeys, fGet2, dictW, fDct0, fDct1, fRepr, gRepr, fAny, fAll, gBools, fSum, gSum, fMaxL, gMaxL, fMinL, gMinL, fChain, fSl, gSl, fPart, fNoP, fBagW, fBagI, fBagS, fBagIf, fScr, fBag, fBag2, nnW, wipeD, Res.ok, endsP, DL.endsL, endsO, gt0, gt1, gt2, gt3, gt4, gt5, gt6, gt7, gt8, gt9, gt10, gt11, gt12, gt13, gt14, gt15, st0, st1, st2, st3, st4, st5, st6, st7, st8, st9, st10, st11, st12, st13, st14, st15, Option.some.injEq, exists_eq_left', exists_eq_left, atI_zero, atI_one, atI_two, List.map_cons, List.map_nil, List.length_cons, List.length_nil, true_and, and_true, List.length_set, Bool.true_and, Bool.and_true, xor_f, xor_t]
    refine flc_filter (List.range 100) (fun k : Nat => .int k) (fun k => kind ((k : Int) / 10) ((k : Int) % 10) way g n) (fun k => prD (out k)) (fun R hR => ?_) (by rw [List.length_range, sl_eq]; omega) (fun k hk K k1 k2 => ?_) ?_
    · simp only [fRet, fRet.stabR, fTuple, fB, g1, gTuple, gList, fList, fIx, f2R, gIx, fVar, fC, fCons, fNil, fTup, fLst, rCons, rNil, fSet, fAsg, tgName, tgTup, tgCons, tgNil, fYes, fAnd, fOr, fNot, fTest, boolW, gLt, gLe, gGt, gGe, gB2, f2, gI2, gI2C, fAdd, gAdd, fSub, fMul, gMul, fMod, fDiv, fPow, fNeg, f1, gNeg, fIfE, fAndV, fOrV, fNotV, fCall, fCallB, fCallBN, fCallN, fCallK, stab, Res.d, intW, fLen, gLen, fAbs, fInt, fMax2, fMin2, fMax3, gI1, gI2a, gI3a, fiSeq, gSeq, fiRng1, fiRng2, fiEnum, gEnum, fiRev, gRev, fiZip, gZip, fDrop, fNext, fBreak, fCont, fRetN, fShare, unown, fPar, parW, fPut, subW, fApp, appW, isOwL, fExt, extW, fSorted, gSorted, fListRg1, fListRev, fListKeys, fGet2, dictW, fDct0, fDct1, fRepr, gRepr, fAny, fAll, gBools, fSum, gSum, fMaxL, gMaxL, fMinL, gMinL, fChain, fSl, gSl, fPart, fNoP, fBagW, fBagI, fBagS, fBagIf, fScr, fBag, fBag2, nnW, wipeD, Res.ok, endsP, DL.endsL, endsO, gt0, gt1, gt2, gt3, gt4, gt5, gt6, gt7, gt8, gt9, gt10, gt11, gt12, gt13, gt14, gt15, st0, st1, st2, st3, st4, st5, st6, st7, st8, st9, st10, st11, st12, st13, st14, st15, Option.some.injEq, exists_eq_left', exists_eq_left, atI_zero, atI_one, atI_two, List.map_cons, List.map_nil, List.length_cons, List.length_nil, true_and, and_true, List.length_set, Bool.true_and, Bool.and_true, xor_f, xor_t]
      refine ⟨⟨by decide, by decide⟩, ?_⟩
      have := hR true
      rw [← rgD_eq] at this
      exact this
    · simp only [fRet, fRet.stabR, fTuple, fB, g1, gTuple, gList, fList, fIx, f2R, gIx, fVar, fC, fCons, fNil, fTup, fLst, rCons, rNil, fSet, fAsg, tgName, tgTup, tgCons, tgNil, fYes, fAnd, fOr, fNot, fTest, boolW, gLt, gLe, gGt, gGe, gB2, f2, gI2, gI2C, fAdd, gAdd, fSub, fMul, gMul, fMod, fDiv, fPow, fNeg, f1, gNeg, fIfE, fAndV, fOrV, fNotV, fCall, fCallB, fCallBN, fCallN, fCallK, stab, Res.d, intW, fLen, gLen, fAbs, fInt, fMax2, fMin2, fMax3, gI1, gI2a, gI3a, fiSeq, gSeq, fiRng1, fiRng2, fiEnum, gEnum, fiRev, gRev, fiZip, gZip, fDrop, fNext, fBreak, fCont, fRetN, fShare, unown, fPar, parW, fPut, subW, fApp, appW, isOwL, fExt, extW, fSorted, gSorted, fListRg1, fListRev, fListKeys, fGet2, dictW, fDct0, fDct1, fRepr, gRepr, fAny, fAll, gBools, fSum, gSum, fMaxL, gMaxL, fMinL, gMinL, fChain, fSl, gSl, fPart, fNoP, fBagW, fBagI, fBagS, fBagIf, fScr, fBag, fBag2, nnW, wipeD, Res.ok, endsP, DL.endsL, endsO, gt0, gt1, gt2, gt3, gt4, gt5, gt6, gt7, gt8, gt9, gt10, gt11, gt12, gt13, gt14, gt15, st0, st1, st2, st3, st4, st5, st6, st7, st8, st9, st10, st11, st12, st13, st14, st15, Option.some.injEq, exists_eq_left', exists_eq_left, atI_zero, atI_one, atI_two, List.map_cons, List.map_nil, List.length_cons, List.length_nil, true_and, and_true, List.length_set, Bool.true_and, Bool.and_true, xor_f, xor_t]
      refine ⟨by decide, ⟨by decide, by decide⟩, by decide, _, _, _, _, _, rfl, hg, ?_⟩
      simp only [fRet, fRet.stabR, fTuple, fB, g1, gTuple, gList, fList, fIx, f2R, gIx, fVar, fC, fCons, fNil, fTup, fLst, rCons, rNil, fSet, fAsg, tgName, tgTup, tgCons, tgNil, fYes, fAnd, fOr, fNot, fTest, boolW, gLt, gLe, gGt, gGe, gB2, f2, gI2, gI2C, fAdd, gAdd, fSub, fMul, gMul, fMod, fDiv, fPow, fNeg, f1, gNeg, fIfE, fAndV, fOrV, fNotV, fCall, fCallB, fCallBN, fCallN, fCallK, stab, Res.d, intW, fLen, gLen, fAbs, fInt, fMax2, fMin2, fMax3, gI1, gI2a, gI3a, fiSeq, gSeq, fiRng1, fiRng2, fiEnum, gEnum, fiRev, gRev, fiZip, gZip, fDrop, fNext, fBreak, fCont, fRetN, fShare, unown, fPar, parW, fPut, subW, fApp, appW, isOwL, fExt, extW, fSorted, gSorted, fListRg1, fListRev, fListKeys, fGet2, dictW, fDct0, fDct1, fRepr, gRepr, fAny, fAll, gBools, fSum, gSum, fMaxL, gMaxL, fMinL, gMinL, fChain, fSl, gSl, fPart, fNoP, fBagW, fBagI, fBagS, fBagIf, fScr, fBag, fBag2, nnW, wipeD, Res.ok, endsP, DL.endsL, endsO, gt0, gt1, gt2, gt3, gt4, gt5, gt6, gt7, gt8, gt9, gt10, gt11, gt12, gt13, gt14, gt15, st0, st1, st2, st3, st4, st5, st6, st7, st8, st9, st10, st11, st12, st13, st14, st15, Option.some.injEq, exists_eq_left', exists_eq_left, atI_zero, atI_one, atI_two, List.map_cons, List.map_nil, List.length_cons, List.length_nil, true_and, and_true, List.length_set, Bool.true_and, Bool.and_true, xor_f, xor_t]
      by_cases e : kind ((k : Int) / 10) ((k : Int) % 10) way g n = true
      · refine iteT' e ?_
        exact ⟨⟨by decide, by decide⟩, by decide, by decide, k1 e⟩
      · refine iteF' (by simpa using e) (k2 (by simpa using e))
    · simp only [fRet, fRet.stabR, fTuple, fB, g1, gTuple, gList, fList, fIx, f2R, gIx, fVar, fC, fCons, fNil, fTup, fLst, rCons, rNil, fSet, fAsg, tgName, tgTup, tgCons, tgNil, fYes, fAnd, fOr, fNot, fTest, boolW, gLt, gLe, gGt, gGe, gB2, f2, gI2, gI2C, fAdd, gAdd, fSub, fMul, gMul, fMod, fDiv, fPow, fNeg, f1, gNeg, fIfE, fAndV, fOrV, fNotV, fCall, fCallB, fCallBN, fCallN, fCallK, stab, Res.d, intW, fLen, gLen, fAbs, fInt, fMax2, fMin2, fMax3, gI1, gI2a, gI3a, fiSeq, gSeq, fiRng1, fiRng2, fiEnum, gEnum, fiRev, gRev, fiZip, gZip, fDrop, fNext, fBreak, fCont, fRetN, fShare, unown, fPar, parW, fPut, subW, fApp, appW, isOwL, fExt, extW, fSorted, gSorted, fListRg1, fListRev, fListKeys, fGet2, dictW, fDct0, fDct1, fRepr, gRepr, fAny, fAll, gBools, fSum, gSum, fMaxL, gMaxL, fMinL, gMinL, fChain, fSl, gSl, fPart, fNoP, fBagW, fBagI, fBagS, fBagIf, fScr, fBag, fBag2, nnW, wipeD, Res.ok, endsP, DL.endsL, endsO, gt0, gt1, gt2, gt3, gt4, gt5, gt6, gt7, gt8, gt9, gt10, gt11, gt12, gt13, gt14, gt15, st0, st1, st2, st3, st4, st5, st6, st7, st8, st9, st10, st11, st12, st13, st14, st15, Option.some.injEq, exists_eq_left', exists_eq_left, atI_zero, atI_one, atI_two, List.map_cons, List.map_nil, List.length_cons, List.length_nil, true_and, and_true, List.length_set, Bool.true_and, Bool.and_true, xor_f, xor_t]
      refine ⟨by decide, hx _ ⟨((List.range 100).filter fun k : Nat => kind ((k : Int) / 10) ((k : Int) % 10) way g n).map out, by rw [List.map_map]; rfl, fun z => ?_, ?_, fun p hp => ?_⟩⟩
      · obtain ⟨k, hk, e⟩ := kind_some way g n hg hw0 hw
        rw [List.map_eq_nil_iff, List.filter_eq_nil_iff] at z
        exact z k (List.mem_range.mpr hk) e
      · rw [List.length_map]
        exact Nat.le_trans (List.length_filter_le _ _) (Nat.le_of_eq List.length_range)
      · obtain ⟨k, hk, rfl⟩ := List.mem_map.mp hp
        have := List.mem_range.mp (List.mem_filter.mp hk).1
        exact ⟨⟨by show 0 ≤ (k : Int) / 10; omega, by show (k : Int) / 10 ≤ 9; omega⟩, by show 0 ≤ (k : Int) % 10; omega, by show (k : Int) % 10 ≤ 9; omega⟩
  rintro δ ⟨ps, rfl, hne, hlen, hps⟩
  unfold NW
  refine fseq_join (fun δ => ∃ many : Int, δ = NW n way g (.ow (.list (ps.map prD))) (.sh (.int many)) .no .no .no .no .no ∧ (0 ≤ many ∧ many ≤ 12) ∧ (5 ≤ way → 1 ≤ many ∧ many ≤ 3)) (fun nx hx => ?_) ?_
  · simp only [fRet, fRet.stabR, fTuple, fB, g1, gTuple, gList, fList, fIx, f2R, gIx, fVar, fC, fCons, fNil, fTup, fLst, rCons, rNil, fSet, fAsg, tgName, tgTup, tgCons, tgNil, fYes, fAnd, fOr, fNot, fTest, boolW, gLt, gLe, gGt, gGe, gB2, f2, gI2, gI2C, fAdd, gAdd, fSub, fMul, gMul, fMod, fDiv, fPow, fNeg, f1, gNeg, fIfE, fAndV, fOrV, fNotV, fCall, fCallB, fCallBN, fCallN, fCallK, stab, Res.d, intW, fLen, gLen, fAbs, fInt, fMax2, fMin2, fMax3, gI1, gI2a, gI3a, fiSeq, gSeq, fiRng1, fiRng2, fiEnum, gEnum, fiRev, gRev, fiZip, gZip, fDrop, fNext, fBreak, fCont, fRetN, fShare, unown, fPar, parW, fPut, subW, fApp, appW, isOwL, fExt, extW, fSorted, gSorted, fListRg1, fListRev, fListKeys, fGet2, dictW, fDct0, fDct1, fRepr, gRepr, fAny, fAll, gBools, fSum, gSum, fMaxL, gMaxL, fMinL, gMinL, fChain, fSl, gSl, fPart, fNoP, fBagW, fBagI, fBagS, fBagIf, fScr, fBag, fBag2, nnW, wipeD, Res.ok, endsP, DL.endsL, endsO, gt0, gt1, gt2, gt3, gt4, gt5, gt6, gt7, gt8, gt9, gt10, gt11, gt12, gt13, gt14, gt15, st0, st1, st2, st3, st4, st5, st6, st7, st8, st9, st10, st11, st12, st13, st14, st15, Option.some.injEq, exists_eq_left', exists_eq_left, atI_zero, atI_one, atI_two, List.map_cons, List.map_nil, List.length_cons, List.length_nil, true_and, and_true, List.length_set, Bool.true_and, Bool.and_true, xor_f, xor_t, gEq_int_eq]
    by_cases g1 : way = 1
    · refine iteT' (decide_eq_true g1) ⟨by decide, hx _ ⟨12, rfl, by omega, by omega⟩⟩
    refine iteF' (decide_eq_false g1) ?_
    by_cases g2 : way < 5
    · refine iteT' (decide_eq_true g2) ⟨13, rfl, by decide, by decide, fun r h0 h1 => ⟨by decide, hx _ ⟨r, rfl, by omega, by omega⟩⟩⟩
    refine iteF' (decide_eq_false g2) ⟨3, rfl, by decide, by decide, fun r h0 h1 => ⟨by decide, hx _ ⟨1 + r, rfl, by omega, by omega⟩⟩⟩
  rintro δ ⟨many, rfl, ⟨hm0, hm1⟩, hm2⟩
  unfold NW
  refine fseq_join (fun δ => ∃ rs : List (Int × Int), δ = NW n way g (.sh (.list (ps.map prD))) (.sh (.int many)) (.ow (.list (rs.map prD))) .no .no .no .no ∧ rs.length ≤ 12 ∧ (5 ≤ way → 1 ≤ rs.length) ∧ ∀ p ∈ rs, Wt p) (fun nx hx => ?_) ?_
  · simp only [fRet, fRet.stabR, fTuple, fB, g1, gTuple, gList, fList, fIx, f2R, gIx, fVar, fC, fCons, fNil, fTup, fLst, rCons, rNil, fSet, fAsg, tgName, tgTup, tgCons, tgNil, fYes, fAnd, fOr, fNot, fTest, boolW, gLt, gLe, gGt, gGe, gB2, f2, gI2, gI2C, fAdd, gAdd, fSub, fMul, gMul, fMod, fDiv, fPow, fNeg, f1, gNeg, fIfE, fAndV, fOrV, fNotV, fCall, fCallB, fCallBN, fCallN, fCallK, stab, Res.d, intW, fLen, gLen, fAbs, fInt, fMax2, fMin2, fMax3, gI1, gI2a, gI3a, fiSeq, gSeq, fiRng1, fiRng2, fiEnum, gEnum, fiRev, gRev, fiZip, gZip, fDrop, fNext, fBreak, fCont, fRetN, fShare, unown, fPar, parW, fPut, subW, fApp, appW, isOwL, fExt, extW, fSorted, gSorted, fListRg1, fListRev, fListKeys, fGet2, dictW, fDct0, fDct1, fRepr, gRepr, fAny, fAll, gBools, fSum, gSum, fMaxL, gMaxL, fMinL, gMinL, fChain, fSl, gSl, fPart, fNoP, fBagW, fBagI, fBagS, fBagIf, fScr, fBag, fBag2, nnW, wipeD, Res.ok, endsP, DL.endsL, endsO, gt0, gt1, gt2, gt3, gt4, gt5, gt6, gt7, gt8, gt9, gt10, gt11, gt12, gt13, gt14, gt15, st0, st1, st2, st3, st4, st5, st6, st7, st8, st9, st10, st11, st12, st13, st14, st15, Option.some.injEq, exists_eq_left', exists_eq_left, atI_zero, atI_one, atI_two, List.map_cons, List.map_nil, List.length_cons, List.length_nil, true_and, and_true, List.length_set, Bool.true_and, Bool.and_true, xor_f, xor_t]
    let cnt : Nat := (many + if way = 9 then 1 else 0).toNat
    have hc : ((cnt : Nat) : Int) = many + if way = 9 then 1 else 0 := by
      show (((many + if way = 9 then 1 else 0).toNat : Nat) : Int) = _
      split <;> omega
    refine flc_all (rgD 0 (cnt : Nat)) (fun y => ∃ p, y = prD p ∧ Wt p) (fun R hR => ?_) (by rw [rgD_len, sl_eq]; split at hc <;> omega) (fun d hd K k => ?_) (fun ys hl hy => ?_)
    · simp only [fRet, fRet.stabR, fTuple, fB, g1, gTuple, gList, fList, fIx, f2R, gIx, fVar, fC, fCons, fNil, fTup, fLst, rCons, rNil, fSet, fAsg, tgName, tgTup, tgCons, tgNil, fYes, fAnd, fOr, fNot, fTest, boolW, gLt, gLe, gGt, gGe, gB2, f2, gI2, gI2C, fAdd, gAdd, fSub, fMul, gMul, fMod, fDiv, fPow, fNeg, f1, gNeg, fIfE, fAndV, fOrV, fNotV, fCall, fCallB, fCallBN, fCallN, fCallK, stab, Res.d, intW, fLen, gLen, fAbs, fInt, fMax2, fMin2, fMax3, gI1, gI2a, gI3a, fiSeq, gSeq, fiRng1, fiRng2, fiEnum, gEnum, fiRev, gRev, fiZip, gZip, fDrop, fNext, fBreak, fCont, fRetN, fShare, unown, fPar, parW, fPut, subW, fApp, appW, isOwL, fExt, extW, fSorted, gSorted, fListRg1, fListRev, fListKeys, fGet2, dictW, fDct0, fDct1, fRepr, gRepr, fAny, fAll, gBools, fSum, gSum, fMaxL, gMaxL, fMinL, gMinL, fChain, fSl, gSl, fPart, fNoP, fBagW, fBagI, fBagS, fBagIf, fScr, fBag, fBag2, nnW, wipeD, Res.ok, endsP, DL.endsL, endsO, gt0, gt1, gt2, gt3, gt4, gt5, gt6, gt7, gt8, gt9, gt10, gt11, gt12, gt13, gt14, gt15, st0, st1, st2, st3, st4, st5, st6, st7, st8, st9, st10, st11, st12, st13, st14, st15, Option.some.injEq, exists_eq_left', exists_eq_left, atI_zero, atI_one, atI_two, List.map_cons, List.map_nil, List.length_cons, List.length_nil, true_and, and_true, List.length_set, Bool.true_and, Bool.and_true, xor_f, xor_t, gEq_int_eq]
      by_cases g9 : way = 9
      · rw [if_pos g9] at hc
        refine iteT' (decide_eq_true g9) ⟨⟨by omega, by omega⟩, ?_⟩
        rw [← hc]
        exact hR _
      · rw [if_neg g9] at hc
        refine iteF' (decide_eq_false g9) ⟨⟨by omega, by omega⟩, ?_⟩
        rw [← hc]
        exact hR _
    · obtain ⟨i, _, rfl⟩ := rgD_mem hd
      simp only [fRet, fRet.stabR, fTuple, fB, g1, gTuple, gList, fList, fIx, f2R, gIx, fVar, fC, fCons, fNil, fTup, fLst, rCons, rNil, fSet, fAsg, tgName, tgTup, tgCons, tgNil, fYes, fAnd, fOr, fNot, fTest, boolW, gLt, gLe, gGt, gGe, gB2, f2, gI2, gI2C, fAdd, gAdd, fSub, fMul, gMul, fMod, fDiv, fPow, fNeg, f1, gNeg, fIfE, fAndV, fOrV, fNotV, fCall, fCallB, fCallBN, fCallN, fCallK, stab, Res.d, intW, fLen, gLen, fAbs, fInt, fMax2, fMin2, fMax3, gI1, gI2a, gI3a, fiSeq, gSeq, fiRng1, fiRng2, fiEnum, gEnum, fiRev, gRev, fiZip, gZip, fDrop, fNext, fBreak, fCont, fRetN, fShare, unown, fPar, parW, fPut, subW, fApp, appW, isOwL, fExt, extW, fSorted, gSorted, fListRg1, fListRev, fListKeys, fGet2, dictW, fDct0, fDct1, fRepr, gRepr, fAny, fAll, gBools, fSum, gSum, fMaxL, gMaxL, fMinL, gMinL, fChain, fSl, gSl, fPart, fNoP, fBagW, fBagI, fBagS, fBagIf, fScr, fBag, fBag2, nnW, wipeD, Res.ok, endsP, DL.endsL, endsO, gt0, gt1, gt2, gt3, gt4, gt5, gt6, gt7, gt8, gt9, gt10, gt11, gt12, gt13, gt14, gt15, st0, st1, st2, st3, st4, st5, st6, st7, st8, st9, st10, st11, st12, st13, st14, st15, Option.some.injEq, exists_eq_left', exists_eq_left, atI_zero, atI_one, atI_two, List.map_cons, List.map_nil, List.length_cons, List.length_nil, true_and, and_true, List.length_set, Bool.true_and, Bool.and_true, xor_f, xor_t]
      refine ⟨by decide, ps.map prD, .inl rfl, fun z => hne (List.map_eq_nil_iff.mp z), by rw [List.length_map]; omega, fun x hx => ?_⟩
      obtain ⟨p, hp, rfl⟩ := List.mem_map.mp hx
      exact k _ ⟨p, rfl, hps p hp⟩
    · obtain ⟨rs, rfl, hrs⟩ := list_enc hy
      rw [List.length_map, rgD_len] at hl
      simp only [fRet, fRet.stabR, fTuple, fB, g1, gTuple, gList, fList, fIx, f2R, gIx, fVar, fC, fCons, fNil, fTup, fLst, rCons, rNil, fSet, fAsg, tgName, tgTup, tgCons, tgNil, fYes, fAnd, fOr, fNot, fTest, boolW, gLt, gLe, gGt, gGe, gB2, f2, gI2, gI2C, fAdd, gAdd, fSub, fMul, gMul, fMod, fDiv, fPow, fNeg, f1, gNeg, fIfE, fAndV, fOrV, fNotV, fCall, fCallB, fCallBN, fCallN, fCallK, stab, Res.d, intW, fLen, gLen, fAbs, fInt, fMax2, fMin2, fMax3, gI1, gI2a, gI3a, fiSeq, gSeq, fiRng1, fiRng2, fiEnum, gEnum, fiRev, gRev, fiZip, gZip, fDrop, fNext, fBreak, fCont, fRetN, fShare, unown, fPar, parW, fPut, subW, fApp, appW, isOwL, fExt, extW, fSorted, gSorted, fListRg1, fListRev, fListKeys, fGet2, dictW, fDct0, fDct1, fRepr, gRepr, fAny, fAll, gBools, fSum, gSum, fMaxL, gMaxL, fMinL, gMinL, fChain, fSl, gSl, fPart, fNoP, fBagW, fBagI, fBagS, fBagIf, fScr, fBag, fBag2, nnW, wipeD, Res.ok, endsP, DL.endsL, endsO, gt0, gt1, gt2, gt3, gt4, gt5, gt6, gt7, gt8, gt9, gt10, gt11, gt12, gt13, gt14, gt15, st0, st1, st2, st3, st4, st5, st6, st7, st8, st9, st10, st11, st12, st13, st14, st15, Option.some.injEq, exists_eq_left', exists_eq_left, atI_zero, atI_one, atI_two, List.map_cons, List.map_nil, List.length_cons, List.length_nil, true_and, and_true, List.length_set, Bool.true_and, Bool.and_true, xor_f, xor_t]
      refine ⟨by decide, hx _ ⟨rs, rfl, ?_, fun h5 => ?_, hrs⟩⟩
      · split at hc
        · have := hm2 (by omega); omega
        · omega
      · have := hm2 h5; split at hc <;> omega
  rintro δ ⟨rs, rfl, hrl, hr5, hrs⟩
  unfold NW
  have noL : ∀ p : Int × Int, noLst (prD p) = true := fun p => rfl
  refine fseq_join (fun δ => ∃ rs : List (Int × Int), δ = NW n way g (.sh (.list (ps.map prD))) (.sh (.int many)) (.ow (.list (rs.map prD))) .no .no .no .no ∧ rs.length ≤ 12 ∧ (5 ≤ way → 1 ≤ rs.length) ∧ ∀ p ∈ rs, Wt p) (fun nx hx => ?_) ?_
  · have skip : nx (NW n way g (.sh (.list (ps.map prD))) (.sh (.int many)) (.ow (.list (rs.map prD))) .no .no .no .no) := hx _ ⟨rs, rfl, hrl, hr5, hrs⟩
    unfold NW at skip
    refine fif_run ?_
    simp only [fRet, fRet.stabR, fTuple, fB, g1, gTuple, gList, fList, fIx, f2R, gIx, fVar, fC, fCons, fNil, fTup, fLst, rCons, rNil, fSet, fAsg, tgName, tgTup, tgCons, tgNil, fYes, fAnd, fOr, fNot, fTest, boolW, gLt, gLe, gGt, gGe, gB2, f2, gI2, gI2C, fAdd, gAdd, fSub, fMul, gMul, fMod, fDiv, fPow, fNeg, f1, gNeg, fIfE, fAndV, fOrV, fNotV, fCall, fCallB, fCallBN, fCallN, fCallK, stab, Res.d, intW, fLen, gLen, fAbs, fInt, fMax2, fMin2, fMax3, gI1, gI2a, gI3a, fiSeq, gSeq, fiRng1, fiRng2, fiEnum, gEnum, fiRev, gRev, fiZip, gZip, fDrop, fNext, fBreak, fCont, fRetN, fShare, unown, fPar, parW, fPut, subW, fApp, appW, isOwL, fExt, extW, fSorted, gSorted, fListRg1, fListRev, fListKeys, fGet2, dictW, fDct0, fDct1, fRepr, gRepr, fAny, fAll, gBools, fSum, gSum, fMaxL, gMaxL, fMinL, gMinL, fChain, fSl, gSl, fPart, fNoP, fBagW, fBagI, fBagS, fBagIf, fScr, fBag, fBag2, nnW, wipeD, Res.ok, endsP, DL.endsL, endsO, gt0, gt1, gt2, gt3, gt4, gt5, gt6, gt7, gt8, gt9, gt10, gt11, gt12, gt13, gt14, gt15, st0, st1, st2, st3, st4, st5, st6, st7, st8, st9, st10, st11, st12, st13, st14, st15, Option.some.injEq, exists_eq_left', exists_eq_left, atI_zero, atI_one, atI_two, List.map_cons, List.map_nil, List.length_cons, List.length_nil, true_and, and_true, List.length_set, Bool.true_and, Bool.and_true, xor_f, xor_t, List.length_map]
    by_cases e1 : (0 : Int) < rs.length
    · refine iteT' (decide_eq_true e1) ?_
      by_cases e2 : ((rs.length : Nat) : Int) < 12
      · refine iteT' (decide_eq_true e2) ⟨4, rfl, by decide, by decide, fun r h0 h1 => ?_⟩
        simp only [fRet, fRet.stabR, fTuple, fB, g1, gTuple, gList, fList, fIx, f2R, gIx, fVar, fC, fCons, fNil, fTup, fLst, rCons, rNil, fSet, fAsg, tgName, tgTup, tgCons, tgNil, fYes, fAnd, fOr, fNot, fTest, boolW, gLt, gLe, gGt, gGe, gB2, f2, gI2, gI2C, fAdd, gAdd, fSub, fMul, gMul, fMod, fDiv, fPow, fNeg, f1, gNeg, fIfE, fAndV, fOrV, fNotV, fCall, fCallB, fCallBN, fCallN, fCallK, stab, Res.d, intW, fLen, gLen, fAbs, fInt, fMax2, fMin2, fMax3, gI1, gI2a, gI3a, fiSeq, gSeq, fiRng1, fiRng2, fiEnum, gEnum, fiRev, gRev, fiZip, gZip, fDrop, fNext, fBreak, fCont, fRetN, fShare, unown, fPar, parW, fPut, subW, fApp, appW, isOwL, fExt, extW, fSorted, gSorted, fListRg1, fListRev, fListKeys, fGet2, dictW, fDct0, fDct1, fRepr, gRepr, fAny, fAll, gBools, fSum, gSum, fMaxL, gMaxL, fMinL, gMinL, fChain, fSl, gSl, fPart, fNoP, fBagW, fBagI, fBagS, fBagIf, fScr, fBag, fBag2, nnW, wipeD, Res.ok, endsP, DL.endsL, endsO, gt0, gt1, gt2, gt3, gt4, gt5, gt6, gt7, gt8, gt9, gt10, gt11, gt12, gt13, gt14, gt15, st0, st1, st2, st3, st4, st5, st6, st7, st8, st9, st10, st11, st12, st13, st14, st15, Option.some.injEq, exists_eq_left', exists_eq_left, atI_zero, atI_one, atI_two, List.map_cons, List.map_nil, List.length_cons, List.length_nil, true_and, and_true, List.length_set, Bool.true_and, Bool.and_true, xor_f, xor_t, gEq_int_eq]
        by_cases e3 : r = 0
        · refine iteT' (decide_eq_true e3) ⟨⟨_, rfl⟩, rs.map prD, .inl rfl, fun z => ?_, by rw [List.length_map]; omega, fun x hx' => ?_⟩
          · rw [List.map_eq_nil_iff.mp z] at e1; simp at e1
          · obtain ⟨p, hp, rfl⟩ := List.mem_map.mp hx'
            refine ⟨rfl, by rw [sl_eq]; omega, hx _ ⟨rs ++ [p], by rw [List.map_append]; rfl, by rw [List.length_append]; simp; omega, fun _ => by rw [List.length_append]; simp, fun t ht => ?_⟩⟩
            rcases List.mem_append.mp ht with z | z
            · exact hrs t z
            · rw [List.mem_singleton.mp z]; exact hrs p hp
        · exact iteF' (decide_eq_false e3) skip
      · exact iteF' (decide_eq_false e2) (iteF' rfl skip)
    · exact iteF' (decide_eq_false e1) (iteF' rfl skip)
  clear hrl hr5 hrs rs
  rintro δ ⟨rs, rfl, hrl, hr5, hrs⟩
  unfold NW
  refine fseq_join (fun δ => ∃ (rs : List (Int × Int)) (s8 s9 : Slot), δ = NW n way g (.sh (.list (ps.map prD))) (.sh (.int many)) (.ow (.list (rs.map prD))) s8 s9 .no .no ∧ rs.length ≤ 12 ∧ ∀ p ∈ rs, Wt p) (fun nx hx => ?_) ?_
  · have skip : nx (NW n way g (.sh (.list (ps.map prD))) (.sh (.int many)) (.ow (.list (rs.map prD))) .no .no .no .no) := hx _ ⟨rs, _, _, rfl, hrl, hrs⟩
    unfold NW at skip
    have grow : (way = 11 ∨ way = 12) → fSeq (fPar [8, 9] (rCons (fSub (fSub (fVar 2) (fC (.int 1))) (fMul (fCallB 0 S_draw (fCons (fC (.int 2)) fNil)) (fCallB 0 S_draw (fCons (fC (.int 4)) fNil)))) (rCons (fCallB 0 S_draw (fCons (fAdd (fMin2 (fVar 1) (fC (.int 8))) (fC (.int 1))) fNil)) rNil))) (fSet 7 (fAdd (fAdd (fMul (fSl (fVar 7) fNoP (fPart (fC (.int 1)))) (fVar 8)) (fLst (fCons (fTup (fCons (fVar 9) (fCons (fAdd (fAdd (fVar 9) (fC (.int 1))) (fCallB 0 S_draw (fCons (fSub (fC (.int 9)) (fVar 9)) fNil))) fNil))) fNil))) (fMul (fSl (fVar 7) fNoP (fPart (fC (.int 1)))) (fSub (fSub (fVar 2) (fC (.int 1))) (fVar 8))))) { endsP QD ED with nx := nx } [Slot.bag, Slot.sh (PyData.int n), Slot.sh (PyData.int 12), Slot.sh (PyData.int way), Slot.sh (PyData.int g),
      Slot.sh (PyData.list (List.map prD ps)), Slot.sh (PyData.int many), Slot.ow (PyData.list (List.map prD rs)), Slot.no, Slot.no, Slot.no, Slot.no] := fun hway => by
      obtain ⟨p0, rs', rfl⟩ : ∃ p0 rs', rs = p0 :: rs' := by
        cases rs with
        | nil => have := hr5 (by omega); simp at this
        | cons a l => exact ⟨a, l, rfl⟩
      have w0 := hrs p0 (by simp)
      refine fseq_run ?_
      simp only [fRet, fRet.stabR, fTuple, fB, g1, gTuple, gList, fList, fIx, f2R, gIx, fVar, fC, fCons, fNil, fTup, fLst, rCons, rNil, fSet, fAsg, tgName, tgTup, tgCons, tgNil, fYes, fAnd, fOr, fNot, fTest, boolW, gLt, gLe, gGt, gGe, gB2, f2, gI2, gI2C, fAdd, gAdd, fSub, fMul, gMul, fMod, fDiv, fPow, fNeg, f1, gNeg, fIfE, fAndV, fOrV, fNotV, fCall, fCallB, fCallBN, fCallN, fCallK, stab, Res.d, intW, fLen, gLen, fAbs, fInt, fMax2, fMin2, fMax3, gI1, gI2a, gI3a, fiSeq, gSeq, fiRng1, fiRng2, fiEnum, gEnum, fiRev, gRev, fiZip, gZip, fDrop, fNext, fBreak, fCont, fRetN, fShare, unown, fPar, parW, fPut, subW, fApp, appW, isOwL, fExt, extW, fSorted, gSorted, fListRg1, fListRev, fListKeys, fGet2, dictW, fDct0, fDct1, fRepr, gRepr, fAny, fAll, gBools, fSum, gSum, fMaxL, gMaxL, fMinL, gMinL, fChain, fSl, gSl, fPart, fNoP, fBagW, fBagI, fBagS, fBagIf, fScr, fBag, fBag2, nnW, wipeD, Res.ok, endsP, DL.endsL, endsO, gt0, gt1, gt2, gt3, gt4, gt5, gt6, gt7, gt8, gt9, gt10, gt11, gt12, gt13, gt14, gt15, st0, st1, st2, st3, st4, st5, st6, st7, st8, st9, st10, st11, st12, st13, st14, st15, Option.some.injEq, exists_eq_left', exists_eq_left, atI_zero, atI_one, atI_two, List.map_cons, List.map_nil, List.length_cons, List.length_nil, true_and, and_true, List.length_set, Bool.true_and, Bool.and_true, xor_f, xor_t, imin]
      refine ⟨2, rfl, by decide, by decide, fun a ha0 ha1 => ⟨4, rfl, by decide, by decide, fun b hb0 hb1 => ?_⟩⟩
      have hab : 0 ≤ a * b ∧ a * b ≤ 3 := by
        have : a = 0 ∨ a = 1 := by omega
        rcases this with rfl | rfl
        · simp
        · simp; omega
      refine ⟨.inl ⟨by omega, by omega⟩, min n 8 + 1, rfl, by omega, by omega, fun t ht0 ht1 => ⟨by decide, by decide, ?_⟩⟩
      simp only [fRet, fRet.stabR, fTuple, fB, g1, gTuple, gList, fList, fIx, f2R, gIx, fVar, fC, fCons, fNil, fTup, fLst, rCons, rNil, fSet, fAsg, tgName, tgTup, tgCons, tgNil, fYes, fAnd, fOr, fNot, fTest, boolW, gLt, gLe, gGt, gGe, gB2, f2, gI2, gI2C, fAdd, gAdd, fSub, fMul, gMul, fMod, fDiv, fPow, fNeg, f1, gNeg, fIfE, fAndV, fOrV, fNotV, fCall, fCallB, fCallBN, fCallN, fCallK, stab, Res.d, intW, fLen, gLen, fAbs, fInt, fMax2, fMin2, fMax3, gI1, gI2a, gI3a, fiSeq, gSeq, fiRng1, fiRng2, fiEnum, gEnum, fiRev, gRev, fiZip, gZip, fDrop, fNext, fBreak, fCont, fRetN, fShare, unown, fPar, parW, fPut, subW, fApp, appW, isOwL, fExt, extW, fSorted, gSorted, fListRg1, fListRev, fListKeys, fGet2, dictW, fDct0, fDct1, fRepr, gRepr, fAny, fAll, gBools, fSum, gSum, fMaxL, gMaxL, fMinL, gMinL, fChain, fSl, gSl, fPart, fNoP, fBagW, fBagI, fBagS, fBagIf, fScr, fBag, fBag2, nnW, wipeD, Res.ok, endsP, DL.endsL, endsO, gt0, gt1, gt2, gt3, gt4, gt5, gt6, gt7, gt8, gt9, gt10, gt11, gt12, gt13, gt14, gt15, st0, st1, st2, st3, st4, st5, st6, st7, st8, st9, st10, st11, st12, st13, st14, st15, Option.some.injEq, exists_eq_left', exists_eq_left, atI_zero, atI_one, atI_two, List.map_cons, List.map_nil, List.length_cons, List.length_nil, true_and, and_true, List.length_set, Bool.true_and, Bool.and_true, xor_f, xor_t, cut1, rep1, List.length_replicate, List.length_append]
      generalize hu : 12 - 1 - a * b = u
      have hu1 : 8 ≤ u ∧ u ≤ 11 := by omega
      refine ⟨⟨by omega, by omega, by rw [sl_eq]; omega⟩, 9 - t, rfl, by omega, by omega, fun d hd0 hd1 => ?_⟩
      refine ⟨by decide, by decide, by rw [sl_eq]; omega, ⟨by omega, by omega, by rw [sl_eq]; omega⟩, by rw [sl_eq]; omega, by decide, hx _ ⟨List.replicate u.toNat p0 ++ [(t, t + 1 + d)] ++ List.replicate (12 - 1 - u).toNat p0, .sh (.int u), .sh (.int t), ?_, ?_, fun p hp => ?_⟩⟩
      · rw [List.map_append, List.map_append, List.map_replicate, List.map_replicate]; rfl
      · rw [List.length_append, List.length_append, List.length_replicate, List.length_replicate]; simp; omega
      · rcases List.mem_append.mp hp with hp | hp
        · rcases List.mem_append.mp hp with hp | hp
          · rw [(List.mem_replicate.mp hp).2]; exact w0
          · rw [List.mem_singleton.mp hp]
            exact ⟨⟨ht0, by show t ≤ 9; omega⟩, by show 0 ≤ t + 1 + d; omega, by show t + 1 + d ≤ 9; omega⟩
        · rw [(List.mem_replicate.mp hp).2]; exact w0
    refine fif_run ?_
    simp only [fRet, fRet.stabR, fTuple, fB, g1, gTuple, gList, fList, fIx, f2R, gIx, fVar, fC, fCons, fNil, fTup, fLst, rCons, rNil, fSet, fAsg, tgName, tgTup, tgCons, tgNil, fYes, fAnd, fOr, fNot, fTest, boolW, gLt, gLe, gGt, gGe, gB2, f2, gI2, gI2C, fAdd, gAdd, fSub, fMul, gMul, fMod, fDiv, fPow, fNeg, f1, gNeg, fIfE, fAndV, fOrV, fNotV, fCall, fCallB, fCallBN, fCallN, fCallK, stab, Res.d, intW, fLen, gLen, fAbs, fInt, fMax2, fMin2, fMax3, gI1, gI2a, gI3a, fiSeq, gSeq, fiRng1, fiRng2, fiEnum, gEnum, fiRev, gRev, fiZip, gZip, fDrop, fNext, fBreak, fCont, fRetN, fShare, unown, fPar, parW, fPut, subW, fApp, appW, isOwL, fExt, extW, fSorted, gSorted, fListRg1, fListRev, fListKeys, fGet2, dictW, fDct0, fDct1, fRepr, gRepr, fAny, fAll, gBools, fSum, gSum, fMaxL, gMaxL, fMinL, gMinL, fChain, fSl, gSl, fPart, fNoP, fBagW, fBagI, fBagS, fBagIf, fScr, fBag, fBag2, nnW, wipeD, Res.ok, endsP, DL.endsL, endsO, gt0, gt1, gt2, gt3, gt4, gt5, gt6, gt7, gt8, gt9, gt10, gt11, gt12, gt13, gt14, gt15, st0, st1, st2, st3, st4, st5, st6, st7, st8, st9, st10, st11, st12, st13, st14, st15, Option.some.injEq, exists_eq_left', exists_eq_left, atI_zero, atI_one, atI_two, List.map_cons, List.map_nil, List.length_cons, List.length_nil, true_and, and_true, List.length_set, Bool.true_and, Bool.and_true, xor_f, xor_t, gEq_int_eq]
    by_cases e1 : way = 11
    · exact iteT' (decide_eq_true e1) (grow (.inl e1))
    · refine iteF' (decide_eq_false e1) ?_
      by_cases e2 : way = 12
      · exact iteT' (decide_eq_true e2) (grow (.inr e2))
      · exact iteF' (decide_eq_false e2) skip
  rintro δ ⟨rs, s8, s9, rfl, hrl, hrs⟩
  unfold NW
  simp only [fRet, fRet.stabR, fTuple, fB, g1, gTuple, gList, fList, fIx, f2R, gIx, fVar, fC, fCons, fNil, fTup, fLst, rCons, rNil, fSet, fAsg, tgName, tgTup, tgCons, tgNil, fYes, fAnd, fOr, fNot, fTest, boolW, gLt, gLe, gGt, gGe, gB2, f2, gI2, gI2C, fAdd, gAdd, fSub, fMul, gMul, fMod, fDiv, fPow, fNeg, f1, gNeg, fIfE, fAndV, fOrV, fNotV, fCall, fCallB, fCallBN, fCallN, fCallK, stab, Res.d, intW, fLen, gLen, fAbs, fInt, fMax2, fMin2, fMax3, gI1, gI2a, gI3a, fiSeq, gSeq, fiRng1, fiRng2, fiEnum, gEnum, fiRev, gRev, fiZip, gZip, fDrop, fNext, fBreak, fCont, fRetN, fShare, unown, fPar, parW, fPut, subW, fApp, appW, isOwL, fExt, extW, fSorted, gSorted, fListRg1, fListRev, fListKeys, fGet2, dictW, fDct0, fDct1, fRepr, gRepr, fAny, fAll, gBools, fSum, gSum, fMaxL, gMaxL, fMinL, gMinL, fChain, fSl, gSl, fPart, fNoP, fBagW, fBagI, fBagS, fBagIf, fScr, fBag, fBag2, nnW, wipeD, Res.ok, endsP, DL.endsL, endsO, gt0, gt1, gt2, gt3, gt4, gt5, gt6, gt7, gt8, gt9, gt10, gt11, gt12, gt13, gt14, gt15, st0, st1, st2, st3, st4, st5, st6, st7, st8, st9, st10, st11, st12, st13, st14, st15, Option.some.injEq, exists_eq_left', exists_eq_left, atI_zero, atI_one, atI_two, List.map_cons, List.map_nil, List.length_cons, List.length_nil, true_and, and_true, List.length_set, Bool.true_and, Bool.and_true, xor_f, xor_t]
  refine flc_mapX rs prD (fun p => stD p) (fun R hR => ?_) (by rw [sl_eq]; omega) (fun p hp K k => ?_) ?_
  · simp only [fRet, fRet.stabR, fTuple, fB, g1, gTuple, gList, fList, fIx, f2R, gIx, fVar, fC, fCons, fNil, fTup, fLst, rCons, rNil, fSet, fAsg, tgName, tgTup, tgCons, tgNil, fYes, fAnd, fOr, fNot, fTest, boolW, gLt, gLe, gGt, gGe, gB2, f2, gI2, gI2C, fAdd, gAdd, fSub, fMul, gMul, fMod, fDiv, fPow, fNeg, f1, gNeg, fIfE, fAndV, fOrV, fNotV, fCall, fCallB, fCallBN, fCallN, fCallK, stab, Res.d, intW, fLen, gLen, fAbs, fInt, fMax2, fMin2, fMax3, gI1, gI2a, gI3a, fiSeq, gSeq, fiRng1, fiRng2, fiEnum, gEnum, fiRev, gRev, fiZip, gZip, fDrop, fNext, fBreak, fCont, fRetN, fShare, unown, fPar, parW, fPut, subW, fApp, appW, isOwL, fExt, extW, fSorted, gSorted, fListRg1, fListRev, fListKeys, fGet2, dictW, fDct0, fDct1, fRepr, gRepr, fAny, fAll, gBools, fSum, gSum, fMaxL, gMaxL, fMinL, gMinL, fChain, fSl, gSl, fPart, fNoP, fBagW, fBagI, fBagS, fBagIf, fScr, fBag, fBag2, nnW, wipeD, Res.ok, endsP, DL.endsL, endsO, gt0, gt1, gt2, gt3, gt4, gt5, gt6, gt7, gt8, gt9, gt10, gt11, gt12, gt13, gt14, gt15, st0, st1, st2, st3, st4, st5, st6, st7, st8, st9, st10, st11, st12, st13, st14, st15, Option.some.injEq, exists_eq_left', exists_eq_left, atI_zero, atI_one, atI_two, List.map_cons, List.map_nil, List.length_cons, List.length_nil, true_and, and_true, List.length_set, Bool.true_and, Bool.and_true, xor_f, xor_t]
    exact hR _
  · unfold prD
    simp only [fRet, fRet.stabR, fTuple, fB, g1, gTuple, gList, fList, fIx, f2R, gIx, fVar, fC, fCons, fNil, fTup, fLst, rCons, rNil, fSet, fAsg, tgName, tgTup, tgCons, tgNil, fYes, fAnd, fOr, fNot, fTest, boolW, gLt, gLe, gGt, gGe, gB2, f2, gI2, gI2C, fAdd, gAdd, fSub, fMul, gMul, fMod, fDiv, fPow, fNeg, f1, gNeg, fIfE, fAndV, fOrV, fNotV, fCall, fCallB, fCallBN, fCallN, fCallK, stab, Res.d, intW, fLen, gLen, fAbs, fInt, fMax2, fMin2, fMax3, gI1, gI2a, gI3a, fiSeq, gSeq, fiRng1, fiRng2, fiEnum, gEnum, fiRev, gRev, fiZip, gZip, fDrop, fNext, fBreak, fCont, fRetN, fShare, unown, fPar, parW, fPut, subW, fApp, appW, isOwL, fExt, extW, fSorted, gSorted, fListRg1, fListRev, fListKeys, fGet2, dictW, fDct0, fDct1, fRepr, gRepr, fAny, fAll, gBools, fSum, gSum, fMaxL, gMaxL, fMinL, gMinL, fChain, fSl, gSl, fPart, fNoP, fBagW, fBagI, fBagS, fBagIf, fScr, fBag, fBag2, nnW, wipeD, Res.ok, endsP, DL.endsL, endsO, gt0, gt1, gt2, gt3, gt4, gt5, gt6, gt7, gt8, gt9, gt10, gt11, gt12, gt13, gt14, gt15, st0, st1, st2, st3, st4, st5, st6, st7, st8, st9, st10, st11, st12, st13, st14, st15, Option.some.injEq, exists_eq_left', exists_eq_left, atI_zero, atI_one, atI_two, List.map_cons, List.map_nil, List.length_cons, List.length_nil, true_and, and_true, List.length_set, Bool.true_and, Bool.and_true, xor_f, xor_t]
    refine ⟨by decide, by decide, by decide, by decide, by decide, k⟩
  · exact q rs ⟨hrl, hrs⟩
end G61

namespace G61
open PySem PySem.Spec PyProof.Rows L2 DL
/-! ### the law's moves -/
def encM (ms : List (Int × Int)) : List (D × D) := ms.map fun p => (.int p.1, .int p.2)
def lookM (ms : List (Int × Int)) (c : Int) : Option Int := (ms.find? fun p => decide (p.1 = c)).map (·.2)
def updM (ms : List (Int × Int)) (c v : Int) : List (Int × Int) := if (ms.any fun p => decide (p.1 = c)) = true then ms.map (fun p => if p.1 = c then (p.1, v) else p) else ms ++ [(c, v)]
theorem encM_keys (ms : List (Int × Int)) : keysD (encM ms) = (ms.map (·.1)).map PyData.int := by unfold keysD encM; rw [List.map_map, List.map_map]; rfl
theorem encM_look (ms : List (Int × Int)) (c : Int) : lookD (encM ms) (.int c) = (lookM ms c).map PyData.int := by
  unfold lookD lookM encM
  induction ms with
  | nil => rfl
  | cons p l ih =>
    rw [List.map_cons, List.find?_cons, List.find?_cons, eqv_int]
    by_cases e : p.1 = c
    · simp [e]
    · simp [e]; simpa using ih
theorem encM_put (ms : List (Int × Int)) (c v : Int) : putD (encM ms) (.int c) (.int v) = encM (updM ms c v) := by
  have ha : ((encM ms).any fun p => PyData.eqv p.1 (.int c)) = ms.any fun p => decide (p.1 = c) := by
    unfold encM
    rw [List.any_map]
    refine congrArg (fun f => ms.any f) (funext fun p => ?_)
    exact eqv_int _ _
  unfold putD updM
  rw [ha]
  split
  · unfold encM
    rw [List.map_map, List.map_map]
    apply List.map_congr_left
    intro p _
    simp only [Function.comp, eqv_int]
    by_cases e : p.1 = c <;> simp [e]
  · unfold encM
    rw [List.map_append]; rfl
theorem updM_look (ms : List (Int × Int)) (c v c' : Int) : lookM (updM ms c v) c' = if c' = c then some v else lookM ms c' := by
  unfold updM
  split
  · rename_i h
    unfold lookM
    induction ms with
    | nil => simp at h
    | cons p l ih =>
      rw [List.map_cons, List.find?_cons, List.find?_cons]
      by_cases e : p.1 = c
      · by_cases e' : c' = c
        · simp [e, e']
        · have : ¬ c = c' := fun z => e' z.symm
          simp only [e, if_true, this, decide_false, e', if_false]
          by_cases hl : (l.any fun p => decide (p.1 = c)) = true
          · have := ih hl
            rw [if_neg e'] at this
            exact this
          · have hm : l.map (fun p => if p.1 = c then (p.1, v) else p) = l := by
              rw [List.map_congr_left (g := fun p => p)]
              · simp
              · intro q hq
                have : ¬ q.1 = c := fun z => hl (by rw [List.any_eq_true]; exact ⟨q, hq, by simp [z]⟩)
                rw [if_neg this]
            rw [hm]
      · rw [if_neg e]
        by_cases e2 : p.1 = c'
        · have : ¬ c' = c := fun z => e (e2.trans z)
          simp [e2, this]
        · have hl : (l.any fun p => decide (p.1 = c)) = true := by simpa [e] using h
          have := ih hl
          simp only [e2, decide_false]
          exact this
  · rename_i h
    unfold lookM
    rw [List.find?_append]
    by_cases e : c' = c
    · subst e
      have : ms.find? (fun p => decide (p.1 = c')) = none := by
        rw [List.find?_eq_none]
        intro p hp hq
        exact h (by rw [List.any_eq_true]; exact ⟨p, hp, hq⟩)
      rw [this]
      simp
    · have : ¬ c = c' := fun z => e z.symm
      cases hf : ms.find? (fun p => decide (p.1 = c')) with
      | none => simp [e, this]
      | some p => simp [e]
theorem updM_keys (ms : List (Int × Int)) (c v : Int) (h : (ms.map (·.1)).Nodup) : ((updM ms c v).map (·.1)).Nodup ∧ (updM ms c v).length ≤ ms.length + 1 := by
  unfold updM
  split
  · refine ⟨?_, by simp⟩
    rw [List.map_map, List.map_congr_left (g := fun p : Int × Int => p.1)]
    · exact h
    · intro p _
      simp only [Function.comp]
      by_cases e : p.1 = c
      · rw [if_pos e]
      · rw [if_neg e]
  · rename_i hn
    refine ⟨?_, by simp⟩
    rw [List.map_append]
    refine nodup_snoc h fun z => hn ?_
    obtain ⟨p, hp, e⟩ := List.mem_map.mp z
    rw [List.any_eq_true]
    exact ⟨p, hp, by simpa using e⟩
theorem lookM_mem {ms : List (Int × Int)} {c : Int} : c ∈ ms.map (·.1) ↔ ∃ v, lookM ms c = some v := by
  unfold lookM
  constructor
  · intro h
    obtain ⟨p, hp, e⟩ := List.mem_map.mp h
    cases hf : ms.find? (fun p => decide (p.1 = c)) with
    | none => rw [List.find?_eq_none] at hf; exact absurd (by simpa using e) (hf p hp)
    | some q => exact ⟨q.2, rfl⟩
  · rintro ⟨v, h⟩
    cases hf : ms.find? (fun p => decide (p.1 = c)) with
    | none => rw [hf] at h; cases h
    | some q =>
      have h1 := List.find?_some hf
      have h2 := List.mem_of_find?_eq_some hf
      exact List.mem_map.mpr ⟨q, h2, by simpa using h1⟩
structure MvOk (net ms : List (Int × Int)) : Prop where
  up : ms.Pairwise fun p q => p.1 < q.1
  wit : ∀ p ∈ ms, ∃ s ∈ net, s.1 = p.2 ∧ s.2 - s.1 = p.1
  cov : ∀ s ∈ net, s.2 - s.1 ≠ 0 → ∃ p ∈ ms, p.1 = s.2 - s.1 ∧ p.2 ≤ s.1
  len : ms.length ≤ 12
def S_moves : SpD := fun ds QD _ => ∃ net, ds = [netD net] ∧ NetOk net ∧ ∀ ms, MvOk net ms → QD (.list (ms.map prD))
theorem l_moves : ∀ ds QD ED, S_moves ds QD ED → F__law_moves (endsP QD ED) (startD N__law_moves ds) := by
  rintro ds QD ED ⟨net, rfl, ok, q⟩
  unfold F__law_moves
  rw [show startD N__law_moves [netD net] = [.sh (netD net), .no, .no, .no] from rfl]
  refine fseq_run ?_
  simp only [fRet, fRet.stabR, fTuple, fB, g1, gTuple, gList, fList, fIx, f2R, gIx, fVar, fC, fCons, fNil, fTup, fLst, rCons, rNil, fSet, fAsg, tgName, tgTup, tgCons, tgNil, fYes, fAnd, fOr, fNot, fTest, boolW, gLt, gLe, gGt, gGe, gB2, f2, gI2, gI2C, fAdd, gAdd, fSub, fMul, gMul, fMod, fDiv, fPow, fNeg, f1, gNeg, fIfE, fAndV, fOrV, fNotV, fCall, fCallB, fCallBN, fCallN, fCallK, stab, Res.d, intW, fLen, gLen, fAbs, fInt, fMax2, fMin2, fMax3, gI1, gI2a, gI3a, fiSeq, gSeq, fiRng1, fiRng2, fiEnum, gEnum, fiRev, gRev, fiZip, gZip, fDrop, fNext, fBreak, fCont, fRetN, fShare, unown, fPar, parW, fPut, subW, fApp, appW, isOwL, fExt, extW, fSorted, gSorted, fListRg1, fListRev, fListKeys, fGet2, dictW, fDct0, fDct1, fRepr, gRepr, fAny, fAll, gBools, fSum, gSum, fMaxL, gMaxL, fMinL, gMinL, fChain, fSl, gSl, fPart, fNoP, fBagW, fBagI, fBagS, fBagIf, fScr, fBag, fBag2, nnW, wipeD, Res.ok, endsP, DL.endsL, endsO, gt0, gt1, gt2, gt3, gt4, gt5, gt6, gt7, gt8, gt9, gt10, gt11, gt12, gt13, gt14, gt15, st0, st1, st2, st3, st4, st5, st6, st7, st8, st9, st10, st11, st12, st13, st14, st15, Option.some.injEq, exists_eq_left', exists_eq_left, atI_zero, atI_one, atI_two, List.map_cons, List.map_nil, List.length_cons, List.length_nil, true_and, and_true, List.length_set, Bool.true_and, Bool.and_true, xor_f, xor_t]
  refine ⟨by decide, ?_⟩
  refine fseq_join (fun δ => ∃ (ms : List (Int × Int)) (s2 s3 : Slot), δ = [.sh (netD net), .ow (.dict (encM ms)), s2, s3] ∧ (ms.map (·.1)).Nodup ∧ (∀ c v, lookM ms c = some v → ∃ s ∈ net, s.1 = v ∧ s.2 - s.1 = c) ∧ (∀ s ∈ net, s.2 - s.1 ≠ 0 → ∃ v, lookM ms (s.2 - s.1) = some v ∧ v ≤ s.1) ∧ ms.length ≤ 12) (fun nx hx => ?_) ?_
  · refine ffor_run (net.map stD) (fun i δ => ∃ (ms : List (Int × Int)) (s2 s3 : Slot), δ = [.sh (netD net), .ow (.dict (encM ms)), s2, s3] ∧ (ms.map (·.1)).Nodup ∧ (∀ c v, lookM ms c = some v → ∃ s ∈ net, s.1 = v ∧ s.2 - s.1 = c) ∧ (∀ j s, j < i → net[j]? = some s → s.2 - s.1 ≠ 0 → ∃ v, lookM ms (s.2 - s.1) = some v ∧ v ≤ s.1) ∧ ms.length ≤ i) (fun R hR => by simp only [fRet, fRet.stabR, fTuple, fB, g1, gTuple, gList, fList, fIx, f2R, gIx, fVar, fC, fCons, fNil, fTup, fLst, rCons, rNil, fSet, fAsg, tgName, tgTup, tgCons, tgNil, fYes, fAnd, fOr, fNot, fTest, boolW, gLt, gLe, gGt, gGe, gB2, f2, gI2, gI2C, fAdd, gAdd, fSub, fMul, gMul, fMod, fDiv, fPow, fNeg, f1, gNeg, fIfE, fAndV, fOrV, fNotV, fCall, fCallB, fCallBN, fCallN, fCallK, stab, Res.d, intW, fLen, gLen, fAbs, fInt, fMax2, fMin2, fMax3, gI1, gI2a, gI3a, fiSeq, gSeq, fiRng1, fiRng2, fiEnum, gEnum, fiRev, gRev, fiZip, gZip, fDrop, fNext, fBreak, fCont, fRetN, fShare, unown, fPar, parW, fPut, subW, fApp, appW, isOwL, fExt, extW, fSorted, gSorted, fListRg1, fListRev, fListKeys, fGet2, dictW, fDct0, fDct1, fRepr, gRepr, fAny, fAll, gBools, fSum, gSum, fMaxL, gMaxL, fMinL, gMinL, fChain, fSl, gSl, fPart, fNoP, fBagW, fBagI, fBagS, fBagIf, fScr, fBag, fBag2, nnW, wipeD, Res.ok, endsP, DL.endsL, endsO, gt0, gt1, gt2, gt3, gt4, gt5, gt6, gt7, gt8, gt9, gt10, gt11, gt12, gt13, gt14, gt15, st0, st1, st2, st3, st4, st5, st6, st7, st8, st9, st10, st11, st12, st13, st14, st15, Option.some.injEq, exists_eq_left', exists_eq_left, atI_zero, atI_one, atI_two, List.map_cons, List.map_nil, List.length_cons, List.length_nil, true_and, and_true, List.length_set, Bool.true_and, Bool.and_true, xor_f, xor_t, netD]; exact hR) ⟨[], _, _, rfl, by simp, fun c v h => (nomatch h), fun j s hj => absurd hj (Nat.not_lt_zero _), by simp⟩ ?_ ?_
    · rintro i d δ hd ⟨ms, s2, s3, rfl, nd, wit, cov, hl⟩
      obtain ⟨s, hs, rfl⟩ := map_get hd
      have sm := List.mem_of_getElem? hs
      have sb := ok.2 s sm
      unfold stD
      simp only [fRet, fRet.stabR, fTuple, fB, g1, gTuple, gList, fList, fIx, f2R, gIx, fVar, fC, fCons, fNil, fTup, fLst, rCons, rNil, fSet, fAsg, tgName, tgTup, tgCons, tgNil, fYes, fAnd, fOr, fNot, fTest, boolW, gLt, gLe, gGt, gGe, gB2, f2, gI2, gI2C, fAdd, gAdd, fSub, fMul, gMul, fMod, fDiv, fPow, fNeg, f1, gNeg, fIfE, fAndV, fOrV, fNotV, fCall, fCallB, fCallBN, fCallN, fCallK, stab, Res.d, intW, fLen, gLen, fAbs, fInt, fMax2, fMin2, fMax3, gI1, gI2a, gI3a, fiSeq, gSeq, fiRng1, fiRng2, fiEnum, gEnum, fiRev, gRev, fiZip, gZip, fDrop, fNext, fBreak, fCont, fRetN, fShare, unown, fPar, parW, fPut, subW, fApp, appW, isOwL, fExt, extW, fSorted, gSorted, fListRg1, fListRev, fListKeys, fGet2, dictW, fDct0, fDct1, fRepr, gRepr, fAny, fAll, gBools, fSum, gSum, fMaxL, gMaxL, fMinL, gMinL, fChain, fSl, gSl, fPart, fNoP, fBagW, fBagI, fBagS, fBagIf, fScr, fBag, fBag2, nnW, wipeD, Res.ok, endsP, DL.endsL, endsO, gt0, gt1, gt2, gt3, gt4, gt5, gt6, gt7, gt8, gt9, gt10, gt11, gt12, gt13, gt14, gt15, st0, st1, st2, st3, st4, st5, st6, st7, st8, st9, st10, st11, st12, st13, st14, st15, Option.some.injEq, exists_eq_left', exists_eq_left, atI_zero, atI_one, atI_two, List.map_cons, List.map_nil, List.length_cons, List.length_nil, true_and, and_true, List.length_set, Bool.true_and, Bool.and_true, xor_f, xor_t]
      refine ⟨by decide, fseq_run ?_⟩
      simp only [fRet, fRet.stabR, fTuple, fB, g1, gTuple, gList, fList, fIx, f2R, gIx, fVar, fC, fCons, fNil, fTup, fLst, rCons, rNil, fSet, fAsg, tgName, tgTup, tgCons, tgNil, fYes, fAnd, fOr, fNot, fTest, boolW, gLt, gLe, gGt, gGe, gB2, f2, gI2, gI2C, fAdd, gAdd, fSub, fMul, gMul, fMod, fDiv, fPow, fNeg, f1, gNeg, fIfE, fAndV, fOrV, fNotV, fCall, fCallB, fCallBN, fCallN, fCallK, stab, Res.d, intW, fLen, gLen, fAbs, fInt, fMax2, fMin2, fMax3, gI1, gI2a, gI3a, fiSeq, gSeq, fiRng1, fiRng2, fiEnum, gEnum, fiRev, gRev, fiZip, gZip, fDrop, fNext, fBreak, fCont, fRetN, fShare, unown, fPar, parW, fPut, subW, fApp, appW, isOwL, fExt, extW, fSorted, gSorted, fListRg1, fListRev, fListKeys, fGet2, dictW, fDct0, fDct1, fRepr, gRepr, fAny, fAll, gBools, fSum, gSum, fMaxL, gMaxL, fMinL, gMinL, fChain, fSl, gSl, fPart, fNoP, fBagW, fBagI, fBagS, fBagIf, fScr, fBag, fBag2, nnW, wipeD, Res.ok, endsP, DL.endsL, endsO, gt0, gt1, gt2, gt3, gt4, gt5, gt6, gt7, gt8, gt9, gt10, gt11, gt12, gt13, gt14, gt15, st0, st1, st2, st3, st4, st5, st6, st7, st8, st9, st10, st11, st12, st13, st14, st15, Option.some.injEq, exists_eq_left', exists_eq_left, atI_zero, atI_one, atI_two, List.map_cons, List.map_nil, List.length_cons, List.length_nil, true_and, and_true, List.length_set, Bool.true_and, Bool.and_true, xor_f, xor_t]
      refine ⟨by decide, fif_run ?_⟩
      simp only [fRet, fRet.stabR, fTuple, fB, g1, gTuple, gList, fList, fIx, f2R, gIx, fVar, fC, fCons, fNil, fTup, fLst, rCons, rNil, fSet, fAsg, tgName, tgTup, tgCons, tgNil, fYes, fAnd, fOr, fNot, fTest, boolW, gLt, gLe, gGt, gGe, gB2, f2, gI2, gI2C, fAdd, gAdd, fSub, fMul, gMul, fMod, fDiv, fPow, fNeg, f1, gNeg, fIfE, fAndV, fOrV, fNotV, fCall, fCallB, fCallBN, fCallN, fCallK, stab, Res.d, intW, fLen, gLen, fAbs, fInt, fMax2, fMin2, fMax3, gI1, gI2a, gI3a, fiSeq, gSeq, fiRng1, fiRng2, fiEnum, gEnum, fiRev, gRev, fiZip, gZip, fDrop, fNext, fBreak, fCont, fRetN, fShare, unown, fPar, parW, fPut, subW, fApp, appW, isOwL, fExt, extW, fSorted, gSorted, fListRg1, fListRev, fListKeys, fGet2, dictW, fDct0, fDct1, fRepr, gRepr, fAny, fAll, gBools, fSum, gSum, fMaxL, gMaxL, fMinL, gMinL, fChain, fSl, gSl, fPart, fNoP, fBagW, fBagI, fBagS, fBagIf, fScr, fBag, fBag2, nnW, wipeD, Res.ok, endsP, DL.endsL, endsO, gt0, gt1, gt2, gt3, gt4, gt5, gt6, gt7, gt8, gt9, gt10, gt11, gt12, gt13, gt14, gt15, st0, st1, st2, st3, st4, st5, st6, st7, st8, st9, st10, st11, st12, st13, st14, st15, Option.some.injEq, exists_eq_left', exists_eq_left, atI_zero, atI_one, atI_two, List.map_cons, List.map_nil, List.length_cons, List.length_nil, true_and, and_true, List.length_set, Bool.true_and, Bool.and_true, xor_f, xor_t, gNe_int_eq]
      by_cases g : s.2 - s.1 = 0
      · refine iteF' (by rw [decide_eq_true g]; rfl) ⟨ms, _, _, rfl, nd, wit, fun j t hj ht hn => ?_, by omega⟩
        by_cases e : j = i
        · subst e
          rw [hs] at ht
          cases ht
          exact absurd g hn
        · exact cov j t (by omega) ht hn
      · refine iteT' (by rw [decide_eq_false g]; rfl) ⟨keys_sc (encM_keys ms), rfl, ?_⟩
        have hil : i < net.length := (List.getElem?_eq_some_iff.mp hs).1
        have okl := ok.1
        have kl : (encM ms).length < sizeLine := by unfold encM; rw [List.length_map, sl_eq]; omega
        have done : ∀ v, v ≤ s.1 → (v = s.1 ∨ lookM ms (s.2 - s.1) = some v) → (∀ v', lookM ms (s.2 - s.1) = some v' → v ≤ v') →
            ∃ (ms' : List (Int × Int)) (s2 s3 : Slot), [Slot.sh (netD net), .ow (.dict (putD (encM ms) (.int (s.2 - s.1)) (.int v))), .sh (.tuple [.tuple [.int s.1], .tuple [.int s.2]]), .sh (.int (s.2 - s.1))] = [.sh (netD net), .ow (.dict (encM ms')), s2, s3] ∧ (ms'.map (·.1)).Nodup ∧ (∀ c v, lookM ms' c = some v → ∃ s ∈ net, s.1 = v ∧ s.2 - s.1 = c) ∧ (∀ j s, j < i + 1 → net[j]? = some s → s.2 - s.1 ≠ 0 → ∃ v, lookM ms' (s.2 - s.1) = some v ∧ v ≤ s.1) ∧ ms'.length ≤ i + 1 := fun v h1 h2 h3 => by
          refine ⟨updM ms (s.2 - s.1) v, _, _, by rw [encM_put], (updM_keys ms _ v nd).1, fun c w hw => ?_, fun j t hj ht hn => ?_, by have := (updM_keys ms (s.2 - s.1) v nd).2; omega⟩
          · rw [updM_look] at hw
            by_cases e : c = s.2 - s.1
            · rw [if_pos e] at hw
              cases hw
              rcases h2 with rfl | h2
              · exact ⟨s, sm, rfl, e.symm⟩
              · rw [e]; exact wit _ _ h2
            · rw [if_neg e] at hw
              exact wit c w hw
          · rw [updM_look]
            by_cases e : t.2 - t.1 = s.2 - s.1
            · rw [if_pos e]
              by_cases ej : j = i
              · subst ej
                rw [hs] at ht
                cases ht
                exact ⟨v, rfl, h1⟩
              · obtain ⟨v', e1, e2⟩ := cov j t (by omega) ht hn
                rw [e] at e1
                exact ⟨v, rfl, by have := h3 v' e1; omega⟩
            · rw [if_neg e]
              by_cases ej : j = i
              · subst ej
                rw [hs] at ht
                cases ht
                exact absurd rfl e
              · exact cov j t (by omega) ht hn
        rw [encM_look]
        cases hf : lookM ms (s.2 - s.1) with
        | none =>
          simp only [fRet, fRet.stabR, fTuple, fB, g1, gTuple, gList, fList, fIx, f2R, gIx, fVar, fC, fCons, fNil, fTup, fLst, rCons, rNil, fSet, fAsg, tgName, tgTup, tgCons, tgNil, fYes, fAnd, fOr, fNot, fTest, boolW, gLt, gLe, gGt, gGe, gB2, f2, gI2, gI2C, fAdd, gAdd, fSub, fMul, gMul, fMod, fDiv, fPow, fNeg, f1, gNeg, fIfE, fAndV, fOrV, fNotV, fCall, fCallB, fCallBN, fCallN, fCallK, stab, Res.d, intW, fLen, gLen, fAbs, fInt, fMax2, fMin2, fMax3, gI1, gI2a, gI3a, fiSeq, gSeq, fiRng1, fiRng2, fiEnum, gEnum, fiRev, gRev, fiZip, gZip, fDrop, fNext, fBreak, fCont, fRetN, fShare, unown, fPar, parW, fPut, subW, fApp, appW, isOwL, fExt, extW, fSorted, gSorted, fListRg1, fListRev, fListKeys, fGet2, dictW, fDct0, fDct1, fRepr, gRepr, fAny, fAll, gBools, fSum, gSum, fMaxL, gMaxL, fMinL, gMinL, fChain, fSl, gSl, fPart, fNoP, fBagW, fBagI, fBagS, fBagIf, fScr, fBag, fBag2, nnW, wipeD, Res.ok, endsP, DL.endsL, endsO, gt0, gt1, gt2, gt3, gt4, gt5, gt6, gt7, gt8, gt9, gt10, gt11, gt12, gt13, gt14, gt15, st0, st1, st2, st3, st4, st5, st6, st7, st8, st9, st10, st11, st12, st13, st14, st15, Option.some.injEq, exists_eq_left', exists_eq_left, atI_zero, atI_one, atI_two, List.map_cons, List.map_nil, List.length_cons, List.length_nil, true_and, and_true, List.length_set, Bool.true_and, Bool.and_true, xor_f, xor_t, Option.map_none, imin]
          refine ⟨⟨_, rfl⟩, ⟨rfl, keys_sc (encM_keys ms), kl⟩, ?_⟩
          have e : min 9 s.1 = s.1 := by omega
          rw [e]
          exact done s.1 (Int.le_refl _) (.inl rfl) (fun v' z => by rw [hf] at z; cases z)
        | some u =>
          simp only [fRet, fRet.stabR, fTuple, fB, g1, gTuple, gList, fList, fIx, f2R, gIx, fVar, fC, fCons, fNil, fTup, fLst, rCons, rNil, fSet, fAsg, tgName, tgTup, tgCons, tgNil, fYes, fAnd, fOr, fNot, fTest, boolW, gLt, gLe, gGt, gGe, gB2, f2, gI2, gI2C, fAdd, gAdd, fSub, fMul, gMul, fMod, fDiv, fPow, fNeg, f1, gNeg, fIfE, fAndV, fOrV, fNotV, fCall, fCallB, fCallBN, fCallN, fCallK, stab, Res.d, intW, fLen, gLen, fAbs, fInt, fMax2, fMin2, fMax3, gI1, gI2a, gI3a, fiSeq, gSeq, fiRng1, fiRng2, fiEnum, gEnum, fiRev, gRev, fiZip, gZip, fDrop, fNext, fBreak, fCont, fRetN, fShare, unown, fPar, parW, fPut, subW, fApp, appW, isOwL, fExt, extW, fSorted, gSorted, fListRg1, fListRev, fListKeys, fGet2, dictW, fDct0, fDct1, fRepr, gRepr, fAny, fAll, gBools, fSum, gSum, fMaxL, gMaxL, fMinL, gMinL, fChain, fSl, gSl, fPart, fNoP, fBagW, fBagI, fBagS, fBagIf, fScr, fBag, fBag2, nnW, wipeD, Res.ok, endsP, DL.endsL, endsO, gt0, gt1, gt2, gt3, gt4, gt5, gt6, gt7, gt8, gt9, gt10, gt11, gt12, gt13, gt14, gt15, st0, st1, st2, st3, st4, st5, st6, st7, st8, st9, st10, st11, st12, st13, st14, st15, Option.some.injEq, exists_eq_left', exists_eq_left, atI_zero, atI_one, atI_two, List.map_cons, List.map_nil, List.length_cons, List.length_nil, true_and, and_true, List.length_set, Bool.true_and, Bool.and_true, xor_f, xor_t, Option.map_some, imin]
          refine ⟨⟨_, rfl⟩, ⟨rfl, keys_sc (encM_keys ms), kl⟩, ?_⟩
          refine done (min u s.1) (by omega) ?_ (fun v' z => by rw [hf] at z; cases z; omega)
          by_cases e : u ≤ s.1
          · exact .inr (by rw [hf, Int.min_eq_left e])
          · exact .inl (by omega)
    · rintro δ ⟨ms, s2, s3, rfl, nd, wit, cov, hl⟩
      refine hx _ ⟨ms, s2, s3, rfl, nd, wit, fun s hs hn => ?_, ?_⟩
      · obtain ⟨j, hj, e⟩ := List.getElem_of_mem hs
        exact cov j s (by rw [List.length_map]; exact hj) (by rw [← e]; exact List.getElem?_eq_getElem hj) hn
      · rw [List.length_map] at hl; have := ok.1; omega
  · rintro δ ⟨ms, s2, s3, rfl, nd, wit, cov, hl⟩
    let f : Int → Int × Int := fun c => (c, (lookM ms c).getD 0)
    simp only [fRet, fRet.stabR, fTuple, fB, g1, gTuple, gList, fList, fIx, f2R, gIx, fVar, fC, fCons, fNil, fTup, fLst, rCons, rNil, fSet, fAsg, tgName, tgTup, tgCons, tgNil, fYes, fAnd, fOr, fNot, fTest, boolW, gLt, gLe, gGt, gGe, gB2, f2, gI2, gI2C, fAdd, gAdd, fSub, fMul, gMul, fMod, fDiv, fPow, fNeg, f1, gNeg, fIfE, fAndV, fOrV, fNotV, fCall, fCallB, fCallBN, fCallN, fCallK, stab, Res.d, intW, fLen, gLen, fAbs, fInt, fMax2, fMin2, fMax3, gI1, gI2a, gI3a, fiSeq, gSeq, fiRng1, fiRng2, fiEnum, gEnum, fiRev, gRev, fiZip, gZip, fDrop, fNext, fBreak, fCont, fRetN, fShare, unown, fPar, parW, fPut, subW, fApp, appW, isOwL, fExt, extW, fSorted, gSorted, fListRg1, fListRev, fListKeys, fGet2, dictW, fDct0, fDct1, fRepr, gRepr, fAny, fAll, gBools, fSum, gSum, fMaxL, gMaxL, fMinL, gMinL, fChain, fSl, gSl, fPart, fNoP, fBagW, fBagI, fBagS, fBagIf, fScr, fBag, fBag2, nnW, wipeD, Res.ok, endsP, DL.endsL, endsO, gt0, gt1, gt2, gt3, gt4, gt5, gt6, gt7, gt8, gt9, gt10, gt11, gt12, gt13, gt14, gt15, st0, st1, st2, st3, st4, st5, st6, st7, st8, st9, st10, st11, st12, st13, st14, st15, Option.some.injEq, exists_eq_left', exists_eq_left, atI_zero, atI_one, atI_two, List.map_cons, List.map_nil, List.length_cons, List.length_nil, true_and, and_true, List.length_set, Bool.true_and, Bool.and_true, xor_f, xor_t]
    refine flc_mapX (sortI (ms.map (·.1))) PyData.int (fun c => prD (f c)) (fun R hR => ?_) (by rw [sort_len, List.length_map, sl_eq]; omega) (fun c hc K k => ?_) ?_
    · simp only [fRet, fRet.stabR, fTuple, fB, g1, gTuple, gList, fList, fIx, f2R, gIx, fVar, fC, fCons, fNil, fTup, fLst, rCons, rNil, fSet, fAsg, tgName, tgTup, tgCons, tgNil, fYes, fAnd, fOr, fNot, fTest, boolW, gLt, gLe, gGt, gGe, gB2, f2, gI2, gI2C, fAdd, gAdd, fSub, fMul, gMul, fMod, fDiv, fPow, fNeg, f1, gNeg, fIfE, fAndV, fOrV, fNotV, fCall, fCallB, fCallBN, fCallN, fCallK, stab, Res.d, intW, fLen, gLen, fAbs, fInt, fMax2, fMin2, fMax3, gI1, gI2a, gI3a, fiSeq, gSeq, fiRng1, fiRng2, fiEnum, gEnum, fiRev, gRev, fiZip, gZip, fDrop, fNext, fBreak, fCont, fRetN, fShare, unown, fPar, parW, fPut, subW, fApp, appW, isOwL, fExt, extW, fSorted, gSorted, fListRg1, fListRev, fListKeys, fGet2, dictW, fDct0, fDct1, fRepr, gRepr, fAny, fAll, gBools, fSum, gSum, fMaxL, gMaxL, fMinL, gMinL, fChain, fSl, gSl, fPart, fNoP, fBagW, fBagI, fBagS, fBagIf, fScr, fBag, fBag2, nnW, wipeD, Res.ok, endsP, DL.endsL, endsO, gt0, gt1, gt2, gt3, gt4, gt5, gt6, gt7, gt8, gt9, gt10, gt11, gt12, gt13, gt14, gt15, st0, st1, st2, st3, st4, st5, st6, st7, st8, st9, st10, st11, st12, st13, st14, st15, Option.some.injEq, exists_eq_left', exists_eq_left, atI_zero, atI_one, atI_two, List.map_cons, List.map_nil, List.length_cons, List.length_nil, true_and, and_true, List.length_set, Bool.true_and, Bool.and_true, xor_f, xor_t]
      refine ⟨keys_sc (encM_keys ms), ms.map (·.1), encM_keys ms, hR _⟩
    · obtain ⟨v, hv⟩ := lookM_mem.mp ((sort_mem _ _).mp hc)
      simp only [fRet, fRet.stabR, fTuple, fB, g1, gTuple, gList, fList, fIx, f2R, gIx, fVar, fC, fCons, fNil, fTup, fLst, rCons, rNil, fSet, fAsg, tgName, tgTup, tgCons, tgNil, fYes, fAnd, fOr, fNot, fTest, boolW, gLt, gLe, gGt, gGe, gB2, f2, gI2, gI2C, fAdd, gAdd, fSub, fMul, gMul, fMod, fDiv, fPow, fNeg, f1, gNeg, fIfE, fAndV, fOrV, fNotV, fCall, fCallB, fCallBN, fCallN, fCallK, stab, Res.d, intW, fLen, gLen, fAbs, fInt, fMax2, fMin2, fMax3, gI1, gI2a, gI3a, fiSeq, gSeq, fiRng1, fiRng2, fiEnum, gEnum, fiRev, gRev, fiZip, gZip, fDrop, fNext, fBreak, fCont, fRetN, fShare, unown, fPar, parW, fPut, subW, fApp, appW, isOwL, fExt, extW, fSorted, gSorted, fListRg1, fListRev, fListKeys, fGet2, dictW, fDct0, fDct1, fRepr, gRepr, fAny, fAll, gBools, fSum, gSum, fMaxL, gMaxL, fMinL, gMinL, fChain, fSl, gSl, fPart, fNoP, fBagW, fBagI, fBagS, fBagIf, fScr, fBag, fBag2, nnW, wipeD, Res.ok, endsP, DL.endsL, endsO, gt0, gt1, gt2, gt3, gt4, gt5, gt6, gt7, gt8, gt9, gt10, gt11, gt12, gt13, gt14, gt15, st0, st1, st2, st3, st4, st5, st6, st7, st8, st9, st10, st11, st12, st13, st14, st15, Option.some.injEq, exists_eq_left', exists_eq_left, atI_zero, atI_one, atI_two, List.map_cons, List.map_nil, List.length_cons, List.length_nil, true_and, and_true, List.length_set, Bool.true_and, Bool.and_true, xor_f, xor_t, encM_look, hv, Option.map_some]
      refine ⟨by decide, ⟨rfl, keys_sc (encM_keys ms)⟩, by decide, ?_⟩
      have e : prD (f c) = .tuple [.int c, .int v] := by show prD (c, (lookM ms c).getD 0) = _; rw [hv]; rfl
      rw [e] at k
      exact k
    · rw [show (sortI (ms.map (·.1))).map (fun c => prD (f c)) = ((sortI (ms.map (·.1))).map f).map prD by rw [List.map_map]; rfl]
      refine q _ ⟨?_, fun p hp => ?_, fun s hs hn => ?_, by rw [List.length_map, sort_len, List.length_map]; exact hl⟩
      · rw [List.pairwise_map]
        exact sort_lt nd
      · obtain ⟨c, hc, rfl⟩ := List.mem_map.mp hp
        obtain ⟨v, hv⟩ := lookM_mem.mp ((sort_mem _ _).mp hc)
        obtain ⟨s, hs, e1, e2⟩ := wit c v hv
        exact ⟨s, hs, by show s.1 = (lookM ms c).getD 0; rw [hv]; exact e1, e2⟩
      · obtain ⟨v, hv, hle⟩ := cov s hs hn
        refine ⟨f (s.2 - s.1), List.mem_map_of_mem ((sort_mem _ _).mpr (lookM_mem.mpr ⟨v, hv⟩)), rfl, ?_⟩
        show (lookM ms (s.2 - s.1)).getD 0 ≤ s.1
        rw [hv]; exact hle

/-! ### the law's own going through -/
def optD : Option Int → D
  | some i => .int i
  | none => .none
def S_far : SpD := fun ds QD _ => ∃ net n top, ds = [netD net, .int n, .int top] ∧ NetOk net ∧ 0 ≤ n ∧ n ≤ top ∧ top ≤ 1000 ∧
  ∀ fs : List (Option Int), fs.length = (top + 1).toNat → (∀ x : Int, 0 ≤ x → x ≤ top → ((∃ v, fs[x.toNat]? = some (some v)) ↔ RT net top n x)) → QD (.list (fs.map optD))
structure FI (net : List (Int × Int)) (n top : Int) (fs : List (Option Int)) (rs : List Int) : Prop where
  len : fs.length = (top + 1).toNat
  nd : rs.Nodup
  rt : ∀ x ∈ rs, RT net top n x
  at_ : ∀ x : Int, 0 ≤ x → x ≤ top → ((∃ v, fs[x.toNat]? = some (some v)) ↔ x ∈ rs)
  base : n ∈ rs
def FW (net ms : List (Int × Int)) (n top : Int) (fs : List (Option Int)) (rs : List Int) (s6 s7 s8 s9 : Slot) : List Slot := [.sh (netD net), .sh (.int n), .sh (.int top), .sh (.list (ms.map prD)), .ow (.list (fs.map optD)), .ow (.list (rs.map PyData.int)), s6, s7, s8, s9, .no, .no]
theorem set_opt (fs : List (Option Int)) (i : Nat) (v : Int) : (fs.map optD).set i (.int v) = (fs.set i (some v)).map optD := by rw [List.map_set]; rfl
theorem FI.bd {net : List (Int × Int)} {n top : Int} {fs : List (Option Int)} {rs : List Int} (f : FI net n top fs rs) (ok : NetOk net) (h0 : 0 ≤ n) (hT : n ≤ top) {x : Int} (hx : x ∈ rs) : 0 ≤ x ∧ x ≤ top := (f.rt x hx).bd ok h0 hT
theorem l_far : ∀ ds QD ED, S_far ds QD ED → F__law_far S_moves (endsP QD ED) (startD N__law_far ds) := by
  rintro ds QD ED ⟨net, n, top, rfl, ok, h0, hT, h1, q⟩
  unfold F__law_far
  rw [show startD N__law_far [netD net, .int n, .int top] = [.sh (netD net), .sh (.int n), .sh (.int top), .no, .no, .no, .no, .no, .no, .no, .no, .no] from rfl]
  refine fseq_run ?_
  simp only [fRet, fRet.stabR, fTuple, fB, g1, gTuple, gList, fList, fIx, f2R, gIx, fVar, fC, fCons, fNil, fTup, fLst, rCons, rNil, fSet, fAsg, tgName, tgTup, tgCons, tgNil, fYes, fAnd, fOr, fNot, fTest, boolW, gLt, gLe, gGt, gGe, gB2, f2, gI2, gI2C, fAdd, gAdd, fSub, fMul, gMul, fMod, fDiv, fPow, fNeg, f1, gNeg, fIfE, fAndV, fOrV, fNotV, fCall, fCallB, fCallBN, fCallN, fCallK, stab, Res.d, intW, fLen, gLen, fAbs, fInt, fMax2, fMin2, fMax3, gI1, gI2a, gI3a, fiSeq, gSeq, fiRng1, fiRng2, fiEnum, gEnum, fiRev, gRev, fiZip, gZip, fDrop, fNext, fBreak, fCont, fRetN, fShare, unown, fPar, parW, fPut, subW, fApp, appW, isOwL, fExt, extW, fSorted, gSorted, fListRg1, fListRev, fListKeys, fGet2, dictW, fDct0, fDct1, fRepr, gRepr, fAny, fAll, gBools, fSum, gSum, fMaxL, gMaxL, fMinL, gMinL, fChain, fSl, gSl, fPart, fNoP, fBagW, fBagI, fBagS, fBagIf, fScr, fBag, fBag2, nnW, wipeD, Res.ok, endsP, DL.endsL, endsO, gt0, gt1, gt2, gt3, gt4, gt5, gt6, gt7, gt8, gt9, gt10, gt11, gt12, gt13, gt14, gt15, st0, st1, st2, st3, st4, st5, st6, st7, st8, st9, st10, st11, st12, st13, st14, st15, Option.some.injEq, exists_eq_left', exists_eq_left, atI_zero, atI_one, atI_two, List.map_cons, List.map_nil, List.length_cons, List.length_nil, true_and, and_true, List.length_set, Bool.true_and, Bool.and_true, xor_f, xor_t, rep1]
  refine ⟨net, rfl, ok, fun ms mv => ?_⟩
  simp only [fRet, fRet.stabR, fTuple, fB, g1, gTuple, gList, fList, fIx, f2R, gIx, fVar, fC, fCons, fNil, fTup, fLst, rCons, rNil, fSet, fAsg, tgName, tgTup, tgCons, tgNil, fYes, fAnd, fOr, fNot, fTest, boolW, gLt, gLe, gGt, gGe, gB2, f2, gI2, gI2C, fAdd, gAdd, fSub, fMul, gMul, fMod, fDiv, fPow, fNeg, f1, gNeg, fIfE, fAndV, fOrV, fNotV, fCall, fCallB, fCallBN, fCallN, fCallK, stab, Res.d, intW, fLen, gLen, fAbs, fInt, fMax2, fMin2, fMax3, gI1, gI2a, gI3a, fiSeq, gSeq, fiRng1, fiRng2, fiEnum, gEnum, fiRev, gRev, fiZip, gZip, fDrop, fNext, fBreak, fCont, fRetN, fShare, unown, fPar, parW, fPut, subW, fApp, appW, isOwL, fExt, extW, fSorted, gSorted, fListRg1, fListRev, fListKeys, fGet2, dictW, fDct0, fDct1, fRepr, gRepr, fAny, fAll, gBools, fSum, gSum, fMaxL, gMaxL, fMinL, gMinL, fChain, fSl, gSl, fPart, fNoP, fBagW, fBagI, fBagS, fBagIf, fScr, fBag, fBag2, nnW, wipeD, Res.ok, endsP, DL.endsL, endsO, gt0, gt1, gt2, gt3, gt4, gt5, gt6, gt7, gt8, gt9, gt10, gt11, gt12, gt13, gt14, gt15, st0, st1, st2, st3, st4, st5, st6, st7, st8, st9, st10, st11, st12, st13, st14, st15, Option.some.injEq, exists_eq_left', exists_eq_left, atI_zero, atI_one, atI_two, List.map_cons, List.map_nil, List.length_cons, List.length_nil, true_and, and_true, List.length_set, Bool.true_and, Bool.and_true, xor_f, xor_t]
  refine ⟨by decide, ⟨by omega, by omega, by rw [sl_eq]; omega⟩, by decide, by decide, by decide, by decide, fseq_run ?_⟩
  simp only [fRet, fRet.stabR, fTuple, fB, g1, gTuple, gList, fList, fIx, f2R, gIx, fVar, fC, fCons, fNil, fTup, fLst, rCons, rNil, fSet, fAsg, tgName, tgTup, tgCons, tgNil, fYes, fAnd, fOr, fNot, fTest, boolW, gLt, gLe, gGt, gGe, gB2, f2, gI2, gI2C, fAdd, gAdd, fSub, fMul, gMul, fMod, fDiv, fPow, fNeg, f1, gNeg, fIfE, fAndV, fOrV, fNotV, fCall, fCallB, fCallBN, fCallN, fCallK, stab, Res.d, intW, fLen, gLen, fAbs, fInt, fMax2, fMin2, fMax3, gI1, gI2a, gI3a, fiSeq, gSeq, fiRng1, fiRng2, fiEnum, gEnum, fiRev, gRev, fiZip, gZip, fDrop, fNext, fBreak, fCont, fRetN, fShare, unown, fPar, parW, fPut, subW, fApp, appW, isOwL, fExt, extW, fSorted, gSorted, fListRg1, fListRev, fListKeys, fGet2, dictW, fDct0, fDct1, fRepr, gRepr, fAny, fAll, gBools, fSum, gSum, fMaxL, gMaxL, fMinL, gMinL, fChain, fSl, gSl, fPart, fNoP, fBagW, fBagI, fBagS, fBagIf, fScr, fBag, fBag2, nnW, wipeD, Res.ok, endsP, DL.endsL, endsO, gt0, gt1, gt2, gt3, gt4, gt5, gt6, gt7, gt8, gt9, gt10, gt11, gt12, gt13, gt14, gt15, st0, st1, st2, st3, st4, st5, st6, st7, st8, st9, st10, st11, st12, st13, st14, st15, Option.some.injEq, exists_eq_left', exists_eq_left, atI_zero, atI_one, atI_two, List.map_cons, List.map_nil, List.length_cons, List.length_nil, true_and, and_true, List.length_set, Bool.true_and, Bool.and_true, xor_f, xor_t, List.length_replicate]
  refine ⟨⟨_, rfl⟩, n.toNat, by unfold ixN; rw [if_pos h0, if_pos (by omega)], ?_⟩
  have e0 : (List.replicate (top + 1).toNat PyData.none).set n.toNat (.int 0) = ((List.replicate (top + 1).toNat (none : Option Int)).set n.toNat (some 0)).map optD := by rw [← set_opt, List.map_replicate]; rfl
  rw [e0]
  have start : FI net n top ((List.replicate (top + 1).toNat (none : Option Int)).set n.toNat (some 0)) [n] := by
    refine ⟨by rw [List.length_set, List.length_replicate], by simp, fun x hx => by rw [List.mem_singleton.mp hx]; exact .base, fun x hx0 hx1 => ?_, by simp⟩
    rw [List.mem_singleton]
    by_cases e : x = n
    · subst e
      exact ⟨fun _ => rfl, fun _ => ⟨0, List.getElem?_set_self (by rw [List.length_replicate]; omega)⟩⟩
    · refine ⟨fun ⟨v, hv⟩ => ?_, fun z => absurd z e⟩
      rw [List.getElem?_set_ne (by omega), List.getElem?_replicate] at hv
      split at hv <;> cases hv
  refine fseq_join (fun δ => ∃ fs rs s6 s7 s8 s9, δ = FW net ms n top fs rs s6 s7 s8 s9 ∧ FI net n top fs rs ∧ ∀ x ∈ rs, Cl net top rs x) (fun nx hx => ?_) ?_
  · refine ffor_run (rgD 0 (((top + 1).toNat : Nat) : Int)) (fun i δ => ∃ fs rs s6 s7 s8 s9, δ = FW net ms n top fs rs s6 s7 s8 s9 ∧ FI net n top fs rs ∧ (∀ j x, j < i → rs[j]? = some x → Cl net top rs x) ∧ i ≤ rs.length) (fun R hR => ?_) ⟨_, [n], _, _, _, _, rfl, start, fun j x hj => absurd hj (Nat.not_lt_zero _), Nat.zero_le _⟩ ?_ ?_
    · simp only [fRet, fRet.stabR, fTuple, fB, g1, gTuple, gList, fList, fIx, f2R, gIx, fVar, fC, fCons, fNil, fTup, fLst, rCons, rNil, fSet, fAsg, tgName, tgTup, tgCons, tgNil, fYes, fAnd, fOr, fNot, fTest, boolW, gLt, gLe, gGt, gGe, gB2, f2, gI2, gI2C, fAdd, gAdd, fSub, fMul, gMul, fMod, fDiv, fPow, fNeg, f1, gNeg, fIfE, fAndV, fOrV, fNotV, fCall, fCallB, fCallBN, fCallN, fCallK, stab, Res.d, intW, fLen, gLen, fAbs, fInt, fMax2, fMin2, fMax3, gI1, gI2a, gI3a, fiSeq, gSeq, fiRng1, fiRng2, fiEnum, gEnum, fiRev, gRev, fiZip, gZip, fDrop, fNext, fBreak, fCont, fRetN, fShare, unown, fPar, parW, fPut, subW, fApp, appW, isOwL, fExt, extW, fSorted, gSorted, fListRg1, fListRev, fListKeys, fGet2, dictW, fDct0, fDct1, fRepr, gRepr, fAny, fAll, gBools, fSum, gSum, fMaxL, gMaxL, fMinL, gMinL, fChain, fSl, gSl, fPart, fNoP, fBagW, fBagI, fBagS, fBagIf, fScr, fBag, fBag2, nnW, wipeD, Res.ok, endsP, DL.endsL, endsO, gt0, gt1, gt2, gt3, gt4, gt5, gt6, gt7, gt8, gt9, gt10, gt11, gt12, gt13, gt14, gt15, st0, st1, st2, st3, st4, st5, st6, st7, st8, st9, st10, st11, st12, st13, st14, st15, Option.some.injEq, exists_eq_left', exists_eq_left, atI_zero, atI_one, atI_two, List.map_cons, List.map_nil, List.length_cons, List.length_nil, true_and, and_true, List.length_set, Bool.true_and, Bool.and_true, xor_f, xor_t]
      have e : ((((top + 1).toNat : Nat)) : Int) = top + 1 := by omega
      rw [e] at hR
      exact ⟨⟨by omega, by omega⟩, hR⟩
    · rintro i d δ hd ⟨fs, rs, s6, s7, s8, s9, rfl, fi, cl, hi⟩
      have hrl : rs.length ≤ (top + 1).toNat := nodup_len _ _ fi.nd fun x hx => by have := fi.bd ok h0 hT hx; omega
      obtain ⟨i', hi', rfl⟩ := rgD_mem (List.mem_of_getElem? hd)
      have ei : i' = i := by
        unfold rgD at hd
        rw [List.getElem?_map] at hd
        have : (((((top + 1).toNat : Nat)) : Int) - 0).toNat = (top + 1).toNat := by omega
        rw [this] at hd
        by_cases hl : i < (top + 1).toNat
        · rw [List.getElem?_range hl] at hd
          simp at hd
          omega
        · rw [List.getElem?_eq_none (by simp; omega)] at hd
          cases hd
      subst ei
      unfold FW
      simp only [fRet, fRet.stabR, fTuple, fB, g1, gTuple, gList, fList, fIx, f2R, gIx, fVar, fC, fCons, fNil, fTup, fLst, rCons, rNil, fSet, fAsg, tgName, tgTup, tgCons, tgNil, fYes, fAnd, fOr, fNot, fTest, boolW, gLt, gLe, gGt, gGe, gB2, f2, gI2, gI2C, fAdd, gAdd, fSub, fMul, gMul, fMod, fDiv, fPow, fNeg, f1, gNeg, fIfE, fAndV, fOrV, fNotV, fCall, fCallB, fCallBN, fCallN, fCallK, stab, Res.d, intW, fLen, gLen, fAbs, fInt, fMax2, fMin2, fMax3, gI1, gI2a, gI3a, fiSeq, gSeq, fiRng1, fiRng2, fiEnum, gEnum, fiRev, gRev, fiZip, gZip, fDrop, fNext, fBreak, fCont, fRetN, fShare, unown, fPar, parW, fPut, subW, fApp, appW, isOwL, fExt, extW, fSorted, gSorted, fListRg1, fListRev, fListKeys, fGet2, dictW, fDct0, fDct1, fRepr, gRepr, fAny, fAll, gBools, fSum, gSum, fMaxL, gMaxL, fMinL, gMinL, fChain, fSl, gSl, fPart, fNoP, fBagW, fBagI, fBagS, fBagIf, fScr, fBag, fBag2, nnW, wipeD, Res.ok, endsP, DL.endsL, endsO, gt0, gt1, gt2, gt3, gt4, gt5, gt6, gt7, gt8, gt9, gt10, gt11, gt12, gt13, gt14, gt15, st0, st1, st2, st3, st4, st5, st6, st7, st8, st9, st10, st11, st12, st13, st14, st15, Option.some.injEq, exists_eq_left', exists_eq_left, atI_zero, atI_one, atI_two, List.map_cons, List.map_nil, List.length_cons, List.length_nil, true_and, and_true, List.length_set, Bool.true_and, Bool.and_true, xor_f, xor_t]
      refine ⟨by decide, fseq_run (fif_run ?_)⟩
      simp only [fRet, fRet.stabR, fTuple, fB, g1, gTuple, gList, fList, fIx, f2R, gIx, fVar, fC, fCons, fNil, fTup, fLst, rCons, rNil, fSet, fAsg, tgName, tgTup, tgCons, tgNil, fYes, fAnd, fOr, fNot, fTest, boolW, gLt, gLe, gGt, gGe, gB2, f2, gI2, gI2C, fAdd, gAdd, fSub, fMul, gMul, fMod, fDiv, fPow, fNeg, f1, gNeg, fIfE, fAndV, fOrV, fNotV, fCall, fCallB, fCallBN, fCallN, fCallK, stab, Res.d, intW, fLen, gLen, fAbs, fInt, fMax2, fMin2, fMax3, gI1, gI2a, gI3a, fiSeq, gSeq, fiRng1, fiRng2, fiEnum, gEnum, fiRev, gRev, fiZip, gZip, fDrop, fNext, fBreak, fCont, fRetN, fShare, unown, fPar, parW, fPut, subW, fApp, appW, isOwL, fExt, extW, fSorted, gSorted, fListRg1, fListRev, fListKeys, fGet2, dictW, fDct0, fDct1, fRepr, gRepr, fAny, fAll, gBools, fSum, gSum, fMaxL, gMaxL, fMinL, gMinL, fChain, fSl, gSl, fPart, fNoP, fBagW, fBagI, fBagS, fBagIf, fScr, fBag, fBag2, nnW, wipeD, Res.ok, endsP, DL.endsL, endsO, gt0, gt1, gt2, gt3, gt4, gt5, gt6, gt7, gt8, gt9, gt10, gt11, gt12, gt13, gt14, gt15, st0, st1, st2, st3, st4, st5, st6, st7, st8, st9, st10, st11, st12, st13, st14, st15, Option.some.injEq, exists_eq_left', exists_eq_left, atI_zero, atI_one, atI_two, List.map_cons, List.map_nil, List.length_cons, List.length_nil, true_and, and_true, List.length_set, Bool.true_and, Bool.and_true, xor_f, xor_t, gEq_int_eq, List.length_map]
      by_cases g : (i' : Int) = rs.length
      · refine iteT' (decide_eq_true g) (hx _ ⟨fs, rs, _, _, _, _, rfl, fi, fun x hx => ?_⟩)
        obtain ⟨j, hj, e⟩ := List.getElem_of_mem hx
        exact cl j x (by omega) (by rw [← e]; exact List.getElem?_eq_getElem hj)
      · refine iteF' (decide_eq_false g) (fseq_run ?_)
        have hil : i' < rs.length := by omega
        have hx0 : rs[i']? = some rs[i'] := List.getElem?_eq_getElem hil
        generalize hxe : rs[i'] = x at hx0
        have hxm : x ∈ rs := List.mem_of_getElem? hx0
        have hxb := fi.bd ok h0 hT hxm
        have eat : atI (rs.map PyData.int) (i' : Int) = some (.int x) := atI_map (by omega) (by simpa using hx0)
        simp only [fRet, fRet.stabR, fTuple, fB, g1, gTuple, gList, fList, fIx, f2R, gIx, fVar, fC, fCons, fNil, fTup, fLst, rCons, rNil, fSet, fAsg, tgName, tgTup, tgCons, tgNil, fYes, fAnd, fOr, fNot, fTest, boolW, gLt, gLe, gGt, gGe, gB2, f2, gI2, gI2C, fAdd, gAdd, fSub, fMul, gMul, fMod, fDiv, fPow, fNeg, f1, gNeg, fIfE, fAndV, fOrV, fNotV, fCall, fCallB, fCallBN, fCallN, fCallK, stab, Res.d, intW, fLen, gLen, fAbs, fInt, fMax2, fMin2, fMax3, gI1, gI2a, gI3a, fiSeq, gSeq, fiRng1, fiRng2, fiEnum, gEnum, fiRev, gRev, fiZip, gZip, fDrop, fNext, fBreak, fCont, fRetN, fShare, unown, fPar, parW, fPut, subW, fApp, appW, isOwL, fExt, extW, fSorted, gSorted, fListRg1, fListRev, fListKeys, fGet2, dictW, fDct0, fDct1, fRepr, gRepr, fAny, fAll, gBools, fSum, gSum, fMaxL, gMaxL, fMinL, gMinL, fChain, fSl, gSl, fPart, fNoP, fBagW, fBagI, fBagS, fBagIf, fScr, fBag, fBag2, nnW, wipeD, Res.ok, endsP, DL.endsL, endsO, gt0, gt1, gt2, gt3, gt4, gt5, gt6, gt7, gt8, gt9, gt10, gt11, gt12, gt13, gt14, gt15, st0, st1, st2, st3, st4, st5, st6, st7, st8, st9, st10, st11, st12, st13, st14, st15, Option.some.injEq, exists_eq_left', exists_eq_left, atI_zero, atI_one, atI_two, List.map_cons, List.map_nil, List.length_cons, List.length_nil, true_and, and_true, List.length_set, Bool.true_and, Bool.and_true, xor_f, xor_t, eat]
        refine ⟨by decide, fseq_run ?_⟩
        simp only [fRet, fRet.stabR, fTuple, fB, g1, gTuple, gList, fList, fIx, f2R, gIx, fVar, fC, fCons, fNil, fTup, fLst, rCons, rNil, fSet, fAsg, tgName, tgTup, tgCons, tgNil, fYes, fAnd, fOr, fNot, fTest, boolW, gLt, gLe, gGt, gGe, gB2, f2, gI2, gI2C, fAdd, gAdd, fSub, fMul, gMul, fMod, fDiv, fPow, fNeg, f1, gNeg, fIfE, fAndV, fOrV, fNotV, fCall, fCallB, fCallBN, fCallN, fCallK, stab, Res.d, intW, fLen, gLen, fAbs, fInt, fMax2, fMin2, fMax3, gI1, gI2a, gI3a, fiSeq, gSeq, fiRng1, fiRng2, fiEnum, gEnum, fiRev, gRev, fiZip, gZip, fDrop, fNext, fBreak, fCont, fRetN, fShare, unown, fPar, parW, fPut, subW, fApp, appW, isOwL, fExt, extW, fSorted, gSorted, fListRg1, fListRev, fListKeys, fGet2, dictW, fDct0, fDct1, fRepr, gRepr, fAny, fAll, gBools, fSum, gSum, fMaxL, gMaxL, fMinL, gMinL, fChain, fSl, gSl, fPart, fNoP, fBagW, fBagI, fBagS, fBagIf, fScr, fBag, fBag2, nnW, wipeD, Res.ok, endsP, DL.endsL, endsO, gt0, gt1, gt2, gt3, gt4, gt5, gt6, gt7, gt8, gt9, gt10, gt11, gt12, gt13, gt14, gt15, st0, st1, st2, st3, st4, st5, st6, st7, st8, st9, st10, st11, st12, st13, st14, st15, Option.some.injEq, exists_eq_left', exists_eq_left, atI_zero, atI_one, atI_two, List.map_cons, List.map_nil, List.length_cons, List.length_nil, true_and, and_true, List.length_set, Bool.true_and, Bool.and_true, xor_f, xor_t]
        have mb : ∀ m ∈ ms, m.2 ≤ x → 0 ≤ x + m.1 := fun m hm hle => by
          obtain ⟨s, hs, e1, e2⟩ := mv.wit m hm
          have := ok.2 s hs
          omega
        let p : Int × Int → Bool := fun m => decide (m.2 ≤ x) && (decide (x + m.1 ≤ top) && decide (x + m.1 ∉ rs))
        refine flc_filter ms prD p (fun m => .int (x + m.1)) (fun R hR => by simp only [fRet, fRet.stabR, fTuple, fB, g1, gTuple, gList, fList, fIx, f2R, gIx, fVar, fC, fCons, fNil, fTup, fLst, rCons, rNil, fSet, fAsg, tgName, tgTup, tgCons, tgNil, fYes, fAnd, fOr, fNot, fTest, boolW, gLt, gLe, gGt, gGe, gB2, f2, gI2, gI2C, fAdd, gAdd, fSub, fMul, gMul, fMod, fDiv, fPow, fNeg, f1, gNeg, fIfE, fAndV, fOrV, fNotV, fCall, fCallB, fCallBN, fCallN, fCallK, stab, Res.d, intW, fLen, gLen, fAbs, fInt, fMax2, fMin2, fMax3, gI1, gI2a, gI3a, fiSeq, gSeq, fiRng1, fiRng2, fiEnum, gEnum, fiRev, gRev, fiZip, gZip, fDrop, fNext, fBreak, fCont, fRetN, fShare, unown, fPar, parW, fPut, subW, fApp, appW, isOwL, fExt, extW, fSorted, gSorted, fListRg1, fListRev, fListKeys, fGet2, dictW, fDct0, fDct1, fRepr, gRepr, fAny, fAll, gBools, fSum, gSum, fMaxL, gMaxL, fMinL, gMinL, fChain, fSl, gSl, fPart, fNoP, fBagW, fBagI, fBagS, fBagIf, fScr, fBag, fBag2, nnW, wipeD, Res.ok, endsP, DL.endsL, endsO, gt0, gt1, gt2, gt3, gt4, gt5, gt6, gt7, gt8, gt9, gt10, gt11, gt12, gt13, gt14, gt15, st0, st1, st2, st3, st4, st5, st6, st7, st8, st9, st10, st11, st12, st13, st14, st15, Option.some.injEq, exists_eq_left', exists_eq_left, atI_zero, atI_one, atI_two, List.map_cons, List.map_nil, List.length_cons, List.length_nil, true_and, and_true, List.length_set, Bool.true_and, Bool.and_true, xor_f, xor_t]; exact hR _) (by have := mv.len; rw [sl_eq]; omega) (fun m hm K k1 k2 => ?_) ?_
        · unfold prD
          simp only [fRet, fRet.stabR, fTuple, fB, g1, gTuple, gList, fList, fIx, f2R, gIx, fVar, fC, fCons, fNil, fTup, fLst, rCons, rNil, fSet, fAsg, tgName, tgTup, tgCons, tgNil, fYes, fAnd, fOr, fNot, fTest, boolW, gLt, gLe, gGt, gGe, gB2, f2, gI2, gI2C, fAdd, gAdd, fSub, fMul, gMul, fMod, fDiv, fPow, fNeg, f1, gNeg, fIfE, fAndV, fOrV, fNotV, fCall, fCallB, fCallBN, fCallN, fCallK, stab, Res.d, intW, fLen, gLen, fAbs, fInt, fMax2, fMin2, fMax3, gI1, gI2a, gI3a, fiSeq, gSeq, fiRng1, fiRng2, fiEnum, gEnum, fiRev, gRev, fiZip, gZip, fDrop, fNext, fBreak, fCont, fRetN, fShare, unown, fPar, parW, fPut, subW, fApp, appW, isOwL, fExt, extW, fSorted, gSorted, fListRg1, fListRev, fListKeys, fGet2, dictW, fDct0, fDct1, fRepr, gRepr, fAny, fAll, gBools, fSum, gSum, fMaxL, gMaxL, fMinL, gMinL, fChain, fSl, gSl, fPart, fNoP, fBagW, fBagI, fBagS, fBagIf, fScr, fBag, fBag2, nnW, wipeD, Res.ok, endsP, DL.endsL, endsO, gt0, gt1, gt2, gt3, gt4, gt5, gt6, gt7, gt8, gt9, gt10, gt11, gt12, gt13, gt14, gt15, st0, st1, st2, st3, st4, st5, st6, st7, st8, st9, st10, st11, st12, st13, st14, st15, Option.some.injEq, exists_eq_left', exists_eq_left, atI_zero, atI_one, atI_two, List.map_cons, List.map_nil, List.length_cons, List.length_nil, true_and, and_true, List.length_set, Bool.true_and, Bool.and_true, xor_f, xor_t]
          refine ⟨by decide, by decide, ?_⟩
          by_cases g1 : m.2 ≤ x
          · refine iteT' (decide_eq_true g1) ?_
            by_cases g2 : x + m.1 ≤ top
            · refine iteT' (decide_eq_true g2) ?_
              have hb := mb m hm g1
              have hlt : (x + m.1).toNat < fs.length := by rw [fi.len]; omega
              have e2 : fs[(x + m.1).toNat]? = some fs[(x + m.1).toNat] := List.getElem?_eq_getElem hlt
              have ea := fi.at_ (x + m.1) hb g2
              refine ⟨optD fs[(x + m.1).toNat], atI_map hb e2, ?_⟩
              refine ⟨rfl, ?_⟩
              cases hv : fs[(x + m.1).toNat] with
              | none =>
                have hn : x + m.1 ∉ rs := fun z => by
                  obtain ⟨v, e3⟩ := ea.mpr z
                  rw [e2, hv] at e3
                  cases e3
                refine iteT' rfl (k1 ?_)
                simp [p, g1, g2, hn]
              | some v =>
                have hn : x + m.1 ∈ rs := ea.mp ⟨v, by rw [e2, hv]⟩
                refine iteF' rfl (k2 ?_)
                simp [p, hn]
            · refine iteF' (decide_eq_false g2) (iteF' rfl (k2 ?_))
              simp [p, g2]
          · refine iteF' (decide_eq_false g1) (iteF' rfl (k2 ?_))
            simp [p, g1]
        · generalize hnews : (ms.filter p).map (fun m => x + m.1) = news
          rw [show (ms.filter p).map (fun m => PyData.int (x + m.1)) = news.map PyData.int by rw [← hnews, List.map_map]; rfl]
          have inN : ∀ y, y ∈ news ↔ ∃ m ∈ ms, (m.2 ≤ x ∧ x + m.1 ≤ top ∧ x + m.1 ∉ rs) ∧ y = x + m.1 := fun y => by
            rw [← hnews, List.mem_map]
            constructor
            · rintro ⟨m, hm, rfl⟩
              obtain ⟨h1, h2⟩ := List.mem_filter.mp hm
              simp [p] at h2
              exact ⟨m, h1, ⟨h2.1, h2.2.1, h2.2.2⟩, rfl⟩
            · rintro ⟨m, hm, ⟨h1, h2, h3⟩, rfl⟩
              exact ⟨m, List.mem_filter.mpr ⟨hm, by simp [p, h1, h2, h3]⟩, rfl⟩
          have nN : ∀ y ∈ news, (0 ≤ y ∧ y ≤ top) ∧ y ∉ rs ∧ RT net top n y := fun y hy => by
            obtain ⟨m, hm, ⟨h1, h2, h3⟩, rfl⟩ := (inN y).mp hy
            refine ⟨⟨mb m hm h1, h2⟩, h3, ?_⟩
            obtain ⟨s, hs, e1, e2⟩ := mv.wit m hm
            rw [← e2] at h2 ⊢
            exact .step (fi.rt x hxm) hs (by omega) h2
          have ndN : news.Nodup := by
            rw [← hnews]
            have := (mv.up.filter p)
            rw [List.nodup_iff_pairwise_ne, List.pairwise_map]
            exact this.imp fun {a b} h e => by omega
          have lN : news.length ≤ 12 := by
            rw [← hnews, List.length_map]
            exact Nat.le_trans (List.length_filter_le _ _) mv.len
          simp only [fRet, fRet.stabR, fTuple, fB, g1, gTuple, gList, fList, fIx, f2R, gIx, fVar, fC, fCons, fNil, fTup, fLst, rCons, rNil, fSet, fAsg, tgName, tgTup, tgCons, tgNil, fYes, fAnd, fOr, fNot, fTest, boolW, gLt, gLe, gGt, gGe, gB2, f2, gI2, gI2C, fAdd, gAdd, fSub, fMul, gMul, fMod, fDiv, fPow, fNeg, f1, gNeg, fIfE, fAndV, fOrV, fNotV, fCall, fCallB, fCallBN, fCallN, fCallK, stab, Res.d, intW, fLen, gLen, fAbs, fInt, fMax2, fMin2, fMax3, gI1, gI2a, gI3a, fiSeq, gSeq, fiRng1, fiRng2, fiEnum, gEnum, fiRev, gRev, fiZip, gZip, fDrop, fNext, fBreak, fCont, fRetN, fShare, unown, fPar, parW, fPut, subW, fApp, appW, isOwL, fExt, extW, fSorted, gSorted, fListRg1, fListRev, fListKeys, fGet2, dictW, fDct0, fDct1, fRepr, gRepr, fAny, fAll, gBools, fSum, gSum, fMaxL, gMaxL, fMinL, gMinL, fChain, fSl, gSl, fPart, fNoP, fBagW, fBagI, fBagS, fBagIf, fScr, fBag, fBag2, nnW, wipeD, Res.ok, endsP, DL.endsL, endsO, gt0, gt1, gt2, gt3, gt4, gt5, gt6, gt7, gt8, gt9, gt10, gt11, gt12, gt13, gt14, gt15, st0, st1, st2, st3, st4, st5, st6, st7, st8, st9, st10, st11, st12, st13, st14, st15, Option.some.injEq, exists_eq_left', exists_eq_left, atI_zero, atI_one, atI_two, List.map_cons, List.map_nil, List.length_cons, List.length_nil, true_and, and_true, List.length_set, Bool.true_and, Bool.and_true, xor_f, xor_t]
          refine ⟨by decide, fseq_run ?_⟩
          simp only [fRet, fRet.stabR, fTuple, fB, g1, gTuple, gList, fList, fIx, f2R, gIx, fVar, fC, fCons, fNil, fTup, fLst, rCons, rNil, fSet, fAsg, tgName, tgTup, tgCons, tgNil, fYes, fAnd, fOr, fNot, fTest, boolW, gLt, gLe, gGt, gGe, gB2, f2, gI2, gI2C, fAdd, gAdd, fSub, fMul, gMul, fMod, fDiv, fPow, fNeg, f1, gNeg, fIfE, fAndV, fOrV, fNotV, fCall, fCallB, fCallBN, fCallN, fCallK, stab, Res.d, intW, fLen, gLen, fAbs, fInt, fMax2, fMin2, fMax3, gI1, gI2a, gI3a, fiSeq, gSeq, fiRng1, fiRng2, fiEnum, gEnum, fiRev, gRev, fiZip, gZip, fDrop, fNext, fBreak, fCont, fRetN, fShare, unown, fPar, parW, fPut, subW, fApp, appW, isOwL, fExt, extW, fSorted, gSorted, fListRg1, fListRev, fListKeys, fGet2, dictW, fDct0, fDct1, fRepr, gRepr, fAny, fAll, gBools, fSum, gSum, fMaxL, gMaxL, fMinL, gMinL, fChain, fSl, gSl, fPart, fNoP, fBagW, fBagI, fBagS, fBagIf, fScr, fBag, fBag2, nnW, wipeD, Res.ok, endsP, DL.endsL, endsO, gt0, gt1, gt2, gt3, gt4, gt5, gt6, gt7, gt8, gt9, gt10, gt11, gt12, gt13, gt14, gt15, st0, st1, st2, st3, st4, st5, st6, st7, st8, st9, st10, st11, st12, st13, st14, st15, Option.some.injEq, exists_eq_left', exists_eq_left, atI_zero, atI_one, atI_two, List.map_cons, List.map_nil, List.length_cons, List.length_nil, true_and, and_true, List.length_set, Bool.true_and, Bool.and_true, xor_f, xor_t]
          refine ffor_run (news.map PyData.int) (fun k δ => ∃ (fs' : List (Option Int)) (s9 : Slot), δ = FW net ms n top fs' rs (.sh (.int i')) (.sh (.int x)) (.sh (.list (news.map PyData.int))) s9 ∧ fs'.length = (top + 1).toNat ∧ ∀ y : Int, 0 ≤ y → y ≤ top → ((∃ v, fs'[y.toNat]? = some (some v)) ↔ y ∈ rs ∨ y ∈ news.take k)) (fun R hR => by simp only [fRet, fRet.stabR, fTuple, fB, g1, gTuple, gList, fList, fIx, f2R, gIx, fVar, fC, fCons, fNil, fTup, fLst, rCons, rNil, fSet, fAsg, tgName, tgTup, tgCons, tgNil, fYes, fAnd, fOr, fNot, fTest, boolW, gLt, gLe, gGt, gGe, gB2, f2, gI2, gI2C, fAdd, gAdd, fSub, fMul, gMul, fMod, fDiv, fPow, fNeg, f1, gNeg, fIfE, fAndV, fOrV, fNotV, fCall, fCallB, fCallBN, fCallN, fCallK, stab, Res.d, intW, fLen, gLen, fAbs, fInt, fMax2, fMin2, fMax3, gI1, gI2a, gI3a, fiSeq, gSeq, fiRng1, fiRng2, fiEnum, gEnum, fiRev, gRev, fiZip, gZip, fDrop, fNext, fBreak, fCont, fRetN, fShare, unown, fPar, parW, fPut, subW, fApp, appW, isOwL, fExt, extW, fSorted, gSorted, fListRg1, fListRev, fListKeys, fGet2, dictW, fDct0, fDct1, fRepr, gRepr, fAny, fAll, gBools, fSum, gSum, fMaxL, gMaxL, fMinL, gMinL, fChain, fSl, gSl, fPart, fNoP, fBagW, fBagI, fBagS, fBagIf, fScr, fBag, fBag2, nnW, wipeD, Res.ok, endsP, DL.endsL, endsO, gt0, gt1, gt2, gt3, gt4, gt5, gt6, gt7, gt8, gt9, gt10, gt11, gt12, gt13, gt14, gt15, st0, st1, st2, st3, st4, st5, st6, st7, st8, st9, st10, st11, st12, st13, st14, st15, Option.some.injEq, exists_eq_left', exists_eq_left, atI_zero, atI_one, atI_two, List.map_cons, List.map_nil, List.length_cons, List.length_nil, true_and, and_true, List.length_set, Bool.true_and, Bool.and_true, xor_f, xor_t]; exact hR) ⟨fs, _, rfl, fi.len, fun y a b => by rw [fi.at_ y a b]; simp⟩ ?_ ?_
          · rintro k d δ hd ⟨fs', s9, rfl, hl', hat'⟩
            obtain ⟨z, hz, rfl⟩ := map_get hd
            have hzb := nN z (List.mem_of_getElem? hz)
            obtain ⟨v, hv⟩ := (hat' x hxb.1 hxb.2).mpr (.inl hxm)
            unfold FW
            simp only [fRet, fRet.stabR, fTuple, fB, g1, gTuple, gList, fList, fIx, f2R, gIx, fVar, fC, fCons, fNil, fTup, fLst, rCons, rNil, fSet, fAsg, tgName, tgTup, tgCons, tgNil, fYes, fAnd, fOr, fNot, fTest, boolW, gLt, gLe, gGt, gGe, gB2, f2, gI2, gI2C, fAdd, gAdd, fSub, fMul, gMul, fMod, fDiv, fPow, fNeg, f1, gNeg, fIfE, fAndV, fOrV, fNotV, fCall, fCallB, fCallBN, fCallN, fCallK, stab, Res.d, intW, fLen, gLen, fAbs, fInt, fMax2, fMin2, fMax3, gI1, gI2a, gI3a, fiSeq, gSeq, fiRng1, fiRng2, fiEnum, gEnum, fiRev, gRev, fiZip, gZip, fDrop, fNext, fBreak, fCont, fRetN, fShare, unown, fPar, parW, fPut, subW, fApp, appW, isOwL, fExt, extW, fSorted, gSorted, fListRg1, fListRev, fListKeys, fGet2, dictW, fDct0, fDct1, fRepr, gRepr, fAny, fAll, gBools, fSum, gSum, fMaxL, gMaxL, fMinL, gMinL, fChain, fSl, gSl, fPart, fNoP, fBagW, fBagI, fBagS, fBagIf, fScr, fBag, fBag2, nnW, wipeD, Res.ok, endsP, DL.endsL, endsO, gt0, gt1, gt2, gt3, gt4, gt5, gt6, gt7, gt8, gt9, gt10, gt11, gt12, gt13, gt14, gt15, st0, st1, st2, st3, st4, st5, st6, st7, st8, st9, st10, st11, st12, st13, st14, st15, Option.some.injEq, exists_eq_left', exists_eq_left, atI_zero, atI_one, atI_two, List.map_cons, List.map_nil, List.length_cons, List.length_nil, true_and, and_true, List.length_set, Bool.true_and, Bool.and_true, xor_f, xor_t, atI_map hxb.1 hv, optD, List.length_map]
            refine ⟨by decide, ⟨_, rfl⟩, z.toNat, by unfold ixN; rw [if_pos hzb.1.1, if_pos (by omega)], fs'.set z.toNat (some (v + 1)), _, by rw [set_opt], by rw [List.length_set]; exact hl', fun y a b => ?_⟩
            have et : news.take (k + 1) = news.take k ++ [z] := by rw [List.take_succ, hz]; rfl
            rw [et, List.mem_append, List.mem_singleton]
            by_cases e : y = z
            · subst e
              exact ⟨fun _ => .inr (.inr rfl), fun _ => ⟨v + 1, List.getElem?_set_self (by rw [hl']; omega)⟩⟩
            · rw [List.getElem?_set_ne (by omega), hat' y a b]
              constructor
              · rintro (h | h)
                · exact .inl h
                · exact .inr (.inl h)
              · rintro (h | h | h)
                · exact .inl h
                · exact .inr h
                · exact absurd h e
          · rintro δ ⟨fs', s9, rfl, hl', hat'⟩
            rw [List.length_map, List.take_length] at hat'
            unfold FW
            simp only [fRet, fRet.stabR, fTuple, fB, g1, gTuple, gList, fList, fIx, f2R, gIx, fVar, fC, fCons, fNil, fTup, fLst, rCons, rNil, fSet, fAsg, tgName, tgTup, tgCons, tgNil, fYes, fAnd, fOr, fNot, fTest, boolW, gLt, gLe, gGt, gGe, gB2, f2, gI2, gI2C, fAdd, gAdd, fSub, fMul, gMul, fMod, fDiv, fPow, fNeg, f1, gNeg, fIfE, fAndV, fOrV, fNotV, fCall, fCallB, fCallBN, fCallN, fCallK, stab, Res.d, intW, fLen, gLen, fAbs, fInt, fMax2, fMin2, fMax3, gI1, gI2a, gI3a, fiSeq, gSeq, fiRng1, fiRng2, fiEnum, gEnum, fiRev, gRev, fiZip, gZip, fDrop, fNext, fBreak, fCont, fRetN, fShare, unown, fPar, parW, fPut, subW, fApp, appW, isOwL, fExt, extW, fSorted, gSorted, fListRg1, fListRev, fListKeys, fGet2, dictW, fDct0, fDct1, fRepr, gRepr, fAny, fAll, gBools, fSum, gSum, fMaxL, gMaxL, fMinL, gMinL, fChain, fSl, gSl, fPart, fNoP, fBagW, fBagI, fBagS, fBagIf, fScr, fBag, fBag2, nnW, wipeD, Res.ok, endsP, DL.endsL, endsO, gt0, gt1, gt2, gt3, gt4, gt5, gt6, gt7, gt8, gt9, gt10, gt11, gt12, gt13, gt14, gt15, st0, st1, st2, st3, st4, st5, st6, st7, st8, st9, st10, st11, st12, st13, st14, st15, Option.some.injEq, exists_eq_left', exists_eq_left, atI_zero, atI_one, atI_two, List.map_cons, List.map_nil, List.length_cons, List.length_nil, true_and, and_true, List.length_set, Bool.true_and, Bool.and_true, xor_f, xor_t, List.length_map]
            refine ⟨⟨_, rfl⟩, by rw [sl_eq]; omega, fs', rs ++ news, _, _, _, _, by rw [List.map_append], ⟨hl', ?_, fun y hy => ?_, fun y a b => by rw [hat' y a b, List.mem_append], List.mem_append_left _ fi.base⟩, fun j y hj hy => ?_, by rw [List.length_append]; omega⟩
            · rw [List.nodup_append]
              exact ⟨fi.nd, ndN, fun a ha b hb e => (nN b hb).2.1 (e ▸ ha)⟩
            · rcases List.mem_append.mp hy with h | h
              · exact fi.rt y h
              · exact (nN y h).2.2
            · rw [List.getElem?_append_left (by omega)] at hy
              by_cases e : j = i'
              · subst e
                rw [hx0] at hy
                cases hy
                intro s hs g1 g2
                by_cases e0 : s.2 - s.1 = 0
                · rw [e0, Int.add_zero]; exact List.mem_append_left _ hxm
                · obtain ⟨m, hm, e1, e2⟩ := mv.cov s hs e0
                  rw [← e1] at g2 ⊢
                  by_cases hr : x + m.1 ∈ rs
                  · exact List.mem_append_left _ hr
                  · exact List.mem_append_right _ ((inN _).mpr ⟨m, hm, ⟨by omega, g2, hr⟩, rfl⟩)
              · exact (cl j y (by omega) hy).mono fun z hz => List.mem_append_left _ hz
    · rintro δ ⟨fs, rs, s6, s7, s8, s9, rfl, fi, cl, hi⟩
      have hrl : rs.length ≤ (top + 1).toNat := nodup_len _ _ fi.nd fun x hx => by have := fi.bd ok h0 hT hx; omega
      rw [rgD_len] at cl hi
      refine hx _ ⟨fs, rs, _, _, _, _, rfl, fi, fun x hx => ?_⟩
      obtain ⟨j, hj, e⟩ := List.getElem_of_mem hx
      exact cl j x (by omega) (by rw [← e]; exact List.getElem?_eq_getElem hj)
  · rintro δ ⟨fs, rs, s6, s7, s8, s9, rfl, fi, cl⟩
    unfold FW
    simp only [fRet, fRet.stabR, fTuple, fB, g1, gTuple, gList, fList, fIx, f2R, gIx, fVar, fC, fCons, fNil, fTup, fLst, rCons, rNil, fSet, fAsg, tgName, tgTup, tgCons, tgNil, fYes, fAnd, fOr, fNot, fTest, boolW, gLt, gLe, gGt, gGe, gB2, f2, gI2, gI2C, fAdd, gAdd, fSub, fMul, gMul, fMod, fDiv, fPow, fNeg, f1, gNeg, fIfE, fAndV, fOrV, fNotV, fCall, fCallB, fCallBN, fCallN, fCallK, stab, Res.d, intW, fLen, gLen, fAbs, fInt, fMax2, fMin2, fMax3, gI1, gI2a, gI3a, fiSeq, gSeq, fiRng1, fiRng2, fiEnum, gEnum, fiRev, gRev, fiZip, gZip, fDrop, fNext, fBreak, fCont, fRetN, fShare, unown, fPar, parW, fPut, subW, fApp, appW, isOwL, fExt, extW, fSorted, gSorted, fListRg1, fListRev, fListKeys, fGet2, dictW, fDct0, fDct1, fRepr, gRepr, fAny, fAll, gBools, fSum, gSum, fMaxL, gMaxL, fMinL, gMinL, fChain, fSl, gSl, fPart, fNoP, fBagW, fBagI, fBagS, fBagIf, fScr, fBag, fBag2, nnW, wipeD, Res.ok, endsP, DL.endsL, endsO, gt0, gt1, gt2, gt3, gt4, gt5, gt6, gt7, gt8, gt9, gt10, gt11, gt12, gt13, gt14, gt15, st0, st1, st2, st3, st4, st5, st6, st7, st8, st9, st10, st11, st12, st13, st14, st15, Option.some.injEq, exists_eq_left', exists_eq_left, atI_zero, atI_one, atI_two, List.map_cons, List.map_nil, List.length_cons, List.length_nil, true_and, and_true, List.length_set, Bool.true_and, Bool.and_true, xor_f, xor_t]
    exact q fs fi.len fun x hx0 hx1 => (fi.at_ x hx0 hx1).trans ⟨fi.rt x, fun r => r.of_cl fi.base cl⟩
end G61

namespace G61
open PySem PySem.Spec PyProof.Rows L2 DL
/-! ### a way that climbs need not climb far -/
def sumC : List (Int × Int) → Int
  | [] => 0
  | s :: L => (s.2 - s.1) + sumC L
theorem sumC_append : ∀ A B : List (Int × Int), sumC (A ++ B) = sumC A + sumC B
  | [], B => by simp [sumC]
  | s :: A, B => by simp only [List.cons_append, sumC, sumC_append A B]; omega
theorem sumC_nonneg : ∀ {L : List (Int × Int)}, (∀ s ∈ L, 0 ≤ s.2 - s.1) → 0 ≤ sumC L
  | [], _ => Int.le_refl _
  | s :: L, h => by
    have h1 := h s (by simp)
    have h2 := sumC_nonneg (L := L) fun t ht => h t (by simp [ht])
    simp only [sumC]; omega
theorem sumC_nonpos : ∀ {L : List (Int × Int)}, (∀ s ∈ L, s.2 - s.1 ≤ 0) → sumC L ≤ 0
  | [], _ => Int.le_refl _
  | s :: L, h => by
    have h1 := h s (by simp)
    have h2 := sumC_nonpos (L := L) fun t ht => h t (by simp [ht])
    simp only [sumC]; omega
theorem sort_way {net : List (Int × Int)} (ok : NetOk net) {m n : Int} (hm : 9 ≤ m) : ∀ (k : Nat) (L : List (Int × Int)), L.length = k → (∀ s ∈ L, s ∈ net) → ∀ x, RT net (m + 18) n x → m < x → x ≤ m + 18 → m < x + sumC L → x + sumC L ≤ m + 9 → RT net (m + 18) n (x + sumC L) := by
  intro k
  induction k with
  | zero =>
    intro L hl _ x r _ _ _ _
    cases L with
    | nil => simpa [sumC] using r
    | cons a l => simp at hl
  | succ k ih =>
    intro L hl hL x r h1 h2 h3 h4
    have pick : ∀ s ∈ L, m < x + (s.2 - s.1) → x + (s.2 - s.1) ≤ m + 18 → RT net (m + 18) n (x + sumC L) := fun s hs g1 g2 => by
      obtain ⟨A, B, rfl⟩ := List.append_of_mem hs
      have hs' := hL s hs
      have e : sumC (A ++ s :: B) = (s.2 - s.1) + sumC (A ++ B) := by rw [sumC_append, sumC_append]; simp only [sumC]; omega
      have hk : (A ++ B).length = k := by simp at hl ⊢; omega
      have := ih (A ++ B) hk (fun t ht => hL t (by rcases List.mem_append.mp ht with h | h <;> simp [h])) (x + (s.2 - s.1)) (.step r hs' (by have := ok.2 s hs'; omega) g2) g1 g2 (by omega) (by omega)
      rw [e]
      rw [show x + (s.2 - s.1 + sumC (A ++ B)) = x + (s.2 - s.1) + sumC (A ++ B) by omega]
      exact this
    by_cases hx : x ≤ m + 9
    · by_cases hr : ∃ s ∈ L, 0 ≤ s.2 - s.1
      · obtain ⟨s, hs, h⟩ := hr
        have := ok.2 s (hL s hs)
        exact pick s hs (by omega) (by omega)
      · cases L with
        | nil => simp at hl
        | cons s L =>
          have hn : ∀ t ∈ s :: L, t.2 - t.1 ≤ 0 := fun t ht => Classical.byContradiction fun z => hr ⟨t, ht, by omega⟩
          have h5 := sumC_nonpos (L := L) fun t ht => hn t (by simp [ht])
          have h6 := hn s (by simp)
          simp only [sumC] at h3
          exact pick s (by simp) (by omega) (by omega)
    · by_cases hr : ∃ s ∈ L, s.2 - s.1 < 0
      · obtain ⟨s, hs, h⟩ := hr
        have := ok.2 s (hL s hs)
        exact pick s hs (by omega) (by omega)
      · have := sumC_nonneg (L := L) fun t ht => Classical.byContradiction fun z => hr ⟨t, ht, by omega⟩
        omega
theorem near_way {net : List (Int × Int)} (ok : NetOk net) {m n T z : Int} (hm : 9 ≤ m) (hn : n ≤ m) (r : RT net T n z) :
    (z ≤ m ∧ RT net (m + 18) n z) ∨ (m < z ∧ ∃ x L, RT net (m + 18) n x ∧ m < x ∧ x ≤ m + 9 ∧ (∀ s ∈ L, s ∈ net) ∧ x + sumC L = z) := by
  induction r with
  | base => exact .inl ⟨hn, .base⟩
  | @step z s _ hs h1 h2 ih =>
    have hb := ok.2 s hs
    rcases ih with ⟨a, b⟩ | ⟨a, x, L, b1, b2, b3, b4, b5⟩
    · by_cases g : z + (s.2 - s.1) ≤ m
      · exact .inl ⟨g, .step b hs h1 (by omega)⟩
      · exact .inr ⟨by omega, z + (s.2 - s.1), [], .step b hs h1 (by omega), by omega, by omega, by simp, by simp [sumC]⟩
    · by_cases g : z + (s.2 - s.1) ≤ m
      · have r2 := sort_way ok hm L.length L rfl b4 x b1 b2 (by omega) (by omega) (by omega)
        rw [b5] at r2
        exact .inl ⟨g, .step r2 hs h1 (by omega)⟩
      · refine .inr ⟨by omega, x, L ++ [s], b1, b2, b3, fun t ht => ?_, by rw [sumC_append]; simp only [sumC]; omega⟩
        rcases List.mem_append.mp ht with h | h
        · exact b4 t h
        · rw [List.mem_singleton.mp h]; exact hs
theorem RT.mono {net : List (Int × Int)} {T T' n y : Int} (h : T ≤ T') (r : RT net T n y) : RT net T' n y := by
  induction r with
  | base => exact .base
  | step _ hs h1 h2 ih => exact .step ih hs h1 (by omega)
theorem RT_iff {net : List (Int × Int)} (ok : NetOk net) {n y0 y : Int} (h0 : n ≤ 300) (h1 : y0 ≤ 300) (hy : y ≤ y0) : RT net (topOf n y0) n y ↔ RT net 318 n y := by
  unfold topOf
  constructor
  · exact fun r => r.mono (by omega)
  · intro r
    rcases near_way ok (m := max (max n y0) 9) (by omega) (by omega) r with h | h
    · exact h.2
    · omega
/-! ### what is asked -/
inductive AskOk : D → Prop
  | numbers (net : List (Int × Int)) (n most : Int) (L : List Int) : NetOk net → (0 ≤ n ∧ n ≤ 300) → (0 ≤ most ∧ most ≤ 300) → L.Pairwise (· < ·) → (∀ y, y ∈ L ↔ RT net 318 n y ∧ y ≤ most) → AskOk (.tuple [.str "numbers", .tuple [netD net, .int n, .int most], .tuple (L.map PyData.int)])
  | comes (net : List (Int × Int)) (n y : Int) (b : Bool) : NetOk net → (0 ≤ n ∧ n ≤ 300) → (0 ≤ y ∧ y ≤ 300) → (b = true ↔ RT net 318 n y) → AskOk (.tuple [.str "comes", .tuple [netD net, .int n, .int y], .bool b])
  | endless (net : List (Int × Int)) (n : Int) (b : Bool) : NetOk net → (0 ≤ n ∧ n ≤ 300) → (b = true ↔ ∃ s ∈ net, s.1 ≤ n ∧ s.1 < s.2) → AskOk (.tuple [.str "endless", .tuple [netD net, .int n], .bool b])
  | measure (net : List (Int × Int)) : NetOk net → AskOk (.tuple [.str "measure", .tuple [netD net], .int (gcdN net : Nat)])
def S_told : SpD := fun ds QD _ => ∃ word own due named, ds = [word, own, .bool named] ∧ AskOk (.tuple [word, own, due]) ∧ QD due
theorem bool_ext {a b : Bool} {p : Prop} (h1 : a = true ↔ p) (h2 : b = true ↔ p) : a = b := by
  cases a <;> cases b <;> simp_all
theorem l_told : ∀ ds QD ED, S_told ds QD ED → F__law_told S_net_measure S_is_endless S_comes_to S_come_numbers (endsP QD ED) (startD N__law_told ds) := by
  rintro ds QD ED ⟨word, own, due, named, rfl, ask, q⟩
  unfold F__law_told
  rw [show startD N__law_told [word, own, .bool named] = [.sh word, .sh own, .sh (.bool named)] from rfl]
  cases ask with
  | numbers net n most L ok hn hm asc mem =>
    have go : ∀ L' : List Int, L'.Pairwise (· < ·) → (∀ y, y ∈ L' ↔ RT net (topOf n most) n y ∧ y ≤ most) → QD (.tuple (L'.map PyData.int)) := fun L' a b => by
      rw [asc_ext a asc fun x => ?_]
      · exact q
      · rw [b, mem]
        constructor
        · rintro ⟨h1, h2⟩; exact ⟨(RT_iff ok hn.2 hm.2 h2).mp h1, h2⟩
        · rintro ⟨h1, h2⟩; exact ⟨(RT_iff ok hn.2 hm.2 h2).mpr h1, h2⟩
    refine fseq_run (fif_run ?_)
    simp only [fRet, fRet.stabR, fTuple, fB, g1, gTuple, gList, fList, fIx, f2R, gIx, fVar, fC, fCons, fNil, fTup, fLst, rCons, rNil, fSet, fAsg, tgName, tgTup, tgCons, tgNil, fYes, fAnd, fOr, fNot, fTest, boolW, gLt, gLe, gGt, gGe, gB2, f2, gI2, gI2C, fAdd, gAdd, fSub, fMul, gMul, fMod, fDiv, fPow, fNeg, f1, gNeg, fIfE, fAndV, fOrV, fNotV, fCall, fCallB, fCallBN, fCallN, fCallK, stab, Res.d, intW, fLen, gLen, fAbs, fInt, fMax2, fMin2, fMax3, gI1, gI2a, gI3a, fiSeq, gSeq, fiRng1, fiRng2, fiEnum, gEnum, fiRev, gRev, fiZip, gZip, fDrop, fNext, fBreak, fCont, fRetN, fShare, unown, fPar, parW, fPut, subW, fApp, appW, isOwL, fExt, extW, fSorted, gSorted, fListRg1, fListRev, fListKeys, fGet2, dictW, fDct0, fDct1, fRepr, gRepr, fAny, fAll, gBools, fSum, gSum, fMaxL, gMaxL, fMinL, gMinL, fChain, fSl, gSl, fPart, fNoP, fBagW, fBagI, fBagS, fBagIf, fScr, fBag, fBag2, nnW, wipeD, Res.ok, endsP, DL.endsL, endsO, gt0, gt1, gt2, gt3, gt4, gt5, gt6, gt7, gt8, gt9, gt10, gt11, gt12, gt13, gt14, gt15, st0, st1, st2, st3, st4, st5, st6, st7, st8, st9, st10, st11, st12, st13, st14, st15, Option.some.injEq, exists_eq_left', exists_eq_left, atI_zero, atI_one, atI_two, List.map_cons, List.map_nil, List.length_cons, List.length_nil, true_and, and_true, List.length_set, Bool.true_and, Bool.and_true, xor_f, xor_t, gEq_str_eq]
    refine iteT' (by decide) ?_
    cases named with
    | true =>
      refine iteT' rfl ⟨rfl, net, n, most, rfl, ok, hn, hm, go⟩
    | false =>
      refine iteF' rfl (fseq_run (fif_run ?_))
      simp only [fRet, fRet.stabR, fTuple, fB, g1, gTuple, gList, fList, fIx, f2R, gIx, fVar, fC, fCons, fNil, fTup, fLst, rCons, rNil, fSet, fAsg, tgName, tgTup, tgCons, tgNil, fYes, fAnd, fOr, fNot, fTest, boolW, gLt, gLe, gGt, gGe, gB2, f2, gI2, gI2C, fAdd, gAdd, fSub, fMul, gMul, fMod, fDiv, fPow, fNeg, f1, gNeg, fIfE, fAndV, fOrV, fNotV, fCall, fCallB, fCallBN, fCallN, fCallK, stab, Res.d, intW, fLen, gLen, fAbs, fInt, fMax2, fMin2, fMax3, gI1, gI2a, gI3a, fiSeq, gSeq, fiRng1, fiRng2, fiEnum, gEnum, fiRev, gRev, fiZip, gZip, fDrop, fNext, fBreak, fCont, fRetN, fShare, unown, fPar, parW, fPut, subW, fApp, appW, isOwL, fExt, extW, fSorted, gSorted, fListRg1, fListRev, fListKeys, fGet2, dictW, fDct0, fDct1, fRepr, gRepr, fAny, fAll, gBools, fSum, gSum, fMaxL, gMaxL, fMinL, gMinL, fChain, fSl, gSl, fPart, fNoP, fBagW, fBagI, fBagS, fBagIf, fScr, fBag, fBag2, nnW, wipeD, Res.ok, endsP, DL.endsL, endsO, gt0, gt1, gt2, gt3, gt4, gt5, gt6, gt7, gt8, gt9, gt10, gt11, gt12, gt13, gt14, gt15, st0, st1, st2, st3, st4, st5, st6, st7, st8, st9, st10, st11, st12, st13, st14, st15, Option.some.injEq, exists_eq_left', exists_eq_left, atI_zero, atI_one, atI_two, List.map_cons, List.map_nil, List.length_cons, List.length_nil, true_and, and_true, List.length_set, Bool.true_and, Bool.and_true, xor_f, xor_t, gEq_str_eq]
      refine iteT' (by decide) ⟨net, n, most, rfl, ok, hn, hm, go⟩
  | comes net n y b ok hn hm hb =>
    have go : ∀ b' : Bool, (b' = true ↔ RT net (topOf n y) n y) → QD (.bool b') := fun b' h => by
      rw [bool_ext (h.trans (RT_iff ok hn.2 hm.2 (Int.le_refl _))) hb]; exact q
    refine fseq_run (fif_run ?_)
    simp only [fRet, fRet.stabR, fTuple, fB, g1, gTuple, gList, fList, fIx, f2R, gIx, fVar, fC, fCons, fNil, fTup, fLst, rCons, rNil, fSet, fAsg, tgName, tgTup, tgCons, tgNil, fYes, fAnd, fOr, fNot, fTest, boolW, gLt, gLe, gGt, gGe, gB2, f2, gI2, gI2C, fAdd, gAdd, fSub, fMul, gMul, fMod, fDiv, fPow, fNeg, f1, gNeg, fIfE, fAndV, fOrV, fNotV, fCall, fCallB, fCallBN, fCallN, fCallK, stab, Res.d, intW, fLen, gLen, fAbs, fInt, fMax2, fMin2, fMax3, gI1, gI2a, gI3a, fiSeq, gSeq, fiRng1, fiRng2, fiEnum, gEnum, fiRev, gRev, fiZip, gZip, fDrop, fNext, fBreak, fCont, fRetN, fShare, unown, fPar, parW, fPut, subW, fApp, appW, isOwL, fExt, extW, fSorted, gSorted, fListRg1, fListRev, fListKeys, fGet2, dictW, fDct0, fDct1, fRepr, gRepr, fAny, fAll, gBools, fSum, gSum, fMaxL, gMaxL, fMinL, gMinL, fChain, fSl, gSl, fPart, fNoP, fBagW, fBagI, fBagS, fBagIf, fScr, fBag, fBag2, nnW, wipeD, Res.ok, endsP, DL.endsL, endsO, gt0, gt1, gt2, gt3, gt4, gt5, gt6, gt7, gt8, gt9, gt10, gt11, gt12, gt13, gt14, gt15, st0, st1, st2, st3, st4, st5, st6, st7, st8, st9, st10, st11, st12, st13, st14, st15, Option.some.injEq, exists_eq_left', exists_eq_left, atI_zero, atI_one, atI_two, List.map_cons, List.map_nil, List.length_cons, List.length_nil, true_and, and_true, List.length_set, Bool.true_and, Bool.and_true, xor_f, xor_t, gEq_str_eq]
    refine iteF' (by decide) (iteF' rfl (fseq_run (fif_run ?_)))
    simp only [fRet, fRet.stabR, fTuple, fB, g1, gTuple, gList, fList, fIx, f2R, gIx, fVar, fC, fCons, fNil, fTup, fLst, rCons, rNil, fSet, fAsg, tgName, tgTup, tgCons, tgNil, fYes, fAnd, fOr, fNot, fTest, boolW, gLt, gLe, gGt, gGe, gB2, f2, gI2, gI2C, fAdd, gAdd, fSub, fMul, gMul, fMod, fDiv, fPow, fNeg, f1, gNeg, fIfE, fAndV, fOrV, fNotV, fCall, fCallB, fCallBN, fCallN, fCallK, stab, Res.d, intW, fLen, gLen, fAbs, fInt, fMax2, fMin2, fMax3, gI1, gI2a, gI3a, fiSeq, gSeq, fiRng1, fiRng2, fiEnum, gEnum, fiRev, gRev, fiZip, gZip, fDrop, fNext, fBreak, fCont, fRetN, fShare, unown, fPar, parW, fPut, subW, fApp, appW, isOwL, fExt, extW, fSorted, gSorted, fListRg1, fListRev, fListKeys, fGet2, dictW, fDct0, fDct1, fRepr, gRepr, fAny, fAll, gBools, fSum, gSum, fMaxL, gMaxL, fMinL, gMinL, fChain, fSl, gSl, fPart, fNoP, fBagW, fBagI, fBagS, fBagIf, fScr, fBag, fBag2, nnW, wipeD, Res.ok, endsP, DL.endsL, endsO, gt0, gt1, gt2, gt3, gt4, gt5, gt6, gt7, gt8, gt9, gt10, gt11, gt12, gt13, gt14, gt15, st0, st1, st2, st3, st4, st5, st6, st7, st8, st9, st10, st11, st12, st13, st14, st15, Option.some.injEq, exists_eq_left', exists_eq_left, atI_zero, atI_one, atI_two, List.map_cons, List.map_nil, List.length_cons, List.length_nil, true_and, and_true, List.length_set, Bool.true_and, Bool.and_true, xor_f, xor_t, gEq_str_eq]
    refine iteF' (by decide) (fseq_run (fif_run ?_))
    simp only [fRet, fRet.stabR, fTuple, fB, g1, gTuple, gList, fList, fIx, f2R, gIx, fVar, fC, fCons, fNil, fTup, fLst, rCons, rNil, fSet, fAsg, tgName, tgTup, tgCons, tgNil, fYes, fAnd, fOr, fNot, fTest, boolW, gLt, gLe, gGt, gGe, gB2, f2, gI2, gI2C, fAdd, gAdd, fSub, fMul, gMul, fMod, fDiv, fPow, fNeg, f1, gNeg, fIfE, fAndV, fOrV, fNotV, fCall, fCallB, fCallBN, fCallN, fCallK, stab, Res.d, intW, fLen, gLen, fAbs, fInt, fMax2, fMin2, fMax3, gI1, gI2a, gI3a, fiSeq, gSeq, fiRng1, fiRng2, fiEnum, gEnum, fiRev, gRev, fiZip, gZip, fDrop, fNext, fBreak, fCont, fRetN, fShare, unown, fPar, parW, fPut, subW, fApp, appW, isOwL, fExt, extW, fSorted, gSorted, fListRg1, fListRev, fListKeys, fGet2, dictW, fDct0, fDct1, fRepr, gRepr, fAny, fAll, gBools, fSum, gSum, fMaxL, gMaxL, fMinL, gMinL, fChain, fSl, gSl, fPart, fNoP, fBagW, fBagI, fBagS, fBagIf, fScr, fBag, fBag2, nnW, wipeD, Res.ok, endsP, DL.endsL, endsO, gt0, gt1, gt2, gt3, gt4, gt5, gt6, gt7, gt8, gt9, gt10, gt11, gt12, gt13, gt14, gt15, st0, st1, st2, st3, st4, st5, st6, st7, st8, st9, st10, st11, st12, st13, st14, st15, Option.some.injEq, exists_eq_left', exists_eq_left, atI_zero, atI_one, atI_two, List.map_cons, List.map_nil, List.length_cons, List.length_nil, true_and, and_true, List.length_set, Bool.true_and, Bool.and_true, xor_f, xor_t, gEq_str_eq]
    refine iteT' (by decide) ?_
    cases named with
    | true =>
      refine iteT' rfl ⟨rfl, net, n, y, rfl, ok, hn, hm, go⟩
    | false =>
      refine iteF' rfl (fseq_run (fif_run ?_))
      simp only [fRet, fRet.stabR, fTuple, fB, g1, gTuple, gList, fList, fIx, f2R, gIx, fVar, fC, fCons, fNil, fTup, fLst, rCons, rNil, fSet, fAsg, tgName, tgTup, tgCons, tgNil, fYes, fAnd, fOr, fNot, fTest, boolW, gLt, gLe, gGt, gGe, gB2, f2, gI2, gI2C, fAdd, gAdd, fSub, fMul, gMul, fMod, fDiv, fPow, fNeg, f1, gNeg, fIfE, fAndV, fOrV, fNotV, fCall, fCallB, fCallBN, fCallN, fCallK, stab, Res.d, intW, fLen, gLen, fAbs, fInt, fMax2, fMin2, fMax3, gI1, gI2a, gI3a, fiSeq, gSeq, fiRng1, fiRng2, fiEnum, gEnum, fiRev, gRev, fiZip, gZip, fDrop, fNext, fBreak, fCont, fRetN, fShare, unown, fPar, parW, fPut, subW, fApp, appW, isOwL, fExt, extW, fSorted, gSorted, fListRg1, fListRev, fListKeys, fGet2, dictW, fDct0, fDct1, fRepr, gRepr, fAny, fAll, gBools, fSum, gSum, fMaxL, gMaxL, fMinL, gMinL, fChain, fSl, gSl, fPart, fNoP, fBagW, fBagI, fBagS, fBagIf, fScr, fBag, fBag2, nnW, wipeD, Res.ok, endsP, DL.endsL, endsO, gt0, gt1, gt2, gt3, gt4, gt5, gt6, gt7, gt8, gt9, gt10, gt11, gt12, gt13, gt14, gt15, st0, st1, st2, st3, st4, st5, st6, st7, st8, st9, st10, st11, st12, st13, st14, st15, Option.some.injEq, exists_eq_left', exists_eq_left, atI_zero, atI_one, atI_two, List.map_cons, List.map_nil, List.length_cons, List.length_nil, true_and, and_true, List.length_set, Bool.true_and, Bool.and_true, xor_f, xor_t, gEq_str_eq]
      refine iteT' (by decide) ⟨net, n, y, rfl, ok, hn, hm, go⟩
  | endless net n b ok hn hb =>
    have go : ∀ b' : Bool, (b' = true ↔ ∃ s ∈ net, s.1 ≤ n ∧ s.1 < s.2) → QD (.bool b') := fun b' h => by
      rw [bool_ext h hb]; exact q
    refine fseq_run (fif_run ?_)
    simp only [fRet, fRet.stabR, fTuple, fB, g1, gTuple, gList, fList, fIx, f2R, gIx, fVar, fC, fCons, fNil, fTup, fLst, rCons, rNil, fSet, fAsg, tgName, tgTup, tgCons, tgNil, fYes, fAnd, fOr, fNot, fTest, boolW, gLt, gLe, gGt, gGe, gB2, f2, gI2, gI2C, fAdd, gAdd, fSub, fMul, gMul, fMod, fDiv, fPow, fNeg, f1, gNeg, fIfE, fAndV, fOrV, fNotV, fCall, fCallB, fCallBN, fCallN, fCallK, stab, Res.d, intW, fLen, gLen, fAbs, fInt, fMax2, fMin2, fMax3, gI1, gI2a, gI3a, fiSeq, gSeq, fiRng1, fiRng2, fiEnum, gEnum, fiRev, gRev, fiZip, gZip, fDrop, fNext, fBreak, fCont, fRetN, fShare, unown, fPar, parW, fPut, subW, fApp, appW, isOwL, fExt, extW, fSorted, gSorted, fListRg1, fListRev, fListKeys, fGet2, dictW, fDct0, fDct1, fRepr, gRepr, fAny, fAll, gBools, fSum, gSum, fMaxL, gMaxL, fMinL, gMinL, fChain, fSl, gSl, fPart, fNoP, fBagW, fBagI, fBagS, fBagIf, fScr, fBag, fBag2, nnW, wipeD, Res.ok, endsP, DL.endsL, endsO, gt0, gt1, gt2, gt3, gt4, gt5, gt6, gt7, gt8, gt9, gt10, gt11, gt12, gt13, gt14, gt15, st0, st1, st2, st3, st4, st5, st6, st7, st8, st9, st10, st11, st12, st13, st14, st15, Option.some.injEq, exists_eq_left', exists_eq_left, atI_zero, atI_one, atI_two, List.map_cons, List.map_nil, List.length_cons, List.length_nil, true_and, and_true, List.length_set, Bool.true_and, Bool.and_true, xor_f, xor_t, gEq_str_eq]
    refine iteF' (by decide) (iteF' rfl (fseq_run (fif_run ?_)))
    simp only [fRet, fRet.stabR, fTuple, fB, g1, gTuple, gList, fList, fIx, f2R, gIx, fVar, fC, fCons, fNil, fTup, fLst, rCons, rNil, fSet, fAsg, tgName, tgTup, tgCons, tgNil, fYes, fAnd, fOr, fNot, fTest, boolW, gLt, gLe, gGt, gGe, gB2, f2, gI2, gI2C, fAdd, gAdd, fSub, fMul, gMul, fMod, fDiv, fPow, fNeg, f1, gNeg, fIfE, fAndV, fOrV, fNotV, fCall, fCallB, fCallBN, fCallN, fCallK, stab, Res.d, intW, fLen, gLen, fAbs, fInt, fMax2, fMin2, fMax3, gI1, gI2a, gI3a, fiSeq, gSeq, fiRng1, fiRng2, fiEnum, gEnum, fiRev, gRev, fiZip, gZip, fDrop, fNext, fBreak, fCont, fRetN, fShare, unown, fPar, parW, fPut, subW, fApp, appW, isOwL, fExt, extW, fSorted, gSorted, fListRg1, fListRev, fListKeys, fGet2, dictW, fDct0, fDct1, fRepr, gRepr, fAny, fAll, gBools, fSum, gSum, fMaxL, gMaxL, fMinL, gMinL, fChain, fSl, gSl, fPart, fNoP, fBagW, fBagI, fBagS, fBagIf, fScr, fBag, fBag2, nnW, wipeD, Res.ok, endsP, DL.endsL, endsO, gt0, gt1, gt2, gt3, gt4, gt5, gt6, gt7, gt8, gt9, gt10, gt11, gt12, gt13, gt14, gt15, st0, st1, st2, st3, st4, st5, st6, st7, st8, st9, st10, st11, st12, st13, st14, st15, Option.some.injEq, exists_eq_left', exists_eq_left, atI_zero, atI_one, atI_two, List.map_cons, List.map_nil, List.length_cons, List.length_nil, true_and, and_true, List.length_set, Bool.true_and, Bool.and_true, xor_f, xor_t, gEq_str_eq]
    refine iteF' (by decide) (fseq_run (fif_run ?_))
    simp only [fRet, fRet.stabR, fTuple, fB, g1, gTuple, gList, fList, fIx, f2R, gIx, fVar, fC, fCons, fNil, fTup, fLst, rCons, rNil, fSet, fAsg, tgName, tgTup, tgCons, tgNil, fYes, fAnd, fOr, fNot, fTest, boolW, gLt, gLe, gGt, gGe, gB2, f2, gI2, gI2C, fAdd, gAdd, fSub, fMul, gMul, fMod, fDiv, fPow, fNeg, f1, gNeg, fIfE, fAndV, fOrV, fNotV, fCall, fCallB, fCallBN, fCallN, fCallK, stab, Res.d, intW, fLen, gLen, fAbs, fInt, fMax2, fMin2, fMax3, gI1, gI2a, gI3a, fiSeq, gSeq, fiRng1, fiRng2, fiEnum, gEnum, fiRev, gRev, fiZip, gZip, fDrop, fNext, fBreak, fCont, fRetN, fShare, unown, fPar, parW, fPut, subW, fApp, appW, isOwL, fExt, extW, fSorted, gSorted, fListRg1, fListRev, fListKeys, fGet2, dictW, fDct0, fDct1, fRepr, gRepr, fAny, fAll, gBools, fSum, gSum, fMaxL, gMaxL, fMinL, gMinL, fChain, fSl, gSl, fPart, fNoP, fBagW, fBagI, fBagS, fBagIf, fScr, fBag, fBag2, nnW, wipeD, Res.ok, endsP, DL.endsL, endsO, gt0, gt1, gt2, gt3, gt4, gt5, gt6, gt7, gt8, gt9, gt10, gt11, gt12, gt13, gt14, gt15, st0, st1, st2, st3, st4, st5, st6, st7, st8, st9, st10, st11, st12, st13, st14, st15, Option.some.injEq, exists_eq_left', exists_eq_left, atI_zero, atI_one, atI_two, List.map_cons, List.map_nil, List.length_cons, List.length_nil, true_and, and_true, List.length_set, Bool.true_and, Bool.and_true, xor_f, xor_t, gEq_str_eq]
    refine iteF' (by decide) (iteF' rfl (fseq_run (fif_run ?_)))
    simp only [fRet, fRet.stabR, fTuple, fB, g1, gTuple, gList, fList, fIx, f2R, gIx, fVar, fC, fCons, fNil, fTup, fLst, rCons, rNil, fSet, fAsg, tgName, tgTup, tgCons, tgNil, fYes, fAnd, fOr, fNot, fTest, boolW, gLt, gLe, gGt, gGe, gB2, f2, gI2, gI2C, fAdd, gAdd, fSub, fMul, gMul, fMod, fDiv, fPow, fNeg, f1, gNeg, fIfE, fAndV, fOrV, fNotV, fCall, fCallB, fCallBN, fCallN, fCallK, stab, Res.d, intW, fLen, gLen, fAbs, fInt, fMax2, fMin2, fMax3, gI1, gI2a, gI3a, fiSeq, gSeq, fiRng1, fiRng2, fiEnum, gEnum, fiRev, gRev, fiZip, gZip, fDrop, fNext, fBreak, fCont, fRetN, fShare, unown, fPar, parW, fPut, subW, fApp, appW, isOwL, fExt, extW, fSorted, gSorted, fListRg1, fListRev, fListKeys, fGet2, dictW, fDct0, fDct1, fRepr, gRepr, fAny, fAll, gBools, fSum, gSum, fMaxL, gMaxL, fMinL, gMinL, fChain, fSl, gSl, fPart, fNoP, fBagW, fBagI, fBagS, fBagIf, fScr, fBag, fBag2, nnW, wipeD, Res.ok, endsP, DL.endsL, endsO, gt0, gt1, gt2, gt3, gt4, gt5, gt6, gt7, gt8, gt9, gt10, gt11, gt12, gt13, gt14, gt15, st0, st1, st2, st3, st4, st5, st6, st7, st8, st9, st10, st11, st12, st13, st14, st15, Option.some.injEq, exists_eq_left', exists_eq_left, atI_zero, atI_one, atI_two, List.map_cons, List.map_nil, List.length_cons, List.length_nil, true_and, and_true, List.length_set, Bool.true_and, Bool.and_true, xor_f, xor_t, gEq_str_eq]
    refine iteF' (by decide) (fseq_run (fif_run ?_))
    simp only [fRet, fRet.stabR, fTuple, fB, g1, gTuple, gList, fList, fIx, f2R, gIx, fVar, fC, fCons, fNil, fTup, fLst, rCons, rNil, fSet, fAsg, tgName, tgTup, tgCons, tgNil, fYes, fAnd, fOr, fNot, fTest, boolW, gLt, gLe, gGt, gGe, gB2, f2, gI2, gI2C, fAdd, gAdd, fSub, fMul, gMul, fMod, fDiv, fPow, fNeg, f1, gNeg, fIfE, fAndV, fOrV, fNotV, fCall, fCallB, fCallBN, fCallN, fCallK, stab, Res.d, intW, fLen, gLen, fAbs, fInt, fMax2, fMin2, fMax3, gI1, gI2a, gI3a, fiSeq, gSeq, fiRng1, fiRng2, fiEnum, gEnum, fiRev, gRev, fiZip, gZip, fDrop, fNext, fBreak, fCont, fRetN, fShare, unown, fPar, parW, fPut, subW, fApp, appW, isOwL, fExt, extW, fSorted, gSorted, fListRg1, fListRev, fListKeys, fGet2, dictW, fDct0, fDct1, fRepr, gRepr, fAny, fAll, gBools, fSum, gSum, fMaxL, gMaxL, fMinL, gMinL, fChain, fSl, gSl, fPart, fNoP, fBagW, fBagI, fBagS, fBagIf, fScr, fBag, fBag2, nnW, wipeD, Res.ok, endsP, DL.endsL, endsO, gt0, gt1, gt2, gt3, gt4, gt5, gt6, gt7, gt8, gt9, gt10, gt11, gt12, gt13, gt14, gt15, st0, st1, st2, st3, st4, st5, st6, st7, st8, st9, st10, st11, st12, st13, st14, st15, Option.some.injEq, exists_eq_left', exists_eq_left, atI_zero, atI_one, atI_two, List.map_cons, List.map_nil, List.length_cons, List.length_nil, true_and, and_true, List.length_set, Bool.true_and, Bool.and_true, xor_f, xor_t, gEq_str_eq]
    refine iteT' (by decide) ?_
    cases named with
    | true => exact iteT' rfl ⟨rfl, net, n, rfl, ok, hn, go⟩
    | false => exact iteF' rfl ⟨net, n, rfl, ok, hn, go⟩
  | measure net ok =>
    refine fseq_run (fif_run ?_)
    simp only [fRet, fRet.stabR, fTuple, fB, g1, gTuple, gList, fList, fIx, f2R, gIx, fVar, fC, fCons, fNil, fTup, fLst, rCons, rNil, fSet, fAsg, tgName, tgTup, tgCons, tgNil, fYes, fAnd, fOr, fNot, fTest, boolW, gLt, gLe, gGt, gGe, gB2, f2, gI2, gI2C, fAdd, gAdd, fSub, fMul, gMul, fMod, fDiv, fPow, fNeg, f1, gNeg, fIfE, fAndV, fOrV, fNotV, fCall, fCallB, fCallBN, fCallN, fCallK, stab, Res.d, intW, fLen, gLen, fAbs, fInt, fMax2, fMin2, fMax3, gI1, gI2a, gI3a, fiSeq, gSeq, fiRng1, fiRng2, fiEnum, gEnum, fiRev, gRev, fiZip, gZip, fDrop, fNext, fBreak, fCont, fRetN, fShare, unown, fPar, parW, fPut, subW, fApp, appW, isOwL, fExt, extW, fSorted, gSorted, fListRg1, fListRev, fListKeys, fGet2, dictW, fDct0, fDct1, fRepr, gRepr, fAny, fAll, gBools, fSum, gSum, fMaxL, gMaxL, fMinL, gMinL, fChain, fSl, gSl, fPart, fNoP, fBagW, fBagI, fBagS, fBagIf, fScr, fBag, fBag2, nnW, wipeD, Res.ok, endsP, DL.endsL, endsO, gt0, gt1, gt2, gt3, gt4, gt5, gt6, gt7, gt8, gt9, gt10, gt11, gt12, gt13, gt14, gt15, st0, st1, st2, st3, st4, st5, st6, st7, st8, st9, st10, st11, st12, st13, st14, st15, Option.some.injEq, exists_eq_left', exists_eq_left, atI_zero, atI_one, atI_two, List.map_cons, List.map_nil, List.length_cons, List.length_nil, true_and, and_true, List.length_set, Bool.true_and, Bool.and_true, xor_f, xor_t, gEq_str_eq]
    refine iteF' (by decide) (iteF' rfl (fseq_run (fif_run ?_)))
    simp only [fRet, fRet.stabR, fTuple, fB, g1, gTuple, gList, fList, fIx, f2R, gIx, fVar, fC, fCons, fNil, fTup, fLst, rCons, rNil, fSet, fAsg, tgName, tgTup, tgCons, tgNil, fYes, fAnd, fOr, fNot, fTest, boolW, gLt, gLe, gGt, gGe, gB2, f2, gI2, gI2C, fAdd, gAdd, fSub, fMul, gMul, fMod, fDiv, fPow, fNeg, f1, gNeg, fIfE, fAndV, fOrV, fNotV, fCall, fCallB, fCallBN, fCallN, fCallK, stab, Res.d, intW, fLen, gLen, fAbs, fInt, fMax2, fMin2, fMax3, gI1, gI2a, gI3a, fiSeq, gSeq, fiRng1, fiRng2, fiEnum, gEnum, fiRev, gRev, fiZip, gZip, fDrop, fNext, fBreak, fCont, fRetN, fShare, unown, fPar, parW, fPut, subW, fApp, appW, isOwL, fExt, extW, fSorted, gSorted, fListRg1, fListRev, fListKeys, fGet2, dictW, fDct0, fDct1, fRepr, gRepr, fAny, fAll, gBools, fSum, gSum, fMaxL, gMaxL, fMinL, gMinL, fChain, fSl, gSl, fPart, fNoP, fBagW, fBagI, fBagS, fBagIf, fScr, fBag, fBag2, nnW, wipeD, Res.ok, endsP, DL.endsL, endsO, gt0, gt1, gt2, gt3, gt4, gt5, gt6, gt7, gt8, gt9, gt10, gt11, gt12, gt13, gt14, gt15, st0, st1, st2, st3, st4, st5, st6, st7, st8, st9, st10, st11, st12, st13, st14, st15, Option.some.injEq, exists_eq_left', exists_eq_left, atI_zero, atI_one, atI_two, List.map_cons, List.map_nil, List.length_cons, List.length_nil, true_and, and_true, List.length_set, Bool.true_and, Bool.and_true, xor_f, xor_t, gEq_str_eq]
    refine iteF' (by decide) (fseq_run (fif_run ?_))
    simp only [fRet, fRet.stabR, fTuple, fB, g1, gTuple, gList, fList, fIx, f2R, gIx, fVar, fC, fCons, fNil, fTup, fLst, rCons, rNil, fSet, fAsg, tgName, tgTup, tgCons, tgNil, fYes, fAnd, fOr, fNot, fTest, boolW, gLt, gLe, gGt, gGe, gB2, f2, gI2, gI2C, fAdd, gAdd, fSub, fMul, gMul, fMod, fDiv, fPow, fNeg, f1, gNeg, fIfE, fAndV, fOrV, fNotV, fCall, fCallB, fCallBN, fCallN, fCallK, stab, Res.d, intW, fLen, gLen, fAbs, fInt, fMax2, fMin2, fMax3, gI1, gI2a, gI3a, fiSeq, gSeq, fiRng1, fiRng2, fiEnum, gEnum, fiRev, gRev, fiZip, gZip, fDrop, fNext, fBreak, fCont, fRetN, fShare, unown, fPar, parW, fPut, subW, fApp, appW, isOwL, fExt, extW, fSorted, gSorted, fListRg1, fListRev, fListKeys, fGet2, dictW, fDct0, fDct1, fRepr, gRepr, fAny, fAll, gBools, fSum, gSum, fMaxL, gMaxL, fMinL, gMinL, fChain, fSl, gSl, fPart, fNoP, fBagW, fBagI, fBagS, fBagIf, fScr, fBag, fBag2, nnW, wipeD, Res.ok, endsP, DL.endsL, endsO, gt0, gt1, gt2, gt3, gt4, gt5, gt6, gt7, gt8, gt9, gt10, gt11, gt12, gt13, gt14, gt15, st0, st1, st2, st3, st4, st5, st6, st7, st8, st9, st10, st11, st12, st13, st14, st15, Option.some.injEq, exists_eq_left', exists_eq_left, atI_zero, atI_one, atI_two, List.map_cons, List.map_nil, List.length_cons, List.length_nil, true_and, and_true, List.length_set, Bool.true_and, Bool.and_true, xor_f, xor_t, gEq_str_eq]
    refine iteF' (by decide) (iteF' rfl (fseq_run (fif_run ?_)))
    simp only [fRet, fRet.stabR, fTuple, fB, g1, gTuple, gList, fList, fIx, f2R, gIx, fVar, fC, fCons, fNil, fTup, fLst, rCons, rNil, fSet, fAsg, tgName, tgTup, tgCons, tgNil, fYes, fAnd, fOr, fNot, fTest, boolW, gLt, gLe, gGt, gGe, gB2, f2, gI2, gI2C, fAdd, gAdd, fSub, fMul, gMul, fMod, fDiv, fPow, fNeg, f1, gNeg, fIfE, fAndV, fOrV, fNotV, fCall, fCallB, fCallBN, fCallN, fCallK, stab, Res.d, intW, fLen, gLen, fAbs, fInt, fMax2, fMin2, fMax3, gI1, gI2a, gI3a, fiSeq, gSeq, fiRng1, fiRng2, fiEnum, gEnum, fiRev, gRev, fiZip, gZip, fDrop, fNext, fBreak, fCont, fRetN, fShare, unown, fPar, parW, fPut, subW, fApp, appW, isOwL, fExt, extW, fSorted, gSorted, fListRg1, fListRev, fListKeys, fGet2, dictW, fDct0, fDct1, fRepr, gRepr, fAny, fAll, gBools, fSum, gSum, fMaxL, gMaxL, fMinL, gMinL, fChain, fSl, gSl, fPart, fNoP, fBagW, fBagI, fBagS, fBagIf, fScr, fBag, fBag2, nnW, wipeD, Res.ok, endsP, DL.endsL, endsO, gt0, gt1, gt2, gt3, gt4, gt5, gt6, gt7, gt8, gt9, gt10, gt11, gt12, gt13, gt14, gt15, st0, st1, st2, st3, st4, st5, st6, st7, st8, st9, st10, st11, st12, st13, st14, st15, Option.some.injEq, exists_eq_left', exists_eq_left, atI_zero, atI_one, atI_two, List.map_cons, List.map_nil, List.length_cons, List.length_nil, true_and, and_true, List.length_set, Bool.true_and, Bool.and_true, xor_f, xor_t, gEq_str_eq]
    refine iteF' (by decide) (fseq_run (fif_run ?_))
    simp only [fRet, fRet.stabR, fTuple, fB, g1, gTuple, gList, fList, fIx, f2R, gIx, fVar, fC, fCons, fNil, fTup, fLst, rCons, rNil, fSet, fAsg, tgName, tgTup, tgCons, tgNil, fYes, fAnd, fOr, fNot, fTest, boolW, gLt, gLe, gGt, gGe, gB2, f2, gI2, gI2C, fAdd, gAdd, fSub, fMul, gMul, fMod, fDiv, fPow, fNeg, f1, gNeg, fIfE, fAndV, fOrV, fNotV, fCall, fCallB, fCallBN, fCallN, fCallK, stab, Res.d, intW, fLen, gLen, fAbs, fInt, fMax2, fMin2, fMax3, gI1, gI2a, gI3a, fiSeq, gSeq, fiRng1, fiRng2, fiEnum, gEnum, fiRev, gRev, fiZip, gZip, fDrop, fNext, fBreak, fCont, fRetN, fShare, unown, fPar, parW, fPut, subW, fApp, appW, isOwL, fExt, extW, fSorted, gSorted, fListRg1, fListRev, fListKeys, fGet2, dictW, fDct0, fDct1, fRepr, gRepr, fAny, fAll, gBools, fSum, gSum, fMaxL, gMaxL, fMinL, gMinL, fChain, fSl, gSl, fPart, fNoP, fBagW, fBagI, fBagS, fBagIf, fScr, fBag, fBag2, nnW, wipeD, Res.ok, endsP, DL.endsL, endsO, gt0, gt1, gt2, gt3, gt4, gt5, gt6, gt7, gt8, gt9, gt10, gt11, gt12, gt13, gt14, gt15, st0, st1, st2, st3, st4, st5, st6, st7, st8, st9, st10, st11, st12, st13, st14, st15, Option.some.injEq, exists_eq_left', exists_eq_left, atI_zero, atI_one, atI_two, List.map_cons, List.map_nil, List.length_cons, List.length_nil, true_and, and_true, List.length_set, Bool.true_and, Bool.and_true, xor_f, xor_t, gEq_str_eq]
    refine iteF' (by decide) ?_
    cases named with
    | true => exact iteT' rfl ⟨rfl, net, rfl, ok, q⟩
    | false => exact iteF' rfl ⟨net, rfl, ok, q⟩
end G61

namespace G61
open PySem PySem.Spec PyProof.Rows L2 DL
def S_asks : SpD := fun ds QD _ => ∃ net n, ds = [netD net, .int n] ∧ NetOk net ∧ (0 ≤ n ∧ n ≤ 300) ∧ ∀ as : List D, (∀ a ∈ as, AskOk a) → as.length ≤ 60 → QD (.list as)
def AW (net : List (Int × Int)) (n : Int) (fs : List (Option Int)) (s4 s5 s6 s7 s8 s9 s10 s11 s12 s13 s14 s15 : Slot) : List Slot := [.bag, .sh (netD net), .sh (.int n), .sh (.list (fs.map optD)), s4, s5, s6, s7, s8, s9, s10, s11, s12, s13, s14, s15]
theorem sm_net {net : List (Int × Int)} (ok : NetOk net) : Sm 1020 3 (netD net) := by
  have st : ∀ s ∈ net, Sm 84 2 (stD s) := fun s hs => by
    have := ok.2 s hs
    have h1 : Sm 40 0 (.int s.1) := sm_int (by omega)
    have h2 : Sm 40 0 (.int s.2) := sm_int (by omega)
    exact (smA_cons (smA_cons h1 (smA_nil 0)).tup (smA_cons (smA_cons h2 (smA_nil 0)).tup (smA_nil 1))).tup
  have := (smA_all (w := 84) (dep := 2) (ds := net.map stD) fun d hd => by
    obtain ⟨s, hs, rfl⟩ := List.mem_map.mp hd
    exact st s hs).tup
  refine this.mono ?_ (Nat.le_refl _)
  rw [List.length_map]
  have := ok.1
  omega
theorem seen {fs : List (Option Int)} {k : Nat} (h : k < fs.length) : atI (fs.map optD) (k : Int) = some (optD fs[k]) := atI_map (by omega) (List.getElem?_eq_getElem (by simpa using h))
def isS (fs : List (Option Int)) (k : Nat) : Bool := match fs[k]? with
  | some (some _) => true
  | _ => false
theorem isS_iff {fs : List (Option Int)} {k : Nat} : isS fs k = true ↔ ∃ v, fs[k]? = some (some v) := by
  unfold isS
  cases h : fs[k]? with
  | none => simp
  | some o => cases o <;> simp
theorem isN_opt {fs : List (Option Int)} {k : Nat} (h : k < fs.length) : isNone (optD fs[k]) = !isS fs k := by
  unfold isS
  rw [List.getElem?_eq_getElem h]
  cases fs[k] <;> rfl
theorem l_asks : ∀ ds QD ED, S_asks ds QD ED → F__law_asks S_measure S_draw S_law_endless S_pick S_number S_far (endsP QD ED) (startB N__law_asks ds) := by
  rintro ds QD ED ⟨net, n, rfl, ok, hn, q⟩
  unfold F__law_asks
  rw [show startB N__law_asks [netD net, .int n] = [.bag, .sh (netD net), .sh (.int n), .no, .no, .no, .no, .no, .no, .no, .no, .no, .no, .no, .no, .no] from rfl]
  refine fseq_run ?_
  simp only [fRet, fRet.stabR, fTuple, fB, g1, gTuple, gList, fList, fIx, f2R, gIx, fVar, fC, fCons, fNil, fTup, fLst, rCons, rNil, fSet, fAsg, tgName, tgTup, tgCons, tgNil, fYes, fAnd, fOr, fNot, fTest, boolW, gLt, gLe, gGt, gGe, gB2, f2, gI2, gI2C, fAdd, gAdd, fSub, fMul, gMul, fMod, fDiv, fPow, fNeg, f1, gNeg, fIfE, fAndV, fOrV, fNotV, fCall, fCallB, fCallBN, fCallN, fCallK, stab, Res.d, intW, fLen, gLen, fAbs, fInt, fMax2, fMin2, fMax3, gI1, gI2a, gI3a, fiSeq, gSeq, fiRng1, fiRng2, fiEnum, gEnum, fiRev, gRev, fiZip, gZip, fDrop, fNext, fBreak, fCont, fRetN, fShare, unown, fPar, parW, fPut, subW, fApp, appW, isOwL, fExt, extW, fSorted, gSorted, fListRg1, fListRev, fListKeys, fGet2, dictW, fDct0, fDct1, fRepr, gRepr, fAny, fAll, gBools, fSum, gSum, fMaxL, gMaxL, fMinL, gMinL, fChain, fSl, gSl, fPart, fNoP, fBagW, fBagI, fBagS, fBagIf, fScr, fBag, fBag2, nnW, wipeD, Res.ok, endsP, DL.endsL, endsO, gt0, gt1, gt2, gt3, gt4, gt5, gt6, gt7, gt8, gt9, gt10, gt11, gt12, gt13, gt14, gt15, st0, st1, st2, st3, st4, st5, st6, st7, st8, st9, st10, st11, st12, st13, st14, st15, Option.some.injEq, exists_eq_left', exists_eq_left, atI_zero, atI_one, atI_two, List.map_cons, List.map_nil, List.length_cons, List.length_nil, true_and, and_true, List.length_set, Bool.true_and, Bool.and_true, xor_f, xor_t]
  refine ⟨net, n, 318, rfl, ok, hn.1, by omega, by decide, fun fs hl hf => ⟨by decide, ?_⟩⟩
  have hl : fs.length = 319 := hl
  let th : List Int := ((List.range 301).filter (isS fs)).map fun k : Nat => (k : Int)
  let ot : List Int := ((List.range 301).filter (fun k => !isS fs k)).map fun k : Nat => (k : Int)
  have hth : ∀ y, y ∈ th ↔ (0 ≤ y ∧ y ≤ 300) ∧ RT net 318 n y := fun y => by
    show y ∈ ((List.range 301).filter (isS fs)).map (fun k : Nat => (k : Int)) ↔ _
    rw [List.mem_map]
    constructor
    · rintro ⟨k, hk, rfl⟩
      obtain ⟨h1, h2⟩ := List.mem_filter.mp hk
      have h1 := List.mem_range.mp h1
      exact ⟨by omega, (hf k (by omega) (by omega)).mp (isS_iff.mp h2)⟩
    · rintro ⟨h1, h2⟩
      refine ⟨y.toNat, List.mem_filter.mpr ⟨List.mem_range.mpr (by omega), isS_iff.mpr ((hf y h1.1 (by omega)).mpr h2)⟩, by omega⟩
  have asc : th.Pairwise (· < ·) := by
    show (((List.range 301).filter (isS fs)).map fun k : Nat => (k : Int)).Pairwise (· < ·)
    rw [List.pairwise_map]
    exact (List.pairwise_lt_range.filter _).imp fun {a b} h => by omega
  have hnth : n ∈ th := (hth n).mpr ⟨hn, .base⟩
  have hne : th ≠ [] := fun z => by rw [z] at hnth; cases hnth
  have hot : ∀ y ∈ ot, 0 ≤ y ∧ y ≤ 300 := fun y hy => by
    obtain ⟨k, hk, rfl⟩ := List.mem_map.mp hy
    have := List.mem_range.mp (List.mem_filter.mp hk).1
    omega
  have thl : th.length ≤ 301 := by
    show (((List.range 301).filter (isS fs)).map fun k : Nat => (k : Int)).length ≤ 301
    rw [List.length_map]
    exact Nat.le_trans (List.length_filter_le _ _) (Nat.le_of_eq List.length_range)
  have otl : ot.length ≤ 301 := by
    show (((List.range 301).filter (fun k => !isS fs k)).map fun k : Nat => (k : Int)).length ≤ 301
    rw [List.length_map]
    exact Nat.le_trans (List.length_filter_le _ _) (Nat.le_of_eq List.length_range)
  have eth : ((List.range 301).filter (isS fs)).map (fun k : Nat => PyData.int k) = th.map PyData.int := by
    show _ = (((List.range 301).filter (isS fs)).map fun k : Nat => (k : Int)).map PyData.int
    rw [List.map_map]; rfl
  have eot : ((List.range 301).filter (fun k => !isS fs k)).map (fun k : Nat => PyData.int k) = ot.map PyData.int := by
    show _ = (((List.range 301).filter (fun k => !isS fs k)).map fun k : Nat => (k : Int)).map PyData.int
    rw [List.map_map]; rfl
  clear_value th ot
  refine fseq_join (fun δ => δ = AW net n fs (.ow (.list (th.map PyData.int))) .no .no .no .no .no .no .no .no .no .no .no) (fun nx hx => ?_) ?_
  · simp only [fRet, fRet.stabR, fTuple, fB, g1, gTuple, gList, fList, fIx, f2R, gIx, fVar, fC, fCons, fNil, fTup, fLst, rCons, rNil, fSet, fAsg, tgName, tgTup, tgCons, tgNil, fYes, fAnd, fOr, fNot, fTest, boolW, gLt, gLe, gGt, gGe, gB2, f2, gI2, gI2C, fAdd, gAdd, fSub, fMul, gMul, fMod, fDiv, fPow, fNeg, f1, gNeg, fIfE, fAndV, fOrV, fNotV, fCall, fCallB, fCallBN, fCallN, fCallK, stab, Res.d, intW, fLen, gLen, fAbs, fInt, fMax2, fMin2, fMax3, gI1, gI2a, gI3a, fiSeq, gSeq, fiRng1, fiRng2, fiEnum, gEnum, fiRev, gRev, fiZip, gZip, fDrop, fNext, fBreak, fCont, fRetN, fShare, unown, fPar, parW, fPut, subW, fApp, appW, isOwL, fExt, extW, fSorted, gSorted, fListRg1, fListRev, fListKeys, fGet2, dictW, fDct0, fDct1, fRepr, gRepr, fAny, fAll, gBools, fSum, gSum, fMaxL, gMaxL, fMinL, gMinL, fChain, fSl, gSl, fPart, fNoP, fBagW, fBagI, fBagS, fBagIf, fScr, fBag, fBag2, nnW, wipeD, Res.ok, endsP, DL.endsL, endsO, gt0, gt1, gt2, gt3, gt4, gt5, gt6, gt7, gt8, gt9, gt10, gt11, gt12, gt13, gt14, gt15, st0, st1, st2, st3, st4, st5, st6, st7, st8, st9, st10, st11, st12, st13, st14, st15, Option.some.injEq, exists_eq_left', exists_eq_left, atI_zero, atI_one, atI_two, List.map_cons, List.map_nil, List.length_cons, List.length_nil, true_and, and_true, List.length_set, Bool.true_and, Bool.and_true, xor_f, xor_t]
    refine flc_filter (List.range 301) (fun k : Nat => .int k) (isS fs) (fun k => .int k) (fun R hR => ?_) (by rw [List.length_range, sl_eq]; omega) (fun k hk K k1 k2 => ?_) ?_
    · simp only [fRet, fRet.stabR, fTuple, fB, g1, gTuple, gList, fList, fIx, f2R, gIx, fVar, fC, fCons, fNil, fTup, fLst, rCons, rNil, fSet, fAsg, tgName, tgTup, tgCons, tgNil, fYes, fAnd, fOr, fNot, fTest, boolW, gLt, gLe, gGt, gGe, gB2, f2, gI2, gI2C, fAdd, gAdd, fSub, fMul, gMul, fMod, fDiv, fPow, fNeg, f1, gNeg, fIfE, fAndV, fOrV, fNotV, fCall, fCallB, fCallBN, fCallN, fCallK, stab, Res.d, intW, fLen, gLen, fAbs, fInt, fMax2, fMin2, fMax3, gI1, gI2a, gI3a, fiSeq, gSeq, fiRng1, fiRng2, fiEnum, gEnum, fiRev, gRev, fiZip, gZip, fDrop, fNext, fBreak, fCont, fRetN, fShare, unown, fPar, parW, fPut, subW, fApp, appW, isOwL, fExt, extW, fSorted, gSorted, fListRg1, fListRev, fListKeys, fGet2, dictW, fDct0, fDct1, fRepr, gRepr, fAny, fAll, gBools, fSum, gSum, fMaxL, gMaxL, fMinL, gMinL, fChain, fSl, gSl, fPart, fNoP, fBagW, fBagI, fBagS, fBagIf, fScr, fBag, fBag2, nnW, wipeD, Res.ok, endsP, DL.endsL, endsO, gt0, gt1, gt2, gt3, gt4, gt5, gt6, gt7, gt8, gt9, gt10, gt11, gt12, gt13, gt14, gt15, st0, st1, st2, st3, st4, st5, st6, st7, st8, st9, st10, st11, st12, st13, st14, st15, Option.some.injEq, exists_eq_left', exists_eq_left, atI_zero, atI_one, atI_two, List.map_cons, List.map_nil, List.length_cons, List.length_nil, true_and, and_true, List.length_set, Bool.true_and, Bool.and_true, xor_f, xor_t]
      refine ⟨⟨by decide, by decide⟩, ?_⟩
      have := hR true
      rw [← rgD_eq] at this
      exact this
    · have hk := List.mem_range.mp hk
      simp only [fRet, fRet.stabR, fTuple, fB, g1, gTuple, gList, fList, fIx, f2R, gIx, fVar, fC, fCons, fNil, fTup, fLst, rCons, rNil, fSet, fAsg, tgName, tgTup, tgCons, tgNil, fYes, fAnd, fOr, fNot, fTest, boolW, gLt, gLe, gGt, gGe, gB2, f2, gI2, gI2C, fAdd, gAdd, fSub, fMul, gMul, fMod, fDiv, fPow, fNeg, f1, gNeg, fIfE, fAndV, fOrV, fNotV, fCall, fCallB, fCallBN, fCallN, fCallK, stab, Res.d, intW, fLen, gLen, fAbs, fInt, fMax2, fMin2, fMax3, gI1, gI2a, gI3a, fiSeq, gSeq, fiRng1, fiRng2, fiEnum, gEnum, fiRev, gRev, fiZip, gZip, fDrop, fNext, fBreak, fCont, fRetN, fShare, unown, fPar, parW, fPut, subW, fApp, appW, isOwL, fExt, extW, fSorted, gSorted, fListRg1, fListRev, fListKeys, fGet2, dictW, fDct0, fDct1, fRepr, gRepr, fAny, fAll, gBools, fSum, gSum, fMaxL, gMaxL, fMinL, gMinL, fChain, fSl, gSl, fPart, fNoP, fBagW, fBagI, fBagS, fBagIf, fScr, fBag, fBag2, nnW, wipeD, Res.ok, endsP, DL.endsL, endsO, gt0, gt1, gt2, gt3, gt4, gt5, gt6, gt7, gt8, gt9, gt10, gt11, gt12, gt13, gt14, gt15, st0, st1, st2, st3, st4, st5, st6, st7, st8, st9, st10, st11, st12, st13, st14, st15, Option.some.injEq, exists_eq_left', exists_eq_left, atI_zero, atI_one, atI_two, List.map_cons, List.map_nil, List.length_cons, List.length_nil, true_and, and_true, List.length_set, Bool.true_and, Bool.and_true, xor_f, xor_t]
      refine ⟨by decide, _, seen (by omega), rfl, ?_⟩
      simp only [fRet, fRet.stabR, fTuple, fB, g1, gTuple, gList, fList, fIx, f2R, gIx, fVar, fC, fCons, fNil, fTup, fLst, rCons, rNil, fSet, fAsg, tgName, tgTup, tgCons, tgNil, fYes, fAnd, fOr, fNot, fTest, boolW, gLt, gLe, gGt, gGe, gB2, f2, gI2, gI2C, fAdd, gAdd, fSub, fMul, gMul, fMod, fDiv, fPow, fNeg, f1, gNeg, fIfE, fAndV, fOrV, fNotV, fCall, fCallB, fCallBN, fCallN, fCallK, stab, Res.d, intW, fLen, gLen, fAbs, fInt, fMax2, fMin2, fMax3, gI1, gI2a, gI3a, fiSeq, gSeq, fiRng1, fiRng2, fiEnum, gEnum, fiRev, gRev, fiZip, gZip, fDrop, fNext, fBreak, fCont, fRetN, fShare, unown, fPar, parW, fPut, subW, fApp, appW, isOwL, fExt, extW, fSorted, gSorted, fListRg1, fListRev, fListKeys, fGet2, dictW, fDct0, fDct1, fRepr, gRepr, fAny, fAll, gBools, fSum, gSum, fMaxL, gMaxL, fMinL, gMinL, fChain, fSl, gSl, fPart, fNoP, fBagW, fBagI, fBagS, fBagIf, fScr, fBag, fBag2, nnW, wipeD, Res.ok, endsP, DL.endsL, endsO, gt0, gt1, gt2, gt3, gt4, gt5, gt6, gt7, gt8, gt9, gt10, gt11, gt12, gt13, gt14, gt15, st0, st1, st2, st3, st4, st5, st6, st7, st8, st9, st10, st11, st12, st13, st14, st15, Option.some.injEq, exists_eq_left', exists_eq_left, atI_zero, atI_one, atI_two, List.map_cons, List.map_nil, List.length_cons, List.length_nil, true_and, and_true, List.length_set, Bool.true_and, Bool.and_true, xor_f, xor_t, isN_opt (show k < fs.length by omega), Bool.not_not]
      cases e : isS fs k with
      | true => exact iteT' rfl (k1 e)
      | false => exact iteF' rfl (k2 e)
    · rw [eth]
      simp only [fRet, fRet.stabR, fTuple, fB, g1, gTuple, gList, fList, fIx, f2R, gIx, fVar, fC, fCons, fNil, fTup, fLst, rCons, rNil, fSet, fAsg, tgName, tgTup, tgCons, tgNil, fYes, fAnd, fOr, fNot, fTest, boolW, gLt, gLe, gGt, gGe, gB2, f2, gI2, gI2C, fAdd, gAdd, fSub, fMul, gMul, fMod, fDiv, fPow, fNeg, f1, gNeg, fIfE, fAndV, fOrV, fNotV, fCall, fCallB, fCallBN, fCallN, fCallK, stab, Res.d, intW, fLen, gLen, fAbs, fInt, fMax2, fMin2, fMax3, gI1, gI2a, gI3a, fiSeq, gSeq, fiRng1, fiRng2, fiEnum, gEnum, fiRev, gRev, fiZip, gZip, fDrop, fNext, fBreak, fCont, fRetN, fShare, unown, fPar, parW, fPut, subW, fApp, appW, isOwL, fExt, extW, fSorted, gSorted, fListRg1, fListRev, fListKeys, fGet2, dictW, fDct0, fDct1, fRepr, gRepr, fAny, fAll, gBools, fSum, gSum, fMaxL, gMaxL, fMinL, gMinL, fChain, fSl, gSl, fPart, fNoP, fBagW, fBagI, fBagS, fBagIf, fScr, fBag, fBag2, nnW, wipeD, Res.ok, endsP, DL.endsL, endsO, gt0, gt1, gt2, gt3, gt4, gt5, gt6, gt7, gt8, gt9, gt10, gt11, gt12, gt13, gt14, gt15, st0, st1, st2, st3, st4, st5, st6, st7, st8, st9, st10, st11, st12, st13, st14, st15, Option.some.injEq, exists_eq_left', exists_eq_left, atI_zero, atI_one, atI_two, List.map_cons, List.map_nil, List.length_cons, List.length_nil, true_and, and_true, List.length_set, Bool.true_and, Bool.and_true, xor_f, xor_t]
      exact ⟨by decide, hx _ rfl⟩
  rintro δ rfl
  unfold AW
  refine fseq_join (fun δ => δ = AW net n fs (.ow (.list (th.map PyData.int))) (.ow (.list (ot.map PyData.int))) .no .no .no .no .no .no .no .no .no .no) (fun nx hx => ?_) ?_
  · simp only [fRet, fRet.stabR, fTuple, fB, g1, gTuple, gList, fList, fIx, f2R, gIx, fVar, fC, fCons, fNil, fTup, fLst, rCons, rNil, fSet, fAsg, tgName, tgTup, tgCons, tgNil, fYes, fAnd, fOr, fNot, fTest, boolW, gLt, gLe, gGt, gGe, gB2, f2, gI2, gI2C, fAdd, gAdd, fSub, fMul, gMul, fMod, fDiv, fPow, fNeg, f1, gNeg, fIfE, fAndV, fOrV, fNotV, fCall, fCallB, fCallBN, fCallN, fCallK, stab, Res.d, intW, fLen, gLen, fAbs, fInt, fMax2, fMin2, fMax3, gI1, gI2a, gI3a, fiSeq, gSeq, fiRng1, fiRng2, fiEnum, gEnum, fiRev, gRev, fiZip, gZip, fDrop, fNext, fBreak, fCont, fRetN, fShare, unown, fPar, parW, fPut, subW, fApp, appW, isOwL, fExt, extW, fSorted, gSorted, fListRg1, fListRev, fListKeys, fGet2, dictW, fDct0, fDct1, fRepr, gRepr, fAny, fAll, gBools, fSum, gSum, fMaxL, gMaxL, fMinL, gMinL, fChain, fSl, gSl, fPart, fNoP, fBagW, fBagI, fBagS, fBagIf, fScr, fBag, fBag2, nnW, wipeD, Res.ok, endsP, DL.endsL, endsO, gt0, gt1, gt2, gt3, gt4, gt5, gt6, gt7, gt8, gt9, gt10, gt11, gt12, gt13, gt14, gt15, st0, st1, st2, st3, st4, st5, st6, st7, st8, st9, st10, st11, st12, st13, st14, st15, Option.some.injEq, exists_eq_left', exists_eq_left, atI_zero, atI_one, atI_two, List.map_cons, List.map_nil, List.length_cons, List.length_nil, true_and, and_true, List.length_set, Bool.true_and, Bool.and_true, xor_f, xor_t]
    refine flc_filter (List.range 301) (fun k : Nat => .int k) (fun k => !isS fs k) (fun k => .int k) (fun R hR => ?_) (by rw [List.length_range, sl_eq]; omega) (fun k hk K k1 k2 => ?_) ?_
    · simp only [fRet, fRet.stabR, fTuple, fB, g1, gTuple, gList, fList, fIx, f2R, gIx, fVar, fC, fCons, fNil, fTup, fLst, rCons, rNil, fSet, fAsg, tgName, tgTup, tgCons, tgNil, fYes, fAnd, fOr, fNot, fTest, boolW, gLt, gLe, gGt, gGe, gB2, f2, gI2, gI2C, fAdd, gAdd, fSub, fMul, gMul, fMod, fDiv, fPow, fNeg, f1, gNeg, fIfE, fAndV, fOrV, fNotV, fCall, fCallB, fCallBN, fCallN, fCallK, stab, Res.d, intW, fLen, gLen, fAbs, fInt, fMax2, fMin2, fMax3, gI1, gI2a, gI3a, fiSeq, gSeq, fiRng1, fiRng2, fiEnum, gEnum, fiRev, gRev, fiZip, gZip, fDrop, fNext, fBreak, fCont, fRetN, fShare, unown, fPar, parW, fPut, subW, fApp, appW, isOwL, fExt, extW, fSorted, gSorted, fListRg1, fListRev, fListKeys, fGet2, dictW, fDct0, fDct1, fRepr, gRepr, fAny, fAll, gBools, fSum, gSum, fMaxL, gMaxL, fMinL, gMinL, fChain, fSl, gSl, fPart, fNoP, fBagW, fBagI, fBagS, fBagIf, fScr, fBag, fBag2, nnW, wipeD, Res.ok, endsP, DL.endsL, endsO, gt0, gt1, gt2, gt3, gt4, gt5, gt6, gt7, gt8, gt9, gt10, gt11, gt12, gt13, gt14, gt15, st0, st1, st2, st3, st4, st5, st6, st7, st8, st9, st10, st11, st12, st13, st14, st15, Option.some.injEq, exists_eq_left', exists_eq_left, atI_zero, atI_one, atI_two, List.map_cons, List.map_nil, List.length_cons, List.length_nil, true_and, and_true, List.length_set, Bool.true_and, Bool.and_true, xor_f, xor_t]
      refine ⟨⟨by decide, by decide⟩, ?_⟩
      have := hR true
      rw [← rgD_eq] at this
      exact this
    · have hk := List.mem_range.mp hk
      simp only [fRet, fRet.stabR, fTuple, fB, g1, gTuple, gList, fList, fIx, f2R, gIx, fVar, fC, fCons, fNil, fTup, fLst, rCons, rNil, fSet, fAsg, tgName, tgTup, tgCons, tgNil, fYes, fAnd, fOr, fNot, fTest, boolW, gLt, gLe, gGt, gGe, gB2, f2, gI2, gI2C, fAdd, gAdd, fSub, fMul, gMul, fMod, fDiv, fPow, fNeg, f1, gNeg, fIfE, fAndV, fOrV, fNotV, fCall, fCallB, fCallBN, fCallN, fCallK, stab, Res.d, intW, fLen, gLen, fAbs, fInt, fMax2, fMin2, fMax3, gI1, gI2a, gI3a, fiSeq, gSeq, fiRng1, fiRng2, fiEnum, gEnum, fiRev, gRev, fiZip, gZip, fDrop, fNext, fBreak, fCont, fRetN, fShare, unown, fPar, parW, fPut, subW, fApp, appW, isOwL, fExt, extW, fSorted, gSorted, fListRg1, fListRev, fListKeys, fGet2, dictW, fDct0, fDct1, fRepr, gRepr, fAny, fAll, gBools, fSum, gSum, fMaxL, gMaxL, fMinL, gMinL, fChain, fSl, gSl, fPart, fNoP, fBagW, fBagI, fBagS, fBagIf, fScr, fBag, fBag2, nnW, wipeD, Res.ok, endsP, DL.endsL, endsO, gt0, gt1, gt2, gt3, gt4, gt5, gt6, gt7, gt8, gt9, gt10, gt11, gt12, gt13, gt14, gt15, st0, st1, st2, st3, st4, st5, st6, st7, st8, st9, st10, st11, st12, st13, st14, st15, Option.some.injEq, exists_eq_left', exists_eq_left, atI_zero, atI_one, atI_two, List.map_cons, List.map_nil, List.length_cons, List.length_nil, true_and, and_true, List.length_set, Bool.true_and, Bool.and_true, xor_f, xor_t]
      refine ⟨by decide, _, seen (by omega), rfl, ?_⟩
      simp only [fRet, fRet.stabR, fTuple, fB, g1, gTuple, gList, fList, fIx, f2R, gIx, fVar, fC, fCons, fNil, fTup, fLst, rCons, rNil, fSet, fAsg, tgName, tgTup, tgCons, tgNil, fYes, fAnd, fOr, fNot, fTest, boolW, gLt, gLe, gGt, gGe, gB2, f2, gI2, gI2C, fAdd, gAdd, fSub, fMul, gMul, fMod, fDiv, fPow, fNeg, f1, gNeg, fIfE, fAndV, fOrV, fNotV, fCall, fCallB, fCallBN, fCallN, fCallK, stab, Res.d, intW, fLen, gLen, fAbs, fInt, fMax2, fMin2, fMax3, gI1, gI2a, gI3a, fiSeq, gSeq, fiRng1, fiRng2, fiEnum, gEnum, fiRev, gRev, fiZip, gZip, fDrop, fNext, fBreak, fCont, fRetN, fShare, unown, fPar, parW, fPut, subW, fApp, appW, isOwL, fExt, extW, fSorted, gSorted, fListRg1, fListRev, fListKeys, fGet2, dictW, fDct0, fDct1, fRepr, gRepr, fAny, fAll, gBools, fSum, gSum, fMaxL, gMaxL, fMinL, gMinL, fChain, fSl, gSl, fPart, fNoP, fBagW, fBagI, fBagS, fBagIf, fScr, fBag, fBag2, nnW, wipeD, Res.ok, endsP, DL.endsL, endsO, gt0, gt1, gt2, gt3, gt4, gt5, gt6, gt7, gt8, gt9, gt10, gt11, gt12, gt13, gt14, gt15, st0, st1, st2, st3, st4, st5, st6, st7, st8, st9, st10, st11, st12, st13, st14, st15, Option.some.injEq, exists_eq_left', exists_eq_left, atI_zero, atI_one, atI_two, List.map_cons, List.map_nil, List.length_cons, List.length_nil, true_and, and_true, List.length_set, Bool.true_and, Bool.and_true, xor_f, xor_t, isN_opt (show k < fs.length by omega)]
      cases e : isS fs k with
      | true => exact iteF' rfl (k2 (by rw [e]; rfl))
      | false => exact iteT' rfl (k1 (by rw [e]; rfl))
    · rw [eot]
      simp only [fRet, fRet.stabR, fTuple, fB, g1, gTuple, gList, fList, fIx, f2R, gIx, fVar, fC, fCons, fNil, fTup, fLst, rCons, rNil, fSet, fAsg, tgName, tgTup, tgCons, tgNil, fYes, fAnd, fOr, fNot, fTest, boolW, gLt, gLe, gGt, gGe, gB2, f2, gI2, gI2C, fAdd, gAdd, fSub, fMul, gMul, fMod, fDiv, fPow, fNeg, f1, gNeg, fIfE, fAndV, fOrV, fNotV, fCall, fCallB, fCallBN, fCallN, fCallK, stab, Res.d, intW, fLen, gLen, fAbs, fInt, fMax2, fMin2, fMax3, gI1, gI2a, gI3a, fiSeq, gSeq, fiRng1, fiRng2, fiEnum, gEnum, fiRev, gRev, fiZip, gZip, fDrop, fNext, fBreak, fCont, fRetN, fShare, unown, fPar, parW, fPut, subW, fApp, appW, isOwL, fExt, extW, fSorted, gSorted, fListRg1, fListRev, fListKeys, fGet2, dictW, fDct0, fDct1, fRepr, gRepr, fAny, fAll, gBools, fSum, gSum, fMaxL, gMaxL, fMinL, gMinL, fChain, fSl, gSl, fPart, fNoP, fBagW, fBagI, fBagS, fBagIf, fScr, fBag, fBag2, nnW, wipeD, Res.ok, endsP, DL.endsL, endsO, gt0, gt1, gt2, gt3, gt4, gt5, gt6, gt7, gt8, gt9, gt10, gt11, gt12, gt13, gt14, gt15, st0, st1, st2, st3, st4, st5, st6, st7, st8, st9, st10, st11, st12, st13, st14, st15, Option.some.injEq, exists_eq_left', exists_eq_left, atI_zero, atI_one, atI_two, List.map_cons, List.map_nil, List.length_cons, List.length_nil, true_and, and_true, List.length_set, Bool.true_and, Bool.and_true, xor_f, xor_t]
      exact ⟨by decide, hx _ rfl⟩
  rintro δ rfl
  unfold AW
  refine fseq_run ?_
  simp only [fRet, fRet.stabR, fTuple, fB, g1, gTuple, gList, fList, fIx, f2R, gIx, fVar, fC, fCons, fNil, fTup, fLst, rCons, rNil, fSet, fAsg, tgName, tgTup, tgCons, tgNil, fYes, fAnd, fOr, fNot, fTest, boolW, gLt, gLe, gGt, gGe, gB2, f2, gI2, gI2C, fAdd, gAdd, fSub, fMul, gMul, fMod, fDiv, fPow, fNeg, f1, gNeg, fIfE, fAndV, fOrV, fNotV, fCall, fCallB, fCallBN, fCallN, fCallK, stab, Res.d, intW, fLen, gLen, fAbs, fInt, fMax2, fMin2, fMax3, gI1, gI2a, gI3a, fiSeq, gSeq, fiRng1, fiRng2, fiEnum, gEnum, fiRev, gRev, fiZip, gZip, fDrop, fNext, fBreak, fCont, fRetN, fShare, unown, fPar, parW, fPut, subW, fApp, appW, isOwL, fExt, extW, fSorted, gSorted, fListRg1, fListRev, fListKeys, fGet2, dictW, fDct0, fDct1, fRepr, gRepr, fAny, fAll, gBools, fSum, gSum, fMaxL, gMaxL, fMinL, gMinL, fChain, fSl, gSl, fPart, fNoP, fBagW, fBagI, fBagS, fBagIf, fScr, fBag, fBag2, nnW, wipeD, Res.ok, endsP, DL.endsL, endsO, gt0, gt1, gt2, gt3, gt4, gt5, gt6, gt7, gt8, gt9, gt10, gt11, gt12, gt13, gt14, gt15, st0, st1, st2, st3, st4, st5, st6, st7, st8, st9, st10, st11, st12, st13, st14, st15, Option.some.injEq, exists_eq_left', exists_eq_left, atI_zero, atI_one, atI_two, List.map_cons, List.map_nil, List.length_cons, List.length_nil, true_and, and_true, List.length_set, Bool.true_and, Bool.and_true, xor_f, xor_t]
  refine ⟨by decide, by decide, ?_⟩
  refine fseq_join (fun δ => ∃ (as : List D) (s7 s11 : Slot), δ = AW net n fs (.ow (.list (th.map PyData.int))) (.ow (.list (ot.map PyData.int))) (.ow (.list as)) s7 .no .no .no s11 .no .no .no .no ∧ (∀ a ∈ as, AskOk a) ∧ as.length ≤ 4) (fun nx hx => ?_) ?_
  · refine ffor_open ?_
    simp only [fRet, fRet.stabR, fTuple, fB, g1, gTuple, gList, fList, fIx, f2R, gIx, fVar, fC, fCons, fNil, fTup, fLst, rCons, rNil, fSet, fAsg, tgName, tgTup, tgCons, tgNil, fYes, fAnd, fOr, fNot, fTest, boolW, gLt, gLe, gGt, gGe, gB2, f2, gI2, gI2C, fAdd, gAdd, fSub, fMul, gMul, fMod, fDiv, fPow, fNeg, f1, gNeg, fIfE, fAndV, fOrV, fNotV, fCall, fCallB, fCallBN, fCallN, fCallK, stab, Res.d, intW, fLen, gLen, fAbs, fInt, fMax2, fMin2, fMax3, gI1, gI2a, gI3a, fiSeq, gSeq, fiRng1, fiRng2, fiEnum, gEnum, fiRev, gRev, fiZip, gZip, fDrop, fNext, fBreak, fCont, fRetN, fShare, unown, fPar, parW, fPut, subW, fApp, appW, isOwL, fExt, extW, fSorted, gSorted, fListRg1, fListRev, fListKeys, fGet2, dictW, fDct0, fDct1, fRepr, gRepr, fAny, fAll, gBools, fSum, gSum, fMaxL, gMaxL, fMinL, gMinL, fChain, fSl, gSl, fPart, fNoP, fBagW, fBagI, fBagS, fBagIf, fScr, fBag, fBag2, nnW, wipeD, Res.ok, endsP, DL.endsL, endsO, gt0, gt1, gt2, gt3, gt4, gt5, gt6, gt7, gt8, gt9, gt10, gt11, gt12, gt13, gt14, gt15, st0, st1, st2, st3, st4, st5, st6, st7, st8, st9, st10, st11, st12, st13, st14, st15, Option.some.injEq, exists_eq_left', exists_eq_left, atI_zero, atI_one, atI_two, List.map_cons, List.map_nil, List.length_cons, List.length_nil, true_and, and_true, List.length_set, Bool.true_and, Bool.and_true, xor_f, xor_t]
    refine ⟨300, rfl, by decide, by decide, fun r hr0 hr1 => ?_⟩
    simp only [fRet, fRet.stabR, fTuple, fB, g1, gTuple, gList, fList, fIx, f2R, gIx, fVar, fC, fCons, fNil, fTup, fLst, rCons, rNil, fSet, fAsg, tgName, tgTup, tgCons, tgNil, fYes, fAnd, fOr, fNot, fTest, boolW, gLt, gLe, gGt, gGe, gB2, f2, gI2, gI2C, fAdd, gAdd, fSub, fMul, gMul, fMod, fDiv, fPow, fNeg, f1, gNeg, fIfE, fAndV, fOrV, fNotV, fCall, fCallB, fCallBN, fCallN, fCallK, stab, Res.d, intW, fLen, gLen, fAbs, fInt, fMax2, fMin2, fMax3, gI1, gI2a, gI3a, fiSeq, gSeq, fiRng1, fiRng2, fiEnum, gEnum, fiRev, gRev, fiZip, gZip, fDrop, fNext, fBreak, fCont, fRetN, fShare, unown, fPar, parW, fPut, subW, fApp, appW, isOwL, fExt, extW, fSorted, gSorted, fListRg1, fListRev, fListKeys, fGet2, dictW, fDct0, fDct1, fRepr, gRepr, fAny, fAll, gBools, fSum, gSum, fMaxL, gMaxL, fMinL, gMinL, fChain, fSl, gSl, fPart, fNoP, fBagW, fBagI, fBagS, fBagIf, fScr, fBag, fBag2, nnW, wipeD, Res.ok, endsP, DL.endsL, endsO, gt0, gt1, gt2, gt3, gt4, gt5, gt6, gt7, gt8, gt9, gt10, gt11, gt12, gt13, gt14, gt15, st0, st1, st2, st3, st4, st5, st6, st7, st8, st9, st10, st11, st12, st13, st14, st15, Option.some.injEq, exists_eq_left', exists_eq_left, atI_zero, atI_one, atI_two, List.map_cons, List.map_nil, List.length_cons, List.length_nil, true_and, and_true, List.length_set, Bool.true_and, Bool.and_true, xor_f, xor_t, imax]
    refine ⟨by decide, ?_⟩
    refine forg_run (fun i δ => ∃ (as : List D) (s7 s11 : Slot), δ = AW net n fs (.ow (.list (th.map PyData.int))) (.ow (.list (ot.map PyData.int))) (.ow (.list as)) s7 .no .no .no s11 .no .no .no .no ∧ (∀ a ∈ as, AskOk a) ∧ as.length ≤ i) ⟨[], _, _, rfl, by simp, by simp⟩ ?_ ?_
    · rintro i d δ hd ⟨as, s7, s11, rfl, has, hal⟩
      have hil : i < 4 := by have := (List.getElem?_eq_some_iff.mp hd).1; simpa using this
      obtain ⟨m, rfl, hm0, hm1⟩ : ∃ m, d = .int m ∧ 0 ≤ m ∧ m ≤ 300 := by
        have := List.mem_of_getElem? hd
        simp at this
        rcases this with rfl | rfl | rfl | rfl
        · exact ⟨r, rfl, by omega, by omega⟩
        · exact ⟨300, rfl, by omega, by omega⟩
        · exact ⟨n, rfl, hn⟩
        · exact ⟨max 0 (n - 1), rfl, by omega, by omega⟩
      unfold AW
      simp only [fRet, fRet.stabR, fTuple, fB, g1, gTuple, gList, fList, fIx, f2R, gIx, fVar, fC, fCons, fNil, fTup, fLst, rCons, rNil, fSet, fAsg, tgName, tgTup, tgCons, tgNil, fYes, fAnd, fOr, fNot, fTest, boolW, gLt, gLe, gGt, gGe, gB2, f2, gI2, gI2C, fAdd, gAdd, fSub, fMul, gMul, fMod, fDiv, fPow, fNeg, f1, gNeg, fIfE, fAndV, fOrV, fNotV, fCall, fCallB, fCallBN, fCallN, fCallK, stab, Res.d, intW, fLen, gLen, fAbs, fInt, fMax2, fMin2, fMax3, gI1, gI2a, gI3a, fiSeq, gSeq, fiRng1, fiRng2, fiEnum, gEnum, fiRev, gRev, fiZip, gZip, fDrop, fNext, fBreak, fCont, fRetN, fShare, unown, fPar, parW, fPut, subW, fApp, appW, isOwL, fExt, extW, fSorted, gSorted, fListRg1, fListRev, fListKeys, fGet2, dictW, fDct0, fDct1, fRepr, gRepr, fAny, fAll, gBools, fSum, gSum, fMaxL, gMaxL, fMinL, gMinL, fChain, fSl, gSl, fPart, fNoP, fBagW, fBagI, fBagS, fBagIf, fScr, fBag, fBag2, nnW, wipeD, Res.ok, endsP, DL.endsL, endsO, gt0, gt1, gt2, gt3, gt4, gt5, gt6, gt7, gt8, gt9, gt10, gt11, gt12, gt13, gt14, gt15, st0, st1, st2, st3, st4, st5, st6, st7, st8, st9, st10, st11, st12, st13, st14, st15, Option.some.injEq, exists_eq_left', exists_eq_left, atI_zero, atI_one, atI_two, List.map_cons, List.map_nil, List.length_cons, List.length_nil, true_and, and_true, List.length_set, Bool.true_and, Bool.and_true, xor_f, xor_t]
      refine ⟨by decide, ⟨_, rfl⟩, by decide, ?_⟩
      refine flc_filter th PyData.int (fun x => decide (x ≤ m)) PyData.int (fun R hR => by simp only [fRet, fRet.stabR, fTuple, fB, g1, gTuple, gList, fList, fIx, f2R, gIx, fVar, fC, fCons, fNil, fTup, fLst, rCons, rNil, fSet, fAsg, tgName, tgTup, tgCons, tgNil, fYes, fAnd, fOr, fNot, fTest, boolW, gLt, gLe, gGt, gGe, gB2, f2, gI2, gI2C, fAdd, gAdd, fSub, fMul, gMul, fMod, fDiv, fPow, fNeg, f1, gNeg, fIfE, fAndV, fOrV, fNotV, fCall, fCallB, fCallBN, fCallN, fCallK, stab, Res.d, intW, fLen, gLen, fAbs, fInt, fMax2, fMin2, fMax3, gI1, gI2a, gI3a, fiSeq, gSeq, fiRng1, fiRng2, fiEnum, gEnum, fiRev, gRev, fiZip, gZip, fDrop, fNext, fBreak, fCont, fRetN, fShare, unown, fPar, parW, fPut, subW, fApp, appW, isOwL, fExt, extW, fSorted, gSorted, fListRg1, fListRev, fListKeys, fGet2, dictW, fDct0, fDct1, fRepr, gRepr, fAny, fAll, gBools, fSum, gSum, fMaxL, gMaxL, fMinL, gMinL, fChain, fSl, gSl, fPart, fNoP, fBagW, fBagI, fBagS, fBagIf, fScr, fBag, fBag2, nnW, wipeD, Res.ok, endsP, DL.endsL, endsO, gt0, gt1, gt2, gt3, gt4, gt5, gt6, gt7, gt8, gt9, gt10, gt11, gt12, gt13, gt14, gt15, st0, st1, st2, st3, st4, st5, st6, st7, st8, st9, st10, st11, st12, st13, st14, st15, Option.some.injEq, exists_eq_left', exists_eq_left, atI_zero, atI_one, atI_two, List.map_cons, List.map_nil, List.length_cons, List.length_nil, true_and, and_true, List.length_set, Bool.true_and, Bool.and_true, xor_f, xor_t]; exact hR _) (by rw [sl_eq]; omega) (fun x hx K k1 k2 => ?_) ?_
      · simp only [fRet, fRet.stabR, fTuple, fB, g1, gTuple, gList, fList, fIx, f2R, gIx, fVar, fC, fCons, fNil, fTup, fLst, rCons, rNil, fSet, fAsg, tgName, tgTup, tgCons, tgNil, fYes, fAnd, fOr, fNot, fTest, boolW, gLt, gLe, gGt, gGe, gB2, f2, gI2, gI2C, fAdd, gAdd, fSub, fMul, gMul, fMod, fDiv, fPow, fNeg, f1, gNeg, fIfE, fAndV, fOrV, fNotV, fCall, fCallB, fCallBN, fCallN, fCallK, stab, Res.d, intW, fLen, gLen, fAbs, fInt, fMax2, fMin2, fMax3, gI1, gI2a, gI3a, fiSeq, gSeq, fiRng1, fiRng2, fiEnum, gEnum, fiRev, gRev, fiZip, gZip, fDrop, fNext, fBreak, fCont, fRetN, fShare, unown, fPar, parW, fPut, subW, fApp, appW, isOwL, fExt, extW, fSorted, gSorted, fListRg1, fListRev, fListKeys, fGet2, dictW, fDct0, fDct1, fRepr, gRepr, fAny, fAll, gBools, fSum, gSum, fMaxL, gMaxL, fMinL, gMinL, fChain, fSl, gSl, fPart, fNoP, fBagW, fBagI, fBagS, fBagIf, fScr, fBag, fBag2, nnW, wipeD, Res.ok, endsP, DL.endsL, endsO, gt0, gt1, gt2, gt3, gt4, gt5, gt6, gt7, gt8, gt9, gt10, gt11, gt12, gt13, gt14, gt15, st0, st1, st2, st3, st4, st5, st6, st7, st8, st9, st10, st11, st12, st13, st14, st15, Option.some.injEq, exists_eq_left', exists_eq_left, atI_zero, atI_one, atI_two, List.map_cons, List.map_nil, List.length_cons, List.length_nil, true_and, and_true, List.length_set, Bool.true_and, Bool.and_true, xor_f, xor_t]
        refine ⟨by decide, ?_⟩
        by_cases e : x ≤ m
        · exact iteT' (decide_eq_true e) (k1 (decide_eq_true e))
        · exact iteF' (decide_eq_false e) (k2 (decide_eq_false e))
      · simp only [fRet, fRet.stabR, fTuple, fB, g1, gTuple, gList, fList, fIx, f2R, gIx, fVar, fC, fCons, fNil, fTup, fLst, rCons, rNil, fSet, fAsg, tgName, tgTup, tgCons, tgNil, fYes, fAnd, fOr, fNot, fTest, boolW, gLt, gLe, gGt, gGe, gB2, f2, gI2, gI2C, fAdd, gAdd, fSub, fMul, gMul, fMod, fDiv, fPow, fNeg, f1, gNeg, fIfE, fAndV, fOrV, fNotV, fCall, fCallB, fCallBN, fCallN, fCallK, stab, Res.d, intW, fLen, gLen, fAbs, fInt, fMax2, fMin2, fMax3, gI1, gI2a, gI3a, fiSeq, gSeq, fiRng1, fiRng2, fiEnum, gEnum, fiRev, gRev, fiZip, gZip, fDrop, fNext, fBreak, fCont, fRetN, fShare, unown, fPar, parW, fPut, subW, fApp, appW, isOwL, fExt, extW, fSorted, gSorted, fListRg1, fListRev, fListKeys, fGet2, dictW, fDct0, fDct1, fRepr, gRepr, fAny, fAll, gBools, fSum, gSum, fMaxL, gMaxL, fMinL, gMinL, fChain, fSl, gSl, fPart, fNoP, fBagW, fBagI, fBagS, fBagIf, fScr, fBag, fBag2, nnW, wipeD, Res.ok, endsP, DL.endsL, endsO, gt0, gt1, gt2, gt3, gt4, gt5, gt6, gt7, gt8, gt9, gt10, gt11, gt12, gt13, gt14, gt15, st0, st1, st2, st3, st4, st5, st6, st7, st8, st9, st10, st11, st12, st13, st14, st15, Option.some.injEq, exists_eq_left', exists_eq_left, atI_zero, atI_one, atI_two, List.map_cons, List.map_nil, List.length_cons, List.length_nil, true_and, and_true, List.length_set, Bool.true_and, Bool.and_true, xor_f, xor_t]
        refine ⟨by decide, by rw [sl_eq]; omega, _, _, _, rfl, fun a ha => ?_, by rw [List.length_append]; simp; omega⟩
        rcases List.mem_append.mp ha with h | h
        · exact has a h
        · rw [List.mem_singleton.mp h]
          refine .numbers net n m _ ok hn ⟨hm0, hm1⟩ (asc.filter _) fun y => ?_
          rw [List.mem_filter, hth]
          simp only [decide_eq_true_eq]
          constructor
          · rintro ⟨⟨_, a⟩, b⟩; exact ⟨a, b⟩
          · rintro ⟨a, b⟩
            have := a.bd ok hn.1 (by omega)
            exact ⟨⟨by omega, a⟩, b⟩
    · rintro δ ⟨as, s7, s11, rfl, has, hal⟩
      exact hx _ ⟨as, s7, s11, rfl, has, by simpa using hal⟩
  rintro δ ⟨as, s7, s11, rfl, has, hal⟩
  unfold AW
  have hth3 : ∀ y ∈ th, 0 ≤ y ∧ y ≤ 300 := fun y hy => ((hth y).mp hy).1
  have thM : th.map PyData.int ≠ [] := fun z => hne (List.map_eq_nil_iff.mp z)
  have inM : ∀ {l : List Int}, (∀ y ∈ l, 0 ≤ y ∧ y ≤ 300) → ∀ x ∈ l.map PyData.int, ∃ y, x = .int y ∧ 0 ≤ y ∧ y ≤ 300 := fun {l} h x hx => by
    obtain ⟨y, hy, rfl⟩ := List.mem_map.mp hx
    exact ⟨y, rfl, h y hy⟩
  refine fseq_join (fun δ => ∃ ps : List Int, δ = AW net n fs (.sh (.list (th.map PyData.int))) (.ow (.list (ot.map PyData.int))) (.ow (.list as)) s7 (.ow (.list (ps.map PyData.int))) .no .no s11 .no .no .no .no ∧ (∀ y ∈ ps, 0 ≤ y ∧ y ≤ 300) ∧ ps.length ≤ 8) (fun nx hx => ?_) ?_
  · simp only [fRet, fRet.stabR, fTuple, fB, g1, gTuple, gList, fList, fIx, f2R, gIx, fVar, fC, fCons, fNil, fTup, fLst, rCons, rNil, fSet, fAsg, tgName, tgTup, tgCons, tgNil, fYes, fAnd, fOr, fNot, fTest, boolW, gLt, gLe, gGt, gGe, gB2, f2, gI2, gI2C, fAdd, gAdd, fSub, fMul, gMul, fMod, fDiv, fPow, fNeg, f1, gNeg, fIfE, fAndV, fOrV, fNotV, fCall, fCallB, fCallBN, fCallN, fCallK, stab, Res.d, intW, fLen, gLen, fAbs, fInt, fMax2, fMin2, fMax3, gI1, gI2a, gI3a, fiSeq, gSeq, fiRng1, fiRng2, fiEnum, gEnum, fiRev, gRev, fiZip, gZip, fDrop, fNext, fBreak, fCont, fRetN, fShare, unown, fPar, parW, fPut, subW, fApp, appW, isOwL, fExt, extW, fSorted, gSorted, fListRg1, fListRev, fListKeys, fGet2, dictW, fDct0, fDct1, fRepr, gRepr, fAny, fAll, gBools, fSum, gSum, fMaxL, gMaxL, fMinL, gMinL, fChain, fSl, gSl, fPart, fNoP, fBagW, fBagI, fBagS, fBagIf, fScr, fBag, fBag2, nnW, wipeD, Res.ok, endsP, DL.endsL, endsO, gt0, gt1, gt2, gt3, gt4, gt5, gt6, gt7, gt8, gt9, gt10, gt11, gt12, gt13, gt14, gt15, st0, st1, st2, st3, st4, st5, st6, st7, st8, st9, st10, st11, st12, st13, st14, st15, Option.some.injEq, exists_eq_left', exists_eq_left, atI_zero, atI_one, atI_two, List.map_cons, List.map_nil, List.length_cons, List.length_nil, true_and, and_true, List.length_set, Bool.true_and, Bool.and_true, xor_f, xor_t]
    obtain ⟨x1, hx1, e1⟩ := atI_first thM
    obtain ⟨x2, hx2, e2⟩ := atI_last thM
    obtain ⟨y1, rfl, hy1⟩ := inM hth3 x1 hx1
    obtain ⟨y2, rfl, hy2⟩ := inM hth3 x2 hx2
    refine ⟨_, e1, _, e2, th.map PyData.int, .inl rfl, thM, by rw [List.length_map]; omega, fun x3 hx3 => ?_⟩
    obtain ⟨y3, rfl, hy3⟩ := inM hth3 x3 hx3
    refine ⟨300, rfl, by decide, by decide, fun y4 h40 h41 => ⟨301, rfl, by decide, by decide, fun y5 h50 h51 => ?_⟩⟩
    refine ⟨by decide, by decide, hx _ ⟨[n, 0, 300, y1, y2, y3, y4, y5], rfl, fun y hy => ?_, by simp⟩⟩
    simp at hy
    omega
  rintro δ ⟨ps, rfl, hps, hpl⟩
  unfold AW
  refine fseq_join (fun δ => ∃ ps : List Int, δ = AW net n fs (.sh (.list (th.map PyData.int))) (.ow (.list (ot.map PyData.int))) (.ow (.list as)) s7 (.ow (.list (ps.map PyData.int))) .no .no s11 .no .no .no .no ∧ (∀ y ∈ ps, 0 ≤ y ∧ y ≤ 300) ∧ ps.length ≤ 21) (fun nx hx => ?_) ?_
  · refine fif_run ?_
    simp only [fRet, fRet.stabR, fTuple, fB, g1, gTuple, gList, fList, fIx, f2R, gIx, fVar, fC, fCons, fNil, fTup, fLst, rCons, rNil, fSet, fAsg, tgName, tgTup, tgCons, tgNil, fYes, fAnd, fOr, fNot, fTest, boolW, gLt, gLe, gGt, gGe, gB2, f2, gI2, gI2C, fAdd, gAdd, fSub, fMul, gMul, fMod, fDiv, fPow, fNeg, f1, gNeg, fIfE, fAndV, fOrV, fNotV, fCall, fCallB, fCallBN, fCallN, fCallK, stab, Res.d, intW, fLen, gLen, fAbs, fInt, fMax2, fMin2, fMax3, gI1, gI2a, gI3a, fiSeq, gSeq, fiRng1, fiRng2, fiEnum, gEnum, fiRev, gRev, fiZip, gZip, fDrop, fNext, fBreak, fCont, fRetN, fShare, unown, fPar, parW, fPut, subW, fApp, appW, isOwL, fExt, extW, fSorted, gSorted, fListRg1, fListRev, fListKeys, fGet2, dictW, fDct0, fDct1, fRepr, gRepr, fAny, fAll, gBools, fSum, gSum, fMaxL, gMaxL, fMinL, gMinL, fChain, fSl, gSl, fPart, fNoP, fBagW, fBagI, fBagS, fBagIf, fScr, fBag, fBag2, nnW, wipeD, Res.ok, endsP, DL.endsL, endsO, gt0, gt1, gt2, gt3, gt4, gt5, gt6, gt7, gt8, gt9, gt10, gt11, gt12, gt13, gt14, gt15, st0, st1, st2, st3, st4, st5, st6, st7, st8, st9, st10, st11, st12, st13, st14, st15, Option.some.injEq, exists_eq_left', exists_eq_left, atI_zero, atI_one, atI_two, List.map_cons, List.map_nil, List.length_cons, List.length_nil, true_and, and_true, List.length_set, Bool.true_and, Bool.and_true, xor_f, xor_t]
    by_cases e : n < 11
    · refine iteT' (decide_eq_true e) ⟨⟨_, rfl⟩, ⟨by decide, by decide, by decide, by decide, by decide⟩, ?_⟩
      rw [show rgD 0 13 = ((List.range 13).map fun k : Nat => (k : Int)).map PyData.int from rfl]
      simp only [fRet, fRet.stabR, fTuple, fB, g1, gTuple, gList, fList, fIx, f2R, gIx, fVar, fC, fCons, fNil, fTup, fLst, rCons, rNil, fSet, fAsg, tgName, tgTup, tgCons, tgNil, fYes, fAnd, fOr, fNot, fTest, boolW, gLt, gLe, gGt, gGe, gB2, f2, gI2, gI2C, fAdd, gAdd, fSub, fMul, gMul, fMod, fDiv, fPow, fNeg, f1, gNeg, fIfE, fAndV, fOrV, fNotV, fCall, fCallB, fCallBN, fCallN, fCallK, stab, Res.d, intW, fLen, gLen, fAbs, fInt, fMax2, fMin2, fMax3, gI1, gI2a, gI3a, fiSeq, gSeq, fiRng1, fiRng2, fiEnum, gEnum, fiRev, gRev, fiZip, gZip, fDrop, fNext, fBreak, fCont, fRetN, fShare, unown, fPar, parW, fPut, subW, fApp, appW, isOwL, fExt, extW, fSorted, gSorted, fListRg1, fListRev, fListKeys, fGet2, dictW, fDct0, fDct1, fRepr, gRepr, fAny, fAll, gBools, fSum, gSum, fMaxL, gMaxL, fMinL, gMinL, fChain, fSl, gSl, fPart, fNoP, fBagW, fBagI, fBagS, fBagIf, fScr, fBag, fBag2, nnW, wipeD, Res.ok, endsP, DL.endsL, endsO, gt0, gt1, gt2, gt3, gt4, gt5, gt6, gt7, gt8, gt9, gt10, gt11, gt12, gt13, gt14, gt15, st0, st1, st2, st3, st4, st5, st6, st7, st8, st9, st10, st11, st12, st13, st14, st15, Option.some.injEq, exists_eq_left', exists_eq_left, atI_zero, atI_one, atI_two, List.map_cons, List.map_nil, List.length_cons, List.length_nil, true_and, and_true, List.length_set, Bool.true_and, Bool.and_true, xor_f, xor_t, List.length_map]
      refine ⟨by rw [sl_eq, List.length_range]; omega, hx _ ⟨ps ++ (List.range 13).map fun k : Nat => (k : Int), by rw [List.map_append]; rfl, fun y hy => ?_, by rw [List.length_append, List.length_map, List.length_range]; omega⟩⟩
      rcases List.mem_append.mp hy with h | h
      · exact hps y h
      · obtain ⟨k, hk, rfl⟩ := List.mem_map.mp h
        have := List.mem_range.mp hk
        omega
    · exact iteF' (decide_eq_false e) (hx _ ⟨ps, rfl, hps, by omega⟩)
  clear hps hpl ps
  rintro δ ⟨ps, rfl, hps, hpl⟩
  unfold AW
  refine fseq_join (fun δ => ∃ (ps : List Int) (s5 : Slot), δ = AW net n fs (.sh (.list (th.map PyData.int))) s5 (.ow (.list as)) s7 (.ow (.list (ps.map PyData.int))) .no .no s11 .no .no .no .no ∧ (∀ y ∈ ps, 0 ≤ y ∧ y ≤ 300) ∧ ps.length ≤ 24) (fun nx hx => ?_) ?_
  · refine fif_run ?_
    simp only [fRet, fRet.stabR, fTuple, fB, g1, gTuple, gList, fList, fIx, f2R, gIx, fVar, fC, fCons, fNil, fTup, fLst, rCons, rNil, fSet, fAsg, tgName, tgTup, tgCons, tgNil, fYes, fAnd, fOr, fNot, fTest, boolW, gLt, gLe, gGt, gGe, gB2, f2, gI2, gI2C, fAdd, gAdd, fSub, fMul, gMul, fMod, fDiv, fPow, fNeg, f1, gNeg, fIfE, fAndV, fOrV, fNotV, fCall, fCallB, fCallBN, fCallN, fCallK, stab, Res.d, intW, fLen, gLen, fAbs, fInt, fMax2, fMin2, fMax3, gI1, gI2a, gI3a, fiSeq, gSeq, fiRng1, fiRng2, fiEnum, gEnum, fiRev, gRev, fiZip, gZip, fDrop, fNext, fBreak, fCont, fRetN, fShare, unown, fPar, parW, fPut, subW, fApp, appW, isOwL, fExt, extW, fSorted, gSorted, fListRg1, fListRev, fListKeys, fGet2, dictW, fDct0, fDct1, fRepr, gRepr, fAny, fAll, gBools, fSum, gSum, fMaxL, gMaxL, fMinL, gMinL, fChain, fSl, gSl, fPart, fNoP, fBagW, fBagI, fBagS, fBagIf, fScr, fBag, fBag2, nnW, wipeD, Res.ok, endsP, DL.endsL, endsO, gt0, gt1, gt2, gt3, gt4, gt5, gt6, gt7, gt8, gt9, gt10, gt11, gt12, gt13, gt14, gt15, st0, st1, st2, st3, st4, st5, st6, st7, st8, st9, st10, st11, st12, st13, st14, st15, Option.some.injEq, exists_eq_left', exists_eq_left, atI_zero, atI_one, atI_two, List.map_cons, List.map_nil, List.length_cons, List.length_nil, true_and, and_true, List.length_set, Bool.true_and, Bool.and_true, xor_f, xor_t]
    refine ⟨by decide, gNe_nil ?_⟩
    by_cases e : ot = []
    · subst e
      exact iteF' rfl (hx _ ⟨ps, _, rfl, hps, by omega⟩)
    · have otM : ot.map PyData.int ≠ [] := fun z => e (List.map_eq_nil_iff.mp z)
      refine iteT' (by cases ot with
        | nil => exact absurd rfl e
        | cons a l => rfl) ⟨⟨_, rfl⟩, ?_⟩
      obtain ⟨x1, hx1, e1⟩ := atI_first otM
      obtain ⟨x2, hx2, e2⟩ := atI_last otM
      obtain ⟨y1, rfl, hy1⟩ := inM hot x1 hx1
      obtain ⟨y2, rfl, hy2⟩ := inM hot x2 hx2
      refine ⟨_, e1, _, e2, ot.map PyData.int, .inl rfl, otM, by rw [List.length_map]; omega, fun x3 hx3 => ?_⟩
      obtain ⟨y3, rfl, hy3⟩ := inM hot x3 hx3
      simp only [fRet, fRet.stabR, fTuple, fB, g1, gTuple, gList, fList, fIx, f2R, gIx, fVar, fC, fCons, fNil, fTup, fLst, rCons, rNil, fSet, fAsg, tgName, tgTup, tgCons, tgNil, fYes, fAnd, fOr, fNot, fTest, boolW, gLt, gLe, gGt, gGe, gB2, f2, gI2, gI2C, fAdd, gAdd, fSub, fMul, gMul, fMod, fDiv, fPow, fNeg, f1, gNeg, fIfE, fAndV, fOrV, fNotV, fCall, fCallB, fCallBN, fCallN, fCallK, stab, Res.d, intW, fLen, gLen, fAbs, fInt, fMax2, fMin2, fMax3, gI1, gI2a, gI3a, fiSeq, gSeq, fiRng1, fiRng2, fiEnum, gEnum, fiRev, gRev, fiZip, gZip, fDrop, fNext, fBreak, fCont, fRetN, fShare, unown, fPar, parW, fPut, subW, fApp, appW, isOwL, fExt, extW, fSorted, gSorted, fListRg1, fListRev, fListKeys, fGet2, dictW, fDct0, fDct1, fRepr, gRepr, fAny, fAll, gBools, fSum, gSum, fMaxL, gMaxL, fMinL, gMinL, fChain, fSl, gSl, fPart, fNoP, fBagW, fBagI, fBagS, fBagIf, fScr, fBag, fBag2, nnW, wipeD, Res.ok, endsP, DL.endsL, endsO, gt0, gt1, gt2, gt3, gt4, gt5, gt6, gt7, gt8, gt9, gt10, gt11, gt12, gt13, gt14, gt15, st0, st1, st2, st3, st4, st5, st6, st7, st8, st9, st10, st11, st12, st13, st14, st15, Option.some.injEq, exists_eq_left', exists_eq_left, atI_zero, atI_one, atI_two, List.map_cons, List.map_nil, List.length_cons, List.length_nil, true_and, and_true, List.length_set, Bool.true_and, Bool.and_true, xor_f, xor_t, List.length_map]
      refine ⟨by decide, by rw [sl_eq]; omega, hx _ ⟨ps ++ [y1, y2, y3], _, by rw [List.map_append]; rfl, fun y hy => ?_, by rw [List.length_append]; simp; omega⟩⟩
      rcases List.mem_append.mp hy with h | h
      · exact hps y h
      · simp at h; omega
  clear hps hpl ps
  rintro δ ⟨ps, s5, rfl, hps, hpl⟩
  unfold AW
  refine fseq_join (fun δ => ∃ (as : List D) (s8 s14 : Slot), δ = AW net n fs (.sh (.list (th.map PyData.int))) s5 (.ow (.list as)) s7 s8 .no .no s11 .no .no s14 .no ∧ (∀ a ∈ as, AskOk a) ∧ as.length ≤ 28) (fun nx hx => ?_) ?_
  · simp only [fRet, fRet.stabR, fTuple, fB, g1, gTuple, gList, fList, fIx, f2R, gIx, fVar, fC, fCons, fNil, fTup, fLst, rCons, rNil, fSet, fAsg, tgName, tgTup, tgCons, tgNil, fYes, fAnd, fOr, fNot, fTest, boolW, gLt, gLe, gGt, gGe, gB2, f2, gI2, gI2C, fAdd, gAdd, fSub, fMul, gMul, fMod, fDiv, fPow, fNeg, f1, gNeg, fIfE, fAndV, fOrV, fNotV, fCall, fCallB, fCallBN, fCallN, fCallK, stab, Res.d, intW, fLen, gLen, fAbs, fInt, fMax2, fMin2, fMax3, gI1, gI2a, gI3a, fiSeq, gSeq, fiRng1, fiRng2, fiEnum, gEnum, fiRev, gRev, fiZip, gZip, fDrop, fNext, fBreak, fCont, fRetN, fShare, unown, fPar, parW, fPut, subW, fApp, appW, isOwL, fExt, extW, fSorted, gSorted, fListRg1, fListRev, fListKeys, fGet2, dictW, fDct0, fDct1, fRepr, gRepr, fAny, fAll, gBools, fSum, gSum, fMaxL, gMaxL, fMinL, gMinL, fChain, fSl, gSl, fPart, fNoP, fBagW, fBagI, fBagS, fBagIf, fScr, fBag, fBag2, nnW, wipeD, Res.ok, endsP, DL.endsL, endsO, gt0, gt1, gt2, gt3, gt4, gt5, gt6, gt7, gt8, gt9, gt10, gt11, gt12, gt13, gt14, gt15, st0, st1, st2, st3, st4, st5, st6, st7, st8, st9, st10, st11, st12, st13, st14, st15, Option.some.injEq, exists_eq_left', exists_eq_left, atI_zero, atI_one, atI_two, List.map_cons, List.map_nil, List.length_cons, List.length_nil, true_and, and_true, List.length_set, Bool.true_and, Bool.and_true, xor_f, xor_t]
    refine ⟨⟨_, rfl⟩, ?_⟩
    refine flc_mapX ps PyData.int (fun y => .tuple [.str "comes", .tuple [netD net, .int n, .int y], .bool (isS fs y.toNat)]) (fun R hR => by simp only [fRet, fRet.stabR, fTuple, fB, g1, gTuple, gList, fList, fIx, f2R, gIx, fVar, fC, fCons, fNil, fTup, fLst, rCons, rNil, fSet, fAsg, tgName, tgTup, tgCons, tgNil, fYes, fAnd, fOr, fNot, fTest, boolW, gLt, gLe, gGt, gGe, gB2, f2, gI2, gI2C, fAdd, gAdd, fSub, fMul, gMul, fMod, fDiv, fPow, fNeg, f1, gNeg, fIfE, fAndV, fOrV, fNotV, fCall, fCallB, fCallBN, fCallN, fCallK, stab, Res.d, intW, fLen, gLen, fAbs, fInt, fMax2, fMin2, fMax3, gI1, gI2a, gI3a, fiSeq, gSeq, fiRng1, fiRng2, fiEnum, gEnum, fiRev, gRev, fiZip, gZip, fDrop, fNext, fBreak, fCont, fRetN, fShare, unown, fPar, parW, fPut, subW, fApp, appW, isOwL, fExt, extW, fSorted, gSorted, fListRg1, fListRev, fListKeys, fGet2, dictW, fDct0, fDct1, fRepr, gRepr, fAny, fAll, gBools, fSum, gSum, fMaxL, gMaxL, fMinL, gMinL, fChain, fSl, gSl, fPart, fNoP, fBagW, fBagI, fBagS, fBagIf, fScr, fBag, fBag2, nnW, wipeD, Res.ok, endsP, DL.endsL, endsO, gt0, gt1, gt2, gt3, gt4, gt5, gt6, gt7, gt8, gt9, gt10, gt11, gt12, gt13, gt14, gt15, st0, st1, st2, st3, st4, st5, st6, st7, st8, st9, st10, st11, st12, st13, st14, st15, Option.some.injEq, exists_eq_left', exists_eq_left, atI_zero, atI_one, atI_two, List.map_cons, List.map_nil, List.length_cons, List.length_nil, true_and, and_true, List.length_set, Bool.true_and, Bool.and_true, xor_f, xor_t]; exact hR _) (by rw [sl_eq]; omega) (fun y hy K k => ?_) ?_
    · have hb := hps y hy
      have hk : y.toNat < fs.length := by omega
      have ey : ((y.toNat : Nat) : Int) = y := by omega
      have e := seen hk
      rw [ey] at e
      simp only [fRet, fRet.stabR, fTuple, fB, g1, gTuple, gList, fList, fIx, f2R, gIx, fVar, fC, fCons, fNil, fTup, fLst, rCons, rNil, fSet, fAsg, tgName, tgTup, tgCons, tgNil, fYes, fAnd, fOr, fNot, fTest, boolW, gLt, gLe, gGt, gGe, gB2, f2, gI2, gI2C, fAdd, gAdd, fSub, fMul, gMul, fMod, fDiv, fPow, fNeg, f1, gNeg, fIfE, fAndV, fOrV, fNotV, fCall, fCallB, fCallBN, fCallN, fCallK, stab, Res.d, intW, fLen, gLen, fAbs, fInt, fMax2, fMin2, fMax3, gI1, gI2a, gI3a, fiSeq, gSeq, fiRng1, fiRng2, fiEnum, gEnum, fiRev, gRev, fiZip, gZip, fDrop, fNext, fBreak, fCont, fRetN, fShare, unown, fPar, parW, fPut, subW, fApp, appW, isOwL, fExt, extW, fSorted, gSorted, fListRg1, fListRev, fListKeys, fGet2, dictW, fDct0, fDct1, fRepr, gRepr, fAny, fAll, gBools, fSum, gSum, fMaxL, gMaxL, fMinL, gMinL, fChain, fSl, gSl, fPart, fNoP, fBagW, fBagI, fBagS, fBagIf, fScr, fBag, fBag2, nnW, wipeD, Res.ok, endsP, DL.endsL, endsO, gt0, gt1, gt2, gt3, gt4, gt5, gt6, gt7, gt8, gt9, gt10, gt11, gt12, gt13, gt14, gt15, st0, st1, st2, st3, st4, st5, st6, st7, st8, st9, st10, st11, st12, st13, st14, st15, Option.some.injEq, exists_eq_left', exists_eq_left, atI_zero, atI_one, atI_two, List.map_cons, List.map_nil, List.length_cons, List.length_nil, true_and, and_true, List.length_set, Bool.true_and, Bool.and_true, xor_f, xor_t, e]
      refine ⟨by decide, by decide, rfl, ?_⟩
      rw [isN_opt hk, Bool.not_not]
      exact ⟨by decide, k⟩
    · simp only [fRet, fRet.stabR, fTuple, fB, g1, gTuple, gList, fList, fIx, f2R, gIx, fVar, fC, fCons, fNil, fTup, fLst, rCons, rNil, fSet, fAsg, tgName, tgTup, tgCons, tgNil, fYes, fAnd, fOr, fNot, fTest, boolW, gLt, gLe, gGt, gGe, gB2, f2, gI2, gI2C, fAdd, gAdd, fSub, fMul, gMul, fMod, fDiv, fPow, fNeg, f1, gNeg, fIfE, fAndV, fOrV, fNotV, fCall, fCallB, fCallBN, fCallN, fCallK, stab, Res.d, intW, fLen, gLen, fAbs, fInt, fMax2, fMin2, fMax3, gI1, gI2a, gI3a, fiSeq, gSeq, fiRng1, fiRng2, fiEnum, gEnum, fiRev, gRev, fiZip, gZip, fDrop, fNext, fBreak, fCont, fRetN, fShare, unown, fPar, parW, fPut, subW, fApp, appW, isOwL, fExt, extW, fSorted, gSorted, fListRg1, fListRev, fListKeys, fGet2, dictW, fDct0, fDct1, fRepr, gRepr, fAny, fAll, gBools, fSum, gSum, fMaxL, gMaxL, fMinL, gMinL, fChain, fSl, gSl, fPart, fNoP, fBagW, fBagI, fBagS, fBagIf, fScr, fBag, fBag2, nnW, wipeD, Res.ok, endsP, DL.endsL, endsO, gt0, gt1, gt2, gt3, gt4, gt5, gt6, gt7, gt8, gt9, gt10, gt11, gt12, gt13, gt14, gt15, st0, st1, st2, st3, st4, st5, st6, st7, st8, st9, st10, st11, st12, st13, st14, st15, Option.some.injEq, exists_eq_left', exists_eq_left, atI_zero, atI_one, atI_two, List.map_cons, List.map_nil, List.length_cons, List.length_nil, true_and, and_true, List.length_set, Bool.true_and, Bool.and_true, xor_f, xor_t, List.length_map]
      refine ⟨by rw [sl_eq]; omega, hx _ ⟨_, _, _, rfl, fun a ha => ?_, by rw [List.length_append, List.length_map]; omega⟩⟩
      rcases List.mem_append.mp ha with h | h
      · exact has a h
      · obtain ⟨y, hy, rfl⟩ := List.mem_map.mp h
        have hb := hps y hy
        exact .comes net n y _ ok hn hb (isS_iff.trans (hf y hb.1 (by omega)))
  clear hps hpl ps has hal as
  rintro δ ⟨as, s8, s14, rfl, has, hal⟩
  unfold AW
  let ri : List Int := (net.filter fun s => decide (s.1 < s.2)).map (·.1)
  have eri : (net.filter fun s => decide (s.1 < s.2)).map (fun s => PyData.int s.1) = ri.map PyData.int := by
    show _ = ((net.filter fun s => decide (s.1 < s.2)).map (·.1)).map PyData.int
    rw [List.map_map]; rfl
  have hri : ∀ y ∈ ri, 0 ≤ y ∧ y ≤ 9 := fun y hy => by
    obtain ⟨s, hs, rfl⟩ := List.mem_map.mp hy
    exact (ok.2 s (List.mem_filter.mp hs).1).1
  clear_value ri
  refine fseq_join (fun δ => ∃ (s15 : Slot), δ = AW net n fs (.sh (.list (th.map PyData.int))) s5 (.ow (.list as)) s7 s8 (.ow (.list (ri.map PyData.int))) .no s11 .no .no s14 s15) (fun nx hx => ?_) ?_
  · simp only [fRet, fRet.stabR, fTuple, fB, g1, gTuple, gList, fList, fIx, f2R, gIx, fVar, fC, fCons, fNil, fTup, fLst, rCons, rNil, fSet, fAsg, tgName, tgTup, tgCons, tgNil, fYes, fAnd, fOr, fNot, fTest, boolW, gLt, gLe, gGt, gGe, gB2, f2, gI2, gI2C, fAdd, gAdd, fSub, fMul, gMul, fMod, fDiv, fPow, fNeg, f1, gNeg, fIfE, fAndV, fOrV, fNotV, fCall, fCallB, fCallBN, fCallN, fCallK, stab, Res.d, intW, fLen, gLen, fAbs, fInt, fMax2, fMin2, fMax3, gI1, gI2a, gI3a, fiSeq, gSeq, fiRng1, fiRng2, fiEnum, gEnum, fiRev, gRev, fiZip, gZip, fDrop, fNext, fBreak, fCont, fRetN, fShare, unown, fPar, parW, fPut, subW, fApp, appW, isOwL, fExt, extW, fSorted, gSorted, fListRg1, fListRev, fListKeys, fGet2, dictW, fDct0, fDct1, fRepr, gRepr, fAny, fAll, gBools, fSum, gSum, fMaxL, gMaxL, fMinL, gMinL, fChain, fSl, gSl, fPart, fNoP, fBagW, fBagI, fBagS, fBagIf, fScr, fBag, fBag2, nnW, wipeD, Res.ok, endsP, DL.endsL, endsO, gt0, gt1, gt2, gt3, gt4, gt5, gt6, gt7, gt8, gt9, gt10, gt11, gt12, gt13, gt14, gt15, st0, st1, st2, st3, st4, st5, st6, st7, st8, st9, st10, st11, st12, st13, st14, st15, Option.some.injEq, exists_eq_left', exists_eq_left, atI_zero, atI_one, atI_two, List.map_cons, List.map_nil, List.length_cons, List.length_nil, true_and, and_true, List.length_set, Bool.true_and, Bool.and_true, xor_f, xor_t]
    refine flc_filter net stD (fun s => decide (s.1 < s.2)) (fun s => .int s.1) (fun R hR => by simp only [fRet, fRet.stabR, fTuple, fB, g1, gTuple, gList, fList, fIx, f2R, gIx, fVar, fC, fCons, fNil, fTup, fLst, rCons, rNil, fSet, fAsg, tgName, tgTup, tgCons, tgNil, fYes, fAnd, fOr, fNot, fTest, boolW, gLt, gLe, gGt, gGe, gB2, f2, gI2, gI2C, fAdd, gAdd, fSub, fMul, gMul, fMod, fDiv, fPow, fNeg, f1, gNeg, fIfE, fAndV, fOrV, fNotV, fCall, fCallB, fCallBN, fCallN, fCallK, stab, Res.d, intW, fLen, gLen, fAbs, fInt, fMax2, fMin2, fMax3, gI1, gI2a, gI3a, fiSeq, gSeq, fiRng1, fiRng2, fiEnum, gEnum, fiRev, gRev, fiZip, gZip, fDrop, fNext, fBreak, fCont, fRetN, fShare, unown, fPar, parW, fPut, subW, fApp, appW, isOwL, fExt, extW, fSorted, gSorted, fListRg1, fListRev, fListKeys, fGet2, dictW, fDct0, fDct1, fRepr, gRepr, fAny, fAll, gBools, fSum, gSum, fMaxL, gMaxL, fMinL, gMinL, fChain, fSl, gSl, fPart, fNoP, fBagW, fBagI, fBagS, fBagIf, fScr, fBag, fBag2, nnW, wipeD, Res.ok, endsP, DL.endsL, endsO, gt0, gt1, gt2, gt3, gt4, gt5, gt6, gt7, gt8, gt9, gt10, gt11, gt12, gt13, gt14, gt15, st0, st1, st2, st3, st4, st5, st6, st7, st8, st9, st10, st11, st12, st13, st14, st15, Option.some.injEq, exists_eq_left', exists_eq_left, atI_zero, atI_one, atI_two, List.map_cons, List.map_nil, List.length_cons, List.length_nil, true_and, and_true, List.length_set, Bool.true_and, Bool.and_true, xor_f, xor_t, netD]; exact hR _) (by have := ok.1; rw [sl_eq]; omega) (fun s hs K k1 k2 => ?_) ?_
    · unfold stD
      simp only [fRet, fRet.stabR, fTuple, fB, g1, gTuple, gList, fList, fIx, f2R, gIx, fVar, fC, fCons, fNil, fTup, fLst, rCons, rNil, fSet, fAsg, tgName, tgTup, tgCons, tgNil, fYes, fAnd, fOr, fNot, fTest, boolW, gLt, gLe, gGt, gGe, gB2, f2, gI2, gI2C, fAdd, gAdd, fSub, fMul, gMul, fMod, fDiv, fPow, fNeg, f1, gNeg, fIfE, fAndV, fOrV, fNotV, fCall, fCallB, fCallBN, fCallN, fCallK, stab, Res.d, intW, fLen, gLen, fAbs, fInt, fMax2, fMin2, fMax3, gI1, gI2a, gI3a, fiSeq, gSeq, fiRng1, fiRng2, fiEnum, gEnum, fiRev, gRev, fiZip, gZip, fDrop, fNext, fBreak, fCont, fRetN, fShare, unown, fPar, parW, fPut, subW, fApp, appW, isOwL, fExt, extW, fSorted, gSorted, fListRg1, fListRev, fListKeys, fGet2, dictW, fDct0, fDct1, fRepr, gRepr, fAny, fAll, gBools, fSum, gSum, fMaxL, gMaxL, fMinL, gMinL, fChain, fSl, gSl, fPart, fNoP, fBagW, fBagI, fBagS, fBagIf, fScr, fBag, fBag2, nnW, wipeD, Res.ok, endsP, DL.endsL, endsO, gt0, gt1, gt2, gt3, gt4, gt5, gt6, gt7, gt8, gt9, gt10, gt11, gt12, gt13, gt14, gt15, st0, st1, st2, st3, st4, st5, st6, st7, st8, st9, st10, st11, st12, st13, st14, st15, Option.some.injEq, exists_eq_left', exists_eq_left, atI_zero, atI_one, atI_two, List.map_cons, List.map_nil, List.length_cons, List.length_nil, true_and, and_true, List.length_set, Bool.true_and, Bool.and_true, xor_f, xor_t]
      refine ⟨by decide, ?_⟩
      by_cases e : s.1 < s.2
      · exact iteT' (decide_eq_true e) (k1 (decide_eq_true e))
      · exact iteF' (decide_eq_false e) (k2 (decide_eq_false e))
    · rw [eri]
      simp only [fRet, fRet.stabR, fTuple, fB, g1, gTuple, gList, fList, fIx, f2R, gIx, fVar, fC, fCons, fNil, fTup, fLst, rCons, rNil, fSet, fAsg, tgName, tgTup, tgCons, tgNil, fYes, fAnd, fOr, fNot, fTest, boolW, gLt, gLe, gGt, gGe, gB2, f2, gI2, gI2C, fAdd, gAdd, fSub, fMul, gMul, fMod, fDiv, fPow, fNeg, f1, gNeg, fIfE, fAndV, fOrV, fNotV, fCall, fCallB, fCallBN, fCallN, fCallK, stab, Res.d, intW, fLen, gLen, fAbs, fInt, fMax2, fMin2, fMax3, gI1, gI2a, gI3a, fiSeq, gSeq, fiRng1, fiRng2, fiEnum, gEnum, fiRev, gRev, fiZip, gZip, fDrop, fNext, fBreak, fCont, fRetN, fShare, unown, fPar, parW, fPut, subW, fApp, appW, isOwL, fExt, extW, fSorted, gSorted, fListRg1, fListRev, fListKeys, fGet2, dictW, fDct0, fDct1, fRepr, gRepr, fAny, fAll, gBools, fSum, gSum, fMaxL, gMaxL, fMinL, gMinL, fChain, fSl, gSl, fPart, fNoP, fBagW, fBagI, fBagS, fBagIf, fScr, fBag, fBag2, nnW, wipeD, Res.ok, endsP, DL.endsL, endsO, gt0, gt1, gt2, gt3, gt4, gt5, gt6, gt7, gt8, gt9, gt10, gt11, gt12, gt13, gt14, gt15, st0, st1, st2, st3, st4, st5, st6, st7, st8, st9, st10, st11, st12, st13, st14, st15, Option.some.injEq, exists_eq_left', exists_eq_left, atI_zero, atI_one, atI_two, List.map_cons, List.map_nil, List.length_cons, List.length_nil, true_and, and_true, List.length_set, Bool.true_and, Bool.and_true, xor_f, xor_t]
      exact ⟨by decide, hx _ ⟨_, rfl⟩⟩
  rintro δ ⟨s15, rfl⟩
  unfold AW
  refine fseq_join (fun δ => ∃ (le : Int), δ = AW net n fs (.sh (.list (th.map PyData.int))) s5 (.ow (.list as)) s7 s8 (.ow (.list (ri.map PyData.int))) (.sh (.int le)) s11 .no .no s14 s15 ∧ 0 ≤ le ∧ le ≤ 9) (fun nx hx => ?_) ?_
  · simp only [fRet, fRet.stabR, fTuple, fB, g1, gTuple, gList, fList, fIx, f2R, gIx, fVar, fC, fCons, fNil, fTup, fLst, rCons, rNil, fSet, fAsg, tgName, tgTup, tgCons, tgNil, fYes, fAnd, fOr, fNot, fTest, boolW, gLt, gLe, gGt, gGe, gB2, f2, gI2, gI2C, fAdd, gAdd, fSub, fMul, gMul, fMod, fDiv, fPow, fNeg, f1, gNeg, fIfE, fAndV, fOrV, fNotV, fCall, fCallB, fCallBN, fCallN, fCallK, stab, Res.d, intW, fLen, gLen, fAbs, fInt, fMax2, fMin2, fMax3, gI1, gI2a, gI3a, fiSeq, gSeq, fiRng1, fiRng2, fiEnum, gEnum, fiRev, gRev, fiZip, gZip, fDrop, fNext, fBreak, fCont, fRetN, fShare, unown, fPar, parW, fPut, subW, fApp, appW, isOwL, fExt, extW, fSorted, gSorted, fListRg1, fListRev, fListKeys, fGet2, dictW, fDct0, fDct1, fRepr, gRepr, fAny, fAll, gBools, fSum, gSum, fMaxL, gMaxL, fMinL, gMinL, fChain, fSl, gSl, fPart, fNoP, fBagW, fBagI, fBagS, fBagIf, fScr, fBag, fBag2, nnW, wipeD, Res.ok, endsP, DL.endsL, endsO, gt0, gt1, gt2, gt3, gt4, gt5, gt6, gt7, gt8, gt9, gt10, gt11, gt12, gt13, gt14, gt15, st0, st1, st2, st3, st4, st5, st6, st7, st8, st9, st10, st11, st12, st13, st14, st15, Option.some.injEq, exists_eq_left', exists_eq_left, atI_zero, atI_one, atI_two, List.map_cons, List.map_nil, List.length_cons, List.length_nil, true_and, and_true, List.length_set, Bool.true_and, Bool.and_true, xor_f, xor_t]
    refine ⟨by decide, gNe_nil ?_⟩
    by_cases e : ri = []
    · subst e
      exact iteF' rfl ⟨10, rfl, by decide, by decide, fun r h0 h1 => ⟨by decide, hx _ ⟨r, rfl, by omega, by omega⟩⟩⟩
    · refine iteT' (by cases ri with
        | nil => exact absurd rfl e
        | cons a l => rfl) ⟨ri, rfl, e, fun m hm _ => ⟨by decide, hx _ ⟨m, rfl, hri m hm⟩⟩⟩
  rintro δ ⟨le, rfl, hle⟩
  unfold AW
  refine fseq_join (fun δ => ∃ (as : List D) (s11 : Slot), δ = AW net n fs (.sh (.list (th.map PyData.int))) s5 (.ow (.list as)) s7 s8 (.ow (.list (ri.map PyData.int))) (.sh (.int le)) s11 .no .no s14 s15 ∧ (∀ a ∈ as, AskOk a) ∧ as.length ≤ 33) (fun nx hx => ?_) ?_
  · refine ffor_run [.int n, .int le, .int (max 0 (le - 1)), .int (le + 1), .int 300] (fun i δ => ∃ (as : List D) (s11 : Slot), δ = AW net n fs (.sh (.list (th.map PyData.int))) s5 (.ow (.list as)) s7 s8 (.ow (.list (ri.map PyData.int))) (.sh (.int le)) s11 .no .no s14 s15 ∧ (∀ a ∈ as, AskOk a) ∧ as.length ≤ 28 + i) (fun R hR => by simp only [fRet, fRet.stabR, fTuple, fB, g1, gTuple, gList, fList, fIx, f2R, gIx, fVar, fC, fCons, fNil, fTup, fLst, rCons, rNil, fSet, fAsg, tgName, tgTup, tgCons, tgNil, fYes, fAnd, fOr, fNot, fTest, boolW, gLt, gLe, gGt, gGe, gB2, f2, gI2, gI2C, fAdd, gAdd, fSub, fMul, gMul, fMod, fDiv, fPow, fNeg, f1, gNeg, fIfE, fAndV, fOrV, fNotV, fCall, fCallB, fCallBN, fCallN, fCallK, stab, Res.d, intW, fLen, gLen, fAbs, fInt, fMax2, fMin2, fMax3, gI1, gI2a, gI3a, fiSeq, gSeq, fiRng1, fiRng2, fiEnum, gEnum, fiRev, gRev, fiZip, gZip, fDrop, fNext, fBreak, fCont, fRetN, fShare, unown, fPar, parW, fPut, subW, fApp, appW, isOwL, fExt, extW, fSorted, gSorted, fListRg1, fListRev, fListKeys, fGet2, dictW, fDct0, fDct1, fRepr, gRepr, fAny, fAll, gBools, fSum, gSum, fMaxL, gMaxL, fMinL, gMinL, fChain, fSl, gSl, fPart, fNoP, fBagW, fBagI, fBagS, fBagIf, fScr, fBag, fBag2, nnW, wipeD, Res.ok, endsP, DL.endsL, endsO, gt0, gt1, gt2, gt3, gt4, gt5, gt6, gt7, gt8, gt9, gt10, gt11, gt12, gt13, gt14, gt15, st0, st1, st2, st3, st4, st5, st6, st7, st8, st9, st10, st11, st12, st13, st14, st15, Option.some.injEq, exists_eq_left', exists_eq_left, atI_zero, atI_one, atI_two, List.map_cons, List.map_nil, List.length_cons, List.length_nil, true_and, and_true, List.length_set, Bool.true_and, Bool.and_true, xor_f, xor_t, imax]; exact ⟨by decide, hR⟩) ⟨as, s11, rfl, has, by omega⟩ ?_ ?_
    · clear has hal as
      rintro i d δ hd ⟨as, s11, rfl, has, hal⟩
      have hil : i < 5 := by have := (List.getElem?_eq_some_iff.mp hd).1; simpa using this
      obtain ⟨m, rfl, hm0, hm1⟩ : ∃ m, d = .int m ∧ 0 ≤ m ∧ m ≤ 300 := by
        have := List.mem_of_getElem? hd
        simp at this
        rcases this with rfl | rfl | rfl | rfl | rfl
        · exact ⟨n, rfl, hn⟩
        · exact ⟨le, rfl, by omega, by omega⟩
        · exact ⟨max 0 (le - 1), rfl, by omega, by omega⟩
        · exact ⟨le + 1, rfl, by omega, by omega⟩
        · exact ⟨300, rfl, by omega, by omega⟩
      unfold AW
      simp only [fRet, fRet.stabR, fTuple, fB, g1, gTuple, gList, fList, fIx, f2R, gIx, fVar, fC, fCons, fNil, fTup, fLst, rCons, rNil, fSet, fAsg, tgName, tgTup, tgCons, tgNil, fYes, fAnd, fOr, fNot, fTest, boolW, gLt, gLe, gGt, gGe, gB2, f2, gI2, gI2C, fAdd, gAdd, fSub, fMul, gMul, fMod, fDiv, fPow, fNeg, f1, gNeg, fIfE, fAndV, fOrV, fNotV, fCall, fCallB, fCallBN, fCallN, fCallK, stab, Res.d, intW, fLen, gLen, fAbs, fInt, fMax2, fMin2, fMax3, gI1, gI2a, gI3a, fiSeq, gSeq, fiRng1, fiRng2, fiEnum, gEnum, fiRev, gRev, fiZip, gZip, fDrop, fNext, fBreak, fCont, fRetN, fShare, unown, fPar, parW, fPut, subW, fApp, appW, isOwL, fExt, extW, fSorted, gSorted, fListRg1, fListRev, fListKeys, fGet2, dictW, fDct0, fDct1, fRepr, gRepr, fAny, fAll, gBools, fSum, gSum, fMaxL, gMaxL, fMinL, gMinL, fChain, fSl, gSl, fPart, fNoP, fBagW, fBagI, fBagS, fBagIf, fScr, fBag, fBag2, nnW, wipeD, Res.ok, endsP, DL.endsL, endsO, gt0, gt1, gt2, gt3, gt4, gt5, gt6, gt7, gt8, gt9, gt10, gt11, gt12, gt13, gt14, gt15, st0, st1, st2, st3, st4, st5, st6, st7, st8, st9, st10, st11, st12, st13, st14, st15, Option.some.injEq, exists_eq_left', exists_eq_left, atI_zero, atI_one, atI_two, List.map_cons, List.map_nil, List.length_cons, List.length_nil, true_and, and_true, List.length_set, Bool.true_and, Bool.and_true, xor_f, xor_t]
      refine ⟨by decide, ⟨_, rfl⟩, by decide, net, m, rfl, ok, fun b hb => ?_⟩
      simp only [fRet, fRet.stabR, fTuple, fB, g1, gTuple, gList, fList, fIx, f2R, gIx, fVar, fC, fCons, fNil, fTup, fLst, rCons, rNil, fSet, fAsg, tgName, tgTup, tgCons, tgNil, fYes, fAnd, fOr, fNot, fTest, boolW, gLt, gLe, gGt, gGe, gB2, f2, gI2, gI2C, fAdd, gAdd, fSub, fMul, gMul, fMod, fDiv, fPow, fNeg, f1, gNeg, fIfE, fAndV, fOrV, fNotV, fCall, fCallB, fCallBN, fCallN, fCallK, stab, Res.d, intW, fLen, gLen, fAbs, fInt, fMax2, fMin2, fMax3, gI1, gI2a, gI3a, fiSeq, gSeq, fiRng1, fiRng2, fiEnum, gEnum, fiRev, gRev, fiZip, gZip, fDrop, fNext, fBreak, fCont, fRetN, fShare, unown, fPar, parW, fPut, subW, fApp, appW, isOwL, fExt, extW, fSorted, gSorted, fListRg1, fListRev, fListKeys, fGet2, dictW, fDct0, fDct1, fRepr, gRepr, fAny, fAll, gBools, fSum, gSum, fMaxL, gMaxL, fMinL, gMinL, fChain, fSl, gSl, fPart, fNoP, fBagW, fBagI, fBagS, fBagIf, fScr, fBag, fBag2, nnW, wipeD, Res.ok, endsP, DL.endsL, endsO, gt0, gt1, gt2, gt3, gt4, gt5, gt6, gt7, gt8, gt9, gt10, gt11, gt12, gt13, gt14, gt15, st0, st1, st2, st3, st4, st5, st6, st7, st8, st9, st10, st11, st12, st13, st14, st15, Option.some.injEq, exists_eq_left', exists_eq_left, atI_zero, atI_one, atI_two, List.map_cons, List.map_nil, List.length_cons, List.length_nil, true_and, and_true, List.length_set, Bool.true_and, Bool.and_true, xor_f, xor_t]
      refine ⟨by decide, by rw [sl_eq]; omega, _, _, rfl, fun a ha => ?_, by rw [List.length_append]; simp; omega⟩
      rcases List.mem_append.mp ha with h | h
      · exact has a h
      · rw [List.mem_singleton.mp h]
        exact .endless net m b ok ⟨hm0, hm1⟩ hb
    · rintro δ ⟨as, s11, rfl, has, hal⟩
      exact hx _ ⟨as, s11, rfl, has, by simpa using hal⟩
  clear has hal as
  rintro δ ⟨as, s11, rfl, has, hal⟩
  unfold AW
  have nl := ok.1
  refine fseq_join (fun δ => ∃ (at_ : Int), 0 ≤ at_ ∧ δ = AW net n fs (.sh (.list (th.map PyData.int))) s5 (.ow (.list as)) s7 s8 (.ow (.list (ri.map PyData.int))) (.sh (.int le)) s11 (.sh (.int at_)) .no s14 s15) (fun nx hx => ?_) ?_
  · simp only [fRet, fRet.stabR, fTuple, fB, g1, gTuple, gList, fList, fIx, f2R, gIx, fVar, fC, fCons, fNil, fTup, fLst, rCons, rNil, fSet, fAsg, tgName, tgTup, tgCons, tgNil, fYes, fAnd, fOr, fNot, fTest, boolW, gLt, gLe, gGt, gGe, gB2, f2, gI2, gI2C, fAdd, gAdd, fSub, fMul, gMul, fMod, fDiv, fPow, fNeg, f1, gNeg, fIfE, fAndV, fOrV, fNotV, fCall, fCallB, fCallBN, fCallN, fCallK, stab, Res.d, intW, fLen, gLen, fAbs, fInt, fMax2, fMin2, fMax3, gI1, gI2a, gI3a, fiSeq, gSeq, fiRng1, fiRng2, fiEnum, gEnum, fiRev, gRev, fiZip, gZip, fDrop, fNext, fBreak, fCont, fRetN, fShare, unown, fPar, parW, fPut, subW, fApp, appW, isOwL, fExt, extW, fSorted, gSorted, fListRg1, fListRev, fListKeys, fGet2, dictW, fDct0, fDct1, fRepr, gRepr, fAny, fAll, gBools, fSum, gSum, fMaxL, gMaxL, fMinL, gMinL, fChain, fSl, gSl, fPart, fNoP, fBagW, fBagI, fBagS, fBagIf, fScr, fBag, fBag2, nnW, wipeD, Res.ok, endsP, DL.endsL, endsO, gt0, gt1, gt2, gt3, gt4, gt5, gt6, gt7, gt8, gt9, gt10, gt11, gt12, gt13, gt14, gt15, st0, st1, st2, st3, st4, st5, st6, st7, st8, st9, st10, st11, st12, st13, st14, st15, Option.some.injEq, exists_eq_left', exists_eq_left, atI_zero, atI_one, atI_two, List.map_cons, List.map_nil, List.length_cons, List.length_nil, true_and, and_true, List.length_set, Bool.true_and, Bool.and_true, xor_f, xor_t]
    refine ⟨by decide, gNe_tnil (sm_net ok) (by decide) ?_⟩
    by_cases e : net = []
    · subst e
      exact iteF' rfl ⟨by decide, hx _ ⟨0, by decide, rfl⟩⟩
    · have e2 : net.length ≠ 0 := fun z => e (List.length_eq_zero_iff.mp z)
      refine iteT' (by cases net with
        | nil => exact absurd rfl e
        | cons a l => rfl) ?_
      unfold netD
      simp only [fRet, fRet.stabR, fTuple, fB, g1, gTuple, gList, fList, fIx, f2R, gIx, fVar, fC, fCons, fNil, fTup, fLst, rCons, rNil, fSet, fAsg, tgName, tgTup, tgCons, tgNil, fYes, fAnd, fOr, fNot, fTest, boolW, gLt, gLe, gGt, gGe, gB2, f2, gI2, gI2C, fAdd, gAdd, fSub, fMul, gMul, fMod, fDiv, fPow, fNeg, f1, gNeg, fIfE, fAndV, fOrV, fNotV, fCall, fCallB, fCallBN, fCallN, fCallK, stab, Res.d, intW, fLen, gLen, fAbs, fInt, fMax2, fMin2, fMax3, gI1, gI2a, gI3a, fiSeq, gSeq, fiRng1, fiRng2, fiEnum, gEnum, fiRev, gRev, fiZip, gZip, fDrop, fNext, fBreak, fCont, fRetN, fShare, unown, fPar, parW, fPut, subW, fApp, appW, isOwL, fExt, extW, fSorted, gSorted, fListRg1, fListRev, fListKeys, fGet2, dictW, fDct0, fDct1, fRepr, gRepr, fAny, fAll, gBools, fSum, gSum, fMaxL, gMaxL, fMinL, gMinL, fChain, fSl, gSl, fPart, fNoP, fBagW, fBagI, fBagS, fBagIf, fScr, fBag, fBag2, nnW, wipeD, Res.ok, endsP, DL.endsL, endsO, gt0, gt1, gt2, gt3, gt4, gt5, gt6, gt7, gt8, gt9, gt10, gt11, gt12, gt13, gt14, gt15, st0, st1, st2, st3, st4, st5, st6, st7, st8, st9, st10, st11, st12, st13, st14, st15, Option.some.injEq, exists_eq_left', exists_eq_left, atI_zero, atI_one, atI_two, List.map_cons, List.map_nil, List.length_cons, List.length_nil, true_and, and_true, List.length_set, Bool.true_and, Bool.and_true, xor_f, xor_t, List.length_map]
      exact ⟨net.length, rfl, by omega, by omega, fun r h0 h1 => ⟨by decide, hx _ ⟨r, h0, rfl⟩⟩⟩
  rintro δ ⟨at_, hat, rfl⟩
  unfold AW
  refine fseq_join (fun δ => ∃ (as : List D) (s13 : Slot), δ = AW net n fs (.sh (.list (th.map PyData.int))) s5 (.ow (.list as)) s7 s8 (.ow (.list (ri.map PyData.int))) (.sh (.int le)) s11 (.sh (.int at_)) s13 s14 s15 ∧ (∀ a ∈ as, AskOk a) ∧ as.length ≤ 37) (fun nx hx => ?_) ?_
  · have subOk : ∀ m : List (Int × Int), (∀ s ∈ m, s ∈ net) → m.length ≤ 12 → NetOk m := fun m h1 h2 => ⟨h2, fun s hs => ok.2 s (h1 s hs)⟩
    have h2 : NetOk (cutL net none (some at_) ++ cutL net (some (at_ + 1)) none) := subOk _ (fun s hs => by
      rcases List.mem_append.mp hs with h | h
      · exact cutL_mem h
      · exact cutL_mem h) (by have := cut_two net hat; omega)
    have h3 : NetOk (cutL net (some at_) (some (at_ + 1))) := subOk _ (fun s hs => cutL_mem hs) (by have := cutL_len net (some at_) (some (at_ + 1)); omega)
    have h4 : NetOk [] := ⟨by simp, by simp⟩
    have l1 := cutL_len net none (some at_)
    have l2 := cutL_len net (some (at_ + 1)) none
    refine ffor_run [netD net, netD (cutL net none (some at_) ++ cutL net (some (at_ + 1)) none), netD (cutL net (some at_) (some (at_ + 1))), netD []] (fun i δ => ∃ (as : List D) (s13 : Slot), δ = AW net n fs (.sh (.list (th.map PyData.int))) s5 (.ow (.list as)) s7 s8 (.ow (.list (ri.map PyData.int))) (.sh (.int le)) s11 (.sh (.int at_)) s13 s14 s15 ∧ (∀ a ∈ as, AskOk a) ∧ as.length ≤ 33 + i) (fun R hR => ?_) ⟨as, _, rfl, has, by omega⟩ ?_ ?_
    · unfold netD at hR ⊢
      simp only [fRet, fRet.stabR, fTuple, fB, g1, gTuple, gList, fList, fIx, f2R, gIx, fVar, fC, fCons, fNil, fTup, fLst, rCons, rNil, fSet, fAsg, tgName, tgTup, tgCons, tgNil, fYes, fAnd, fOr, fNot, fTest, boolW, gLt, gLe, gGt, gGe, gB2, f2, gI2, gI2C, fAdd, gAdd, fSub, fMul, gMul, fMod, fDiv, fPow, fNeg, f1, gNeg, fIfE, fAndV, fOrV, fNotV, fCall, fCallB, fCallBN, fCallN, fCallK, stab, Res.d, intW, fLen, gLen, fAbs, fInt, fMax2, fMin2, fMax3, gI1, gI2a, gI3a, fiSeq, gSeq, fiRng1, fiRng2, fiEnum, gEnum, fiRev, gRev, fiZip, gZip, fDrop, fNext, fBreak, fCont, fRetN, fShare, unown, fPar, parW, fPut, subW, fApp, appW, isOwL, fExt, extW, fSorted, gSorted, fListRg1, fListRev, fListKeys, fGet2, dictW, fDct0, fDct1, fRepr, gRepr, fAny, fAll, gBools, fSum, gSum, fMaxL, gMaxL, fMinL, gMinL, fChain, fSl, gSl, fPart, fNoP, fBagW, fBagI, fBagS, fBagIf, fScr, fBag, fBag2, nnW, wipeD, Res.ok, endsP, DL.endsL, endsO, gt0, gt1, gt2, gt3, gt4, gt5, gt6, gt7, gt8, gt9, gt10, gt11, gt12, gt13, gt14, gt15, st0, st1, st2, st3, st4, st5, st6, st7, st8, st9, st10, st11, st12, st13, st14, st15, Option.some.injEq, exists_eq_left', exists_eq_left, atI_zero, atI_one, atI_two, List.map_cons, List.map_nil, List.length_cons, List.length_nil, true_and, and_true, List.length_set, Bool.true_and, Bool.and_true, xor_f, xor_t, cutL_map, List.length_map]
      refine ⟨by rw [sl_eq]; omega, by decide, by decide, ?_⟩
      rw [← List.map_append]
      exact hR
    · clear has hal as
      rintro i d δ hd ⟨as, s13, rfl, has, hal⟩
      have hil : i < 4 := by have := (List.getElem?_eq_some_iff.mp hd).1; simpa using this
      obtain ⟨m, rfl, hm⟩ : ∃ m, d = netD m ∧ NetOk m := by
        have := List.mem_of_getElem? hd
        simp at this
        rcases this with rfl | rfl | rfl | rfl
        · exact ⟨_, rfl, ok⟩
        · exact ⟨_, rfl, h2⟩
        · exact ⟨_, rfl, h3⟩
        · exact ⟨_, rfl, h4⟩
      unfold AW
      simp only [fRet, fRet.stabR, fTuple, fB, g1, gTuple, gList, fList, fIx, f2R, gIx, fVar, fC, fCons, fNil, fTup, fLst, rCons, rNil, fSet, fAsg, tgName, tgTup, tgCons, tgNil, fYes, fAnd, fOr, fNot, fTest, boolW, gLt, gLe, gGt, gGe, gB2, f2, gI2, gI2C, fAdd, gAdd, fSub, fMul, gMul, fMod, fDiv, fPow, fNeg, f1, gNeg, fIfE, fAndV, fOrV, fNotV, fCall, fCallB, fCallBN, fCallN, fCallK, stab, Res.d, intW, fLen, gLen, fAbs, fInt, fMax2, fMin2, fMax3, gI1, gI2a, gI3a, fiSeq, gSeq, fiRng1, fiRng2, fiEnum, gEnum, fiRev, gRev, fiZip, gZip, fDrop, fNext, fBreak, fCont, fRetN, fShare, unown, fPar, parW, fPut, subW, fApp, appW, isOwL, fExt, extW, fSorted, gSorted, fListRg1, fListRev, fListKeys, fGet2, dictW, fDct0, fDct1, fRepr, gRepr, fAny, fAll, gBools, fSum, gSum, fMaxL, gMaxL, fMinL, gMinL, fChain, fSl, gSl, fPart, fNoP, fBagW, fBagI, fBagS, fBagIf, fScr, fBag, fBag2, nnW, wipeD, Res.ok, endsP, DL.endsL, endsO, gt0, gt1, gt2, gt3, gt4, gt5, gt6, gt7, gt8, gt9, gt10, gt11, gt12, gt13, gt14, gt15, st0, st1, st2, st3, st4, st5, st6, st7, st8, st9, st10, st11, st12, st13, st14, st15, Option.some.injEq, exists_eq_left', exists_eq_left, atI_zero, atI_one, atI_two, List.map_cons, List.map_nil, List.length_cons, List.length_nil, true_and, and_true, List.length_set, Bool.true_and, Bool.and_true, xor_f, xor_t]
      refine ⟨by decide, ⟨_, rfl⟩, by decide, m, rfl, hm, ?_⟩
      refine ⟨by decide, by rw [sl_eq]; omega, _, _, rfl, fun a ha => ?_, by rw [List.length_append]; simp; omega⟩
      rcases List.mem_append.mp ha with h | h
      · exact has a h
      · rw [List.mem_singleton.mp h]
        exact .measure m hm
    · rintro δ ⟨as, s13, rfl, has, hal⟩
      exact hx _ ⟨as, s13, rfl, has, by simpa using hal⟩
  rintro δ ⟨as, s13, rfl, has, hal⟩
  unfold AW
  simp only [fRet, fRet.stabR, fTuple, fB, g1, gTuple, gList, fList, fIx, f2R, gIx, fVar, fC, fCons, fNil, fTup, fLst, rCons, rNil, fSet, fAsg, tgName, tgTup, tgCons, tgNil, fYes, fAnd, fOr, fNot, fTest, boolW, gLt, gLe, gGt, gGe, gB2, f2, gI2, gI2C, fAdd, gAdd, fSub, fMul, gMul, fMod, fDiv, fPow, fNeg, f1, gNeg, fIfE, fAndV, fOrV, fNotV, fCall, fCallB, fCallBN, fCallN, fCallK, stab, Res.d, intW, fLen, gLen, fAbs, fInt, fMax2, fMin2, fMax3, gI1, gI2a, gI3a, fiSeq, gSeq, fiRng1, fiRng2, fiEnum, gEnum, fiRev, gRev, fiZip, gZip, fDrop, fNext, fBreak, fCont, fRetN, fShare, unown, fPar, parW, fPut, subW, fApp, appW, isOwL, fExt, extW, fSorted, gSorted, fListRg1, fListRev, fListKeys, fGet2, dictW, fDct0, fDct1, fRepr, gRepr, fAny, fAll, gBools, fSum, gSum, fMaxL, gMaxL, fMinL, gMinL, fChain, fSl, gSl, fPart, fNoP, fBagW, fBagI, fBagS, fBagIf, fScr, fBag, fBag2, nnW, wipeD, Res.ok, endsP, DL.endsL, endsO, gt0, gt1, gt2, gt3, gt4, gt5, gt6, gt7, gt8, gt9, gt10, gt11, gt12, gt13, gt14, gt15, st0, st1, st2, st3, st4, st5, st6, st7, st8, st9, st10, st11, st12, st13, st14, st15, Option.some.injEq, exists_eq_left', exists_eq_left, atI_zero, atI_one, atI_two, List.map_cons, List.map_nil, List.length_cons, List.length_nil, true_and, and_true, List.length_set, Bool.true_and, Bool.and_true, xor_f, xor_t]
  exact q as has (by omega)
end G61

namespace G61
open PySem PySem.Spec PyProof.Rows L2 DL
def ownD : D → D
  | .tuple [_, o, _] => o
  | _ => .none
theorem noBag_of {δ : List DL.Slot} (h : ∀ s ∈ δ, s ≠ .bag) : noBag δ := fun j e => h _ (List.mem_of_getElem? e) rfl
theorem ask_form {a : D} (h : AskOk a) : ∃ w own due, a = .tuple [w, own, due] ∧ Sm 2000 10 own ∧ Sm 100000 10 due := by
  cases h with
  | numbers net n most L ok hn hm asc mem =>
    refine ⟨_, _, _, rfl, ?_, ?_⟩
    · exact ((smA_cons ((sm_net ok).mono (Nat.le_refl _) (Nat.le_refl 3)) (smA_cons ((sm_int (i := n) (by omega)).mono (Nat.le_refl _) (Nat.zero_le 3)) (smA_cons ((sm_int (i := most) (by omega)).mono (Nat.le_refl _) (Nat.zero_le 3)) (smA_nil 3)))).tup).mono (by omega) (by omega)
    · have hb : ∀ y ∈ L, 0 ≤ y ∧ y ≤ 300 := fun y hy => by
        have h1 := (mem y).mp hy
        have := h1.1.bd ok hn.1 (by omega)
        omega
      have hl : L.length ≤ 301 := nodup_len 301 L (asc.imp fun {x y} h => by omega) fun y hy => by have := hb y hy; omega
      have := (smA_all (w := 40) (dep := 0) (ds := L.map PyData.int) fun d hd => by
        obtain ⟨y, hy, rfl⟩ := List.mem_map.mp hd
        have := hb y hy
        exact sm_int (by omega)).tup
      refine this.mono ?_ (by omega)
      rw [List.length_map]
      omega
  | comes net n y b ok hn hm hb =>
    refine ⟨_, _, _, rfl, ?_, (sm_bool b).mono (by omega) (by omega)⟩
    exact ((smA_cons ((sm_net ok).mono (Nat.le_refl _) (Nat.le_refl 3)) (smA_cons ((sm_int (i := n) (by omega)).mono (Nat.le_refl _) (Nat.zero_le 3)) (smA_cons ((sm_int (i := y) (by omega)).mono (Nat.le_refl _) (Nat.zero_le 3)) (smA_nil 3)))).tup).mono (by omega) (by omega)
  | endless net n b ok hn hb =>
    refine ⟨_, _, _, rfl, ?_, (sm_bool b).mono (by omega) (by omega)⟩
    exact ((smA_cons ((sm_net ok).mono (Nat.le_refl _) (Nat.le_refl 3)) (smA_cons ((sm_int (i := n) (by omega)).mono (Nat.le_refl _) (Nat.zero_le 3)) (smA_nil 3))).tup).mono (by omega) (by omega)
  | measure net ok =>
    refine ⟨_, _, _, rfl, ?_, ?_⟩
    · exact ((smA_cons ((sm_net ok).mono (Nat.le_refl _) (Nat.le_refl 3)) (smA_nil 3)).tup).mono (by omega) (by omega)
    · have hg : ∀ (l : List (Int × Int)) (g : Nat), (∀ s ∈ l, (0 ≤ s.1 ∧ s.1 ≤ 9) ∧ 0 ≤ s.2 ∧ s.2 ≤ 9) → g ≤ 9 → l.foldl (fun g s => Nat.gcd g (s.2 - s.1).natAbs) g ≤ 9 := by
        intro l
        induction l with
        | nil => intro g _ h; exact h
        | cons s l ih =>
          intro g h1 h2
          rw [List.foldl_cons]
          refine ih _ (fun t ht => h1 t (by simp [ht])) ?_
          have hs := h1 s (by simp)
          by_cases e : g = 0
          · subst e; rw [Nat.gcd_zero_left]; omega
          · exact Nat.le_trans (Nat.gcd_le_left _ (by omega)) h2
      have := hg net 0 ok.2 (by omega)
      exact (sm_int (i := ((gcdN net : Nat) : Int)) (by unfold gcdN; omega)).mono (by omega) (by omega)
theorem own_shows {as : List D} (h : ∀ a ∈ as, AskOk a) (hl : as.length ≤ 240) : shows (.list (as.map ownD)) := by
  have := (smA_all (w := 2000) (dep := 10) (ds := as.map ownD) fun d hd => by
    obtain ⟨a, ha, rfl⟩ := List.mem_map.mp hd
    obtain ⟨w, own, due, rfl, h1, _⟩ := ask_form (h a ha)
    exact h1).lst
  refine (this.mono ?_ (by omega)).shows
  rw [List.length_map]
  omega
def LW (ns : List Int) (s2 s3 s4 s5 s6 s7 s8 s9 : Slot) : List Slot := [.scr ns, .bag, s2, s3, s4, s5, s6, s7, s8, s9]
theorem owns {as : List D} {δ : List Slot} {Q : Res → Prop} {ED : XD → Prop} {r : Res} (hr : ∀ R : Bool → List D → Prop, (∀ st, R st as) → fiSeq (fVar 2) δ R ED) (h : ∀ a ∈ as, AskOk a) (hl : as.length ≤ 240)
    (hw : ∃ s0 s1 s2 s3 s4 s5 s6 s7 s8 s9, δ = [s0, s1, s2, s3, s4, s5, s6, s7, s8, s9]) (q : Q (.fr (.list (as.map ownD)))) :
    fLc (fiSeq (fVar 2)) (tgTup (tgCons (tgName 7) (tgCons (tgName 8) (tgCons (tgName 9) tgNil)))) fYes (fVar 8) [7, 8, 9] δ Q ED := by
  obtain ⟨s0, s1, s2, s3, s4, s5, s6, s7, s8, s9, rfl⟩ := hw
  refine flc_map as ownD hr (by rw [sl_eq]; omega) (fun d hd K k => ?_) q
  obtain ⟨w, own, due, rfl, _, _⟩ := ask_form (h d hd)
  simp only [fRet, fRet.stabR, fTuple, fB, g1, gTuple, gList, fList, fIx, f2R, gIx, fVar, fC, fCons, fNil, fTup, fLst, rCons, rNil, fSet, fAsg, tgName, tgTup, tgCons, tgNil, fYes, fAnd, fOr, fNot, fTest, boolW, gLt, gLe, gGt, gGe, gB2, f2, gI2, gI2C, fAdd, gAdd, fSub, fMul, gMul, fMod, fDiv, fPow, fNeg, f1, gNeg, fIfE, fAndV, fOrV, fNotV, fCall, fCallB, fCallBN, fCallN, fCallK, stab, Res.d, intW, fLen, gLen, fAbs, fInt, fMax2, fMin2, fMax3, gI1, gI2a, gI3a, fiSeq, gSeq, fiRng1, fiRng2, fiEnum, gEnum, fiRev, gRev, fiZip, gZip, fDrop, fNext, fBreak, fCont, fRetN, fShare, unown, fPar, parW, fPut, subW, fApp, appW, isOwL, fExt, extW, fSorted, gSorted, fListRg1, fListRev, fListKeys, fGet2, dictW, fDct0, fDct1, fRepr, gRepr, fAny, fAll, gBools, fSum, gSum, fMaxL, gMaxL, fMinL, gMinL, fChain, fSl, gSl, fPart, fNoP, fBagW, fBagI, fBagS, fBagIf, fScr, fBag, fBag2, nnW, wipeD, Res.ok, endsP, DL.endsL, endsO, gt0, gt1, gt2, gt3, gt4, gt5, gt6, gt7, gt8, gt9, gt10, gt11, gt12, gt13, gt14, gt15, st0, st1, st2, st3, st4, st5, st6, st7, st8, st9, st10, st11, st12, st13, st14, st15, Option.some.injEq, exists_eq_left', exists_eq_left, atI_zero, atI_one, atI_two, List.map_cons, List.map_nil, List.length_cons, List.length_nil, true_and, and_true, List.length_set, Bool.true_and, Bool.and_true, xor_f, xor_t]
  exact ⟨by decide, by decide, by decide, k⟩
theorem l_law : ∀ ns : List Int, ns.length ≤ 63 → F_law S_told S_asks S_net S_draw S_number endsL (startL N_law ns) := by
  intro ns hl
  unfold F_law
  rw [show startL N_law ns = [.scr ns, .no, .no, .no, .no, .no, .no, .no, .no, .no] from rfl]
  refine fseq_run ?_
  simp only [fRet, fRet.stabR, fTuple, fB, g1, gTuple, gList, fList, fIx, f2R, gIx, fVar, fC, fCons, fNil, fTup, fLst, rCons, rNil, fSet, fAsg, tgName, tgTup, tgCons, tgNil, fYes, fAnd, fOr, fNot, fTest, boolW, gLt, gLe, gGt, gGe, gB2, f2, gI2, gI2C, fAdd, gAdd, fSub, fMul, gMul, fMod, fDiv, fPow, fNeg, f1, gNeg, fIfE, fAndV, fOrV, fNotV, fCall, fCallB, fCallBN, fCallN, fCallK, stab, Res.d, intW, fLen, gLen, fAbs, fInt, fMax2, fMin2, fMax3, gI1, gI2a, gI3a, fiSeq, gSeq, fiRng1, fiRng2, fiEnum, gEnum, fiRev, gRev, fiZip, gZip, fDrop, fNext, fBreak, fCont, fRetN, fShare, unown, fPar, parW, fPut, subW, fApp, appW, isOwL, fExt, extW, fSorted, gSorted, fListRg1, fListRev, fListKeys, fGet2, dictW, fDct0, fDct1, fRepr, gRepr, fAny, fAll, gBools, fSum, gSum, fMaxL, gMaxL, fMinL, gMinL, fChain, fSl, gSl, fPart, fNoP, fBagW, fBagI, fBagS, fBagIf, fScr, fBag, fBag2, nnW, wipeD, Res.ok, endsP, DL.endsL, endsO, gt0, gt1, gt2, gt3, gt4, gt5, gt6, gt7, gt8, gt9, gt10, gt11, gt12, gt13, gt14, gt15, st0, st1, st2, st3, st4, st5, st6, st7, st8, st9, st10, st11, st12, st13, st14, st15, Option.some.injEq, exists_eq_left', exists_eq_left, atI_zero, atI_one, atI_two, List.map_cons, List.map_nil, List.length_cons, List.length_nil, true_and, and_true, List.length_set, Bool.true_and, Bool.and_true, xor_f, xor_t]
  refine ⟨⟨ns, rfl, hl⟩, noBag_of (by simp), by decide, by decide, by decide, ?_⟩
  refine fseq_join (fun δ => ∃ (as : List D) (s3 s4 s5 : Slot), δ = LW ns (.ow (.list as)) s3 s4 s5 .no .no .no .no ∧ (∀ a ∈ as, AskOk a) ∧ as.length ≤ 240) (fun nx hx => ?_) ?_
  · refine ffor_run (rgD 0 ((4 : Nat) : Int)) (fun i δ => ∃ (as : List D) (s3 s4 s5 : Slot), δ = LW ns (.ow (.list as)) s3 s4 s5 .no .no .no .no ∧ (∀ a ∈ as, AskOk a) ∧ as.length ≤ 60 * i) (fun R hR => by simp only [fRet, fRet.stabR, fTuple, fB, g1, gTuple, gList, fList, fIx, f2R, gIx, fVar, fC, fCons, fNil, fTup, fLst, rCons, rNil, fSet, fAsg, tgName, tgTup, tgCons, tgNil, fYes, fAnd, fOr, fNot, fTest, boolW, gLt, gLe, gGt, gGe, gB2, f2, gI2, gI2C, fAdd, gAdd, fSub, fMul, gMul, fMod, fDiv, fPow, fNeg, f1, gNeg, fIfE, fAndV, fOrV, fNotV, fCall, fCallB, fCallBN, fCallN, fCallK, stab, Res.d, intW, fLen, gLen, fAbs, fInt, fMax2, fMin2, fMax3, gI1, gI2a, gI3a, fiSeq, gSeq, fiRng1, fiRng2, fiEnum, gEnum, fiRev, gRev, fiZip, gZip, fDrop, fNext, fBreak, fCont, fRetN, fShare, unown, fPar, parW, fPut, subW, fApp, appW, isOwL, fExt, extW, fSorted, gSorted, fListRg1, fListRev, fListKeys, fGet2, dictW, fDct0, fDct1, fRepr, gRepr, fAny, fAll, gBools, fSum, gSum, fMaxL, gMaxL, fMinL, gMinL, fChain, fSl, gSl, fPart, fNoP, fBagW, fBagI, fBagS, fBagIf, fScr, fBag, fBag2, nnW, wipeD, Res.ok, endsP, DL.endsL, endsO, gt0, gt1, gt2, gt3, gt4, gt5, gt6, gt7, gt8, gt9, gt10, gt11, gt12, gt13, gt14, gt15, st0, st1, st2, st3, st4, st5, st6, st7, st8, st9, st10, st11, st12, st13, st14, st15, Option.some.injEq, exists_eq_left', exists_eq_left, atI_zero, atI_one, atI_two, List.map_cons, List.map_nil, List.length_cons, List.length_nil, true_and, and_true, List.length_set, Bool.true_and, Bool.and_true, xor_f, xor_t]; exact ⟨⟨by decide, by decide⟩, hR⟩) ⟨[], _, _, _, rfl, by simp, by simp⟩ ?_ ?_
    · rintro i d δ hd ⟨as, s3, s4, s5, rfl, has, hal⟩
      obtain ⟨t, ht, rfl⟩ := rgD_mem (List.mem_of_getElem? hd)
      have hil : i < 4 := by have := (List.getElem?_eq_some_iff.mp hd).1; rw [rgD_len] at this; exact this
      unfold LW
      simp only [fRet, fRet.stabR, fTuple, fB, g1, gTuple, gList, fList, fIx, f2R, gIx, fVar, fC, fCons, fNil, fTup, fLst, rCons, rNil, fSet, fAsg, tgName, tgTup, tgCons, tgNil, fYes, fAnd, fOr, fNot, fTest, boolW, gLt, gLe, gGt, gGe, gB2, f2, gI2, gI2C, fAdd, gAdd, fSub, fMul, gMul, fMod, fDiv, fPow, fNeg, f1, gNeg, fIfE, fAndV, fOrV, fNotV, fCall, fCallB, fCallBN, fCallN, fCallK, stab, Res.d, intW, fLen, gLen, fAbs, fInt, fMax2, fMin2, fMax3, gI1, gI2a, gI3a, fiSeq, gSeq, fiRng1, fiRng2, fiEnum, gEnum, fiRev, gRev, fiZip, gZip, fDrop, fNext, fBreak, fCont, fRetN, fShare, unown, fPar, parW, fPut, subW, fApp, appW, isOwL, fExt, extW, fSorted, gSorted, fListRg1, fListRev, fListKeys, fGet2, dictW, fDct0, fDct1, fRepr, gRepr, fAny, fAll, gBools, fSum, gSum, fMaxL, gMaxL, fMinL, gMinL, fChain, fSl, gSl, fPart, fNoP, fBagW, fBagI, fBagS, fBagIf, fScr, fBag, fBag2, nnW, wipeD, Res.ok, endsP, DL.endsL, endsO, gt0, gt1, gt2, gt3, gt4, gt5, gt6, gt7, gt8, gt9, gt10, gt11, gt12, gt13, gt14, gt15, st0, st1, st2, st3, st4, st5, st6, st7, st8, st9, st10, st11, st12, st13, st14, st15, Option.some.injEq, exists_eq_left', exists_eq_left, atI_zero, atI_one, atI_two, List.map_cons, List.map_nil, List.length_cons, List.length_nil, true_and, and_true, List.length_set, Bool.true_and, Bool.and_true, xor_f, xor_t]
      refine ⟨by decide, ?_⟩
      obtain ⟨m, em, hm0, hm1⟩ : ∃ m : Int, atI [PyData.int 300, PyData.int 300, PyData.int 250, PyData.int 10] (t : Int) = some (.int m) ∧ 10 ≤ m ∧ m ≤ 300 := by
        have : t = 0 ∨ t = 1 ∨ t = 2 ∨ t = 3 := by omega
        rcases this with rfl | rfl | rfl | rfl
        · exact ⟨300, rfl, by omega, by omega⟩
        · exact ⟨300, rfl, by omega, by omega⟩
        · exact ⟨250, rfl, by omega, by omega⟩
        · exact ⟨10, rfl, by omega, by omega⟩
      refine fseq_run ?_
      simp only [fRet, fRet.stabR, fTuple, fB, g1, gTuple, gList, fList, fIx, f2R, gIx, fVar, fC, fCons, fNil, fTup, fLst, rCons, rNil, fSet, fAsg, tgName, tgTup, tgCons, tgNil, fYes, fAnd, fOr, fNot, fTest, boolW, gLt, gLe, gGt, gGe, gB2, f2, gI2, gI2C, fAdd, gAdd, fSub, fMul, gMul, fMod, fDiv, fPow, fNeg, f1, gNeg, fIfE, fAndV, fOrV, fNotV, fCall, fCallB, fCallBN, fCallN, fCallK, stab, Res.d, intW, fLen, gLen, fAbs, fInt, fMax2, fMin2, fMax3, gI1, gI2a, gI3a, fiSeq, gSeq, fiRng1, fiRng2, fiEnum, gEnum, fiRev, gRev, fiZip, gZip, fDrop, fNext, fBreak, fCont, fRetN, fShare, unown, fPar, parW, fPut, subW, fApp, appW, isOwL, fExt, extW, fSorted, gSorted, fListRg1, fListRev, fListKeys, fGet2, dictW, fDct0, fDct1, fRepr, gRepr, fAny, fAll, gBools, fSum, gSum, fMaxL, gMaxL, fMinL, gMinL, fChain, fSl, gSl, fPart, fNoP, fBagW, fBagI, fBagS, fBagIf, fScr, fBag, fBag2, nnW, wipeD, Res.ok, endsP, DL.endsL, endsO, gt0, gt1, gt2, gt3, gt4, gt5, gt6, gt7, gt8, gt9, gt10, gt11, gt12, gt13, gt14, gt15, st0, st1, st2, st3, st4, st5, st6, st7, st8, st9, st10, st11, st12, st13, st14, st15, Option.some.injEq, exists_eq_left', exists_eq_left, atI_zero, atI_one, atI_two, List.map_cons, List.map_nil, List.length_cons, List.length_nil, true_and, and_true, List.length_set, Bool.true_and, Bool.and_true, xor_f, xor_t, em]
      refine ⟨by decide, m, rfl, hm0, by omega, fun n hn0 hn1 => ⟨by decide, fseq_run ?_⟩⟩
      simp only [fRet, fRet.stabR, fTuple, fB, g1, gTuple, gList, fList, fIx, f2R, gIx, fVar, fC, fCons, fNil, fTup, fLst, rCons, rNil, fSet, fAsg, tgName, tgTup, tgCons, tgNil, fYes, fAnd, fOr, fNot, fTest, boolW, gLt, gLe, gGt, gGe, gB2, f2, gI2, gI2C, fAdd, gAdd, fSub, fMul, gMul, fMod, fDiv, fPow, fNeg, f1, gNeg, fIfE, fAndV, fOrV, fNotV, fCall, fCallB, fCallBN, fCallN, fCallK, stab, Res.d, intW, fLen, gLen, fAbs, fInt, fMax2, fMin2, fMax3, gI1, gI2a, gI3a, fiSeq, gSeq, fiRng1, fiRng2, fiEnum, gEnum, fiRev, gRev, fiZip, gZip, fDrop, fNext, fBreak, fCont, fRetN, fShare, unown, fPar, parW, fPut, subW, fApp, appW, isOwL, fExt, extW, fSorted, gSorted, fListRg1, fListRev, fListKeys, fGet2, dictW, fDct0, fDct1, fRepr, gRepr, fAny, fAll, gBools, fSum, gSum, fMaxL, gMaxL, fMinL, gMinL, fChain, fSl, gSl, fPart, fNoP, fBagW, fBagI, fBagS, fBagIf, fScr, fBag, fBag2, nnW, wipeD, Res.ok, endsP, DL.endsL, endsO, gt0, gt1, gt2, gt3, gt4, gt5, gt6, gt7, gt8, gt9, gt10, gt11, gt12, gt13, gt14, gt15, st0, st1, st2, st3, st4, st5, st6, st7, st8, st9, st10, st11, st12, st13, st14, st15, Option.some.injEq, exists_eq_left', exists_eq_left, atI_zero, atI_one, atI_two, List.map_cons, List.map_nil, List.length_cons, List.length_nil, true_and, and_true, List.length_set, Bool.true_and, Bool.and_true, xor_f, xor_t]
      refine ⟨14, rfl, by decide, by decide, fun way hw0 hw1 => ⟨by decide, ?_⟩⟩
      refine fseq_join (fun δ => ∃ way : Int, δ = LW ns (.ow (.list as)) (.sh (.int t)) (.sh (.int n)) (.sh (.int way)) .no .no .no .no ∧ 0 ≤ way ∧ way ≤ 13) (fun nx2 hx2 => ?_) ?_
      · refine fif_run ?_
        simp only [fRet, fRet.stabR, fTuple, fB, g1, gTuple, gList, fList, fIx, f2R, gIx, fVar, fC, fCons, fNil, fTup, fLst, rCons, rNil, fSet, fAsg, tgName, tgTup, tgCons, tgNil, fYes, fAnd, fOr, fNot, fTest, boolW, gLt, gLe, gGt, gGe, gB2, f2, gI2, gI2C, fAdd, gAdd, fSub, fMul, gMul, fMod, fDiv, fPow, fNeg, f1, gNeg, fIfE, fAndV, fOrV, fNotV, fCall, fCallB, fCallBN, fCallN, fCallK, stab, Res.d, intW, fLen, gLen, fAbs, fInt, fMax2, fMin2, fMax3, gI1, gI2a, gI3a, fiSeq, gSeq, fiRng1, fiRng2, fiEnum, gEnum, fiRev, gRev, fiZip, gZip, fDrop, fNext, fBreak, fCont, fRetN, fShare, unown, fPar, parW, fPut, subW, fApp, appW, isOwL, fExt, extW, fSorted, gSorted, fListRg1, fListRev, fListKeys, fGet2, dictW, fDct0, fDct1, fRepr, gRepr, fAny, fAll, gBools, fSum, gSum, fMaxL, gMaxL, fMinL, gMinL, fChain, fSl, gSl, fPart, fNoP, fBagW, fBagI, fBagS, fBagIf, fScr, fBag, fBag2, nnW, wipeD, Res.ok, endsP, DL.endsL, endsO, gt0, gt1, gt2, gt3, gt4, gt5, gt6, gt7, gt8, gt9, gt10, gt11, gt12, gt13, gt14, gt15, st0, st1, st2, st3, st4, st5, st6, st7, st8, st9, st10, st11, st12, st13, st14, st15, Option.some.injEq, exists_eq_left', exists_eq_left, atI_zero, atI_one, atI_two, List.map_cons, List.map_nil, List.length_cons, List.length_nil, true_and, and_true, List.length_set, Bool.true_and, Bool.and_true, xor_f, xor_t]
        have skip := hx2 _ ⟨way, rfl, hw0, by omega⟩
        by_cases e : (1 : Int) < t
        · refine iteT' (decide_eq_true e) ⟨2, rfl, by decide, by decide, fun r h0 h1 => ?_⟩
          simp only [fRet, fRet.stabR, fTuple, fB, g1, gTuple, gList, fList, fIx, f2R, gIx, fVar, fC, fCons, fNil, fTup, fLst, rCons, rNil, fSet, fAsg, tgName, tgTup, tgCons, tgNil, fYes, fAnd, fOr, fNot, fTest, boolW, gLt, gLe, gGt, gGe, gB2, f2, gI2, gI2C, fAdd, gAdd, fSub, fMul, gMul, fMod, fDiv, fPow, fNeg, f1, gNeg, fIfE, fAndV, fOrV, fNotV, fCall, fCallB, fCallBN, fCallN, fCallK, stab, Res.d, intW, fLen, gLen, fAbs, fInt, fMax2, fMin2, fMax3, gI1, gI2a, gI3a, fiSeq, gSeq, fiRng1, fiRng2, fiEnum, gEnum, fiRev, gRev, fiZip, gZip, fDrop, fNext, fBreak, fCont, fRetN, fShare, unown, fPar, parW, fPut, subW, fApp, appW, isOwL, fExt, extW, fSorted, gSorted, fListRg1, fListRev, fListKeys, fGet2, dictW, fDct0, fDct1, fRepr, gRepr, fAny, fAll, gBools, fSum, gSum, fMaxL, gMaxL, fMinL, gMinL, fChain, fSl, gSl, fPart, fNoP, fBagW, fBagI, fBagS, fBagIf, fScr, fBag, fBag2, nnW, wipeD, Res.ok, endsP, DL.endsL, endsO, gt0, gt1, gt2, gt3, gt4, gt5, gt6, gt7, gt8, gt9, gt10, gt11, gt12, gt13, gt14, gt15, st0, st1, st2, st3, st4, st5, st6, st7, st8, st9, st10, st11, st12, st13, st14, st15, Option.some.injEq, exists_eq_left', exists_eq_left, atI_zero, atI_one, atI_two, List.map_cons, List.map_nil, List.length_cons, List.length_nil, true_and, and_true, List.length_set, Bool.true_and, Bool.and_true, xor_f, xor_t, gEq_int_eq]
          by_cases e2 : r = 0
          · exact iteT' (decide_eq_true e2) ⟨by decide, hx2 _ ⟨6 + t, rfl, by omega, by omega⟩⟩
          · exact iteF' (decide_eq_false e2) skip
        · exact iteF' (decide_eq_false e) (iteF' rfl skip)
      clear hw0 hw1 way
      rintro δ ⟨way, rfl, hw0, hw1⟩
      unfold LW
      simp only [fRet, fRet.stabR, fTuple, fB, g1, gTuple, gList, fList, fIx, f2R, gIx, fVar, fC, fCons, fNil, fTup, fLst, rCons, rNil, fSet, fAsg, tgName, tgTup, tgCons, tgNil, fYes, fAnd, fOr, fNot, fTest, boolW, gLt, gLe, gGt, gGe, gB2, f2, gI2, gI2C, fAdd, gAdd, fSub, fMul, gMul, fMod, fDiv, fPow, fNeg, f1, gNeg, fIfE, fAndV, fOrV, fNotV, fCall, fCallB, fCallBN, fCallN, fCallK, stab, Res.d, intW, fLen, gLen, fAbs, fInt, fMax2, fMin2, fMax3, gI1, gI2a, gI3a, fiSeq, gSeq, fiRng1, fiRng2, fiEnum, gEnum, fiRev, gRev, fiZip, gZip, fDrop, fNext, fBreak, fCont, fRetN, fShare, unown, fPar, parW, fPut, subW, fApp, appW, isOwL, fExt, extW, fSorted, gSorted, fListRg1, fListRev, fListKeys, fGet2, dictW, fDct0, fDct1, fRepr, gRepr, fAny, fAll, gBools, fSum, gSum, fMaxL, gMaxL, fMinL, gMinL, fChain, fSl, gSl, fPart, fNoP, fBagW, fBagI, fBagS, fBagIf, fScr, fBag, fBag2, nnW, wipeD, Res.ok, endsP, DL.endsL, endsO, gt0, gt1, gt2, gt3, gt4, gt5, gt6, gt7, gt8, gt9, gt10, gt11, gt12, gt13, gt14, gt15, st0, st1, st2, st3, st4, st5, st6, st7, st8, st9, st10, st11, st12, st13, st14, st15, Option.some.injEq, exists_eq_left', exists_eq_left, atI_zero, atI_one, atI_two, List.map_cons, List.map_nil, List.length_cons, List.length_nil, true_and, and_true, List.length_set, Bool.true_and, Bool.and_true, xor_f, xor_t]
      refine ⟨⟨_, rfl⟩, n, way, rfl, ⟨hn0, by omega⟩, ⟨hw0, hw1⟩, fun net ok => ⟨net, n, rfl, ok, ⟨hn0, by omega⟩, fun bs hbs hbl => ?_⟩⟩
      simp only [fRet, fRet.stabR, fTuple, fB, g1, gTuple, gList, fList, fIx, f2R, gIx, fVar, fC, fCons, fNil, fTup, fLst, rCons, rNil, fSet, fAsg, tgName, tgTup, tgCons, tgNil, fYes, fAnd, fOr, fNot, fTest, boolW, gLt, gLe, gGt, gGe, gB2, f2, gI2, gI2C, fAdd, gAdd, fSub, fMul, gMul, fMod, fDiv, fPow, fNeg, f1, gNeg, fIfE, fAndV, fOrV, fNotV, fCall, fCallB, fCallBN, fCallN, fCallK, stab, Res.d, intW, fLen, gLen, fAbs, fInt, fMax2, fMin2, fMax3, gI1, gI2a, gI3a, fiSeq, gSeq, fiRng1, fiRng2, fiEnum, gEnum, fiRev, gRev, fiZip, gZip, fDrop, fNext, fBreak, fCont, fRetN, fShare, unown, fPar, parW, fPut, subW, fApp, appW, isOwL, fExt, extW, fSorted, gSorted, fListRg1, fListRev, fListKeys, fGet2, dictW, fDct0, fDct1, fRepr, gRepr, fAny, fAll, gBools, fSum, gSum, fMaxL, gMaxL, fMinL, gMinL, fChain, fSl, gSl, fPart, fNoP, fBagW, fBagI, fBagS, fBagIf, fScr, fBag, fBag2, nnW, wipeD, Res.ok, endsP, DL.endsL, endsO, gt0, gt1, gt2, gt3, gt4, gt5, gt6, gt7, gt8, gt9, gt10, gt11, gt12, gt13, gt14, gt15, st0, st1, st2, st3, st4, st5, st6, st7, st8, st9, st10, st11, st12, st13, st14, st15, Option.some.injEq, exists_eq_left', exists_eq_left, atI_zero, atI_one, atI_two, List.map_cons, List.map_nil, List.length_cons, List.length_nil, true_and, and_true, List.length_set, Bool.true_and, Bool.and_true, xor_f, xor_t]
      refine ⟨by rw [sl_eq]; omega, as ++ bs, _, _, _, rfl, fun a ha => ?_, by rw [List.length_append]; omega⟩
      rcases List.mem_append.mp ha with h | h
      · exact has a h
      · exact hbs a h
    · rintro δ ⟨as, s3, s4, s5, rfl, has, hal⟩
      exact hx _ ⟨as, s3, s4, s5, rfl, has, by rw [rgD_len] at hal; omega⟩
  rintro δ ⟨as, s3, s4, s5, rfl, has, hal⟩
  unfold LW
  have sho := own_shows has hal
  refine fseq_run ?_
  simp only [fRet, fRet.stabR, fTuple, fB, g1, gTuple, gList, fList, fIx, f2R, gIx, fVar, fC, fCons, fNil, fTup, fLst, rCons, rNil, fSet, fAsg, tgName, tgTup, tgCons, tgNil, fYes, fAnd, fOr, fNot, fTest, boolW, gLt, gLe, gGt, gGe, gB2, f2, gI2, gI2C, fAdd, gAdd, fSub, fMul, gMul, fMod, fDiv, fPow, fNeg, f1, gNeg, fIfE, fAndV, fOrV, fNotV, fCall, fCallB, fCallBN, fCallN, fCallK, stab, Res.d, intW, fLen, gLen, fAbs, fInt, fMax2, fMin2, fMax3, gI1, gI2a, gI3a, fiSeq, gSeq, fiRng1, fiRng2, fiEnum, gEnum, fiRev, gRev, fiZip, gZip, fDrop, fNext, fBreak, fCont, fRetN, fShare, unown, fPar, parW, fPut, subW, fApp, appW, isOwL, fExt, extW, fSorted, gSorted, fListRg1, fListRev, fListKeys, fGet2, dictW, fDct0, fDct1, fRepr, gRepr, fAny, fAll, gBools, fSum, gSum, fMaxL, gMaxL, fMinL, gMinL, fChain, fSl, gSl, fPart, fNoP, fBagW, fBagI, fBagS, fBagIf, fScr, fBag, fBag2, nnW, wipeD, Res.ok, endsP, DL.endsL, endsO, gt0, gt1, gt2, gt3, gt4, gt5, gt6, gt7, gt8, gt9, gt10, gt11, gt12, gt13, gt14, gt15, st0, st1, st2, st3, st4, st5, st6, st7, st8, st9, st10, st11, st12, st13, st14, st15, Option.some.injEq, exists_eq_left', exists_eq_left, atI_zero, atI_one, atI_two, List.map_cons, List.map_nil, List.length_cons, List.length_nil, true_and, and_true, List.length_set, Bool.true_and, Bool.and_true, xor_f, xor_t]
  refine owns (r := .sh .none) (fun R hR => by simp only [fRet, fRet.stabR, fTuple, fB, g1, gTuple, gList, fList, fIx, f2R, gIx, fVar, fC, fCons, fNil, fTup, fLst, rCons, rNil, fSet, fAsg, tgName, tgTup, tgCons, tgNil, fYes, fAnd, fOr, fNot, fTest, boolW, gLt, gLe, gGt, gGe, gB2, f2, gI2, gI2C, fAdd, gAdd, fSub, fMul, gMul, fMod, fDiv, fPow, fNeg, f1, gNeg, fIfE, fAndV, fOrV, fNotV, fCall, fCallB, fCallBN, fCallN, fCallK, stab, Res.d, intW, fLen, gLen, fAbs, fInt, fMax2, fMin2, fMax3, gI1, gI2a, gI3a, fiSeq, gSeq, fiRng1, fiRng2, fiEnum, gEnum, fiRev, gRev, fiZip, gZip, fDrop, fNext, fBreak, fCont, fRetN, fShare, unown, fPar, parW, fPut, subW, fApp, appW, isOwL, fExt, extW, fSorted, gSorted, fListRg1, fListRev, fListKeys, fGet2, dictW, fDct0, fDct1, fRepr, gRepr, fAny, fAll, gBools, fSum, gSum, fMaxL, gMaxL, fMinL, gMinL, fChain, fSl, gSl, fPart, fNoP, fBagW, fBagI, fBagS, fBagIf, fScr, fBag, fBag2, nnW, wipeD, Res.ok, endsP, DL.endsL, endsO, gt0, gt1, gt2, gt3, gt4, gt5, gt6, gt7, gt8, gt9, gt10, gt11, gt12, gt13, gt14, gt15, st0, st1, st2, st3, st4, st5, st6, st7, st8, st9, st10, st11, st12, st13, st14, st15, Option.some.injEq, exists_eq_left', exists_eq_left, atI_zero, atI_one, atI_two, List.map_cons, List.map_nil, List.length_cons, List.length_nil, true_and, and_true, List.length_set, Bool.true_and, Bool.and_true, xor_f, xor_t]; exact hR _) has hal ⟨_, _, _, _, _, _, _, _, _, _, rfl⟩ ?_
  simp only [fRet, fRet.stabR, fTuple, fB, g1, gTuple, gList, fList, fIx, f2R, gIx, fVar, fC, fCons, fNil, fTup, fLst, rCons, rNil, fSet, fAsg, tgName, tgTup, tgCons, tgNil, fYes, fAnd, fOr, fNot, fTest, boolW, gLt, gLe, gGt, gGe, gB2, f2, gI2, gI2C, fAdd, gAdd, fSub, fMul, gMul, fMod, fDiv, fPow, fNeg, f1, gNeg, fIfE, fAndV, fOrV, fNotV, fCall, fCallB, fCallBN, fCallN, fCallK, stab, Res.d, intW, fLen, gLen, fAbs, fInt, fMax2, fMin2, fMax3, gI1, gI2a, gI3a, fiSeq, gSeq, fiRng1, fiRng2, fiEnum, gEnum, fiRev, gRev, fiZip, gZip, fDrop, fNext, fBreak, fCont, fRetN, fShare, unown, fPar, parW, fPut, subW, fApp, appW, isOwL, fExt, extW, fSorted, gSorted, fListRg1, fListRev, fListKeys, fGet2, dictW, fDct0, fDct1, fRepr, gRepr, fAny, fAll, gBools, fSum, gSum, fMaxL, gMaxL, fMinL, gMinL, fChain, fSl, gSl, fPart, fNoP, fBagW, fBagI, fBagS, fBagIf, fScr, fBag, fBag2, nnW, wipeD, Res.ok, endsP, DL.endsL, endsO, gt0, gt1, gt2, gt3, gt4, gt5, gt6, gt7, gt8, gt9, gt10, gt11, gt12, gt13, gt14, gt15, st0, st1, st2, st3, st4, st5, st6, st7, st8, st9, st10, st11, st12, st13, st14, st15, Option.some.injEq, exists_eq_left', exists_eq_left, atI_zero, atI_one, atI_two, List.map_cons, List.map_nil, List.length_cons, List.length_nil, true_and, and_true, List.length_set, Bool.true_and, Bool.and_true, xor_f, xor_t]
  refine ⟨sho, by decide, ?_⟩
  refine fseq_join (fun δ => ∃ (s7 s8 s9 : Slot), δ = LW ns (.sh (.list as)) s3 s4 s5 (.sh (.str (PyData.shown (.list (as.map ownD))))) s7 s8 s9) (fun nx hx => ?_) ?_
  · simp only [fRet, fRet.stabR, fTuple, fB, g1, gTuple, gList, fList, fIx, f2R, gIx, fVar, fC, fCons, fNil, fTup, fLst, rCons, rNil, fSet, fAsg, tgName, tgTup, tgCons, tgNil, fYes, fAnd, fOr, fNot, fTest, boolW, gLt, gLe, gGt, gGe, gB2, f2, gI2, gI2C, fAdd, gAdd, fSub, fMul, gMul, fMod, fDiv, fPow, fNeg, f1, gNeg, fIfE, fAndV, fOrV, fNotV, fCall, fCallB, fCallBN, fCallN, fCallK, stab, Res.d, intW, fLen, gLen, fAbs, fInt, fMax2, fMin2, fMax3, gI1, gI2a, gI3a, fiSeq, gSeq, fiRng1, fiRng2, fiEnum, gEnum, fiRev, gRev, fiZip, gZip, fDrop, fNext, fBreak, fCont, fRetN, fShare, unown, fPar, parW, fPut, subW, fApp, appW, isOwL, fExt, extW, fSorted, gSorted, fListRg1, fListRev, fListKeys, fGet2, dictW, fDct0, fDct1, fRepr, gRepr, fAny, fAll, gBools, fSum, gSum, fMaxL, gMaxL, fMinL, gMinL, fChain, fSl, gSl, fPart, fNoP, fBagW, fBagI, fBagS, fBagIf, fScr, fBag, fBag2, nnW, wipeD, Res.ok, endsP, DL.endsL, endsO, gt0, gt1, gt2, gt3, gt4, gt5, gt6, gt7, gt8, gt9, gt10, gt11, gt12, gt13, gt14, gt15, st0, st1, st2, st3, st4, st5, st6, st7, st8, st9, st10, st11, st12, st13, st14, st15, Option.some.injEq, exists_eq_left', exists_eq_left, atI_zero, atI_one, atI_two, List.map_cons, List.map_nil, List.length_cons, List.length_nil, true_and, and_true, List.length_set, Bool.true_and, Bool.and_true, xor_f, xor_t]
    refine ffor_run as (fun i δ => ∃ (s7 s8 s9 : Slot), δ = LW ns (.sh (.list as)) s3 s4 s5 (.sh (.str (PyData.shown (.list (as.map ownD))))) s7 s8 s9) (fun R hR => by simp only [fRet, fRet.stabR, fTuple, fB, g1, gTuple, gList, fList, fIx, f2R, gIx, fVar, fC, fCons, fNil, fTup, fLst, rCons, rNil, fSet, fAsg, tgName, tgTup, tgCons, tgNil, fYes, fAnd, fOr, fNot, fTest, boolW, gLt, gLe, gGt, gGe, gB2, f2, gI2, gI2C, fAdd, gAdd, fSub, fMul, gMul, fMod, fDiv, fPow, fNeg, f1, gNeg, fIfE, fAndV, fOrV, fNotV, fCall, fCallB, fCallBN, fCallN, fCallK, stab, Res.d, intW, fLen, gLen, fAbs, fInt, fMax2, fMin2, fMax3, gI1, gI2a, gI3a, fiSeq, gSeq, fiRng1, fiRng2, fiEnum, gEnum, fiRev, gRev, fiZip, gZip, fDrop, fNext, fBreak, fCont, fRetN, fShare, unown, fPar, parW, fPut, subW, fApp, appW, isOwL, fExt, extW, fSorted, gSorted, fListRg1, fListRev, fListKeys, fGet2, dictW, fDct0, fDct1, fRepr, gRepr, fAny, fAll, gBools, fSum, gSum, fMaxL, gMaxL, fMinL, gMinL, fChain, fSl, gSl, fPart, fNoP, fBagW, fBagI, fBagS, fBagIf, fScr, fBag, fBag2, nnW, wipeD, Res.ok, endsP, DL.endsL, endsO, gt0, gt1, gt2, gt3, gt4, gt5, gt6, gt7, gt8, gt9, gt10, gt11, gt12, gt13, gt14, gt15, st0, st1, st2, st3, st4, st5, st6, st7, st8, st9, st10, st11, st12, st13, st14, st15, Option.some.injEq, exists_eq_left', exists_eq_left, atI_zero, atI_one, atI_two, List.map_cons, List.map_nil, List.length_cons, List.length_nil, true_and, and_true, List.length_set, Bool.true_and, Bool.and_true, xor_f, xor_t]; exact hR) ⟨_, _, _, rfl⟩ ?_ ?_
    · rintro i a δ hd ⟨s7, s8, s9, rfl⟩
      have ha := has a (List.mem_of_getElem? hd)
      obtain ⟨w, own, due, rfl, h1, h2⟩ := ask_form ha
      have sd : shows due := (h2.mono (by omega) (by omega)).shows
      unfold LW
      simp only [fRet, fRet.stabR, fTuple, fB, g1, gTuple, gList, fList, fIx, f2R, gIx, fVar, fC, fCons, fNil, fTup, fLst, rCons, rNil, fSet, fAsg, tgName, tgTup, tgCons, tgNil, fYes, fAnd, fOr, fNot, fTest, boolW, gLt, gLe, gGt, gGe, gB2, f2, gI2, gI2C, fAdd, gAdd, fSub, fMul, gMul, fMod, fDiv, fPow, fNeg, f1, gNeg, fIfE, fAndV, fOrV, fNotV, fCall, fCallB, fCallBN, fCallN, fCallK, stab, Res.d, intW, fLen, gLen, fAbs, fInt, fMax2, fMin2, fMax3, gI1, gI2a, gI3a, fiSeq, gSeq, fiRng1, fiRng2, fiEnum, gEnum, fiRev, gRev, fiZip, gZip, fDrop, fNext, fBreak, fCont, fRetN, fShare, unown, fPar, parW, fPut, subW, fApp, appW, isOwL, fExt, extW, fSorted, gSorted, fListRg1, fListRev, fListKeys, fGet2, dictW, fDct0, fDct1, fRepr, gRepr, fAny, fAll, gBools, fSum, gSum, fMaxL, gMaxL, fMinL, gMinL, fChain, fSl, gSl, fPart, fNoP, fBagW, fBagI, fBagS, fBagIf, fScr, fBag, fBag2, nnW, wipeD, Res.ok, endsP, DL.endsL, endsO, gt0, gt1, gt2, gt3, gt4, gt5, gt6, gt7, gt8, gt9, gt10, gt11, gt12, gt13, gt14, gt15, st0, st1, st2, st3, st4, st5, st6, st7, st8, st9, st10, st11, st12, st13, st14, st15, Option.some.injEq, exists_eq_left', exists_eq_left, atI_zero, atI_one, atI_two, List.map_cons, List.map_nil, List.length_cons, List.length_nil, true_and, and_true, List.length_set, Bool.true_and, Bool.and_true, xor_f, xor_t]
      refine ⟨by decide, by decide, by decide, fif_run ?_⟩
      simp only [fRet, fRet.stabR, fTuple, fB, g1, gTuple, gList, fList, fIx, f2R, gIx, fVar, fC, fCons, fNil, fTup, fLst, rCons, rNil, fSet, fAsg, tgName, tgTup, tgCons, tgNil, fYes, fAnd, fOr, fNot, fTest, boolW, gLt, gLe, gGt, gGe, gB2, f2, gI2, gI2C, fAdd, gAdd, fSub, fMul, gMul, fMod, fDiv, fPow, fNeg, f1, gNeg, fIfE, fAndV, fOrV, fNotV, fCall, fCallB, fCallBN, fCallN, fCallK, stab, Res.d, intW, fLen, gLen, fAbs, fInt, fMax2, fMin2, fMax3, gI1, gI2a, gI3a, fiSeq, gSeq, fiRng1, fiRng2, fiEnum, gEnum, fiRev, gRev, fiZip, gZip, fDrop, fNext, fBreak, fCont, fRetN, fShare, unown, fPar, parW, fPut, subW, fApp, appW, isOwL, fExt, extW, fSorted, gSorted, fListRg1, fListRev, fListKeys, fGet2, dictW, fDct0, fDct1, fRepr, gRepr, fAny, fAll, gBools, fSum, gSum, fMaxL, gMaxL, fMinL, gMinL, fChain, fSl, gSl, fPart, fNoP, fBagW, fBagI, fBagS, fBagIf, fScr, fBag, fBag2, nnW, wipeD, Res.ok, endsP, DL.endsL, endsO, gt0, gt1, gt2, gt3, gt4, gt5, gt6, gt7, gt8, gt9, gt10, gt11, gt12, gt13, gt14, gt15, st0, st1, st2, st3, st4, st5, st6, st7, st8, st9, st10, st11, st12, st13, st14, st15, Option.some.injEq, exists_eq_left', exists_eq_left, atI_zero, atI_one, atI_two, List.map_cons, List.map_nil, List.length_cons, List.length_nil, true_and, and_true, List.length_set, Bool.true_and, Bool.and_true, xor_f, xor_t]
      refine ⟨w, own, due, false, rfl, ha, ?_⟩
      simp only [fRet, fRet.stabR, fTuple, fB, g1, gTuple, gList, fList, fIx, f2R, gIx, fVar, fC, fCons, fNil, fTup, fLst, rCons, rNil, fSet, fAsg, tgName, tgTup, tgCons, tgNil, fYes, fAnd, fOr, fNot, fTest, boolW, gLt, gLe, gGt, gGe, gB2, f2, gI2, gI2C, fAdd, gAdd, fSub, fMul, gMul, fMod, fDiv, fPow, fNeg, f1, gNeg, fIfE, fAndV, fOrV, fNotV, fCall, fCallB, fCallBN, fCallN, fCallK, stab, Res.d, intW, fLen, gLen, fAbs, fInt, fMax2, fMin2, fMax3, gI1, gI2a, gI3a, fiSeq, gSeq, fiRng1, fiRng2, fiEnum, gEnum, fiRev, gRev, fiZip, gZip, fDrop, fNext, fBreak, fCont, fRetN, fShare, unown, fPar, parW, fPut, subW, fApp, appW, isOwL, fExt, extW, fSorted, gSorted, fListRg1, fListRev, fListKeys, fGet2, dictW, fDct0, fDct1, fRepr, gRepr, fAny, fAll, gBools, fSum, gSum, fMaxL, gMaxL, fMinL, gMinL, fChain, fSl, gSl, fPart, fNoP, fBagW, fBagI, fBagS, fBagIf, fScr, fBag, fBag2, nnW, wipeD, Res.ok, endsP, DL.endsL, endsO, gt0, gt1, gt2, gt3, gt4, gt5, gt6, gt7, gt8, gt9, gt10, gt11, gt12, gt13, gt14, gt15, st0, st1, st2, st3, st4, st5, st6, st7, st8, st9, st10, st11, st12, st13, st14, st15, Option.some.injEq, exists_eq_left', exists_eq_left, atI_zero, atI_one, atI_two, List.map_cons, List.map_nil, List.length_cons, List.length_nil, true_and, and_true, List.length_set, Bool.true_and, Bool.and_true, xor_f, xor_t, gNe_str_eq]
      refine ⟨sd, sd, iteF' (by simp) ⟨_, _, _, rfl⟩⟩
    · rintro δ ⟨s7, s8, s9, rfl⟩
      exact hx _ ⟨_, _, _, rfl⟩
  rintro δ ⟨s7, s8, s9, rfl⟩
  unfold LW
  refine fseq_join (fun δ => ∃ (s7 s8 s9 : Slot), δ = LW ns (.sh (.list as)) s3 s4 s5 (.sh (.str (PyData.shown (.list (as.map ownD))))) s7 s8 s9) (fun nx hx => ?_) ?_
  · refine ffor_run as.reverse (fun i δ => ∃ (s7 s8 s9 : Slot), δ = LW ns (.sh (.list as)) s3 s4 s5 (.sh (.str (PyData.shown (.list (as.map ownD))))) s7 s8 s9) (fun R hR => by simp only [fRet, fRet.stabR, fTuple, fB, g1, gTuple, gList, fList, fIx, f2R, gIx, fVar, fC, fCons, fNil, fTup, fLst, rCons, rNil, fSet, fAsg, tgName, tgTup, tgCons, tgNil, fYes, fAnd, fOr, fNot, fTest, boolW, gLt, gLe, gGt, gGe, gB2, f2, gI2, gI2C, fAdd, gAdd, fSub, fMul, gMul, fMod, fDiv, fPow, fNeg, f1, gNeg, fIfE, fAndV, fOrV, fNotV, fCall, fCallB, fCallBN, fCallN, fCallK, stab, Res.d, intW, fLen, gLen, fAbs, fInt, fMax2, fMin2, fMax3, gI1, gI2a, gI3a, fiSeq, gSeq, fiRng1, fiRng2, fiEnum, gEnum, fiRev, gRev, fiZip, gZip, fDrop, fNext, fBreak, fCont, fRetN, fShare, unown, fPar, parW, fPut, subW, fApp, appW, isOwL, fExt, extW, fSorted, gSorted, fListRg1, fListRev, fListKeys, fGet2, dictW, fDct0, fDct1, fRepr, gRepr, fAny, fAll, gBools, fSum, gSum, fMaxL, gMaxL, fMinL, gMinL, fChain, fSl, gSl, fPart, fNoP, fBagW, fBagI, fBagS, fBagIf, fScr, fBag, fBag2, nnW, wipeD, Res.ok, endsP, DL.endsL, endsO, gt0, gt1, gt2, gt3, gt4, gt5, gt6, gt7, gt8, gt9, gt10, gt11, gt12, gt13, gt14, gt15, st0, st1, st2, st3, st4, st5, st6, st7, st8, st9, st10, st11, st12, st13, st14, st15, Option.some.injEq, exists_eq_left', exists_eq_left, atI_zero, atI_one, atI_two, List.map_cons, List.map_nil, List.length_cons, List.length_nil, true_and, and_true, List.length_set, Bool.true_and, Bool.and_true, xor_f, xor_t]; exact hR) ⟨_, _, _, rfl⟩ ?_ ?_
    · rintro i a δ hd ⟨s7, s8, s9, rfl⟩
      have ha := has a (List.mem_reverse.mp (List.mem_of_getElem? hd))
      obtain ⟨w, own, due, rfl, h1, h2⟩ := ask_form ha
      have sd : shows due := (h2.mono (by omega) (by omega)).shows
      unfold LW
      simp only [fRet, fRet.stabR, fTuple, fB, g1, gTuple, gList, fList, fIx, f2R, gIx, fVar, fC, fCons, fNil, fTup, fLst, rCons, rNil, fSet, fAsg, tgName, tgTup, tgCons, tgNil, fYes, fAnd, fOr, fNot, fTest, boolW, gLt, gLe, gGt, gGe, gB2, f2, gI2, gI2C, fAdd, gAdd, fSub, fMul, gMul, fMod, fDiv, fPow, fNeg, f1, gNeg, fIfE, fAndV, fOrV, fNotV, fCall, fCallB, fCallBN, fCallN, fCallK, stab, Res.d, intW, fLen, gLen, fAbs, fInt, fMax2, fMin2, fMax3, gI1, gI2a, gI3a, fiSeq, gSeq, fiRng1, fiRng2, fiEnum, gEnum, fiRev, gRev, fiZip, gZip, fDrop, fNext, fBreak, fCont, fRetN, fShare, unown, fPar, parW, fPut, subW, fApp, appW, isOwL, fExt, extW, fSorted, gSorted, fListRg1, fListRev, fListKeys, fGet2, dictW, fDct0, fDct1, fRepr, gRepr, fAny, fAll, gBools, fSum, gSum, fMaxL, gMaxL, fMinL, gMinL, fChain, fSl, gSl, fPart, fNoP, fBagW, fBagI, fBagS, fBagIf, fScr, fBag, fBag2, nnW, wipeD, Res.ok, endsP, DL.endsL, endsO, gt0, gt1, gt2, gt3, gt4, gt5, gt6, gt7, gt8, gt9, gt10, gt11, gt12, gt13, gt14, gt15, st0, st1, st2, st3, st4, st5, st6, st7, st8, st9, st10, st11, st12, st13, st14, st15, Option.some.injEq, exists_eq_left', exists_eq_left, atI_zero, atI_one, atI_two, List.map_cons, List.map_nil, List.length_cons, List.length_nil, true_and, and_true, List.length_set, Bool.true_and, Bool.and_true, xor_f, xor_t]
      refine ⟨by decide, by decide, by decide, fif_run ?_⟩
      simp only [fRet, fRet.stabR, fTuple, fB, g1, gTuple, gList, fList, fIx, f2R, gIx, fVar, fC, fCons, fNil, fTup, fLst, rCons, rNil, fSet, fAsg, tgName, tgTup, tgCons, tgNil, fYes, fAnd, fOr, fNot, fTest, boolW, gLt, gLe, gGt, gGe, gB2, f2, gI2, gI2C, fAdd, gAdd, fSub, fMul, gMul, fMod, fDiv, fPow, fNeg, f1, gNeg, fIfE, fAndV, fOrV, fNotV, fCall, fCallB, fCallBN, fCallN, fCallK, stab, Res.d, intW, fLen, gLen, fAbs, fInt, fMax2, fMin2, fMax3, gI1, gI2a, gI3a, fiSeq, gSeq, fiRng1, fiRng2, fiEnum, gEnum, fiRev, gRev, fiZip, gZip, fDrop, fNext, fBreak, fCont, fRetN, fShare, unown, fPar, parW, fPut, subW, fApp, appW, isOwL, fExt, extW, fSorted, gSorted, fListRg1, fListRev, fListKeys, fGet2, dictW, fDct0, fDct1, fRepr, gRepr, fAny, fAll, gBools, fSum, gSum, fMaxL, gMaxL, fMinL, gMinL, fChain, fSl, gSl, fPart, fNoP, fBagW, fBagI, fBagS, fBagIf, fScr, fBag, fBag2, nnW, wipeD, Res.ok, endsP, DL.endsL, endsO, gt0, gt1, gt2, gt3, gt4, gt5, gt6, gt7, gt8, gt9, gt10, gt11, gt12, gt13, gt14, gt15, st0, st1, st2, st3, st4, st5, st6, st7, st8, st9, st10, st11, st12, st13, st14, st15, Option.some.injEq, exists_eq_left', exists_eq_left, atI_zero, atI_one, atI_two, List.map_cons, List.map_nil, List.length_cons, List.length_nil, true_and, and_true, List.length_set, Bool.true_and, Bool.and_true, xor_f, xor_t]
      refine ⟨w, own, due, true, rfl, ha, ?_⟩
      simp only [fRet, fRet.stabR, fTuple, fB, g1, gTuple, gList, fList, fIx, f2R, gIx, fVar, fC, fCons, fNil, fTup, fLst, rCons, rNil, fSet, fAsg, tgName, tgTup, tgCons, tgNil, fYes, fAnd, fOr, fNot, fTest, boolW, gLt, gLe, gGt, gGe, gB2, f2, gI2, gI2C, fAdd, gAdd, fSub, fMul, gMul, fMod, fDiv, fPow, fNeg, f1, gNeg, fIfE, fAndV, fOrV, fNotV, fCall, fCallB, fCallBN, fCallN, fCallK, stab, Res.d, intW, fLen, gLen, fAbs, fInt, fMax2, fMin2, fMax3, gI1, gI2a, gI3a, fiSeq, gSeq, fiRng1, fiRng2, fiEnum, gEnum, fiRev, gRev, fiZip, gZip, fDrop, fNext, fBreak, fCont, fRetN, fShare, unown, fPar, parW, fPut, subW, fApp, appW, isOwL, fExt, extW, fSorted, gSorted, fListRg1, fListRev, fListKeys, fGet2, dictW, fDct0, fDct1, fRepr, gRepr, fAny, fAll, gBools, fSum, gSum, fMaxL, gMaxL, fMinL, gMinL, fChain, fSl, gSl, fPart, fNoP, fBagW, fBagI, fBagS, fBagIf, fScr, fBag, fBag2, nnW, wipeD, Res.ok, endsP, DL.endsL, endsO, gt0, gt1, gt2, gt3, gt4, gt5, gt6, gt7, gt8, gt9, gt10, gt11, gt12, gt13, gt14, gt15, st0, st1, st2, st3, st4, st5, st6, st7, st8, st9, st10, st11, st12, st13, st14, st15, Option.some.injEq, exists_eq_left', exists_eq_left, atI_zero, atI_one, atI_two, List.map_cons, List.map_nil, List.length_cons, List.length_nil, true_and, and_true, List.length_set, Bool.true_and, Bool.and_true, xor_f, xor_t, gNe_str_eq]
      refine ⟨sd, sd, iteF' (by simp) ⟨_, _, _, rfl⟩⟩
    · rintro δ ⟨s7, s8, s9, rfl⟩
      exact hx _ ⟨_, _, _, rfl⟩
  rintro δ ⟨s7, s8, s9, rfl⟩
  unfold LW
  simp only [fRet, fRet.stabR, fTuple, fB, g1, gTuple, gList, fList, fIx, f2R, gIx, fVar, fC, fCons, fNil, fTup, fLst, rCons, rNil, fSet, fAsg, tgName, tgTup, tgCons, tgNil, fYes, fAnd, fOr, fNot, fTest, boolW, gLt, gLe, gGt, gGe, gB2, f2, gI2, gI2C, fAdd, gAdd, fSub, fMul, gMul, fMod, fDiv, fPow, fNeg, f1, gNeg, fIfE, fAndV, fOrV, fNotV, fCall, fCallB, fCallBN, fCallN, fCallK, stab, Res.d, intW, fLen, gLen, fAbs, fInt, fMax2, fMin2, fMax3, gI1, gI2a, gI3a, fiSeq, gSeq, fiRng1, fiRng2, fiEnum, gEnum, fiRev, gRev, fiZip, gZip, fDrop, fNext, fBreak, fCont, fRetN, fShare, unown, fPar, parW, fPut, subW, fApp, appW, isOwL, fExt, extW, fSorted, gSorted, fListRg1, fListRev, fListKeys, fGet2, dictW, fDct0, fDct1, fRepr, gRepr, fAny, fAll, gBools, fSum, gSum, fMaxL, gMaxL, fMinL, gMinL, fChain, fSl, gSl, fPart, fNoP, fBagW, fBagI, fBagS, fBagIf, fScr, fBag, fBag2, nnW, wipeD, Res.ok, endsP, DL.endsL, endsO, gt0, gt1, gt2, gt3, gt4, gt5, gt6, gt7, gt8, gt9, gt10, gt11, gt12, gt13, gt14, gt15, st0, st1, st2, st3, st4, st5, st6, st7, st8, st9, st10, st11, st12, st13, st14, st15, Option.some.injEq, exists_eq_left', exists_eq_left, atI_zero, atI_one, atI_two, List.map_cons, List.map_nil, List.length_cons, List.length_nil, true_and, and_true, List.length_set, Bool.true_and, Bool.and_true, xor_f, xor_t]
  refine owns (r := .sh .none) (fun R hR => by simp only [fRet, fRet.stabR, fTuple, fB, g1, gTuple, gList, fList, fIx, f2R, gIx, fVar, fC, fCons, fNil, fTup, fLst, rCons, rNil, fSet, fAsg, tgName, tgTup, tgCons, tgNil, fYes, fAnd, fOr, fNot, fTest, boolW, gLt, gLe, gGt, gGe, gB2, f2, gI2, gI2C, fAdd, gAdd, fSub, fMul, gMul, fMod, fDiv, fPow, fNeg, f1, gNeg, fIfE, fAndV, fOrV, fNotV, fCall, fCallB, fCallBN, fCallN, fCallK, stab, Res.d, intW, fLen, gLen, fAbs, fInt, fMax2, fMin2, fMax3, gI1, gI2a, gI3a, fiSeq, gSeq, fiRng1, fiRng2, fiEnum, gEnum, fiRev, gRev, fiZip, gZip, fDrop, fNext, fBreak, fCont, fRetN, fShare, unown, fPar, parW, fPut, subW, fApp, appW, isOwL, fExt, extW, fSorted, gSorted, fListRg1, fListRev, fListKeys, fGet2, dictW, fDct0, fDct1, fRepr, gRepr, fAny, fAll, gBools, fSum, gSum, fMaxL, gMaxL, fMinL, gMinL, fChain, fSl, gSl, fPart, fNoP, fBagW, fBagI, fBagS, fBagIf, fScr, fBag, fBag2, nnW, wipeD, Res.ok, endsP, DL.endsL, endsO, gt0, gt1, gt2, gt3, gt4, gt5, gt6, gt7, gt8, gt9, gt10, gt11, gt12, gt13, gt14, gt15, st0, st1, st2, st3, st4, st5, st6, st7, st8, st9, st10, st11, st12, st13, st14, st15, Option.some.injEq, exists_eq_left', exists_eq_left, atI_zero, atI_one, atI_two, List.map_cons, List.map_nil, List.length_cons, List.length_nil, true_and, and_true, List.length_set, Bool.true_and, Bool.and_true, xor_f, xor_t]; exact hR _) has hal ⟨_, _, _, _, _, _, _, _, _, _, rfl⟩ ?_
  simp only [fRet, fRet.stabR, fTuple, fB, g1, gTuple, gList, fList, fIx, f2R, gIx, fVar, fC, fCons, fNil, fTup, fLst, rCons, rNil, fSet, fAsg, tgName, tgTup, tgCons, tgNil, fYes, fAnd, fOr, fNot, fTest, boolW, gLt, gLe, gGt, gGe, gB2, f2, gI2, gI2C, fAdd, gAdd, fSub, fMul, gMul, fMod, fDiv, fPow, fNeg, f1, gNeg, fIfE, fAndV, fOrV, fNotV, fCall, fCallB, fCallBN, fCallN, fCallK, stab, Res.d, intW, fLen, gLen, fAbs, fInt, fMax2, fMin2, fMax3, gI1, gI2a, gI3a, fiSeq, gSeq, fiRng1, fiRng2, fiEnum, gEnum, fiRev, gRev, fiZip, gZip, fDrop, fNext, fBreak, fCont, fRetN, fShare, unown, fPar, parW, fPut, subW, fApp, appW, isOwL, fExt, extW, fSorted, gSorted, fListRg1, fListRev, fListKeys, fGet2, dictW, fDct0, fDct1, fRepr, gRepr, fAny, fAll, gBools, fSum, gSum, fMaxL, gMaxL, fMinL, gMinL, fChain, fSl, gSl, fPart, fNoP, fBagW, fBagI, fBagS, fBagIf, fScr, fBag, fBag2, nnW, wipeD, Res.ok, endsP, DL.endsL, endsO, gt0, gt1, gt2, gt3, gt4, gt5, gt6, gt7, gt8, gt9, gt10, gt11, gt12, gt13, gt14, gt15, st0, st1, st2, st3, st4, st5, st6, st7, st8, st9, st10, st11, st12, st13, st14, st15, Option.some.injEq, exists_eq_left', exists_eq_left, atI_zero, atI_one, atI_two, List.map_cons, List.map_nil, List.length_cons, List.length_nil, true_and, and_true, List.length_set, Bool.true_and, Bool.and_true, xor_f, xor_t]
  refine ⟨sho, ?_⟩
  simp only [fRet, fRet.stabR, fTuple, fB, g1, gTuple, gList, fList, fIx, f2R, gIx, fVar, fC, fCons, fNil, fTup, fLst, rCons, rNil, fSet, fAsg, tgName, tgTup, tgCons, tgNil, fYes, fAnd, fOr, fNot, fTest, boolW, gLt, gLe, gGt, gGe, gB2, f2, gI2, gI2C, fAdd, gAdd, fSub, fMul, gMul, fMod, fDiv, fPow, fNeg, f1, gNeg, fIfE, fAndV, fOrV, fNotV, fCall, fCallB, fCallBN, fCallN, fCallK, stab, Res.d, intW, fLen, gLen, fAbs, fInt, fMax2, fMin2, fMax3, gI1, gI2a, gI3a, fiSeq, gSeq, fiRng1, fiRng2, fiEnum, gEnum, fiRev, gRev, fiZip, gZip, fDrop, fNext, fBreak, fCont, fRetN, fShare, unown, fPar, parW, fPut, subW, fApp, appW, isOwL, fExt, extW, fSorted, gSorted, fListRg1, fListRev, fListKeys, fGet2, dictW, fDct0, fDct1, fRepr, gRepr, fAny, fAll, gBools, fSum, gSum, fMaxL, gMaxL, fMinL, gMinL, fChain, fSl, gSl, fPart, fNoP, fBagW, fBagI, fBagS, fBagIf, fScr, fBag, fBag2, nnW, wipeD, Res.ok, endsP, DL.endsL, endsO, gt0, gt1, gt2, gt3, gt4, gt5, gt6, gt7, gt8, gt9, gt10, gt11, gt12, gt13, gt14, gt15, st0, st1, st2, st3, st4, st5, st6, st7, st8, st9, st10, st11, st12, st13, st14, st15, Option.some.injEq, exists_eq_left', exists_eq_left, atI_zero, atI_one, atI_two, List.map_cons, List.map_nil, List.length_cons, List.length_nil, true_and, and_true, List.length_set, Bool.true_and, Bool.and_true, xor_f, xor_t, gEq_str_eq]
  simp
end G61

namespace G61
open PySem PySem.Spec PyProof.Rows L2 DL
theorem At.kb {K : Fg} {mg : Str → Option Value} {x : Str} {st : Stmt} {ps ks : List Str} {ix : List Nat} {f : Addr} {fd : FuncData} (A : At K mg x st ps f fd) (np : Nat) (hix : ix.length = np + ks.length)
    (h : ∀ (kV doc pm : Value) (an : Option Addr) (cdv ct : Value) (us ws : List Value), us.length = np → ws.length = ks.length → bindArgs (PySem.W.fnOf x x (defArgs st) (defBody st) (defScope st) .none kV doc pm an cdv ct) ⟨us, ks.zip ws⟩ = pure (ps.zip (ix.filterMap fun i => (us ++ ws)[i]?))) : KB K fd ps ks ix := by
  obtain ⟨⟨oc, od, kV, doc, pm, an, cdv, ct, osl, rfl, _⟩, _⟩ := A.fn
  exact ⟨fun s us ws _ h1 h2 => .of_eq (h _ _ _ _ _ _ us ws (by rw [List.length_append] at h1; omega) h2.symm)⟩
theorem at_mk {h : Heap} {K : Fg} {mg : Str → Option Value} (X : K.In h) (G : h.Ns mainGlobals mg) {x : Str} {st : Stmt} {ps : List Str} {f : Addr} {oc : Value} {od an : Option Addr} {osl : Array (Option Value)} {kV doc pm cdv ct : Value}
    (a : PySem.W.nsIn K mainGlobals x = some (some (.ref f))) (l : K.lookup f = some ⟨oc, od, .func (PySem.W.fnOf x x (defArgs st) (defBody st) (defScope st) .none kV doc pm an cdv ct), osl⟩) (c : PySem.W.codeIn K cdv x = true) (k : PySem.W.keepIn K (.ref f) = true)
    (hb : ∀ (kV doc pm : Value) (an : Option Addr) (cdv ct : Value) (us : List Value), us.length = ps.length → bindArgs (PySem.W.fnOf x x (defArgs st) (defBody st) (defScope st) .none kV doc pm an cdv ct) ⟨us, []⟩ = pure (ps.zip us)) :
    ∃ f fd, At K mg x st ps f fd := by
  have F := fun_mk (st := st) l c k
  exact ⟨f, _, PySem.W.mg_of X G a, F, F.binds hb⟩
structure Facts (K : Fg) (mg : Str → Option Value) : Prop where
  d_change_of : ∃ f fd, At K mg "change_of" (topS 1) ["net", "k"] f fd
  d_rises_of : ∃ f fd, At K mg "rises_of" (topS 5) ["net"] f fd
  d_ways_within : ∃ f fd, At K mg "ways_within" (topS 6) ["net", "n", "top"] f fd
  d_top_for : ∃ f fd, At K mg "top_for" (topS 7) ["n", "y"] f fd
  d_come_numbers : ∃ f fd, At K mg "come_numbers" (topS 8) ["net", "n", "most"] f fd
  d_comes_to : ∃ f fd, At K mg "comes_to" (topS 9) ["net", "n", "y"] f fd
  d_rising_step : ∃ f fd, At K mg "rising_step" (topS 10) ["net", "n"] f fd
  d_is_endless : ∃ f fd, At K mg "is_endless" (topS 11) ["net", "n"] f fd
  d_net_measure : ∃ f fd, At K mg "net_measure" (topS 12) ["net"] f fd
  d__law_own_bag : ∃ f fd, At K mg "_law_own_bag" (topS 14) ["script"] f fd
  d__law_draw : ∃ f fd, At K mg "_law_draw" (topS 15) ["bag", "below"] f fd
  d__law_pick : ∃ f fd, At K mg "_law_pick" (topS 16) ["bag", "some"] f fd
  d__law_number : ∃ f fd, At K mg "_law_number" (topS 17) ["bag", "most"] f fd
  d__law_is_kind : ∃ f fd, At K mg "_law_is_kind" (topS 18) ["take", "put", "way", "g", "n"] f fd
  d__law_net : ∃ f fd, At K mg "_law_net" (topS 19) ["bag", "n", "most", "way"] f fd
  d__law_moves : ∃ f fd, At K mg "_law_moves" (topS 20) ["net"] f fd
  d__law_far : ∃ f fd, At K mg "_law_far" (topS 21) ["net", "n", "top"] f fd
  d__law_measure : ∃ f fd, At K mg "_law_measure" (topS 22) ["net"] f fd
  d__law_is_endless : ∃ f fd, At K mg "_law_is_endless" (topS 23) ["net", "n"] f fd
  d__law_told : ∃ f fd, At K mg "_law_told" (topS 24) ["word", "own", "is_named"] f fd
  d__law_asks : ∃ f fd, At K mg "_law_asks" (topS 25) ["bag", "net", "n"] f fd
  d_law : ∃ f fd, At K mg "law" (topS 26) ["script"] f fd
  b_zip : mg "zip" = none
  b_tuple : mg "tuple" = none
  b_len : mg "len" = none
  b_range : mg "range" = none
  b_list : mg "list" = none
  b_enumerate : mg "enumerate" = none
  c_FREE_FROM : ∃ t, mg "FREE_FROM" = some (.int 9 t)
  b_max : mg "max" = none
  c_MOST_ABOVE : ∃ t, mg "MOST_ABOVE" = some (.int 18 t)
  b_sorted : mg "sorted" = none
  b_abs : mg "abs" = none
  b_reversed : mg "reversed" = none
  b_int : mg "int" = none
  b_min : mg "min" = none
  b_any : mg "any" = none
  b_repr : mg "repr" = none
theorem law_fn {P : Program} {w : World} {K : Fg} {mg : Str → Option Value} {base : Heap} {fa : Addr} {fda : FuncData} (T : Facts K mg) (A_law : At K mg "law" (topS 26) ["script"] fa fda) : FnG P w K mg base 7 fa fda ["script"] (spL K) := by
  obtain ⟨f_change_of, fd_change_of, A_change_of⟩ := T.d_change_of
  have F_change_of := fnP (P := P) (w := w) (base := base) (g := S_change_of) A_change_of.fn sc_change_of (by decide) (by rintro ds QD ED ⟨_, _, _, rfl, _⟩; rfl) (der_change_of T.b_zip T.b_tuple) l_change_of
  obtain ⟨f_rises_of, fd_rises_of, A_rises_of⟩ := T.d_rises_of
  have F_rises_of := fnP (P := P) (w := w) (base := base) (g := S_rises_of) A_rises_of.fn sc_rises_of (by decide) (by rintro ds QD ED ⟨_, rfl, _⟩; rfl) (der_rises_of T.b_len T.b_range A_change_of F_change_of) l_rises_of
  obtain ⟨f_net_measure, fd_net_measure, A_net_measure⟩ := T.d_net_measure
  have F_net_measure := fnP (P := P) (w := w) (base := base) (g := S_net_measure) A_net_measure.fn sc_net_measure (by decide) (by rintro ds QD ED ⟨_, rfl, _⟩; rfl) (der_net_measure T.b_abs A_rises_of F_rises_of) l_net_measure
  obtain ⟨f_ways_within, fd_ways_within, A_ways_within⟩ := T.d_ways_within
  have F_ways_within := fnP (P := P) (w := w) (base := base) (g := S_ways_within) A_ways_within.fn sc_ways_within (by decide) (by rintro ds QD ED ⟨_, _, _, rfl, _⟩; rfl) (der_ways_within T.b_list T.b_enumerate A_rises_of F_rises_of) l_ways_within
  obtain ⟨f_rising_step, fd_rising_step, A_rising_step⟩ := T.d_rising_step
  have F_rising_step := fnP (P := P) (w := w) (base := base) (g := S_rising_step) A_rising_step.fn sc_rising_step (by decide) (by rintro ds QD ED ⟨_, _, rfl, _⟩; rfl) (der_rising_step T.b_sorted A_ways_within F_ways_within A_rises_of F_rises_of) l_rising_step
  obtain ⟨f_is_endless, fd_is_endless, A_is_endless⟩ := T.d_is_endless
  have F_is_endless := fnP (P := P) (w := w) (base := base) (g := S_is_endless) A_is_endless.fn sc_is_endless (by decide) (by rintro ds QD ED ⟨_, _, rfl, _⟩; rfl) (der_is_endless A_rising_step F_rising_step) l_is_endless
  obtain ⟨f_top_for, fd_top_for, A_top_for⟩ := T.d_top_for
  have F_top_for := fnP (P := P) (w := w) (base := base) (g := S_top_for) A_top_for.fn sc_top_for (by decide) (by rintro ds QD ED ⟨_, _, rfl, _⟩; rfl) (der_top_for T.c_FREE_FROM T.b_max T.c_MOST_ABOVE) l_top_for
  obtain ⟨f_comes_to, fd_comes_to, A_comes_to⟩ := T.d_comes_to
  have F_comes_to := fnP (P := P) (w := w) (base := base) (g := S_comes_to) A_comes_to.fn sc_comes_to (by decide) (by rintro ds QD ED ⟨_, _, _, rfl, _⟩; rfl) (der_comes_to A_ways_within F_ways_within A_top_for F_top_for) l_comes_to
  obtain ⟨f_come_numbers, fd_come_numbers, A_come_numbers⟩ := T.d_come_numbers
  have F_come_numbers := fnP (P := P) (w := w) (base := base) (g := S_come_numbers) A_come_numbers.fn sc_come_numbers (by decide) (by rintro ds QD ED ⟨_, _, _, rfl, _⟩; rfl) (der_come_numbers T.b_sorted T.b_tuple A_ways_within F_ways_within A_top_for F_top_for) l_come_numbers
  obtain ⟨f__law_told, fd__law_told, A__law_told⟩ := T.d__law_told
  have KB_net_measure_net : KB K fd_net_measure ["net"] ["net"] [0] := A_net_measure.kb 0 rfl (fun _ _ _ _ _ _ us ws h1 h2 => match us, ws, h1, h2 with | [], [_], _, _ => rfl)
  have KB_is_endless_net_n : KB K fd_is_endless ["net", "n"] ["net", "n"] [0, 1] := A_is_endless.kb 0 rfl (fun _ _ _ _ _ _ us ws h1 h2 => match us, ws, h1, h2 with | [], [_, _], _, _ => rfl)
  have KB_comes_to_y_n_net : KB K fd_comes_to ["net", "n", "y"] ["y", "n", "net"] [2, 1, 0] := A_comes_to.kb 0 rfl (fun _ _ _ _ _ _ us ws h1 h2 => match us, ws, h1, h2 with | [], [_, _, _], _, _ => rfl)
  have KB_come_numbers_most_n_net : KB K fd_come_numbers ["net", "n", "most"] ["most", "n", "net"] [2, 1, 0] := A_come_numbers.kb 0 rfl (fun _ _ _ _ _ _ us ws h1 h2 => match us, ws, h1, h2 with | [], [_, _, _], _, _ => rfl)
  have F__law_told := fnP (P := P) (w := w) (base := base) (g := S_told) A__law_told.fn sc__law_told (by decide) (by rintro ds QD ED ⟨_, _, _, _, rfl, _⟩; rfl) (der__law_told A_net_measure F_net_measure A_is_endless F_is_endless A_comes_to F_comes_to A_come_numbers F_come_numbers KB_net_measure_net KB_is_endless_net_n KB_comes_to_y_n_net KB_come_numbers_most_n_net) l_told
  obtain ⟨f__law_measure, fd__law_measure, A__law_measure⟩ := T.d__law_measure
  have F__law_measure := fnP (P := P) (w := w) (base := base) (g := S_measure) A__law_measure.fn sc__law_measure (by decide) (by rintro ds QD ED ⟨_, rfl, _⟩; rfl) (der__law_measure T.b_int T.b_abs) l_measure
  obtain ⟨f__law_draw, fd__law_draw, A__law_draw⟩ := T.d__law_draw
  have F__law_draw := fnB (P := P) (w := w) (base := base) (g := S_draw) A__law_draw.fn sc__law_draw (by decide) (by rintro ds QD ED ⟨_, rfl, _⟩; rfl) (der__law_draw T.b_int) l_draw
  obtain ⟨f__law_is_endless, fd__law_is_endless, A__law_is_endless⟩ := T.d__law_is_endless
  have F__law_is_endless := fnP (P := P) (w := w) (base := base) (g := S_law_endless) A__law_is_endless.fn sc__law_is_endless (by decide) (by rintro ds QD ED ⟨_, _, rfl, _⟩; rfl) (der__law_is_endless T.b_any) l_law_endless
  obtain ⟨f__law_pick, fd__law_pick, A__law_pick⟩ := T.d__law_pick
  have F__law_pick := fnB (P := P) (w := w) (base := base) (g := S_pick) A__law_pick.fn sc__law_pick (by decide) (by rintro ds QD ED ⟨_, rfl | rfl, _⟩ <;> rfl) (der__law_pick T.b_len A__law_draw F__law_draw) l_pick
  obtain ⟨f__law_number, fd__law_number, A__law_number⟩ := T.d__law_number
  have F__law_number := fnB (P := P) (w := w) (base := base) (g := S_number) A__law_number.fn sc__law_number (by decide) (by rintro ds QD ED ⟨_, rfl, _⟩; rfl) (der__law_number A__law_draw F__law_draw) l_number
  obtain ⟨f__law_moves, fd__law_moves, A__law_moves⟩ := T.d__law_moves
  have F__law_moves := fnP (P := P) (w := w) (base := base) (g := S_moves) A__law_moves.fn sc__law_moves (by decide) (by rintro ds QD ED ⟨_, rfl, _⟩; rfl) (der__law_moves T.b_list T.b_sorted T.b_min) l_moves
  obtain ⟨f__law_far, fd__law_far, A__law_far⟩ := T.d__law_far
  have F__law_far := fnP (P := P) (w := w) (base := base) (g := S_far) A__law_far.fn sc__law_far (by decide) (by rintro ds QD ED ⟨_, _, _, rfl, _⟩; rfl) (der__law_far T.b_range T.b_len A__law_moves F__law_moves) l_far
  obtain ⟨f__law_asks, fd__law_asks, A__law_asks⟩ := T.d__law_asks
  have F__law_asks := fnB (P := P) (w := w) (base := base) (g := S_asks) A__law_asks.fn sc__law_asks (by decide) (by rintro ds QD ED ⟨_, _, rfl, _⟩; rfl) (der__law_asks T.b_len T.b_max T.b_min T.b_list T.b_range T.b_tuple A__law_measure F__law_measure A__law_draw F__law_draw A__law_is_endless F__law_is_endless A__law_pick F__law_pick A__law_number F__law_number A__law_far F__law_far) l_asks
  obtain ⟨f__law_is_kind, fd__law_is_kind, A__law_is_kind⟩ := T.d__law_is_kind
  have F__law_is_kind := fnP (P := P) (w := w) (base := base) (g := S_kind) A__law_is_kind.fn sc__law_is_kind (by decide) (by rintro ds QD ED ⟨_, _, _, _, _, rfl, _⟩; rfl) (der__law_is_kind T.b_abs T.b_int) l_kind
  obtain ⟨f__law_net, fd__law_net, A__law_net⟩ := T.d__law_net
  have F__law_net := fnB (P := P) (w := w) (base := base) (g := S_net) A__law_net.fn sc__law_net (by decide) (by rintro ds QD ED ⟨_, _, rfl, _⟩; rfl) (der__law_net T.b_tuple T.b_min T.b_len T.b_range A__law_draw F__law_draw A__law_pick F__law_pick A__law_is_kind F__law_is_kind) l_net
  obtain ⟨f__law_own_bag, fd__law_own_bag, A__law_own_bag⟩ := T.d__law_own_bag
  have F__law_own_bag := fnO (P := P) (w := w) (base := base) A__law_own_bag.fn sc__law_own_bag (der__law_own_bag T.b_list T.b_reversed T.b_int T.b_len T.b_abs) l_own_bag
  exact fnL A_law.fn sc_law (der_law T.b_repr T.b_list T.b_reversed T.b_range A__law_told F__law_told A__law_asks F__law_asks A__law_net F__law_net A__law_draw F__law_draw A__law_number F__law_number A__law_own_bag F__law_own_bag) l_law
theorem all_mk {l : PySem.W.OpenLaw} {w : World} {K : Fg} {h : Heap} {mg : Str → Option Value} {fa : Addr} (X : K.In h) (G : h.Ns mainGlobals mg) (hfa : mg "law" = some (.ref fa)) (T : Facts K mg) :
    ∃ fd : FuncData, (∀ (s : Shared) (v : Value), BindsTo s fd ⟨[v], []⟩ [("script", v)]) ∧ ∀ base : Heap, K.In base → base.Ns mainGlobals mg → FnG l.prog w K mg base 7 fa fd ["script"] (spL K) := by
  obtain ⟨fa2, fda, A⟩ := T.d_law
  have e := hfa.symm.trans A.g
  cases e
  refine ⟨fda, fun s v => ?_, fun base _ _ => law_fn T A⟩
  obtain ⟨⟨oc, od, kV, doc, pm, an, cdv, ct, osl, rfl, _⟩, _⟩ := A.fn
  exact .of_eq rfl
end G61
open PySem PySem.W PyProof.Rows
set_option maxHeartbeats 0 in
theorem PySem.Challenge.cw_tokensteps_k61_whole_main_counted_holds : PySem.Challenge.rw_tokensteps_k61_whole_main_counted.Holds := by
  w_on; o_law; k_head; (case hw => w_witness2)
  k_fill
  refine DL.walk_G (l := PySem.Challenge.rw_tokensteps_k61_whole_main_counted) (k := 7) (x := "script") rfl rfl ⟨rfl, by decide, by decide⟩ (fun w h Y => PySem.W.kIn_of Y) ?F
  case F =>
    intro w mg fa h KX G hmg
    refine' G61.all_mk KX G hmg ?T
    case T =>
      refine' { d_change_of := ?qchange_of, d_rises_of := ?qrises_of, d_ways_within := ?qways_within, d_top_for := ?qtop_for, d_come_numbers := ?qcome_numbers, d_comes_to := ?qcomes_to, d_rising_step := ?qrising_step, d_is_endless := ?qis_endless, d_net_measure := ?qnet_measure, d__law_own_bag := ?q_law_own_bag, d__law_draw := ?q_law_draw, d__law_pick := ?q_law_pick, d__law_number := ?q_law_number, d__law_is_kind := ?q_law_is_kind, d__law_net := ?q_law_net, d__law_moves := ?q_law_moves, d__law_far := ?q_law_far, d__law_measure := ?q_law_measure, d__law_is_endless := ?q_law_is_endless, d__law_told := ?q_law_told, d__law_asks := ?q_law_asks, d_law := ?qlaw, b_zip := ?b_zip, b_tuple := ?b_tuple, b_len := ?b_len, b_range := ?b_range, b_list := ?b_list, b_enumerate := ?b_enumerate, c_FREE_FROM := ?c_FREE_FROM, b_max := ?b_max, c_MOST_ABOVE := ?c_MOST_ABOVE, b_sorted := ?b_sorted, b_abs := ?b_abs, b_reversed := ?b_reversed, b_int := ?b_int, b_min := ?b_min, b_any := ?b_any, b_repr := ?b_repr }
      case qlaw =>
        refine' G61.at_mk KX G ?a ?l ?c ?k (fun _ _ _ _ _ _ us hl => match us, hl with | [_], _ => rfl)
        (case a => k_is); (case l => k_is); (case c => k_is); (case k => k_is)
      case qchange_of =>
        refine' G61.at_mk KX G ?a ?l ?c ?k (fun _ _ _ _ _ _ us hl => match us, hl with | [_, _], _ => rfl)
        (case a => k_is); (case l => k_is); (case c => k_is); (case k => k_is)
      case qrises_of =>
        refine' G61.at_mk KX G ?a ?l ?c ?k (fun _ _ _ _ _ _ us hl => match us, hl with | [_], _ => rfl)
        (case a => k_is); (case l => k_is); (case c => k_is); (case k => k_is)
      case qways_within =>
        refine' G61.at_mk KX G ?a ?l ?c ?k (fun _ _ _ _ _ _ us hl => match us, hl with | [_, _, _], _ => rfl)
        (case a => k_is); (case l => k_is); (case c => k_is); (case k => k_is)
      case qtop_for =>
        refine' G61.at_mk KX G ?a ?l ?c ?k (fun _ _ _ _ _ _ us hl => match us, hl with | [_, _], _ => rfl)
        (case a => k_is); (case l => k_is); (case c => k_is); (case k => k_is)
      case qcome_numbers =>
        refine' G61.at_mk KX G ?a ?l ?c ?k (fun _ _ _ _ _ _ us hl => match us, hl with | [_, _, _], _ => rfl)
        (case a => k_is); (case l => k_is); (case c => k_is); (case k => k_is)
      case qcomes_to =>
        refine' G61.at_mk KX G ?a ?l ?c ?k (fun _ _ _ _ _ _ us hl => match us, hl with | [_, _, _], _ => rfl)
        (case a => k_is); (case l => k_is); (case c => k_is); (case k => k_is)
      case qrising_step =>
        refine' G61.at_mk KX G ?a ?l ?c ?k (fun _ _ _ _ _ _ us hl => match us, hl with | [_, _], _ => rfl)
        (case a => k_is); (case l => k_is); (case c => k_is); (case k => k_is)
      case qis_endless =>
        refine' G61.at_mk KX G ?a ?l ?c ?k (fun _ _ _ _ _ _ us hl => match us, hl with | [_, _], _ => rfl)
        (case a => k_is); (case l => k_is); (case c => k_is); (case k => k_is)
      case qnet_measure =>
        refine' G61.at_mk KX G ?a ?l ?c ?k (fun _ _ _ _ _ _ us hl => match us, hl with | [_], _ => rfl)
        (case a => k_is); (case l => k_is); (case c => k_is); (case k => k_is)
      case q_law_own_bag =>
        refine' G61.at_mk KX G ?a ?l ?c ?k (fun _ _ _ _ _ _ us hl => match us, hl with | [_], _ => rfl)
        (case a => k_is); (case l => k_is); (case c => k_is); (case k => k_is)
      case q_law_draw =>
        refine' G61.at_mk KX G ?a ?l ?c ?k (fun _ _ _ _ _ _ us hl => match us, hl with | [_, _], _ => rfl)
        (case a => k_is); (case l => k_is); (case c => k_is); (case k => k_is)
      case q_law_pick =>
        refine' G61.at_mk KX G ?a ?l ?c ?k (fun _ _ _ _ _ _ us hl => match us, hl with | [_, _], _ => rfl)
        (case a => k_is); (case l => k_is); (case c => k_is); (case k => k_is)
      case q_law_number =>
        refine' G61.at_mk KX G ?a ?l ?c ?k (fun _ _ _ _ _ _ us hl => match us, hl with | [_, _], _ => rfl)
        (case a => k_is); (case l => k_is); (case c => k_is); (case k => k_is)
      case q_law_is_kind =>
        refine' G61.at_mk KX G ?a ?l ?c ?k (fun _ _ _ _ _ _ us hl => match us, hl with | [_, _, _, _, _], _ => rfl)
        (case a => k_is); (case l => k_is); (case c => k_is); (case k => k_is)
      case q_law_net =>
        refine' G61.at_mk KX G ?a ?l ?c ?k (fun _ _ _ _ _ _ us hl => match us, hl with | [_, _, _, _], _ => rfl)
        (case a => k_is); (case l => k_is); (case c => k_is); (case k => k_is)
      case q_law_moves =>
        refine' G61.at_mk KX G ?a ?l ?c ?k (fun _ _ _ _ _ _ us hl => match us, hl with | [_], _ => rfl)
        (case a => k_is); (case l => k_is); (case c => k_is); (case k => k_is)
      case q_law_far =>
        refine' G61.at_mk KX G ?a ?l ?c ?k (fun _ _ _ _ _ _ us hl => match us, hl with | [_, _, _], _ => rfl)
        (case a => k_is); (case l => k_is); (case c => k_is); (case k => k_is)
      case q_law_measure =>
        refine' G61.at_mk KX G ?a ?l ?c ?k (fun _ _ _ _ _ _ us hl => match us, hl with | [_], _ => rfl)
        (case a => k_is); (case l => k_is); (case c => k_is); (case k => k_is)
      case q_law_is_endless =>
        refine' G61.at_mk KX G ?a ?l ?c ?k (fun _ _ _ _ _ _ us hl => match us, hl with | [_, _], _ => rfl)
        (case a => k_is); (case l => k_is); (case c => k_is); (case k => k_is)
      case q_law_told =>
        refine' G61.at_mk KX G ?a ?l ?c ?k (fun _ _ _ _ _ _ us hl => match us, hl with | [_, _, _], _ => rfl)
        (case a => k_is); (case l => k_is); (case c => k_is); (case k => k_is)
      case q_law_asks =>
        refine' G61.at_mk KX G ?a ?l ?c ?k (fun _ _ _ _ _ _ us hl => match us, hl with | [_, _, _], _ => rfl)
        (case a => k_is); (case l => k_is); (case c => k_is); (case k => k_is)
      case b_zip => exact PySem.W.mg_none_of KX G (by k_is)
      case b_tuple => exact PySem.W.mg_none_of KX G (by k_is)
      case b_len => exact PySem.W.mg_none_of KX G (by k_is)
      case b_range => exact PySem.W.mg_none_of KX G (by k_is)
      case b_list => exact PySem.W.mg_none_of KX G (by k_is)
      case b_enumerate => exact PySem.W.mg_none_of KX G (by k_is)
      case c_FREE_FROM => exact ⟨_, PySem.W.mg_of KX G (by k_is)⟩
      case b_max => exact PySem.W.mg_none_of KX G (by k_is)
      case c_MOST_ABOVE => exact ⟨_, PySem.W.mg_of KX G (by k_is)⟩
      case b_sorted => exact PySem.W.mg_none_of KX G (by k_is)
      case b_abs => exact PySem.W.mg_none_of KX G (by k_is)
      case b_reversed => exact PySem.W.mg_none_of KX G (by k_is)
      case b_int => exact PySem.W.mg_none_of KX G (by k_is)
      case b_min => exact PySem.W.mg_none_of KX G (by k_is)
      case b_any => exact PySem.W.mg_none_of KX G (by k_is)
      case b_repr => exact PySem.W.mg_none_of KX G (by k_is)

