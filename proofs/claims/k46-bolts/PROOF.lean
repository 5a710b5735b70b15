import PyProof.Rows.All
import Wide.All
import OpenK.AllK
import Wide.FinOn
import HandS.ForMost
import HandS.TupAny
import HandS.Conv
import HandS.Deep
import HandS.TupLen
import HandS.Style
import HandS.NoneIn
import HandS.Iter
import HandS.Comp
import HandS.List
import HandS.IsInst
import KE.SortData
import KE.DataMinMax
import HandS.More
import HandS.Zip
import KE.KDictList
import KE.KDictSum
import HandS.SetFor
import HandS.Set
import HandS.TupSets
import HandS.OwnEq
import HandS.TupLe
import KE.DatumOrd
import PySem.Challenge.RW_bondslaid_k46_whole_bolts_that_turn_toge
set_option Elab.async false
set_option linter.all false
set_option maxRecDepth 100000
set_option maxHeartbeats 4000000
/-! DL1: data (PyData) upon the abstract heap: representation, the environment of a def, how states grow. -/
namespace DL
open PySem L2

abbrev D := PyData

def keyD : Key → D
  | .inl i => .int i
  | .inr s => .str s

/-- a list, a tuple that stands still in F (or in the module's own part) -/
def LsF (K : PySem.W.Frag) (F : Hp) (a : Addr) (xs : List V) : Prop := F a = some (.lst xs) ∨ (∃ o, F a = some (.frz o (.lst xs))) ∨ SqL K (fun _ => none) a xs
def TpF (F : Hp) (a : Addr) (xs : List V) : Prop := F a = some (.tup xs)

mutual
inductive Rep (K : PySem.W.Frag) (F : Hp) : V → D → Prop
  | non : Rep K F .non .none
  | bl (b : Bool) : Rep K F (.bl b) (.bool b)
  | int (i : Int) : Rep K F (.int i) (.int i)
  | str (s : Str) : Rep K F (.str s) (.str s)
  | lst {a : Addr} {xs : List V} {ds : List D} : LsF K F a xs → Reps K F xs ds → Rep K F (.ref a) (.list ds)
  | tup {a : Addr} {xs : List V} {ds : List D} : TpF F a xs → Reps K F xs ds → Rep K F (.ref a) (.tuple ds)
  | dK {a : Addr} {kvs : List (Key × V)} {es : List (D × D)} : F a = some (.dK kvs) → RepK K F kvs es → Rep K F (.ref a) (.dict es)
  | dT {a : Addr} {kvs : List (List Key × V)} {es : List (D × D)} : F a = some (.dT kvs) → RepT K F kvs es → Rep K F (.ref a) (.dict es)
inductive Reps (K : PySem.W.Frag) (F : Hp) : List V → List D → Prop
  | nil : Reps K F [] []
  | cons {v : V} {vs : List V} {d : D} {ds : List D} : Rep K F v d → Reps K F vs ds → Reps K F (v :: vs) (d :: ds)
inductive RepK (K : PySem.W.Frag) (F : Hp) : List (Key × V) → List (D × D) → Prop
  | nil : RepK K F [] []
  | cons {k : Key} {v : V} {d : D} {r : List (Key × V)} {es : List (D × D)} : Rep K F v d → RepK K F r es → RepK K F ((k, v) :: r) ((keyD k, d) :: es)
inductive RepT (K : PySem.W.Frag) (F : Hp) : List (List Key × V) → List (D × D) → Prop
  | nil : RepT K F [] []
  | cons {k : List Key} {v : V} {d : D} {r : List (List Key × V)} {es : List (D × D)} : Rep K F v d → RepT K F r es → RepT K F ((k, v) :: r) ((.tuple (k.map keyD), d) :: es)
end

/-- F' holds all that F holds -/
def Ext (F F' : Hp) : Prop := ∀ a u, F a = some u → F' a = some u
theorem Ext.refl (F : Hp) : Ext F F := fun _ _ h => h
theorem Ext.trans {F F1 F2 : Hp} (a : Ext F F1) (b : Ext F1 F2) : Ext F F2 := fun x u h => b x u (a x u h)

section
variable {K : PySem.W.Frag} {F F' H H' : Hp} {a p : Addr} {xs : List V}
theorem LsF.mono (e : Ext F F') : LsF K F a xs → LsF K F' a xs
  | .inl h => .inl (e _ _ h)
  | .inr (.inl ⟨o, h⟩) => .inr (.inl ⟨o, e _ _ h⟩)
  | .inr (.inr h) => .inr (.inr h)
theorem TpF.mono (e : Ext F F') (h : TpF F a xs) : TpF F' a xs := e _ _ h

mutual
theorem Rep.mono (e : Ext F F') : ∀ {v : V} {d : D}, Rep K F v d → Rep K F' v d
  | _, _, .non => .non
  | _, _, .bl b => .bl b
  | _, _, .int i => .int i
  | _, _, .str s => .str s
  | _, _, .lst h r => .lst (h.mono e) (Reps.mono e r)
  | _, _, .tup h r => .tup (h.mono e) (Reps.mono e r)
  | _, _, .dK h r => .dK (e _ _ h) (RepK.mono e r)
  | _, _, .dT h r => .dT (e _ _ h) (RepT.mono e r)
theorem Reps.mono (e : Ext F F') : ∀ {v : List V} {d : List D}, Reps K F v d → Reps K F' v d
  | _, _, .nil => .nil
  | _, _, .cons r t => .cons (Rep.mono e r) (Reps.mono e t)
theorem RepK.mono (e : Ext F F') : ∀ {v : List (Key × V)} {d : List (D × D)}, RepK K F v d → RepK K F' v d
  | _, _, .nil => .nil
  | _, _, .cons r t => .cons (Rep.mono e r) (RepK.mono e t)
theorem RepT.mono (e : Ext F F') : ∀ {v : List (List Key × V)} {d : List (D × D)}, RepT K F v d → RepT K F' v d
  | _, _, .nil => .nil
  | _, _, .cons r t => .cons (Rep.mono e r) (RepT.mono e t)
end

theorem Reps.length : ∀ {vs : List V} {ds : List D}, Reps K F vs ds → vs.length = ds.length
  | _, _, .nil => rfl
  | _, _, .cons _ t => congrArg (· + 1) (Reps.length t)
theorem Reps.get : ∀ {vs : List V} {ds : List D} {i : Nat} {d : D}, Reps K F vs ds → ds[i]? = some d → ∃ v, vs[i]? = some v ∧ Rep K F v d
  | _, _, _, _, .nil, h => by simp at h
  | _, _, 0, _, .cons r _, h => by
    simp at h
    subst h
    exact ⟨_, rfl, r⟩
  | _, _, i + 1, _, .cons _ t, h => by
    obtain ⟨v, e, r⟩ := Reps.get (i := i) t (by simpa using h)
    exact ⟨v, by simpa using e, r⟩
theorem Reps.append : ∀ {vs ws : List V} {ds es : List D}, Reps K F vs ds → Reps K F ws es → Reps K F (vs ++ ws) (ds ++ es)
  | _, _, _, _, .nil, s => s
  | _, _, _, _, .cons r t, s => .cons r (Reps.append t s)
theorem Reps.one {v : V} {d : D} (r : Rep K F v d) : Reps K F [v] [d] := .cons r .nil
theorem Reps.take : ∀ {vs : List V} {ds : List D} (n : Nat), Reps K F vs ds → Reps K F (vs.take n) (ds.take n)
  | _, _, 0, _ => .nil
  | _, _, _ + 1, .nil => .nil
  | _, _, n + 1, .cons r t => .cons r (Reps.take n t)
theorem Reps.drop : ∀ {vs : List V} {ds : List D} (n : Nat), Reps K F vs ds → Reps K F (vs.drop n) (ds.drop n)
  | _, _, 0, r => r
  | _, _, _ + 1, .nil => .nil
  | _, _, n + 1, .cons _ t => Reps.drop n t
theorem Reps.set {v : V} {d : D} (r : Rep K F v d) : ∀ {vs : List V} {ds : List D} (i : Nat), Reps K F vs ds → Reps K F (vs.set i v) (ds.set i d)
  | _, _, _, .nil => .nil
  | _, _, 0, .cons _ t => .cons r t
  | _, _, i + 1, .cons q t => .cons q (Reps.set r i t)
theorem Reps.ints (F : Hp) : ∀ ns : List Int, Reps K F (ns.map V.int) (ns.map PyData.int)
  | [] => .nil
  | n :: ns => .cons (.int n) (Reps.ints F ns)
theorem Reps.ints_of : ∀ {vs : List V} {ns : List Int}, Reps K F vs (ns.map PyData.int) → vs = ns.map V.int
  | _, [], .nil => rfl
  | _, n :: ns, .cons r t => by
    cases r
    rw [List.map_cons, Reps.ints_of t]
theorem Reps.bls_of : ∀ {vs : List V} {ns : List Bool}, Reps K F vs (ns.map PyData.bool) → vs = ns.map V.bl
  | _, [], .nil => rfl
  | _, n :: ns, .cons r t => by
    cases r
    rw [List.map_cons, Reps.bls_of t]

/-- what F holds is to be read in H (a dict may be locked there) -/
def isDic : HO → Bool
  | .dK _ => true
  | .dT _ => true
  | _ => false
def Std (H : Hp) (a : Addr) (u : HO) : Prop := H a = some u ∨ (isDic u = true ∧ ∃ o, H a = some (.frz o u))
def Sub (F H : Hp) : Prop := ∀ a u, F a = some u → Std H a u
theorem Std.rd {u : HO} : Std H a u → Rd H a u
  | .inl h => .inl h
  | .inr h => .inr h.2
theorem LsF.sq (h : LsF K F a xs) (s : Sub F H) : SqL K H a xs := by
  rcases h with h | ⟨o, h⟩ | h | h
  · exact .inl (s _ _ h).rd
  · rcases s _ _ h with h | ⟨h, _⟩
    · exact .inl (.inr ⟨o, h⟩)
    · cases h
  · rcases h with h | ⟨_, h⟩ <;> cases h
  · exact .inr h
theorem TpF.at (h : TpF F a xs) (s : Sub F H) : H a = some (.tup xs) := by
  rcases s _ _ h with h | ⟨h, _⟩
  · exact h
  · cases h
theorem TpF.sq (h : TpF F a xs) (s : Sub F H) : SqT K H a xs := SqT.of (h.at s)
theorem Std.same {u : HO} (s : Same H H') (h : Std H a u) : Std H' a u := by
  rcases h with h | ⟨d, o, h⟩
  · exact .inl (s _ _ h)
  · exact .inr ⟨d, o, s _ _ h⟩
theorem Std.ne_none {u : HO} (h : Std H a u) : H a ≠ none := by
  rcases h with h | ⟨_, o, h⟩ <;> rw [h] <;> intro z <;> cases z

/-- only new objects, and of them what F' holds (and tuples that stood) -/
structure Px (F H F' H' : Hp) : Prop where
  ext : Ext F F'
  new : ∀ a, F' a ≠ none → F a ≠ none ∨ H a = none ∨ ∃ xs, H a = some (.tup xs)
  same : Same H H'
  sub : Sub F' H'
theorem Px.refl (s : Sub F H) : Px F H F H := ⟨.refl F, fun _ h => .inl h, .refl H, s⟩
theorem Same.none_of {a : Addr} (s : Same H H') (h : H' a = none) : H a = none := by
  cases q : H a with
  | none => rfl
  | some o => rw [s _ _ q] at h; cases h
theorem Px.trans {F1 F2 H1 H2 : Hp} (a : Px F H F1 H1) (b : Px F1 H1 F2 H2) : Px F H F2 H2 := by
  refine ⟨a.ext.trans b.ext, fun x h => ?_, a.same.trans b.same, b.sub⟩
  rcases b.new x h with h | h | ⟨xs, h⟩
  · exact a.new x h
  · exact .inr (.inl (Same.none_of a.same h))
  · cases q : H x with
    | none => exact .inr (.inl rfl)
    | some o =>
      rw [a.same _ _ q] at h
      exact .inr (.inr ⟨xs, h⟩)
/-- a new object laid and frozen -/
theorem Px.laid {o : HO} (s : Sub F H) (hp : H p = none) : Px F H (upd F p o) (upd H p o) := by
  have hF : F p = none := by
    cases q : F p with
    | none => rfl
    | some u => exact absurd hp (Std.ne_none (s _ _ q))
  have sm : Same H (upd H p o) := fun b u e => by
    rw [upd_ne (ne_of_none e hp)]
    exact e
  refine ⟨fun b u e => ?_, fun b h => ?_, sm, fun b u e => ?_⟩
  · rw [upd_ne (ne_of_none e hF)]
    exact e
  · by_cases hb : b = p
    · subst hb
      exact .inr (.inl hp)
    · rw [upd_ne hb] at h
      exact .inl h
  · by_cases hb : b = p
    · subst hb
      rw [upd_same] at e
      cases e
      exact .inl upd_same
    · rw [upd_ne hb] at e
      exact Std.same sm (s _ _ e)
/-- a new object that F does not take -/
theorem Px.laidO {o : HO} (s : Sub F H) (hp : H p = none) : Px F H F (upd H p o) := by
  have sm : Same H (upd H p o) := fun b u e => by
    rw [upd_ne (ne_of_none e hp)]
    exact e
  exact ⟨.refl F, fun _ h => .inl h, sm, fun b u e => Std.same sm (s _ _ e)⟩
end

/-! ### the environment of a def -/
inductive Sl where
  | un | sh (d : D) | ow (d : D) | io (d : D)
abbrev Env := List Sl

inductive Top (K : PySem.W.Frag) (F : Hp) : HO → D → Prop
  | lst {xs : List V} {ds : List D} : Reps K F xs ds → Top K F (.lst xs) (.list ds)
  | dK {kvs : List (Key × V)} {es : List (D × D)} : RepK K F kvs es → Top K F (.dK kvs) (.dict es)
  | dT {kvs : List (List Key × V)} {es : List (D × D)} : RepT K F kvs es → Top K F (.dT kvs) (.dict es)
theorem Top.mono {K : PySem.W.Frag} {F F' : Hp} {u : HO} {d : D} (e : Ext F F') : Top K F u d → Top K F' u d
  | .lst r => .lst (r.mono e)
  | .dK r => .dK (r.mono e)
  | .dT r => .dT (r.mono e)
theorem Top.rep {K : PySem.W.Frag} {F : Hp} {p : Addr} {u : HO} {d : D} (t : Top K F u d) (h : F p = some u) : Rep K F (.ref p) d := by
  cases t with
  | lst r => exact .lst (.inl h) r
  | dK r => exact .dK h r
  | dT r => exact .dT h r
theorem Top.notup {K : PySem.W.Frag} {F : Hp} {u : HO} {d : D} (t : Top K F u d) : ∀ xs, u ≠ .tup xs := by
  intro xs e
  subst e
  cases t

def OwnAt (K : PySem.W.Frag) (F H : Hp) (p : Addr) (d : D) : Prop := F p = none ∧ ∃ u, H p = some u ∧ Top K F u d
/-- slot i owns p -/
def owns (ρ : Env) (σ : L2.St) (i : Nat) (p : Addr) : Prop := (∃ d, ρ[i]? = some (.ow d) ∨ ρ[i]? = some (.io d)) ∧ σ[i]? = some (some (.ref p))
def Ow (ρ : Env) (σ : L2.St) : Addr → Prop := fun p => ∃ i, owns ρ σ i p

structure SOk (K : PySem.W.Frag) (F : Hp) (ρ : Env) (σ : L2.St) (H : Hp) : Prop where
  sub : Sub F H
  len : σ.length = ρ.length
  shr : ∀ (i : Nat) (d : D), ρ[i]? = some (.sh d) → ∃ v, σ[i]? = some (some v) ∧ Rep K F v d
  own : ∀ (i : Nat) (d : D), (ρ[i]? = some (.ow d) ∨ ρ[i]? = some (.io d)) → ∃ p, σ[i]? = some (some (.ref p)) ∧ OwnAt K F H p d
  dj : ∀ (i j : Nat) (p : Addr), owns ρ σ i p → owns ρ σ j p → i = j

/-- how the heaps may change: what O allows may be written -/
structure Gr (O : Addr → Prop) (F H F' H' : Hp) : Prop where
  ext : Ext F F'
  new : ∀ a, F' a ≠ none → F a ≠ none ∨ H a = none ∨ O a ∨ ∃ xs, H a = some (.tup xs)
  same : ∀ a o, H a = some o → ¬ O a → H' a = some o
  live : ∀ a, H' a = none → H a = none
/-- how the environment may change -/
structure Evo (ρ : Env) (σ : L2.St) (ρ' : Env) (σ' : L2.St) (H : Hp) : Prop where
  own : ∀ p, Ow ρ' σ' p → Ow ρ σ p ∨ H p = none
  io : ∀ (i : Nat) (d : D), ρ[i]? = some (.io d) → σ'[i]? = σ[i]? ∧ ∃ d', ρ'[i]? = some (.io d')

section
variable {K : PySem.W.Frag} {F F' F1 F2 H H' H1 H2 : Hp} {ρ ρ' ρ1 ρ2 : Env} {σ σ' σ1 σ2 : L2.St} {O : Addr → Prop} {p : Addr}
theorem Gr.refl : Gr O F H F H := ⟨.refl F, fun _ h => .inl h, fun _ _ h _ => h, fun _ h => h⟩
theorem Evo.refl : Evo ρ σ ρ σ H := ⟨fun _ h => .inl h, fun _ d h => ⟨rfl, d, h⟩⟩
theorem Gr.none_of {a : Addr} (g : Gr O F H F' H') (h : H' a = none) : H a = none ∨ O a := .inl (g.live a h)
theorem Gr.trans (g : Gr (Ow ρ σ) F H F1 H1) (e : Evo ρ σ ρ1 σ1 H) (g2 : Gr (Ow ρ1 σ1) F1 H1 F2 H2) : Gr (Ow ρ σ) F H F2 H2 := by
  refine ⟨g.ext.trans g2.ext, fun a h => ?_, fun a o h ho => ?_, fun a h => g.live a (g2.live a h)⟩
  · rcases g2.new a h with h | h | h | ⟨xs, h⟩
    · exact g.new a h
    · rcases g.none_of h with h | h
      · exact .inr (.inl h)
      · exact .inr (.inr (.inl h))
    · rcases e.own a h with h | h
      · exact .inr (.inr (.inl h))
      · exact .inr (.inl h)
    · cases q : H a with
      | none => exact .inr (.inl rfl)
      | some o =>
        by_cases ho : Ow ρ σ a
        · exact .inr (.inr (.inl ho))
        · rw [g.same a o q ho] at h
          exact .inr (.inr (.inr ⟨xs, h⟩))
  · refine g2.same a o (g.same a o h ho) fun h2 => ?_
    rcases e.own a h2 with z | z
    · exact ho z
    · rw [z] at h; cases h
theorem Evo.trans (g : Gr (Ow ρ σ) F H F1 H1) (e : Evo ρ σ ρ1 σ1 H) (e2 : Evo ρ1 σ1 ρ2 σ2 H1) : Evo ρ σ ρ2 σ2 H := by
  refine ⟨fun a h => ?_, fun i d h => ?_⟩
  · rcases e2.own a h with h | h
    · exact e.own a h
    · rcases g.none_of h with h | h
      · exact .inr h
      · exact .inl h
  · obtain ⟨e1, d1, h1⟩ := e.io i d h
    obtain ⟨e3, d2, h2⟩ := e2.io i d1 h1
    exact ⟨e3.trans e1, d2, h2⟩
/-- what is owned is not in F -/
theorem SOk.ow_none (s : SOk K F ρ σ H) (h : Ow ρ σ p) : F p = none ∧ ∃ u, H p = some u ∧ (∀ xs, u ≠ .tup xs) := by
  obtain ⟨i, ⟨d, hd⟩, hs⟩ := h
  obtain ⟨q, e, hF, u, hu, t⟩ := s.own i d hd
  rw [hs] at e
  cases e
  exact ⟨hF, u, hu, t.notup⟩
/-- a pure growth keeps the environment -/
theorem SOk.px (s : SOk K F ρ σ H) (x : Px F H F' H') : SOk K F' ρ σ H' := by
  refine ⟨x.sub, s.len, fun i d h => ?_, fun i d h => ?_, s.dj⟩
  · obtain ⟨v, e, r⟩ := s.shr i d h
    exact ⟨v, e, r.mono x.ext⟩
  · obtain ⟨p, e, hF, u, hu, t⟩ := s.own i d h
    refine ⟨p, e, ?_, u, x.same _ _ hu, t.mono x.ext⟩
    cases q : F' p with
    | none => rfl
    | some w =>
      rcases x.new p (by rw [q]; intro z; cases z) with z | z | ⟨xs, z⟩
      · exact absurd hF z
      · rw [hu] at z; cases z
      · rw [hu] at z
        cases z
        exact absurd rfl (t.notup xs)
theorem Px.gr (x : Px F H F' H') : Gr O F H F' H' := by
  refine ⟨x.ext, fun a h => ?_, fun a o h _ => x.same a o h, fun a h => Same.none_of x.same h⟩
  rcases x.new a h with h | h | h
  · exact .inl h
  · exact .inr (.inl h)
  · exact .inr (.inr (.inr h))
/-- an owned thing becomes a still one -/
theorem SOk.freeze {i : Nat} {d : D} (s : SOk K F ρ σ H) (h : ρ[i]? = some (.ow d)) :
    ∃ p F', σ[i]? = some (some (.ref p)) ∧ Rep K F' (.ref p) d ∧ SOk K F' (ρ.set i (.sh d)) σ H ∧ Gr (Ow ρ σ) F H F' H ∧ Evo ρ σ (ρ.set i (.sh d)) σ H := by
  obtain ⟨p, e, hF, u, hu, t⟩ := s.own i d (.inl h)
  have hi : i < ρ.length := (List.getElem?_eq_some_iff.mp h).1
  have ex : Ext F (upd F p u) := fun b w q => by
    rw [upd_ne (ne_of_none q hF)]
    exact q
  have rp : Rep K (upd F p u) (.ref p) d := (t.mono ex).rep upd_same
  have hO : Ow ρ σ p := ⟨i, ⟨d, .inl h⟩, e⟩
  have old : ∀ j q, owns (ρ.set i (.sh d)) σ j q → owns ρ σ j q ∧ j ≠ i := fun j q ⟨⟨d', h1⟩, h2⟩ => by
    have hj : j ≠ i := fun z => by
      subst z
      rw [List.getElem?_set_self hi] at h1
      rcases h1 with h1 | h1 <;> cases h1
    rw [List.getElem?_set_ne (Ne.symm hj)] at h1
    exact ⟨⟨⟨d', h1⟩, h2⟩, hj⟩
  refine ⟨p, upd F p u, e, rp, ⟨fun b w q => ?_, by rw [s.len, List.length_set], fun j d' hj => ?_, fun j d' hj => ?_, fun j k q a b => s.dj j k q (old j q a).1 (old k q b).1⟩, ⟨ex, fun b hb => ?_, fun b o q _ => q, fun _ q => q⟩, ⟨fun q ⟨j, hq⟩ => .inl ⟨j, (old j q hq).1⟩, fun j d' hj => ⟨rfl, d', ?_⟩⟩⟩
  · by_cases hb : b = p
    · subst hb
      rw [upd_same] at q
      cases q
      exact .inl hu
    · rw [upd_ne hb] at q
      exact s.sub _ _ q
  · by_cases hji : j = i
    · subst hji
      rw [List.getElem?_set_self hi] at hj
      cases hj
      exact ⟨_, e, rp⟩
    · rw [List.getElem?_set_ne (Ne.symm hji)] at hj
      obtain ⟨v, e', r⟩ := s.shr j d' hj
      exact ⟨v, e', r.mono ex⟩
  · have hji : j ≠ i := fun z => by
      subst z
      rw [List.getElem?_set_self hi] at hj
      rcases hj with hj | hj <;> cases hj
    rw [List.getElem?_set_ne (Ne.symm hji)] at hj
    obtain ⟨q, e', hFq, w, hw, t'⟩ := s.own j d' hj
    have hne : q ≠ p := fun z => by
      subst z
      exact hji (s.dj j i q ⟨⟨d', hj⟩, e'⟩ ⟨⟨d, .inl h⟩, e⟩)
    exact ⟨q, e', by rw [upd_ne hne]; exact hFq, w, hw, t'.mono ex⟩
  · by_cases hb' : b = p
    · subst hb'
      exact .inr (.inr (.inl hO))
    · rw [upd_ne hb'] at hb
      exact .inl hb
  · have hji : j ≠ i := fun z => by
      subst z
      rw [h] at hj
      cases hj
    rw [List.getElem?_set_ne (Ne.symm hji)]
    exact hj
end
end DL

set_option maxHeartbeats 4000000
/-! DL2: what expressions, tests, statements come to, as functions of the environment (denotations), and the rules. -/
namespace DL
open PySem L2

/-- one step of the state -/
structure Stp (K : PySem.W.Frag) (ρ : Env) (σ : L2.St) (F H : Hp) (ρ' : Env) (σ' : L2.St) (F' H' : Hp) : Prop where
  gr : Gr (Ow ρ σ) F H F' H'
  ok : SOk K F' ρ' σ' H'
  evo : Evo ρ σ ρ' σ' H
section
variable {K : PySem.W.Frag} {F F1 F2 H H1 H2 : Hp} {ρ ρ1 ρ2 : Env} {σ σ1 σ2 : L2.St}
theorem Stp.refl (s : SOk K F ρ σ H) : Stp K ρ σ F H ρ σ F H := ⟨.refl, s, .refl⟩
theorem Stp.trans (a : Stp K ρ σ F H ρ1 σ1 F1 H1) (b : Stp K ρ1 σ1 F1 H1 ρ2 σ2 F2 H2) : Stp K ρ σ F H ρ2 σ2 F2 H2 :=
  ⟨a.gr.trans a.evo b.gr, b.ok, a.evo.trans a.gr b.evo⟩
theorem Stp.px (s : SOk K F ρ σ H) (x : Px F H F1 H1) : Stp K ρ σ F H ρ σ F1 H1 := ⟨x.gr, s.px x, .refl⟩
theorem Stp.thenPx (a : Stp K ρ σ F H ρ1 σ1 F1 H1) (x : Px F1 H1 F2 H2) : Stp K ρ σ F H ρ1 σ1 F2 H2 := a.trans (.px a.ok x)
end

abbrev Den := Env → Option (D × Env)
abbrev TDen := Env → Option (Bool × Env)
abbrev ADen := Env → Option (List D × Env)
inductive Fl where
  | nx (ρ : Env) | bk (ρ : Env) | ct (ρ : Env) | rt (d : D) (ρ : Env)
abbrev SDen := Env → Option Fl

/-! ### what is wanted -/
def tE (K : PySem.W.Frag) (f : Den) : TE := fun σ H Q => ∃ ρ F d ρ', SOk K F ρ σ H ∧ f ρ = some (d, ρ') ∧ ∀ v F' H', Stp K ρ σ F H ρ' σ F' H' → Rep K F' v d → Q v H'
/-- a new thing that nobody else holds -/
def tO (K : PySem.W.Frag) (f : Den) : TE := fun σ H Q => ∃ ρ F d ρ', SOk K F ρ σ H ∧ f ρ = some (d, ρ') ∧ ∀ p F' H', Stp K ρ σ F H ρ' σ F' H' → OwnAt K F' H' p d → ¬ Ow ρ' σ p → H p = none → Q (.ref p) H'
def tTD (K : PySem.W.Frag) (f : TDen) : TT := fun σ H Q => ∃ ρ F b ρ', SOk K F ρ σ H ∧ f ρ = some (b, ρ') ∧ ∀ F' H', Stp K ρ σ F H ρ' σ F' H' → Q b H'
def tAD (K : PySem.W.Frag) (f : ADen) : TA := fun σ H Q => ∃ ρ F ds ρ', SOk K F ρ σ H ∧ f ρ = some (ds, ρ') ∧ ∀ vs F' H', Stp K ρ σ F H ρ' σ F' H' → Reps K F' vs ds → Q vs H'
structure Wish (K : PySem.W.Frag) (ρ : Env) (σ : L2.St) (F H : Hp) (r : Fl) (E : Ends) : Prop where
  nx : ∀ ρ' σ' F' H', r = .nx ρ' → Stp K ρ σ F H ρ' σ' F' H' → E.nx σ' H'
  bk : ∀ ρ' σ' F' H', r = .bk ρ' → Stp K ρ σ F H ρ' σ' F' H' → E.bk σ' H'
  ct : ∀ ρ' σ' F' H', r = .ct ρ' → Stp K ρ σ F H ρ' σ' F' H' → E.ct σ' H'
  rt : ∀ d v ρ' σ' F' H', r = .rt d ρ' → Stp K ρ σ F H ρ' σ' F' H' → Rep K F' v d → E.rt v H'
def tS (K : PySem.W.Frag) (f : SDen) : TS := fun E σ H => ∃ ρ F r, SOk K F ρ σ H ∧ f ρ = some r ∧ Wish K ρ σ F H r E

def DE (X : Cx) (e : Expr) (f : Den) : Prop := PE X e (tE X.K f)
def DO (X : Cx) (e : Expr) (f : Den) : Prop := PE X e (tO X.K f)
def DT (X : Cx) (e : Expr) (f : TDen) : Prop := PT X e (tTD X.K f)
def DW (X : Cx) (e : Expr) (f : TDen) : Prop := PW X e (tTD X.K f)
def DA (X : Cx) (es : List Expr) (f : ADen) : Prop := PA X es (tAD X.K f)
def DS (X : Cx) (s : Stmt) (f : SDen) : Prop := PS X s (tS X.K f)
def DSs (X : Cx) (s : List Stmt) (f : SDen) : Prop := PSs X s (tS X.K f)

section
variable {X : Cx}
theorem _root_.L2.PE.weak {e : Expr} {t t' : TE} (h : PE X e t) (w : ∀ σ H Q, t' σ H Q → t σ H Q) : PE X e t' := ⟨fun pins s σ H Q I q => h.run pins s σ H Q I (w _ _ _ q)⟩
theorem _root_.L2.PT.weak {e : Expr} {t t' : TT} (h : PT X e t) (w : ∀ σ H Q, t' σ H Q → t σ H Q) : PT X e t' := ⟨fun pins s σ H Q I q => h.run pins s σ H Q I (w _ _ _ q)⟩
theorem _root_.L2.PW.weak {e : Expr} {t t' : TT} (h : PW X e t) (w : ∀ σ H Q, t' σ H Q → t σ H Q) : PW X e t' := ⟨fun wh pins s σ H Q I q => h.run wh pins s σ H Q I (w _ _ _ q)⟩
theorem _root_.L2.PA.weak {e : List Expr} {t t' : TA} (h : PA X e t) (w : ∀ σ H Q, t' σ H Q → t σ H Q) : PA X e t' := ⟨fun p pins s σ H Q I q => h.run p pins s σ H Q I (w _ _ _ q)⟩
theorem _root_.L2.PS.weak {e : Stmt} {t t' : TS} (h : PS X e t) (w : ∀ E σ H, t' E σ H → t E σ H) : PS X e t' := ⟨fun pins s σ H D I q => h.run pins s σ H D I (w _ _ _ q)⟩
theorem _root_.L2.PSs.weak {e : List Stmt} {t t' : TS} (h : PSs X e t) (w : ∀ E σ H, t' E σ H → t E σ H) : PSs X e t' := ⟨fun pins s σ H D I q => h.run pins s σ H D I (w _ _ _ q)⟩
end

/-! ### names, constants -/
def cVar (i : Nat) : Den := fun ρ => match ρ[i]? with
  | some (.sh d) => some (d, ρ)
  | some (.ow d) => some (d, ρ.set i (.sh d))
  | _ => none
def cC (d : D) : Den := fun ρ => some (d, ρ)
/-- what a name holds, looked at in passing -/
def look (ρ : Env) (i : Nat) : Option D := match ρ[i]? with
  | some (.sh d) => some d
  | some (.ow d) => some d
  | some (.io d) => some d
  | _ => none
section
variable {X : Cx} {K : PySem.W.Frag} {F H : Hp} {ρ : Env} {σ : L2.St} {pos : Pos}
theorem tE_var {i : Nat} {σ : L2.St} {H : Hp} {Q : VK} (h : tE K (cVar i) σ H Q) : tVar i σ H Q := by
  obtain ⟨ρ, F, d, ρ', s, e, k⟩ := h
  unfold cVar at e
  cases hr : ρ[i]? with
  | none => rw [hr] at e; cases e
  | some c =>
    rw [hr] at e
    cases c with
    | un => cases e
    | io d' => cases e
    | sh d' =>
      obtain ⟨v, e1, r⟩ := s.shr i _ hr
      cases e
      exact ⟨v, e1, k v F H (.refl s) r⟩
    | ow d' =>
      cases e
      obtain ⟨p, F', e1, r, s', g, ev⟩ := s.freeze hr
      exact ⟨_, e1, k _ F' H ⟨g, s', ev⟩ r⟩
theorem de_var (i : Nat) {x : Str} (hN : X.N[i]? = some x := by rfl) (hv : Vis X.env.scope x := by first | exact Or.inl rfl | exact Or.inr (Or.inl rfl) | exact Or.inr (Or.inr rfl)) (hd : (x == ("__debug__" : Str)) = false := by decide +kernel)
    (hcd : (x == ("__classdict__" : Str)) = false := by decide +kernel) : DE X (.Name x pos) (cVar i) := (pe_var hN hv hd hcd).weak fun _ _ _ h => tE_var h
/-- in passing: what stands there, its top in H, the rest in F -/
theorem SOk.look {i : Nat} {d : D} (s : SOk K F ρ σ H) (h : DL.look ρ i = some d) : ∃ v, σ[i]? = some (some v) ∧ (Rep K F v d ∨ ∃ p u, v = .ref p ∧ H p = some u ∧ Top K F u d) := by
  unfold DL.look at h
  cases hr : ρ[i]? with
  | none => rw [hr] at h; cases h
  | some c =>
    rw [hr] at h
    cases c with
    | un => cases h
    | sh d' =>
      cases h
      obtain ⟨v, e1, r⟩ := s.shr i _ hr
      exact ⟨v, e1, .inl r⟩
    | ow d' =>
      cases h
      obtain ⟨p, e1, _, u, hu, t⟩ := s.own i _ (.inl hr)
      exact ⟨_, e1, .inr ⟨p, u, rfl, hu, t⟩⟩
    | io d' =>
      cases h
      obtain ⟨p, e1, _, u, hu, t⟩ := s.own i _ (.inr hr)
      exact ⟨_, e1, .inr ⟨p, u, rfl, hu, t⟩⟩
theorem tE_c {v : V} {d : D} (r : ∀ F, Rep K F v d) {σ : L2.St} {H : Hp} {Q : VK} (h : tE K (cC d) σ H Q) : tC v σ H Q := by
  obtain ⟨ρ, F, d', ρ', s, e, k⟩ := h
  cases e
  exact k v F H (.refl s) (r F)
theorem de_int {i : Int} {j} : DE X (.Constant (.int i) j pos) (cC (.int i)) := pe_int.weak fun _ _ _ => tE_c fun _ => .int i
theorem de_bl {b : Bool} {j} : DE X (.Constant (.bool b) j pos) (cC (.bool b)) := pe_bl.weak fun _ _ _ => tE_c fun _ => .bl b
theorem de_non {j} : DE X (.Constant .none j pos) (cC .none) := pe_non.weak fun _ _ _ => tE_c fun _ => .non
theorem de_str {s : Str} {j} : DE X (.Constant (.str s) j pos) (cC (.str s)) := pe_str.weak fun _ _ _ => tE_c fun _ => .str s
theorem de_globS {x s : Str} {t : Tok} (hg : Gl X x) (hm : X.mg x = some (.str s t)) (hd : (x == ("__debug__" : Str)) = false := by decide +kernel) : DE X (.Name x pos) (cC (.str s)) :=
  (pe_glob (v := .str s) hg hm ⟨t, rfl⟩ hd).weak fun _ _ _ => tE_c fun _ => .str s
end

/-! ### operators by values -/
/-- represented; or its top stands in H, the rest in F -/
def RepH (K : PySem.W.Frag) (F H : Hp) (v : V) (d : D) : Prop := Rep K F v d ∨ ∃ p u, v = .ref p ∧ H p = some u ∧ Top K F u d
def OpH (K : PySem.W.Frag) (r : R2) (op : D → D → Option D) : Prop :=
  ∀ (F H : Hp) (v1 v2 : V) (d1 d2 d3 : D), Sub F H → RepH K F H v1 d1 → RepH K F H v2 d2 → op d1 d2 = some d3 → ∀ Q : VK, (∀ v F' H', Px F H F' H' → Rep K F' v d3 → Q v H') → r v1 v2 H Q
/-- one value in, one out -/
def CallH (K : PySem.W.Frag) (r : List V → Hp → VK → Prop) (op : D → Option D) : Prop :=
  ∀ (F H : Hp) (v : V) (d d3 : D), Sub F H → RepH K F H v d → op d = some d3 → ∀ Q : VK, (∀ v F' H', Px F H F' H' → Rep K F' v d3 → Q v H') → r [v] H Q
section
variable {K : PySem.W.Frag} {F H : Hp} {v : V} {r : R2} {op : D → D → Option D}
theorem RepH.int {i : Int} (h : RepH K F H v (.int i)) : v = .int i := by
  rcases h with h | ⟨p, u, _, _, t⟩
  · cases h
    rfl
  · cases t
theorem RepH.str {i : Str} (h : RepH K F H v (.str i)) : v = .str i := by
  rcases h with h | ⟨p, u, _, _, t⟩
  · cases h
    rfl
  · cases t
theorem RepH.bl {i : Bool} (h : RepH K F H v (.bool i)) : v = .bl i := by
  rcases h with h | ⟨p, u, _, _, t⟩
  · cases h
    rfl
  · cases t
theorem RepH.non (h : RepH K F H v .none) : v = .non := by
  rcases h with h | ⟨p, u, _, _, t⟩
  · cases h
    rfl
  · cases t
theorem RepH.tup {ds : List D} (h : RepH K F H v (.tuple ds)) (sb : Sub F H) : ∃ a xs, v = .ref a ∧ H a = some (.tup xs) ∧ TpF F a xs ∧ Reps K F xs ds := by
  rcases h with h | ⟨p, u, _, _, t⟩
  · cases h with
    | tup h r => exact ⟨_, _, rfl, h.at sb, h, r⟩
  · cases t
theorem RepH.lst {ds : List D} (h : RepH K F H v (.list ds)) (sb : Sub F H) : ∃ a xs, v = .ref a ∧ SqL K H a xs ∧ Reps K F xs ds := by
  rcases h with h | ⟨p, u, e, hu, t⟩
  · cases h with
    | lst h r => exact ⟨_, _, rfl, h.sq sb, r⟩
  · cases t with
    | lst r => exact ⟨p, _, e, SqL.of hu, r⟩
theorem RepH.dic {es : List (D × D)} (h : RepH K F H v (.dict es)) (sb : Sub F H) :
    ∃ a, v = .ref a ∧ ((∃ kvs, Rd H a (.dK kvs) ∧ RepK K F kvs es) ∨ ∃ kvs, Rd H a (.dT kvs) ∧ RepT K F kvs es) := by
  rcases h with h | ⟨p, u, e, hu, t⟩
  · cases h with
    | dK h r => exact ⟨_, rfl, .inl ⟨_, (sb _ _ h).rd, r⟩⟩
    | dT h r => exact ⟨_, rfl, .inr ⟨_, (sb _ _ h).rd, r⟩⟩
  · cases t with
    | dK r => exact ⟨p, e, .inl ⟨_, .inl hu, r⟩⟩
    | dT r => exact ⟨p, e, .inr ⟨_, .inl hu, r⟩⟩
theorem RepH.mono {F' H' : Hp} {d : D} (h : RepH K F H v d) (e : Ext F F') (s : Same H H') : RepH K F' H' v d := by
  rcases h with h | ⟨p, u, e1, hu, t⟩
  · exact .inl (h.mono e)
  · exact .inr ⟨p, u, e1, s _ _ hu, t.mono e⟩
end

inductive Hd where
  | val (d : D) | slot (i : Nat)
abbrev ODen := Env → Option (Hd × Env)
def res (ρ : Env) : Hd → Option D
  | .val d => some d
  | .slot i => look ρ i
def HdOk (K : PySem.W.Frag) (F : Hp) (σ : L2.St) : Hd → V → Prop
  | .val d, v => Rep K F v d
  | .slot i, v => σ[i]? = some (some v)
def tOD (K : PySem.W.Frag) (o : ODen) : TE := fun σ H Q => ∃ ρ F h ρ', SOk K F ρ σ H ∧ o ρ = some (h, ρ') ∧ ∀ v F' H', Stp K ρ σ F H ρ' σ F' H' → HdOk K F' σ h v → Q v H'
/-- an operand: a name is looked at in passing -/
def DOd (X : Cx) (e : Expr) (o : ODen) : Prop := PE X e (tOD X.K o)
def oN (i : Nat) : ODen := fun ρ => (look ρ i).bind fun _ => some (.slot i, ρ)
def oE (f : Den) : ODen := fun ρ => (f ρ).bind fun x => some (.val x.1, x.2)
def cBin (op : D → D → Option D) (f g : ODen) : Den := fun ρ => (f ρ).bind fun x => (g x.2).bind fun y => (res y.2 x.1).bind fun a => (res y.2 y.1).bind fun b => (op a b).bind fun z => some (z, y.2)
def cUn (op : D → Option D) (f : ODen) : Den := fun ρ => (f ρ).bind fun x => (res x.2 x.1).bind fun a => (op a).bind fun z => some (z, x.2)
def cArgs (op : List D → Option D) (f : ADen) : Den := fun ρ => (f ρ).bind fun x => (op x.1).bind fun z => some (z, x.2)
def cNil : ADen := fun ρ => some ([], ρ)
def cCons (f : Den) (g : ADen) : ADen := fun ρ => (f ρ).bind fun x => (g x.2).bind fun y => some (x.1 :: y.1, y.2)
theorem bind_some {α β : Type} {x : Option α} {k : α → Option β} {y : β} (h : x.bind k = some y) : ∃ z, x = some z ∧ k z = some y := by
  cases x with
  | none => cases h
  | some z => exact ⟨z, rfl, h⟩

section
variable {X : Cx} {K : PySem.W.Frag} {pos : Pos} {a b : Expr} {f g : Den} {o o' : ODen} {r : R2} {op : D → D → Option D}
theorem HdOk.mono {F F' : Hp} {σ : L2.St} {h : Hd} {v : V} (x : HdOk K F σ h v) (e : Ext F F') : HdOk K F' σ h v := by
  cases h with
  | val d => exact Rep.mono e x
  | slot i => exact x
theorem HdOk.rep {F H : Hp} {ρ : Env} {σ : L2.St} {h : Hd} {v : V} {d : D} (x : HdOk K F σ h v) (s : SOk K F ρ σ H) (e : res ρ h = some d) : RepH K F H v d := by
  cases h with
  | val d' =>
    cases e
    exact .inl x
  | slot i =>
    obtain ⟨v', e1, r⟩ := s.look e
    have e2 : σ[i]? = some (some v) := x
    rw [e2] at e1
    cases e1
    exact r
theorem dod_e (h : DE X a f) : DOd X a (oE f) := L2.PE.weak h fun σ H Q h => by
  obtain ⟨ρ, F, hd, ρ', s, e, k⟩ := h
  obtain ⟨⟨x, ρ1⟩, e1, e⟩ := bind_some e
  cases e
  exact ⟨ρ, F, x, _, s, e1, k⟩
theorem dod_n (i : Nat) {x : Str} (hN : X.N[i]? = some x := by rfl) (hv : Vis X.env.scope x := by first | exact Or.inl rfl | exact Or.inr (Or.inl rfl) | exact Or.inr (Or.inr rfl)) (hd : (x == ("__debug__" : Str)) = false := by decide +kernel)
    (hcd : (x == ("__classdict__" : Str)) = false := by decide +kernel) : DOd X (.Name x pos) (oN i) := (pe_var hN hv hd hcd).weak fun σ H Q h => by
  obtain ⟨ρ, F, hd, ρ', s, e, k⟩ := h
  obtain ⟨x, e1, e⟩ := bind_some e
  cases e
  obtain ⟨v, e2, _⟩ := s.look e1
  exact ⟨v, e2, k v F H (.refl s) e2⟩
theorem tE_bin (ho : OpH K r op) {σ : L2.St} {H : Hp} {Q : VK} (h : tE K (cBin op o o') σ H Q) : tOp r (tOD K o) (tOD K o') σ H Q := by
  obtain ⟨ρ, F, d, ρ', s, e, k⟩ := h
  obtain ⟨⟨x, ρ1⟩, e1, e⟩ := bind_some e
  obtain ⟨⟨y, ρ2⟩, e2, e⟩ := bind_some e
  obtain ⟨a, ea, e⟩ := bind_some e
  obtain ⟨b, eb, e⟩ := bind_some e
  obtain ⟨z, e3, e⟩ := bind_some e
  cases e
  exact ⟨ρ, F, x, ρ1, s, e1, fun v1 F1 H1 s1 r1 => ⟨ρ1, F1, y, _, s1.ok, e2, fun v2 F2 H2 s2 r2 =>
    ho F2 H2 v1 v2 a b _ s2.ok.sub ((r1.mono s2.gr.ext).rep s2.ok ea) (r2.rep s2.ok eb) e3 Q fun v F' H' px rep => k v F' H' ((s1.trans s2).thenPx px) rep⟩⟩
theorem de_op {q : Operator} (hr : OpR X (binaryOp q) r) (ho : OpH X.K r op) (ha : DOd X a o) (hb : DOd X b o') : DE X (.BinOp a q b pos) (cBin op o o') :=
  (pe_op hr ha hb).weak fun _ _ _ => tE_bin ho
theorem de_cmp {q : CmpOp} (hr : OpR X (compareOp q) r) (ho : OpH X.K r op) (ha : DOd X a o) (hb : DOd X b o') (hm : behindInMarks q b = false) : DE X (.Compare a [q] [b] pos) (cBin op o o') :=
  (pe_cmpR hr ha hb hm).weak fun _ _ _ => tE_bin ho
theorem tE_un {r : V → Hp → VK → Prop} {op : D → Option D} (ho : CallH K (fun vs H Q => ∃ v, vs = [v] ∧ r v H Q) op) {σ : L2.St} {H : Hp} {Q : VK} (h : tE K (cUn op o) σ H Q) : tOD K o σ H fun v H1 => r v H1 Q := by
  obtain ⟨ρ, F, d, ρ', s, e, k⟩ := h
  obtain ⟨⟨x, ρ1⟩, e1, e⟩ := bind_some e
  obtain ⟨a, ea, e⟩ := bind_some e
  obtain ⟨z, e3, e⟩ := bind_some e
  cases e
  refine ⟨ρ, F, x, _, s, e1, fun v1 F1 H1 s1 r1 => ?_⟩
  obtain ⟨v, ev, q⟩ := ho F1 H1 v1 a _ s1.ok.sub (r1.rep s1.ok ea) e3 Q fun v F' H' px rep => k v F' H' (s1.thenPx px) rep
  cases ev
  exact q
def UnH (K : PySem.W.Frag) (r : V → Hp → VK → Prop) (op : D → Option D) : Prop := CallH K (fun vs H Q => ∃ v, vs = [v] ∧ r v H Q) op
theorem de_un {q : UnaryOp} {r : V → Hp → VK → Prop} {op : D → Option D} (hr : UnR X (unaryOp q) r) (ho : UnH X.K r op) (ha : DOd X a o) : DE X (.UnaryOp q a pos) (cUn op o) :=
  (pe_un hr ha).weak fun _ _ _ => tE_un ho
/-! ### argument lists, displays -/
theorem da_nil : DA X [] cNil := pa_nil.weak fun σ H Q h => by
  obtain ⟨ρ, F, d, ρ', s, e, k⟩ := h
  cases e
  exact k [] F H (.refl s) .nil
theorem da_cons {es : List Expr} {fs : ADen} (ha : DE X a f) (hb : DA X es fs) (hs : starEach (a :: es) X.env = (false, eval a X.env) :: starEach es X.env := by rfl) : DA X (a :: es) (cCons f fs) := (pa_cons ha hb hs).weak fun σ H Q h => by
  obtain ⟨ρ, F, d, ρ', s, e, k⟩ := h
  obtain ⟨⟨x, ρ1⟩, e1, e⟩ := bind_some e
  obtain ⟨⟨y, ρ2⟩, e2, e⟩ := bind_some e
  cases e
  exact ⟨ρ, F, x, ρ1, s, e1, fun v1 F1 H1 s1 r1 => ⟨ρ1, F1, y, _, s1.ok, e2, fun vs F2 H2 s2 r2 => k _ F2 H2 (s1.trans s2) (.cons (r1.mono s2.gr.ext) r2)⟩⟩
@[simp] def opTup (ds : List D) : Option D := if ds.length ≤ sizeLine then some (.tuple ds) else none
@[simp] def opLst (ds : List D) : Option D := if ds.length ≤ sizeLine then some (.list ds) else none
theorem de_tup {es : List Expr} {fs : ADen} {x1} (ha : DA X es fs) : DE X (.Tuple es x1 pos) (cArgs opTup fs) := (pe_tup ha).weak fun σ H Q h => by
  obtain ⟨ρ, F, d, ρ', s, e, k⟩ := h
  obtain ⟨⟨x, ρ1⟩, e1, e⟩ := bind_some e
  obtain ⟨z, e3, e⟩ := bind_some e
  cases e
  unfold opTup at e3
  split at e3
  · rename_i hl
    cases e3
    refine ⟨ρ, F, x, _, s, e1, fun vs F1 H1 s1 r1 => ⟨by rw [r1.length]; exact hl, fun p hp => ?_⟩⟩
    have px := Px.laid (o := .tup vs) s1.ok.sub hp
    exact k _ _ _ (s1.thenPx px) (.tup upd_same (r1.mono px.ext))
  · cases e3
theorem SOk.fresh {K : PySem.W.Frag} {F H : Hp} {ρ : Env} {σ : L2.St} {p : Addr} (s : SOk K F ρ σ H) (h : H p = none) : F p = none ∧ ¬ Ow ρ σ p := by
  refine ⟨?_, fun z => ?_⟩
  · cases q : F p with
    | none => rfl
    | some u => exact absurd h (Std.ne_none (s.sub _ _ q))
  · obtain ⟨_, u, hu, _⟩ := s.ow_none z
    rw [h] at hu
    cases hu
end
end DL

set_option maxHeartbeats 4000000
/-! DL3: operators on data. -/
namespace DL
open PySem L2
section
variable {X : Cx} {K : PySem.W.Frag}

/-! ### arithmetic -/
@[simp] def addD : D → D → Option D
  | .int i, .int j => some (.int (i + j))
  | .str a, .str b => if a.length + b.length ≤ sizeLine then some (.str (a ++ b)) else none
  | .tuple xs, .tuple ys => if xs.length + ys.length ≤ sizeLine then some (.tuple (xs ++ ys)) else none
  | .list xs, .list ys => if xs.length + ys.length ≤ sizeLine then some (.list (xs ++ ys)) else none
  | _, _ => none
/-- list + list, whatever lists -/
def rCatS (K : PySem.W.Frag) : R2 := fun x y H Q => ∃ l b xs zs, x = .ref l ∧ y = .ref b ∧ SqL K H l xs ∧ SqL K H b zs ∧ xs.length + zs.length ≤ sizeLine ∧ ∀ p, H p = none → Q (.ref p) (upd H p (.lst (xs ++ zs)))
theorem op_catS : OpR X (binaryOp .Add) (rCatS X.K) := by
  intro pins s σ H x y v u Q I rx ry h
  obtain ⟨l, b, xs, zs, rfl, rfl, hH, hB, hz, q⟩ := h
  cases rx
  cases ry
  obtain ⟨its, r, p1, _⟩ := I.list hH
  obtain ⟨its2, r2, p2, _⟩ := I.list hB
  obtain ⟨⟨cls, dd, data, sl⟩, ho, hc, n, hd⟩ := id p1.isList
  obtain ⟨⟨cls2, dd2, data2, sl2⟩, ho2, hc2, n2, hd2⟩ := id p2.isList
  simp only at hc hd hc2 hd2
  subst hc hd hc2 hd2
  have e : its.toArray ++ its2.toArray = (its ++ its2).toArray := by simp
  have hsz : its.toArray.size + its2.toArray.size ≤ sizeLine := by
    rw [List.size_toArray, List.size_toArray, ← r.length, ← r2.length]
    exact hz
  refine PySem.concat_meets ⟨_, ho, rfl⟩ ⟨_, ho2, rfl⟩ noFill_list_add seq_list_add PySem.F.slot_list_add PySem.F.entry_list_add (PySem.F.args_list_add_2 _ _) (PyProof.Rows.list_addW l b its.toArray its2.toArray n n2 dd dd2 sl sl2 hsz) ⟨ho, ho2, ?_⟩
  rw [e]
  exact ⟨.ref _, _, I.lnew (t' := s.toks) (r.append r2) (by rw [List.length_append]; omega), rfl, q _ I.fresh⟩
def rAddS : R2 := fun x y H Q => ∃ i j, x = .str i ∧ y = .str j ∧ i.length + j.length ≤ sizeLine ∧ Q (.str (i ++ j)) H
def rAddD (K : PySem.W.Frag) : R2 := fun x y H Q => rI0 (fun i j => .int (i + j)) x y H Q ∨ rAddS x y H Q ∨ rCatA K x y H Q ∨ rCatS K x y H Q
theorem op_addD : OpR X (binaryOp .Add) (rAddD X.K) := op_add.or (OpR.or (r := rAddS) op_add_str (op_catA.or op_catS))
theorem od_add : OpH K (rAddD K) addD := by
  intro F H v1 v2 d1 d2 d3 sb r1 r2 e Q k
  unfold addD at e
  split at e
  · cases e
    exact .inl ⟨_, _, r1.int, r2.int, k _ F H (.refl sb) (.int _)⟩
  · split at e
    · rename_i hl
      cases e
      exact .inr (.inl ⟨_, _, r1.str, r2.str, hl, k _ F H (.refl sb) (.str _)⟩)
    · cases e
  · obtain ⟨a, xs, rfl, h1, t1, q1⟩ := r1.tup sb
    obtain ⟨b, ys, rfl, h2, t2, q2⟩ := r2.tup sb
    split at e
    · rename_i hl
      cases e
      refine .inr (.inr (.inl ⟨_, _, _, _, rfl, rfl, SqT.of h1, SqT.of h2, by rw [q1.length, q2.length]; exact hl, fun z => ?_, fun z1 z2 => ?_, fun _ _ p hp => ?_⟩))
      · subst z
        cases q1
        exact k _ F H (.refl sb) (.tup t2 q2)
      · subst z2
        cases q2
        rw [List.append_nil] at k
        exact k _ F H (.refl sb) (.tup t1 q1)
      · exact k _ _ _ (Px.laid sb hp) (.tup upd_same ((q1.append q2).mono (Px.laid sb hp).ext))
    · cases e
  · obtain ⟨a, xs, rfl, h1, q1⟩ := r1.lst sb
    obtain ⟨b, ys, rfl, h2, q2⟩ := r2.lst sb
    split at e
    · rename_i hl
      cases e
      refine .inr (.inr (.inr ⟨_, _, _, _, rfl, rfl, h1, h2, by rw [q1.length, q2.length]; exact hl, fun p hp => ?_⟩))
      exact k _ _ _ (Px.laid sb hp) (.lst (.inl upd_same) ((q1.append q2).mono (Px.laid sb hp).ext))
    · cases e
  · cases e

@[simp] def intOp (C : Int → Int → Bool) (g : Int → Int → Int) : D → D → Option D
  | .int i, .int j => if C i j = true then some (.int (g i j)) else none
  | _, _ => none
theorem od_int {C : Int → Int → Prop} {c : Int → Int → Bool} {g : Int → Int → Int} (hc : ∀ i j, c i j = true → C i j) : OpH K (rI C fun i j => .int (g i j)) (intOp c g) := by
  intro F H v1 v2 d1 d2 d3 sb r1 r2 e Q k
  unfold intOp at e
  split at e
  · split at e
    · rename_i h
      cases e
      exact ⟨_, _, r1.int, r2.int, hc _ _ h, k _ F H (.refl sb) (.int _)⟩
    · cases e
  · cases e
@[simp] def subD : D → D → Option D
  | .int i, .int j => some (.int (i - j))
  | _, _ => none
theorem od_sub : OpH K (rI0 fun i j => .int (i - j)) subD := by
  intro F H v1 v2 d1 d2 d3 sb r1 r2 e Q k
  unfold subD at e
  split at e
  · cases e
    exact ⟨_, _, r1.int, r2.int, k _ F H (.refl sb) (.int _)⟩
  · cases e
def mulC (i j : Int) : Bool := (decide (-(2 ^ 64) < i) && decide (i < 2 ^ 64)) || (decide (-(2 ^ 64) < j) && decide (j < 2 ^ 64))
def divC (_ j : Int) : Bool := decide (j ≠ 0) && decide (j.natAbs < 1073741824)
def modC (_ j : Int) : Bool := decide (j ≠ 0)
def powC (i j : Int) : Bool := decide (0 ≤ j) && decide (j ≤ 1000000) && decide (i.natAbs < 2 ^ 64)
theorem mulC_ok (i j : Int) (h : mulC i j = true) : CMul i j := by
  unfold mulC at h
  unfold CMul
  simpa using h
theorem divC_ok (i j : Int) (h : divC i j = true) : CDivN i j := by
  unfold divC at h
  unfold CDivN
  simpa using h
theorem modC_ok (i j : Int) (h : modC i j = true) : j ≠ 0 := by
  unfold modC at h
  simpa using h
theorem powC_ok (i j : Int) (h : powC i j = true) : CPow i j := by
  unfold powC at h
  unfold CPow
  rw [Bool.and_eq_true, Bool.and_eq_true] at h
  exact ⟨of_decide_eq_true h.1.1, of_decide_eq_true h.1.2, of_decide_eq_true h.2⟩
/-- a * b: ints; a list times an int -/
def mulD : D → D → Option D
  | .int i, .int j => if mulC i j = true then some (.int (i * j)) else none
  | .str s, .int j => if s.length = 1 ∧ 0 ≤ j ∧ j ≤ 1000 then some (.str ⟨(List.replicate j.toNat (s.cps.toList.headD 0)).toArray⟩) else none
  | _, _ => none
@[simp] def mulI : D → D → Option D := intOp mulC (· * ·)
@[simp] def fdivD : D → D → Option D := intOp divC Int.fdiv
@[simp] def modD : D → D → Option D := intOp modC Int.fmod
@[simp] def powD : D → D → Option D := intOp powC fun i j => i ^ j.toNat
theorem od_mul : OpH K (rI CMul fun i j => .int (i * j)) mulI := od_int mulC_ok
theorem od_fdiv : OpH K (rI CDivN fun i j => .int (i.fdiv j)) fdivD := od_int divC_ok
theorem od_mod : OpH K (rI (fun _ j => j ≠ 0) fun i j => .int (i.fmod j)) modD := od_int modC_ok
theorem od_pow : OpH K (rI CPow fun i j => .int (i ^ j.toNat)) powD := od_int powC_ok
@[simp] def negD : D → Option D
  | .int i => some (.int (-i))
  | _ => none
theorem ud_neg : UnH K (rU fun i => .int (-i)) negD := by
  intro F H v1 d1 d3 sb r1 e Q k
  unfold negD at e
  split at e
  · cases e
    exact ⟨_, rfl, _, r1.int, k _ F H (.refl sb) (.int _)⟩
  · cases e

/-! ### comparisons -/
mutual
theorem Rep.dp {F H : Hp} (sb : Sub F H) : ∀ {v : V} {d : D}, Rep K F v d → d.canLay0 = true → Dp K H v d
  | _, _, .non, _ => .non
  | _, _, .bl b, _ => .bl b
  | _, _, .int i, _ => .int i
  | _, _, .str s, _ => .str s
  | _, _, .lst h r, e => .lst (h.sq sb) (Reps.dp sb r (by simpa only [PyData.canLay0] using e))
  | _, _, .tup h r, e => .tup (h.sq sb) (Reps.dp sb r (by simpa only [PyData.canLay0] using e))
  | _, _, .dK _ _, e => by simp [PyData.canLay0] at e
  | _, _, .dT _ _, e => by simp [PyData.canLay0] at e
theorem Reps.dp {F H : Hp} (sb : Sub F H) : ∀ {v : List V} {d : List D}, Reps K F v d → PyData.canLayAll0 d = true → DpAll K H v d
  | _, _, .nil, _ => .nil
  | _, _, .cons r t, e => by
    rw [PyData.canLayAll0, Bool.and_eq_true] at e
    exact .cons (Rep.dp sb r e.1) (Reps.dp sb t e.2)
end
theorem RepH.dp {F H : Hp} {v : V} {d : D} (h : RepH K F H v d) (sb : Sub F H) (e : d.canLay0 = true) : Dp K H v d := by
  rcases h with h | ⟨p, u, rfl, hu, t⟩
  · exact h.dp sb e
  · cases t with
    | lst r => exact .lst (SqL.of hu) (r.dp sb (by simpa only [PyData.canLay0] using e))
    | dK _ => simp [PyData.canLay0] at e
    | dT _ => simp [PyData.canLay0] at e
def eqD (a b : D) : Option D := if SeqAt.shaped a && SeqAt.shaped b then some (.bool (PyData.eqv a b)) else none
def neD (a b : D) : Option D := if SeqAt.shaped a && SeqAt.shaped b then some (.bool (!PyData.eqv a b)) else none
theorem shaped_lay {d : D} (h : SeqAt.shaped d = true) : d.canLay0 = true := by
  unfold SeqAt.shaped at h
  exact (Bool.and_eq_true _ _ ▸ h : _ ∧ _).1
theorem od_eq : OpH K (rEqD K) eqD := by
  intro F H v1 v2 d1 d2 d3 sb r1 r2 e Q k
  unfold eqD at e
  split at e
  · rename_i h
    rw [Bool.and_eq_true] at h
    cases e
    exact ⟨d1, d2, r1.dp sb (shaped_lay h.1), r2.dp sb (shaped_lay h.2), h.1, h.2, k _ F H (.refl sb) (.bl _)⟩
  · cases e
theorem od_ne : OpH K (rNeD K) neD := by
  intro F H v1 v2 d1 d2 d3 sb r1 r2 e Q k
  unfold neD at e
  split at e
  · rename_i h
    rw [Bool.and_eq_true] at h
    cases e
    exact ⟨d1, d2, r1.dp sb (shaped_lay h.1), r2.dp sb (shaped_lay h.2), h.1, h.2, k _ F H (.refl sb) (.bl _)⟩
  · cases e
/-- ints compared -/
@[simp] def cmpI (g : Int → Int → Bool) : D → D → Option D
  | .int i, .int j => some (.bool (g i j))
  | _, _ => none
theorem od_cmpI {g : Int → Int → Bool} : OpH K (rI0 fun i j => .bl (g i j)) (cmpI g) := by
  intro F H v1 v2 d1 d2 d3 sb r1 r2 e Q k
  unfold cmpI at e
  split at e
  · cases e
    exact ⟨_, _, r1.int, r2.int, k _ F H (.refl sb) (.bl _)⟩
  · cases e
@[simp] def isNo : D → Bool
  | .none => true
  | _ => false
theorem RepH.non_iff {F H : Hp} {v : V} {d : D} (r : RepH K F H v d) : decide (v = .non) = isNo d := by
  rcases r with r | ⟨p, u, rfl, _, t⟩
  · cases r <;> rfl
  · cases t <;> rfl
@[simp] def isND : D → D → Option D
  | d, .none => some (.bool (isNo d))
  | _, _ => none
@[simp] def notND : D → D → Option D
  | d, .none => some (.bool (!isNo d))
  | _, _ => none
theorem od_isN : OpH K (fun x y H Q => y = .non ∧ Q (.bl (decide (x = .non))) H) isND := by
  intro F H v1 v2 d1 d2 d3 sb r1 r2 e Q k
  unfold isND at e
  split at e
  · cases e
    refine ⟨r2.non, ?_⟩
    rw [r1.non_iff]
    exact k _ F H (.refl sb) (.bl _)
  · cases e
theorem od_notN : OpH K (fun x y H Q => y = .non ∧ Q (.bl (!decide (x = .non))) H) notND := by
  intro F H v1 v2 d1 d2 d3 sb r1 r2 e Q k
  unfold notND at e
  split at e
  · cases e
    refine ⟨r2.non, ?_⟩
    rw [r1.non_iff]
    exact k _ F H (.refl sb) (.bl _)
  · cases e
end
/-! ### keys -/
mutual
def keyB : D → D → Bool
  | .int i, .int j => i == j
  | .str a, .str b => a == b
  | .tuple xs, .tuple ys => keyBs xs ys
  | _, _ => false
def keyBs : List D → List D → Bool
  | [], [] => true
  | x :: xs, y :: ys => keyB x y && keyBs xs ys
  | _, _ => false
end
theorem keyB_k (k j : Key) : keyB (keyD k) (keyD j) = decide (k = j) := by
  cases k <;> cases j <;> simp [keyD, keyB, Bool.beq_eq_decide_eq]
theorem keyBs_t : ∀ k j : List Key, keyBs (k.map keyD) (j.map keyD) = decide (k = j)
  | [], [] => by simp [keyBs]
  | [], _ :: _ => by simp [keyBs]
  | _ :: _, [] => by simp [keyBs]
  | k :: r, j :: q => by
    rw [List.map_cons, List.map_cons, keyBs, keyB_k, keyBs_t r q]
    by_cases h : k = j <;> by_cases h2 : r = q <;> simp [h, h2]
theorem keyB_t (k j : List Key) : keyB (.tuple (k.map keyD)) (.tuple (j.map keyD)) = decide (k = j) := by
  rw [keyB, keyBs_t]
/-- a key: an int, a text; a tuple of such -/
@[simp] def asK : D → Option Key
  | .int i => some (.inl i)
  | .str s => some (.inr s)
  | _ => none
def asKs : List D → Option (List Key)
  | [] => some []
  | d :: r => (asK d).bind fun k => (asKs r).map (k :: ·)
theorem asK_some {d : D} {k : Key} (h : asK d = some k) : d = keyD k := by
  cases d <;> first
    | (cases h; rfl)
    | cases h
theorem asKs_some : ∀ {ds : List D} {k : List Key}, asKs ds = some k → ds = k.map keyD
  | [], k, h => by cases h; rfl
  | d :: r, k, h => by
    unfold asKs at h
    obtain ⟨a, e1, e2⟩ := bind_some h
    obtain ⟨b, e3, rfl⟩ := Option.map_eq_some_iff.mp e2
    rw [List.map_cons, ← asKs_some e3, asK_some e1]
@[simp] def isKey : D → Bool
  | .int _ => true
  | .str _ => true
  | _ => false
/-- what kind of keys a dict has: true: tuples -/
def dget (es : List (D × D)) (k : D) : Option D := (es.find? fun p => keyB p.1 k).map (·.2)
def dput (es : List (D × D)) (k v : D) : List (D × D) :=
  if (es.any fun p => keyB p.1 k) = true then es.map (fun p => if keyB p.1 k = true then (p.1, v) else p) else es ++ [(k, v)]
/-- the keys are fit for a look with k -/
def fitK (es : List (D × D)) (k : D) : Bool := match k with
  | .int _ => es.all fun p => isKey p.1
  | .str _ => es.all fun p => isKey p.1
  | .tuple ks => (asKs ks).isSome && es.all fun p => !isKey p.1
  | _ => false
section
variable {K : PySem.W.Frag} {F H : Hp} {v : V}
theorem RepK.get {k : Key} : ∀ {kvs : List (Key × V)} {es : List (D × D)}, RepK K F kvs es → (dget es (keyD k) = none ∧ valV kvs k = none) ∨ ∃ d v, dget es (keyD k) = some d ∧ valV kvs k = some v ∧ Rep K F v d
  | _, _, .nil => .inl ⟨rfl, rfl⟩
  | _, _, .cons (k := j) (v := v) (d := d) (r := r) (es := es) h t => by
    by_cases e : j = k
    · refine .inr ⟨d, v, ?_, valV_pos e, h⟩
      unfold dget
      rw [List.find?_cons, keyB_k, decide_eq_true e]
      rfl
    · have e1 : dget ((keyD j, d) :: es) (keyD k) = dget es (keyD k) := by
        unfold dget
        rw [List.find?_cons, keyB_k, decide_eq_false e]
      have e2 : valV ((j, v) :: r) k = valV r k := valV_neg e
      rw [e1, e2]
      exact RepK.get t
theorem RepT.get {k : List Key} : ∀ {kvs : List (List Key × V)} {es : List (D × D)}, RepT K F kvs es → (dget es (.tuple (k.map keyD)) = none ∧ valV kvs k = none) ∨ ∃ d v, dget es (.tuple (k.map keyD)) = some d ∧ valV kvs k = some v ∧ Rep K F v d
  | _, _, .nil => .inl ⟨rfl, rfl⟩
  | _, _, .cons (k := j) (v := v) (d := d) (r := r) (es := es) h t => by
    by_cases e : j = k
    · refine .inr ⟨d, v, ?_, valV_pos e, h⟩
      unfold dget
      rw [List.find?_cons, keyB_t, decide_eq_true e]
      rfl
    · have e1 : dget ((.tuple (j.map keyD), d) :: es) (.tuple (k.map keyD)) = dget es (.tuple (k.map keyD)) := by
        unfold dget
        rw [List.find?_cons, keyB_t, decide_eq_false e]
      have e2 : valV ((j, v) :: r) k = valV r k := valV_neg e
      rw [e1, e2]
      exact RepT.get t
/-- nothing of an empty dict -/
theorem Reps.keys : ∀ {vs : List V} {k : List Key}, Reps K F vs (k.map keyD) → vs = k.map kV
  | _, [], .nil => rfl
  | _, a :: k, .cons r t => by
    rw [List.map_cons, Reps.keys t]
    cases a with
    | inl i => cases r; rfl
    | inr s => cases r; rfl
/-- a look into a dict -/
theorem RepH.dget {es : List (D × D)} {a : Addr} {y : V} {k : D} (h : RepH K F H (.ref a) (.dict es)) (sb : Sub F H) (hy : RepH K F H y k) (f : fitK es k = true) (hne : es ≠ []) :
    ∃ o, DGet H a y o ∧ ((DL.dget es k = none ∧ o = none) ∨ ∃ d v, DL.dget es k = some d ∧ o = some v ∧ Rep K F v d) := by
  obtain ⟨b, e, hh⟩ := h.dic sb
  cases e
  have flat : ∀ {j : Key}, y = kV j → k = keyD j → (∀ p ∈ es, isKey p.1 = true) → ∃ o, DGet H a y o ∧ ((DL.dget es k = none ∧ o = none) ∨ ∃ d v, DL.dget es k = some d ∧ o = some v ∧ Rep K F v d) := by
    intro j ey ek hall
    rcases hh with ⟨kvs, hr, rk⟩ | ⟨kvs, hr, rk⟩
    · subst ek
      exact ⟨valV kvs j, .inl ⟨kvs, j, hr, ey, rfl⟩, rk.get⟩
    · cases rk with
      | nil => exact absurd rfl hne
      | cons _ _ => exact absurd (hall _ List.mem_cons_self) (by simp [isKey])
  unfold fitK at f
  split at f
  · have e := hy.int
    exact flat (j := .inl _) e rfl fun p hp => List.all_eq_true.mp f p hp
  · have e := hy.str
    exact flat (j := .inr _) e rfl fun p hp => List.all_eq_true.mp f p hp
  · rename_i ks
    rw [Bool.and_eq_true, Option.isSome_iff_exists] at f
    obtain ⟨⟨kk, e1⟩, f⟩ := f
    obtain rfl := asKs_some e1
    obtain ⟨b, xs, rfl, hb, _, rx⟩ := hy.tup sb
    obtain rfl := rx.keys
    rcases hh with ⟨kvs, hr, rk⟩ | ⟨kvs, hr, rk⟩
    · cases rk with
      | nil => exact absurd rfl hne
      | cons _ _ =>
        have q := List.all_eq_true.mp f _ List.mem_cons_self
        rename_i k' _ _ _ _ _ _
        cases k' <;> simp [isKey, keyD] at q
    · exact ⟨valV kvs kk, .inr ⟨kvs, kk, b, hr, rfl, hb, rfl⟩, rk.get⟩
  · cases f
end
end DL

set_option maxHeartbeats 4000000
/-! DL4: tests, choices, subscripts, slices, calls of built-ins, calls of defs. -/
namespace DL
open PySem L2
section
variable {X : Cx} {K : PySem.W.Frag} {pos : Pos} {a b c : Expr} {f g h : Den} {o o' o2 : ODen} {r r' : R2}

/-! ### tests -/
@[simp] def asB : D → Option Bool
  | .bool b => some b
  | _ => none
theorem asB_some {d : D} {b : Bool} (h : asB d = some b) : d = .bool b := by
  cases d <;> first
    | (cases h; rfl)
    | cases h
/-- a value that is True or False, as a test -/
def cT (f : Den) : TDen := fun ρ => (f ρ).bind fun x => (asB x.1).bind fun z => some (z, x.2)
theorem tTD_val {t : TE} (hw : ∀ σ H Q, tE K f σ H Q → t σ H Q) {σ : L2.St} {H : Hp} {Q : Bool → Hp → Prop} (h : tTD K (cT f) σ H Q) : t σ H fun x H1 => ∃ k, x = .bl k ∧ Q k H1 := by
  obtain ⟨ρ, F, d, ρ', s, e, k⟩ := h
  obtain ⟨⟨x, ρ1⟩, e1, e⟩ := bind_some e
  obtain ⟨z, e2, e⟩ := bind_some e
  cases e
  refine hw _ _ _ ⟨ρ, F, x, _, s, e1, fun v F1 H1 s1 r1 => ?_⟩
  obtain rfl : x = .bool d := asB_some e2
  cases r1
  exact ⟨_, rfl, k F1 H1 s1⟩
theorem dt_val (he : DE X a f) (hp : ∀ whole, isTrue a X.env whole = (do let v ← whole; standAt a.pos; holding [v] (truthy v)) := by intro _; rfl) : DT X a (cT f) :=
  (pt_val he hp).weak fun _ _ _ h => tTD_val (fun _ _ _ x => x) h
theorem dt_cmp {q : CmpOp} {op : D → D → Option D} (hr : OpR X (compareOp q) r) (ho : OpH X.K r op) (ha : DOd X a o) (hb : DOd X b o') (hm : behindInMarks q b = false) : DT X (.Compare a [q] [b] pos) (cT (cBin op o o')) :=
  (pt_cmpR hr ha hb hm).weak fun _ _ _ h => tTD_val (fun _ _ _ => tE_bin ho) h
/-- a o b o' c -/
def cChain (op op' : D → D → Option D) (f g h : ODen) : Den := fun ρ => (f ρ).bind fun x => (g x.2).bind fun y => (res y.2 x.1).bind fun a => (res y.2 y.1).bind fun b => (op a b).bind fun z => (asB z).bind fun k => match k with
  | true => (h y.2).bind fun w => (res w.2 y.1).bind fun b => (res w.2 w.1).bind fun c => (op' b c).bind fun u => some (u, w.2)
  | false => some (.bool false, y.2)
theorem tE_chain {op op' : D → D → Option D} (ho : OpH K r op) (ho' : OpH K r' op') {σ : L2.St} {H : Hp} {Q : VK} (hh : tE K (cChain op op' o o' o2) σ H Q) : tChain r r' (tOD K o) (tOD K o') (tOD K o2) σ H Q := by
  obtain ⟨ρ, F, d, ρ', s, e, k⟩ := hh
  obtain ⟨⟨x, ρ1⟩, e1, e⟩ := bind_some e
  obtain ⟨⟨y, ρ2⟩, e2, e⟩ := bind_some e
  obtain ⟨a, ea, e⟩ := bind_some e
  obtain ⟨b, eb, e⟩ := bind_some e
  obtain ⟨z, e3, e⟩ := bind_some e
  obtain ⟨kk, e4, e⟩ := bind_some e
  refine ⟨ρ, F, x, ρ1, s, e1, fun v1 F1 H1 s1 r1 => ⟨ρ1, F1, y, ρ2, s1.ok, e2, fun v2 F2 H2 s2 r2 => ho F2 H2 v1 v2 a b z s2.ok.sub ((r1.mono s2.gr.ext).rep s2.ok ea) (r2.rep s2.ok eb) e3 _ fun v F3 H3 px rep => ?_⟩⟩
  obtain rfl : z = .bool kk := asB_some e4
  cases rep
  refine ⟨_, rfl, ?_⟩
  have s3 := (s1.trans s2).thenPx px
  cases kk with
  | false =>
    cases e
    exact k _ F3 H3 s3 (.bl _)
  | true =>
    obtain ⟨⟨w, ρ3⟩, e5, e⟩ := bind_some (show (o2 ρ2).bind _ = some (d, ρ') from e)
    obtain ⟨b', eb', e⟩ := bind_some e
    obtain ⟨c, ec, e⟩ := bind_some e
    obtain ⟨u, e6, e⟩ := bind_some e
    cases e
    exact ⟨ρ2, F3, w, _, s3.ok, e5, fun v3 F4 H4 s4 r4 => ho' F4 H4 v2 v3 b' c _ s4.ok.sub (((r2.mono px.ext).mono s4.gr.ext).rep s4.ok eb') (r4.rep s4.ok ec) e6 Q fun v F5 H5 px5 rep5 => k v F5 H5 ((s3.trans s4).thenPx px5) rep5⟩
theorem de_chain {q q' : CmpOp} {op op' : D → D → Option D} (hr : OpR X (compareOp q) r) (hr' : OpR X (compareOp q') r') (ho : OpH X.K r op) (ho' : OpH X.K r' op') (ha : DOd X a o) (hb : DOd X b o') (hc : DOd X c o2)
    (hm : lastMarks [q, q'] [b, c] = false := by with_unfolding_all rfl) : DE X (.Compare a [q, q'] [b, c] pos) (cChain op op' o o' o2) := (pe_chain hr hr' ha hb hc hm).weak fun _ _ _ => tE_chain ho ho'
theorem dt_chain {q q' : CmpOp} {op op' : D → D → Option D} (hr : OpR X (compareOp q) r) (hr' : OpR X (compareOp q') r') (ho : OpH X.K r op) (ho' : OpH X.K r' op') (ha : DOd X a o) (hb : DOd X b o') (hc : DOd X c o2)
    (hm : lastMarks [q, q'] [b, c] = false := by with_unfolding_all rfl) : DT X (.Compare a [q, q'] [b, c] pos) (cT (cChain op op' o o' o2)) := (pt_chain hr hr' ha hb hc hm).weak fun _ _ _ x => tTD_val (fun _ _ _ => tE_chain ho ho') x

def cAnd (f g : TDen) : TDen := fun ρ => (f ρ).bind fun x => match x.1 with
  | true => g x.2
  | false => some (false, x.2)
def cOr (f g : TDen) : TDen := fun ρ => (f ρ).bind fun x => match x.1 with
  | true => some (true, x.2)
  | false => g x.2
def cNot (f : TDen) : TDen := fun ρ => (f ρ).bind fun x => some (!x.1, x.2)
variable {tf tg : TDen} {rest : List Expr}
theorem dw_and1 (ha : DT X a tf) : DW X (.BoolOp .And [a] pos) tf := pw_and1 ha
theorem dw_or1 (ha : DT X a tf) : DW X (.BoolOp .Or [a] pos) tf := pw_or1 ha
theorem dw_and (ha : DT X a tf) (hb : DW X (.BoolOp .And (b :: rest) pos) tg) : DW X (.BoolOp .And (a :: b :: rest) pos) (cAnd tf tg) := (pw_and ha hb).weak fun σ H Q h => by
  obtain ⟨ρ, F, d, ρ', s, e, k⟩ := h
  obtain ⟨⟨x, ρ1⟩, e1, e⟩ := bind_some e
  refine ⟨ρ, F, x, ρ1, s, e1, fun F1 H1 s1 => ?_⟩
  cases x with
  | true => exact iteT ⟨ρ1, F1, d, ρ', s1.ok, e, fun F2 H2 s2 => k F2 H2 (s1.trans s2)⟩
  | false =>
    cases e
    exact iteF (k F1 H1 s1)
theorem dw_or (ha : DT X a tf) (hb : DW X (.BoolOp .Or (b :: rest) pos) tg) : DW X (.BoolOp .Or (a :: b :: rest) pos) (cOr tf tg) := (pw_or ha hb).weak fun σ H Q h => by
  obtain ⟨ρ, F, d, ρ', s, e, k⟩ := h
  obtain ⟨⟨x, ρ1⟩, e1, e⟩ := bind_some e
  refine ⟨ρ, F, x, ρ1, s, e1, fun F1 H1 s1 => ?_⟩
  cases x with
  | false => exact iteF ⟨ρ1, F1, d, ρ', s1.ok, e, fun F2 H2 s2 => k F2 H2 (s1.trans s2)⟩
  | true =>
    cases e
    exact iteT (k F1 H1 s1)
theorem dt_w (h : DW X a tf) : DT X a tf := L2.PW.pt h
theorem dt_not (ha : DT X a tf) : DT X (.UnaryOp .Not a pos) (cNot tf) := (pt_not ha).weak fun σ H Q h => by
  obtain ⟨ρ, F, d, ρ', s, e, k⟩ := h
  obtain ⟨⟨x, ρ1⟩, e1, e⟩ := bind_some e
  cases e
  exact ⟨ρ, F, x, _, s, e1, k⟩
/-- and, or, not as values (of bools) -/
def cAndV (f g : Den) : Den := fun ρ => (f ρ).bind fun x => (asB x.1).bind fun z => match z with
  | true => g x.2
  | false => some (.bool false, x.2)
def cOrV (f g : Den) : Den := fun ρ => (f ρ).bind fun x => (asB x.1).bind fun z => match z with
  | true => some (.bool true, x.2)
  | false => g x.2
@[simp] def notD : D → Option D
  | .bool b => some (.bool (!b))
  | _ => none
theorem de_one {o} (h : DE X a f) : DE X (.BoolOp o [a] pos) f := pe_one h
theorem de_and (ha : DE X a f) (hb : DE X (.BoolOp .And (b :: rest) pos) g) : DE X (.BoolOp .And (a :: b :: rest) pos) (cAndV f g) := (pe_and ha hb).weak fun σ H Q h => by
  obtain ⟨ρ, F, d, ρ', s, e, k⟩ := h
  obtain ⟨⟨x, ρ1⟩, e1, e⟩ := bind_some e
  obtain ⟨z, e2, e⟩ := bind_some e
  refine ⟨ρ, F, x, ρ1, s, e1, fun v F1 H1 s1 r1 => ?_⟩
  obtain rfl : x = .bool z := asB_some e2
  cases r1
  refine ⟨_, rfl, ?_⟩
  · cases z with
    | true => exact iteT ⟨ρ1, F1, d, ρ', s1.ok, e, fun v F2 H2 s2 => k v F2 H2 (s1.trans s2)⟩
    | false =>
      cases e
      exact iteF (k _ F1 H1 s1 (.bl _))
theorem de_or (ha : DE X a f) (hb : DE X (.BoolOp .Or (b :: rest) pos) g) : DE X (.BoolOp .Or (a :: b :: rest) pos) (cOrV f g) := (pe_or ha hb).weak fun σ H Q h => by
  obtain ⟨ρ, F, d, ρ', s, e, k⟩ := h
  obtain ⟨⟨x, ρ1⟩, e1, e⟩ := bind_some e
  obtain ⟨z, e2, e⟩ := bind_some e
  refine ⟨ρ, F, x, ρ1, s, e1, fun v F1 H1 s1 r1 => ?_⟩
  obtain rfl : x = .bool z := asB_some e2
  cases r1
  refine ⟨_, rfl, ?_⟩
  · cases z with
    | false => exact iteF ⟨ρ1, F1, d, ρ', s1.ok, e, fun v F2 H2 s2 => k v F2 H2 (s1.trans s2)⟩
    | true =>
      cases e
      exact iteT (k _ F1 H1 s1 (.bl _))
theorem de_not (ha : DE X a f) : DE X (.UnaryOp .Not a pos) (cUn notD (oE f)) := (pe_not ha).weak fun σ H Q h => by
  obtain ⟨ρ, F, d, ρ', s, e, k⟩ := h
  obtain ⟨⟨x, ρ1⟩, e1, e⟩ := bind_some e
  obtain ⟨⟨x, ρ1⟩, e0, e1⟩ := bind_some e1
  cases e1
  obtain ⟨y, ey, e⟩ := bind_some e
  cases ey
  obtain ⟨z, e2, e⟩ := bind_some e
  cases e
  refine ⟨ρ, F, x, _, s, e0, fun v F1 H1 s1 r1 => ?_⟩
  have e3 : notD x = some d := e2
  cases x with
  | bool b =>
    cases e3
    cases r1
    exact ⟨_, rfl, k _ F1 H1 s1 (.bl _)⟩
  | _ => cases e3
/-- a if t else b -/
def cIf (t : TDen) (f g : Den) : Den := fun ρ => (t ρ).bind fun x => match x.1 with
  | true => f x.2
  | false => g x.2
theorem de_if (hc : DT X c tf) (ha : DE X a f) (hb : DE X b g) : DE X (.IfExp c a b pos) (cIf tf f g) := (pe_ifExp hc ha hb).weak fun σ H Q h => by
  obtain ⟨ρ, F, d, ρ', s, e, k⟩ := h
  obtain ⟨⟨x, ρ1⟩, e1, e⟩ := bind_some e
  refine ⟨ρ, F, x, ρ1, s, e1, fun F1 H1 s1 => ?_⟩
  cases x with
  | true => exact iteT ⟨ρ1, F1, d, ρ', s1.ok, e, fun v F2 H2 s2 => k v F2 H2 (s1.trans s2)⟩
  | false => exact iteF ⟨ρ1, F1, d, ρ', s1.ok, e, fun v F2 H2 s2 => k v F2 H2 (s1.trans s2)⟩

end
end DL

set_option maxHeartbeats 4000000
/-! DL5: in, subscripts, with dicts; names looked at in passing; slices. -/
namespace DL
open PySem L2 PyProof.Rows
/-- a look into a dict, the empty one whatever the key -/
def DGetE (H : Hp) (a : Addr) (y : V) (o : Option V) : Prop :=
  DGet H a y o ∨ (o = none ∧ ((Rd H a (.dK []) ∧ ∃ (k : List Key) (b : Addr), y = .ref b ∧ H b = some (.tup (k.map kV))) ∨ (Rd H a (.dT []) ∧ ∃ k, y = kV k)))
section
variable {X : Cx} {pins : List (Addr × Obj)} {σ : L2.St} {H : Hp} {s : Shared} {a : Addr} {y v d : V} {u r : Value} {o : Option V} {A : Around} {E : Value → Shared → Prop}
theorem empty_T (I : Inv X pins σ H s) (h : Rd H a (.dK [])) : (a == sysModules) = false ∧ s.heap.DictOfH (tupleKind (mixKind X.prog X.w)) a [] := by
  obtain ⟨_, hd, vs, rel, o, es, ep, h1, h2, h3, _, h5, _⟩ := dk_rd I.hok h
  cases rel
  refine ⟨hd, o, es, ep, h1, h2, h3, ?_, fun x hx => absurd hx List.not_mem_nil, List.nodup_nil⟩
  generalize es.toList = l at h5
  cases h5
  rfl
theorem empty_K (I : Inv X pins σ H s) (h : Rd H a (.dT [])) : (a == sysModules) = false ∧ s.heap.MapOf (mixKind X.prog X.w) a fun _ => none := by
  obtain ⟨_, hd, xs, rel, o, es, ep, h1, h2, h3, h4, _⟩ := dt_rd I.hok h
  cases rel
  have e : es = #[] := by
    apply Array.toList_inj.mp
    rw [h4]
    rfl
  subst e
  exact ⟨hd, o, #[], ep, h1, h2, h3, fun e he => absurd he (by simp), fun k => rfl⟩
theorem d_inE {Q : Value → Shared → Prop} (hu : A.units + 1 < cLine) (I : Inv X pins σ H s) (g : DGetE H a y o) (ry : RelV y u) (h : ∀ s', Inv X pins σ H s' → Q (.bool o.isSome) s') :
    wpAny (model X.prog X.w) A (compareOp .In u (.ref a)) Q E s := by
  rcases g with g | ⟨rfl, ⟨e, k, b, rfl, eb⟩ | ⟨e, k, rfl⟩⟩
  · exact d_in hu I g ry h
  · cases (show u = Value.ref b from ry)
    obtain ⟨hd, dd⟩ := empty_T I e
    refine wpAny_in_heap (tupleKind_room_in1 hu) (key_of I.hok eb) hd dd ?_
    exact h _ (I.tok _)
  · obtain ⟨hd, dd⟩ := empty_K I e
    refine wpAny_in_of (kV_is ry) hd dd ?_
    exact h _ (I.tok _)
theorem d_notInE {Q : Value → Shared → Prop} (hu : A.units + 1 < cLine) (I : Inv X pins σ H s) (g : DGetE H a y o) (ry : RelV y u) (h : ∀ s', Inv X pins σ H s' → Q (.bool (!o.isSome)) s') :
    wpAny (model X.prog X.w) A (compareOp .NotIn u (.ref a)) Q E s := by
  rcases g with g | ⟨rfl, ⟨e, k, b, rfl, eb⟩ | ⟨e, k, rfl⟩⟩
  · exact d_notIn hu I g ry h
  · cases (show u = Value.ref b from ry)
    obtain ⟨hd, dd⟩ := empty_T I e
    refine wpAny_notIn_heap (tupleKind_room_in1 hu) (key_of I.hok eb) hd dd ?_
    exact h _ (I.tok _)
  · obtain ⟨hd, dd⟩ := empty_K I e
    refine wpAny_notIn_of (kV_is ry) hd dd ?_
    exact h _ (I.tok _)
theorem d_get2E {Q : Value → Shared → Prop} (hu : A.units + 1 < cLine) (I : Inv X pins σ H s) (g : DGetE H a y o) (ry : RelV y u) (rd : RelV d r) (h : ∀ w' s', Inv X pins σ H s' → RelV (o.getD d) w' → Q w' s') :
    wpAny (model X.prog X.w) A (call (.builtin "dict.get") [.ref a, u, r]) Q E s := by
  rcases g with g | ⟨rfl, ⟨e, k, b, rfl, eb⟩ | ⟨e, k, rfl⟩⟩
  · exact d_get2 hu I g ry rd h
  · cases (show u = Value.ref b from ry)
    obtain ⟨hd, dd⟩ := empty_T I e
    exact call_meetsIn PySem.F.slot_dict_get dd.typeIs PySem.F.entry_dict_get (PySem.F.args_dict_get_3 _ _ _) (meetsH_dict_get_default (tupleKind (mixKind X.prog X.w)) a b hd r) ⟨tupleKind_room_in1 hu, k, [], key_of I.hok eb, dd, h _ _ (I.tok _) rd⟩
  · obtain ⟨hd, dd⟩ := empty_K I e
    have ht : s.TypeIs (.ref a) "dict" := by
      obtain ⟨_, _, _, _, dd⟩ := dt_rd I.hok e
      exact dd.typeIs
    exact call_meetsIn PySem.F.slot_dict_get ht PySem.F.entry_dict_get (PySem.F.args_dict_get_3 _ _ _) (meets_dict_get_default (mixKind X.prog X.w) a (kV_is ry) hd r) ⟨_, dd, h _ _ (I.tok _) rd⟩

/-! ### in -/
def rInDic (neg : Bool) : R2 := fun y x H Q => ∃ a o, x = .ref a ∧ DGetE H a y o ∧ Q (.bl (if neg then !o.isSome else o.isSome)) H
theorem op_inDic (hu : X.A.units + 1 < cLine) : OpR X (compareOp .In) (rInDic false) := by
  intro pins s σ H x y v u Q I rx ry h
  obtain ⟨a, o, rfl, g, q⟩ := h
  cases ry
  exact d_inE hu I g rx fun s' I' => ⟨.bl o.isSome, H, I', rfl, q⟩
theorem op_notInDic (hu : X.A.units + 1 < cLine) : OpR X (compareOp .NotIn) (rInDic true) := by
  intro pins s σ H x y v u Q I rx ry h
  obtain ⟨a, o, rfl, g, q⟩ := h
  cases ry
  exact d_notInE hu I g rx fun s' I' => ⟨.bl (!o.isSome), H, I', rfl, q⟩
def rInTup (K : PySem.W.Frag) (neg : Bool) : R2 := fun x y H Q => ∃ d ds, Dp K H x d ∧ Dp K H y (.tuple ds) ∧ SeqAt.shaped d = true ∧ SeqAt.shaped (.tuple ds) = true ∧ Q (.bl (if neg then !ds.any fun z => PyData.eqv z d else ds.any fun z => PyData.eqv z d)) H
theorem op_inTup (hu : X.A.units + 65 < cLine) : OpR X (compareOp .In) (rInTup X.K false) := by
  intro pins s σ H x y v u Q I rx ry h
  obtain ⟨d, ds, hd, he, sd, se, q⟩ := h
  obtain ⟨as, r1⟩ := Dp.reads I d x v hd rx
  obtain ⟨bs, r2⟩ := Dp.reads I (.tuple ds) y u he ry
  exact SeqAt.in_tuple_reads r2 r1 (SeqAt.canLay_of_shaped se) (SeqAt.canLay_of_shaped sd) (room_in_shaped sd hu) ⟨.bl _, H, I, rfl, q⟩
theorem op_notInTup (hu : X.A.units + 65 < cLine) : OpR X (compareOp .NotIn) (rInTup X.K true) := by
  intro pins s σ H x y v u Q I rx ry h
  obtain ⟨d, ds, hd, he, sd, se, q⟩ := h
  obtain ⟨as, r1⟩ := Dp.reads I d x v hd rx
  obtain ⟨bs, r2⟩ := Dp.reads I (.tuple ds) y u he ry
  exact SeqAt.notIn_tuple_reads r2 r1 (SeqAt.canLay_of_shaped se) (SeqAt.canLay_of_shaped sd) (room_in_shaped sd hu) ⟨.bl _, H, I, rfl, q⟩
def rInSg (neg : Bool) : R2 := fun x y H Q => ∃ (c : Nat) (z : Str), x = .str ⟨#[c]⟩ ∧ y = .str z ∧ Q (.bl (if neg then !decide (c ∈ z.cps.toList) else decide (c ∈ z.cps.toList))) H
def rInAll (K : PySem.W.Frag) : R2 := fun x y H Q => rInD K x y H Q ∨ rInTup K false x y H Q ∨ rInDic false x y H Q ∨ rInSg false x y H Q
def rNotInAll (K : PySem.W.Frag) : R2 := fun x y H Q => rNotInD K x y H Q ∨ rInTup K true x y H Q ∨ rInDic true x y H Q ∨ rInSg true x y H Q
theorem op_inAll (hu : X.A.units + 65 < cLine) : OpR X (compareOp .In) (rInAll X.K) :=
  (op_inD hu).or ((op_inTup hu).or (OpR.or (r := rInDic false) (r' := rInSg false) (op_inDic (Nat.lt_of_le_of_lt (Nat.add_le_add_left (by decide) _) hu)) op_in_sign))
theorem op_notInAll (hu : X.A.units + 65 < cLine) : OpR X (compareOp .NotIn) (rNotInAll X.K) :=
  (op_notInD hu).or ((op_notInTup hu).or (OpR.or (r := rInDic true) (r' := rInSg true) (op_notInDic (Nat.lt_of_le_of_lt (Nat.add_le_add_left (by decide) _) hu)) op_notIn_sign))
/-- x in y -/
def inB (x y : D) : Option Bool := match y with
  | .list ds => if SeqAt.shaped x && SeqAt.shaped (.list ds) then some (ds.any fun z => PyData.eqv z x) else none
  | .tuple ds => if SeqAt.shaped x && SeqAt.shaped (.tuple ds) then some (ds.any fun z => PyData.eqv z x) else none
  | .dict es => if fitK es x then some (dget es x).isSome else none
  | .str z => match x with
    | .str w => match w.cps.toList with
      | [c] => some (decide (c ∈ z.cps.toList))
      | _ => none
    | _ => none
  | _ => none
@[simp] def inD (x y : D) : Option D := (inB x y).map .bool
@[simp] def notInD (x y : D) : Option D := (inB x y).map fun b => .bool (!b)
section
variable {K : PySem.W.Frag} {F : Hp}
theorem fitK_nil {k : D} (h : fitK [] k = true) : (∃ j, k = keyD j) ∨ ∃ ks, k = .tuple (List.map keyD ks) := by
  unfold fitK at h
  split at h
  · exact .inl ⟨.inl _, rfl⟩
  · exact .inl ⟨.inr _, rfl⟩
  · rename_i ks
    rw [Bool.and_eq_true, Option.isSome_iff_exists] at h
    obtain ⟨⟨kk, e1⟩, _⟩ := h
    exact .inr ⟨kk, by rw [asKs_some e1]⟩
  · cases h
theorem RepH.key {j : Key} (h : RepH K F H y (keyD j)) : y = kV j := by
  cases j with
  | inl i => exact h.int
  | inr x => exact h.str
theorem RepH.dgetE {es : List (D × D)} {x : V} {k : D} (h : RepH K F H x (.dict es)) (sb : Sub F H) (hy : RepH K F H y k) (f : fitK es k = true) :
    ∃ a o, x = .ref a ∧ DGetE H a y o ∧ ((DL.dget es k = none ∧ o = none) ∨ ∃ d v, DL.dget es k = some d ∧ o = some v ∧ Rep K F v d) := by
  obtain ⟨a, rfl, hh⟩ := h.dic sb
  cases es with
  | cons e es =>
    obtain ⟨o, g, q⟩ := h.dget sb hy f (by intro z; cases z)
    exact ⟨a, o, rfl, .inl g, q⟩
  | nil =>
    refine ⟨a, none, rfl, ?_, .inl ⟨rfl, rfl⟩⟩
    rcases fitK_nil f with ⟨j, rfl⟩ | ⟨ks, rfl⟩
    · have e := hy.key
      rcases hh with ⟨kvs, hr, rk⟩ | ⟨kvs, hr, rk⟩
      · cases rk
        exact .inl (.inl ⟨_, j, hr, e, rfl⟩)
      · cases rk
        exact .inr ⟨rfl, .inr ⟨hr, j, e⟩⟩
    · obtain ⟨b, xs, rfl, hb, _, rx⟩ := hy.tup sb
      obtain rfl := rx.keys
      rcases hh with ⟨kvs, hr, rk⟩ | ⟨kvs, hr, rk⟩
      · cases rk
        exact .inr ⟨rfl, .inl ⟨hr, ks, b, rfl, hb⟩⟩
      · cases rk
        exact .inl (.inr ⟨_, ks, b, hr, rfl, hb, rfl⟩)
theorem inB_all {v1 v2 : V} {d1 d2 : D} {b : Bool} (sb : Sub F H) (r1 : RepH K F H v1 d1) (r2 : RepH K F H v2 d2) (e : inB d1 d2 = some b) :
    ∀ Q : VK, (Q (.bl b) H → rInAll K v1 v2 H Q) ∧ (Q (.bl (!b)) H → rNotInAll K v1 v2 H Q) := by
  intro Q
  unfold inB at e
  split at e
  · split at e
    · rename_i h
      rw [Bool.and_eq_true] at h
      cases e
      have p1 := r1.dp sb (shaped_lay h.1)
      have p2 := r2.dp sb (shaped_lay h.2)
      exact ⟨fun q => .inl ⟨_, _, p1, p2, h.1, h.2, q⟩, fun q => .inl ⟨_, _, p1, p2, h.1, h.2, q⟩⟩
    · cases e
  · split at e
    · rename_i h
      rw [Bool.and_eq_true] at h
      cases e
      have p1 := r1.dp sb (shaped_lay h.1)
      have p2 := r2.dp sb (shaped_lay h.2)
      exact ⟨fun q => .inr (.inl ⟨_, _, p1, p2, h.1, h.2, q⟩), fun q => .inr (.inl ⟨_, _, p1, p2, h.1, h.2, q⟩)⟩
    · cases e
  · rename_i es
    split at e
    · rename_i h
      cases e
      obtain ⟨a, o, rfl, g, q⟩ := r2.dgetE sb r1 h
      have eo : o.isSome = (DL.dget es d1).isSome := by
        rcases q with ⟨e1, e2⟩ | ⟨d, v, e1, e2, _⟩ <;> rw [e1, e2] <;> rfl
      rw [← eo]
      exact ⟨fun q => .inr (.inr (.inl ⟨a, o, rfl, g, q⟩)), fun q => .inr (.inr (.inl ⟨a, o, rfl, g, q⟩))⟩
    · cases e
  · rename_i z
    split at e
    · rename_i w
      split at e
      · rename_i c hc
        cases e
        have ew : w = ⟨#[c]⟩ := by
          cases w with
          | mk cps =>
            have : cps = #[c] := Array.toList_inj.mp (by simpa using hc)
            rw [this]
        have e1 := r1.str
        have e2 := r2.str
        subst ew
        exact ⟨fun q => .inr (.inr (.inr ⟨c, z, e1, e2, q⟩)), fun q => .inr (.inr (.inr ⟨c, z, e1, e2, q⟩))⟩
      · cases e
    · cases e
  · cases e
theorem oh_in : OpH K (rInAll K) inD := by
  intro F H v1 v2 d1 d2 d3 sb r1 r2 e Q k
  obtain ⟨b, eb, rfl⟩ := Option.map_eq_some_iff.mp e
  exact (inB_all sb r1 r2 eb Q).1 (k _ F H (.refl sb) (.bl _))
theorem oh_notIn : OpH K (rNotInAll K) notInD := by
  intro F H v1 v2 d1 d2 d3 sb r1 r2 e Q k
  obtain ⟨b, eb, rfl⟩ := Option.map_eq_some_iff.mp e
  exact (inB_all sb r1 r2 eb Q).2 (k _ F H (.refl sb) (.bl _))
end

/-! ### subscripts -/
def rIxDic : R2 := fun x y H Q => ∃ a v, x = .ref a ∧ DGet H a y (some v) ∧ Q v H
theorem ix_dic (hu : X.A.units + 1 < cLine) : IxR X rIxDic := by
  intro value slice pins s σ H x y v u Q I rx ry h hs
  obtain ⟨a, z, rfl, g, q⟩ := h
  cases rx
  exact tail_any (dict_typeIs I g) PySem.F.slot_dict_getitem.lookup (d_getItem hu I g ry fun w' s3 I3 rw' => ⟨z, H, I3, rw', q⟩) hs
def rIxAll (K : PySem.W.Frag) : R2 := fun x y H Q => rIxDic x y H Q ∨ rIx K x y H Q
theorem ix_all (hu : X.A.units + 1 < cLine) : IxR X (rIxAll X.K) := (ix_dic hu).or ix_seq
@[simp] def ixD : D → D → Option D
  | .list xs, .int i => atI xs i
  | .tuple xs, .int i => atI xs i
  | .str z, .int i => if z.length ≤ sizeLine then (atI z.cps.toList i).map fun c => .str ⟨#[c]⟩ else none
  | .dict es, k => if fitK es k then dget es k else none
  | _, _ => none
theorem Reps.atI {K : PySem.W.Frag} {F : Hp} {vs : List V} {ds : List D} {i : Int} {d : D} (r : Reps K F vs ds) (h : L2.atI ds i = some d) : ∃ v, L2.atI vs i = some v ∧ Rep K F v d := by
  unfold L2.atI at h ⊢
  rw [r.length]
  obtain ⟨j, e1, e2⟩ := bind_some h
  obtain ⟨v, e3, r3⟩ := r.get e2
  exact ⟨v, by rw [e1]; exact e3, r3⟩
theorem oh_ix {K : PySem.W.Frag} : OpH K (rIxAll K) ixD := by
  intro F H v1 v2 d1 d2 d3 sb r1 r2 e Q k
  unfold ixD at e
  split at e
  · obtain ⟨a, xs, rfl, h1, q1⟩ := r1.lst sb
    obtain ⟨v, e', r'⟩ := q1.atI e
    exact .inr (.inl ⟨_, _, _, v, rfl, r2.int, h1, e', k v F H (.refl sb) r'⟩)
  · obtain ⟨a, xs, rfl, h1, _, q1⟩ := r1.tup sb
    obtain ⟨v, e', r'⟩ := q1.atI e
    exact .inr (.inr (.inl ⟨_, _, _, v, rfl, r2.int, SqT.of h1, e', k v F H (.refl sb) r'⟩))
  · split at e
    · rename_i hl
      cases h : L2.atI _ _ with
      | none => rw [h] at e; cases e
      | some c =>
        rw [h] at e
        cases e
        exact .inr (.inr (.inr ⟨_, _, c, r1.str, r2.int, hl, h, k _ F H (.refl sb) (.str _)⟩))
    · cases e
  · split at e
    · rename_i hf
      obtain ⟨a, o, rfl, g, q⟩ := r1.dgetE sb r2 hf
      rcases q with ⟨e1, _⟩ | ⟨d, v, e1, rfl, r⟩
      · rw [e1] at e
        cases e
      · rw [e1] at e
        cases e
        rcases g with g | ⟨z, _⟩
        · exact .inl ⟨a, v, rfl, g, k v F H (.refl sb) r⟩
        · cases z
    · cases e
  · cases e
end
end DL

set_option maxHeartbeats 4000000
/-! DL6: subscripts and in as rules; slices; built-ins by name; calls of defs; new lists. -/
namespace DL
open PySem L2 PyProof.Rows
section
variable {X : Cx} {K : PySem.W.Frag} {pos : Pos} {a b : Expr} {f g : Den} {o o' : ODen}
theorem de_ix (hu : X.A.units + 1 < cLine) (ha : DOd X a o) (hb : DOd X b o') (hs : PlainIx b := by exact fun _ _ => rfl) : DE X (.Subscript a b pos) (cBin ixD o o') := (pe_ix (ix_all hu) ha hb hs).weak fun _ _ _ => tE_bin oh_ix

/-! ### slices -/
abbrev PDen := Env → Option (Option Int × Env)
def tPD (K : PySem.W.Frag) (f : PDen) : TO := fun σ H Q => ∃ ρ F d ρ', SOk K F ρ σ H ∧ f ρ = some (d, ρ') ∧ ∀ F' H', Stp K ρ σ F H ρ' σ F' H' → Q d H'
def DP (X : Cx) (e : Option Expr) (f : PDen) : Prop := PO X e (tPD X.K f)
def pNo : PDen := fun ρ => some (none, ρ)
@[simp] def asI : D → Option Int
  | .int i => some i
  | _ => none
def pSo (o : ODen) : PDen := fun ρ => (o ρ).bind fun x => (res x.2 x.1).bind fun d => (asI d).bind fun i => some (some i, x.2)
theorem asI_some {d : D} {i : Int} (h : asI d = some i) : d = .int i := by
  cases d <;> first
    | (cases h; rfl)
    | cases h
theorem _root_.L2.PO.weak {e : Option Expr} {t t' : TO} (h : PO X e t) (w : ∀ σ H Q, t' σ H Q → t σ H Q) : PO X e t' := ⟨fun pins s σ H Q I q => h.run pins s σ H Q I (w _ _ _ q)⟩
theorem dp_no : DP X none pNo := po_none.weak fun σ H Q h => by
  obtain ⟨ρ, F, d, ρ', s, e, k⟩ := h
  cases e
  exact k F H (.refl s)
theorem dp_so (h : DOd X a o) : DP X (some a) (pSo o) := (po_some h).weak fun σ H Q h => by
  obtain ⟨ρ, F, d, ρ', s, e, k⟩ := h
  obtain ⟨⟨x, ρ1⟩, e1, e⟩ := bind_some e
  obtain ⟨y, e2, e⟩ := bind_some e
  obtain ⟨i, e3, e⟩ := bind_some e
  cases e
  obtain rfl := asI_some e3
  exact ⟨ρ, F, x, _, s, e1, fun v F1 H1 s1 r1 => ⟨i, (r1.rep s1.ok e2).int, k F1 H1 s1⟩⟩
@[simp] def cutD {α : Type} (xs : List α) (lo hi : Option Int) : List α := (xs.drop (HT.sIx xs.length 0 lo)).take (HT.sIx xs.length xs.length hi - HT.sIx xs.length 0 lo)
theorem Reps.cut {F : Hp} {vs : List V} {ds : List D} (r : Reps K F vs ds) (lo hi : Option Int) : Reps K F (cutV vs lo hi) (cutD ds lo hi) := by
  unfold cutV cutD
  rw [r.length]
  exact (r.drop _).take _
theorem Reps.cut_all {F : Hp} {vs : List V} {ds : List D} {lo hi : Option Int} (r : Reps K F vs ds) (hw : HT.sIx vs.length 0 lo = 0 ∧ HT.sIx vs.length vs.length hi = vs.length) : cutD ds lo hi = ds := by
  unfold cutD
  rw [← r.length, hw.1, hw.2, r.length]
  simp
@[simp] def slD : D → Option Int → Option Int → Option D
  | .list xs, lo, hi => some (.list (cutD xs lo hi))
  | .tuple xs, lo, hi => some (.tuple (cutD xs lo hi))
  | .str z, lo, hi => if z.length ≤ sizeLine then some (.str (cutS z lo hi)) else none
  | _, _, _ => none
def rSlAll (K : PySem.W.Frag) : V → Option Int → Option Int → Hp → VK → Prop := fun x l h H Q => rSlL K x l h H Q ∨ rSlA K x l h H Q ∨ rSlS x l h H Q
theorem sl_all : SlR X (rSlAll X.K) := sl_list.or (sl_tupA.or sl_str)
theorem sh_sl {F H : Hp} {v : V} {d d3 : D} {lo hi : Option Int} (sb : Sub F H) (r : RepH K F H v d) (e : slD d lo hi = some d3) (Q : VK) (k : ∀ v F' H', Px F H F' H' → Rep K F' v d3 → Q v H') : rSlAll K v lo hi H Q := by
  unfold slD at e
  split at e
  · obtain ⟨a, xs, rfl, h1, q1⟩ := r.lst sb
    cases e
    exact .inl ⟨a, xs, rfl, h1, fun p hp => k _ _ _ (Px.laid sb hp) (.lst (.inl upd_same) ((q1.cut lo hi).mono (Px.laid sb hp).ext))⟩
  · obtain ⟨a, xs, rfl, h1, t1, q1⟩ := r.tup sb
    cases e
    refine .inr (.inl ⟨a, xs, rfl, SqT.of h1, fun hw => ?_, fun _ p hp => k _ _ _ (Px.laid sb hp) (.tup upd_same ((q1.cut lo hi).mono (Px.laid sb hp).ext))⟩)
    have e := q1.cut_all hw
    rw [e] at k
    exact k _ F H (.refl sb) (.tup t1 q1)
  · split at e
    · rename_i hl
      cases e
      exact .inr (.inr ⟨_, r.str, hl, k _ F H (.refl sb) (.str _)⟩)
    · cases e
  · cases e
def cSl (o : ODen) (l h : PDen) : Den := fun ρ => (o ρ).bind fun x => (l x.2).bind fun y => (h y.2).bind fun z => (res z.2 x.1).bind fun d => (slD d y.1 z.1).bind fun r => some (r, z.2)
theorem de_sl {lo hi : Option Expr} {l h : PDen} {p2 : Pos} (ha : DOd X a o) (hl : DP X lo l) (hh : DP X hi h) : DE X (.Subscript a (.Slice lo hi none p2) pos) (cSl o l h) := (pe_slice sl_all ha hl hh).weak fun σ H Q hq => by
  obtain ⟨ρ, F, d, ρ', s, e, k⟩ := hq
  obtain ⟨⟨x, ρ1⟩, e1, e⟩ := bind_some e
  obtain ⟨⟨y, ρ2⟩, e2, e⟩ := bind_some e
  obtain ⟨⟨z, ρ3⟩, e3, e⟩ := bind_some e
  obtain ⟨c, ec, e⟩ := bind_some e
  obtain ⟨r, er, e⟩ := bind_some e
  cases e
  exact ⟨ρ, F, x, ρ1, s, e1, fun v F1 H1 s1 r1 => ⟨ρ1, F1, y, ρ2, s1.ok, e2, fun F2 H2 s2 => ⟨ρ2, F2, z, _, s2.ok, e3, fun F3 H3 s3 =>
    sh_sl s3.ok.sub (((r1.mono s2.gr.ext).mono s3.gr.ext).rep s3.ok ec) er Q fun v F' H' px rep => k v F' H' (((s1.trans s2).trans s3).thenPx px) rep⟩⟩⟩

/-! ### built-ins by name: one operand; several values -/
theorem de_b1 {x : Str} {p : Pos} {id : String} {r : List V → Hp → VK → Prop} {op : D → Option D} (hc : CallR X (.builtin id) r) (ho : CallH X.K r op) (hg : Gl X x) (hm : X.mg x = none) (hv : bootBuiltins x = some (.builtin id)) (ha : DOd X a o)
    (hn : x ≠ "__name__" := by decide +kernel) (hdb : (x == ("__debug__" : Str)) = false := by decide +kernel) (he : starEach [a] X.env = (false, eval a X.env) :: starEach [] X.env := by rfl) (hpl : (backTo pos (starEach [] X.env)).any (·.1) = false := by rfl) :
    DE X (.Call (.Name x p) [a] [] pos) (cUn op o) := (pe_callB hc hg hm hv (pa_cons ha pa_nil he) hn hdb he hpl).weak fun σ H Q h => by
  obtain ⟨ρ, F, d, ρ', s, e, k⟩ := h
  obtain ⟨⟨x, ρ1⟩, e1, e⟩ := bind_some e
  obtain ⟨y, e2, e⟩ := bind_some e
  obtain ⟨z, e3, e⟩ := bind_some e
  cases e
  exact ⟨ρ, F, x, _, s, e1, fun v F1 H1 s1 r1 => ho F1 H1 v y _ s1.ok.sub (r1.rep s1.ok e2) e3 Q fun v F' H' px rep => k v F' H' (s1.thenPx px) rep⟩
theorem de_t1 {x : Str} {p : Pos} {T : String} {r : List V → Hp → VK → Prop} {op : D → Option D} (hc : CallR X (.type T) r) (ho : CallH X.K r op) (hg : Gl X x) (hm : X.mg x = none) (hv : bootBuiltins x = some (.type T)) (ha : DOd X a o)
    (hn : x ≠ "__name__" := by decide +kernel) (hdb : (x == ("__debug__" : Str)) = false := by decide +kernel) (he : starEach [a] X.env = (false, eval a X.env) :: starEach [] X.env := by rfl) (hpl : (backTo pos (starEach [] X.env)).any (·.1) = false := by rfl) :
    DE X (.Call (.Name x p) [a] [] pos) (cUn op o) := (pe_callTy hc hg hm hv (pa_cons ha pa_nil he) hn hdb he hpl).weak fun σ H Q h => by
  obtain ⟨ρ, F, d, ρ', s, e, k⟩ := h
  obtain ⟨⟨x, ρ1⟩, e1, e⟩ := bind_some e
  obtain ⟨y, e2, e⟩ := bind_some e
  obtain ⟨z, e3, e⟩ := bind_some e
  cases e
  exact ⟨ρ, F, x, _, s, e1, fun v F1 H1 s1 r1 => ho F1 H1 v y _ s1.ok.sub (r1.rep s1.ok e2) e3 Q fun v F' H' px rep => k v F' H' (s1.thenPx px) rep⟩
/-- the rule r does op on several values -/
def CallsD (K : PySem.W.Frag) (r : List V → Hp → VK → Prop) (op : List D → Option D) : Prop :=
  ∀ (F H : Hp) (vs : List V) (ds : List D) (d3 : D), Sub F H → Reps K F vs ds → op ds = some d3 → ∀ Q : VK, (∀ v F' H', Px F H F' H' → Rep K F' v d3 → Q v H') → r vs H Q
theorem de_bs {es : List Expr} {fs : ADen} {x : Str} {p : Pos} {id : String} {r : List V → Hp → VK → Prop} {op : List D → Option D} (hc : CallR X (.builtin id) r) (ho : CallsD X.K r op) (hg : Gl X x) (hm : X.mg x = none) (hv : bootBuiltins x = some (.builtin id)) (ha : DA X (a :: es) fs)
    (hn : x ≠ "__name__" := by decide +kernel) (hdb : (x == ("__debug__" : Str)) = false := by decide +kernel) (he : starEach (a :: es) X.env = (false, eval a X.env) :: starEach es X.env := by rfl) (hpl : (backTo pos (starEach es X.env)).any (·.1) = false := by rfl) :
    DE X (.Call (.Name x p) (a :: es) [] pos) (cArgs op fs) := (pe_callB hc hg hm hv ha hn hdb he hpl).weak fun σ H Q h => by
  obtain ⟨ρ, F, d, ρ', s, e, k⟩ := h
  obtain ⟨⟨x, ρ1⟩, e1, e⟩ := bind_some e
  obtain ⟨z, e3, e⟩ := bind_some e
  cases e
  exact ⟨ρ, F, x, _, s, e1, fun vs F1 H1 s1 r1 => ho F1 H1 vs x _ s1.ok.sub r1 e3 Q fun v F' H' px rep => k v F' H' (s1.thenPx px) rep⟩

/-- len -/
@[simp] def lenD : D → Option D
  | .list xs => some (.int xs.length)
  | .tuple xs => some (.int xs.length)
  | .str z => if z.length ≤ sizeLine then some (.int z.length) else none
  | .dict es => some (.int es.length)
  | _ => none
theorem RepK.length {F : Hp} : ∀ {kvs : List (Key × V)} {es : List (D × D)}, RepK K F kvs es → kvs.length = es.length
  | _, _, .nil => rfl
  | _, _, .cons _ t => congrArg (· + 1) (RepK.length t)
theorem RepT.length {F : Hp} : ∀ {kvs : List (List Key × V)} {es : List (D × D)}, RepT K F kvs es → kvs.length = es.length
  | _, _, .nil => rfl
  | _, _, .cons _ t => congrArg (· + 1) (RepT.length t)
def rLenS (K : PySem.W.Frag) : List V → Hp → VK → Prop := fun xs H Q => ∃ p ys, xs = [.ref p] ∧ (SqL K H p ys ∨ SqT K H p ys) ∧ Q (.int ys.length) H
def rLenZ : List V → Hp → VK → Prop := fun xs H Q => ∃ z, xs = [.str z] ∧ z.length ≤ sizeLine ∧ Q (.int z.length) H
def rLenD' : List V → Hp → VK → Prop := fun xs H Q => ∃ d, xs = [.ref d] ∧ ((∃ kvs, Rd H d (.dK kvs) ∧ Q (.int kvs.length) H) ∨ ∃ kvs, Rd H d (.dT kvs) ∧ Q (.int kvs.length) H)
theorem call_lenDic : CallR X (.builtin "len") rLenD' := by
  intro pins s σ H xs us Q I r h
  obtain ⟨a, rfl, h⟩ := h
  obtain ⟨u, rfl, ru⟩ := vals1 r
  cases ru
  rcases h with ⟨kvs, e, q⟩ | ⟨kvs, e, q⟩
  · exact d_len I e fun t s' I' => ⟨.int kvs.length, H, I', ⟨t, rfl⟩, q⟩
  · obtain ⟨z, hd, ys, rel, dd⟩ := dt_rd I.hok e
    have hl : kvs.length = ys.length := Paired.length rel
    refine call_len_dictH hd dd (by rw [← hl]; rw [sizeLine_eq] at z; omega) ?_
    rw [← hl]
    exact ⟨.int ((kvs.length : Nat) : Int), H, I.tok _, ⟨_, rfl⟩, q⟩
theorem _root_.L2.CallR.or2 {f : Value} {r r' : List V → Hp → VK → Prop} (h : CallR X f r) (h' : CallR X f r') : CallR X f (fun xs H Q => r xs H Q ∨ r' xs H Q) := by
  intro pins s σ H xs us Q I r q
  rcases q with q | q
  · exact h pins s σ H xs us Q I r q
  · exact h' pins s σ H xs us Q I r q
def rLenAll (K : PySem.W.Frag) : List V → Hp → VK → Prop := fun xs H Q => rLenS K xs H Q ∨ rLenZ xs H Q ∨ rLenD' xs H Q
theorem call_lenAll : CallR X (.builtin "len") (rLenAll X.K) := call_len_seq.or2 (CallR.or2 (r := rLenZ) (r' := rLenD') call_len_str call_lenDic)
theorem ch_len : CallH K (rLenAll K) lenD := by
  intro F H v d d3 sb r e Q k
  unfold lenD at e
  split at e
  · obtain ⟨a, xs, rfl, h1, q1⟩ := r.lst sb
    cases e
    refine .inl ⟨a, xs, rfl, .inl h1, ?_⟩
    rw [q1.length]
    exact k _ F H (.refl sb) (.int _)
  · obtain ⟨a, xs, rfl, h1, _, q1⟩ := r.tup sb
    cases e
    refine .inl ⟨a, xs, rfl, .inr (SqT.of h1), ?_⟩
    rw [q1.length]
    exact k _ F H (.refl sb) (.int _)
  · split at e
    · rename_i hl
      cases e
      obtain rfl := r.str
      exact .inr (.inl ⟨_, rfl, hl, k _ F H (.refl sb) (.int _)⟩)
    · cases e
  · obtain ⟨a, rfl, hh⟩ := r.dic sb
    cases e
    refine .inr (.inr ⟨a, rfl, ?_⟩)
    rcases hh with ⟨kvs, hr, rk⟩ | ⟨kvs, hr, rk⟩
    · refine .inl ⟨kvs, hr, ?_⟩
      rw [rk.length]
      exact k _ F H (.refl sb) (.int _)
    · refine .inr ⟨kvs, hr, ?_⟩
      rw [rk.length]
      exact k _ F H (.refl sb) (.int _)
  · cases e
@[simp] def absD : D → Option D
  | .int i => some (.int (if i < 0 then -i else i))
  | _ => none
theorem ch_abs : CallH K (fun xs H Q => ∃ i, xs = [.int i] ∧ Q (.int (if i < 0 then -i else i)) H) absD := by
  intro F H v d d3 sb r e Q k
  unfold absD at e
  split at e
  · cases e
    obtain rfl := r.int
    exact ⟨_, rfl, k _ F H (.refl sb) (.int _)⟩
  · cases e
@[simp] def max2D : List D → Option D
  | [.int i, .int j] => some (.int (if j > i then j else i))
  | _ => none
@[simp] def min2D : List D → Option D
  | [.int i, .int j] => some (.int (if j < i then j else i))
  | _ => none
theorem cs_max2 : CallsD K (fun xs H Q => ∃ i j, xs = [.int i, .int j] ∧ Q (.int (if j > i then j else i)) H) max2D := by
  intro F H vs ds d3 sb r e Q k
  unfold max2D at e
  split at e
  · cases e
    cases r with
    | cons r1 t =>
      cases t with
      | cons r2 t =>
        cases t
        cases r1
        cases r2
        exact ⟨_, _, rfl, k _ F H (.refl sb) (.int _)⟩
  · cases e
theorem cs_min2 : CallsD K (fun xs H Q => ∃ i j, xs = [.int i, .int j] ∧ Q (.int (if j < i then j else i)) H) min2D := by
  intro F H vs ds d3 sb r e Q k
  unfold min2D at e
  split at e
  · cases e
    cases r with
    | cons r1 t =>
      cases t with
      | cons r2 t =>
        cases t
        cases r1
        cases r2
        exact ⟨_, _, rfl, k _ F H (.refl sb) (.int _)⟩
  · cases e
/-- all ints, all truths -/
@[simp] def asIs : List D → Option (List Int)
  | [] => some []
  | d :: r => (asI d).bind fun i => (asIs r).map (i :: ·)
@[simp] def asBs : List D → Option (List Bool)
  | [] => some []
  | d :: r => (asB d).bind fun i => (asBs r).map (i :: ·)
theorem asIs_some : ∀ {ds : List D} {k : List Int}, asIs ds = some k → ds = k.map .int
  | [], k, h => by cases h; rfl
  | d :: r, k, h => by
    unfold asIs at h
    obtain ⟨a, e1, e2⟩ := bind_some h
    obtain ⟨b, e3, rfl⟩ := Option.map_eq_some_iff.mp e2
    rw [List.map_cons, ← asIs_some e3, asI_some e1]
theorem asBs_some : ∀ {ds : List D} {k : List Bool}, asBs ds = some k → ds = k.map .bool
  | [], k, h => by cases h; rfl
  | d :: r, k, h => by
    unfold asBs at h
    obtain ⟨a, e1, e2⟩ := bind_some h
    obtain ⟨b, e3, rfl⟩ := Option.map_eq_some_iff.mp e2
    rw [List.map_cons, ← asBs_some e3, asB_some e1]
theorem asIs_map : ∀ k : List Int, asIs (k.map .int) = some k
  | [] => rfl
  | a :: k => by rw [List.map_cons, asIs, asIs_map k]; rfl
theorem asBs_map : ∀ k : List Bool, asBs (k.map .bool) = some k
  | [] => rfl
  | a :: k => by rw [List.map_cons, asBs, asBs_map k]; rfl
@[simp] def anyD : D → Option D
  | .list xs => (asBs xs).map fun bs => .bool (bs.any id)
  | _ => none
@[simp] def allD : D → Option D
  | .list xs => (asBs xs).map fun bs => .bool (bs.all id)
  | _ => none
theorem ch_any : CallH K (rAny K) anyD := by
  intro F H v d d3 sb r e Q k
  unfold anyD at e
  split at e
  · obtain ⟨a, xs, rfl, h1, q1⟩ := r.lst sb
    obtain ⟨bs, eb, rfl⟩ := Option.map_eq_some_iff.mp e
    obtain rfl := asBs_some eb
    rw [q1.bls_of] at h1
    exact ⟨a, bs, rfl, h1, k _ F H (.refl sb) (.bl _)⟩
  · cases e
theorem ch_all : CallH K (rAll K) allD := by
  intro F H v d d3 sb r e Q k
  unfold allD at e
  split at e
  · obtain ⟨a, xs, rfl, h1, q1⟩ := r.lst sb
    obtain ⟨bs, eb, rfl⟩ := Option.map_eq_some_iff.mp e
    obtain rfl := asBs_some eb
    rw [q1.bls_of] at h1
    exact ⟨a, bs, rfl, h1, k _ F H (.refl sb) (.bl _)⟩
  · cases e
/-- sum, of a list or a tuple -/
theorem sum_tupG {prog : Program} {w : World} {A : Around} {E : Value → Shared → Prop} {s : Shared} {l : Addr} {its : List Value} {ns : List Int} {Q : Value → Shared → Prop} (hh : A.handled = none) (hl : s.heap.IsTuple l its.toArray) (hi : IntsAre its ns)
    (h : ∀ h' tk t', (∀ b o, s.heap.get? b = some o → h'.get? b = some o) → Q (.int ns.sum t') { s with heap := h', toks := tk }) :
    wpAny (model prog w) A (call (.builtin "sum") [.ref l]) Q E s := by
  obtain ⟨xs, e⟩ := hi.allInts.items
  have hn : numsOf (intItems xs).toList = ns := by rw [← e]; exact hi.numsOf
  rw [nums_intItems] at hn
  rw [e] at hl
  have hlt : l < s.heap.objs.size := by obtain ⟨_, e, _⟩ := hl; exact Heap.lt_size e
  refine call_sum_walkG (wpAny_pyIter_tuple hl ?_)
  refine ⟨s.heap.objs.size, _, _, _, _, _, numAt xs, rfl, Walks.tuple (A := A.in1) hh s.heap.objs.size l (Nat.ne_of_lt hlt) (intItems xs), ⟨⟨_, Heap.get?_push_size _ rfl, rfl, rfl⟩, hl.push _⟩, fun b hb => ?_, (fun _ _ => intItems_at), fun h' tk t' hk => ?_⟩
  · show b < (s.heap.push _).objs.size
    rw [Heap.size_push]
    rcases List.mem_cons.mp hb with rfl | hb
    · exact Nat.lt_succ_self _
    · rcases List.mem_cons.mp hb with rfl | hb
      · exact Nat.lt_succ_of_lt hlt
      · exact absurd hb List.not_mem_nil
  · have hk' : ∀ b o, s.heap.get? b = some o → h'.get? b = some o := fun b o q => hk b o (by
      intro z
      have : b = s.heap.objs.size := by simpa using z
      subst this
      exact absurd (Heap.lt_size q) (Nat.lt_irrefl _)) (Heap.get?_push_of_some _ q)
    have := h h' tk t' hk'
    rw [show (intItems xs).size = xs.size by simp [intItems], preSum_eq, List.take_of_length_le (by simp), hn]
    exact this
def rSumA (K : PySem.W.Frag) : List V → Hp → VK → Prop := fun vs H Q => ∃ (a : Addr) (ns : List Int), vs = [V.ref a] ∧ (SqL K H a (ns.map V.int) ∨ SqT K H a (ns.map V.int)) ∧ Q (.int ns.sum) H
theorem cr_sumA (hc : X.calm = true) : CallR X (.builtin "sum") (rSumA X.K) := by
  intro pins s σ H vs us Q I r h
  obtain ⟨a, ns, rfl, hs | hs, q⟩ := h
  · exact cr_sum hc pins s σ H _ us Q I r ⟨a, ns, rfl, hs, q⟩
  · obtain ⟨its, rv, hl, _⟩ := I.tuple hs
    rw [Vals.ref1 r]
    exact sum_tupG (I.ok.hd hc) (show s.heap.IsTuple a its.toArray from hl) rv.ints fun h' tk t' hk => ⟨.int _, H, I.kept hk, ⟨_, rfl⟩, q⟩
@[simp] def sumD : D → Option D
  | .list xs => (asIs xs).map fun ns => .int ns.sum
  | .tuple xs => (asIs xs).map fun ns => .int ns.sum
  | _ => none
theorem ch_sum : CallH K (rSumA K) sumD := by
  intro F H v d d3 sb r e Q k
  unfold sumD at e
  split at e
  · obtain ⟨a, xs, rfl, h1, q1⟩ := r.lst sb
    obtain ⟨bs, eb, rfl⟩ := Option.map_eq_some_iff.mp e
    obtain rfl := asIs_some eb
    rw [q1.ints_of] at h1
    exact ⟨a, bs, rfl, .inl h1, k _ F H (.refl sb) (.int _)⟩
  · obtain ⟨a, xs, rfl, h1, _, q1⟩ := r.tup sb
    obtain ⟨bs, eb, rfl⟩ := Option.map_eq_some_iff.mp e
    obtain rfl := asIs_some eb
    rw [q1.ints_of] at h1
    exact ⟨a, bs, rfl, .inr (SqT.of h1), k _ F H (.refl sb) (.int _)⟩
  · cases e
/-- int(..) of an int or a truth, str(..) of an int -/
def rInt1 : List V → Hp → VK → Prop := fun xs H Q => (∃ i, xs = [.int i] ∧ Q (.int i) H) ∨ ∃ k, xs = [.bl k] ∧ Q (.int (if k then 1 else 0)) H
@[simp] def intD : D → Option D
  | .int i => some (.int i)
  | .bool b => some (.int (if b then 1 else 0))
  | _ => none
theorem ch_int : CallH K rInt1 intD := by
  intro F H v d d3 sb r e Q k
  unfold intD at e
  split at e
  · cases e
    obtain rfl := r.int
    exact .inl ⟨_, rfl, k _ F H (.refl sb) (.int _)⟩
  · cases e
    obtain rfl := r.bl
    exact .inr ⟨_, rfl, k _ F H (.refl sb) (.int _)⟩
  · cases e
def strD : D → Option D
  | .int i => if i.natAbs.log2 < 1920 then some (.str (toString i)) else none
  | _ => none
theorem ch_str : CallH K (fun xs H Q => ∃ i, xs = [.int i] ∧ i.natAbs.log2 < 1920 ∧ Q (.str (toString i)) H) strD := by
  intro F H v d d3 sb r e Q k
  unfold strD at e
  split at e
  · split at e
    · rename_i hl
      cases e
      obtain rfl := r.int
      exact ⟨_, rfl, hl, k _ F H (.refl sb) (.str _)⟩
    · cases e
  · cases e
/-- tuple(..), list(..) of lists and tuples -/
def rTup1 (K : PySem.W.Frag) : List V → Hp → VK → Prop := fun xs H Q => ∃ p ys, xs = [.ref p] ∧ ((SqL K H p ys ∧ ∀ l, H l = none → Q (.ref l) (upd H l (.tup ys))) ∨ (SqT K H p ys ∧ Q (.ref p) H))
@[simp] def tupD : D → Option D
  | .list xs => some (.tuple xs)
  | .tuple xs => some (.tuple xs)
  | _ => none
theorem ch_tup : CallH K (rTup1 K) tupD := by
  intro F H v d d3 sb r e Q k
  unfold tupD at e
  split at e
  · obtain ⟨a, xs, rfl, h1, q1⟩ := r.lst sb
    cases e
    exact ⟨a, xs, rfl, .inl ⟨h1, fun p hp => k _ _ _ (Px.laid sb hp) (.tup upd_same (q1.mono (Px.laid sb hp).ext))⟩⟩
  · obtain ⟨a, xs, rfl, h1, t1, q1⟩ := r.tup sb
    cases e
    exact ⟨a, xs, rfl, .inr ⟨SqT.of h1, k _ F H (.refl sb) (.tup t1 q1)⟩⟩
  · cases e
/-- new things that only the one who made them holds -/
def CallO (K : PySem.W.Frag) (r : List V → Hp → VK → Prop) (op : D → Option D) : Prop :=
  ∀ (F H : Hp) (v : V) (d d3 : D), Sub F H → RepH K F H v d → op d = some d3 → ∀ Q : VK, (∀ p F' H', Px F H F' H' → OwnAt K F' H' p d3 → H p = none → Q (.ref p) H') → r [v] H Q
def rLst1 (K : PySem.W.Frag) : List V → Hp → VK → Prop := fun xs H Q => ∃ p ys, xs = [.ref p] ∧ (SqL K H p ys ∨ SqT K H p ys) ∧ ∀ l, H l = none → Q (.ref l) (upd H l (.lst ys))
@[simp] def lstD : D → Option D
  | .list xs => some (.list xs)
  | .tuple xs => some (.list xs)
  | _ => none
theorem Sub.none {F H : Hp} {p : Addr} (s : Sub F H) (h : H p = none) : F p = none := by
  cases q : F p with
  | none => rfl
  | some u => exact absurd h (Std.ne_none (s _ _ q))
theorem co_lst : CallO K (rLst1 K) lstD := by
  intro F H v d d3 sb r e Q k
  unfold lstD at e
  split at e
  · obtain ⟨a, xs, rfl, h1, q1⟩ := r.lst sb
    cases e
    exact ⟨a, xs, rfl, .inl h1, fun p hp => k p _ _ (Px.laidO sb hp) ⟨sb.none hp, _, upd_same, .lst q1⟩ hp⟩
  · obtain ⟨a, xs, rfl, h1, t1, q1⟩ := r.tup sb
    cases e
    exact ⟨a, xs, rfl, .inr (SqT.of h1), fun p hp => k p _ _ (Px.laidO sb hp) ⟨sb.none hp, _, upd_same, .lst q1⟩ hp⟩
  · cases e
end

/-! ### new lists -/
section
variable {X : Cx} {K : PySem.W.Frag} {pos : Pos} {a b : Expr} {f g : Den} {o o' : ODen}
/-- freezing a new thing -/
theorem own_px {F H : Hp} {p : Addr} {d : D} (sb : Sub F H) (h : OwnAt K F H p d) : ∃ F', Ext F F' ∧ (∀ b, F' b ≠ none → F b ≠ none ∨ b = p) ∧ Sub F' H ∧ Rep K F' (.ref p) d := by
  obtain ⟨hF, u, hu, t⟩ := h
  have ex : Ext F (upd F p u) := fun b w q => by
    rw [upd_ne (ne_of_none q hF)]
    exact q
  refine ⟨upd F p u, ex, fun b hb => ?_, fun b w q => ?_, (t.mono ex).rep upd_same⟩
  · by_cases e : b = p
    · exact .inr e
    · rw [upd_ne e] at hb
      exact .inl hb
  · by_cases e : b = p
    · subst e
      rw [upd_same] at q
      cases q
      exact .inl hu
    · rw [upd_ne e] at q
      exact sb _ _ q
theorem tE_O {f : Den} {σ : L2.St} {H : Hp} {Q : VK} (h : tE K f σ H Q) : tO K f σ H Q := by
  obtain ⟨ρ, F, d, ρ', s, e, k⟩ := h
  refine ⟨ρ, F, d, ρ', s, e, fun p F1 H1 s1 ow no hp => ?_⟩
  obtain ⟨F2, ex, nw, sb, r⟩ := own_px s1.ok.sub ow
  refine k _ F2 H1 ⟨⟨s1.gr.ext.trans ex, fun b hb => ?_, s1.gr.same, s1.gr.live⟩, ⟨sb, s1.ok.len, fun i d' hi => ?_, fun i d' hi => ?_, s1.ok.dj⟩, s1.evo⟩ r
  · rcases nw b hb with z | z
    · exact s1.gr.new b z
    · subst z
      exact .inr (.inl hp)
  · obtain ⟨v, ev, rv⟩ := s1.ok.shr i d' hi
    exact ⟨v, ev, rv.mono ex⟩
  · obtain ⟨q, eq, hq, u, hu, t⟩ := s1.ok.own i d' hi
    refine ⟨q, eq, ?_, u, hu, t.mono ex⟩
    cases z : F2 q with
    | none => rfl
    | some w =>
      rcases nw q (by rw [z]; intro y; cases y) with y | y
      · exact absurd hq y
      · subst y
        exact absurd ⟨i, ⟨d', hi⟩, eq⟩ no
theorem de_o (h : DO X a f) : DE X a f := L2.PE.weak h fun _ _ _ => tE_O
theorem do_lst {es : List Expr} {fs : ADen} (ha : DA X es fs) : DO X (.List es pos) (cArgs opLst fs) := (pe_lst ha).weak fun σ H Q h => by
  obtain ⟨ρ, F, d, ρ', s, e, k⟩ := h
  obtain ⟨⟨x, ρ1⟩, e1, e⟩ := bind_some e
  obtain ⟨z, e3, e⟩ := bind_some e
  cases e
  unfold opLst at e3
  split at e3
  · rename_i hl
    cases e3
    refine ⟨ρ, F, x, _, s, e1, fun vs F1 H1 s1 r1 => ⟨by rw [r1.length]; exact hl, fun p hp => ?_⟩⟩
    exact k p _ _ (s1.thenPx (Px.laidO s1.ok.sub hp)) ⟨s1.ok.sub.none hp, _, upd_same, .lst r1⟩ (s1.ok.fresh hp).2 (s1.gr.live p hp)
  · cases e3
theorem do_t1 {x : Str} {p : Pos} {T : String} {r : List V → Hp → VK → Prop} {op : D → Option D} (hc : CallR X (.type T) r) (ho : CallO X.K r op) (hg : Gl X x) (hm : X.mg x = none) (hv : bootBuiltins x = some (.type T)) (ha : DOd X a o)
    (hn : x ≠ "__name__" := by decide +kernel) (hdb : (x == ("__debug__" : Str)) = false := by decide +kernel) (he : starEach [a] X.env = (false, eval a X.env) :: starEach [] X.env := by rfl) (hpl : (backTo pos (starEach [] X.env)).any (·.1) = false := by rfl) :
    DO X (.Call (.Name x p) [a] [] pos) (cUn op o) := (pe_callTy hc hg hm hv (pa_cons ha pa_nil he) hn hdb he hpl).weak fun σ H Q h => by
  obtain ⟨ρ, F, d, ρ', s, e, k⟩ := h
  obtain ⟨⟨x, ρ1⟩, e1, e⟩ := bind_some e
  obtain ⟨y, e2, e⟩ := bind_some e
  obtain ⟨z, e3, e⟩ := bind_some e
  cases e
  exact ⟨ρ, F, x, _, s, e1, fun v F1 H1 s1 r1 => ho F1 H1 v y _ s1.ok.sub (r1.rep s1.ok e2) e3 Q fun p F' H' px ow hp => k p F' H' (s1.thenPx px) ow ((s1.thenPx px).ok |> fun _ => (s1.ok.fresh hp).2) (s1.gr.live p hp)⟩
end
end DL

set_option maxHeartbeats 4000000
/-! DL7: stores, statements, the contract of a def, calls. -/
namespace DL
open PySem L2 PyProof.Rows
section
variable {K : PySem.W.Frag} {F F' H H' F0 H0 : Hp} {ρ ρ0 ρ' : Env} {σ σ0 σ' : L2.St} {i : Nat} {v : V} {d : D} {p : Addr}
def isIo : Option Sl → Bool
  | some (.io _) => true
  | _ => false
theorem not_io {o : Option Sl} {d : D} (h : isIo o = false) : o ≠ some (.io d) := fun e => by subst e; cases h
/-- slot i is stored -/
theorem owns_set {x : Sl} {y : Option V} {j : Nat} {q : Addr} (hj : j ≠ i) (h : owns (ρ.set i x) (σ.set i y) j q) : owns ρ σ j q := by
  obtain ⟨⟨d, h1⟩, h2⟩ := h
  rw [List.getElem?_set_ne (Ne.symm hj)] at h1 h2
  exact ⟨⟨d, h1⟩, h2⟩
theorem SOk.setS (s : SOk K F ρ σ H) (hi : isIo ρ[i]? = false) (r : Rep K F v d) : Stp K ρ σ F H (ρ.set i (.sh d)) (σ.set i (some v)) F H := by
  have ne : ∀ j q, owns (ρ.set i (.sh d)) (σ.set i (some v)) j q → j ≠ i := fun j q ⟨⟨d', h1⟩, _⟩ z => by
    subst z
    by_cases hl : j < ρ.length
    · rw [List.getElem?_set_self hl] at h1
      rcases h1 with h1 | h1 <;> cases h1
    · rw [List.getElem?_eq_none (by simpa using hl)] at h1
      rcases h1 with h1 | h1 <;> cases h1
  refine ⟨.refl, ⟨s.sub, by rw [List.length_set, List.length_set, s.len], fun j d' hj => ?_, fun j d' hj => ?_, fun j k q a b => s.dj j k q (owns_set (ne j q a) a) (owns_set (ne k q b) b)⟩, ⟨fun q ⟨j, hq⟩ => .inl ⟨j, owns_set (ne j q hq) hq⟩, fun j d' hj => ?_⟩⟩
  · by_cases hji : j = i
    · subst hji
      by_cases hl : j < ρ.length
      · rw [List.getElem?_set_self hl] at hj
        cases hj
        exact ⟨v, List.getElem?_set_self (by rw [s.len]; exact hl), r⟩
      · rw [List.getElem?_eq_none (by simpa using hl)] at hj
        cases hj
    · rw [List.getElem?_set_ne (Ne.symm hji)] at hj ⊢
      exact s.shr j d' hj
  · have hji : j ≠ i := fun z => by
      subst z
      by_cases hl : j < ρ.length
      · rw [List.getElem?_set_self hl] at hj
        rcases hj with hj | hj <;> cases hj
      · rw [List.getElem?_eq_none (by simpa using hl)] at hj
        rcases hj with hj | hj <;> cases hj
    rw [List.getElem?_set_ne (Ne.symm hji)] at hj ⊢
    exact s.own j d' hj
  · have hji : j ≠ i := fun z => by
      subst z
      exact not_io hi hj
    rw [List.getElem?_set_ne (Ne.symm hji), List.getElem?_set_ne (Ne.symm hji)]
    exact ⟨rfl, d', hj⟩
theorem Stp.setO (st : Stp K ρ0 σ0 F0 H0 ρ σ F H) (hi : isIo ρ[i]? = false) (hp : H0 p = none) (ow : OwnAt K F H p d) (no : ¬ Ow ρ σ p) : Stp K ρ0 σ0 F0 H0 (ρ.set i (.ow d)) (σ.set i (some (.ref p))) F H := by
  have s := st.ok
  have own : ∀ j q, owns (ρ.set i (.ow d)) (σ.set i (some (.ref p))) j q → (j = i ∧ q = p) ∨ (j ≠ i ∧ owns ρ σ j q) := fun j q h => by
    by_cases hji : j = i
    · refine .inl ⟨hji, ?_⟩
      subst hji
      obtain ⟨⟨d', h1⟩, h2⟩ := h
      by_cases hl : j < ρ.length
      · rw [List.getElem?_set_self (by rw [s.len]; exact hl)] at h2
        cases h2
        rfl
      · rw [List.getElem?_eq_none (by simpa using hl)] at h1
        rcases h1 with h1 | h1 <;> cases h1
    · exact .inr ⟨hji, owns_set hji h⟩
  refine ⟨st.gr, ⟨s.sub, by rw [List.length_set, List.length_set, s.len], fun j d' hj => ?_, fun j d' hj => ?_, fun j k q a b => ?_⟩, ⟨fun q ⟨j, hq⟩ => ?_, fun j d' hj => ?_⟩⟩
  · have hji : j ≠ i := fun z => by
      subst z
      by_cases hl : j < ρ.length
      · rw [List.getElem?_set_self hl] at hj
        cases hj
      · rw [List.getElem?_eq_none (by simpa using hl)] at hj
        cases hj
    rw [List.getElem?_set_ne (Ne.symm hji)] at hj ⊢
    exact s.shr j d' hj
  · by_cases hji : j = i
    · subst hji
      by_cases hl : j < ρ.length
      · rw [List.getElem?_set_self hl] at hj
        rcases hj with hj | hj
        · cases hj
          exact ⟨p, List.getElem?_set_self (by rw [s.len]; exact hl), ow⟩
        · cases hj
      · rw [List.getElem?_eq_none (by simpa using hl)] at hj
        rcases hj with hj | hj <;> cases hj
    · rw [List.getElem?_set_ne (Ne.symm hji)] at hj ⊢
      exact s.own j d' hj
  · rcases own j q a with ⟨e1, e2⟩ | ⟨n1, o1⟩
    · rcases own k q b with ⟨e3, e4⟩ | ⟨n2, o2⟩
      · rw [e1, e3]
      · subst e2
        exact absurd ⟨k, o2⟩ no
    · rcases own k q b with ⟨e3, e4⟩ | ⟨n2, o2⟩
      · subst e4
        exact absurd ⟨j, o1⟩ no
      · exact s.dj j k q o1 o2
  · rcases own j q hq with ⟨_, e2⟩ | ⟨_, o1⟩
    · subst e2
      exact .inr hp
    · exact st.evo.own q ⟨j, o1⟩
  · obtain ⟨e1, d1, h1⟩ := st.evo.io j d' hj
    have hji : j ≠ i := fun z => by
      subst z
      exact not_io hi h1
    rw [List.getElem?_set_ne (Ne.symm hji), List.getElem?_set_ne (Ne.symm hji)]
    exact ⟨e1, d1, h1⟩
/-- what is owned is written -/
def setC (ρ : Env) (i : Nat) (d : D) : Option Env := match ρ[i]? with
  | some (.ow _) => some (ρ.set i (.ow d))
  | some (.io _) => some (ρ.set i (.io d))
  | _ => none
/-- what is owned at slot i -/
def lookO (ρ : Env) (i : Nat) : Option D := match ρ[i]? with
  | some (.ow d) => some d
  | some (.io d) => some d
  | _ => none
theorem lookO_own {c : D} (h : lookO ρ i = some c) : ρ[i]? = some (.ow c) ∨ ρ[i]? = some (.io c) := by
  unfold lookO at h
  split at h
  · cases h
    exact .inl (by assumption)
  · cases h
    exact .inr (by assumption)
  · cases h
theorem SOk.write (s : SOk K F ρ σ H) {c : D} (hc : lookO ρ i = some c) (e1 : σ[i]? = some (some (.ref p))) (g : Gr (fun q => q = p) F H F' H') (sb : Sub F' H') (ow : OwnAt K F' H' p d) (e : setC ρ i d = some ρ') : Stp K ρ σ F H ρ' σ F' H' := by
  have hown := lookO_own hc
  have hi : i < ρ.length := by
    rcases hown with h | h
    · exact (List.getElem?_eq_some_iff.mp h).1
    · exact (List.getElem?_eq_some_iff.mp h).1
  have hO : Ow ρ σ p := ⟨i, ⟨c, hown⟩, e1⟩
  -- the new environment, place by place
  obtain ⟨x, hx, ex, hio⟩ : ∃ x, ρ' = ρ.set i x ∧ (x = .ow d ∨ x = .io d) ∧ (∀ c', ρ[i]? = some (.io c') → x = .io d) := by
    unfold setC at e
    rcases hown with h | h
    · rw [h] at e
      cases e
      exact ⟨_, rfl, .inl rfl, fun c' h' => by rw [h] at h'; cases h'⟩
    · rw [h] at e
      cases e
      exact ⟨_, rfl, .inr rfl, fun c' h' => rfl⟩
  subst hx
  have old : ∀ j q, owns (ρ.set i x) σ j q → owns ρ σ j q := fun j q ⟨⟨d', h1⟩, h2⟩ => by
    by_cases hji : j = i
    · subst hji
      exact ⟨⟨c, hown⟩, h2⟩
    · rw [List.getElem?_set_ne (Ne.symm hji)] at h1
      exact ⟨⟨d', h1⟩, h2⟩
  refine ⟨⟨g.ext, fun b hb => ?_, fun b o hb ho => g.same b o hb fun z => ho (by subst z; exact hO), g.live⟩, ⟨sb, by rw [List.length_set, s.len], fun j d' hj => ?_, fun j d' hj => ?_, fun j k q a b => s.dj j k q (old j q a) (old k q b)⟩, ⟨fun q ⟨j, hq⟩ => .inl ⟨j, old j q hq⟩, fun j d' hj => ⟨rfl, ?_⟩⟩⟩
  · rcases g.new b hb with z | z | z | z
    · exact .inl z
    · exact .inr (.inl z)
    · subst z
      exact .inr (.inr (.inl hO))
    · exact .inr (.inr (.inr z))
  · have hji : j ≠ i := fun z => by
      subst z
      rw [List.getElem?_set_self hi] at hj
      rcases ex with ex | ex <;> rw [ex] at hj <;> cases hj
    rw [List.getElem?_set_ne (Ne.symm hji)] at hj
    obtain ⟨w, ew, r⟩ := s.shr j d' hj
    exact ⟨w, ew, r.mono g.ext⟩
  · by_cases hji : j = i
    · subst hji
      rw [List.getElem?_set_self hi] at hj
      have : d' = d := by
        rcases ex with ex | ex <;> rw [ex] at hj <;> rcases hj with hj | hj <;> cases hj <;> rfl
      subst this
      exact ⟨p, e1, ow⟩
    · rw [List.getElem?_set_ne (Ne.symm hji)] at hj
      obtain ⟨q, eq, hFq, u, hu, t⟩ := s.own j d' hj
      have hne : q ≠ p := fun z => by
        subst z
        exact hji (s.dj j i q ⟨⟨d', hj⟩, eq⟩ ⟨⟨c, hown⟩, e1⟩)
      refine ⟨q, eq, ?_, u, g.same q u hu hne, t.mono g.ext⟩
      cases z : F' q with
      | none => rfl
      | some w =>
        rcases g.new q (by rw [z]; intro y; cases y) with y | y | y | ⟨xs, y⟩
        · exact absurd hFq y
        · rw [hu] at y; cases y
        · exact absurd y hne
        · rw [hu] at y
          cases y
          exact absurd rfl (t.notup xs)
  · by_cases hji : j = i
    · subst hji
      rw [hio d' hj, List.getElem?_set_self hi]
      exact ⟨d, rfl⟩
    · rw [List.getElem?_set_ne (Ne.symm hji)]
      exact ⟨d', hj⟩
end

/-! ### statements -/
def cSet (i : Nat) (f : Den) : SDen := fun ρ => (f ρ).bind fun x => if isIo x.2[i]? then none else some (.nx (x.2.set i (.sh x.1)))
def cSetO (i : Nat) (f : Den) : SDen := fun ρ => (f ρ).bind fun x => if isIo x.2[i]? then none else some (.nx (x.2.set i (.ow x.1)))
def cSeq (f g : SDen) : SDen := fun ρ => (f ρ).bind fun r => match r with
  | .nx ρ' => g ρ'
  | r => some r
def cNext : SDen := fun ρ => some (.nx ρ)
def cRet (f : Den) : SDen := fun ρ => (f ρ).bind fun x => some (.rt x.1 x.2)
def cIfS (t : TDen) (f g : SDen) : SDen := fun ρ => (t ρ).bind fun x => match x.1 with
  | true => f x.2
  | false => g x.2
def cDrop (f : Den) : SDen := fun ρ => (f ρ).bind fun x => some (.nx x.2)
def cBk : SDen := fun ρ => some (.bk ρ)
def cCt : SDen := fun ρ => some (.ct ρ)
/-- name op= e, of ints -/
def cAug (i : Nat) (g : Int → Int → Int) (f : Den) : SDen := fun ρ => (look ρ i).bind fun a => (asI a).bind fun m => (f ρ).bind fun x => (asI x.1).bind fun n => if isIo x.2[i]? then none else some (.nx (x.2.set i (.sh (.int (g m n)))))
section
variable {X : Cx} {K : PySem.W.Frag} {pos : Pos} {a b : Expr} {f g : Den} {o o' : ODen} {st : Stmt} {sts rest : List Stmt} {F1 G1 : SDen} {tf : TDen}
theorem Wish.trans {K : PySem.W.Frag} {ρ ρ1 : Env} {σ σ1 : L2.St} {F H F1 H1 : Hp} {r : Fl} {E : Ends} (s : Stp K ρ σ F H ρ1 σ1 F1 H1) (w : Wish K ρ σ F H r E) : Wish K ρ1 σ1 F1 H1 r E :=
  ⟨fun ρ' σ' F' H' e st => w.nx ρ' σ' F' H' e (s.trans st), fun ρ' σ' F' H' e st => w.bk ρ' σ' F' H' e (s.trans st), fun ρ' σ' F' H' e st => w.ct ρ' σ' F' H' e (s.trans st), fun d v ρ' σ' F' H' e st => w.rt d v ρ' σ' F' H' e (s.trans st)⟩
theorem tS_tE {i : Nat} {σ : L2.St} {H : Hp} {E : Ends} (h : tS K (cSet i f) E σ H) : tAsg (tE K f) (gName i) E σ H := by
  obtain ⟨ρ, F, r, s, e, w⟩ := h
  obtain ⟨⟨x, ρ1⟩, e1, e⟩ := bind_some e
  refine ⟨ρ, F, x, ρ1, s, e1, fun v F1 H1 s1 r1 => ?_⟩
  split at e
  · cases e
  · rename_i hio
    cases e
    exact w.nx _ _ F1 H1 rfl (s1.trans (s1.ok.setS (by simpa using hio) r1))
theorem tS_tO {i : Nat} {σ : L2.St} {H : Hp} {E : Ends} (h : tS K (cSetO i f) E σ H) : tAsg (tO K f) (gName i) E σ H := by
  obtain ⟨ρ, F, r, s, e, w⟩ := h
  obtain ⟨⟨x, ρ1⟩, e1, e⟩ := bind_some e
  refine ⟨ρ, F, x, ρ1, s, e1, fun p F1 H1 s1 ow no hp => ?_⟩
  split at e
  · cases e
  · rename_i hio
    cases e
    exact w.nx _ _ F1 H1 rfl (s1.setO (by simpa using hio) hp ow no)
theorem ds_set (i : Nat) {x : Str} {pos' : Pos} (hN : X.N.Nodup) (he : DE X a f) (hi : X.N[i]? = some x := by rfl) (hx : Loc X.env.scope x := by first | exact .inl rfl | exact .inr rfl) (hs : swapsWith a (some (.Name x pos')) pos.line X.env = pure false := by rfl) (hf : X.fn x = true ∨ X.env.scope.names.lookup x = some .local := by first | exact .inl rfl | exact .inr rfl) :
    DS X (.Assign [.Name x pos'] a pos) (cSet i f) := (ps_set hN hi hx he hs hf).weak fun _ _ _ => tS_tE
theorem ds_setO (i : Nat) {x : Str} {pos' : Pos} (hN : X.N.Nodup) (he : DO X a f) (hi : X.N[i]? = some x := by rfl) (hx : Loc X.env.scope x := by first | exact .inl rfl | exact .inr rfl) (hs : swapsWith a (some (.Name x pos')) pos.line X.env = pure false := by rfl) (hf : X.fn x = true ∨ X.env.scope.names.lookup x = some .local := by first | exact .inl rfl | exact .inr rfl) :
    DS X (.Assign [.Name x pos'] a pos) (cSetO i f) := (ps_set hN hi hx he hs hf).weak fun _ _ _ => tS_tO
theorem dss_nil : DSs X [] cNext := pss_nil.weak fun E σ H h => by
  obtain ⟨ρ, F, r, s, e, w⟩ := h
  cases e
  exact w.nx ρ σ F H rfl (.refl s)
theorem ds_pass : DS X (.Pass pos) cNext := ps_pass.weak fun E σ H h => by
  obtain ⟨ρ, F, r, s, e, w⟩ := h
  cases e
  exact w.nx ρ σ F H rfl (.refl s)
theorem ds_break : DS X (.Break pos) cBk := ps_break.weak fun E σ H h => by
  obtain ⟨ρ, F, r, s, e, w⟩ := h
  cases e
  exact w.bk ρ σ F H rfl (.refl s)
theorem ds_continue : DS X (.Continue pos) cCt := ps_continue.weak fun E σ H h => by
  obtain ⟨ρ, F, r, s, e, w⟩ := h
  cases e
  exact w.ct ρ σ F H rfl (.refl s)
theorem ds_doc {x j pos'} : DS X (.Expr (.Constant (.str x) j pos) pos') cNext := ps_doc.weak fun E σ H h => by
  obtain ⟨ρ, F, r, s, e, w⟩ := h
  cases e
  exact w.nx ρ σ F H rfl (.refl s)
theorem dss_one (h1 : DS X st F1) : DSs X [st] F1 := pss_one h1
theorem dss_cons (h1 : DS X st F1) (h2 : DSs X rest G1) : DSs X (st :: rest) (cSeq F1 G1) := (pss_cons h1 h2).weak fun E σ H h => by
  obtain ⟨ρ, F, r, s, e, w⟩ := h
  obtain ⟨r1, e1, e⟩ := bind_some e
  refine ⟨ρ, F, r1, s, e1, ?_⟩
  cases r1 with
  | nx ρ1 => exact ⟨fun ρ' σ' F' H' e' st' => by cases e'; exact ⟨ρ1, F', r, st'.ok, e, w.trans st'⟩, (fun _ _ _ _ e' _ => by cases e'), (fun _ _ _ _ e' _ => by cases e'), (fun _ _ _ _ _ _ e' _ _ => by cases e')⟩
  | bk ρ1 => cases e; exact ⟨(fun _ _ _ _ e' _ => by cases e'), w.bk, w.ct, w.rt⟩
  | ct ρ1 => cases e; exact ⟨(fun _ _ _ _ e' _ => by cases e'), w.bk, w.ct, w.rt⟩
  | rt d ρ1 => cases e; exact ⟨(fun _ _ _ _ e' _ => by cases e'), w.bk, w.ct, w.rt⟩
theorem ds_ret (he : DE X a f) : DS X (.Return (some a) pos) (cRet f) := (ps_ret he).weak fun E σ H h => by
  obtain ⟨ρ, F, r, s, e, w⟩ := h
  obtain ⟨⟨x, ρ1⟩, e1, e⟩ := bind_some e
  cases e
  exact ⟨ρ, F, x, ρ1, s, e1, fun v F1 H1 s1 r1 => w.rt x v ρ1 σ F1 H1 rfl s1 r1⟩
theorem ds_retN : DS X (.Return none pos) (cRet (cC .none)) := ps_retN.weak fun E σ H h => by
  obtain ⟨ρ, F, r, s, e, w⟩ := h
  cases e
  exact w.rt .none .non ρ σ F H rfl (.refl s) .non
theorem ds_if {c : Expr} {x y : List Stmt} (hc : DT X c tf) (ha : DSs X x F1) (hb : DSs X y G1) : DS X (.If c x y pos) (cIfS tf F1 G1) := (ps_if hc ha hb).weak fun E σ H h => by
  obtain ⟨ρ, F, r, s, e, w⟩ := h
  obtain ⟨⟨x, ρ1⟩, e1, e⟩ := bind_some e
  refine ⟨ρ, F, x, ρ1, s, e1, fun F1 H1 s1 => ?_⟩
  cases x with
  | true => exact iteT ⟨ρ1, F1, r, s1.ok, e, w.trans s1⟩
  | false => exact iteF ⟨ρ1, F1, r, s1.ok, e, w.trans s1⟩
theorem ds_expr (he : DE X a f) (hs : swapsWith a none pos.line X.env = pure false := by rfl) : DS X (.Expr a pos) (cDrop f) := (ps_expr he hs).weak fun E σ H h => by
  obtain ⟨ρ, F, r, s, e, w⟩ := h
  obtain ⟨⟨x, ρ1⟩, e1, e⟩ := bind_some e
  cases e
  exact ⟨ρ, F, x, ρ1, s, e1, fun v F1 H1 s1 r1 => w.nx ρ1 σ F1 H1 rfl s1⟩
theorem ds_aug (i : Nat) {x : Str} {q : Operator} {g : Int → Int → Int} {pos' : Pos} (hN : X.N.Nodup) (hr : PIp X q (ipI g)) (he : DE X a f) (hi : X.N[i]? = some x := by rfl) (hx : Loc X.env.scope x := by first | exact .inl rfl | exact .inr rfl) (hf : X.fn x = true ∨ X.env.scope.names.lookup x = some .local := by first | exact .inl rfl | exact .inr rfl) :
    DS X (.AugAssign (.Name x pos') q a pos) (cAug i g f) := (ps_aug hN hi hx he hr hf).weak fun E σ H h => by
  obtain ⟨ρ, F, r, s, e, w⟩ := h
  obtain ⟨y, ey, e⟩ := bind_some e
  obtain ⟨m, em, e⟩ := bind_some e
  obtain ⟨⟨x, ρ1⟩, e1, e⟩ := bind_some e
  obtain ⟨n, en, e⟩ := bind_some e
  obtain ⟨v, ev, rv⟩ := s.look ey
  obtain rfl := asI_some em
  obtain rfl : x = .int n := asI_some en
  refine ⟨v, ev, ρ, F, _, ρ1, s, e1, fun v2 F1 H1 s1 r1 => ?_⟩
  split at e
  · cases e
  · rename_i hio
    cases e
    cases r1
    exact ⟨m, n, RepH.int rv, rfl, w.nx _ _ F1 H1 rfl (s1.trans (s1.ok.setS (by simpa using hio) (.int _)))⟩
end

/-! ### defs: their contract, their calls -/
/-- hands back m of the arguments, changes nothing that stands -/
def spD (K : PySem.W.Frag) (m : List D → Option D) : Sp := fun vs H Q _ => ∃ F ds d, Sub F H ∧ Reps K F vs ds ∧ m ds = some d ∧ ∀ v F' H', Px F H F' H' → Rep K F' v d → Q v H'
/-- the first argument is a thing that the def may write: m gives what it holds behind -/
def spIO (K : PySem.W.Frag) (m : D → List D → Option (D × D)) : Sp := fun vs H Q _ => ∃ F p vs' ds c d c', vs = .ref p :: vs' ∧ Sub F H ∧ OwnAt K F H p c ∧ Reps K F vs' ds ∧ m c ds = some (d, c') ∧
  ∀ v F' H', Gr (fun q => q = p) F H F' H' → Sub F' H' → OwnAt K F' H' p c' → Rep K F' v d → Q v H'
def env0 (n : Nat) (ds : List D) : Env := ds.map .sh ++ List.replicate (n - ds.length) .un
def runB (np n : Nat) (B : SDen) (ds : List D) : Option D := if ds.length = np then (B (env0 n ds)).bind fun r => match r with
  | .rt d _ => some d
  | .nx _ => some .none
  | _ => none else none
def envIO (n : Nat) (c : D) (ds : List D) : Env := .io c :: (ds.map .sh ++ List.replicate (n - (ds.length + 1)) .un)
def ioOf (ρ : Env) (d : D) : Option (D × D) := match ρ with
  | .io c :: _ => some (d, c)
  | _ => none
def runIO (np n : Nat) (B : SDen) (c : D) (ds : List D) : Option (D × D) := if ds.length + 1 = np then (B (envIO n c ds)).bind fun r => match r with
  | .rt d ρ => ioOf ρ d
  | .nx ρ => ioOf ρ .none
  | _ => none else none
section
variable {K : PySem.W.Frag}
theorem get_env {x : Sl} {l : List D} {m i : Nat} (h : (l.map Sl.sh ++ List.replicate m .un)[i]? = some x) : (∃ d, l[i]? = some d ∧ x = .sh d) ∨ x = .un := by
  by_cases hi : i < l.length
  · rw [List.getElem?_append_left (by simpa using hi), List.getElem?_map] at h
    cases e : l[i]? with
    | none => rw [e] at h; cases h
    | some d =>
      rw [e] at h
      cases h
      exact .inl ⟨d, rfl, rfl⟩
  · rw [List.getElem?_append_right (by simpa using hi), List.getElem?_replicate] at h
    split at h
    · cases h
      exact .inr rfl
    · cases h
theorem sok_start {F H : Hp} {N : List Str} {vs : List V} {ds : List D} (sb : Sub F H) (r : Reps K F vs ds) (hl : vs.length ≤ N.length) : SOk K F (env0 N.length ds) (L2.start N vs) H := by
  have no : ∀ (i : Nat) (d : D), ¬ ((env0 N.length ds)[i]? = some (.ow d) ∨ (env0 N.length ds)[i]? = some (.io d)) := fun i d h => by
    rcases h with h | h <;> rcases get_env h with ⟨_, _, z⟩ | z <;> cases z
  refine ⟨sb, ?_, fun i d h => ?_, fun i d h => absurd h (no i d), fun i j p ⟨⟨d, h⟩, _⟩ _ => absurd h (no i d)⟩
  · unfold L2.start env0
    rw [List.length_append, List.length_append, List.length_map, List.length_map, List.length_replicate, List.length_replicate, r.length]
  · rcases get_env h with ⟨d', h1, h2⟩ | h2
    · cases h2
      obtain ⟨v, e, rv⟩ := r.get h1
      refine ⟨v, ?_, rv⟩
      unfold L2.start
      rw [List.getElem?_append_left (by simpa using (List.getElem?_eq_some_iff.mp e).1), List.getElem?_map, e]
      rfl
    · cases h2
theorem sok_startIO {F H : Hp} {N : List Str} {p : Addr} {c : D} {vs : List V} {ds : List D} (sb : Sub F H) (ow : OwnAt K F H p c) (r : Reps K F vs ds) (hl : vs.length + 1 ≤ N.length) : SOk K F (envIO N.length c ds) (L2.start N (.ref p :: vs)) H := by
  have no : ∀ (i : Nat) (d : D), ((envIO N.length c ds)[i]? = some (.ow d) ∨ (envIO N.length c ds)[i]? = some (.io d)) → i = 0 ∧ d = c := fun i d h => by
    cases i with
    | zero =>
      refine ⟨rfl, ?_⟩
      unfold envIO at h
      rw [List.getElem?_cons_zero] at h
      rcases h with h | h <;> cases h
      rfl
    | succ i =>
      unfold envIO at h
      rw [List.getElem?_cons_succ] at h
      rcases h with h | h <;> rcases get_env h with ⟨_, _, z⟩ | z <;> cases z
  have st : (L2.start N (.ref p :: vs))[0]? = some (some (.ref p)) := by
    unfold L2.start
    simp
  refine ⟨sb, ?_, fun i d h => ?_, fun i d h => ?_, fun i j q ⟨⟨d, h⟩, _⟩ ⟨⟨d', h'⟩, _⟩ => by rw [(no i d h).1, (no j d' h').1]⟩
  · unfold L2.start envIO
    simp only [List.length_append, List.length_cons, List.length_map, List.length_replicate, r.length]
    omega
  · cases i with
    | zero =>
      unfold envIO at h
      rw [List.getElem?_cons_zero] at h
      cases h
    | succ i =>
      unfold envIO at h
      rw [List.getElem?_cons_succ] at h
      rcases get_env h with ⟨d', h1, h2⟩ | h2
      · cases h2
        obtain ⟨v, e, rv⟩ := r.get h1
        refine ⟨v, ?_, rv⟩
        unfold L2.start
        rw [List.getElem?_append_left (by simpa using (List.getElem?_eq_some_iff.mp e).1), List.getElem?_map, List.getElem?_cons_succ, e]
        rfl
      · cases h2
  · obtain ⟨rfl, rfl⟩ := no i d h
    exact ⟨p, st, ow⟩
variable {P : Program} {w : World} {mg : Str → Option Value} {base : Heap}
theorem Gr.px {ρ : Env} {σ : L2.St} {F H F' H' : Hp} (g : Gr (Ow ρ σ) F H F' H') (sb : Sub F' H') (no : ∀ p, ¬ Ow ρ σ p) : Px F H F' H' := by
  refine ⟨g.ext, fun a h => ?_, fun a o h => g.same a o h (no a), sb⟩
  rcases g.new a h with z | z | z | z
  · exact .inl z
  · exact .inr (.inl z)
  · exact absurd z (no a)
  · exact .inr (.inr z)
/-- THE RULE for a def -/
theorem fn_d {x qual : Str} {st : Stmt} {f : Addr} {fd : FuncData} {N ps : List Str} {k np : Nat} {B : SDen} (F : Fun K x qual st f fd) (S : FnScope N ps (defScope st)) (hnp : ps.length = np) (hN : np ≤ N.length)
    (hB : ∀ (cdv : Value) (A : Around) (outer : List PySem.Env) (s : Shared) (H : Hp) (E : XK), Room k (A.deeper (envOfC qual (defScope st) s.heap.objs.size f cdv)) → DSs (cxOf CX0 P w K mg base N qual (defScope st) f cdv A outer s H E).nox (defBody st) B) :
    FnOk P w K mg base CX0 (k + 1) f fd ps (spD K (runB np N.length B)) := by
  refine F.ok S (fun vs H Q E h => ?_) (fun cdv A outer s H vs Q E hr h => ?_)
  · obtain ⟨F0, ds, d, sb, r, e, _⟩ := h
    unfold runB at e
    split at e
    · rename_i hl
      rw [r.length, hl, hnp]
    · cases e
  · obtain ⟨F0, ds, d, sb, r, e, q⟩ := h
    unfold runB at e
    split at e
    · rename_i hl
      obtain ⟨z, ez, e⟩ := bind_some e
      have s0 := sok_start (N := N) sb r (by rw [r.length, hl]; exact hN)
      have no : ∀ p, ¬ Ow (env0 N.length ds) (L2.start N vs) p := fun p ⟨i, ⟨d', h⟩, _⟩ => by
        rcases h with h | h <;> rcases get_env h with ⟨_, _, z⟩ | z <;> cases z
      refine ⟨_, hB cdv A outer s H E hr, ?_⟩
      refine ⟨env0 N.length ds, F0, z, s0, ez, ⟨fun ρ' σ' F' H' ez' st' => ?_, fun ρ' σ' F' H' ez' st' => ?_, fun ρ' σ' F' H' ez' st' => ?_, fun d' v ρ' σ' F' H' ez' st' rv => ?_⟩⟩
      · subst ez'
        cases e
        exact q .non F' H' (st'.gr.px st'.ok.sub no) .non
      · subst ez'
        cases e
      · subst ez'
        cases e
      · subst ez'
        cases e
        exact q v F' H' (st'.gr.px st'.ok.sub no) rv
    · cases e
theorem fn_io {x qual : Str} {st : Stmt} {f : Addr} {fd : FuncData} {N ps : List Str} {k np : Nat} {B : SDen} (F : Fun K x qual st f fd) (S : FnScope N ps (defScope st)) (hnp : ps.length = np) (hN : np ≤ N.length)
    (hB : ∀ (cdv : Value) (A : Around) (outer : List PySem.Env) (s : Shared) (H : Hp) (E : XK), Room k (A.deeper (envOfC qual (defScope st) s.heap.objs.size f cdv)) → DSs (cxOf CX0 P w K mg base N qual (defScope st) f cdv A outer s H E).nox (defBody st) B) :
    FnOk P w K mg base CX0 (k + 1) f fd ps (spIO K (runIO np N.length B)) := by
  refine F.ok S (fun vs H Q E h => ?_) (fun cdv A outer s H vs Q E hr h => ?_)
  · obtain ⟨F0, p, vs', ds, c, d, c', rfl, sb, ow, r, e, _⟩ := h
    unfold runIO at e
    split at e
    · rename_i hl
      rw [List.length_cons, r.length, hl, hnp]
    · cases e
  · obtain ⟨F0, p, vs', ds, c, d, c', rfl, sb, ow, r, e, q⟩ := h
    unfold runIO at e
    split at e
    · rename_i hl
      obtain ⟨z, ez, e⟩ := bind_some e
      have s0 := sok_startIO (N := N) sb ow r (by rw [r.length, hl]; exact hN)
      have st0 : (L2.start N (.ref p :: vs'))[0]? = some (some (.ref p)) := by
        unfold L2.start
        simp
      have io0 : (envIO N.length c ds)[0]? = some (.io c) := rfl
      have only : ∀ q, Ow (envIO N.length c ds) (L2.start N (.ref p :: vs')) q → q = p := fun q ⟨i, ⟨d', h⟩, h2⟩ => by
        cases i with
        | zero =>
          rw [st0] at h2
          cases h2
          rfl
        | succ i =>
          unfold envIO at h
          rw [List.getElem?_cons_succ] at h
          rcases h with h | h <;> rcases get_env h with ⟨_, _, z⟩ | z <;> cases z
      have fin : ∀ (ρ' : Env) (σ' : L2.St) (F' H' : Hp) (v : V) (d' : D), Stp K (envIO N.length c ds) (L2.start N (.ref p :: vs')) F0 H ρ' σ' F' H' → Rep K F' v d' → ioOf ρ' d' = some (d, c') → Q v H' := fun ρ' σ' F' H' v d' st' rv ee => by
        obtain ⟨e1, d1, h1⟩ := st'.evo.io 0 c io0
        rw [st0] at e1
        cases ρ' with
        | nil => cases h1
        | cons y ρ' =>
          cases y with
          | io y =>
            cases ee
            obtain ⟨q1, eq1, oq⟩ := st'.ok.own 0 _ (.inr rfl)
            rw [e1] at eq1
            cases eq1
            refine q v F' H' ⟨st'.gr.ext, fun a h => ?_, fun a o h n => st'.gr.same a o h fun z => n (only a z), st'.gr.live⟩ st'.ok.sub oq rv
            rcases st'.gr.new a h with z | z | z | z
            · exact .inl z
            · exact .inr (.inl z)
            · exact .inr (.inr (.inl (only a z)))
            · exact .inr (.inr (.inr z))
          | un => cases ee
          | sh _ => cases ee
          | ow _ => cases ee
      refine ⟨_, hB cdv A outer s H E hr, ?_⟩
      refine ⟨envIO N.length c ds, F0, z, s0, ez, ⟨fun ρ' σ' F' H' ez' st' => ?_, fun ρ' σ' F' H' ez' st' => ?_, fun ρ' σ' F' H' ez' st' => ?_, fun d' v ρ' σ' F' H' ez' st' rv => ?_⟩⟩
      · subst ez'
        exact fin ρ' σ' F' H' .non .none st' .non e
      · subst ez'
        cases e
      · subst ez'
        cases e
      · subst ez'
        exact fin ρ' σ' F' H' v d' st' rv e
    · cases e
end
section
variable {X : Cx} {CX : CXT} {k : Nat} {f : Addr} {fd : FuncData} {ps : List Str} {x : Str} {p pos p2 : Pos} {e a : Expr} {es : List Expr} {fs : ADen} {E : XK}
theorem de_call {m : List D → Option D} (G : FnOk X.prog X.w X.K X.mg X.base CX k f fd ps (spD X.K m)) (hr : Room k X.A) (hg : Gl X x) (hm : X.mg x = some (.ref f)) (hk : PySem.W.keepIn X.K (.ref f) = true) (hb : Binds X.K fd ps []) (hx : Passes CX X E)
    (ha : DA X (e :: es) fs) (hdb : (x == ("__debug__" : Str)) = false := by decide +kernel) (he : starEach (e :: es) X.env = (false, eval e X.env) :: starEach es X.env := by rfl) (hpl : (backTo pos (starEach es X.env)).any (·.1) = false := by rfl) :
    DE X (.Call (.Name x p) (e :: es) [] pos) (cArgs m fs) := (pe_call G hr hg hm hk hb .nil hx ha hdb he hpl).weak fun σ H Q h => by
  obtain ⟨ρ, F, d, ρ', s, e, k⟩ := h
  obtain ⟨⟨x, ρ1⟩, e1, e⟩ := bind_some e
  obtain ⟨z, e3, e⟩ := bind_some e
  cases e
  exact ⟨ρ, F, x, _, s, e1, fun vs F1 H1 s1 r1 => ⟨F1, x, _, s1.ok.sub, by rw [List.append_nil]; exact r1, e3, fun v F' H' px rep => k v F' H' (s1.thenPx px) rep⟩⟩
/-- f(w, ..), w a thing of our own that f may write -/
def cCallIO (m : D → List D → Option (D × D)) (i : Nat) (fs : ADen) : Den := fun ρ => (lookO ρ i).bind fun _ => (fs ρ).bind fun y => (lookO y.2 i).bind fun c => (m c y.1).bind fun z => (setC y.2 i z.2).bind fun ρ' => some (z.1, ρ')
theorem SOk.lookO {K : PySem.W.Frag} {F H : Hp} {ρ : Env} {σ : L2.St} {i : Nat} {c : D} (s : SOk K F ρ σ H) (h : DL.lookO ρ i = some c) : ∃ p, σ[i]? = some (some (.ref p)) ∧ OwnAt K F H p c := s.own i c (lookO_own h)
theorem de_callIO {m : D → List D → Option (D × D)} (i : Nat) {y : Str} (G : FnOk X.prog X.w X.K X.mg X.base CX k f fd ps (spIO X.K m)) (hr : Room k X.A) (hg : Gl X x) (hm : X.mg x = some (.ref f)) (hk : PySem.W.keepIn X.K (.ref f) = true) (hb : Binds X.K fd ps []) (hx : Passes CX X E)
    (ha : DA X es fs) (hN : X.N[i]? = some y := by rfl) (hv : Vis X.env.scope y := by first | exact Or.inl rfl | exact Or.inr (Or.inl rfl) | exact Or.inr (Or.inr rfl)) (hd : (y == ("__debug__" : Str)) = false := by decide +kernel)
    (hcd : (y == ("__classdict__" : Str)) = false := by decide +kernel) (hdb : (x == ("__debug__" : Str)) = false := by decide +kernel) (he : starEach (.Name y p2 :: es) X.env = (false, eval (.Name y p2) X.env) :: starEach es X.env := by rfl) (hpl : (backTo pos (starEach es X.env)).any (·.1) = false := by rfl) :
    DE X (.Call (.Name x p) (.Name y p2 :: es) [] pos) (cCallIO m i fs) := (pe_call G hr hg hm hk hb .nil hx (pa_cons (pe_var hN hv hd hcd) ha he) hdb he hpl).weak fun σ H Q h => by
  obtain ⟨ρ, F, d, ρ', s, e, k⟩ := h
  obtain ⟨c0, e0, e⟩ := bind_some e
  obtain ⟨⟨ds, ρ1⟩, e1, e⟩ := bind_some e
  obtain ⟨c, e2, e⟩ := bind_some e
  obtain ⟨⟨d', c'⟩, e3, e⟩ := bind_some e
  obtain ⟨ρ2, e4, e⟩ := bind_some e
  cases e
  obtain ⟨p, ep, _⟩ := s.lookO e0
  refine ⟨_, ep, ρ, F, ds, ρ1, s, e1, fun vs F1 H1 s1 r1 => ?_⟩
  obtain ⟨p', ep', ow⟩ := s1.ok.lookO e2
  rw [ep] at ep'
  cases ep'
  exact ⟨F1, p, vs, ds, c, _, c', by rw [List.append_nil], s1.ok.sub, ow, r1, e3, fun v F' H' g sb ow' rep => k v F' H' (s1.trans (s1.ok.write e2 ep g sb ow' e4)) rep⟩
end
end DL

set_option maxHeartbeats 4000000
/-! DL8: what is written: methods of lists and dicts of our own, stores to items; targets. -/
namespace DL
open PySem L2 PyProof.Rows
theorem list_extendW (l : Addr) (items : Array Value) (n : Nat) (b : Addr) (items2 : Array Value) (n2 : Nat) (dd2 : Option Addr) (sl2 : Array (Option Value)) (hc0 : ¬(!items.isEmpty && Builtin.List.listTooLong (items.size + items2.size)) = true) (hc1 : items.size ≤ sizeLine) (hs2 : items.size + items2.size ≤ sizeLine + 1) :
    Meets (Builtin.«list.extend» ⟨[.ref l, .ref b], []⟩) (fun _ R s => s.heap.get? l = some { cls := .type "list", dict := none, data := .seq items n, slots := #[] } ∧ s.heap.get? b = some { cls := .type "list", dict := dd2, data := .seq items2 n2, slots := sl2 } ∧ R (.ok (.ret Value.none)) { s with heap := s.heap.update l (Obj.mapSeq fun x => x ++ items2), toks := s.toks }) :=
  .of_wp fun prog w A R s h => by
    obtain ⟨hp, g, d, tk, os⟩ := s; obtain ⟨hl, hb, h⟩ := h; have f1 := AutoSeq1.idx_int; have f2 := AutoSeq1.sub_tuple_tuple; have f3 := AutoSeq1.sub_list_list; have f4 := AutoSeq1.sub_tuple_list; have f5 := AutoSeq1.sub_list_tuple;
    have hz' : (items ++ items2).size ≤ sizeLine + 1 := by rw [Array.size_append]; exact hs2
    wp_walk using (wpAny_updateSeq hl rfl (hz := hc1) (_hz' := hz')), wpAny_loadPart' hl, wpAny_loadPart' hb; exact ⟨_, rfl, h⟩
def rExtS (K : PySem.W.Frag) : V → List V → Hp → VK → Prop := fun x vs H Q => ∃ l b xs zs, x = .ref l ∧ vs = [.ref b] ∧ H l = some (.lst xs) ∧ SqL K H b zs ∧ xs.length + zs.length ≤ sizeLine ∧ Q .non (upd H l (.lst (xs ++ zs)))
theorem mt_extS {X : Cx} : MtM X "list.extend" (rExtS X.K) := by
  intro pins s σ H x vs v us Q I rx rv h
  obtain ⟨l, b, xs, zs, rfl, rfl, hH, hB, hz, q⟩ := h
  cases rx
  obtain ⟨u, rfl, ru⟩ := rv.one
  cases ru
  obtain ⟨z, its, n, r, hl, e⟩ := I.lstM hH
  obtain ⟨its2, r2, p2, _⟩ := I.list hB
  have hl2 := r2.length
  obtain ⟨⟨cls2, dd2, data2, sl2⟩, ho2, hc2, n2, hd2⟩ := id p2.isList
  simp only at hc2 hd2
  subst hc2 hd2
  have hsz : its.toArray.size + its2.toArray.size ≤ sizeLine := by rw [List.size_toArray, List.size_toArray]; omega
  have hlong : ¬ (!its.toArray.isEmpty && Builtin.List.listTooLong (its.toArray.size + its2.toArray.size)) = true := by
    rw [notLongL hsz, Bool.and_false]
    exact Bool.false_ne_true
  refine call_meets F.slot_list_extend ⟨_, e, rfl⟩ F.entry_list_extend (F.args_list_extend_2 _ _)
    (list_extendW l its.toArray n b its2.toArray n2 dd2 sl2 hlong (by rw [List.size_toArray]; omega) (by omega)) ⟨e, ho2, ?_⟩
  refine ⟨.non, _, I.lset (its' := its ++ its2) hH e (by simp) (r.append r2) ?_, rfl, q⟩
  rw [List.length_append]
  omega

/-! ### methods of what is our own -/
def MutH (K : PySem.W.Frag) (r : V → List V → Hp → VK → Prop) (op : D → List D → Option (D × D)) : Prop :=
  ∀ (F H : Hp) (p : Addr) (u : HO) (vs : List V) (c : D) (ds : List D) (d c' : D), Sub F H → F p = none → H p = some u → Top K F u c → Reps K F vs ds → op c ds = some (d, c') →
    ∀ Q : VK, (∀ v F' H', Gr (fun q => q = p) F H F' H' → Sub F' H' → OwnAt K F' H' p c' → Rep K F' v d → Q v H') → r (.ref p) vs H Q
def cMut (tag : D → Bool) (op : D → List D → Option (D × D)) (i : Nat) (fs : ADen) : Den := fun ρ => (lookO ρ i).bind fun c0 => if tag c0 = true then (fs ρ).bind fun y => (lookO y.2 i).bind fun c => (op c y.1).bind fun z => (setC y.2 i z.2).bind fun ρ' => some (z.1, ρ') else none
theorem Gr.upd {F H : Hp} {p : Addr} {u o : HO} (h : H p = some u) : Gr (fun q => q = p) F H F (L2.upd H p o) := by
  refine ⟨.refl F, fun _ h => .inl h, fun a o' ha hn => ?_, fun a ha => ?_⟩
  · rw [upd_ne hn]
    exact ha
  · by_cases e : a = p
    · subst e
      rw [upd_same] at ha
      cases ha
    · rw [upd_ne e] at ha
      exact ha
theorem Sub.upd {F H : Hp} {p : Addr} {o : HO} (s : Sub F H) (h : F p = Option.none) : Sub F (L2.upd H p o) := fun b w q => by
  have hb : b ≠ p := fun z => by
    subst z
    rw [h] at q
    cases q
  rcases s b w q with z | ⟨z, y, yy⟩
  · exact .inl (by rw [upd_ne hb]; exact z)
  · exact .inr ⟨z, y, by rw [upd_ne hb]; exact yy⟩
@[simp] def isL : D → Bool
  | .list _ => true
  | _ => false
@[simp] def isDc : D → Bool
  | .dict _ => true
  | _ => false
section
variable {X : Cx} {K : PySem.W.Frag} {pos apos cpos : Pos} {a e : Expr} {es : List Expr} {fs : ADen}
theorem SOk.tagL {F H : Hp} {ρ : Env} {σ : L2.St} {i : Nat} {c : D} (s : SOk K F ρ σ H) (h : DL.lookO ρ i = some c) (t : isL c = true) : ∃ p xs, σ[i]? = some (some (.ref p)) ∧ H p = some (.lst xs) := by
  obtain ⟨p, e, _, u, hu, tp⟩ := s.lookO h
  cases tp with
  | lst r => exact ⟨p, _, e, hu⟩
  | dK _ => cases t
  | dT _ => cases t
/-- name.m(e, ..), a method of lists -/
theorem de_mutL {x name : Str} {id : String} {r : V → List V → Hp → VK → Prop} {op : D → List D → Option (D × D)} {p2 : Pos} (i : Nat) (slot : Slot "list" name id) (hty : typeOf (.builtin id) = pure (.type "method_descriptor")) (hm : MtM X id r) (ho : MutH X.K r op) (ha : DA X (e :: es) fs)
    (hN : X.N[i]? = some x := by rfl) (hv : Vis X.env.scope x := by first | exact Or.inl rfl | exact Or.inr (Or.inl rfl) | exact Or.inr (Or.inr rfl)) (hd : (x == ("__debug__" : Str)) = false := by decide +kernel)
    (hcd : (x == ("__classdict__" : Str)) = false := by decide +kernel) (hbase : attributeBase (.Name x p2) name X.env (eval (.Name x p2) X.env) = eval (.Name x p2) X.env := by rfl)
    (hfew : ((backTo cpos (starEach (e :: es) X.env)).all (fun x => !x.1) && (backToKw cpos (keywordEach [] X.env)).all (fun x => x.1.isSome)
      && decide ((e :: es).length + ([] : List Keyword).length + (if ([] : List Keyword).isEmpty then 0 else 1) < 30)) = true := by rfl)
    (hline : (apos.endLine == cpos.line) = true := by rfl) (hs : starEach (e :: es) X.env = (false, eval e X.env) :: starEach es X.env := by rfl) (hplain : (backTo cpos (starEach es X.env)).any (·.1) = false := by rfl) :
    DE X (.Call (.Attribute (.Name x p2) name apos) (e :: es) [] cpos) (cMut isL op i fs) := (pe_bm PySem.F.plainAttrs_list slot hty hm (pe_var hN hv hd hcd) ha hbase hfew hline hs hplain).weak fun σ H Q h => by
  obtain ⟨ρ, F, d, ρ', s, e, k⟩ := h
  obtain ⟨c0, e0, e⟩ := bind_some e
  split at e
  · rename_i ht
    obtain ⟨⟨ds, ρ1⟩, e1, e⟩ := bind_some e
    obtain ⟨c, e2, e⟩ := bind_some e
    obtain ⟨⟨d', c'⟩, e3, e⟩ := bind_some e
    obtain ⟨ρ2, e4, e⟩ := bind_some e
    cases e
    obtain ⟨p, xs, ep, hp⟩ := s.tagL e0 ht
    refine ⟨_, ep, .inl ⟨rfl, xs, SqL.of hp⟩, ρ, F, ds, ρ1, s, e1, fun vs F1 H1 s1 r1 => ?_⟩
    obtain ⟨p', ep', hF, u, hu, tp⟩ := s1.ok.lookO e2
    rw [ep] at ep'
    cases ep'
    exact ho F1 H1 p u vs c ds _ c' s1.ok.sub hF hu tp r1 e3 Q fun v F' H' g sb ow rep => k v F' H' (s1.trans (s1.ok.write e2 ep g sb ow e4)) rep
  · cases e
theorem de_mutL0 {x name : Str} {id : String} {r : V → List V → Hp → VK → Prop} {op : D → List D → Option (D × D)} {p2 : Pos} (i : Nat) (slot : Slot "list" name id) (hty : typeOf (.builtin id) = pure (.type "method_descriptor")) (hm : MtM X id r) (ho : MutH X.K r op)
    (hN : X.N[i]? = some x := by rfl) (hv : Vis X.env.scope x := by first | exact Or.inl rfl | exact Or.inr (Or.inl rfl) | exact Or.inr (Or.inr rfl)) (hd : (x == ("__debug__" : Str)) = false := by decide +kernel)
    (hcd : (x == ("__classdict__" : Str)) = false := by decide +kernel) (hbase : attributeBase (.Name x p2) name X.env (eval (.Name x p2) X.env) = eval (.Name x p2) X.env := by rfl) (hline : (apos.endLine == cpos.line) = true := by rfl) :
    DE X (.Call (.Attribute (.Name x p2) name apos) [] [] cpos) (cMut isL op i cNil) := (pe_bm0 PySem.F.plainAttrs_list slot hty hm (pe_var hN hv hd hcd) hbase hline).weak fun σ H Q h => by
  obtain ⟨ρ, F, d, ρ', s, e, k⟩ := h
  obtain ⟨c0, e0, e⟩ := bind_some e
  split at e
  · rename_i ht
    obtain ⟨⟨ds, ρ1⟩, e1, e⟩ := bind_some e
    cases e1
    obtain ⟨c, e2, e⟩ := bind_some e
    obtain ⟨⟨d', c'⟩, e3, e⟩ := bind_some e
    obtain ⟨ρ2, e4, e⟩ := bind_some e
    cases e
    obtain ⟨p, xs, ep, hp⟩ := s.tagL e0 ht
    refine ⟨_, ep, .inl ⟨rfl, xs, SqL.of hp⟩, ?_⟩
    obtain ⟨p', ep', hF, u, hu, tp⟩ := s.lookO e2
    rw [ep] at ep'
    cases ep'
    exact ho F H p u [] c [] _ c' s.sub hF hu tp .nil e3 Q fun v F' H' g sb ow rep => k v F' H' (s.write e2 ep g sb ow e4) rep
  · cases e
@[simp] def opAppend : D → List D → Option (D × D)
  | .list xs, [d] => if xs.length < sizeLine then some (.none, .list (xs ++ [d])) else none
  | _, _ => none
theorem mh_append : MutH K rAppend opAppend := by
  intro F H p u vs c ds d c' sb hF hu t r e Q k
  unfold opAppend at e
  split at e
  · split at e
    · rename_i hl
      cases e
      cases t with
      | lst rx =>
        cases r with
        | cons r1 rr =>
          cases rr
          exact ⟨p, _, _, rfl, rfl, hu, by rw [rx.length]; exact hl, k _ F _ (.upd hu) (sb.upd hF) ⟨hF, _, upd_same, .lst (rx.append (.one r1))⟩ .non⟩
    · cases e
  · cases e
@[simp] def opExtend : D → List D → Option (D × D)
  | .list xs, [.list ys] => if xs.length + ys.length ≤ sizeLine then some (.none, .list (xs ++ ys)) else none
  | _, _ => none
theorem mh_extend : MutH K (rExtS K) opExtend := by
  intro F H p u vs c ds d c' sb hF hu t r e Q k
  unfold opExtend at e
  split at e
  · split at e
    · rename_i hl
      cases e
      cases t with
      | lst rx =>
        cases r with
        | cons r1 rr =>
          cases rr
          cases r1 with
          | lst h1 q1 =>
            exact ⟨p, _, _, _, rfl, rfl, hu, h1.sq sb, by rw [rx.length, q1.length]; exact hl, k _ F _ (.upd hu) (sb.upd hF) ⟨hF, _, upd_same, .lst (rx.append q1)⟩ .non⟩
    · cases e
  · cases e
@[simp] def opPop : D → List D → Option (D × D)
  | .list xs, [] => (xs[xs.length - 1]?).map fun d => (d, .list xs.dropLast)
  | _, _ => none
theorem Reps.dropLast {F : Hp} {vs : List V} {ds : List D} (r : Reps K F vs ds) : Reps K F vs.dropLast ds.dropLast := by
  rw [List.dropLast_eq_take, List.dropLast_eq_take, r.length]
  exact r.take _
theorem mh_pop : MutH K rPop opPop := by
  intro F H p u vs c ds d c' sb hF hu t r e Q k
  unfold opPop at e
  split at e
  · obtain ⟨y, ey, e2⟩ := Option.map_eq_some_iff.mp e
    cases e2
    cases r
    cases t with
    | lst rx =>
      obtain ⟨v, ev, rv⟩ := rx.get ey
      rw [← rx.length] at ev
      exact ⟨p, _, v, rfl, rfl, hu, ev, k _ F _ (.upd hu) (sb.upd hF) ⟨hF, _, upd_same, .lst rx.dropLast⟩ rv⟩
  · cases e
end
end DL

set_option maxHeartbeats 4000000
/-! DL9: targets; assignments to them. -/
namespace DL
open PySem L2 PyProof.Rows
abbrev GDen := D → Env → Option Env
abbrev GsDen := List D → Env → Option Env
def tG (K : PySem.W.Frag) (t : GDen) : TG := fun v σ H Q => ∃ ρ F d ρ', SOk K F ρ σ H ∧ Rep K F v d ∧ t d ρ = some ρ' ∧ ∀ σ' F' H', Stp K ρ σ F H ρ' σ' F' H' → Q σ' H'
def tGs (K : PySem.W.Frag) (t : GsDen) : TGs := fun vs σ H Q => ∃ ρ F ds ρ', SOk K F ρ σ H ∧ Reps K F vs ds ∧ t ds ρ = some ρ' ∧ ∀ σ' F' H', Stp K ρ σ F H ρ' σ' F' H' → Q σ' H'
def DG (X : Cx) (e : Expr) (t : GDen) : Prop := PG X e (tG X.K t)
def DGs (X : Cx) (es : List Expr) (t : GsDen) : Prop := PGs X es (tGs X.K t)
def gN (i : Nat) : GDen := fun d ρ => if isIo ρ[i]? then none else some (ρ.set i (.sh d))
@[simp] def gsNil : GsDen := fun ds ρ => match ds with
  | [] => some ρ
  | _ => none
@[simp] def gsCons (t : GDen) (u : GsDen) : GsDen := fun ds ρ => match ds with
  | d :: ds => (t d ρ).bind fun ρ1 => u ds ρ1
  | _ => none
@[simp] def asTup (n : Nat) : D → Option (List D)
  | .tuple ds => if ds.length = n then some ds else none
  | _ => none
@[simp] def asLst (n : Nat) : D → Option (List D)
  | .list ds => if ds.length = n then some ds else none
  | _ => none
def gTp (n : Nat) (u : GsDen) : GDen := fun d ρ => (asTup n d).bind fun ds => u ds ρ
def gLs (n : Nat) (u : GsDen) : GDen := fun d ρ => (asLst n d).bind fun ds => u ds ρ
section
variable {X : Cx} {pos : Pos} {e a : Expr} {es : List Expr} {t : GDen} {u : GsDen} {f : Den} {o : ODen}
theorem _root_.L2.PG.weak {t t' : TG} (h : PG X e t) (w : ∀ v σ H Q, t' v σ H Q → t v σ H Q) : PG X e t' := ⟨fun pins s σ H v u Q I r q => h.run pins s σ H v u Q I r (w _ _ _ _ q)⟩
theorem _root_.L2.PGs.weak {t t' : TGs} (h : PGs X es t) (w : ∀ v σ H Q, t' v σ H Q → t v σ H Q) : PGs X es t' := ⟨fun pins s σ H v u Q I r q => h.run pins s σ H v u Q I r (w _ _ _ _ q)⟩
theorem dg_n (i : Nat) {x : Str} (hN : X.N.Nodup) (hi : X.N[i]? = some x := by rfl) (hx : Loc X.env.scope x := by first | exact .inl rfl | exact .inr rfl) (hf : X.fn x = true ∨ X.env.scope.names.lookup x = some .local := by first | exact .inl rfl | exact .inr rfl) : DG X (.Name x pos) (gN i) :=
  (pg_name hN hi hx hf).weak fun v σ H Q h => by
    obtain ⟨ρ, F, d, ρ', s, r, e, k⟩ := h
    unfold gN at e
    split at e
    · cases e
    · rename_i hio
      cases e
      exact k _ F H (s.setS (by simpa using hio) r)
theorem dgs_nil : DGs X [] gsNil := pgs_nil.weak fun vs σ H Q h => by
  obtain ⟨ρ, F, ds, ρ', s, r, e, k⟩ := h
  unfold gsNil at e
  split at e
  · cases e
    cases r
    exact ⟨rfl, k σ F H (.refl s)⟩
  · cases e
theorem dgs_cons (h1 : DG X e t) (h2 : DGs X es u) (hs : (assignEach (e :: es) X.env).map (·.2) = assign e X.env :: (assignEach es X.env).map (·.2) := by rfl) : DGs X (e :: es) (gsCons t u) := (pgs_cons h1 h2 hs).weak fun vs σ H Q h => by
  obtain ⟨ρ, F, ds, ρ', s, r, e, k⟩ := h
  unfold gsCons at e
  split at e
  · obtain ⟨ρ1, e1, e2⟩ := bind_some e
    cases r with
    | cons r rr => exact ⟨_, _, rfl, ρ, F, _, ρ1, s, r, e1, fun σ1 F1 H1 s1 => ⟨ρ1, F1, _, ρ', s1.ok, rr.mono s1.gr.ext, e2, fun σ2 F2 H2 s2 => k σ2 F2 H2 (s1.trans s2)⟩⟩
  · cases e
theorem dg_tp {kk : Nat} {n : Nat} (hc : X.calm = true) (h : DGs X es u) (hn : (assignEach es X.env).length = n := by rfl) (hst : (assignEach es X.env).findIdx? (·.1) = none := by rfl) : DG X (.Tuple es kk pos) (gTp n u) := (pg_tup hc h hn hst).weak fun v σ H Q h => by
  obtain ⟨ρ, F, d, ρ', s, r, e, k⟩ := h
  obtain ⟨ds, e1, e2⟩ := bind_some e
  unfold asTup at e1
  split at e1
  · split at e1
    · rename_i hl
      cases e1
      cases r with
      | tup h1 r1 => exact ⟨_, _, rfl, h1.sq s.sub, by rw [r1.length]; exact hl, ρ, F, _, ρ', s, r1, e2, k⟩
    · cases e1
  · cases e1
theorem ds_asg (ha : DE X a f) (hg : DG X e t) (hs : swapsWithSole [e] a pos.line X.env = pure false := by rfl) (hw : swappedStores [e] a X.env = pure none := by rfl) (h1 : (assignEach [e] X.env).map (·.2) = [assign e X.env] := by rfl) :
    DS X (.Assign [e] a pos) (fun ρ => (f ρ).bind fun x => (t x.1 x.2).bind fun ρ' => some (.nx ρ')) := (ps_asg ha hg hs hw h1).weak fun E σ H h => by
  obtain ⟨ρ, F, r, s, e, w⟩ := h
  obtain ⟨⟨x, ρ1⟩, e1, e⟩ := bind_some e
  obtain ⟨ρ2, e2, e⟩ := bind_some e
  cases e
  exact ⟨ρ, F, x, ρ1, s, e1, fun v F1 H1 s1 r1 => ⟨ρ1, F1, x, ρ2, s1.ok, r1, e2, fun σ2 F2 H2 s2 => w.nx ρ2 σ2 F2 H2 rfl (s1.trans s2)⟩⟩
end
/-! ### items of what is our own -/
def dputD (es : List (D × D)) (k v : D) : List (D × D) := dput es k v
@[simp] def setD : D → D → D → Option D
  | .list xs, .int i, v => (ixN xs.length i).map fun j => .list (xs.set j v)
  | .dict es, k, v => if fitK es k = true ∧ es.length < sizeLine then some (.dict (dput es k v)) else none
  | _, _, _ => none
def rSetDic : TSet := fun o i v H Q => ∃ a H4, o = .ref a ∧ DPut H a i v H4 ∧ Q H4
section
variable {X : Cx} {K : PySem.W.Frag}
/-- an empty dict of ours takes keys of any kind -/
theorem redict {pins : List (Addr × Obj)} {σ : L2.St} {H : Hp} {s : Shared} {a : Addr} (I : Inv X pins σ H s) (h : H a = some (.dK [])) : Inv X pins σ (L2.upd H a (.dT [])) s := by
  obtain ⟨hd, o, es, ep, h1, h2, h3, h4, _, h5⟩ := empty_T I (.inl h)
  have := I.write (x := a) (e := a) (o := .dT []) (h' := s.heap) (t' := s.toks) (by rw [h]; trivial) (.inl rfl) (fun _ _ _ q => q) ⟨o, h1⟩ ⟨Nat.zero_le _, hd, [], .nil, o, es, ep, h1, h2, h3, h4, h5⟩
  exact this
theorem redictK {pins : List (Addr × Obj)} {σ : L2.St} {H : Hp} {s : Shared} {a : Addr} (I : Inv X pins σ H s) (h : H a = some (.dT [])) : Inv X pins σ (L2.upd H a (.dK [])) s := by
  obtain ⟨z, hd, xs, rel, o, es, ep, h1, h2, h3, h4, h5⟩ := (show ObjOk X.prog X.w H s.heap a (.dT []) from I.hok a _ h)
  cases rel
  have e : es = #[] := by
    apply Array.toList_inj.mp
    rw [h4]
    rfl
  subst e
  have := I.write (x := a) (e := a) (o := .dK []) (h' := s.heap) (t' := s.toks) (by rw [h]; trivial) (.inl rfl) (fun _ _ _ q => q) ⟨o, h1⟩ ⟨Nat.zero_le _, hd, [], .nil, o, #[], ep, h1, h2, h3, fun e he => absurd he (by simp), .nil, List.nodup_nil⟩
  exact this
/-- the same, the empty one whatever the key -/
def DPutE (H : Hp) (a : Addr) (y v : V) (H' : Hp) : Prop :=
  DPut H a y v H' ∨ (H a = some (.dK []) ∧ ∃ (k : List Key) (b : Addr), y = .ref b ∧ H b = some (.tup (k.map kV)) ∧ H' = L2.upd H a (.dT [(k, v)])) ∨ (H a = some (.dT []) ∧ ∃ k, y = kV k ∧ H' = L2.upd H a (.dK [(k, v)]))
theorem d_setItemE {pins : List (Addr × Obj)} {σ : L2.St} {H H' : Hp} {s : Shared} {a : Addr} {y v : V} {u r : Value} {A : Around} {E : Value → Shared → Prop} {Q : Unit → Shared → Prop} (hu : A.units + 1 < cLine) (I : Inv X pins σ H s) (g : DPutE H a y v H') (ry : RelV y u) (rv : RelV v r) (h : ∀ s', Inv X pins σ H' s' → Q () s') :
    wpAny (model X.prog X.w) A (setItem (.ref a) u r) Q E s := by
  rcases g with g | ⟨e, k, b, rfl, eb, rfl⟩ | ⟨e, k, rfl, rfl⟩
  · exact d_setItem hu I g ry rv h
  · have hb : b ≠ a := ne_of eb e (by intro z; cases z)
    refine d_setItem hu (redict I e) (.inr ⟨[], k, b, upd_same, rfl, by rw [upd_ne hb]; exact eb, by decide, rfl⟩) ry rv fun s' I' => h s' ?_
    rw [upd_upd] at I'
    exact I'
  · refine d_setItem hu (redictK I e) (.inl ⟨[], k, upd_same, rfl, by decide, rfl⟩) ry rv fun s' I' => h s' ?_
    rw [upd_upd] at I'
    exact I'
def rSetDicE : TSet := fun o i v H Q => ∃ a H4, o = .ref a ∧ DPutE H a i v H4 ∧ Q H4
theorem set_dicE (hu : X.A.units + 1 < cLine) : PSet X rSetDicE := by
  intro pins s σ H o i v ov iv u Q I ro ri rv h
  obtain ⟨a, H4, rfl, g, q⟩ := h
  cases ro
  exact d_setItemE hu I g ri rv fun s' I' => ⟨H4, I', q⟩
def rSetAll : TSet := fun o i v H Q => rSetL o i v H Q ∨ rSetDicE o i v H Q
theorem set_all (hu : X.A.units + 1 < cLine) : PSet X rSetAll := by
  intro pins s σ H o i v ov iv u Q I ro ri rv h
  rcases h with h | h
  · exact set_list pins s σ H o i v ov iv u Q I ro ri rv h
  · exact set_dicE hu pins s σ H o i v ov iv u Q I ro ri rv h
theorem RepK.put {F : Hp} {k : Key} {v : V} {d : D} (r : Rep K F v d) : ∀ {kvs : List (Key × V)} {es : List (D × D)}, RepK K F kvs es → RepK K F (putK kvs k v) (dput es (keyD k) d) := by
  have hany : ∀ {kvs : List (Key × V)} {es : List (D × D)}, RepK K F kvs es → (kvs.any fun kv => decide (kv.1 = k)) = (es.any fun p => keyB p.1 (keyD k)) := by
    intro kvs es h
    induction kvs generalizing es with
    | nil => cases h; rfl
    | cons p q ih =>
      cases h with
      | cons h1 h2 => rw [List.any_cons, List.any_cons, keyB_k, ih h2]
  have hmap : ∀ {kvs : List (Key × V)} {es : List (D × D)}, RepK K F kvs es → RepK K F (kvs.map fun kv => if kv.1 = k then (kv.1, v) else kv) (es.map fun p => if keyB p.1 (keyD k) = true then (p.1, d) else p) := by
    intro kvs es h
    induction kvs generalizing es with
    | nil => cases h; exact .nil
    | cons p q ih =>
      cases h with
      | cons h1 h2 =>
        rename_i j w d' es'
        rw [List.map_cons, List.map_cons, keyB_k]
        by_cases e : j = k
        · rw [if_pos e, decide_eq_true e, if_pos rfl]
          exact .cons r (ih h2)
        · rw [if_neg e, decide_eq_false e, if_neg Bool.false_ne_true]
          exact .cons h1 (ih h2)
  have happ : ∀ {kvs : List (Key × V)} {es : List (D × D)}, RepK K F kvs es → RepK K F (kvs ++ [(k, v)]) (es ++ [(keyD k, d)]) := by
    intro kvs es h
    induction kvs generalizing es with
    | nil => cases h; exact .cons r .nil
    | cons p q ih =>
      cases h with
      | cons h1 h2 => exact .cons h1 (ih h2)
  intro kvs es h
  unfold putK dput
  rw [hany h]
  split
  · exact hmap h
  · exact happ h
theorem RepT.put {F : Hp} {k : List Key} {v : V} {d : D} (r : Rep K F v d) : ∀ {kvs : List (List Key × V)} {es : List (D × D)}, RepT K F kvs es → RepT K F (putK kvs k v) (dput es (.tuple (k.map keyD)) d) := by
  have hany : ∀ {kvs : List (List Key × V)} {es : List (D × D)}, RepT K F kvs es → (kvs.any fun kv => decide (kv.1 = k)) = (es.any fun p => keyB p.1 (.tuple (k.map keyD))) := by
    intro kvs es h
    induction kvs generalizing es with
    | nil => cases h; rfl
    | cons p q ih =>
      cases h with
      | cons h1 h2 => rw [List.any_cons, List.any_cons, keyB_t, ih h2]
  have hmap : ∀ {kvs : List (List Key × V)} {es : List (D × D)}, RepT K F kvs es → RepT K F (kvs.map fun kv => if kv.1 = k then (kv.1, v) else kv) (es.map fun p => if keyB p.1 (.tuple (k.map keyD)) = true then (p.1, d) else p) := by
    intro kvs es h
    induction kvs generalizing es with
    | nil => cases h; exact .nil
    | cons p q ih =>
      cases h with
      | cons h1 h2 =>
        rename_i j w d' es'
        rw [List.map_cons, List.map_cons, keyB_t]
        by_cases e : j = k
        · rw [if_pos e, decide_eq_true e, if_pos rfl]
          exact .cons r (ih h2)
        · rw [if_neg e, decide_eq_false e, if_neg Bool.false_ne_true]
          exact .cons h1 (ih h2)
  have happ : ∀ {kvs : List (List Key × V)} {es : List (D × D)}, RepT K F kvs es → RepT K F (kvs ++ [(k, v)]) (es ++ [(.tuple (k.map keyD), d)]) := by
    intro kvs es h
    induction kvs generalizing es with
    | nil => cases h; exact .cons r .nil
    | cons p q ih =>
      cases h with
      | cons h1 h2 => exact .cons h1 (ih h2)
  intro kvs es h
  unfold putK dput
  rw [hany h]
  split
  · exact hmap h
  · exact happ h
/-- a store into what is our own -/
theorem sh_set {F H : Hp} {p : Addr} {u : HO} {c k d c' : D} {y v : V} (sb : Sub F H) (hF : F p = none) (hu : H p = some u) (t : Top K F u c) (rk : RepH K F H y k) (rv : Rep K F v d) (e : setD c k d = some c') (Q : Hp → Prop)
    (q : ∀ H', Gr (fun q => q = p) F H F H' → Sub F H' → OwnAt K F H' p c' → Q H') : rSetAll (.ref p) y v H Q := by
  unfold setD at e
  split at e
  · obtain ⟨j, ej, rfl⟩ := Option.map_eq_some_iff.mp e
    cases t with
    | lst rx =>
      rw [← rx.length] at ej
      exact .inl ⟨p, _, _, j, rfl, rk.int, hu, ej, q _ (.upd hu) (sb.upd hF) ⟨hF, _, upd_same, .lst (rx.set rv j)⟩⟩
  · rename_i es
    split at e
    · rename_i hh
      obtain ⟨hf, hl⟩ := hh
      cases e
      have flat : ∀ {j : Key}, k = keyD j → (∀ z ∈ es, isKey (Prod.fst z) = true) → rSetAll (.ref p) y v H Q := by
        intro j ek hall
        have ey : y = kV j := by
          rw [ek] at rk
          exact rk.key
        subst ek
        cases t with
        | dK rx =>
          exact .inr ⟨p, _, rfl, .inl (.inl ⟨_, j, hu, ey, by rw [rx.length]; exact hl, rfl⟩), q _ (.upd hu) (sb.upd hF) ⟨hF, _, upd_same, .dK (rx.put rv)⟩⟩
        | dT rx =>
          cases rx with
          | nil => exact .inr ⟨p, _, rfl, .inr (.inr ⟨hu, j, ey, rfl⟩), q _ (.upd hu) (sb.upd hF) ⟨hF, _, upd_same, .dK (.cons rv .nil)⟩⟩
          | cons _ _ => exact absurd (hall _ List.mem_cons_self) (by simp [isKey])
      unfold fitK at hf
      split at hf
      · exact flat (j := .inl _) rfl fun z hz => List.all_eq_true.mp hf z hz
      · exact flat (j := .inr _) rfl fun z hz => List.all_eq_true.mp hf z hz
      · rename_i ks
        rw [Bool.and_eq_true, Option.isSome_iff_exists] at hf
        obtain ⟨⟨kk, e1⟩, hf⟩ := hf
        obtain rfl := asKs_some e1
        obtain ⟨b, xs, rfl, hb, _, rx2⟩ := rk.tup sb
        obtain rfl := rx2.keys
        cases t with
        | dK rx =>
          cases rx with
          | nil => exact .inr ⟨p, _, rfl, .inr (.inl ⟨hu, kk, b, rfl, hb, rfl⟩), q _ (.upd hu) (sb.upd hF) ⟨hF, _, upd_same, .dT (.cons rv .nil)⟩⟩
          | cons _ _ =>
            have q2 := List.all_eq_true.mp hf _ List.mem_cons_self
            rename_i k' _ _ _ _ _ _
            cases k' <;> simp [isKey, keyD] at q2
        | dT rx => exact .inr ⟨p, _, rfl, .inl (.inr ⟨_, kk, b, hu, rfl, hb, by rw [rx.length]; exact hl, rfl⟩), q _ (.upd hu) (sb.upd hF) ⟨hF, _, upd_same, .dT (rx.put rv)⟩⟩
      · cases hf
    · cases e
  · cases e
end
end DL

set_option maxHeartbeats 4000000
/-! DL10: items as targets; several names at once, new things among them. -/
namespace DL
open PySem L2 PyProof.Rows
section
variable {X : Cx} {K : PySem.W.Frag} {pos pos' tpos : Pos} {a b e : Expr} {es : List Expr} {f : Den} {o o' : ODen}
def gIx (i : Nat) (o : ODen) : GDen := fun d ρ => (lookO ρ i).bind fun _ => (o ρ).bind fun y => (res y.2 y.1).bind fun k => (lookO y.2 i).bind fun c => (setD c k d).bind fun c' => setC y.2 i c'
theorem dg_ix (hu : X.A.units + 1 < cLine) (i : Nat) {x : Str} {p2 : Pos} (ho : DOd X b o) (hN : X.N[i]? = some x := by rfl) (hv : Vis X.env.scope x := by first | exact Or.inl rfl | exact Or.inr (Or.inl rfl) | exact Or.inr (Or.inr rfl)) (hd : (x == ("__debug__" : Str)) = false := by decide +kernel)
    (hcd : (x == ("__classdict__" : Str)) = false := by decide +kernel)
    (ha : ∀ v, assign (.Subscript (.Name x p2) b pos) X.env v = (do
      let ov ← holding [v] (eval (.Name x p2) X.env)
      let iv ← holding [v, ov] (eval b X.env)
      standAt pos
      holding [v, ov, iv] (setItem ov iv v)
      release [v, ov, iv] []) := by intro _; rfl) : DG X (.Subscript (.Name x p2) b pos) (gIx i o) := (pg_sub (pe_var hN hv hd hcd) ho (set_all hu) ha).weak fun v σ H Q h => by
  obtain ⟨ρ, F, d, ρ', s, r, e, k⟩ := h
  obtain ⟨c0, e0, e⟩ := bind_some e
  obtain ⟨⟨y, ρ1⟩, e1, e⟩ := bind_some e
  obtain ⟨kk, e2, e⟩ := bind_some e
  obtain ⟨c, e3, e⟩ := bind_some e
  obtain ⟨c', e4, e5⟩ := bind_some e
  obtain ⟨p, ep, _⟩ := s.lookO e0
  refine ⟨_, ep, ρ, F, y, ρ1, s, e1, fun v2 F1 H1 s1 r1 => ?_⟩
  obtain ⟨p', ep', hF, u, hu, tp⟩ := s1.ok.lookO e3
  rw [ep] at ep'
  cases ep'
  exact sh_set s1.ok.sub hF hu tp (r1.rep s1.ok e2) (r.mono s1.gr.ext) e4 _ fun H' g sb ow => k σ F1 H' (s1.trans (s1.ok.write e3 ep g sb ow e5))
/-- name[key] += e, of ints, the name a dict of ours -/
def cAugIx (i : Nat) (o : ODen) (g : Int → Int → Int) (f : Den) : SDen := fun ρ => (lookO ρ i).bind fun c0 => (o ρ).bind fun y => (res y.2 y.1).bind fun k => (lookO y.2 i).bind fun c => match c with
  | .dict es => if fitK es k = true ∧ es.length < sizeLine then (dget es k).bind fun v => (asI v).bind fun m => (f y.2).bind fun x => (asI x.1).bind fun n => (lookO x.2 i).bind fun c2 => match c2 with
    | .dict es2 => if fitK es2 k = true ∧ es2.length < sizeLine ∧ (dget es2 k).isSome = true then (setC x.2 i (.dict (dput es2 k (.int (g m n))))).bind fun ρ' => some (.nx ρ') else none
    | _ => none else none
  | _ => none
theorem ds_augIx (hu : X.A.units + 1 < cLine) (i : Nat) {x s0 : Str} {j : Nat} {p2 p3 : Pos} {g : Int → Int → Int} {q : Operator} (hr : InOp X q (fun x y H Q => ∃ i j, x = .int i ∧ y = .int j ∧ Q (.int (g i j)) H)) (he : DE X e f) (hN : X.N[i]? = some x := by rfl) (hv : Vis X.env.scope x := by first | exact Or.inl rfl | exact Or.inr (Or.inl rfl) | exact Or.inr (Or.inr rfl)) (hd : (x == ("__debug__" : Str)) = false := by decide +kernel)
    (hcd : (x == ("__classdict__" : Str)) = false := by decide +kernel)
    (ha : ∀ ov iv new, augStore (.Constant (.str s0) j p3) ov iv new = (do holding [new, ov, iv] (setItem ov iv new); release [new, ov, iv] []; pure .next) := by intro _ _ _; rfl) :
    DS X (.AugAssign (.Subscript (.Name x p2) (.Constant (.str s0) j p3) tpos) q e pos) (cAugIx i (oE (cC (.str s0))) g f) := (ps_daug hu (pe_var hN hv hd hcd) pe_str he hr ha).weak fun E σ H h => by
  obtain ⟨ρ, F, r, s, e, w⟩ := h
  obtain ⟨c0, e0, e⟩ := bind_some e
  obtain ⟨⟨y, ρ1⟩, e1, e⟩ := bind_some e
  cases e1
  obtain ⟨kk, e2, e⟩ := bind_some e
  cases e2
  obtain ⟨c, e3, e⟩ := bind_some e
  split at e
  · rename_i es
    split at e
    · rename_i hh
      obtain ⟨v, ev, e⟩ := bind_some e
      obtain ⟨m, em, e⟩ := bind_some e
      obtain ⟨⟨x1, ρ2⟩, e4, e⟩ := bind_some e
      obtain ⟨n, en, e⟩ := bind_some e
      obtain ⟨c2, e5, e⟩ := bind_some e
      obtain rfl := asI_some em
      obtain rfl : x1 = .int n := asI_some en
      obtain ⟨p, ep, hF, u, hu, tp⟩ := s.lookO e3
      have rh : RepH X.K F H (.ref p) (.dict es) := .inr ⟨p, u, rfl, hu, tp⟩
      obtain ⟨a, o, ea, g1, q1⟩ := rh.dgetE s.sub (y := .str s0) (.inl (.str s0)) hh.1
      cases ea
      rcases q1 with ⟨z, _⟩ | ⟨d1, v1, z1, rfl, rv⟩
      · rw [z] at ev
        cases ev
      · rw [z1] at ev
        cases ev
        cases rv
        have g2 : DGet H p (.str s0) (some (.int m)) := by
          rcases g1 with g1 | ⟨z, _⟩
          · exact g1
          · cases z
        refine ⟨_, ep, p, .int m, rfl, g2, ρ, F, _, ρ2, s, e4, fun v2 F1 H1 s1 r1 => ?_⟩
        cases r1
        refine ⟨m, n, rfl, rfl, ?_⟩
        split at e
        · rename_i es2
          split at e
          · rename_i hh2
            obtain ⟨ρ3, e6, e⟩ := bind_some e
            cases e
            obtain ⟨p', ep', hF1, u1, hu1, tp1⟩ := s1.ok.lookO e5
            rw [ep] at ep'
            cases ep'
            have key : ∀ {kvs : List (Key × V)}, Top X.K F1 u1 (.dict es2) → u1 = .dK kvs → ∃ H5, DPut H1 p (.str s0) (.int (g m n)) H5 ∧ E.nx σ H5 := fun {kvs} t eu => by
              subst eu
              cases t with
              | dK rx =>
                exact ⟨_, .inl ⟨kvs, .inr s0, hu1, rfl, by rw [rx.length]; exact hh2.2.1, rfl⟩, w.nx _ σ F1 _ rfl (s1.trans (s1.ok.write e5 ep (.upd hu1) (s1.ok.sub.upd hF1) ⟨hF1, _, upd_same, .dK (rx.put (k := .inr s0) (.int _))⟩ e6))⟩
            cases tp1 with
            | dK rx => exact key (.dK rx) rfl
            | dT rx =>
              cases rx with
              | nil => exact absurd hh2.2.2 (by simp [DL.dget])
              | cons _ _ => exact absurd (List.all_eq_true.mp hh2.1 _ List.mem_cons_self) (by simp [isKey])
          · cases e
        · cases e
    · cases e
  · cases e
end
end DL

set_option maxHeartbeats 4000000
/-! DL11: what loops walk; for, while. -/
namespace DL
open PySem L2 PyProof.Rows
abbrev IDen := Env → Option (List D × Env)
/-- J yields what represents ds, one by one; L: what must stand as it is -/
structure WalkD (K : PySem.W.Frag) (L : Addr → HO → Prop) (J : It) (F : Hp) (ds : List D) : Prop where
  go : ∀ (i : Nat) (d : D) (F' H : Hp), Ext F F' → Sub F' H → (∀ a o, L a o → H a = some o) → ds[i]? = some d → J.go i H ∧ ∀ x H', J.yld i H x H' → ∃ F'', Px F' H F'' H' ∧ Rep K F'' x d
  stop : ∀ (i : Nat) (F' H : Hp), Ext F F' → Sub F' H → (∀ a o, L a o → H a = some o) → ds.length ≤ i → J.stop i H
def tID (K : PySem.W.Frag) (s : IDen) : TI := fun σ H R => ∃ ρ F ds ρ', SOk K F ρ σ H ∧ s ρ = some (ds, ρ') ∧ ∀ J F' H' L, Stp K ρ σ F H ρ' σ F' H' → WalkD K L J F' ds → (∀ a o, L a o → H' a = some o ∧ ¬ Ow ρ' σ a ∧ ∀ xs, o ≠ .lst xs) → R J H'
def DI (X : Cx) (tg iter : Expr) (s : IDen) : Prop := PI X tg iter (tID X.K s)
theorem _root_.L2.PI.weak {X : Cx} {tg e : Expr} {t t' : TI} (h : PI X tg e t) (w : ∀ σ H R, t' σ H R → t σ H R) : PI X tg e t' := ⟨fun pins s σ H R I q => h.run pins s σ H R I (w _ _ _ q)⟩
def noL : Addr → HO → Prop := fun _ _ => False
section
variable {K : PySem.W.Frag} {F : Hp}
theorem walk_list {a : Addr} {xs : List V} {ds : List D} (h : LsF K F a xs) (r : Reps K F xs ds) : WalkD K noL (Itl K a) F ds := by
  refine ⟨fun i d F' H e sb _ hd => ?_, fun i F' H e sb _ hi => ⟨xs, (h.mono e).sq sb, by rw [r.length]; exact hi⟩⟩
  obtain ⟨v, ev, rv⟩ := r.get hd
  exact ⟨⟨xs, v, (h.mono e).sq sb, ev⟩, fun x H' ⟨e1, e2⟩ => by
    subst e1
    have := e2 xs ((h.mono e).sq sb)
    rw [ev] at this
    cases this
    exact ⟨F', .refl sb, rv.mono e⟩⟩
theorem walk_tup {a : Addr} {xs : List V} {ds : List D} (h : TpF F a xs) (r : Reps K F xs ds) : WalkD K noL (Itt K a) F ds := by
  refine ⟨fun i d F' H e sb _ hd => ?_, fun i F' H e sb _ hi => ⟨xs, (h.mono e).sq sb, by rw [r.length]; exact hi⟩⟩
  obtain ⟨v, ev, rv⟩ := r.get hd
  exact ⟨⟨xs, v, (h.mono e).sq sb, ev⟩, fun x H' ⟨e1, e2⟩ => by
    subst e1
    have := e2 xs ((h.mono e).sq sb)
    rw [ev] at this
    cases this
    exact ⟨F', .refl sb, rv.mono e⟩⟩
def rngD (lo : Int) (n : Nat) : List D := (List.range n).map fun (i : Nat) => .int (lo + (i : Int))
theorem rngD_get {lo : Int} {n i : Nat} {d : D} (h : (rngD lo n)[i]? = some d) : i < n ∧ d = .int (lo + i) := by
  unfold rngD at h
  rw [List.getElem?_map] at h
  by_cases hi : i < n
  · rw [List.getElem?_range hi] at h
    cases h
    exact ⟨hi, rfl⟩
  · rw [List.getElem?_eq_none (by simpa using Nat.le_of_not_lt hi)] at h
    cases h
theorem rngD_len (lo : Int) (n : Nat) : (rngD lo n).length = n := by simp [rngD]
theorem walk_rng {lo : Int} {n : Nat} : WalkD K noL (Itr lo n) F (rngD lo n) := by
  refine ⟨fun i d F' H e sb _ hd => ?_, fun i F' H e sb _ hi => by rw [rngD_len] at hi; exact hi⟩
  obtain ⟨hi, rfl⟩ := rngD_get hd
  exact ⟨hi, fun x H' ⟨e1, e2⟩ => by
    subst e1 e2
    exact ⟨F', .refl sb, .int _⟩⟩
def rngC (lo c : Int) (n : Nat) : List D := (List.range n).map fun (i : Nat) => .int (lo + (i : Int) * c)
theorem walk_rngC {lo c : Int} {n : Nat} : WalkD K noL (Itc lo c n) F (rngC lo c n) := by
  refine ⟨fun i d F' H e sb _ hd => ?_, fun i F' H e sb _ hi => show n ≤ i by simpa [rngC] using hi⟩
  unfold rngC at hd
  rw [List.getElem?_map] at hd
  by_cases hi : i < n
  · rw [List.getElem?_range hi] at hd
    cases hd
    exact ⟨hi, fun x H' ⟨e1, e2⟩ => by
      subst e1 e2
      exact ⟨F', .refl sb, .int _⟩⟩
  · rw [List.getElem?_eq_none (by simpa using Nat.le_of_not_lt hi)] at hd
    cases hd
def sgD (z : Str) : List D := z.cps.toList.map fun c => .str ⟨#[c]⟩
theorem walk_str {z : Str} : WalkD K noL (Its z) F (sgD z) := by
  refine ⟨fun i d F' H e sb _ hd => ?_, fun i F' H e sb _ hi => show z.cps.size ≤ i by simpa [sgD] using hi⟩
  unfold sgD at hd
  rw [List.getElem?_map, Array.getElem?_toList] at hd
  cases q : z.cps[i]? with
  | none => rw [q] at hd; cases hd
  | some c =>
    rw [q] at hd
    cases hd
    refine ⟨(Array.getElem?_eq_some_iff.mp q).1, fun x H' ⟨e1, c', e2, e3⟩ => ?_⟩
    subst e1 e3
    rw [q] at e2
    cases e2
    exact ⟨F', .refl sb, .str _⟩
/-- zip of two lists -/
def zipD : List D → List D → List D := List.zipWith fun a b => .tuple [a, b]
theorem walk_zip {a b : Addr} {xs ys : List V} {ds es : List D} (h : LsF K F a xs) (r : Reps K F xs ds) (h2 : LsF K F b ys) (r2 : Reps K F ys es) : WalkD K noL (Itz K a b) F (zipD ds es) := by
  refine ⟨fun i d F' H e sb _ hd => ?_, fun i F' H e sb _ hi => ⟨xs, ys, (h.mono e).sq sb, (h2.mono e).sq sb, ?_⟩⟩
  · unfold zipD at hd
    rw [List.getElem?_zipWith] at hd
    cases q1 : ds[i]? with
    | none => rw [q1] at hd; cases hd
    | some d1 =>
      cases q2 : es[i]? with
      | none => rw [q1, q2] at hd; cases hd
      | some d2 =>
        rw [q1, q2] at hd
        cases hd
        obtain ⟨v, ev, rv⟩ := r.get q1
        obtain ⟨v2, ev2, rv2⟩ := r2.get q2
        refine ⟨⟨xs, ys, v, v2, (h.mono e).sq sb, (h2.mono e).sq sb, ev, ev2⟩, fun x H' ⟨T, x1, y1, ex, hT, eH, f1, f2⟩ => ?_⟩
        have e1 := f1 xs ((h.mono e).sq sb)
        have e2 := f2 ys ((h2.mono e).sq sb)
        rw [ev] at e1
        rw [ev2] at e2
        cases e1
        cases e2
        subst ex eH
        have px := Px.laid (o := .tup [v, v2]) sb hT
        exact ⟨_, px, .tup upd_same (.cons ((rv.mono e).mono px.ext) (.one ((rv2.mono e).mono px.ext)))⟩
  · unfold zipD at hi
    rw [List.length_zipWith] at hi
    rw [r.length, r2.length]
    omega
end
/-- list, tuple, text, as it comes -/
def iSeq (K : PySem.W.Frag) (tl : TE) : TI := fun σ H R => tl σ H fun x H1 => (∃ a, x = .ref a ∧ (∃ xs, SqL K H1 a xs) ∧ R (Itl K a) H1) ∨ (∃ a, x = .ref a ∧ (∃ xs, SqT K H1 a xs) ∧ R (Itt K a) H1) ∨ ∃ z, x = .str z ∧ R (Its z) H1
section
variable {X : Cx} {tg l : Expr} {tl : TE}
theorem pi_seq (hl : PE X l tl) : PI X tg l (iSeq X.K tl) := by
  refine ⟨fun pins s σ H R I h => ?_⟩
  refine thn (hl.run pins s σ H _ I h) fun v s1 ⟨x, H1, I1, r1, q1⟩ => ?_
  rcases q1 with ⟨a, e, ⟨xs, hq⟩, q⟩ | ⟨a, e, ⟨xs, hq⟩, q⟩ | ⟨z, ex, q⟩
  · subst e
    cases r1
    obtain ⟨its, rv, p, hz⟩ := I1.list hq
    refine wpAny_pyIter_list p.isList ?_
    refine ⟨s1.heap.objs.size, [s1.heap.objs.size], _, _, H1, rfl, I1.kept (t' := s1.toks) fun b o e => Heap.get?_push_of_some _ e, turn_list a _, ⟨_, Heap.get?_push_size _ rfl, rfl, rfl⟩, fun b hb => ?_, q⟩
    have e : b = s1.heap.objs.size := by simpa using hb
    subst e
    exact I1.fpOk (Nat.le_refl _) (I1.hok.fresh (Nat.le_refl _))
  · subst e
    cases r1
    obtain ⟨its, rv, p, hz⟩ := I1.tuple hq
    refine wpAny_pyIter_tuple (show s1.heap.IsTuple a its.toArray from p) ?_
    refine ⟨s1.heap.objs.size, [s1.heap.objs.size], _, _, H1, rfl, I1.kept (t' := s1.toks) fun b o e => Heap.get?_push_of_some _ e, turn_tuple a _, ⟨_, Heap.get?_push_size _ rfl, rfl, rfl⟩, fun b hb => ?_, q⟩
    have e : b = s1.heap.objs.size := by simpa using hb
    subst e
    exact I1.fpOk (Nat.le_refl _) (I1.hok.fresh (Nat.le_refl _))
  · subst ex
    obtain ⟨t, rfl⟩ := r1
    cases ha : z.cps.all (· < 128)
    · exact wpAny_pyIter_wide ha (pi_one (tk := s1.toks) I1 _ (turn_str _ z t "str_iterator" (.inr rfl)) ⟨_, Heap.get?_push_size _ rfl, rfl, rfl⟩ q)
    · exact wpAny_pyIter_ascii ha (pi_one (tk := s1.toks) I1 _ (turn_str _ z t "str_ascii_iterator" (.inl rfl)) ⟨_, Heap.get?_push_size _ rfl, rfl, rfl⟩ q)
/-- the items of a value -/
@[simp] def itD : D → Option (List D)
  | .list ds => some ds
  | .tuple ds => some ds
  | .str z => some (sgD z)
  | _ => none
def iE (f : Den) : IDen := fun ρ => (f ρ).bind fun x => (itD x.1).bind fun ds => some (ds, x.2)
theorem di_e {f : Den} (h : DE X l f) : DI X tg l (iE f) := (pi_seq h).weak fun σ H R h => by
  obtain ⟨ρ, F, ds, ρ', s, e, k⟩ := h
  obtain ⟨⟨x, ρ1⟩, e1, e⟩ := bind_some e
  obtain ⟨y, e2, e⟩ := bind_some e
  cases e
  refine ⟨ρ, F, x, _, s, e1, fun v F1 H1 s1 r1 => ?_⟩
  have e2 : itD x = some ds := e2
  unfold itD at e2
  split at e2
  · cases e2
    cases r1 with
    | lst h r => exact .inl ⟨_, rfl, ⟨_, h.sq s1.ok.sub⟩, k _ F1 H1 noL s1 (walk_list h r) fun _ _ z => z.elim⟩
  · cases e2
    cases r1 with
    | tup h r => exact .inr (.inl ⟨_, rfl, ⟨_, h.sq s1.ok.sub⟩, k _ F1 H1 noL s1 (walk_tup h r) fun _ _ z => z.elim⟩)
  · cases e2
    cases r1
    exact .inr (.inr ⟨_, rfl, k _ F1 H1 noL s1 walk_str fun _ _ z => z.elim⟩)
  · cases e2
def bdI (i : Int) : Bool := decide (-(2 ^ 62) ≤ i) && decide (i < 2 ^ 62)
theorem bdI_ok {i : Int} (h : bdI i = true) : -(2 ^ 62) ≤ i ∧ i < 2 ^ 62 := by
  unfold bdI at h
  simpa using h
@[simp] def rg1 : List D → Option (List D)
  | [.int j] => if bdI j = true then some (rngD 0 j.toNat) else none
  | _ => none
@[simp] def rg2 : List D → Option (List D)
  | [.int i, .int j] => if bdI i = true ∧ bdI j = true then some (rngD i (j - i).toNat) else none
  | _ => none
/-- range(i, j, -1) -/
@[simp] def rg3 : List D → Option (List D)
  | [.int i, .int j, .int c] => if bdI i = true ∧ bdI j = true ∧ c = -1 then some (rngC i (-1) (i - j).toNat) else none
  | _ => none
def iA (op : List D → Option (List D)) (f : ADen) : IDen := fun ρ => (f ρ).bind fun x => (op x.1).bind fun ds => some (ds, x.2)
variable {a b c : Expr} {fs : ADen} {p pos : Pos}
theorem di_r1 (hg : Gl X "range") (hm : X.mg "range" = none) (ha : DA X [a] fs) (hs : starEach [a] X.env = [(false, eval a X.env)] := by rfl) : DI X tg (.Call (.Name "range" p) [a] [] pos) (iA rg1 fs) := (pi_range1 hg hm ha hs).weak fun σ H R h => by
  obtain ⟨ρ, F, ds, ρ', s, e, k⟩ := h
  obtain ⟨⟨x, ρ1⟩, e1, e⟩ := bind_some e
  obtain ⟨y, e2, e⟩ := bind_some e
  cases e
  refine ⟨ρ, F, x, _, s, e1, fun vs F1 H1 s1 r1 => ?_⟩
  have e2 : rg1 x = some ds := e2
  unfold rg1 at e2
  split at e2
  · split at e2
    · rename_i hb
      cases e2
      cases r1 with
      | cons r rr =>
        cases rr
        cases r
        obtain ⟨h1, h2⟩ := bdI_ok hb
        exact ⟨_, rfl, h1, h2, k _ F1 H1 noL s1 walk_rng fun _ _ z => z.elim⟩
    · cases e2
  · cases e2
theorem di_r2 (hg : Gl X "range") (hm : X.mg "range" = none) (ha : DA X [a, b] fs) (hs : starEach [a, b] X.env = [(false, eval a X.env), (false, eval b X.env)] := by rfl) (hs2 : starEach [b] X.env = [(false, eval b X.env)] := by rfl) :
    DI X tg (.Call (.Name "range" p) [a, b] [] pos) (iA rg2 fs) := (pi_range2 hg hm ha hs hs2).weak fun σ H R h => by
  obtain ⟨ρ, F, ds, ρ', s, e, k⟩ := h
  obtain ⟨⟨x, ρ1⟩, e1, e⟩ := bind_some e
  obtain ⟨y, e2, e⟩ := bind_some e
  cases e
  refine ⟨ρ, F, x, _, s, e1, fun vs F1 H1 s1 r1 => ?_⟩
  have e2 : rg2 x = some ds := e2
  unfold rg2 at e2
  split at e2
  · split at e2
    · rename_i hb
      cases e2
      cases r1 with
      | cons r rr =>
        cases rr with
        | cons r' rr =>
          cases rr
          cases r
          cases r'
          obtain ⟨h1, h2⟩ := bdI_ok hb.1
          obtain ⟨h3, h4⟩ := bdI_ok hb.2
          exact ⟨_, _, rfl, ⟨h1, h2, h3, h4⟩, k _ F1 H1 noL s1 walk_rng fun _ _ z => z.elim⟩
    · cases e2
  · cases e2
theorem di_r3 (hg : Gl X "range") (hm : X.mg "range" = none) (ha : DA X [a, b, c] fs) (hs : starEach [a, b, c] X.env = (false, eval a X.env) :: starEach [b, c] X.env := by rfl) (hpl : (backTo pos (starEach [b, c] X.env)).any (·.1) = false := by rfl) :
    DI X tg (.Call (.Name "range" p) [a, b, c] [] pos) (iA rg3 fs) := (pi_range3 hg hm ha hs hpl).weak fun σ H R h => by
  obtain ⟨ρ, F, ds, ρ', s, e, k⟩ := h
  obtain ⟨⟨x, ρ1⟩, e1, e⟩ := bind_some e
  obtain ⟨y, e2, e⟩ := bind_some e
  cases e
  refine ⟨ρ, F, x, _, s, e1, fun vs F1 H1 s1 r1 => ?_⟩
  have e2 : rg3 x = some ds := e2
  unfold rg3 at e2
  split at e2
  · split at e2
    · rename_i hb
      obtain ⟨hb1, hb2, hc⟩ := hb
      cases e2
      cases r1 with
      | cons r rr =>
        cases rr with
        | cons r' rr =>
          cases rr with
          | cons r'' rr =>
            cases rr
            cases r
            cases r'
            cases r''
            obtain ⟨h1, h2⟩ := bdI_ok hb1
            obtain ⟨h3, h4⟩ := bdI_ok hb2
            subst hc
            exact ⟨_, _, -1, _, rfl, .neg h1 h2 h3 h4, k _ F1 H1 noL s1 walk_rngC fun _ _ z => z.elim⟩
    · cases e2
  · cases e2
@[simp] def zp2 : List D → Option (List D)
  | [.list xs, .list ys] => some (zipD xs ys)
  | _ => none
theorem di_zip {elts : List Expr} {kk : Nat} {tpos : Pos} (hg : Gl X "zip") (hm : X.mg "zip" = none) (ha : DA X [a, b] fs) (hs : starEach [a, b] X.env = (false, eval a X.env) :: starEach [b] X.env := by rfl) (hpl : (backTo pos (starEach [b] X.env)).any (·.1) = false := by rfl) :
    DI X (.Tuple elts kk tpos) (.Call (.Name "zip" p) [a, b] [] pos) (iA zp2 fs) := (pi_zip hg hm ha hs hpl).weak fun σ H R h => by
  obtain ⟨ρ, F, ds, ρ', s, e, k⟩ := h
  obtain ⟨⟨x, ρ1⟩, e1, e⟩ := bind_some e
  obtain ⟨y, e2, e⟩ := bind_some e
  cases e
  refine ⟨ρ, F, x, _, s, e1, fun vs F1 H1 s1 r1 => ?_⟩
  have e2 : zp2 x = some ds := e2
  unfold zp2 at e2
  split at e2
  · cases e2
    cases r1 with
    | cons r rr =>
      cases rr with
      | cons r' rr =>
        cases rr
        cases r with
        | lst h q =>
          cases r' with
          | lst h' q' => exact ⟨_, _, _, _, rfl, h.sq s1.ok.sub, h'.sq s1.ok.sub, k _ F1 H1 noL s1 (walk_zip h q h' q') fun _ _ z => z.elim⟩
  · cases e2
end

/-! ### for, while -/
def forB (g : GDen) (b : SDen) : List D → SDen
  | [], ρ => some (.nx ρ)
  | d :: ds, ρ => (g d ρ).bind fun ρ1 => (b ρ1).bind fun r => match r with
    | .nx ρ2 => forB g b ds ρ2
    | .ct ρ2 => forB g b ds ρ2
    | .bk ρ2 => some (.nx ρ2)
    | .rt v ρ2 => some (.rt v ρ2)
def cFor (s : IDen) (g : GDen) (b : SDen) : SDen := fun ρ => (s ρ).bind fun x => forB g b x.1 x.2
def whileN (c : TDen) (b : SDen) : Nat → SDen
  | 0, _ => none
  | n + 1, ρ => (c ρ).bind fun x => match x.1 with
    | false => some (.nx x.2)
    | true => (b x.2).bind fun r => match r with
      | .nx ρ2 => whileN c b n ρ2
      | .ct ρ2 => whileN c b n ρ2
      | .bk ρ2 => some (.nx ρ2)
      | .rt v ρ2 => some (.rt v ρ2)
section
variable {X : Cx} {tg iter c : Expr} {body : List Stmt} {s : IDen} {g : GDen} {b : SDen} {t : TDen} {pos : Pos}
theorem ds_for (hp : PassesOwn (model X.prog X.w) X.A X.env X.xe) (hc : X.calm = true) (hi : DI X tg iter s) (hg : DG X tg g) (hb : DSs X body b) (hs : ∀ x, foldedSetIterable iter X.env x = pure x := by intro _; rfl) : DS X (.For tg iter body [] pos) (cFor s g b) :=
  (ps_for hp hc hi hg hb hs).weak fun E σ H h => by
    obtain ⟨ρ, F, r, s0, e, w⟩ := h
    obtain ⟨⟨ds, ρ1⟩, e1, e⟩ := bind_some e
    refine ⟨ρ, F, ds, ρ1, s0, e1, fun J F1 H1 L st wk hL => ?_⟩
    refine ⟨fun i m σ' H' => ∃ ρ' F', m = ds.length - i ∧ i ≤ ds.length ∧ Stp X.K ρ1 σ F1 H1 ρ' σ' F' H' ∧ forB g b (ds.drop i) ρ' = some r, ⟨ds.length, ρ1, F1, by simp, Nat.zero_le _, .refl st.ok, by simpa using e⟩, ?_⟩
    rintro i m σ' H' ⟨ρ', F', rfl, hi, st', e'⟩
    have lk : ∀ a o, L a o → H' a = some o := fun a o z => st'.gr.same a o (hL a o z).1 (hL a o z).2.1
    by_cases hlt : i < ds.length
    · right
      have ed : ds.drop i = ds[i] :: ds.drop (i + 1) := List.drop_eq_getElem_cons hlt
      rw [ed] at e'
      obtain ⟨ρ2, e2, e'⟩ := bind_some e'
      obtain ⟨r2, e3, e'⟩ := bind_some e'
      obtain ⟨g1, g2⟩ := wk.go i ds[i] F' H' st'.gr.ext st'.ok.sub lk (by simp)
      refine ⟨g1, fun σ3 H3 => ∃ ρ3 F3, Stp X.K ρ1 σ F1 H1 ρ3 σ3 F3 H3 ∧ forB g b (ds.drop (i + 1)) ρ3 = some r, fun σ3 H3 ⟨ρ3, F3, s3, e3⟩ => ⟨ds.length - (i + 1), by omega, ρ3, F3, rfl, hlt, s3, e3⟩, fun x H2 y => ?_⟩
      obtain ⟨F2, px, rx⟩ := g2 x H2 y
      have st2 := st'.thenPx px
      refine ⟨ρ', F2, _, ρ2, st2.ok, rx, e2, fun σ3 F3 H3 s3 => ⟨ρ2, F3, r2, s3.ok, e3, ?_⟩⟩
      have st3 := st2.trans s3
      refine ⟨fun ρ4 σ4 F4 H4 er st4 => ?_, fun ρ4 σ4 F4 H4 er st4 => ?_, fun ρ4 σ4 F4 H4 er st4 => ?_, fun d v ρ4 σ4 F4 H4 er st4 rv => ?_⟩
      · subst er
        exact ⟨ρ4, F4, st3.trans st4, e'⟩
      · subst er
        cases e'
        exact w.nx ρ4 σ4 F4 H4 rfl (st.trans (st3.trans st4))
      · subst er
        exact ⟨ρ4, F4, st3.trans st4, e'⟩
      · subst er
        cases e'
        exact w.rt d v ρ4 σ4 F4 H4 rfl (st.trans (st3.trans st4)) rv
    · left
      have hlen : ds.length ≤ i := Nat.le_of_not_lt hlt
      rw [List.drop_eq_nil_of_le hlen] at e'
      cases e'
      exact ⟨wk.stop i F' H' st'.gr.ext st'.ok.sub lk hlen, w.nx ρ' σ' F' H' rfl (st.trans st')⟩
theorem ds_while (n : Nat) (hp : PassesOwn (model X.prog X.w) X.A X.env X.xe) (hc : DT X c t) (hb : DSs X body b) : DS X (.While c body [] pos) (whileN t b n) :=
  (ps_while hp hc hb).weak fun E σ H h => by
    obtain ⟨ρ, F, r, s0, e, w⟩ := h
    refine ⟨fun m σ' H' => ∃ ρ' F', Stp X.K ρ σ F H ρ' σ' F' H' ∧ whileN t b m ρ' = some r, ⟨n, ρ, F, .refl s0, e⟩, ?_⟩
    rintro m σ' H' ⟨ρ', F', st, e'⟩
    cases m with
    | zero => cases e'
    | succ m =>
      obtain ⟨⟨k, ρ1⟩, e1, e'⟩ := bind_some e'
      refine ⟨ρ', F', k, ρ1, st.ok, e1, fun F1 H1 s1 => ?_⟩
      have st1 := st.trans s1
      cases k with
      | false =>
        cases e'
        exact iteF (w.nx ρ1 σ' F1 H1 rfl st1)
      | true =>
        obtain ⟨r2, e2, e'⟩ := bind_some (show (b ρ1).bind _ = some r from e')
        refine iteT ⟨fun σ3 H3 => ∃ ρ3 F3, Stp X.K ρ σ F H ρ3 σ3 F3 H3 ∧ whileN t b m ρ3 = some r, fun σ3 H3 q => ⟨m, Nat.lt_succ_self _, q⟩, ρ1, F1, r2, s1.ok, e2, ?_⟩
        refine ⟨fun ρ4 σ4 F4 H4 er st4 => ?_, fun ρ4 σ4 F4 H4 er st4 => ?_, fun ρ4 σ4 F4 H4 er st4 => ?_, fun d v ρ4 σ4 F4 H4 er st4 rv => ?_⟩
        · subst er
          exact ⟨ρ4, F4, st1.trans st4, e'⟩
        · subst er
          cases e'
          exact w.nx ρ4 σ4 F4 H4 rfl (st1.trans st4)
        · subst er
          exact ⟨ρ4, F4, st1.trans st4, e'⟩
        · subst er
          cases e'
          exact w.rt d v ρ4 σ4 F4 H4 rfl (st1.trans st4) rv
end
end DL

set_option maxHeartbeats 4000000
/-! DL12: list comprehensions. -/
namespace DL
open PySem L2 PyProof.Rows
def wipeE (ρ : Env) : List Nat → Env
  | [] => ρ
  | v :: vs => (wipeE ρ vs).set v .un
def plainS : Option Sl → Bool
  | some .un => true
  | some (.sh _) => true
  | _ => false
def plainE (ρ : Env) (vs : List Nat) : Bool := vs.all fun v => plainS ρ[v]?
def noIo (ρ : Env) (vs : List Nat) : Bool := vs.all fun v => !isIo ρ[v]?
def backE (ρ0 ρ : Env) : List Nat → Env
  | [] => ρ
  | v :: vs => match ρ0[v]? with
    | some s => (backE ρ0 ρ vs).set v s
    | none => backE ρ0 ρ vs
section
variable {K : PySem.W.Frag} {F F' H H' : Hp} {ρ ρ' ρ0 : Env} {σ σ' : L2.St} {vs : List Nat}
theorem wipeE_len (ρ : Env) : ∀ vs : List Nat, (wipeE ρ vs).length = ρ.length
  | [] => rfl
  | v :: vs => by unfold wipeE; rw [List.length_set, wipeE_len ρ vs]
theorem wipeE_out {i : Nat} : ∀ {vs : List Nat}, i ∉ vs → (wipeE ρ vs)[i]? = ρ[i]?
  | [], _ => rfl
  | v :: vs, h => by
    have h1 : v ≠ i := fun e => h (by rw [e]; exact List.mem_cons_self)
    have h2 : i ∉ vs := fun m => h (List.mem_cons_of_mem _ m)
    unfold wipeE
    rw [List.getElem?_set_ne h1]
    exact wipeE_out h2
theorem wipeE_in {i : Nat} : ∀ {vs : List Nat}, i ∈ vs → (wipeE ρ vs)[i]? = some .un ∨ (wipeE ρ vs)[i]? = none
  | v :: vs, h => by
    unfold wipeE
    by_cases e : v = i
    · subst e
      by_cases hl : v < (wipeE ρ vs).length
      · left
        rw [List.getElem?_set_self hl]
      · right
        rw [List.getElem?_eq_none (by rw [List.length_set]; exact Nat.le_of_not_lt hl)]
    · rw [List.getElem?_set_ne e]
      exact wipeE_in ((List.mem_cons.mp h).resolve_left (fun z => e z.symm))
theorem wipeE_some {i : Nat} {x : Sl} (h : (wipeE ρ vs)[i]? = some x) (hx : x ≠ .un) : ρ[i]? = some x ∧ i ∉ vs := by
  by_cases hi : i ∈ vs
  · rcases wipeE_in (ρ := ρ) hi with e | e
    · rw [e] at h
      cases h
      exact absurd rfl hx
    · rw [e] at h
      cases h
  · rw [wipeE_out hi] at h
    exact ⟨h, hi⟩
theorem backE_out {i : Nat} : ∀ {vs : List Nat}, i ∉ vs → (backE ρ0 ρ vs)[i]? = ρ[i]?
  | [], _ => rfl
  | v :: vs, h => by
    have h1 : v ≠ i := fun e => h (by rw [e]; exact List.mem_cons_self)
    have h2 : i ∉ vs := fun m => h (List.mem_cons_of_mem _ m)
    unfold backE
    split
    · rw [List.getElem?_set_ne h1]
      exact backE_out h2
    · exact backE_out h2
theorem backE_len : ∀ {vs : List Nat}, (backE ρ0 ρ vs).length = ρ.length
  | [] => rfl
  | v :: vs => by
    unfold backE
    split
    · rw [List.length_set, backE_len]
    · exact backE_len
theorem backE_in {i : Nat} (hl : ρ0.length = ρ.length) : ∀ {vs : List Nat}, i ∈ vs → (backE ρ0 ρ vs)[i]? = ρ0[i]?
  | v :: vs, h => by
    unfold backE
    by_cases e : v = i
    · subst e
      split
      · rename_i s hs
        rw [List.getElem?_set_self (by rw [backE_len, ← hl]; exact (List.getElem?_eq_some_iff.mp hs).1), hs]
      · rename_i hs
        rw [hs]
        exact List.getElem?_eq_none (by rw [backE_len, ← hl]; exact List.getElem?_eq_none_iff.mp hs)
    · have ih := backE_in hl ((List.mem_cons.mp h).resolve_left (fun z => e z.symm))
      split
      · rw [List.getElem?_set_ne e]
        exact ih
      · exact ih
theorem wipe_same (hl : σ'.length = σ.length) (h : ∀ j, j ∉ vs → σ'[j]? = σ[j]?) : wipe σ' vs = wipe σ vs := by
  apply List.ext_getElem?
  intro i
  by_cases hi : i ∈ vs
  · have go : ∀ {ws : List Nat}, i ∈ ws → (wipe σ' ws)[i]? = (wipe σ ws)[i]? := by
      intro ws
      induction ws with
      | nil => intro h; cases h
      | cons v ws ih =>
        intro h
        unfold wipe
        by_cases e : v = i
        · subst e
          by_cases q : v < σ.length
          · rw [List.getElem?_set_self (by rw [wipe_length, hl]; exact q), List.getElem?_set_self (by rw [wipe_length]; exact q)]
          · rw [List.getElem?_eq_none (by rw [List.length_set, wipe_length, hl]; exact Nat.le_of_not_lt q), List.getElem?_eq_none (by rw [List.length_set, wipe_length]; exact Nat.le_of_not_lt q)]
        · rw [List.getElem?_set_ne e, List.getElem?_set_ne e]
          exact ih ((List.mem_cons.mp h).resolve_left (fun z => e z.symm))
    exact go hi
  · rw [wipe_out hi, wipe_out hi]
    exact h i hi
theorem wipe_keep {i : Nat} (hi : i ∈ vs) (x : V) : (wipe σ vs)[i]? ≠ some (some x) := fun z => (wipe_some z).2 hi
/-- names forgotten -/
theorem SOk.wipe (s : SOk K F ρ σ H) (hn : noIo ρ vs = true) : Stp K ρ σ F H (wipeE ρ vs) (L2.wipe σ vs) F H := by
  have old : ∀ i p, owns (wipeE ρ vs) (L2.wipe σ vs) i p → owns ρ σ i p := fun i p ⟨⟨d, h⟩, h2⟩ => by
    refine ⟨⟨d, ?_⟩, (wipe_some h2).1⟩
    rcases h with h | h
    · exact .inl (wipeE_some h (by intro z; cases z)).1
    · exact .inr (wipeE_some h (by intro z; cases z)).1
  refine ⟨.refl, ⟨s.sub, by rw [wipe_length, wipeE_len, s.len], fun i d h => ?_, fun i d h => ?_, fun i j p a b => s.dj i j p (old i p a) (old j p b)⟩, ⟨fun p ⟨i, h⟩ => .inl ⟨i, old i p h⟩, fun i d h => ?_⟩⟩
  · obtain ⟨h, hi⟩ := wipeE_some h (by intro z; cases z)
    obtain ⟨v, e, r⟩ := s.shr i d h
    exact ⟨v, by rw [wipe_out hi]; exact e, r⟩
  · have q : (ρ[i]? = some (.ow d) ∨ ρ[i]? = some (.io d)) ∧ i ∉ vs := by
      rcases h with h | h
      · obtain ⟨h, hi⟩ := wipeE_some h (by intro z; cases z)
        exact ⟨.inl h, hi⟩
      · obtain ⟨h, hi⟩ := wipeE_some h (by intro z; cases z)
        exact ⟨.inr h, hi⟩
    obtain ⟨p, e, o⟩ := s.own i d q.1
    exact ⟨p, by rw [wipe_out q.2]; exact e, o⟩
  · have hi : i ∉ vs := fun z => by
      have := List.all_eq_true.mp hn i z
      rw [h] at this
      cases this
    exact ⟨by rw [wipe_out hi], d, by rw [wipeE_out hi]; exact h⟩
/-- a new list that only the comprehension holds -/
structure Held (F H : Hp) (ρ : Env) (σ : L2.St) (D : Addr) (xs : List V) : Prop where
  out : F D = none
  no : ¬ Ow ρ σ D
  at_ : H D = some (.lst xs)
theorem Held.stp {D : Addr} {xs : List V} (h : Held F H ρ σ D xs) (t : Stp K ρ σ F H ρ' σ' F' H') : Held F' H' ρ' σ' D xs := by
  refine ⟨?_, fun z => ?_, t.gr.same _ _ h.at_ h.no⟩
  · cases q : F' D with
    | none => rfl
    | some u =>
      rcases t.gr.new D (by rw [q]; intro z; cases z) with z | z | z | ⟨ys, z⟩
      · exact absurd h.out z
      · rw [h.at_] at z; cases z
      · exact absurd z h.no
      · rw [h.at_] at z; cases z
  · rcases t.evo.own D z with q | q
    · exact h.no q
    · rw [h.at_] at q; cases q
/-- .. written -/
theorem Held.put {D : Addr} {xs ys : List V} {Fb Hb : Hp} {ρb : Env} {σb : L2.St} (h : Held F H ρ σ D xs) (t : Stp K ρb σb Fb Hb ρ σ F H) (hD : Hb D = none) :
    Held F (upd H D (.lst ys)) ρ σ D ys ∧ Stp K ρb σb Fb Hb ρ σ F (upd H D (.lst ys)) := by
  refine ⟨⟨h.out, h.no, upd_same⟩, ⟨⟨t.gr.ext, t.gr.new, fun a o ha hn => ?_, fun a ha => ?_⟩, ⟨t.ok.sub.upd h.out, t.ok.len, t.ok.shr, fun i d hi => ?_, t.ok.dj⟩, t.evo⟩⟩
  · rw [upd_ne (ne_of_none ha hD)]
    exact t.gr.same a o ha hn
  · by_cases e : a = D
    · subst e
      exact hD
    · rw [upd_ne e] at ha
      exact t.gr.live a ha
  · obtain ⟨p, e, hF, u, hu, tp⟩ := t.ok.own i d hi
    have hne : p ≠ D := fun z => by
      subst z
      exact h.no ⟨i, ⟨d, hi⟩, e⟩
    exact ⟨p, e, hF, u, by rw [upd_ne hne]; exact hu, tp⟩
/-- the names come back -/
theorem SOk.back {F1 H1 : Hp} {ρ1 : Env} (s : SOk K F1 ρ1 σ H1) (hp : plainE ρ1 vs = true) (t : Stp K (wipeE ρ1 vs) (L2.wipe σ vs) F1 H1 ρ (L2.wipe σ vs) F H) : Stp K ρ1 σ F1 H1 (backE ρ1 ρ vs) σ F H := by
  have hl : ρ1.length = ρ.length := by
    have h1 := t.ok.len
    rw [wipe_length] at h1
    rw [← s.len, h1]
  have pl : ∀ i ∈ vs, ∀ d, ¬ (ρ1[i]? = some (.ow d) ∨ ρ1[i]? = some (.io d)) := fun i hi d z => by
    have := List.all_eq_true.mp hp i hi
    rcases z with z | z <;> rw [z] at this <;> cases this
  have nw : ∀ p, Ow (wipeE ρ1 vs) (L2.wipe σ vs) p → Ow ρ1 σ p := fun p ⟨i, ⟨d, h⟩, h2⟩ => by
    refine ⟨i, ⟨d, ?_⟩, (wipe_some h2).1⟩
    rcases h with h | h
    · exact .inl (wipeE_some h (by intro z; cases z)).1
    · exact .inr (wipeE_some h (by intro z; cases z)).1
  have old : ∀ i p, owns (backE ρ1 ρ vs) σ i p → owns ρ (L2.wipe σ vs) i p := fun i p ⟨⟨d, h⟩, h2⟩ => by
    by_cases hi : i ∈ vs
    · rw [backE_in hl hi] at h
      exact absurd h (pl i hi d)
    · rw [backE_out hi] at h
      exact ⟨⟨d, h⟩, by rw [wipe_out hi]; exact h2⟩
  refine ⟨⟨t.gr.ext, fun a h => ?_, fun a o h hn => t.gr.same a o h fun z => hn (nw a z), t.gr.live⟩, ⟨t.ok.sub, by rw [backE_len, ← hl, s.len], fun i d h => ?_, fun i d h => ?_, fun i j p a b => t.ok.dj i j p (old i p a) (old j p b)⟩, ⟨fun p ⟨i, h⟩ => ?_, fun i d h => ?_⟩⟩
  · rcases t.gr.new a h with z | z | z | z
    · exact .inl z
    · exact .inr (.inl z)
    · exact .inr (.inr (.inl (nw a z)))
    · exact .inr (.inr (.inr z))
  · by_cases hi : i ∈ vs
    · rw [backE_in hl hi] at h
      obtain ⟨v, e, r⟩ := s.shr i d h
      exact ⟨v, e, r.mono t.gr.ext⟩
    · rw [backE_out hi] at h
      obtain ⟨v, e, r⟩ := t.ok.shr i d h
      exact ⟨v, by rw [wipe_out hi] at e; exact e, r⟩
  · by_cases hi : i ∈ vs
    · rw [backE_in hl hi] at h
      exact absurd h (pl i hi d)
    · rw [backE_out hi] at h
      obtain ⟨p, e, o⟩ := t.ok.own i d h
      exact ⟨p, by rw [wipe_out hi] at e; exact e, o⟩
  · rcases t.evo.own p ⟨i, old i p h⟩ with z | z
    · exact .inl (nw p z)
    · exact .inr z
  · have hi : i ∉ vs := fun z => pl i z d (.inr h)
    obtain ⟨_, d', h2⟩ := t.evo.io i d (by rw [wipeE_out hi]; exact h)
    exact ⟨rfl, d', by rw [backE_out hi]; exact h2⟩
end

/-! ### targets that write their own names alone -/
def tGw (K : PySem.W.Frag) (t : GDen) (vs : List Nat) : TG := fun v σ H Q => ∃ ρ F d ρ', SOk K F ρ σ H ∧ Rep K F v d ∧ t d ρ = some ρ' ∧ ∀ σ' F' H', Stp K ρ σ F H ρ' σ' F' H' → σ'.length = σ.length → (∀ j, j ∉ vs → σ'[j]? = σ[j]?) → Q σ' H'
def tGws (K : PySem.W.Frag) (t : GsDen) (vs : List Nat) : TGs := fun xs σ H Q => ∃ ρ F ds ρ', SOk K F ρ σ H ∧ Reps K F xs ds ∧ t ds ρ = some ρ' ∧ ∀ σ' F' H', Stp K ρ σ F H ρ' σ' F' H' → σ'.length = σ.length → (∀ j, j ∉ vs → σ'[j]? = σ[j]?) → Q σ' H'
def DGw (X : Cx) (e : Expr) (t : GDen) (vs : List Nat) : Prop := PG X e (tGw X.K t vs)
def DGws (X : Cx) (es : List Expr) (t : GsDen) (vs : List Nat) : Prop := PGs X es (tGws X.K t vs)
section
variable {X : Cx} {pos : Pos} {e : Expr} {es : List Expr} {t : GDen} {u : GsDen} {vs : List Nat}
theorem dgw_n (i : Nat) {x : Str} (hN : X.N.Nodup) (hi : X.N[i]? = some x := by rfl) (hx : Loc X.env.scope x := by first | exact .inl rfl | exact .inr rfl) (hf : X.fn x = true ∨ X.env.scope.names.lookup x = some .local := by first | exact .inl rfl | exact .inr rfl) (hv : i ∈ vs := by decide) : DGw X (.Name x pos) (gN i) vs :=
  (pg_name hN hi hx hf).weak fun v σ H Q h => by
    obtain ⟨ρ, F, d, ρ', s, r, e, k⟩ := h
    unfold gN at e
    split at e
    · cases e
    · rename_i hio
      cases e
      exact k _ F H (s.setS (by simpa using hio) r) (List.length_set ..) fun j hj => List.getElem?_set_ne (fun z => hj (by rw [← z]; exact hv))
theorem dgws_nil : DGws X [] gsNil vs := pgs_nil.weak fun vs σ H Q h => by
  obtain ⟨ρ, F, ds, ρ', s, r, e, k⟩ := h
  unfold gsNil at e
  split at e
  · cases e
    cases r
    exact ⟨rfl, k σ F H (.refl s) rfl fun _ _ => rfl⟩
  · cases e
theorem dgws_cons (h1 : DGw X e t vs) (h2 : DGws X es u vs) (hs : (assignEach (e :: es) X.env).map (·.2) = assign e X.env :: (assignEach es X.env).map (·.2) := by rfl) : DGws X (e :: es) (gsCons t u) vs := (pgs_cons h1 h2 hs).weak fun xs σ H Q h => by
  obtain ⟨ρ, F, ds, ρ', s, r, e, k⟩ := h
  unfold gsCons at e
  split at e
  · obtain ⟨ρ1, e1, e2⟩ := bind_some e
    cases r with
    | cons r rr => exact ⟨_, _, rfl, ρ, F, _, ρ1, s, r, e1, fun σ1 F1 H1 s1 l1 k1 => ⟨ρ1, F1, _, ρ', s1.ok, rr.mono s1.gr.ext, e2, fun σ2 F2 H2 s2 l2 k2 => k σ2 F2 H2 (s1.trans s2) (l2.trans l1) fun j hj => (k2 j hj).trans (k1 j hj)⟩⟩
  · cases e
theorem dgw_tp {kk : Nat} {n : Nat} (hc : X.calm = true) (h : DGws X es u vs) (hn : (assignEach es X.env).length = n := by rfl) (hst : (assignEach es X.env).findIdx? (·.1) = none := by rfl) : DGw X (.Tuple es kk pos) (gTp n u) vs := (pg_tup hc h hn hst).weak fun v σ H Q h => by
  obtain ⟨ρ, F, d, ρ', s, r, e, k⟩ := h
  obtain ⟨ds, e1, e2⟩ := bind_some e
  unfold asTup at e1
  split at e1
  · split at e1
    · rename_i hl
      cases e1
      cases r with
      | tup h1 r1 => exact ⟨_, _, rfl, h1.sq s.sub, by rw [r1.length]; exact hl, ρ, F, _, ρ', s, r1, e2, k⟩
    · cases e1
  · cases e1
end
/-! ### tests of a clause -/
def DTs (X : Cx) (ifs : List Expr) (t : TDen) : Prop := PTs X ifs (tTD X.K t)
def cYes : TDen := fun ρ => some (true, ρ)
theorem _root_.L2.PTs.weak {X : Cx} {e : List Expr} {t t' : TT} (h : PTs X e t) (w : ∀ σ H Q, t' σ H Q → t σ H Q) : PTs X e t' := ⟨fun pins s σ H Q I q => h.run pins s σ H Q I (w _ _ _ q)⟩
theorem dts_nil {X : Cx} : DTs X [] cYes := pts_nil.weak fun σ H Q h => by
  obtain ⟨ρ, F, b, ρ', s, e, k⟩ := h
  cases e
  exact k F H (.refl s)
theorem dts_one {X : Cx} {c : Expr} {t : TDen} (h : DT X c t) : DTs X [c] t := pts_one h

/-! ### the block -/
def lcB (own : List Nat) (g : GDen) (t : TDen) (e : Den) : List D → Env → Option (List D × Env)
  | [], ρ => some ([], ρ)
  | d :: ds, ρ => (g d ρ).bind fun ρ1 => (t ρ1).bind fun x => match x.1 with
    | true => (e x.2).bind fun y => if noIo y.2 own = true then (lcB own g t e ds (wipeE y.2 own)).bind fun z => some (y.1 :: z.1, z.2) else none
    | false => if noIo x.2 own = true then lcB own g t e ds (wipeE x.2 own) else none
def cLc (own : List Nat) (s : IDen) (g : GDen) (t : TDen) (e : Den) : Den := fun ρ => (s ρ).bind fun x => if plainE x.2 own = true then (lcB own g t e x.1 (wipeE x.2 own)).bind fun y => if y.1.length ≤ sizeLine then some (.list y.1, backE x.2 y.2 own) else none else none
section
variable {K : PySem.W.Frag}
theorem plain_noIo {ρ : Env} {vs : List Nat} (h : plainE ρ vs = true) : noIo ρ vs = true := by
  refine List.all_eq_true.mpr fun v hv => ?_
  have := List.all_eq_true.mp h v hv
  cases q : ρ[v]? with
  | none => rfl
  | some x =>
    rw [q] at this
    cases x <;> first
      | rfl
      | cases this
/-- what stands locked -/
def Lk (L : Addr → HO → Prop) (H : Hp) (ρ : Env) (σ : L2.St) (P : Addr) : Prop := ∀ a o, L a o → H a = some o ∧ ¬ Ow ρ σ a ∧ a ≠ P
theorem Lk.stp {L : Addr → HO → Prop} {F F' H H' : Hp} {ρ ρ' : Env} {σ σ' : L2.St} {P : Addr} (h : Lk L H ρ σ P) (t : Stp K ρ σ F H ρ' σ' F' H') : Lk L H' ρ' σ' P := fun a o z => by
  obtain ⟨h1, h2, h3⟩ := h a o z
  refine ⟨t.gr.same a o h1 h2, fun ow => ?_, h3⟩
  rcases t.evo.own a ow with q | q
  · exact h2 q
  · rw [h1] at q; cases q
theorem Lk.put {L : Addr → HO → Prop} {H : Hp} {ρ : Env} {σ : L2.St} {P : Addr} {o : HO} (h : Lk L H ρ σ P) : Lk L (upd H P o) ρ σ P := fun a o z => by
  obtain ⟨h1, h2, h3⟩ := h a o z
  exact ⟨by rw [upd_ne h3]; exact h1, h2, h3⟩
theorem lk_start {L : Addr → HO → Prop} {F H : Hp} {ρ ρ' : Env} {σ σ' : L2.St} {P : Addr} (hL : ∀ a o, L a o → H a = some o ∧ ¬ Ow ρ σ a ∧ ∀ xs, o ≠ .lst xs) (sw : Stp K ρ σ F H ρ' σ' F H) (hD : H P = none) : Lk L H ρ' σ' P := fun a o z => by
  obtain ⟨h1, h2, _⟩ := hL a o z
  refine ⟨h1, fun ow => ?_, fun q => ?_⟩
  · rcases sw.evo.own a ow with q | q
    · exact h2 q
    · rw [h1] at q
      cases q
  · rw [q, hD] at h1
    cases h1
/-- what the loop of a block holds to -/
def LcW (K : PySem.W.Frag) (L : Addr → HO → Prop) (F0 : Hp) (ρb : Env) (σb : L2.St) (F1 H1 : Hp) (σw : L2.St) (P : Addr) (all : List D) (own : List Nat) (g : GDen) (t : TDen) (e : Den) (ds : List D) (ρe : Env) (i : Nat) (H : Hp) : Prop :=
  ∃ ρ F acc xs rest, Stp K ρb σb F1 H1 ρ σw F H ∧ Held F H ρ σw P xs ∧ Reps K F xs acc ∧ lcB own g t e (ds.drop i) ρ = some (rest, ρe) ∧ acc ++ rest = all ∧ Ext F0 F ∧ Lk L H ρ σw P
theorem lc_turn {own : List Nat} {g : GDen} {t : TDen} {e : Den} {ρb ρe : Env} {σb σw : L2.St} {F1 H1 : Hp} {P : Addr} {all ds : List D} {J : It} {L : Addr → HO → Prop} {F0 : Hp} (hw : wipe σw own = σw) (hD : H1 P = none) (hz : all.length ≤ sizeLine) (wk : WalkD K L J F0 ds)
    {i : Nat} {H : Hp} (W : LcW K L F0 ρb σb F1 H1 σw P all own g t e ds ρe i H) :
    (ds.length ≤ i ∧ J.stop i H ∧ LcW K L F0 ρb σb F1 H1 σw P all own g t e ds ρe i H) ∨ (i < ds.length ∧ J.go i H ∧ ∀ x H', J.yld i H x H' → tGw K g own x σw H' fun σ2 H2 => wipe σ2 own = σw ∧ tTD K t σ2 H2 fun b H3 =>
      if b = true then tE K e σ2 H3 fun y H4 => ∃ acc, H4 P = some (.lst acc) ∧ acc.length < sizeLine ∧ LcW K L F0 ρb σb F1 H1 σw P all own g t e ds ρe (i + 1) (upd H4 P (.lst (acc ++ [y]))) else LcW K L F0 ρb σb F1 H1 σw P all own g t e ds ρe (i + 1) H3) := by
  obtain ⟨ρ, F, acc, xs, rest, st, hd, rx, ee, ea, hx, hk⟩ := id W
  have lk : ∀ a o, L a o → H a = some o := fun a o z => (hk a o z).1
  by_cases hlt : i < ds.length
  · right
    have ed : ds.drop i = ds[i] :: ds.drop (i + 1) := List.drop_eq_getElem_cons hlt
    rw [ed] at ee
    obtain ⟨ρ1, e1, ee⟩ := bind_some ee
    obtain ⟨⟨b, ρ2⟩, e2, ee⟩ := bind_some ee
    obtain ⟨g1, g2⟩ := wk.go i ds[i] F H hx st.ok.sub lk (by simp)
    refine ⟨hlt, g1, fun x H2 y => ?_⟩
    obtain ⟨F2, px, rv⟩ := g2 x H2 y
    have st2 := st.thenPx px
    have hd2 := hd.stp (.px st.ok px)
    have hk2 := hk.stp (.px st.ok px)
    refine ⟨ρ, F2, _, ρ1, st2.ok, rv, e1, fun σ3 F3 H3 s3 l3 k3 => ?_⟩
    have st3 := st2.trans s3
    have hd3 := hd2.stp s3
    have hwp : wipe σ3 own = σw := (wipe_same l3 k3).trans hw
    refine ⟨hwp, ρ1, F3, b, ρ2, s3.ok, e2, fun F4 H4 s4 => ?_⟩
    have st4 := st3.trans s4
    have hd4 := hd3.stp s4
    have hk4 := (hk2.stp s3).stp s4
    have hx4 := ((hx.trans px.ext).trans s3.gr.ext).trans s4.gr.ext
    cases b with
    | true =>
      obtain ⟨⟨d5, ρ5⟩, e5, ee⟩ := bind_some (show (e ρ2).bind _ = some (rest, ρe) from ee)
      refine iteT ⟨ρ2, F4, d5, ρ5, s4.ok, e5, fun v F5 H5 s5 r5 => ?_⟩
      have st5 := st4.trans s5
      have hd5 := hd4.stp s5
      split at ee
      · rename_i hno
        obtain ⟨⟨rest', ρe'⟩, e6, ee⟩ := bind_some ee
        cases ee
        have sw := st5.ok.wipe hno
        rw [hwp] at sw
        have rx5 : Reps K F5 xs acc := (((rx.mono px.ext).mono s3.gr.ext).mono s4.gr.ext).mono s5.gr.ext
        have hlen : xs.length < sizeLine := by
          rw [rx.length]
          have : (acc ++ d5 :: rest').length ≤ sizeLine := by rw [ea]; exact hz
          rw [List.length_append, List.length_cons] at this
          omega
        obtain ⟨hd6, st6⟩ := (hd5.stp sw).put (ys := xs ++ [v]) (st5.trans sw) hD
        refine ⟨xs, hd5.at_, hlen, _, F5, acc ++ [d5], xs ++ [v], rest', st6, hd6, rx5.append (.one r5), e6, by rw [List.append_assoc]; exact ea, hx4.trans s5.gr.ext, ((hk4.stp s5).stp sw).put⟩
      · cases ee
    | false =>
      refine iteF ?_
      have ee : (if noIo ρ2 own = true then lcB own g t e (ds.drop (i + 1)) (wipeE ρ2 own) else none) = some (rest, ρe) := ee
      split at ee
      · rename_i hno
        have sw := st4.ok.wipe hno
        rw [hwp] at sw
        exact ⟨_, F4, acc, xs, rest, st4.trans sw, hd4.stp sw, ((rx.mono px.ext).mono s3.gr.ext).mono s4.gr.ext, ee, ea, hx4, hk4.stp sw⟩
      · cases ee
  · left
    have hlen : ds.length ≤ i := Nat.le_of_not_lt hlt
    exact ⟨hlen, wk.stop i F H hx st.ok.sub lk hlen, W⟩
theorem wipe_wipe {σ : L2.St} {vs : List Nat} : wipe (wipe σ vs) vs = wipe σ vs := wipe_same (wipe_length σ vs) fun _ hj => wipe_out hj
theorem lc_end {own : List Nat} {ρ ρ1 ρe : Env} {σ : L2.St} {F H F1 H1 F2 H2 : Hp} {P : Addr} {acc : List D} {xs : List V} {Q : VK} (st : Stp K ρ σ F H ρ1 σ F1 H1) (hpl : plainE ρ1 own = true) (st2 : Stp K (wipeE ρ1 own) (wipe σ own) F1 H1 ρe (wipe σ own) F2 H2) (hd2 : Held F2 H2 ρe (wipe σ own) P xs) (rx : Reps K F2 xs acc) (hD : H1 P = none)
    (k : ∀ p F' H', Stp K ρ σ F H (backE ρ1 ρe own) σ F' H' → OwnAt K F' H' p (.list acc) → ¬ Ow (backE ρ1 ρe own) σ p → H p = none → Q (.ref p) H') : Q (.ref P) H2 := by
  have sb := st.ok.back hpl st2
  refine k P F2 H2 (st.trans sb) ⟨hd2.out, _, hd2.at_, .lst rx⟩ (fun z => ?_) (st.gr.live P hD)
  rcases sb.evo.own P z with q | q
  · exact (st.ok.fresh hD).2 q
  · obtain ⟨j, ⟨d', hj⟩, hs⟩ := z
    by_cases hi : j ∈ own
    · have hl : ρ1.length = ρe.length := by
        have h1 := st2.ok.len
        rw [wipe_length] at h1
        rw [← st.ok.len, h1]
      rw [backE_in hl hi] at hj
      have := List.all_eq_true.mp hpl j hi
      rcases hj with hj | hj <;> rw [hj] at this <;> cases this
    · rw [backE_out hi] at hj
      exact hd2.no ⟨j, ⟨d', hj⟩, by rw [wipe_out hi]; exact hs⟩
theorem lc_reading {own : List Nat} {s : IDen} {g : GDen} {t : TDen} {e : Den} {σ : L2.St} {H : Hp} {Q : VK} (h : tO K (cLc own s g t e) σ H Q) : tLc (tID K s) (tGw K g own) (tTD K t) (tE K e) own σ H Q := by
  obtain ⟨ρ, F, d, ρ', s0, ee, k⟩ := h
  obtain ⟨⟨ds, ρ1⟩, e1, ee⟩ := bind_some ee
  split at ee
  · rename_i hpl
    obtain ⟨⟨all, ρe⟩, e2, ee⟩ := bind_some ee
    split at ee
    · rename_i hz
      cases ee
      refine ⟨ρ, F, ds, ρ1, s0, e1, fun J F1 H1 L st wk hL D hD => ?_⟩
      have sw := st.ok.wipe (plain_noIo hpl)
      have lay : Px F1 H1 F1 (upd H1 D (.lst [])) := Px.laidO st.ok.sub hD
      have hd0 : Held F1 (upd H1 D (.lst [])) (wipeE ρ1 own) (wipe σ own) D [] := ⟨(sw.ok.fresh hD).1, (sw.ok.fresh hD).2, upd_same⟩
      have hk0 : Lk L H1 (wipeE ρ1 own) (wipe σ own) D := lk_start hL sw hD
      refine ⟨fun i m H => m = ds.length - i ∧ LcW K L F1 (wipeE ρ1 own) (wipe σ own) F1 H1 (wipe σ own) D all own g t e ds ρe i H, ⟨_, rfl, wipeE ρ1 own, F1, [], [], all, .px sw.ok lay, hd0, .nil, e2, rfl, .refl F1, hk0.put⟩, ?_⟩
      rintro i m H ⟨rfl, W⟩
      rcases lc_turn wipe_wipe hD hz wk W with ⟨hlen, stop, W⟩ | ⟨hlt, go, step⟩
      · left
        refine ⟨stop, ?_⟩
        obtain ⟨ρ2, F2, acc, xs, rest, st2, hd2, rx, e3, ea, _, _⟩ := W
        rw [List.drop_eq_nil_of_le hlen] at e3
        cases e3
        rw [List.append_nil] at ea
        subst ea
        exact lc_end st hpl st2 hd2 rx hD k
      · right
        exact ⟨go, LcW K L F1 (wipeE ρ1 own) (wipe σ own) F1 H1 (wipe σ own) D all own g t e ds ρe (i + 1), fun H' w => ⟨_, by omega, rfl, w⟩, step⟩
    · cases ee
  · cases ee
end

/-! ### two clauses -/
def lc2B (own own1 : List Nat) (g : GDen) (t : TDen) (s1 : IDen) (g1 : GDen) (t1 : TDen) (e : Den) : List D → Env → Option (List D × Env)
  | [], ρ => some ([], ρ)
  | d :: ds, ρ => (g d ρ).bind fun ρ1 => (t ρ1).bind fun x => match x.1 with
    | true => (s1 x.2).bind fun y => if noIo y.2 own1 = true then (lcB own1 g1 t1 e y.1 (wipeE y.2 own1)).bind fun z => if noIo z.2 own = true then (lc2B own own1 g t s1 g1 t1 e ds (wipeE z.2 own)).bind fun w => some (z.1 ++ w.1, w.2) else none else none
    | false => if noIo x.2 own = true then lc2B own own1 g t s1 g1 t1 e ds (wipeE x.2 own) else none
def cLc2 (own own1 : List Nat) (s : IDen) (g : GDen) (t : TDen) (s1 : IDen) (g1 : GDen) (t1 : TDen) (e : Den) : Den := fun ρ => (s ρ).bind fun x => if plainE x.2 own = true then (lc2B own own1 g t s1 g1 t1 e x.1 (wipeE x.2 own)).bind fun y => if y.1.length ≤ sizeLine then some (.list y.1, backE x.2 y.2 own) else none else none
section
variable {K : PySem.W.Frag}
theorem wipe_sub {σ : L2.St} {vs ws : List Nat} (h : ∀ i ∈ ws, i ∈ vs) : wipe (wipe σ ws) vs = wipe σ vs := wipe_same (wipe_length σ ws) fun j hj => wipe_out fun z => hj (h j z)
theorem lc2_reading {own own1 : List Nat} (hsub : ∀ i ∈ own1, i ∈ own) {s s1 : IDen} {g g1 : GDen} {t t1 : TDen} {e : Den} {σ : L2.St} {H : Hp} {Q : VK} (h : tO K (cLc2 own own1 s g t s1 g1 t1 e) σ H Q) :
    tLc2 (tID K s) (tGw K g own) (tTD K t) (tID K s1) (tGw K g1 own1) (tTD K t1) (tE K e) own own1 σ H Q := by
  obtain ⟨ρ, F, d, ρ', s0, ee, k⟩ := h
  obtain ⟨⟨ds, ρ1⟩, e1, ee⟩ := bind_some ee
  split at ee
  · rename_i hpl
    obtain ⟨⟨all, ρe⟩, e2, ee⟩ := bind_some ee
    split at ee
    · rename_i hz
      cases ee
      refine ⟨ρ, F, ds, ρ1, s0, e1, fun J F1 H1 L st wk hL P hD => ?_⟩
      have sw := st.ok.wipe (plain_noIo hpl)
      have lay : Px F1 H1 F1 (upd H1 P (.lst [])) := Px.laidO st.ok.sub hD
      have hd0 : Held F1 (upd H1 P (.lst [])) (wipeE ρ1 own) (wipe σ own) P [] := ⟨(sw.ok.fresh hD).1, (sw.ok.fresh hD).2, upd_same⟩
      have hk0 : Lk L H1 (wipeE ρ1 own) (wipe σ own) P := lk_start hL sw hD
      have e2 : lc2B own own1 g t s1 g1 t1 e ds (wipeE ρ1 own) = some (all, ρe) := e2
      have hz : all.length ≤ sizeLine := hz
      refine ⟨fun i m H => m = ds.length - i ∧ ∃ ρ F acc xs rest, Stp K (wipeE ρ1 own) (wipe σ own) F1 H1 ρ (wipe σ own) F H ∧ Held F H ρ (wipe σ own) P xs ∧ Reps K F xs acc ∧ lc2B own own1 g t s1 g1 t1 e (ds.drop i) ρ = some (rest, ρe) ∧ acc ++ rest = all ∧ Lk L H ρ (wipe σ own) P,
        ⟨_, rfl, wipeE ρ1 own, F1, [], [], all, .px sw.ok lay, hd0, .nil, e2, rfl, hk0.put⟩, ?_⟩
      rintro i m H ⟨rfl, ρ, F, acc, xs, rest, st2, hd, rx, ee, ea, hk⟩
      have lk : ∀ a o, L a o → H a = some o := fun a o z => (hk a o z).1
      by_cases hlt : i < ds.length
      · right
        have ed : ds.drop i = ds[i] :: ds.drop (i + 1) := List.drop_eq_getElem_cons hlt
        rw [ed] at ee
        obtain ⟨ρ3, e3, ee⟩ := bind_some ee
        obtain ⟨⟨b, ρ4⟩, e4, ee⟩ := bind_some ee
        obtain ⟨q1, q2⟩ := wk.go i ds[i] F H st2.gr.ext st2.ok.sub lk (by simp)
        refine ⟨q1, fun H => ∃ ρ F acc xs rest, Stp K (wipeE ρ1 own) (wipe σ own) F1 H1 ρ (wipe σ own) F H ∧ Held F H ρ (wipe σ own) P xs ∧ Reps K F xs acc ∧ lc2B own own1 g t s1 g1 t1 e (ds.drop (i + 1)) ρ = some (rest, ρe) ∧ acc ++ rest = all ∧ Lk L H ρ (wipe σ own) P,
          fun H' w => ⟨_, by omega, rfl, w⟩, fun x H3 y => ?_⟩
        obtain ⟨F3, px, rv⟩ := q2 x H3 y
        have st3 := st2.thenPx px
        have hd3 := hd.stp (.px st2.ok px)
        have hk3 := hk.stp (.px st2.ok px)
        refine ⟨ρ, F3, _, ρ3, st3.ok, rv, e3, fun σ4 F4 H4 s4 l4 k4 => ?_⟩
        have st4 := st3.trans s4
        have hd4 := hd3.stp s4
        have hk4 := hk3.stp s4
        have hwp : wipe σ4 own = wipe σ own := (wipe_same l4 k4).trans wipe_wipe
        refine ⟨hwp, ρ3, F4, b, ρ4, s4.ok, e4, fun F5 H5 s5 => ?_⟩
        have st5 := st4.trans s5
        have hd5 := hd4.stp s5
        have hk5 := hk4.stp s5
        have rx5 : Reps K F5 xs acc := ((rx.mono px.ext).mono s4.gr.ext).mono s5.gr.ext
        cases b with
        | true =>
          refine iteT ?_
          obtain ⟨⟨es, ρ6⟩, e6, ee⟩ := bind_some (show (s1 ρ4).bind _ = some (rest, ρe) from ee)
          refine ⟨ρ4, F5, es, ρ6, s5.ok, e6, fun J1 F6 H6 L1 s6 wk1 hL1 => ?_⟩
          have st6 := st5.trans s6
          have hd6 := hd5.stp s6
          have hk6 := hk5.stp s6
          have ee : (if noIo ρ6 own1 = true then (lcB own1 g1 t1 e es (wipeE ρ6 own1)).bind fun z => if noIo z.2 own = true then (lc2B own own1 g t s1 g1 t1 e (ds.drop (i + 1)) (wipeE z.2 own)).bind fun w => some (z.1 ++ w.1, w.2) else none else none) = some (rest, ρe) := ee
          split at ee
          · rename_i hno1
            obtain ⟨⟨row, ρ7⟩, e7, ee⟩ := bind_some ee
            have ee : (if noIo ρ7 own = true then (lc2B own own1 g t s1 g1 t1 e (ds.drop (i + 1)) (wipeE ρ7 own)).bind fun w => some (row ++ w.1, w.2) else none) = some (rest, ρe) := ee
            split at ee
            · rename_i hno2
              obtain ⟨⟨rest2, ρe2⟩, e8, ee⟩ := bind_some ee
              cases ee
              have sw1 := st6.ok.wipe hno1
              have hk6' : Lk L1 H6 ρ6 σ4 P := fun a o z => ⟨(hL1 a o z).1, (hL1 a o z).2.1, fun q => by
                subst q
                have := (hL1 a o z).1
                rw [hd6.at_] at this
                cases this
                exact (hL1 a _ z).2.2 _ rfl⟩
              have hz1 : (acc ++ row).length ≤ sizeLine := by
                have : (acc ++ (row ++ rest2)).length ≤ sizeLine := by rw [ea]; exact hz
                rw [← List.append_assoc, List.length_append] at this
                omega
              refine ⟨fun j k H => k = es.length - j ∧ LcW K (fun a o => L1 a o ∨ L a o) F6 (wipeE ρ1 own) (wipe σ own) F1 H1 (wipe σ4 own1) P (acc ++ row) own1 g1 t1 e es ρ7 j H,
                ⟨_, rfl, wipeE ρ6 own1, F6, acc, xs, row, st6.trans sw1, hd6.stp sw1, rx5.mono s6.gr.ext, e7, rfl, .refl F6, Lk.stp (t := sw1) fun a o z => z.elim (hk6' a o) (hk6 a o)⟩, ?_⟩
              rintro j k H7 ⟨rfl, W⟩
              have wk1' : WalkD K (fun a o => L1 a o ∨ L a o) J1 F6 es := ⟨fun i d F' H a b c => wk1.go i d F' H a b fun a o z => c a o (.inl z), fun i F' H a b c => wk1.stop i F' H a b fun a o z => c a o (.inl z)⟩
              rcases lc_turn wipe_wipe hD hz1 wk1' W with ⟨hlen, stop, W⟩ | ⟨hlt1, go, step⟩
              · left
                refine ⟨stop, ?_⟩
                obtain ⟨ρ8, F8, acc8, xs8, rest8, st8, hd8, rx8, e9, ea8, _, hk8⟩ := W
                rw [List.drop_eq_nil_of_le hlen] at e9
                cases e9
                rw [List.append_nil] at ea8
                subst ea8
                have sw2 := st8.ok.wipe hno2
                rw [wipe_sub hsub, hwp] at sw2
                exact ⟨_, F8, _, xs8, rest2, st8.trans sw2, hd8.stp sw2, rx8, e8, by rw [List.append_assoc]; exact ea, Lk.stp (t := sw2) fun a o z => hk8 a o (.inr z)⟩
              · right
                exact ⟨go, _, fun H' w => ⟨_, by omega, rfl, w⟩, step⟩
            · cases ee
          · cases ee
        | false =>
          refine iteF ?_
          have ee : (if noIo ρ4 own = true then lc2B own own1 g t s1 g1 t1 e (ds.drop (i + 1)) (wipeE ρ4 own) else none) = some (rest, ρe) := ee
          split at ee
          · rename_i hno
            have sw1 := st5.ok.wipe hno
            rw [hwp] at sw1
            exact ⟨_, F5, acc, xs, rest, st5.trans sw1, hd5.stp sw1, rx5, ee, ea, hk5.stp sw1⟩
          · cases ee
      · left
        have hlen : ds.length ≤ i := Nat.le_of_not_lt hlt
        refine ⟨wk.stop i F H st2.gr.ext st2.ok.sub lk hlen, ?_⟩
        rw [List.drop_eq_nil_of_le hlen] at ee
        cases ee
        rw [List.append_nil] at ea
        subst ea
        exact lc_end st hpl st2 hd rx hD k
    · cases ee
  · cases ee
end

section
variable {X : Cx} {pos spos : Pos} {tg iter elt tg1 iter1 : Expr} {ifs ifs1 : List Expr} {scope : Scope} {s s1 : IDen} {g g1 : GDen} {t t1 : TDen} {e : Den}
abbrev InBlk (X : Cx) (scope : Scope) (p : Cx → Prop) : Prop := ∀ (s : Shared) (H : Hp) (C : Addr) (cl : List (Str × Addr)) (fp : List Addr), p (X.blk s H scope (compEnvC scope cl C X.env) fp)
theorem do_lc (own : List (Str × Nat)) (hc : X.calm = true) (hN : X.N.Nodup) (hi : DI X tg iter s) (ok : BlkOk X.N X.env.scope scope own)
    (hg : InBlk X scope fun Y => DGw Y tg g (own.map (·.2))) (ht : InBlk X scope fun Y => DTs Y ifs t) (he : InBlk X scope fun Y => DE Y elt e) (hs : ∀ x, foldedSetIterable iter X.env x = pure x := by intro _; rfl) :
    DO X (.ListComp elt [⟨tg, iter, ifs, 0⟩] scope pos) (cLc (own.map (·.2)) s g t e) :=
  L2.PE.weak (pe_lc (g := tGw X.K g (own.map fun p : Str × Nat => p.2)) (tt := tTD X.K t) (te := tE X.K e) hc hN hi ok (fun s H C cl fp => hg s H C cl fp) (fun s H C cl fp => ht s H C cl fp) (fun s H C cl fp => he s H C cl fp) hs) fun _ _ _ => lc_reading
/-- name = [..] on one line -/
theorem ds_setLc (own : List (Str × Nat)) (i : Nat) {y : Str} {py : Pos} (hc : X.calm = true) (hN : X.N.Nodup) (hyl : X.env.scope.names.lookup y = some .local)
    (hsw : swapsWith (.ListComp elt [⟨tg, iter, ifs, 0⟩] scope pos) (some (.Name y py)) spos.line X.env = pure true) (hi : DI X tg iter s) (ok : BlkOk X.N X.env.scope scope own)
    (hg : InBlk X scope fun Y => DGw Y tg g (own.map (·.2))) (ht : InBlk X scope fun Y => DTs Y ifs t) (he : InBlk X scope fun Y => DE Y elt e) (hs : ∀ x, foldedSetIterable iter X.env x = pure x := by intro _; rfl) (hy : X.N[i]? = some y := by rfl) :
    DS X (.Assign [.Name y py] (.ListComp elt [⟨tg, iter, ifs, 0⟩] scope pos) spos) (cSetO i (cLc (own.map (·.2)) s g t e)) :=
  L2.PS.weak (ps_setLc (g := tGw X.K g (own.map fun p : Str × Nat => p.2)) (tt := tTD X.K t) (te := tE X.K e) hc hN hy hyl hsw hi ok (fun s H C cl fp => hg s H C cl fp) (fun s H C cl fp => ht s H C cl fp) (fun s H C cl fp => he s H C cl fp) hs) fun E σ H h => lc_reading (tS_tO h)
theorem do_lc2 (own : List (Str × Nat)) (own1 : List Nat) (hc : X.calm = true) (hN : X.N.Nodup) (hi : DI X tg iter s) (ok : BlkOk X.N X.env.scope scope own) (hv : ∀ i ∈ own1, i ∈ own.map (·.2))
    (hg : InBlk X scope fun Y => DGw Y tg g (own.map (·.2))) (ht : InBlk X scope fun Y => DTs Y ifs t) (hi1 : InBlk X scope fun Y => DI Y tg1 iter1 s1) (hg1 : InBlk X scope fun Y => DGw Y tg1 g1 own1) (ht1 : InBlk X scope fun Y => DTs Y ifs1 t1) (he : InBlk X scope fun Y => DE Y elt e)
    (hs : ∀ x, foldedSetIterable iter X.env x = pure x := by intro _; rfl) (hs1 : ∀ env x, foldedSetIterable iter1 env x = pure x := by intro _ _; rfl) :
    DO X (.ListComp elt [⟨tg, iter, ifs, 0⟩, ⟨tg1, iter1, ifs1, 0⟩] scope pos) (cLc2 (own.map (·.2)) own1 s g t s1 g1 t1 e) :=
  L2.PE.weak (pe_lc2 (g := tGw X.K g (own.map fun p : Str × Nat => p.2)) (tt := tTD X.K t) (wi1 := tID X.K s1) (g1 := tGw X.K g1 own1) (tt1 := tTD X.K t1) (te := tE X.K e) hc hN hi ok hv (fun s H C cl fp => hg s H C cl fp) (fun s H C cl fp => ht s H C cl fp) (fun s H C cl fp => hi1 s H C cl fp) (fun s H C cl fp => hg1 s H C cl fp) (fun s H C cl fp => ht1 s H C cl fp) (fun s H C cl fp => he s H C cl fp) hs hs1) fun _ _ _ => lc2_reading hv
theorem ds_setLc2 (own : List (Str × Nat)) (own1 : List Nat) (i : Nat) {y : Str} {py : Pos} (hc : X.calm = true) (hN : X.N.Nodup) (hyl : X.env.scope.names.lookup y = some .local)
    (hsw : swapsWith (.ListComp elt [⟨tg, iter, ifs, 0⟩, ⟨tg1, iter1, ifs1, 0⟩] scope pos) (some (.Name y py)) spos.line X.env = pure true) (hi : DI X tg iter s) (ok : BlkOk X.N X.env.scope scope own) (hv : ∀ i ∈ own1, i ∈ own.map (·.2))
    (hg : InBlk X scope fun Y => DGw Y tg g (own.map (·.2))) (ht : InBlk X scope fun Y => DTs Y ifs t) (hi1 : InBlk X scope fun Y => DI Y tg1 iter1 s1) (hg1 : InBlk X scope fun Y => DGw Y tg1 g1 own1) (ht1 : InBlk X scope fun Y => DTs Y ifs1 t1) (he : InBlk X scope fun Y => DE Y elt e)
    (hs : ∀ x, foldedSetIterable iter X.env x = pure x := by intro _; rfl) (hs1 : ∀ env x, foldedSetIterable iter1 env x = pure x := by intro _ _; rfl) (hy : X.N[i]? = some y := by rfl) :
    DS X (.Assign [.Name y py] (.ListComp elt [⟨tg, iter, ifs, 0⟩, ⟨tg1, iter1, ifs1, 0⟩] scope pos) spos) (cSetO i (cLc2 (own.map (·.2)) own1 s g t s1 g1 t1 e)) :=
  L2.PS.weak (ps_setLc2 (g := tGw X.K g (own.map fun p : Str × Nat => p.2)) (tt := tTD X.K t) (wi1 := tID X.K s1) (g1 := tGw X.K g1 own1) (tt1 := tTD X.K t1) (te := tE X.K e) hc hN hy hyl hsw hi ok hv (fun s H C cl fp => hg s H C cl fp) (fun s H C cl fp => ht s H C cl fp) (fun s H C cl fp => hi1 s H C cl fp) (fun s H C cl fp => hg1 s H C cl fp) (fun s H C cl fp => ht1 s H C cl fp) (fun s H C cl fp => he s H C cl fp) hs hs1) fun E σ H h => lc2_reading hv (tS_tO h)
end
end DL

set_option maxHeartbeats 4000000
/-! DL13: dict displays, two names at once, max, min, sorted of ints. -/
namespace DL
open PySem L2 PyProof.Rows
section
variable {X : Cx} {pos : Pos} {a b k v : Expr} {f fk : Den} {fs : ADen} {ks : List (Option Expr)} {vs : List Expr}
/-! ### {k: v, ..} -/
abbrev KDen := Env → Option (List (Key × D) × Env)
def repKs (es : List (Key × D)) : List (D × D) := es.map fun p => (keyD p.1, p.2)
def DPs (X : Cx) (pos : Pos) (ks : List (Option Expr)) (vs : List Expr) (g : KDen) : Prop := ∃ trs, PPs X pos ks vs trs ∧ ∀ (σ : L2.St) (H : Hp) (Q : List (V × V) → Hp → Prop),
  (∃ ρ F es ρ', SOk X.K F ρ σ H ∧ g ρ = some (es, ρ') ∧ ∀ (kvs : List (Key × V)) F' H', Stp X.K ρ σ F H ρ' σ F' H' → RepK X.K F' kvs (repKs es) → kvs.length = es.length → Q (kvs.map fun kv => (kV kv.1, kv.2)) H') → tPairs trs σ H Q
def kNil : KDen := fun ρ => some ([], ρ)
def kCons (fk f : Den) (g : KDen) : KDen := fun ρ => (fk ρ).bind fun x => (asK x.1).bind fun k => (f x.2).bind fun y => (g y.2).bind fun z => some ((k, y.1) :: z.1, z.2)
theorem dps_nil : DPs X pos [] [] kNil := ⟨[], pps_nil, fun σ H Q h => by
  obtain ⟨ρ, F, es, ρ', s, e, k⟩ := h
  cases e
  exact k [] F H (.refl s) .nil rfl⟩
theorem dps_cons {g : KDen} (hk : DE X k fk) (hv : DE X v f) (hr : DPs X pos ks vs g) : DPs X pos (some k :: ks) (v :: vs) (kCons fk f g) := by
  obtain ⟨trs, hp, hq⟩ := hr
  refine ⟨_, pps_cons hk hv hp, fun σ H Q h => ?_⟩
  obtain ⟨ρ, F, es, ρ', s, e, kk⟩ := h
  obtain ⟨⟨x, ρ1⟩, e1, e⟩ := bind_some e
  obtain ⟨key, e2, e⟩ := bind_some e
  obtain ⟨⟨y, ρ2⟩, e3, e⟩ := bind_some e
  obtain ⟨⟨z, ρ3⟩, e4, e⟩ := bind_some e
  cases e
  obtain rfl := asK_some e2
  refine ⟨ρ, F, _, ρ1, s, e1, fun v1 F1 H1 s1 r1 => ⟨ρ1, F1, y, ρ2, s1.ok, e3, fun v2 F2 H2 s2 r2 => hq σ H2 _ ⟨ρ2, F2, z, _, s2.ok, e4, fun kvs F3 H3 s3 r3 hl => ?_⟩⟩⟩
  have ev : v1 = kV key := RepH.key (F := F1) (H := H1) (.inl r1)
  subst ev
  exact kk ((key, v2) :: kvs) F3 H3 ((s1.trans s2).trans s3) (.cons (r2.mono s3.gr.ext) r3) (congrArg (· + 1) hl)
def putAll (es : List (Key × D)) : List (D × D) := es.foldl (fun acc kv => dput acc (keyD kv.1) kv.2) []
def cDisp (g : KDen) : Den := fun ρ => (g ρ).bind fun x => if x.1.length ≤ 15 then some (.dict (putAll x.1), x.2) else none
theorem RepK.merge {K : PySem.W.Frag} {F : Hp} : ∀ {more : List (Key × V)} {ms : List (Key × D)} {kvs : List (Key × V)} {es : List (D × D)}, RepK K F more (repKs ms) → RepK K F kvs es → RepK K F (mergeK kvs more) (ms.foldl (fun acc kv => dput acc (keyD kv.1) kv.2) es)
  | [], [], _, _, _, r => r
  | [], _ :: _, _, _, h, _ => by cases h
  | (k, v) :: more, [], _, _, h, _ => by cases h
  | (k, v) :: more, (j, d) :: ms, kvs, es, h, r => by
    have h' : RepK K F ((k, v) :: more) ((keyD j, d) :: repKs ms) := h
    generalize e : keyD j = kj at h'
    cases h' with
    | cons h1 h2 =>
      have ekj : j = k := by
        cases j <;> cases k <;> simp [keyD] at e
        · exact congrArg _ e
        · exact congrArg _ e
      subst ekj
      exact RepK.merge (more := more) (ms := ms) h2 (r.put h1)
theorem do_disp {g : KDen} (h : DPs X pos ks vs g) (hall : ks.all (·.isSome) = true := by rfl) (hl : ks.length = vs.length := by rfl) (h0 : ks ≠ [] := by intro z; cases z) (h15 : ks.length ≤ 15 := by decide) : DO X (.Dict ks vs pos) (cDisp g) := by
  obtain ⟨trs, hp, hq⟩ := h
  refine L2.PE.weak (pe_disp hp hall hl h0 h15) fun σ H Q h => ?_
  obtain ⟨ρ, F, d, ρ', s, e, k⟩ := h
  obtain ⟨⟨es, ρ1⟩, e1, e⟩ := bind_some e
  have e : (if es.length ≤ 15 then some (PyData.dict (putAll es), ρ1) else none) = some (d, ρ') := e
  split at e
  · rename_i hlen
    cases e
    intro p hp
    have px : Px F H F (upd H p (.dK [])) := Px.laidO s.sub hp
    have s0 := Stp.px s px
    refine hq σ _ _ ⟨ρ, F, es, _, s0.ok, e1, fun kvs F' H' st rk hle => ?_⟩
    have hd : (upd H p (.dK [])) p = some (.dK []) := upd_same
    have hF : F p = none := (s.fresh hp).1
    have hO : ¬ Ow ρ σ p := (s.fresh hp).2
    have h1 : H' p = some (.dK []) := st.gr.same p _ hd hO
    have h2 : F' p = none := by
      cases q : F' p with
      | none => rfl
      | some u =>
        rcases st.gr.new p (by rw [q]; intro z; cases z) with z | z | z | ⟨ys, z⟩
        · exact absurd hF z
        · rw [hd] at z; cases z
        · exact absurd z hO
        · rw [hd] at z; cases z
    have h3 : ¬ Ow ρ' σ p := fun z => by
      rcases st.evo.own p z with q | q
      · exact hO q
      · rw [hd] at q; cases q
    refine ⟨h1, kvs, rfl, by rw [hle]; exact hlen, ?_⟩
    have tot := s0.trans st
    refine k p F' _ ⟨⟨tot.gr.ext, tot.gr.new, fun a o ha hn => ?_, fun a ha => ?_⟩, ⟨tot.ok.sub.upd h2, tot.ok.len, tot.ok.shr, fun i d hi => ?_, tot.ok.dj⟩, tot.evo⟩ ⟨h2, _, upd_same, .dK (rk.merge .nil)⟩ h3 hp
    · rw [upd_ne (ne_of_none ha hp)]
      exact tot.gr.same a o ha hn
    · by_cases e : a = p
      · subst e
        exact hp
      · rw [upd_ne e] at ha
        exact tot.gr.live a ha
    · obtain ⟨q, e, hFq, u, hu, tp⟩ := tot.ok.own i d hi
      have hne : q ≠ p := fun z => by
        subst z
        exact h3 ⟨i, ⟨d, hi⟩, e⟩
      exact ⟨q, e, hFq, u, by rw [upd_ne hne]; exact hu, tp⟩
  · cases e

/-! ### a, b = x, y -/
@[simp] def parS (i j : Nat) : List D → Env → Option Fl
  | [c, d], ρ => if isIo ρ[i]? || isIo (ρ.set i (.sh c))[j]? then none else some (.nx ((ρ.set i (.sh c)).set j (.sh d)))
  | _, _ => none
def cPar (i j : Nat) (f : ADen) : SDen := fun ρ => (f ρ).bind fun x => parS i j x.1 x.2
theorem ds_par (i j : Nat) {x y : Str} {px py pt : Pos} {kt k2 pt2} (hc : X.calm = true) (hN : X.N.Nodup) (ha : DA X [a, b] fs) (hw : swappedStores [.Tuple [.Name x px, .Name y py] kt pt] (.Tuple [a, b] k2 pt2) X.env = pure (some [x, y]) := by rfl) (hi : X.N[i]? = some x := by rfl) (hj : X.N[j]? = some y := by rfl) (hij : i ≠ j := by decide)
    (hx : X.env.scope.names.lookup x = some .local := by rfl) (hy : X.env.scope.names.lookup y = some .local := by rfl) (hs : swapsWithSole [.Tuple [.Name x px, .Name y py] kt pt] (.Tuple [a, b] k2 pt2) pos.line X.env = pure false := by rfl) :
    DS X (.Assign [.Tuple [.Name x px, .Name y py] kt pt] (.Tuple [a, b] k2 pt2) pos) (cPar i j fs) := (ps_par hc hN hi hj hij hx hy ha hw hs).weak fun E σ H h => by
  obtain ⟨ρ, F, r, s, e, w⟩ := h
  obtain ⟨⟨ds, ρ1⟩, e1, e⟩ := bind_some e
  change parS i j ds ρ1 = some r at e
  unfold parS at e
  split at e
  · split at e
    · cases e
    · rename_i c d hio
      cases e
      refine ⟨ρ, F, _, ρ1, s, e1, fun vs F1 H1 s1 r1 => ?_⟩
      cases r1 with
      | cons r1 rr =>
        cases rr with
        | cons r2 rr =>
          cases rr
          have hio' : isIo ρ1[i]? = false ∧ isIo (ρ1.set i (.sh c))[j]? = false := by simpa using hio
          have t1 := s1.ok.setS hio'.1 r1
          exact ⟨_, _, rfl, w.nx _ _ F1 H1 rfl ((s1.trans t1).trans (t1.ok.setS hio'.2 r2))⟩
  · cases e
end

/-! ### max, min, sorted of ints -/
def maxI : List Int → Option Int
  | [] => none
  | a :: r => some (r.foldl max a)
def minI : List Int → Option Int
  | [] => none
  | a :: r => some (r.foldl min a)
theorem foldl_max (r : List Int) : ∀ a : Int, r.foldl max a ∈ a :: r ∧ ∀ y ∈ a :: r, y ≤ r.foldl max a := by
  induction r with
  | nil => intro a; simp
  | cons b r ih =>
    intro a
    obtain ⟨h1, h2⟩ := ih (max a b)
    rw [List.foldl_cons]
    refine ⟨?_, fun y hy => ?_⟩
    · rcases List.mem_cons.mp h1 with z | z
      · rw [z]
        rcases Int.le_total a b with q | q
        · rw [Int.max_eq_right q]
          simp
        · rw [Int.max_eq_left q]
          simp
      · simp [z]
    · have hm := h2 (max a b) List.mem_cons_self
      rcases List.mem_cons.mp hy with z | z
      · subst z
        exact Int.le_trans (Int.le_max_left ..) hm
      · rcases List.mem_cons.mp z with z | z
        · subst z
          exact Int.le_trans (Int.le_max_right ..) hm
        · exact h2 y (List.mem_cons_of_mem _ z)
theorem foldl_min (r : List Int) : ∀ a : Int, r.foldl min a ∈ a :: r ∧ ∀ y ∈ a :: r, r.foldl min a ≤ y := by
  induction r with
  | nil => intro a; simp
  | cons b r ih =>
    intro a
    obtain ⟨h1, h2⟩ := ih (min a b)
    rw [List.foldl_cons]
    refine ⟨?_, fun y hy => ?_⟩
    · rcases List.mem_cons.mp h1 with z | z
      · rw [z]
        rcases Int.le_total a b with q | q
        · rw [Int.min_eq_left q]
          simp
        · rw [Int.min_eq_right q]
          simp
      · simp [z]
    · have hm := h2 (min a b) List.mem_cons_self
      rcases List.mem_cons.mp hy with z | z
      · subst z
        exact Int.le_trans hm (Int.min_le_left ..)
      · rcases List.mem_cons.mp z with z | z
        · subst z
          exact Int.le_trans hm (Int.min_le_right ..)
        · exact h2 y (List.mem_cons_of_mem _ z)
@[simp] def maxLD : D → Option D
  | .list xs => (asIs xs).bind fun ns => (maxI ns).map .int
  | _ => none
@[simp] def minLD : D → Option D
  | .list xs => (asIs xs).bind fun ns => (minI ns).map .int
  | _ => none
section
variable {K : PySem.W.Frag} {X : Cx}
theorem ch_maxL : CallH K (rMax K) maxLD := by
  intro F H v d d3 sb r e Q k
  unfold maxLD at e
  split at e
  · obtain ⟨a, xs, rfl, h1, q1⟩ := r.lst sb
    obtain ⟨ns, e1, e⟩ := bind_some e
    obtain ⟨m, e2, rfl⟩ := Option.map_eq_some_iff.mp e
    obtain rfl := asIs_some e1
    rw [q1.ints_of] at h1
    cases ns with
    | nil => cases e2
    | cons n ns =>
      cases e2
      refine ⟨a, _, rfl, h1, by simp, fun m hm hle => ?_⟩
      obtain ⟨g1, g2⟩ := foldl_max ns n
      rw [Int.le_antisymm (g2 m hm) (hle _ g1)]
      exact k _ F H (.refl sb) (.int _)
  · cases e
theorem ch_minL : CallH K (rMin K) minLD := by
  intro F H v d d3 sb r e Q k
  unfold minLD at e
  split at e
  · obtain ⟨a, xs, rfl, h1, q1⟩ := r.lst sb
    obtain ⟨ns, e1, e⟩ := bind_some e
    obtain ⟨m, e2, rfl⟩ := Option.map_eq_some_iff.mp e
    obtain rfl := asIs_some e1
    rw [q1.ints_of] at h1
    cases ns with
    | nil => cases e2
    | cons n ns =>
      cases e2
      refine ⟨a, _, rfl, h1, by simp, fun m hm hle => ?_⟩
      obtain ⟨g1, g2⟩ := foldl_min ns n
      rw [Int.le_antisymm (hle _ g1) (g2 m hm)]
      exact k _ F H (.refl sb) (.int _)
  · cases e
end
end DL

set_option maxHeartbeats 4000000
/-! DL14: list, tuple of a range. -/
namespace DL
open PySem L2 PyProof.Rows
abbrev RDen := Env → Option ((Int × Int) × Env)
def tRgD (K : PySem.W.Frag) (f : RDen) : L2.St → Hp → (Int → Int → Hp → Prop) → Prop := fun σ H Q => ∃ ρ F d ρ', SOk K F ρ σ H ∧ f ρ = some (d, ρ') ∧ ∀ F' H', Stp K ρ σ F H ρ' σ F' H' → Q d.1 d.2 H'
def rg1O (f : Den) : RDen := fun ρ => (f ρ).bind fun x => (asI x.1).bind fun i => some ((0, i), x.2)
def rg2O (f g : Den) : RDen := fun ρ => (f ρ).bind fun x => (g x.2).bind fun y => (asI x.1).bind fun i => (asI y.1).bind fun j => some ((i, j), y.2)
def DRg (X : Cx) (e : Expr) (f : RDen) : Prop := PRg X e (tRgD X.K f)
def rgB (a b : Int) : Bool := bdI a && bdI b && decide ((b - a).toNat ≤ 2 ^ 24)
theorem rgB_ok {a b : Int} (h : rgB a b = true) : RgOk a b := by
  unfold rgB at h
  rw [Bool.and_eq_true, Bool.and_eq_true] at h
  obtain ⟨⟨h1, h2⟩, h3⟩ := h
  obtain ⟨p1, p2⟩ := bdI_ok h1
  obtain ⟨p3, p4⟩ := bdI_ok h2
  exact ⟨p1, p2, p3, p4, of_decide_eq_true h3⟩
theorem reps_rg {K : PySem.W.Frag} {F : Hp} (a b : Int) : Reps K F (rgV a b) (rngD a (b - a).toNat) := by
  unfold rgV rngD
  generalize List.range (b - a).toNat = l
  induction l with
  | nil => exact .nil
  | cons i l ih => exact .cons (.int _) ih
section
variable {X : Cx} {a b e : Expr} {f g : Den} {r : RDen} {p pos : Pos}
theorem _root_.L2.PRg.weak {t t' : L2.St → Hp → (Int → Int → Hp → Prop) → Prop} (h : PRg X e t) (w : ∀ σ H Q, t' σ H Q → t σ H Q) : PRg X e t' := fun pins s σ H Q I q => h pins s σ H Q I (w _ _ _ q)
theorem drg_1 (hg : Gl X "range") (hm : X.mg "range" = none) (ha : DE X a f) (na : starEach [a] X.env = (false, eval a X.env) :: starEach [] X.env := by rfl) : DRg X (.Call (.Name "range" p) [a] [] pos) (rg1O f) := (prg_1 hg hm ha na).weak fun σ H Q h => by
  obtain ⟨ρ, F, d, ρ', s, e, k⟩ := h
  obtain ⟨⟨x, ρ1⟩, e1, e⟩ := bind_some e
  obtain ⟨i, e2, e⟩ := bind_some e
  cases e
  obtain rfl : x = .int i := asI_some e2
  refine ⟨ρ, F, _, _, s, e1, fun v F1 H1 s1 r1 => ?_⟩
  cases r1
  exact ⟨i, rfl, k F1 H1 s1⟩
theorem drg_2 (hg : Gl X "range") (hm : X.mg "range" = none) (ha : DE X a f) (hb : DE X b g) (na : starEach [a, b] X.env = (false, eval a X.env) :: starEach [b] X.env := by rfl)
    (nb : starEach [b] X.env = (false, eval b X.env) :: starEach [] X.env := by rfl) (hp : (backTo pos (starEach [b] X.env)).any (·.1) = false := by rfl) : DRg X (.Call (.Name "range" p) [a, b] [] pos) (rg2O f g) := (prg_2 hg hm ha hb na nb hp).weak fun σ H Q h => by
  obtain ⟨ρ, F, d, ρ', s, e, k⟩ := h
  obtain ⟨⟨x, ρ1⟩, e1, e⟩ := bind_some e
  obtain ⟨⟨y, ρ2⟩, e2, e⟩ := bind_some e
  obtain ⟨i, e3, e⟩ := bind_some e
  obtain ⟨j, e4, e⟩ := bind_some e
  cases e
  obtain rfl : x = .int i := asI_some e3
  obtain rfl : y = .int j := asI_some e4
  refine ⟨ρ, F, _, _, s, e1, fun v F1 H1 s1 r1 => ⟨ρ1, F1, _, _, s1.ok, e2, fun v2 F2 H2 s2 r2 => ?_⟩⟩
  cases r1
  cases r2
  exact ⟨i, j, rfl, rfl, k F2 H2 (s1.trans s2)⟩
def cLstRg (r : RDen) : Den := fun ρ => (r ρ).bind fun x => if rgB x.1.1 x.1.2 = true then some (.list (rngD x.1.1 (x.1.2 - x.1.1).toNat), x.2) else none
def cTupRg (r : RDen) : Den := fun ρ => (r ρ).bind fun x => if rgB x.1.1 x.1.2 = true then some (.tuple (rngD x.1.1 (x.1.2 - x.1.1).toNat), x.2) else none
theorem do_lstRg (hc : X.calm = true) (hg : Gl X "list") (hm : X.mg "list" = none) (he : DRg X e r) (na : starEach [e] X.env = (false, eval e X.env) :: starEach [] X.env := by rfl) : DO X (.Call (.Name "list" p) [e] [] pos) (cLstRg r) :=
  L2.PE.weak (pe_listRg hc hg hm he na) fun σ H Q h => by
    obtain ⟨ρ, F, d, ρ', s, e, k⟩ := h
    obtain ⟨⟨x, ρ1⟩, e1, e⟩ := bind_some e
    split at e
    · rename_i hb
      cases e
      refine ⟨ρ, F, x, _, s, e1, fun F1 H1 s1 => ⟨rgB_ok hb, fun q hq => ?_⟩⟩
      exact k q F1 _ (s1.thenPx (Px.laidO s1.ok.sub hq)) ⟨s1.ok.sub.none hq, _, upd_same, .lst (reps_rg _ _)⟩ (s1.ok.fresh hq).2 (s1.gr.live q hq)
    · cases e
theorem de_tupRg (hc : X.calm = true) (hg : Gl X "tuple") (hm : X.mg "tuple" = none) (he : DRg X e r) (na : starEach [e] X.env = (false, eval e X.env) :: starEach [] X.env := by rfl) : DE X (.Call (.Name "tuple" p) [e] [] pos) (cTupRg r) :=
  L2.PE.weak (pe_tupRg hc hg hm he na) fun σ H Q h => by
    obtain ⟨ρ, F, d, ρ', s, e, k⟩ := h
    obtain ⟨⟨x, ρ1⟩, e1, e⟩ := bind_some e
    split at e
    · rename_i hb
      cases e
      refine ⟨ρ, F, x, _, s, e1, fun F1 H1 s1 => ⟨rgB_ok hb, fun q hq => ?_⟩⟩
      have px := Px.laid (o := .tup (rgV x.1 x.2)) s1.ok.sub hq
      exact k (.ref q) _ _ (s1.thenPx px) (.tup upd_same (reps_rg _ _))
    · cases e
end
end DL

set_option maxHeartbeats 4000000
/-! DL20: small words for what gen.py prints. -/
namespace DL
open PySem PySem.Spec L2 PyProof.Rows
def ltI : D → D → Option D := cmpI fun i j => decide (i < j)
def leI : D → D → Option D := cmpI fun i j => decide (i ≤ j)
def gtI : D → D → Option D := cmpI fun i j => decide (j < i)
def geI : D → D → Option D := cmpI fun i j => decide (j ≤ i)
theorem hu65 {A : Around} {k : Nat} (hr : Room k A) : A.units + 65 < cLine := by have := hr.un; omega
def cAsg (f : Den) (t : GDen) : SDen := fun ρ => (f ρ).bind fun x => (t x.1 x.2).bind fun ρ' => some (.nx ρ')
theorem sp_start {K : PySem.W.Frag} {H : Hp} {a : Addr} {ns : List Int} {m : List D → Option D} {Q : VK} {E : XK} (hS : SqL K H a (ns.map V.int)) (h : m [.list (ns.map .int)] = some (.bool true)) (q : ∀ H', Q (.bl true) H') : spD K m [.ref a] H Q E := by
  have fin : ∀ F : Hp, Sub F H → LsF K F a (ns.map V.int) → spD K m [.ref a] H Q E := fun F sb l => by
    refine ⟨F, _, _, sb, .cons (.lst l (Reps.ints F ns)) .nil, h, fun v F' H' _ r => ?_⟩
    cases r
    exact q H'
  have one : ∀ u, H a = some u → Sub (upd (fun _ => none) a u) H := fun u hu b w e => by
    by_cases hb : b = a
    · subst hb
      rw [upd_same] at e
      cases e
      exact .inl hu
    · rw [upd_ne hb] at e
      cases e
  rcases id hS with h1 | h1
  · rcases h1 with h1 | ⟨o, h1⟩
    · exact fin _ (one _ h1) (.inl upd_same)
    · exact fin _ (one _ h1) (.inr (.inl ⟨o, upd_same⟩))
  · exact fin (fun _ => none) (fun _ _ e => by cases e) (.inr (.inr (.inr h1)))
end DL

set_option maxHeartbeats 4000000
/-! DL15: what never runs; isinstance; sorted, min, max of data. -/
namespace DL
open PySem L2 PyProof.Rows
/-! ### sorting by putting in, one by one (so that the kernel can work it out) -/
section
variable {α : Type} {le : α → α → Bool}
def insT (le : α → α → Bool) (x : α) : List α → List α
  | [] => [x]
  | y :: ys => cond (le x y) (x :: y :: ys) (y :: insT le x ys)
def isrt (le : α → α → Bool) : List α → List α
  | [] => []
  | x :: xs => insT le x (isrt le xs)
theorem mem_insT {x y : α} : ∀ {l : List α}, y ∈ insT le x l → y = x ∨ y ∈ l
  | [], h => .inl (List.mem_singleton.mp h)
  | z :: l, h => by
    unfold insT at h
    cases q : le x z <;> rw [q] at h
    · rcases List.mem_cons.mp h with e | e
      · exact .inr (by rw [e]; exact List.mem_cons_self)
      · rcases mem_insT e with e | e
        · exact .inl e
        · exact .inr (List.mem_cons_of_mem _ e)
    · rcases List.mem_cons.mp h with e | e
      · exact .inl e
      · exact .inr e
theorem insT_pw (h : PySem.W.TotalLe le) (x : α) : ∀ l : List α, l.Pairwise (fun a b => le a b = true) → (insT le x l).Pairwise (fun a b => le a b = true)
  | [], _ => by simp [insT]
  | z :: l, hp => by
    obtain ⟨h1, h2⟩ := List.pairwise_cons.mp hp
    unfold insT
    cases q : le x z
    · refine List.pairwise_cons.mpr ⟨fun y hy => ?_, insT_pw h x l h2⟩
      rcases mem_insT hy with e | e
      · subst e
        rcases h.total y z with k | k
        · rw [q] at k; cases k
        · exact k
      · exact h1 y e
    · refine List.pairwise_cons.mpr ⟨fun y hy => ?_, hp⟩
      rcases List.mem_cons.mp hy with e | e
      · rw [e]
        exact q
      · exact h.trans x z y q (h1 y e)
theorem isrt_pw (h : PySem.W.TotalLe le) : ∀ l : List α, (isrt le l).Pairwise (fun a b => le a b = true)
  | [] => .nil
  | x :: l => insT_pw h x _ (isrt_pw h l)
theorem insT_rank (h : PySem.W.TotalLe le) (x c : α) : ∀ l : List α, (insT le x l).filter (PySem.W.sameRank le c) = (x :: l).filter (PySem.W.sameRank le c)
  | [] => rfl
  | z :: l => by
    unfold insT
    cases q : le x z
    · show (z :: insT le x l).filter _ = _
      have ih := insT_rank h x c l
      cases hz : PySem.W.sameRank le c z with
      | true =>
        have hx : PySem.W.sameRank le c x = false := by
          cases hx : PySem.W.sameRank le c x with
          | false => rfl
          | true =>
            unfold PySem.W.sameRank at hz hx
            rw [Bool.and_eq_true] at hz hx
            have := h.trans x c z hx.2 hz.1
            rw [q] at this
            cases this
        rw [List.filter_cons_of_pos hz, ih, List.filter_cons_of_neg (by rw [hx]; exact Bool.false_ne_true), List.filter_cons_of_neg (by rw [hx]; exact Bool.false_ne_true), List.filter_cons_of_pos hz]
      | false =>
        rw [List.filter_cons_of_neg (by rw [hz]; exact Bool.false_ne_true), ih]
        cases hx : PySem.W.sameRank le c x with
        | true => rw [List.filter_cons_of_pos hx, List.filter_cons_of_pos hx, List.filter_cons_of_neg (by rw [hz]; exact Bool.false_ne_true)]
        | false => rw [List.filter_cons_of_neg (by rw [hx]; exact Bool.false_ne_true), List.filter_cons_of_neg (by rw [hx]; exact Bool.false_ne_true), List.filter_cons_of_neg (by rw [hz]; exact Bool.false_ne_true)]
    · rfl
theorem isrt_rank (h : PySem.W.TotalLe le) (c : α) : ∀ l : List α, (isrt le l).filter (PySem.W.sameRank le c) = l.filter (PySem.W.sameRank le c)
  | [] => rfl
  | x :: l => by
    show (insT le x (isrt le l)).filter _ = _
    rw [insT_rank h x c]
    have ih := isrt_rank h c l
    cases hx : PySem.W.sameRank le c x with
    | true => rw [List.filter_cons_of_pos hx, List.filter_cons_of_pos hx, ih]
    | false => rw [List.filter_cons_of_neg (by rw [hx]; exact Bool.false_ne_true), List.filter_cons_of_neg (by rw [hx]; exact Bool.false_ne_true), ih]
theorem isrt_eq (h : PySem.W.TotalLe le) (l : List α) : l.mergeSort le = isrt le l := (PySem.W.sort_unique h (isrt_pw h l) fun c => isrt_rank h c l).symm
end
/-! ### what never runs -/
def cFail : SDen := fun _ => none
def cFailE : Den := fun _ => none
theorem ds_fail {X : Cx} {s : Stmt} : DS X s cFail := ⟨fun pins s σ H D I h => by
  obtain ⟨_, _, _, _, e, _⟩ := h
  cases e⟩
theorem de_fail {X : Cx} {e : Expr} : DE X e cFailE := ⟨fun pins s σ H Q I h => by
  obtain ⟨_, _, _, _, _, e, _⟩ := h
  cases e⟩
/-! ### isinstance -/
def tyD : D → String
  | .none => "NoneType"
  | .bool _ => "bool"
  | .int _ => "int"
  | .str _ => "str"
  | .list _ => "list"
  | .tuple _ => "tuple"
  | .dict _ => "dict"
def TyY (K : PySem.W.Frag) (H : Hp) (v : V) (t : Value) : Prop := TyX K H v t ∨ ∃ a o kvs, v = .ref a ∧ H a = some (.frz o (.dT kvs)) ∧ t = .type "dict"
def rIsiY (K : PySem.W.Frag) : List V → Hp → VK → Prop := fun xs H Q => ∃ (x c : V) (t u : Value) (b : Bool), xs = [x, c] ∧ ClsV c u ∧ TyY K H x t ∧ PySem.W.kitOne K t u = some b ∧ Q (.bl b) H
section
variable {X : Cx} {K : PySem.W.Frag}
theorem call_isiY : CallR X (.builtin "isinstance") (rIsiY X.K) := by
  intro pins s σ H xs us Q I r h
  obtain ⟨x, c, t, u, b, rfl, k, ty, e, q⟩ := h
  obtain ⟨u1, u2, rfl, r1, r2⟩ := vals2 r
  have e2 := k.eq r2
  subst e2
  rcases ty with ty | ⟨a, ob, kvs, rfl, ea, rfl⟩
  · obtain ⟨P, Z, p, hx⟩ := kit_of I r1 ty
    exact PySem.W.kia_one Z I.kIn p e hx fun tk => ⟨.bl b, H, I.tok tk, rfl, q⟩
  · cases (show u1 = Value.ref a from r1)
    obtain ⟨_, _, _, xs, _, o, es, ep, h1, h2, _⟩ := (show ObjOk X.prog X.w H s.heap a (.frz ob (.dT kvs)) from I.hok a _ ea)
    exact PySem.W.kia_one PySem.W.kitx_dict I.kIn ⟨o, h1, h2.1⟩ e (fun z => nomatch z) fun tk => ⟨.bl b, H, I.tok tk, rfl, q⟩
theorem RepH.tyY {F H : Hp} {v : V} {d : D} (h : RepH K F H v d) (sb : Sub F H) : TyY K H v (.type (tyD d)) := by
  rcases h with h | ⟨p, u, rfl, hu, t⟩
  · cases h with
    | non => exact .inl (.base .non)
    | bl b => exact .inl (.base (.bl b))
    | int i => exact .inl (.base (.int i))
    | str s => exact .inl (.base (.str s))
    | lst h r =>
      rcases h.sq sb with (h | ⟨o, h⟩) | ⟨o, its, n, h1, h2, _⟩
      · exact .inl (.base (.lst h))
      · exact .inl (.base (.frz h))
      · exact .inl (.kList h1 h2)
    | tup h r => exact .inl (.base (.tup (h.at sb)))
    | dK h r =>
      rcases (sb _ _ h).rd with h | ⟨o, h⟩
      · exact .inl (.base (.dK h))
      · exact .inl (.fDict h)
    | dT h r =>
      rcases (sb _ _ h).rd with h | ⟨o, h⟩
      · exact .inl (.base (.dT h))
      · exact .inr ⟨_, o, _, rfl, h, rfl⟩
  · cases t with
    | lst r => exact .inl (.base (.lst hu))
    | dK r => exact .inl (.base (.dK hu))
    | dT r => exact .inl (.base (.dT hu))
/-- the classes that are asked for -/
def isT (T : String) (d : D) : Option Bool := match T with
  | "bool" => some (match d with | .bool _ => true | _ => false)
  | "int" => some (match d with | .bool _ => true | .int _ => true | _ => false)
  | "str" => some (match d with | .str _ => true | _ => false)
  | "list" => some (match d with | .list _ => true | _ => false)
  | "tuple" => some (match d with | .tuple _ => true | _ => false)
  | "dict" => some (match d with | .dict _ => true | _ => false)
  | _ => none
def isiD (T : String) (d : D) : Option D := (isT T d).map .bool
theorem isT_kit {T : String} {d : D} {b : Bool} (h : isT T d = some b) : PySem.W.kitOne K (.type (tyD d)) (.type T) = some b := by
  apply kit_ty
  unfold isT at h
  split at h
  case h_7 => cases h
  all_goals
    cases h
    cases d <;> dsimp only [tyD] <;> decide +kernel
variable {pos p p2 : Pos} {a : Expr} {o : ODen}
theorem de_isi (T : String) {x : Str} (hT : bootBuiltins x = some (.type T)) (hm2 : X.mg x = none) (hm : X.mg "isinstance" = none) (ha : DOd X a o) (hg2 : Gl X x := by rfl) (hg : Gl X "isinstance" := by rfl)
    (hn : x ≠ "__name__" := by decide +kernel) (hdb : (x == ("__debug__" : Str)) = false := by decide +kernel) (he : starEach [a, .Name x p2] X.env = (false, eval a X.env) :: starEach [.Name x p2] X.env := by rfl) (he2 : starEach [.Name x p2] X.env = (false, eval (.Name x p2) X.env) :: starEach [] X.env := by rfl) (hpl : (backTo pos (starEach [.Name x p2] X.env)).any (·.1) = false := by rfl) :
    DE X (.Call (.Name "isinstance" p) [a, .Name x p2] [] pos) (cUn (isiD T) o) :=
  (pe_callB call_isiY hg hm PyProof.Rows.boot_isinstance (pa_cons ha (pa_cons (pe_bltn (v := .ty T) hg2 hm2 hT rfl hn hdb) pa_nil he2) he) (by decide +kernel) (by decide +kernel) he hpl).weak fun σ H Q h => by
    obtain ⟨ρ, F, d, ρ', s, e, k⟩ := h
    obtain ⟨⟨x, ρ1⟩, e1, e⟩ := bind_some e
    obtain ⟨y, e2, e⟩ := bind_some e
    obtain ⟨z, e3, e⟩ := bind_some e
    cases e
    obtain ⟨b, e4, rfl⟩ := Option.map_eq_some_iff.mp e3
    exact ⟨ρ, F, x, _, s, e1, fun v F1 H1 s1 r1 => ⟨_, _, _, _, b, rfl, .ty T, (r1.rep s1.ok e2).tyY s1.ok.sub, isT_kit e4, k _ F1 H1 s1 (.bl b)⟩⟩
/-! ### sorted -/
def alikeB (xs : List D) : Bool := xs.all fun x => xs.all fun y => PySem.W.alike x y
def tupsB (xs : List D) : Bool := xs.all fun x => match x with
  | .tuple (_ :: _) => true
  | _ => false
def othersB (xs : List D) : Bool := xs.all fun x => match x with
  | .tuple _ => false
  | .none => false
  | _ => true
/-- tuples of ints, none empty; ints -/
def isIntB : D → Bool
  | .int _ => true
  | _ => false
def tupIB (xs : List D) : Bool := xs.all fun x => match x with
  | .tuple (y :: ys) => (y :: ys).all isIntB
  | _ => false
theorem alike_intsB : ∀ {xs ys : List D}, xs.all isIntB = true → ys.all isIntB = true → PySem.W.alikeAll xs ys = true
  | [], _, _, _ => by simp [PySem.W.alikeAll]
  | _ :: _, [], _, _ => by simp [PySem.W.alikeAll]
  | x :: xs, y :: ys, h1, h2 => by
    rw [List.all_cons, Bool.and_eq_true] at h1 h2
    have hx : ∀ z : D, isIntB z = true → ∃ i, z = .int i := fun z hz => by
      cases z with
      | int i => exact ⟨i, rfl⟩
      | _ => cases hz
    obtain ⟨i, rfl⟩ := hx x h1.1
    obtain ⟨j, rfl⟩ := hx y h2.1
    rw [PySem.W.alikeAll, alike_intsB h1.2 h2.2]
    rfl
theorem tupIB_ok {xs : List D} (h : tupIB xs = true) : alikeB xs = true ∧ tupsB xs = true := by
  have key : ∀ x ∈ xs, ∃ y ys, x = .tuple (y :: ys) ∧ (y :: ys).all isIntB = true := fun x hx => by
    have := List.all_eq_true.mp h x hx
    split at this
    · exact ⟨_, _, rfl, this⟩
    · cases this
  refine ⟨List.all_eq_true.mpr fun x hx => List.all_eq_true.mpr fun y hy => ?_, List.all_eq_true.mpr fun x hx => ?_⟩
  · obtain ⟨a, as, rfl, ha⟩ := key x hx
    obtain ⟨b, bs, rfl, hb⟩ := key y hy
    rw [PySem.W.alike]
    exact alike_intsB ha hb
  · obtain ⟨a, as, rfl, ha⟩ := key x hx
    rfl
/-- kinds of simple data -/
def kd : D → Nat
  | .int _ => 1
  | .str _ => 2
  | .bool _ => 3
  | .tuple xs => cond (xs.all isIntB) 4 0
  | .list xs => cond (xs.all isIntB) 5 0
  | _ => 0
def kdOk (ks : List Nat) : D → Bool
  | .tuple (y :: ys) => decide ((y :: ys).map kd = ks)
  | _ => false
/-- tuples of one form, told by the first -/
def tupKB : List D → Bool
  | .tuple (y :: ys) :: xs => !((y :: ys).map kd).contains 0 && xs.all (kdOk ((y :: ys).map kd))
  | _ => false
theorem kd_alike {x y : D} (h : kd x = kd y) (h0 : kd x ≠ 0) : PySem.W.alike x y = true := by
  have hi : ∀ {xs : List D}, xs.all isIntB = false → (cond (xs.all isIntB) 4 0 : Nat) = 0 := fun h => by rw [h]; rfl
  have hj : ∀ {xs : List D}, xs.all isIntB = false → (cond (xs.all isIntB) 5 0 : Nat) = 0 := fun h => by rw [h]; rfl
  have hi1 : ∀ {xs : List D}, xs.all isIntB = true → (cond (xs.all isIntB) 4 0 : Nat) = 4 := fun h => by rw [h]; rfl
  have hj1 : ∀ {xs : List D}, xs.all isIntB = true → (cond (xs.all isIntB) 5 0 : Nat) = 5 := fun h => by rw [h]; rfl
  have tl : ∀ {d : D}, kd d = 4 → ∃ xs, d = .tuple xs ∧ xs.all isIntB = true := fun {d} hd => by
    cases d with
    | tuple xs =>
      cases ha : xs.all isIntB with
      | true => exact ⟨xs, rfl, ha⟩
      | false => rw [kd, hi ha] at hd; cases hd
    | list xs =>
      cases ha : xs.all isIntB with
      | true => rw [kd, hj1 ha] at hd; cases hd
      | false => rw [kd, hj ha] at hd; cases hd
    | _ => cases hd
  have ls : ∀ {d : D}, kd d = 5 → ∃ xs, d = .list xs ∧ xs.all isIntB = true := fun {d} hd => by
    cases d with
    | list xs =>
      cases ha : xs.all isIntB with
      | true => exact ⟨xs, rfl, ha⟩
      | false => rw [kd, hj ha] at hd; cases hd
    | tuple xs =>
      cases ha : xs.all isIntB with
      | true => rw [kd, hi1 ha] at hd; cases hd
      | false => rw [kd, hi ha] at hd; cases hd
    | _ => cases hd
  have at1 : ∀ {d : D}, kd d = 1 → ∃ i, d = .int i := fun {d} hd => by
    cases d with
    | int i => exact ⟨i, rfl⟩
    | tuple xs => cases ha : xs.all isIntB <;> rw [kd, ha] at hd <;> cases hd
    | list xs => cases ha : xs.all isIntB <;> rw [kd, ha] at hd <;> cases hd
    | _ => cases hd
  have at2 : ∀ {d : D}, kd d = 2 → ∃ i, d = .str i := fun {d} hd => by
    cases d with
    | str i => exact ⟨i, rfl⟩
    | tuple xs => cases ha : xs.all isIntB <;> rw [kd, ha] at hd <;> cases hd
    | list xs => cases ha : xs.all isIntB <;> rw [kd, ha] at hd <;> cases hd
    | _ => cases hd
  have at3 : ∀ {d : D}, kd d = 3 → ∃ i, d = .bool i := fun {d} hd => by
    cases d with
    | bool i => exact ⟨i, rfl⟩
    | tuple xs => cases ha : xs.all isIntB <;> rw [kd, ha] at hd <;> cases hd
    | list xs => cases ha : xs.all isIntB <;> rw [kd, ha] at hd <;> cases hd
    | _ => cases hd
  cases x with
  | int i =>
    obtain ⟨j, rfl⟩ := at1 h.symm
    simp [PySem.W.alike]
  | str s =>
    obtain ⟨j, rfl⟩ := at2 h.symm
    simp [PySem.W.alike]
  | bool s =>
    obtain ⟨j, rfl⟩ := at3 h.symm
    simp [PySem.W.alike]
  | tuple xs =>
    cases ha : xs.all isIntB with
    | false => exact absurd (hi ha) h0
    | true =>
      rw [kd, hi1 ha] at h
      obtain ⟨ys, rfl, hb⟩ := tl h.symm
      rw [PySem.W.alike]
      exact alike_intsB ha hb
  | list xs =>
    cases ha : xs.all isIntB with
    | false => exact absurd (hj ha) h0
    | true =>
      rw [kd, hj1 ha] at h
      obtain ⟨ys, rfl, hb⟩ := ls h.symm
      rw [PySem.W.alike]
      exact alike_intsB ha hb
  | none => exact absurd rfl h0
  | dict es => exact absurd rfl h0
theorem kds_alike : ∀ {xs ys : List D}, xs.map kd = ys.map kd → (xs.map kd).contains 0 = false → PySem.W.alikeAll xs ys = true
  | [], _, _, _ => by simp [PySem.W.alikeAll]
  | _ :: _, [], _, _ => by simp [PySem.W.alikeAll]
  | x :: xs, y :: ys, h, h0 => by
    rw [List.map_cons, List.map_cons, List.cons.injEq] at h
    rw [List.map_cons, List.contains_cons, Bool.or_eq_false_iff] at h0
    rw [PySem.W.alikeAll, kd_alike h.1 (fun z => by rw [z] at h0; simp at h0), kds_alike h.2 h0.2]
    rfl
theorem tupKB_ok {xs : List D} (h : tupKB xs = true) : alikeB xs = true ∧ tupsB xs = true := by
  obtain ⟨ks, h0, hk⟩ : ∃ ks : List Nat, ks.contains 0 = false ∧ ∀ x ∈ xs, kdOk ks x = true := by
    unfold tupKB at h
    split at h
    · rename_i y ys zs
      rw [Bool.and_eq_true] at h
      refine ⟨(y :: ys).map kd, by simpa using h.1, fun x hx => ?_⟩
      rcases List.mem_cons.mp hx with rfl | hx
      · unfold kdOk
        exact decide_eq_true rfl
      · exact List.all_eq_true.mp h.2 x hx
    · cases h
  have key : ∀ x ∈ xs, ∃ y ys, x = .tuple (y :: ys) ∧ (y :: ys).map kd = ks := fun x hx => by
    have := hk x hx
    unfold kdOk at this
    split at this
    · exact ⟨_, _, rfl, of_decide_eq_true this⟩
    · cases this
  refine ⟨List.all_eq_true.mpr fun x hx => List.all_eq_true.mpr fun y hy => ?_, List.all_eq_true.mpr fun x hx => ?_⟩
  · obtain ⟨a, as, rfl, ha⟩ := key x hx
    obtain ⟨b, bs, rfl, hb⟩ := key y hy
    rw [PySem.W.alike]
    exact kds_alike (ha.trans hb.symm) (by rw [ha]; exact h0)
  · obtain ⟨a, as, rfl, ha⟩ := key x hx
    rfl
def sortOk (xs : List D) : Bool := (tupIB xs || (tupKB xs || (alikeB xs && (tupsB xs || othersB xs)))) && decide (xs.length ≤ sizeLine) && decide (PyData.depthAll xs ≤ 32) && PyData.canLayAll0 xs
def srt (xs : List D) : List D := isrt (PySem.W.dataLe false id) xs
theorem srt_eq (xs : List D) : xs.mergeSort (PySem.W.dataLe false id) = srt xs := isrt_eq (PySem.W.sortLe_total _ _ _) xs
def sortedD : D → Option D
  | .list xs => if sortOk xs = true then some (.list (srt xs)) else none
  | _ => none
def rSortDt (K : PySem.W.Frag) : List V → Hp → VK → Prop := fun vs H Q => ∃ (a : Addr) (xs : List V) (ds : List D), vs = [V.ref a] ∧ SqL K H a xs ∧ DpAll K H xs ds ∧ sortOk ds = true ∧
  ∀ (ys : List V) (p : Addr), PySem.W.EachIs (fun v d => (v, d) ∈ xs.zip ds) ys (srt ds) → H p = none → Q (.ref p) (upd H p (.lst ys))
theorem depth_le_all : ∀ {ds : List D} {d : D}, d ∈ ds → d.depth ≤ PyData.depthAll ds
  | x :: ds, d, h => by
    rw [PyData.depthAll]
    rcases List.mem_cons.mp h with z | z
    · subst z
      exact Nat.le_max_left _ _
    · exact Nat.le_trans (depth_le_all z) (Nat.le_max_right _ _)
theorem each_zip {R : V → Value → Prop} : ∀ {xs : List V} {us : List Value} {ds : List D}, Vals xs us → xs.length = ds.length → PySem.W.EachIs (fun (u : Value) (d : D) => ∃ v, RelV v u ∧ (v, d) ∈ xs.zip ds) us ds := by
  intro xs us ds r hl
  have gen : ∀ {xs : List V} {us : List Value} {ds : List D} (ps : List (V × D)), Vals xs us → xs.length = ds.length → (∀ p ∈ xs.zip ds, p ∈ ps) → PySem.W.EachIs (fun (u : Value) (d : D) => ∃ v, RelV v u ∧ (v, d) ∈ ps) us ds := by
    intro xs
    induction xs with
    | nil =>
      intro us ds ps r hl hp
      cases r
      cases ds with
      | nil => exact .nil
      | cons _ _ => simp at hl
    | cons x xs ih =>
      intro us ds ps r hl hp
      cases r with
      | cons r1 r2 =>
        cases ds with
        | nil => simp at hl
        | cons d ds => exact .cons ⟨x, r1, hp _ (by simp)⟩ (ih ps r2 (by simpa using hl) fun p h => hp p (List.mem_cons_of_mem _ h))
  exact gen _ r hl fun p h => h
theorem each_vals {ps : List (V × D)} : ∀ {us : List Value} {ds : List D}, PySem.W.EachIs (fun (u : Value) (d : D) => ∃ v, RelV v u ∧ (v, d) ∈ ps) us ds → ∃ ys, Vals ys us ∧ PySem.W.EachIs (fun v d => (v, d) ∈ ps) ys ds
  | _, _, .nil => ⟨[], .nil, .nil⟩
  | _, _, .cons ⟨v, r, h⟩ t => by
    obtain ⟨ys, r2, t2⟩ := each_vals t
    exact ⟨v :: ys, .cons r r2, .cons h t2⟩
theorem each_reads {h : Heap} : ∀ {us : List Value} {ds : List D} {as : List Addr}, ReadsAll h us ds as → PySem.W.EachIs (fun v d => ∃ as, Reads h v d as) us ds
  | _, _, _, .nil => .nil
  | _, _, _, .cons h1 h2 => .cons ⟨_, h1⟩ (each_reads h2)
theorem sortOk_parts {ds : List D} (h : sortOk ds = true) : PySem.W.AllAlike ds ∧ PySem.W.Sortable ds ∧ ds.length ≤ sizeLine ∧ PyData.depthAll ds ≤ 32 ∧ PyData.canLayAll0 ds = true := by
  unfold sortOk at h
  rw [Bool.and_eq_true, Bool.and_eq_true, Bool.and_eq_true, Bool.or_eq_true] at h
  obtain ⟨⟨⟨h0, h3⟩, h4⟩, h5⟩ := h
  obtain ⟨h1, h2⟩ : alikeB ds = true ∧ (tupsB ds = true ∨ othersB ds = true) := by
    rcases h0 with h0 | h0
    · exact ⟨(tupIB_ok h0).1, .inl (tupIB_ok h0).2⟩
    rw [Bool.or_eq_true] at h0
    rcases h0 with h0 | h0
    · exact ⟨(tupKB_ok h0).1, .inl (tupKB_ok h0).2⟩
    · rw [Bool.and_eq_true, Bool.or_eq_true] at h0
      exact h0
  refine ⟨fun d hd d' hd' => List.all_eq_true.mp (List.all_eq_true.mp h1 d hd) d' hd', ?_, of_decide_eq_true h3, of_decide_eq_true h4, h5⟩
  rcases h2 with h2 | h2
  · refine .inl fun d hd => ?_
    have := List.all_eq_true.mp h2 d hd
    split at this
    · exact ⟨_, _, rfl⟩
    · cases this
  · refine .inr fun d hd => ?_
    have := List.all_eq_true.mp h2 d hd
    split at this
    · cases this
    · cases this
    · rename_i h1 h2
      exact ⟨fun z => h2 z, fun xs z => h1 xs z⟩
theorem cr_sortDt (hu : X.A.units + 64 < cLine) : CallR X (.builtin "sorted") (rSortDt X.K) := by
  intro pins s σ H vs us Q I r h
  obtain ⟨a, xs, ds, rfl, hs, dp, ok, q⟩ := h
  obtain ⟨hal, hk, hL, hd, _⟩ := sortOk_parts ok
  obtain ⟨its, rv, hl, _⟩ := I.list hs
  rw [Vals.ref1 r]
  obtain ⟨as, hr⟩ := Dp.readsAll I ds xs its dp rv
  have hlen : xs.length = ds.length := by
    have h1 := rv.length
    have h2 := PySem.SeqAt.ReadsAll.length _ _ _ hr
    omega
  refine PySem.W.sorted_data (β := PyData) (enc := id) (bs := ds) hl.isList (each_zip (R := fun _ _ => True) rv hlen) (each_reads hr) (by rw [List.map_id]; exact hal) (by rw [List.map_id]; exact hk) hL (fun b hb => ?_) fun out ho eo => ?_
  · have := depth_le_all hb
    show X.A.units + 2 + b.depth < cLine
    omega
  · rw [srt_eq] at eo
    obtain ⟨ys, ry, ey⟩ := each_vals eo
    obtain ⟨ep, he'⟩ := PyProof.Rows.sortedAll_at s.heap its out.toArray
    have hz : ys.length ≤ sizeLine := by
      rw [ry.length, ho]
      exact hL
    refine ⟨.ref _, upd H (s.heap.objs.size + 1) (.lst ys), I.laid (t' := s.toks) (fun _ _ => PyProof.Rows.sortedAll_old) (Nat.le_succ _) ⟨hz, out, ep, ry, ?_⟩, rfl, q ys _ ey (I.hok.fresh (Nat.le_succ _))⟩
    simpa using he'
theorem DpAll.length {H : Hp} : ∀ {xs : List V} {ds : List D}, DpAll K H xs ds → xs.length = ds.length
  | _, _, .nil => rfl
  | _, _, .cons _ t => congrArg (· + 1) (DpAll.length t)
theorem reps_zip {F : Hp} : ∀ {xs : List V} {ds : List D}, Reps K F xs ds → ∀ p ∈ xs.zip ds, Rep K F p.1 p.2
  | _, _, .nil, p, h => by simp at h
  | _, _, .cons r t, p, h => by
    rw [List.zip_cons_cons] at h
    rcases List.mem_cons.mp h with z | z
    · subst z
      exact r
    · exact reps_zip t p z
theorem each_reps {F : Hp} {ps : List (V × D)} (hp : ∀ p ∈ ps, Rep K F p.1 p.2) : ∀ {ys : List V} {ds : List D}, PySem.W.EachIs (fun v d => (v, d) ∈ ps) ys ds → Reps K F ys ds
  | _, _, .nil => .nil
  | _, _, .cons h t => .cons (hp _ h) (each_reps hp t)
theorem co_sortDt : CallO K (rSortDt K) sortedD := by
  intro F H v d d3 sb r e Q k
  unfold sortedD at e
  split at e
  · split at e
    · rename_i ok
      cases e
      obtain ⟨a, xs, rfl, h1, q1⟩ := r.lst sb
      obtain ⟨_, _, _, _, hlay⟩ := sortOk_parts ok
      refine ⟨a, xs, _, rfl, h1, q1.dp sb hlay, ok, fun ys p ey hp => ?_⟩
      exact k p F _ (Px.laidO sb hp) ⟨sb.none hp, _, upd_same, .lst (each_reps (fun z hz => reps_zip q1 z hz) ey)⟩ hp
    · cases e
  · cases e
theorem do_b1 {x : Str} {p : Pos} {id : String} {r : List V → Hp → VK → Prop} {op : D → Option D} (hc : CallR X (.builtin id) r) (ho : CallO X.K r op) (hg : Gl X x) (hm : X.mg x = none) (hv : bootBuiltins x = some (.builtin id)) (ha : DOd X a o)
    (hn : x ≠ "__name__" := by decide +kernel) (hdb : (x == ("__debug__" : Str)) = false := by decide +kernel) (he : starEach [a] X.env = (false, eval a X.env) :: starEach [] X.env := by rfl) (hpl : (backTo pos (starEach [] X.env)).any (·.1) = false := by rfl) :
    DO X (.Call (.Name x p) [a] [] pos) (cUn op o) := (pe_callB hc hg hm hv (pa_cons ha pa_nil he) hn hdb he hpl).weak fun σ H Q h => by
  obtain ⟨ρ, F, d, ρ', s, e, k⟩ := h
  obtain ⟨⟨x, ρ1⟩, e1, e⟩ := bind_some e
  obtain ⟨y, e2, e⟩ := bind_some e
  obtain ⟨z, e3, e⟩ := bind_some e
  cases e
  exact ⟨ρ, F, x, _, s, e1, fun v F1 H1 s1 r1 => ho F1 H1 v y _ s1.ok.sub (r1.rep s1.ok e2) e3 Q fun p F' H' px ow hp => k p F' H' (s1.thenPx px) ow (s1.ok.fresh hp).2 (s1.gr.live p hp)⟩
/-! ### min, max of data -/
def mmOk (xs : List D) : Bool := alikeB xs && (xs.all fun x => !isNo x) && decide (PyData.depthAll xs ≤ 32) && PyData.canLayAll0 xs
def minDD : D → Option D
  | .list (x :: xs) => if mmOk (x :: xs) = true then some (PySem.W.minD x xs) else none
  | _ => none
def maxDD : D → Option D
  | .list (x :: xs) => if mmOk (x :: xs) = true then some (PySem.W.maxD x xs) else none
  | _ => none
theorem mmOk_parts {ds : List D} (h : mmOk ds = true) : PySem.W.AlikeAll ds ∧ PyData.depthAll ds ≤ 32 ∧ PyData.canLayAll0 ds = true := by
  unfold mmOk at h
  rw [Bool.and_eq_true, Bool.and_eq_true, Bool.and_eq_true] at h
  obtain ⟨⟨⟨h1, h2⟩, h3⟩, h4⟩ := h
  refine ⟨⟨fun d hd d' hd' => List.all_eq_true.mp (List.all_eq_true.mp h1 d hd) d' hd', fun x hx z => ?_⟩, of_decide_eq_true h3, h4⟩
  subst z
  have := List.all_eq_true.mp h2 _ hx
  cases this
def rMM (K : PySem.W.Frag) (best : D → List D → D) : List V → Hp → VK → Prop := fun vs H Q => ∃ (a : Addr) (xs : List V) (d : D) (ds : List D), vs = [V.ref a] ∧ SqL K H a xs ∧ DpAll K H xs (d :: ds) ∧ mmOk (d :: ds) = true ∧ ∀ v, (v, best d ds) ∈ xs.zip (d :: ds) → Q v H
theorem fold_mem {f : D → D → Bool} : ∀ (xs : List D) (x : D), xs.foldl (fun a y => if f y a = true then y else a) x ∈ x :: xs
  | [], x => List.mem_cons_self
  | y :: xs, x => by
    rw [List.foldl_cons]
    have := fold_mem (f := f) xs (if f y x = true then y else x)
    split at this
    · rename_i h
      rw [if_pos h]
      exact List.mem_cons_of_mem _ this
    · rename_i h
      rw [if_neg h]
      rcases List.mem_cons.mp this with z | z
      · rw [z]
        exact List.mem_cons_self
      · exact List.mem_cons_of_mem _ (List.mem_cons_of_mem _ z)
theorem zip_at {xs : List V} {us : List Value} {ds : List D} {h : Heap} {as : List Addr} (rv : Vals xs us) (hr : ReadsAll h us ds as) (hal : ∀ x ∈ ds, ∀ y ∈ ds, PySem.W.alike x y = true) {i : Nat} {u : Value} {b : D} {bs : List Addr} (hu : us[i]? = some u) (r : Reads h u b bs) (hb : b ∈ ds) : ∃ v, RelV v u ∧ (v, b) ∈ xs.zip ds := by
  have hlen : us.length = ds.length := PySem.SeqAt.ReadsAll.length _ _ _ hr
  have hx := rv.length
  have hi := (List.getElem?_eq_some_iff.mp hu).1
  obtain ⟨bs2, r2, _, hm, _⟩ := PySem.W.readsAll_at hr i u hu
  have ei : ds.getD i .none = ds[i]'(by omega) := by
    rw [List.getD_eq_getElem?_getD, List.getElem?_eq_getElem (by omega)]
    rfl
  have eb : ds[i]'(by omega) = b := by
    rw [← ei]
    exact PySem.W.alike_unique _ _ _ _ _ (hal _ hm _ hb) r2 r
  have hxi : xs[i]? = some (xs[i]'(by omega)) := List.getElem?_eq_getElem (by omega)
  obtain ⟨w, ew, rw'⟩ := rv.get hxi
  rw [hu] at ew
  cases ew
  refine ⟨xs[i]'(by omega), rw', ?_⟩
  have : (xs.zip ds)[i]? = some (xs[i]'(by omega), ds[i]'(by omega)) := by
    rw [List.getElem?_zip_eq_some]
    exact ⟨hxi, List.getElem?_eq_getElem (by omega)⟩
  rw [← eb]
  exact List.mem_of_getElem? this
theorem cr_minDt (hc : X.calm = true) (hu : X.A.units + 64 < cLine) : CallR X (.builtin "min") (rMM X.K PySem.W.minD) := by
  intro pins s σ H vs us Q I r h
  obtain ⟨a, xs, d, ds, rfl, hs, dp, ok, q⟩ := h
  obtain ⟨hal, hd, _⟩ := mmOk_parts ok
  obtain ⟨its, rv, hl, _⟩ := I.list hs
  rw [Vals.ref1 r]
  obtain ⟨as, hr⟩ := Dp.readsAll I (d :: ds) xs its dp rv
  refine PySem.W.min_list_data (I.ok.hd hc) hl.isList (by simpa using hr) hal (by omega) fun i u h' tk bs hi rd hk => ?_
  have hi : its[i]? = some u := by simpa using hi
  obtain ⟨v, rvv, hm⟩ := zip_at rv (PyProof.Rows.ReadsAll.keeps hk hr) hal.1 hi rd (fold_mem (f := PySem.W.dataLt) ds d)
  exact ⟨v, H, I.kept hk, rvv, q v hm⟩
theorem cr_maxDt (hc : X.calm = true) (hu : X.A.units + 64 < cLine) : CallR X (.builtin "max") (rMM X.K PySem.W.maxD) := by
  intro pins s σ H vs us Q I r h
  obtain ⟨a, xs, d, ds, rfl, hs, dp, ok, q⟩ := h
  obtain ⟨hal, hd, _⟩ := mmOk_parts ok
  obtain ⟨its, rv, hl, _⟩ := I.list hs
  rw [Vals.ref1 r]
  obtain ⟨as, hr⟩ := Dp.readsAll I (d :: ds) xs its dp rv
  refine PySem.W.max_list_data (I.ok.hd hc) hl.isList (by simpa using hr) hal (by omega) fun i u h' tk bs hi rd hk => ?_
  have hi : its[i]? = some u := by simpa using hi
  obtain ⟨v, rvv, hm⟩ := zip_at rv (PyProof.Rows.ReadsAll.keeps hk hr) hal.1 hi rd (fold_mem (f := fun y a => PySem.W.dataLt a y) ds d)
  exact ⟨v, H, I.kept hk, rvv, q v hm⟩
def minAD (d : D) : Option D := match minLD d with
  | some r => some r
  | none => minDD d
def maxAD (d : D) : Option D := match maxLD d with
  | some r => some r
  | none => maxDD d
theorem ch_mm {best : D → List D → D} {op : D → Option D} (hop : ∀ d r, op d = some r → ∃ x xs, d = .list (x :: xs) ∧ mmOk (x :: xs) = true ∧ r = best x xs) : CallH K (rMM K best) op := by
  intro F H v d d3 sb r e Q k
  obtain ⟨x, xs, rfl, ok, rfl⟩ := hop d d3 e
  obtain ⟨a, vs, rfl, h1, q1⟩ := r.lst sb
  obtain ⟨_, _, hlay⟩ := mmOk_parts ok
  exact ⟨a, vs, x, xs, rfl, h1, q1.dp sb hlay, ok, fun u hu => k u F H (.refl sb) (reps_zip q1 _ hu)⟩
theorem ch_minDD : CallH K (rMM K PySem.W.minD) minDD := ch_mm fun d r e => by
  unfold minDD at e
  split at e
  · split at e
    · rename_i h
      cases e
      exact ⟨_, _, rfl, h, rfl⟩
    · cases e
  · cases e
theorem ch_maxDD : CallH K (rMM K PySem.W.maxD) maxDD := ch_mm fun d r e => by
  unfold maxDD at e
  split at e
  · split at e
    · rename_i h
      cases e
      exact ⟨_, _, rfl, h, rfl⟩
    · cases e
  · cases e
theorem ch_or {r r' : List V → Hp → VK → Prop} {op op' opA : D → Option D} (h : CallH K r op) (h' : CallH K r' op') (ha : ∀ d x, opA d = some x → op d = some x ∨ op' d = some x) : CallH K (fun xs H Q => r xs H Q ∨ r' xs H Q) opA := by
  intro F H v d d3 sb r e Q k
  rcases ha d d3 e with e | e
  · exact .inl (h F H v d d3 sb r e Q k)
  · exact .inr (h' F H v d d3 sb r e Q k)
theorem ch_minA : CallH K (fun xs H Q => rMin K xs H Q ∨ rMM K PySem.W.minD xs H Q) minAD := ch_or ch_minL ch_minDD fun d x e => by
  unfold minAD at e
  split at e
  · rename_i r h
    cases e
    exact .inl h
  · exact .inr e
theorem ch_maxA : CallH K (fun xs H Q => rMax K xs H Q ∨ rMM K PySem.W.maxD xs H Q) maxAD := ch_or ch_maxL ch_maxDD fun d x e => by
  unfold maxAD at e
  split at e
  · rename_i r h
    cases e
    exact .inl h
  · exact .inr e
theorem cr_minA (hc : X.calm = true) (hu : X.A.units + 64 < cLine) : CallR X (.builtin "min") (fun xs H Q => rMin X.K xs H Q ∨ rMM X.K PySem.W.minD xs H Q) := (cr_min hc).or2 (cr_minDt hc hu)
theorem cr_maxA (hc : X.calm = true) (hu : X.A.units + 64 < cLine) : CallR X (.builtin "max") (fun xs H Q => rMax X.K xs H Q ∨ rMM X.K PySem.W.maxD xs H Q) := (cr_max hc).or2 (cr_maxDt hc hu)
end
end DL

set_option maxHeartbeats 4000000
/-! DL16: several names at once, new things among them; lists taken apart; new dicts. -/
namespace DL
open PySem L2 PyProof.Rows
abbrev MDen := Env → Option (List Sl × Env)
/-- values, new things that nobody holds among them (as: where these stand); H0: ahead of all -/
inductive Own (K : PySem.W.Frag) (F H H0 : Hp) (ρ : Env) (σ : L2.St) : List V → List Sl → List Addr → Prop
  | nil : Own K F H H0 ρ σ [] [] []
  | sh {v : V} {d : D} {vs : List V} {xs : List Sl} {as : List Addr} : Rep K F v d → Own K F H H0 ρ σ vs xs as → Own K F H H0 ρ σ (v :: vs) (.sh d :: xs) as
  | ow {p : Addr} {d : D} {vs : List V} {xs : List Sl} {as : List Addr} : OwnAt K F H p d → ¬ Ow ρ σ p → H0 p = none → p ∉ as → Own K F H H0 ρ σ vs xs as → Own K F H H0 ρ σ (.ref p :: vs) (.ow d :: xs) (p :: as)
def tMD (K : PySem.W.Frag) (f : MDen) : TA := fun σ H Q => ∃ ρ F xs ρ', SOk K F ρ σ H ∧ f ρ = some (xs, ρ') ∧ ∀ vs as F' H', Stp K ρ σ F H ρ' σ F' H' → Own K F' H' H ρ' σ vs xs as → Q vs H'
def DM (X : Cx) (es : List Expr) (f : MDen) : Prop := PA X es (tMD X.K f)
def mNil : MDen := fun ρ => some ([], ρ)
def mSh (f : Den) (g : MDen) : MDen := fun ρ => (f ρ).bind fun x => (g x.2).bind fun y => some (.sh x.1 :: y.1, y.2)
def mOw (f : Den) (g : MDen) : MDen := fun ρ => (f ρ).bind fun x => (g x.2).bind fun y => some (.ow x.1 :: y.1, y.2)
section
variable {X : Cx} {K : PySem.W.Frag} {pos : Pos} {a b c e : Expr} {es : List Expr} {f : Den} {g : MDen}
theorem dm_nil : DM X [] mNil := pa_nil.weak fun σ H Q h => by
  obtain ⟨ρ, F, d, ρ', s, e, k⟩ := h
  cases e
  exact k [] [] F H (.refl s) .nil
theorem Own.earlier {F H H0 H1 : Hp} {ρ : Env} {σ : L2.St} {vs : List V} {xs : List Sl} {as : List Addr} (h : Own K F H H1 ρ σ vs xs as) (l : ∀ a, H1 a = none → H0 a = none) : Own K F H H0 ρ σ vs xs as := by
  induction h with
  | nil => exact .nil
  | sh r _ ih => exact .sh r ih
  | ow o n hp m _ ih => exact .ow o n (l _ hp) m ih
theorem Own.new {F H H0 : Hp} {ρ : Env} {σ : L2.St} {vs : List V} {xs : List Sl} {as : List Addr} (h : Own K F H H0 ρ σ vs xs as) : ∀ p ∈ as, H0 p = none := by
  induction h with
  | nil => intro p hp; cases hp
  | sh r _ ih => exact ih
  | ow o n hp m _ ih =>
    intro q hq
    rcases List.mem_cons.mp hq with z | z
    · subst z
      exact hp
    · exact ih q z
theorem dm_sh (ha : DE X a f) (hb : DM X es g) (hs : starEach (a :: es) X.env = (false, eval a X.env) :: starEach es X.env := by rfl) : DM X (a :: es) (mSh f g) := (pa_cons ha hb hs).weak fun σ H Q h => by
  obtain ⟨ρ, F, d, ρ', s, e, k⟩ := h
  obtain ⟨⟨x, ρ1⟩, e1, e⟩ := bind_some e
  obtain ⟨⟨y, ρ2⟩, e2, e⟩ := bind_some e
  cases e
  exact ⟨ρ, F, x, ρ1, s, e1, fun v1 F1 H1 s1 r1 => ⟨ρ1, F1, y, _, s1.ok, e2, fun vs as F2 H2 s2 r2 => k _ as F2 H2 (s1.trans s2) (.sh (r1.mono s2.gr.ext) (r2.earlier fun a ha => s1.gr.live a ha))⟩⟩
/-- what stands new and alone stays so -/
theorem OwnAt.stp {F H F' H' : Hp} {ρ ρ' : Env} {σ σ' : L2.St} {p : Addr} {d : D} (o : OwnAt K F H p d) (no : ¬ Ow ρ σ p) (t : Stp K ρ σ F H ρ' σ' F' H') : OwnAt K F' H' p d ∧ ¬ Ow ρ' σ' p := by
  obtain ⟨hF, u, hu, tp⟩ := o
  refine ⟨⟨?_, u, t.gr.same p u hu no, tp.mono t.gr.ext⟩, fun z => ?_⟩
  · cases q : F' p with
    | none => rfl
    | some w =>
      rcases t.gr.new p (by rw [q]; intro z; cases z) with z | z | z | ⟨xs, z⟩
      · exact absurd hF z
      · rw [hu] at z; cases z
      · exact absurd z no
      · rw [hu] at z
        cases z
        exact absurd rfl (tp.notup xs)
  · rcases t.evo.own p z with q | q
    · exact no q
    · rw [hu] at q; cases q
theorem dm_ow (ha : DO X a f) (hb : DM X es g) (hs : starEach (a :: es) X.env = (false, eval a X.env) :: starEach es X.env := by rfl) : DM X (a :: es) (mOw f g) := (pa_cons ha hb hs).weak fun σ H Q h => by
  obtain ⟨ρ, F, d, ρ', s, e, k⟩ := h
  obtain ⟨⟨x, ρ1⟩, e1, e⟩ := bind_some e
  obtain ⟨⟨y, ρ2⟩, e2, e⟩ := bind_some e
  cases e
  refine ⟨ρ, F, x, ρ1, s, e1, fun p F1 H1 s1 ow no hp => ⟨ρ1, F1, y, _, s1.ok, e2, fun vs as F2 H2 s2 r2 => ?_⟩⟩
  obtain ⟨o2, n2⟩ := ow.stp no s2
  refine k _ (p :: as) F2 H2 (s1.trans s2) (.ow o2 n2 hp (fun z => ?_) (r2.earlier fun a ha => s1.gr.live a ha))
  obtain ⟨_, u, hu, _⟩ := ow
  rw [r2.new p z] at hu
  cases hu
/-- one name takes what is told -/
theorem Own.put {F H F0 H0 : Hp} {ρ0 ρ : Env} {σ0 σ : L2.St} {v : V} {x : Sl} {vs : List V} {xs : List Sl} {as : List Addr} {i : Nat} (st : Stp K ρ0 σ0 F0 H0 ρ σ F H) (h : Own K F H H0 ρ σ (v :: vs) (x :: xs) as) (hi : isIo ρ[i]? = false) :
    ∃ as', Stp K ρ0 σ0 F0 H0 (ρ.set i x) (σ.set i (some v)) F H ∧ Own K F H H0 (ρ.set i x) (σ.set i (some v)) vs xs as' := by
  have keep : ∀ {vs : List V} {xs : List Sl} {as : List Addr} {ρ' : Env} {σ' : L2.St}, Own K F H H0 ρ σ vs xs as → (∀ q ∈ as, ¬ Ow ρ' σ' q) → Own K F H H0 ρ' σ' vs xs as := by
    intro vs xs as ρ' σ' h
    induction h with
    | nil => intro _; exact .nil
    | sh r _ ih => intro hn; exact .sh r (ih hn)
    | ow o n hp m _ ih => intro hn; exact .ow o (hn _ List.mem_cons_self) hp m (ih fun q hq => hn q (List.mem_cons_of_mem _ hq))
  have noO : ∀ {vs : List V} {xs : List Sl} {as : List Addr}, Own K F H H0 ρ σ vs xs as → ∀ q ∈ as, ¬ Ow ρ σ q := by
    intro vs xs as h
    induction h with
    | nil => intro q hq; cases hq
    | sh r _ ih => exact ih
    | ow o n hp m _ ih =>
      intro q hq
      rcases List.mem_cons.mp hq with z | z
      · subst z
        exact n
      · exact ih q z
  cases h with
  | sh r t =>
    have s1 := st.ok.setS hi r
    refine ⟨as, st.trans s1, keep t fun q hq z => ?_⟩
    rcases s1.evo.own q z with z | z
    · exact noO t q hq z
    · rename_i d
      have live : ∀ {vs : List V} {xs : List Sl} {as : List Addr}, Own K F H H0 ρ σ vs xs as → ∀ q ∈ as, H q ≠ none := by
        intro vs xs as h
        induction h with
        | nil => intro q hq; cases hq
        | sh r _ ih => exact ih
        | ow o n hp m _ ih =>
          intro q hq
          rcases List.mem_cons.mp hq with z | z
          · subst z
            obtain ⟨_, u, hu, _⟩ := o
            rw [hu]
            intro z
            cases z
          · exact ih q z
      exact live t q hq z
  | ow o n hp m t =>
    rename_i p d as
    have s1 := st.setO hi hp o n
    refine ⟨as, s1, keep t fun q hq z => ?_⟩
    obtain ⟨j, hj⟩ := z
    by_cases hji : j = i
    · subst hji
      obtain ⟨⟨d', h1⟩, h2⟩ := hj
      by_cases hl : j < ρ.length
      · rw [List.getElem?_set_self (by rw [st.ok.len]; exact hl)] at h2
        cases h2
        exact m hq
      · rw [List.getElem?_eq_none (by simpa using hl)] at h1
        rcases h1 with h1 | h1 <;> cases h1
    · exact noO t q hq ⟨j, owns_set hji hj⟩
def parM2 (i j : Nat) : List Sl → Env → Option Fl
  | [c, d], ρ => if isIo ρ[i]? || isIo (ρ.set i c)[j]? then none else some (.nx ((ρ.set i c).set j d))
  | _, _ => none
def cParM (i j : Nat) (f : MDen) : SDen := fun ρ => (f ρ).bind fun x => parM2 i j x.1 x.2
def parM3 (i j l : Nat) : List Sl → Env → Option Fl
  | [c, d, e], ρ => if isIo ρ[i]? || isIo (ρ.set i c)[j]? || isIo ((ρ.set i c).set j d)[l]? then none else some (.nx (((ρ.set i c).set j d).set l e))
  | _, _ => none
def cParM3 (i j l : Nat) (f : MDen) : SDen := fun ρ => (f ρ).bind fun x => parM3 i j l x.1 x.2
theorem ds_parM (i j : Nat) {x y : Str} {px py pt : Pos} {kt k2 pt2} (hc : X.calm = true) (hN : X.N.Nodup) (ha : DM X [a, b] g) (hw : swappedStores [.Tuple [.Name x px, .Name y py] kt pt] (.Tuple [a, b] k2 pt2) X.env = pure (some [x, y]) := by rfl) (hi : X.N[i]? = some x := by rfl) (hj : X.N[j]? = some y := by rfl) (hij : i ≠ j := by decide)
    (hx : X.env.scope.names.lookup x = some .local := by rfl) (hy : X.env.scope.names.lookup y = some .local := by rfl) (hs : swapsWithSole [.Tuple [.Name x px, .Name y py] kt pt] (.Tuple [a, b] k2 pt2) pos.line X.env = pure false := by rfl) :
    DS X (.Assign [.Tuple [.Name x px, .Name y py] kt pt] (.Tuple [a, b] k2 pt2) pos) (cParM i j g) := (ps_par hc hN hi hj hij hx hy ha hw hs).weak fun E σ H h => by
  obtain ⟨ρ, F, r, s, e, w⟩ := h
  obtain ⟨⟨ds, ρ1⟩, e1, e⟩ := bind_some e
  change parM2 i j ds ρ1 = some r at e
  unfold parM2 at e
  split at e
  · split at e
    · cases e
    · rename_i c d hio
      cases e
      refine ⟨ρ, F, _, ρ1, s, e1, fun vs as F1 H1 s1 r1 => ?_⟩
      have hio' : isIo ρ1[i]? = false ∧ isIo (ρ1.set i c)[j]? = false := by simpa using hio
      match vs, r1 with
      | [v, v2], r1 =>
        obtain ⟨as1, t1, r2⟩ := r1.put s1 hio'.1
        obtain ⟨as2, t2, r3⟩ := r2.put t1 hio'.2
        exact ⟨_, _, rfl, w.nx _ _ F1 H1 rfl t2⟩
      | [], r1 => cases r1
      | [_], r1 => cases r1 with | sh _ t => cases t | ow _ _ _ _ t => cases t
      | _ :: _ :: _ :: _, r1 =>
        cases r1 with
        | sh _ t => cases t with | sh _ t => cases t | ow _ _ _ _ t => cases t
        | ow _ _ _ _ t => cases t with | sh _ t => cases t | ow _ _ _ _ t => cases t
  · cases e
theorem ds_parM3 (i j l : Nat) {x y z : Str} {px py pz pt : Pos} {kt k2 pt2} (hc : X.calm = true) (hN : X.N.Nodup) (ha : DM X [a, b, c] g) (hw : swappedStores [.Tuple [.Name x px, .Name y py, .Name z pz] kt pt] (.Tuple [a, b, c] k2 pt2) X.env = pure (some [x, y, z]) := by rfl) (hi : X.N[i]? = some x := by rfl) (hj : X.N[j]? = some y := by rfl) (hl : X.N[l]? = some z := by rfl) (hij : i ≠ j := by decide) (hil : i ≠ l := by decide) (hjl : j ≠ l := by decide)
    (hx : X.env.scope.names.lookup x = some .local := by rfl) (hy : X.env.scope.names.lookup y = some .local := by rfl) (hz : X.env.scope.names.lookup z = some .local := by rfl) (hs : swapsWithSole [.Tuple [.Name x px, .Name y py, .Name z pz] kt pt] (.Tuple [a, b, c] k2 pt2) pos.line X.env = pure false := by rfl) :
    DS X (.Assign [.Tuple [.Name x px, .Name y py, .Name z pz] kt pt] (.Tuple [a, b, c] k2 pt2) pos) (cParM3 i j l g) := (ps_par3 hc hN hi hj hl hij hil hjl hx hy hz ha hw hs).weak fun E σ H h => by
  obtain ⟨ρ, F, r, s, e, w⟩ := h
  obtain ⟨⟨ds, ρ1⟩, e1, e⟩ := bind_some e
  change parM3 i j l ds ρ1 = some r at e
  unfold parM3 at e
  split at e
  · split at e
    · cases e
    · rename_i c d f hio
      cases e
      refine ⟨ρ, F, _, ρ1, s, e1, fun vs as F1 H1 s1 r1 => ?_⟩
      have hio' : (isIo ρ1[i]? = false ∧ isIo (ρ1.set i c)[j]? = false) ∧ isIo ((ρ1.set i c).set j d)[l]? = false := by simpa using hio
      match vs, r1 with
      | [v, v2, v3], r1 =>
        obtain ⟨as1, t1, r2⟩ := r1.put s1 hio'.1.1
        obtain ⟨as2, t2, r3⟩ := r2.put t1 hio'.1.2
        obtain ⟨as3, t3, r4⟩ := r3.put t2 hio'.2
        exact ⟨_, _, _, rfl, w.nx _ _ F1 H1 rfl t3⟩
      | [], r1 => cases r1
      | [_], r1 => cases r1 with | sh _ t => cases t | ow _ _ _ _ t => cases t
      | [_, _], r1 =>
        cases r1 with
        | sh _ t => cases t with | sh _ t => cases t | ow _ _ _ _ t => cases t
        | ow _ _ _ _ t => cases t with | sh _ t => cases t | ow _ _ _ _ t => cases t
      | _ :: _ :: _ :: _ :: _, r1 =>
        cases r1 with
        | sh _ t =>
          cases t with
          | sh _ t => cases t with | sh _ t => cases t | ow _ _ _ _ t => cases t
          | ow _ _ _ _ t => cases t with | sh _ t => cases t | ow _ _ _ _ t => cases t
        | ow _ _ _ _ t =>
          cases t with
          | sh _ t => cases t with | sh _ t => cases t | ow _ _ _ _ t => cases t
          | ow _ _ _ _ t => cases t with | sh _ t => cases t | ow _ _ _ _ t => cases t
  · cases e
/-! ### a list taken apart -/
theorem dg_ls {kk : Nat} {n : Nat} {u : GsDen} (hc : X.calm = true) (h : DGs X es u) (hn : (assignEach es X.env).length = n := by rfl) (hst : (assignEach es X.env).findIdx? (·.1) = none := by rfl) : DG X (.Tuple es kk pos) (gLs n u) := (pg_unl hc h hn hst).weak fun v σ H Q h => by
  obtain ⟨ρ, F, d, ρ', s, r, e, k⟩ := h
  obtain ⟨ds, e1, e2⟩ := bind_some e
  unfold asLst at e1
  split at e1
  · split at e1
    · rename_i hl
      cases e1
      cases r with
      | lst h1 r1 => exact ⟨_, _, rfl, h1.sq s.sub, by rw [r1.length]; exact hl, ρ, F, _, ρ', s, r1, e2, k⟩
    · cases e1
  · cases e1
/-! ### new dicts -/
theorem do_dnew : DO X (.Dict [] [] pos) (cC (.dict [])) := L2.PE.weak pe_dnewK fun σ H Q h => by
  obtain ⟨ρ, F, d, ρ', s, e, k⟩ := h
  cases e
  exact fun p hp => k p F _ (.px s (Px.laidO s.sub hp)) ⟨s.sub.none hp, _, upd_same, .dK .nil⟩ (s.fresh hp).2 hp
def pairOf : D → Option (Key × D)
  | .tuple [k, v] => (asK k).map fun k => (k, v)
  | _ => none
def pairsOf : List D → Option (List (Key × D))
  | [] => some []
  | d :: ds => (pairOf d).bind fun p => (pairsOf ds).map (p :: ·)
def flatD (es : List (D × D)) : Bool := es.all fun p => isKey p.1
/-- dict(..) of a list of pairs, of a dict -/
def dictP : D → Option D
  | .list ds => (pairsOf ds).map fun ps => .dict (putAll ps)
  | _ => none
def dictC : D → Option D
  | .dict es => if flatD es = true ∧ es ≠ [] then some (.dict es) else none
  | _ => none
def rDictP (K : PySem.W.Frag) : List V → Hp → VK → Prop := fun xs H Q => ∃ (a : Addr) (ps : List Addr) (kvs : List (Key × V)), xs = [.ref a] ∧ SqL K H a (ps.map V.ref) ∧ Paired (fun p kv => SqT K H p [kV kv.1, kv.2]) ps kvs ∧
    ∀ p, H p = none → Q (.ref p) (upd H p (.dK (mergeK [] kvs)))
theorem pairs_rep {F H : Hp} (sb : Sub F H) : ∀ {xs : List V} {ds : List D} {ps : List (Key × D)}, Reps K F xs ds → pairsOf ds = some ps → ∃ (as : List Addr) (kvs : List (Key × V)), xs = as.map V.ref ∧ Paired (fun p kv => SqT K H p [kV kv.1, kv.2]) as kvs ∧ RepK K F kvs (repKs ps)
  | _, _, _, .nil, e => by
    cases e
    exact ⟨[], [], rfl, .nil, .nil⟩
  | _, d :: ds, ps, .cons r t, e => by
    obtain ⟨p, e1, e⟩ := bind_some e
    obtain ⟨qs, e2, rfl⟩ := Option.map_eq_some_iff.mp e
    obtain ⟨as, kvs, rfl, hp, hk⟩ := pairs_rep sb t e2
    unfold pairOf at e1
    split at e1
    · obtain ⟨k, ek, rfl⟩ := Option.map_eq_some_iff.mp e1
      obtain rfl := asK_some ek
      cases r with
      | tup h q =>
        cases q with
        | cons q1 q2 =>
          cases q2 with
          | cons q2 q3 =>
            cases q3
            rename_i v1 v2
            have ev : v1 = kV k := RepH.key (F := F) (H := H) (.inl q1)
            subst ev
            exact ⟨_ :: as, (k, v2) :: kvs, rfl, .cons (h.sq sb) hp, .cons q2 hk⟩
    · cases e1
theorem co_dictP : CallO K (rDictP K) dictP := by
  intro F H v d d3 sb r e Q k
  unfold dictP at e
  split at e
  · obtain ⟨a, xs, rfl, h1, q1⟩ := r.lst sb
    obtain ⟨ps, ep, rfl⟩ := Option.map_eq_some_iff.mp e
    obtain ⟨as, kvs, rfl, hp, hk⟩ := pairs_rep sb q1 ep
    exact ⟨a, as, kvs, rfl, h1, hp, fun p hp => k p F _ (Px.laidO sb hp) ⟨sb.none hp, _, upd_same, .dK (hk.merge .nil)⟩ hp⟩
  · cases e
def rDictC : List V → Hp → VK → Prop := fun xs H Q => ∃ (a : Addr) (kvs : List (Key × V)), xs = [.ref a] ∧ Rd H a (.dK kvs) ∧ ∀ p, H p = none → Q (.ref p) (upd H p (.dK kvs))
theorem co_dictC : CallO K rDictC dictC := by
  intro F H v d d3 sb r e Q k
  unfold dictC at e
  split at e
  · split at e
    · rename_i hh
      cases e
      obtain ⟨a, rfl, h⟩ := r.dic sb
      rcases h with ⟨kvs, hr, rk⟩ | ⟨kvs, hr, rk⟩
      · exact ⟨a, kvs, rfl, hr, fun p hp => k p F _ (Px.laidO sb hp) ⟨sb.none hp, _, upd_same, .dK rk⟩ hp⟩
      · cases rk with
        | nil => exact absurd rfl hh.2
        | cons _ _ => exact absurd (List.all_eq_true.mp hh.1 _ List.mem_cons_self) (by simp [isKey])
    · cases e
  · cases e
def dictA (d : D) : Option D := match dictP d with
  | some r => some r
  | none => dictC d
theorem co_or {r r' : List V → Hp → VK → Prop} {op op' opA : D → Option D} (h : CallO K r op) (h' : CallO K r' op') (ha : ∀ d x, opA d = some x → op d = some x ∨ op' d = some x) : CallO K (fun xs H Q => r xs H Q ∨ r' xs H Q) opA := by
  intro F H v d d3 sb r e Q k
  rcases ha d d3 e with e | e
  · exact .inl (h F H v d d3 sb r e Q k)
  · exact .inr (h' F H v d d3 sb r e Q k)
theorem co_dictA : CallO K (fun xs H Q => rDictP K xs H Q ∨ rDictC xs H Q) dictA := co_or co_dictP co_dictC fun d x e => by
  unfold dictA at e
  split at e
  · rename_i r h
    cases e
    exact .inl h
  · exact .inr e
theorem cr_dictA (hc : X.calm = true) : CallR X (.type "dict") (fun xs H Q => rDictP X.K xs H Q ∨ rDictC xs H Q) := CallR.or2 (r := rDictP X.K) (r' := rDictC) (call_dictP hc) call_dictD
end
end DL

set_option maxHeartbeats 1000000
/-! DL17: zip of tuples. -/
namespace DL
open PySem L2 PyProof.Rows
section
variable {K : PySem.W.Frag} {F : Hp}
theorem walk_zipT {a b : Addr} {xs ys : List V} {ds es : List D} (h : TpF F a xs) (r : Reps K F xs ds) (h2 : TpF F b ys) (r2 : Reps K F ys es) : WalkD K noL (RZ.ItzT K a b) F (zipD ds es) := by
  refine ⟨fun i d F' H e sb _ hd => ?_, fun i F' H e sb _ hi => ⟨xs, ys, (h.mono e).sq sb, (h2.mono e).sq sb, ?_⟩⟩
  · unfold zipD at hd
    rw [List.getElem?_zipWith] at hd
    cases q1 : ds[i]? with
    | none => rw [q1] at hd; cases hd
    | some d1 =>
      cases q2 : es[i]? with
      | none => rw [q1, q2] at hd; cases hd
      | some d2 =>
        rw [q1, q2] at hd
        cases hd
        obtain ⟨v, ev, rv⟩ := r.get q1
        obtain ⟨v2, ev2, rv2⟩ := r2.get q2
        refine ⟨⟨xs, ys, v, v2, (h.mono e).sq sb, (h2.mono e).sq sb, ev, ev2⟩, fun x H' ⟨T, x1, y1, ex, hT, eH, f1, f2⟩ => ?_⟩
        have e1 := f1 xs ((h.mono e).sq sb)
        have e2 := f2 ys ((h2.mono e).sq sb)
        rw [ev] at e1
        rw [ev2] at e2
        cases e1
        cases e2
        subst ex eH
        have px := Px.laid (o := .tup [v, v2]) sb hT
        exact ⟨_, px, .tup upd_same (.cons ((rv.mono e).mono px.ext) (.one ((rv2.mono e).mono px.ext)))⟩
  · unfold zipD at hi
    rw [List.length_zipWith] at hi
    rw [r.length, r2.length]
    omega
end
@[simp] def zpA : List D → Option (List D)
  | [.list xs, .list ys] => some (zipD xs ys)
  | [.tuple xs, .tuple ys] => some (zipD xs ys)
  | _ => none
section
variable {X : Cx} {a b : Expr} {fs : ADen} {p pos : Pos}
theorem di_zipA {elts : List Expr} {kk : Nat} {tpos : Pos} (hg : Gl X "zip") (hm : X.mg "zip" = none) (ha : DA X [a, b] fs) (hs : starEach [a, b] X.env = (false, eval a X.env) :: starEach [b] X.env := by rfl) (hpl : (backTo pos (starEach [b] X.env)).any (·.1) = false := by rfl) :
    DI X (.Tuple elts kk tpos) (.Call (.Name "zip" p) [a, b] [] pos) (iA zpA fs) := (RZ.pi_zipA hg hm ha hs hpl).weak fun σ H R h => by
  obtain ⟨ρ, F, ds, ρ', s, e, k⟩ := h
  obtain ⟨⟨x, ρ1⟩, e1, e⟩ := bind_some e
  obtain ⟨y, e2, e⟩ := bind_some e
  cases e
  refine ⟨ρ, F, x, _, s, e1, fun vs F1 H1 s1 r1 => ?_⟩
  have e2 : zpA x = some ds := e2
  unfold zpA at e2
  split at e2
  · cases e2
    cases r1 with
    | cons r rr =>
      cases rr with
      | cons r' rr =>
        cases rr
        cases r with
        | lst h q =>
          cases r' with
          | lst h' q' => exact ⟨_, _, _, _, rfl, .inl ⟨h.sq s1.ok.sub, h'.sq s1.ok.sub, k _ F1 H1 noL s1 (walk_zip h q h' q') fun _ _ z => z.elim⟩⟩
  · cases e2
    cases r1 with
    | cons r rr =>
      cases rr with
      | cons r' rr =>
        cases rr
        cases r with
        | tup h q =>
          cases r' with
          | tup h' q' => exact ⟨_, _, _, _, rfl, .inr ⟨h.sq s1.ok.sub, h'.sq s1.ok.sub, k _ F1 H1 noL s1 (walk_zipT h q h' q') fun _ _ z => z.elim⟩⟩
  · cases e2
end
end DL

set_option maxHeartbeats 1000000
/-! DL18: sorted(d). -/
namespace DL
open PySem PySem.Spec PySem.Calls PyProof.V L2 PyProof.Rows
section
variable {X : Cx}
def rSortDk : List V → Hp → VK → Prop := fun vs H Q => ∃ (a : Addr) (kvs : List (Key × V)), vs = [V.ref a] ∧ (Rd H a (.dK kvs) ∨ (kvs = [] ∧ Rd H a (.dT []))) ∧ sortOk (kvs.map fun kv => keyD kv.1) = true ∧
  ∀ (ys : List V) (p : Addr), PySem.W.EachIs (fun v d => (v, d) ∈ (kvs.map fun kv => kV kv.1).zip (kvs.map fun kv => keyD kv.1)) ys (srt (kvs.map fun kv => keyD kv.1)) → H p = none → Q (.ref p) (upd H p (.lst ys))
theorem kV_reads {h : Heap} {k : Key} {u : Value} (r : RelV (kV k) u) : Reads h u (keyD k) [] := by
  cases k with
  | inl i =>
    obtain ⟨t, rfl⟩ := r
    exact Reads.int i t
  | inr x =>
    obtain ⟨t, rfl⟩ := r
    exact Reads.str x t
theorem keys_reads {h : Heap} : ∀ {ks : List Key} {us : List Value}, Vals (ks.map kV) us → PySem.W.EachIs (fun (u : Value) (d : D) => ∃ as, Reads h u d as ∧ (0 : Nat) ∉ as ∧ ∀ a, a ∉ as) us (ks.map keyD)
  | [], [], _ => .nil
  | k :: ks, u :: us, r => by
    cases r with
    | cons r1 r2 => exact .cons ⟨[], kV_reads r1, by simp, fun a => by simp⟩ (keys_reads r2)
theorem dk_or {pins : List (Addr × Obj)} {σ : L2.St} {H : Hp} {s : Shared} {a : Addr} {kvs : List (Key × V)} (I : Inv X pins σ H s) (h : Rd H a (.dK kvs) ∨ (kvs = [] ∧ Rd H a (.dT []))) : kvs.length ≤ sizeLine ∧ (a == sysModules) = false ∧ ∃ vs, KV kvs vs ∧ s.heap.DictOf (mixKind X.prog X.w) a vs := by
  rcases h with h | ⟨rfl, h⟩
  · exact dk_rd I.hok h
  · obtain ⟨z, hd, xs, rel, o, es, ep, h1, h2, h3, h4, _⟩ := dt_rd I.hok h
    cases rel
    have e : es = #[] := by
      apply Array.toList_inj.mp
      rw [h4]
      rfl
    subst e
    exact ⟨z, hd, [], .nil, o, #[], ep, h1, h2, h3, fun i h => by simp at h, .nil, List.nodup_nil⟩
theorem cr_sortDk (hc : X.calm = true) (hu : X.A.units + 64 < cLine) : CallR X (.builtin "sorted") rSortDk := by
  intro pins s σ H xs us Q I r h
  obtain ⟨a, kvs, rfl, ha, ok, q⟩ := h
  obtain rfl := Vals.ref1 r
  obtain ⟨hal, hk, hL, hd, _⟩ := sortOk_parts ok
  obtain ⟨z, lo, vs, rk, hdd⟩ := dk_or I ha
  obtain ⟨ep, hat⟩ := hdd.dictAt
  have hl : kvs.length = vs.length := Paired.length rk
  refine call_function_entry kind_sorted plain_sorted entry_sorted (args_sorted1 _) ?_
  unfold Builtin.«sorted»
  refine wpAny_bind (m := checkCount "sorted" 1 1 _) (wpAny_pure ?_)
  refine wpAny_bind (PySem.W.kdu_collect (A := X.A.in1) (PySem.W.kdl_dict (knd := mixKind X.prog X.w) (kvs := vs) (ep := ep) lo) (I.ok.hd hc) hat (by rw [← hl]; exact z) fun h' tk acc hkeep hacc => ?_)
  have el : acc.toList.length = acc.size := by simp
  have rv : Vals (kvs.map fun kv => kV kv.1) acc.toList := by
    refine vals_of_at (by rw [List.length_map, el, hacc.1, hl]) fun j x w h1 h2 => ?_
    obtain ⟨k, y, hky, hi⟩ := hacc.2 j w (by rw [← Array.getElem?_toList]; exact h2)
    have e1 : (kvs.map (·.1))[j]? = some k := by
      rw [KV.keys rk, List.getElem?_map, hky] <;> rfl
    have e2 : (kvs.map fun kv => kV kv.1)[j]? = some (kV k) := by
      have e3 : (kvs.map fun kv => kV kv.1) = (kvs.map (·.1)).map kV := by rw [List.map_map] <;> rfl
      rw [e3, List.getElem?_map, e1] <;> rfl
    rw [e2] at h1
    cases h1
    exact keyIs_rel hi
  have hlen : acc.toList.length = (kvs.map fun kv => keyD kv.1).length := by rw [← rv.length, List.length_map, List.length_map]
  refine wpAny_bind (wpAny_newList ?_ (by rw [hlen]; exact hL))
  have I1 : Inv X pins σ H { s with heap := h', toks := tk } := I.kept hkeep
  have ho : (h'.push { cls := .type "list", data := .seq acc.toList.toArray }).get? h'.objs.size = some (seqObj "list" acc.toList.toArray 0) := Heap.get?_push_size _ rfl
  have er : PySem.W.EachIs (fun (u : Value) (d : D) => ∃ as, Reads (h'.push { cls := .type "list", data := .seq acc.toList.toArray }) u d as ∧ h'.objs.size ∉ as) acc.toList (kvs.map fun kv => keyD kv.1) := by
    have rv2 : Vals ((kvs.map (·.1)).map kV) acc.toList := by
      rw [List.map_map]
      exact rv
    have := keys_reads (h := h'.push { cls := .type "list", data := .seq acc.toList.toArray }) rv2
    rw [List.map_map] at this
    exact this.mono fun u d ⟨as, r1, _, r2⟩ => ⟨as, r1, r2 _⟩
  have hzl : (kvs.map fun kv => kV kv.1).length = (kvs.map fun kv => keyD kv.1).length := by rw [List.length_map, List.length_map]
  generalize (kvs.map fun kv => keyD kv.1) = dz at ok q hal hk hL hd hlen er hzl
  have ez := each_zip (R := fun _ _ => True) rv hzl
  refine wpAny_bind (wpAny_holding (wpAny_mono (PySem.W.list_sort_data (A := X.A.in1) (s := { s with heap := h'.push { cls := .type "list", data := .seq acc.toList.toArray }, toks := tk }) (β := PyData) (enc := id) (bs := dz)
    (Q := fun _ s' => EP X pins σ Q (.ref h'.objs.size) s') ho ez er (by rw [List.map_id]; exact hal) (by rw [List.map_id]; exact hk) hL (fun b hb => ?_) fun out ho2 eo => ?_) (fun _ s' x => ?_) fun _ _ e => e))
  · have := depth_le_all hb
    show X.A.units + 1 + 1 + b.depth < cLine
    omega
  · rw [srt_eq] at eo
    obtain ⟨ys, ry, ey⟩ := each_vals eo
    obtain ⟨ep2, he'⟩ := PyProof.Rows.sortedHeap_at (vs := acc.toList) (out := out.toArray) ho
    have hz : ys.length ≤ sizeLine := by
      rw [ry.length, ho2]
      exact hL
    refine ⟨.ref _, upd H h'.objs.size (.lst ys), I1.laid (t' := tk) (fun b o e => (PyProof.Rows.sortedHeap_old (Nat.ne_of_lt (Heap.lt_size e)) (Heap.lt_size (Heap.get?_push_of_some _ e))).trans (Heap.get?_push_of_some _ e)) (Nat.le_refl _) ⟨hz, out, ep2, ry, ?_⟩, rfl, q ys _ ey (I1.hok.fresh (Nat.le_refl _))⟩
    simpa using he'
  · exact wpAny_pure ⟨_, rfl, x⟩
variable {K : PySem.W.Frag}
def sortedKD : D → Option D
  | .dict es => if sortOk (es.map (·.1)) = true ∧ flatD es = true then some (.list (srt (es.map (·.1)))) else none
  | _ => none
theorem repk_keys {F : Hp} : ∀ {kvs : List (Key × V)} {es : List (D × D)}, RepK K F kvs es → es.map (·.1) = kvs.map fun kv => keyD kv.1
  | _, _, .nil => rfl
  | _, _, .cons _ t => by rw [List.map_cons, List.map_cons, repk_keys t]
theorem zip_keys {F : Hp} : ∀ (kvs : List (Key × V)), ∀ p ∈ (kvs.map fun kv => kV kv.1).zip (kvs.map fun kv => keyD kv.1), Rep K F p.1 p.2
  | [], p, h => by simp at h
  | kv :: kvs, p, h => by
    rw [List.map_cons, List.map_cons, List.zip_cons_cons] at h
    rcases List.mem_cons.mp h with rfl | h
    · obtain ⟨k, v⟩ := kv
      cases k with
      | inl i => exact .int i
      | inr x => exact .str x
    · exact zip_keys kvs p h
theorem co_sortDk : CallO K rSortDk sortedKD := by
  intro F H v d d3 sb r e Q k
  unfold sortedKD at e
  split at e
  · rename_i es
    split at e
    · rename_i ok
      cases e
      obtain ⟨a, rfl, hh⟩ := r.dic sb
      have go : ∀ kvs : List (Key × V), (Rd H a (.dK kvs) ∨ (kvs = [] ∧ Rd H a (.dT []))) → es.map (·.1) = kvs.map (fun kv => keyD kv.1) → rSortDk [V.ref a] H Q := fun kvs hr ek => by
        rw [ek] at ok k
        exact ⟨a, kvs, rfl, hr, ok.1, fun ys p ey hp => k p F _ (Px.laidO sb hp) ⟨sb.none hp, _, upd_same, .lst (each_reps (zip_keys kvs) ey)⟩ hp⟩
      rcases hh with ⟨kvs, hr, rk⟩ | ⟨kvs, hr, rk⟩
      · exact go kvs (.inl hr) (repk_keys rk)
      · cases rk with
        | nil => exact go [] (.inr ⟨rfl, hr⟩) rfl
        | cons r1 r2 =>
          have := ok.2
          simp [flatD] at this
    · cases e
  · cases e
/-- sorted of a list, of a dict's keys -/
def sortedA (d : D) : Option D := match sortedD d with
  | some r => some r
  | none => sortedKD d
theorem co_sortA : CallO K (fun xs H Q => rSortDt K xs H Q ∨ rSortDk xs H Q) sortedA := co_or co_sortDt co_sortDk fun d x e => by
  unfold sortedA at e
  split at e
  · rename_i r h
    cases e
    exact .inl h
  · exact .inr e
theorem cr_sortA (hc : X.calm = true) (hu : X.A.units + 64 < cLine) : CallR X (.builtin "sorted") (fun xs H Q => rSortDt X.K xs H Q ∨ rSortDk xs H Q) := CallR.or2 (r := rSortDt X.K) (r' := rSortDk) (cr_sortDt hu) (cr_sortDk hc hu)
end
end DL

set_option maxHeartbeats 4000000
/-! DL19: x[::-1]. -/
namespace DL
open PySem PySem.Spec PySem.Calls PyProof.V L2 PyProof.Rows HT
section
variable {prog : Program} {w : World} {A : Around} {E : Value → Shared → Prop} {s : Shared}
theorem adjust_rev (n : Nat) : Builtin.Slice.sliceAdjust none none (-1) (n : Int) = ((n : Int) - 1, -1) := by
  simp [Builtin.Slice.sliceAdjust]
theorem places_rev (n : Nat) : Builtin.Slice.slicePlaces ((n : Int) - 1) (-1) (-1) = n := by
  simp [Builtin.Slice.slicePlaces]
  split <;> omega
theorem pick_rev (xs : Array Value) : ((List.range xs.size).filterMap fun (m : Nat) => xs[(((xs.size : Int) - 1) + (m : Int) * (-1)).toNat]?).toArray = xs.toList.reverse.toArray := by
  congr 1
  refine List.ext_getElem? fun i => ?_
  have key : (List.range xs.size).filterMap (fun (m : Nat) => xs[(((xs.size : Int) - 1) + (m : Int) * (-1)).toNat]?) = (List.range xs.size).map fun m => xs.toList.reverse.getD m .none := by
    have : ∀ l : List Nat, (∀ m ∈ l, m < xs.size) → l.filterMap (fun (m : Nat) => xs[(((xs.size : Int) - 1) + (m : Int) * (-1)).toNat]?) = l.map fun m => xs.toList.reverse.getD m .none := by
      intro l
      induction l with
      | nil => intro _; rfl
      | cons m l ih =>
        intro h
        have hm := h m List.mem_cons_self
        have e : (((xs.size : Int) - 1) + (m : Int) * (-1)).toNat = xs.size - 1 - m := by omega
        have hlt : xs.size - 1 - m < xs.size := by omega
        rw [List.filterMap_cons, e, List.map_cons, ih fun k hk => h k (List.mem_cons_of_mem _ hk), Array.getElem?_eq_getElem hlt]
        simp only
        congr 1
        rw [List.getD_eq_getElem?_getD, List.getElem?_reverse (by simpa using hm)]
        simp [hlt]
    exact this _ fun m hm => List.mem_range.mp hm
  rw [key, List.getElem?_map]
  by_cases hi : i < xs.size
  · rw [List.getElem?_range hi, Option.map_some, List.getD_eq_getElem?_getD, List.getElem?_eq_getElem (by simpa using hi)]
    rfl
  · rw [List.getElem?_eq_none (by simpa using hi), List.getElem?_eq_none (by simpa using hi)]
    rfl
theorem sliceApplied_rev {sl : Addr} {vl vu vs : Value} {n : Nat} {Q : Int × Int × Nat → Shared → Prop} (hs : s.heap.IsSliceOf sl vl vu vs) (pl : IsPart vl none) (pu : IsPart vu none) (ps : IsPart vs (some (-1)))
    (h : Q ((n : Int) - 1, -1, n) s) : wpAny (model prog w) A (Builtin.Slice.sliceApplied (.ref sl) (pure (n : Int))) Q E s := by
  obtain ⟨os, hos, hcs, hds⟩ := id hs
  unfold Builtin.Slice.sliceApplied Builtin.Slice.sliceFields
  refine wpAny_bind (wpAny_bind (wpAny_field hos hds (x := vl) rfl (wpAny_bind (wpAny_field hos hds (x := vu) rfl (wpAny_bind (wpAny_field hos hds (x := vs) rfl (wpAny_pure ?_)))))))
  refine wpAny_bind (slicePart_ ps ?_)
  show wpAny _ _ (if ((-1 : Int) == 0) = true then _ else _) _ _ s
  rw [if_neg (by decide)]
  refine wpAny_bind (slicePart_ pl (wpAny_bind (slicePart_ pu (wpAny_bind (wpAny_pure ?_)))))
  show wpAny _ _ (match Builtin.Slice.sliceAdjust none none (-1) (n : Int) with | (lo, hi) => pure (lo, (-1 : Int), Builtin.Slice.slicePlaces lo hi (-1))) _ _ s
  rw [adjust_rev]
  show wpAny _ _ (pure ((n : Int) - 1, (-1 : Int), Builtin.Slice.slicePlaces ((n : Int) - 1) (-1) (-1))) _ _ s
  rw [places_rev]
  exact wpAny_pure h
theorem getItem_tuple_rev {t sl : Addr} {items : Array Value} {vl vu vs : Value} {Q : Value → Shared → Prop} (ht : IsTup s.heap t items) (hs : s.heap.IsSliceOf sl vl vu vs) (pl : IsPart vl none) (pu : IsPart vu none) (ps : IsPart vs (some (-1)))
    (h : Q (.ref s.heap.objs.size) { s with heap := s.heap.push { cls := .type "tuple", data := .seq items.toList.reverse.toArray } })
    (hsz : items.size ≤ sizeLine) : wpAny (model prog w) A (getItem (.ref t) (.ref sl)) Q E s := by
  have htake : sizeOk (.seq items.toList.reverse.toArray) := by
    show items.toList.reverse.toArray.size ≤ sizeLine
    simpa using hsz
  obtain ⟨os, hos, hcs, hds⟩ := id hs
  have hTs : s.TypeIs (.ref sl) "slice" := ⟨os, hos, hcs⟩
  unfold getItem
  try with_reducible refine wpAny_holding ?_
  first | refine wpAny_bind (wpAny_pure ?_) | skip
  refine wpAny_bind (wpAny_sequenceKey ht.typeIs (by decide) ?_)
  refine wpAny_bind (wpAny_callSpecial?_slot (name := Str.ofString "__getitem__") ht.typeIs PyProof.Rows.slot_tuple_getitem
    (wpAny_call_entry PyProof.Rows.slot_tuple_getitem ht.typeIs entry_tuple_getitem ?_ (args_tuple_getitem _ _)))
  show wpAny _ _ (Builtin.Tuple.tupleItemsOf (.ref t) >>= _) _ _ s
  refine wpAny_bind (tupleItemsOf_ ht ?_)
  refine wpAny_bind (wpAny_typeOf hTs ?_)
  rw [if_pos (by decide)]
  refine wpAny_bind (sliceApplied_rev hs pl pu ps ?_)
  have hno : ¬ ((((items.size : Int) - 1) == 0 && (-1 : Int) == 1 && items.size == items.size) = true) := by
    intro q
    rw [Bool.and_eq_true, Bool.and_eq_true] at q
    exact absurd q.1.2 (by decide)
  show wpAny _ _ (if (((items.size : Int) - 1) == 0 && (-1 : Int) == 1 && items.size == items.size) = true then _ else _) _ _ s
  rw [if_neg hno, pick_rev]
  first
    | exact wpAny_bind (m := Builtin.Tuple.tupleExact _) (wpAny_newObj_type (wpAny_pure ⟨_, rfl, wpAny_pure h⟩) htake)
    | exact wpAny_bind (m := Builtin.Tuple.tupleExact _) (wpAny_newObj_type (wpAny_bind (wpAny_pure (wpAny_pure ⟨_, rfl, wpAny_pure h⟩))) htake)
    | exact wpAny_bind (wpAny_bind (m := Builtin.Tuple.tupleExact _) (wpAny_newObj_type (wpAny_pure (wpAny_pure ⟨_, rfl, wpAny_pure h⟩)) htake))
    | exact wpAny_bind (wpAny_bind (m := Builtin.Tuple.tupleExact _) (wpAny_newObj_type (wpAny_pure ⟨_, rfl, wpAny_pure h⟩) htake))
end
section
variable {X : Cx}
def tRevA (K : PySem.W.Frag) (te : TE) : TE := fun σ H Q => te σ H fun x H1 => ∃ a xs, x = .ref a ∧ ((SqL K H1 a xs ∧ ∀ p, H1 p = none → Q (.ref p) (upd H1 p (.lst xs.reverse))) ∨ (SqT K H1 a xs ∧ ∀ p, H1 p = none → Q (.ref p) (upd H1 p (.tup xs.reverse))))
theorem pe_revA {e : Expr} {te : TE} {k : Nat} {p1 p2 p3 pos : Pos} (he : PE X e te) : PE X (.Subscript e (.Slice none none (some (.UnaryOp .USub (.Constant (.int 1) k p1) p2)) p3) pos) (tRevA X.K te) := by
  refine ⟨fun pins s σ H Q I h => ?_⟩
  refine Subscript_ (thn (he.run pins s σ H _ I h) fun v s1 ⟨x, H1, I1, r1, q1⟩ => ?_)
  obtain ⟨a, xs, ex, q⟩ := q1
  subst ex
  cases r1
  have hst : PO X (some (.UnaryOp .USub (.Constant (.int 1) k p1) p2)) (tPart (tUn (rU fun i => .int (-i)) (tC (.int 1)))) := po_some (pe_un un_neg pe_int)
  refine wpAny_Slice (thn (po_none.run pins s1 σ H1 (fun o H2 => o = none ∧ H2 = H1) I1 ⟨rfl, rfl⟩) fun vl s2 ⟨l, H2, I2, pl, el, e2⟩ => ?_)
  subst el e2
  refine thn (po_none.run pins s2 σ H2 (fun o H3 => o = none ∧ H3 = H2) I2 ⟨rfl, rfl⟩) fun vu s3 ⟨u, H3, I3, pu, eu, e3⟩ => ?_
  subst eu e3
  refine thn (hst.run pins s3 σ H3 (fun o H4 => o = some (-1) ∧ H4 = H3) I3 ⟨1, rfl, -1, rfl, rfl, rfl⟩) fun vs s4 ⟨o, H4, I4, ps, eo, e4⟩ => ?_
  subst eo e4
  have I5 : Inv X pins σ H4 { s4 with heap := s4.heap.push { cls := .type "slice", data := .fields #[vl, vu, vs] } } := I4.kept (t' := s4.toks) fun b ob q => Heap.get?_push_of_some _ q
  show wpAny (model X.prog X.w) X.A (subscriptTail e (.Slice none none (some (.UnaryOp .USub (.Constant (.int 1) k p1) p2)) p3) (.ref a) (.ref s4.heap.objs.size)) (EP X pins σ Q) X.xe { s4 with heap := s4.heap.push { cls := .type "slice", data := .fields #[vl, vu, vs] } }
  rcases q with ⟨hx, q⟩ | ⟨hx, q⟩
  · obtain ⟨its, r, ht, hz⟩ := I5.list hx
    have hlen := r.length
    refine tail_any (ops := [.ref a, .ref s4.heap.objs.size]) ht.isList.typeIs (PySem.slot_list_getitem.lookup) ?_ (by with_unfolding_all rfl)
    refine wpAny_getItem_list_slice ht.isList (Heap.IsSliceOf.new _ vl vu vs) pl pu ps (by decide) ?_ (by rw [List.size_toArray]; omega)
    rw [PySem.W.krv_pick]
    refine ⟨.ref _, _, I5.laid (t' := s4.toks) (o := .lst xs.reverse) (fun b ob q => Heap.get?_push_of_some _ q) (Nat.le_refl _) ?_, rfl, q _ (I5.hok.fresh (Nat.le_refl _))⟩
    exact ⟨by rw [List.length_reverse]; exact hz, _, 0, r.reverse, Heap.get?_push_size _ rfl⟩
  · obtain ⟨its, r, ht, hz⟩ := I5.tuple hx
    have hlen := r.length
    refine tail_any (ops := [.ref a, .ref s4.heap.objs.size]) ht.typeIs (PyProof.Rows.slot_tuple_getitem.lookup) ?_ (by with_unfolding_all rfl)
    refine getItem_tuple_rev ht (Heap.IsSliceOf.new _ vl vu vs) pl pu ps ?_ (by rw [List.size_toArray]; omega)
    refine ⟨.ref _, _, I5.laid (t' := s4.toks) (o := .tup xs.reverse) (fun b ob q => Heap.get?_push_of_some _ q) (Nat.le_refl _) ?_, rfl, q _ (I5.hok.fresh (Nat.le_refl _))⟩
    exact ⟨by rw [List.length_reverse]; exact hz, _, r.reverse, ⟨_, Heap.get?_push_size _ rfl, rfl, 0, by simp⟩⟩
@[simp] def revD : D → Option D
  | .list xs => some (.list xs.reverse)
  | .tuple xs => some (.tuple xs.reverse)
  | _ => none
theorem Reps.rev {K : PySem.W.Frag} {F : Hp} : ∀ {vs : List V} {ds : List D}, Reps K F vs ds → Reps K F vs.reverse ds.reverse
  | _, _, .nil => .nil
  | _, _, .cons r t => by
    rw [List.reverse_cons, List.reverse_cons]
    exact (Reps.rev t).append (.one r)
theorem de_rev {e : Expr} {o : ODen} {k : Nat} {p1 p2 p3 pos : Pos} (he : DOd X e o) : DE X (.Subscript e (.Slice none none (some (.UnaryOp .USub (.Constant (.int 1) k p1) p2)) p3) pos) (cUn revD o) := (pe_revA he).weak fun σ H Q h => by
  obtain ⟨ρ, F, d, ρ', s, e, k⟩ := h
  obtain ⟨⟨x, ρ1⟩, e1, e⟩ := bind_some e
  obtain ⟨y, e2, e⟩ := bind_some e
  obtain ⟨z, e3, e⟩ := bind_some e
  cases e
  refine ⟨ρ, F, x, _, s, e1, fun v F1 H1 s1 r1 => ?_⟩
  have r := r1.rep s1.ok e2
  unfold revD at e3
  split at e3
  · cases e3
    obtain ⟨a, xs, rfl, h1, q1⟩ := r.lst s1.ok.sub
    exact ⟨a, xs, rfl, .inl ⟨h1, fun p hp => k _ _ _ (s1.thenPx (Px.laid s1.ok.sub hp)) (.lst (.inl upd_same) (q1.rev.mono (Px.laid s1.ok.sub hp).ext))⟩⟩
  · cases e3
    obtain ⟨a, xs, rfl, h1, _, q1⟩ := r.tup s1.ok.sub
    exact ⟨a, xs, rfl, .inr ⟨SqT.of h1, fun p hp => k _ _ _ (s1.thenPx (Px.laid s1.ok.sub hp)) (.tup upd_same (q1.rev.mono (Px.laid s1.ok.sub hp).ext))⟩⟩
  · cases e3
end
end DL

set_option maxHeartbeats 4000000
/-! DL21: walks over dicts: the dict is locked for the statement. -/
namespace DL
open PySem PySem.Spec L2 PyProof.Rows
section
variable {K : PySem.W.Frag} {F F' H H' H1 : Hp} {ρ ρ' ρ1 : Env} {σ σ' : L2.St} {p : Addr} {u : HO} {od : Obj}
theorem SOk.lock (s : SOk K F ρ σ H) (hF : F p = some u) (hd : isDic u = true) : SOk K F ρ σ (upd H p (.frz od u)) := by
  refine ⟨fun a w e => ?_, s.len, s.shr, fun i d h => ?_, s.dj⟩
  · by_cases ha : a = p
    · subst ha
      rw [hF] at e
      cases e
      exact .inr ⟨hd, od, upd_same⟩
    · rcases s.sub a w e with q | ⟨q1, q2⟩
      · exact .inl (by rw [upd_ne ha]; exact q)
      · exact .inr ⟨q1, by rw [upd_ne ha]; exact q2⟩
  · obtain ⟨q, e, hq, w, hw, t⟩ := s.own i d h
    have hne : q ≠ p := fun z => by rw [z, hF] at hq; cases hq
    exact ⟨q, e, hq, w, by rw [upd_ne hne]; exact hw, t⟩
theorem Stp.unlock (hp : H p = some u) (hF : F p = some u) (hd : isDic u = true) (t : Stp K ρ σ F (upd H p (.frz od u)) ρ' σ' F' H') (s0 : SOk K F ρ σ H) : H' p = some (.frz od u) ∧ Stp K ρ σ F H ρ' σ' F' (upd H' p u) := by
  have no : ¬ Ow ρ σ p := fun z => by
    have := (s0.ow_none z).1
    rw [hF] at this
    cases this
  have hF' : F' p = some u := t.gr.ext p u hF
  have hl : ∀ a, a ≠ p → upd H p (.frz od u) a = H a := fun a ha => upd_ne ha
  have no' : ¬ Ow ρ' σ' p := fun z => by
    have := (t.ok.ow_none z).1
    rw [hF'] at this
    cases this
  refine ⟨t.gr.same p _ upd_same no, ⟨t.gr.ext, fun a h => ?_, fun a o h ho => ?_, fun a h => ?_⟩, ⟨fun a w e => ?_, t.ok.len, t.ok.shr, fun i d h => ?_, t.ok.dj⟩, ⟨fun q hq => ?_, t.evo.io⟩⟩
  · by_cases ha : a = p
    · subst ha
      exact .inl (by rw [hF]; intro z; cases z)
    · have := t.gr.new a h
      rwa [hl a ha] at this
  · by_cases ha : a = p
    · subst ha
      rw [hp] at h
      cases h
      exact upd_same
    · rw [upd_ne ha]
      exact t.gr.same a o (by rw [hl a ha]; exact h) ho
  · by_cases ha : a = p
    · subst ha
      rw [upd_same] at h
      cases h
    · rw [upd_ne ha] at h
      have := t.gr.live a h
      rwa [hl a ha] at this
  · by_cases ha : a = p
    · subst ha
      rw [hF'] at e
      cases e
      exact .inl upd_same
    · rcases t.ok.sub a w e with q | ⟨q1, q2⟩
      · exact .inl (by rw [upd_ne ha]; exact q)
      · exact .inr ⟨q1, by rw [upd_ne ha]; exact q2⟩
  · obtain ⟨q, e, hq, w, hw, t'⟩ := t.ok.own i d h
    have hne : q ≠ p := fun z => by rw [z, hF'] at hq; cases hq
    exact ⟨q, e, hq, w, by rw [upd_ne hne]; exact hw, t'⟩
  · rcases t.evo.own q hq with h | h
    · exact .inl h
    · have hne : q ≠ p := fun z => no' (z ▸ hq)
      rw [hl q hne] at h
      exact .inr h
theorem isDic_mut (h : isDic u = true) : Mut (some u) := by
  cases u with
  | dK _ => trivial
  | dT _ => trivial
  | _ => cases h
end
/-- the keys of a name's dict -/
def keysOf (es : List (D × D)) : List D := es.map (·.1)
def iK (i : Nat) : IDen := fun ρ => (cVar i ρ).bind fun x => match x.1 with
  | .dict es => some (keysOf es, x.2)
  | _ => none
/-- the dict of slot i is locked -/
def LkC (i : Nat) : L2.St → Hp → Prop := fun σ H => ∃ p o u, σ[i]? = some (some (.ref p)) ∧ H p = some (.frz o u) ∧ isDic u = true
section
variable {X : Cx}
/-- a name that holds a dict, frozen -/
theorem var_dict {K : PySem.W.Frag} {F H : Hp} {ρ ρ1 : Env} {σ : L2.St} {i : Nat} {es : List (D × D)} (s : SOk K F ρ σ H) (e : cVar i ρ = some (.dict es, ρ1)) :
    ∃ p F1 u, σ[i]? = some (some (.ref p)) ∧ Stp K ρ σ F H ρ1 σ F1 H ∧ F1 p = some u ∧ isDic u = true ∧ ((∃ kvs, u = .dK kvs ∧ RepK K F1 kvs es) ∨ ∃ kvs, u = .dT kvs ∧ RepT K F1 kvs es) ∧ cVar i ρ1 = some (.dict es, ρ1) := by
  unfold cVar at e
  cases hr : ρ[i]? with
  | none => rw [hr] at e; cases e
  | some c =>
    rw [hr] at e
    have hi : i < ρ.length := (List.getElem?_eq_some_iff.mp hr).1
    cases c with
    | un => cases e
    | io d' => cases e
    | sh d' =>
      cases e
      obtain ⟨v, e1, r⟩ := s.shr i _ hr
      have e2 : cVar i ρ = some (.dict es, ρ) := by unfold cVar; rw [hr]
      cases r with
      | dK h rk => exact ⟨_, F, _, e1, .refl s, h, rfl, .inl ⟨_, rfl, rk⟩, e2⟩
      | dT h rk => exact ⟨_, F, _, e1, .refl s, h, rfl, .inr ⟨_, rfl, rk⟩, e2⟩
    | ow d' =>
      cases e
      obtain ⟨p, F', e1, r, s', g, ev⟩ := s.freeze hr
      have e2 : cVar i (ρ.set i (.sh (.dict es))) = some (.dict es, ρ.set i (.sh (.dict es))) := by
        unfold cVar
        rw [List.getElem?_set_self hi]
      cases r with
      | dK h rk => exact ⟨_, F', _, e1, ⟨g, s', ev⟩, h, rfl, .inl ⟨_, rfl, rk⟩, e2⟩
      | dT h rk => exact ⟨_, F', _, e1, ⟨g, s', ev⟩, h, rfl, .inr ⟨_, rfl, rk⟩, e2⟩
theorem repk_get {K : PySem.W.Frag} {F : Hp} : ∀ {kvs : List (Key × V)} {es : List (D × D)} {i : Nat} {d : D}, RepK K F kvs es → (keysOf es)[i]? = some d → ∃ k v, kvs[i]? = some (k, v) ∧ d = keyD k
  | _, _, _, _, .nil, h => by simp [keysOf] at h
  | _, _, 0, _, .cons _ _, h => by
    simp [keysOf] at h
    exact ⟨_, _, rfl, h.symm⟩
  | _, _, i + 1, _, .cons _ t, h => by
    obtain ⟨k, v, e1, e2⟩ := repk_get (i := i) t (by simpa [keysOf] using h)
    exact ⟨k, v, by simpa using e1, e2⟩
theorem rept_get {K : PySem.W.Frag} {F : Hp} : ∀ {kvs : List (List Key × V)} {es : List (D × D)} {i : Nat} {d : D}, RepT K F kvs es → (keysOf es)[i]? = some d → ∃ k v, kvs[i]? = some (k, v) ∧ d = .tuple (k.map keyD)
  | _, _, _, _, .nil, h => by simp [keysOf] at h
  | _, _, 0, _, .cons _ _, h => by
    simp [keysOf] at h
    exact ⟨_, _, rfl, h.symm⟩
  | _, _, i + 1, _, .cons _ t, h => by
    obtain ⟨k, v, e1, e2⟩ := rept_get (i := i) t (by simpa [keysOf] using h)
    exact ⟨k, v, by simpa using e1, e2⟩
theorem repk_len {K : PySem.W.Frag} {F : Hp} : ∀ {kvs : List (Key × V)} {es : List (D × D)}, RepK K F kvs es → kvs.length = (keysOf es).length
  | _, _, .nil => rfl
  | _, _, .cons _ t => by simp [keysOf] at *; exact repk_len t |>.trans (by simp [keysOf])
theorem rept_len {K : PySem.W.Frag} {F : Hp} : ∀ {kvs : List (List Key × V)} {es : List (D × D)}, RepT K F kvs es → kvs.length = (keysOf es).length
  | _, _, .nil => rfl
  | _, _, .cons _ t => by simp [keysOf] at *; exact rept_len t |>.trans (by simp [keysOf])
theorem rep_keys {K : PySem.W.Frag} {F : Hp} : ∀ k : List Key, Reps K F (k.map kV) (k.map keyD)
  | [] => .nil
  | .inl i :: k => .cons (.int i) (rep_keys k)
  | .inr x :: k => .cons (.str x) (rep_keys k)
def lkL (p : Addr) (o : HO) : Addr → HO → Prop := fun a w => a = p ∧ w = o
theorem walk_dK {K : PySem.W.Frag} {F : Hp} {p : Addr} {o : Obj} {kvs : List (Key × V)} {es : List (D × D)} (rk : RepK K F kvs es) : WalkD K (lkL p (.frz o (.dK kvs))) (Itk p o kvs) F (keysOf es) := by
  refine ⟨fun i d F' H e sb hL hd => ?_, fun i F' H e sb hL hi => ⟨hL _ _ ⟨rfl, rfl⟩, by rw [repk_len rk]; exact hi⟩⟩
  obtain ⟨k, v, e1, rfl⟩ := repk_get rk hd
  refine ⟨⟨hL _ _ ⟨rfl, rfl⟩, (List.getElem?_eq_some_iff.mp e1).1⟩, fun x H' ⟨eh, k', v', e2, ex⟩ => ?_⟩
  rw [e1] at e2
  cases e2
  subst eh ex
  refine ⟨F', .refl sb, ?_⟩
  cases k with
  | inl i => exact .int i
  | inr x => exact .str x
theorem walk_dT {K : PySem.W.Frag} {F : Hp} {p : Addr} {o : Obj} {kvs : List (List Key × V)} {es : List (D × D)} (rk : RepT K F kvs es) : WalkD K (lkL p (.frz o (.dT kvs))) (Itkt p o kvs) F (keysOf es) := by
  refine ⟨fun i d F' H e sb hL hd => ?_, fun i F' H e sb hL hi => ⟨hL _ _ ⟨rfl, rfl⟩, by rw [rept_len rk]; exact hi⟩⟩
  obtain ⟨k, v, e1, rfl⟩ := rept_get rk hd
  refine ⟨⟨hL _ _ ⟨rfl, rfl⟩, (List.getElem?_eq_some_iff.mp e1).1⟩, fun x H' ⟨eh, k', v', q, e2, ex, hq⟩ => ?_⟩
  rw [e1] at e2
  cases e2
  subst eh ex
  -- the key's own tuple stands in H': it is taken into F'
  cases hq2 : F' q with
  | some w =>
    have := sb q w hq2
    rcases this with z | ⟨z1, z2, z3⟩
    · rw [hq] at z
      cases z
      exact ⟨F', .refl sb, .tup hq2 (rep_keys k)⟩
    · rw [hq] at z3
      cases z3
  | none =>
    have ex : Ext F' (upd F' q (.tup (k.map kV))) := fun b w e => by
      rw [upd_ne (ne_of_none e hq2)]
      exact e
    refine ⟨upd F' q (.tup (k.map kV)), ⟨ex, fun a h => ?_, .refl _, fun a w e => ?_⟩, .tup upd_same (rep_keys k)⟩
    · by_cases ha : a = q
      · subst ha
        exact .inr (.inr ⟨_, hq⟩)
      · rw [upd_ne ha] at h
        exact .inl h
    · by_cases ha : a = q
      · subst ha
        rw [upd_same] at e
        cases e
        exact .inl hq
      · rw [upd_ne ha] at e
        exact sb a w e
theorem di_keysC (i : Nat) {tg : Expr} {x : Str} {pos : Pos} (hN : X.N[i]? = some x := by rfl) (hv : Vis X.env.scope x := by first | exact Or.inl rfl | exact Or.inr (Or.inl rfl) | exact Or.inr (Or.inr rfl)) (hd : (x == ("__debug__" : Str)) = false := by decide +kernel)
    (hcd : (x == ("__classdict__" : Str)) = false := by decide +kernel) : PI X tg (.Name x pos) (fun σ H R => LkC i σ H ∧ tID X.K (iK i) σ H R) := (pi_keys (pe_var hN hv hd hcd)).weak fun σ H R h => by
  obtain ⟨⟨p, o, u, hs, hp, hu⟩, ρ, F, ds, ρ1, s, e, k⟩ := h
  obtain ⟨⟨d, ρ2⟩, e1, e⟩ := bind_some e
  cases d with
  | dict es =>
    cases e
    obtain ⟨p', F1, u', e2, st, hF, hdic, rr, _⟩ := var_dict s e1
    rw [hs] at e2
    cases e2
    have hu' : u' = u := by
      rcases st.ok.sub p u' hF with z | ⟨_, o2, z⟩
      · rw [hp] at z
        cases z
        cases hdic
      · rw [hp] at z
        cases z
        rfl
    subst hu'
    refine ⟨_, hs, p, o, rfl, ?_⟩
    have noOw : ¬ Ow ρ2 σ p := fun z => by
      have := (st.ok.ow_none z).1
      rw [hF] at this
      cases this
    rcases rr with ⟨kvs, rfl, rk⟩ | ⟨kvs, rfl, rk⟩
    · exact .inl ⟨kvs, hp, k _ F1 H _ st (walk_dK rk) fun a w ⟨e1, e2⟩ => by subst e1 e2; exact ⟨hp, noOw, fun xs z => by cases z⟩⟩
    · exact .inr ⟨kvs, hp, k _ F1 H _ st (walk_dT rk) fun a w ⟨e1, e2⟩ => by subst e1 e2; exact ⟨hp, noOw, fun xs z => by cases z⟩⟩
  | _ => cases e
theorem _root_.L2.PS.either {st : Stmt} {t t' : TS} (h : PS X st t) (h' : PS X st t') : PS X st (fun E σ H => t E σ H ∨ t' E σ H) := ⟨fun pins s σ H D I q => q.elim (h.run pins s σ H D I) (h'.run pins s σ H D I)⟩
theorem _root_.L2.PE.either {e : Expr} {t t' : TE} (h : PE X e t) (h' : PE X e t') : PE X e (fun σ H Q => t σ H Q ∨ t' σ H Q) := ⟨fun pins s σ H D I q => q.elim (h.run pins s σ H D I) (h'.run pins s σ H D I)⟩
/-- a statement that begins with slot i's dict -/
theorem lock_st {st : Stmt} {f : SDen} {i : Nat} (hf : ∀ ρ r, f ρ = some r → ∃ es ρ1, cVar i ρ = some (.dict es, ρ1) ∧ (cVar i ρ1 = some (.dict es, ρ1) → f ρ1 = some r)) (h : PS X st (fun E σ H => LkC i σ H ∧ tS X.K f E σ H)) : DS X st f :=
  ((ps_lock h).either h).weak fun E σ H q => by
    obtain ⟨ρ, F, r, s, e, w⟩ := q
    obtain ⟨es, ρ1, e1, e2⟩ := hf ρ r e
    obtain ⟨p, F1, u, hs, st, hF, hdic, _, e3⟩ := var_dict s e1
    have e2 := e2 e3
    rcases st.ok.sub p u hF with z | ⟨_, o, z⟩
    · refine .inl ⟨p, u, z, isDic_mut hdic, fun od => ⟨⟨p, od, u, hs, upd_same, hdic⟩, ρ1, F1, r, st.ok.lock hF hdic, e2, ?_⟩⟩
      refine ⟨fun ρ' σ' F' H' er t => ?_, fun ρ' σ' F' H' er t => ?_, fun ρ' σ' F' H' er t => ?_, fun d v ρ' σ' F' H' er t rv => ?_⟩
      · obtain ⟨a, b⟩ := Stp.unlock z hF hdic t st.ok
        exact ⟨a, w.nx ρ' σ' F' _ er (st.trans b)⟩
      · obtain ⟨a, b⟩ := Stp.unlock z hF hdic t st.ok
        exact ⟨a, w.bk ρ' σ' F' _ er (st.trans b)⟩
      · obtain ⟨a, b⟩ := Stp.unlock z hF hdic t st.ok
        exact ⟨a, w.ct ρ' σ' F' _ er (st.trans b)⟩
      · obtain ⟨a, b⟩ := Stp.unlock z hF hdic t st.ok
        exact ⟨a, w.rt d v ρ' σ' F' _ er (st.trans b) rv⟩
    · refine .inr ⟨⟨p, o, u, hs, z, hdic⟩, ρ1, F1, r, st.ok, e2, ?_⟩
      exact ⟨fun ρ' σ' F' H' er t => w.nx ρ' σ' F' H' er (st.trans t), fun ρ' σ' F' H' er t => w.bk ρ' σ' F' H' er (st.trans t), fun ρ' σ' F' H' er t => w.ct ρ' σ' F' H' er (st.trans t), fun d v ρ' σ' F' H' er t rv => w.rt d v ρ' σ' F' H' er (st.trans t) rv⟩
theorem lock_ex {e : Expr} {f : Den} {i : Nat} (hf : ∀ ρ r, f ρ = some r → ∃ es ρ1, cVar i ρ = some (.dict es, ρ1) ∧ (cVar i ρ1 = some (.dict es, ρ1) → f ρ1 = some r)) (h : PE X e (fun σ H Q => LkC i σ H ∧ tO X.K f σ H Q)) : DO X e f :=
  ((pe_lock h).either h).weak fun σ H Q q => by
    obtain ⟨ρ, F, d, ρ', s, ee, w⟩ := q
    obtain ⟨es, ρ1, e1, e2⟩ := hf ρ (d, ρ') ee
    obtain ⟨p, F1, u, hs, st, hF, hdic, _, e3⟩ := var_dict s e1
    have e2 := e2 e3
    rcases st.ok.sub p u hF with z | ⟨_, o, z⟩
    · refine .inl ⟨p, u, z, isDic_mut hdic, fun od => ⟨⟨p, od, u, hs, upd_same, hdic⟩, ρ1, F1, d, ρ', st.ok.lock hF hdic, e2, fun q F' H' t ow no hq => ?_⟩⟩
      obtain ⟨a, b⟩ := Stp.unlock z hF hdic t st.ok
      have hne : q ≠ p := fun y => by rw [y, upd_same] at hq; cases hq
      rw [upd_ne hne] at hq
      obtain ⟨o1, w1, o2, o3⟩ := ow
      exact ⟨a, w q F' _ (st.trans b) ⟨o1, w1, by rw [upd_ne hne]; exact o2, o3⟩ no hq⟩
    · exact .inr ⟨⟨p, o, u, hs, z, hdic⟩, ρ1, F1, d, ρ', st.ok, e2, fun q F' H' t ow no hq => w q F' H' (st.trans t) ow no (by
        rcases hz : H q with _ | y
        · rfl
        · rw [hq] at hz; cases hz)⟩
end
/-! ### for k in d -/
section
variable {X : Cx} {tg iter c : Expr} {body : List Stmt} {s : IDen} {g : GDen} {b : SDen} {t : TDen} {pos : Pos}
theorem for_reading {K : PySem.W.Frag} {E : Ends} {σ : L2.St} {H : Hp} (h : tS K (cFor s g b) E σ H) : tFor (tID K s) (tG K g) (tS K b) E σ H := by
    obtain ⟨ρ, F, r, s0, e, w⟩ := h
    obtain ⟨⟨ds, ρ1⟩, e1, e⟩ := bind_some e
    refine ⟨ρ, F, ds, ρ1, s0, e1, fun J F1 H1 L st wk hL => ?_⟩
    refine ⟨fun i m σ' H' => ∃ ρ' F', m = ds.length - i ∧ i ≤ ds.length ∧ Stp K ρ1 σ F1 H1 ρ' σ' F' H' ∧ forB g b (ds.drop i) ρ' = some r, ⟨ds.length, ρ1, F1, by simp, Nat.zero_le _, .refl st.ok, by simpa using e⟩, ?_⟩
    rintro i m σ' H' ⟨ρ', F', rfl, hi, st', e'⟩
    have lk : ∀ a o, L a o → H' a = some o := fun a o z => st'.gr.same a o (hL a o z).1 (hL a o z).2.1
    by_cases hlt : i < ds.length
    · right
      have ed : ds.drop i = ds[i] :: ds.drop (i + 1) := List.drop_eq_getElem_cons hlt
      rw [ed] at e'
      obtain ⟨ρ2, e2, e'⟩ := bind_some e'
      obtain ⟨r2, e3, e'⟩ := bind_some e'
      obtain ⟨g1, g2⟩ := wk.go i ds[i] F' H' st'.gr.ext st'.ok.sub lk (by simp)
      refine ⟨g1, fun σ3 H3 => ∃ ρ3 F3, Stp K ρ1 σ F1 H1 ρ3 σ3 F3 H3 ∧ forB g b (ds.drop (i + 1)) ρ3 = some r, fun σ3 H3 ⟨ρ3, F3, s3, e3⟩ => ⟨ds.length - (i + 1), by omega, ρ3, F3, rfl, hlt, s3, e3⟩, fun x H2 y => ?_⟩
      obtain ⟨F2, px, rx⟩ := g2 x H2 y
      have st2 := st'.thenPx px
      refine ⟨ρ', F2, _, ρ2, st2.ok, rx, e2, fun σ3 F3 H3 s3 => ⟨ρ2, F3, r2, s3.ok, e3, ?_⟩⟩
      have st3 := st2.trans s3
      refine ⟨fun ρ4 σ4 F4 H4 er st4 => ?_, fun ρ4 σ4 F4 H4 er st4 => ?_, fun ρ4 σ4 F4 H4 er st4 => ?_, fun d v ρ4 σ4 F4 H4 er st4 rv => ?_⟩
      · subst er
        exact ⟨ρ4, F4, st3.trans st4, e'⟩
      · subst er
        cases e'
        exact w.nx ρ4 σ4 F4 H4 rfl (st.trans (st3.trans st4))
      · subst er
        exact ⟨ρ4, F4, st3.trans st4, e'⟩
      · subst er
        cases e'
        exact w.rt d v ρ4 σ4 F4 H4 rfl (st.trans (st3.trans st4)) rv
    · left
      have hlen : ds.length ≤ i := Nat.le_of_not_lt hlt
      rw [List.drop_eq_nil_of_le hlen] at e'
      cases e'
      exact ⟨wk.stop i F' H' st'.gr.ext st'.ok.sub lk hlen, w.nx ρ' σ' F' H' rfl (st.trans st')⟩
theorem iK_lock {α : Type} {i : Nat} {k : List D × Env → Option α} : ∀ ρ r, (iK i ρ).bind k = some r → ∃ es ρ1, cVar i ρ = some (.dict es, ρ1) ∧ (cVar i ρ1 = some (.dict es, ρ1) → (iK i ρ1).bind k = some r) := fun ρ r e => by
  obtain ⟨⟨ds, ρ2⟩, e1, e⟩ := bind_some e
  obtain ⟨⟨d, ρ1⟩, e2, e1⟩ := bind_some e1
  cases d with
  | dict es =>
    cases e1
    refine ⟨es, _, e2, fun e3 => ?_⟩
    have : iK i ρ1 = some (keysOf es, ρ1) := by
      unfold iK
      rw [e3]
      rfl
    rw [this]
    exact e
  | _ => cases e1
theorem ds_forK (i : Nat) {x : Str} {p2 : Pos} (hp : PassesOwn (model X.prog X.w) X.A X.env X.xe) (hc : X.calm = true) (hg : DG X tg g) (hb : DSs X body b) (hN : X.N[i]? = some x := by rfl) (hv : Vis X.env.scope x := by first | exact Or.inl rfl | exact Or.inr (Or.inl rfl) | exact Or.inr (Or.inr rfl)) (hd : (x == ("__debug__" : Str)) = false := by decide +kernel)
    (hcd : (x == ("__classdict__" : Str)) = false := by decide +kernel) (hs : ∀ y, foldedSetIterable (.Name x p2) X.env y = pure y := by intro _; rfl) : DS X (.For tg (.Name x p2) body [] pos) (cFor (iK i) g b) :=
  lock_st (i := i) (fun ρ r e => iK_lock ρ r e) ((ps_for hp hc (di_keysC i hN hv hd hcd) hg hb hs).weak fun E σ H ⟨hC, h⟩ => ⟨hC, for_reading h⟩)
end
section
variable {X : Cx} {elt tg iter tg1 iter1 : Expr} {ifs ifs1 : List Expr} {scope : Scope} {pos spos : Pos} {s s1 : IDen} {g g1 : GDen} {t t1 : TDen} {e : Den}
theorem do_lcK (own : List (Str × Nat)) (i : Nat) {x : Str} {p2 : Pos} (hc : X.calm = true) (hN : X.N.Nodup) (ok : BlkOk X.N X.env.scope scope own)
    (hg : InBlk X scope fun Y => DGw Y tg g (own.map (·.2))) (ht : InBlk X scope fun Y => DTs Y ifs t) (he : InBlk X scope fun Y => DE Y elt e) (hi : X.N[i]? = some x := by rfl) (hv : Vis X.env.scope x := by first | exact Or.inl rfl | exact Or.inr (Or.inl rfl) | exact Or.inr (Or.inr rfl)) (hd : (x == ("__debug__" : Str)) = false := by decide +kernel)
    (hcd : (x == ("__classdict__" : Str)) = false := by decide +kernel) (hs : ∀ y, foldedSetIterable (.Name x p2) X.env y = pure y := by intro _; rfl) :
    DO X (.ListComp elt [⟨tg, .Name x p2, ifs, 0⟩] scope pos) (cLc (own.map (·.2)) (iK i) g t e) :=
  lock_ex (i := i) (fun ρ r e => iK_lock ρ r e) (L2.PE.weak (pe_lc (g := tGw X.K g (own.map fun p : Str × Nat => p.2)) (tt := tTD X.K t) (te := tE X.K e) hc hN (di_keysC i hi hv hd hcd) ok (fun s H C cl fp => hg s H C cl fp) (fun s H C cl fp => ht s H C cl fp) (fun s H C cl fp => he s H C cl fp) hs) fun _ _ _ ⟨hC, h⟩ => ⟨hC, lc_reading h⟩)
theorem ds_setLcK (own : List (Str × Nat)) (j i : Nat) {y x : Str} {py p2 : Pos} (hc : X.calm = true) (hN : X.N.Nodup) (hyl : X.env.scope.names.lookup y = some .local)
    (hsw : swapsWith (.ListComp elt [⟨tg, .Name x p2, ifs, 0⟩] scope pos) (some (.Name y py)) spos.line X.env = pure true) (ok : BlkOk X.N X.env.scope scope own)
    (hg : InBlk X scope fun Y => DGw Y tg g (own.map (·.2))) (ht : InBlk X scope fun Y => DTs Y ifs t) (he : InBlk X scope fun Y => DE Y elt e) (hi : X.N[i]? = some x := by rfl) (hv : Vis X.env.scope x := by first | exact Or.inl rfl | exact Or.inr (Or.inl rfl) | exact Or.inr (Or.inr rfl)) (hd : (x == ("__debug__" : Str)) = false := by decide +kernel)
    (hcd : (x == ("__classdict__" : Str)) = false := by decide +kernel) (hs : ∀ y, foldedSetIterable (.Name x p2) X.env y = pure y := by intro _; rfl) (hy : X.N[j]? = some y := by rfl) :
    DS X (.Assign [.Name y py] (.ListComp elt [⟨tg, .Name x p2, ifs, 0⟩] scope pos) spos) (cSetO j (cLc (own.map (·.2)) (iK i) g t e)) :=
  lock_st (i := i) (fun ρ r e => by
    obtain ⟨z, e1, e2⟩ := bind_some e
    obtain ⟨es, ρ1, a, b⟩ := iK_lock (i := i) ρ z e1
    refine ⟨es, ρ1, a, fun c => ?_⟩
    have b := b c
    unfold cSetO
    rw [show cLc (own.map (·.2)) (iK i) g t _ ρ1 = some z from b]
    exact e2) (L2.PS.weak (ps_setLc (g := tGw X.K g (own.map fun p : Str × Nat => p.2)) (tt := tTD X.K t) (te := tE X.K e) hc hN hy hyl hsw (di_keysC i hi hv hd hcd) ok (fun s H C cl fp => hg s H C cl fp) (fun s H C cl fp => ht s H C cl fp) (fun s H C cl fp => he s H C cl fp) hs) fun E σ H ⟨hC, h⟩ => ⟨hC, lc_reading (tS_tO h)⟩)
end
end DL

set_option maxHeartbeats 4000000
/-! DL22: min, max of two alike things of any kind. -/
namespace PySem
open PySem.W PySem.SeqAt PyProof.Rows
section
variable {prog : Program} {w : World} {A : Around} {E : Value → Shared → Prop} {s : Shared}
theorem dl_min_twoH {a b : Value} {Q : Value → Shared → Prop}
    (h : wpAny (model prog w) A.in1 (pyIter (.ref s.heap.objs.size)) (fun it s₂ => ∃ I fp wr G n P St H bt, it = .ref I ∧ WalksS prog w A.in1 I fp wr G n P St ∧ St 0 s₂ ∧ (∀ b ∈ fp, b < s₂.heap.objs.size) ∧ 0 < n ∧
      (∀ b o, H.get? b = some o → b ∉ wr) ∧ (∀ b o, H.get? b = some o → s₂.heap.get? b = some o) ∧ CmpIn prog w A.in1 .Lt H P bt ∧ ∀ v s', P (argBest bt (n - 1)) v → Moved wr G s₂ s' → Q v s') E
      { s with heap := s.heap.push { cls := .type "tuple", data := .seq #[a, b] } }) :
    wpAny (model prog w) A (call (.builtin "min") [a, b]) Q E s := by
  have hname : (toString "min" ++ toString ".loop" : String) = "min.loop" := by decide
  refine call_function_tree F.kind_min F.plain_min F.entry_min (F.args_min2 _ _) ?_
  show wpAny _ A.in1 (Builtin.Builtins.bindParams "min" ["key", "default"] 0 ⟨[], []⟩ >>= _) _ _ s
  refine wpAny_bind (wpAny_of_eq (show Builtin.Builtins.bindParams "min" ["key", "default"] 0 ⟨[], []⟩ = pure [none, none] from rfl) ?_)
  show wpAny _ A.in1 (newTuple [a, b] >>= _) _ _ s
  refine wpAny_bind (wpAny_newObj_type ?_)
  refine wpAny_bind (wpAny_mono h (fun it s₂ h₂ => ?_) fun _ _ e => e)
  obtain ⟨I, fp, wr, G, n, P, St, H, bt, rfl, W, hst, hfp, hn, hw, hkeep, hcmp, hQ⟩ := h₂
  refine wpAny_bind (wpAny_newObj_type ?_)
  have hSf : s₂.heap.objs.size ∉ fp := fun hm => Nat.lt_irrefl _ (hfp _ hm)
  rw [hname]
  refine wpAny_pure ⟨plainId_quiet F.plain_min_loop _, codeAny_min_loop_firstH W H hw bt hcmp s₂.heap.objs.size hSf (fresh_in hkeep) _ hn (fun b o e => Heap.get?_push_of_some _ (hkeep b o e)) (W.frame 0 s₂ _ s₂.toks hst (Nat.le_refl _) fun b _ o e => Heap.get?_push_of_some _ e) (Heap.get?_push_size _ rfl) fun v s' hP hm => ?_⟩
  exact hQ v s' hP (Moved.drop_new (tk := s₂.toks) hm (Nat.le_refl _))
theorem dl_max_twoH {a b : Value} {Q : Value → Shared → Prop}
    (h : wpAny (model prog w) A.in1 (pyIter (.ref s.heap.objs.size)) (fun it s₂ => ∃ I fp wr G n P St H bt, it = .ref I ∧ WalksS prog w A.in1 I fp wr G n P St ∧ St 0 s₂ ∧ (∀ b ∈ fp, b < s₂.heap.objs.size) ∧ 0 < n ∧
      (∀ b o, H.get? b = some o → b ∉ wr) ∧ (∀ b o, H.get? b = some o → s₂.heap.get? b = some o) ∧ CmpIn prog w A.in1 .Gt H P bt ∧ ∀ v s', P (argBest bt (n - 1)) v → Moved wr G s₂ s' → Q v s') E
      { s with heap := s.heap.push { cls := .type "tuple", data := .seq #[a, b] } }) :
    wpAny (model prog w) A (call (.builtin "max") [a, b]) Q E s := by
  have hname : (toString "max" ++ toString ".loop" : String) = "max.loop" := by decide
  refine call_function_tree F.kind_max F.plain_max F.entry_max (F.args_max2 _ _) ?_
  show wpAny _ A.in1 (Builtin.Builtins.bindParams "max" ["key", "default"] 0 ⟨[], []⟩ >>= _) _ _ s
  refine wpAny_bind (wpAny_of_eq (show Builtin.Builtins.bindParams "max" ["key", "default"] 0 ⟨[], []⟩ = pure [none, none] from rfl) ?_)
  show wpAny _ A.in1 (newTuple [a, b] >>= _) _ _ s
  refine wpAny_bind (wpAny_newObj_type ?_)
  refine wpAny_bind (wpAny_mono h (fun it s₂ h₂ => ?_) fun _ _ e => e)
  obtain ⟨I, fp, wr, G, n, P, St, H, bt, rfl, W, hst, hfp, hn, hw, hkeep, hcmp, hQ⟩ := h₂
  refine wpAny_bind (wpAny_newObj_type ?_)
  have hSf : s₂.heap.objs.size ∉ fp := fun hm => Nat.lt_irrefl _ (hfp _ hm)
  rw [hname]
  refine wpAny_pure ⟨plainId_quiet F.plain_max_loop _, codeAny_max_loop_firstH W H hw bt hcmp s₂.heap.objs.size hSf (fresh_in hkeep) _ hn (fun b o e => Heap.get?_push_of_some _ (hkeep b o e)) (W.frame 0 s₂ _ s₂.toks hst (Nat.le_refl _) fun b _ o e => Heap.get?_push_of_some _ e) (Heap.get?_push_size _ rfl) fun v s' hP hm => ?_⟩
  exact hQ v s' hP (Moved.drop_new (tk := s₂.toks) hm (Nat.le_refl _))
theorem dl_min_two_data {a b : Value} {x y : PyData} {as : List Addr} {Q : Value → Shared → Prop} (hh : A.handled = none) (hr : ReadsAll s.heap [a, b] [x, y] as) (ha : AlikeAll [x, y]) (hu : A.units + 1 + PyData.depthAll [x, y] < cLine)
    (h : ∀ (i : Nat) v h' tk bs, [a, b][i]? = some v → Reads h' v (minD x [y]) bs → (∀ b o, s.heap.get? b = some o → h'.get? b = some o) → Q v { s with heap := h', toks := tk }) :
    wpAny (model prog w) A (call (.builtin "min") [a, b]) Q E s := by
  have hk0 : ∀ c o, s.heap.get? c = some o → (s.heap.push { cls := .type "tuple", data := .seq #[a, b] }).get? c = some o := fun c o e => Heap.get?_push_of_some _ e
  have hT : (s.heap.push { cls := .type "tuple", data := .seq #[a, b] }).IsTuple s.heap.objs.size #[a, b] := ⟨_, Heap.get?_push_size _ rfl, rfl, 0, rfl⟩
  have hr' : ReadsAll (s.heap.push { cls := .type "tuple", data := .seq #[a, b] }) (#[a, b] : Array Value).toList [x, y] as := PyProof.Rows.ReadsAll.keeps hk0 hr
  refine dl_min_twoH (iter_tupleW (A := A.in1) hh hT fun s₂ e W st hfp hw hk => ?_)
  refine ⟨_, _, _, _, _, _, _, s.heap.push { cls := .type "tuple", data := .seq #[a, b] }, _, rfl, W, st, hfp, by simp, hw, hk, cmpIn_lt (A := A.in1) (s := { s with heap := s.heap.push { cls := .type "tuple", data := .seq #[a, b] } }) hr' ha (by show A.units + 1 + _ < _; exact hu), fun v s' hP m => ?_⟩
  obtain ⟨h', tk, rfl, hk'⟩ := moved_old e rfl m
  obtain ⟨bs, r, _, _, _⟩ := readsAll_atA hr' _ v hP
  have e2 := (argBest_fold dataLt PyData.none x [y] [y].length (Nat.le_refl _)).2
  rw [List.take_length] at e2
  refine h _ v h' tk bs (by simpa using hP) (reads_keeps hk' (by unfold minD; rw [← e2]; exact r)) fun c o e => hk' c o (hk0 c o e)
theorem dl_max_two_data {a b : Value} {x y : PyData} {as : List Addr} {Q : Value → Shared → Prop} (hh : A.handled = none) (hr : ReadsAll s.heap [a, b] [x, y] as) (ha : AlikeAll [x, y]) (hu : A.units + 1 + PyData.depthAll [x, y] < cLine)
    (h : ∀ (i : Nat) v h' tk bs, [a, b][i]? = some v → Reads h' v (maxD x [y]) bs → (∀ b o, s.heap.get? b = some o → h'.get? b = some o) → Q v { s with heap := h', toks := tk }) :
    wpAny (model prog w) A (call (.builtin "max") [a, b]) Q E s := by
  have hk0 : ∀ c o, s.heap.get? c = some o → (s.heap.push { cls := .type "tuple", data := .seq #[a, b] }).get? c = some o := fun c o e => Heap.get?_push_of_some _ e
  have hT : (s.heap.push { cls := .type "tuple", data := .seq #[a, b] }).IsTuple s.heap.objs.size #[a, b] := ⟨_, Heap.get?_push_size _ rfl, rfl, 0, rfl⟩
  have hr' : ReadsAll (s.heap.push { cls := .type "tuple", data := .seq #[a, b] }) (#[a, b] : Array Value).toList [x, y] as := PyProof.Rows.ReadsAll.keeps hk0 hr
  refine dl_max_twoH (iter_tupleW (A := A.in1) hh hT fun s₂ e W st hfp hw hk => ?_)
  refine ⟨_, _, _, _, _, _, _, s.heap.push { cls := .type "tuple", data := .seq #[a, b] }, _, rfl, W, st, hfp, by simp, hw, hk, cmpIn_gt (A := A.in1) (s := { s with heap := s.heap.push { cls := .type "tuple", data := .seq #[a, b] } }) hr' ha (by show A.units + 1 + _ < _; exact hu), fun v s' hP m => ?_⟩
  obtain ⟨h', tk, rfl, hk'⟩ := moved_old e rfl m
  obtain ⟨bs, r, _, _, _⟩ := readsAll_atA hr' _ v hP
  have e2 := (argBest_fold (fun a b => dataLt b a) PyData.none x [y] [y].length (Nat.le_refl _)).2
  rw [List.take_length] at e2
  refine h _ v h' tk bs (by simpa using hP) (reads_keeps hk' (by unfold maxD; rw [← e2]; exact r)) fun c o e => hk' c o (hk0 c o e)
end
end PySem
namespace DL
open PySem L2 PyProof.Rows
section
variable {X : Cx} {K : PySem.W.Frag}
def rMM2 (K : PySem.W.Frag) (best : D → List D → D) : List V → Hp → VK → Prop := fun vs H Q => ∃ (a b : V) (x y : D), vs = [a, b] ∧ DpAll K H [a, b] [x, y] ∧ mmOk [x, y] = true ∧ ∀ v, (v, best x [y]) ∈ [a, b].zip [x, y] → Q v H
theorem cr_min2Dt (hc : X.calm = true) (hu : X.A.units + 64 < cLine) : CallR X (.builtin "min") (rMM2 X.K PySem.W.minD) := by
  intro pins s σ H vs us Q I r h
  obtain ⟨a, b, x, y, rfl, dp, ok, q⟩ := h
  obtain ⟨hal, hd, _⟩ := mmOk_parts ok
  obtain ⟨u, w', rfl, r1, r2⟩ := vals2 r
  obtain ⟨as, hr⟩ := Dp.readsAll I [x, y] [a, b] [u, w'] dp r
  refine PySem.dl_min_two_data (I.ok.hd hc) (by simpa using hr) hal (by omega) fun i u2 h' tk bs hi rd hk => ?_
  obtain ⟨v, rvv, hm⟩ := zip_at r (PyProof.Rows.ReadsAll.keeps hk hr) hal.1 (by simpa using hi) rd (fold_mem (f := PySem.W.dataLt) [y] x)
  exact ⟨v, H, I.kept hk, rvv, q v hm⟩
theorem cr_max2Dt (hc : X.calm = true) (hu : X.A.units + 64 < cLine) : CallR X (.builtin "max") (rMM2 X.K PySem.W.maxD) := by
  intro pins s σ H vs us Q I r h
  obtain ⟨a, b, x, y, rfl, dp, ok, q⟩ := h
  obtain ⟨hal, hd, _⟩ := mmOk_parts ok
  obtain ⟨u, w', rfl, r1, r2⟩ := vals2 r
  obtain ⟨as, hr⟩ := Dp.readsAll I [x, y] [a, b] [u, w'] dp r
  refine PySem.dl_max_two_data (I.ok.hd hc) (by simpa using hr) hal (by omega) fun i u2 h' tk bs hi rd hk => ?_
  obtain ⟨v, rvv, hm⟩ := zip_at r (PyProof.Rows.ReadsAll.keeps hk hr) hal.1 (by simpa using hi) rd (fold_mem (f := fun y a => PySem.W.dataLt a y) [y] x)
  exact ⟨v, H, I.kept hk, rvv, q v hm⟩
def min2A (ds : List D) : Option D := match min2D ds with
  | some r => some r
  | none => match ds with
    | [x, y] => if mmOk [x, y] = true then some (PySem.W.minD x [y]) else none
    | _ => none
def max2A (ds : List D) : Option D := match max2D ds with
  | some r => some r
  | none => match ds with
    | [x, y] => if mmOk [x, y] = true then some (PySem.W.maxD x [y]) else none
    | _ => none
theorem cs_mm2 {best : D → List D → D} {op : List D → Option D} (hop : ∀ ds r, op ds = some r → ∃ x y, ds = [x, y] ∧ mmOk [x, y] = true ∧ r = best x [y]) : CallsD K (rMM2 K best) op := by
  intro F H vs ds d3 sb r e Q k
  obtain ⟨x, y, rfl, ok, rfl⟩ := hop ds d3 e
  obtain ⟨_, _, hlay⟩ := mmOk_parts ok
  have hdp := Reps.dp sb r hlay
  cases r with
  | cons r1 t => cases t with
    | cons r2 t =>
      cases t
      exact ⟨_, _, x, y, rfl, hdp, ok, fun v hv => k v F H (.refl sb) (reps_zip (.cons r1 (.cons r2 .nil)) _ hv)⟩
theorem cs_min2A : CallsD K (fun xs H Q => (∃ i j, xs = [.int i, .int j] ∧ Q (.int (if j < i then j else i)) H) ∨ rMM2 K PySem.W.minD xs H Q) min2A := by
  intro F H vs ds d3 sb r e Q k
  unfold min2A at e
  split at e
  · rename_i z h
    cases e
    exact .inl (cs_min2 F H vs ds _ sb r h Q k)
  · refine .inr (cs_mm2 (op := fun ds => match ds with
      | [x, y] => if mmOk [x, y] = true then some (PySem.W.minD x [y]) else none
      | _ => none) (fun ds r e => ?_) F H vs ds d3 sb r e Q k)
    split at e
    · split at e
      · rename_i h
        cases e
        exact ⟨_, _, rfl, h, rfl⟩
      · cases e
    · cases e
theorem cs_max2A : CallsD K (fun xs H Q => (∃ i j, xs = [.int i, .int j] ∧ Q (.int (if j > i then j else i)) H) ∨ rMM2 K PySem.W.maxD xs H Q) max2A := by
  intro F H vs ds d3 sb r e Q k
  unfold max2A at e
  split at e
  · rename_i z h
    cases e
    exact .inl (cs_max2 F H vs ds _ sb r h Q k)
  · refine .inr (cs_mm2 (op := fun ds => match ds with
      | [x, y] => if mmOk [x, y] = true then some (PySem.W.maxD x [y]) else none
      | _ => none) (fun ds r e => ?_) F H vs ds d3 sb r e Q k)
    split at e
    · split at e
      · rename_i h
        cases e
        exact ⟨_, _, rfl, h, rfl⟩
      · cases e
    · cases e
theorem cr_min2A (hc : X.calm = true) (hu : X.A.units + 64 < cLine) : CallR X (.builtin "min") (fun xs H Q => (∃ i j, xs = [.int i, .int j] ∧ Q (.int (if j < i then j else i)) H) ∨ rMM2 X.K PySem.W.minD xs H Q) := CallR.or2 (call_min2 hc) (cr_min2Dt hc hu)
theorem cr_max2A (hc : X.calm = true) (hu : X.A.units + 64 < cLine) : CallR X (.builtin "max") (fun xs H Q => (∃ i j, xs = [.int i, .int j] ∧ Q (.int (if j > i then j else i)) H) ∨ rMM2 X.K PySem.W.maxD xs H Q) := CallR.or2 (call_max2 hc) (cr_max2Dt hc hu)
end
end DL

set_option maxHeartbeats 4000000
/-! DL23: dict.get; methods that only look. -/
namespace DL
open PySem L2 PyProof.Rows
section
variable {X : Cx} {K : PySem.W.Frag} {pins : List (Addr × Obj)} {σ : L2.St} {H : Hp} {s : Shared} {a : Addr} {y v d : V} {u r : Value} {o : Option V} {A : Around} {E : Value → Shared → Prop}
theorem d_get1E {Q : Value → Shared → Prop} (hu : A.units + 1 < cLine) (I : Inv X pins σ H s) (g : DGetE H a y o) (ry : RelV y u) (h : ∀ w' s', Inv X pins σ H s' → RelV (o.getD .non) w' → Q w' s') :
    wpAny (model X.prog X.w) A (call (.builtin "dict.get") [.ref a, u]) Q E s := by
  rcases g with g | ⟨rfl, ⟨e, k, b, rfl, eb⟩ | ⟨e, k, rfl⟩⟩
  · exact d_get1 hu I g ry h
  · cases (show u = Value.ref b from ry)
    obtain ⟨hd, dd⟩ := empty_T I e
    exact call_meetsIn PySem.F.slot_dict_get dd.typeIs PySem.F.entry_dict_get (PySem.F.args_dict_get_2 _ _) (meetsH_dict_get (tupleKind (mixKind X.prog X.w)) a b hd) ⟨tupleKind_room_in1 hu, k, [], key_of I.hok eb, dd, h _ _ (I.tok _) rfl⟩
  · obtain ⟨hd, dd⟩ := empty_K I e
    have ht : s.TypeIs (.ref a) "dict" := by
      obtain ⟨_, _, _, _, dd⟩ := dt_rd I.hok e
      exact dd.typeIs
    exact call_meetsIn PySem.F.slot_dict_get ht PySem.F.entry_dict_get (PySem.F.args_dict_get_2 _ _) (meets_dict_get (mixKind X.prog X.w) a (kV_is ry) hd) ⟨_, dd, h _ _ (I.tok _) rfl⟩
def rGet : V → List V → Hp → VK → Prop := fun x xs H Q => ∃ a y o, x = .ref a ∧ DGetE H a y o ∧ ((xs = [y] ∧ Q (o.getD .non) H) ∨ ∃ d, xs = [y, d] ∧ Q (o.getD d) H)
theorem mt_get (hu : X.A.units + 1 < cLine) : MtR X "dict.get" rGet := by
  intro pins s σ H x xs v us Q I rx rs h
  obtain ⟨a, y, o, rfl, g, h⟩ := h
  cases (show v = Value.ref a from rx)
  rcases h with ⟨rfl, q⟩ | ⟨d, rfl, q⟩
  · obtain ⟨u, rfl, ru⟩ := vals1 rs
    exact d_get1E hu I g ru fun w' s3 I3 rw' => ⟨_, H, I3, rw', q⟩
  · obtain ⟨u, w, rfl, ru, rw⟩ := vals2 rs
    exact d_get2E hu I g ru rw fun w' s3 I3 rw' => ⟨_, H, I3, rw', q⟩
end
section
variable {X : Cx} {K : PySem.W.Frag} {e o0 : Expr} {es : List Expr} {to : TE} {t : TA} {name : Str} {apos cpos : Pos} {id : String} {r : V → List V → Hp → VK → Prop}
theorem pe_dm (slot : Slot "dict" name id) (hty : typeOf (.builtin id) = pure (.type "method_descriptor")) (hm : MtR X id r) (ho : PE X o0 to) (ha : PA X (e :: es) t)
    (hbase : attributeBase o0 name X.env (eval o0 X.env) = eval o0 X.env := by rfl)
    (hfew : ((backTo cpos (starEach (e :: es) X.env)).all (fun x => !x.1) && (backToKw cpos (keywordEach [] X.env)).all (fun x => x.1.isSome)
      && decide ((e :: es).length + ([] : List Keyword).length + (if ([] : List Keyword).isEmpty then 0 else 1) < 30)) = true := by rfl)
    (hline : (apos.endLine == cpos.line) = true := by rfl) (hs : starEach (e :: es) X.env = (false, eval e X.env) :: starEach es X.env := by rfl) (hplain : (backTo cpos (starEach es X.env)).any (·.1) = false := by rfl) :
    PE X (.Call (.Attribute o0 name apos) (e :: es) [] cpos) (fun σ H Q => to σ H fun x H1 => (∃ a, x = .ref a ∧ IsD H1 a) ∧ t σ H1 fun xs H2 => r x xs H2 Q) := by
  refine ⟨fun pins s σ H Q I h => ?_⟩
  refine wpAny_Call_method_late hbase hfew hline rfl (thn (ho.run pins s σ H _ I h) fun v s1 ⟨x, H1, I1, r1, ⟨a, ex, isd⟩, q1⟩ => ?_)
  subst ex
  cases (show v = Value.ref a from r1)
  obtain ⟨h1, h2, _⟩ := isD_at I1 isd
  refine ⟨"dict", id, PySem.F.plainAttrs_dict, slot, hty, h1, h2, ?_⟩
  have hA := ha.run cpos pins s1 σ H1 _ I1 q1
  rw [hs] at hA ⊢
  refine Calls.callWith_builtin (by show (false || (backTo cpos (starEach es X.env)).any (·.1)) = false; rw [hplain] <;> rfl) (Calls.evalArgs_plain ?_)
  exact thn hA fun us s2 ⟨vs, H2, I2, r2, q2⟩ => hm pins s2 σ H2 _ vs _ us Q I2 r1 r2 q2
/-- a method that looks at its thing -/
def MthH (K : PySem.W.Frag) (r : V → List V → Hp → VK → Prop) (op : D → List D → Option D) : Prop :=
  ∀ (F H : Hp) (x : V) (c : D) (vs : List V) (ds : List D) (d3 : D), Sub F H → RepH K F H x c → Reps K F vs ds → op c ds = some d3 → ∀ Q : VK, (∀ v F' H', Px F H F' H' → Rep K F' v d3 → Q v H') → r x vs H Q
def cMth (tag : D → Bool) (op : D → List D → Option D) (o : ODen) (fs : ADen) : Den := fun ρ => (o ρ).bind fun x => (res x.2 x.1).bind fun c0 => if tag c0 = true then (fs x.2).bind fun y => (res y.2 x.1).bind fun c => (op c y.1).bind fun z => some (z, y.2) else none
def getD : D → List D → Option D
  | .dict es, [k] => if fitK es k = true then some ((DL.dget es k).getD .none) else none
  | .dict es, [k, d] => if fitK es k = true then some ((DL.dget es k).getD d) else none
  | _, _ => none
theorem mh_get : MthH K rGet getD := by
  intro F H x c vs ds d3 sb rc r e Q k
  unfold getD at e
  split at e
  · split at e
    · rename_i es kk f
      cases e
      cases r with
      | cons r1 t =>
        cases t
        obtain ⟨a, o, rfl, g, q⟩ := RepH.dgetE rc sb (.inl r1) f
        refine ⟨a, _, o, rfl, g, .inl ⟨rfl, ?_⟩⟩
        rcases q with ⟨e1, rfl⟩ | ⟨d, v, e1, rfl, rv⟩
        · exact k _ F H (.refl sb) (by rw [e1]; exact .non)
        · exact k _ F H (.refl sb) (by rw [e1]; exact rv)
    · cases e
  · split at e
    · rename_i es kk dd f
      cases e
      cases r with
      | cons r1 t =>
        cases t with
        | cons r2 t =>
          cases t
          obtain ⟨a, o, rfl, g, q⟩ := RepH.dgetE rc sb (.inl r1) f
          refine ⟨a, _, o, rfl, g, .inr ⟨_, rfl, ?_⟩⟩
          rcases q with ⟨e1, rfl⟩ | ⟨d, v, e1, rfl, rv⟩
          · exact k _ F H (.refl sb) (by rw [e1]; exact r2)
          · exact k _ F H (.refl sb) (by rw [e1]; exact rv)
    · cases e
  · cases e
theorem RepH.isD {F H : Hp} {x : V} {c : D} (h : RepH K F H x c) (sb : Sub F H) (t : isDc c = true) : ∃ a, x = .ref a ∧ IsD H a := by
  cases c with
  | dict es =>
    obtain ⟨a, e, q⟩ := h.dic sb
    refine ⟨a, e, ?_⟩
    rcases q with ⟨kvs, q, _⟩ | ⟨kvs, q, _⟩
    · exact .inl ⟨_, q⟩
    · exact .inr ⟨_, q⟩
  | _ => cases t
/-- d.m(e, ..): a method of dicts that only looks -/
theorem de_mthD {o : ODen} {fs : ADen} {op : D → List D → Option D} (slot : Slot "dict" name id) (hty : typeOf (.builtin id) = pure (.type "method_descriptor")) (hm : MtR X id r) (hop : MthH X.K r op) (ho : DOd X o0 o) (ha : DA X (e :: es) fs)
    (hbase : attributeBase o0 name X.env (eval o0 X.env) = eval o0 X.env := by rfl)
    (hfew : ((backTo cpos (starEach (e :: es) X.env)).all (fun x => !x.1) && (backToKw cpos (keywordEach [] X.env)).all (fun x => x.1.isSome)
      && decide ((e :: es).length + ([] : List Keyword).length + (if ([] : List Keyword).isEmpty then 0 else 1) < 30)) = true := by rfl)
    (hline : (apos.endLine == cpos.line) = true := by rfl) (hs : starEach (e :: es) X.env = (false, eval e X.env) :: starEach es X.env := by rfl) (hplain : (backTo cpos (starEach es X.env)).any (·.1) = false := by rfl) :
    DE X (.Call (.Attribute o0 name apos) (e :: es) [] cpos) (cMth isDc op o fs) := (pe_dm slot hty hm ho ha hbase hfew hline hs hplain).weak fun σ H Q h => by
  obtain ⟨ρ, F, d, ρ', s, e, k⟩ := h
  obtain ⟨⟨x, ρ1⟩, e1, e⟩ := bind_some e
  obtain ⟨c0, e2, e⟩ := bind_some e
  split at e
  · rename_i ht
    obtain ⟨⟨ds, ρ2⟩, e3, e⟩ := bind_some e
    obtain ⟨c, e4, e⟩ := bind_some e
    obtain ⟨z, e5, e⟩ := bind_some e
    cases e
    refine ⟨ρ, F, x, ρ1, s, e1, fun v1 F1 H1 s1 r1 => ⟨RepH.isD (r1.rep s1.ok e2) s1.ok.sub ht, ρ1, F1, ds, _, s1.ok, e3, fun vs F2 H2 s2 r2 => ?_⟩⟩
    exact hop F2 H2 v1 c vs ds _ s2.ok.sub ((r1.mono s2.gr.ext).rep s2.ok e4) r2 e5 Q fun v F' H' px rep => k v F' H' ((s1.trans s2).thenPx px) rep
  · cases e
end
end DL

set_option maxHeartbeats 4000000
/-! DL24: dicts compared. -/
namespace DL
open PySem L2 PyProof.Rows
def eqDict (es fs : List (D × D)) : Bool := es.length == fs.length && es.all fun p => match DL.dget fs p.1 with
  | some d => PyData.eqv p.2 d
  | none => false
def okDict (es : List (D × D)) : Bool := es.all fun p => isKey p.1 && SeqAt.shaped p.2
def eqDD : D → D → Option D
  | .dict es, .dict fs => if okDict es && okDict fs then some (.bool (eqDict es fs)) else none
  | _, _ => none
def neDD : D → D → Option D
  | .dict es, .dict fs => if okDict es && okDict fs then some (.bool (!eqDict es fs)) else none
  | _, _ => none
def DkOr (H : Hp) (a : Addr) (kvs : List (Key × V)) : Prop := Rd H a (.dK kvs) ∨ (kvs = [] ∧ Rd H a (.dT []))
section
variable {X : Cx} {K : PySem.W.Frag}
/-- the values of a dict, as data -/
def DpK (K : PySem.W.Frag) (H : Hp) (kvs : List (Key × V)) (es : List (D × D)) : Prop := Paired (fun p q => keyD p.1 = q.1 ∧ Dp K H p.2 q.2) kvs es
def rEqDk (K : PySem.W.Frag) (neg : Bool) : R2 := fun x y H Q => ∃ a b ks ls es fs, x = .ref a ∧ y = .ref b ∧ DkOr H a ks ∧ DkOr H b ls ∧ DpK K H ks es ∧ DpK K H ls fs ∧ okDict es = true ∧ okDict fs = true ∧ Q (.bl (if neg then !eqDict es fs else eqDict es fs)) H
theorem dpk_get {H : Hp} {k : Key} : ∀ {ls : List (Key × V)} {fs : List (D × D)}, DpK K H ls fs → (DL.dget fs (keyD k) = none ∧ valV ls k = none) ∨ ∃ d v, DL.dget fs (keyD k) = some d ∧ valV ls k = some v ∧ Dp K H v d ∧ (keyD k, d) ∈ fs
  | _, _, .nil => .inl ⟨rfl, rfl⟩
  | (j, v) :: r, (j', d) :: es, .cons h t => by
    obtain ⟨h1, h2⟩ := h
    replace h1 : keyD j = j' := h1
    subst h1
    by_cases e : j = k
    · subst e
      refine .inr ⟨d, v, ?_, valV_pos rfl, h2, List.mem_cons_self⟩
      unfold DL.dget
      rw [List.find?_cons, keyB_k, decide_eq_true rfl]
      rfl
    · have e1 : DL.dget ((keyD j, d) :: es) (keyD k) = DL.dget es (keyD k) := by
        unfold DL.dget
        rw [List.find?_cons, keyB_k, decide_eq_false e]
      have e2 : valV ((j, v) :: r) k = valV r k := valV_neg e
      rw [e1, e2]
      rcases dpk_get t with q | ⟨d', v', q1, q2, q3, q4⟩
      · exact .inl q
      · exact .inr ⟨d', v', q1, q2, q3, List.mem_cons_of_mem _ q4⟩
theorem hits_dk {pins : List (Addr × Obj)} {σ : L2.St} {H : Hp} {s : Shared} {A : Around} (I : Inv X pins σ H s) (hu : A.units + 64 < cLine) {ls : List (Key × V)} {fs : List (D × D)} {vb : List (Key × Value)} (dl : DpK X.K H ls fs) (of : okDict fs = true) (rb : KV ls vb) :
    ∀ {ks : List (Key × V)} {es : List (D × D)} {va : List (Key × Value)}, DpK X.K H ks es → okDict es = true → KV ks va →
    PySem.W.KeqHits A s vb va (es.all fun p => match DL.dget fs p.1 with
      | some d => PyData.eqv p.2 d
      | none => false)
  | _, _, _, .nil, _, ra => by
    cases ra
    exact .nil
  | (k, v) :: r, (k', d) :: es, _, .cons h t, oe, ra => by
    obtain ⟨h1, h2⟩ := h
    replace h1 : keyD k = k' := h1
    subst h1
    unfold okDict at oe
    rw [List.all_cons, Bool.and_eq_true, Bool.and_eq_true] at oe
    obtain ⟨⟨_, sh⟩, oe⟩ := oe
    cases ra with
    | @cons p q ps qs g ra =>
      obtain ⟨g1, g2⟩ := g
      obtain ⟨key, u⟩ := q
      cases (show k = key from g1)
      have hv : RelO (valV ls k) (valueAt vb k) := KV.val rb k
      rw [List.all_cons]
      rcases dpk_get dl (k := k) with ⟨e1, e2⟩ | ⟨d', v', e1, e2, e3, e4⟩
      · simp only [e1, Bool.false_and]
        rw [e2] at hv
        refine .miss ?_
        cases hz : valueAt vb k with
        | none => rfl
        | some z =>
          rw [hz] at hv
          exact absurd hv id
      · simp only [e1]
        rw [e2] at hv
        obtain ⟨y, hy, ry⟩ := RelO.some_of hv
        obtain ⟨as, r1⟩ := Dp.reads I d v u h2 g2
        obtain ⟨bs, r2⟩ := Dp.reads I d' v' y e3 ry
        have sh' : SeqAt.shaped d' = true := by
          have := List.all_eq_true.mp of _ e4
          rw [Bool.and_eq_true] at this
          exact this.2
        refine .hit hy (SeqAt.eqAt_reads d d' A s u y as bs r1 r2 (SeqAt.canLay_of_shaped sh) (SeqAt.canLay_of_shaped sh') (SeqAt.room_of_shaped sh hu)) (hits_dk I hu dl of rb t oe ra)
theorem op_eqDk (hu : X.A.units + 65 < cLine) : OpR X (compareOp .Eq) (rEqDk X.K false) := by
  intro pins s σ H x y v u Q I rx ry h
  obtain ⟨a, b, ks, ls, es, fs, rfl, rfl, ea, eb, de, df, oe, of, q⟩ := h
  obtain rfl : v = Value.ref a := rx
  obtain rfl : u = Value.ref b := ry
  obtain ⟨_, ya, va, ra, da⟩ := dk_or I ea
  obtain ⟨_, yb, vb, rb, db⟩ := dk_or I eb
  have l1 : va.length = es.length := by rw [← Paired.length ra]; exact Paired.length de
  have l2 : vb.length = fs.length := by rw [← Paired.length rb]; exact Paired.length df
  refine PySem.W.keq_eq (knd := mixKind X.prog X.w) ya yb da db (by omega) (fun _ => hits_dk I (by show X.A.units + 1 + 64 < _; omega) df of rb de oe ra) (fin_bl I q ?_)
  rw [l1, l2]
  rfl
theorem op_neDk (hu : X.A.units + 65 < cLine) : OpR X (compareOp .NotEq) (rEqDk X.K true) := by
  intro pins s σ H x y v u Q I rx ry h
  obtain ⟨a, b, ks, ls, es, fs, rfl, rfl, ea, eb, de, df, oe, of, q⟩ := h
  obtain rfl : v = Value.ref a := rx
  obtain rfl : u = Value.ref b := ry
  obtain ⟨_, ya, va, ra, da⟩ := dk_or I ea
  obtain ⟨_, yb, vb, rb, db⟩ := dk_or I eb
  have l1 : va.length = es.length := by rw [← Paired.length ra]; exact Paired.length de
  have l2 : vb.length = fs.length := by rw [← Paired.length rb]; exact Paired.length df
  refine PySem.W.keq_ne (knd := mixKind X.prog X.w) ya yb da db (by omega) (fun _ => hits_dk I (by show X.A.units + 1 + 64 < _; omega) df of rb de oe ra) (fin_bl I q ?_)
  rw [l1, l2]
  rfl
theorem repk_dp {F H : Hp} (sb : Sub F H) : ∀ {kvs : List (Key × V)} {es : List (D × D)}, RepK K F kvs es → okDict es = true → DpK K H kvs es
  | _, _, .nil, _ => .nil
  | _, _, .cons h t, oe => by
    unfold okDict at oe
    rw [List.all_cons, Bool.and_eq_true, Bool.and_eq_true] at oe
    exact .cons ⟨rfl, Rep.dp sb h (SeqAt.canLay_of_shaped oe.1.2)⟩ (repk_dp sb t oe.2)
theorem rep_dkor {F H : Hp} {x : V} {es : List (D × D)} (h : RepH K F H x (.dict es)) (sb : Sub F H) (oe : okDict es = true) : ∃ a ks, x = .ref a ∧ DkOr H a ks ∧ DpK K H ks es := by
  obtain ⟨a, e, q⟩ := h.dic sb
  rcases q with ⟨kvs, q, r⟩ | ⟨kvs, q, r⟩
  · exact ⟨a, kvs, e, .inl q, repk_dp sb r oe⟩
  · cases r with
    | nil => exact ⟨a, [], e, .inr ⟨rfl, q⟩, .nil⟩
    | cons _ _ =>
      unfold okDict at oe
      rw [List.all_cons, Bool.and_eq_true, Bool.and_eq_true] at oe
      simp [isKey] at oe
theorem oh_eqDk : OpH K (rEqDk K false) eqDD := by
  intro F H v1 v2 d1 d2 d3 sb r1 r2 e Q k
  unfold eqDD at e
  split at e
  · split at e
    · rename_i h
      rw [Bool.and_eq_true] at h
      cases e
      obtain ⟨a, ks, e1, o1, p1⟩ := rep_dkor r1 sb h.1
      obtain ⟨b, ls, e2, o2, p2⟩ := rep_dkor r2 sb h.2
      exact ⟨a, b, ks, ls, _, _, e1, e2, o1, o2, p1, p2, h.1, h.2, k _ F H (.refl sb) (.bl _)⟩
    · cases e
  · cases e
theorem oh_neDk : OpH K (rEqDk K true) neDD := by
  intro F H v1 v2 d1 d2 d3 sb r1 r2 e Q k
  unfold neDD at e
  split at e
  · split at e
    · rename_i h
      rw [Bool.and_eq_true] at h
      cases e
      obtain ⟨a, ks, e1, o1, p1⟩ := rep_dkor r1 sb h.1
      obtain ⟨b, ls, e2, o2, p2⟩ := rep_dkor r2 sb h.2
      exact ⟨a, b, ks, ls, _, _, e1, e2, o1, o2, p1, p2, h.1, h.2, k _ F H (.refl sb) (.bl _)⟩
    · cases e
  · cases e
end
end DL

set_option maxHeartbeats 4000000
/-! DL25: dict(d), the empty one too. -/
namespace DL
open PySem L2 PyProof.Rows
def dictC2 : D → Option D
  | .dict es => if flatD es = true then some (.dict es) else none
  | _ => none
def rDictC2 : List V → Hp → VK → Prop := fun xs H Q => ∃ (a : Addr) (kvs : List (Key × V)), xs = [.ref a] ∧ DkOr H a kvs ∧ ∀ p, H p = none → Q (.ref p) (upd H p (.dK kvs))
section
variable {X : Cx} {K : PySem.W.Frag}
theorem call_dictC2 : CallR X (.type "dict") rDictC2 := by
  intro pins s σ H xs us Q I r q
  obtain ⟨a, kvs, ex, hd, q⟩ := q
  subst ex
  obtain ⟨u, eu, rx⟩ := vals1 r
  subst eu
  cases rx
  obtain ⟨z, lo, vs, rel, dd⟩ := dk_or I hd
  refine kt_call_dict lo dd (by rw [← rel.length]; exact z) fun h' d' hs => ?_
  have hm : (s.heap.objs.size == sysModules) = false := beq_eq_false_iff_ne.mpr (Nat.ne_of_gt I.big)
  exact ⟨.ref s.heap.objs.size, upd H s.heap.objs.size (.dK kvs), I.laid (t' := s.toks) (fun b u e => (hs.2 b (Nat.ne_of_lt (Heap.lt_size e))).trans (Heap.get?_push_of_some _ e)) (Nat.le_refl _)
    (show ObjOk X.prog X.w _ _ _ (.dK kvs) from ⟨z, hm, vs, rel, d'⟩), rfl, q _ (I.hok.fresh (Nat.le_refl _))⟩
theorem co_dictC2 : CallO K rDictC2 dictC2 := by
  intro F H v d d3 sb r e Q k
  unfold dictC2 at e
  split at e
  · split at e
    · rename_i hh
      cases e
      obtain ⟨a, rfl, h⟩ := r.dic sb
      rcases h with ⟨kvs, hr, rk⟩ | ⟨kvs, hr, rk⟩
      · exact ⟨a, kvs, rfl, .inl hr, fun p hp => k p F _ (Px.laidO sb hp) ⟨sb.none hp, _, upd_same, .dK rk⟩ hp⟩
      · cases rk with
        | nil => exact ⟨a, [], rfl, .inr ⟨rfl, hr⟩, fun p hp => k p F _ (Px.laidO sb hp) ⟨sb.none hp, _, upd_same, .dK .nil⟩ hp⟩
        | cons _ _ => exact absurd (List.all_eq_true.mp hh _ List.mem_cons_self) (by simp [isKey])
    · cases e
  · cases e
def dictB (d : D) : Option D := match dictP d with
  | some r => some r
  | none => dictC2 d
theorem co_dictB : CallO K (fun xs H Q => rDictP K xs H Q ∨ rDictC2 xs H Q) dictB := co_or co_dictP co_dictC2 fun d x e => by
  unfold dictB at e
  split at e
  · rename_i r h
    cases e
    exact .inl h
  · exact .inr e
theorem cr_dictB (hc : X.calm = true) : CallR X (.type "dict") (fun xs H Q => rDictP X.K xs H Q ∨ rDictC2 xs H Q) := CallR.or2 (r := rDictP X.K) (r' := rDictC2) (call_dictP hc) call_dictC2
end
end DL

set_option maxHeartbeats 4000000
/-! DL26: sorted(set(xs)), len(set(xs)), xs a list or a tuple of ints. -/
namespace L2
open PySem PySem.Spec PyProof.Rows
section
variable {P : Program} {w : World} {A : Around} {E : Value → Shared → Prop} {s : Shared}
/-- a set as it is made -/
abbrev newO (w : World) : Obj := { cls := .type "set", dict := none, data := .set #[] 0 (.fresh 0 0 (!w.params.followText "set-order")) }
/-- what is known when all is put in -/
def SetDone (w : World) (s : Shared) (ns : List Int) (s2 : Shared) : Prop :=
  ∃ h' tk c, s2 = { s with heap := h', toks := tk } ∧ SetR w h' s.heap.objs.size (fun j => decide (j ∈ ns)) c ∧ c ≤ ns.length ∧ ∀ b o, s.heap.get? b = some o → h'.get? b = some o
theorem at_int {items : Array Value} {ns : List Int} (hit : IntsAre items.toList ns) (i : Nat) (v : Value) (hv : items[i]? = some v) : ∃ k t, ns[i]? = some k ∧ v = .int k t := by
  have hz := IntsAre.length hit
  rw [Array.length_toList] at hz
  have hi : i < ns.length := hz ▸ (Array.getElem?_eq_some_iff.mp hv).1
  obtain ⟨t, e⟩ := IntsAre.int_at hit i v (by rw [Array.getElem?_toList]; exact hv)
  refine ⟨ns[i], t, List.getElem?_eq_getElem hi, ?_⟩
  rw [e]
  congr 1
  rw [List.getD_eq_getElem?_getD, List.getElem?_eq_getElem hi]
  rfl
/-- the list's items go into the new set -/
theorem fill_listI {l : Addr} {items : Array Value} {ns : List Int} {R : Result → Shared → Prop} (off : A.handled = none) (hl : s.heap.IsList l items) (hit : IntsAre items.toList ns) (room : ns.length + 1 < scanBound)
    (h : ∀ s2, SetDone w s ns s2 → R (.ok (.ret .none)) s2) :
    wpAny (model P w) A (pyIter (.ref l)) (fun it s1 => codeAny (model P w) A (.builtin "set.update.loop" ⟨[.ref s.heap.objs.size, it], []⟩) R s1) E { s with heap := s.heap.push (newO w) } := by
  have hz : items.size = ns.length := by rw [← IntsAre.length hit, Array.length_toList]
  obtain ⟨ol, hol, hcl, nl, hdl⟩ := hl
  have below : l < s.heap.objs.size := Heap.lt_size hol
  have size1 : (s.heap.push (newO w)).objs.size = s.heap.objs.size + 1 := Heap.size_push ..
  have hl1 : (s.heap.push (newO w)).IsList l items := ⟨ol, Heap.get?_push_of_some _ hol, hcl, nl, hdl⟩
  have hset : (s.heap.push (newO w)).get? s.heap.objs.size = some (newO w) := Heap.get?_push_size _ rfl
  refine wpAny_pyIter_list hl1 ?_
  have apart : l ≠ (s.heap.push (newO w)).objs.size := by rw [size1]; exact Nat.ne_of_lt (Nat.lt_succ_of_lt below)
  refine set_update_ints ((Walks.list (A := A.in1) (by simpa using off) _ l apart items).toS) s.heap.objs.size ?_ ns hz room (at_int hit) (items.size - 0) 0 _ (by omega) (Nat.zero_le _)
    ⟨⟨_, Heap.get?_push_size _ rfl, rfl, rfl⟩, hl1.push _⟩ ⟨0, Nat.le_refl 0, setR_new_at (Heap.get?_push_of_some _ hset)⟩ fun s' c' hm hc' hS' => ?_
  · rw [size1]
    simp only [List.mem_cons, List.not_mem_nil, or_false, not_or]
    exact ⟨Nat.ne_of_lt (Nat.lt_succ_self _), Nat.ne_of_gt below⟩
  · refine h s' ⟨s'.heap, s'.toks, c', ?_, hS', by omega, fun b o e => ?_⟩
    · have e1 : s'.gens = s.gens := hm.gens
      have e2 : s'.drawn = s.drawn := hm.drawn
      have e3 : s'.os = s.os := hm.os
      obtain ⟨a1, a2, a3, a4, a5⟩ := s'
      dsimp only at e1 e2 e3
      rw [e1, e2, e3]
    · have hb := Heap.lt_size e
      refine hm.heap b o ?_ (Heap.get?_push_of_some _ (Heap.get?_push_of_some _ e))
      rw [size1]
      simp only [List.mem_cons, List.not_mem_nil, or_false, not_or]
      exact ⟨Nat.ne_of_lt hb, Nat.ne_of_lt (Nat.lt_succ_of_lt hb)⟩
theorem call_set_listI {l : Addr} {items : Array Value} {ns : List Int} {Q : Value → Shared → Prop} (off : A.handled = none) (hl : s.heap.IsList l items) (hit : IntsAre items.toList ns) (room : ns.length + 1 < scanBound)
    (h : ∀ s2, SetDone w s ns s2 → Q (.ref s.heap.objs.size) s2) : wpAny (model P w) A (call (.type "set") [.ref l]) Q E s := by
  obtain ⟨k1, k2, k3⟩ := F.called_set.mro
  have made := F.called_set.made
  have sub := F.called_set.sub
  refine wpAny_call (codeAny_of_tree ?_)
  change wpAny _ _ (callAny (.type "set") _) _ _ _
  refine wpAny_pure ⟨Code.quiet_builtin _ (by decide +kernel), ?_⟩
  refine codeAny_builtin F.entry_type_call ?_
  rw [Around.under_plain (weight_type_call_type "set" [.ref l] []) rfl]
  have n1 := F.called_set.notType
  have n2 := F.called_set.canCreate
  have n3 := F.typeCall_set_1 (.ref l)
  repeat (any_goals (first | assumption | wp_step))
  refine codeAny_mono (code_set_led1 (.ref l) (E := E) (Q₁ := fun o s1 => o = .ref s.heap.objs.size ∧ s1 = { s with heap := s.heap.push (newO w) }) ⟨rfl, rfl⟩) ?_
  intro r s1 hr
  rcases r with e | fl
  · exact hr
  cases fl with
  | ret o =>
    obtain ⟨rfl, rfl⟩ := hr
    have is : Shared.TypeIs { s with heap := s.heap.push (newO w) } (.ref s.heap.objs.size) "set" := ⟨_, Heap.get?_push_size _ rfl, rfl⟩
    have m1 := F.called_set.init.lookup
    have m2 := F.called_set.init.bind (.ref s.heap.objs.size)
    repeat (any_goals (first | assumption | wp_step))
    refine codeAny_mono (codeAny_call_builtin (R := wants (fun r s2 => r = .none ∧ SetDone w s ns s2) E) F.called_set.init.plain F.entry_set_init (check_set_init_1 is ?_)) ?_
    · have put := fun (R : Result → Shared → Prop) (E : Value → Shared → Prop) => fill_listI (P := P) (w := w) (A := A.in1.in1) (E := E) (R := R) (by simpa using off) hl hit room
      obtain ⟨ol, hol, hcl, nl, hdl⟩ := hl
      obtain ⟨c0, d0, t0, sl0⟩ := ol
      simp only at hcl hdl
      subst hcl hdl
      have there : (s.heap.push (newO w)).get? l = some { cls := .type "list", dict := d0, data := .seq items nl, slots := sl0 } := Heap.get?_push_of_some _ hol
      have u1 := F.sub_list_set
      have u2 := F.sub_list_frozenset
      have u3 : (Value.type "list" == Value.type "dict") = false := by decide
      have u4 : (s.heap.push (newO w)).get? s.heap.objs.size = some (newO w) := Heap.get?_push_size _ rfl
      unfold Builtin.«set.__init__» noKeywords Builtin.Frozenset.updateFrom
      generalize hPI : pyIter = PI
      wp_walk
      subst hPI
      refine wpAny_mono (put _ _ ?_) (fun it s1 h1 => wpAny_bind (wpAny_runValue h1)) fun _ _ e => e
      intro s2 d
      exact wpAny_pure (wpAny_pure ⟨rfl, d⟩)
    · intro r2 s2 hr2
      rcases r2 with e | fl2
      · exact hr2
      cases fl2 with
      | ret r =>
        obtain ⟨rfl, d⟩ := hr2
        repeat (any_goals (first | assumption | wp_step))
        exact h _ d
      | _ => exact hr2.elim
  | _ => exact hr.elim
end
end L2

set_option maxHeartbeats 4000000
/-! DL27: sorted(set(xs)), len(set(xs)) as expressions. -/
namespace DL
open PySem L2 PySem.Spec PyProof.Rows
/-! ### lists without doubles -/
def ddp {α : Type} [DecidableEq α] : List α → List α
  | [] => []
  | x :: xs => if x ∈ xs then ddp xs else x :: ddp xs
theorem mem_ddp {α : Type} [DecidableEq α] {y : α} : ∀ {l : List α}, y ∈ ddp l ↔ y ∈ l
  | [] => Iff.rfl
  | x :: xs => by
    rw [ddp]
    split
    · rename_i h
      rw [mem_ddp, List.mem_cons]
      exact ⟨.inr, fun z => z.elim (fun e => by rw [e]; exact h) id⟩
    · rw [List.mem_cons, List.mem_cons, mem_ddp]
theorem nodup_ddp {α : Type} [DecidableEq α] : ∀ l : List α, (ddp l).Nodup
  | [] => List.nodup_nil
  | x :: xs => by
    rw [ddp]
    split
    · exact nodup_ddp xs
    · rename_i h
      exact List.nodup_cons.mpr ⟨fun z => h (mem_ddp.mp z), nodup_ddp xs⟩
theorem nodup_le {α : Type} [DecidableEq α] : ∀ {L M : List α}, L.Nodup → (∀ x ∈ L, x ∈ M) → L.length ≤ M.length
  | [], _, _, _ => Nat.zero_le _
  | x :: L, M, hn, hs => by
    rw [List.nodup_cons] at hn
    have hx := hs x List.mem_cons_self
    have h1 := nodup_le (M := M.erase x) hn.2 fun y hy => (List.mem_erase_of_ne (fun e => hn.1 (by rw [← e]; exact hy))).mpr (hs y (List.mem_cons_of_mem _ hy))
    rw [List.length_erase_of_mem hx] at h1
    have := List.length_pos_of_mem hx
    rw [List.length_cons]
    omega
def leZ (a b : Int) : Bool := decide (a ≤ b)
theorem ins_asc (x : Int) : ∀ l : List Int, l.Pairwise (· < ·) → x ∉ l → (insT leZ x l).Pairwise (· < ·)
  | [], _, _ => List.pairwise_singleton _ _
  | y :: l, h, hx => by
    have h' := List.pairwise_cons.mp h
    rw [List.mem_cons] at hx
    have ne : x ≠ y := fun e => hx (.inl e)
    rw [insT]
    by_cases q : x ≤ y
    · rw [show leZ x y = true from decide_eq_true q]
      have lt : x < y := by omega
      exact List.pairwise_cons.mpr ⟨fun z hz => by
        rcases List.mem_cons.mp hz with rfl | hz
        · exact lt
        · have := h'.1 z hz
          omega, h⟩
    · rw [show leZ x y = false from decide_eq_false q]
      refine List.pairwise_cons.mpr ⟨fun z hz => ?_, ins_asc x l h'.2 fun z => hx (.inr z)⟩
      rcases mem_insT hz with rfl | hz
      · omega
      · exact h'.1 z hz
theorem mem_ins {x y : Int} : ∀ {l : List Int}, y ∈ insT leZ x l ↔ y = x ∨ y ∈ l
  | [] => by simp [insT]
  | z :: l => by
    rw [insT]
    cases leZ x z with
    | true => simp
    | false =>
      show y ∈ z :: insT leZ x l ↔ _
      rw [List.mem_cons, mem_ins, List.mem_cons]
      exact ⟨fun q => q.elim (fun e => .inr (.inl e)) fun q => q.elim .inl fun q => .inr (.inr q), fun q => q.elim (fun e => .inr (.inl e)) fun q => q.elim .inl fun q => .inr (.inr q)⟩
def srtSet (ns : List Int) : List Int := isrt leZ (ddp ns)
theorem isrt_asc : ∀ l : List Int, l.Nodup → (isrt leZ l).Pairwise (· < ·) ∧ ∀ y, y ∈ isrt leZ l ↔ y ∈ l
  | [], _ => ⟨List.Pairwise.nil, fun _ => Iff.rfl⟩
  | x :: l, h => by
    rw [List.nodup_cons] at h
    obtain ⟨h1, h2⟩ := isrt_asc l h.2
    rw [isrt]
    refine ⟨ins_asc x _ h1 fun z => h.1 ((h2 x).mp z), fun y => ?_⟩
    rw [mem_ins, h2 y, List.mem_cons]
theorem srtSet_asc (ns : List Int) : (srtSet ns).Pairwise (· < ·) ∧ ∀ y, y ∈ srtSet ns ↔ y ∈ ns := by
  obtain ⟨a, b⟩ := isrt_asc (ddp ns) (nodup_ddp ns)
  exact ⟨a, fun y => (b y).trans mem_ddp⟩
theorem asc_one : ∀ {L M : List Int}, L.Pairwise (· < ·) → M.Pairwise (· < ·) → (∀ y, y ∈ L ↔ y ∈ M) → L = M
  | [], [], _, _, _ => rfl
  | [], y :: M, _, _, h => by
    have := (h y).mpr List.mem_cons_self
    cases this
  | x :: L, [], _, _, h => by
    have := (h x).mp List.mem_cons_self
    cases this
  | x :: L, y :: M, a, b, h => by
    have a' := List.pairwise_cons.mp a
    have b' := List.pairwise_cons.mp b
    have e : x = y := by
      rcases List.mem_cons.mp ((h x).mp List.mem_cons_self) with e | e
      · exact e
      · rcases List.mem_cons.mp ((h y).mpr List.mem_cons_self) with e2 | e2
        · exact e2.symm
        · have := b'.1 x e
          have := a'.1 y e2
          omega
    subst e
    rw [asc_one a'.2 b'.2 fun z => ?_]
    constructor
    · intro hz
      rcases List.mem_cons.mp ((h z).mp (List.mem_cons_of_mem _ hz)) with e | e
      · have := a'.1 z hz
        omega
      · exact e
    · intro hz
      rcases List.mem_cons.mp ((h z).mpr (List.mem_cons_of_mem _ hz)) with e | e
      · have := b'.1 z hz
        omega
      · exact e
section
variable {X : Cx} {a : Expr} {ta : TE} {p p2 q pos : Pos} {pins : List (Addr × Obj)} {σ : L2.St} {H : Hp} {s : Shared}
def IntSq (K : PySem.W.Frag) (H : Hp) (x : V) (ns : List Int) : Prop := ∃ l, x = .ref l ∧ (SqL K H l (ns.map V.int) ∨ SqT K H l (ns.map V.int))
/-- set(xs) of ints -/
theorem set_ints (hc : X.calm = true) (I : Inv X pins σ H s) {x : V} {u : Value} {ns : List Int} (r : RelV x u) (hx : IntSq X.K H x ns) (room : ns.length ≤ 4000) {Q : Value → Shared → Prop}
    (h : ∀ (b : Addr) (s2 : Shared) (c : Nat), Inv X pins σ H s2 → SetR X.w s2.heap b (fun j => decide (j ∈ ns)) c → Q (.ref b) s2) : wpAny (model X.prog X.w) X.A (call (.type "set") [u]) Q X.xe s := by
  obtain ⟨l, rfl, hl⟩ := hx
  obtain rfl : u = Value.ref l := r
  rcases hl with hl | hl
  · obtain ⟨its, rv, pl, hz⟩ := I.list hl
    refine call_set_listI (items := its.toArray) (ns := ns) (I.ok.hd hc) pl.isList (by simpa using Vals.ints rv) (by unfold scanBound; omega) fun s2 d => ?_
    obtain ⟨h', tk, c, rfl, R, _, k⟩ := d
    exact h _ _ c (I.kept k) R
  · obtain ⟨its, rv, pl, hz⟩ := I.tuple hl
    exact call_set_tupI (items := its.toArray) ns (I.ok.hd hc) pl (by simpa using Vals.ints rv) (by unfold scanBound; omega) fun h' tk c R _ k => h _ _ c (I.kept k) R
theorem setR_count {w : World} {h : Heap} {b : Addr} {ns : List Int} {c : Nat} (R : SetR w h b (fun j => decide (j ∈ ns)) c) : c = (ddp ns).length := by
  obtain ⟨o, es, ep, t, _, _, _, _, nd, mm, _, _, hn, _⟩ := R
  have hl : (es.toList.map keyOf).length = c := by rw [List.length_map, Array.length_toList, hn]
  have h1 := nodup_le (M := ddp ns) nd fun x hx => mem_ddp.mpr (by simpa using (mm x).mpr hx)
  have h2 := nodup_le (M := es.toList.map keyOf) (nodup_ddp ns) fun x hx => (mm x).mp (by simpa using mem_ddp.mp hx)
  omega
def rSortSet (K : PySem.W.Frag) : List V → Hp → VK → Prop := fun vs H Q => ∃ x ns, vs = [x] ∧ IntSq K H x ns ∧ ns.length ≤ 4000 ∧ (ddp ns).length < 64 ∧ ∀ p, H p = none → Q (.ref p) (upd H p (.lst ((srtSet ns).map V.int)))
def rLenSet (K : PySem.W.Frag) : List V → Hp → VK → Prop := fun vs H Q => ∃ x ns, vs = [x] ∧ IntSq K H x ns ∧ ns.length ≤ 4000 ∧ Q (.int ((ddp ns).length : Nat)) H
theorem pe_sortSet (hc : X.calm = true) (hg : Gl X "sorted") (hm : X.mg "sorted" = none) (hg2 : Gl X "set") (hm2 : X.mg "set" = none) (ha : PE X a ta)
    (na : starEach [a] X.env = (false, eval a X.env) :: starEach [] X.env := by rfl) : PE X (.Call (.Name "sorted" p) [.Call (.Name "set" p2) [a] [] q] [] pos) (fun σ H Q => ta σ H fun x H1 => rSortSet X.K [x] H1 Q) := by
  refine ⟨fun pins s σ H Q I h => ?_⟩
  refine Call_ (ld_blt I hg hm boot_sorted ?_)
  refine callWith_builtin1 (args_cons ?_ rfl) rfl rfl
  refine Call_ (ld_blt I hg2 hm2 boot_set ?_)
  refine callWith_type1 (args_cons (thn (ha.run pins s σ H _ I h) fun v s1 ⟨x, H1, I1, r1, q1⟩ => args_nil ?_) na) na rfl
  obtain ⟨x', ns, e, hx, room, few, q1⟩ := q1
  cases e
  refine set_ints hc I1 r1 hx room fun b s2 c I2 R => args_nil ?_
  rw [setR_count R] at R
  refine sorted_set R (I2.ok.hd hc) few fun s3 t out cc ms k g o hp hget hi hs hmem hl => ?_
  have em : ms = srtSet ns := asc_one hs (srtSet_asc ns).1 fun y => ((hmem y).trans (by simp)).trans ((srtSet_asc ns).2 y).symm
  have few2 : (ms.map V.int).length ≤ sizeLine := by rw [List.length_map, hl, sizeLine_eq]; omega
  have fresh : H1 t = none := I2.hok.fresh hp
  have J : Inv X pins σ (upd H1 t (.lst (ms.map V.int))) { s2 with heap := s3.heap, gens := s3.gens, drawn := s3.drawn, toks := s3.toks } :=
    I2.call (ch := []) (Un.laid k hp fresh) (I2.hok.laid k hp ⟨few2, out.toList, cc, vals_of_ints hi, hget⟩) (by rw [g]; exact I2.bare) (fun _ z => nomatch z)
  have e3 : s3 = { s2 with heap := s3.heap, gens := s3.gens, drawn := s3.drawn, toks := s3.toks } := by
    obtain ⟨a1, a2, a3, a4, a5⟩ := s3
    obtain ⟨b1, b2, b3, b4, b5⟩ := s2
    dsimp only at o ⊢
    rw [o]
  rw [e3]
  exact ⟨.ref t, _, J, rfl, by rw [em]; exact q1 t fresh⟩
theorem pe_lenSet2 (hc : X.calm = true) (hg : Gl X "len") (hm : X.mg "len" = none) (hg2 : Gl X "set") (hm2 : X.mg "set" = none) (ha : PE X a ta)
    (na : starEach [a] X.env = (false, eval a X.env) :: starEach [] X.env := by rfl) : PE X (.Call (.Name "len" p) [.Call (.Name "set" p2) [a] [] q] [] pos) (fun σ H Q => ta σ H fun x H1 => rLenSet X.K [x] H1 Q) := by
  refine ⟨fun pins s σ H Q I h => ?_⟩
  refine Call_ (ld_blt I hg hm PySem.boot_len ?_)
  refine callWith_builtin1 (args_cons ?_ rfl) rfl rfl
  refine Call_ (ld_blt I hg2 hm2 boot_set ?_)
  refine callWith_type1 (args_cons (thn (ha.run pins s σ H _ I h) fun v s1 ⟨x, H1, I1, r1, q1⟩ => args_nil ?_) na) na rfl
  obtain ⟨x', ns, e, hx, room, q1⟩ := q1
  cases e
  refine set_ints hc I1 r1 hx room fun b s2 c I2 R => args_nil ?_
  have hcount := setR_count R
  obtain ⟨o, es, ep, t, ho, hex, hd, _, _, _, hb, hf, hn, _⟩ := R
  refine call_len_set ho hex hd hf (by have := hb; unfold scanBound at this; omega) ⟨.int (ddp ns).length, H1, I2.tok _, ⟨_, by rw [hn, hcount]⟩, q1⟩
end
section
variable {K : PySem.W.Frag} {X : Cx}
def sortSetD : D → Option D
  | .list xs => (asIs xs).bind fun ns => if ns.length ≤ 4000 ∧ (ddp ns).length < 64 then some (.list ((srtSet ns).map .int)) else none
  | .tuple xs => (asIs xs).bind fun ns => if ns.length ≤ 4000 ∧ (ddp ns).length < 64 then some (.list ((srtSet ns).map .int)) else none
  | _ => none
def lenSetD : D → Option D
  | .list xs => (asIs xs).bind fun ns => if ns.length ≤ 4000 then some (.int ((ddp ns).length : Nat)) else none
  | .tuple xs => (asIs xs).bind fun ns => if ns.length ≤ 4000 then some (.int ((ddp ns).length : Nat)) else none
  | _ => none
theorem reps_ints {F : Hp} : ∀ {vs : List V} {ns : List Int}, Reps K F vs (ns.map .int) → vs = ns.map V.int
  | _, [], .nil => rfl
  | _, n :: ns, .cons r t => by
    rw [List.map_cons, reps_ints t]
    cases r
    rfl
theorem ints_reps {F : Hp} : ∀ ns : List Int, Reps K F (ns.map V.int) (ns.map .int)
  | [] => .nil
  | n :: ns => .cons (.int n) (ints_reps ns)
theorem repH_ints {F H : Hp} {x : V} {xs : List D} {ns : List Int} (sb : Sub F H) (e : asIs xs = some ns) : (RepH K F H x (.list xs) → IntSq K H x ns) ∧ (RepH K F H x (.tuple xs) → IntSq K H x ns) := by
  obtain rfl := asIs_some e
  constructor
  · intro r
    obtain ⟨a, vs, rfl, h, q⟩ := r.lst sb
    obtain rfl := reps_ints q
    exact ⟨a, rfl, .inl h⟩
  · intro r
    obtain ⟨a, vs, rfl, h, _, q⟩ := r.tup sb
    obtain rfl := reps_ints q
    exact ⟨a, rfl, .inr (SqT.of h)⟩
theorem co_sortSet : CallO K (rSortSet K) sortSetD := by
  intro F H v d d3 sb r e Q k
  have fin : ∀ ns, ns.length ≤ 4000 ∧ (ddp ns).length < 64 → d3 = .list ((srtSet ns).map .int) → IntSq K H v ns → rSortSet K [v] H Q := fun ns h e hx => by
    subst e
    exact ⟨v, ns, rfl, hx, h.1, h.2, fun p hp => k p F _ (Px.laidO sb hp) ⟨sb.none hp, _, upd_same, .lst (ints_reps _)⟩ hp⟩
  unfold sortSetD at e
  split at e
  · obtain ⟨ns, e1, e⟩ := bind_some e
    split at e
    · rename_i h
      cases e
      exact fin ns h rfl ((repH_ints sb e1).1 r)
    · cases e
  · obtain ⟨ns, e1, e⟩ := bind_some e
    split at e
    · rename_i h
      cases e
      exact fin ns h rfl ((repH_ints sb e1).2 r)
    · cases e
  · cases e
theorem ch_lenSet : CallH K (rLenSet K) lenSetD := by
  intro F H v d d3 sb r e Q k
  have fin : ∀ ns, ns.length ≤ 4000 → d3 = .int ((ddp ns).length : Nat) → IntSq K H v ns → rLenSet K [v] H Q := fun ns h e hx => by
    subst e
    exact ⟨v, ns, rfl, hx, h, k _ F H (.refl sb) (.int _)⟩
  unfold lenSetD at e
  split at e
  · obtain ⟨ns, e1, e⟩ := bind_some e
    split at e
    · rename_i h
      cases e
      exact fin ns h rfl ((repH_ints sb e1).1 r)
    · cases e
  · obtain ⟨ns, e1, e⟩ := bind_some e
    split at e
    · rename_i h
      cases e
      exact fin ns h rfl ((repH_ints sb e1).2 r)
    · cases e
  · cases e
variable {a : Expr} {o : ODen} {p p2 q pos : Pos}
theorem do_sortSet (hc : X.calm = true) (hg : Gl X "sorted") (hm : X.mg "sorted" = none) (hg2 : Gl X "set") (hm2 : X.mg "set" = none) (ha : DOd X a o)
    (na : starEach [a] X.env = (false, eval a X.env) :: starEach [] X.env := by rfl) : DO X (.Call (.Name "sorted" p) [.Call (.Name "set" p2) [a] [] q] [] pos) (cUn sortSetD o) := (pe_sortSet hc hg hm hg2 hm2 ha na).weak fun σ H Q h => by
  obtain ⟨ρ, F, d, ρ', s, e, k⟩ := h
  obtain ⟨⟨x, ρ1⟩, e1, e⟩ := bind_some e
  obtain ⟨y, e2, e⟩ := bind_some e
  obtain ⟨z, e3, e⟩ := bind_some e
  cases e
  exact ⟨ρ, F, x, _, s, e1, fun v F1 H1 s1 r1 => co_sortSet F1 H1 v y _ s1.ok.sub (r1.rep s1.ok e2) e3 Q fun p F' H' px ow hp => k p F' H' (s1.thenPx px) ow (s1.ok.fresh hp).2 (s1.gr.live p hp)⟩
theorem de_lenSet (hc : X.calm = true) (hg : Gl X "len") (hm : X.mg "len" = none) (hg2 : Gl X "set") (hm2 : X.mg "set" = none) (ha : DOd X a o)
    (na : starEach [a] X.env = (false, eval a X.env) :: starEach [] X.env := by rfl) : DE X (.Call (.Name "len" p) [.Call (.Name "set" p2) [a] [] q] [] pos) (cUn lenSetD o) := (pe_lenSet2 hc hg hm hg2 hm2 ha na).weak fun σ H Q h => by
  obtain ⟨ρ, F, d, ρ', s, e, k⟩ := h
  obtain ⟨⟨x, ρ1⟩, e1, e⟩ := bind_some e
  obtain ⟨y, e2, e⟩ := bind_some e
  obtain ⟨z, e3, e⟩ := bind_some e
  cases e
  exact ⟨ρ, F, x, _, s, e1, fun v F1 H1 s1 r1 => ch_lenSet F1 H1 v y _ s1.ok.sub (r1.rep s1.ok e2) e3 Q fun v F' H' px rep => k v F' H' (s1.thenPx px) rep⟩
end
end DL

set_option maxHeartbeats 4000000
/-! DL28: a, b, c = x, y, z where a name is a cell (or all is plain): no swap. -/
namespace DL
open PySem L2 PyProof.Rows PySem.Spec
section
variable {X : Cx} {pos : Pos} {a b c : Expr} {g : MDen}
theorem ps_parT {es vs : List Expr} {ta : TA} {u : TGs} {k k2 : Nat} {pt pt2 : Pos} {n : Nat} (hc : X.calm = true) (ha : PA X vs ta) (hg : PGs X es u) (hz : n ≤ sizeLine)
    (hn : (assignEach es X.env).length = n) (hst : (assignEach es X.env).findIdx? (·.1) = none) (hw : swappedStores [.Tuple es k pt] (.Tuple vs k2 pt2) X.env = pure none)
    (hs : swapsWithSole [.Tuple es k pt] (.Tuple vs k2 pt2) pos.line X.env = pure false) (h1 : (assignEach [.Tuple es k pt] X.env).map (·.2) = [assign (.Tuple es k pt) X.env]) :
    PS X (.Assign [.Tuple es k pt] (.Tuple vs k2 pt2) pos) (fun D σ H => ta σ H fun xs H1 => xs.length = n ∧ u xs σ H1 D.nx) := by
  refine ⟨fun pins s σ H D I h => wpAny_Assign_stores (Tuple_ (thn (ha.run _ pins s σ H _ I h) fun us s1 ⟨xs, H1, I1, r1, hl, q1⟩ => ?_)) hs hw⟩
  have el : us.length = n := by rw [← r1.length, hl]
  refine wpAny_newObj_type ?_ (by show us.toArray.size ≤ sizeLine; rw [List.size_toArray, el]; exact hz)
  rw [h1]
  have I2 := I1.kept (t' := s1.toks) (h' := s1.heap.push { cls := .type "tuple", data := .seq us.toArray }) fun b o e => Heap.get?_push_of_some _ e
  refine assign_Tuple_tuple (s := { s1 with heap := s1.heap.push { cls := .type "tuple", data := .seq us.toArray } }) (I2.ok.hd hc) (IsTup.new s1.heap us.toArray) (by simp [hn, el]) hst fun h' hx => ?_
  have I3 := I2.kept (h' := h') (t' := s1.toks) fun b o e => hx b o (Nat.ne_of_lt (Heap.lt_size e)) e
  exact thn (hg.run pins _ σ H1 xs us _ I3 (by simpa using r1) q1) fun _ s2 q => q
theorem ds_parMC (i j : Nat) {x y : Str} {px py pt : Pos} {kt k2 pt2} (hc : X.calm = true) (hN : X.N.Nodup) (ha : DM X [a, b] g) (hw : swappedStores [.Tuple [.Name x px, .Name y py] kt pt] (.Tuple [a, b] k2 pt2) X.env = pure none := by rfl) (hi : X.N[i]? = some x := by rfl) (hj : X.N[j]? = some y := by rfl)
    (hx : Loc X.env.scope x := by first | exact .inl rfl | exact .inr rfl) (hy : Loc X.env.scope y := by first | exact .inl rfl | exact .inr rfl) (fx : X.fn x = true ∨ X.env.scope.names.lookup x = some .local := by first | exact .inl rfl | exact .inr rfl) (fy : X.fn y = true ∨ X.env.scope.names.lookup y = some .local := by first | exact .inl rfl | exact .inr rfl)
    (hs : swapsWithSole [.Tuple [.Name x px, .Name y py] kt pt] (.Tuple [a, b] k2 pt2) pos.line X.env = pure false := by rfl) (hn : (assignEach [.Name x px, .Name y py] X.env).length = 2 := by rfl) (hst : (assignEach [.Name x px, .Name y py] X.env).findIdx? (·.1) = none := by rfl)
    (h1 : (assignEach [.Tuple [.Name x px, .Name y py] kt pt] X.env).map (·.2) = [assign (.Tuple [.Name x px, .Name y py] kt pt) X.env] := by rfl)
    (s1 : (assignEach [.Name x px, .Name y py] X.env).map (·.2) = assign (.Name x px) X.env :: (assignEach [.Name y py] X.env).map (·.2) := by rfl) (s2 : (assignEach [.Name y py] X.env).map (·.2) = assign (.Name y py) X.env :: (assignEach [] X.env).map (·.2) := by rfl) :
    DS X (.Assign [.Tuple [.Name x px, .Name y py] kt pt] (.Tuple [a, b] k2 pt2) pos) (cParM i j g) := (L2.PS.weak (t := fun D σ H => tMD X.K g σ H fun xs H1 => xs.length = 2 ∧ gCons (gName i) (gCons (gName j) gNil) xs σ H1 D.nx) (ps_parT (n := 2) hc ha (pgs_cons (pg_name hN hi hx fx) (pgs_cons (pg_name hN hj hy fy) pgs_nil s2) s1) (by decide) hn hst hw hs h1) fun E σ H h => by
    obtain ⟨ρ, F, xs, ρ', s, e, k⟩ := h
    exact ⟨ρ, F, xs, ρ', s, e, fun vs as F' H' st ow => by
      obtain ⟨v, w, rfl, q⟩ := k vs as F' H' st ow
      exact ⟨rfl, v, [w], rfl, w, [], rfl, rfl, q⟩⟩ : PS X _ (tPar i j (tMD X.K g))).weak fun E σ H h => by
  obtain ⟨ρ, F, r, s, e, w⟩ := h
  obtain ⟨⟨ds, ρ1⟩, e1, e⟩ := bind_some e
  change parM2 i j ds ρ1 = some r at e
  unfold parM2 at e
  split at e
  · split at e
    · cases e
    · rename_i c d hio
      cases e
      refine ⟨ρ, F, _, ρ1, s, e1, fun vs as F1 H1 s1 r1 => ?_⟩
      have hio' : isIo ρ1[i]? = false ∧ isIo (ρ1.set i c)[j]? = false := by simpa using hio
      match vs, r1 with
      | [v, v2], r1 =>
        obtain ⟨as1, t1, r2⟩ := r1.put s1 hio'.1
        obtain ⟨as2, t2, r3⟩ := r2.put t1 hio'.2
        exact ⟨_, _, rfl, w.nx _ _ F1 H1 rfl t2⟩
      | [], r1 => cases r1
      | [_], r1 => cases r1 with | sh _ t => cases t | ow _ _ _ _ t => cases t
      | _ :: _ :: _ :: _, r1 =>
        cases r1 with
        | sh _ t => cases t with | sh _ t => cases t | ow _ _ _ _ t => cases t
        | ow _ _ _ _ t => cases t with | sh _ t => cases t | ow _ _ _ _ t => cases t
  · cases e

theorem ds_parM3C (i j l : Nat) {x y z : Str} {px py pz pt : Pos} {kt k2 pt2} (hc : X.calm = true) (hN : X.N.Nodup) (ha : DM X [a, b, c] g) (hw : swappedStores [.Tuple [.Name x px, .Name y py, .Name z pz] kt pt] (.Tuple [a, b, c] k2 pt2) X.env = pure none := by rfl) (hi : X.N[i]? = some x := by rfl) (hj : X.N[j]? = some y := by rfl) (hl : X.N[l]? = some z := by rfl)
    (hx : Loc X.env.scope x := by first | exact .inl rfl | exact .inr rfl) (hy : Loc X.env.scope y := by first | exact .inl rfl | exact .inr rfl) (hz : Loc X.env.scope z := by first | exact .inl rfl | exact .inr rfl) (fx : X.fn x = true ∨ X.env.scope.names.lookup x = some .local := by first | exact .inl rfl | exact .inr rfl) (fy : X.fn y = true ∨ X.env.scope.names.lookup y = some .local := by first | exact .inl rfl | exact .inr rfl) (fz : X.fn z = true ∨ X.env.scope.names.lookup z = some .local := by first | exact .inl rfl | exact .inr rfl)
    (hs : swapsWithSole [.Tuple [.Name x px, .Name y py, .Name z pz] kt pt] (.Tuple [a, b, c] k2 pt2) pos.line X.env = pure false := by rfl) (hn : (assignEach [.Name x px, .Name y py, .Name z pz] X.env).length = 3 := by rfl) (hst : (assignEach [.Name x px, .Name y py, .Name z pz] X.env).findIdx? (·.1) = none := by rfl)
    (h1 : (assignEach [.Tuple [.Name x px, .Name y py, .Name z pz] kt pt] X.env).map (·.2) = [assign (.Tuple [.Name x px, .Name y py, .Name z pz] kt pt) X.env] := by rfl)
    (s1 : (assignEach [.Name x px, .Name y py, .Name z pz] X.env).map (·.2) = assign (.Name x px) X.env :: (assignEach [.Name y py, .Name z pz] X.env).map (·.2) := by rfl) (s2 : (assignEach [.Name y py, .Name z pz] X.env).map (·.2) = assign (.Name y py) X.env :: (assignEach [.Name z pz] X.env).map (·.2) := by rfl) (s3 : (assignEach [.Name z pz] X.env).map (·.2) = assign (.Name z pz) X.env :: (assignEach [] X.env).map (·.2) := by rfl) :
    DS X (.Assign [.Tuple [.Name x px, .Name y py, .Name z pz] kt pt] (.Tuple [a, b, c] k2 pt2) pos) (cParM3 i j l g) := (L2.PS.weak (t := fun D σ H => tMD X.K g σ H fun xs H1 => xs.length = 3 ∧ gCons (gName i) (gCons (gName j) (gCons (gName l) gNil)) xs σ H1 D.nx) (ps_parT (n := 3) hc ha (pgs_cons (pg_name hN hi hx fx) (pgs_cons (pg_name hN hj hy fy) (pgs_cons (pg_name hN hl hz fz) pgs_nil s3) s2) s1) (by decide) hn hst hw hs h1) fun E σ H h => by
    obtain ⟨ρ, F, xs, ρ', s, e, k⟩ := h
    exact ⟨ρ, F, xs, ρ', s, e, fun vs as F' H' st ow => by
      obtain ⟨v, w, u, rfl, q⟩ := k vs as F' H' st ow
      exact ⟨rfl, v, [w, u], rfl, w, [u], rfl, u, [], rfl, rfl, q⟩⟩ : PS X _ (tPar3 i j l (tMD X.K g))).weak fun E σ H h => by
  obtain ⟨ρ, F, r, s, e, w⟩ := h
  obtain ⟨⟨ds, ρ1⟩, e1, e⟩ := bind_some e
  change parM3 i j l ds ρ1 = some r at e
  unfold parM3 at e
  split at e
  · split at e
    · cases e
    · rename_i c d f hio
      cases e
      refine ⟨ρ, F, _, ρ1, s, e1, fun vs as F1 H1 s1 r1 => ?_⟩
      have hio' : (isIo ρ1[i]? = false ∧ isIo (ρ1.set i c)[j]? = false) ∧ isIo ((ρ1.set i c).set j d)[l]? = false := by simpa using hio
      match vs, r1 with
      | [v, v2, v3], r1 =>
        obtain ⟨as1, t1, r2⟩ := r1.put s1 hio'.1.1
        obtain ⟨as2, t2, r3⟩ := r2.put t1 hio'.1.2
        obtain ⟨as3, t3, r4⟩ := r3.put t2 hio'.2
        exact ⟨_, _, _, rfl, w.nx _ _ F1 H1 rfl t3⟩
      | [], r1 => cases r1
      | [_], r1 => cases r1 with | sh _ t => cases t | ow _ _ _ _ t => cases t
      | [_, _], r1 =>
        cases r1 with
        | sh _ t => cases t with | sh _ t => cases t | ow _ _ _ _ t => cases t
        | ow _ _ _ _ t => cases t with | sh _ t => cases t | ow _ _ _ _ t => cases t
      | _ :: _ :: _ :: _ :: _, r1 =>
        cases r1 with
        | sh _ t =>
          cases t with
          | sh _ t => cases t with | sh _ t => cases t | ow _ _ _ _ t => cases t
          | ow _ _ _ _ t => cases t with | sh _ t => cases t | ow _ _ _ _ t => cases t
        | ow _ _ _ _ t =>
          cases t with
          | sh _ t => cases t with | sh _ t => cases t | ow _ _ _ _ t => cases t
          | ow _ _ _ _ t => cases t with | sh _ t => cases t | ow _ _ _ _ t => cases t
  · cases e

end
end DL

set_option maxHeartbeats 4000000
/-! DL29: len(set(xs)), xs a list of tuples of ints. -/
namespace DL
open PySem L2 PySem.Spec PyProof.Rows
def asTs : List D → Option (List (List Int))
  | [] => some []
  | .tuple xs :: r => (asIs xs).bind fun k => (asTs r).bind fun ks => some (k :: ks)
  | _ :: _ => none
def lenSetTD : D → Option D
  | .list xs => (asTs xs).bind fun kss => if kss.length < 64 then some (.int ((ddp kss).length : Nat)) else none
  | _ => none
def rLenSetT (K : PySem.W.Frag) (P : Program) (w : World) : List V → Hp → VK → Prop := fun vs H Q => ∃ (l : Addr) (ks : List (Addr × List Int)), vs = [.ref l] ∧ SqL K H l (ks.map fun p => V.ref p.1) ∧ (∀ p ∈ ks, SqT K H p.1 (p.2.map V.int)) ∧ ks.length < 64 ∧
  ∀ a L, H a = none → Q (.int ((ddp (ks.map (·.2))).length : Nat)) (upd H a (SetTO P w a L))
section
variable {X : Cx} {a : Expr} {ta : TE} {p p2 q pos : Pos}
theorem set_count {es : Array (Int × Value)} {P : Program} {w : World} {L ks : List (Addr × List Int)} (hn : es.toList = rowsOf P w L) (nd : (L.map (·.2)).Nodup) (h1 : ∀ p ∈ L, p ∈ ks) (h2 : ∀ p ∈ ks, p.2 ∈ L.map (·.2)) : es.size = (ddp (ks.map (·.2))).length := by
  have e : es.size = (L.map (·.2)).length := by
    have h := congrArg List.length hn
    unfold rowsOf at h
    rw [Array.length_toList, List.length_map] at h
    rw [List.length_map, h]
  have a1 := nodup_le (M := ddp (ks.map (·.2))) nd fun x hx => mem_ddp.mpr (by
    obtain ⟨p, hp, rfl⟩ := List.mem_map.mp hx
    exact List.mem_map.mpr ⟨p, h1 p hp, rfl⟩)
  have a2 := nodup_le (M := L.map (·.2)) (nodup_ddp (ks.map (·.2))) fun x hx => by
    obtain ⟨p, hp, rfl⟩ := List.mem_map.mp (mem_ddp.mp hx)
    exact h2 p hp
  omega
theorem pe_lenSetT (hu : X.A.units + 64 < cLine) (hc : X.calm = true) (hg : Gl X "len") (hm : X.mg "len" = none) (hg2 : Gl X "set") (hm2 : X.mg "set" = none) (ha : PE X a ta)
    (na : starEach [a] X.env = (false, eval a X.env) :: starEach [] X.env := by rfl) : PE X (.Call (.Name "len" p) [.Call (.Name "set" p2) [a] [] q] [] pos) (fun σ H Q => ta σ H fun x H1 => rLenSetT X.K X.prog X.w [x] H1 Q) := by
  refine ⟨fun pins s σ H Q I h => ?_⟩
  refine Call_ (ld_blt I hg hm PySem.boot_len ?_)
  refine callWith_builtin1 (args_cons ?_ rfl) rfl rfl
  refine Call_ (ld_blt I hg2 hm2 boot_set ?_)
  refine callWith_type1 (args_cons (thn (ha.run pins s σ H _ I h) fun v s1 ⟨x, H1, I1, r1, q1⟩ => args_nil ?_) na) na rfl
  obtain ⟨l, ks, e, hl, hk, hf, q1⟩ := q1
  cases e
  refine thn (cr_setOfT hc hu pins s1 σ H1 [.ref l] [v] (fun v2 H2 => ∃ a L, v2 = V.ref a ∧ H1 a = none ∧ H2 = upd H1 a (SetTO X.prog X.w a L) ∧ (∀ p ∈ L, p ∈ ks) ∧ (∀ p ∈ ks, p.2 ∈ L.map (·.2))) I1 (.cons r1 .nil) ⟨l, ks, rfl, hl, hk, hf, fun a L ha h1 h2 => ⟨a, L, rfl, ha, rfl, h1, h2⟩⟩) fun u s2 ⟨y, H2, I2, r2, b, L, ey, hb, e2, h1, h2⟩ => args_nil ?_
  subst ey
  subst e2
  cases (show u = Value.ref b from r2)
  have R0 : SetT0 X.prog X.w s2.heap b L := (I2.hok b _ upd_same).1
  obtain ⟨es, ep, t, R⟩ := R0.full fun p hp => I2.isT (SqT.ext (K := X.K) (hk p (h1 p hp)) fun c u e => by
    rw [upd_ne (ne_of_none e hb)]
    exact e)
  have hcount := set_count R.rows R.nd h1 h2
  obtain ⟨o, ho, hex, hd⟩ := R.ob
  refine call_len_set ho hex hd R.fits (by have := R.few; have := R.size; omega) ⟨.int (ddp (ks.map (·.2))).length, _, I2.tok _, ⟨_, by rw [hcount]⟩, q1 b L hb⟩
end
section
variable {K : PySem.W.Frag} {X : Cx}
theorem asTs_reps {F H : Hp} (sb : Sub F H) : ∀ {xs : List D} {kss : List (List Int)} {vs : List V}, asTs xs = some kss → Reps K F vs xs → ∃ ks : List (Addr × List Int), vs = ks.map (fun p => V.ref p.1) ∧ ks.map (·.2) = kss ∧ ∀ p ∈ ks, SqT K H p.1 (p.2.map V.int)
  | [], kss, vs, e, r => by
    cases r
    cases e
    exact ⟨[], rfl, rfl, fun p hp => nomatch hp⟩
  | x :: xs, kss, vs, e, r => by
    unfold asTs at e
    split at e
    · rename_i h
      cases h
    · rename_i ys zs h
      cases h
      obtain ⟨k, e1, e⟩ := bind_some e
      obtain ⟨ks, e2, e⟩ := bind_some e
      cases e
      cases r with
      | cons r1 t =>
        obtain ⟨L, rfl, e3, h3⟩ := asTs_reps sb e2 t
        obtain rfl := asIs_some e1
        obtain ⟨a, ws, rfl, h, _, q⟩ := RepH.tup (.inl r1) sb
        obtain rfl := reps_ints q
        exact ⟨(a, k) :: L, rfl, by rw [List.map_cons, e3], fun p hp => (List.mem_cons.mp hp).elim (fun e => by rw [e]; exact SqT.of h) (h3 p)⟩
    · cases e
theorem ch_lenSetT {P : Program} {w : World} : CallH K (rLenSetT K P w) lenSetTD := by
  intro F H v d d3 sb r e Q k
  unfold lenSetTD at e
  split at e
  · obtain ⟨kss, e1, e⟩ := bind_some e
    split at e
    · rename_i h
      cases e
      obtain ⟨a, vs, rfl, hl, q⟩ := r.lst sb
      obtain ⟨ks, rfl, e3, h3⟩ := asTs_reps sb e1 q
      refine ⟨a, ks, rfl, hl, h3, by rw [← e3, List.length_map] at h; exact h, fun b L hb => ?_⟩
      rw [e3]
      exact k _ F _ (Px.laidO sb hb) (.int _)
    · cases e
  · cases e
variable {a : Expr} {o : ODen} {p p2 q pos : Pos}
theorem de_lenSetT (hu : X.A.units + 64 < cLine) (hc : X.calm = true) (hg : Gl X "len") (hm : X.mg "len" = none) (hg2 : Gl X "set") (hm2 : X.mg "set" = none) (ha : DOd X a o)
    (na : starEach [a] X.env = (false, eval a X.env) :: starEach [] X.env := by rfl) : DE X (.Call (.Name "len" p) [.Call (.Name "set" p2) [a] [] q] [] pos) (cUn lenSetTD o) := (pe_lenSetT hu hc hg hm hg2 hm2 ha na).weak fun σ H Q h => by
  obtain ⟨ρ, F, d, ρ', s, e, k⟩ := h
  obtain ⟨⟨x, ρ1⟩, e1, e⟩ := bind_some e
  obtain ⟨y, e2, e⟩ := bind_some e
  obtain ⟨z, e3, e⟩ := bind_some e
  cases e
  exact ⟨ρ, F, x, _, s, e1, fun v F1 H1 s1 r1 => ch_lenSetT F1 H1 v y _ s1.ok.sub (r1.rep s1.ok e2) e3 Q fun v F' H' px rep => k v F' H' (s1.thenPx px) rep⟩
end
end DL

set_option maxHeartbeats 4000000
/-! DL30: is True, is False. -/
namespace DL
open PySem L2 PySem.Spec PyProof.Rows
section
variable {K : PySem.W.Frag} {X : Cx}
def isBD : D → D → Option D
  | .bool a, .bool b => some (.bool (decide (a = b)))
  | _, _ => none
def notBD : D → D → Option D
  | .bool a, .bool b => some (.bool (!decide (a = b)))
  | _, _ => none
theorem od_isB : OpH K (fun x y H Q => ∃ a b, x = .bl a ∧ y = .bl b ∧ Q (.bl (decide (a = b))) H) isBD := by
  intro F H v1 v2 d1 d2 d3 sb r1 r2 e Q k
  unfold isBD at e
  split at e
  · cases e
    exact ⟨_, _, r1.bl, r2.bl, k _ F H (.refl sb) (.bl _)⟩
  · cases e
theorem od_notB : OpH K (fun x y H Q => ∃ a b, x = .bl a ∧ y = .bl b ∧ Q (.bl (!decide (a = b))) H) notBD := by
  intro F H v1 v2 d1 d2 d3 sb r1 r2 e Q k
  unfold notBD at e
  split at e
  · cases e
    exact ⟨_, _, r1.bl, r2.bl, k _ F H (.refl sb) (.bl _)⟩
  · cases e
end
end DL

set_option maxHeartbeats 4000000
/-! DLS: how what gen.py prints is worked out (simp). -/
namespace DL
open PySem L2
section
variable {f g : SDen} {d e : Den} {t u : TDen} {o o2 o3 : ODen} {a b : ADen} {ρ : Env}
def selS (f g : SDen) (b : Bool) (ρ : Env) : Option Fl := match b with
  | true => f ρ
  | false => g ρ
@[simp] theorem selS_t : selS f g true ρ = f ρ := (rfl)
@[simp] theorem selS_f : selS f g false ρ = g ρ := (rfl)
def andK (g : TDen) (b : Bool) (ρ : Env) : Option (Bool × Env) := match b with
  | true => g ρ
  | false => some (false, ρ)
def orK (g : TDen) (b : Bool) (ρ : Env) : Option (Bool × Env) := match b with
  | true => some (true, ρ)
  | false => g ρ
@[simp] theorem andK_t : andK t true ρ = t ρ := (rfl)
@[simp] theorem andK_f : andK t false ρ = some (false, ρ) := (rfl)
@[simp] theorem orK_t : orK t true ρ = some (true, ρ) := (rfl)
@[simp] theorem orK_f : orK t false ρ = t ρ := (rfl)
def andVK (g : Den) (b : Bool) (ρ : Env) : Option (D × Env) := match b with
  | true => g ρ
  | false => some (.bool false, ρ)
def orVK (g : Den) (b : Bool) (ρ : Env) : Option (D × Env) := match b with
  | true => some (.bool true, ρ)
  | false => g ρ
@[simp] theorem andVK_t : andVK d true ρ = d ρ := (rfl)
@[simp] theorem andVK_f : andVK d false ρ = some (.bool false, ρ) := (rfl)
@[simp] theorem orVK_t : orVK d true ρ = some (.bool true, ρ) := (rfl)
@[simp] theorem orVK_f : orVK d false ρ = d ρ := (rfl)
def selE (d e : Den) (b : Bool) (ρ : Env) : Option (D × Env) := match b with
  | true => d ρ
  | false => e ρ
@[simp] theorem selE_t : selE d e true ρ = d ρ := (rfl)
@[simp] theorem selE_f : selE d e false ρ = e ρ := (rfl)
end
/-! tests, choices -/
def mutK (op : D → List D → Option (D × D)) (i : Nat) (a : ADen) (ρ : Env) : Option (D × Env) := (a ρ).bind fun y => (lookO y.2 i).bind fun c => (op c y.1).bind fun z => (setC y.2 i z.2).bind fun ρ' => some (z.1, ρ')
def lcEnd (own : List Nat) (r : Option (List D × Env)) (ρ : Env) : Option (D × Env) := r.bind fun x => if x.1.length ≤ sizeLine then some (.list x.1, backE ρ x.2 own) else none
def lcKt (own : List Nat) (y : D × Env) : Option (Option D × Env) := match y with
  | (x, ρ) => if noIo ρ own = true then some (some x, wipeE ρ own) else none
@[simp] theorem lcKt_e {own : List Nat} {x : D} {ρ : Env} : lcKt own (x, ρ) = if noIo ρ own = true then some (some x, wipeE ρ own) else none := (rfl)
def lcK (own : List Nat) (e : Den) (b : Bool) (ρ : Env) : Option (Option D × Env) := match b with
  | true => (e ρ).bind (lcKt own)
  | false => if noIo ρ own = true then some (none, wipeE ρ own) else none
@[simp] theorem lcK_t {own : List Nat} {e : Den} {ρ : Env} : lcK own e true ρ = (e ρ).bind (lcKt own) := (rfl)
@[simp] theorem lcK_f {own : List Nat} {e : Den} {ρ : Env} : lcK own e false ρ = if noIo ρ own = true then some (none, wipeE ρ own) else none := (rfl)
/-- one turn of a block -/
def lcOne (own : List Nat) (g : GDen) (t : TDen) (e : Den) (d : D) (ρ : Env) : Option (Option D × Env) := (g d ρ).bind fun ρ1 => (t ρ1).bind fun x => lcK own e x.1 x.2
def chT (op' : D → D → Option D) (y : Hd) (h : ODen) (ρ : Env) : Option (D × Env) := (h ρ).bind fun w => (res w.2 y).bind fun b => (res w.2 w.1).bind fun c => (op' b c).bind fun u => some (u, w.2)
def chK (op' : D → D → Option D) (h : ODen) (y : Hd) (k : Bool) (ρ : Env) : Option (D × Env) := match k with
  | true => chT op' y h ρ
  | false => some (.bool false, ρ)
@[simp] theorem chK_t {op' : D → D → Option D} {h : ODen} {y : Hd} {ρ : Env} : chK op' h y true ρ = chT op' y h ρ := (rfl)
@[simp] theorem chK_f {op' : D → D → Option D} {h : ODen} {y : Hd} {ρ : Env} : chK op' h y false ρ = some (.bool false, ρ) := (rfl)
-- printed by dls.py
def cSet_0 (i : Nat) : D × Env → Option (Fl)
  | (x, ρ) => if isIo ρ[i]? then none else some (.nx (ρ.set i (.sh x)))
@[simp] theorem cSet_0_e {i : Nat} {x : D} {ρ : Env} : cSet_0 i (x, ρ) = if isIo ρ[i]? then none else some (.nx (ρ.set i (.sh x))) := (rfl)
@[simp] theorem cSet_ap {i : Nat} {d : Den} {ρ : Env} : cSet i d ρ = (d ρ).bind (cSet_0 i) := (rfl)
def cSetO_0 (i : Nat) : D × Env → Option (Fl)
  | (x, ρ) => if isIo ρ[i]? then none else some (.nx (ρ.set i (.ow x)))
@[simp] theorem cSetO_0_e {i : Nat} {x : D} {ρ : Env} : cSetO_0 i (x, ρ) = if isIo ρ[i]? then none else some (.nx (ρ.set i (.ow x))) := (rfl)
@[simp] theorem cSetO_ap {i : Nat} {d : Den} {ρ : Env} : cSetO i d ρ = (d ρ).bind (cSetO_0 i) := (rfl)
def cRet_0 : D × Env → Option (Fl)
  | (x, ρ) => some (.rt x ρ)
@[simp] theorem cRet_0_e {x : D} {ρ : Env} : cRet_0 (x, ρ) = some (.rt x ρ) := (rfl)
@[simp] theorem cRet_ap {d : Den} {ρ : Env} : cRet d ρ = (d ρ).bind (cRet_0) := (rfl)
def cDrop_0 : D × Env → Option (Fl)
  | (x, ρ) => some (.nx ρ)
@[simp] theorem cDrop_0_e {x : D} {ρ : Env} : cDrop_0 (x, ρ) = some (.nx ρ) := (rfl)
@[simp] theorem cDrop_ap {d : Den} {ρ : Env} : cDrop d ρ = (d ρ).bind (cDrop_0) := (rfl)
def cIfS_0 (f : SDen) (g : SDen) : Bool × Env → Option (Fl)
  | (b, ρ) => selS f g b ρ
@[simp] theorem cIfS_0_e {f : SDen} {g : SDen} {b : Bool} {ρ : Env} : cIfS_0 f g (b, ρ) = selS f g b ρ := (rfl)
@[simp] theorem cIfS_ap {t : TDen} {f : SDen} {g : SDen} {ρ : Env} : cIfS t f g ρ = (t ρ).bind (cIfS_0 f g) := (rfl)
def cAsg_1 : Env → Option (Fl)
  | ρ => some (.nx ρ)
@[simp] theorem cAsg_1_e {ρ : Env} : cAsg_1 ρ = some (.nx ρ) := (rfl)
def cAsg_0 (w : GDen) : D × Env → Option (Fl)
  | (x, ρ) => (w x ρ).bind (cAsg_1)
@[simp] theorem cAsg_0_e {w : GDen} {x : D} {ρ : Env} : cAsg_0 w (x, ρ) = (w x ρ).bind (cAsg_1) := (rfl)
@[simp] theorem cAsg_ap {d : Den} {w : GDen} {ρ : Env} : cAsg d w ρ = (d ρ).bind (cAsg_0 w) := (rfl)
def cPar_0 (i : Nat) (j : Nat) : List D × Env → Option (Fl)
  | (x, ρ) => parS i j x ρ
@[simp] theorem cPar_0_e {i : Nat} {j : Nat} {x : List D} {ρ : Env} : cPar_0 i j (x, ρ) = parS i j x ρ := (rfl)
@[simp] theorem cPar_ap {i : Nat} {j : Nat} {a : ADen} {ρ : Env} : cPar i j a ρ = (a ρ).bind (cPar_0 i j) := (rfl)
def cAug_3 (i : Nat) (k : Int → Int → Int) (m : Int) (ρ : Env) : Int → Option (Fl)
  | n => if isIo ρ[i]? then none else some (.nx (ρ.set i (.sh (.int (k m n)))))
@[simp] theorem cAug_3_e {i : Nat} {k : Int → Int → Int} {m : Int} {ρ : Env} {n : Int} : cAug_3 i k m ρ n = if isIo ρ[i]? then none else some (.nx (ρ.set i (.sh (.int (k m n))))) := (rfl)
def cAug_2 (i : Nat) (k : Int → Int → Int) (m : Int) : D × Env → Option (Fl)
  | (x, ρ) => (asI x).bind (cAug_3 i k m ρ)
@[simp] theorem cAug_2_e {i : Nat} {k : Int → Int → Int} {m : Int} {x : D} {ρ : Env} : cAug_2 i k m (x, ρ) = (asI x).bind (cAug_3 i k m ρ) := (rfl)
def cAug_1 (i : Nat) (k : Int → Int → Int) (d : Den) (ρ : Env) : Int → Option (Fl)
  | m => (d ρ).bind (cAug_2 i k m)
@[simp] theorem cAug_1_e {i : Nat} {k : Int → Int → Int} {d : Den} {ρ : Env} {m : Int} : cAug_1 i k d ρ m = (d ρ).bind (cAug_2 i k m) := (rfl)
def cAug_0 (i : Nat) (k : Int → Int → Int) (d : Den) (ρ : Env) : D → Option (Fl)
  | y => (asI y).bind (cAug_1 i k d ρ)
@[simp] theorem cAug_0_e {i : Nat} {k : Int → Int → Int} {d : Den} {ρ : Env} {y : D} : cAug_0 i k d ρ y = (asI y).bind (cAug_1 i k d ρ) := (rfl)
@[simp] theorem cAug_ap {i : Nat} {k : Int → Int → Int} {d : Den} {ρ : Env} : cAug i k d ρ = (look ρ i).bind (cAug_0 i k d ρ) := (rfl)
def oN_0 (i : Nat) (ρ : Env) : D → Option (Hd × Env)
  | y => some (.slot i, ρ)
@[simp] theorem oN_0_e {i : Nat} {ρ : Env} {y : D} : oN_0 i ρ y = some (.slot i, ρ) := (rfl)
@[simp] theorem oN_ap {i : Nat} {ρ : Env} : oN i ρ = (look ρ i).bind (oN_0 i ρ) := (rfl)
def oE_0 : D × Env → Option (Hd × Env)
  | (x, ρ) => some (.val x, ρ)
@[simp] theorem oE_0_e {x : D} {ρ : Env} : oE_0 (x, ρ) = some (.val x, ρ) := (rfl)
@[simp] theorem oE_ap {d : Den} {ρ : Env} : oE d ρ = (d ρ).bind (oE_0) := (rfl)
def cBin_4 (ρ : Env) : D → Option (D × Env)
  | z => some (z, ρ)
@[simp] theorem cBin_4_e {ρ : Env} {z : D} : cBin_4 ρ z = some (z, ρ) := (rfl)
def cBin_3 (op : D → D → Option D) (ρ : Env) (c : D) : D → Option (D × Env)
  | e => (op c e).bind (cBin_4 ρ)
@[simp] theorem cBin_3_e {op : D → D → Option D} {ρ : Env} {c : D} {e : D} : cBin_3 op ρ c e = (op c e).bind (cBin_4 ρ) := (rfl)
def cBin_2 (op : D → D → Option D) (y : Hd) (ρ : Env) : D → Option (D × Env)
  | c => (res ρ y).bind (cBin_3 op ρ c)
@[simp] theorem cBin_2_e {op : D → D → Option D} {y : Hd} {ρ : Env} {c : D} : cBin_2 op y ρ c = (res ρ y).bind (cBin_3 op ρ c) := (rfl)
def cBin_1 (op : D → D → Option D) (x : Hd) : Hd × Env → Option (D × Env)
  | (y, ρ) => (res ρ x).bind (cBin_2 op y ρ)
@[simp] theorem cBin_1_e {op : D → D → Option D} {x : Hd} {y : Hd} {ρ : Env} : cBin_1 op x (y, ρ) = (res ρ x).bind (cBin_2 op y ρ) := (rfl)
def cBin_0 (op : D → D → Option D) (o2 : ODen) : Hd × Env → Option (D × Env)
  | (x, ρ) => (o2 ρ).bind (cBin_1 op x)
@[simp] theorem cBin_0_e {op : D → D → Option D} {o2 : ODen} {x : Hd} {ρ : Env} : cBin_0 op o2 (x, ρ) = (o2 ρ).bind (cBin_1 op x) := (rfl)
@[simp] theorem cBin_ap {op : D → D → Option D} {o : ODen} {o2 : ODen} {ρ : Env} : cBin op o o2 ρ = (o ρ).bind (cBin_0 op o2) := (rfl)
def cUn_2 (ρ : Env) : D → Option (D × Env)
  | z => some (z, ρ)
@[simp] theorem cUn_2_e {ρ : Env} {z : D} : cUn_2 ρ z = some (z, ρ) := (rfl)
def cUn_1 (op : D → Option D) (ρ : Env) : D → Option (D × Env)
  | c => (op c).bind (cUn_2 ρ)
@[simp] theorem cUn_1_e {op : D → Option D} {ρ : Env} {c : D} : cUn_1 op ρ c = (op c).bind (cUn_2 ρ) := (rfl)
def cUn_0 (op : D → Option D) : Hd × Env → Option (D × Env)
  | (x, ρ) => (res ρ x).bind (cUn_1 op ρ)
@[simp] theorem cUn_0_e {op : D → Option D} {x : Hd} {ρ : Env} : cUn_0 op (x, ρ) = (res ρ x).bind (cUn_1 op ρ) := (rfl)
@[simp] theorem cUn_ap {op : D → Option D} {o : ODen} {ρ : Env} : cUn op o ρ = (o ρ).bind (cUn_0 op) := (rfl)
def cArgs_1 (ρ : Env) : D → Option (D × Env)
  | z => some (z, ρ)
@[simp] theorem cArgs_1_e {ρ : Env} {z : D} : cArgs_1 ρ z = some (z, ρ) := (rfl)
def cArgs_0 (op : List D → Option D) : List D × Env → Option (D × Env)
  | (x, ρ) => (op x).bind (cArgs_1 ρ)
@[simp] theorem cArgs_0_e {op : List D → Option D} {x : List D} {ρ : Env} : cArgs_0 op (x, ρ) = (op x).bind (cArgs_1 ρ) := (rfl)
@[simp] theorem cArgs_ap {op : List D → Option D} {a : ADen} {ρ : Env} : cArgs op a ρ = (a ρ).bind (cArgs_0 op) := (rfl)
def cCons_1 (x : D) : List D × Env → Option (List D × Env)
  | (y, ρ) => some (x :: y, ρ)
@[simp] theorem cCons_1_e {x : D} {y : List D} {ρ : Env} : cCons_1 x (y, ρ) = some (x :: y, ρ) := (rfl)
def cCons_0 (a : ADen) : D × Env → Option (List D × Env)
  | (x, ρ) => (a ρ).bind (cCons_1 x)
@[simp] theorem cCons_0_e {a : ADen} {x : D} {ρ : Env} : cCons_0 a (x, ρ) = (a ρ).bind (cCons_1 x) := (rfl)
@[simp] theorem cCons_ap {d : Den} {a : ADen} {ρ : Env} : cCons d a ρ = (d ρ).bind (cCons_0 a) := (rfl)
def cT_1 (ρ : Env) : Bool → Option (Bool × Env)
  | z => some (z, ρ)
@[simp] theorem cT_1_e {ρ : Env} {z : Bool} : cT_1 ρ z = some (z, ρ) := (rfl)
def cT_0 : D × Env → Option (Bool × Env)
  | (x, ρ) => (asB x).bind (cT_1 ρ)
@[simp] theorem cT_0_e {x : D} {ρ : Env} : cT_0 (x, ρ) = (asB x).bind (cT_1 ρ) := (rfl)
@[simp] theorem cT_ap {d : Den} {ρ : Env} : cT d ρ = (d ρ).bind (cT_0) := (rfl)
def chT_3 (ρ : Env) : D → Option (D × Env)
  | u => some (u, ρ)
@[simp] theorem chT_3_e {ρ : Env} {u : D} : chT_3 ρ u = some (u, ρ) := (rfl)
def chT_2 (op : D → D → Option D) (ρ : Env) (b : D) : D → Option (D × Env)
  | c => (op b c).bind (chT_3 ρ)
@[simp] theorem chT_2_e {op : D → D → Option D} {ρ : Env} {b : D} {c : D} : chT_2 op ρ b c = (op b c).bind (chT_3 ρ) := (rfl)
def chT_1 (op : D → D → Option D) (w : Hd) (ρ : Env) : D → Option (D × Env)
  | b => (res ρ w).bind (chT_2 op ρ b)
@[simp] theorem chT_1_e {op : D → D → Option D} {w : Hd} {ρ : Env} {b : D} : chT_1 op w ρ b = (res ρ w).bind (chT_2 op ρ b) := (rfl)
def chT_0 (op : D → D → Option D) (y : Hd) : Hd × Env → Option (D × Env)
  | (w, ρ) => (res ρ y).bind (chT_1 op w ρ)
@[simp] theorem chT_0_e {op : D → D → Option D} {y : Hd} {w : Hd} {ρ : Env} : chT_0 op y (w, ρ) = (res ρ y).bind (chT_1 op w ρ) := (rfl)
@[simp] theorem chT_ap {op : D → D → Option D} {y : Hd} {o : ODen} {ρ : Env} : chT op y o ρ = (o ρ).bind (chT_0 op y) := (rfl)
def cChain_5 (op2 : D → D → Option D) (o3 : ODen) (y : Hd) (ρ : Env) : Bool → Option (D × Env)
  | k => chK op2 o3 y k ρ
@[simp] theorem cChain_5_e {op2 : D → D → Option D} {o3 : ODen} {y : Hd} {ρ : Env} {k : Bool} : cChain_5 op2 o3 y ρ k = chK op2 o3 y k ρ := (rfl)
def cChain_4 (op2 : D → D → Option D) (o3 : ODen) (y : Hd) (ρ : Env) : D → Option (D × Env)
  | z => (asB z).bind (cChain_5 op2 o3 y ρ)
@[simp] theorem cChain_4_e {op2 : D → D → Option D} {o3 : ODen} {y : Hd} {ρ : Env} {z : D} : cChain_4 op2 o3 y ρ z = (asB z).bind (cChain_5 op2 o3 y ρ) := (rfl)
def cChain_3 (op : D → D → Option D) (op2 : D → D → Option D) (o3 : ODen) (y : Hd) (ρ : Env) (c : D) : D → Option (D × Env)
  | e => (op c e).bind (cChain_4 op2 o3 y ρ)
@[simp] theorem cChain_3_e {op : D → D → Option D} {op2 : D → D → Option D} {o3 : ODen} {y : Hd} {ρ : Env} {c : D} {e : D} : cChain_3 op op2 o3 y ρ c e = (op c e).bind (cChain_4 op2 o3 y ρ) := (rfl)
def cChain_2 (op : D → D → Option D) (op2 : D → D → Option D) (o3 : ODen) (y : Hd) (ρ : Env) : D → Option (D × Env)
  | c => (res ρ y).bind (cChain_3 op op2 o3 y ρ c)
@[simp] theorem cChain_2_e {op : D → D → Option D} {op2 : D → D → Option D} {o3 : ODen} {y : Hd} {ρ : Env} {c : D} : cChain_2 op op2 o3 y ρ c = (res ρ y).bind (cChain_3 op op2 o3 y ρ c) := (rfl)
def cChain_1 (op : D → D → Option D) (op2 : D → D → Option D) (o3 : ODen) (x : Hd) : Hd × Env → Option (D × Env)
  | (y, ρ) => (res ρ x).bind (cChain_2 op op2 o3 y ρ)
@[simp] theorem cChain_1_e {op : D → D → Option D} {op2 : D → D → Option D} {o3 : ODen} {x : Hd} {y : Hd} {ρ : Env} : cChain_1 op op2 o3 x (y, ρ) = (res ρ x).bind (cChain_2 op op2 o3 y ρ) := (rfl)
def cChain_0 (op : D → D → Option D) (op2 : D → D → Option D) (o2 : ODen) (o3 : ODen) : Hd × Env → Option (D × Env)
  | (x, ρ) => (o2 ρ).bind (cChain_1 op op2 o3 x)
@[simp] theorem cChain_0_e {op : D → D → Option D} {op2 : D → D → Option D} {o2 : ODen} {o3 : ODen} {x : Hd} {ρ : Env} : cChain_0 op op2 o2 o3 (x, ρ) = (o2 ρ).bind (cChain_1 op op2 o3 x) := (rfl)
@[simp] theorem cChain_ap {op : D → D → Option D} {op2 : D → D → Option D} {o : ODen} {o2 : ODen} {o3 : ODen} {ρ : Env} : cChain op op2 o o2 o3 ρ = (o ρ).bind (cChain_0 op op2 o2 o3) := by
  unfold cChain
  rfl
def cAnd_0 (u : TDen) : Bool × Env → Option (Bool × Env)
  | (b, ρ) => andK u b ρ
@[simp] theorem cAnd_0_e {u : TDen} {b : Bool} {ρ : Env} : cAnd_0 u (b, ρ) = andK u b ρ := (rfl)
@[simp] theorem cAnd_ap {t : TDen} {u : TDen} {ρ : Env} : cAnd t u ρ = (t ρ).bind (cAnd_0 u) := (rfl)
def cOr_0 (u : TDen) : Bool × Env → Option (Bool × Env)
  | (b, ρ) => orK u b ρ
@[simp] theorem cOr_0_e {u : TDen} {b : Bool} {ρ : Env} : cOr_0 u (b, ρ) = orK u b ρ := (rfl)
@[simp] theorem cOr_ap {t : TDen} {u : TDen} {ρ : Env} : cOr t u ρ = (t ρ).bind (cOr_0 u) := (rfl)
def cNot_0 : Bool × Env → Option (Bool × Env)
  | (b, ρ) => some (!b, ρ)
@[simp] theorem cNot_0_e {b : Bool} {ρ : Env} : cNot_0 (b, ρ) = some (!b, ρ) := (rfl)
@[simp] theorem cNot_ap {t : TDen} {ρ : Env} : cNot t ρ = (t ρ).bind (cNot_0) := (rfl)
def cAndV_1 (e : Den) (ρ : Env) : Bool → Option (D × Env)
  | z => andVK e z ρ
@[simp] theorem cAndV_1_e {e : Den} {ρ : Env} {z : Bool} : cAndV_1 e ρ z = andVK e z ρ := (rfl)
def cAndV_0 (e : Den) : D × Env → Option (D × Env)
  | (x, ρ) => (asB x).bind (cAndV_1 e ρ)
@[simp] theorem cAndV_0_e {e : Den} {x : D} {ρ : Env} : cAndV_0 e (x, ρ) = (asB x).bind (cAndV_1 e ρ) := (rfl)
@[simp] theorem cAndV_ap {d : Den} {e : Den} {ρ : Env} : cAndV d e ρ = (d ρ).bind (cAndV_0 e) := (rfl)
def cOrV_1 (e : Den) (ρ : Env) : Bool → Option (D × Env)
  | z => orVK e z ρ
@[simp] theorem cOrV_1_e {e : Den} {ρ : Env} {z : Bool} : cOrV_1 e ρ z = orVK e z ρ := (rfl)
def cOrV_0 (e : Den) : D × Env → Option (D × Env)
  | (x, ρ) => (asB x).bind (cOrV_1 e ρ)
@[simp] theorem cOrV_0_e {e : Den} {x : D} {ρ : Env} : cOrV_0 e (x, ρ) = (asB x).bind (cOrV_1 e ρ) := (rfl)
@[simp] theorem cOrV_ap {d : Den} {e : Den} {ρ : Env} : cOrV d e ρ = (d ρ).bind (cOrV_0 e) := (rfl)
def cIf_0 (d : Den) (e : Den) : Bool × Env → Option (D × Env)
  | (b, ρ) => selE d e b ρ
@[simp] theorem cIf_0_e {d : Den} {e : Den} {b : Bool} {ρ : Env} : cIf_0 d e (b, ρ) = selE d e b ρ := (rfl)
@[simp] theorem cIf_ap {t : TDen} {d : Den} {e : Den} {ρ : Env} : cIf t d e ρ = (t ρ).bind (cIf_0 d e) := (rfl)
def pSo_2 (ρ : Env) : Int → Option (Option Int × Env)
  | i => some (some i, ρ)
@[simp] theorem pSo_2_e {ρ : Env} {i : Int} : pSo_2 ρ i = some (some i, ρ) := (rfl)
def pSo_1 (ρ : Env) : D → Option (Option Int × Env)
  | c => (asI c).bind (pSo_2 ρ)
@[simp] theorem pSo_1_e {ρ : Env} {c : D} : pSo_1 ρ c = (asI c).bind (pSo_2 ρ) := (rfl)
def pSo_0 : Hd × Env → Option (Option Int × Env)
  | (x, ρ) => (res ρ x).bind (pSo_1 ρ)
@[simp] theorem pSo_0_e {x : Hd} {ρ : Env} : pSo_0 (x, ρ) = (res ρ x).bind (pSo_1 ρ) := (rfl)
@[simp] theorem pSo_ap {o : ODen} {ρ : Env} : pSo o ρ = (o ρ).bind (pSo_0) := (rfl)
def cSl_4 (ρ : Env) : D → Option (D × Env)
  | r => some (r, ρ)
@[simp] theorem cSl_4_e {ρ : Env} {r : D} : cSl_4 ρ r = some (r, ρ) := (rfl)
def cSl_3 (y : Option Int) (z : Option Int) (ρ : Env) : D → Option (D × Env)
  | c => (slD c y z).bind (cSl_4 ρ)
@[simp] theorem cSl_3_e {y : Option Int} {z : Option Int} {ρ : Env} {c : D} : cSl_3 y z ρ c = (slD c y z).bind (cSl_4 ρ) := (rfl)
def cSl_2 (x : Hd) (y : Option Int) : Option Int × Env → Option (D × Env)
  | (z, ρ) => (res ρ x).bind (cSl_3 y z ρ)
@[simp] theorem cSl_2_e {x : Hd} {y : Option Int} {z : Option Int} {ρ : Env} : cSl_2 x y (z, ρ) = (res ρ x).bind (cSl_3 y z ρ) := (rfl)
def cSl_1 (h : PDen) (x : Hd) : Option Int × Env → Option (D × Env)
  | (y, ρ) => (h ρ).bind (cSl_2 x y)
@[simp] theorem cSl_1_e {h : PDen} {x : Hd} {y : Option Int} {ρ : Env} : cSl_1 h x (y, ρ) = (h ρ).bind (cSl_2 x y) := (rfl)
def cSl_0 (l : PDen) (h : PDen) : Hd × Env → Option (D × Env)
  | (x, ρ) => (l ρ).bind (cSl_1 h x)
@[simp] theorem cSl_0_e {l : PDen} {h : PDen} {x : Hd} {ρ : Env} : cSl_0 l h (x, ρ) = (l ρ).bind (cSl_1 h x) := (rfl)
@[simp] theorem cSl_ap {o : ODen} {l : PDen} {h : PDen} {ρ : Env} : cSl o l h ρ = (o ρ).bind (cSl_0 l h) := (rfl)
def rg1O_1 (ρ : Env) : Int → Option ((Int × Int) × Env)
  | i => some ((0, i), ρ)
@[simp] theorem rg1O_1_e {ρ : Env} {i : Int} : rg1O_1 ρ i = some ((0, i), ρ) := (rfl)
def rg1O_0 : D × Env → Option ((Int × Int) × Env)
  | (x, ρ) => (asI x).bind (rg1O_1 ρ)
@[simp] theorem rg1O_0_e {x : D} {ρ : Env} : rg1O_0 (x, ρ) = (asI x).bind (rg1O_1 ρ) := (rfl)
@[simp] theorem rg1O_ap {d : Den} {ρ : Env} : rg1O d ρ = (d ρ).bind (rg1O_0) := (rfl)
def rg2O_3 (ρ : Env) (i : Int) : Int → Option ((Int × Int) × Env)
  | j => some ((i, j), ρ)
@[simp] theorem rg2O_3_e {ρ : Env} {i : Int} {j : Int} : rg2O_3 ρ i j = some ((i, j), ρ) := (rfl)
def rg2O_2 (y : D) (ρ : Env) : Int → Option ((Int × Int) × Env)
  | i => (asI y).bind (rg2O_3 ρ i)
@[simp] theorem rg2O_2_e {y : D} {ρ : Env} {i : Int} : rg2O_2 y ρ i = (asI y).bind (rg2O_3 ρ i) := (rfl)
def rg2O_1 (x : D) : D × Env → Option ((Int × Int) × Env)
  | (y, ρ) => (asI x).bind (rg2O_2 y ρ)
@[simp] theorem rg2O_1_e {x : D} {y : D} {ρ : Env} : rg2O_1 x (y, ρ) = (asI x).bind (rg2O_2 y ρ) := (rfl)
def rg2O_0 (e : Den) : D × Env → Option ((Int × Int) × Env)
  | (x, ρ) => (e ρ).bind (rg2O_1 x)
@[simp] theorem rg2O_0_e {e : Den} {x : D} {ρ : Env} : rg2O_0 e (x, ρ) = (e ρ).bind (rg2O_1 x) := (rfl)
@[simp] theorem rg2O_ap {d : Den} {e : Den} {ρ : Env} : rg2O d e ρ = (d ρ).bind (rg2O_0 e) := (rfl)
def cLstRg_0 : (Int × Int) × Env → Option (D × Env)
  | (x, ρ) => if rgB x.1 x.2 = true then some (.list (rngD x.1 (x.2 - x.1).toNat), ρ) else none
@[simp] theorem cLstRg_0_e {x : (Int × Int)} {ρ : Env} : cLstRg_0 (x, ρ) = if rgB x.1 x.2 = true then some (.list (rngD x.1 (x.2 - x.1).toNat), ρ) else none := (rfl)
@[simp] theorem cLstRg_ap {r : RDen} {ρ : Env} : cLstRg r ρ = (r ρ).bind (cLstRg_0) := (rfl)
def cTupRg_0 : (Int × Int) × Env → Option (D × Env)
  | (x, ρ) => if rgB x.1 x.2 = true then some (.tuple (rngD x.1 (x.2 - x.1).toNat), ρ) else none
@[simp] theorem cTupRg_0_e {x : (Int × Int)} {ρ : Env} : cTupRg_0 (x, ρ) = if rgB x.1 x.2 = true then some (.tuple (rngD x.1 (x.2 - x.1).toNat), ρ) else none := (rfl)
@[simp] theorem cTupRg_ap {r : RDen} {ρ : Env} : cTupRg r ρ = (r ρ).bind (cTupRg_0) := (rfl)
def gTp_0 (ws : GsDen) (ρ : Env) : List D → Option (Env)
  | ds => ws ds ρ
@[simp] theorem gTp_0_e {ws : GsDen} {ρ : Env} {ds : List D} : gTp_0 ws ρ ds = ws ds ρ := (rfl)
@[simp] theorem gTp_ap {n : Nat} {ws : GsDen} {x : D} {ρ : Env} : gTp n ws x ρ = (asTup n x).bind (gTp_0 ws ρ) := (rfl)
def gLs_0 (ws : GsDen) (ρ : Env) : List D → Option (Env)
  | ds => ws ds ρ
@[simp] theorem gLs_0_e {ws : GsDen} {ρ : Env} {ds : List D} : gLs_0 ws ρ ds = ws ds ρ := (rfl)
@[simp] theorem gLs_ap {n : Nat} {ws : GsDen} {x : D} {ρ : Env} : gLs n ws x ρ = (asLst n x).bind (gLs_0 ws ρ) := (rfl)
def iE_1 (ρ : Env) : List D → Option (List D × Env)
  | ds => some (ds, ρ)
@[simp] theorem iE_1_e {ρ : Env} {ds : List D} : iE_1 ρ ds = some (ds, ρ) := (rfl)
def iE_0 : D × Env → Option (List D × Env)
  | (x, ρ) => (itD x).bind (iE_1 ρ)
@[simp] theorem iE_0_e {x : D} {ρ : Env} : iE_0 (x, ρ) = (itD x).bind (iE_1 ρ) := (rfl)
@[simp] theorem iE_ap {d : Den} {ρ : Env} : iE d ρ = (d ρ).bind (iE_0) := (rfl)
def iA_1 (ρ : Env) : List D → Option (List D × Env)
  | ds => some (ds, ρ)
@[simp] theorem iA_1_e {ρ : Env} {ds : List D} : iA_1 ρ ds = some (ds, ρ) := (rfl)
def iA_0 (op : List D → Option (List D)) : List D × Env → Option (List D × Env)
  | (x, ρ) => (op x).bind (iA_1 ρ)
@[simp] theorem iA_0_e {op : List D → Option (List D)} {x : List D} {ρ : Env} : iA_0 op (x, ρ) = (op x).bind (iA_1 ρ) := (rfl)
@[simp] theorem iA_ap {op : List D → Option (List D)} {a : ADen} {ρ : Env} : iA op a ρ = (a ρ).bind (iA_0 op) := (rfl)
def cFor_0 (w : GDen) (f : SDen) : List D × Env → Option (Fl)
  | (ds, ρ) => forB w f ds ρ
@[simp] theorem cFor_0_e {w : GDen} {f : SDen} {ds : List D} {ρ : Env} : cFor_0 w f (ds, ρ) = forB w f ds ρ := (rfl)
@[simp] theorem cFor_ap {s : IDen} {w : GDen} {f : SDen} {ρ : Env} : cFor s w f ρ = (s ρ).bind (cFor_0 w f) := (rfl)
def lcEnd_0 (own : List Nat) (ρ : Env) : List D × Env → Option (D × Env)
  | (ds, ρ2) => if ds.length ≤ sizeLine then some (.list ds, backE ρ ρ2 own) else none
@[simp] theorem lcEnd_0_e {own : List Nat} {ρ : Env} {ds : List D} {ρ2 : Env} : lcEnd_0 own ρ (ds, ρ2) = if ds.length ≤ sizeLine then some (.list ds, backE ρ ρ2 own) else none := (rfl)
@[simp] theorem lcEnd_ap {own : List Nat} {r : Option (List D × Env)} {ρ : Env} : lcEnd own r ρ = (r).bind (lcEnd_0 own ρ) := (rfl)
def cLc_0 (own : List Nat) (w : GDen) (t : TDen) (d : Den) : List D × Env → Option (D × Env)
  | (ds, ρ) => if plainE ρ own = true then lcEnd own (lcB own w t d ds (wipeE ρ own)) ρ else none
@[simp] theorem cLc_0_e {own : List Nat} {w : GDen} {t : TDen} {d : Den} {ds : List D} {ρ : Env} : cLc_0 own w t d (ds, ρ) = if plainE ρ own = true then lcEnd own (lcB own w t d ds (wipeE ρ own)) ρ else none := (rfl)
@[simp] theorem cLc_ap {own : List Nat} {s : IDen} {w : GDen} {t : TDen} {d : Den} {ρ : Env} : cLc own s w t d ρ = (s ρ).bind (cLc_0 own w t d) := (rfl)
def cLc2_0 (own : List Nat) (own1 : List Nat) (w : GDen) (t : TDen) (s1 : IDen) (w1 : GDen) (u : TDen) (d : Den) : List D × Env → Option (D × Env)
  | (ds, ρ) => if plainE ρ own = true then lcEnd own (lc2B own own1 w t s1 w1 u d ds (wipeE ρ own)) ρ else none
@[simp] theorem cLc2_0_e {own : List Nat} {own1 : List Nat} {w : GDen} {t : TDen} {s1 : IDen} {w1 : GDen} {u : TDen} {d : Den} {ds : List D} {ρ : Env} : cLc2_0 own own1 w t s1 w1 u d (ds, ρ) = if plainE ρ own = true then lcEnd own (lc2B own own1 w t s1 w1 u d ds (wipeE ρ own)) ρ else none := (rfl)
@[simp] theorem cLc2_ap {own : List Nat} {own1 : List Nat} {s : IDen} {w : GDen} {t : TDen} {s1 : IDen} {w1 : GDen} {u : TDen} {d : Den} {ρ : Env} : cLc2 own own1 s w t s1 w1 u d ρ = (s ρ).bind (cLc2_0 own own1 w t s1 w1 u d) := (rfl)
def cDisp_0 : List (Key × D) × Env → Option (D × Env)
  | (es, ρ) => if es.length ≤ 15 then some (.dict (putAll es), ρ) else none
@[simp] theorem cDisp_0_e {es : List (Key × D)} {ρ : Env} : cDisp_0 (es, ρ) = if es.length ≤ 15 then some (.dict (putAll es), ρ) else none := (rfl)
@[simp] theorem cDisp_ap {g : KDen} {ρ : Env} : cDisp g ρ = (g ρ).bind (cDisp_0) := (rfl)
def kCons_3 (k : Key) (y : D) : List (Key × D) × Env → Option (List (Key × D) × Env)
  | (es, ρ) => some ((k, y) :: es, ρ)
@[simp] theorem kCons_3_e {k : Key} {y : D} {es : List (Key × D)} {ρ : Env} : kCons_3 k y (es, ρ) = some ((k, y) :: es, ρ) := (rfl)
def kCons_2 (g : KDen) (k : Key) : D × Env → Option (List (Key × D) × Env)
  | (y, ρ) => (g ρ).bind (kCons_3 k y)
@[simp] theorem kCons_2_e {g : KDen} {k : Key} {y : D} {ρ : Env} : kCons_2 g k (y, ρ) = (g ρ).bind (kCons_3 k y) := (rfl)
def kCons_1 (e : Den) (g : KDen) (ρ : Env) : Key → Option (List (Key × D) × Env)
  | k => (e ρ).bind (kCons_2 g k)
@[simp] theorem kCons_1_e {e : Den} {g : KDen} {ρ : Env} {k : Key} : kCons_1 e g ρ k = (e ρ).bind (kCons_2 g k) := (rfl)
def kCons_0 (e : Den) (g : KDen) : D × Env → Option (List (Key × D) × Env)
  | (x, ρ) => (asK x).bind (kCons_1 e g ρ)
@[simp] theorem kCons_0_e {e : Den} {g : KDen} {x : D} {ρ : Env} : kCons_0 e g (x, ρ) = (asK x).bind (kCons_1 e g ρ) := (rfl)
@[simp] theorem kCons_ap {d : Den} {e : Den} {g : KDen} {ρ : Env} : kCons d e g ρ = (d ρ).bind (kCons_0 e g) := (rfl)
def mutK_3 (z : D) : Env → Option (D × Env)
  | ρ => some (z, ρ)
@[simp] theorem mutK_3_e {z : D} {ρ : Env} : mutK_3 z ρ = some (z, ρ) := (rfl)
def mutK_2 (i : Nat) (ρ : Env) : D × D → Option (D × Env)
  | (z, c2) => (setC ρ i c2).bind (mutK_3 z)
@[simp] theorem mutK_2_e {i : Nat} {ρ : Env} {z : D} {c2 : D} : mutK_2 i ρ (z, c2) = (setC ρ i c2).bind (mutK_3 z) := (rfl)
def mutK_1 (op : D → List D → Option (D × D)) (i : Nat) (x : List D) (ρ : Env) : D → Option (D × Env)
  | c => (op c x).bind (mutK_2 i ρ)
@[simp] theorem mutK_1_e {op : D → List D → Option (D × D)} {i : Nat} {x : List D} {ρ : Env} {c : D} : mutK_1 op i x ρ c = (op c x).bind (mutK_2 i ρ) := (rfl)
def mutK_0 (op : D → List D → Option (D × D)) (i : Nat) : List D × Env → Option (D × Env)
  | (x, ρ) => (lookO ρ i).bind (mutK_1 op i x ρ)
@[simp] theorem mutK_0_e {op : D → List D → Option (D × D)} {i : Nat} {x : List D} {ρ : Env} : mutK_0 op i (x, ρ) = (lookO ρ i).bind (mutK_1 op i x ρ) := (rfl)
@[simp] theorem mutK_ap {op : D → List D → Option (D × D)} {i : Nat} {a : ADen} {ρ : Env} : mutK op i a ρ = (a ρ).bind (mutK_0 op i) := (rfl)
def cMut_0 (tag : D → Bool) (op : D → List D → Option (D × D)) (i : Nat) (a : ADen) (ρ : Env) : D → Option (D × Env)
  | c0 => if tag c0 = true then mutK op i a ρ else none
@[simp] theorem cMut_0_e {tag : D → Bool} {op : D → List D → Option (D × D)} {i : Nat} {a : ADen} {ρ : Env} {c0 : D} : cMut_0 tag op i a ρ c0 = if tag c0 = true then mutK op i a ρ else none := (rfl)
@[simp] theorem cMut_ap {tag : D → Bool} {op : D → List D → Option (D × D)} {i : Nat} {a : ADen} {ρ : Env} : cMut tag op i a ρ = (lookO ρ i).bind (cMut_0 tag op i a ρ) := (rfl)
def cCallIO_4 (z : D) : Env → Option (D × Env)
  | ρ => some (z, ρ)
@[simp] theorem cCallIO_4_e {z : D} {ρ : Env} : cCallIO_4 z ρ = some (z, ρ) := (rfl)
def cCallIO_3 (i : Nat) (ρ : Env) : D × D → Option (D × Env)
  | (z, c2) => (setC ρ i c2).bind (cCallIO_4 z)
@[simp] theorem cCallIO_3_e {i : Nat} {ρ : Env} {z : D} {c2 : D} : cCallIO_3 i ρ (z, c2) = (setC ρ i c2).bind (cCallIO_4 z) := (rfl)
def cCallIO_2 (m : D → List D → Option (D × D)) (i : Nat) (x : List D) (ρ : Env) : D → Option (D × Env)
  | c => (m c x).bind (cCallIO_3 i ρ)
@[simp] theorem cCallIO_2_e {m : D → List D → Option (D × D)} {i : Nat} {x : List D} {ρ : Env} {c : D} : cCallIO_2 m i x ρ c = (m c x).bind (cCallIO_3 i ρ) := (rfl)
def cCallIO_1 (m : D → List D → Option (D × D)) (i : Nat) : List D × Env → Option (D × Env)
  | (x, ρ) => (lookO ρ i).bind (cCallIO_2 m i x ρ)
@[simp] theorem cCallIO_1_e {m : D → List D → Option (D × D)} {i : Nat} {x : List D} {ρ : Env} : cCallIO_1 m i (x, ρ) = (lookO ρ i).bind (cCallIO_2 m i x ρ) := (rfl)
def cCallIO_0 (m : D → List D → Option (D × D)) (i : Nat) (a : ADen) (ρ : Env) : D → Option (D × Env)
  | c0 => (a ρ).bind (cCallIO_1 m i)
@[simp] theorem cCallIO_0_e {m : D → List D → Option (D × D)} {i : Nat} {a : ADen} {ρ : Env} {c0 : D} : cCallIO_0 m i a ρ c0 = (a ρ).bind (cCallIO_1 m i) := (rfl)
@[simp] theorem cCallIO_ap {m : D → List D → Option (D × D)} {i : Nat} {a : ADen} {ρ : Env} : cCallIO m i a ρ = (lookO ρ i).bind (cCallIO_0 m i a ρ) := (rfl)
def gIx_4 (i : Nat) (ρ : Env) : D → Option (Env)
  | c2 => setC ρ i c2
@[simp] theorem gIx_4_e {i : Nat} {ρ : Env} {c2 : D} : gIx_4 i ρ c2 = setC ρ i c2 := (rfl)
def gIx_3 (i : Nat) (x : D) (ρ : Env) (k : D) : D → Option (Env)
  | c => (setD c k x).bind (gIx_4 i ρ)
@[simp] theorem gIx_3_e {i : Nat} {x : D} {ρ : Env} {k : D} {c : D} : gIx_3 i x ρ k c = (setD c k x).bind (gIx_4 i ρ) := (rfl)
def gIx_2 (i : Nat) (x : D) (ρ : Env) : D → Option (Env)
  | k => (lookO ρ i).bind (gIx_3 i x ρ k)
@[simp] theorem gIx_2_e {i : Nat} {x : D} {ρ : Env} {k : D} : gIx_2 i x ρ k = (lookO ρ i).bind (gIx_3 i x ρ k) := (rfl)
def gIx_1 (i : Nat) (x : D) : Hd × Env → Option (Env)
  | (y, ρ) => (res ρ y).bind (gIx_2 i x ρ)
@[simp] theorem gIx_1_e {i : Nat} {x : D} {y : Hd} {ρ : Env} : gIx_1 i x (y, ρ) = (res ρ y).bind (gIx_2 i x ρ) := (rfl)
def gIx_0 (i : Nat) (o : ODen) (x : D) (ρ : Env) : D → Option (Env)
  | c0 => (o ρ).bind (gIx_1 i x)
@[simp] theorem gIx_0_e {i : Nat} {o : ODen} {x : D} {ρ : Env} {c0 : D} : gIx_0 i o x ρ c0 = (o ρ).bind (gIx_1 i x) := (rfl)
@[simp] theorem gIx_ap {i : Nat} {o : ODen} {x : D} {ρ : Env} : gIx i o x ρ = (lookO ρ i).bind (gIx_0 i o x ρ) := (rfl)
def lcOne_1 (own : List Nat) (e : Den) : Bool × Env → Option (Option D × Env)
  | (b, ρ) => lcK own e b ρ
@[simp] theorem lcOne_1_e {own : List Nat} {e : Den} {b : Bool} {ρ : Env} : lcOne_1 own e (b, ρ) = lcK own e b ρ := (rfl)
def lcOne_0 (own : List Nat) (t : TDen) (e : Den) : Env → Option (Option D × Env)
  | ρ => (t ρ).bind (lcOne_1 own e)
@[simp] theorem lcOne_0_e {own : List Nat} {t : TDen} {e : Den} {ρ : Env} : lcOne_0 own t e ρ = (t ρ).bind (lcOne_1 own e) := (rfl)
@[simp] theorem lcOne_ap {own : List Nat} {w : GDen} {t : TDen} {e : Den} {d : D} {ρ : Env} : lcOne own w t e d ρ = (w d ρ).bind (lcOne_0 own t e) := (rfl)
def mSh_1 (x : D) : List Sl × Env → Option (List Sl × Env)
  | (y, ρ) => some (.sh x :: y, ρ)
@[simp] theorem mSh_1_e {x : D} {y : List Sl} {ρ : Env} : mSh_1 x (y, ρ) = some (.sh x :: y, ρ) := (rfl)
def mSh_0 (g : MDen) : D × Env → Option (List Sl × Env)
  | (x, ρ) => (g ρ).bind (mSh_1 x)
@[simp] theorem mSh_0_e {g : MDen} {x : D} {ρ : Env} : mSh_0 g (x, ρ) = (g ρ).bind (mSh_1 x) := (rfl)
@[simp] theorem mSh_ap {d : Den} {g : MDen} {ρ : Env} : mSh d g ρ = (d ρ).bind (mSh_0 g) := (rfl)
def mOw_1 (x : D) : List Sl × Env → Option (List Sl × Env)
  | (y, ρ) => some (.ow x :: y, ρ)
@[simp] theorem mOw_1_e {x : D} {y : List Sl} {ρ : Env} : mOw_1 x (y, ρ) = some (.ow x :: y, ρ) := (rfl)
def mOw_0 (g : MDen) : D × Env → Option (List Sl × Env)
  | (x, ρ) => (g ρ).bind (mOw_1 x)
@[simp] theorem mOw_0_e {g : MDen} {x : D} {ρ : Env} : mOw_0 g (x, ρ) = (g ρ).bind (mOw_1 x) := (rfl)
@[simp] theorem mOw_ap {d : Den} {g : MDen} {ρ : Env} : mOw d g ρ = (d ρ).bind (mOw_0 g) := (rfl)
def cParM_0 (i : Nat) (j : Nat) : List Sl × Env → Option (Fl)
  | (x, ρ) => parM2 i j x ρ
@[simp] theorem cParM_0_e {i : Nat} {j : Nat} {x : List Sl} {ρ : Env} : cParM_0 i j (x, ρ) = parM2 i j x ρ := (rfl)
@[simp] theorem cParM_ap {i : Nat} {j : Nat} {g : MDen} {ρ : Env} : cParM i j g ρ = (g ρ).bind (cParM_0 i j) := (rfl)
def cParM3_0 (i : Nat) (j : Nat) (l : Nat) : List Sl × Env → Option (Fl)
  | (x, ρ) => parM3 i j l x ρ
@[simp] theorem cParM3_0_e {i : Nat} {j : Nat} {l : Nat} {x : List Sl} {ρ : Env} : cParM3_0 i j l (x, ρ) = parM3 i j l x ρ := (rfl)
@[simp] theorem cParM3_ap {i : Nat} {j : Nat} {l : Nat} {g : MDen} {ρ : Env} : cParM3 i j l g ρ = (g ρ).bind (cParM3_0 i j l) := (rfl)
@[simp] theorem mNil_ap {ρ : Env} : mNil ρ = some ([], ρ) := (rfl)
@[simp] theorem parM2_ap {i j : Nat} {c d : Sl} {ρ : Env} : parM2 i j [c, d] ρ = if isIo ρ[i]? || isIo (ρ.set i c)[j]? then none else some (.nx ((ρ.set i c).set j d)) := (rfl)
@[simp] theorem parM3_ap {i j l : Nat} {c d e : Sl} {ρ : Env} : parM3 i j l [c, d, e] ρ = if isIo ρ[i]? || isIo (ρ.set i c)[j]? || isIo ((ρ.set i c).set j d)[l]? then none else some (.nx (((ρ.set i c).set j d).set l e)) := (rfl)
@[simp] theorem isi_bool_none  : isiD "bool" (.none) = some (.bool false) := (rfl)
@[simp] theorem isi_bool_bool {b : Bool} : isiD "bool" (.bool b) = some (.bool true) := (rfl)
@[simp] theorem isi_bool_int {b : Int} : isiD "bool" (.int b) = some (.bool false) := (rfl)
@[simp] theorem isi_bool_str {b : Str} : isiD "bool" (.str b) = some (.bool false) := (rfl)
@[simp] theorem isi_bool_list {b : List D} : isiD "bool" (.list b) = some (.bool false) := (rfl)
@[simp] theorem isi_bool_tuple {b : List D} : isiD "bool" (.tuple b) = some (.bool false) := (rfl)
@[simp] theorem isi_bool_dict {b : List (D × D)} : isiD "bool" (.dict b) = some (.bool false) := (rfl)
@[simp] theorem isi_int_none  : isiD "int" (.none) = some (.bool false) := (rfl)
@[simp] theorem isi_int_bool {b : Bool} : isiD "int" (.bool b) = some (.bool true) := (rfl)
@[simp] theorem isi_int_int {b : Int} : isiD "int" (.int b) = some (.bool true) := (rfl)
@[simp] theorem isi_int_str {b : Str} : isiD "int" (.str b) = some (.bool false) := (rfl)
@[simp] theorem isi_int_list {b : List D} : isiD "int" (.list b) = some (.bool false) := (rfl)
@[simp] theorem isi_int_tuple {b : List D} : isiD "int" (.tuple b) = some (.bool false) := (rfl)
@[simp] theorem isi_int_dict {b : List (D × D)} : isiD "int" (.dict b) = some (.bool false) := (rfl)
@[simp] theorem isi_str_none  : isiD "str" (.none) = some (.bool false) := (rfl)
@[simp] theorem isi_str_bool {b : Bool} : isiD "str" (.bool b) = some (.bool false) := (rfl)
@[simp] theorem isi_str_int {b : Int} : isiD "str" (.int b) = some (.bool false) := (rfl)
@[simp] theorem isi_str_str {b : Str} : isiD "str" (.str b) = some (.bool true) := (rfl)
@[simp] theorem isi_str_list {b : List D} : isiD "str" (.list b) = some (.bool false) := (rfl)
@[simp] theorem isi_str_tuple {b : List D} : isiD "str" (.tuple b) = some (.bool false) := (rfl)
@[simp] theorem isi_str_dict {b : List (D × D)} : isiD "str" (.dict b) = some (.bool false) := (rfl)
@[simp] theorem isi_list_none  : isiD "list" (.none) = some (.bool false) := (rfl)
@[simp] theorem isi_list_bool {b : Bool} : isiD "list" (.bool b) = some (.bool false) := (rfl)
@[simp] theorem isi_list_int {b : Int} : isiD "list" (.int b) = some (.bool false) := (rfl)
@[simp] theorem isi_list_str {b : Str} : isiD "list" (.str b) = some (.bool false) := (rfl)
@[simp] theorem isi_list_list {b : List D} : isiD "list" (.list b) = some (.bool true) := (rfl)
@[simp] theorem isi_list_tuple {b : List D} : isiD "list" (.tuple b) = some (.bool false) := (rfl)
@[simp] theorem isi_list_dict {b : List (D × D)} : isiD "list" (.dict b) = some (.bool false) := (rfl)
@[simp] theorem isi_tuple_none  : isiD "tuple" (.none) = some (.bool false) := (rfl)
@[simp] theorem isi_tuple_bool {b : Bool} : isiD "tuple" (.bool b) = some (.bool false) := (rfl)
@[simp] theorem isi_tuple_int {b : Int} : isiD "tuple" (.int b) = some (.bool false) := (rfl)
@[simp] theorem isi_tuple_str {b : Str} : isiD "tuple" (.str b) = some (.bool false) := (rfl)
@[simp] theorem isi_tuple_list {b : List D} : isiD "tuple" (.list b) = some (.bool false) := (rfl)
@[simp] theorem isi_tuple_tuple {b : List D} : isiD "tuple" (.tuple b) = some (.bool true) := (rfl)
@[simp] theorem isi_tuple_dict {b : List (D × D)} : isiD "tuple" (.dict b) = some (.bool false) := (rfl)
@[simp] theorem isi_dict_none  : isiD "dict" (.none) = some (.bool false) := (rfl)
@[simp] theorem isi_dict_bool {b : Bool} : isiD "dict" (.bool b) = some (.bool false) := (rfl)
@[simp] theorem isi_dict_int {b : Int} : isiD "dict" (.int b) = some (.bool false) := (rfl)
@[simp] theorem isi_dict_str {b : Str} : isiD "dict" (.str b) = some (.bool false) := (rfl)
@[simp] theorem isi_dict_list {b : List D} : isiD "dict" (.list b) = some (.bool false) := (rfl)
@[simp] theorem isi_dict_tuple {b : List D} : isiD "dict" (.tuple b) = some (.bool false) := (rfl)
@[simp] theorem isi_dict_dict {b : List (D × D)} : isiD "dict" (.dict b) = some (.bool true) := (rfl)
-- end
section
variable {f g : SDen} {d e : Den} {t u : TDen} {o o2 o3 : ODen} {a b : ADen} {ρ : Env}
/-! statements -/
def seqK (g : SDen) : Fl → Option Fl
  | .nx ρ => g ρ
  | .bk ρ => some (.bk ρ)
  | .ct ρ => some (.ct ρ)
  | .rt v ρ => some (.rt v ρ)
@[simp] theorem seqK_nx : seqK g (.nx ρ) = g ρ := (rfl)
@[simp] theorem seqK_bk : seqK g (.bk ρ) = some (.bk ρ) := (rfl)
@[simp] theorem seqK_ct : seqK g (.ct ρ) = some (.ct ρ) := (rfl)
@[simp] theorem seqK_rt {v : D} : seqK g (.rt v ρ) = some (.rt v ρ) := (rfl)
@[simp] theorem cSeq_ap : cSeq f g ρ = (f ρ).bind (seqK g) := by
  show (f ρ).bind _ = (f ρ).bind _
  congr 1
  funext r
  cases r <;> rfl
@[simp] theorem isIo_un : isIo (some .un) = false := (rfl)
@[simp] theorem isIo_sh {x : D} : isIo (some (.sh x)) = false := (rfl)
@[simp] theorem isIo_ow {x : D} : isIo (some (.ow x)) = false := (rfl)
@[simp] theorem isIo_io {x : D} : isIo (some (.io x)) = true := (rfl)
@[simp] theorem isIo_no : isIo none = false := (rfl)
@[simp] theorem cNext_ap : cNext ρ = some (.nx ρ) := (rfl)
@[simp] theorem cBk_ap : cBk ρ = some (.bk ρ) := (rfl)
@[simp] theorem cCt_ap : cCt ρ = some (.ct ρ) := (rfl)
@[simp] theorem parS_ap {i j : Nat} {x y : D} : parS i j [x, y] ρ = if isIo ρ[i]? || isIo (ρ.set i (.sh x))[j]? then none else some (.nx ((ρ.set i (.sh x)).set j (.sh y))) := (rfl)
/-! values -/
@[simp] theorem cC_ap {x : D} : cC x ρ = some (x, ρ) := (rfl)
def varK (ρ : Env) (i : Nat) : Option Sl → Option (D × Env)
  | some (.sh d) => some (d, ρ)
  | some (.ow d) => some (d, ρ.set i (.sh d))
  | _ => none
@[simp] theorem varK_sh {i : Nat} {x : D} : varK ρ i (some (.sh x)) = some (x, ρ) := (rfl)
@[simp] theorem varK_ow {i : Nat} {x : D} : varK ρ i (some (.ow x)) = some (x, ρ.set i (.sh x)) := (rfl)
@[simp] theorem cVar_ap {i : Nat} : cVar i ρ = varK ρ i ρ[i]? := (rfl)
def lookS : Option Sl → Option D
  | some (.sh d) => some d
  | some (.ow d) => some d
  | some (.io d) => some d
  | _ => none
@[simp] theorem lookS_sh {x : D} : lookS (some (.sh x)) = some x := (rfl)
@[simp] theorem lookS_ow {x : D} : lookS (some (.ow x)) = some x := (rfl)
@[simp] theorem lookS_io {x : D} : lookS (some (.io x)) = some x := (rfl)
@[simp] theorem look_ap {i : Nat} : look ρ i = lookS ρ[i]? := by
  unfold look lookS
  split <;> simp_all
def lookOS : Option Sl → Option D
  | some (.ow d) => some d
  | some (.io d) => some d
  | _ => none
@[simp] theorem lookOS_ow {x : D} : lookOS (some (.ow x)) = some x := (rfl)
@[simp] theorem lookOS_io {x : D} : lookOS (some (.io x)) = some x := (rfl)
@[simp] theorem lookO_ap {i : Nat} : lookO ρ i = lookOS ρ[i]? := by
  unfold lookO lookOS
  split <;> simp_all
def setCS (ρ : Env) (i : Nat) (x : D) : Option Sl → Option Env
  | some (.ow _) => some (ρ.set i (.ow x))
  | some (.io _) => some (ρ.set i (.io x))
  | _ => none
@[simp] theorem setCS_ow {i : Nat} {x y : D} : setCS ρ i x (some (.ow y)) = some (ρ.set i (.ow x)) := (rfl)
@[simp] theorem setCS_io {i : Nat} {x y : D} : setCS ρ i x (some (.io y)) = some (ρ.set i (.io x)) := (rfl)
@[simp] theorem setC_ap {i : Nat} {x : D} : setC ρ i x = setCS ρ i x ρ[i]? := by
  unfold setC setCS
  split <;> simp_all
@[simp] theorem res_val {x : D} : res ρ (.val x) = some x := (rfl)
@[simp] theorem res_slot {i : Nat} : res ρ (.slot i) = look ρ i := (rfl)
@[simp] theorem cNil_ap : cNil ρ = some ([], ρ) := (rfl)
@[simp] theorem pNo_ap : pNo ρ = some (none, ρ) := (rfl)
@[simp] theorem cYes_ap : cYes ρ = some (true, ρ) := (rfl)
/-! targets -/
@[simp] theorem gN_ap {i : Nat} {x : D} : gN i x ρ = if isIo ρ[i]? then none else some (ρ.set i (.sh x)) := (rfl)
@[simp] theorem gsNil_ap : gsNil [] ρ = some ρ := (rfl)
@[simp] theorem gsCons_ap {w : GDen} {ws : GsDen} {x : D} {xs : List D} : gsCons w ws (x :: xs) ρ = (w x ρ).bind fun ρ1 => ws xs ρ1 := (rfl)
/-! sources, loops -/
@[simp] theorem forB_nil {w : GDen} : forB w f [] ρ = some (.nx ρ) := (rfl)
@[simp] theorem wipeE_nil : wipeE ρ [] = ρ := (rfl)
@[simp] theorem wipeE_cons {v : Nat} {vs : List Nat} : wipeE ρ (v :: vs) = (wipeE ρ vs).set v .un := (rfl)
@[simp] theorem plainE_nil : plainE ρ [] = true := (rfl)
@[simp] theorem plainE_cons {v : Nat} {vs : List Nat} : plainE ρ (v :: vs) = (plainS ρ[v]? && plainE ρ vs) := (rfl)
@[simp] theorem plainS_un : plainS (some .un) = true := (rfl)
@[simp] theorem plainS_sh {x : D} : plainS (some (.sh x)) = true := (rfl)
@[simp] theorem noIo_nil : noIo ρ [] = true := (rfl)
@[simp] theorem noIo_cons {v : Nat} {vs : List Nat} : noIo ρ (v :: vs) = (!isIo ρ[v]? && noIo ρ vs) := (rfl)
@[simp] theorem backE_nil {ρ0 : Env} : backE ρ0 ρ [] = ρ := (rfl)
def backK (ρ : Env) (v : Nat) : Option Sl → Env
  | some s => ρ.set v s
  | none => ρ
@[simp] theorem backK_some {v : Nat} {s : Sl} : backK ρ v (some s) = ρ.set v s := (rfl)
@[simp] theorem backE_cons {ρ0 : Env} {v : Nat} {vs : List Nat} : backE ρ0 ρ (v :: vs) = backK (backE ρ0 ρ vs) v ρ0[v]? := by
  rw [backE]
  unfold backK
  split <;> simp_all
@[simp] theorem kNil_ap : kNil ρ = some ([], ρ) := (rfl)
/-! defs -/
def retK : Fl → Option D
  | .rt d _ => some d
  | .nx _ => some .none
  | _ => none
@[simp] theorem retK_rt {x : D} : retK (.rt x ρ) = some x := (rfl)
@[simp] theorem retK_nx : retK (.nx ρ) = some .none := (rfl)
@[simp] theorem runB_ap {np n : Nat} {B : SDen} {ds : List D} : runB np n B ds = if ds.length = np then (B (env0 n ds)).bind retK else none := by
  unfold runB
  congr 2
@[simp] theorem env0_ap {n : Nat} {ds : List D} : env0 n ds = ds.map .sh ++ List.replicate (n - ds.length) .un := (rfl)
def retIO : Fl → Option (D × D)
  | .rt d ρ => ioOf ρ d
  | .nx ρ => ioOf ρ .none
  | _ => none
@[simp] theorem retIO_rt {x c : D} : retIO (.rt x (.io c :: ρ)) = some (x, c) := (rfl)
@[simp] theorem retIO_nx {c : D} : retIO (.nx (.io c :: ρ)) = some (.none, c) := (rfl)
@[simp] theorem runIO_ap {np n : Nat} {B : SDen} {c : D} {ds : List D} : runIO np n B c ds = if ds.length + 1 = np then (B (envIO n c ds)).bind retIO else none := by
  unfold runIO
  congr 2
@[simp] theorem envIO_ap {n : Nat} {c : D} {ds : List D} : envIO n c ds = .io c :: (ds.map .sh ++ List.replicate (n - (ds.length + 1)) .un) := (rfl)
@[simp] theorem ltI_ap {i j : Int} : ltI (.int i) (.int j) = some (.bool (decide (i < j))) := (rfl)
@[simp] theorem leI_ap {i j : Int} : leI (.int i) (.int j) = some (.bool (decide (i ≤ j))) := (rfl)
@[simp] theorem gtI_ap {i j : Int} : gtI (.int i) (.int j) = some (.bool (decide (j < i))) := (rfl)
@[simp] theorem geI_ap {i j : Int} : geI (.int i) (.int j) = some (.bool (decide (j ≤ i))) := (rfl)
end
/-! ### loops, by what is so at each turn -/
theorem forB_inv {g : GDen} {b : SDen} (P : Nat → Env → Prop) : ∀ (ds : List D) (i : Nat) (ρ : Env), P i ρ → (∀ (j : Nat) (d : D) (ρ : Env), ds[j]? = some d → P (i + j) ρ → ∃ ρ', ((g d ρ).bind b = some (.nx ρ') ∨ (g d ρ).bind b = some (.ct ρ')) ∧ P (i + j + 1) ρ') → ∃ ρ', forB g b ds ρ = some (.nx ρ') ∧ P (i + ds.length) ρ'
  | [], i, ρ, h, _ => ⟨ρ, rfl, h⟩
  | d :: ds, i, ρ, h, hs => by
    obtain ⟨ρ1, e1, h1⟩ := hs 0 d ρ rfl h
    obtain ⟨ρ2, e2, h2⟩ := forB_inv P ds (i + 1) ρ1 h1 fun j d' ρ' hj hp => by
      obtain ⟨ρ3, e3, h3⟩ := hs (j + 1) d' ρ' (by simpa using hj) (by rw [show i + (j + 1) = i + 1 + j by omega]; exact hp)
      exact ⟨ρ3, e3, by rw [show i + 1 + j + 1 = i + (j + 1) + 1 by omega]; exact h3⟩
    refine ⟨ρ2, ?_, by rw [List.length_cons, show i + (ds.length + 1) = i + 1 + ds.length by omega]; exact h2⟩
    have key : forB g b (d :: ds) ρ = ((g d ρ).bind b).bind fun r => match r with
      | .nx ρ2 => forB g b ds ρ2
      | .ct ρ2 => forB g b ds ρ2
      | .bk ρ2 => some (.nx ρ2)
      | .rt v ρ2 => some (.rt v ρ2) := by
      rw [forB]
      cases g d ρ <;> rfl
    rw [key]
    rcases e1 with e1 | e1 <;> rw [e1] <;> exact e2
def fwdK (g : GDen) (b : SDen) (ds : List D) : Fl → Option Fl
  | .nx ρ => forB g b ds ρ
  | .ct ρ => forB g b ds ρ
  | .bk ρ => some (.nx ρ)
  | .rt v ρ => some (.rt v ρ)
@[simp] theorem fwdK_nx {g : GDen} {b : SDen} {ds : List D} {ρ : Env} : fwdK g b ds (.nx ρ) = forB g b ds ρ := (rfl)
@[simp] theorem fwdK_ct {g : GDen} {b : SDen} {ds : List D} {ρ : Env} : fwdK g b ds (.ct ρ) = forB g b ds ρ := (rfl)
@[simp] theorem fwdK_bk {g : GDen} {b : SDen} {ds : List D} {ρ : Env} : fwdK g b ds (.bk ρ) = some (.nx ρ) := (rfl)
@[simp] theorem fwdK_rt {g : GDen} {b : SDen} {ds : List D} {ρ : Env} {v : D} : fwdK g b ds (.rt v ρ) = some (.rt v ρ) := (rfl)
def forK (g : GDen) (b : SDen) (ds : List D) (ρ : Env) : Option Fl := (b ρ).bind (fwdK g b ds)
@[simp] theorem forK_e {g : GDen} {b : SDen} {ds : List D} {ρ : Env} : forK g b ds ρ = (b ρ).bind (fwdK g b ds) := (rfl)
theorem forB_cons {g : GDen} {b : SDen} {d : D} {ds : List D} {ρ : Env} : forB g b (d :: ds) ρ = (g d ρ).bind (forK g b ds) := by
  rw [forB]
  congr 1
def whK (c : TDen) (b : SDen) (n : Nat) (k : Bool) (ρ : Env) : Option Fl := match k with
  | false => some (.nx ρ)
  | true => (b ρ).bind fun r => match r with
      | .nx ρ2 => whileN c b n ρ2
      | .ct ρ2 => whileN c b n ρ2
      | .bk ρ2 => some (.nx ρ2)
      | .rt v ρ2 => some (.rt v ρ2)
theorem whileN_inv {c : TDen} {b : SDen} (P : Nat → Env → Prop) (Q : Env → Prop) (hs : ∀ m ρ, P m ρ → ∃ k ρ1, c ρ = some (k, ρ1) ∧ (k = false → Q ρ1) ∧ (k = true → ∃ m', m' < m ∧ ∃ ρ2, (b ρ1 = some (.nx ρ2) ∨ b ρ1 = some (.ct ρ2)) ∧ P m' ρ2)) :
    ∀ (m : Nat) (ρ : Env) (n : Nat), P m ρ → m < n → ∃ ρ', whileN c b n ρ = some (.nx ρ') ∧ Q ρ' := by
  intro m
  induction m using Nat.strongRecOn with
  | ind m ih =>
    intro ρ n hp hn
    cases n with
    | zero => exact absurd hn (Nat.not_lt_zero _)
    | succ n =>
      obtain ⟨k, ρ1, e1, h0, h1⟩ := hs m ρ hp
      cases k with
      | false => exact ⟨ρ1, by rw [whileN, e1]; rfl, h0 rfl⟩
      | true =>
        obtain ⟨m', hm, ρ2, e2, hp2⟩ := h1 rfl
        obtain ⟨ρ3, e3, hq⟩ := ih m' hm ρ2 n hp2 (by omega)
        refine ⟨ρ3, ?_, hq⟩
        rw [whileN, e1]
        show (b ρ1).bind _ = _
        rcases e2 with e2 | e2 <;> rw [e2] <;> exact e3
def consO : Option D → List D → List D
  | some d, l => d :: l
  | none, l => l
theorem lcB_step {own : List Nat} {g : GDen} {t : TDen} {e : Den} {d : D} {ds : List D} {ρ : Env} : lcB own g t e (d :: ds) ρ = (lcOne own g t e d ρ).bind fun x => (lcB own g t e ds x.2).bind fun z => some (consO x.1 z.1, z.2) := by
  rw [lcB]
  unfold lcOne
  cases g d ρ with
  | none => rfl
  | some ρ1 =>
    simp only [Option.bind_some]
    cases t ρ1 with
    | none => rfl
    | some x =>
      obtain ⟨b, ρ2⟩ := x
      cases b with
      | true =>
        simp only [Option.bind_some, lcK]
        cases e ρ2 with
        | none => rfl
        | some y =>
          obtain ⟨y, ρ3⟩ := y
          simp only [Option.bind_some, lcKt]
          split
          · rfl
          · rfl
      | false =>
        simp only [Option.bind_some, lcK]
        split
        · simp only [Option.bind_some]
          cases lcB own g t e ds (wipeE ρ2 own) with
          | none => rfl
          | some z => rfl
        · rfl
/-- a block that leaves the names as they are -/
theorem lcB_same {α : Type} {own : List Nat} {g : GDen} {t : TDen} {e : Den} {ρ : Env} (enc : α → D) (c : α → Bool) (out : α → D) : ∀ l : List α, (∀ a ∈ l, lcOne own g t e (enc a) ρ = some (if c a = true then some (out a) else none, ρ)) → lcB own g t e (l.map enc) ρ = some ((l.filter c).map out, ρ)
  | [], _ => rfl
  | a :: l, h => by
    rw [List.map_cons, lcB_step, h a List.mem_cons_self]
    have ih := lcB_same enc c out l fun b hb => h b (List.mem_cons_of_mem _ hb)
    simp only [Option.bind_some, ih]
    cases q : c a <;> simp [q, consO]
theorem lcB_map {α : Type} {own : List Nat} {g : GDen} {t : TDen} {e : Den} {ρ : Env} (enc : α → D) (out : α → D) (l : List α) (h : ∀ a ∈ l, lcOne own g t e (enc a) ρ = some (some (out a), ρ)) : lcB own g t e (l.map enc) ρ = some (l.map out, ρ) := by
  have := lcB_same (own := own) (g := g) (t := t) (e := e) (ρ := ρ) enc (fun _ => true) out l fun a ha => by rw [h a ha]; rfl
  rw [this]
  have e : l.filter (fun _ => true) = l := List.filter_eq_self.mpr fun _ _ => rfl
  rw [e]
end DL

set_option maxHeartbeats 4000000
/-! DCOM: defs that several laws have (printed by gen.py). -/
namespace DL
open PySem L2
-- shared sets_of
def sets_of_T1 : TDen :=
  (cOr (cT (cBin eqD (oN 4) (oE (cArgs opTup cNil)))) (cT (cBin gtI (oN 5) (oE (cBin ixD (oN 4) (oE (cUn negD (oE (cC (.int 1))))))))))
def sets_of_E1 : Den :=
  (cBin addD (oN 4) (oE (cArgs opTup (cCons (cVar 5) cNil))))
def sets_of_L1 : SDen :=
  (cSetO 2 (cLc2 [4, 5] [5] (iE (cVar 2)) (gN 4) cYes (iE (cVar 0)) (gN 5) sets_of_T1 sets_of_E1))
def B_sets_of : SDen :=
  (cSeq (cSetO 2 (cArgs opLst (cCons (cArgs opTup cNil) cNil)))
    (cSeq (cFor (iA rg1 (cCons (cVar 1) cNil)) (gN 3) sets_of_L1)
    (cRet (cVar 2))))
def m_sets_of : List D → Option D := runB 2 6 B_sets_of
-- end
-- shared all_sets
def all_sets_L1 : SDen :=
  (cDrop (cMut isL opExtend 1 (cCons (cArgs m_sets_of (cCons (cVar 0) (cCons (cVar 2) cNil))) cNil)))
def B_all_sets : SDen :=
  (cSeq (cSetO 1 (cArgs opLst cNil))
    (cSeq (cFor (iA rg1 (cCons (cBin addD (oE (cUn lenD (oN 0))) (oE (cC (.int 1)))) cNil)) (gN 2) all_sets_L1)
    (cRet (cVar 1))))
def m_all_sets : List D → Option D := runB 1 3 B_all_sets
-- end
-- shared common
def common_C1 : TDen :=
  (cT (cBin neD (oN 1) (oE (cC (.int 0)))))
def common_W1 : SDen :=
  (cPar 0 1 (cCons (cVar 1) (cCons (cBin modD (oN 0) (oN 1)) cNil)))
def B_common : SDen :=
  (cSeq (whileN common_C1 common_W1 1099511627776)
    (cRet (cUn absD (oN 0))))
def m_common : List D → Option D := runB 2 2 B_common
-- end
-- shared fraction
def B_fraction : SDen :=
  (cSeq (cSet 2 (cArgs m_common (cCons (cVar 0) (cCons (cVar 1) cNil))))
    (cSeq (cIfS (cT (cBin ltI (oN 1) (oE (cC (.int 0))))) (cSet 2 (cUn negD (oN 2))) cNext)
    (cRet (cArgs opTup (cCons (cBin fdivD (oN 0) (oN 2)) (cCons (cBin fdivD (oN 1) (oN 2)) cNil))))))
def m_fraction : List D → Option D := runB 2 3 B_fraction
-- end
-- shared plus
def B_plus : SDen :=
  (cRet (cArgs m_fraction (cCons (cBin addD (oE (cBin mulI (oE (cBin ixD (oN 0) (oE (cC (.int 0))))) (oE (cBin ixD (oN 1) (oE (cC (.int 1))))))) (oE (cBin mulI (oE (cBin ixD (oN 1) (oE (cC (.int 0))))) (oE (cBin ixD (oN 0) (oE (cC (.int 1)))))))) (cCons (cBin mulI (oE (cBin ixD (oN 0) (oE (cC (.int 1))))) (oE (cBin ixD (oN 1) (oE (cC (.int 1)))))) cNil))))
def m_plus : List D → Option D := runB 2 2 B_plus
-- end
-- shared minus
def B_minus : SDen :=
  (cRet (cArgs m_fraction (cCons (cBin subD (oE (cBin mulI (oE (cBin ixD (oN 0) (oE (cC (.int 0))))) (oE (cBin ixD (oN 1) (oE (cC (.int 1))))))) (oE (cBin mulI (oE (cBin ixD (oN 1) (oE (cC (.int 0))))) (oE (cBin ixD (oN 0) (oE (cC (.int 1)))))))) (cCons (cBin mulI (oE (cBin ixD (oN 0) (oE (cC (.int 1))))) (oE (cBin ixD (oN 1) (oE (cC (.int 1)))))) cNil))))
def m_minus : List D → Option D := runB 2 2 B_minus
-- end
-- shared times
def B_times : SDen :=
  (cRet (cArgs m_fraction (cCons (cBin mulI (oE (cBin ixD (oN 0) (oE (cC (.int 0))))) (oE (cBin ixD (oN 1) (oE (cC (.int 0)))))) (cCons (cBin mulI (oE (cBin ixD (oN 0) (oE (cC (.int 1))))) (oE (cBin ixD (oN 1) (oE (cC (.int 1)))))) cNil))))
def m_times : List D → Option D := runB 2 2 B_times
-- end
-- shared is_less
def B_is_less : SDen :=
  (cRet (cBin ltI (oE (cBin mulI (oE (cBin ixD (oN 0) (oE (cC (.int 0))))) (oE (cBin ixD (oN 1) (oE (cC (.int 1))))))) (oE (cBin mulI (oE (cBin ixD (oN 1) (oE (cC (.int 0))))) (oE (cBin ixD (oN 0) (oE (cC (.int 1)))))))))
def m_is_less : List D → Option D := runB 2 2 B_is_less
-- end
-- shared _law_draws
def _law_draws_L1 : SDen :=
  (cSeq (cSet 3 (cBin modD (oE (cUn intD (oE (cBin addD (oE (cBin addD (oE (cBin mulI (oN 3) (oE (cC (.int 16807))))) (oN 4))) (oE (cC (.int 1))))))) (oE (cC (.int 65537)))))
    (cDrop (cMut isL opAppend 2 (cCons (cBin modD (oE (cUn intD (oN 3))) (oE (cC (.int 997)))) cNil))))
def _law_draws_L2 : SDen :=
  (cIfS (cT (cBin gtI (oN 6) (oE (cC (.int 0))))) (cSeq (cDrop (cMut isL opAppend 2 (cCons (cBin modD (oE (cUn intD (oN 6))) (oE (cC (.int 997)))) cNil)))
    (cSet 6 (cBin fdivD (oN 6) (oE (cC (.int 997)))))) cNext)
def _law_draws_L3 : SDen :=
  (cSeq (cSet 5 (cUn absD (oE (cUn intD (oE (cBin ixD (oN 0) (oN 4)))))))
    (cSeq (cSet 3 (cBin modD (oE (cUn intD (oE (cBin addD (oE (cBin addD (oE (cBin mulI (oN 3) (oE (cC (.int 48271))))) (oE (cBin modD (oN 5) (oE (cC (.int 1000003))))))) (oN 4))))) (oE (cC (.int 65537)))))
    (cSeq (cSet 6 (cC (.int 0)))
    (cSeq (cIfS (cT (cBin geI (oN 5) (oE (cBin powD (oE (cC (.int 10))) (oE (cC (.int 18))))))) (cSet 6 (cVar 5)) (cSeq (cDrop (cMut isL opAppend 2 (cCons (cBin modD (oE (cUn intD (oN 5))) (oE (cC (.int 997)))) cNil)))
    (cDrop (cMut isL opAppend 2 (cCons (cBin modD (oE (cBin modD (oE (cUn intD (oE (cBin addD (oE (cBin mulI (oN 3) (oE (cC (.int 69621))))) (oE (cC (.int 5))))))) (oE (cC (.int 65521))))) (oE (cC (.int 997)))) cNil)))))
    (cFor (iA rg1 (cCons (cC (.int 60)) cNil)) (gN 7) _law_draws_L2)))))
def B__law_draws : SDen :=
  (cSeq (cSetO 2 (cArgs opLst cNil))
    (cSeq (cSet 3 (cC (.int 7)))
    (cSeq (cFor (iA rg1 (cCons (cUn lenD (oN 0)) cNil)) (gN 4) _law_draws_L3)
    (cSeq (cFor (iA rg1 (cCons (cVar 1) cNil)) (gN 4) _law_draws_L1)
    (cRet (cSl (oN 2) pNo (pSo (oN 1))))))))
def m__law_draws : List D → Option D := runB 2 8 B__law_draws
-- end
-- shared _law_next
def B__law_next : SDen :=
  (cSeq (cAugIx 0 (oE (cC (.str "at"))) (fun i j => i + j) (cC (.int 1)))
    (cSeq (cIfS (cT (cBin gtI (oE (cBin ixD (oN 0) (oE (cC (.str "at"))))) (oE (cUn lenD (oE (cBin ixD (oN 0) (oE (cC (.str "draws"))))))))) (cRet (cC (.int 0))) cNext)
    (cRet (cBin modD (oE (cUn intD (oE (cBin ixD (oE (cBin ixD (oN 0) (oE (cC (.str "draws"))))) (oE (cBin subD (oE (cBin ixD (oN 0) (oE (cC (.str "at"))))) (oE (cC (.int 1))))))))) (oN 1)))))
def m__law_next : D → List D → Option (D × D) := runIO 2 2 B__law_next
-- end
-- shared _law_pick
def B__law_pick : SDen :=
  (cRet (cBin ixD (oN 1) (oE (cCallIO m__law_next 0 (cCons (cUn lenD (oN 1)) cNil)))))
def m__law_pick : D → List D → Option (D × D) := runIO 2 2 B__law_pick
-- end
-- shared _law_sets
def _law_sets_T1 : TDen :=
  (cOr (cT (cBin eqD (oN 5) (oE (cArgs opTup cNil)))) (cT (cBin gtI (oN 6) (oE (cBin ixD (oN 5) (oE (cUn negD (oE (cC (.int 1))))))))))
def _law_sets_E1 : Den :=
  (cBin addD (oN 5) (oE (cArgs opTup (cCons (cVar 6) cNil))))
def _law_sets_L1 : SDen :=
  (cSet 4 (cBin addD (oN 4) (oE (cLc [6] (iE (cVar 0)) (gN 6) _law_sets_T1 _law_sets_E1))))
def _law_sets_L2 : SDen :=
  (cSeq (cSetO 4 (cArgs opLst cNil))
    (cSeq (cFor (iE (cVar 2)) (gN 5) _law_sets_L1)
    (cSeq (cSet 2 (cVar 4))
    (cSet 1 (cBin addD (oN 1) (oN 2))))))
def B__law_sets : SDen :=
  (cSeq (cParM 1 2 (mOw (cArgs opLst (cCons (cArgs opTup cNil) cNil)) (mOw (cArgs opLst (cCons (cArgs opTup cNil) cNil)) mNil)))
    (cSeq (cFor (iA rg1 (cCons (cUn lenD (oN 0)) cNil)) (gN 3) _law_sets_L2)
    (cRet (cVar 1))))
def m__law_sets : List D → Option D := runB 1 7 B__law_sets
-- end
-- shared _law_same
def _law_same_E1 : Den :=
  (cArgs opTup (cCons (cBin ixD (oN 3) (oN 6)) (cCons (cBin ixD (oN 4) (oN 6)) cNil)))
def _law_same_E2 : Den :=
  (cArgs opTup (cCons (cBin ixD (oN 5) (oN 6)) (cCons (cVar 6) cNil)))
def _law_same_E3 : Den :=
  (cArgs opTup (cCons (cVar 6) (cCons (cVar 6) cNil)))
def _law_same_T1 : TDen :=
  (cT (cBin notInD (oN 6) (oN 3)))
def _law_same_E4 : Den :=
  (cArgs opTup (cCons (cBin ixD (oN 3) (oN 7)) (cCons (cBin ixD (oN 4) (oN 7)) cNil)))
def _law_same_C1 : TDen :=
  (cT (cBin neD (oN 2) (oE (cArgs opLst cNil))))
def _law_same_W1 : SDen :=
  (cSeq (cAsg (cMut isL opPop 2 cNil) (gTp 2 (gsCons (gN 3) (gsCons (gN 4) gsNil))))
    (cIfS (cT (cUn (isiD "dict") (oN 4))) (cSeq (cIfS (cOr (cNot (cT (cUn (isiD "dict") (oN 3)))) (cOr (cT (cBin neD (oE (cUn lenD (oN 3))) (oE (cUn lenD (oN 4))))) (cT (cBin neD (oE (cLc [6] (iE (cVar 4)) (gN 6) _law_same_T1 (cVar 6))) (oE (cArgs opLst cNil)))))) (cRet (cC (.bool false))) cNext)
    (cSeq (cSetO 5 (cUn dictA (oE (cLc [6] (iE (cVar 3)) (gN 6) cYes _law_same_E3))))
    (cDrop (cMut isL opExtend 2 (cCons (cBin addD (oE (cLc [6] (iE (cVar 4)) (gN 6) cYes _law_same_E1)) (oE (cLc [6] (iE (cVar 4)) (gN 6) cYes _law_same_E2))) cNil))))) (cIfS (cOr (cT (cUn (isiD "tuple") (oN 4))) (cT (cUn (isiD "list") (oN 4)))) (cSeq (cIfS (cOr (cT (cBin neD (oE (cUn (isiD "tuple") (oN 3))) (oE (cUn (isiD "tuple") (oN 4))))) (cOr (cT (cBin neD (oE (cUn (isiD "list") (oN 3))) (oE (cUn (isiD "list") (oN 4))))) (cT (cBin neD (oE (cUn lenD (oN 3))) (oE (cUn lenD (oN 4))))))) (cRet (cC (.bool false))) cNext)
    (cDrop (cMut isL opExtend 2 (cCons (cLc [7] (iA rg1 (cCons (cUn lenD (oN 4)) cNil)) (gN 7) cYes _law_same_E4) cNil)))) (cIfS (cOr (cT (cBin neD (oE (cUn (isiD "bool") (oN 3))) (oE (cUn (isiD "bool") (oN 4))))) (cOr (cT (cBin neD (oE (cUn (isiD "int") (oN 3))) (oE (cUn (isiD "int") (oN 4))))) (cOr (cT (cBin neD (oE (cUn (isiD "str") (oN 3))) (oE (cUn (isiD "str") (oN 4))))) (cT (cBin neD (oN 3) (oN 4)))))) (cRet (cC (.bool false))) cNext))))
def B__law_same : SDen :=
  (cSeq (cSetO 2 (cArgs opLst (cCons (cArgs opTup (cCons (cVar 0) (cCons (cVar 1) cNil))) cNil)))
    (cSeq (whileN _law_same_C1 _law_same_W1 1099511627776)
    (cRet (cC (.bool true)))))
def m__law_same : List D → Option D := runB 2 8 B__law_same
-- end
-- shared _law_fraction
def _law_fraction_C1 : TDen :=
  (cT (cBin gtI (oN 3) (oE (cC (.int 0)))))
def _law_fraction_W1 : SDen :=
  (cPar 2 3 (cCons (cVar 3) (cCons (cBin modD (oE (cUn intD (oN 2))) (oN 3)) cNil)))
def B__law_fraction : SDen :=
  (cSeq (cPar 2 3 (cCons (cUn absD (oN 0)) (cCons (cUn absD (oN 1)) cNil)))
    (cSeq (whileN _law_fraction_C1 _law_fraction_W1 1099511627776)
    (cRet (cIf (cT (cBin gtI (oN 1) (oE (cC (.int 0))))) (cArgs opTup (cCons (cBin fdivD (oN 0) (oN 2)) (cCons (cBin fdivD (oN 1) (oN 2)) cNil))) (cArgs opTup (cCons (cBin subD (oE (cC (.int 0))) (oE (cBin fdivD (oN 0) (oN 2)))) (cCons (cBin subD (oE (cC (.int 0))) (oE (cBin fdivD (oN 1) (oN 2)))) cNil)))))))
def m__law_fraction : List D → Option D := runB 2 4 B__law_fraction
-- end
-- shared _law_plus
def B__law_plus : SDen :=
  (cRet (cArgs m__law_fraction (cCons (cBin addD (oE (cBin mulI (oE (cBin ixD (oN 0) (oE (cC (.int 0))))) (oE (cBin ixD (oN 1) (oE (cC (.int 1))))))) (oE (cBin mulI (oE (cBin ixD (oN 1) (oE (cC (.int 0))))) (oE (cBin ixD (oN 0) (oE (cC (.int 1)))))))) (cCons (cBin mulI (oE (cBin ixD (oN 0) (oE (cC (.int 1))))) (oE (cBin ixD (oN 1) (oE (cC (.int 1)))))) cNil))))
def m__law_plus : List D → Option D := runB 2 2 B__law_plus
-- end
-- shared all_orders
def all_orders_T1 : TDen :=
  (cT (cBin notInD (oN 5) (oN 4)))
def all_orders_E1 : Den :=
  (cBin addD (oN 4) (oE (cArgs opTup (cCons (cVar 5) cNil))))
def all_orders_L1 : SDen :=
  (cDrop (cMut isL opExtend 3 (cCons (cLc [5] (iA rg1 (cCons (cVar 0) cNil)) (gN 5) all_orders_T1 all_orders_E1) cNil)))
def all_orders_L2 : SDen :=
  (cSeq (cSetO 3 (cArgs opLst cNil))
    (cSeq (cFor (iE (cVar 1)) (gN 4) all_orders_L1)
    (cSet 1 (cVar 3))))
def B_all_orders : SDen :=
  (cSeq (cSetO 1 (cArgs opLst (cCons (cArgs opTup cNil) cNil)))
    (cSeq (cFor (iA rg1 (cCons (cVar 0) cNil)) (gN 2) all_orders_L2)
    (cRet (cVar 1))))
def m_all_orders : List D → Option D := runB 1 6 B_all_orders
-- end
-- shared _law_orders
def _law_orders_T1 : TDen :=
  (cT (cBin notInD (oN 5) (oN 4)))
def _law_orders_E1 : Den :=
  (cBin addD (oN 4) (oE (cArgs opTup (cCons (cVar 5) cNil))))
def _law_orders_L1 : SDen :=
  (cSet 3 (cBin addD (oN 3) (oE (cLc [5] (iA rg1 (cCons (cVar 0) cNil)) (gN 5) _law_orders_T1 _law_orders_E1))))
def _law_orders_L2 : SDen :=
  (cSeq (cSetO 3 (cArgs opLst cNil))
    (cSeq (cFor (iE (cVar 1)) (gN 4) _law_orders_L1)
    (cSet 1 (cVar 3))))
def B__law_orders : SDen :=
  (cSeq (cSetO 1 (cArgs opLst (cCons (cArgs opTup cNil) cNil)))
    (cSeq (cFor (iA rg1 (cCons (cVar 0) cNil)) (gN 2) _law_orders_L2)
    (cRet (cVar 1))))
def m__law_orders : List D → Option D := runB 1 6 B__law_orders
-- end
end DL

set_option maxHeartbeats 4000000
namespace DL
open PySem L2
/-! ### what the defs come to (printed by gen.py) -/
def B_is_number : SDen :=
  (cRet (cAndV (cUn (isiD "int") (oN 0)) (cUn notD (oE (cUn (isiD "bool") (oN 0))))))
def m_is_number : List D → Option D := runB 1 1 B_is_number
def is_ascending_E1 : Den :=
  (cBin ltI (oE (cBin ixD (oN 0) (oN 1))) (oE (cBin ixD (oN 0) (oE (cBin addD (oN 1) (oE (cC (.int 1))))))))
def B_is_ascending : SDen :=
  (cRet (cUn allD (oE (cLc [1] (iA rg1 (cCons (cBin subD (oE (cUn lenD (oN 0))) (oE (cC (.int 1)))) cNil)) (gN 1) cYes is_ascending_E1))))
def m_is_ascending : List D → Option D := runB 1 2 B_is_ascending
def is_number_set_E1 : Den :=
  (cArgs m_is_number (cCons (cVar 1) cNil))
def B_is_number_set : SDen :=
  (cRet (cAndV (cUn (isiD "tuple") (oN 0)) (cAndV (cUn allD (oE (cLc [1] (iE (cVar 0)) (gN 1) cYes is_number_set_E1))) (cArgs m_is_ascending (cCons (cVar 0) cNil)))))
def m_is_number_set : List D → Option D := runB 1 2 B_is_number_set
def B_set_of : SDen :=
  (cRet (cUn tupD (oE (cUn sortSetD (oN 0)))))
def m_set_of : List D → Option D := runB 1 1 B_set_of
def turned_by_T1 : TDen :=
  (cT (cBin notInD (oN 3) (oN 0)))
def turned_by_T2 : TDen :=
  (cT (cBin notInD (oN 3) (oN 1)))
def B_turned_by : SDen :=
  (cSeq (cSetO 2 (cLc [3] (iE (cVar 0)) (gN 3) turned_by_T2 (cVar 3)))
    (cRet (cArgs m_set_of (cCons (cBin addD (oN 2) (oE (cLc [3] (iE (cVar 1)) (gN 3) turned_by_T1 (cVar 3)))) cNil))))
def m_turned_by : List D → Option D := runB 2 4 B_turned_by
def after_L1 : SDen :=
  (cSet 0 (cArgs m_turned_by (cCons (cVar 0) (cCons (cBin ixD (oN 1) (oN 3)) cNil))))
def B_after : SDen :=
  (cSeq (cFor (iE (cVar 2)) (gN 3) after_L1)
    (cRet (cVar 0)))
def m_after : List D → Option D := runB 3 4 B_after
def B_bolts_of : SDen :=
  (cRet (cArgs m_set_of (cCons (cBin addD (oE (cUn lstD (oN 0))) (oE (cLc2 [2, 3] [3] (iE (cVar 1)) (gN 2) cYes (iE (cVar 2)) (gN 3) cYes (cVar 3)))) cNil)))
def m_bolts_of : List D → Option D := runB 2 4 B_bolts_of
def meets_odd_T1 : TDen :=
  (cT (cBin inD (oN 2) (oN 1)))
def B_meets_odd : SDen :=
  (cRet (cBin eqD (oE (cBin modD (oE (cUn lenD (oE (cLc [2] (iE (cVar 0)) (gN 2) meets_odd_T1 (cVar 2))))) (oE (cC (.int 2))))) (oE (cC (.int 1)))))
def m_meets_odd : List D → Option D := runB 2 3 B_meets_odd
def are_even_E1 : Den :=
  (cArgs m_meets_odd (cCons (cVar 3) (cCons (cVar 2) cNil)))
def B_are_even : SDen :=
  (cSeq (cIfS (cNot (cT (cArgs m_is_number_set (cCons (cVar 2) cNil)))) (cRet (cC (.bool false))) cNext)
    (cRet (cAndV (cArgs m_meets_odd (cCons (cVar 0) (cCons (cVar 2) cNil))) (cUn notD (oE (cUn anyD (oE (cLc [3] (iE (cVar 1)) (gN 3) cYes are_even_E1))))))))
def m_are_even : List D → Option D := runB 3 4 B_are_even
def opened_T1 : TDen :=
  (cT (cArgs m_are_even (cCons (cVar 0) (cCons (cVar 1) (cCons (cVar 4) cNil)))))
def opened_L1 : SDen :=
  (cIfS (cT (cBin eqD (oE (cArgs m_after (cCons (cVar 0) (cCons (cVar 1) (cCons (cVar 2) cNil))))) (oE (cArgs opTup cNil)))) (cRet (cArgs opTup (cCons (cC (.str "yes")) (cCons (cVar 2) cNil)))) cNext)
def B_opened : SDen :=
  (cSeq (cFor (iE (cArgs m_all_sets (cCons (cTupRg (rg1O (cUn lenD (oN 1)))) cNil))) (gN 2) opened_L1)
    (cSeq (cSetO 3 (cLc [4] (iE (cArgs m_all_sets (cCons (cArgs m_bolts_of (cCons (cVar 0) (cCons (cVar 1) cNil))) cNil))) (gN 4) opened_T1 (cVar 4)))
    (cRet (cArgs opTup (cCons (cC (.str "no")) (cCons (cBin ixD (oN 3) (oE (cC (.int 0)))) cNil))))))
def m_opened : List D → Option D := runB 2 5 B_opened
def states_from_E1 : Den :=
  (cArgs m_after (cCons (cVar 0) (cCons (cVar 1) (cCons (cVar 2) cNil))))
def B_states_from : SDen :=
  (cRet (cUn lenSetTD (oE (cLc [2] (iE (cArgs m_all_sets (cCons (cTupRg (rg1O (cUn lenD (oN 1)))) cNil))) (gN 2) cYes states_from_E1))))
def m_states_from : List D → Option D := runB 2 3 B_states_from
def spare_handles_L1 : SDen :=
  (cSeq (cSet 3 (cBin addD (oE (cSl (oN 0) pNo (pSo (oN 2)))) (oE (cSl (oN 0) (pSo (oE (cBin addD (oN 2) (oE (cC (.int 1)))))) pNo))))
    (cIfS (cT (cBin eqD (oE (cBin ixD (oE (cArgs m_opened (cCons (cBin ixD (oN 0) (oN 2)) (cCons (cVar 3) cNil)))) (oE (cC (.int 0))))) (oE (cC (.str "yes"))))) (cDrop (cMut isL opAppend 1 (cCons (cVar 2) cNil))) cNext))
def B_spare_handles : SDen :=
  (cSeq (cSetO 1 (cArgs opLst cNil))
    (cSeq (cFor (iA rg1 (cCons (cUn lenD (oN 0)) cNil)) (gN 2) spare_handles_L1)
    (cRet (cUn tupD (oN 1)))))
def m_spare_handles : List D → Option D := runB 1 4 B_spare_handles
def worst_state_L1 : SDen :=
  (cSeq (cAsg (cArgs m_opened (cCons (cVar 3) (cCons (cVar 1) cNil))) (gTp 2 (gsCons (gN 4) (gsCons (gN 5) gsNil))))
    (cIfS (cAnd (cT (cBin eqD (oN 4) (oE (cC (.str "yes"))))) (cT (cBin gtI (oE (cUn lenD (oN 5))) (oE (cBin ixD (oN 2) (oE (cC (.int 0)))))))) (cSet 2 (cArgs opTup (cCons (cUn lenD (oN 5)) (cCons (cVar 3) cNil)))) cNext))
def B_worst_state : SDen :=
  (cSeq (cSet 2 (cArgs opTup (cCons (cC (.int 0)) (cCons (cArgs opTup cNil) cNil))))
    (cSeq (cFor (iE (cArgs m_all_sets (cCons (cTupRg (rg1O (cVar 0))) cNil))) (gN 3) worst_state_L1)
    (cRet (cVar 2))))
def m_worst_state : List D → Option D := runB 2 6 B_worst_state
def B__law_is_number : SDen :=
  (cRet (cAndV (cUn (isiD "int") (oN 0)) (cUn notD (oE (cUn (isiD "bool") (oN 0))))))
def m__law_is_number : List D → Option D := runB 1 1 B__law_is_number
def B__law_is_bit : SDen :=
  (cRet (cOrV (cAndV (cVar 1) (cBin isBD (oN 0) (oE (cC (.bool true))))) (cAndV (cUn notD (oE (cVar 1))) (cBin isBD (oN 0) (oE (cC (.bool false)))))))
def m__law_is_bit : List D → Option D := runB 2 2 B__law_is_bit
def _law_turned_T1 : TDen :=
  (cT (cBin neD (oE (cBin inD (oN 2) (oN 0))) (oE (cBin inD (oN 2) (oN 1)))))
def B__law_turned : SDen :=
  (cRet (cUn tupD (oE (cLc [2] (iA rg1 (cCons (cC (.int 9)) cNil)) (gN 2) _law_turned_T1 (cVar 2)))))
def m__law_turned : List D → Option D := runB 2 3 B__law_turned
def _law_after_L1 : SDen :=
  (cSet 0 (cArgs m__law_turned (cCons (cVar 0) (cCons (cBin ixD (oN 1) (oN 3)) cNil))))
def B__law_after : SDen :=
  (cSeq (cFor (iE (cVar 2)) (gN 3) _law_after_L1)
    (cRet (cVar 0)))
def m__law_after : List D → Option D := runB 3 4 B__law_after
def _law_odd_T1 : TDen :=
  (cT (cBin inD (oN 3) (oN 1)))
def B__law_odd : SDen :=
  (cSeq (cSet 2 (cUn lenD (oE (cLc [3] (iE (cVar 0)) (gN 3) _law_odd_T1 (cVar 3)))))
    (cRet (cBin neD (oE (cBin mulI (oE (cBin fdivD (oN 2) (oE (cC (.int 2))))) (oE (cC (.int 2))))) (oN 2))))
def m__law_odd : List D → Option D := runB 2 4 B__law_odd
def _law_opened_T1 : TDen :=
  (cT (cArgs m__law_odd (cCons (cVar 6) (cCons (cVar 7) cNil))))
def _law_opened_T2 : TDen :=
  (cAnd (cT (cArgs m__law_odd (cCons (cVar 0) (cCons (cVar 7) cNil)))) (cT (cBin eqD (oE (cLc [6] (iE (cVar 1)) (gN 6) _law_opened_T1 (cVar 6))) (oE (cArgs opLst cNil)))))
def _law_opened_T3 : TDen :=
  (cT (cBin inD (oN 5) (oN 6)))
def _law_opened_T4 : TDen :=
  (cOr (cT (cBin inD (oN 5) (oN 0))) (cT (cBin neD (oE (cLc [6] (iE (cVar 1)) (gN 6) _law_opened_T3 (cVar 6))) (oE (cArgs opLst cNil)))))
def _law_opened_L1 : SDen :=
  (cIfS (cT (cBin eqD (oE (cArgs m__law_after (cCons (cVar 0) (cCons (cVar 1) (cCons (cVar 2) cNil))))) (oE (cArgs opTup cNil)))) (cRet (cArgs opTup (cCons (cC (.str "yes")) (cCons (cVar 2) cNil)))) cNext)
def B__law_opened : SDen :=
  (cSeq (cFor (iE (cArgs m__law_sets (cCons (cTupRg (rg1O (cUn lenD (oN 1)))) cNil))) (gN 2) _law_opened_L1)
    (cSeq (cSetO 3 (cLc [5] (iA rg1 (cCons (cC (.int 9)) cNil)) (gN 5) _law_opened_T4 (cVar 5)))
    (cSeq (cSetO 4 (cLc [7] (iE (cArgs m__law_sets (cCons (cUn tupD (oN 3)) cNil))) (gN 7) _law_opened_T2 (cVar 7)))
    (cRet (cArgs opTup (cCons (cC (.str "no")) (cCons (cBin ixD (oN 4) (oE (cC (.int 0)))) cNil)))))))
def m__law_opened : List D → Option D := runB 2 8 B__law_opened
def law_T1 : TDen :=
  (cT (cArgs m__law_odd (cCons (cVar 6) (cCons (cVar 15) cNil))))
def law_T2 : TDen :=
  (cOr (cNot (cT (cArgs m__law_is_number (cCons (cVar 17) cNil)))) (cT (cBin ltI (oN 17) (oE (cC (.int 0))))))
def law_L1 : SDen :=
  (cSeq (cSet 16 (cAndV (cUn (isiD "tuple") (oN 15)) (cBin eqD (oE (cLc [17] (iE (cVar 15)) (gN 17) law_T2 (cVar 17))) (oE (cArgs opLst cNil)))))
    (cSeq (cSet 16 (cAndV (cVar 16) (cAndV (cBin eqD (oE (cUn lstD (oN 15))) (oE (cUn sortSetD (oN 15)))) (cAndV (cArgs m__law_odd (cCons (cVar 5) (cCons (cVar 15) cNil))) (cBin eqD (oE (cLc [6] (iE (cVar 4)) (gN 6) law_T1 (cVar 6))) (oE (cArgs opLst cNil)))))))
    (cIfS (cNot (cT (cArgs m__law_is_bit (cCons (cArgs m_are_even (cCons (cVar 5) (cCons (cVar 4) (cCons (cVar 15) cNil)))) (cCons (cVar 16) cNil))))) (cRet (cC (.bool false))) cNext)))
def law_R1 : SDen :=
  (cSeq (cSet 12 (cIf (cT (cBin eqD (oE (cBin ixD (oN 8) (oE (cC (.int 0))))) (oE (cC (.str "no"))))) (cBin ixD (oN 8) (oE (cC (.int 1)))) (cVar 5)))
    (cFor (iE (cArgs opTup (cCons (cVar 12) (cCons (cUn revD (oN 12)) (cCons (cUn lstD (oN 12)) (cCons (cC .none) (cCons (cArgs opTup cNil) (cCons (cSl (oN 12) (pSo (oE (cC (.int 1)))) pNo) (cCons (cBin addD (oN 12) (oE (cArgs opTup (cCons (cC (.int 3)) cNil)))) (cCons (cBin addD (oN 12) (oE (cSl (oN 12) (pSo (oE (cUn negD (oE (cC (.int 1)))))) pNo))) (cCons (cArgs opTup (cCons (cC (.bool true)) cNil)) (cCons (cArgs opTup (cCons (cUn negD (oE (cC (.int 1)))) cNil)) (cCons (cArgs opTup (cCons (cC (.int 0)) (cCons (cC (.int 1)) cNil))) (cCons (cArgs opTup (cCons (cC (.str "a")) cNil)) (cCons (cTupRg (rg1O (cVar 3))) (cCons (cArgs opTup (cCons (cC (.int 0)) (cCons (cC .none) cNil))) cNil)))))))))))))))) (gN 15) law_L1))
def law_L2 : SDen :=
  (cSeq (cAsg (cArgs m__law_opened (cCons (cVar 12) (cCons (cVar 4) cNil))) (gTp 2 (gsCons (gN 13) (gsCons (gN 14) gsNil))))
    (cSet 11 (cIf (cAnd (cT (cBin eqD (oN 13) (oE (cC (.str "yes"))))) (cT (cBin gtI (oE (cUn lenD (oN 14))) (oE (cBin ixD (oN 11) (oE (cC (.int 0)))))))) (cArgs opTup (cCons (cUn lenD (oN 14)) (cCons (cVar 12) cNil))) (cVar 11))))
def law_R2 : SDen :=
  (cSeq (cIfS (cT (cBin neD (oE (cArgs m_worst_state (cCons (cVar 3) (cCons (cVar 4) cNil)))) (oN 11))) (cRet (cC (.bool false))) cNext)
    law_R1)
def law_R3 : SDen :=
  (cSeq (cFor (iE (cArgs m__law_sets (cCons (cTupRg (rg1O (cVar 3))) cNil))) (gN 12) law_L2)
    law_R2)
def law_R4 : SDen :=
  (cSeq (cSet 11 (cArgs opTup (cCons (cC (.int 0)) (cCons (cArgs opTup cNil) cNil))))
    law_R3)
def law_T3 : TDen :=
  (cT (cBin eqD (oE (cBin ixD (oE (cArgs m__law_opened (cCons (cBin ixD (oN 4) (oN 18)) (cCons (cBin addD (oE (cSl (oN 4) pNo (pSo (oN 18)))) (oE (cSl (oN 4) (pSo (oE (cBin addD (oN 18) (oE (cC (.int 1)))))) pNo))) cNil)))) (oE (cC (.int 0))))) (oE (cC (.str "yes")))))
def law_R5 : SDen :=
  (cSeq (cIfS (cT (cBin neD (oE (cArgs m_spare_handles (cCons (cVar 4) cNil))) (oE (cUn tupD (oN 10))))) (cRet (cC (.bool false))) cNext)
    law_R4)
def law_E1 : Den :=
  (cArgs m__law_after (cCons (cVar 5) (cCons (cVar 4) (cCons (cVar 20) cNil))))
def law_R6 : SDen :=
  (cSeq (cSetO 10 (cLc [18] (iA rg1 (cCons (cUn lenD (oN 4)) cNil)) (gN 18) law_T3 (cVar 18)))
    law_R5)
def law_R7 : SDen :=
  (cSeq (cIfS (cOr (cT (cBin neD (oN 8) (oE (cArgs m__law_opened (cCons (cVar 5) (cCons (cVar 4) cNil)))))) (cT (cBin neD (oE (cArgs m_states_from (cCons (cVar 5) (cCons (cVar 4) cNil)))) (oE (cUn lenSetTD (oE (cLc [20] (iE (cVar 9)) (gN 20) cYes law_E1))))))) (cRet (cC (.bool false))) cNext)
    law_R6)
def law_R8 : SDen :=
  (cSeq (cPar 8 9 (cCons (cArgs m_opened (cCons (cVar 5) (cCons (cVar 4) cNil))) (cCons (cArgs m__law_sets (cCons (cTupRg (rg1O (cUn lenD (oN 4)))) cNil)) cNil)))
    law_R7)
def law_E2 : Den :=
  (cCallIO m__law_next 1 (cCons (cUn lenD (oN 4)) cNil))
def law_R9 : SDen :=
  (cSeq (cIfS (cT (cBin neD (oE (cArgs m_after (cCons (cVar 5) (cCons (cVar 4) (cCons (cVar 7) cNil))))) (oE (cArgs m__law_after (cCons (cVar 5) (cCons (cVar 4) (cCons (cVar 7) cNil))))))) (cRet (cC (.bool false))) cNext)
    law_R8)
def law_L3 : SDen :=
  (cIfS (cT (cBin neD (oE (cArgs m_turned_by (cCons (cVar 5) (cCons (cVar 6) cNil)))) (oE (cArgs m__law_turned (cCons (cVar 5) (cCons (cVar 6) cNil)))))) (cRet (cC (.bool false))) cNext)
def law_R10 : SDen :=
  (cSeq (cSet 7 (cIf (cT (cBin neD (oN 4) (oE (cArgs opTup cNil)))) (cUn tupD (oE (cLc [18] (iA rg1 (cCons (cCallIO m__law_next 1 (cCons (cC (.int 5)) cNil)) cNil)) (gN 18) cYes law_E2))) (cArgs opTup cNil)))
    law_R9)
def law_T4 : TDen :=
  (cT (cBin eqD (oE (cCallIO m__law_next 1 (cCons (cC (.int 2)) cNil))) (oE (cC (.int 0)))))
def law_R11 : SDen :=
  (cSeq (cFor (iE (cVar 4)) (gN 6) law_L3)
    law_R10)
def law_T5 : TDen :=
  (cT (cBin eqD (oE (cCallIO m__law_next 1 (cCons (cC (.int 2)) cNil))) (oE (cC (.int 0)))))
def law_E3 : Den :=
  (cUn tupD (oE (cLc [19] (iA rg1 (cCons (cVar 3) cNil)) (gN 19) law_T5 (cVar 19))))
def law_R12 : SDen :=
  (cSeq (cSet 5 (cUn tupD (oE (cLc [19] (iA rg1 (cCons (cVar 3) cNil)) (gN 19) law_T4 (cVar 19)))))
    law_R11)
def law_R13 : SDen :=
  (cSeq (cSet 4 (cUn tupD (oE (cLc [18] (iA rg1 (cCons (cCallIO m__law_next 1 (cCons (cC (.int 5)) cNil)) cNil)) (gN 18) cYes law_E3))))
    law_R12)
def law_L4 : SDen :=
  (cSeq (cSet 3 (cBin addD (oE (cC (.int 1))) (oE (cCallIO m__law_next 1 (cCons (cC (.int 4)) cNil)))))
    law_R13)
def B_law : SDen :=
  (cSeq (cSetO 1 (cDisp (kCons (cC (.str "draws")) (cArgs m__law_draws (cCons (cVar 0) (cCons (cC (.int 300)) cNil))) (kCons (cC (.str "at")) (cC (.int 0)) kNil))))
    (cSeq (cFor (iA rg1 (cCons (cC (.int 4)) cNil)) (gN 2) law_L4)
    (cRet (cC (.bool true)))))
def m_law : List D → Option D := runB 1 21 B_law
end DL

set_option maxHeartbeats 1000000
/-! DCM: what several laws need of numbers, lists, the law's own draws. -/
namespace DL
open PySem L2
theorem whileN_t {c : TDen} {b : SDen} {n : Nat} {ρ ρ1 ρ2 : Env} (h : c ρ = some (true, ρ1)) (h2 : b ρ1 = some (.nx ρ2)) : whileN c b (n + 1) ρ = whileN c b n ρ2 := by
  rw [whileN, h]
  show (b ρ1).bind _ = _
  rw [h2]
  rfl
theorem whileN_f {c : TDen} {b : SDen} {n : Nat} {ρ ρ1 : Env} (h : c ρ = some (false, ρ1)) : whileN c b (n + 1) ρ = some (.nx ρ1) := by
  rw [whileN, h]
  rfl
theorem forB_nx {g : GDen} {b : SDen} {d : D} {ds : List D} {ρ ρ' : Env} (h : (g d ρ).bind b = some (.nx ρ')) : forB g b (d :: ds) ρ = forB g b ds ρ' := by
  have key : forB g b (d :: ds) ρ = ((g d ρ).bind b).bind (fwdK g b ds) := by
    rw [forB_cons, Option.bind_assoc]
    rfl
  rw [key, h]
  rfl
theorem forB_rt {g : GDen} {b : SDen} {d v : D} {ds : List D} {ρ ρ' : Env} (h : (g d ρ).bind b = some (.rt v ρ')) : forB g b (d :: ds) ρ = some (.rt v ρ') := by
  have key : forB g b (d :: ds) ρ = ((g d ρ).bind b).bind (fwdK g b ds) := by
    rw [forB_cons, Option.bind_assoc]
    rfl
  rw [key, h]
  rfl
theorem seq_nx {f g : SDen} {ρ ρ' : Env} (h : f ρ = some (.nx ρ')) : cSeq f g ρ = g ρ' := by
  rw [cSeq_ap, h]
  rfl
/-- a block that changes the names at its first turn alone -/
theorem lcB_conv {α : Type} {own : List Nat} {g : GDen} {t : TDen} {e : Den} {ρ1 ρ2 : Env} (enc : α → D) (c : α → Bool) (out : α → D) (l : List α) (hl : l ≠ []) (h1 : ∀ a ∈ l, lcOne own g t e (enc a) ρ1 = some (if c a = true then some (out a) else none, ρ2)) (h2 : ∀ a ∈ l, lcOne own g t e (enc a) ρ2 = some (if c a = true then some (out a) else none, ρ2)) :
    lcB own g t e (l.map enc) ρ1 = some ((l.filter c).map out, ρ2) := by
  cases l with
  | nil => exact absurd rfl hl
  | cons a l =>
    rw [List.map_cons, lcB_step, h1 a List.mem_cons_self]
    have ih := lcB_same enc c out l fun b hb => h2 b (List.mem_cons_of_mem _ hb)
    simp only [Option.bind_some, ih]
    cases q : c a <;> simp [q, consO]
/-- a block that goes on drawing -/
theorem lcB_go {own : List Nat} {g : GDen} {t : TDen} {e : Den} (env : Nat → Env) (out : Nat → D) : ∀ (ds : List D) (a : Nat), (∀ (i : Nat) (d : D), lcOne own g t e d (env i) = some (some (out i), env (i + 1))) → lcB own g t e ds (env a) = some ((List.range ds.length).map fun i => out (a + i), env (a + ds.length))
  | [], a, _ => rfl
  | d :: ds, a, h => by
    rw [lcB_step, h a d]
    have ih := lcB_go env out ds (a + 1) h
    simp only [Option.bind_some, ih]
    rw [List.length_cons, List.range_succ_eq_map, List.map_cons, List.map_map]
    simp only [consO, Nat.add_zero]
    congr 2
    · congr 1
      refine List.map_congr_left fun i _ => ?_
      show out (a + 1 + i) = out (a + (i + 1))
      congr 1
      omega
    · congr 1
      omega
/-! ### places -/
@[simp] theorem atI_0 {α : Type} (x : α) (xs : List α) : atI (x :: xs) 0 = some x := atI_nat (j := 0) rfl
@[simp] theorem atI_1 {α : Type} (x y : α) (xs : List α) : atI (x :: y :: xs) 1 = some y := atI_nat (j := 1) rfl
@[simp] theorem atI_2 {α : Type} (x y z : α) (xs : List α) : atI (x :: y :: z :: xs) 2 = some z := atI_nat (j := 2) rfl
@[simp] theorem atI_3 {α : Type} (x y z w : α) (xs : List α) : atI (x :: y :: z :: w :: xs) 3 = some w := atI_nat (j := 3) rfl
@[simp] theorem atI_cast {α : Type} (xs : List α) (j : Nat) : atI xs (j : Int) = xs[j]? := by
  cases h : xs[j]? with
  | some v => exact atI_nat h
  | none =>
    unfold atI ixN
    have := List.getElem?_eq_none_iff.mp h
    rw [if_pos (by omega), if_neg (by omega)]
    rfl
@[simp] theorem atI_m1 {α : Type} (xs : List α) : atI xs (-1) = xs.getLast? := by
  unfold atI ixN
  cases xs with
  | nil => rfl
  | cons x xs =>
    rw [if_neg (by omega), if_pos (by rw [List.length_cons]; omega)]
    rw [List.getLast?_eq_getElem?]
    show (x :: xs)[((-1 : Int) + ((x :: xs).length : Int)).toNat]? = _
    congr 1
    omega
@[simp] theorem rngD_get? (lo : Int) (n j : Nat) : (rngD lo n)[j]? = if j < n then some (.int (lo + j)) else none := by
  unfold rngD
  rw [List.getElem?_map]
  by_cases h : j < n
  · rw [List.getElem?_range h, if_pos h]
    rfl
  · rw [List.getElem?_eq_none (by simpa using Nat.le_of_not_lt h), if_neg h]
    rfl
/-! ### guards -/
theorem mulC_l {i j : Int} (h : -18446744073709551616 < i) (h' : i < 18446744073709551616) : mulC i j = true := by
  unfold mulC
  simp only [Bool.or_eq_true, Bool.and_eq_true, decide_eq_true_eq]
  exact .inl ⟨by omega, by omega⟩
theorem mulC_r {i j : Int} (h : -18446744073709551616 < j) (h' : j < 18446744073709551616) : mulC i j = true := by
  unfold mulC
  simp only [Bool.or_eq_true, Bool.and_eq_true, decide_eq_true_eq]
  exact .inr ⟨by omega, by omega⟩
theorem divC_of {i j : Int} (h : 0 < j) (h' : j < 1073741824) : divC i j = true := by
  unfold divC
  simp only [Bool.and_eq_true, decide_eq_true_eq]
  exact ⟨by omega, by omega⟩
theorem modC_of {i j : Int} (h : j ≠ 0) : modC i j = true := by
  unfold modC
  simp -implicitDefEqProofs [h]
theorem bdI_of {i : Int} (h : -4611686018427387904 ≤ i) (h' : i < 4611686018427387904) : bdI i = true := by
  unfold bdI
  simp only [Bool.and_eq_true, decide_eq_true_eq]
  exact ⟨by omega, by omega⟩
theorem sizeL (n : Nat) (h : n < 16777216) : n < sizeLine := by rw [sizeLine_eq]; exact h
theorem sizeLe (n : Nat) (h : n ≤ 16777216) : n ≤ sizeLine := by rw [sizeLine_eq]; exact h
/-! ### the law's own draws -/
def encW (ds : List Int) (a : Nat) : D := .dict [(.str "draws", .list (ds.map .int)), (.str "at", .int a)]
theorem k_da : keyB (.str "draws") (.str "at") = false := by decide +kernel
theorem k_ad : keyB (.str "at") (.str "draws") = false := by decide +kernel
theorem k_aa : keyB (.str "at") (.str "at") = true := by decide +kernel
theorem k_dd : keyB (.str "draws") (.str "draws") = true := by decide +kernel
def nxt (ds : List Int) (a : Nat) (n : Int) : Int := if ds.length < a + 1 then 0 else (ds[a]?.getD 0).fmod n
theorem dg_at (x y : D) : dget [(.str "draws", x), (.str "at", y)] (.str "at") = some y := by
  unfold dget
  rw [List.find?_cons, k_da, List.find?_cons, k_aa]
  rfl
theorem dg_dr (x y : D) : dget [(.str "draws", x), (.str "at", y)] (.str "draws") = some x := by
  unfold dget
  rw [List.find?_cons, k_dd]
  rfl
theorem dp_at (x y z : D) : dput [(.str "draws", x), (.str "at", y)] (.str "at") z = [(.str "draws", x), (.str "at", z)] := by
  unfold dput
  simp -implicitDefEqProofs [k_da, k_aa]
theorem fk_w (x y : D) (k : Str) : fitK [(.str "draws", x), (.str "at", y)] (.str k) = true := rfl
theorem aug_at (ds : List Int) (a : Nat) (ρ : Env) : cAugIx 0 (oE (cC (.str "at"))) (fun i j => i + j) (cC (.int 1)) (.io (encW ds a) :: ρ) = some (.nx (.io (encW ds (a + 1)) :: ρ)) := by
  have hs : 2 < sizeLine := sizeL 2 (by omega)
  simp -implicitDefEqProofs [cAugIx, encW, fk_w, dg_at, dp_at, hs]
theorem next_eq (ds : List Int) (a : Nat) (n : Int) (hn : n ≠ 0) : m__law_next (encW ds a) [.int n] = some (.int (nxt ds a n), encW ds (a + 1)) := by
  unfold m__law_next B__law_next
  simp only [runIO_ap, envIO_ap, List.length_cons, List.length_nil, cSeq_ap, List.map_cons, List.map_nil, List.nil_append, List.cons_append, aug_at, Option.bind_some, seqK_nx, if_true]
  unfold nxt
  by_cases h : ds.length < a + 1
  · have h' : (ds.length : Int) < (a : Int) + 1 := by omega
    simp -implicitDefEqProofs [encW, fk_w, dg_at, dg_dr, h, h']
  · have e : ds[a]? = some ds[a] := List.getElem?_eq_getElem (by omega)
    have h' : ¬ (ds.length : Int) < (a : Int) + 1 := by omega
    simp -implicitDefEqProofs [encW, fk_w, dg_at, dg_dr, h, h', e, modC_of hn]
theorem nxt_lo (ds : List Int) (a : Nat) (n : Int) (hn : 0 < n) : 0 ≤ nxt ds a n := by
  unfold nxt
  split
  · omega
  · exact Int.fmod_nonneg_of_pos _ hn
theorem nxt_hi (ds : List Int) (a : Nat) (n : Int) (hn : 0 < n) : nxt ds a n < n := by
  unfold nxt
  split
  · omega
  · exact Int.fmod_lt_of_pos _ hn

def NI (s : Sl) : Prop := isIo (some s) = false
theorem ni_sh {d : D} : NI (.sh d) := rfl
theorem ni_un : NI .un := rfl
theorem ni_ow {d : D} : NI (.ow d) := rfl
theorem dr1 (sc mn s4 s5 : D) (l : List Int) (mx r : Int) (s7 : Sl) (h7 : NI s7) (hl : l.length ≤ 1000000) : ∃ (l' : List Int) (r' : Int) (s7' : Sl), NI s7' ∧ l'.length ≤ l.length + 60 ∧
    forB (gN 7) _law_draws_L2 (rngD 0 60) [.sh sc, .sh mn, .ow (.list (l.map .int)), .sh (.int mx), .sh s4, .sh s5, .sh (.int r), s7] = some (.nx [.sh sc, .sh mn, .ow (.list (l'.map .int)), .sh (.int mx), .sh s4, .sh s5, .sh (.int r'), s7']) := by
  have H := forB_inv (g := gN 7) (b := _law_draws_L2) (fun i ρ => ∃ (l' : List Int) (r' : Int) (s7' : Sl), NI s7' ∧ l'.length ≤ l.length + i ∧ ρ = [.sh sc, .sh mn, .ow (.list (l'.map .int)), .sh (.int mx), .sh s4, .sh s5, .sh (.int r'), s7']) (rngD 0 60) 0 _ ⟨l, r, s7, h7, Nat.le_refl _, rfl⟩ (by
    rintro j d ρ hj ⟨l', r', s7', h7', hl', rfl⟩
    rw [rngD_get?] at hj
    split at hj
    · rename_i hj60
      cases hj
      have hs : l'.length < sizeLine := sizeL _ (by omega)
      unfold NI at h7'
      by_cases hr : 0 < r'
      · refine ⟨_, .inl (by simp -implicitDefEqProofs [_law_draws_L2, h7', hr, hs, modC_of, divC_of]; rfl), l' ++ [r'.fmod 997], r'.fdiv 997, .sh (.int (0 + j)), rfl, ?_, by simp⟩
        simp
        omega
      · refine ⟨_, .inl (by simp -implicitDefEqProofs [_law_draws_L2, h7', hr]; rfl), l', r', .sh (.int (0 + j)), rfl, by omega, by simp⟩
    · cases hj)
  obtain ⟨ρ, e, l', r', s7', h7', hl', rfl⟩ := H
  exact ⟨l', r', s7', h7', by simpa [rngD] using hl', e⟩
theorem dr3a (ns : List Int) (mn : D) (j : Nat) (hjn : j < ns.length) (l : List Int) (mx cell mx' r' : Int) (l' : List Int) (s4 s5 s6 s7 s7' : Sl) (h4 : isIo (some s4) = false) (h5 : isIo (some s5) = false) (h6 : isIo (some s6) = false)
    (e : (ns.map PyData.int)[j]? = some (.int ns[j])) (hc : (if ns[j] < 0 then -ns[j] else ns[j]) = cell) (hx : (mx * 48271 + cell.fmod 1000003 + (j : Int)).fmod 65537 = mx') (g1 : mulC mx 48271 = true) (g3 : powC 10 18 = true) (g4 : bdI 60 = true) (hb : 1000000000000000000 ≤ cell)
    (ke : forB (gN 7) _law_draws_L2 (rngD 0 60) [.sh (.list (ns.map .int)), .sh mn, .ow (.list (l.map .int)), .sh (.int mx'), .sh (.int j), .sh (.int cell), .sh (.int cell), s7] = some (.nx [.sh (.list (ns.map .int)), .sh mn, .ow (.list (l'.map .int)), .sh (.int mx'), .sh (.int j), .sh (.int cell), .sh (.int r'), s7'])) :
    (gN 4 (.int (0 + j)) [.sh (.list (ns.map .int)), .sh mn, .ow (.list (l.map .int)), .sh (.int mx), s4, s5, s6, s7]).bind _law_draws_L3 = some (.nx [.sh (.list (ns.map .int)), .sh mn, .ow (.list (l'.map .int)), .sh (.int mx'), .sh (.int j), .sh (.int cell), .sh (.int r'), s7']) := by
  simp -implicitDefEqProofs [_law_draws_L3, h4, h5, h6, e, hc, hx, g1, g3, g4, modC_of, hb, ke]
theorem dr3b (ns : List Int) (mn : D) (j : Nat) (hjn : j < ns.length) (l : List Int) (mx cell mx' r' : Int) (l' : List Int) (s4 s5 s6 s7 s7' : Sl) (h4 : isIo (some s4) = false) (h5 : isIo (some s5) = false) (h6 : isIo (some s6) = false)
    (e : (ns.map PyData.int)[j]? = some (.int ns[j])) (hc : (if ns[j] < 0 then -ns[j] else ns[j]) = cell) (hx : (mx * 48271 + cell.fmod 1000003 + (j : Int)).fmod 65537 = mx') (g1 : mulC mx 48271 = true) (g2 : mulC mx' 69621 = true) (hs : l.length < sizeLine) (hs2 : l.length + 1 < sizeLine) (g3 : powC 10 18 = true) (g4 : bdI 60 = true) (hb : ¬ 1000000000000000000 ≤ cell)
    (ke : forB (gN 7) _law_draws_L2 (rngD 0 60) [.sh (.list (ns.map .int)), .sh mn, .ow (.list (l.map .int ++ [.int (cell.fmod 997), .int (((mx' * 69621 + 5).fmod 65521).fmod 997)])), .sh (.int mx'), .sh (.int j), .sh (.int cell), .sh (.int 0), s7] = some (.nx [.sh (.list (ns.map .int)), .sh mn, .ow (.list (l'.map .int)), .sh (.int mx'), .sh (.int j), .sh (.int cell), .sh (.int r'), s7'])) :
    (gN 4 (.int (0 + j)) [.sh (.list (ns.map .int)), .sh mn, .ow (.list (l.map .int)), .sh (.int mx), s4, s5, s6, s7]).bind _law_draws_L3 = some (.nx [.sh (.list (ns.map .int)), .sh mn, .ow (.list (l'.map .int)), .sh (.int mx'), .sh (.int j), .sh (.int cell), .sh (.int r'), s7']) := by
  simp -implicitDefEqProofs [_law_draws_L3, h4, h5, h6, e, hc, hx, g1, g2, g3, g4, modC_of, hb, hs, hs2, ke]
theorem draws_ok (ns : List Int) (hn : ns.length ≤ 63) (mn : Nat) (hm : mn ≤ 10000) : ∃ ds : List Int, m__law_draws [.list (ns.map .int), .int mn] = some (.list (ds.map .int)) := by
  have H := forB_inv (g := gN 4) (b := _law_draws_L3) (fun i ρ => ∃ (l : List Int) (mx : Int) (s4 s5 s6 s7 : Sl), NI s4 ∧ NI s5 ∧ NI s6 ∧ NI s7 ∧ l.length ≤ 62 * i ∧ 0 ≤ mx ∧ mx < 65537 ∧ ρ = [.sh (.list (ns.map .int)), .sh (.int mn), .ow (.list (l.map .int)), .sh (.int mx), s4, s5, s6, s7]) (rngD 0 ns.length) 0 _ ⟨[], 7, .un, .un, .un, .un, rfl, rfl, rfl, rfl, Nat.zero_le _, by omega, by omega, rfl⟩ (by
    rintro j d ρ hj ⟨l, mx, s4, s5, s6, s7, h4, h5, h6, h7, hl, m0, m1, rfl⟩
    rw [rngD_get?] at hj
    split at hj
    · rename_i hjn
      cases hj
      unfold NI at h4 h5 h6 h7
      have e : (ns.map PyData.int)[j]? = some (.int ns[j]) := by rw [List.getElem?_map, List.getElem?_eq_getElem hjn]; rfl
      have hs : l.length < sizeLine := sizeL _ (by omega)
      have hs2 : l.length + 1 < sizeLine := sizeL _ (by omega)
      generalize hc : (if ns[j] < 0 then -ns[j] else ns[j]) = cell
      generalize hx : (mx * 48271 + cell.fmod 1000003 + (j : Int)).fmod 65537 = mx'
      have x0 : 0 ≤ mx' := by rw [← hx]; exact Int.fmod_nonneg_of_pos _ (by omega)
      have x1 : mx' < 65537 := by rw [← hx]; exact Int.fmod_lt_of_pos _ (by omega)
      have g1 : mulC mx 48271 = true := mulC_l (by omega) (by omega)
      have g2 : mulC mx' 69621 = true := mulC_l (by omega) (by omega)
      have g3 : powC 10 18 = true := by decide +kernel
      have g4 : bdI 60 = true := by decide +kernel
      by_cases hb : 1000000000000000000 ≤ cell
      · obtain ⟨l', r', s7', k7, kl, ke⟩ := dr1 (.list (ns.map .int)) (.int mn) (.int j) (.int cell) l mx' cell s7 h7 (by omega)
        refine ⟨_, .inl (dr3a ns _ j hjn l mx cell mx' r' l' s4 s5 s6 s7 s7' h4 h5 h6 e hc hx g1 g3 g4 hb ke), l', mx', .sh (.int j), .sh (.int cell), .sh (.int r'), s7', rfl, rfl, rfl, k7, by omega, x0, x1, rfl⟩
      · obtain ⟨l', r', s7', k7, kl, ke⟩ := dr1 (.list (ns.map .int)) (.int mn) (.int j) (.int cell) (l ++ [cell.fmod 997] ++ [((mx' * 69621 + 5).fmod 65521).fmod 997]) mx' 0 s7 h7 (by simp; omega)
        simp at ke kl
        refine ⟨_, .inl (dr3b ns _ j hjn l mx cell mx' r' l' s4 s5 s6 s7 s7' h4 h5 h6 e hc hx g1 g2 hs hs2 g3 g4 hb ke), l', mx', .sh (.int j), .sh (.int cell), .sh (.int r'), s7', rfl, rfl, rfl, k7, by omega, x0, x1, rfl⟩
    · cases hj)
  obtain ⟨ρ, e, l, mx, s4, s5, s6, s7, h4, h5, h6, h7, hl, m0, m1, rfl⟩ := H
  have H2 := forB_inv (g := gN 4) (b := _law_draws_L1) (fun i ρ => ∃ (l' : List Int) (mx : Int) (s4 : Sl), NI s4 ∧ l'.length ≤ l.length + i ∧ 0 ≤ mx ∧ mx < 65537 ∧ ρ = [.sh (.list (ns.map .int)), .sh (.int mn), .ow (.list (l'.map .int)), .sh (.int mx), s4, s5, s6, s7]) (rngD 0 mn) 0 _ ⟨l, mx, s4, h4, by omega, m0, m1, rfl⟩ (by
    rintro j d ρ hj ⟨l', mx, s4, h4, hl', m0, m1, rfl⟩
    rw [rngD_get?] at hj
    split at hj
    · rename_i hjn
      cases hj
      unfold NI at h4
      rw [rngD_len] at hl
      have hs : l'.length < sizeLine := sizeL _ (by omega)
      generalize hx : (mx * 16807 + (j : Int) + 1).fmod 65537 = mx'
      have x0 : 0 ≤ mx' := by rw [← hx]; exact Int.fmod_nonneg_of_pos _ (by omega)
      have x1 : mx' < 65537 := by rw [← hx]; exact Int.fmod_lt_of_pos _ (by omega)
      have g1 : mulC mx 16807 = true := mulC_l (by omega) (by omega)
      refine ⟨_, .inl (by simp -implicitDefEqProofs [_law_draws_L1, h4, hx, g1, modC_of, hs]; rfl), l' ++ [mx'.fmod 997], mx', .sh (.int (0 + j)), rfl, by simp; omega, x0, x1, by simp⟩
    · cases hj)
  rw [List.map_nil] at e
  obtain ⟨ρ, e2, l2, mx2, s42, h42, hl2, m02, m12, rfl⟩ := H2
  have b1 : bdI (ns.length : Int) = true := bdI_of (by omega) (by omega)
  have b2 : bdI (mn : Int) = true := bdI_of (by omega) (by omega)
  refine ⟨cutD l2 none (some (mn : Int)), ?_⟩
  simp -implicitDefEqProofs [m__law_draws, B__law_draws, opLst, b1, b2, e, e2]
theorem pick_eq (ds : List Int) (a : Nat) (rows : List D) (h : 0 < rows.length) : ∃ r ∈ rows, m__law_pick (encW ds a) [.list rows] = some (r, encW ds (a + 1)) := by
  have h0 := nxt_lo ds a (rows.length : Int) (by omega)
  have h1 := nxt_hi ds a (rows.length : Int) (by omega)
  have e := next_eq ds a (rows.length : Int) (by omega)
  obtain ⟨i, hi⟩ := Int.eq_ofNat_of_zero_le h0
  rw [hi] at e h1
  have hlt : i < rows.length := by omega
  refine ⟨rows[i], List.getElem_mem hlt, ?_⟩
  have eg : rows[i]? = some rows[i] := List.getElem?_eq_getElem hlt
  simp -implicitDefEqProofs [m__law_pick, B__law_pick, e, eg]
end DL

set_option maxHeartbeats 1000000
/-! DCE: when data are equal. -/
namespace DL
open PySem L2
/-! ### equality of data -/
theorem eqv_refl : ∀ d : D, d.canLay0 = true → PyData.eqv d d = true := by
  intro d
  apply PyData.rec (motive_1 := fun d => d.canLay0 = true → PyData.eqv d d = true) (motive_2 := fun ds => PyData.canLayAll0 ds = true → PyData.eqvAll ds ds = true) (motive_3 := fun _ => True) (motive_4 := fun _ => True)
  · intro _; rfl
  · intro b _; cases b <;> rfl
  · intro i _; simp [PyData.eqv]
  · intro s _; simp [PyData.eqv]
  · intro xs ih h; rw [PyData.eqv]; exact ih (by simpa only [PyData.canLay0] using h)
  · intro xs ih h; rw [PyData.eqv]; exact ih (by simpa only [PyData.canLay0] using h)
  · intro es _ h; simp [PyData.canLay0] at h
  · intro _; rfl
  · intro x xs ih1 ih2 h
    rw [PyData.canLayAll0, Bool.and_eq_true] at h
    rw [PyData.eqvAll, ih1 h.1, ih2 h.2]
    rfl
  · trivial
  · intros; trivial
  · intros; trivial
theorem eqD_same {d : D} (h : SeqAt.shaped d = true) : eqD d d = some (.bool true) := by
  unfold eqD
  rw [h, eqv_refl d (shaped_lay h)]
  rfl
theorem neD_same {d : D} (h : SeqAt.shaped d = true) : neD d d = some (.bool false) := by
  unfold neD
  rw [h, eqv_refl d (shaped_lay h)]
  rfl
theorem lay_all {α : Type} (f : α → D) (h : ∀ a, (f a).canLay0 = true) : ∀ l : List α, PyData.canLayAll0 (l.map f) = true
  | [] => rfl
  | a :: l => by rw [List.map_cons, PyData.canLayAll0, h a, lay_all f h l]; rfl
theorem dep_all {α : Type} (f : α → D) (n : Nat) (h : ∀ a, (f a).depth ≤ n) : ∀ l : List α, PyData.depthAll (l.map f) ≤ n
  | [] => Nat.zero_le _
  | a :: l => by
    rw [List.map_cons, PyData.depthAll]
    exact Nat.max_le.mpr ⟨h a, dep_all f n h l⟩
/-- a way to write things as data, that tells them apart -/
structure En (α : Type) [DecidableEq α] where
  f : α → D
  n : Nat
  lay : ∀ a, (f a).canLay0 = true
  dep : ∀ a, (f a).depth ≤ n
  eqv : ∀ a b, PyData.eqv (f a) (f b) = decide (a = b)
section
variable {α β : Type} [DecidableEq α] [DecidableEq β]
theorem En.eqvAll (E : En α) : ∀ l m : List α, PyData.eqvAll (l.map E.f) (m.map E.f) = decide (l = m)
  | [], [] => by simp [PyData.eqvAll]
  | [], _ :: _ => by simp [PyData.eqvAll]
  | _ :: _, [] => by simp [PyData.eqvAll]
  | a :: l, b :: m => by
    rw [List.map_cons, List.map_cons, PyData.eqvAll, E.eqv, En.eqvAll E l m]
    by_cases h1 : a = b <;> by_cases h2 : l = m <;> simp [h1, h2]
def eI : En Int := ⟨.int, 0, fun _ => rfl, fun _ => Nat.le_refl _, fun a b => by simp only [PyData.eqv]; rfl⟩
def eB : En Bool := ⟨.bool, 0, fun _ => rfl, fun _ => Nat.le_refl _, fun a b => by simp only [PyData.eqv]; rfl⟩
def eT (E : En α) : En (List α) := ⟨fun l => .tuple (l.map E.f), E.n + 1, fun l => by rw [PyData.canLay0]; exact lay_all _ E.lay l, fun l => by rw [PyData.depth]; exact Nat.succ_le_succ (dep_all _ _ E.dep l), fun l m => by rw [PyData.eqv]; exact E.eqvAll l m⟩
def eL (E : En α) : En (List α) := ⟨fun l => .list (l.map E.f), E.n + 1, fun l => by rw [PyData.canLay0]; exact lay_all _ E.lay l, fun l => by rw [PyData.depth]; exact Nat.succ_le_succ (dep_all _ _ E.dep l), fun l m => by rw [PyData.eqv]; exact E.eqvAll l m⟩
def eP (E : En α) (G : En β) : En (α × β) := ⟨fun p => .tuple [E.f p.1, G.f p.2], max E.n G.n + 1, fun p => by simp [PyData.canLay0, PyData.canLayAll0, E.lay, G.lay], fun p => by
    simp only [PyData.depth, PyData.depthAll]
    have h1 := E.dep p.1
    have h2 := G.dep p.2
    omega, fun p q => by
    simp only [PyData.eqv, PyData.eqvAll, E.eqv, G.eqv]
    obtain ⟨a, b⟩ := p
    obtain ⟨c, d⟩ := q
    by_cases h1 : a = c <;> by_cases h2 : b = d <;> simp [h1, h2]⟩
def optD (f : α → D) : Option α → D
  | none => .none
  | some a => f a
theorem En.shaped (E : En α) (h : E.n ≤ 64) (a : α) : SeqAt.shaped (E.f a) = true := by
  unfold SeqAt.shaped
  rw [E.lay a]
  have := E.dep a
  simp
  omega
theorem En.eqD (E : En α) (h : E.n ≤ 64) (a b : α) : DL.eqD (E.f a) (E.f b) = some (.bool (decide (a = b))) := by
  unfold DL.eqD
  rw [E.shaped h a, E.shaped h b, E.eqv]
  rfl
theorem En.neD (E : En α) (h : E.n ≤ 64) (a b : α) : DL.neD (E.f a) (E.f b) = some (.bool (!decide (a = b))) := by
  unfold DL.neD
  rw [E.shaped h a, E.shaped h b, E.eqv]
  rfl
theorem En.any (E : En α) (a : α) : ∀ l : List α, ((l.map E.f).any fun z => PyData.eqv z (E.f a)) = decide (a ∈ l)
  | [] => by simp
  | b :: l => by
    rw [List.map_cons, List.any_cons, E.eqv, En.any E a l]
    by_cases h1 : b = a
    · subst h1
      simp
    · by_cases h2 : a ∈ l <;> simp [h1, h2, Ne.symm h1]
theorem En.inL (E : En α) (h : E.n ≤ 63) (a : α) (l : List α) : inB (E.f a) (.list (l.map E.f)) = some (decide (a ∈ l)) := by
  have h1 := E.shaped (by omega) a
  have h2 : SeqAt.shaped (.list (l.map E.f)) = true := (eL E).shaped (by show E.n + 1 ≤ 64; omega) l
  show (if (SeqAt.shaped (E.f a) && SeqAt.shaped _) = true then some ((l.map E.f).any fun z => PyData.eqv z (E.f a)) else none) = _
  rw [h1, h2, E.any]
  rfl
theorem En.inT (E : En α) (h : E.n ≤ 63) (a : α) (l : List α) : inB (E.f a) (.tuple (l.map E.f)) = some (decide (a ∈ l)) := by
  have h1 := E.shaped (by omega) a
  have h2 : SeqAt.shaped (.tuple (l.map E.f)) = true := (eT E).shaped (by show E.n + 1 ≤ 64; omega) l
  show (if (SeqAt.shaped (E.f a) && SeqAt.shaped _) = true then some ((l.map E.f).any fun z => PyData.eqv z (E.f a)) else none) = _
  rw [h1, h2, E.any]
  rfl
end
/-! ### equal, sign for sign -/
mutual
def eqb : D → D → Bool
  | .none, .none => true
  | .bool a, .bool b => a == b
  | .int a, .int b => decide (a = b)
  | .str a, .str b => a == b
  | .list xs, .list ys => eqbs xs ys
  | .tuple xs, .tuple ys => eqbs xs ys
  | _, _ => false
def eqbs : List D → List D → Bool
  | [], [] => true
  | x :: xs, y :: ys => eqb x y && eqbs xs ys
  | _, _ => false
end
mutual
theorem eqb_ok : ∀ {a b : D}, eqb a b = true → a = b
  | .none, .none, _ => rfl
  | .bool a, .bool b, h => by
    rw [eqb] at h
    rw [eq_of_beq h]
  | .int a, .int b, h => by
    rw [eqb] at h
    rw [of_decide_eq_true h]
  | .str a, .str b, h => by
    rw [eqb] at h
    rw [eq_of_beq h]
  | .list xs, .list ys, h => by
    rw [eqb] at h
    rw [eqbs_ok h]
  | .tuple xs, .tuple ys, h => by
    rw [eqb] at h
    rw [eqbs_ok h]
  | .dict _, _, h => by simp [eqb] at h
  | .none, .bool _, h | .none, .int _, h | .none, .str _, h | .none, .list _, h | .none, .tuple _, h | .none, .dict _, h => by simp [eqb] at h
  | .bool _, .none, h | .bool _, .int _, h | .bool _, .str _, h | .bool _, .list _, h | .bool _, .tuple _, h | .bool _, .dict _, h => by simp [eqb] at h
  | .int _, .none, h | .int _, .bool _, h | .int _, .str _, h | .int _, .list _, h | .int _, .tuple _, h | .int _, .dict _, h => by simp [eqb] at h
  | .str _, .none, h | .str _, .bool _, h | .str _, .int _, h | .str _, .list _, h | .str _, .tuple _, h | .str _, .dict _, h => by simp [eqb] at h
  | .list _, .none, h | .list _, .bool _, h | .list _, .int _, h | .list _, .str _, h | .list _, .tuple _, h | .list _, .dict _, h => by simp [eqb] at h
  | .tuple _, .none, h | .tuple _, .bool _, h | .tuple _, .int _, h | .tuple _, .str _, h | .tuple _, .list _, h | .tuple _, .dict _, h => by simp [eqb] at h
theorem eqbs_ok : ∀ {a b : List D}, eqbs a b = true → a = b
  | [], [], _ => rfl
  | x :: xs, y :: ys, h => by
    rw [eqbs, Bool.and_eq_true] at h
    rw [eqb_ok h.1, eqbs_ok h.2]
  | [], _ :: _, h => by simp [eqbs] at h
  | _ :: _, [], h => by simp [eqbs] at h
end
end DL

set_option maxHeartbeats 1000000
/-! DCF: fractions. -/
namespace DL
open PySem L2
def fr (p : Int × Int) : D := .tuple [.int p.1, .int p.2]
theorem eqD_int (a b : Int) : eqD (.int a) (.int b) = some (.bool (decide (a = b))) := by
  unfold eqD
  have h : ∀ x : Int, SeqAt.shaped (.int x) = true := fun _ => rfl
  rw [h a, h b]
  simp only [PyData.eqv, Bool.and_self, if_true]
  rfl
theorem neD_int (a b : Int) : neD (.int a) (.int b) = some (.bool (!decide (a = b))) := by
  unfold neD
  have h : ∀ x : Int, SeqAt.shaped (.int x) = true := fun _ => rfl
  rw [h a, h b]
  simp only [PyData.eqv, Bool.and_self, if_true]
  rfl
theorem gcd_fmod (a b : Int) (hb : 0 ≤ b) : Int.gcd b (a.fmod b) = Int.gcd a b := by
  rw [Int.fmod_eq_emod_of_nonneg _ hb, Int.gcd_comm a b]
  have h := Int.gcd_add_mul_left_right b (a % b) (a / b)
  rw [Int.emod_add_mul_ediv] at h
  exact h.symm
theorem abs_nat (a : Int) : (if a < 0 then -a else a) = (a.natAbs : Int) := by split <;> omega
theorem common_eq (a b : Int) (hb : 0 ≤ b) (hb' : b < 1000000000) : m_common [.int a, .int b] = some (.int (Int.gcd a b)) := by
  obtain ⟨ρ, e, a', b', rfl, h0, hg⟩ := whileN_inv (c := common_C1) (b := common_W1) (fun m ρ => ∃ a' b' : Int, ρ = [.sh (.int a'), .sh (.int b')] ∧ 0 ≤ b' ∧ m = b'.toNat ∧ Int.gcd a' b' = Int.gcd a b) (fun ρ => ∃ a' b' : Int, ρ = [.sh (.int a'), .sh (.int b')] ∧ b' = 0 ∧ Int.gcd a' b' = Int.gcd a b) (by
    rintro m ρ ⟨a', b', rfl, h0, rfl, hg⟩
    by_cases hz : b' = 0
    · subst hz
      exact ⟨false, [.sh (.int a'), .sh (.int 0)], by simp -implicitDefEqProofs [common_C1, neD_int], fun _ => ⟨a', 0, rfl, rfl, hg⟩, fun z => by cases z⟩
    · refine ⟨true, [.sh (.int a'), .sh (.int b')], by simp -implicitDefEqProofs [common_C1, neD_int, hz], fun z => by (cases z), fun _ => ⟨(a'.fmod b').toNat, ?_, [.sh (.int b'), .sh (.int (a'.fmod b'))], .inl (by simp -implicitDefEqProofs [common_W1, modC_of hz]), b', a'.fmod b', rfl, Int.fmod_nonneg_of_pos _ (by omega), rfl, (gcd_fmod a' b' h0).trans hg⟩⟩
      have h1 := Int.fmod_lt_of_pos a' (show 0 < b' by omega)
      have h2 := Int.fmod_nonneg_of_pos a' (show 0 < b' by omega)
      omega) b.toNat [.sh (.int a), .sh (.int b)] 1099511627776 ⟨a, b, rfl, hb, rfl, rfl⟩ (by omega)
  subst h0
  rw [Int.gcd_zero_right] at hg
  simp -implicitDefEqProofs [m_common, B_common, e, abs_nat, hg]

/-! ### in lowest terms -/
def red (a b : Int) : Int × Int := (a / (Int.gcd a b : Int), b / (Int.gcd a b : Int))
theorem gcd_pos' (a b : Int) (hb : 0 < b) : 0 < (Int.gcd a b : Int) := by
  have := Int.gcd_pos_of_ne_zero_right a (show b ≠ 0 by omega)
  omega
theorem gcd_le' (a b : Int) (hb : 0 < b) : (Int.gcd a b : Int) ≤ b := Int.gcd_le_right a hb
theorem fdivD_pos (a b : Int) (hb : 0 < b) (hb' : b < 1073741824) : fdivD (.int a) (.int b) = some (.int (a / b)) := by
  unfold fdivD intOp
  simp only [divC_of hb hb', if_true]
  rw [Int.fdiv_eq_ediv_of_nonneg _ (by omega)]
theorem fraction_eq (a b : Int) (hb : 0 < b) (hb' : b < 1000000000) : m_fraction [.int a, .int b] = some (fr (red a b)) := by
  have h1 := gcd_pos' a b hb
  have h2 := gcd_le' a b hb
  have hs : 2 ≤ sizeLine := sizeLe 2 (by omega)
  have hn : ¬ b < 0 := by omega
  simp -implicitDefEqProofs [-fdivD, m_fraction, B_fraction, common_eq a b (by omega) hb', hn, fdivD_pos _ _ h1 (show ((Int.gcd a b : Nat) : Int) < 1073741824 by omega), fr, red, hs]
theorem red_pos (a b : Int) (hb : 0 < b) : 0 < (red a b).2 := by
  have h1 := gcd_pos' a b hb
  exact Int.ediv_pos_of_pos_of_dvd hb (by omega) (Int.gcd_dvd_right a b)
theorem red_le (a b : Int) (hb : 0 < b) : (red a b).2 ≤ b := Int.ediv_le_self _ (by omega)
def fsub (p q : Int × Int) : Int × Int := red (p.1 * q.2 - q.1 * p.2) (p.2 * q.2)
def fadd (p q : Int × Int) : Int × Int := red (p.1 * q.2 + q.1 * p.2) (p.2 * q.2)
def fmul (p q : Int × Int) : Int × Int := red (p.1 * q.1) (p.2 * q.2)
theorem mul_small {b d : Int} (hb : 0 < b) (hb' : b < 10000) (hd : 0 < d) (hd' : d < 10000) : 0 < b * d ∧ b * d < 1000000000 := by
  refine ⟨Int.mul_pos hb hd, ?_⟩
  have h : b * d ≤ 10000 * 10000 := Int.mul_le_mul (by omega) (by omega) (by omega) (by omega)
  omega
section
variable {p q : Int × Int} (h1 : 0 < p.2) (h2 : p.2 < 10000) (h3 : 0 < q.2) (h4 : q.2 < 10000)
include h1 h2 h3 h4
theorem minus_eq : m_minus [fr p, fr q] = some (fr (fsub p q)) := by
  obtain ⟨k1, k2⟩ := mul_small h1 h2 h3 h4
  have g1 : mulC p.1 q.2 = true := mulC_r (by omega) (by omega)
  have g2 : mulC q.1 p.2 = true := mulC_r (by omega) (by omega)
  have g3 : mulC p.2 q.2 = true := mulC_r (by omega) (by omega)
  have e := fraction_eq (p.1 * q.2 - q.1 * p.2) (p.2 * q.2) k1 k2
  unfold fr at e ⊢
  simp -implicitDefEqProofs [m_minus, B_minus, g1, g2, g3, e, fsub]
theorem plus_eq : m_plus [fr p, fr q] = some (fr (fadd p q)) := by
  obtain ⟨k1, k2⟩ := mul_small h1 h2 h3 h4
  have g1 : mulC p.1 q.2 = true := mulC_r (by omega) (by omega)
  have g2 : mulC q.1 p.2 = true := mulC_r (by omega) (by omega)
  have g3 : mulC p.2 q.2 = true := mulC_r (by omega) (by omega)
  have e := fraction_eq (p.1 * q.2 + q.1 * p.2) (p.2 * q.2) k1 k2
  unfold fr at e ⊢
  simp -implicitDefEqProofs [m_plus, B_plus, g1, g2, g3, e, fadd]
theorem times_eq (g1 : mulC p.1 q.1 = true) : m_times [fr p, fr q] = some (fr (fmul p q)) := by
  obtain ⟨k1, k2⟩ := mul_small h1 h2 h3 h4
  have g3 : mulC p.2 q.2 = true := mulC_r (by omega) (by omega)
  have e := fraction_eq (p.1 * q.1) (p.2 * q.2) k1 k2
  unfold fr at e ⊢
  simp -implicitDefEqProofs [m_times, B_times, g1, g3, e, fmul]
theorem is_less_eq : m_is_less [fr p, fr q] = some (.bool (decide (p.1 * q.2 < q.1 * p.2))) := by
  have g1 : mulC p.1 q.2 = true := mulC_r (by omega) (by omega)
  have g2 : mulC q.1 p.2 = true := mulC_r (by omega) (by omega)
  unfold fr
  simp -implicitDefEqProofs [m_is_less, B_is_less, g1, g2]
end
/-! ### the law's own fraction -/
theorem law_fraction_eq (a b : Int) (hb : 0 < b) (hb' : b < 1000000000) : m__law_fraction [.int a, .int b] = some (fr (red a b)) := by
  have hbn : ¬ b < 0 := by omega
  obtain ⟨ρ, e, o, t, rfl, ht, hg, ho⟩ := whileN_inv (c := _law_fraction_C1) (b := _law_fraction_W1) (fun m ρ => ∃ o t : Int, ρ = [.sh (.int a), .sh (.int b), .sh (.int o), .sh (.int t)] ∧ 0 ≤ t ∧ 0 ≤ o ∧ m = t.toNat ∧ Int.gcd o t = Int.gcd a b) (fun ρ => ∃ o t : Int, ρ = [.sh (.int a), .sh (.int b), .sh (.int o), .sh (.int t)] ∧ t = 0 ∧ Int.gcd o t = Int.gcd a b ∧ 0 ≤ o) (by
    rintro m ρ ⟨o, t, rfl, h0, ho, rfl, hg⟩
    by_cases hz : 0 < t
    · refine ⟨true, [.sh (.int a), .sh (.int b), .sh (.int o), .sh (.int t)], by simp -implicitDefEqProofs [_law_fraction_C1, hz], fun z => by (cases z), fun _ => ⟨(o.fmod t).toNat, ?_, [.sh (.int a), .sh (.int b), .sh (.int t), .sh (.int (o.fmod t))], .inl (by simp -implicitDefEqProofs [_law_fraction_W1, modC_of (show t ≠ 0 by omega)]), t, o.fmod t, rfl, Int.fmod_nonneg_of_pos _ hz, by omega, rfl, (gcd_fmod o t h0).trans hg⟩⟩
      have h1 := Int.fmod_lt_of_pos o hz
      have h2 := Int.fmod_nonneg_of_pos o hz
      omega
    · exact ⟨false, [.sh (.int a), .sh (.int b), .sh (.int o), .sh (.int t)], by simp -implicitDefEqProofs [_law_fraction_C1, hz], fun _ => ⟨o, t, rfl, by omega, hg, ho⟩, fun z => by (cases z)⟩)
    b.toNat [.sh (.int a), .sh (.int b), .sh (.int (if a < 0 then -a else a)), .sh (.int b)] 1099511627776 ⟨if a < 0 then -a else a, b, rfl, by omega, by split <;> omega, rfl, by split <;> simp⟩ (by omega)
  subst ht
  rw [Int.gcd_zero_right] at hg
  have eo : o = (Int.gcd a b : Int) := by omega
  rw [eo] at e
  have h1 := gcd_pos' a b hb
  have h2 := gcd_le' a b hb
  have hs : 2 ≤ sizeLine := sizeLe 2 (by omega)
  simp -implicitDefEqProofs [-fdivD, m__law_fraction, B__law_fraction, hbn, e, hb, fdivD_pos _ _ h1 (show ((Int.gcd a b : Nat) : Int) < 1073741824 by omega), fr, red, hs]
/-! ### equal fractions -/
theorem red_mul (a b k : Int) (hb : 0 < b) (hk : 0 < k) : red (a * k) (b * k) = red a b := by
  unfold red
  have e : (Int.gcd (a * k) (b * k) : Int) = (Int.gcd a b : Int) * k := by
    rw [Int.gcd_mul_right]
    have : (k.natAbs : Int) = k := Int.natAbs_of_nonneg (by omega)
    push_cast
    rw [this]
  rw [e]
  have g := gcd_pos' a b hb
  rw [Int.mul_ediv_mul_of_pos_left _ _ hk, Int.mul_ediv_mul_of_pos_left _ _ hk]
theorem red_congr {a b c d : Int} (hb : 0 < b) (hd : 0 < d) (h : a * d = c * b) : red a b = red c d := by
  rw [← red_mul a b d hb hd, ← red_mul c d b hd hb, h, Int.mul_comm d b]
theorem red_one (c b : Int) (hb : 0 < b) : red (c * b) b = (c, 1) := by
  have h := red_congr (a := c * b) (b := b) (c := c) (d := 1) hb (by omega) (by rw [Int.mul_one])
  rw [h]
  unfold red
  simp
theorem red_val' (a b : Int) (hb : 0 < b) : (red a b).1 * b = a * (red a b).2 := by
  obtain ⟨x, hx⟩ := Int.gcd_dvd_left a b
  obtain ⟨y, hy⟩ := Int.gcd_dvd_right a b
  have h1 := gcd_pos' a b hb
  unfold red
  generalize (Int.gcd a b : Int) = g at hx hy h1
  subst hx hy
  rw [Int.mul_ediv_cancel_left _ (by omega), Int.mul_ediv_cancel_left _ (by omega)]
  rw [Int.mul_comm g x, Int.mul_comm g y, Int.mul_comm y g, ← Int.mul_assoc]
/-- p stands for x / y -/
structure Val (p : Int × Int) (x y : Int) : Prop where
  pos : 0 < p.2
  den : 0 < y
  eq : p.1 * y = x * p.2
theorem val_red (a b : Int) (hb : 0 < b) : Val (red a b) a b := ⟨red_pos a b hb, hb, red_val' a b hb⟩
theorem Val.lt {p : Int × Int} {x y c d : Int} (h : Val p x y) : p.1 * d < c * p.2 ↔ x * d < c * y := by
  obtain ⟨hp, hy, e⟩ := h
  constructor
  · intro q
    have q1 : p.1 * d * y < c * p.2 * y := Int.mul_lt_mul_of_pos_right q hy
    have e1 : p.1 * d * y = x * d * p.2 := by rw [Int.mul_assoc, Int.mul_comm d y, ← Int.mul_assoc, e, Int.mul_assoc, Int.mul_comm p.2 d, ← Int.mul_assoc]
    have e2 : c * p.2 * y = c * y * p.2 := by rw [Int.mul_assoc, Int.mul_comm p.2 y, ← Int.mul_assoc]
    rw [e1, e2] at q1
    exact Int.lt_of_mul_lt_mul_right q1 (by omega)
  · intro q
    have q1 : x * d * p.2 < c * y * p.2 := Int.mul_lt_mul_of_pos_right q hp
    have e1 : p.1 * d * y = x * d * p.2 := by rw [Int.mul_assoc, Int.mul_comm d y, ← Int.mul_assoc, e, Int.mul_assoc, Int.mul_comm p.2 d, ← Int.mul_assoc]
    have e2 : c * p.2 * y = c * y * p.2 := by rw [Int.mul_assoc, Int.mul_comm p.2 y, ← Int.mul_assoc]
    rw [← e1, ← e2] at q1
    exact Int.lt_of_mul_lt_mul_right q1 (by omega)
theorem Val.gt {p : Int × Int} {x y c d : Int} (h : Val p x y) : c * p.2 < p.1 * d ↔ c * y < x * d := by
  obtain ⟨hp, hy, e⟩ := h
  have e1 : p.1 * d * y = x * d * p.2 := by rw [Int.mul_assoc, Int.mul_comm d y, ← Int.mul_assoc, e, Int.mul_assoc, Int.mul_comm p.2 d, ← Int.mul_assoc]
  have e2 : c * p.2 * y = c * y * p.2 := by rw [Int.mul_assoc, Int.mul_comm p.2 y, ← Int.mul_assoc]
  constructor
  · intro q
    have q1 : c * p.2 * y < p.1 * d * y := Int.mul_lt_mul_of_pos_right q hy
    rw [e1, e2] at q1
    exact Int.lt_of_mul_lt_mul_right q1 (by omega)
  · intro q
    have q1 : c * y * p.2 < x * d * p.2 := Int.mul_lt_mul_of_pos_right q hp
    rw [← e1, ← e2] at q1
    exact Int.lt_of_mul_lt_mul_right q1 (by omega)
theorem Val.red {p : Int × Int} {x y : Int} (h : Val p x y) : DL.red p.1 p.2 = DL.red x y := red_congr h.pos h.den h.eq
theorem Val.add {p q : Int × Int} {x y z w : Int} (h : Val p x y) (k : Val q z w) : Val (fadd p q) (x * w + z * y) (y * w) := by
  have hv := val_red (p.1 * q.2 + q.1 * p.2) (p.2 * q.2) (Int.mul_pos h.pos k.pos)
  refine ⟨hv.pos, Int.mul_pos h.den k.den, ?_⟩
  have e : DL.red (p.1 * q.2 + q.1 * p.2) (p.2 * q.2) = DL.red (x * w + z * y) (y * w) := by
    refine red_congr (Int.mul_pos h.pos k.pos) (Int.mul_pos h.den k.den) ?_
    rw [Int.add_mul, Int.add_mul]
    have a1 : p.1 * q.2 * (y * w) = x * w * (p.2 * q.2) := by
      rw [show p.1 * q.2 * (y * w) = (p.1 * y) * (q.2 * w) by ac_rfl, h.eq]
      ac_rfl
    have a2 : q.1 * p.2 * (y * w) = z * y * (p.2 * q.2) := by
      rw [show q.1 * p.2 * (y * w) = (q.1 * w) * (p.2 * y) by ac_rfl, k.eq]
      ac_rfl
    rw [a1, a2]
  unfold fadd
  rw [e]
  exact (val_red _ _ (Int.mul_pos h.den k.den)).eq
theorem Val.sub {p q : Int × Int} {x y z w : Int} (h : Val p x y) (k : Val q z w) : Val (fsub p q) (x * w - z * y) (y * w) := by
  have hv := val_red (p.1 * q.2 - q.1 * p.2) (p.2 * q.2) (Int.mul_pos h.pos k.pos)
  refine ⟨hv.pos, Int.mul_pos h.den k.den, ?_⟩
  have e : DL.red (p.1 * q.2 - q.1 * p.2) (p.2 * q.2) = DL.red (x * w - z * y) (y * w) := by
    refine red_congr (Int.mul_pos h.pos k.pos) (Int.mul_pos h.den k.den) ?_
    rw [Int.sub_mul, Int.sub_mul]
    have a1 : p.1 * q.2 * (y * w) = x * w * (p.2 * q.2) := by
      rw [show p.1 * q.2 * (y * w) = (p.1 * y) * (q.2 * w) by ac_rfl, h.eq]
      ac_rfl
    have a2 : q.1 * p.2 * (y * w) = z * y * (p.2 * q.2) := by
      rw [show q.1 * p.2 * (y * w) = (q.1 * w) * (p.2 * y) by ac_rfl, k.eq]
      ac_rfl
    rw [a1, a2]
  unfold fsub
  rw [e]
  exact (val_red _ _ (Int.mul_pos h.den k.den)).eq
theorem Val.mul {p q : Int × Int} {x y z w : Int} (h : Val p x y) (k : Val q z w) : Val (fmul p q) (x * z) (y * w) := by
  have hv := val_red (p.1 * q.1) (p.2 * q.2) (Int.mul_pos h.pos k.pos)
  refine ⟨hv.pos, Int.mul_pos h.den k.den, ?_⟩
  have e : DL.red (p.1 * q.1) (p.2 * q.2) = DL.red (x * z) (y * w) := by
    refine red_congr (Int.mul_pos h.pos k.pos) (Int.mul_pos h.den k.den) ?_
    rw [show p.1 * q.1 * (y * w) = (p.1 * y) * (q.1 * w) by ac_rfl, h.eq, k.eq]
    ac_rfl
  unfold fmul
  rw [e]
  exact (val_red _ _ (Int.mul_pos h.den k.den)).eq
theorem val_int (c : Int) : Val (c, 1) c 1 := ⟨by show (0 : Int) < 1; omega, by omega, rfl⟩
/-- in lowest terms: two that stand for one thing are one -/
theorem Val.low {p : Int × Int} {x y : Int} (h : Val p x y) (hl : DL.red p.1 p.2 = p) : p = DL.red x y := by
  rw [← h.red, hl]
theorem red_red (a b : Int) (hb : 0 < b) : red (red a b).1 (red a b).2 = red a b := (val_red a b hb).red
end DL

set_option maxHeartbeats 1000000
/-! DCS: all sets. -/
namespace DL
open PySem L2
def canExt (row : List Int) (t : Int) : Bool := match row.getLast? with
  | none => true
  | some x => decide (x < t)
def ext (th : List Int) (row : List Int) : List (List Int) := (th.filter (canExt row)).map fun t => row ++ [t]
def lay (th : List Int) : Nat → List (List Int)
  | 0 => [[]]
  | n + 1 => (lay th n).flatMap (ext th)
def upTo (th : List Int) (n : Nat) : List (List Int) := (List.range n).flatMap (lay th)
def tI (l : List Int) : D := .tuple (l.map .int)
theorem upTo_succ (th : List Int) (n : Nat) : upTo th (n + 1) = upTo th n ++ lay th n := by
  unfold upTo
  rw [List.range_succ, List.flatMap_append]
  simp
theorem lay_len {th : List Int} : ∀ {n : Nat} {row : List Int}, row ∈ lay th n → row.length = n
  | 0, row, h => by
    obtain rfl := List.mem_singleton.mp h
    rfl
  | n + 1, row, h => by
    obtain ⟨r, h1, h2⟩ := List.mem_flatMap.mp h
    obtain ⟨t, _, rfl⟩ := List.mem_map.mp h2
    rw [List.length_append, lay_len h1]
    rfl
theorem upTo_mono {th : List Int} {n m : Nat} (h : n ≤ m) : (upTo th n).length ≤ (upTo th m).length := by
  induction m with
  | zero =>
    obtain rfl : n = 0 := by omega
    exact Nat.le_refl _
  | succ m ih =>
    by_cases e : n = m + 1
    · subst e
      exact Nat.le_refl _
    · rw [upTo_succ, List.length_append]
      have := ih (by omega)
      omega
theorem lay_le {th : List Int} {n m : Nat} (h : n < m) : (lay th n).length ≤ (upTo th m).length := by
  have := upTo_mono (th := th) (show n + 1 ≤ m by omega)
  rw [upTo_succ, List.length_append] at this
  omega
theorem eqD_tI (a b : List Int) : eqD (tI a) (tI b) = some (.bool (decide (a = b))) := (eT eI).eqD (by decide) a b
theorem neD_tI (a b : List Int) : neD (tI a) (tI b) = some (.bool (!decide (a = b))) := (eT eI).neD (by decide) a b
theorem lc2B_flat {α : Type} {own own1 : List Nat} {g : GDen} {t : TDen} {s1 : IDen} {g1 : GDen} {t1 : TDen} {e : Den} {ρ : Env} (enc : α → D) (out : α → List D) : ∀ l : List α, (∀ a ∈ l, ∃ ρ1 ρ2 ds ρ3, g (enc a) ρ = some ρ1 ∧ t ρ1 = some (true, ρ1) ∧ s1 ρ1 = some (ds, ρ2) ∧ noIo ρ2 own1 = true ∧ lcB own1 g1 t1 e ds (wipeE ρ2 own1) = some (out a, ρ3) ∧ noIo ρ3 own = true ∧ wipeE ρ3 own = ρ) →
    lc2B own own1 g t s1 g1 t1 e (l.map enc) ρ = some (l.flatMap out, ρ)
  | [], _ => rfl
  | a :: l, h => by
    obtain ⟨ρ1, ρ2, ds, ρ3, h1, h2, h3, h4, h5, h6, h7⟩ := h a List.mem_cons_self
    have ih := lc2B_flat (own := own) (own1 := own1) (g := g) (t := t) (s1 := s1) (g1 := g1) (t1 := t1) (e := e) (ρ := ρ) enc out l fun b hb => h b (List.mem_cons_of_mem _ hb)
    rw [List.map_cons, lc2B, h1]
    simp only [Option.bind_some, h2, h3, h4, h5, h6, h7, if_true, ih]
    rfl
section
variable {th : List Int} {T : D} (hT : itD T = some (th.map .int))
include hT
theorem ext_block (row : List Int) (hrow : row.length ≤ 1000) (s1 s2 s3 : Sl) :
    lcB [5] (gN 5) sets_of_T1 sets_of_E1 (th.map .int) [.sh T, s1, s2, s3, .sh (tI row), .un] = some ((ext th row).map tI, [.sh T, s1, s2, s3, .sh (tI row), .un]) := by
  have X := lcB_same (own := [5]) (g := gN 5) (t := sets_of_T1) (e := sets_of_E1) (ρ := [.sh T, s1, s2, s3, .sh (tI row), .un]) (fun t : Int => .int t) (canExt row) (fun t => tI (row ++ [t])) th (fun t _ => by
    have z1 : 1 ≤ sizeLine := sizeLe 1 (by omega)
    have z0 : 0 ≤ sizeLine := Nat.zero_le _
    have z2 : row.length + 1 ≤ sizeLine := sizeLe _ (by omega)
    have e := eqD_tI row []
    have et : ∀ r, tI r = .tuple (r.map .int) := fun _ => rfl
    unfold canExt
    cases hr : row.getLast? with
    | none =>
      obtain rfl : row = [] := List.getLast?_eq_none_iff.mp hr
      have e : eqD (.tuple []) (.tuple []) = some (.bool true) := e
      simp -implicitDefEqProofs [sets_of_T1, sets_of_E1, et, z1, e]
    | some x =>
      have hne : row ≠ [] := fun z => by subst z; cases hr
      have e : eqD (.tuple (row.map .int)) (.tuple []) = some (.bool false) := by
        rw [decide_eq_false hne] at e
        exact e
      have hg : (row.map PyData.int).getLast? = some (.int x) := by rw [List.getLast?_map, hr]; rfl
      by_cases hx : x < t <;> simp -implicitDefEqProofs [sets_of_T1, sets_of_E1, et, z1, z2, e, hg, hx])
  unfold ext
  rw [List.map_map]
  exact X
theorem sets_loop (hz : (upTo th (th.length + 1)).length ≤ 16777216) (hl : th.length ≤ 1000) (mn : D) : ∀ (ds : List D) (n : Nat) (s3 s4 s5 : Sl) (s2 : Sl), NI s3 → plainS (some s4) = true → plainS (some s5) = true → ds.length + n ≤ th.length → (s2 = .ow (.list ((lay th n).map tI)) ∨ s2 = .sh (.list ((lay th n).map tI))) →
    ∃ s3' s2', NI s3' ∧ (s2' = .ow (.list ((lay th (n + ds.length)).map tI)) ∨ s2' = .sh (.list ((lay th (n + ds.length)).map tI))) ∧ forB (gN 3) sets_of_L1 ds [.sh T, .sh mn, s2, s3, s4, s5] = some (.nx [.sh T, .sh mn, s2', s3', s4, s5])
  | [], n, s3, s4, s5, s2, h3, h4, h5, hn, h2 => ⟨s3, s2, h3, h2, rfl⟩
  | d :: ds, n, s3, s4, s5, s2, h3, h4, h5, hn, h2 => by
    rw [List.length_cons] at hn
    have X := lc2B_flat (own := [4, 5]) (own1 := [5]) (g := gN 4) (t := cYes) (s1 := iE (cVar 0)) (g1 := gN 5) (t1 := sets_of_T1) (e := sets_of_E1) (ρ := [.sh T, .sh mn, .sh (.list ((lay th n).map tI)), .sh d, .un, .un]) tI (fun row => (ext th row).map tI) (lay th n) (fun row hrow => by
      have hb := ext_block hT row (by rw [lay_len hrow]; omega) (.sh mn) (.sh (.list ((lay th n).map tI))) (.sh d)
      refine ⟨[.sh T, .sh mn, .sh (.list ((lay th n).map tI)), .sh d, .sh (tI row), .un], [.sh T, .sh mn, .sh (.list ((lay th n).map tI)), .sh d, .sh (tI row), .un], th.map .int, [.sh T, .sh mn, .sh (.list ((lay th n).map tI)), .sh d, .sh (tI row), .un], by simp, rfl, by simp [-itD, hT], by simp, by simpa using hb, by simp, by simp⟩)
    have hlay : (lay th n).flatMap (fun row => (ext th row).map tI) = (lay th (n + 1)).map tI := by
      show _ = ((lay th n).flatMap (ext th)).map tI
      rw [List.map_flatMap]
    rw [hlay] at X
    have zz : (lay th (n + 1)).length ≤ sizeLine := sizeLe _ (Nat.le_trans (lay_le (show n + 1 < th.length + 1 by omega)) hz)
    obtain ⟨s3', s2', g3, g2, ih⟩ := sets_loop hz hl mn ds (n + 1) (.sh d) s4 s5 (.ow (.list ((lay th (n + 1)).map tI))) rfl h4 h5 (by omega) (.inl rfl)
    refine ⟨s3', s2', g3, by rw [List.length_cons, show n + (ds.length + 1) = n + 1 + ds.length by omega]; exact g2, ?_⟩
    unfold NI at h3
    rw [forB_cons]
    rcases h2 with rfl | rfl
    · simp -implicitDefEqProofs [sets_of_L1, h3, h4, h5, X, zz]
      exact ih
    · simp -implicitDefEqProofs [sets_of_L1, h3, h4, h5, X, zz]
      exact ih
theorem sets_of_eq (hz : (upTo th (th.length + 1)).length ≤ 16777216) (hl : th.length ≤ 1000) (n : Nat) (hn : n ≤ th.length) : m_sets_of [T, .int n] = some (.list ((lay th n).map tI)) := by
  have b1 : bdI (n : Int) = true := bdI_of (by omega) (by omega)
  have z1 : 1 ≤ sizeLine := sizeLe 1 (by omega)
  obtain ⟨s3, s2, h3, h2, e⟩ := sets_loop hT hz hl (.int n) (rngD 0 n) 0 .un .un .un (.ow (.list ((lay th 0).map tI))) rfl rfl rfl (by rw [rngD_len]; omega) (.inl rfl)
  rw [rngD_len, Nat.zero_add] at h2
  have e : forB (gN 3) sets_of_L1 (rngD 0 n) [.sh T, .sh (.int n), .ow (.list [.tuple []]), .un, .un, .un] = some (.nx [.sh T, .sh (.int n), s2, s3, .un, .un]) := e
  rcases h2 with rfl | rfl <;> simp -implicitDefEqProofs [m_sets_of, B_sets_of, opTup, opLst, z1, b1, e]
theorem all_sets_eq (hL : lenD T = some (.int th.length)) (hz : (upTo th (th.length + 1)).length ≤ 16777216) (hl : th.length ≤ 1000) : m_all_sets [T] = some (.list ((upTo th (th.length + 1)).map tI)) := by
  have b1 : bdI ((th.length : Int) + 1) = true := bdI_of (by omega) (by omega)
  have H := forB_inv (g := gN 2) (b := all_sets_L1) (fun i ρ => ∃ s2, NI s2 ∧ ρ = [.sh T, .ow (.list ((upTo th i).map tI)), s2]) (rngD 0 (th.length + 1)) 0 _ ⟨.un, rfl, rfl⟩ (by
    rintro j d ρ hj ⟨s2, h2, rfl⟩
    rw [rngD_get?] at hj
    split at hj
    · rename_i hjn
      cases hj
      unfold NI at h2
      have e := sets_of_eq hT hz hl j (by omega)
      have zz : (upTo th j).length + (lay th j).length ≤ sizeLine := sizeLe _ (by
        have := upTo_mono (th := th) (show j + 1 ≤ th.length + 1 by omega)
        rw [upTo_succ, List.length_append] at this
        omega)
      rw [Nat.zero_add]
      refine ⟨_, .inl (by simp -implicitDefEqProofs [all_sets_L1, h2, e, zz]; rfl), .sh (.int j), rfl, ?_⟩
      rw [upTo_succ, List.map_append]
    · cases hj)
  obtain ⟨ρ, e, s2, h2, rfl⟩ := H
  rw [rngD_len, Nat.zero_add] at e
  have e : forB (gN 2) all_sets_L1 (rngD 0 (th.length + 1)) [.sh T, .ow (.list []), .un] = _ := e
  have en : ((th.length : Int) + 1).toNat = th.length + 1 := by omega
  simp -implicitDefEqProofs [-lenD, m_all_sets, B_all_sets, opLst, hL, b1, en, e]
end
/-! ### _law_sets -/
section
variable {th : List Int} {T : D} (hT : itD T = some (th.map .int))
include hT
theorem lext_block (row : List Int) (hrow : row.length ≤ 1000) (s1 s2 s3 s4 : Sl) :
    lcB [6] (gN 6) _law_sets_T1 _law_sets_E1 (th.map .int) [.sh T, s1, s2, s3, s4, .sh (tI row), .un] = some ((ext th row).map tI, [.sh T, s1, s2, s3, s4, .sh (tI row), .un]) := by
  have X := lcB_same (own := [6]) (g := gN 6) (t := _law_sets_T1) (e := _law_sets_E1) (ρ := [.sh T, s1, s2, s3, s4, .sh (tI row), .un]) (fun t : Int => .int t) (canExt row) (fun t => tI (row ++ [t])) th (fun t _ => by
    have z1 : 1 ≤ sizeLine := sizeLe 1 (by omega)
    have z2 : row.length + 1 ≤ sizeLine := sizeLe _ (by omega)
    have e := eqD_tI row []
    have et : ∀ r, tI r = .tuple (r.map .int) := fun _ => rfl
    unfold canExt
    cases hr : row.getLast? with
    | none =>
      obtain rfl : row = [] := List.getLast?_eq_none_iff.mp hr
      have e : eqD (.tuple []) (.tuple []) = some (.bool true) := e
      simp -implicitDefEqProofs [_law_sets_T1, _law_sets_E1, et, z1, e]
    | some x =>
      have hne : row ≠ [] := fun z => by subst z; cases hr
      have e : eqD (.tuple (row.map .int)) (.tuple []) = some (.bool false) := by
        rw [decide_eq_false hne] at e
        exact e
      have hg : (row.map PyData.int).getLast? = some (.int x) := by rw [List.getLast?_map, hr]; rfl
      by_cases hx : x < t <;> simp -implicitDefEqProofs [_law_sets_T1, _law_sets_E1, et, z1, z2, e, hg, hx])
  unfold ext
  rw [List.map_map]
  exact X
theorem lsets_row (s1 s2 s3 : Sl) : ∀ (rows : List (List Int)) (acc : List (List Int)) (s4 s5 : Sl), (∀ r ∈ rows, r.length ≤ 1000) → (acc ++ rows.flatMap (ext th)).length ≤ 16777216 → NI s5 → (s4 = .ow (.list (acc.map tI)) ∨ s4 = .sh (.list (acc.map tI))) →
    ∃ s4' s5', NI s5' ∧ (s4' = .ow (.list ((acc ++ rows.flatMap (ext th)).map tI)) ∨ s4' = .sh (.list ((acc ++ rows.flatMap (ext th)).map tI))) ∧ forB (gN 5) _law_sets_L1 (rows.map tI) [.sh T, s1, s2, s3, s4, s5, .un] = some (.nx [.sh T, s1, s2, s3, s4', s5', .un])
  | [], acc, s4, s5, _, _, h5, h4 => ⟨s4, s5, h5, by simpa using h4, rfl⟩
  | r :: rows, acc, s4, s5, hr, hz, h5, h4 => by
    have e0 : acc ++ (r :: rows).flatMap (ext th) = (acc ++ ext th r) ++ rows.flatMap (ext th) := by
      rw [List.flatMap_cons, List.append_assoc]
    rw [e0] at hz ⊢
    have hb := lext_block hT r (hr r List.mem_cons_self) s1 s2 s3
    have zz : acc.length + (ext th r).length ≤ sizeLine := sizeLe _ (by rw [List.length_append, List.length_append] at hz; omega)
    have zz2 : (ext th r).length ≤ sizeLine := sizeLe _ (by rw [List.length_append, List.length_append] at hz; omega)
    obtain ⟨s4', s5', g5, g4, ih⟩ := lsets_row s1 s2 s3 rows (acc ++ ext th r) (.sh (.list ((acc ++ ext th r).map tI))) (.sh (tI r)) (fun q hq => hr q (List.mem_cons_of_mem _ hq)) hz rfl (.inr rfl)
    refine ⟨s4', s5', g5, g4, ?_⟩
    unfold NI at h5
    rw [List.map_cons, forB_cons]
    rw [List.map_append] at ih
    rcases h4 with rfl | rfl <;> simp -implicitDefEqProofs [-itD, _law_sets_L1, h5, hT, hb, zz, zz2] <;> exact ih
theorem lsets_loop (hz : (upTo th (th.length + 1)).length ≤ 16777216) (hl : th.length ≤ 1000) : ∀ (ds : List D) (n : Nat) (s1 s2 s3 s4 s5 : Sl), NI s3 → NI s4 → NI s5 → ds.length + n ≤ th.length → (s1 = .ow (.list ((upTo th (n + 1)).map tI)) ∨ s1 = .sh (.list ((upTo th (n + 1)).map tI))) → (s2 = .ow (.list ((lay th n).map tI)) ∨ s2 = .sh (.list ((lay th n).map tI))) →
    ∃ s1' s2' s3' s4' s5', (s1' = .ow (.list ((upTo th (n + ds.length + 1)).map tI)) ∨ s1' = .sh (.list ((upTo th (n + ds.length + 1)).map tI))) ∧ forB (gN 3) _law_sets_L2 ds [.sh T, s1, s2, s3, s4, s5, .un] = some (.nx [.sh T, s1', s2', s3', s4', s5', .un])
  | [], n, s1, s2, s3, s4, s5, _, _, _, _, h1, h2 => ⟨s1, s2, s3, s4, s5, h1, rfl⟩
  | d :: ds, n, s1, s2, s3, s4, s5, h3, h4, h5, hn, h1, h2 => by
    rw [List.length_cons] at hn
    have z0 : 0 ≤ sizeLine := Nat.zero_le _
    have hlay : [] ++ (lay th n).flatMap (ext th) = lay th (n + 1) := rfl
    have zz : (lay th (n + 1)).length ≤ 16777216 := Nat.le_trans (lay_le (show n + 1 < th.length + 1 by omega)) hz
    obtain ⟨s4', s5', g5, g4, e⟩ := lsets_row hT s1 (.sh (.list ((lay th n).map tI))) (.sh d) (lay th n) [] (.ow (.list [])) s5 (fun r hr => by rw [lay_len hr]; omega) (by rw [hlay]; exact zz) h5 (.inl rfl)
    rw [hlay] at g4
    have zu : (upTo th (n + 1)).length + (lay th (n + 1)).length ≤ sizeLine := sizeLe _ (by
      have := upTo_mono (th := th) (show n + 1 + 1 ≤ th.length + 1 by omega)
      rw [upTo_succ, List.length_append] at this
      omega)
    unfold NI at h3 h4
    have step : (gN 3 d [.sh T, s1, s2, s3, s4, s5, .un]).bind _law_sets_L2 = some (.nx [.sh T, .sh (.list ((upTo th (n + 2)).map tI)), .sh (.list ((lay th (n + 1)).map tI)), .sh d, .sh (.list ((lay th (n + 1)).map tI)), s5', .un]) := by
      rw [upTo_succ th (n + 1), List.map_append]
      rcases h1 with rfl | rfl <;> rcases h2 with rfl | rfl <;> rcases g4 with rfl | rfl <;> simp -implicitDefEqProofs [_law_sets_L2, opLst, h3, h4, e, zu]
    obtain ⟨s1', s2', s3', s4'', s5'', g1, ih⟩ := lsets_loop hz hl ds (n + 1) (.sh (.list ((upTo th (n + 2)).map tI))) (.sh (.list ((lay th (n + 1)).map tI))) (.sh d) (.sh (.list ((lay th (n + 1)).map tI))) s5' rfl rfl g5 (by omega) (.inr rfl) (.inr rfl)
    refine ⟨s1', s2', s3', s4'', s5'', ?_, ?_⟩
    · rw [List.length_cons, show n + (ds.length + 1) + 1 = n + 1 + ds.length + 1 by omega]
      exact g1
    have key : forB (gN 3) _law_sets_L2 (d :: ds) [.sh T, s1, s2, s3, s4, s5, .un] = ((gN 3 d [.sh T, s1, s2, s3, s4, s5, .un]).bind _law_sets_L2).bind (fwdK (gN 3) _law_sets_L2 ds) := by
      rw [forB_cons, Option.bind_assoc]
      rfl
    rw [key, step]
    exact ih
theorem law_sets_eq (hL : lenD T = some (.int th.length)) (hz : (upTo th (th.length + 1)).length ≤ 16777216) (hl : th.length ≤ 1000) : m__law_sets [T] = some (.list ((upTo th (th.length + 1)).map tI)) := by
  have b1 : bdI (th.length : Int) = true := bdI_of (by omega) (by omega)
  have z1 : 1 ≤ sizeLine := sizeLe 1 (by omega)
  obtain ⟨s1, s2, s3, s4, s5, g1, e⟩ := lsets_loop hT hz hl (rngD 0 th.length) 0 (.ow (.list ((upTo th 1).map tI))) (.ow (.list ((lay th 0).map tI))) .un .un .un rfl rfl rfl (by rw [rngD_len]; omega) (.inl rfl) (.inl rfl)
  rw [rngD_len, Nat.zero_add] at g1
  have e : forB (gN 3) _law_sets_L2 (rngD 0 th.length) [.sh T, .ow (.list [.tuple []]), .ow (.list [.tuple []]), .un, .un, .un, .un] = _ := e
  rcases g1 with rfl | rfl <;> simp -implicitDefEqProofs [-lenD, m__law_sets, B__law_sets, opTup, opLst, z1, hL, b1, e]
end
end DL

set_option maxHeartbeats 1000000
/-! DCU: small facts of use to several laws. -/
namespace DL
open PySem L2
theorem cut_to {α : Type} (xs : List α) (k : Nat) (h : k ≤ xs.length) : cutD xs none (some (k : Int)) = xs.take k := by
  unfold cutD HT.sIx
  simp only [List.drop_zero]
  rw [if_neg (by omega), Int.toNat_natCast, Nat.min_eq_left h, Nat.sub_zero]
theorem cut_from {α : Type} (xs : List α) (k : Nat) (h : k ≤ xs.length) : cutD xs (some (k : Int)) none = xs.drop k := by
  unfold cutD HT.sIx
  simp only
  rw [if_neg (by omega), Int.toNat_natCast, Nat.min_eq_left h]
  exact List.take_of_length_le (by rw [List.length_drop]; omega)
theorem set_cut (H : List Int) (k : Nat) (n : Int) (hk : k < H.length) : (H.take k ++ [n]) ++ H.drop (k + 1) = H.set k n := by
  rw [List.set_eq_take_append_cons_drop, if_pos hk, List.append_assoc]
  rfl
theorem rngD_from (a n : Nat) : rngD (a : Int) n = ((List.range n).map fun i => a + i).map fun j : Nat => .int (j : Int) := by
  unfold rngD
  rw [List.map_map]
  congr 1
theorem asBs_map' {α : Type} (g : α → Bool) : ∀ l : List α, asBs (l.map fun a => .bool (g a)) = some (l.map g)
  | [] => rfl
  | a :: l => by rw [List.map_cons, asBs, asBs_map' g l]; rfl
theorem eqD_nil {α : Type} (g : α → Int) (l : List α) : eqD (.list (l.map fun a => .int (g a))) (.list []) = some (.bool (decide (l = []))) := by
  have h := (eL eI).eqD (by decide) (l.map g) []
  have e1 : (eL eI).f (l.map g) = .list (l.map fun a => .int (g a)) := by
    show PyData.list (List.map _ (List.map _ _)) = _
    rw [List.map_map]
    rfl
  rw [e1] at h
  rw [show (PyData.list [] : D) = (eL eI).f [] from rfl, h]
  cases l <;> simp
theorem asIs_map' {α : Type} (g : α → Int) : ∀ l : List α, asIs (l.map fun a => .int (g a)) = some (l.map g)
  | [] => rfl
  | a :: l => by rw [List.map_cons, asIs, asIs_map' g l]; rfl
theorem neD_nil {α : Type} (g : α → Int) (l : List α) : neD (.list (l.map fun a => .int (g a))) (.list []) = some (.bool (!decide (l = []))) := by
  have h := (eL eI).neD (by decide) (l.map g) []
  have e1 : (eL eI).f (l.map g) = .list (l.map fun a => .int (g a)) := by
    show PyData.list (List.map _ (List.map _ _)) = _
    rw [List.map_map]
    rfl
  rw [e1] at h
  rw [show (PyData.list [] : D) = (eL eI).f [] from rfl, h]
  cases l <;> simp
end DL

set_option maxHeartbeats 1000000
/-! DSO: sorting rows of ints, plainly. -/
namespace DL
open PySem L2
def lexB : List Int → List Int → Bool
  | [], [] => false
  | [], _ :: _ => true
  | _ :: _, [] => false
  | x :: xs, y :: ys => decide (x < y) || (decide (x = y) && lexB xs ys)
theorem toks_tI : ∀ a b : List Int, PyProof.Rows.lexLt PyProof.Rows.itemOrd (PySem.W.keyToksAll (a.map .int)) (PySem.W.keyToksAll (b.map .int)) = lexB a b
  | [], [] => rfl
  | [], _ :: _ => rfl
  | _ :: _, [] => rfl
  | x :: xs, y :: ys => by
    have ih := toks_tI xs ys
    rw [List.map_cons, List.map_cons, PySem.W.keyToksAll, PySem.W.keyToksAll, PySem.W.keyToks, PySem.W.keyToks, List.singleton_append, List.singleton_append, PyProof.Rows.lexLt, PyProof.Rows.lexLt, ih, lexB]
    show (decide ((1 : Int) < 1) || (!decide ((1 : Int) < 1) && (decide (x < y) || (!decide (y < x) && lexB xs ys)))) = _
    by_cases h1 : x < y
    · simp [h1]
    · by_cases h2 : y < x
      · have : ¬ x = y := by omega
        simp [h1, h2, this]
      · have : x = y := by omega
        simp [h1, h2, this]
theorem le_tI (a b : List Int) : PySem.W.dataLe false (id : D → D) (tI a) (tI b) = !lexB b a := by
  show (!PyProof.Rows.lexLt PyProof.Rows.itemOrd (PySem.W.keyToks (tI b)) (PySem.W.keyToks (tI a))) = _
  unfold tI
  rw [PySem.W.keyToks, PySem.W.keyToks, toks_tI]
theorem ins_map {α β : Type} (f : α → β) (le : β → β → Bool) (le' : α → α → Bool) (h : ∀ a b, le (f a) (f b) = le' a b) (x : α) : ∀ l : List α, insT le (f x) (l.map f) = (insT le' x l).map f
  | [] => rfl
  | y :: ys => by
    rw [List.map_cons, insT, insT, h, ins_map f le le' h x ys]
    cases le' x y <;> rfl
theorem isrt_map {α β : Type} (f : α → β) (le : β → β → Bool) (le' : α → α → Bool) (h : ∀ a b, le (f a) (f b) = le' a b) : ∀ l : List α, isrt le (l.map f) = (isrt le' l).map f
  | [] => rfl
  | x :: l => by
    rw [List.map_cons, isrt, isrt, isrt_map f le le' h l, ins_map f le le' h]
theorem srt_tI (l : List (List Int)) : srt (l.map tI) = (isrt (fun a b => !lexB b a) l).map tI := isrt_map tI _ _ le_tI l
theorem tupIB_tI {l : List (List Int)} (h : ∀ r ∈ l, r ≠ []) : tupIB (l.map tI) = true := by
  refine List.all_eq_true.mpr fun x hx => ?_
  obtain ⟨r, hr, rfl⟩ := List.mem_map.mp hx
  have := h r hr
  cases r with
  | nil => exact absurd rfl this
  | cons y ys =>
    show (((y :: ys).map PyData.int).all isIntB) = true
    rw [List.all_map]
    exact List.all_eq_true.mpr fun _ _ => rfl
/-- sorted rows of ints, none empty -/
theorem sorted_tI {l : List (List Int)} (h : ∀ r ∈ l, r ≠ []) (hl : l.length ≤ sizeLine) : sortedD (.list (l.map tI)) = some (.list ((isrt (fun a b => !lexB b a) l).map tI)) := by
  have h1 : PyData.depthAll (l.map tI) ≤ 32 := Nat.le_trans (dep_all tI 1 (fun a => (eT eI).dep a) l) (by omega)
  have h2 : PyData.canLayAll0 (l.map tI) = true := lay_all tI (fun a => (eT eI).lay a) l
  have ok : sortOk (l.map tI) = true := by
    unfold sortOk
    rw [tupIB_tI h, h2, decide_eq_true h1, List.length_map, decide_eq_true hl]
    rfl
  rw [sortedD, if_pos ok, srt_tI]
theorem ins_perm {α : Type} (le : α → α → Bool) (x : α) : ∀ l : List α, (insT le x l).Perm (x :: l)
  | [] => List.Perm.refl _
  | y :: ys => by
    rw [insT]
    cases le x y
    · exact ((ins_perm le x ys).cons y).trans (List.Perm.swap x y ys)
    · exact List.Perm.refl _
theorem isrt_perm {α : Type} (le : α → α → Bool) : ∀ l : List α, (isrt le l).Perm l
  | [] => List.Perm.refl _
  | x :: l => (ins_perm le x _).trans ((isrt_perm le l).cons x)
end DL

set_option maxHeartbeats 1000000
/-! DSM: the law's own way to compare: a thing is the same as itself. -/
namespace DL
open PySem L2
mutual
def sz : D → Nat
  | .list xs => szs xs + 1
  | .tuple xs => szs xs + 1
  | _ => 1
def szs : List D → Nat
  | [] => 0
  | d :: ds => sz d + szs ds
end
theorem szs_app : ∀ xs ys : List D, szs (xs ++ ys) = szs xs + szs ys
  | [], ys => by simp [szs]
  | x :: xs, ys => by rw [List.cons_append, szs, szs, szs_app xs ys, Nat.add_assoc]
theorem sz_pos (d : D) : 1 ≤ sz d := by cases d <;> simp [sz]
theorem szs_len : ∀ xs : List D, xs.length ≤ szs xs
  | [] => Nat.zero_le _
  | x :: xs => by
    have := szs_len xs
    have := sz_pos x
    rw [List.length_cons, szs]
    omega
def pr (d : D) : D := .tuple [d, d]
structure Gd (ds : List D) : Prop where
  lay : PyData.canLayAll0 ds = true
  dep : PyData.depthAll ds ≤ 40
theorem canLay_app : ∀ xs ys : List D, PyData.canLayAll0 (xs ++ ys) = (PyData.canLayAll0 xs && PyData.canLayAll0 ys)
  | [], ys => by simp [PyData.canLayAll0]
  | x :: xs, ys => by rw [List.cons_append, PyData.canLayAll0, PyData.canLayAll0, canLay_app xs ys, Bool.and_assoc]
theorem dep_app : ∀ xs ys : List D, PyData.depthAll (xs ++ ys) = max (PyData.depthAll xs) (PyData.depthAll ys)
  | [], ys => by simp [PyData.depthAll]
  | x :: xs, ys => by rw [List.cons_append, PyData.depthAll, PyData.depthAll, dep_app xs ys]; omega
theorem pr_lay : ∀ ws : List D, PyData.canLayAll0 ws = true → PyData.canLayAll0 (ws.map pr) = true
  | [], _ => rfl
  | d :: ws, h => by
    rw [PyData.canLayAll0, Bool.and_eq_true] at h
    rw [List.map_cons, PyData.canLayAll0, pr_lay ws h.2]
    simp [pr, PyData.canLay0, PyData.canLayAll0, h.1]
theorem pr_dep : ∀ ws : List D, PyData.depthAll (ws.map pr) ≤ PyData.depthAll ws + 1
  | [] => Nat.zero_le _
  | d :: ws => by
    have := pr_dep ws
    rw [List.map_cons, PyData.depthAll, PyData.depthAll]
    have e : (pr d).depth = d.depth + 1 := by
      simp [pr, PyData.depth, PyData.depthAll]
    omega
theorem neD_wait (ws : List D) (g : Gd ws) : neD (.list (ws.map pr)) (.list []) = some (.bool (!decide (ws = []))) := by
  unfold neD
  have h1 : SeqAt.shaped (.list (ws.map pr)) = true := by
    unfold SeqAt.shaped
    rw [PyData.canLay0, pr_lay ws g.lay, PyData.depth]
    have := pr_dep ws
    have := g.dep
    simp
    omega
  have h2 : SeqAt.shaped (.list []) = true := rfl
  rw [h1, h2]
  cases ws with
  | nil => rfl
  | cons d ws =>
    simp only [List.map_cons, PyData.eqv, PyData.eqvAll]
    rfl
theorem pop_app (xs : List D) (x : D) : opPop (.list (xs ++ [x])) [] = some (x, .list xs) := by
  show ((xs ++ [x])[(xs ++ [x]).length - 1]?).map (fun d => (d, PyData.list (xs ++ [x]).dropLast)) = _
  rw [List.length_append, List.length_singleton, Nat.add_sub_cancel, List.getElem?_append_right (Nat.le_refl _), Nat.sub_self, List.dropLast_concat]
  rfl
theorem map_getD (xs : List D) : (List.range xs.length).map (fun k => pr (xs[k]?.getD .none)) = xs.map pr := by
  apply List.ext_getElem?
  intro i
  rw [List.getElem?_map, List.getElem?_map]
  by_cases h : i < xs.length
  · rw [List.getElem?_range h]
    show some (pr (xs[i]?.getD .none)) = _
    rw [List.getElem?_eq_getElem h]
    rfl
  · rw [List.getElem?_eq_none (by simpa using Nat.le_of_not_lt h), List.getElem?_eq_none (Nat.le_of_not_lt h)]
    rfl
theorem same_block (xs : List D) (hz : xs.length ≤ 1000000) (x d w : D) (a b : D) (hd : a = .tuple xs ∨ a = .list xs) :
    lcB [7] (gN 7) cYes _law_same_E4 (rngD 0 xs.length) [.sh x, .sh d, .ow w, .sh a, .sh a, .un, .un, .un] = some (xs.map pr, [.sh x, .sh d, .ow w, .sh a, .sh a, .un, .un, .un]) := by
  have z2 : 2 ≤ sizeLine := sizeLe 2 (by omega)
  have X := lcB_map (own := [7]) (g := gN 7) (t := cYes) (e := _law_same_E4) (ρ := [.sh x, .sh d, .ow w, .sh a, .sh a, .un, .un, .un]) (fun k : Nat => .int (k : Int)) (fun k => pr (xs[k]?.getD .none)) (List.range xs.length) (fun k hk => by
    have hk := List.mem_range.mp hk
    have e : xs[k]? = some xs[k] := List.getElem?_eq_getElem hk
    rcases hd with rfl | rfl <;> simp -implicitDefEqProofs [_law_same_E4, e, z2, pr])
  rw [map_getD] at X
  have er : (List.range xs.length).map (fun k : Nat => PyData.int (k : Int)) = rngD 0 xs.length := by
    unfold rngD
    simp
  rw [er] at X
  exact X
theorem same_turn (x due : D) (ws : List D) (d : D) (g : Gd (ws ++ [d])) (hz : szs (ws ++ [d]) ≤ 1000000) (s3 s4 : Sl) (h3 : NI s3) (h4 : NI s4) :
    ∃ ws' s3' s4', NI s3' ∧ NI s4' ∧ Gd ws' ∧ szs ws' < szs (ws ++ [d]) ∧ _law_same_W1 [.sh x, .sh due, .ow (.list ((ws ++ [d]).map pr)), s3, s4, .un, .un, .un] = some (.nx [.sh x, .sh due, .ow (.list (ws'.map pr)), s3', s4', .un, .un, .un]) := by
  have gl := g.lay
  have gd := g.dep
  rw [canLay_app, Bool.and_eq_true] at gl
  rw [dep_app] at gd
  rw [szs_app] at hz ⊢
  obtain ⟨gl1, gl2⟩ := gl
  rw [PyData.canLayAll0, Bool.and_eq_true] at gl2
  have gl2 := gl2.1
  have hs1 : szs [d] = sz d := by simp [szs]
  rw [hs1] at hz ⊢
  have gdd : d.depth ≤ 40 := by
    rw [PyData.depthAll] at gd
    omega
  have gws : Gd ws := ⟨gl1, by omega⟩
  have wl := szs_len ws
  unfold NI at h3 h4
  have hp := pop_app (ws.map pr) (pr d)
  rw [List.map_append]
  have shp : SeqAt.shaped d = true := by
    unfold SeqAt.shaped
    rw [gl2]
    simp
    omega
  have nn := neD_same shp
  have nb := fun b => neD_same (d := .bool b) rfl
  have seq : ∀ xs : List D, (d = .tuple xs ∨ d = .list xs) → ∃ ws' s3' s4', NI s3' ∧ NI s4' ∧ Gd ws' ∧ szs ws' < szs ws + sz d ∧ _law_same_W1 [.sh x, .sh due, .ow (.list (ws.map pr ++ [pr d])), s3, s4, .un, .un, .un] = some (.nx [.sh x, .sh due, .ow (.list (ws'.map pr)), s3', s4', .un, .un, .un]) := by
    intro xs hd
    have hsz : sz d = szs xs + 1 := by rcases hd with rfl | rfl <;> simp [sz]
    have hl := szs_len xs
    have b1 : bdI (xs.length : Int) = true := bdI_of (by omega) (by omega)
    have z1 : xs.length ≤ sizeLine := sizeLe _ (by omega)
    have z2 : ws.length + xs.length ≤ sizeLine := sizeLe _ (by omega)
    have blk := same_block xs (by omega) x due (.list (ws.map pr)) d d hd
    have gx : PyData.canLayAll0 xs = true ∧ PyData.depthAll xs ≤ 40 := by
      rcases hd with rfl | rfl
      · rw [PyData.canLay0] at gl2
        rw [PyData.depth] at gdd
        exact ⟨gl2, by omega⟩
      · rw [PyData.canLay0] at gl2
        rw [PyData.depth] at gdd
        exact ⟨gl2, by omega⟩
    refine ⟨ws ++ xs, .sh d, .sh d, rfl, rfl, ⟨by rw [canLay_app, gl1, gx.1]; rfl, by rw [dep_app]; omega⟩, by rw [szs_app]; omega, ?_⟩
    have np : ∀ y, pr y = .tuple [y, y] := fun _ => rfl
    rw [np] at hp ⊢
    have nl := neD_same (d := .int xs.length) rfl
    rcases hd with rfl | rfl <;> simp -implicitDefEqProofs [-opPop, _law_same_W1, hp, h3, h4, nb, nl, b1, blk, z1, z2]
  have atom : sz d = 1 → _law_same_W1 [.sh x, .sh due, .ow (.list (ws.map pr ++ [pr d])), s3, s4, .un, .un, .un] = some (.nx [.sh x, .sh due, .ow (.list (ws.map pr)), .sh d, .sh d, .un, .un, .un]) → ∃ ws' s3' s4', NI s3' ∧ NI s4' ∧ Gd ws' ∧ szs ws' < szs ws + sz d ∧ _law_same_W1 [.sh x, .sh due, .ow (.list (ws.map pr ++ [pr d])), s3, s4, .un, .un, .un] = some (.nx [.sh x, .sh due, .ow (.list (ws'.map pr)), s3', s4', .un, .un, .un]) := fun h1 h =>
    ⟨ws, .sh d, .sh d, rfl, rfl, gws, by omega, h⟩
  have np : ∀ y, pr y = .tuple [y, y] := fun _ => rfl
  cases d with
  | list xs => exact seq xs (.inr rfl)
  | tuple xs => exact seq xs (.inl rfl)
  | dict es => simp [PyData.canLay0] at gl2
  | none =>
    refine atom rfl ?_
    rw [np] at hp ⊢
    simp -implicitDefEqProofs [-opPop, _law_same_W1, hp, h3, h4, nb, nn]
  | bool b =>
    refine atom rfl ?_
    rw [np] at hp ⊢
    simp -implicitDefEqProofs [-opPop, _law_same_W1, hp, h3, h4, nb, nn]
  | int i =>
    refine atom rfl ?_
    rw [np] at hp ⊢
    simp -implicitDefEqProofs [-opPop, _law_same_W1, hp, h3, h4, nb, nn]
  | str s =>
    refine atom rfl ?_
    rw [np] at hp ⊢
    simp -implicitDefEqProofs [-opPop, _law_same_W1, hp, h3, h4, nb, nn]
theorem same_eq (d : D) (hl : d.canLay0 = true) (hd : d.depth ≤ 40) (hz : sz d ≤ 1000000) : m__law_same [d, d] = some (.bool true) := by
  have z2 : 2 ≤ sizeLine := sizeLe 2 (by omega)
  have z1 : 1 ≤ sizeLine := sizeLe 1 (by omega)
  obtain ⟨ρ, e, _⟩ := whileN_inv (c := _law_same_C1) (b := _law_same_W1) (fun m ρ => ∃ ws s3 s4, NI s3 ∧ NI s4 ∧ Gd ws ∧ m = szs ws ∧ szs ws ≤ 1000000 ∧ ρ = [.sh d, .sh d, .ow (.list (ws.map pr)), s3, s4, .un, .un, .un]) (fun _ => True) (by
    rintro m ρ ⟨ws, s3, s4, h3, h4, g, rfl, hz, rfl⟩
    have nw := neD_wait ws g
    have z0 : 0 ≤ sizeLine := Nat.zero_le _
    by_cases hw : ws = []
    · rw [decide_eq_true hw] at nw
      exact ⟨false, _, by simp -implicitDefEqProofs [_law_same_C1, opLst, nw]; rfl, fun _ => trivial, fun z => by cases z⟩
    · rw [decide_eq_false hw] at nw
      refine ⟨true, [.sh d, .sh d, .ow (.list (ws.map pr)), s3, s4, .un, .un, .un], by simp -implicitDefEqProofs [_law_same_C1, opLst, nw], fun z => by (cases z), fun _ => ?_⟩
      obtain ⟨ws0, x, rfl⟩ : ∃ ws0 x, ws = ws0 ++ [x] := ⟨ws.dropLast, ws.getLast hw, (List.dropLast_concat_getLast hw).symm⟩
      obtain ⟨ws', s3', s4', h3', h4', g', lt, e⟩ := same_turn d d ws0 x g hz s3 s4 h3 h4
      exact ⟨szs ws', lt, _, .inl e, ws', s3', s4', h3', h4', g', rfl, by omega, rfl⟩)
    (szs [d]) [.sh d, .sh d, .ow (.list ([d].map pr)), .un, .un, .un, .un, .un] 1099511627776 ⟨[d], .un, .un, rfl, rfl, ⟨by simp [PyData.canLayAll0, hl], by simp [PyData.depthAll]; omega⟩, rfl, by simp [szs]; omega, rfl⟩ (by simp [szs]; omega)
  have e : whileN _law_same_C1 _law_same_W1 1099511627776 [.sh d, .sh d, .ow (.list [.tuple [d, d]]), .un, .un, .un, .un, .un] = _ := e
  simp -implicitDefEqProofs [m__law_same, B__law_same, opTup, opLst, z1, z2, e]
end DL

set_option maxHeartbeats 1000000
/-! DTA: what a denotation does in an environment of which only some slots are known (abstract slots); judgements by values. -/
namespace DL
open PySem L2
/-! ### abstract slots -/
inductive ASl where
  | a | u | s (d : D) | r (d : D) | o (d : D) | i (d : D)
abbrev Ctx := List ASl
def Ms : ASl → Sl → Prop
  | .a, x => isIo (some x) = false
  | .u, x => plainS (some x) = true
  | .s d, x => x = .sh d
  | .r d, x => x = .sh d ∨ x = .ow d
  | .o d, x => x = .ow d
  | .i d, x => x = .io d
inductive Ag : Ctx → Env → Prop
  | nil : Ag [] []
  | cons {x : ASl} {y : Sl} {Γ : Ctx} {ρ : Env} : Ms x y → Ag Γ ρ → Ag (x :: Γ) (y :: ρ)
section
variable {Γ Γ' : Ctx} {ρ : Env}
theorem Ag.at (h : Ag Γ ρ) : ∀ {i : Nat} {x : ASl}, Γ[i]? = some x → ∃ y, ρ[i]? = some y ∧ Ms x y := by
  induction h with
  | nil => intro i x e; simp at e
  | cons m _ ih =>
    intro i x e
    cases i with
    | zero =>
      simp at e
      subst e
      exact ⟨_, rfl, m⟩
    | succ i =>
      obtain ⟨y, e1, e2⟩ := ih (by simpa using e)
      exact ⟨y, by simpa using e1, e2⟩
theorem Ag.set {x : ASl} {y : Sl} (m : Ms x y) (h : Ag Γ ρ) : ∀ (i : Nat), Ag (Γ.set i x) (ρ.set i y) := by
  induction h with
  | nil => intro i; exact .nil
  | cons m' t ih =>
    intro i
    cases i with
    | zero => exact .cons m t
    | succ i => exact .cons m' (ih i)
theorem Ag.set_l {x z : ASl} (h : Ag Γ ρ) {i : Nat} (e : Γ[i]? = some z) (m : ∀ y, Ms z y → Ms x y) : Ag (Γ.set i x) ρ := by
  induction h generalizing i with
  | nil => exact .nil
  | cons m' t ih =>
    cases i with
    | zero =>
      simp at e
      subst e
      exact .cons (m _ m') t
    | succ i => exact .cons m' (ih (by simpa using e))
theorem Ag.len (h : Ag Γ ρ) : Γ.length = ρ.length := by
  induction h with
  | nil => rfl
  | cons _ _ ih => simp [ih]
theorem Ag.set_s {d : D} (h : Ag Γ ρ) (i : Nat) : Ag (Γ.set i (.s d)) (ρ.set i (.sh d)) := h.set (show Ms (.s d) (.sh d) from rfl) i
theorem Ag.set_o {d : D} (h : Ag Γ ρ) (i : Nat) : Ag (Γ.set i (.o d)) (ρ.set i (.ow d)) := h.set (show Ms (.o d) (.ow d) from rfl) i
theorem Ag.set_i {d : D} (h : Ag Γ ρ) (i : Nat) : Ag (Γ.set i (.i d)) (ρ.set i (.io d)) := h.set (show Ms (.i d) (.io d) from rfl) i
theorem set_self : ∀ {l : Ctx} {i : Nat} {x : ASl}, l[i]? = some x → l.set i x = l
  | [], _, _, _ => rfl
  | y :: l, 0, x, h => by
    simp at h
    subst h
    rfl
  | y :: l, i + 1, x, h => by
    rw [List.set_cons_succ, set_self (by simpa using h)]
/-- what may be read -/
def rdA : Option ASl → Option D
  | some (.s d) => some d
  | some (.r d) => some d
  | some (.o d) => some d
  | some (.i d) => some d
  | _ => none
def nio : Option ASl → Bool
  | some (.i _) => false
  | _ => true
def wrA : Option ASl → Option D
  | some (.o d) => some d
  | some (.i d) => some d
  | _ => none
/-- a new value in a slot that may be written -/
def puA (Γ : Ctx) (i : Nat) (d : D) : Ctx := match Γ[i]? with
  | some (.i _) => Γ.set i (.i d)
  | _ => Γ.set i (.o d)
theorem Ag.look (h : Ag Γ ρ) {i : Nat} {d : D} (e : rdA Γ[i]? = some d) : DL.look ρ i = some d := by
  cases q : Γ[i]? with
  | none => rw [q] at e; cases e
  | some x =>
    rw [q] at e
    obtain ⟨y, e1, m⟩ := h.at q
    unfold DL.look
    rw [e1]
    cases x with
    | a => cases e
    | u => cases e
    | s d' =>
      cases e
      rw [show y = .sh d from m]
    | r d' =>
      cases e
      rcases m with m | m <;> rw [m]
    | o d' =>
      cases e
      rw [show y = .ow d from m]
    | i d' =>
      cases e
      rw [show y = .io d from m]
theorem Ag.lookO (h : Ag Γ ρ) {i : Nat} {d : D} (e : wrA Γ[i]? = some d) : DL.lookO ρ i = some d := by
  cases q : Γ[i]? with
  | none => rw [q] at e; cases e
  | some x =>
    rw [q] at e
    obtain ⟨y, e1, m⟩ := h.at q
    unfold DL.lookO
    rw [e1]
    cases x with
    | o d' =>
      cases e
      rw [show y = .ow d from m]
    | i d' =>
      cases e
      rw [show y = .io d from m]
    | _ => cases e
theorem Ag.setC (h : Ag Γ ρ) {i : Nat} {d : D} (e : wrA Γ[i]? = some d) (d' : D) : ∃ ρ', DL.setC ρ i d' = some ρ' ∧ Ag (puA Γ i d') ρ' := by
  cases q : Γ[i]? with
  | none => rw [q] at e; cases e
  | some x =>
    rw [q] at e
    obtain ⟨y, e1, m⟩ := h.at q
    unfold DL.setC puA
    rw [e1, q]
    cases x with
    | o d' =>
      rw [show y = .ow d' from m]
      exact ⟨_, rfl, h.set_o i⟩
    | i d' =>
      rw [show y = .io d' from m]
      exact ⟨_, rfl, h.set_i i⟩
    | _ => cases e
theorem Ms.nio {x : ASl} {y : Sl} (m : Ms x y) (h : nio (some x) = true) : isIo (some y) = false := by
  cases x with
  | a => exact m
  | u =>
    cases y with
    | io d => cases m
    | _ => rfl
  | s d => rw [show y = .sh d from m]; rfl
  | r d => rcases m with m | m <;> rw [m] <;> rfl
  | o d => rw [show y = .ow d from m]; rfl
  | i d => cases h
theorem Ag.nio (h : Ag Γ ρ) {i : Nat} (e : DL.nio Γ[i]? = true) : isIo ρ[i]? = false := by
  cases q : Γ[i]? with
  | none =>
    have : ρ[i]? = none := by
      rw [List.getElem?_eq_none_iff] at q ⊢
      rw [← h.len]
      exact q
    rw [this]
    rfl
  | some x =>
    obtain ⟨y, e1, m⟩ := h.at q
    rw [q] at e
    rw [e1]
    exact m.nio e
/-! ### weaker -/
inductive W1 : ASl → ASl → Prop
  | k {x : ASl} : W1 x x
  | sr {d : D} : W1 (.s d) (.r d)
  | or {d : D} : W1 (.o d) (.r d)
  | su {d : D} : W1 (.s d) .u
  | sa {d : D} : W1 (.s d) .a
  | ra {d : D} : W1 (.r d) .a
  | oa {d : D} : W1 (.o d) .a
  | ua : W1 .u .a
theorem W1.ms {x z : ASl} {y : Sl} (w : W1 x z) (m : Ms x y) : Ms z y := by
  cases w with
  | k => exact m
  | sr => exact .inl m
  | or => exact .inr m
  | su => rw [show y = .sh _ from m]; rfl
  | sa => exact m.nio rfl
  | ra => exact m.nio rfl
  | oa => exact m.nio rfl
  | ua => exact m.nio rfl
inductive Wk : Ctx → Ctx → Prop
  | nil : Wk [] []
  | c {x y : ASl} {Γ Γ' : Ctx} : W1 x y → Wk Γ Γ' → Wk (x :: Γ) (y :: Γ')
theorem Wk.refl : ∀ Γ : Ctx, Wk Γ Γ
  | [] => .nil
  | _ :: Γ => .c .k (Wk.refl Γ)
theorem Ag.wk (h : Ag Γ ρ) (w : Wk Γ Γ') : Ag Γ' ρ := by
  induction h generalizing Γ' with
  | nil => cases w; exact .nil
  | cons m _ ih =>
    cases w with
    | c w1 w2 => exact .cons (w1.ms m) (ih w2)
end
/-! ### judgements -/
def JE (Γ : Ctx) (e : Den) (d : D) (Γ' : Ctx) : Prop := ∀ ρ, Ag Γ ρ → ∃ ρ', e ρ = some (d, ρ') ∧ Ag Γ' ρ'
def JT (Γ : Ctx) (e : TDen) (b : Bool) (Γ' : Ctx) : Prop := ∀ ρ, Ag Γ ρ → ∃ ρ', e ρ = some (b, ρ') ∧ Ag Γ' ρ'
def JA (Γ : Ctx) (e : ADen) (ds : List D) (Γ' : Ctx) : Prop := ∀ ρ, Ag Γ ρ → ∃ ρ', e ρ = some (ds, ρ') ∧ Ag Γ' ρ'
def JO (Γ : Ctx) (o : ODen) (h : Hd) (Γ' : Ctx) : Prop := ∀ ρ, Ag Γ ρ → ∃ ρ', o ρ = some (h, ρ') ∧ Ag Γ' ρ'
def HR (Γ : Ctx) (h : Hd) (d : D) : Prop := ∀ ρ, Ag Γ ρ → res ρ h = some d
def JP (Γ : Ctx) (e : PDen) (x : Option Int) (Γ' : Ctx) : Prop := ∀ ρ, Ag Γ ρ → ∃ ρ', e ρ = some (x, ρ') ∧ Ag Γ' ρ'
def JI (Γ : Ctx) (e : IDen) (ds : List D) (Γ' : Ctx) : Prop := ∀ ρ, Ag Γ ρ → ∃ ρ', e ρ = some (ds, ρ') ∧ Ag Γ' ρ'
def JRg (Γ : Ctx) (e : RDen) (x : Int × Int) (Γ' : Ctx) : Prop := ∀ ρ, Ag Γ ρ → ∃ ρ', e ρ = some (x, ρ') ∧ Ag Γ' ρ'
def JG (Γ : Ctx) (g : GDen) (d : D) (Γ' : Ctx) : Prop := ∀ ρ, Ag Γ ρ → ∃ ρ', g d ρ = some ρ' ∧ Ag Γ' ρ'
def JGs (Γ : Ctx) (g : GsDen) (d : List D) (Γ' : Ctx) : Prop := ∀ ρ, Ag Γ ρ → ∃ ρ', g d ρ = some ρ' ∧ Ag Γ' ρ'
def JN (Γ : Ctx) (B : SDen) (Γ' : Ctx) : Prop := ∀ ρ, Ag Γ ρ → ∃ ρ', B ρ = some (.nx ρ') ∧ Ag Γ' ρ'
/-- the same, the end by a state -/
def JM {S : Type} (Γk : S → Ctx) (Γ : Ctx) (B : SDen) (s : S) : Prop := JN Γ B (Γk s)
/-- B always hands back -/
def JR {R : Type} (er : R → D) (Pr : R → Env → Prop) (Γ : Ctx) (B : SDen) (r : R) : Prop := ∀ ρ, Ag Γ ρ → ∃ ρ', B ρ = some (.rt (er r) ρ') ∧ Pr r ρ'
inductive Fw (S R : Type) where
  | nx (s : S) | bk (s : S) | rt (r : R)
/-- a loop's body, to its end -/
def JF {S R : Type} (er : R → D) (Pr : R → Env → Prop) (Γn : S → Ctx) (Γ : Ctx) (B : SDen) : Fw S R → Prop
  | .nx s => ∀ ρ, Ag Γ ρ → ∃ ρ', (B ρ = some (.nx ρ') ∨ B ρ = some (.ct ρ')) ∧ Ag (Γn s) ρ'
  | .bk s => ∀ ρ, Ag Γ ρ → ∃ ρ', B ρ = some (.bk ρ') ∧ Ag (Γn s) ρ'
  | .rt r => ∀ ρ, Ag Γ ρ → ∃ ρ', B ρ = some (.rt (er r) ρ') ∧ Pr r ρ'
/-- a name for a value -/
def bnd {α : Type} {β : Sort u} (v : α) (k : α → β) : β := k v
theorem bnd_eq {α : Type} {β : Sort u} (v : α) (k : α → β) : bnd v k = k v := (rfl)
def pr0 {R : Type} : R → Env → Prop := fun _ _ => True
section
variable {Γ Γ1 Γ2 Γ3 : Ctx} {e f : Den} {t t' : TDen} {d d1 d2 d3 : D} {o o' o2 : ODen} {h h1 h2 h3 : Hd} {i : Nat} {a : ADen} {ds ds' : List D} {A B : SDen}
theorem JE.pre (w : Wk Γ Γ1) (j : JE Γ1 e d Γ2) : JE Γ e d Γ2 := fun ρ g => j ρ (g.wk w)
theorem JE.post (j : JE Γ e d Γ1) (w : Wk Γ1 Γ2) : JE Γ e d Γ2 := fun ρ g => by
  obtain ⟨ρ', x, y⟩ := j ρ g
  exact ⟨ρ', x, y.wk w⟩
theorem JT.pre (w : Wk Γ Γ1) {b : Bool} (j : JT Γ1 t b Γ2) : JT Γ t b Γ2 := fun ρ g => j ρ (g.wk w)
theorem JI.pre (w : Wk Γ Γ1) {s : IDen} (j : JI Γ1 s ds Γ2) : JI Γ s ds Γ2 := fun ρ g => j ρ (g.wk w)
theorem JN.pre (w : Wk Γ Γ1) (j : JN Γ1 B Γ2) : JN Γ B Γ2 := fun ρ g => j ρ (g.wk w)
theorem JN.post (j : JN Γ B Γ1) (w : Wk Γ1 Γ2) : JN Γ B Γ2 := fun ρ g => by
  obtain ⟨ρ', x, y⟩ := j ρ g
  exact ⟨ρ', x, y.wk w⟩
theorem je_c : JE Γ (cC d) d Γ := fun ρ g => ⟨ρ, rfl, g⟩
theorem je_s (hi : Γ[i]? = some (.s d)) : JE Γ (cVar i) d Γ := fun ρ g => by
  obtain ⟨y, e1, m⟩ := g.at hi
  refine ⟨ρ, ?_, g⟩
  unfold cVar
  rw [e1, show y = .sh d from m]
theorem je_r (hi : Γ[i]? = some (.r d)) : JE Γ (cVar i) d Γ := fun ρ g => by
  obtain ⟨y, e1, m⟩ := g.at hi
  unfold cVar
  rcases m with m | m
  · refine ⟨ρ, ?_, g⟩
    rw [e1, m]
  · refine ⟨ρ.set i (.sh d), ?_, ?_⟩
    · rw [e1, m]
    · have := g.set (show Ms (.r d) (.sh d) from .inl rfl) i
      rwa [show Γ.set i (.r d) = Γ from set_self hi] at this
theorem jo_n (hi : rdA Γ[i]? = some d) : JO Γ (oN i) (.slot i) Γ := fun ρ g => by
  refine ⟨ρ, ?_, g⟩
  unfold oN
  rw [g.look hi]
  rfl
theorem jo_e (j : JE Γ e d Γ1) : JO Γ (oE e) (.val d) Γ1 := fun ρ g => by
  obtain ⟨ρ', x, y⟩ := j ρ g
  refine ⟨ρ', ?_, y⟩
  unfold oE
  rw [x]
  rfl
theorem hr_v : HR Γ (.val d) d := fun _ _ => rfl
theorem hr_n (hi : rdA Γ[i]? = some d) : HR Γ (.slot i) d := fun ρ g => g.look hi
theorem je_bin {op : D → D → Option D} (j1 : JO Γ o h1 Γ1) (j2 : JO Γ1 o2 h2 Γ2) (r1 : HR Γ2 h1 d1) (r2 : HR Γ2 h2 d2) (q : op d1 d2 = some d) : JE Γ (cBin op o o2) d Γ2 := fun ρ g => by
  obtain ⟨ρ1, x1, g1⟩ := j1 ρ g
  obtain ⟨ρ2, x2, g2⟩ := j2 ρ1 g1
  refine ⟨ρ2, ?_, g2⟩
  unfold cBin
  simp only [x1, x2, Option.bind_some, r1 ρ2 g2, r2 ρ2 g2, q]
theorem je_un {op : D → Option D} (j1 : JO Γ o h1 Γ1) (r1 : HR Γ1 h1 d1) (q : op d1 = some d) : JE Γ (cUn op o) d Γ1 := fun ρ g => by
  obtain ⟨ρ1, x1, g1⟩ := j1 ρ g
  refine ⟨ρ1, ?_, g1⟩
  unfold cUn
  simp only [x1, Option.bind_some, r1 ρ1 g1, q]
theorem ja_n : JA Γ cNil [] Γ := fun ρ g => ⟨ρ, rfl, g⟩
theorem ja_c (j1 : JE Γ e d Γ1) (j2 : JA Γ1 a ds Γ2) : JA Γ (cCons e a) (d :: ds) Γ2 := fun ρ g => by
  obtain ⟨ρ1, x1, g1⟩ := j1 ρ g
  obtain ⟨ρ2, x2, g2⟩ := j2 ρ1 g1
  refine ⟨ρ2, ?_, g2⟩
  unfold cCons
  simp only [x1, x2, Option.bind_some]
theorem je_args {op : List D → Option D} (j : JA Γ a ds Γ1) (q : op ds = some d) : JE Γ (cArgs op a) d Γ1 := fun ρ g => by
  obtain ⟨ρ1, x1, g1⟩ := j ρ g
  refine ⟨ρ1, ?_, g1⟩
  unfold cArgs
  simp only [x1, Option.bind_some, q]
theorem je_chain {op op' : D → D → Option D} {b c : Bool} (j1 : JO Γ o h1 Γ) (j2 : JO Γ o' h2 Γ) (j3 : JO Γ o2 h3 Γ) (r1 : HR Γ h1 d1) (r2 : HR Γ h2 d2) (r3 : HR Γ h3 d3) (q1 : op d1 d2 = some (.bool b)) (q2 : b = true → op' d2 d3 = some (.bool c)) : JE Γ (cChain op op' o o' o2) (.bool (b && c)) Γ := fun ρ g => by
  obtain ⟨ρ1, x1, g1⟩ := j1 ρ g
  obtain ⟨ρ2, x2, g2⟩ := j2 ρ1 g1
  rw [cChain_ap, x1]
  simp only [Option.bind_some, cChain_0_e, x2, cChain_1_e, r1 ρ2 g2, r2 ρ2 g2, cChain_2_e, cChain_3_e, q1, cChain_4_e, cChain_5_e, asB]
  cases b with
  | false => exact ⟨ρ2, rfl, g2⟩
  | true =>
    obtain ⟨ρ3, x3, g3⟩ := j3 ρ2 g2
    refine ⟨ρ3, ?_, g3⟩
    simp only [chK_t, chT_ap, x3, Option.bind_some, chT_0_e, r2 ρ3 g3, r3 ρ3 g3, chT_1_e, chT_2_e, q2 rfl, chT_3_e, Bool.true_and]
theorem jt_c {b : Bool} (j : JE Γ e (.bool b) Γ1) : JT Γ (cT e) b Γ1 := fun ρ g => by
  obtain ⟨ρ1, x1, g1⟩ := j ρ g
  refine ⟨ρ1, ?_, g1⟩
  unfold cT
  simp only [x1, Option.bind_some, asB]
theorem jt_and {b c : Bool} (j1 : JT Γ t b Γ) (j2 : b = true → JT Γ t' c Γ) : JT Γ (cAnd t t') (b && c) Γ := fun ρ g => by
  obtain ⟨ρ1, x1, g1⟩ := j1 ρ g
  rw [cAnd_ap, x1]
  cases b with
  | false => exact ⟨ρ1, rfl, g1⟩
  | true => exact j2 rfl ρ1 g1
theorem jt_or {b c : Bool} (j1 : JT Γ t b Γ) (j2 : b = false → JT Γ t' c Γ) : JT Γ (cOr t t') (b || c) Γ := fun ρ g => by
  obtain ⟨ρ1, x1, g1⟩ := j1 ρ g
  rw [cOr_ap, x1]
  cases b with
  | true => exact ⟨ρ1, rfl, g1⟩
  | false => exact j2 rfl ρ1 g1
theorem jt_not {b : Bool} (j1 : JT Γ t b Γ1) : JT Γ (cNot t) (!b) Γ1 := fun ρ g => by
  obtain ⟨ρ1, x1, g1⟩ := j1 ρ g
  refine ⟨ρ1, ?_, g1⟩
  unfold cNot
  simp only [x1, Option.bind_some]
theorem jt_yes : JT Γ cYes true Γ := fun ρ g => ⟨ρ, rfl, g⟩
theorem je_and {b c : Bool} (j1 : JE Γ e (.bool b) Γ) (j2 : b = true → JE Γ f (.bool c) Γ) : JE Γ (cAndV e f) (.bool (b && c)) Γ := fun ρ g => by
  obtain ⟨ρ1, x1, g1⟩ := j1 ρ g
  unfold cAndV
  simp only [x1, Option.bind_some, asB]
  cases b with
  | false => exact ⟨ρ1, rfl, g1⟩
  | true => exact j2 rfl ρ1 g1
theorem je_or {b c : Bool} (j1 : JE Γ e (.bool b) Γ) (j2 : b = false → JE Γ f (.bool c) Γ) : JE Γ (cOrV e f) (.bool (b || c)) Γ := fun ρ g => by
  obtain ⟨ρ1, x1, g1⟩ := j1 ρ g
  unfold cOrV
  simp only [x1, Option.bind_some, asB]
  cases b with
  | true => exact ⟨ρ1, rfl, g1⟩
  | false => exact j2 rfl ρ1 g1
/-- a choice; en: how the value is written -/
theorem je_if {α : Type} {en : α → D} {b : Bool} {x y : α} (j1 : JT Γ t b Γ1) (j2 : b = true → JE Γ1 e (en x) Γ2) (j3 : b = false → JE Γ1 f (en y) Γ2) : JE Γ (cIf t e f) (en (cond b x y)) Γ2 := fun ρ g => by
  obtain ⟨ρ1, x1, g1⟩ := j1 ρ g
  rw [cIf_ap, x1]
  cases b with
  | true => exact j2 rfl ρ1 g1
  | false => exact j3 rfl ρ1 g1
theorem jp_no : JP Γ pNo none Γ := fun ρ g => ⟨ρ, rfl, g⟩
theorem jp_so {x : Int} (j1 : JO Γ o h1 Γ1) (r1 : HR Γ1 h1 (.int x)) : JP Γ (pSo o) (some x) Γ1 := fun ρ g => by
  obtain ⟨ρ1, x1, g1⟩ := j1 ρ g
  refine ⟨ρ1, ?_, g1⟩
  unfold pSo
  simp only [x1, Option.bind_some, r1 ρ1 g1, asI]
theorem je_sl {l k : PDen} {x y : Option Int} (j1 : JO Γ o h1 Γ1) (j2 : JP Γ1 l x Γ2) (j3 : JP Γ2 k y Γ3) (r1 : HR Γ3 h1 d1) (q : slD d1 x y = some d) : JE Γ (cSl o l k) d Γ3 := fun ρ g => by
  obtain ⟨ρ1, x1, g1⟩ := j1 ρ g
  obtain ⟨ρ2, x2, g2⟩ := j2 ρ1 g1
  obtain ⟨ρ3, x3, g3⟩ := j3 ρ2 g2
  refine ⟨ρ3, ?_, g3⟩
  unfold cSl
  simp only [x1, x2, x3, Option.bind_some, r1 ρ3 g3, q]
/-! ### sources of loops -/
theorem ji_e (j : JE Γ e d Γ1) (q : itD d = some ds) : JI Γ (iE e) ds Γ1 := fun ρ g => by
  obtain ⟨ρ1, x1, g1⟩ := j ρ g
  refine ⟨ρ1, ?_, g1⟩
  unfold iE
  simp only [x1, Option.bind_some, q]
theorem ji_a {op : List D → Option (List D)} (j : JA Γ a ds Γ1) (q : op ds = some ds') : JI Γ (iA op a) ds' Γ1 := fun ρ g => by
  obtain ⟨ρ1, x1, g1⟩ := j ρ g
  refine ⟨ρ1, ?_, g1⟩
  unfold iA
  simp only [x1, Option.bind_some, q]
theorem jrg_1 {x : Int} (j : JE Γ e (.int x) Γ1) : JRg Γ (rg1O e) (0, x) Γ1 := fun ρ g => by
  obtain ⟨ρ1, x1, g1⟩ := j ρ g
  refine ⟨ρ1, ?_, g1⟩
  unfold rg1O
  simp only [x1, Option.bind_some, asI]
theorem jrg_2 {x y : Int} (j : JE Γ e (.int x) Γ1) (j2 : JE Γ1 f (.int y) Γ2) : JRg Γ (rg2O e f) (x, y) Γ2 := fun ρ g => by
  obtain ⟨ρ1, x1, g1⟩ := j ρ g
  obtain ⟨ρ2, x2, g2⟩ := j2 ρ1 g1
  refine ⟨ρ2, ?_, g2⟩
  unfold rg2O
  simp only [x1, x2, Option.bind_some, asI]
theorem je_lrg {r : RDen} {x : Int × Int} (j : JRg Γ r x Γ1) (q : rgB x.1 x.2 = true) : JE Γ (cLstRg r) (.list (rngD x.1 (x.2 - x.1).toNat)) Γ1 := fun ρ g => by
  obtain ⟨ρ1, x1, g1⟩ := j ρ g
  refine ⟨ρ1, ?_, g1⟩
  unfold cLstRg
  simp only [x1, Option.bind_some, q, if_true]
theorem je_trg {r : RDen} {x : Int × Int} (j : JRg Γ r x Γ1) (q : rgB x.1 x.2 = true) : JE Γ (cTupRg r) (.tuple (rngD x.1 (x.2 - x.1).toNat)) Γ1 := fun ρ g => by
  obtain ⟨ρ1, x1, g1⟩ := j ρ g
  refine ⟨ρ1, ?_, g1⟩
  unfold cTupRg
  simp only [x1, Option.bind_some, q, if_true]
/-! ### targets -/
theorem jg_n (hn : nio Γ[i]? = true) : JG Γ (gN i) d (Γ.set i (.s d)) := fun ρ g => by
  refine ⟨ρ.set i (.sh d), ?_, g.set_s i⟩
  unfold gN
  rw [g.nio hn]
  rfl
theorem jgs_n : JGs Γ gsNil [] Γ := fun ρ g => ⟨ρ, rfl, g⟩
theorem jgs_c {w : GDen} {u : GsDen} (j1 : JG Γ w d Γ1) (j2 : JGs Γ1 u ds Γ2) : JGs Γ (gsCons w u) (d :: ds) Γ2 := fun ρ g => by
  obtain ⟨ρ1, x1, g1⟩ := j1 ρ g
  obtain ⟨ρ2, x2, g2⟩ := j2 ρ1 g1
  refine ⟨ρ2, ?_, g2⟩
  simp only [gsCons, x1, x2, Option.bind_some]
theorem jg_tp {n : Nat} {u : GsDen} (hn : ds.length = n) (j : JGs Γ u ds Γ1) : JG Γ (gTp n u) (.tuple ds) Γ1 := fun ρ g => by
  obtain ⟨ρ1, x1, g1⟩ := j ρ g
  refine ⟨ρ1, ?_, g1⟩
  unfold gTp
  simp only [asTup, hn, if_true, x1, Option.bind_some]
theorem jg_ls {n : Nat} {u : GsDen} (hn : ds.length = n) (j : JGs Γ u ds Γ1) : JG Γ (gLs n u) (.list ds) Γ1 := fun ρ g => by
  obtain ⟨ρ1, x1, g1⟩ := j ρ g
  refine ⟨ρ1, ?_, g1⟩
  unfold gLs
  simp only [asLst, hn, if_true, x1, Option.bind_some]
theorem jg_ix {k v v' : D} (hi : wrA Γ[i]? = some d) (j : JO Γ o h1 Γ) (r1 : HR Γ h1 k) (q : setD d k v = some v') : JG Γ (gIx i o) v (puA Γ i v') := fun ρ g => by
  obtain ⟨ρ1, x1, g1⟩ := j ρ g
  obtain ⟨ρ2, x2, g2⟩ := g1.setC hi v'
  refine ⟨ρ2, ?_, g2⟩
  unfold gIx
  simp only [g.lookO hi, x1, Option.bind_some, r1 ρ1 g1, g1.lookO hi, q, x2]
/-! ### calls that write, methods -/
theorem je_io {m : D → List D → Option (D × D)} {c c' : D} (hi : wrA Γ[i]? = some c) (j : JA Γ a ds Γ1) (hi1 : wrA Γ1[i]? = some d1) (q : m d1 ds = some (d, c')) : JE Γ (cCallIO m i a) d (puA Γ1 i c') := fun ρ g => by
  obtain ⟨ρ1, x1, g1⟩ := j ρ g
  obtain ⟨ρ2, x2, g2⟩ := g1.setC hi1 c'
  refine ⟨ρ2, ?_, g2⟩
  unfold cCallIO
  simp only [g.lookO hi, x1, Option.bind_some, g1.lookO hi1, q, x2]
theorem je_mut {tag : D → Bool} {op : D → List D → Option (D × D)} {c c' : D} (hi : wrA Γ[i]? = some c) (ht : tag c = true) (j : JA Γ a ds Γ1) (hi1 : wrA Γ1[i]? = some d1) (q : op d1 ds = some (d, c')) : JE Γ (cMut tag op i a) d (puA Γ1 i c') := fun ρ g => by
  obtain ⟨ρ1, x1, g1⟩ := j ρ g
  obtain ⟨ρ2, x2, g2⟩ := g1.setC hi1 c'
  refine ⟨ρ2, ?_, g2⟩
  unfold cMut
  simp only [g.lookO hi, ht, if_true, x1, Option.bind_some, g1.lookO hi1, q, x2]
/-! ### statements -/
theorem jn_next : JN Γ cNext Γ := fun ρ g => ⟨ρ, rfl, g⟩
theorem jn_set (j : JE Γ e d Γ1) (hn : nio Γ1[i]? = true) : JN Γ (cSet i e) (Γ1.set i (.s d)) := fun ρ g => by
  obtain ⟨ρ1, x1, g1⟩ := j ρ g
  refine ⟨ρ1.set i (.sh d), ?_, g1.set_s i⟩
  unfold cSet
  simp only [x1, Option.bind_some, g1.nio hn]
  rfl
theorem jn_setO (j : JE Γ e d Γ1) (hn : nio Γ1[i]? = true) : JN Γ (cSetO i e) (Γ1.set i (.o d)) := fun ρ g => by
  obtain ⟨ρ1, x1, g1⟩ := j ρ g
  refine ⟨ρ1.set i (.ow d), ?_, g1.set_o i⟩
  unfold cSetO
  simp only [x1, Option.bind_some, g1.nio hn]
  rfl
theorem jn_drop (j : JE Γ e d Γ1) : JN Γ (cDrop e) Γ1 := fun ρ g => by
  obtain ⟨ρ1, x1, g1⟩ := j ρ g
  refine ⟨ρ1, ?_, g1⟩
  unfold cDrop
  simp only [x1, Option.bind_some]
theorem jn_asg {w : GDen} (j : JE Γ e d Γ1) (j2 : JG Γ1 w d Γ2) : JN Γ (cAsg e w) Γ2 := fun ρ g => by
  obtain ⟨ρ1, x1, g1⟩ := j ρ g
  obtain ⟨ρ2, x2, g2⟩ := j2 ρ1 g1
  refine ⟨ρ2, ?_, g2⟩
  unfold cAsg
  simp only [x1, x2, Option.bind_some]
theorem jn_aug {k : Int → Int → Int} {m n : Int} (hi : rdA Γ[i]? = some (.int m)) (j : JE Γ e (.int n) Γ1) (hn : nio Γ1[i]? = true) : JN Γ (cAug i k e) (Γ1.set i (.s (.int (k m n)))) := fun ρ g => by
  obtain ⟨ρ1, x1, g1⟩ := j ρ g
  refine ⟨ρ1.set i (.sh (.int (k m n))), ?_, g1.set_s i⟩
  unfold cAug
  simp only [g.look hi, x1, Option.bind_some, asI, g1.nio hn]
  rfl
theorem jn_par {j : Nat} {x y : D} (h : JA Γ a [x, y] Γ1) (hi : nio Γ1[i]? = true) (hj : nio (Γ1.set i (.s x))[j]? = true) : JN Γ (cPar i j a) ((Γ1.set i (.s x)).set j (.s y)) := fun ρ g => by
  obtain ⟨ρ1, x1, g1⟩ := h ρ g
  have g2 := g1.set_s (d := x) i
  refine ⟨(ρ1.set i (.sh x)).set j (.sh y), ?_, g2.set_s j⟩
  unfold cPar
  simp only [x1, Option.bind_some, parS, g1.nio hi, g2.nio hj]
  rfl
theorem jn_seq (h1 : JN Γ A Γ1) (h2 : JN Γ1 B Γ2) : JN Γ (cSeq A B) Γ2 := fun ρ g => by
  obtain ⟨ρ1, x1, g1⟩ := h1 ρ g
  rw [seq_nx x1]
  exact h2 ρ1 g1
theorem jn_if {S : Type} {Γk : S → Ctx} {b : Bool} {x y : S} (j1 : JT Γ t b Γ1) (j2 : b = true → JM Γk Γ1 A x) (j3 : b = false → JM Γk Γ1 B y) : JN Γ (cIfS t A B) (Γk (cond b x y)) := fun ρ g => by
  obtain ⟨ρ1, x1, g1⟩ := j1 ρ g
  rw [cIfS_ap, x1]
  cases b with
  | true => exact j2 rfl ρ1 g1
  | false => exact j3 rfl ρ1 g1
theorem jm_end {S : Type} {Γk : S → Ctx} {s : S} (h : JN Γ A Γ1) (w : Wk Γ1 (Γk s)) : JM Γk Γ A s := h.post w
theorem jm_seq {S : Type} {Γk : S → Ctx} {s : S} (h1 : JN Γ A Γ1) (h2 : JM Γk Γ1 B s) : JM Γk Γ (cSeq A B) s := jn_seq h1 h2
theorem jm_bnd {α S : Type} {Γ1 : α → Ctx} {Γk : S → Ctx} {v : α} {k : α → S} {G : α → Prop} (h1 : JN Γ A (Γ1 v)) (h2 : ∀ x, G x → JM Γk (Γ1 x) B (k x)) (h : bnd v G) : JM Γk Γ (cSeq A B) (bnd v k) := jn_seq h1 (h2 v h)
/-- a value gets a name behind a statement -/
theorem jn_bnd {α S : Type} {Γ1 : α → Ctx} {Γk : S → Ctx} {v : α} {k : α → S} {G : α → Prop} (h1 : JN Γ A (Γ1 v)) (h2 : ∀ x, G x → JN (Γ1 x) B (Γk (k x))) (h : bnd v G) : JN Γ (cSeq A B) (Γk (bnd v k)) := jn_seq h1 (h2 v h)
section
variable {R S : Type} {er : R → D} {Pr : R → Env → Prop} {Γn : S → Ctx} {r : R} {fl : Fw S R}
theorem JR.pre (w : Wk Γ Γ1) (j : JR er Pr Γ1 B r) : JR er Pr Γ B r := fun ρ g => j ρ (g.wk w)
theorem JF.pre (w : Wk Γ Γ1) (j : JF er Pr Γn Γ1 B fl) : JF er Pr Γn Γ B fl := by
  cases fl with
  | nx s => exact fun ρ g => j ρ (g.wk w)
  | bk s => exact fun ρ g => j ρ (g.wk w)
  | rt r => exact fun ρ g => j ρ (g.wk w)
theorem jr_ret (j : JE Γ e (er r) Γ1) (hp : ∀ ρ, Ag Γ1 ρ → Pr r ρ) : JR er Pr Γ (cRet e) r := fun ρ g => by
  obtain ⟨ρ1, x1, g1⟩ := j ρ g
  refine ⟨ρ1, ?_, hp ρ1 g1⟩
  unfold cRet
  simp only [x1, Option.bind_some]
theorem pr_0 : ∀ ρ, Ag Γ ρ → (pr0 : R → Env → Prop) r ρ := fun _ _ => trivial
theorem jr_seq (h1 : JN Γ A Γ1) (h2 : JR er Pr Γ1 B r) : JR er Pr Γ (cSeq A B) r := fun ρ g => by
  obtain ⟨ρ1, x1, g1⟩ := h1 ρ g
  rw [seq_nx x1]
  exact h2 ρ1 g1
theorem jr_bnd {α : Type} {Γ1 : α → Ctx} {v : α} {k : α → R} {G : α → Prop} (h1 : JN Γ A (Γ1 v)) (h2 : ∀ x, G x → JR er Pr (Γ1 x) B (k x)) (h : bnd v G) : JR er Pr Γ (cSeq A B) (bnd v k) := jr_seq h1 (h2 v h)
theorem jr_if {b : Bool} {x y : R} (j1 : JT Γ t b Γ1) (j2 : b = true → JR er Pr Γ1 A x) (j3 : b = false → JR er Pr Γ1 B y) : JR er Pr Γ (cIfS t A B) (cond b x y) := fun ρ g => by
  obtain ⟨ρ1, x1, g1⟩ := j1 ρ g
  rw [cIfS_ap, x1]
  cases b with
  | true => exact j2 rfl ρ1 g1
  | false => exact j3 rfl ρ1 g1
theorem seq_rt {f g : SDen} {ρ ρ' : Env} {d : D} (h : f ρ = some (.rt d ρ')) : cSeq f g ρ = some (.rt d ρ') := by
  rw [cSeq_ap, h]
  rfl
/-- a branch that hands back, the rest behind the other -/
theorem jr_ifT {b : Bool} {x y : R} {C : SDen} (j1 : JT Γ t b Γ1) (j2 : b = true → JR er Pr Γ1 A x) (j3 : b = false → JR er Pr Γ1 (cSeq B C) y) : JR er Pr Γ (cSeq (cIfS t A B) C) (cond b x y) := fun ρ g => by
  obtain ⟨ρ1, x1, g1⟩ := j1 ρ g
  cases b with
  | true =>
    obtain ⟨ρ2, x2, p2⟩ := j2 rfl ρ1 g1
    refine ⟨ρ2, seq_rt ?_, p2⟩
    rw [cIfS_ap, x1]
    exact x2
  | false =>
    obtain ⟨ρ2, x2, p2⟩ := j3 rfl ρ1 g1
    refine ⟨ρ2, ?_, p2⟩
    rw [cSeq_ap] at x2 ⊢
    rw [cIfS_ap, x1]
    exact x2
theorem jr_ifF {b : Bool} {x y : R} {C : SDen} (j1 : JT Γ t b Γ1) (j2 : b = true → JR er Pr Γ1 (cSeq A C) x) (j3 : b = false → JR er Pr Γ1 B y) : JR er Pr Γ (cSeq (cIfS t A B) C) (cond b x y) := fun ρ g => by
  obtain ⟨ρ1, x1, g1⟩ := j1 ρ g
  cases b with
  | false =>
    obtain ⟨ρ2, x2, p2⟩ := j3 rfl ρ1 g1
    refine ⟨ρ2, seq_rt ?_, p2⟩
    rw [cIfS_ap, x1]
    exact x2
  | true =>
    obtain ⟨ρ2, x2, p2⟩ := j2 rfl ρ1 g1
    refine ⟨ρ2, ?_, p2⟩
    rw [cSeq_ap] at x2 ⊢
    rw [cIfS_ap, x1]
    exact x2
/-! a loop's body -/
theorem jf_nx {s : S} (h : JN Γ B (Γn s)) : JF er Pr Γn Γ B (.nx s) := fun ρ g => by
  obtain ⟨ρ1, x1, g1⟩ := h ρ g
  exact ⟨ρ1, .inl x1, g1⟩
theorem jf_ct {s : S} (w : Wk Γ (Γn s)) : JF er Pr Γn Γ cCt (.nx s) := fun ρ g => ⟨ρ, .inr rfl, g.wk w⟩
theorem jf_bk {s : S} (w : Wk Γ (Γn s)) : JF er Pr Γn Γ cBk (.bk s) := fun ρ g => ⟨ρ, rfl, g.wk w⟩
theorem jf_rt (h : JR er Pr Γ B r) : JF er Pr Γn Γ B (.rt r) := h
theorem jf_seq (h1 : JN Γ A Γ1) (h2 : JF er Pr Γn Γ1 B fl) : JF er Pr Γn Γ (cSeq A B) fl := by
  cases fl <;> exact fun ρ g => by
    obtain ⟨ρ1, x1, g1⟩ := h1 ρ g
    rw [seq_nx x1]
    exact h2 ρ1 g1
theorem jf_bnd {α : Type} {Γ1 : α → Ctx} {v : α} {k : α → Fw S R} {G : α → Prop} (h1 : JN Γ A (Γ1 v)) (h2 : ∀ x, G x → JF er Pr Γn (Γ1 x) B (k x)) (h : bnd v G) : JF er Pr Γn Γ (cSeq A B) (bnd v k) := jf_seq h1 (h2 v h)
theorem jf_wrap {A' : SDen} (h2 : JF er Pr Γn Γ1 A fl) (e : ∀ ρ, Ag Γ ρ → ∃ ρ1, Ag Γ1 ρ1 ∧ A' ρ = A ρ1) : JF er Pr Γn Γ A' fl := by
  cases fl <;> exact fun ρ g => by
    obtain ⟨ρ1, g1, x1⟩ := e ρ g
    rw [x1]
    exact h2 ρ1 g1
theorem jf_if {b : Bool} {x y : Fw S R} (j1 : JT Γ t b Γ1) (j2 : b = true → JF er Pr Γn Γ1 A x) (j3 : b = false → JF er Pr Γn Γ1 B y) : JF er Pr Γn Γ (cIfS t A B) (cond b x y) := by
  cases b with
  | true =>
    exact jf_wrap (j2 rfl) fun ρ g => by
      obtain ⟨ρ1, x1, g1⟩ := j1 ρ g
      exact ⟨ρ1, g1, by rw [cIfS_ap, x1]; rfl⟩
  | false =>
    exact jf_wrap (j3 rfl) fun ρ g => by
      obtain ⟨ρ1, x1, g1⟩ := j1 ρ g
      exact ⟨ρ1, g1, by rw [cIfS_ap, x1]; rfl⟩
/-- what is not nx goes on through a sequence -/
def stops : Fl → Bool
  | .nx _ => false
  | _ => true
theorem seq_stop {f g : SDen} {ρ : Env} {r : Fl} (h : f ρ = some r) (hs : stops r = true) : cSeq f g ρ = some r := by
  rw [cSeq_ap, h]
  cases r with
  | nx _ => cases hs
  | _ => rfl
/-- a branch that ends the turn -/
inductive Stp1 (er : R → D) (Pr : R → Env → Prop) (Γn : S → Ctx) (Γ : Ctx) (A : SDen) : Fw S R → Prop
  | ct {s : S} : (∀ ρ, Ag Γ ρ → ∃ ρ', A ρ = some (.ct ρ') ∧ Ag (Γn s) ρ') → Stp1 er Pr Γn Γ A (.nx s)
  | bk {s : S} : (∀ ρ, Ag Γ ρ → ∃ ρ', A ρ = some (.bk ρ') ∧ Ag (Γn s) ρ') → Stp1 er Pr Γn Γ A (.bk s)
  | rt {r : R} : JR er Pr Γ A r → Stp1 er Pr Γn Γ A (.rt r)
theorem st_ct {s : S} (w : Wk Γ (Γn s)) : Stp1 er Pr Γn Γ cCt (.nx s) := .ct fun ρ g => ⟨ρ, rfl, g.wk w⟩
theorem st_bk {s : S} (w : Wk Γ (Γn s)) : Stp1 er Pr Γn Γ cBk (.bk s) := .bk fun ρ g => ⟨ρ, rfl, g.wk w⟩
theorem st_seq {x : Fw S R} (h1 : JN Γ A Γ1) (h2 : Stp1 er Pr Γn Γ1 B x) : Stp1 er Pr Γn Γ (cSeq A B) x := by
  cases h2 with
  | ct h =>
    exact .ct fun ρ g => by
      obtain ⟨ρ1, x1, g1⟩ := h1 ρ g
      rw [seq_nx x1]
      exact h ρ1 g1
  | bk h =>
    exact .bk fun ρ g => by
      obtain ⟨ρ1, x1, g1⟩ := h1 ρ g
      rw [seq_nx x1]
      exact h ρ1 g1
  | rt h => exact .rt (jr_seq h1 h)
theorem st_bnd {α : Type} {Γ1 : α → Ctx} {v : α} {k : α → Fw S R} {G : α → Prop} (h1 : JN Γ A (Γ1 v)) (h2 : ∀ x, G x → Stp1 er Pr Γn (Γ1 x) B (k x)) (h : bnd v G) : Stp1 er Pr Γn Γ (cSeq A B) (bnd v k) := st_seq h1 (h2 v h)
theorem jf_st {x : Fw S R} (h : Stp1 er Pr Γn Γ A x) : JF er Pr Γn Γ A x := by
  cases h with
  | ct h =>
    exact fun ρ g => by
      obtain ⟨ρ1, x1, g1⟩ := h ρ g
      exact ⟨ρ1, .inr x1, g1⟩
  | bk h => exact h
  | rt h => exact h
theorem jf_ifT {b : Bool} {x y : Fw S R} {C : SDen} (j1 : JT Γ t b Γ1) (j2 : b = true → Stp1 er Pr Γn Γ1 A x) (j3 : b = false → JF er Pr Γn Γ1 (cSeq B C) y) : JF er Pr Γn Γ (cSeq (cIfS t A B) C) (cond b x y) := by
  cases b with
  | true =>
    have go : ∀ {ρ ρ1 : Env} {r : Fl}, t ρ = some (true, ρ1) → A ρ1 = some r → stops r = true → cSeq (cIfS t A B) C ρ = some r := fun {ρ ρ1 r} x1 x2 hs => seq_stop (by rw [cIfS_ap, x1]; exact x2) hs
    cases j2 rfl with
    | ct h =>
      exact fun ρ g => by
        obtain ⟨ρ1, x1, g1⟩ := j1 ρ g
        obtain ⟨ρ2, x2, g2⟩ := h ρ1 g1
        exact ⟨ρ2, .inr (go x1 x2 rfl), g2⟩
    | bk h =>
      exact fun ρ g => by
        obtain ⟨ρ1, x1, g1⟩ := j1 ρ g
        obtain ⟨ρ2, x2, g2⟩ := h ρ1 g1
        exact ⟨ρ2, go x1 x2 rfl, g2⟩
    | rt h =>
      exact fun ρ g => by
        obtain ⟨ρ1, x1, g1⟩ := j1 ρ g
        obtain ⟨ρ2, x2, g2⟩ := h ρ1 g1
        exact ⟨ρ2, go x1 x2 rfl, g2⟩
  | false =>
    exact jf_wrap (j3 rfl) fun ρ g => by
      obtain ⟨ρ1, x1, g1⟩ := j1 ρ g
      exact ⟨ρ1, g1, by rw [cSeq_ap, cSeq_ap, cIfS_ap, x1]; rfl⟩
/-! ### loops -/
def okF {S α : Type} (st : S → α → S) (G : S → α → Prop) : S → List α → Prop
  | _, [] => True
  | s, x :: xs => G s x ∧ okF st G (st s x) xs
theorem okF_inv {S α : Type} {st : S → α → S} {G : S → α → Prop} (I : S → Prop) : ∀ (xs : List α) (s : S), I s → (∀ s x, x ∈ xs → I s → G s x ∧ I (st s x)) → okF st G s xs ∧ I (xs.foldl st s)
  | [], s, h, _ => ⟨trivial, h⟩
  | x :: xs, s, h, k => by
    obtain ⟨a, b⟩ := k s x List.mem_cons_self h
    obtain ⟨c, d⟩ := okF_inv I xs (st s x) b fun s y hy => k s y (List.mem_cons_of_mem _ hy)
    exact ⟨⟨a, c⟩, d⟩
theorem forB_go {S α : Type} {en : α → D} {Γh : S → Ctx} {st : S → α → S} {G : S → α → Prop} {g : GDen} (hb : ∀ s x, G s x → ∀ ρ, Ag (Γh s) ρ → ∃ ρ1, g (en x) ρ = some ρ1 ∧ ∃ ρ2, B ρ1 = some (.nx ρ2) ∧ Ag (Γh (st s x)) ρ2) :
    ∀ (xs : List α) (s : S), okF st G s xs → ∀ ρ, Ag (Γh s) ρ → ∃ ρ', forB g B (xs.map en) ρ = some (.nx ρ') ∧ Ag (Γh (xs.foldl st s)) ρ'
  | [], s, _, ρ, g0 => ⟨ρ, rfl, g0⟩
  | x :: xs, s, h, ρ, g0 => by
    obtain ⟨ρ1, x1, ρ2, x2, g2⟩ := hb s x h.1 ρ g0
    rw [List.map_cons, forB_nx (by rw [x1]; exact x2)]
    exact forB_go hb xs (st s x) h.2 ρ2 g2
theorem jn_for {S α : Type} {en : α → D} {Γh : S → Ctx} {Γg : S → α → Ctx} {st : S → α → S} {G : S → α → Prop} {src : IDen} {g : GDen} {xs : List α} {s0 : S} (hs : JI Γ src (xs.map en) Γ1) (hw : Wk Γ1 (Γh s0))
    (hg : ∀ s x, JG (Γh s) g (en x) (Γg s x)) (hb : ∀ s x, G s x → JM Γh (Γg s x) B (st s x)) (ok : okF st G s0 xs) : JN Γ (cFor src g B) (Γh (xs.foldl st s0)) := fun ρ g0 => by
  obtain ⟨ρ1, x1, g1⟩ := hs ρ g0
  unfold cFor
  rw [x1]
  exact forB_go (Γh := Γh) (fun s x hx ρ gg => by
    obtain ⟨ρ1, x1, g1⟩ := hg s x ρ gg
    obtain ⟨ρ2, x2, g2⟩ := hb s x hx ρ1 g1
    exact ⟨ρ1, x1, ρ2, x2, g2⟩) xs s0 ok ρ1 (g1.wk hw)
/-- loops that may end early -/
def foldF {S α R : Type} (st : S → α → Fw S R) : S → List α → Fw S R
  | s, [] => .nx s
  | s, x :: xs => match st s x with
    | .nx s' => foldF st s' xs
    | .bk s' => .bk s'
    | .rt r => .rt r
def okFF {S α R : Type} (st : S → α → Fw S R) (G : S → α → Prop) : S → List α → Prop
  | _, [] => True
  | s, x :: xs => G s x ∧ match st s x with
    | .nx s' => okFF st G s' xs
    | _ => True
theorem okFF_inv {S α R : Type} {st : S → α → Fw S R} {G : S → α → Prop} (I : S → Prop) : ∀ (xs : List α) (s : S), I s → (∀ s x, x ∈ xs → I s → G s x ∧ ∀ s', st s x = .nx s' → I s') → okFF st G s xs
  | [], s, h, _ => trivial
  | x :: xs, s, h, k => by
    obtain ⟨a, b⟩ := k s x List.mem_cons_self h
    refine ⟨a, ?_⟩
    cases q : st s x with
    | nx s' => exact okFF_inv I xs s' (b s' q) fun s y hy => k s y (List.mem_cons_of_mem _ hy)
    | bk _ => trivial
    | rt _ => trivial
/-- the end of a loop: nx and bk are alike -/
def JL {S R : Type} (er : R → D) (Pr : R → Env → Prop) (Γn : S → Ctx) (Γ : Ctx) (B : SDen) : Fw S R → Prop
  | .nx s => JN Γ B (Γn s)
  | .bk s => JN Γ B (Γn s)
  | .rt r => JR er Pr Γ B r
theorem forB_bk {g : GDen} {b : SDen} {d : D} {ds : List D} {ρ ρ' : Env} (h : (g d ρ).bind b = some (.bk ρ')) : forB g b (d :: ds) ρ = some (.nx ρ') := by
  have key : forB g b (d :: ds) ρ = ((g d ρ).bind b).bind (fwdK g b ds) := by
    rw [forB_cons, Option.bind_assoc]
    rfl
  rw [key, h]
  rfl
theorem forB_ct {g : GDen} {b : SDen} {d : D} {ds : List D} {ρ ρ' : Env} (h : (g d ρ).bind b = some (.ct ρ')) : forB g b (d :: ds) ρ = forB g b ds ρ' := by
  have key : forB g b (d :: ds) ρ = ((g d ρ).bind b).bind (fwdK g b ds) := by
    rw [forB_cons, Option.bind_assoc]
    rfl
  rw [key, h]
  rfl
theorem forB_goF {S α : Type} {en : α → D} {Γh : S → Ctx} {Γg : S → α → Ctx} {st : S → α → Fw S R} {G : S → α → Prop} {g : GDen} (hg : ∀ s x, JG (Γh s) g (en x) (Γg s x)) (hb : ∀ s x, G s x → JF er Pr Γh (Γg s x) B (st s x)) :
    ∀ (xs : List α) (s : S), okFF st G s xs → JL er Pr Γh (Γh s) (forB g B (xs.map en)) (foldF st s xs)
  | [], s, _ => fun ρ g0 => ⟨ρ, rfl, g0⟩
  | x :: xs, s, h => by
    have h1 := hb s x h.1
    have h2 := h.2
    rw [List.map_cons, foldF]
    cases q : st s x with
    | nx s' =>
      rw [q] at h1 h2
      have ih := forB_goF hg hb xs s' h2
      have st1 : ∀ ρ, Ag (Γh s) ρ → ∃ ρ2, Ag (Γh s') ρ2 ∧ forB g B (en x :: xs.map en) ρ = forB g B (xs.map en) ρ2 := fun ρ g0 => by
        obtain ⟨ρ1, x1, g1⟩ := hg s x ρ g0
        obtain ⟨ρ2, x2 | x2, g2⟩ := h1 ρ1 g1
        · exact ⟨ρ2, g2, forB_nx (by rw [x1]; exact x2)⟩
        · exact ⟨ρ2, g2, forB_ct (by rw [x1]; exact x2)⟩
      simp only
      cases q2 : foldF st s' xs <;> rw [q2] at ih <;> exact fun ρ g0 => by
        obtain ⟨ρ2, g2, e2⟩ := st1 ρ g0
        rw [e2]
        exact ih ρ2 g2
    | bk s' =>
      rw [q] at h1
      exact fun ρ g0 => by
        obtain ⟨ρ1, x1, g1⟩ := hg s x ρ g0
        obtain ⟨ρ2, x2, g2⟩ := h1 ρ1 g1
        exact ⟨ρ2, forB_bk (by rw [x1]; exact x2), g2⟩
    | rt r =>
      rw [q] at h1
      exact fun ρ g0 => by
        obtain ⟨ρ1, x1, g1⟩ := hg s x ρ g0
        obtain ⟨ρ2, x2, g2⟩ := h1 ρ1 g1
        exact ⟨ρ2, forB_rt (by rw [x1]; exact x2), g2⟩
theorem jl_for {S α : Type} {en : α → D} {Γh : S → Ctx} {Γg : S → α → Ctx} {st : S → α → Fw S R} {G : S → α → Prop} {src : IDen} {g : GDen} {xs : List α} {s0 : S} (hs : JI Γ src (xs.map en) Γ1) (hw : Wk Γ1 (Γh s0))
    (hg : ∀ s x, JG (Γh s) g (en x) (Γg s x)) (hb : ∀ s x, G s x → JF er Pr Γh (Γg s x) B (st s x)) (ok : okFF st G s0 xs) : JL er Pr Γh Γ (cFor src g B) (foldF st s0 xs) := by
  have k := forB_goF hg hb xs s0 ok
  have e : ∀ ρ, Ag Γ ρ → ∃ ρ1, Ag (Γh s0) ρ1 ∧ cFor src g B ρ = forB g B (xs.map en) ρ1 := fun ρ g0 => by
    obtain ⟨ρ1, x1, g1⟩ := hs ρ g0
    refine ⟨ρ1, g1.wk hw, ?_⟩
    unfold cFor
    rw [x1]
    rfl
  cases q : foldF st s0 xs <;> rw [q] at k <;> exact fun ρ g0 => by
    obtain ⟨ρ1, g1, x1⟩ := e ρ g0
    rw [x1]
    exact k ρ1 g1
/-- how a loop's end goes on -/
def Fw.on {S R T : Type} (fl : Fw S R) (k : S → T) (q : R → T) : T := match fl with
  | .nx s => k s
  | .bk s => k s
  | .rt r => q r
theorem jr_jl {k : S → R} {G : S → Prop} (h : JL er Pr Γn Γ A fl) (h2 : ∀ s, G s → JR er Pr (Γn s) B (k s)) (ok : fl.on G (fun _ => True)) : JR er Pr Γ (cSeq A B) (fl.on k id) := by
  cases fl with
  | nx s => exact jr_seq h (h2 s ok)
  | bk s => exact jr_seq h (h2 s ok)
  | rt r =>
    exact fun ρ g => by
      obtain ⟨ρ1, x1, p1⟩ := h ρ g
      exact ⟨ρ1, seq_rt x1, p1⟩
theorem jf_jl {S' : Type} {Γm : S' → Ctx} {k : S → Fw S' R} {G : S → Prop} (h : JL er Pr Γn Γ A fl) (h2 : ∀ s, G s → JF er Pr Γm (Γn s) B (k s)) (ok : fl.on G (fun _ => True)) : JF er Pr Γm Γ (cSeq A B) (fl.on k .rt) := by
  cases fl with
  | nx s => exact jf_seq h (h2 s ok)
  | bk s => exact jf_seq h (h2 s ok)
  | rt r =>
    exact fun ρ g => by
      obtain ⟨ρ1, x1, p1⟩ := h ρ g
      exact ⟨ρ1, seq_rt x1, p1⟩
/-- a loop at the very end of a loop's body -/
theorem jf_jl0 {S' : Type} {Γm : S' → Ctx} {k : S → S'} (h : JL er Pr Γn Γ A fl) (h2 : ∀ s, Wk (Γn s) (Γm (k s))) : JF er Pr Γm Γ A (fl.on (fun s => .nx (k s)) .rt) := by
  cases fl with
  | nx s => exact jf_nx (JN.post h (h2 s))
  | bk s => exact jf_nx (JN.post h (h2 s))
  | rt r => exact h
end
end
end DL

set_option maxHeartbeats 1000000
/-! DTB: how things of a type are written as data; blocks, whiles, calls by values. -/
namespace DL
open PySem L2
/-! ### writing -/
section
variable {α β γ δ ε κ : Type}
def eInt : Int → D := .int
def eBool : Bool → D := .bool
def eStr : Str → D := .str
/-- a text that is known to be fit -/
abbrev Nm := {s : Str // PyData.strOk s = true}
def eNm : Nm → D := fun s => .str s.1
def eD : D → D := fun d => d
def eTp (e : α → D) (l : List α) : D := .tuple (l.map e)
def eLs (e : α → D) (l : List α) : D := .list (l.map e)
def eOp (e : α → D) : Option α → D
  | none => .none
  | some x => e x
def eP2 (e : α → D) (g : β → D) (p : α × β) : D := .tuple [e p.1, g p.2]
def eP3 (e : α → D) (g : β → D) (h : γ → D) (p : α × β × γ) : D := .tuple [e p.1, g p.2.1, h p.2.2]
def eP4 (e : α → D) (g : β → D) (h : γ → D) (k : δ → D) (p : α × β × γ × δ) : D := .tuple [e p.1, g p.2.1, h p.2.2.1, k p.2.2.2]
def eP5 (e : α → D) (g : β → D) (h : γ → D) (k : δ → D) (q : ε → D) (p : α × β × γ × δ × ε) : D := .tuple [e p.1, g p.2.1, h p.2.2.1, k p.2.2.2.1, q p.2.2.2.2]
def eP6 {ζ : Type} (e : α → D) (g : β → D) (h : γ → D) (k : δ → D) (q : ε → D) (w : ζ → D) (p : α × β × γ × δ × ε × ζ) : D := .tuple [e p.1, g p.2.1, h p.2.2.1, k p.2.2.2.1, q p.2.2.2.2.1, w p.2.2.2.2.2]
def eDi (ek : κ → D) (ev : β → D) (l : List (κ × β)) : D := .dict (l.map fun p => (ek p.1, ev p.2))
def eNone : Unit → D := fun _ => .none
/-- never None -/
class NN (e : α → D) : Prop where
  nn : ∀ a, isNo (e a) = false
instance : NN eInt := ⟨fun _ => rfl⟩
instance : NN eBool := ⟨fun _ => rfl⟩
instance : NN eStr := ⟨fun _ => rfl⟩
instance : NN eNm := ⟨fun _ => rfl⟩
instance {e : α → D} : NN (eTp e) := ⟨fun _ => rfl⟩
instance {e : α → D} : NN (eLs e) := ⟨fun _ => rfl⟩
instance {e : α → D} {g : β → D} : NN (eP2 e g) := ⟨fun _ => rfl⟩
instance {e : α → D} {g : β → D} {h : γ → D} : NN (eP3 e g h) := ⟨fun _ => rfl⟩
instance {e : α → D} {g : β → D} {h : γ → D} {k : δ → D} : NN (eP4 e g h k) := ⟨fun _ => rfl⟩
instance {e : α → D} {g : β → D} {h : γ → D} {k : δ → D} {q : ε → D} : NN (eP5 e g h k q) := ⟨fun _ => rfl⟩
instance {ek : κ → D} {ev : β → D} : NN (eDi ek ev) := ⟨fun _ => rfl⟩
/-- told apart by == -/
class EnOk {α : Type} [DecidableEq α] (e : α → D) (n : outParam Nat) : Prop where
  lay : ∀ a, (e a).canLay0 = true
  dep : ∀ a, (e a).depth ≤ n
  eqv : ∀ a b, PyData.eqv (e a) (e b) = decide (a = b)
section
variable [DecidableEq α] [DecidableEq β] [DecidableEq γ] [DecidableEq δ] [DecidableEq ε]
instance : EnOk eInt 0 := ⟨fun _ => rfl, fun _ => Nat.le_refl _, fun a b => by simp only [eInt, PyData.eqv]; rfl⟩
instance : EnOk eBool 0 := ⟨fun _ => rfl, fun _ => Nat.le_refl _, fun a b => by simp only [eBool, PyData.eqv]; rfl⟩
instance : EnOk eNm 0 := ⟨fun a => by simp only [eNm, PyData.canLay0]; exact a.2, fun _ => Nat.le_refl _, fun a b => by
  simp only [eNm, PyData.eqv]
  rw [PySem.W.beq_decide]
  exact decide_eq_decide.mpr ⟨fun h => Subtype.ext h, fun h => by rw [h]⟩⟩
theorem eqvAll_en {e : α → D} {n : Nat} [EnOk e n] : ∀ l m : List α, PyData.eqvAll (l.map e) (m.map e) = decide (l = m)
  | [], [] => by simp [PyData.eqvAll]
  | [], _ :: _ => by simp [PyData.eqvAll]
  | _ :: _, [] => by simp [PyData.eqvAll]
  | a :: l, b :: m => by
    rw [List.map_cons, List.map_cons, PyData.eqvAll, EnOk.eqv (e := e), eqvAll_en l m]
    by_cases h1 : a = b <;> by_cases h2 : l = m <;> simp [h1, h2]
instance {e : α → D} {n : Nat} [EnOk e n] : EnOk (eTp e) (n + 1) := ⟨fun l => by unfold eTp; rw [PyData.canLay0]; exact lay_all _ (EnOk.lay (e := e)) l, fun l => by unfold eTp; rw [PyData.depth]; exact Nat.succ_le_succ (dep_all _ _ (EnOk.dep (e := e)) l), fun l m => by unfold eTp; rw [PyData.eqv]; exact eqvAll_en l m⟩
instance {e : α → D} {n : Nat} [EnOk e n] : EnOk (eLs e) (n + 1) := ⟨fun l => by unfold eLs; rw [PyData.canLay0]; exact lay_all _ (EnOk.lay (e := e)) l, fun l => by unfold eLs; rw [PyData.depth]; exact Nat.succ_le_succ (dep_all _ _ (EnOk.dep (e := e)) l), fun l m => by unfold eLs; rw [PyData.eqv]; exact eqvAll_en l m⟩
instance {e : α → D} {g : β → D} {n m : Nat} [EnOk e n] [EnOk g m] : EnOk (eP2 e g) (max n m + 1) := ⟨fun p => by simp [eP2, PyData.canLay0, PyData.canLayAll0, EnOk.lay (e := e), EnOk.lay (e := g)], fun p => by
    simp only [eP2, PyData.depth, PyData.depthAll]
    have h1 := EnOk.dep (e := e) p.1
    have h2 := EnOk.dep (e := g) p.2
    omega, fun p q => by
    simp only [eP2, PyData.eqv, PyData.eqvAll, EnOk.eqv (e := e), EnOk.eqv (e := g)]
    obtain ⟨a, b⟩ := p
    obtain ⟨c, d⟩ := q
    by_cases h1 : a = c <;> by_cases h2 : b = d <;> simp [h1, h2]⟩
instance {e : α → D} {g : β → D} {h : γ → D} {n m k : Nat} [EnOk e n] [EnOk g m] [EnOk h k] : EnOk (eP3 e g h) (max n (max m k) + 1) := ⟨fun p => by simp [eP3, PyData.canLay0, PyData.canLayAll0, EnOk.lay (e := e), EnOk.lay (e := g), EnOk.lay (e := h)], fun p => by
    simp only [eP3, PyData.depth, PyData.depthAll]
    have h1 := EnOk.dep (e := e) p.1
    have h2 := EnOk.dep (e := g) p.2.1
    have h3 := EnOk.dep (e := h) p.2.2
    omega, fun p q => by
    simp only [eP3, PyData.eqv, PyData.eqvAll, EnOk.eqv (e := e), EnOk.eqv (e := g), EnOk.eqv (e := h)]
    obtain ⟨a, b, r⟩ := p
    obtain ⟨c, d, s⟩ := q
    by_cases h1 : a = c <;> by_cases h2 : b = d <;> by_cases h3 : r = s <;> simp [h1, h2, h3]⟩
instance {e : α → D} {g : β → D} {h : γ → D} {k : δ → D} {n m l o : Nat} [EnOk e n] [EnOk g m] [EnOk h l] [EnOk k o] : EnOk (eP4 e g h k) (max n (max m (max l o)) + 1) := ⟨fun p => by simp [eP4, PyData.canLay0, PyData.canLayAll0, EnOk.lay (e := e), EnOk.lay (e := g), EnOk.lay (e := h), EnOk.lay (e := k)], fun p => by
    simp only [eP4, PyData.depth, PyData.depthAll]
    have h1 := EnOk.dep (e := e) p.1
    have h2 := EnOk.dep (e := g) p.2.1
    have h3 := EnOk.dep (e := h) p.2.2.1
    have h4 := EnOk.dep (e := k) p.2.2.2
    omega, fun p q => by
    simp only [eP4, PyData.eqv, PyData.eqvAll, EnOk.eqv (e := e), EnOk.eqv (e := g), EnOk.eqv (e := h), EnOk.eqv (e := k)]
    obtain ⟨a, b, r, v⟩ := p
    obtain ⟨c, d, s, w⟩ := q
    by_cases h1 : a = c <;> by_cases h2 : b = d <;> by_cases h3 : r = s <;> by_cases h4 : v = w <;> simp [h1, h2, h3, h4]⟩
theorem eqv_none_r {d : D} (h : isNo d = false) : PyData.eqv d .none = false := by
  cases d with
  | none => cases h
  | _ => simp [PyData.eqv]
theorem eqv_none_l {d : D} (h : isNo d = false) : PyData.eqv .none d = false := by
  cases d with
  | none => cases h
  | _ => simp [PyData.eqv]
instance {e : α → D} {n : Nat} [EnOk e n] [NN e] : EnOk (eOp e) n := ⟨fun a => by cases a with | none => rfl | some a => exact EnOk.lay (e := e) a, fun a => by cases a with | none => exact Nat.zero_le _ | some a => exact EnOk.dep (e := e) a, fun a b => by
  cases a with
  | none =>
    cases b with
    | none => simp [eOp, PyData.eqv]
    | some b => simp [eOp, eqv_none_l (NN.nn (e := e) b)]
  | some a =>
    cases b with
    | none => simp [eOp, eqv_none_r (NN.nn (e := e) a)]
    | some b => simp [eOp, EnOk.eqv (e := e)]⟩
section
variable {e : α → D} {n : Nat} [EnOk e n]
theorem en_shaped (h : n ≤ 64) (a : α) : SeqAt.shaped (e a) = true := by
  unfold SeqAt.shaped
  rw [EnOk.lay (e := e) a]
  have := EnOk.dep (e := e) a
  simp
  omega
theorem o_eq (h : n ≤ 64 := by decide) (a b : α) : eqD (e a) (e b) = some (eBool (decide (a = b))) := by
  unfold eqD
  rw [en_shaped h a, en_shaped h b, EnOk.eqv (e := e)]
  rfl
theorem o_ne (h : n ≤ 64 := by decide) (a b : α) : neD (e a) (e b) = some (eBool (!decide (a = b))) := by
  unfold neD
  rw [en_shaped h a, en_shaped h b, EnOk.eqv (e := e)]
  rfl
theorem any_en {e : α → D} {n : Nat} [EnOk e n] (a : α) : ∀ l : List α, ((l.map e).any fun z => PyData.eqv z (e a)) = decide (a ∈ l)
  | [] => by simp
  | b :: l => by
    rw [List.map_cons, List.any_cons, EnOk.eqv (e := e), any_en (e := e) a l]
    by_cases h1 : b = a
    · subst h1
      simp
    · by_cases h2 : a ∈ l <;> simp [h1, h2, Ne.symm h1]
theorem o_inL (h : n ≤ 63 := by decide) (a : α) (l : List α) : inD (e a) (eLs e l) = some (eBool (decide (a ∈ l))) := by
  have h1 : SeqAt.shaped (e a) = true := en_shaped (by omega) a
  have h2 : SeqAt.shaped (eLs e l) = true := en_shaped (by omega) l
  show (inB (e a) (.list (l.map e))).map _ = _
  unfold inB
  unfold eLs at h2
  simp only [h1, h2, any_en]
  rfl
theorem o_inT (h : n ≤ 63 := by decide) (a : α) (l : List α) : inD (e a) (eTp e l) = some (eBool (decide (a ∈ l))) := by
  have h1 : SeqAt.shaped (e a) = true := en_shaped (by omega) a
  have h2 : SeqAt.shaped (eTp e l) = true := en_shaped (by omega) l
  show (inB (e a) (.tuple (l.map e))).map _ = _
  unfold inB
  unfold eTp at h2
  simp only [h1, h2, any_en]
  rfl
theorem o_ninL (h : n ≤ 63 := by decide) (a : α) (l : List α) : notInD (e a) (eLs e l) = some (eBool (!decide (a ∈ l))) := by
  have h1 : SeqAt.shaped (e a) = true := en_shaped (by omega) a
  have h2 : SeqAt.shaped (eLs e l) = true := en_shaped (by omega) l
  show (inB (e a) (.list (l.map e))).map _ = _
  unfold inB
  unfold eLs at h2
  simp only [h1, h2, any_en]
  rfl
theorem o_ninT (h : n ≤ 63 := by decide) (a : α) (l : List α) : notInD (e a) (eTp e l) = some (eBool (!decide (a ∈ l))) := by
  have h1 : SeqAt.shaped (e a) = true := en_shaped (by omega) a
  have h2 : SeqAt.shaped (eTp e l) = true := en_shaped (by omega) l
  show (inB (e a) (.tuple (l.map e))).map _ = _
  unfold inB
  unfold eTp at h2
  simp only [h1, h2, any_en]
  rfl
end
end
/-! ### operators -/
theorem o_addI (a b : Int) : addD (eInt a) (eInt b) = some (eInt (a + b)) := rfl
theorem o_subI (a b : Int) : subD (eInt a) (eInt b) = some (eInt (a - b)) := rfl
theorem o_mulI {a b : Int} (h : mulC a b = true) : mulI (eInt a) (eInt b) = some (eInt (a * b)) := by simp [eInt, h]
theorem o_fdivI {a b : Int} (h : divC a b = true) : fdivD (eInt a) (eInt b) = some (eInt (a.fdiv b)) := by simp [eInt, h]
theorem o_modI {a b : Int} (h : modC a b = true) : modD (eInt a) (eInt b) = some (eInt (a.fmod b)) := by simp [eInt, h]
theorem o_powI {a b : Int} (h : powC a b = true) : powD (eInt a) (eInt b) = some (eInt (a ^ b.toNat)) := by simp [eInt, h]
theorem o_negI (a : Int) : negD (eInt a) = some (eInt (-a)) := rfl
theorem o_absI (a : Int) : absD (eInt a) = some (eInt (if a < 0 then -a else a)) := rfl
theorem o_intI (a : Int) : intD (eInt a) = some (eInt a) := rfl
theorem o_intB (a : Bool) : intD (eBool a) = some (eInt (if a then 1 else 0)) := rfl
theorem o_notB (a : Bool) : notD (eBool a) = some (eBool (!a)) := by cases a <;> rfl
theorem o_ltI (a b : Int) : ltI (eInt a) (eInt b) = some (eBool (decide (a < b))) := rfl
theorem o_leI (a b : Int) : leI (eInt a) (eInt b) = some (eBool (decide (a ≤ b))) := rfl
theorem o_gtI (a b : Int) : gtI (eInt a) (eInt b) = some (eBool (decide (b < a))) := rfl
theorem o_geI (a b : Int) : geI (eInt a) (eInt b) = some (eBool (decide (b ≤ a))) := rfl
theorem o_addL (e : α → D) {a b : List α} (h : a.length + b.length ≤ sizeLine) : addD (eLs e a) (eLs e b) = some (eLs e (a ++ b)) := by simp [eLs, h]
theorem o_addT (e : α → D) {a b : List α} (h : a.length + b.length ≤ sizeLine) : addD (eTp e a) (eTp e b) = some (eTp e (a ++ b)) := by simp [eTp, h]
theorem o_addS {a b : Str} (h : a.length + b.length ≤ sizeLine) : addD (eStr a) (eStr b) = some (eStr (a ++ b)) := by simp [eStr, h]
theorem o_isN (e : α → D) [NN e] (x : Option α) : isND (eOp e x) .none = some (eBool x.isNone) := by
  cases x with
  | none => rfl
  | some a =>
    show some (PyData.bool (isNo (e a))) = _
    rw [NN.nn (e := e) a]
    rfl
theorem o_notN (e : α → D) [NN e] (x : Option α) : notND (eOp e x) .none = some (eBool x.isSome) := by
  cases x with
  | none => rfl
  | some a =>
    show some (PyData.bool (!isNo (e a))) = _
    rw [NN.nn (e := e) a]
    rfl
theorem o_lenL (e : α → D) (l : List α) : lenD (eLs e l) = some (eInt l.length) := by simp [eLs, eInt]
theorem o_lenT (e : α → D) (l : List α) : lenD (eTp e l) = some (eInt l.length) := by simp [eTp, eInt]
theorem o_lenD (ek : κ → D) (e : α → D) (l : List (κ × α)) : lenD (eDi ek e l) = some (eInt l.length) := by simp [eDi, eInt]
theorem o_lenS {z : Str} (h : z.length ≤ sizeLine) : lenD (eStr z) = some (eInt z.length) := by simp [eStr, eInt, h]
/-- a place of a list -/
def ixOk (l : List α) (i : Int) : Prop := (atI l i).isSome = true
instance (l : List α) (i : Int) : Decidable (ixOk l i) := inferInstanceAs (Decidable (_ = true))
def ixT [Inhabited α] (l : List α) (i : Int) : α := (atI l i).getD default
theorem atI_map (e : α → D) (l : List α) (i : Int) : atI (l.map e) i = (atI l i).map e := by
  unfold atI
  rw [List.length_map]
  cases ixN l.length i with
  | none => rfl
  | some j => simp
theorem o_ixL [Inhabited α] (e : α → D) {l : List α} {i : Int} (h : ixOk l i) : ixD (eLs e l) (eInt i) = some (e (ixT l i)) := by
  show atI (l.map e) i = _
  rw [atI_map]
  unfold ixT
  unfold ixOk at h
  cases q : atI l i with
  | none => rw [q] at h; cases h
  | some x => rfl
theorem o_ixT [Inhabited α] (e : α → D) {l : List α} {i : Int} (h : ixOk l i) : ixD (eTp e l) (eInt i) = some (e (ixT l i)) := by
  show atI (l.map e) i = _
  rw [atI_map]
  unfold ixT
  unfold ixOk at h
  cases q : atI l i with
  | none => rw [q] at h; cases h
  | some x => rfl
theorem o_sum (l : List Int) : sumD (eLs eInt l) = some (eInt l.sum) := by
  show (asIs (l.map .int)).map _ = _
  rw [asIs_map]
  rfl
theorem o_sumT (l : List Int) : sumD (eTp eInt l) = some (eInt l.sum) := by
  show (asIs (l.map .int)).map _ = _
  rw [asIs_map]
  rfl
theorem o_sumP2 (p : Int × Int) : sumD (eP2 eInt eInt p) = some (eInt (p.1 + p.2)) := by simp [eP2, eInt]
theorem o_any (l : List Bool) : anyD (eLs eBool l) = some (eBool (l.any id)) := by
  show (asBs (l.map .bool)).map _ = _
  rw [asBs_map]
  rfl
theorem o_all (l : List Bool) : allD (eLs eBool l) = some (eBool (l.all id)) := by
  show (asBs (l.map .bool)).map _ = _
  rw [asBs_map]
  rfl
theorem o_tupL (e : α → D) (l : List α) : tupD (eLs e l) = some (eTp e l) := rfl
theorem o_tupT (e : α → D) (l : List α) : tupD (eTp e l) = some (eTp e l) := rfl
theorem o_lstL (e : α → D) (l : List α) : lstD (eLs e l) = some (eLs e l) := rfl
theorem o_lstT (e : α → D) (l : List α) : lstD (eTp e l) = some (eLs e l) := rfl
theorem cutD_map (e : α → D) (l : List α) (x y : Option Int) : cutD (l.map e) x y = (cutD l x y).map e := by
  unfold cutD
  rw [List.length_map, List.map_take, List.map_drop]
theorem o_slL (e : α → D) (l : List α) (x y : Option Int) : slD (eLs e l) x y = some (eLs e (cutD l x y)) := by
  show some (PyData.list (cutD (l.map e) x y)) = _
  rw [cutD_map]
  rfl
theorem o_slT (e : α → D) (l : List α) (x y : Option Int) : slD (eTp e l) x y = some (eTp e (cutD l x y)) := by
  show some (PyData.tuple (cutD (l.map e) x y)) = _
  rw [cutD_map]
  rfl
theorem o_max2 (a b : Int) : max2D [eInt a, eInt b] = some (eInt (if b > a then b else a)) := rfl
theorem o_min2 (a b : Int) : min2D [eInt a, eInt b] = some (eInt (if b < a then b else a)) := rfl
/-- the greatest, the least of ints -/
def maxIT (l : List Int) : Int := (maxI l).getD 0
def minIT (l : List Int) : Int := (minI l).getD 0
theorem o_maxI {l : List Int} (h : l ≠ []) : maxAD (eLs eInt l) = some (eInt (maxIT l)) := by
  cases l with
  | nil => exact absurd rfl h
  | cons x l =>
    unfold maxAD
    have : maxLD (eLs eInt (x :: l)) = some (eInt (maxIT (x :: l))) := by
      show (asIs ((x :: l).map .int)).bind _ = _
      rw [asIs_map]
      rfl
    rw [this]
theorem o_minI {l : List Int} (h : l ≠ []) : minAD (eLs eInt l) = some (eInt (minIT l)) := by
  cases l with
  | nil => exact absurd rfl h
  | cons x l =>
    unfold minAD
    have : minLD (eLs eInt (x :: l)) = some (eInt (minIT (x :: l))) := by
      show (asIs ((x :: l).map .int)).bind _ = _
      rw [asIs_map]
      rfl
    rw [this]
/-! displays -/
theorem o_tup2 (e : α → D) (g : β → D) (a : α) (b : β) : opTup [e a, g b] = some (eP2 e g (a, b)) := by simp [eP2, sizeLe]
theorem o_tup3 (e : α → D) (g : β → D) (h : γ → D) (a : α) (b : β) (c : γ) : opTup [e a, g b, h c] = some (eP3 e g h (a, b, c)) := by simp [eP3, sizeLe]
theorem o_tup4 (e : α → D) (g : β → D) (h : γ → D) (k : δ → D) (a : α) (b : β) (c : γ) (d : δ) : opTup [e a, g b, h c, k d] = some (eP4 e g h k (a, b, c, d)) := by simp [eP4, sizeLe]
theorem o_tup5 (e : α → D) (g : β → D) (h : γ → D) (k : δ → D) (q : ε → D) (a : α) (b : β) (c : γ) (d : δ) (f : ε) : opTup [e a, g b, h c, k d, q f] = some (eP5 e g h k q (a, b, c, d, f)) := by simp [eP5, sizeLe]
theorem o_tup6 {ζ : Type} (e : α → D) (g : β → D) (h : γ → D) (k : δ → D) (q : ε → D) (w : ζ → D) (a : α) (b : β) (c : γ) (d : δ) (f : ε) (z : ζ) : opTup [e a, g b, h c, k d, q f, w z] = some (eP6 e g h k q w (a, b, c, d, f, z)) := by simp [eP6, sizeLe]
theorem o_tupS (e : α → D) (l : List α) (h : Nat.ble l.length 100 = true := by rfl) : opTup (l.map e) = some (eTp e l) := by
  have h := Nat.le_of_ble_eq_true h
  have : l.length ≤ sizeLine := sizeLe _ (by omega)
  simp [eTp, this]
theorem o_lstS (e : α → D) (l : List α) (h : Nat.ble l.length 100 = true := by rfl) : opLst (l.map e) = some (eLs e l) := by
  have h := Nat.le_of_ble_eq_true h
  have : l.length ≤ sizeLine := sizeLe _ (by omega)
  simp [eLs, this]
/-! places of a tuple -/
theorem o_ix20 (e : α → D) (g : β → D) (p : α × β) : ixD (eP2 e g p) (eInt 0) = some (e p.1) := by simp [eP2, eInt]
theorem o_ix21 (e : α → D) (g : β → D) (p : α × β) : ixD (eP2 e g p) (eInt 1) = some (g p.2) := by simp [eP2, eInt]
theorem o_ix30 (e : α → D) (g : β → D) (h : γ → D) (p : α × β × γ) : ixD (eP3 e g h p) (eInt 0) = some (e p.1) := by simp [eP3, eInt]
theorem o_ix31 (e : α → D) (g : β → D) (h : γ → D) (p : α × β × γ) : ixD (eP3 e g h p) (eInt 1) = some (g p.2.1) := by simp [eP3, eInt]
theorem o_ix32 (e : α → D) (g : β → D) (h : γ → D) (p : α × β × γ) : ixD (eP3 e g h p) (eInt 2) = some (h p.2.2) := by simp [eP3, eInt]
theorem o_ix40 (e : α → D) (g : β → D) (h : γ → D) (k : δ → D) (p : α × β × γ × δ) : ixD (eP4 e g h k p) (eInt 0) = some (e p.1) := by simp [eP4, eInt]
theorem o_ix41 (e : α → D) (g : β → D) (h : γ → D) (k : δ → D) (p : α × β × γ × δ) : ixD (eP4 e g h k p) (eInt 1) = some (g p.2.1) := by simp [eP4, eInt]
theorem o_ix42 (e : α → D) (g : β → D) (h : γ → D) (k : δ → D) (p : α × β × γ × δ) : ixD (eP4 e g h k p) (eInt 2) = some (h p.2.2.1) := by simp [eP4, eInt]
theorem o_ix43 (e : α → D) (g : β → D) (h : γ → D) (k : δ → D) (p : α × β × γ × δ) : ixD (eP4 e g h k p) (eInt 3) = some (k p.2.2.2) := by simp [eP4, eInt]
/-! lists that grow -/
theorem o_append (e : α → D) {l : List α} {x : α} (h : l.length < sizeLine) : opAppend (eLs e l) [e x] = some (.none, eLs e (l ++ [x])) := by simp [eLs, h]
theorem o_extend (e : α → D) {l m : List α} (h : l.length + m.length ≤ sizeLine) : opExtend (eLs e l) [eLs e m] = some (.none, eLs e (l ++ m)) := by simp [eLs, h]
theorem o_setL (e : α → D) {l : List α} {i : Int} {x : α} (h : (ixN l.length i).isSome = true) : setD (eLs e l) (eInt i) (e x) = some (eLs e (l.set ((ixN l.length i).getD 0) x)) := by
  show ((ixN (l.map e).length i).map fun j => PyData.list ((l.map e).set j (e x))) = _
  rw [List.length_map]
  cases q : ixN l.length i with
  | none => rw [q] at h; cases h
  | some j => simp [eLs]
/-! iteration -/
theorem it_L (e : α → D) (l : List α) : itD (eLs e l) = some (l.map e) := rfl
theorem it_T (e : α → D) (l : List α) : itD (eTp e l) = some (l.map e) := rfl
/-- range(lo, hi) -/
def rngT (lo hi : Int) : List Int := (List.range (hi - lo).toNat).map fun i : Nat => lo + (i : Int)
theorem rngD_T (lo hi : Int) : rngD lo (hi - lo).toNat = (rngT lo hi).map eInt := by
  unfold rngD rngT
  rw [List.map_map]
  rfl
theorem it_r1 {n : Int} (h : bdI n = true) : rg1 [eInt n] = some ((rngT 0 n).map eInt) := by
  rw [← rngD_T]
  show (if bdI n = true then some (rngD 0 n.toNat) else none) = _
  rw [if_pos h, Int.sub_zero]
theorem it_r2 {m n : Int} (h : bdI m = true) (h2 : bdI n = true) : rg2 [eInt m, eInt n] = some ((rngT m n).map eInt) := by
  rw [← rngD_T]
  show (if bdI m = true ∧ bdI n = true then some (rngD m (n - m).toNat) else none) = _
  rw [if_pos ⟨h, h2⟩]
def rngB (hi lo : Int) : List Int := (List.range (hi - lo).toNat).map fun i : Nat => hi + (i : Int) * (-1)
theorem it_r3 {m n : Int} (h : bdI m = true) (h2 : bdI n = true) : rg3 [eInt m, eInt n, eInt (-1)] = some ((rngB m n).map eInt) := by
  show (if bdI m = true ∧ bdI n = true ∧ (-1 : Int) = -1 then some (rngC m (-1) (m - n).toNat) else none) = _
  rw [if_pos ⟨h, h2, rfl⟩]
  unfold rngC rngB
  rw [List.map_map]
  rfl
theorem it_zip (e : α → D) (g : β → D) (l : List α) (m : List β) : zp2 [eLs e l, eLs g m] = some ((l.zip m).map (eP2 e g)) := by
  show some (zipD (l.map e) (m.map g)) = _
  congr 1
  unfold zipD
  rw [List.zipWith_map, List.zip]
  rw [List.map_zipWith]
  rfl
theorem rgl_eq {m n : Int} : PyData.list (rngD m (n - m).toNat) = eLs eInt (rngT m n) := by
  rw [rngD_T]
  rfl
theorem rgt_eq {m n : Int} : PyData.tuple (rngD m (n - m).toNat) = eTp eInt (rngT m n) := by
  rw [rngD_T]
  rfl
end
/-! ### blocks -/
def wipeA (Γ : Ctx) : List Nat → Ctx
  | [] => Γ
  | v :: vs => (wipeA Γ vs).set v .u
def plA (Γ : Ctx) (vs : List Nat) : Bool := vs.all fun v => match Γ[v]? with
  | some .u => true
  | some (.s _) => true
  | _ => false
def nioA (Γ : Ctx) (vs : List Nat) : Bool := vs.all fun v => nio Γ[v]?
section
variable {Γ Γ' Γ1 : Ctx} {ρ ρ' : Env} {own : List Nat}
theorem Ag.wipe (h : Ag Γ ρ) : ∀ vs : List Nat, Ag (wipeA Γ vs) (wipeE ρ vs)
  | [] => h
  | v :: vs => (Ag.wipe h vs).set (show Ms .u .un from rfl) v
theorem Ag.plain (h : Ag Γ ρ) (hp : plA Γ own = true) : plainE ρ own = true := by
  refine List.all_eq_true.mpr fun v hv => ?_
  have := List.all_eq_true.mp hp v hv
  cases q : Γ[v]? with
  | none => rw [q] at this; cases this
  | some x =>
    rw [q] at this
    obtain ⟨y, e1, m⟩ := h.at q
    rw [e1]
    cases x with
    | u => exact m
    | s d =>
      rw [show y = .sh d from m]
      rfl
    | _ => cases this
theorem Ag.noIo (h : Ag Γ ρ) (hp : nioA Γ own = true) : DL.noIo ρ own = true := by
  refine List.all_eq_true.mpr fun v hv => ?_
  rw [h.nio (List.all_eq_true.mp hp v hv)]
  rfl
theorem ag_of (hl : Γ.length = ρ.length) (h : ∀ (i : Nat) (x : ASl), Γ[i]? = some x → ∃ y, ρ[i]? = some y ∧ Ms x y) : Ag Γ ρ := by
  induction Γ generalizing ρ with
  | nil =>
    cases ρ with
    | nil => exact .nil
    | cons _ _ => cases hl
  | cons x Γ ih =>
    cases ρ with
    | nil => cases hl
    | cons y ρ =>
      obtain ⟨z, e, m⟩ := h 0 x rfl
      cases e
      exact .cons m (ih (by simpa using hl) fun i x hx => h (i + 1) x (by simpa using hx))
theorem wipeA_len : ∀ vs : List Nat, (wipeA Γ vs).length = Γ.length
  | [] => rfl
  | v :: vs => by rw [wipeA, List.length_set, wipeA_len vs]
theorem wipeA_out {i : Nat} : ∀ {vs : List Nat}, i ∉ vs → (wipeA Γ vs)[i]? = Γ[i]?
  | [], _ => rfl
  | v :: vs, h => by
    rw [wipeA, List.getElem?_set_ne (fun z => h (by rw [z]; exact List.mem_cons_self)), wipeA_out fun z => h (List.mem_cons_of_mem _ z)]
theorem Ag.back (h : Ag Γ ρ) (h' : Ag (wipeA Γ own) ρ') : Ag Γ (backE ρ ρ' own) := by
  have l1 := h.len
  have l2 := h'.len
  rw [wipeA_len] at l2
  refine ag_of (by rw [backE_len]; exact l2) fun i x hx => ?_
  by_cases hi : i ∈ own
  · rw [backE_in (by rw [← l1, l2]) hi]
    exact h.at hx
  · rw [backE_out hi]
    exact h'.at (by rw [wipeA_out hi]; exact hx)
/-- a block without draws: its turns -/
theorem lcB_jf {α β : Type} {en : α → D} {eo : β → D} {p : α → Bool} {f : α → β} {Γw : Ctx} {Γx : α → Ctx} {g : GDen} {t : TDen} {e : Den} (hg : ∀ x, JG Γw g (en x) (Γx x)) (hn : ∀ x, nioA (Γx x) own = true) (hw : ∀ x, wipeA (Γx x) own = Γw) :
    ∀ (xs : List α), (∀ x ∈ xs, JT (Γx x) t (p x) (Γx x)) → (∀ x ∈ xs, p x = true → JE (Γx x) e (eo (f x)) (Γx x)) → ∀ ρ, Ag Γw ρ → ∃ ρ', lcB own g t e (xs.map en) ρ = some (((xs.filter p).map f).map eo, ρ') ∧ Ag Γw ρ'
  | [], _, _, ρ, h => ⟨ρ, rfl, h⟩
  | x :: xs, ht, he, ρ, h => by
    obtain ⟨ρ1, x1, g1⟩ := hg x ρ h
    obtain ⟨ρ2, x2, g2⟩ := ht x List.mem_cons_self ρ1 g1
    have ih := lcB_jf hg hn hw xs (fun y hy => ht y (List.mem_cons_of_mem _ hy)) fun y hy => he y (List.mem_cons_of_mem _ hy)
    rw [List.map_cons, lcB, x1]
    simp only [Option.bind_some, x2]
    cases hp : p x with
    | true =>
      obtain ⟨ρ3, x3, g3⟩ := he x List.mem_cons_self hp ρ2 g2
      have g4 := g3.wipe own
      rw [hw] at g4
      obtain ⟨ρ4, x4, g5⟩ := ih _ g4
      refine ⟨ρ4, ?_, g5⟩
      simp only [x3, Option.bind_some, g3.noIo (hn x), if_true, x4, List.filter_cons, hp, List.map_cons]
    | false =>
      have g4 := g2.wipe own
      rw [hw] at g4
      obtain ⟨ρ4, x4, g5⟩ := ih _ g4
      refine ⟨ρ4, ?_, g5⟩
      simp only [g2.noIo (hn x), if_true, x4, List.filter_cons, hp]
      rfl
theorem je_lc {α β : Type} {en : α → D} {eo : β → D} {p : α → Bool} {f : α → β} {Γx : α → Ctx} {s : IDen} {g : GDen} {t : TDen} {e : Den} {xs : List α} (hs : JI Γ s (xs.map en) Γ1) (hp : plA Γ1 own = true) (hg : ∀ x, JG (wipeA Γ1 own) g (en x) (Γx x)) (hn : ∀ x, nioA (Γx x) own = true) (hw : ∀ x, wipeA (Γx x) own = wipeA Γ1 own)
    (ht : ∀ x ∈ xs, JT (Γx x) t (p x) (Γx x)) (he : ∀ x ∈ xs, p x = true → JE (Γx x) e (eo (f x)) (Γx x)) (hl : ((xs.filter p).map f).length ≤ sizeLine) : JE Γ (cLc own s g t e) (eLs eo ((xs.filter p).map f)) Γ1 := fun ρ h => by
  obtain ⟨ρ1, x1, g1⟩ := hs ρ h
  obtain ⟨ρ2, x2, g2⟩ := lcB_jf hg hn hw xs ht he _ (g1.wipe own)
  refine ⟨_, ?_, g1.back g2⟩
  unfold cLc
  simp only [x1, Option.bind_some, g1.plain hp, if_true, x2, List.length_map] at hl ⊢
  rw [if_pos hl]
  rfl
/-- no test -/
theorem je_lc0 {α β : Type} {en : α → D} {eo : β → D} {f : α → β} {Γx : α → Ctx} {s : IDen} {g : GDen} {e : Den} {xs : List α} (hs : JI Γ s (xs.map en) Γ1) (hp : plA Γ1 own = true) (hg : ∀ x, JG (wipeA Γ1 own) g (en x) (Γx x)) (hn : ∀ x, nioA (Γx x) own = true) (hw : ∀ x, wipeA (Γx x) own = wipeA Γ1 own)
    (he : ∀ x ∈ xs, JE (Γx x) e (eo (f x)) (Γx x)) (hl : xs.length ≤ sizeLine) : JE Γ (cLc own s g cYes e) (eLs eo (xs.map f)) Γ1 := by
  have ef : xs.filter (fun _ => true) = xs := List.filter_eq_self.mpr fun _ _ => rfl
  have := je_lc (p := fun _ => true) hs hp hg hn hw (fun _ _ => jt_yes) (fun x hx _ => he x hx) (by rw [ef, List.length_map]; exact hl)
  rwa [ef] at this
/-- a block that draws -/
def lcS {α β : Type} (st : Nat → α → Option β × Nat) : Nat → List α → List β × Nat
  | a, [] => ([], a)
  | a, x :: xs => ((st a x).1.toList ++ (lcS st (st a x).2 xs).1, (lcS st (st a x).2 xs).2)
def okS {α β : Type} (st : Nat → α → Option β × Nat) (G : Nat → α → Prop) : Nat → List α → Prop
  | _, [] => True
  | a, x :: xs => G a x ∧ okS st G (st a x).2 xs
theorem okS_all {α β : Type} {st : Nat → α → Option β × Nat} {G : Nat → α → Prop} (h : ∀ a x, G a x) : ∀ (a : Nat) (xs : List α), okS st G a xs
  | _, [] => trivial
  | a, x :: xs => ⟨h a x, okS_all h _ xs⟩
theorem okS_mem {α β : Type} {st : Nat → α → Option β × Nat} {G : Nat → α → Prop} : ∀ (a : Nat) (xs : List α), (∀ a, ∀ x ∈ xs, G a x) → okS st G a xs
  | _, [], _ => trivial
  | a, x :: xs, h => ⟨h a x List.mem_cons_self, okS_mem _ xs fun b y hy => h b y (List.mem_cons_of_mem _ hy)⟩
theorem lcB_js {α β : Type} {en : α → D} {eo : β → D} {p : Nat → α → Bool} {f : Nat → α → β} {n1 n2 : Nat → α → Nat} {G : Nat → α → Prop} {Γw : Nat → Ctx} {Γx : Nat → α → Ctx} {g : GDen} {t : TDen} {e : Den} (hg : ∀ a x, JG (Γw a) g (en x) (Γx a x)) (hn : ∀ a x, nioA (Γx a x) own = true) (hw : ∀ a x, wipeA (Γx a x) own = Γw a)
    (ht : ∀ a x, G a x → JT (Γx a x) t (p a x) (Γx (n1 a x) x)) (he : ∀ a x, G a x → p a x = true → JE (Γx (n1 a x) x) e (eo (f a x)) (Γx (n2 a x) x)) :
    ∀ (xs : List α) (a : Nat), okS (fun a x => cond (p a x) (some (f a x), n2 a x) (none, n1 a x)) G a xs → ∀ ρ, Ag (Γw a) ρ → ∃ ρ', lcB own g t e (xs.map en) ρ = some ((lcS (fun a x => cond (p a x) (some (f a x), n2 a x) (none, n1 a x)) a xs).1.map eo, ρ') ∧ Ag (Γw (lcS (fun a x => cond (p a x) (some (f a x), n2 a x) (none, n1 a x)) a xs).2) ρ'
  | [], a, _, ρ, h => ⟨ρ, rfl, h⟩
  | x :: xs, a, hok, ρ, h => by
    obtain ⟨ρ1, x1, g1⟩ := hg a x ρ h
    obtain ⟨ρ2, x2, g2⟩ := ht a x hok.1 ρ1 g1
    have ih := lcB_js hg hn hw ht he xs _ hok.2
    rw [List.map_cons, lcB, x1, lcS]
    simp only [Option.bind_some, x2]
    cases hp : p a x with
    | true =>
      obtain ⟨ρ3, x3, g3⟩ := he a x hok.1 hp ρ2 g2
      have g4 := g3.wipe own
      rw [hw] at g4
      simp only [hp, cond_true] at ih
      obtain ⟨ρ4, x4, g5⟩ := ih _ g4
      refine ⟨ρ4, ?_, g5⟩
      simp only [x3, Option.bind_some, g3.noIo (hn _ x), if_true, x4, Option.toList]
      rfl
    | false =>
      have g4 := g2.wipe own
      rw [hw] at g4
      simp only [hp, cond_false] at ih
      obtain ⟨ρ4, x4, g5⟩ := ih _ g4
      refine ⟨ρ4, ?_, g5⟩
      simp only [g2.noIo (hn _ x), if_true, x4, Option.toList]
      rfl
theorem je_lcS {α β : Type} {en : α → D} {eo : β → D} {p : Nat → α → Bool} {f : Nat → α → β} {n1 n2 : Nat → α → Nat} {G : Nat → α → Prop} {Γw : Nat → Ctx} {Γx : Nat → α → Ctx} {s : IDen} {g : GDen} {t : TDen} {e : Den} {xs : List α} {a : Nat} (hs : JI Γ s (xs.map en) (Γw a)) (hp : plA (Γw a) own = true) (hg : ∀ a x, JG (wipeA (Γw a) own) g (en x) (Γx a x)) (hn : ∀ a x, nioA (Γx a x) own = true) (hw : ∀ a x, wipeA (Γx a x) own = wipeA (Γw a) own)
    (hb : ∀ a b, (Γw a).length = (Γw b).length ∧ ∀ v ∈ own, (Γw a)[v]? = (Γw b)[v]?)
    (ht : ∀ a x, G a x → JT (Γx a x) t (p a x) (Γx (n1 a x) x)) (he : ∀ a x, G a x → p a x = true → JE (Γx (n1 a x) x) e (eo (f a x)) (Γx (n2 a x) x))
    (hok : okS (fun a x => cond (p a x) (some (f a x), n2 a x) (none, n1 a x)) G a xs) (hl : xs.length ≤ sizeLine) :
    JE Γ (cLc own s g t e) (eLs eo (lcS (fun a x => cond (p a x) (some (f a x), n2 a x) (none, n1 a x)) a xs).1) (Γw (lcS (fun a x => cond (p a x) (some (f a x), n2 a x) (none, n1 a x)) a xs).2) := fun ρ h => by
  obtain ⟨ρ1, x1, g1⟩ := hs ρ h
  obtain ⟨ρ2, x2, g2⟩ := lcB_js (Γw := fun a => wipeA (Γw a) own) hg hn hw ht he xs a hok _ (g1.wipe own)
  have ll : ∀ (xs : List α) (a : Nat), (lcS (fun a x => cond (p a x) (some (f a x), n2 a x) (none, n1 a x)) a xs).1.length ≤ xs.length := fun xs => by
    induction xs with
    | nil => intro a; exact Nat.le_refl _
    | cons x xs ih =>
      intro a
      rw [lcS]
      cases p a x with
      | true => simp only [cond_true, Option.toList, List.length_append, List.length_cons, List.length_nil]; have := ih (n2 a x); omega
      | false => simp only [cond_false, Option.toList, List.length_append, List.length_cons, List.length_nil]; have := ih (n1 a x); omega
  generalize hq : lcS (fun a x => cond (p a x) (some (f a x), n2 a x) (none, n1 a x)) a xs = q at x2 g2 ⊢
  refine ⟨backE ρ1 ρ2 own, ?_, ?_⟩
  · unfold cLc
    have : (q.1.map eo).length ≤ sizeLine := by
      rw [List.length_map, ← hq]
      exact Nat.le_trans (ll xs a) hl
    simp only [x1, Option.bind_some, g1.plain hp, if_true, x2]
    rw [if_pos this]
    rfl
  · have l1 := g1.len
    have l2 := g2.len
    simp only [wipeA_len] at l2
    have l3 : (Γw a).length = (Γw q.2).length := (hb a q.2).1
    refine ag_of (by rw [backE_len]; exact l2) fun i x hx => ?_
    by_cases hi : i ∈ own
    · rw [backE_in (by rw [← l1, l3, l2]) hi]
      exact g1.at (by rw [(hb a q.2).2 i hi]; exact hx)
    · rw [backE_out hi]
      exact g2.at (by rw [wipeA_out hi]; exact hx)
end
end DL

set_option maxHeartbeats 1000000
/-! DTC: whiles, blocks of two, whole defs, order. -/
namespace DL
open PySem L2
section
variable {Γ Γ1 : Ctx} {own own1 : List Nat} {R S : Type} {er : R → D} {Pr : R → Env → Prop}
/-! ### while -/
def whl {S : Type} (c : S → Bool) (st : S → S) : Nat → S → S
  | 0, s => s
  | n + 1, s => cond (c s) (whl c st n (st s)) s
/-- ends within so many turns -/
def okW {S : Type} (c : S → Bool) (st : S → S) (G Gt : S → Prop) : Nat → S → Prop
  | 0, s => Gt s ∧ c s = false
  | n + 1, s => Gt s ∧ (c s = true → G s ∧ okW c st G Gt n (st s))
theorem whl_more {c : S → Bool} {st : S → S} {G Gt : S → Prop} : ∀ (n : Nat) (s : S), okW c st G Gt n s → ∀ m, n ≤ m → whl c st m s = whl c st n s
  | 0, s, h, m, _ => by
    cases m with
    | zero => rfl
    | succ m =>
      show cond (c s) _ s = s
      rw [h.2]
      rfl
  | n + 1, s, h, m, hm => by
    cases m with
    | zero => omega
    | succ m =>
      rw [whl, whl]
      cases hc : c s with
      | false => rfl
      | true => simp only [cond_true]; exact whl_more n (st s) (h.2 hc).2 m (by omega)
def wF : Nat := 1099511627776
theorem while_go {Γh : S → Ctx} {c : S → Bool} {st : S → S} {G Gt : S → Prop} {t : TDen} {b : SDen} (ht : ∀ s, Gt s → JT (Γh s) t (c s) (Γh s)) (hb : ∀ s, c s = true → G s → JN (Γh s) b (Γh (st s))) :
    ∀ (n : Nat) (s : S), okW c st G Gt n s → ∀ m, n < m → JN (Γh s) (whileN t b m) (Γh (whl c st n s))
  | 0, s, h, m, hm => fun ρ g => by
    obtain ⟨m, rfl⟩ : ∃ k, m = k + 1 := ⟨m - 1, by omega⟩
    obtain ⟨ρ1, x1, g1⟩ := ht s h.1 ρ g
    rw [h.2] at x1
    exact ⟨ρ1, whileN_f x1, g1⟩
  | n + 1, s, h, m, hm => fun ρ g => by
    obtain ⟨m, rfl⟩ : ∃ k, m = k + 1 := ⟨m - 1, by omega⟩
    obtain ⟨ρ1, x1, g1⟩ := ht s h.1 ρ g
    rw [whl]
    cases hc : c s with
    | false =>
      rw [hc] at x1
      exact ⟨ρ1, whileN_f x1, g1⟩
    | true =>
      rw [hc] at x1
      obtain ⟨ρ2, x2, g2⟩ := hb s hc (h.2 hc).1 ρ1 g1
      rw [whileN_t x1 x2]
      exact while_go ht hb n (st s) (h.2 hc).2 m (by omega) ρ2 g2
theorem jn_while {Γh : S → Ctx} {c : S → Bool} {st : S → S} {G Gt : S → Prop} {t : TDen} {b : SDen} {s0 : S} (hw : Wk Γ (Γh s0)) (ht : ∀ s, Gt s → JT (Γh s) t (c s) (Γh s)) (hb : ∀ s, c s = true → G s → JM Γh (Γh s) b (st s))
    (ok : ∃ n, n < wF ∧ okW c st G Gt n s0) : JN Γ (whileN t b 1099511627776) (Γh (whl c st wF s0)) := fun ρ g => by
  obtain ⟨n, hn, h⟩ := ok
  rw [whl_more n s0 h wF (Nat.le_of_lt hn)]
  exact while_go ht hb n s0 h _ hn ρ (g.wk hw)
/-- a measure -/
theorem okW_of {c : S → Bool} {st : S → S} {G Gt : S → Prop} (I : S → Prop) (μ : S → Nat) (h : ∀ s, I s → Gt s ∧ (c s = true → G s ∧ I (st s) ∧ μ (st s) < μ s)) : ∀ (n : Nat) (s : S), I s → μ s ≤ n → okW c st G Gt n s ∧ I (whl c st n s) ∧ c (whl c st n s) = false
  | 0, s, hi, hm => by
    obtain ⟨a, b⟩ := h s hi
    have hc : c s = false := by
      cases q : c s with
      | false => rfl
      | true => have := (b q).2.2; omega
    exact ⟨⟨a, hc⟩, hi, hc⟩
  | n + 1, s, hi, hm => by
    obtain ⟨a, b⟩ := h s hi
    rw [whl]
    cases q : c s with
    | false => exact ⟨⟨a, fun z => by rw [q] at z; cases z⟩, hi, q⟩
    | true =>
      obtain ⟨b1, b2, b3⟩ := b q
      obtain ⟨c1, c2, c3⟩ := okW_of I μ h n (st s) b2 (by omega)
      exact ⟨⟨a, fun _ => ⟨b1, c1⟩⟩, c2, c3⟩
/-! whiles that may end early -/
def whlF {S R : Type} (c : S → Bool) (st : S → Fw S R) : Nat → S → Fw S R
  | 0, s => .nx s
  | n + 1, s => cond (c s) (match st s with
    | .nx s' => whlF c st n s'
    | .bk s' => .bk s'
    | .rt r => .rt r) (.nx s)
def okWF {S R : Type} (c : S → Bool) (st : S → Fw S R) (G Gt : S → Prop) : Nat → S → Prop
  | 0, s => Gt s ∧ c s = false
  | n + 1, s => Gt s ∧ (c s = true → G s ∧ match st s with
    | .nx s' => okWF c st G Gt n s'
    | _ => True)
theorem whileN_bk {c : TDen} {b : SDen} {n : Nat} {ρ ρ1 ρ2 : Env} (h : c ρ = some (true, ρ1)) (h2 : b ρ1 = some (.bk ρ2)) : whileN c b (n + 1) ρ = some (.nx ρ2) := by
  rw [whileN, h]
  show (b ρ1).bind _ = _
  rw [h2]
  rfl
theorem whileN_ct {c : TDen} {b : SDen} {n : Nat} {ρ ρ1 ρ2 : Env} (h : c ρ = some (true, ρ1)) (h2 : b ρ1 = some (.ct ρ2)) : whileN c b (n + 1) ρ = whileN c b n ρ2 := by
  rw [whileN, h]
  show (b ρ1).bind _ = _
  rw [h2]
  rfl
theorem whileN_rt {c : TDen} {b : SDen} {n : Nat} {d : D} {ρ ρ1 ρ2 : Env} (h : c ρ = some (true, ρ1)) (h2 : b ρ1 = some (.rt d ρ2)) : whileN c b (n + 1) ρ = some (.rt d ρ2) := by
  rw [whileN, h]
  show (b ρ1).bind _ = _
  rw [h2]
  rfl
theorem JL.of {A A' : SDen} {Γn : S → Ctx} {fl : Fw S R} (h : JL er Pr Γn Γ1 A fl) (e : ∀ ρ, Ag Γ ρ → ∃ ρ1, Ag Γ1 ρ1 ∧ A' ρ = A ρ1) : JL er Pr Γn Γ A' fl := by
  cases fl <;> exact fun ρ g => by
    obtain ⟨ρ1, g1, x1⟩ := e ρ g
    rw [x1]
    exact h ρ1 g1
theorem while_goF {Γh : S → Ctx} {c : S → Bool} {st : S → Fw S R} {G Gt : S → Prop} {t : TDen} {b : SDen} (ht : ∀ s, Gt s → JT (Γh s) t (c s) (Γh s)) (hb : ∀ s, c s = true → G s → JF er Pr Γh (Γh s) b (st s)) :
    ∀ (n : Nat) (s : S), okWF c st G Gt n s → ∀ m, n < m → JL er Pr Γh (Γh s) (whileN t b m) (whlF c st n s)
  | 0, s, h, m, hm => fun ρ g => by
    obtain ⟨m, rfl⟩ : ∃ k, m = k + 1 := ⟨m - 1, by omega⟩
    obtain ⟨ρ1, x1, g1⟩ := ht s h.1 ρ g
    rw [h.2] at x1
    exact ⟨ρ1, whileN_f x1, g1⟩
  | n + 1, s, h, m, hm => by
    obtain ⟨m, rfl⟩ : ∃ k, m = k + 1 := ⟨m - 1, by omega⟩
    rw [whlF]
    cases hc : c s with
    | false =>
      exact fun ρ g => by
        obtain ⟨ρ1, x1, g1⟩ := ht s h.1 ρ g
        rw [hc] at x1
        exact ⟨ρ1, whileN_f x1, g1⟩
    | true =>
      have h1 := hb s hc (h.2 hc).1
      have h2 := (h.2 hc).2
      simp only [cond_true]
      cases q : st s with
      | nx s' =>
        rw [q] at h1 h2
        refine JL.of (while_goF ht hb n s' h2 m (by omega)) fun ρ g => ?_
        obtain ⟨ρ1, x1, g1⟩ := ht s h.1 ρ g
        rw [hc] at x1
        obtain ⟨ρ2, x2 | x2, g2⟩ := h1 ρ1 g1
        · exact ⟨ρ2, g2, whileN_t x1 x2⟩
        · exact ⟨ρ2, g2, whileN_ct x1 x2⟩
      | bk s' =>
        rw [q] at h1
        exact fun ρ g => by
          obtain ⟨ρ1, x1, g1⟩ := ht s h.1 ρ g
          rw [hc] at x1
          obtain ⟨ρ2, x2, g2⟩ := h1 ρ1 g1
          exact ⟨ρ2, whileN_bk x1 x2, g2⟩
      | rt r =>
        rw [q] at h1
        exact fun ρ g => by
          obtain ⟨ρ1, x1, g1⟩ := ht s h.1 ρ g
          rw [hc] at x1
          obtain ⟨ρ2, x2, g2⟩ := h1 ρ1 g1
          exact ⟨ρ2, whileN_rt x1 x2, g2⟩
theorem whlF_more {c : S → Bool} {st : S → Fw S R} {G Gt : S → Prop} : ∀ (n : Nat) (s : S), okWF c st G Gt n s → ∀ m, n ≤ m → whlF c st m s = whlF c st n s
  | 0, s, h, m, _ => by
    cases m with
    | zero => rfl
    | succ m =>
      show cond (c s) _ (Fw.nx s) = Fw.nx s
      rw [h.2]
      rfl
  | n + 1, s, h, m, hm => by
    cases m with
    | zero => omega
    | succ m =>
      rw [whlF, whlF]
      cases hc : c s with
      | false => rfl
      | true =>
        simp only [cond_true]
        have h2 := (h.2 hc).2
        cases q : st s with
        | nx s' =>
          rw [q] at h2
          exact whlF_more n s' h2 m (by omega)
        | _ => rfl
theorem jl_while {Γh : S → Ctx} {c : S → Bool} {st : S → Fw S R} {G Gt : S → Prop} {t : TDen} {b : SDen} {s0 : S} (hw : Wk Γ (Γh s0)) (ht : ∀ s, Gt s → JT (Γh s) t (c s) (Γh s)) (hb : ∀ s, c s = true → G s → JF er Pr Γh (Γh s) b (st s))
    (ok : ∃ n, n < wF ∧ okWF c st G Gt n s0) : JL er Pr Γh Γ (whileN t b 1099511627776) (whlF c st wF s0) := by
  obtain ⟨n, hn, h⟩ := ok
  rw [whlF_more n s0 h wF (Nat.le_of_lt hn)]
  exact JL.of (while_goF ht hb n s0 h _ hn) fun ρ g => ⟨ρ, g.wk hw, rfl⟩
/-! ### blocks of two -/
theorem lc2B_jf {α β γ : Type} {en : α → D} {en1 : β → D} {eo : γ → D} {p : α → Bool} {ys : α → List β} {q : α → β → Bool} {f : α → β → γ} {Γw : Ctx} {Γx : α → Ctx} {Γy : α → β → Ctx} {g g1 : GDen} {t t1 : TDen} {s1 : IDen} {e : Den}
    (hg : ∀ x, JG Γw g (en x) (Γx x)) (hn : ∀ x, nioA (Γx x) own1 = true) (hn2 : ∀ x, nioA (Γx x) own = true) (hn3 : ∀ x, nioA (wipeA (Γx x) own1) own = true) (hw : ∀ x, wipeA (Γx x) own = Γw) (hw2 : ∀ x, wipeA (wipeA (Γx x) own1) own = Γw)
    (hg1 : ∀ x y, JG (wipeA (Γx x) own1) g1 (en1 y) (Γy x y)) (hny : ∀ x y, nioA (Γy x y) own1 = true) (hwy : ∀ x y, wipeA (Γy x y) own1 = wipeA (Γx x) own1) :
    ∀ (xs : List α), (∀ x ∈ xs, JT (Γx x) t (p x) (Γx x)) → (∀ x ∈ xs, p x = true → JI (Γx x) s1 ((ys x).map en1) (Γx x)) → (∀ x ∈ xs, p x = true → ∀ y ∈ ys x, JT (Γy x y) t1 (q x y) (Γy x y)) → (∀ x ∈ xs, p x = true → ∀ y ∈ ys x, q x y = true → JE (Γy x y) e (eo (f x y)) (Γy x y)) →
    ∀ ρ, Ag Γw ρ → ∃ ρ', lc2B own own1 g t s1 g1 t1 e (xs.map en) ρ = some ((((xs.filter p).flatMap fun x => ((ys x).filter (q x)).map (f x))).map eo, ρ') ∧ Ag Γw ρ'
  | [], _, _, _, _, ρ, h => ⟨ρ, rfl, h⟩
  | x :: xs, ht, hi, ht1, he, ρ, h => by
    obtain ⟨ρ1, x1, g1'⟩ := hg x ρ h
    obtain ⟨ρ2, x2, g2⟩ := ht x List.mem_cons_self ρ1 g1'
    have ih := lc2B_jf hg hn hn2 hn3 hw hw2 hg1 hny hwy xs (fun y hy => ht y (List.mem_cons_of_mem _ hy)) (fun y hy => hi y (List.mem_cons_of_mem _ hy)) (fun y hy => ht1 y (List.mem_cons_of_mem _ hy)) fun y hy => he y (List.mem_cons_of_mem _ hy)
    rw [List.map_cons, lc2B, x1]
    simp only [Option.bind_some, x2]
    cases hp : p x with
    | true =>
      obtain ⟨ρ3, x3, g3⟩ := hi x List.mem_cons_self hp ρ2 g2
      obtain ⟨ρ4, x4, g4⟩ := lcB_jf (hg1 x) (hny x) (hwy x) (ys x) (ht1 x List.mem_cons_self hp) (he x List.mem_cons_self hp) _ (g3.wipe own1)
      have g5 := g4.wipe own
      rw [hw2] at g5
      obtain ⟨ρ6, x6, g6⟩ := ih _ g5
      refine ⟨ρ6, ?_, g6⟩
      simp only [x3, Option.bind_some, g3.noIo (hn x), if_true, x4, g4.noIo (hn3 x), x6, List.filter_cons, hp, List.flatMap_cons, List.map_append]
    | false =>
      have g4 := g2.wipe own
      rw [hw] at g4
      obtain ⟨ρ4, x4, g5⟩ := ih _ g4
      refine ⟨ρ4, ?_, g5⟩
      simp only [g2.noIo (hn2 x), if_true, x4, List.filter_cons, hp]
      rfl
theorem je_lc2 {α β γ : Type} {en : α → D} {en1 : β → D} {eo : γ → D} {p : α → Bool} {ys : α → List β} {q : α → β → Bool} {f : α → β → γ} {Γx : α → Ctx} {Γy : α → β → Ctx} {s : IDen} {g g1 : GDen} {t t1 : TDen} {s1 : IDen} {e : Den} {xs : List α}
    (hs : JI Γ s (xs.map en) Γ1) (hp : plA Γ1 own = true) (hg : ∀ x, JG (wipeA Γ1 own) g (en x) (Γx x)) (hn : ∀ x, nioA (Γx x) own1 = true) (hn2 : ∀ x, nioA (Γx x) own = true) (hn3 : ∀ x, nioA (wipeA (Γx x) own1) own = true) (hw : ∀ x, wipeA (Γx x) own = wipeA Γ1 own) (hw2 : ∀ x, wipeA (wipeA (Γx x) own1) own = wipeA Γ1 own)
    (hg1 : ∀ x y, JG (wipeA (Γx x) own1) g1 (en1 y) (Γy x y)) (hny : ∀ x y, nioA (Γy x y) own1 = true) (hwy : ∀ x y, wipeA (Γy x y) own1 = wipeA (Γx x) own1)
    (ht : ∀ x ∈ xs, JT (Γx x) t (p x) (Γx x)) (hi : ∀ x ∈ xs, p x = true → JI (Γx x) s1 ((ys x).map en1) (Γx x)) (ht1 : ∀ x ∈ xs, p x = true → ∀ y ∈ ys x, JT (Γy x y) t1 (q x y) (Γy x y)) (he : ∀ x ∈ xs, p x = true → ∀ y ∈ ys x, q x y = true → JE (Γy x y) e (eo (f x y)) (Γy x y))
    (hl : ((xs.filter p).flatMap fun x => ((ys x).filter (q x)).map (f x)).length ≤ sizeLine) : JE Γ (cLc2 own own1 s g t s1 g1 t1 e) (eLs eo ((xs.filter p).flatMap fun x => ((ys x).filter (q x)).map (f x))) Γ1 := fun ρ h => by
  obtain ⟨ρ1, x1, g1'⟩ := hs ρ h
  obtain ⟨ρ2, x2, g2⟩ := lc2B_jf hg hn hn2 hn3 hw hw2 hg1 hny hwy xs ht hi ht1 he _ (g1'.wipe own)
  refine ⟨_, ?_, g1'.back g2⟩
  unfold cLc2
  generalize hL : ((xs.filter p).flatMap fun x => ((ys x).filter (q x)).map (f x)) = L at hl x2 ⊢
  simp only [x1, Option.bind_some, g1'.plain hp, if_true, x2, List.length_map]
  rw [if_pos hl]
  rfl
/-! ### whole defs -/
theorem ag_env (ds : List D) (k : Nat) : Ag (ds.map ASl.s ++ List.replicate k .u) (ds.map Sl.sh ++ List.replicate k .un) := by
  induction ds with
  | nil =>
    induction k with
    | zero => exact .nil
    | succ k ih => exact .cons (show Ms .u .un from rfl) ih
  | cons d ds ih => exact .cons (show Ms (.s d) (.sh d) from rfl) ih
theorem run_jr {np n : Nat} {ds : List D} {B : SDen} {r : R} (hl : ds.length = np) (h : JR er pr0 (ds.map ASl.s ++ List.replicate (n - ds.length) .u) B r) : runB np n B ds = some (er r) := by
  obtain ⟨ρ, x, _⟩ := h _ (ag_env ds (n - ds.length))
  unfold runB env0
  rw [if_pos hl, x]
  rfl
theorem run_jn {np n : Nat} {ds : List D} {B : SDen} {Γ' : Ctx} (hl : ds.length = np) (h : JN (ds.map ASl.s ++ List.replicate (n - ds.length) .u) B Γ') : runB np n B ds = some .none := by
  obtain ⟨ρ, x, _⟩ := h _ (ag_env ds (n - ds.length))
  unfold runB env0
  rw [if_pos hl, x]
  rfl
/-- the first slot, which the caller owns -/
def prI (c : R → D) : R → Env → Prop := fun r ρ => ∃ τ, ρ = .io (c r) :: τ
theorem prI_of {c : R → D} {r : R} {Γ : Ctx} : ∀ ρ, Ag (.i (c r) :: Γ) ρ → prI c r ρ := fun ρ g => by
  cases g with
  | cons m _ => exact ⟨_, by rw [show _ = Sl.io (c r) from m]⟩
theorem run_io {np n : Nat} {c0 : D} {ds : List D} {B : SDen} {r : R} {c : R → D} (hl : ds.length + 1 = np) (h : JR er (prI c) (.i c0 :: (ds.map ASl.s ++ List.replicate (n - (ds.length + 1)) .u)) B r) : runIO np n B c0 ds = some (er r, c r) := by
  obtain ⟨ρ, x, τ, e⟩ := h _ (.cons (show Ms (.i c0) (.io c0) from rfl) (ag_env ds (n - (ds.length + 1))))
  unfold runIO envIO
  rw [if_pos hl, x, e]
  rfl
end
/-! ### order -/
section
variable {α β γ δ : Type}
class OrdE {α : Type} (e : α → D) (lt : outParam (α → α → Bool)) : Prop where
  alike : ∀ a b, PySem.W.alike (e a) (e b) = true
  lt_eq : ∀ a b, PySem.W.dataLt (e a) (e b) = lt a b
def ltI' (a b : Int) : Bool := decide (a < b)
def ltB' (a b : Bool) : Bool := !a && b
def ltN (a b : Nm) : Bool := decide (a.1.cps.toList < b.1.cps.toList)
def ltL [DecidableEq α] (lt : α → α → Bool) : List α → List α → Bool
  | [], [] => false
  | [], _ :: _ => true
  | _ :: _, [] => false
  | x :: xs, y :: ys => if x = y then ltL lt xs ys else lt x y
def ltP [DecidableEq α] (l1 : α → α → Bool) (l2 : β → β → Bool) (p q : α × β) : Bool := if p.1 = q.1 then l2 p.2 q.2 else l1 p.1 q.1
instance : OrdE eInt ltI' := ⟨fun _ _ => by simp only [eInt, PySem.W.alike], fun a b => PySem.W.dataLt_int a b⟩
instance : OrdE eBool ltB' := ⟨fun _ _ => by simp only [eBool, PySem.W.alike], fun a b => by
  refine (PySem.W.dataLt_bool a b).trans ?_
  cases a <;> cases b <;> rfl⟩
instance : OrdE eNm ltN := ⟨fun _ _ => by simp only [eNm, PySem.W.alike], fun a b => PySem.W.dataLt_str a.1 b.1⟩
section
variable [DecidableEq α]
theorem alikeAll_en {e : α → D} {n : Nat} [EnOk e n] {lt : α → α → Bool} [OrdE e lt] : ∀ xs ys : List α, PySem.W.alikeAll (xs.map e) (ys.map e) = true
  | [], _ => by rw [List.map_nil, PySem.W.alikeAll]
  | _ :: _, [] => by rw [List.map_nil, List.map_cons, PySem.W.alikeAll]
  | x :: xs, y :: ys => by
    rw [List.map_cons, List.map_cons, PySem.W.alikeAll, OrdE.alike (e := e), alikeAll_en (e := e) xs ys]
    rfl
theorem lexAll_en {e : α → D} {n : Nat} [EnOk e n] {lt : α → α → Bool} [OrdE e lt] : ∀ xs ys : List α, PyProof.Rows.lexLt PyProof.Rows.itemOrd (PySem.W.keyToksAll (xs.map e)) (PySem.W.keyToksAll (ys.map e)) = ltL lt xs ys
  | [], [] => PyProof.Rows.lex_irrefl _
  | [], y :: ys => by
    rw [List.map_nil, List.map_cons, PySem.W.toks_all_cons]
    simp only [PySem.W.keyToksAll]
    rw [PyProof.Rows.lex_diff (O := PyProof.Rows.itemOrd) (by simp)]
    rfl
  | x :: xs, [] => by
    rw [List.map_nil, List.map_cons, PySem.W.toks_all_cons]
    simp only [PySem.W.keyToksAll]
    rw [PyProof.Rows.lex_diff (O := PyProof.Rows.itemOrd) (by simp)]
    rfl
  | x :: xs, y :: ys => by
    rw [List.map_cons, List.map_cons, ltL]
    by_cases h : x = y
    · rw [if_pos h, PySem.W.dataLt_all_yes (OrdE.alike (e := e) x y) (by rw [EnOk.eqv (e := e), decide_eq_true_eq]; exact h), lexAll_en (e := e) xs ys]
    · rw [if_neg h, PySem.W.dataLt_all_no (OrdE.alike (e := e) x y) (by rw [EnOk.eqv (e := e), decide_eq_false_iff_not]; exact h)]
      exact OrdE.lt_eq (e := e) x y
instance {e : α → D} {n : Nat} [EnOk e n] {lt : α → α → Bool} [OrdE e lt] : OrdE (eTp e) (ltL lt) := ⟨fun xs ys => by simp only [eTp, PySem.W.alike]; exact alikeAll_en (e := e) xs ys, fun xs ys => (PySem.W.dataLt_tuple _ _).trans (lexAll_en (e := e) xs ys)⟩
instance {e : α → D} {n : Nat} [EnOk e n] {lt : α → α → Bool} [OrdE e lt] : OrdE (eLs e) (ltL lt) := ⟨fun xs ys => by simp only [eLs, PySem.W.alike]; exact alikeAll_en (e := e) xs ys, fun xs ys => (PySem.W.dataLt_list _ _).trans (lexAll_en (e := e) xs ys)⟩
end
section
variable [DecidableEq α] [DecidableEq β] [DecidableEq γ] [DecidableEq δ]
theorem dataLt_self (d : D) : PySem.W.dataLt d d = false := PyProof.Rows.lex_irrefl _
theorem ord_self {e : α → D} {lt : α → α → Bool} [OrdE e lt] (a : α) : lt a a = false := (OrdE.lt_eq (e := e) a a).symm.trans (dataLt_self _)
/-- the last place of a row decides -/
theorem lex_last {e : α → D} {n : Nat} [EnOk e n] {lt : α → α → Bool} [OrdE e lt] (a b : α) : PyProof.Rows.lexLt PyProof.Rows.itemOrd (PySem.W.keyToksAll [e a]) (PySem.W.keyToksAll [e b]) = lt a b := by
  by_cases h : a = b
  · rw [PySem.W.dataLt_all_yes (OrdE.alike (e := e) a b) (by rw [EnOk.eqv (e := e), decide_eq_true_eq]; exact h), PyProof.Rows.lex_irrefl, h]
    exact (ord_self (e := e) b).symm
  · rw [PySem.W.dataLt_all_no (OrdE.alike (e := e) a b) (by rw [EnOk.eqv (e := e), decide_eq_false_iff_not]; exact h)]
    exact OrdE.lt_eq (e := e) a b
theorem lex_step {e : α → D} {n : Nat} [EnOk e n] {lt : α → α → Bool} [OrdE e lt] (a b : α) (xs ys : List D) {r : Bool} (h : PyProof.Rows.lexLt PyProof.Rows.itemOrd (PySem.W.keyToksAll xs) (PySem.W.keyToksAll ys) = r) :
    PyProof.Rows.lexLt PyProof.Rows.itemOrd (PySem.W.keyToksAll (e a :: xs)) (PySem.W.keyToksAll (e b :: ys)) = if a = b then r else lt a b := by
  by_cases q : a = b
  · rw [if_pos q, PySem.W.dataLt_all_yes (OrdE.alike (e := e) a b) (by rw [EnOk.eqv (e := e), decide_eq_true_eq]; exact q), h]
  · rw [if_neg q, PySem.W.dataLt_all_no (OrdE.alike (e := e) a b) (by rw [EnOk.eqv (e := e), decide_eq_false_iff_not]; exact q)]
    exact OrdE.lt_eq (e := e) a b
instance {e : α → D} {g : β → D} {n m : Nat} [EnOk e n] [EnOk g m] {l1 : α → α → Bool} {l2 : β → β → Bool} [OrdE e l1] [OrdE g l2] : OrdE (eP2 e g) (ltP l1 l2) := ⟨fun p q => by
    simp only [eP2, PySem.W.alike, PySem.W.alikeAll, OrdE.alike (e := e), OrdE.alike (e := g), Bool.and_self], fun p q => by
    refine (PySem.W.dataLt_tuple _ _).trans ?_
    exact lex_step (e := e) _ _ _ _ (lex_last (e := g) _ _)⟩
instance {e : α → D} {g : β → D} {h : γ → D} {n m k : Nat} [EnOk e n] [EnOk g m] [EnOk h k] {l1 : α → α → Bool} {l2 : β → β → Bool} {l3 : γ → γ → Bool} [OrdE e l1] [OrdE g l2] [OrdE h l3] : OrdE (eP3 e g h) (ltP l1 (ltP l2 l3)) := ⟨fun p q => by
    simp only [eP3, PySem.W.alike, PySem.W.alikeAll, OrdE.alike (e := e), OrdE.alike (e := g), OrdE.alike (e := h), Bool.and_self], fun p q => by
    refine (PySem.W.dataLt_tuple _ _).trans ?_
    exact lex_step (e := e) _ _ _ _ (lex_step (e := g) _ _ _ _ (lex_last (e := h) _ _))⟩
end
/-- the first of the least, of the greatest -/
def minT [Inhabited α] (lt : α → α → Bool) : List α → α
  | [] => default
  | x :: xs => xs.foldl (fun a y => cond (lt y a) y a) x
def maxT [Inhabited α] (lt : α → α → Bool) : List α → α
  | [] => default
  | x :: xs => xs.foldl (fun a y => cond (lt a y) y a) x
/-- no int -/
class NInt {α : Type} (e : α → D) : Prop where
  ni : ∀ a, asI (e a) = none
instance {e : α → D} : NInt (eTp e) := ⟨fun _ => rfl⟩
instance {e : α → D} : NInt (eLs e) := ⟨fun _ => rfl⟩
instance : NInt eNm := ⟨fun _ => rfl⟩
instance : NInt eStr := ⟨fun _ => rfl⟩
instance {e : α → D} {g : β → D} : NInt (eP2 e g) := ⟨fun _ => rfl⟩
instance {e : α → D} {g : β → D} {h : γ → D} : NInt (eP3 e g h) := ⟨fun _ => rfl⟩
section
variable [DecidableEq α]
theorem mmOk_en {e : α → D} {n : Nat} [EnOk e n] {lt : α → α → Bool} [OrdE e lt] (h : n ≤ 32) [NN e] (l : List α) : mmOk (l.map e) = true := by
  unfold mmOk
  rw [Bool.and_eq_true, Bool.and_eq_true, Bool.and_eq_true]
  refine ⟨⟨⟨?_, ?_⟩, ?_⟩, ?_⟩
  · refine List.all_eq_true.mpr fun x hx => List.all_eq_true.mpr fun y hy => ?_
    obtain ⟨a, _, rfl⟩ := List.mem_map.mp hx
    obtain ⟨b, _, rfl⟩ := List.mem_map.mp hy
    exact OrdE.alike (e := e) a b
  · refine List.all_eq_true.mpr fun x hx => ?_
    obtain ⟨a, _, rfl⟩ := List.mem_map.mp hx
    rw [NN.nn (e := e) a]
    rfl
  · exact decide_eq_true (Nat.le_trans (dep_all e n (EnOk.dep (e := e)) l) h)
  · exact lay_all e (EnOk.lay (e := e)) l
theorem foldl_minD {e : α → D} {n : Nat} [EnOk e n] {lt : α → α → Bool} [OrdE e lt] (x : α) (l : List α) : PySem.W.minD (e x) (l.map e) = e (l.foldl (fun a y => cond (lt y a) y a) x) := by
  unfold PySem.W.minD
  induction l generalizing x with
  | nil => rfl
  | cons y ys ih =>
    rw [List.map_cons, List.foldl_cons, List.foldl_cons, ← ih]
    (try dsimp only)
    rw [OrdE.lt_eq (e := e) y x]
    cases lt y x <;> rfl
theorem foldl_maxD {e : α → D} {n : Nat} [EnOk e n] {lt : α → α → Bool} [OrdE e lt] (x : α) (l : List α) : PySem.W.maxD (e x) (l.map e) = e (l.foldl (fun a y => cond (lt a y) y a) x) := by
  unfold PySem.W.maxD
  induction l generalizing x with
  | nil => rfl
  | cons y ys ih =>
    rw [List.map_cons, List.foldl_cons, List.foldl_cons, ← ih]
    (try dsimp only)
    rw [OrdE.lt_eq (e := e) x y]
    cases lt x y <;> rfl
theorem o_minT {e : α → D} {n : Nat} [EnOk e n] {lt : α → α → Bool} [OrdE e lt] (h : n ≤ 32 := by decide) [NN e] [NInt e] [Inhabited α] {l : List α} (hl : l ≠ []) : minAD (eLs e l) = some (e (minT lt l)) := by
  cases l with
  | nil => exact absurd rfl hl
  | cons x l =>
    unfold minAD
    have h1 : minLD (eLs e (x :: l)) = none := by
      show (asIs ((x :: l).map e)).bind _ = none
      rw [List.map_cons, asIs, NInt.ni (e := e) x]
      rfl
    rw [h1]
    show minDD (.list ((x :: l).map e)) = _
    rw [List.map_cons, minDD, if_pos (by have := mmOk_en (e := e) h (x :: l); rwa [List.map_cons] at this), foldl_minD (lt := lt)]
    rfl
theorem o_maxT {e : α → D} {n : Nat} [EnOk e n] {lt : α → α → Bool} [OrdE e lt] (h : n ≤ 32 := by decide) [NN e] [NInt e] [Inhabited α] {l : List α} (hl : l ≠ []) : maxAD (eLs e l) = some (e (maxT lt l)) := by
  cases l with
  | nil => exact absurd rfl hl
  | cons x l =>
    unfold maxAD
    have h1 : maxLD (eLs e (x :: l)) = none := by
      show (asIs ((x :: l).map e)).bind _ = none
      rw [List.map_cons, asIs, NInt.ni (e := e) x]
      rfl
    rw [h1]
    show maxDD (.list ((x :: l).map e)) = _
    rw [List.map_cons, maxDD, if_pos (by have := mmOk_en (e := e) h (x :: l); rwa [List.map_cons] at this), foldl_maxD (lt := lt)]
    rfl
/-- sorted -/
def srtT (lt : α → α → Bool) (l : List α) : List α := isrt (fun a b => !lt b a) l
theorem o_sorted {e : α → D} {n : Nat} [EnOk e n] {lt : α → α → Bool} [OrdE e lt] {l : List α} (h : sortOk (l.map e) = true) : sortedD (eLs e l) = some (eLs e (srtT lt l)) := by
  show sortedD (.list (l.map e)) = _
  rw [sortedD, if_pos h]
  unfold srt srtT eLs
  rw [isrt_map e _ (fun a b => !lt b a) fun a b => by
    show (!PySem.W.dataLt (e b) (e a)) = _
    rw [OrdE.lt_eq (e := e)]]
theorem sortOk_en {e : α → D} {n : Nat} [EnOk e n] {lt : α → α → Bool} [OrdE e lt] (h : n ≤ 32) {l : List α} (hl : l.length ≤ sizeLine) (hk : (tupsB (l.map e) || othersB (l.map e)) = true) : sortOk (l.map e) = true := by
  unfold sortOk
  have h1 : alikeB (l.map e) = true := by
    refine List.all_eq_true.mpr fun x hx => List.all_eq_true.mpr fun y hy => ?_
    obtain ⟨a, _, rfl⟩ := List.mem_map.mp hx
    obtain ⟨b, _, rfl⟩ := List.mem_map.mp hy
    exact OrdE.alike (e := e) a b
  rw [h1, hk, List.length_map, decide_eq_true hl, decide_eq_true (Nat.le_trans (dep_all e n (EnOk.dep (e := e)) l) h), lay_all e (EnOk.lay (e := e)) l]
  simp
/-- kinds that can be sorted: no tuples; tuples that are not empty -/
class Srt1 {α : Type} (e : α → D) : Prop where
  ok : ∀ l : List α, (tupsB (l.map e) || othersB (l.map e)) = true
omit [DecidableEq α] in
theorem oth_of {e : α → D} (h : ∀ a, othersB [e a] = true) (l : List α) : othersB (l.map e) = true := by
  refine List.all_eq_true.mpr fun x hx => ?_
  obtain ⟨a, _, rfl⟩ := List.mem_map.mp hx
  have := List.all_eq_true.mp (h a) (e a) List.mem_cons_self
  exact this
omit [DecidableEq α] in
theorem tup_of {e : α → D} (h : ∀ a, tupsB [e a] = true) (l : List α) : tupsB (l.map e) = true := by
  refine List.all_eq_true.mpr fun x hx => ?_
  obtain ⟨a, _, rfl⟩ := List.mem_map.mp hx
  have := List.all_eq_true.mp (h a) (e a) List.mem_cons_self
  exact this
end
instance : Srt1 eInt := ⟨fun l => by rw [oth_of (fun _ => rfl) l, Bool.or_true]⟩
instance : Srt1 eBool := ⟨fun l => by rw [oth_of (fun _ => rfl) l, Bool.or_true]⟩
instance : Srt1 eNm := ⟨fun l => by rw [oth_of (fun _ => rfl) l, Bool.or_true]⟩
instance {e : α → D} : Srt1 (eLs e) := ⟨fun l => by rw [oth_of (fun _ => rfl) l, Bool.or_true]⟩
instance {e : α → D} {g : β → D} : Srt1 (eP2 e g) := ⟨fun l => by rw [tup_of (fun _ => rfl) l, Bool.true_or]⟩
instance {e : α → D} {g : β → D} {h : γ → D} : Srt1 (eP3 e g h) := ⟨fun l => by rw [tup_of (fun _ => rfl) l, Bool.true_or]⟩
theorem sortOk_1 [DecidableEq α] {e : α → D} {n : Nat} [EnOk e n] {lt : α → α → Bool} [OrdE e lt] [Srt1 e] {l : List α} (hl : l.length ≤ sizeLine) (h : n ≤ 32 := by decide) : sortOk (l.map e) = true := sortOk_en h hl (Srt1.ok (e := e) l)
theorem sortOk_t [DecidableEq α] {e : α → D} {n : Nat} [EnOk e n] {lt : α → α → Bool} [OrdE e lt] {l : List (List α)} (hl : l.length ≤ sizeLine) (hne : ∀ x ∈ l, x ≠ []) (h : n + 1 ≤ 32 := by decide) : sortOk (l.map (eTp e)) = true := by
  refine sortOk_en (e := eTp e) h hl ?_
  have : tupsB (l.map (eTp e)) = true := by
    refine List.all_eq_true.mpr fun x hx => ?_
    obtain ⟨a, ha, rfl⟩ := List.mem_map.mp hx
    cases a with
    | nil => exact absurd rfl (hne _ ha)
    | cons y ys => rfl
  rw [this, Bool.true_or]
end
/-! ### the law's own draws -/
def pickT {α : Type} [Inhabited α] (ds : List Int) (a : Nat) (rows : List α) : α := ixT rows (nxt ds a rows.length)
theorem o_next {ds : List Int} {a : Nat} {n : Int} (h : n ≠ 0) : m__law_next (encW ds a) [eInt n] = some (eInt (nxt ds a n), encW ds (a + 1)) := next_eq ds a n h
theorem pick_ok {α : Type} {ds : List Int} {a : Nat} {rows : List α} (h : rows ≠ []) : ixOk rows (nxt ds a rows.length) := by
  have hp : 0 < rows.length := List.length_pos_iff.mpr h
  have h0 := nxt_lo ds a (rows.length : Int) (by omega)
  have h1 := nxt_hi ds a (rows.length : Int) (by omega)
  obtain ⟨i, hi⟩ := Int.eq_ofNat_of_zero_le h0
  rw [hi] at h1
  unfold ixOk
  rw [hi, atI_cast, List.getElem?_eq_getElem (by omega)]
  rfl
theorem o_pick {α : Type} [Inhabited α] (e : α → D) {ds : List Int} {a : Nat} {rows : List α} (h : rows ≠ []) : m__law_pick (encW ds a) [eLs e rows] = some (e (pickT ds a rows), encW ds (a + 1)) := by
  have e1 := next_eq ds a (rows.length : Int) (by
    have hp : 0 < rows.length := List.length_pos_iff.mpr h
    omega)
  have e2 := o_ixL e (pick_ok (ds := ds) (a := a) h)
  have e3 : atI (rows.map e) (nxt ds a rows.length) = some (e (pickT ds a rows)) := e2
  simp -implicitDefEqProofs [m__law_pick, B__law_pick, eLs, e1, e3]
theorem o_pickT {α : Type} [Inhabited α] (e : α → D) {ds : List Int} {a : Nat} {rows : List α} (h : rows ≠ []) : m__law_pick (encW ds a) [eTp e rows] = some (e (pickT ds a rows), encW ds (a + 1)) := by
  have e1 := next_eq ds a (rows.length : Int) (by
    have hp : 0 < rows.length := List.length_pos_iff.mpr h
    omega)
  have e2 := o_ixT e (pick_ok (ds := ds) (a := a) h)
  have e3 : atI (rows.map e) (nxt ds a rows.length) = some (e (pickT ds a rows)) := e2
  simp -implicitDefEqProofs [m__law_pick, B__law_pick, eTp, e1, e3]
theorem pick_mem {α : Type} [Inhabited α] {ds : List Int} {a : Nat} {rows : List α} (h : rows ≠ []) : pickT ds a rows ∈ rows := by
  have := pick_ok (ds := ds) (a := a) h
  unfold ixOk at this
  unfold pickT ixT
  cases q : atI rows (nxt ds a rows.length) with
  | none => rw [q] at this; cases this
  | some x =>
    unfold atI at q
    cases q2 : ixN rows.length (nxt ds a rows.length) with
    | none => rw [q2] at q; cases q
    | some j =>
      rw [q2] at q
      exact List.mem_of_getElem? q
end DL

set_option maxHeartbeats 1000000
/-! DTD: dicts, alike, what several laws have. -/
namespace DL
open PySem L2
section
variable {α β γ δ ε κ S R : Type} {Γ Γ1 Γ2 : Ctx} {e : Den} {d d' : D} {h : Hd} {i : Nat}
theorem je_cast (q : d = d') (j : JE Γ e d Γ1) : JE Γ e d' Γ1 := q ▸ j
theorem je_get [Inhabited α] {en : α → D} {v : Option α} (g : v.isSome = true) (j : JE Γ e (eOp en v) Γ1) : JE Γ e (en (v.getD default)) Γ1 := by
  cases v with
  | none => cases g
  | some x => exact j
theorem hr_get [Inhabited α] {en : α → D} {v : Option α} (g : v.isSome = true) (j : HR Γ h (eOp en v)) : HR Γ h (en (v.getD default)) := by
  cases v with
  | none => cases g
  | some x => exact j
theorem okF_all {st : S → α → S} {G : S → α → Prop} (h : ∀ s x, G s x) : ∀ (s : S) (xs : List α), okF st G s xs
  | _, [] => trivial
  | s, x :: xs => ⟨h s x, okF_all h _ xs⟩
theorem okFF_all {st : S → α → Fw S R} {G : S → α → Prop} (h : ∀ s x, G s x) : ∀ (s : S) (xs : List α), okFF st G s xs
  | _, [] => trivial
  | s, x :: xs => ⟨h s x, by
    cases st s x with
    | nx s' => exact okFF_all h s' xs
    | bk _ => trivial
    | rt _ => trivial⟩
theorem on_true (fl : Fw S R) : fl.on (fun _ => True) (fun _ => True) := by cases fl <;> trivial
theorem o_addP22 {α' β' : Type} (a : α → D) (b : β → D) (c : α' → D) (d : β' → D) (p : α × β) (q : α' × β') : addD (eP2 a b p) (eP2 c d q) = some (eP4 a b c d (p.1, p.2, q.1, q.2)) := by simp [eP2, eP4, sizeLe]
theorem ls_2 [Inhabited α] (en : α → D) {l : List α} (h : l.length = 2) : eLs en l = .list [en (ixT l 0), en (ixT l 1)] := by
  match l, h with
  | [a, b], _ => simp [eLs, ixT]
theorem ls_3 [Inhabited α] (en : α → D) {l : List α} (h : l.length = 3) : eLs en l = .list [en (ixT l 0), en (ixT l 1), en (ixT l 2)] := by
  match l, h with
  | [a, b, c], _ => simp [eLs, ixT]
/-! ### texts that are known -/
def nm (s : Str) (h : PyData.strOk s = true := by decide +kernel) : Nm := ⟨s, h⟩
instance : Inhabited Nm := ⟨nm ""⟩
/-! ### dicts -/
/-- keys that are ints or texts -/
class KeyA {κ : Type} [DecidableEq κ] (ek : κ → D) : Prop where
  key : ∀ a, ∃ k, ek a = keyD k
  kb : ∀ a b, keyB (ek a) (ek b) = decide (a = b)
/-- keys that fit one another -/
class KeyE {κ : Type} [DecidableEq κ] (ek : κ → D) : Prop where
  fit : ∀ (ks : List (D × D)) (k : κ), (∀ p ∈ ks, ∃ a, p.1 = ek a) → fitK ks (ek k) = true
  kb : ∀ a b, keyB (ek a) (ek b) = decide (a = b)
instance : KeyA eInt := ⟨fun a => ⟨.inl a, rfl⟩, fun a b => by simp only [eInt, keyB]; rfl⟩
instance : KeyA eNm := ⟨fun a => ⟨.inr a.1, rfl⟩, fun a b => by
  simp only [eNm, keyB]
  rw [PySem.W.beq_decide]
  exact decide_eq_decide.mpr ⟨fun h => Subtype.ext h, fun h => by rw [h]⟩⟩
theorem keyD_is (k : Key) : isKey (keyD k) = true := by cases k <;> rfl
theorem asK_keyD (k : Key) : asK (keyD k) = some k := by cases k <;> rfl
instance (priority := low) [DecidableEq κ] {ek : κ → D} [KeyA ek] : KeyE ek := ⟨fun ks k hk => by
    obtain ⟨q, e1⟩ := KeyA.key (ek := ek) k
    rw [e1]
    have : (ks.all fun p => isKey p.1) = true := List.all_eq_true.mpr fun p hp => by
      obtain ⟨a, ea⟩ := hk p hp
      obtain ⟨k, e⟩ := KeyA.key (ek := ek) a
      rw [ea, e]
      exact keyD_is k
    cases q <;> exact this, KeyA.kb⟩
instance {α β : Type} [DecidableEq α] [DecidableEq β] {ea : α → D} {eb : β → D} [KeyA ea] [KeyA eb] : KeyE (eP2 ea eb) := ⟨fun ks k hk => by
    obtain ⟨q1, e1⟩ := KeyA.key (ek := ea) k.1
    obtain ⟨q2, e2⟩ := KeyA.key (ek := eb) k.2
    unfold eP2 fitK
    rw [e1, e2]
    simp only [asKs, asK_keyD, Option.bind_some, Option.map_some, Option.isSome_some, Bool.true_and]
    refine List.all_eq_true.mpr fun p hp => ?_
    obtain ⟨a, ea⟩ := hk p hp
    rw [ea]
    rfl, fun a b => by
    simp only [eP2, keyB, keyBs, KeyA.kb (ek := ea), KeyA.kb (ek := eb)]
    obtain ⟨a1, a2⟩ := a
    obtain ⟨b1, b2⟩ := b
    by_cases h1 : a1 = b1 <;> by_cases h2 : a2 = b2 <;> simp [h1, h2]⟩
section
variable [DecidableEq κ]
def diHas (l : List (κ × β)) (k : κ) : Bool := l.any fun p => decide (p.1 = k)
def diGet? (l : List (κ × β)) (k : κ) : Option β := (l.find? fun p => decide (p.1 = k)).map (·.2)
def diGet [Inhabited β] (l : List (κ × β)) (k : κ) : β := (diGet? l k).getD default
def diPut (l : List (κ × β)) (k : κ) (v : β) : List (κ × β) := if diHas l k then l.map (fun p => if p.1 = k then (p.1, v) else p) else l ++ [(k, v)]
def dictT (l : List (κ × β)) : List (κ × β) := l.foldl (fun acc p => diPut acc p.1 p.2) []
def diKeys (l : List (κ × β)) : List κ := l.map (·.1)
theorem diHas_iff {l : List (κ × β)} {k : κ} : diHas l k = true ↔ k ∈ diKeys l := by
  unfold diHas diKeys
  simp
theorem diHas_get? (l : List (κ × β)) (k : κ) : diHas l k = (diGet? l k).isSome := by
  unfold diHas diGet?
  rw [Option.isSome_map]
  induction l with
  | nil => rfl
  | cons p l ih =>
    rw [List.any_cons, List.find?_cons]
    cases decide (p.1 = k) with
    | true => rfl
    | false => simpa using ih
variable {ek : κ → D} {ev : β → D}
theorem fit_en [KeyE ek] (l : List (κ × β)) (k : κ) : fitK (l.map fun p => (ek p.1, ev p.2)) (ek k) = true := KeyE.fit _ _ fun p hp => by
  obtain ⟨q, _, rfl⟩ := List.mem_map.mp hp
  exact ⟨q.1, rfl⟩
theorem dget_en {ek : κ → D} {ev : β → D} [KeyE ek] (k : κ) : ∀ l : List (κ × β), dget (l.map fun p => (ek p.1, ev p.2)) (ek k) = (diGet? l k).map ev
  | [] => rfl
  | p :: l => by
    have ih := dget_en (ek := ek) (ev := ev) k l
    unfold dget diGet? at ih ⊢
    rw [List.map_cons, List.find?_cons, List.find?_cons, KeyE.kb (ek := ek)]
    by_cases h : p.1 = k
    · simp [h]
    · simp only [h, decide_false]
      exact ih
theorem any_key [KeyE ek] (k : κ) (l : List (κ × β)) : ((l.map fun p => (ek p.1, ev p.2)).any fun p => keyB p.1 (ek k)) = diHas l k := by
  unfold diHas
  rw [List.any_map]
  congr 1
  funext p
  show keyB (ek p.1) (ek k) = _
  rw [KeyE.kb (ek := ek)]
theorem dput_en [KeyE ek] (l : List (κ × β)) (k : κ) (v : β) : dput (l.map fun p => (ek p.1, ev p.2)) (ek k) (ev v) = (diPut l k v).map fun p => (ek p.1, ev p.2) := by
  unfold dput diPut
  rw [any_key]
  split
  · rw [List.map_map, List.map_map]
    refine List.map_congr_left fun p _ => ?_
    simp only [Function.comp_apply, KeyE.kb (ek := ek)]
    by_cases h : p.1 = k <;> simp [h]
  · rw [List.map_append]
    rfl
theorem o_inD (ek : κ → D) (ev : β → D) [KeyE ek] (k : κ) (l : List (κ × β)) : inD (ek k) (eDi ek ev l) = some (eBool (diHas l k)) := by
  show (inB (ek k) (.dict (l.map fun p => (ek p.1, ev p.2)))).map _ = _
  unfold inB
  simp only [fit_en, if_true, dget_en, Option.isSome_map, diHas_get?]
  rfl
theorem o_ninD (ek : κ → D) (ev : β → D) [KeyE ek] (k : κ) (l : List (κ × β)) : notInD (ek k) (eDi ek ev l) = some (eBool (!diHas l k)) := by
  show (inB (ek k) (.dict (l.map fun p => (ek p.1, ev p.2)))).map _ = _
  unfold inB
  simp only [fit_en, if_true, dget_en, Option.isSome_map, diHas_get?]
  rfl
theorem o_ixD [Inhabited β] (ek : κ → D) (ev : β → D) [KeyE ek] {k : κ} {l : List (κ × β)} (h : diHas l k = true) : ixD (eDi ek ev l) (ek k) = some (ev (diGet l k)) := by
  rw [diHas_get?] at h
  have e : (if fitK (l.map fun p => (ek p.1, ev p.2)) (ek k) then dget (l.map fun p => (ek p.1, ev p.2)) (ek k) else none) = some (ev (diGet l k)) := by
    simp only [fit_en, if_true, dget_en]
    unfold diGet
    cases q : diGet? l k with
    | none => rw [q] at h; cases h
    | some x => rfl
  rw [← e]
  unfold eDi
  cases ek k <;> rfl
theorem o_setD (ek : κ → D) (ev : β → D) [KeyE ek] {l : List (κ × β)} {k : κ} {v : β} (h : l.length < sizeLine) : setD (eDi ek ev l) (ek k) (ev v) = some (eDi ek ev (diPut l k v)) := by
  have e : (if fitK (l.map fun p => (ek p.1, ev p.2)) (ek k) = true ∧ (l.map fun p => (ek p.1, ev p.2)).length < sizeLine then some (PyData.dict (dput (l.map fun p => (ek p.1, ev p.2)) (ek k) (ev v))) else none) = some (eDi ek ev (diPut l k v)) := by
    rw [if_pos ⟨fit_en l k, by rw [List.length_map]; exact h⟩, dput_en]
    rfl
  rw [← e]
  unfold eDi
  cases ek k <;> rfl
theorem pairs_en {ek : κ → D} {ev : β → D} [KeyA ek] : ∀ l : List (κ × β), ∃ ps : List (Key × D), pairsOf (l.map (eP2 ek ev)) = some ps ∧ ps.map (fun p => (keyD p.1, p.2)) = l.map fun p => (ek p.1, ev p.2)
  | [] => ⟨[], rfl, rfl⟩
  | p :: l => by
    obtain ⟨ps, e1, e2⟩ := pairs_en (ek := ek) (ev := ev) l
    obtain ⟨k, ek1⟩ := KeyA.key (ek := ek) p.1
    refine ⟨(k, ev p.2) :: ps, ?_, ?_⟩
    · rw [List.map_cons, pairsOf]
      unfold eP2
      rw [ek1]
      simp only [pairOf, asK_keyD, Option.map_some, Option.bind_some]
      unfold eP2 at e1
      rw [e1]
      rfl
    · rw [List.map_cons, List.map_cons, e2, ek1]
theorem putAll_en [KeyA ek] (ps : List (Key × D)) (l : List (κ × β)) (h : ps.map (fun p => (keyD p.1, p.2)) = l.map fun p => (ek p.1, ev p.2)) : putAll ps = (dictT l).map fun p => (ek p.1, ev p.2) := by
  unfold putAll dictT
  have go : ∀ (ps : List (Key × D)) (l acc : List (κ × β)), ps.map (fun p => (keyD p.1, p.2)) = l.map (fun p => (ek p.1, ev p.2)) → ps.foldl (fun acc kv => dput acc (keyD kv.1) kv.2) (acc.map fun p => (ek p.1, ev p.2)) = (l.foldl (fun acc p => diPut acc p.1 p.2) acc).map fun p => (ek p.1, ev p.2) := by
    intro ps
    induction ps with
    | nil =>
      intro l acc h
      cases l with
      | nil => rfl
      | cons _ _ => cases h
    | cons p ps ih =>
      intro l acc h
      cases l with
      | nil => cases h
      | cons q l =>
        simp only [List.map_cons, List.cons.injEq, Prod.mk.injEq] at h
        rw [List.foldl_cons, List.foldl_cons, h.1.1, h.1.2, dput_en]
        exact ih l _ h.2
  exact go ps l [] h
theorem o_dict (ek : κ → D) (ev : β → D) [KeyA ek] (l : List (κ × β)) : dictA (eLs (eP2 ek ev) l) = some (eDi ek ev (dictT l)) := by
  obtain ⟨ps, e1, e2⟩ := pairs_en (ev := ev) (ek := ek) l
  have : dictP (eLs (eP2 ek ev) l) = some (eDi ek ev (dictT l)) := by
    show (pairsOf (l.map (eP2 ek ev))).map _ = _
    rw [e1]
    show some (PyData.dict (putAll ps)) = _
    rw [putAll_en ps l e2]
    rfl
  unfold dictA
  rw [this]
theorem o_sortedD (ek : κ → D) (ev : β → D) [KeyA ek] {n : Nat} [EnOk ek n] {lt : κ → κ → Bool} [OrdE ek lt] {l : List (κ × β)} (h : sortOk (l.map fun p => ek p.1) = true) : sortedA (eDi ek ev l) = some (eLs ek (srtT lt (diKeys l))) := by
  have hk : (l.map fun p => (ek p.1, ev p.2)).map (·.1) = l.map fun p => ek p.1 := by
    rw [List.map_map]
    rfl
  have hk2 : (l.map fun p => ek p.1) = (diKeys l).map ek := by
    unfold diKeys
    rw [List.map_map]
    rfl
  have hf : flatD (l.map fun p => (ek p.1, ev p.2)) = true := List.all_eq_true.mpr fun p hp => by
    obtain ⟨q, _, rfl⟩ := List.mem_map.mp hp
    obtain ⟨k, e⟩ := KeyA.key (ek := ek) q.1
    show isKey (ek q.1) = true
    rw [e]
    exact keyD_is k
  have : sortedKD (eDi ek ev l) = some (eLs ek (srtT lt (diKeys l))) := by
    show (if sortOk ((l.map fun p => (ek p.1, ev p.2)).map (·.1)) = true ∧ flatD (l.map fun p => (ek p.1, ev p.2)) = true then some (PyData.list (srt ((l.map fun p => (ek p.1, ev p.2)).map (·.1)))) else none) = _
    rw [if_pos ⟨by rw [hk]; exact h, hf⟩, hk, hk2]
    rw [hk2] at h
    have := o_sorted (e := ek) h
    have e3 : sortedD (eLs ek (diKeys l)) = some (.list (srt ((diKeys l).map ek))) := by
      show (if sortOk ((diKeys l).map ek) = true then some (PyData.list (srt ((diKeys l).map ek))) else none) = _
      rw [if_pos h]
    rw [e3] at this
    exact this
  unfold sortedA
  have e0 : sortedD (eDi ek ev l) = none := rfl
  rw [e0, this]
end
theorem o_sortedA {α : Type} [DecidableEq α] {e : α → D} {n : Nat} [EnOk e n] {lt : α → α → Bool} [OrdE e lt] {l : List α} (h : sortOk (l.map e) = true) : sortedA (eLs e l) = some (eLs e (srtT lt l)) := by
  unfold sortedA
  rw [o_sorted h]
/-! ### alike -/
def smOk (d : D) : Prop := d.canLay0 = true ∧ d.depth ≤ 40 ∧ sz d ≤ 1000000
theorem o_same {α : Type} {en : α → D} {x y : α} (h : x = y) (ok : smOk (en y)) : m__law_same [en x, en y] = some (eBool true) := by
  subst h
  exact same_eq _ ok.1 ok.2.1 ok.2.2
theorem it_zipA (e : α → D) (g : β → D) (l : List α) (m : List β) : zpA [eLs e l, eLs g m] = some ((l.zip m).map (eP2 e g)) := by
  have := it_zip e g l m
  exact this
theorem it_zipT (e : α → D) (g : β → D) (l : List α) (m : List β) : zpA [eTp e l, eTp g m] = some ((l.zip m).map (eP2 e g)) := by
  have := it_zip e g l m
  exact this
end
section
variable {Γ Γ1 Γ2 : Ctx} {e : Den} {d : D} {g : MDen} {xs : List Sl} {i j l : Nat}
/-- several things, new ones among them -/
def JMd (Γ : Ctx) (e : MDen) (xs : List Sl) (Γ' : Ctx) : Prop := ∀ ρ, Ag Γ ρ → ∃ ρ', e ρ = some (xs, ρ') ∧ Ag Γ' ρ'
theorem jd_n : JMd Γ mNil [] Γ := fun ρ g => ⟨ρ, rfl, g⟩
theorem jd_s (j : JE Γ e d Γ1) (k : JMd Γ1 g xs Γ2) : JMd Γ (mSh e g) (.sh d :: xs) Γ2 := fun ρ g0 => by
  obtain ⟨ρ1, x1, g1⟩ := j ρ g0
  obtain ⟨ρ2, x2, g2⟩ := k ρ1 g1
  refine ⟨ρ2, ?_, g2⟩
  unfold mSh
  simp only [x1, x2, Option.bind_some]
theorem jd_o (j : JE Γ e d Γ1) (k : JMd Γ1 g xs Γ2) : JMd Γ (mOw e g) (.ow d :: xs) Γ2 := fun ρ g0 => by
  obtain ⟨ρ1, x1, g1⟩ := j ρ g0
  obtain ⟨ρ2, x2, g2⟩ := k ρ1 g1
  refine ⟨ρ2, ?_, g2⟩
  unfold mOw
  simp only [x1, x2, Option.bind_some]
theorem jn_parM {x y : ASl} {u v : Sl} (h : JMd Γ g [u, v] Γ1) (m1 : Ms x u) (m2 : Ms y v) (hi : nio Γ1[i]? = true) (hj : nio (Γ1.set i x)[j]? = true) : JN Γ (cParM i j g) ((Γ1.set i x).set j y) := fun ρ g0 => by
  obtain ⟨ρ1, x1, g1⟩ := h ρ g0
  have g2 := g1.set m1 i
  refine ⟨(ρ1.set i u).set j v, ?_, g2.set m2 j⟩
  unfold cParM
  simp only [x1, Option.bind_some, parM2, g1.nio hi, g2.nio hj]
  rfl
theorem jn_parM3 {x y z : ASl} {u v w : Sl} (h : JMd Γ g [u, v, w] Γ1) (m1 : Ms x u) (m2 : Ms y v) (m3 : Ms z w) (hi : nio Γ1[i]? = true) (hj : nio (Γ1.set i x)[j]? = true) (hl : nio ((Γ1.set i x).set j y)[l]? = true) : JN Γ (cParM3 i j l g) (((Γ1.set i x).set j y).set l z) := fun ρ g0 => by
  obtain ⟨ρ1, x1, g1⟩ := h ρ g0
  have g2 := g1.set m1 i
  have g3 := g2.set m2 j
  refine ⟨((ρ1.set i u).set j v).set l w, ?_, g3.set m3 l⟩
  unfold cParM3
  simp only [x1, Option.bind_some, parM3, g1.nio hi, g2.nio hj, g3.nio hl]
  rfl
theorem ms_s (d : D) : Ms (.s d) (.sh d) := rfl
theorem ms_o (d : D) : Ms (.o d) (.ow d) := rfl
end
/-! ### fractions, sets -/
def v_fraction (a b : Int) : Int × Int := red a b
def g_fraction (a b : Int) : Prop := 0 < b ∧ b < 1000000000
theorem c_fraction (a b : Int) (h : g_fraction a b) : m_fraction [eInt a, eInt b] = some (eP2 eInt eInt (v_fraction a b)) := fraction_eq a b h.1 h.2
def v__law_fraction (a b : Int) : Int × Int := red a b
def g__law_fraction (a b : Int) : Prop := 0 < b ∧ b < 1000000000
theorem c__law_fraction (a b : Int) (h : g__law_fraction a b) : m__law_fraction [eInt a, eInt b] = some (eP2 eInt eInt (v__law_fraction a b)) := law_fraction_eq a b h.1 h.2
def g_frs (p q : Int × Int) : Prop := (0 < p.2 ∧ p.2 < 10000) ∧ 0 < q.2 ∧ q.2 < 10000
def v_plus (p q : Int × Int) : Int × Int := fadd p q
def g_plus (p q : Int × Int) : Prop := g_frs p q
theorem c_plus (p q : Int × Int) (h : g_plus p q) : m_plus [eP2 eInt eInt p, eP2 eInt eInt q] = some (eP2 eInt eInt (v_plus p q)) := plus_eq h.1.1 h.1.2 h.2.1 h.2.2
def v_minus (p q : Int × Int) : Int × Int := fsub p q
def g_minus (p q : Int × Int) : Prop := g_frs p q
theorem c_minus (p q : Int × Int) (h : g_minus p q) : m_minus [eP2 eInt eInt p, eP2 eInt eInt q] = some (eP2 eInt eInt (v_minus p q)) := minus_eq h.1.1 h.1.2 h.2.1 h.2.2
def v_times (p q : Int × Int) : Int × Int := fmul p q
def g_times (p q : Int × Int) : Prop := g_frs p q ∧ mulC p.1 q.1 = true
theorem c_times (p q : Int × Int) (h : g_times p q) : m_times [eP2 eInt eInt p, eP2 eInt eInt q] = some (eP2 eInt eInt (v_times p q)) := times_eq h.1.1.1 h.1.1.2 h.1.2.1 h.1.2.2 h.2
def v_is_less (p q : Int × Int) : Bool := decide (p.1 * q.2 < q.1 * p.2)
def g_is_less (p q : Int × Int) : Prop := g_frs p q
theorem c_is_less (p q : Int × Int) (h : g_is_less p q) : m_is_less [eP2 eInt eInt p, eP2 eInt eInt q] = some (eBool (v_is_less p q)) := is_less_eq h.1.1 h.1.2 h.2.1 h.2.2
def v_all_sets (th : List Int) : List (List Int) := upTo th (th.length + 1)
def g_all_sets (th : List Int) : Prop := (upTo th (th.length + 1)).length ≤ 16777216 ∧ th.length ≤ 1000
theorem c_all_sets (th : List Int) (h : g_all_sets th) : m_all_sets [eTp eInt th] = some (eLs (eTp eInt) (v_all_sets th)) := all_sets_eq rfl (o_lenT eInt th) h.1 h.2
def v__law_sets (th : List Int) : List (List Int) := upTo th (th.length + 1)
def g__law_sets (th : List Int) : Prop := (upTo th (th.length + 1)).length ≤ 16777216 ∧ th.length ≤ 1000
theorem c__law_sets (th : List Int) (h : g__law_sets th) : m__law_sets [eTp eInt th] = some (eLs (eTp eInt) (v__law_sets th)) := law_sets_eq rfl (o_lenT eInt th) h.1 h.2
/-! ### the law's first row -/
def law_A0 (n : Int) : Den := cDisp (kCons (cC (.str "draws")) (cArgs m__law_draws (cCons (cVar 0) (cCons (cC (.int n)) cNil))) (kCons (cC (.str "at")) (cC (.int 0)) kNil))
theorem law_A {Γ : Ctx} {i : Nat} {sc : D} {ds : List Int} {n : Int} (hd : m__law_draws [sc, .int n] = some (.list (ds.map .int))) (h0 : Γ[0]? = some (.s sc)) (hn : nio Γ[i]? = true) : JN Γ (cSetO i (law_A0 n)) (Γ.set i (.o (encW ds (0 : Nat)))) := by
  refine jn_setO (fun ρ g => ?_) hn
  obtain ⟨ρ1, x1, g1⟩ := je_s h0 ρ g
  refine ⟨ρ1, ?_, g1⟩
  have ep : putAll [(.inr "draws", .list (ds.map .int)), (.inr "at", .int 0)] = [(.str "draws", .list (ds.map .int)), (.str "at", .int 0)] := by
    unfold putAll
    simp [dput, keyD, k_da]
  unfold law_A0
  rw [cVar_ap] at x1
  simp -implicitDefEqProofs [x1, hd, ep, encW]
theorem law_of {n : Nat} (hn : n ≤ 10000) {v : List Int → Bool} {g : List Int → Prop} (c : ∀ (ds : List Int) (sc : D), m__law_draws [sc, .int n] = some (.list (ds.map .int)) → g ds → ∃ m : List D → Option D, m [sc] = some (.bool (v ds))) : True := trivial
end DL

set_option maxHeartbeats 1000000
/-! DTE: what the typed forms want of lists, ranges, turns. -/
namespace DL
open PySem L2
/-! ### turns -/
def Go {R : Type} (v : Fw Nat R) (g : Prop) : Prop := (∃ a, v = .nx a) ∧ g
theorem Go.bnd {α R : Type} {v : α} {k : α → Fw Nat R} {G : α → Prop} (h : ∀ x, x = v → Go (k x) (G x)) : Go (bnd v k) (bnd v G) := h v rfl
theorem Go.and {R : Type} {v : Fw Nat R} {A g : Prop} (a : A) (h : Go v g) : Go v (A ∧ g) := ⟨h.1, a, h.2⟩
theorem Go.no {R : Type} {x y : Fw Nat R} {g : Prop} (h : Go y g) : Go (cond (!true) x y) ((!true) = false → g) := ⟨h.1, fun _ => h.2⟩
theorem Go.if {R : Type} {x y : Fw Nat R} {b : Bool} {g : Prop} (hb : b = false) (h : Go y g) : Go (cond b x y) (b = false → g) := by
  subst hb
  exact ⟨h.1, fun _ => h.2⟩
theorem Go.nx {R : Type} {a : Nat} : Go (.nx a : Fw Nat R) True := ⟨⟨a, rfl⟩, trivial⟩
theorem foldF_nx {S α R : Type} {st : S → α → Fw S R} (h : ∀ s x, ∃ s', st s x = .nx s') : ∀ (xs : List α) (s : S), ∃ s', foldF st s xs = .nx s'
  | [], s => ⟨s, rfl⟩
  | x :: xs, s => by
    obtain ⟨s', e⟩ := h s x
    rw [foldF, e]
    exact foldF_nx h xs s'
/-- a law of so many turns -/
theorem law_turns {st : Nat → Int → Fw Nat Bool} {G : Nat → Int → Prop} (h : ∀ a x, Go (st a x) (G a x)) (xs : List Int) (a : Nat) : (Fw.on (foldF st a xs) (fun _ => true) id) = true ∧ okFF st G a xs := by
  obtain ⟨s', e⟩ := foldF_nx (fun s x => (h s x).1) xs a
  refine ⟨?_, okFF_all (fun s x => (h s x).2) a xs⟩
  rw [e]
  rfl
/-! ### folds -/
theorem foldl_app {α β : Type} (f : α → List β) : ∀ (xs : List α) (acc : List β), xs.foldl (fun acc x => acc ++ f x) acc = acc ++ xs.flatMap f
  | [], acc => by simp
  | x :: xs, acc => by
    rw [List.foldl_cons, foldl_app f xs, List.flatMap_cons, List.append_assoc]
theorem foldl_app' {α β : Type} {st : List β → α → List β} (f : α → List β) (h : ∀ acc x, st acc x = acc ++ f x) (xs : List α) (acc : List β) : xs.foldl st acc = acc ++ xs.flatMap f := by
  rw [← foldl_app f xs acc]
  congr 1
  funext acc x
  exact h acc x
theorem map_id' {α : Type} (l : List α) : l.map (fun x => x) = l := List.map_id' l
theorem okF_app {α β : Type} {st : List β → α → List β} {G : List β → α → Prop} (f : α → List β) (c : Nat) (h : ∀ acc x, st acc x = acc ++ f x) : ∀ (xs : List α) (a : List β), (∀ x ∈ xs, (f x).length ≤ c) → (∀ acc x, x ∈ xs → acc.length ≤ a.length + c * xs.length → G acc x) → okF st G a xs
  | [], _, _, _ => trivial
  | x :: xs, a, hc, hg => by
    refine ⟨hg a x List.mem_cons_self (by omega), ?_⟩
    have h1 := hc x List.mem_cons_self
    refine okF_app f c h xs (st a x) (fun y hy => hc y (List.mem_cons_of_mem _ hy)) fun acc y hy hl => hg acc y (List.mem_cons_of_mem _ hy) ?_
    rw [h a x, List.length_append] at hl
    rw [List.length_cons, Nat.mul_add]
    omega
theorem flat_len {α β : Type} (f : α → List β) (c : Nat) : ∀ xs : List α, (∀ x ∈ xs, (f x).length ≤ c) → (xs.flatMap f).length ≤ c * xs.length
  | [], _ => by simp
  | x :: xs, h => by
    have h1 := h x List.mem_cons_self
    have h2 := flat_len f c xs fun y hy => h y (List.mem_cons_of_mem _ hy)
    rw [List.flatMap_cons, List.length_append, List.length_cons, Nat.mul_add]
    omega
theorem filter_flat {α β : Type} (p : β → Bool) (f : α → List β) : ∀ xs : List α, (xs.flatMap f).filter p = xs.flatMap fun x => (f x).filter p
  | [] => rfl
  | x :: xs => by rw [List.flatMap_cons, List.filter_append, filter_flat p f xs, List.flatMap_cons]
theorem flat_congr {α β : Type} {f g : α → List β} : ∀ {xs : List α}, (∀ x ∈ xs, f x = g x) → xs.flatMap f = xs.flatMap g
  | [], _ => rfl
  | x :: xs, h => by rw [List.flatMap_cons, List.flatMap_cons, h x List.mem_cons_self, flat_congr fun y hy => h y (List.mem_cons_of_mem _ hy)]
/-- a loop that keeps some -/
theorem foldl_keep {α : Type} {st : List α → α → List α} (p : α → Bool) (h : ∀ acc x, st acc x = acc ++ cond (p x) [x] []) (xs : List α) (acc : List α) : xs.foldl st acc = acc ++ xs.filter p := by
  rw [foldl_app' (fun x => cond (p x) [x] []) h]
  congr 1
  induction xs with
  | nil => rfl
  | cons x xs ih =>
    rw [List.flatMap_cons, ih, List.filter_cons]
    cases p x <;> rfl
/-! ### ranges -/
theorem mem_rng {lo hi x : Int} : x ∈ rngT lo hi ↔ lo ≤ x ∧ x < hi := by
  unfold rngT
  rw [List.mem_map]
  constructor
  · rintro ⟨i, hi', rfl⟩
    rw [List.mem_range] at hi'
    omega
  · intro h
    refine ⟨(x - lo).toNat, ?_, by omega⟩
    rw [List.mem_range]
    omega
theorem rng_len (lo hi : Int) : (rngT lo hi).length = (hi - lo).toNat := by simp [rngT]
theorem rng_nil {lo hi : Int} (h : hi ≤ lo) : rngT lo hi = [] := by
  unfold rngT
  rw [show (hi - lo).toNat = 0 by omega]
  rfl
theorem rng_cons {lo hi : Int} (h : lo < hi) : rngT lo hi = lo :: rngT (lo + 1) hi := by
  unfold rngT
  obtain ⟨n, hn⟩ : ∃ n, (hi - lo).toNat = n + 1 := ⟨(hi - lo).toNat - 1, by omega⟩
  rw [hn, List.range_succ_eq_map, List.map_cons, List.map_map, show (hi - (lo + 1)).toNat = n by omega]
  simp only [Int.natCast_zero, Int.add_zero]
  congr 1
  refine List.map_congr_left fun i _ => ?_
  show lo + ((i + 1 : Nat) : Int) = lo + 1 + (i : Int)
  omega
theorem rng_snoc {lo hi : Int} (h : lo ≤ hi) : rngT lo (hi + 1) = rngT lo hi ++ [hi] := by
  unfold rngT
  rw [show (hi + 1 - lo).toNat = (hi - lo).toNat + 1 by omega, List.range_succ, List.map_append]
  congr 1
  simp
  omega
theorem rng_app {lo mid hi : Int} (h : lo ≤ mid) (h2 : mid ≤ hi) : rngT lo hi = rngT lo mid ++ rngT mid hi := by
  obtain ⟨n, hn⟩ := Int.eq_ofNat_of_zero_le (show 0 ≤ hi - mid by omega)
  have : hi = mid + n := by omega
  subst this
  clear hn h2
  induction n with
  | zero =>
    rw [show mid + ((0 : Nat) : Int) = mid by omega, rng_nil (Int.le_refl mid), List.append_nil]
  | succ n ih =>
    rw [show mid + ((n + 1 : Nat) : Int) = (mid + n) + 1 by omega, rng_snoc (by omega), ih, rng_snoc (by omega), List.append_assoc]
theorem rng_nat (n : Nat) : rngT 0 (n : Int) = (List.range n).map fun i : Nat => (i : Int) := by
  unfold rngT
  rw [show ((n : Int) - 0).toNat = n by omega]
  refine List.map_congr_left fun i _ => by omega
/-! ### places -/
theorem ixOk_iff {α : Type} (l : List α) (i : Int) : ixOk l i ↔ -(l.length : Int) ≤ i ∧ i < l.length := by
  unfold ixOk atI ixN
  by_cases h : 0 ≤ i
  · rw [if_pos h]
    by_cases h2 : i < (l.length : Int)
    · rw [if_pos h2]
      have : i.toNat < l.length := by omega
      simp [List.getElem?_eq_getElem this]
      omega
    · rw [if_neg h2]
      simp
      omega
  · rw [if_neg h]
    by_cases h2 : -(l.length : Int) ≤ i
    · rw [if_pos h2]
      have : (i + l.length).toNat < l.length := by omega
      simp [List.getElem?_eq_getElem this]
      omega
    · rw [if_neg h2]
      simp
      omega
theorem ixOk_of {α : Type} {l : List α} {i : Int} (h : 0 ≤ i) (h2 : i < l.length) : ixOk l i := (ixOk_iff l i).mpr ⟨by omega, h2⟩
theorem ixT_nat {α : Type} [Inhabited α] (l : List α) (j : Nat) (h : j < l.length) : ixT l (j : Int) = l[j] := by
  unfold ixT
  rw [atI_cast, List.getElem?_eq_getElem h]
  rfl
@[simp] theorem ixT_0 {α : Type} [Inhabited α] (x : α) (l : List α) : ixT (x :: l) 0 = x := by unfold ixT; rw [atI_0]; rfl
@[simp] theorem ixT_1 {α : Type} [Inhabited α] (x y : α) (l : List α) : ixT (x :: y :: l) 1 = y := by unfold ixT; rw [atI_1]; rfl
@[simp] theorem ixT_2 {α : Type} [Inhabited α] (x y z : α) (l : List α) : ixT (x :: y :: z :: l) 2 = z := by unfold ixT; rw [atI_2]; rfl
@[simp] theorem ixT_3 {α : Type} [Inhabited α] (x y z w : α) (l : List α) : ixT (x :: y :: z :: w :: l) 3 = w := by unfold ixT; rw [atI_3]; rfl
theorem ixT_mem {α : Type} [Inhabited α] {l : List α} {i : Int} (h : ixOk l i) : ixT l i ∈ l := by
  unfold ixOk at h
  unfold ixT
  cases q : atI l i with
  | none => rw [q] at h; cases h
  | some x =>
    unfold atI at q
    cases q2 : ixN l.length i with
    | none => rw [q2] at q; cases q
    | some j =>
      rw [q2] at q
      exact List.mem_of_getElem? q
/-! ### blocks that draw -/
theorem lcS_map {α β : Type} (f : Nat → α → β) (n : Nat) : ∀ (xs : List α) (a : Nat), (lcS (fun a x => cond true (some (f a x), a + n) (none, a)) a xs).1.length = xs.length ∧ ∀ y ∈ (lcS (fun a x => cond true (some (f a x), a + n) (none, a)) a xs).1, ∃ b x, x ∈ xs ∧ y = f b x
  | [], a => ⟨rfl, fun y hy => by cases hy⟩
  | x :: xs, a => by
    obtain ⟨h1, h2⟩ := lcS_map f n xs (a + n)
    refine ⟨?_, fun y hy => ?_⟩
    · rw [lcS]
      simp only [cond_true] at h1 ⊢
      rw [List.length_append, h1, List.length_cons, Nat.add_comm]
      rfl
    · rw [lcS] at hy
      simp only [cond_true] at hy h2
      simp only [Option.toList, List.cons_append, List.nil_append, List.mem_cons] at hy
      rcases hy with rfl | hy
      · exact ⟨a, x, List.mem_cons_self, rfl⟩
      · obtain ⟨b, z, hz, e⟩ := h2 y hy
        exact ⟨b, z, List.mem_cons_of_mem _ hz, e⟩
/-- any block: what is kept is what some turn gives -/
theorem lcS_mem {α β : Type} {st : Nat → α → Option β × Nat} : ∀ (xs : List α) (a : Nat), (lcS st a xs).1.length ≤ xs.length ∧ ∀ y ∈ (lcS st a xs).1, ∃ b x, x ∈ xs ∧ (st b x).1 = some y
  | [], a => ⟨Nat.le_refl _, fun y hy => by cases hy⟩
  | x :: xs, a => by
    obtain ⟨h1, h2⟩ := lcS_mem (st := st) xs (st a x).2
    refine ⟨?_, fun y hy => ?_⟩
    · rw [lcS]
      simp only [List.length_append, List.length_cons]
      cases (st a x).1 <;> simp [Option.toList] <;> omega
    · rw [lcS] at hy
      simp only [List.mem_append] at hy
      rcases hy with hy | hy
      · refine ⟨a, x, List.mem_cons_self, ?_⟩
        cases q : (st a x).1 with
        | none => rw [q] at hy; simp [Option.toList] at hy
        | some z =>
          rw [q] at hy
          simp [Option.toList] at hy
          rw [hy]
      · obtain ⟨b, z, hz, e⟩ := h2 y hy
        exact ⟨b, z, List.mem_cons_of_mem _ hz, e⟩
/-! ### dicts -/
section
variable {κ β : Type} [DecidableEq κ]
theorem mem_diPut {l : List (κ × β)} {k a : κ} {v : β} : a ∈ diKeys (diPut l k v) ↔ a ∈ diKeys l ∨ a = k := by
  unfold diPut
  split
  · rename_i h
    rw [diHas_iff] at h
    have : diKeys (l.map fun p => if p.1 = k then (p.1, v) else p) = diKeys l := by
      unfold diKeys
      rw [List.map_map]
      refine List.map_congr_left fun p _ => ?_
      simp only [Function.comp_apply]
      split <;> rfl
    rw [this]
    constructor
    · exact .inl
    · rintro (h' | rfl)
      · exact h'
      · exact h
  · unfold diKeys
    simp
theorem nodup_diPut {l : List (κ × β)} {k : κ} {v : β} (h : (diKeys l).Nodup) : (diKeys (diPut l k v)).Nodup := by
  unfold diPut
  split
  · have : diKeys (l.map fun p => if p.1 = k then (p.1, v) else p) = diKeys l := by
      unfold diKeys
      rw [List.map_map]
      refine List.map_congr_left fun p _ => ?_
      simp only [Function.comp_apply]
      split <;> rfl
    rw [this]
    exact h
  · rename_i hk
    have hk' : ¬ k ∈ diKeys l := fun z => hk (diHas_iff.mpr z)
    unfold diKeys at h hk' ⊢
    rw [List.map_append, List.nodup_append]
    refine ⟨h, by simp, fun a ha b hb => ?_⟩
    simp at hb
    subst hb
    exact fun z => hk' (z ▸ ha)
theorem dictT_keys (l : List (κ × β)) : (∀ a, a ∈ diKeys (dictT l) ↔ a ∈ l.map (·.1)) ∧ (diKeys (dictT l)).Nodup := by
  unfold dictT
  have go : ∀ (l acc : List (κ × β)), (diKeys acc).Nodup → (∀ a, a ∈ diKeys (l.foldl (fun acc p => diPut acc p.1 p.2) acc) ↔ a ∈ diKeys acc ∨ a ∈ l.map (·.1)) ∧ (diKeys (l.foldl (fun acc p => diPut acc p.1 p.2) acc)).Nodup := by
    intro l
    induction l with
    | nil => intro acc h; exact ⟨fun a => by simp, h⟩
    | cons p l ih =>
      intro acc h
      obtain ⟨h1, h2⟩ := ih (diPut acc p.1 p.2) (nodup_diPut h)
      refine ⟨fun a => ?_, h2⟩
      rw [List.foldl_cons, h1 a, mem_diPut, List.map_cons, List.mem_cons]
      constructor
      · rintro ((h | h) | h)
        · exact .inl h
        · exact .inr (.inl h)
        · exact .inr (.inr h)
      · rintro (h | h | h)
        · exact .inl (.inl h)
        · exact .inl (.inr h)
        · exact .inr h
  obtain ⟨h1, h2⟩ := go l [] List.nodup_nil
  exact ⟨fun a => by rw [h1 a]; simp [diKeys], h2⟩
theorem diPut_len (l : List (κ × β)) (k : κ) (v : β) : (diPut l k v).length ≤ l.length + 1 := by
  unfold diPut
  split
  · rw [List.length_map]; omega
  · simp
theorem dictT_len (l : List (κ × β)) : (dictT l).length ≤ l.length := by
  unfold dictT
  have go : ∀ (l acc : List (κ × β)), (l.foldl (fun acc p => diPut acc p.1 p.2) acc).length ≤ acc.length + l.length := by
    intro l
    induction l with
    | nil => intro acc; simp
    | cons p l ih =>
      intro acc
      have h1 := ih (diPut acc p.1 p.2)
      have h2 := diPut_len acc p.1 p.2
      rw [List.foldl_cons, List.length_cons]
      omega
  have := go l []
  simpa using this
end
/-! ### sorting -/
section
variable {α : Type}
theorem mem_srt {lt : α → α → Bool} {l : List α} {x : α} : x ∈ srtT lt l ↔ x ∈ l := (isrt_perm _ l).mem_iff
theorem srt_len {lt : α → α → Bool} {l : List α} : (srtT lt l).length = l.length := (isrt_perm _ l).length_eq
theorem srt_nodup {lt : α → α → Bool} {l : List α} (h : l.Nodup) : (srtT lt l).Nodup := (isrt_perm _ l).nodup_iff.mpr h
end
end DL

set_option maxHeartbeats 1000000
/-! DTZ: sizes of what is held alike; first of what fits; decidable guards. -/
namespace DL
open PySem L2
section
variable {α β γ δ : Type}
theorem sz_I (a : Int) : sz (eInt a) ≤ 1 := by simp [eInt, sz]
theorem sz_B (a : Bool) : sz (eBool a) ≤ 1 := by simp [eBool, sz]
theorem sz_N (a : Nm) : sz (eNm a) ≤ 1 := by simp [eNm, sz]
theorem szs_le {e : α → D} {c : Nat} : ∀ l : List α, (∀ x ∈ l, sz (e x) ≤ c) → szs (l.map e) ≤ c * l.length
  | [], _ => by simp [szs]
  | x :: l, h => by
    have h1 := h x List.mem_cons_self
    have h2 := szs_le l fun y hy => h y (List.mem_cons_of_mem _ hy)
    rw [List.map_cons, szs, List.length_cons, Nat.mul_add]
    omega
theorem sz_T {e : α → D} {c : Nat} {l : List α} (h : ∀ x ∈ l, sz (e x) ≤ c) : sz (eTp e l) ≤ c * l.length + 1 := by
  have := szs_le l h
  simp only [eTp, sz]
  omega
theorem sz_L {e : α → D} {c : Nat} {l : List α} (h : ∀ x ∈ l, sz (e x) ≤ c) : sz (eLs e l) ≤ c * l.length + 1 := by
  have := szs_le l h
  simp only [eLs, sz]
  omega
theorem sz_P2 {e : α → D} {g : β → D} {a b : Nat} {p : α × β} (h1 : sz (e p.1) ≤ a) (h2 : sz (g p.2) ≤ b) : sz (eP2 e g p) ≤ a + b + 1 := by
  simp only [eP2, sz, szs]
  omega
theorem sz_P3 {e : α → D} {g : β → D} {k : γ → D} {a b c : Nat} {p : α × β × γ} (h1 : sz (e p.1) ≤ a) (h2 : sz (g p.2.1) ≤ b) (h3 : sz (k p.2.2) ≤ c) : sz (eP3 e g k p) ≤ a + b + c + 1 := by
  simp only [eP3, sz, szs]
  omega
theorem sz_P4 {e : α → D} {g : β → D} {k : γ → D} {q : δ → D} {a b c d : Nat} {p : α × β × γ × δ} (h1 : sz (e p.1) ≤ a) (h2 : sz (g p.2.1) ≤ b) (h3 : sz (k p.2.2.1) ≤ c) (h4 : sz (q p.2.2.2) ≤ d) : sz (eP4 e g k q p) ≤ a + b + c + d + 1 := by
  simp only [eP4, sz, szs]
  omega
theorem sz_O {e : α → D} {c : Nat} {x : Option α} (h0 : 1 ≤ c) (h : ∀ a, x = some a → sz (e a) ≤ c) : sz (eOp e x) ≤ c := by
  cases x with
  | none => simpa [eOp, sz] using h0
  | some a => exact h a rfl
theorem sm_of [DecidableEq α] {e : α → D} {n : Nat} [EnOk e n] {x : α} (hz : sz (e x) ≤ 1000000) (h : n ≤ 40 := by decide) : smOk (e x) := ⟨EnOk.lay (e := e) x, Nat.le_trans (EnOk.dep (e := e) x) h, hz⟩
end
/-! the first that fits -/
theorem foldF_find {α R : Type} {st : Unit → α → Fw Unit R} (p : α → Bool) (f : α → R) (h : ∀ x, st () x = cond (p x) (.rt (f x)) (.nx ())) (k : R) : ∀ xs : List α, (foldF st () xs).on (fun _ => k) id = ((xs.find? p).map f).getD k
  | [] => rfl
  | x :: xs => by
    rw [foldF, h, List.find?_cons]
    cases hp : p x with
    | true => rfl
    | false =>
      have := foldF_find p f h k xs
      simpa using this
theorem okFF_mem {S α R : Type} {st : S → α → Fw S R} {G : S → α → Prop} : ∀ (xs : List α) (s : S), (∀ s x, x ∈ xs → G s x) → okFF st G s xs
  | [], _, _ => trivial
  | x :: xs, s, h => ⟨h s x List.mem_cons_self, by
    cases st s x with
    | nx s' => exact okFF_mem xs s' fun s y hy => h s y (List.mem_cons_of_mem _ hy)
    | bk _ => trivial
    | rt _ => trivial⟩
theorem okF_mem {S α : Type} {st : S → α → S} {G : S → α → Prop} : ∀ (xs : List α) (s : S), (∀ s x, x ∈ xs → G s x) → okF st G s xs
  | [], _, _ => trivial
  | x :: xs, s, h => ⟨h s x List.mem_cons_self, okF_mem xs _ fun s y hy => h s y (List.mem_cons_of_mem _ hy)⟩
theorem first_find {α : Type} [Inhabited α] [DecidableEq α] (p : α → Bool) (l : List α) : cond (!decide (l.filter p = [])) (some (ixT (l.filter p) 0)) none = l.find? p := by
  induction l with
  | nil => rfl
  | cons x l ih =>
    rw [List.filter_cons, List.find?_cons]
    cases hp : p x with
    | true => simp
    | false => simpa using ih
theorem mem_rngB {hi lo x : Int} : x ∈ rngB hi lo ↔ lo < x ∧ x ≤ hi := by
  unfold rngB
  rw [List.mem_map]
  constructor
  · rintro ⟨i, hi', rfl⟩
    rw [List.mem_range] at hi'
    omega
  · intro h
    refine ⟨(hi - x).toNat, ?_, by omega⟩
    rw [List.mem_range]
    omega
theorem rngB_cons {hi lo : Int} (h : lo < hi) : rngB hi lo = hi :: rngB (hi - 1) lo := by
  unfold rngB
  obtain ⟨n, hn⟩ : ∃ n, (hi - lo).toNat = n + 1 := ⟨(hi - lo).toNat - 1, by omega⟩
  rw [hn, List.range_succ_eq_map, List.map_cons, List.map_map, show (hi - 1 - lo).toNat = n by omega]
  simp only [Int.natCast_zero, Int.zero_mul, Int.add_zero]
  congr 1
  refine List.map_congr_left fun i _ => ?_
  show hi + ((i + 1 : Nat) : Int) * (-1) = hi - 1 + (i : Int) * (-1)
  omega
theorem maxIT_spec {l : List Int} (h : l ≠ []) : maxIT l ∈ l ∧ ∀ y ∈ l, y ≤ maxIT l := by
  cases l with
  | nil => exact absurd rfl h
  | cons a r => exact foldl_max r a
theorem minIT_spec {l : List Int} (h : l ≠ []) : minIT l ∈ l ∧ ∀ y ∈ l, minIT l ≤ y := by
  cases l with
  | nil => exact absurd rfl h
  | cons a r => exact foldl_min r a
theorem maxIT_eq {l : List Int} {x : Int} (h : x ∈ l) (h2 : ∀ y ∈ l, y ≤ x) : maxIT l = x := by
  obtain ⟨a, b⟩ := maxIT_spec (l := l) (by intro z; subst z; cases h)
  exact Int.le_antisymm (h2 _ a) (b _ h)
theorem minIT_eq {l : List Int} {x : Int} (h : x ∈ l) (h2 : ∀ y ∈ l, x ≤ y) : minIT l = x := by
  obtain ⟨a, b⟩ := minIT_spec (l := l) (by intro z; subst z; cases h)
  exact Int.le_antisymm (b _ h) (h2 _ a)
theorem diHas_dictT {κ β : Type} [DecidableEq κ] (l : List (κ × β)) (k : κ) : diHas (dictT l) k = decide (k ∈ l.map (·.1)) := by
  rw [Bool.eq_iff_iff, diHas_iff, decide_eq_true_eq]
  exact (dictT_keys l).1 k
/-! guards that can be decided -/
instance : Decidable (g_fraction a b) := by unfold g_fraction; infer_instance
instance : Decidable (g__law_fraction a b) := by unfold g__law_fraction; infer_instance
instance : Decidable (g_frs p q) := by unfold g_frs; infer_instance
instance : Decidable (g_plus p q) := by unfold g_plus; infer_instance
instance : Decidable (g_minus p q) := by unfold g_minus; infer_instance
instance : Decidable (g_times p q) := by unfold g_times; infer_instance
instance : Decidable (g_is_less p q) := by unfold g_is_less; infer_instance
instance decBnd {α : Type} {v : α} {G : α → Prop} [∀ x, Decidable (G x)] : Decidable (bnd v G) := inferInstanceAs (Decidable (G v))
instance decOkF {S α : Type} {st : S → α → S} {G : S → α → Prop} [∀ s x, Decidable (G s x)] : ∀ (xs : List α) (s : S), Decidable (okF st G s xs)
  | [], _ => inferInstanceAs (Decidable True)
  | x :: xs, s => @instDecidableAnd _ _ _ (decOkF xs (st s x))
instance decOkFF {S α R : Type} {st : S → α → Fw S R} {G : S → α → Prop} [∀ s x, Decidable (G s x)] : ∀ (xs : List α) (s : S), Decidable (okFF st G s xs)
  | [], _ => inferInstanceAs (Decidable True)
  | x :: xs, s => by
    have : Decidable (match st s x with
      | .nx s' => okFF st G s' xs
      | _ => True) := by
      cases st s x with
      | nx s' => exact decOkFF xs s'
      | bk _ => exact inferInstanceAs (Decidable True)
      | rt _ => exact inferInstanceAs (Decidable True)
    exact instDecidableAnd
/-! all of so many -/
theorem all_lt {n : Nat} {p : Nat → Bool} (h : (List.range n).all p = true) {x : Int} (h0 : 0 ≤ x) (h1 : x < n) : p x.toNat = true := List.all_eq_true.mp h _ (List.mem_range.mpr (by omega))
end DL

set_option maxHeartbeats 4000000
/-! DTF: typed: dict walks, get, dict display, dicts compared, min and max of two things, reverses. -/
namespace DL
open PySem L2
section
variable {α β κ : Type} {Γ Γ1 Γ2 : Ctx} {e : Den} {a : ADen} {o : ODen} {h1 : Hd} {c0 c d : D} {ds : List D} {i : Nat}
theorem je_mth {tag : D → Bool} {op : D → List D → Option D} (j1 : JO Γ o h1 Γ1) (r1 : HR Γ1 h1 c0) (ht : tag c0 = true) (j2 : JA Γ1 a ds Γ2) (r2 : HR Γ2 h1 c) (q : op c ds = some d) : JE Γ (cMth tag op o a) d Γ2 := fun ρ g => by
  obtain ⟨ρ1, x1, g1⟩ := j1 ρ g
  obtain ⟨ρ2, x2, g2⟩ := j2 ρ1 g1
  refine ⟨ρ2, ?_, g2⟩
  unfold cMth
  simp only [x1, Option.bind_some, r1 ρ1 g1, ht, if_true, x2, r2 ρ2 g2, q]
theorem ji_K {ek : κ → D} {ev : β → D} {l : List (κ × β)} (j : JE Γ (cVar i) (eDi ek ev l) Γ1) : JI Γ (iK i) ((diKeys l).map ek) Γ1 := fun ρ g => by
  obtain ⟨ρ1, x1, g1⟩ := j ρ g
  refine ⟨ρ1, ?_, g1⟩
  unfold iK
  rw [x1]
  show some (keysOf (l.map fun p => (ek p.1, ev p.2)), ρ1) = _
  unfold keysOf diKeys
  rw [List.map_map, List.map_map]
  rfl
variable [DecidableEq κ] [DecidableEq β]
theorem o_get2 (ek : κ → D) (ev : β → D) [KeyE ek] (l : List (κ × β)) (k : κ) (d : β) : getD (eDi ek ev l) [ek k, ev d] = some (ev ((diGet? l k).getD d)) := by
  show (if fitK (l.map fun p => (ek p.1, ev p.2)) (ek k) = true then some ((DL.dget (l.map fun p => (ek p.1, ev p.2)) (ek k)).getD (ev d)) else none) = _
  rw [if_pos (fit_en l k), dget_en]
  cases diGet? l k <;> rfl
theorem o_get1 (ek : κ → D) (ev : β → D) [KeyE ek] (l : List (κ × β)) (k : κ) : getD (eDi ek ev l) [ek k] = some (eOp ev (diGet? l k)) := by
  show (if fitK (l.map fun p => (ek p.1, ev p.2)) (ek k) = true then some ((DL.dget (l.map fun p => (ek p.1, ev p.2)) (ek k)).getD .none) else none) = _
  rw [if_pos (fit_en l k), dget_en]
  cases diGet? l k <;> rfl
def eqDi (l m : List (κ × β)) : Bool := l.length == m.length && l.all fun p => match diGet? m p.1 with
  | some d => decide (p.2 = d)
  | none => false
theorem okDict_en (ek : κ → D) (ev : β → D) [KeyA ek] {n : Nat} [EnOk ev n] (h : n ≤ 64) (l : List (κ × β)) : okDict (l.map fun p => (ek p.1, ev p.2)) = true := List.all_eq_true.mpr fun p hp => by
  obtain ⟨q, _, rfl⟩ := List.mem_map.mp hp
  obtain ⟨k, e⟩ := KeyA.key (ek := ek) q.1
  show (isKey (ek q.1) && SeqAt.shaped (ev q.2)) = true
  rw [e, keyD_is k, en_shaped h q.2]
  rfl
theorem eqDict_en (ek : κ → D) (ev : β → D) [KeyA ek] {n : Nat} [EnOk ev n] (l m : List (κ × β)) : eqDict (l.map fun p => (ek p.1, ev p.2)) (m.map fun p => (ek p.1, ev p.2)) = eqDi l m := by
  unfold eqDict eqDi
  rw [List.length_map, List.length_map, List.all_map]
  congr 1
  congr 1
  funext p
  show (match DL.dget (m.map fun p => (ek p.1, ev p.2)) (ek p.1) with
    | some d => PyData.eqv (ev p.2) d
    | none => false) = _
  rw [dget_en]
  cases diGet? m p.1 with
  | none => rfl
  | some d => exact EnOk.eqv (e := ev) p.2 d
theorem o_eqDi (ek : κ → D) (ev : β → D) [KeyA ek] {n : Nat} [EnOk ev n] (h : n ≤ 64 := by decide) (l m : List (κ × β)) : eqDD (eDi ek ev l) (eDi ek ev m) = some (eBool (eqDi l m)) := by
  show (if (okDict (l.map fun p => (ek p.1, ev p.2)) && okDict (m.map fun p => (ek p.1, ev p.2))) = true then some (PyData.bool (eqDict (l.map fun p => (ek p.1, ev p.2)) (m.map fun p => (ek p.1, ev p.2)))) else none) = _
  rw [okDict_en ek ev h, okDict_en ek ev h, eqDict_en]
  rfl
theorem o_neDi (ek : κ → D) (ev : β → D) [KeyA ek] {n : Nat} [EnOk ev n] (h : n ≤ 64 := by decide) (l m : List (κ × β)) : neDD (eDi ek ev l) (eDi ek ev m) = some (eBool (!eqDi l m)) := by
  show (if (okDict (l.map fun p => (ek p.1, ev p.2)) && okDict (m.map fun p => (ek p.1, ev p.2))) = true then some (PyData.bool (!eqDict (l.map fun p => (ek p.1, ev p.2)) (m.map fun p => (ek p.1, ev p.2)))) else none) = _
  rw [okDict_en ek ev h, okDict_en ek ev h, eqDict_en]
  rfl
omit [DecidableEq β] in
theorem o_dictB (ek : κ → D) (ev : β → D) [KeyA ek] (l : List (κ × β)) : dictB (eLs (eP2 ek ev) l) = some (eDi ek ev (dictT l)) := by
  obtain ⟨ps, e1, e2⟩ := pairs_en (ev := ev) (ek := ek) l
  have : dictP (eLs (eP2 ek ev) l) = some (eDi ek ev (dictT l)) := by
    show (pairsOf (l.map (eP2 ek ev))).map _ = _
    rw [e1]
    show some (PyData.dict (putAll ps)) = _
    rw [putAll_en ps l e2]
    rfl
  unfold dictB
  rw [this]
omit [DecidableEq β] in
theorem o_dictCB (ek : κ → D) (ev : β → D) [KeyA ek] (l : List (κ × β)) : dictB (eDi ek ev l) = some (eDi ek ev l) := by
  show (if flatD (l.map fun p => (ek p.1, ev p.2)) = true then some (PyData.dict (l.map fun p => (ek p.1, ev p.2))) else none) = _
  rw [if_pos (show flatD _ = true from List.all_eq_true.mpr fun p hp => by
    obtain ⟨q, _, rfl⟩ := List.mem_map.mp hp
    obtain ⟨k, e⟩ := KeyA.key (ek := ek) q.1
    show isKey (ek q.1) = true
    rw [e]
    exact keyD_is k)]
  rfl
/-- a dict as it is written -/
def JK (ek : κ → D) (ev : β → D) (Γ : Ctx) (g : KDen) (l : List (κ × β)) (Γ' : Ctx) : Prop := ∀ ρ, Ag Γ ρ → ∃ ρ' ps, g ρ = some (ps, ρ') ∧ ps.map (fun p => (keyD p.1, p.2)) = l.map (fun p => (ek p.1, ev p.2)) ∧ Ag Γ' ρ'
omit [DecidableEq κ] [DecidableEq β] in
theorem jk_n {ek : κ → D} {ev : β → D} : JK ek ev Γ kNil [] Γ := fun ρ g => ⟨ρ, [], rfl, rfl, g⟩
omit [DecidableEq β] in
theorem jk_c {ek : κ → D} {ev : β → D} [KeyA ek] {fk f : Den} {g : KDen} {k : κ} {v : β} {l : List (κ × β)} (j1 : JE Γ fk (ek k) Γ1) (j2 : JE Γ1 f (ev v) Γ2) {Γ3 : Ctx} (j3 : JK ek ev Γ2 g l Γ3) : JK ek ev Γ (kCons fk f g) ((k, v) :: l) Γ3 := fun ρ g0 => by
  obtain ⟨ρ1, x1, g1⟩ := j1 ρ g0
  obtain ⟨ρ2, x2, g2⟩ := j2 ρ1 g1
  obtain ⟨ρ3, ps, x3, e3, g3⟩ := j3 ρ2 g2
  obtain ⟨kk, ek1⟩ := KeyA.key (ek := ek) k
  refine ⟨ρ3, (kk, ev v) :: ps, ?_, ?_, g3⟩
  · unfold kCons
    simp only [x1, Option.bind_some, ek1, asK_keyD, x2, x3]
  · rw [List.map_cons, List.map_cons, e3, ek1]
omit [DecidableEq β] in
theorem je_disp {ek : κ → D} {ev : β → D} [KeyA ek] {g : KDen} {l : List (κ × β)} (j : JK ek ev Γ g l Γ1) (h : l.length ≤ 15) : JE Γ (cDisp g) (eDi ek ev (dictT l)) Γ1 := fun ρ g0 => by
  obtain ⟨ρ1, ps, x1, e1, g1⟩ := j ρ g0
  refine ⟨ρ1, ?_, g1⟩
  have hl : ps.length = l.length := by
    have := congrArg List.length e1
    simpa using this
  unfold cDisp
  simp only [x1, Option.bind_some]
  rw [if_pos (by omega), putAll_en ps l e1]
  rfl
end
section
variable {α : Type} [DecidableEq α]
theorem o_min2T {e : α → D} {n : Nat} [EnOk e n] {lt : α → α → Bool} [OrdE e lt] (h : n ≤ 32 := by decide) [NN e] [NInt e] [Inhabited α] (a b : α) : min2A [e a, e b] = some (e (minT lt [a, b])) := by
  have h1 := o_minT (e := e) (lt := lt) h (l := [a, b]) (by simp)
  have h2 : min2D [e a, e b] = none := by
    have := NInt.ni (e := e) a
    cases q : e a with
    | int i => rw [q] at this; cases this
    | _ => rfl
  have h3 : minLD (eLs e [a, b]) = none := by
    show (asIs ([a, b].map e)).bind _ = none
    rw [List.map_cons, asIs, NInt.ni (e := e) a]
    rfl
  unfold minAD at h1
  rw [h3] at h1
  unfold min2A
  rw [h2]
  exact h1
theorem o_max2T {e : α → D} {n : Nat} [EnOk e n] {lt : α → α → Bool} [OrdE e lt] (h : n ≤ 32 := by decide) [NN e] [NInt e] [Inhabited α] (a b : α) : max2A [e a, e b] = some (e (maxT lt [a, b])) := by
  have h1 := o_maxT (e := e) (lt := lt) h (l := [a, b]) (by simp)
  have h2 : max2D [e a, e b] = none := by
    have := NInt.ni (e := e) a
    cases q : e a with
    | int i => rw [q] at this; cases this
    | _ => rfl
  have h3 : maxLD (eLs e [a, b]) = none := by
    show (asIs ([a, b].map e)).bind _ = none
    rw [List.map_cons, asIs, NInt.ni (e := e) a]
    rfl
  unfold maxAD at h1
  rw [h3] at h1
  unfold max2A
  rw [h2]
  exact h1
omit [DecidableEq α] in
theorem o_revL (e : α → D) (l : List α) : revD (eLs e l) = some (eLs e l.reverse) := by
  unfold eLs
  simp [revD]
omit [DecidableEq α] in
theorem o_revT (e : α → D) (l : List α) : revD (eTp e l) = some (eTp e l.reverse) := by
  unfold eTp
  simp [revD]
end
end DL
namespace DL
open PySem L2
section
theorem asIs_en : ∀ l : List Int, asIs (l.map eInt) = some l
  | [] => rfl
  | x :: l => by
    rw [List.map_cons, asIs, asIs_en l]
    rfl
def inM {α : Type} [DecidableEq α] (a : α) (l : List α) : Bool := decide (a ∈ l)
theorem inM_iff {α : Type} [DecidableEq α] {a : α} {l : List α} : inM a l = true ↔ a ∈ l := decide_eq_true_iff
theorem o_inML {α : Type} [DecidableEq α] {e : α → D} {n : Nat} [EnOk e n] (h : n ≤ 63 := by decide) (a : α) (l : List α) : inD (e a) (eLs e l) = some (eBool (inM a l)) := o_inL h a l
theorem o_inMT {α : Type} [DecidableEq α] {e : α → D} {n : Nat} [EnOk e n] (h : n ≤ 63 := by decide) (a : α) (l : List α) : inD (e a) (eTp e l) = some (eBool (inM a l)) := o_inT h a l
theorem o_ninML {α : Type} [DecidableEq α] {e : α → D} {n : Nat} [EnOk e n] (h : n ≤ 63 := by decide) (a : α) (l : List α) : notInD (e a) (eLs e l) = some (eBool (!inM a l)) := o_ninL h a l
theorem o_ninMT {α : Type} [DecidableEq α] {e : α → D} {n : Nat} [EnOk e n] (h : n ≤ 63 := by decide) (a : α) (l : List α) : notInD (e a) (eTp e l) = some (eBool (!inM a l)) := o_ninT h a l
theorem o_sortSetL {l : List Int} (h1 : l.length ≤ 4000) (h2 : (ddp l).length < 64) : sortSetD (eLs eInt l) = some (eLs eInt (srtSet l)) := by
  show (asIs (l.map eInt)).bind _ = _
  rw [asIs_en]
  show (if l.length ≤ 4000 ∧ (ddp l).length < 64 then some (PyData.list ((srtSet l).map .int)) else none) = _
  rw [if_pos ⟨h1, h2⟩]
  rfl
theorem o_sortSetT {l : List Int} (h1 : l.length ≤ 4000) (h2 : (ddp l).length < 64) : sortSetD (eTp eInt l) = some (eLs eInt (srtSet l)) := by
  show (asIs (l.map eInt)).bind _ = _
  rw [asIs_en]
  show (if l.length ≤ 4000 ∧ (ddp l).length < 64 then some (PyData.list ((srtSet l).map .int)) else none) = _
  rw [if_pos ⟨h1, h2⟩]
  rfl
theorem o_lenSetL {l : List Int} (h1 : l.length ≤ 4000) : lenSetD (eLs eInt l) = some (eInt ((ddp l).length : Int)) := by
  show (asIs (l.map eInt)).bind _ = _
  rw [asIs_en]
  show (if l.length ≤ 4000 then some (PyData.int ((ddp l).length : Nat)) else none) = _
  rw [if_pos h1]
  rfl
theorem o_lenSetT {l : List Int} (h1 : l.length ≤ 4000) : lenSetD (eTp eInt l) = some (eInt ((ddp l).length : Int)) := by
  show (asIs (l.map eInt)).bind _ = _
  rw [asIs_en]
  show (if l.length ≤ 4000 then some (PyData.int ((ddp l).length : Nat)) else none) = _
  rw [if_pos h1]
  rfl
theorem o_revP2 {α β : Type} (e : α → D) (g : β → D) (p : α × β) : revD (eP2 e g p) = some (eP2 g e (p.2, p.1)) := by
  unfold eP2
  simp [revD]
end
end DL

set_option maxHeartbeats 4000000
/-! DTI: typed: values of any kind; is True; len(set(..)) of tuples. -/
namespace DL
open PySem L2
/-! ### reading a thing of a type out of any value -/
def dInt : D → Option Int
  | .int i => some i
  | _ => none
def dStr : D → Option Str
  | .str s => some s
  | _ => none
section
variable {α : Type}
def dAll (f : D → Option α) : List D → Option (List α)
  | [] => some []
  | x :: xs => (f x).bind fun y => (dAll f xs).bind fun ys => some (y :: ys)
def dTp (f : D → Option α) : D → Option (List α)
  | .tuple xs => dAll f xs
  | _ => none
def dLs (f : D → Option α) : D → Option (List α)
  | .list xs => dAll f xs
  | _ => none
def dAny : D → Option D := some
class Dec (e : α → D) (f : D → Option α) : Prop where
  dec : ∀ d a, f d = some a → d = e a
instance : Dec eInt dInt := ⟨fun d a h => by
  unfold dInt at h
  split at h
  · cases h
    rfl
  · cases h⟩
instance : Dec eStr dStr := ⟨fun d a h => by
  unfold dStr at h
  split at h
  · cases h
    rfl
  · cases h⟩
instance : Dec eD dAny := ⟨fun d a h => by
  cases h
  rfl⟩
theorem dec_all {e : α → D} {f : D → Option α} [Dec e f] : ∀ (xs : List D) (l : List α), dAll f xs = some l → xs = l.map e
  | [], l, h => by
    cases h
    rfl
  | x :: xs, l, h => by
    unfold dAll at h
    obtain ⟨y, e1, h⟩ := bind_some h
    obtain ⟨ys, e2, h⟩ := bind_some h
    cases h
    rw [List.map_cons, ← dec_all xs ys e2, ← Dec.dec (e := e) x y e1]
instance {e : α → D} {f : D → Option α} [Dec e f] : Dec (eTp e) (dTp f) := ⟨fun d a h => by
  unfold dTp at h
  split at h
  · rw [dec_all (e := e) _ _ h]
    rfl
  · cases h⟩
instance {e : α → D} {f : D → Option α} [Dec e f] : Dec (eLs e) (dLs f) := ⟨fun d a h => by
  unfold dLs at h
  split at h
  · rw [dec_all (e := e) _ _ h]
    rfl
  · cases h⟩
variable {Γ Γ1 : Ctx} {f : Den} {h : Hd} {y : D}
theorem dec_get {en : α → D} {dc : D → Option α} [Dec en dc] [Inhabited α] (g : (dc y).isSome = true) : eD y = en ((dc y).getD default) := by
  cases q : dc y with
  | none => rw [q] at g; cases g
  | some a => exact Dec.dec (e := en) y a q
theorem je_as {en : α → D} {dc : D → Option α} [Dec en dc] [Inhabited α] (g : (dc y).isSome = true) (j : JE Γ f (eD y) Γ1) : JE Γ f (en ((dc y).getD default)) Γ1 := by
  rw [← dec_get (en := en) g]
  exact j
theorem hr_as {en : α → D} {dc : D → Option α} [Dec en dc] [Inhabited α] (g : (dc y).isSome = true) (j : HR Γ h (eD y)) : HR Γ h (en ((dc y).getD default)) := by
  rw [← dec_get (en := en) g]
  exact j
/-- a thing's items as any values -/
theorem tpY (e : α → D) (l : List α) : eTp e l = eTp eD (l.map e) := by
  unfold eTp
  rw [List.map_map]
  rfl
theorem lsY (e : α → D) (l : List α) : eLs e l = eLs eD (l.map e) := by
  unfold eLs
  rw [List.map_map]
  rfl
theorem hr_cast {d d' : D} (q : d = d') (j : HR Γ h d) : HR Γ h d' := q ▸ j
theorem dAll_en {e : α → D} {f : D → Option α} (q : ∀ a, f (e a) = some a) : ∀ l : List α, dAll f (l.map e) = some l
  | [] => rfl
  | x :: l => by
    rw [List.map_cons, dAll, q, dAll_en q l]
    rfl
end
theorem je_ifW {α : Type} {Γ Γ1 : Ctx} {t : TDen} {e1 e2 : Den} {b : Bool} {en : α → D} {x y : α} {Γf : Nat → Ctx} {pa pb : Nat} (jt : JT Γ t b Γ1) (ja : b = true → JE Γ1 e1 (en x) (Γf pa)) (jb : b = false → JE Γ1 e2 (en y) (Γf pb)) : JE Γ (cIf t e1 e2) (en (cond b x y)) (Γf (cond b pa pb)) := by
  cases b with
  | true => exact je_if (en := en) (x := x) (y := x) jt (fun _ => ja rfl) (fun h => nomatch h)
  | false => exact je_if (en := en) (x := y) (y := y) jt (fun h => nomatch h) (fun _ => jb rfl)
/-! ### asks of any value -/
def isY (T : String) (y : D) : Bool := (isT T y).getD false
def itsY : D → List D
  | .tuple xs => xs
  | .list xs => xs
  | _ => []
def seqY : D → Bool
  | .tuple _ => true
  | .list _ => true
  | _ => false
theorem o_isi {T : String} (h : (isT T .none).isSome = true) (y : D) : isiD T (eD y) = some (eBool (isY T y)) := by
  unfold isiD isY eD
  have : (isT T y).isSome = true := by
    unfold isT at h ⊢
    split at h
    case h_7 => cases h
    all_goals rfl
  cases q : isT T y with
  | none => rw [q] at this; cases this
  | some b => rfl
theorem it_Y {y : D} (h : seqY y = true) : itD (eD y) = some ((itsY y).map eD) := by
  cases y with
  | tuple xs => show some xs = some (xs.map fun d => d); rw [List.map_id']
  | list xs => show some xs = some (xs.map fun d => d); rw [List.map_id']
  | _ => cases h
theorem o_lenY {y : D} (h : seqY y = true) : lenD (eD y) = some (eInt ((itsY y).length : Int)) := by
  cases y with
  | tuple xs => rfl
  | list xs => rfl
  | _ => cases h
theorem o_isB (a b : Bool) : isBD (eBool a) (eBool b) = some (eBool (decide (a = b))) := rfl
theorem o_notIsB (a b : Bool) : notBD (eBool a) (eBool b) = some (eBool (!decide (a = b))) := rfl
theorem asTs_en : ∀ l : List (List Int), asTs (l.map (eTp eInt)) = some l
  | [] => rfl
  | x :: l => by
    rw [List.map_cons]
    show (asIs (x.map eInt)).bind (fun k => (asTs (l.map (eTp eInt))).bind fun ks => some (k :: ks)) = _
    rw [asIs_en, asTs_en l]
    rfl
theorem o_lenSetTs {l : List (List Int)} (h : l.length < 64) : lenSetTD (eLs (eTp eInt) l) = some (eInt ((ddp l).length : Int)) := by
  show (asTs (l.map (eTp eInt))).bind _ = _
  rw [asTs_en]
  show (if l.length < 64 then some (PyData.int ((ddp l).length : Nat)) else none) = _
  rw [if_pos h]
  rfl
theorem o_eqYnil {l : List D} (h : SeqAt.shaped (eLs eD l) = true) : eqD (eLs eD l) (eLs eD []) = some (eBool l.isEmpty) := by
  unfold eqD
  rw [h, show SeqAt.shaped (eLs eD []) = true by decide]
  show some (PyData.bool (PyData.eqv (.list (l.map eD)) (.list []))) = _
  rw [PyData.eqv]
  cases l with
  | nil => rfl
  | cons x l => rw [List.map_cons, PyData.eqvAll] <;> simp [eBool]
theorem o_neYnil {l : List D} (h : SeqAt.shaped (eLs eD l) = true) : neD (eLs eD l) (eLs eD []) = some (eBool (!l.isEmpty)) := by
  unfold neD
  rw [h, show SeqAt.shaped (eLs eD []) = true by decide]
  show some (PyData.bool (!PyData.eqv (.list (l.map eD)) (.list []))) = _
  rw [PyData.eqv]
  cases l with
  | nil => rfl
  | cons x l => rw [List.map_cons, PyData.eqvAll] <;> simp [eBool]
@[simp] theorem isY_tup_t (l : List D) : isY "tuple" (.tuple l) = true := rfl
@[simp] theorem isY_tup_l (l : List D) : isY "tuple" (.list l) = false := rfl
@[simp] theorem isY_tup_n : isY "tuple" .none = false := rfl
end DL

set_option maxHeartbeats 4000000
/-! KTY_k46: the defs' typed forms (printed by gen2.py). -/
namespace DL
open PySem L2
def v_is_number (p_thing : D) : Bool :=
  ((isY "int" p_thing) && (!(isY "bool" p_thing)))
theorem c_is_number (p_thing : D) : m_is_number [eD p_thing] = some (eBool (v_is_number p_thing)) := by
  unfold v_is_number
  exact run_jr (er := eBool) rfl (by exact (jr_ret (je_and (je_un (jo_n rfl) (hr_n rfl) (o_isi (T := "int") rfl _)) (fun hb1 => (je_un (jo_e (je_un (jo_n rfl) (hr_n rfl) (o_isi (T := "bool") rfl _))) hr_v (o_notB _)))) pr_0))
def v_is_ascending (p_things : (List Int)) : Bool :=
  (((rngT 0 ((p_things.length : Int) - 1)).map (fun x_y : Int => (decide ((ixT p_things x_y) < (ixT p_things (x_y + 1)))))).all id)
def g_is_ascending (p_things : (List Int)) : Prop :=
  bdI ((p_things.length : Int) - 1) = true ∧ (∀ x_y ∈ (rngT 0 ((p_things.length : Int) - 1)), (ixOk p_things x_y ∧ ixOk p_things (x_y + 1))) ∧ (rngT 0 ((p_things.length : Int) - 1)).length ≤ sizeLine
theorem c_is_ascending (p_things : (List Int)) (h : g_is_ascending p_things) : m_is_ascending [(eTp eInt) p_things] = some (eBool (v_is_ascending p_things)) := by
  unfold g_is_ascending at h
  unfold v_is_ascending
  exact run_jr (er := eBool) rfl (by exact (jr_ret (je_un (jo_e (je_lc0 (eo := eBool) (Γx := fun x_y : Int => [.s ((eTp eInt) p_things), .s (eInt x_y)]) (ji_a (ja_c (je_bin (jo_e (je_un (jo_n rfl) (hr_n rfl) (o_lenT eInt _))) (jo_e je_c) hr_v hr_v (o_subI _ _)) ja_n) (it_r1 h.1)) rfl (fun _ => (jg_n rfl)) (fun _ => rfl) (fun _ => rfl) (fun x_y hb2 => (je_bin (jo_e (je_bin (jo_n rfl) (jo_n rfl) (hr_n rfl) (hr_n rfl) (o_ixT eInt (h.2.1 x_y hb2).1))) (jo_e (je_bin (jo_n rfl) (jo_e (je_bin (jo_n rfl) (jo_e je_c) (hr_n rfl) hr_v (o_addI _ _))) (hr_n rfl) hr_v (o_ixT eInt (h.2.1 x_y hb2).2))) hr_v hr_v (o_ltI _ _))) h.2.2)) hr_v (o_all _)) pr_0))
def v_is_number_set (p_thing : D) : Bool :=
  ((isY "tuple" p_thing) && ((((itsY p_thing).map (fun x_y : D => (v_is_number x_y))).all id) && (v_is_ascending (((dTp dInt) p_thing).getD default))))
def g_is_number_set (p_thing : D) : Prop :=
  ((isY "tuple" p_thing) = true → (seqY p_thing = true ∧ (itsY p_thing).length ≤ sizeLine ∧ ((((itsY p_thing).map (fun x_y : D => (v_is_number x_y))).all id) = true → (((dTp dInt) p_thing).isSome = true ∧ g_is_ascending (((dTp dInt) p_thing).getD default)))))
theorem c_is_number_set (p_thing : D) (h : g_is_number_set p_thing) : m_is_number_set [eD p_thing] = some (eBool (v_is_number_set p_thing)) := by
  unfold g_is_number_set at h
  unfold v_is_number_set
  exact run_jr (er := eBool) rfl (by exact (jr_ret (je_and (je_un (jo_n rfl) (hr_n rfl) (o_isi (T := "tuple") rfl _)) (fun hb11 => (je_and (je_un (jo_e (je_lc0 (eo := eBool) (Γx := fun x_y : D => [.s (eD p_thing), .s (eD x_y)]) (ji_e (je_s rfl) (it_Y (h hb11).1)) rfl (fun _ => (jg_n rfl)) (fun _ => rfl) (fun _ => rfl) (fun x_y hb6 => (je_args (ja_c (je_s rfl) ja_n) (c_is_number x_y))) (h hb11).2.1)) hr_v (o_all _)) (fun hb10 => (je_args (ja_c (je_as (en := (eTp eInt)) (dc := (dTp dInt)) ((h hb11).2.2 hb10).1 (je_s rfl)) ja_n) (c_is_ascending (((dTp dInt) p_thing).getD default) ((h hb11).2.2 hb10).2)))))) pr_0))
def v_set_of (p_things : (List Int)) : (List Int) :=
  (srtSet p_things)
def g_set_of (p_things : (List Int)) : Prop :=
  p_things.length ≤ 4000 ∧ (ddp p_things).length < 64
theorem c_set_of (p_things : (List Int)) (h : g_set_of p_things) : m_set_of [(eLs eInt) p_things] = some ((eTp eInt) (v_set_of p_things)) := by
  unfold g_set_of at h
  unfold v_set_of
  exact run_jr (er := (eTp eInt)) rfl (by exact (jr_ret (je_un (jo_e (je_un (jo_n rfl) (hr_n rfl) (o_sortSetL h.1 h.2))) hr_v (o_tupL eInt _)) pr_0))
def v_turned_by (p_state : (List Int)) (p_handle : (List Int)) : (List Int) :=
  bnd ((p_state.filter (fun x_y : Int => (!(decide (x_y ∈ p_handle))))).map (fun x_y : Int => x_y)) fun x_gone : (List Int) => (v_set_of (x_gone ++ ((p_handle.filter (fun x_y_2 : Int => (!(decide (x_y_2 ∈ p_state))))).map (fun x_y_2 : Int => x_y_2))))
def g_turned_by (p_state : (List Int)) (p_handle : (List Int)) : Prop :=
  ((p_state.filter (fun x_y : Int => (!(decide (x_y ∈ p_handle))))).map (fun x_y : Int => x_y)).length ≤ sizeLine ∧ bnd ((p_state.filter (fun x_y : Int => (!(decide (x_y ∈ p_handle))))).map (fun x_y : Int => x_y)) fun x_gone : (List Int) => ((p_handle.filter (fun x_y_2 : Int => (!(decide (x_y_2 ∈ p_state))))).map (fun x_y_2 : Int => x_y_2)).length ≤ sizeLine ∧ x_gone.length + ((p_handle.filter (fun x_y_2 : Int => (!(decide (x_y_2 ∈ p_state))))).map (fun x_y_2 : Int => x_y_2)).length ≤ sizeLine ∧ g_set_of (x_gone ++ ((p_handle.filter (fun x_y_2 : Int => (!(decide (x_y_2 ∈ p_state))))).map (fun x_y_2 : Int => x_y_2)))
theorem c_turned_by (p_state : (List Int)) (p_handle : (List Int)) (h : g_turned_by p_state p_handle) : m_turned_by [(eTp eInt) p_state, (eTp eInt) p_handle] = some ((eTp eInt) (v_turned_by p_state p_handle)) := by
  unfold g_turned_by at h
  unfold v_turned_by
  exact run_jr (er := (eTp eInt)) rfl (by exact (jr_bnd (Γ1 := fun x_gone : (List Int) => [.s ((eTp eInt) p_state), .s ((eTp eInt) p_handle), .o ((eLs eInt) x_gone), .u]) (jn_setO (je_lc (eo := eInt) (Γx := fun x_y : Int => [.s ((eTp eInt) p_state), .s ((eTp eInt) p_handle), .u, .s (eInt x_y)]) (ji_e (je_s rfl) (it_T eInt _)) rfl (fun _ => (jg_n rfl)) (fun _ => rfl) (fun _ => rfl) (fun x_y hb12 => (jt_c (je_bin (jo_n rfl) (jo_n rfl) (hr_n rfl) (hr_n rfl) (o_ninT (e := eInt) (by decide) x_y p_handle)))) (fun x_y hb12 hb13 => (je_s rfl)) h.1) rfl) (fun x_gone h_x_gone => (jr_ret (je_args (ja_c (je_bin (jo_n rfl) (jo_e (je_lc (eo := eInt) (Γx := fun x_y_2 : Int => [.s ((eTp eInt) p_state), .s ((eTp eInt) p_handle), .o ((eLs eInt) x_gone), .s (eInt x_y_2)]) (ji_e (je_s rfl) (it_T eInt _)) rfl (fun _ => (jg_n rfl)) (fun _ => rfl) (fun _ => rfl) (fun x_y_2 hb16 => (jt_c (je_bin (jo_n rfl) (jo_n rfl) (hr_n rfl) (hr_n rfl) (o_ninT (e := eInt) (by decide) x_y_2 p_state)))) (fun x_y_2 hb16 hb17 => (je_s rfl)) h_x_gone.1)) (hr_n rfl) hr_v (o_addL eInt h_x_gone.2.1)) ja_n) (c_set_of (x_gone ++ ((p_handle.filter (fun x_y_2 : Int => (!(decide (x_y_2 ∈ p_state))))).map (fun x_y_2 : Int => x_y_2))) h_x_gone.2.2)) pr_0)) h.2))
def v_after_L1 (p_handles : (List (List Int))) (x_s : (List Int)) (x_y : Int) : (List Int) :=
  (v_turned_by x_s (ixT p_handles x_y))
def g_after_L1 (p_handles : (List (List Int))) (x_s : (List Int)) (x_y : Int) : Prop :=
  ixOk p_handles x_y ∧ g_turned_by x_s (ixT p_handles x_y)
def v_after (p_state : (List Int)) (p_handles : (List (List Int))) (p_row : (List Int)) : (List Int) :=
  bnd (List.foldl (v_after_L1 p_handles) p_state p_row) fun x_state_2 : (List Int) => x_state_2
def g_after (p_state : (List Int)) (p_handles : (List (List Int))) (p_row : (List Int)) : Prop :=
  okF (v_after_L1 p_handles) (g_after_L1 p_handles) p_state p_row
theorem c_after_L1 (p_handles : (List (List Int))) (p_row : (List Int)) (x_s : (List Int)) (x_y : Int) (h : g_after_L1 p_handles x_s x_y) : JM (fun x_s : (List Int) => [.s ((eTp eInt) x_s), .s ((eTp (eTp eInt)) p_handles), .s ((eTp eInt) p_row), .u]) [.s ((eTp eInt) x_s), .s ((eTp (eTp eInt)) p_handles), .s ((eTp eInt) p_row), .s (eInt x_y)] after_L1 (v_after_L1 p_handles x_s x_y) := by
  unfold g_after_L1 at h
  unfold v_after_L1
  exact (jm_end (jn_set (je_args (ja_c (je_s rfl) (ja_c (je_bin (jo_n rfl) (jo_n rfl) (hr_n rfl) (hr_n rfl) (o_ixT (eTp eInt) h.1)) ja_n)) (c_turned_by x_s (ixT p_handles x_y) h.2)) rfl) (.c .k (.c .k (.c .k (.c .su .nil)))))
theorem c_after (p_state : (List Int)) (p_handles : (List (List Int))) (p_row : (List Int)) (h : g_after p_state p_handles p_row) : m_after [(eTp eInt) p_state, (eTp (eTp eInt)) p_handles, (eTp eInt) p_row] = some ((eTp eInt) (v_after p_state p_handles p_row)) := by
  unfold g_after at h
  unfold v_after
  exact run_jr (er := (eTp eInt)) rfl (by exact (jr_bnd (G := fun _ => True) (Γ1 := fun x_state_2 : (List Int) => [.s ((eTp eInt) x_state_2), .s ((eTp (eTp eInt)) p_handles), .s ((eTp eInt) p_row), .u]) (jn_for (Γh := fun x_s : (List Int) => [.s ((eTp eInt) x_s), .s ((eTp (eTp eInt)) p_handles), .s ((eTp eInt) p_row), .u]) (Γg := fun (x_s : (List Int)) (x_y : Int) => [.s ((eTp eInt) x_s), .s ((eTp (eTp eInt)) p_handles), .s ((eTp eInt) p_row), .s (eInt x_y)]) (st := (v_after_L1 p_handles)) (G := (g_after_L1 p_handles)) (s0 := p_state) (ji_e (je_s rfl) (it_T eInt _)) (.c .k (.c .k (.c .k (.c .k .nil)))) (fun _ _ => (jg_n rfl)) (fun x_s x_y h => c_after_L1 p_handles p_row x_s x_y h) h) (fun x_state_2 _ => (jr_ret (je_s rfl) pr_0)) trivial))
def v_bolts_of (p_state : (List Int)) (p_handles : (List (List Int))) : (List Int) :=
  (v_set_of (p_state ++ ((p_handles.filter (fun x_y : (List Int) => true)).flatMap (fun x_y : (List Int) => (x_y.filter (fun x_y_2 : Int => true)).map (fun x_y_2 : Int => x_y_2)))))
def g_bolts_of (p_state : (List Int)) (p_handles : (List (List Int))) : Prop :=
  ((p_handles.filter (fun x_y : (List Int) => true)).flatMap (fun x_y : (List Int) => (x_y.filter (fun x_y_2 : Int => true)).map (fun x_y_2 : Int => x_y_2))).length ≤ sizeLine ∧ p_state.length + ((p_handles.filter (fun x_y : (List Int) => true)).flatMap (fun x_y : (List Int) => (x_y.filter (fun x_y_2 : Int => true)).map (fun x_y_2 : Int => x_y_2))).length ≤ sizeLine ∧ g_set_of (p_state ++ ((p_handles.filter (fun x_y : (List Int) => true)).flatMap (fun x_y : (List Int) => (x_y.filter (fun x_y_2 : Int => true)).map (fun x_y_2 : Int => x_y_2))))
theorem c_bolts_of (p_state : (List Int)) (p_handles : (List (List Int))) (h : g_bolts_of p_state p_handles) : m_bolts_of [(eTp eInt) p_state, (eTp (eTp eInt)) p_handles] = some ((eTp eInt) (v_bolts_of p_state p_handles)) := by
  unfold g_bolts_of at h
  unfold v_bolts_of
  exact run_jr (er := (eTp eInt)) rfl (by exact (jr_ret (je_args (ja_c (je_bin (jo_e (je_un (jo_n rfl) (hr_n rfl) (o_lstT eInt _))) (jo_e (je_lc2 (eo := eInt) (p := fun x_y : (List Int) => true) (q := fun x_y : (List Int) => fun x_y_2 : Int => true) (Γx := fun x_y : (List Int) => [.s ((eTp eInt) p_state), .s ((eTp (eTp eInt)) p_handles), .s ((eTp eInt) x_y), .u]) (Γy := fun x_y : (List Int) => fun x_y_2 : Int => [.s ((eTp eInt) p_state), .s ((eTp (eTp eInt)) p_handles), .s ((eTp eInt) x_y), .s (eInt x_y_2)]) (ji_e (je_s rfl) (it_T (eTp eInt) _)) rfl (fun _ => (jg_n rfl)) (fun _ => rfl) (fun _ => rfl) (fun _ => rfl) (fun _ => rfl) (fun _ => rfl) (fun _ _ => (jg_n rfl)) (fun _ _ => rfl) (fun _ _ => rfl) (fun x_y hb20 => jt_yes) (fun x_y hb20 hb21 => (ji_e (je_s rfl) (it_T eInt _))) (fun x_y hb20 hb21 x_y_2 hb22 => jt_yes) (fun x_y hb20 hb21 x_y_2 hb22 hb23 => (je_s rfl)) h.1)) hr_v hr_v (o_addL eInt h.2.1)) ja_n) (c_set_of (p_state ++ ((p_handles.filter (fun x_y : (List Int) => true)).flatMap (fun x_y : (List Int) => (x_y.filter (fun x_y_2 : Int => true)).map (fun x_y_2 : Int => x_y_2)))) h.2.2)) pr_0))
def v_meets_odd (p_one : (List Int)) (p_other : (List Int)) : Bool :=
  (decide (((((p_one.filter (fun x_y : Int => (decide (x_y ∈ p_other)))).map (fun x_y : Int => x_y)).length : Int).fmod 2) = 1))
def g_meets_odd (p_one : (List Int)) (p_other : (List Int)) : Prop :=
  ((p_one.filter (fun x_y : Int => (decide (x_y ∈ p_other)))).map (fun x_y : Int => x_y)).length ≤ sizeLine ∧ modC (((p_one.filter (fun x_y : Int => (decide (x_y ∈ p_other)))).map (fun x_y : Int => x_y)).length : Int) 2 = true
theorem c_meets_odd (p_one : (List Int)) (p_other : (List Int)) (h : g_meets_odd p_one p_other) : m_meets_odd [(eTp eInt) p_one, (eTp eInt) p_other] = some (eBool (v_meets_odd p_one p_other)) := by
  unfold g_meets_odd at h
  unfold v_meets_odd
  exact run_jr (er := eBool) rfl (by exact (jr_ret (je_bin (jo_e (je_bin (jo_e (je_un (jo_e (je_lc (eo := eInt) (Γx := fun x_y : Int => [.s ((eTp eInt) p_one), .s ((eTp eInt) p_other), .s (eInt x_y)]) (ji_e (je_s rfl) (it_T eInt _)) rfl (fun _ => (jg_n rfl)) (fun _ => rfl) (fun _ => rfl) (fun x_y hb24 => (jt_c (je_bin (jo_n rfl) (jo_n rfl) (hr_n rfl) (hr_n rfl) (o_inT (e := eInt) (by decide) x_y p_other)))) (fun x_y hb24 hb25 => (je_s rfl)) h.1)) hr_v (o_lenL eInt _))) (jo_e je_c) hr_v hr_v (o_modI h.2))) (jo_e je_c) hr_v hr_v (o_eq (e := eInt) (by decide) ((((p_one.filter (fun x_y : Int => (decide (x_y ∈ p_other)))).map (fun x_y : Int => x_y)).length : Int).fmod 2) 1)) pr_0))
def v_are_even (p_state : (List Int)) (p_handles : (List (List Int))) (p_bolts : D) : Bool :=
  (cond (!(v_is_number_set p_bolts)) false ((v_meets_odd p_state (((dTp dInt) p_bolts).getD default)) && (!((p_handles.map (fun x_y : (List Int) => (v_meets_odd x_y (((dTp dInt) p_bolts).getD default)))).any id))))
def g_are_even (p_state : (List Int)) (p_handles : (List (List Int))) (p_bolts : D) : Prop :=
  g_is_number_set p_bolts ∧ ((!(v_is_number_set p_bolts)) = false → (((dTp dInt) p_bolts).isSome = true ∧ g_meets_odd p_state (((dTp dInt) p_bolts).getD default) ∧ ((v_meets_odd p_state (((dTp dInt) p_bolts).getD default)) = true → ((∀ x_y ∈ p_handles, (((dTp dInt) p_bolts).isSome = true ∧ g_meets_odd x_y (((dTp dInt) p_bolts).getD default))) ∧ p_handles.length ≤ sizeLine))))
theorem c_are_even (p_state : (List Int)) (p_handles : (List (List Int))) (p_bolts : D) (h : g_are_even p_state p_handles p_bolts) : m_are_even [(eTp eInt) p_state, (eTp (eTp eInt)) p_handles, eD p_bolts] = some (eBool (v_are_even p_state p_handles p_bolts)) := by
  unfold g_are_even at h
  unfold v_are_even
  exact run_jr (er := eBool) rfl (by exact (jr_ifT (jt_not (jt_c (je_args (ja_c (je_s rfl) ja_n) (c_is_number_set p_bolts h.1)))) (fun hb33 => (jr_ret je_c pr_0)) (fun hb33 => (jr_seq jn_next (jr_ret (je_and (je_args (ja_c (je_s rfl) (ja_c (je_as (en := (eTp eInt)) (dc := (dTp dInt)) (h.2 hb33).1 (je_s rfl)) ja_n)) (c_meets_odd p_state (((dTp dInt) p_bolts).getD default) (h.2 hb33).2.1)) (fun hb32 => (je_un (jo_e (je_un (jo_e (je_lc0 (eo := eBool) (Γx := fun x_y : (List Int) => [.s ((eTp eInt) p_state), .s ((eTp (eTp eInt)) p_handles), .s (eD p_bolts), .s ((eTp eInt) x_y)]) (ji_e (je_s rfl) (it_T (eTp eInt) _)) rfl (fun _ => (jg_n rfl)) (fun _ => rfl) (fun _ => rfl) (fun x_y hb28 => (je_args (ja_c (je_s rfl) (ja_c (je_as (en := (eTp eInt)) (dc := (dTp dInt)) (((h.2 hb33).2.2 hb32).1 x_y hb28).1 (je_s rfl)) ja_n)) (c_meets_odd x_y (((dTp dInt) p_bolts).getD default) (((h.2 hb33).2.2 hb32).1 x_y hb28).2))) ((h.2 hb33).2.2 hb32).2)) hr_v (o_any _))) hr_v (o_notB _)))) pr_0)))))
def v_opened_L1 (p_state : (List Int)) (p_handles : (List (List Int))) (x_s : Unit) (x_y : (List Int)) : Fw (Unit) ((Nm × (List Int))) :=
  (cond (decide ((v_after p_state p_handles x_y) = ([]))) (Fw.rt ((nm "yes"), x_y)) (Fw.nx ()))
def g_opened_L1 (p_state : (List Int)) (p_handles : (List (List Int))) (x_s : Unit) (x_y : (List Int)) : Prop :=
  g_after p_state p_handles x_y
def v_opened (p_state : (List Int)) (p_handles : (List (List Int))) : (Nm × (List Int)) :=
  (Fw.on (foldF (v_opened_L1 p_state p_handles) () (v_all_sets (rngT 0 (p_handles.length : Int)))) (fun x_u => bnd (((v_all_sets (v_bolts_of p_state p_handles)).filter (fun x_y_2 : (List Int) => (v_are_even p_state p_handles ((eTp eInt) x_y_2)))).map (fun x_y_2 : (List Int) => x_y_2)) fun x_able : (List (List Int)) => ((nm "no"), (ixT x_able 0))) id)
def g_opened (p_state : (List Int)) (p_handles : (List (List Int))) : Prop :=
  rgB 0 (p_handles.length : Int) = true ∧ g_all_sets (rngT 0 (p_handles.length : Int)) ∧ okFF (v_opened_L1 p_state p_handles) (g_opened_L1 p_state p_handles) () (v_all_sets (rngT 0 (p_handles.length : Int))) ∧ (Fw.on (foldF (v_opened_L1 p_state p_handles) () (v_all_sets (rngT 0 (p_handles.length : Int)))) (fun x_u => g_bolts_of p_state p_handles ∧ g_all_sets (v_bolts_of p_state p_handles) ∧ (∀ x_y_2 ∈ (v_all_sets (v_bolts_of p_state p_handles)), g_are_even p_state p_handles ((eTp eInt) x_y_2)) ∧ (((v_all_sets (v_bolts_of p_state p_handles)).filter (fun x_y_2 : (List Int) => (v_are_even p_state p_handles ((eTp eInt) x_y_2)))).map (fun x_y_2 : (List Int) => x_y_2)).length ≤ sizeLine ∧ bnd (((v_all_sets (v_bolts_of p_state p_handles)).filter (fun x_y_2 : (List Int) => (v_are_even p_state p_handles ((eTp eInt) x_y_2)))).map (fun x_y_2 : (List Int) => x_y_2)) fun x_able : (List (List Int)) => ixOk x_able 0) (fun _ => True))
theorem c_opened_L1 (p_state : (List Int)) (p_handles : (List (List Int)))  (x_s : Unit) (x_y : (List Int)) (h : g_opened_L1 p_state p_handles x_s x_y) : JF (eP2 eNm (eTp eInt)) (pr0 : (Nm × (List Int)) → Env → Prop) (fun x_s : Unit => [.s ((eTp eInt) p_state), .s ((eTp (eTp eInt)) p_handles), .u, .u, .u]) [.s ((eTp eInt) p_state), .s ((eTp (eTp eInt)) p_handles), .s ((eTp eInt) x_y), .u, .u] opened_L1 (v_opened_L1 p_state p_handles x_s x_y) := by
  unfold g_opened_L1 at h
  unfold v_opened_L1
  exact (jf_if (jt_c (je_bin (jo_e (je_args (ja_c (je_s rfl) (ja_c (je_s rfl) (ja_c (je_s rfl) ja_n))) (c_after p_state p_handles x_y h))) (jo_e (je_args ja_n (o_tupS eInt ([] : (List Int))))) hr_v hr_v (o_eq (e := (eTp eInt)) (by decide) (v_after p_state p_handles x_y) ([])))) (fun hb34 => (jf_rt (jr_ret (je_args (ja_c je_c (ja_c (je_s rfl) ja_n)) (o_tup2 eNm (eTp eInt) (nm "yes") x_y)) pr_0))) (fun hb34 => (jf_nx (JN.post jn_next (.c .k (.c .k (.c .su (.c .k (.c .k .nil)))))))))
theorem c_opened (p_state : (List Int)) (p_handles : (List (List Int))) (h : g_opened p_state p_handles) : m_opened [(eTp eInt) p_state, (eTp (eTp eInt)) p_handles] = some ((eP2 eNm (eTp eInt)) (v_opened p_state p_handles)) := by
  unfold g_opened at h
  unfold v_opened
  exact run_jr (er := (eP2 eNm (eTp eInt))) rfl (by exact (jr_jl (G := (fun x_u : Unit => g_bolts_of p_state p_handles ∧ g_all_sets (v_bolts_of p_state p_handles) ∧ (∀ x_y_2 ∈ (v_all_sets (v_bolts_of p_state p_handles)), g_are_even p_state p_handles ((eTp eInt) x_y_2)) ∧ (((v_all_sets (v_bolts_of p_state p_handles)).filter (fun x_y_2 : (List Int) => (v_are_even p_state p_handles ((eTp eInt) x_y_2)))).map (fun x_y_2 : (List Int) => x_y_2)).length ≤ sizeLine ∧ bnd (((v_all_sets (v_bolts_of p_state p_handles)).filter (fun x_y_2 : (List Int) => (v_are_even p_state p_handles ((eTp eInt) x_y_2)))).map (fun x_y_2 : (List Int) => x_y_2)) fun x_able : (List (List Int)) => ixOk x_able 0)) (jl_for (Γh := fun x_s : Unit => [.s ((eTp eInt) p_state), .s ((eTp (eTp eInt)) p_handles), .u, .u, .u]) (Γg := fun (x_s : Unit) (x_y : (List Int)) => [.s ((eTp eInt) p_state), .s ((eTp (eTp eInt)) p_handles), .s ((eTp eInt) x_y), .u, .u]) (st := (v_opened_L1 p_state p_handles)) (G := (g_opened_L1 p_state p_handles)) (s0 := ()) (ji_e (je_args (ja_c (je_cast rgt_eq (je_trg (jrg_1 (je_un (jo_n rfl) (hr_n rfl) (o_lenT (eTp eInt) _))) h.1)) ja_n) (c_all_sets (rngT 0 (p_handles.length : Int)) h.2.1)) (it_L (eTp eInt) _)) (.c .k (.c .k (.c .k (.c .k (.c .k .nil))))) (fun _ _ => (jg_n rfl)) (fun x_s x_y h => c_opened_L1 p_state p_handles  x_s x_y h) h.2.2.1) (fun x_u h => (jr_bnd (Γ1 := fun x_able : (List (List Int)) => [.s ((eTp eInt) p_state), .s ((eTp (eTp eInt)) p_handles), .u, .o ((eLs (eTp eInt)) x_able), .u]) (jn_setO (je_lc (eo := (eTp eInt)) (Γx := fun x_y_2 : (List Int) => [.s ((eTp eInt) p_state), .s ((eTp (eTp eInt)) p_handles), .u, .u, .s ((eTp eInt) x_y_2)]) (ji_e (je_args (ja_c (je_args (ja_c (je_s rfl) (ja_c (je_s rfl) ja_n)) (c_bolts_of p_state p_handles h.1)) ja_n) (c_all_sets (v_bolts_of p_state p_handles) h.2.1)) (it_L (eTp eInt) _)) rfl (fun _ => (jg_n rfl)) (fun _ => rfl) (fun _ => rfl) (fun x_y_2 hb35 => (jt_c (je_args (ja_c (je_s rfl) (ja_c (je_s rfl) (ja_c (je_s rfl) ja_n))) (c_are_even p_state p_handles ((eTp eInt) x_y_2) (h.2.2.1 x_y_2 hb35))))) (fun x_y_2 hb35 hb36 => (je_s rfl)) h.2.2.2.1) rfl) (fun x_able h_x_able => (jr_ret (je_args (ja_c je_c (ja_c (je_bin (jo_n rfl) (jo_e je_c) (hr_n rfl) hr_v (o_ixL (eTp eInt) h_x_able)) ja_n)) (o_tup2 eNm (eTp eInt) (nm "no") (ixT x_able 0))) pr_0)) h.2.2.2.2)) h.2.2.2))
def v_states_from (p_state : (List Int)) (p_handles : (List (List Int))) : Int :=
  ((ddp ((v_all_sets (rngT 0 (p_handles.length : Int))).map (fun x_y : (List Int) => (v_after p_state p_handles x_y)))).length : Int)
def g_states_from (p_state : (List Int)) (p_handles : (List (List Int))) : Prop :=
  rgB 0 (p_handles.length : Int) = true ∧ g_all_sets (rngT 0 (p_handles.length : Int)) ∧ (∀ x_y ∈ (v_all_sets (rngT 0 (p_handles.length : Int))), g_after p_state p_handles x_y) ∧ (v_all_sets (rngT 0 (p_handles.length : Int))).length ≤ sizeLine ∧ ((v_all_sets (rngT 0 (p_handles.length : Int))).map (fun x_y : (List Int) => (v_after p_state p_handles x_y))).length < 64
theorem c_states_from (p_state : (List Int)) (p_handles : (List (List Int))) (h : g_states_from p_state p_handles) : m_states_from [(eTp eInt) p_state, (eTp (eTp eInt)) p_handles] = some (eInt (v_states_from p_state p_handles)) := by
  unfold g_states_from at h
  unfold v_states_from
  exact run_jr (er := eInt) rfl (by exact (jr_ret (je_un (jo_e (je_lc0 (eo := (eTp eInt)) (Γx := fun x_y : (List Int) => [.s ((eTp eInt) p_state), .s ((eTp (eTp eInt)) p_handles), .s ((eTp eInt) x_y)]) (ji_e (je_args (ja_c (je_cast rgt_eq (je_trg (jrg_1 (je_un (jo_n rfl) (hr_n rfl) (o_lenT (eTp eInt) _))) h.1)) ja_n) (c_all_sets (rngT 0 (p_handles.length : Int)) h.2.1)) (it_L (eTp eInt) _)) rfl (fun _ => (jg_n rfl)) (fun _ => rfl) (fun _ => rfl) (fun x_y hb39 => (je_args (ja_c (je_s rfl) (ja_c (je_s rfl) (ja_c (je_s rfl) ja_n))) (c_after p_state p_handles x_y (h.2.2.1 x_y hb39)))) h.2.2.2.1)) hr_v (o_lenSetTs h.2.2.2.2)) pr_0))
def v_spare_handles_L1 (p_handles : (List (List Int))) (x_s : (List Int)) (x_y : Int) : (List Int) :=
  bnd ((cutD p_handles none (some x_y)) ++ (cutD p_handles (some (x_y + 1)) none)) fun x_others : (List (List Int)) => (cond (decide (((v_opened (ixT p_handles x_y) x_others).1) = (nm "yes"))) (x_s ++ [x_y]) x_s)
def g_spare_handles_L1 (p_handles : (List (List Int))) (x_s : (List Int)) (x_y : Int) : Prop :=
  (cutD p_handles none (some x_y)).length + (cutD p_handles (some (x_y + 1)) none).length ≤ sizeLine ∧ (bnd ((cutD p_handles none (some x_y)) ++ (cutD p_handles (some (x_y + 1)) none)) fun x_others : (List (List Int)) => ixOk p_handles x_y ∧ g_opened (ixT p_handles x_y) x_others ∧ ((decide (((v_opened (ixT p_handles x_y) x_others).1) = (nm "yes"))) = true → x_s.length < sizeLine))
def v_spare_handles (p_handles : (List (List Int))) : (List Int) :=
  bnd ([]) fun x_found : (List Int) => bnd (List.foldl (v_spare_handles_L1 p_handles) x_found (rngT 0 (p_handles.length : Int))) fun x_found_4 : (List Int) => x_found_4
def g_spare_handles (p_handles : (List (List Int))) : Prop :=
  bnd ([]) fun x_found : (List Int) => bdI (p_handles.length : Int) = true ∧ okF (v_spare_handles_L1 p_handles) (g_spare_handles_L1 p_handles) x_found (rngT 0 (p_handles.length : Int))
theorem c_spare_handles_L1 (p_handles : (List (List Int)))  (x_s : (List Int)) (x_y : Int) (h : g_spare_handles_L1 p_handles x_s x_y) : JM (fun x_s : (List Int) => [.s ((eTp (eTp eInt)) p_handles), .o ((eLs eInt) x_s), .u, .u]) [.s ((eTp (eTp eInt)) p_handles), .o ((eLs eInt) x_s), .s (eInt x_y), .u] spare_handles_L1 (v_spare_handles_L1 p_handles x_s x_y) := by
  unfold g_spare_handles_L1 at h
  unfold v_spare_handles_L1
  exact (jm_bnd (Γ1 := fun x_others : (List (List Int)) => [.s ((eTp (eTp eInt)) p_handles), .o ((eLs eInt) x_s), .s (eInt x_y), .s ((eTp (eTp eInt)) x_others)]) (jn_set (je_bin (jo_e (je_sl (jo_n rfl) jp_no (jp_so (jo_n rfl) (hr_n rfl)) (hr_n rfl) (o_slT (eTp eInt) _ _ _))) (jo_e (je_sl (jo_n rfl) (jp_so (jo_e (je_bin (jo_n rfl) (jo_e je_c) (hr_n rfl) hr_v (o_addI _ _))) hr_v) jp_no (hr_n rfl) (o_slT (eTp eInt) _ _ _))) hr_v hr_v (o_addT (eTp eInt) h.1)) rfl) (fun x_others h_x_others => (jm_end (jn_if (Γk := (fun s : (List Int) => [.s ((eTp (eTp eInt)) p_handles), .o ((eLs eInt) s), .s (eInt x_y), .s ((eTp (eTp eInt)) x_others)])) (jt_c (je_bin (jo_e (je_bin (jo_e (je_args (ja_c (je_bin (jo_n rfl) (jo_n rfl) (hr_n rfl) (hr_n rfl) (o_ixT (eTp eInt) h_x_others.1)) (ja_c (je_s rfl) ja_n)) (c_opened (ixT p_handles x_y) x_others h_x_others.2.1))) (jo_e je_c) hr_v hr_v (o_ix20 eNm (eTp eInt) _))) (jo_e je_c) hr_v hr_v (o_eq (e := eNm) (by decide) ((v_opened (ixT p_handles x_y) x_others).1) (nm "yes")))) (fun hb43 => (jm_end (jn_drop (je_mut rfl rfl (ja_c (je_s rfl) ja_n) rfl (o_append eInt (h_x_others.2.2 hb43)))) (.c .k (.c .k (.c .k (.c .k .nil)))))) (fun hb43 => (jm_end jn_next (.c .k (.c .k (.c .k (.c .k .nil))))))) (.c .k (.c .k (.c .su (.c .su .nil)))))) h.2)
theorem c_spare_handles (p_handles : (List (List Int))) (h : g_spare_handles p_handles) : m_spare_handles [(eTp (eTp eInt)) p_handles] = some ((eTp eInt) (v_spare_handles p_handles)) := by
  unfold g_spare_handles at h
  unfold v_spare_handles
  exact run_jr (er := (eTp eInt)) rfl (by exact (jr_bnd (Γ1 := fun x_found : (List Int) => [.s ((eTp (eTp eInt)) p_handles), .o ((eLs eInt) x_found), .u, .u]) (jn_setO (je_args ja_n (o_lstS eInt ([] : (List Int)))) rfl) (fun x_found h_x_found => (jr_bnd (G := fun _ => True) (Γ1 := fun x_found_4 : (List Int) => [.s ((eTp (eTp eInt)) p_handles), .o ((eLs eInt) x_found_4), .u, .u]) (jn_for (Γh := fun x_s : (List Int) => [.s ((eTp (eTp eInt)) p_handles), .o ((eLs eInt) x_s), .u, .u]) (Γg := fun (x_s : (List Int)) (x_y : Int) => [.s ((eTp (eTp eInt)) p_handles), .o ((eLs eInt) x_s), .s (eInt x_y), .u]) (st := (v_spare_handles_L1 p_handles)) (G := (g_spare_handles_L1 p_handles)) (s0 := x_found) (ji_a (ja_c (je_un (jo_n rfl) (hr_n rfl) (o_lenT (eTp eInt) _)) ja_n) (it_r1 h_x_found.1)) (.c .k (.c .k (.c .k (.c .k .nil)))) (fun _ _ => (jg_n rfl)) (fun x_s x_y h => c_spare_handles_L1 p_handles  x_s x_y h) h_x_found.2) (fun x_found_4 _ => (jr_ret (je_un (jo_n rfl) (hr_n rfl) (o_tupL eInt _)) pr_0)) trivial)) h))
def v_worst_state_L1 (p_handles : (List (List Int))) (x_s : (Int × (List Int))) (x_y : (List Int)) : (Int × (List Int)) :=
  bnd (v_opened x_y p_handles) fun x_word_told : (Nm × (List Int)) => (cond ((decide (x_word_told.1 = (nm "yes"))) && (decide (x_s.1 < (x_word_told.2.length : Int)))) ((x_word_told.2.length : Int), x_y) x_s)
def g_worst_state_L1 (p_handles : (List (List Int))) (x_s : (Int × (List Int))) (x_y : (List Int)) : Prop :=
  g_opened x_y p_handles
def v_worst_state (p_many : Int) (p_handles : (List (List Int))) : (Int × (List Int)) :=
  bnd (0, []) fun x_best : (Int × (List Int)) => bnd (List.foldl (v_worst_state_L1 p_handles) x_best (v_all_sets (rngT 0 p_many))) fun x_best_4 : (Int × (List Int)) => x_best_4
def g_worst_state (p_many : Int) (p_handles : (List (List Int))) : Prop :=
  bnd (0, []) fun x_best : (Int × (List Int)) => rgB 0 p_many = true ∧ g_all_sets (rngT 0 p_many) ∧ okF (v_worst_state_L1 p_handles) (g_worst_state_L1 p_handles) x_best (v_all_sets (rngT 0 p_many))
theorem c_worst_state_L1 (p_handles : (List (List Int))) (p_many : Int) (x_s : (Int × (List Int))) (x_y : (List Int)) (h : g_worst_state_L1 p_handles x_s x_y) : JM (fun x_s : (Int × (List Int)) => [.s (eInt p_many), .s ((eTp (eTp eInt)) p_handles), .s ((eP2 eInt (eTp eInt)) x_s), .u, .u, .u]) [.s (eInt p_many), .s ((eTp (eTp eInt)) p_handles), .s ((eP2 eInt (eTp eInt)) x_s), .s ((eTp eInt) x_y), .u, .u] worst_state_L1 (v_worst_state_L1 p_handles x_s x_y) := by
  unfold g_worst_state_L1 at h
  unfold v_worst_state_L1
  exact (jm_bnd (G := fun _ => True) (Γ1 := fun x_word_told : (Nm × (List Int)) => [.s (eInt p_many), .s ((eTp (eTp eInt)) p_handles), .s ((eP2 eInt (eTp eInt)) x_s), .s ((eTp eInt) x_y), .s (eNm x_word_told.1), .s ((eTp eInt) x_word_told.2)]) (jn_asg (je_args (ja_c (je_s rfl) (ja_c (je_s rfl) ja_n)) (c_opened x_y p_handles h)) (jg_tp rfl (jgs_c (jg_n rfl) (jgs_c (jg_n rfl) jgs_n)))) (fun x_word_told _ => (jm_end (jn_if (Γk := (fun s : (Int × (List Int)) => [.s (eInt p_many), .s ((eTp (eTp eInt)) p_handles), .s ((eP2 eInt (eTp eInt)) s), .s ((eTp eInt) x_y), .s (eNm x_word_told.1), .s ((eTp eInt) x_word_told.2)])) (jt_and (jt_c (je_bin (jo_n rfl) (jo_e je_c) (hr_n rfl) hr_v (o_eq (e := eNm) (by decide) x_word_told.1 (nm "yes")))) (fun hb44 => (jt_c (je_bin (jo_e (je_un (jo_n rfl) (hr_n rfl) (o_lenT eInt _))) (jo_e (je_bin (jo_n rfl) (jo_e je_c) (hr_n rfl) hr_v (o_ix20 eInt (eTp eInt) _))) hr_v hr_v (o_gtI _ _))))) (fun hb45 => (jm_end (jn_set (je_args (ja_c (je_un (jo_n rfl) (hr_n rfl) (o_lenT eInt _)) (ja_c (je_s rfl) ja_n)) (o_tup2 eInt (eTp eInt) (x_word_told.2.length : Int) x_y)) rfl) (.c .k (.c .k (.c .k (.c .k (.c .k (.c .k .nil)))))))) (fun hb45 => (jm_end jn_next (.c .k (.c .k (.c .k (.c .k (.c .k (.c .k .nil))))))))) (.c .k (.c .k (.c .k (.c .su (.c .su (.c .su .nil)))))))) trivial)
theorem c_worst_state (p_many : Int) (p_handles : (List (List Int))) (h : g_worst_state p_many p_handles) : m_worst_state [eInt p_many, (eTp (eTp eInt)) p_handles] = some ((eP2 eInt (eTp eInt)) (v_worst_state p_many p_handles)) := by
  unfold g_worst_state at h
  unfold v_worst_state
  exact run_jr (er := (eP2 eInt (eTp eInt))) rfl (by exact (jr_bnd (Γ1 := fun x_best : (Int × (List Int)) => [.s (eInt p_many), .s ((eTp (eTp eInt)) p_handles), .s ((eP2 eInt (eTp eInt)) x_best), .u, .u, .u]) (jn_set (je_args (ja_c je_c (ja_c (je_args ja_n (o_tupS eInt ([] : (List Int)))) ja_n)) (o_tup2 eInt (eTp eInt) 0 ([]))) rfl) (fun x_best h_x_best => (jr_bnd (G := fun _ => True) (Γ1 := fun x_best_4 : (Int × (List Int)) => [.s (eInt p_many), .s ((eTp (eTp eInt)) p_handles), .s ((eP2 eInt (eTp eInt)) x_best_4), .u, .u, .u]) (jn_for (Γh := fun x_s : (Int × (List Int)) => [.s (eInt p_many), .s ((eTp (eTp eInt)) p_handles), .s ((eP2 eInt (eTp eInt)) x_s), .u, .u, .u]) (Γg := fun (x_s : (Int × (List Int))) (x_y : (List Int)) => [.s (eInt p_many), .s ((eTp (eTp eInt)) p_handles), .s ((eP2 eInt (eTp eInt)) x_s), .s ((eTp eInt) x_y), .u, .u]) (st := (v_worst_state_L1 p_handles)) (G := (g_worst_state_L1 p_handles)) (s0 := x_best) (ji_e (je_args (ja_c (je_cast rgt_eq (je_trg (jrg_1 (je_s rfl)) h_x_best.1)) ja_n) (c_all_sets (rngT 0 p_many) h_x_best.2.1)) (it_L (eTp eInt) _)) (.c .k (.c .k (.c .k (.c .k (.c .k (.c .k .nil)))))) (fun _ _ => (jg_n rfl)) (fun x_s x_y h => c_worst_state_L1 p_handles p_many x_s x_y h) h_x_best.2.2) (fun x_best_4 _ => (jr_ret (je_s rfl) pr_0)) trivial)) h))
def v__law_is_number (p_thing : D) : Bool :=
  ((isY "int" p_thing) && (!(isY "bool" p_thing)))
theorem c__law_is_number (p_thing : D) : m__law_is_number [eD p_thing] = some (eBool (v__law_is_number p_thing)) := by
  unfold v__law_is_number
  exact run_jr (er := eBool) rfl (by exact (jr_ret (je_and (je_un (jo_n rfl) (hr_n rfl) (o_isi (T := "int") rfl _)) (fun hb46 => (je_un (jo_e (je_un (jo_n rfl) (hr_n rfl) (o_isi (T := "bool") rfl _))) hr_v (o_notB _)))) pr_0))
def v__law_is_bit (p_said : Bool) (p_due : Bool) : Bool :=
  ((p_due && (decide (p_said = true))) || ((!p_due) && (decide (p_said = false))))
theorem c__law_is_bit (p_said : Bool) (p_due : Bool) : m__law_is_bit [eBool p_said, eBool p_due] = some (eBool (v__law_is_bit p_said p_due)) := by
  unfold v__law_is_bit
  exact run_jr (er := eBool) rfl (by exact (jr_ret (je_or (je_and (je_s rfl) (fun hb48 => (je_bin (jo_n rfl) (jo_e je_c) (hr_n rfl) hr_v (o_isB _ _)))) (fun hb49 => (je_and (je_un (jo_e (je_s rfl)) hr_v (o_notB _)) (fun hb47 => (je_bin (jo_n rfl) (jo_e je_c) (hr_n rfl) hr_v (o_isB _ _)))))) pr_0))
def v__law_turned (p_state : (List Int)) (p_handle : (List Int)) : (List Int) :=
  (((rngT 0 9).filter (fun x_y : Int => (!decide ((decide (x_y ∈ p_state)) = (decide (x_y ∈ p_handle)))))).map (fun x_y : Int => x_y))
def g__law_turned (p_state : (List Int)) (p_handle : (List Int)) : Prop :=
  bdI 9 = true ∧ (((rngT 0 9).filter (fun x_y : Int => (!decide ((decide (x_y ∈ p_state)) = (decide (x_y ∈ p_handle)))))).map (fun x_y : Int => x_y)).length ≤ sizeLine
theorem c__law_turned (p_state : (List Int)) (p_handle : (List Int)) (h : g__law_turned p_state p_handle) : m__law_turned [(eTp eInt) p_state, (eTp eInt) p_handle] = some ((eTp eInt) (v__law_turned p_state p_handle)) := by
  unfold g__law_turned at h
  unfold v__law_turned
  exact run_jr (er := (eTp eInt)) rfl (by exact (jr_ret (je_un (jo_e (je_lc (eo := eInt) (Γx := fun x_y : Int => [.s ((eTp eInt) p_state), .s ((eTp eInt) p_handle), .s (eInt x_y)]) (ji_a (ja_c je_c ja_n) (it_r1 h.1)) rfl (fun _ => (jg_n rfl)) (fun _ => rfl) (fun _ => rfl) (fun x_y hb50 => (jt_c (je_bin (jo_e (je_bin (jo_n rfl) (jo_n rfl) (hr_n rfl) (hr_n rfl) (o_inT (e := eInt) (by decide) x_y p_state))) (jo_e (je_bin (jo_n rfl) (jo_n rfl) (hr_n rfl) (hr_n rfl) (o_inT (e := eInt) (by decide) x_y p_handle))) hr_v hr_v (o_ne (e := eBool) (by decide) (decide (x_y ∈ p_state)) (decide (x_y ∈ p_handle)))))) (fun x_y hb50 hb51 => (je_s rfl)) h.2)) hr_v (o_tupL eInt _)) pr_0))
def v__law_after_L1 (p_handles : (List (List Int))) (x_s : (List Int)) (x_y : Int) : (List Int) :=
  (v__law_turned x_s (ixT p_handles x_y))
def g__law_after_L1 (p_handles : (List (List Int))) (x_s : (List Int)) (x_y : Int) : Prop :=
  ixOk p_handles x_y ∧ g__law_turned x_s (ixT p_handles x_y)
def v__law_after (p_state : (List Int)) (p_handles : (List (List Int))) (p_row : (List Int)) : (List Int) :=
  bnd (List.foldl (v__law_after_L1 p_handles) p_state p_row) fun x_state_2 : (List Int) => x_state_2
def g__law_after (p_state : (List Int)) (p_handles : (List (List Int))) (p_row : (List Int)) : Prop :=
  okF (v__law_after_L1 p_handles) (g__law_after_L1 p_handles) p_state p_row
theorem c__law_after_L1 (p_handles : (List (List Int))) (p_row : (List Int)) (x_s : (List Int)) (x_y : Int) (h : g__law_after_L1 p_handles x_s x_y) : JM (fun x_s : (List Int) => [.s ((eTp eInt) x_s), .s ((eTp (eTp eInt)) p_handles), .s ((eTp eInt) p_row), .u]) [.s ((eTp eInt) x_s), .s ((eTp (eTp eInt)) p_handles), .s ((eTp eInt) p_row), .s (eInt x_y)] _law_after_L1 (v__law_after_L1 p_handles x_s x_y) := by
  unfold g__law_after_L1 at h
  unfold v__law_after_L1
  exact (jm_end (jn_set (je_args (ja_c (je_s rfl) (ja_c (je_bin (jo_n rfl) (jo_n rfl) (hr_n rfl) (hr_n rfl) (o_ixT (eTp eInt) h.1)) ja_n)) (c__law_turned x_s (ixT p_handles x_y) h.2)) rfl) (.c .k (.c .k (.c .k (.c .su .nil)))))
theorem c__law_after (p_state : (List Int)) (p_handles : (List (List Int))) (p_row : (List Int)) (h : g__law_after p_state p_handles p_row) : m__law_after [(eTp eInt) p_state, (eTp (eTp eInt)) p_handles, (eTp eInt) p_row] = some ((eTp eInt) (v__law_after p_state p_handles p_row)) := by
  unfold g__law_after at h
  unfold v__law_after
  exact run_jr (er := (eTp eInt)) rfl (by exact (jr_bnd (G := fun _ => True) (Γ1 := fun x_state_2 : (List Int) => [.s ((eTp eInt) x_state_2), .s ((eTp (eTp eInt)) p_handles), .s ((eTp eInt) p_row), .u]) (jn_for (Γh := fun x_s : (List Int) => [.s ((eTp eInt) x_s), .s ((eTp (eTp eInt)) p_handles), .s ((eTp eInt) p_row), .u]) (Γg := fun (x_s : (List Int)) (x_y : Int) => [.s ((eTp eInt) x_s), .s ((eTp (eTp eInt)) p_handles), .s ((eTp eInt) p_row), .s (eInt x_y)]) (st := (v__law_after_L1 p_handles)) (G := (g__law_after_L1 p_handles)) (s0 := p_state) (ji_e (je_s rfl) (it_T eInt _)) (.c .k (.c .k (.c .k (.c .k .nil)))) (fun _ _ => (jg_n rfl)) (fun x_s x_y h => c__law_after_L1 p_handles p_row x_s x_y h) h) (fun x_state_2 _ => (jr_ret (je_s rfl) pr_0)) trivial))
def v__law_odd (p_one : (List Int)) (p_other : (List Int)) : Bool :=
  bnd (((p_one.filter (fun x_y : Int => (decide (x_y ∈ p_other)))).map (fun x_y : Int => x_y)).length : Int) fun x_many : Int => (!decide (((x_many.fdiv 2) * 2) = x_many))
def g__law_odd (p_one : (List Int)) (p_other : (List Int)) : Prop :=
  ((p_one.filter (fun x_y : Int => (decide (x_y ∈ p_other)))).map (fun x_y : Int => x_y)).length ≤ sizeLine ∧ bnd (((p_one.filter (fun x_y : Int => (decide (x_y ∈ p_other)))).map (fun x_y : Int => x_y)).length : Int) fun x_many : Int => divC x_many 2 = true ∧ mulC (x_many.fdiv 2) 2 = true
theorem c__law_odd (p_one : (List Int)) (p_other : (List Int)) (h : g__law_odd p_one p_other) : m__law_odd [(eTp eInt) p_one, (eTp eInt) p_other] = some (eBool (v__law_odd p_one p_other)) := by
  unfold g__law_odd at h
  unfold v__law_odd
  exact run_jr (er := eBool) rfl (by exact (jr_bnd (Γ1 := fun x_many : Int => [.s ((eTp eInt) p_one), .s ((eTp eInt) p_other), .s (eInt x_many), .u]) (jn_set (je_un (jo_e (je_lc (eo := eInt) (Γx := fun x_y : Int => [.s ((eTp eInt) p_one), .s ((eTp eInt) p_other), .u, .s (eInt x_y)]) (ji_e (je_s rfl) (it_T eInt _)) rfl (fun _ => (jg_n rfl)) (fun _ => rfl) (fun _ => rfl) (fun x_y hb54 => (jt_c (je_bin (jo_n rfl) (jo_n rfl) (hr_n rfl) (hr_n rfl) (o_inT (e := eInt) (by decide) x_y p_other)))) (fun x_y hb54 hb55 => (je_s rfl)) h.1)) hr_v (o_lenL eInt _)) rfl) (fun x_many h_x_many => (jr_ret (je_bin (jo_e (je_bin (jo_e (je_bin (jo_n rfl) (jo_e je_c) (hr_n rfl) hr_v (o_fdivI h_x_many.1))) (jo_e je_c) hr_v hr_v (o_mulI h_x_many.2))) (jo_n rfl) hr_v (hr_n rfl) (o_ne (e := eInt) (by decide) ((x_many.fdiv 2) * 2) x_many)) pr_0)) h.2))
def v__law_opened_L1 (p_state : (List Int)) (p_handles : (List (List Int))) (x_s : Unit) (x_y : (List Int)) : Fw (Unit) ((Nm × (List Int))) :=
  (cond (decide ((v__law_after p_state p_handles x_y) = ([]))) (Fw.rt ((nm "yes"), x_y)) (Fw.nx ()))
def g__law_opened_L1 (p_state : (List Int)) (p_handles : (List (List Int))) (x_s : Unit) (x_y : (List Int)) : Prop :=
  g__law_after p_state p_handles x_y
def v__law_opened (p_state : (List Int)) (p_handles : (List (List Int))) : (Nm × (List Int)) :=
  (Fw.on (foldF (v__law_opened_L1 p_state p_handles) () (v__law_sets (rngT 0 (p_handles.length : Int)))) (fun x_u => bnd (((rngT 0 9).filter (fun x_y_2 : Int => ((decide (x_y_2 ∈ p_state)) || (!decide (((p_handles.filter (fun x_y_3 : (List Int) => (decide (x_y_2 ∈ x_y_3)))).map (fun x_y_3 : (List Int) => x_y_3)) = ([])))))).map (fun x_y_2 : Int => x_y_2)) fun x_every : (List Int) => bnd (((v__law_sets x_every).filter (fun x_y_4 : (List Int) => ((v__law_odd p_state x_y_4) && (decide (((p_handles.filter (fun x_y_5 : (List Int) => (v__law_odd x_y_5 x_y_4))).map (fun x_y_5 : (List Int) => x_y_5)) = ([])))))).map (fun x_y_4 : (List Int) => x_y_4)) fun x_able : (List (List Int)) => ((nm "no"), (ixT x_able 0))) id)
def g__law_opened (p_state : (List Int)) (p_handles : (List (List Int))) : Prop :=
  rgB 0 (p_handles.length : Int) = true ∧ g__law_sets (rngT 0 (p_handles.length : Int)) ∧ okFF (v__law_opened_L1 p_state p_handles) (g__law_opened_L1 p_state p_handles) () (v__law_sets (rngT 0 (p_handles.length : Int))) ∧ (Fw.on (foldF (v__law_opened_L1 p_state p_handles) () (v__law_sets (rngT 0 (p_handles.length : Int)))) (fun x_u => bdI 9 = true ∧ (∀ x_y_2 ∈ (rngT 0 9), (decide (x_y_2 ∈ p_state)) = false → ((p_handles.filter (fun x_y_3 : (List Int) => (decide (x_y_2 ∈ x_y_3)))).map (fun x_y_3 : (List Int) => x_y_3)).length ≤ sizeLine) ∧ (((rngT 0 9).filter (fun x_y_2 : Int => ((decide (x_y_2 ∈ p_state)) || (!decide (((p_handles.filter (fun x_y_3 : (List Int) => (decide (x_y_2 ∈ x_y_3)))).map (fun x_y_3 : (List Int) => x_y_3)) = ([])))))).map (fun x_y_2 : Int => x_y_2)).length ≤ sizeLine ∧ (bnd (((rngT 0 9).filter (fun x_y_2 : Int => ((decide (x_y_2 ∈ p_state)) || (!decide (((p_handles.filter (fun x_y_3 : (List Int) => (decide (x_y_2 ∈ x_y_3)))).map (fun x_y_3 : (List Int) => x_y_3)) = ([])))))).map (fun x_y_2 : Int => x_y_2)) fun x_every : (List Int) => g__law_sets x_every ∧ (∀ x_y_4 ∈ (v__law_sets x_every), (g__law_odd p_state x_y_4 ∧ ((v__law_odd p_state x_y_4) = true → ((∀ x_y_5 ∈ p_handles, g__law_odd x_y_5 x_y_4) ∧ ((p_handles.filter (fun x_y_5 : (List Int) => (v__law_odd x_y_5 x_y_4))).map (fun x_y_5 : (List Int) => x_y_5)).length ≤ sizeLine)))) ∧ (((v__law_sets x_every).filter (fun x_y_4 : (List Int) => ((v__law_odd p_state x_y_4) && (decide (((p_handles.filter (fun x_y_5 : (List Int) => (v__law_odd x_y_5 x_y_4))).map (fun x_y_5 : (List Int) => x_y_5)) = ([])))))).map (fun x_y_4 : (List Int) => x_y_4)).length ≤ sizeLine ∧ bnd (((v__law_sets x_every).filter (fun x_y_4 : (List Int) => ((v__law_odd p_state x_y_4) && (decide (((p_handles.filter (fun x_y_5 : (List Int) => (v__law_odd x_y_5 x_y_4))).map (fun x_y_5 : (List Int) => x_y_5)) = ([])))))).map (fun x_y_4 : (List Int) => x_y_4)) fun x_able : (List (List Int)) => ixOk x_able 0)) (fun _ => True))
theorem c__law_opened_L1 (p_state : (List Int)) (p_handles : (List (List Int)))  (x_s : Unit) (x_y : (List Int)) (h : g__law_opened_L1 p_state p_handles x_s x_y) : JF (eP2 eNm (eTp eInt)) (pr0 : (Nm × (List Int)) → Env → Prop) (fun x_s : Unit => [.s ((eTp eInt) p_state), .s ((eTp (eTp eInt)) p_handles), .u, .u, .u, .u, .u, .u]) [.s ((eTp eInt) p_state), .s ((eTp (eTp eInt)) p_handles), .s ((eTp eInt) x_y), .u, .u, .u, .u, .u] _law_opened_L1 (v__law_opened_L1 p_state p_handles x_s x_y) := by
  unfold g__law_opened_L1 at h
  unfold v__law_opened_L1
  exact (jf_if (jt_c (je_bin (jo_e (je_args (ja_c (je_s rfl) (ja_c (je_s rfl) (ja_c (je_s rfl) ja_n))) (c__law_after p_state p_handles x_y h))) (jo_e (je_args ja_n (o_tupS eInt ([] : (List Int))))) hr_v hr_v (o_eq (e := (eTp eInt)) (by decide) (v__law_after p_state p_handles x_y) ([])))) (fun hb58 => (jf_rt (jr_ret (je_args (ja_c je_c (ja_c (je_s rfl) ja_n)) (o_tup2 eNm (eTp eInt) (nm "yes") x_y)) pr_0))) (fun hb58 => (jf_nx (JN.post jn_next (.c .k (.c .k (.c .su (.c .k (.c .k (.c .k (.c .k (.c .k .nil))))))))))))
theorem c__law_opened (p_state : (List Int)) (p_handles : (List (List Int))) (h : g__law_opened p_state p_handles) : m__law_opened [(eTp eInt) p_state, (eTp (eTp eInt)) p_handles] = some ((eP2 eNm (eTp eInt)) (v__law_opened p_state p_handles)) := by
  unfold g__law_opened at h
  unfold v__law_opened
  exact run_jr (er := (eP2 eNm (eTp eInt))) rfl (by exact (jr_jl (G := (fun x_u : Unit => bdI 9 = true ∧ (∀ x_y_2 ∈ (rngT 0 9), (decide (x_y_2 ∈ p_state)) = false → ((p_handles.filter (fun x_y_3 : (List Int) => (decide (x_y_2 ∈ x_y_3)))).map (fun x_y_3 : (List Int) => x_y_3)).length ≤ sizeLine) ∧ (((rngT 0 9).filter (fun x_y_2 : Int => ((decide (x_y_2 ∈ p_state)) || (!decide (((p_handles.filter (fun x_y_3 : (List Int) => (decide (x_y_2 ∈ x_y_3)))).map (fun x_y_3 : (List Int) => x_y_3)) = ([])))))).map (fun x_y_2 : Int => x_y_2)).length ≤ sizeLine ∧ (bnd (((rngT 0 9).filter (fun x_y_2 : Int => ((decide (x_y_2 ∈ p_state)) || (!decide (((p_handles.filter (fun x_y_3 : (List Int) => (decide (x_y_2 ∈ x_y_3)))).map (fun x_y_3 : (List Int) => x_y_3)) = ([])))))).map (fun x_y_2 : Int => x_y_2)) fun x_every : (List Int) => g__law_sets x_every ∧ (∀ x_y_4 ∈ (v__law_sets x_every), (g__law_odd p_state x_y_4 ∧ ((v__law_odd p_state x_y_4) = true → ((∀ x_y_5 ∈ p_handles, g__law_odd x_y_5 x_y_4) ∧ ((p_handles.filter (fun x_y_5 : (List Int) => (v__law_odd x_y_5 x_y_4))).map (fun x_y_5 : (List Int) => x_y_5)).length ≤ sizeLine)))) ∧ (((v__law_sets x_every).filter (fun x_y_4 : (List Int) => ((v__law_odd p_state x_y_4) && (decide (((p_handles.filter (fun x_y_5 : (List Int) => (v__law_odd x_y_5 x_y_4))).map (fun x_y_5 : (List Int) => x_y_5)) = ([])))))).map (fun x_y_4 : (List Int) => x_y_4)).length ≤ sizeLine ∧ bnd (((v__law_sets x_every).filter (fun x_y_4 : (List Int) => ((v__law_odd p_state x_y_4) && (decide (((p_handles.filter (fun x_y_5 : (List Int) => (v__law_odd x_y_5 x_y_4))).map (fun x_y_5 : (List Int) => x_y_5)) = ([])))))).map (fun x_y_4 : (List Int) => x_y_4)) fun x_able : (List (List Int)) => ixOk x_able 0))) (jl_for (Γh := fun x_s : Unit => [.s ((eTp eInt) p_state), .s ((eTp (eTp eInt)) p_handles), .u, .u, .u, .u, .u, .u]) (Γg := fun (x_s : Unit) (x_y : (List Int)) => [.s ((eTp eInt) p_state), .s ((eTp (eTp eInt)) p_handles), .s ((eTp eInt) x_y), .u, .u, .u, .u, .u]) (st := (v__law_opened_L1 p_state p_handles)) (G := (g__law_opened_L1 p_state p_handles)) (s0 := ()) (ji_e (je_args (ja_c (je_cast rgt_eq (je_trg (jrg_1 (je_un (jo_n rfl) (hr_n rfl) (o_lenT (eTp eInt) _))) h.1)) ja_n) (c__law_sets (rngT 0 (p_handles.length : Int)) h.2.1)) (it_L (eTp eInt) _)) (.c .k (.c .k (.c .k (.c .k (.c .k (.c .k (.c .k (.c .k .nil)))))))) (fun _ _ => (jg_n rfl)) (fun x_s x_y h => c__law_opened_L1 p_state p_handles  x_s x_y h) h.2.2.1) (fun x_u h => (jr_bnd (Γ1 := fun x_every : (List Int) => [.s ((eTp eInt) p_state), .s ((eTp (eTp eInt)) p_handles), .u, .o ((eLs eInt) x_every), .u, .u, .u, .u]) (jn_setO (je_lc (eo := eInt) (Γx := fun x_y_2 : Int => [.s ((eTp eInt) p_state), .s ((eTp (eTp eInt)) p_handles), .u, .u, .u, .s (eInt x_y_2), .u, .u]) (ji_a (ja_c je_c ja_n) (it_r1 h.1)) rfl (fun _ => (jg_n rfl)) (fun _ => rfl) (fun _ => rfl) (fun x_y_2 hb59 => (jt_or (jt_c (je_bin (jo_n rfl) (jo_n rfl) (hr_n rfl) (hr_n rfl) (o_inT (e := eInt) (by decide) x_y_2 p_state))) (fun hb67 => (jt_c (je_bin (jo_e (je_lc (eo := (eTp eInt)) (Γx := fun x_y_3 : (List Int) => [.s ((eTp eInt) p_state), .s ((eTp (eTp eInt)) p_handles), .u, .u, .u, .s (eInt x_y_2), .s ((eTp eInt) x_y_3), .u]) (ji_e (je_s rfl) (it_T (eTp eInt) _)) rfl (fun _ => (jg_n rfl)) (fun _ => rfl) (fun _ => rfl) (fun x_y_3 hb63 => (jt_c (je_bin (jo_n rfl) (jo_n rfl) (hr_n rfl) (hr_n rfl) (o_inT (e := eInt) (by decide) x_y_2 x_y_3)))) (fun x_y_3 hb63 hb64 => (je_s rfl)) ((h.2.1 x_y_2 hb59) hb67))) (jo_e (je_args ja_n (o_lstS (eTp eInt) ([] : (List (List Int)))))) hr_v hr_v (o_ne (e := (eLs (eTp eInt))) (by decide) ((p_handles.filter (fun x_y_3 : (List Int) => (decide (x_y_2 ∈ x_y_3)))).map (fun x_y_3 : (List Int) => x_y_3)) ([]))))))) (fun x_y_2 hb59 hb60 => (je_s rfl)) h.2.2.1) rfl) (fun x_every h_x_every => (jr_bnd (Γ1 := fun x_able : (List (List Int)) => [.s ((eTp eInt) p_state), .s ((eTp (eTp eInt)) p_handles), .u, .o ((eLs eInt) x_every), .o ((eLs (eTp eInt)) x_able), .u, .u, .u]) (jn_setO (je_lc (eo := (eTp eInt)) (Γx := fun x_y_4 : (List Int) => [.s ((eTp eInt) p_state), .s ((eTp (eTp eInt)) p_handles), .u, .o ((eLs eInt) x_every), .u, .u, .u, .s ((eTp eInt) x_y_4)]) (ji_e (je_args (ja_c (je_un (jo_n rfl) (hr_n rfl) (o_tupL eInt _)) ja_n) (c__law_sets x_every h_x_every.1)) (it_L (eTp eInt) _)) rfl (fun _ => (jg_n rfl)) (fun _ => rfl) (fun _ => rfl) (fun x_y_4 hb68 => (jt_and (jt_c (je_args (ja_c (je_s rfl) (ja_c (je_s rfl) ja_n)) (c__law_odd p_state x_y_4 (h_x_every.2.1 x_y_4 hb68).1))) (fun hb76 => (jt_c (je_bin (jo_e (je_lc (eo := (eTp eInt)) (Γx := fun x_y_5 : (List Int) => [.s ((eTp eInt) p_state), .s ((eTp (eTp eInt)) p_handles), .u, .o ((eLs eInt) x_every), .u, .u, .s ((eTp eInt) x_y_5), .s ((eTp eInt) x_y_4)]) (ji_e (je_s rfl) (it_T (eTp eInt) _)) rfl (fun _ => (jg_n rfl)) (fun _ => rfl) (fun _ => rfl) (fun x_y_5 hb72 => (jt_c (je_args (ja_c (je_s rfl) (ja_c (je_s rfl) ja_n)) (c__law_odd x_y_5 x_y_4 (((h_x_every.2.1 x_y_4 hb68).2 hb76).1 x_y_5 hb72))))) (fun x_y_5 hb72 hb73 => (je_s rfl)) ((h_x_every.2.1 x_y_4 hb68).2 hb76).2)) (jo_e (je_args ja_n (o_lstS (eTp eInt) ([] : (List (List Int)))))) hr_v hr_v (o_eq (e := (eLs (eTp eInt))) (by decide) ((p_handles.filter (fun x_y_5 : (List Int) => (v__law_odd x_y_5 x_y_4))).map (fun x_y_5 : (List Int) => x_y_5)) ([]))))))) (fun x_y_4 hb68 hb69 => (je_s rfl)) h_x_every.2.2.1) rfl) (fun x_able h_x_able => (jr_ret (je_args (ja_c je_c (ja_c (je_bin (jo_n rfl) (jo_e je_c) (hr_n rfl) hr_v (o_ixL (eTp eInt) h_x_able)) ja_n)) (o_tup2 eNm (eTp eInt) (nm "no") (ixT x_able 0))) pr_0)) h_x_every.2.2.2)) h.2.2.2)) h.2.2.2))
def v_law_L2 (x_state_p : ((List Int)) × Nat) (x_s_2 : Unit) (x_y_5 : (List Int)) : Fw (Unit) (Bool) :=
  (cond (!decide ((v_turned_by x_state_p.1 x_y_5) = (v__law_turned x_state_p.1 x_y_5))) (Fw.rt false) (Fw.nx ()))
def g_law_L2 (x_state_p : ((List Int)) × Nat) (x_s_2 : Unit) (x_y_5 : (List Int)) : Prop :=
  g_turned_by x_state_p.1 x_y_5 ∧ g__law_turned x_state_p.1 x_y_5
def v_law_L3 (x_handles_p : ((List (List Int))) × Nat) (x_s_3 : (Int × (List Int))) (x_y_9 : (List Int)) : (Int × (List Int)) :=
  bnd (v__law_opened x_y_9 x_handles_p.1) fun x_word_places : (Nm × (List Int)) => (cond ((decide (x_word_places.1 = (nm "yes"))) && (decide (x_s_3.1 < (x_word_places.2.length : Int)))) ((x_word_places.2.length : Int), x_y_9) x_s_3)
def g_law_L3 (x_handles_p : ((List (List Int))) × Nat) (x_s_3 : (Int × (List Int))) (x_y_9 : (List Int)) : Prop :=
  g__law_opened x_y_9 x_handles_p.1
def v_law_L4 (x_handles_p : ((List (List Int))) × Nat) (x_state_p : ((List Int)) × Nat) (x_s_4 : Unit) (x_y_10 : D) : Fw (Unit) (Bool) :=
  bnd ((isY "tuple" x_y_10) && ((((itsY x_y_10).filter (fun x_y_11 : D => ((!(v__law_is_number x_y_11)) || (decide (((dInt x_y_11).getD default) < 0))))).map (fun x_y_11 : D => x_y_11)).isEmpty)) fun x_right : Bool => bnd (x_right && ((decide ((((dTp dInt) x_y_10).getD default) = (srtSet (((dTp dInt) x_y_10).getD default)))) && ((v__law_odd x_state_p.1 (((dTp dInt) x_y_10).getD default)) && (decide (((x_handles_p.1.filter (fun x_y_12 : (List Int) => (v__law_odd x_y_12 (((dTp dInt) x_y_10).getD default)))).map (fun x_y_12 : (List Int) => x_y_12)) = ([])))))) fun x_right_2 : Bool => (cond (!(v__law_is_bit (v_are_even x_state_p.1 x_handles_p.1 x_y_10) x_right_2)) (Fw.rt false) (Fw.nx ()))
def g_law_L4 (x_handles_p : ((List (List Int))) × Nat) (x_state_p : ((List Int)) × Nat) (x_s_4 : Unit) (x_y_10 : D) : Prop :=
  ((isY "tuple" x_y_10) = true → (seqY x_y_10 = true ∧ (∀ x_y_11 ∈ (itsY x_y_10), (!(v__law_is_number x_y_11)) = false → (dInt x_y_11).isSome = true) ∧ (((itsY x_y_10).filter (fun x_y_11 : D => ((!(v__law_is_number x_y_11)) || (decide (((dInt x_y_11).getD default) < 0))))).map (fun x_y_11 : D => x_y_11)).length ≤ sizeLine ∧ SeqAt.shaped (eLs eD (((itsY x_y_10).filter (fun x_y_11 : D => ((!(v__law_is_number x_y_11)) || (decide (((dInt x_y_11).getD default) < 0))))).map (fun x_y_11 : D => x_y_11))) = true)) ∧ (bnd ((isY "tuple" x_y_10) && ((((itsY x_y_10).filter (fun x_y_11 : D => ((!(v__law_is_number x_y_11)) || (decide (((dInt x_y_11).getD default) < 0))))).map (fun x_y_11 : D => x_y_11)).isEmpty)) fun x_right : Bool => (x_right = true → (((dTp dInt) x_y_10).isSome = true ∧ ((dTp dInt) x_y_10).isSome = true ∧ (((dTp dInt) x_y_10).getD default).length ≤ 4000 ∧ (ddp (((dTp dInt) x_y_10).getD default)).length < 64 ∧ ((decide ((((dTp dInt) x_y_10).getD default) = (srtSet (((dTp dInt) x_y_10).getD default)))) = true → (((dTp dInt) x_y_10).isSome = true ∧ g__law_odd x_state_p.1 (((dTp dInt) x_y_10).getD default) ∧ ((v__law_odd x_state_p.1 (((dTp dInt) x_y_10).getD default)) = true → ((∀ x_y_12 ∈ x_handles_p.1, (((dTp dInt) x_y_10).isSome = true ∧ g__law_odd x_y_12 (((dTp dInt) x_y_10).getD default))) ∧ ((x_handles_p.1.filter (fun x_y_12 : (List Int) => (v__law_odd x_y_12 (((dTp dInt) x_y_10).getD default)))).map (fun x_y_12 : (List Int) => x_y_12)).length ≤ sizeLine)))))) ∧ bnd (x_right && ((decide ((((dTp dInt) x_y_10).getD default) = (srtSet (((dTp dInt) x_y_10).getD default)))) && ((v__law_odd x_state_p.1 (((dTp dInt) x_y_10).getD default)) && (decide (((x_handles_p.1.filter (fun x_y_12 : (List Int) => (v__law_odd x_y_12 (((dTp dInt) x_y_10).getD default)))).map (fun x_y_12 : (List Int) => x_y_12)) = ([])))))) fun x_right_2 : Bool => g_are_even x_state_p.1 x_handles_p.1 x_y_10)
def v_law_R1 (x_many_p : (Int) × Nat) (x_handles_p : ((List (List Int))) × Nat) (x_state_p : ((List Int)) × Nat) (x_row_p : ((List Int)) × Nat) (x_told_sets : (Nm × (List Int)) × (List (List Int))) : Fw (Nat) (Bool) :=
  bnd (cond (decide (x_told_sets.1.1 = (nm "no"))) x_told_sets.1.2 x_state_p.1) fun x_own : (List Int) => (Fw.on (foldF (v_law_L4 x_handles_p x_state_p) () ([((eTp eInt) x_own), ((eTp eInt) x_own.reverse), ((eLs eInt) x_own), ((eOp eInt) none), ((eTp eInt) ([])), ((eTp eInt) (cutD x_own (some 1) none)), ((eTp eInt) (x_own ++ ([3]))), ((eTp eInt) (x_own ++ (cutD x_own (some (-1)) none))), ((eTp eBool) ([true])), ((eTp eInt) ([(-1)])), ((eP2 eInt eInt) (0, 1)), ((eTp eNm) ([(nm "a")])), ((eTp eInt) (rngT 0 x_many_p.1)), ((eP2 eInt (eOp eInt)) (0, none))])) (fun x_u_2 => Fw.nx x_row_p.2) Fw.rt)
def g_law_R1 (x_many_p : (Int) × Nat) (x_handles_p : ((List (List Int))) × Nat) (x_state_p : ((List Int)) × Nat) (x_row_p : ((List Int)) × Nat) (x_told_sets : (Nm × (List Int)) × (List (List Int))) : Prop :=
  bnd (cond (decide (x_told_sets.1.1 = (nm "no"))) x_told_sets.1.2 x_state_p.1) fun x_own : (List Int) => x_own.length + ([3]).length ≤ sizeLine ∧ x_own.length + (cutD x_own (some (-1)) none).length ≤ sizeLine ∧ rgB 0 x_many_p.1 = true ∧ okFF (v_law_L4 x_handles_p x_state_p) (g_law_L4 x_handles_p x_state_p) () ([((eTp eInt) x_own), ((eTp eInt) x_own.reverse), ((eLs eInt) x_own), ((eOp eInt) none), ((eTp eInt) ([])), ((eTp eInt) (cutD x_own (some 1) none)), ((eTp eInt) (x_own ++ ([3]))), ((eTp eInt) (x_own ++ (cutD x_own (some (-1)) none))), ((eTp eBool) ([true])), ((eTp eInt) ([(-1)])), ((eP2 eInt eInt) (0, 1)), ((eTp eNm) ([(nm "a")])), ((eTp eInt) (rngT 0 x_many_p.1)), ((eP2 eInt (eOp eInt)) (0, none))])
def v_law_R2 (x_many_p : (Int) × Nat) (x_handles_p : ((List (List Int))) × Nat) (x_state_p : ((List Int)) × Nat) (x_row_p : ((List Int)) × Nat) (x_told_sets : (Nm × (List Int)) × (List (List Int))) (x_best_3 : (Int × (List Int))) : Fw (Nat) (Bool) :=
  (cond (!decide ((v_worst_state x_many_p.1 x_handles_p.1) = x_best_3)) (Fw.rt false) (v_law_R1 x_many_p x_handles_p x_state_p x_row_p x_told_sets))
def g_law_R2 (x_many_p : (Int) × Nat) (x_handles_p : ((List (List Int))) × Nat) (x_state_p : ((List Int)) × Nat) (x_row_p : ((List Int)) × Nat) (x_told_sets : (Nm × (List Int)) × (List (List Int))) (x_best_3 : (Int × (List Int))) : Prop :=
  g_worst_state x_many_p.1 x_handles_p.1 ∧ ((!decide ((v_worst_state x_many_p.1 x_handles_p.1) = x_best_3)) = false → g_law_R1 x_many_p x_handles_p x_state_p x_row_p x_told_sets)
def v_law_R3 (x_many_p : (Int) × Nat) (x_handles_p : ((List (List Int))) × Nat) (x_state_p : ((List Int)) × Nat) (x_row_p : ((List Int)) × Nat) (x_told_sets : (Nm × (List Int)) × (List (List Int))) (x_best : (Int × (List Int))) : Fw (Nat) (Bool) :=
  bnd (List.foldl (v_law_L3 x_handles_p) x_best (v__law_sets (rngT 0 x_many_p.1))) fun x_best_3 : (Int × (List Int)) => (v_law_R2 x_many_p x_handles_p x_state_p x_row_p x_told_sets x_best_3)
def g_law_R3 (x_many_p : (Int) × Nat) (x_handles_p : ((List (List Int))) × Nat) (x_state_p : ((List Int)) × Nat) (x_row_p : ((List Int)) × Nat) (x_told_sets : (Nm × (List Int)) × (List (List Int))) (x_best : (Int × (List Int))) : Prop :=
  rgB 0 x_many_p.1 = true ∧ g__law_sets (rngT 0 x_many_p.1) ∧ okF (v_law_L3 x_handles_p) (g_law_L3 x_handles_p) x_best (v__law_sets (rngT 0 x_many_p.1)) ∧ bnd (List.foldl (v_law_L3 x_handles_p) x_best (v__law_sets (rngT 0 x_many_p.1))) fun x_best_3 : (Int × (List Int)) => g_law_R2 x_many_p x_handles_p x_state_p x_row_p x_told_sets x_best_3
def v_law_R4 (x_many_p : (Int) × Nat) (x_handles_p : ((List (List Int))) × Nat) (x_state_p : ((List Int)) × Nat) (x_row_p : ((List Int)) × Nat) (x_told_sets : (Nm × (List Int)) × (List (List Int))) : Fw (Nat) (Bool) :=
  bnd (0, []) fun x_best : (Int × (List Int)) => (v_law_R3 x_many_p x_handles_p x_state_p x_row_p x_told_sets x_best)
def g_law_R4 (x_many_p : (Int) × Nat) (x_handles_p : ((List (List Int))) × Nat) (x_state_p : ((List Int)) × Nat) (x_row_p : ((List Int)) × Nat) (x_told_sets : (Nm × (List Int)) × (List (List Int))) : Prop :=
  bnd (0, []) fun x_best : (Int × (List Int)) => g_law_R3 x_many_p x_handles_p x_state_p x_row_p x_told_sets x_best
def v_law_R5 (x_many_p : (Int) × Nat) (x_handles_p : ((List (List Int))) × Nat) (x_state_p : ((List Int)) × Nat) (x_row_p : ((List Int)) × Nat) (x_told_sets : (Nm × (List Int)) × (List (List Int))) (x_spare : (List Int)) : Fw (Nat) (Bool) :=
  (cond (!decide ((v_spare_handles x_handles_p.1) = x_spare)) (Fw.rt false) (v_law_R4 x_many_p x_handles_p x_state_p x_row_p x_told_sets))
def g_law_R5 (x_many_p : (Int) × Nat) (x_handles_p : ((List (List Int))) × Nat) (x_state_p : ((List Int)) × Nat) (x_row_p : ((List Int)) × Nat) (x_told_sets : (Nm × (List Int)) × (List (List Int))) (x_spare : (List Int)) : Prop :=
  g_spare_handles x_handles_p.1 ∧ ((!decide ((v_spare_handles x_handles_p.1) = x_spare)) = false → g_law_R4 x_many_p x_handles_p x_state_p x_row_p x_told_sets)
def v_law_R6 (x_many_p : (Int) × Nat) (x_handles_p : ((List (List Int))) × Nat) (x_state_p : ((List Int)) × Nat) (x_row_p : ((List Int)) × Nat) (x_told_sets : (Nm × (List Int)) × (List (List Int))) : Fw (Nat) (Bool) :=
  bnd (((rngT 0 (x_handles_p.1.length : Int)).filter (fun x_y_8 : Int => (decide (((v__law_opened (ixT x_handles_p.1 x_y_8) ((cutD x_handles_p.1 none (some x_y_8)) ++ (cutD x_handles_p.1 (some (x_y_8 + 1)) none))).1) = (nm "yes"))))).map (fun x_y_8 : Int => x_y_8)) fun x_spare : (List Int) => (v_law_R5 x_many_p x_handles_p x_state_p x_row_p x_told_sets x_spare)
def g_law_R6 (x_many_p : (Int) × Nat) (x_handles_p : ((List (List Int))) × Nat) (x_state_p : ((List Int)) × Nat) (x_row_p : ((List Int)) × Nat) (x_told_sets : (Nm × (List Int)) × (List (List Int))) : Prop :=
  bdI (x_handles_p.1.length : Int) = true ∧ (∀ x_y_8 ∈ (rngT 0 (x_handles_p.1.length : Int)), (ixOk x_handles_p.1 x_y_8 ∧ (cutD x_handles_p.1 none (some x_y_8)).length + (cutD x_handles_p.1 (some (x_y_8 + 1)) none).length ≤ sizeLine ∧ g__law_opened (ixT x_handles_p.1 x_y_8) ((cutD x_handles_p.1 none (some x_y_8)) ++ (cutD x_handles_p.1 (some (x_y_8 + 1)) none)))) ∧ (((rngT 0 (x_handles_p.1.length : Int)).filter (fun x_y_8 : Int => (decide (((v__law_opened (ixT x_handles_p.1 x_y_8) ((cutD x_handles_p.1 none (some x_y_8)) ++ (cutD x_handles_p.1 (some (x_y_8 + 1)) none))).1) = (nm "yes"))))).map (fun x_y_8 : Int => x_y_8)).length ≤ sizeLine ∧ bnd (((rngT 0 (x_handles_p.1.length : Int)).filter (fun x_y_8 : Int => (decide (((v__law_opened (ixT x_handles_p.1 x_y_8) ((cutD x_handles_p.1 none (some x_y_8)) ++ (cutD x_handles_p.1 (some (x_y_8 + 1)) none))).1) = (nm "yes"))))).map (fun x_y_8 : Int => x_y_8)) fun x_spare : (List Int) => g_law_R5 x_many_p x_handles_p x_state_p x_row_p x_told_sets x_spare
def v_law_R7 (x_many_p : (Int) × Nat) (x_handles_p : ((List (List Int))) × Nat) (x_state_p : ((List Int)) × Nat) (x_row_p : ((List Int)) × Nat) (x_told_sets : (Nm × (List Int)) × (List (List Int))) : Fw (Nat) (Bool) :=
  (cond ((!decide (x_told_sets.1 = (v__law_opened x_state_p.1 x_handles_p.1))) || (!decide ((v_states_from x_state_p.1 x_handles_p.1) = ((ddp (x_told_sets.2.map (fun x_y_7 : (List Int) => (v__law_after x_state_p.1 x_handles_p.1 x_y_7)))).length : Int)))) (Fw.rt false) (v_law_R6 x_many_p x_handles_p x_state_p x_row_p x_told_sets))
def g_law_R7 (x_many_p : (Int) × Nat) (x_handles_p : ((List (List Int))) × Nat) (x_state_p : ((List Int)) × Nat) (x_row_p : ((List Int)) × Nat) (x_told_sets : (Nm × (List Int)) × (List (List Int))) : Prop :=
  g__law_opened x_state_p.1 x_handles_p.1 ∧ ((!decide (x_told_sets.1 = (v__law_opened x_state_p.1 x_handles_p.1))) = false → (g_states_from x_state_p.1 x_handles_p.1 ∧ (∀ x_y_7 ∈ x_told_sets.2, g__law_after x_state_p.1 x_handles_p.1 x_y_7) ∧ x_told_sets.2.length ≤ sizeLine ∧ (x_told_sets.2.map (fun x_y_7 : (List Int) => (v__law_after x_state_p.1 x_handles_p.1 x_y_7))).length < 64)) ∧ (((!decide (x_told_sets.1 = (v__law_opened x_state_p.1 x_handles_p.1))) || (!decide ((v_states_from x_state_p.1 x_handles_p.1) = ((ddp (x_told_sets.2.map (fun x_y_7 : (List Int) => (v__law_after x_state_p.1 x_handles_p.1 x_y_7)))).length : Int)))) = false → g_law_R6 x_many_p x_handles_p x_state_p x_row_p x_told_sets)
def v_law_R8 (x_many_p : (Int) × Nat) (x_handles_p : ((List (List Int))) × Nat) (x_state_p : ((List Int)) × Nat) (x_row_p : ((List Int)) × Nat) : Fw (Nat) (Bool) :=
  bnd ((v_opened x_state_p.1 x_handles_p.1), (v__law_sets (rngT 0 (x_handles_p.1.length : Int)))) fun x_told_sets : (Nm × (List Int)) × (List (List Int)) => (v_law_R7 x_many_p x_handles_p x_state_p x_row_p x_told_sets)
def g_law_R8 (x_many_p : (Int) × Nat) (x_handles_p : ((List (List Int))) × Nat) (x_state_p : ((List Int)) × Nat) (x_row_p : ((List Int)) × Nat) : Prop :=
  g_opened x_state_p.1 x_handles_p.1 ∧ rgB 0 (x_handles_p.1.length : Int) = true ∧ g__law_sets (rngT 0 (x_handles_p.1.length : Int)) ∧ bnd ((v_opened x_state_p.1 x_handles_p.1), (v__law_sets (rngT 0 (x_handles_p.1.length : Int)))) fun x_told_sets : (Nm × (List Int)) × (List (List Int)) => g_law_R7 x_many_p x_handles_p x_state_p x_row_p x_told_sets
def v_law_R9 (x_many_p : (Int) × Nat) (x_handles_p : ((List (List Int))) × Nat) (x_state_p : ((List Int)) × Nat) (x_row_p : ((List Int)) × Nat) : Fw (Nat) (Bool) :=
  (cond (!decide ((v_after x_state_p.1 x_handles_p.1 x_row_p.1) = (v__law_after x_state_p.1 x_handles_p.1 x_row_p.1))) (Fw.rt false) (v_law_R8 x_many_p x_handles_p x_state_p x_row_p))
def g_law_R9 (x_many_p : (Int) × Nat) (x_handles_p : ((List (List Int))) × Nat) (x_state_p : ((List Int)) × Nat) (x_row_p : ((List Int)) × Nat) : Prop :=
  g_after x_state_p.1 x_handles_p.1 x_row_p.1 ∧ g__law_after x_state_p.1 x_handles_p.1 x_row_p.1 ∧ ((!decide ((v_after x_state_p.1 x_handles_p.1 x_row_p.1) = (v__law_after x_state_p.1 x_handles_p.1 x_row_p.1))) = false → g_law_R8 x_many_p x_handles_p x_state_p x_row_p)
def v_law_R10 (ds : List Int) (x_many_p : (Int) × Nat) (x_handles_p : ((List (List Int))) × Nat) (x_state_p : ((List Int)) × Nat) : Fw (Nat) (Bool) :=
  bnd ((cond (!decide (x_handles_p.1 = ([]))) ((lcS (fun (x_a_4 : Nat) (x_y_6 : Int) => cond true (some (nxt ds x_a_4 (x_handles_p.1.length : Int)), x_a_4 + 1) (none, x_a_4)) ((x_state_p.2) + 1) (rngT 0 (nxt ds x_state_p.2 5))).1) ([])), (cond (!decide (x_handles_p.1 = ([]))) ((lcS (fun (x_a_4 : Nat) (x_y_6 : Int) => cond true (some (nxt ds x_a_4 (x_handles_p.1.length : Int)), x_a_4 + 1) (none, x_a_4)) ((x_state_p.2) + 1) (rngT 0 (nxt ds x_state_p.2 5))).2) x_state_p.2)) fun x_row_p : ((List Int)) × Nat => (v_law_R9 x_many_p x_handles_p x_state_p x_row_p)
def g_law_R10 (ds : List Int) (x_many_p : (Int) × Nat) (x_handles_p : ((List (List Int))) × Nat) (x_state_p : ((List Int)) × Nat) : Prop :=
  ((!decide (x_handles_p.1 = ([]))) = true → (bdI (nxt ds x_state_p.2 5) = true ∧ (okS (fun (x_a_4 : Nat) (x_y_6 : Int) => cond true (some (nxt ds x_a_4 (x_handles_p.1.length : Int)), x_a_4 + 1) (none, x_a_4)) (fun (x_a_4 : Nat) (x_y_6 : Int) => (true = true → (x_handles_p.1.length : Int) ≠ 0)) ((x_state_p.2) + 1) (rngT 0 (nxt ds x_state_p.2 5))) ∧ (rngT 0 (nxt ds x_state_p.2 5)).length ≤ sizeLine)) ∧ bnd ((cond (!decide (x_handles_p.1 = ([]))) ((lcS (fun (x_a_4 : Nat) (x_y_6 : Int) => cond true (some (nxt ds x_a_4 (x_handles_p.1.length : Int)), x_a_4 + 1) (none, x_a_4)) ((x_state_p.2) + 1) (rngT 0 (nxt ds x_state_p.2 5))).1) ([])), (cond (!decide (x_handles_p.1 = ([]))) ((lcS (fun (x_a_4 : Nat) (x_y_6 : Int) => cond true (some (nxt ds x_a_4 (x_handles_p.1.length : Int)), x_a_4 + 1) (none, x_a_4)) ((x_state_p.2) + 1) (rngT 0 (nxt ds x_state_p.2 5))).2) x_state_p.2)) fun x_row_p : ((List Int)) × Nat => g_law_R9 x_many_p x_handles_p x_state_p x_row_p
def v_law_R11 (ds : List Int) (x_many_p : (Int) × Nat) (x_handles_p : ((List (List Int))) × Nat) (x_state_p : ((List Int)) × Nat) : Fw (Nat) (Bool) :=
  (Fw.on (foldF (v_law_L2 x_state_p) () x_handles_p.1) (fun x_u => (v_law_R10 ds x_many_p x_handles_p x_state_p)) Fw.rt)
def g_law_R11 (ds : List Int) (x_many_p : (Int) × Nat) (x_handles_p : ((List (List Int))) × Nat) (x_state_p : ((List Int)) × Nat) : Prop :=
  okFF (v_law_L2 x_state_p) (g_law_L2 x_state_p) () x_handles_p.1 ∧ Fw.on (foldF (v_law_L2 x_state_p) () x_handles_p.1) (fun x_u => g_law_R10 ds x_many_p x_handles_p x_state_p) (fun _ => True)
def v_law_R12 (ds : List Int) (x_many_p : (Int) × Nat) (x_handles_p : ((List (List Int))) × Nat) : Fw (Nat) (Bool) :=
  bnd ((lcS (fun (x_a_3 : Nat) (x_y_4 : Int) => cond (decide ((nxt ds x_a_3 2) = 0)) (some x_y_4, x_a_3 + 1) (none, x_a_3 + 1)) x_handles_p.2 (rngT 0 x_many_p.1)).1, (lcS (fun (x_a_3 : Nat) (x_y_4 : Int) => cond (decide ((nxt ds x_a_3 2) = 0)) (some x_y_4, x_a_3 + 1) (none, x_a_3 + 1)) x_handles_p.2 (rngT 0 x_many_p.1)).2) fun x_state_p : ((List Int)) × Nat => (v_law_R11 ds x_many_p x_handles_p x_state_p)
def g_law_R12 (ds : List Int) (x_many_p : (Int) × Nat) (x_handles_p : ((List (List Int))) × Nat) : Prop :=
  bdI x_many_p.1 = true ∧ (rngT 0 x_many_p.1).length ≤ sizeLine ∧ bnd ((lcS (fun (x_a_3 : Nat) (x_y_4 : Int) => cond (decide ((nxt ds x_a_3 2) = 0)) (some x_y_4, x_a_3 + 1) (none, x_a_3 + 1)) x_handles_p.2 (rngT 0 x_many_p.1)).1, (lcS (fun (x_a_3 : Nat) (x_y_4 : Int) => cond (decide ((nxt ds x_a_3 2) = 0)) (some x_y_4, x_a_3 + 1) (none, x_a_3 + 1)) x_handles_p.2 (rngT 0 x_many_p.1)).2) fun x_state_p : ((List Int)) × Nat => g_law_R11 ds x_many_p x_handles_p x_state_p
def v_law_R13 (ds : List Int) (x_many_p : (Int) × Nat) : Fw (Nat) (Bool) :=
  bnd ((lcS (fun (x_a : Nat) (x_y_2 : Int) => cond true (some ((lcS (fun (x_a_2 : Nat) (x_y_3 : Int) => cond (decide ((nxt ds x_a_2 2) = 0)) (some x_y_3, x_a_2 + 1) (none, x_a_2 + 1)) x_a (rngT 0 x_many_p.1)).1), (lcS (fun (x_a_2 : Nat) (x_y_3 : Int) => cond (decide ((nxt ds x_a_2 2) = 0)) (some x_y_3, x_a_2 + 1) (none, x_a_2 + 1)) x_a (rngT 0 x_many_p.1)).2) (none, x_a)) ((x_many_p.2) + 1) (rngT 0 (nxt ds x_many_p.2 5))).1, (lcS (fun (x_a : Nat) (x_y_2 : Int) => cond true (some ((lcS (fun (x_a_2 : Nat) (x_y_3 : Int) => cond (decide ((nxt ds x_a_2 2) = 0)) (some x_y_3, x_a_2 + 1) (none, x_a_2 + 1)) x_a (rngT 0 x_many_p.1)).1), (lcS (fun (x_a_2 : Nat) (x_y_3 : Int) => cond (decide ((nxt ds x_a_2 2) = 0)) (some x_y_3, x_a_2 + 1) (none, x_a_2 + 1)) x_a (rngT 0 x_many_p.1)).2) (none, x_a)) ((x_many_p.2) + 1) (rngT 0 (nxt ds x_many_p.2 5))).2) fun x_handles_p : ((List (List Int))) × Nat => (v_law_R12 ds x_many_p x_handles_p)
def g_law_R13 (ds : List Int) (x_many_p : (Int) × Nat) : Prop :=
  bdI (nxt ds x_many_p.2 5) = true ∧ (okS (fun (x_a : Nat) (x_y_2 : Int) => cond true (some ((lcS (fun (x_a_2 : Nat) (x_y_3 : Int) => cond (decide ((nxt ds x_a_2 2) = 0)) (some x_y_3, x_a_2 + 1) (none, x_a_2 + 1)) x_a (rngT 0 x_many_p.1)).1), (lcS (fun (x_a_2 : Nat) (x_y_3 : Int) => cond (decide ((nxt ds x_a_2 2) = 0)) (some x_y_3, x_a_2 + 1) (none, x_a_2 + 1)) x_a (rngT 0 x_many_p.1)).2) (none, x_a)) (fun (x_a : Nat) (x_y_2 : Int) => (true = true → (bdI x_many_p.1 = true ∧ (rngT 0 x_many_p.1).length ≤ sizeLine))) ((x_many_p.2) + 1) (rngT 0 (nxt ds x_many_p.2 5))) ∧ (rngT 0 (nxt ds x_many_p.2 5)).length ≤ sizeLine ∧ bnd ((lcS (fun (x_a : Nat) (x_y_2 : Int) => cond true (some ((lcS (fun (x_a_2 : Nat) (x_y_3 : Int) => cond (decide ((nxt ds x_a_2 2) = 0)) (some x_y_3, x_a_2 + 1) (none, x_a_2 + 1)) x_a (rngT 0 x_many_p.1)).1), (lcS (fun (x_a_2 : Nat) (x_y_3 : Int) => cond (decide ((nxt ds x_a_2 2) = 0)) (some x_y_3, x_a_2 + 1) (none, x_a_2 + 1)) x_a (rngT 0 x_many_p.1)).2) (none, x_a)) ((x_many_p.2) + 1) (rngT 0 (nxt ds x_many_p.2 5))).1, (lcS (fun (x_a : Nat) (x_y_2 : Int) => cond true (some ((lcS (fun (x_a_2 : Nat) (x_y_3 : Int) => cond (decide ((nxt ds x_a_2 2) = 0)) (some x_y_3, x_a_2 + 1) (none, x_a_2 + 1)) x_a (rngT 0 x_many_p.1)).1), (lcS (fun (x_a_2 : Nat) (x_y_3 : Int) => cond (decide ((nxt ds x_a_2 2) = 0)) (some x_y_3, x_a_2 + 1) (none, x_a_2 + 1)) x_a (rngT 0 x_many_p.1)).2) (none, x_a)) ((x_many_p.2) + 1) (rngT 0 (nxt ds x_many_p.2 5))).2) fun x_handles_p : ((List (List Int))) × Nat => g_law_R12 ds x_many_p x_handles_p
def v_law_L1 (ds : List Int) (x_s : Nat) (x_y : Int) : Fw (Nat) (Bool) :=
  bnd ((1 + (nxt ds x_s 4)), x_s + 1) fun x_many_p : (Int) × Nat => (v_law_R13 ds x_many_p)
def g_law_L1 (ds : List Int) (x_s : Nat) (x_y : Int) : Prop :=
  bnd ((1 + (nxt ds x_s 4)), x_s + 1) fun x_many_p : (Int) × Nat => g_law_R13 ds x_many_p
def v_law (ds : List Int) : Bool :=
  (Fw.on (foldF (v_law_L1 ds) 0 (rngT 0 4)) (fun x_u_3 => true) id)
def g_law (ds : List Int) : Prop :=
  bdI 4 = true ∧ okFF (v_law_L1 ds) (g_law_L1 ds) 0 (rngT 0 4)
theorem c_law_L2 (x_state_p : ((List Int)) × Nat) (ds : List Int) (sc : D) (x_y : Int) (x_many_p : (Int) × Nat) (x_handles_p : ((List (List Int))) × Nat) (x_s_2 : Unit) (x_y_5 : (List Int)) (h : g_law_L2 x_state_p x_s_2 x_y_5) : JF eBool (pr0 : Bool → Env → Prop) (fun x_s_2 : Unit => [.s sc, .o (encW ds x_state_p.2), .s (eInt x_y), .s (eInt x_many_p.1), .s ((eTp (eTp eInt)) x_handles_p.1), .s ((eTp eInt) x_state_p.1), .u, .u, .u, .u, .a, .u, .u, .u, .u, .u, .u, .u, .u, .u, .u]) [.s sc, .o (encW ds x_state_p.2), .s (eInt x_y), .s (eInt x_many_p.1), .s ((eTp (eTp eInt)) x_handles_p.1), .s ((eTp eInt) x_state_p.1), .s ((eTp eInt) x_y_5), .u, .u, .u, .a, .u, .u, .u, .u, .u, .u, .u, .u, .u, .u] law_L3 (v_law_L2 x_state_p x_s_2 x_y_5) := by
  unfold g_law_L2 at h
  unfold v_law_L2
  exact (jf_if (jt_c (je_bin (jo_e (je_args (ja_c (je_s rfl) (ja_c (je_s rfl) ja_n)) (c_turned_by x_state_p.1 x_y_5 h.1))) (jo_e (je_args (ja_c (je_s rfl) (ja_c (je_s rfl) ja_n)) (c__law_turned x_state_p.1 x_y_5 h.2))) hr_v hr_v (o_ne (e := (eTp eInt)) (by decide) (v_turned_by x_state_p.1 x_y_5) (v__law_turned x_state_p.1 x_y_5)))) (fun hb123 => (jf_rt (jr_ret je_c pr_0))) (fun hb123 => (jf_nx (JN.post jn_next (.c .k (.c .k (.c .k (.c .k (.c .k (.c .k (.c .su (.c .k (.c .k (.c .k (.c .k (.c .k (.c .k (.c .k (.c .k (.c .k (.c .k (.c .k (.c .k (.c .k (.c .k .nil)))))))))))))))))))))))))
theorem c_law_L3 (x_handles_p : ((List (List Int))) × Nat) (ds : List Int) (sc : D) (x_y : Int) (x_many_p : (Int) × Nat) (x_state_p : ((List Int)) × Nat) (x_row_p : ((List Int)) × Nat) (x_told_sets : (Nm × (List Int)) × (List (List Int))) (x_spare : (List Int)) (x_s_3 : (Int × (List Int))) (x_y_9 : (List Int)) (h : g_law_L3 x_handles_p x_s_3 x_y_9) : JM (fun x_s_3 : (Int × (List Int)) => [.s sc, .o (encW ds x_row_p.2), .s (eInt x_y), .s (eInt x_many_p.1), .s ((eTp (eTp eInt)) x_handles_p.1), .s ((eTp eInt) x_state_p.1), .u, .s ((eTp eInt) x_row_p.1), .s ((eP2 eNm (eTp eInt)) x_told_sets.1), .s ((eLs (eTp eInt)) x_told_sets.2), .o ((eLs eInt) x_spare), .s ((eP2 eInt (eTp eInt)) x_s_3), .u, .u, .u, .u, .u, .u, .u, .u, .u]) [.s sc, .o (encW ds x_row_p.2), .s (eInt x_y), .s (eInt x_many_p.1), .s ((eTp (eTp eInt)) x_handles_p.1), .s ((eTp eInt) x_state_p.1), .u, .s ((eTp eInt) x_row_p.1), .s ((eP2 eNm (eTp eInt)) x_told_sets.1), .s ((eLs (eTp eInt)) x_told_sets.2), .o ((eLs eInt) x_spare), .s ((eP2 eInt (eTp eInt)) x_s_3), .s ((eTp eInt) x_y_9), .u, .u, .u, .u, .u, .u, .u, .u] law_L2 (v_law_L3 x_handles_p x_s_3 x_y_9) := by
  unfold g_law_L3 at h
  unfold v_law_L3
  exact (jm_bnd (G := fun _ => True) (Γ1 := fun x_word_places : (Nm × (List Int)) => [.s sc, .o (encW ds x_row_p.2), .s (eInt x_y), .s (eInt x_many_p.1), .s ((eTp (eTp eInt)) x_handles_p.1), .s ((eTp eInt) x_state_p.1), .u, .s ((eTp eInt) x_row_p.1), .s ((eP2 eNm (eTp eInt)) x_told_sets.1), .s ((eLs (eTp eInt)) x_told_sets.2), .o ((eLs eInt) x_spare), .s ((eP2 eInt (eTp eInt)) x_s_3), .s ((eTp eInt) x_y_9), .s (eNm x_word_places.1), .s ((eTp eInt) x_word_places.2), .u, .u, .u, .u, .u, .u]) (jn_asg (je_args (ja_c (je_s rfl) (ja_c (je_s rfl) ja_n)) (c__law_opened x_y_9 x_handles_p.1 h)) (jg_tp rfl (jgs_c (jg_n rfl) (jgs_c (jg_n rfl) jgs_n)))) (fun x_word_places _ => (jm_end (jn_set (je_if (en := (eP2 eInt (eTp eInt))) (x := ((x_word_places.2.length : Int), x_y_9)) (y := x_s_3) (jt_and (jt_c (je_bin (jo_n rfl) (jo_e je_c) (hr_n rfl) hr_v (o_eq (e := eNm) (by decide) x_word_places.1 (nm "yes")))) (fun hb136 => (jt_c (je_bin (jo_e (je_un (jo_n rfl) (hr_n rfl) (o_lenT eInt _))) (jo_e (je_bin (jo_n rfl) (jo_e je_c) (hr_n rfl) hr_v (o_ix20 eInt (eTp eInt) _))) hr_v hr_v (o_gtI _ _))))) (fun hb137 => (je_args (ja_c (je_un (jo_n rfl) (hr_n rfl) (o_lenT eInt _)) (ja_c (je_s rfl) ja_n)) (o_tup2 eInt (eTp eInt) (x_word_places.2.length : Int) x_y_9))) (fun hb137 => (je_s rfl))) rfl) (.c .k (.c .k (.c .k (.c .k (.c .k (.c .k (.c .k (.c .k (.c .k (.c .k (.c .k (.c .k (.c .su (.c .su (.c .su (.c .k (.c .k (.c .k (.c .k (.c .k (.c .k .nil))))))))))))))))))))))) trivial)
theorem c_law_L4 (x_handles_p : ((List (List Int))) × Nat) (x_state_p : ((List Int)) × Nat) (ds : List Int) (sc : D) (x_y : Int) (x_many_p : (Int) × Nat) (x_row_p : ((List Int)) × Nat) (x_told_sets : (Nm × (List Int)) × (List (List Int))) (x_spare : (List Int)) (x_best_3 : (Int × (List Int))) (x_own : (List Int)) (x_s_4 : Unit) (x_y_10 : D) (h : g_law_L4 x_handles_p x_state_p x_s_4 x_y_10) : JF eBool (pr0 : Bool → Env → Prop) (fun x_s_4 : Unit => [.s sc, .o (encW ds x_row_p.2), .s (eInt x_y), .s (eInt x_many_p.1), .s ((eTp (eTp eInt)) x_handles_p.1), .s ((eTp eInt) x_state_p.1), .u, .s ((eTp eInt) x_row_p.1), .s ((eP2 eNm (eTp eInt)) x_told_sets.1), .s ((eLs (eTp eInt)) x_told_sets.2), .o ((eLs eInt) x_spare), .s ((eP2 eInt (eTp eInt)) x_best_3), .s ((eTp eInt) x_own), .u, .u, .u, .u, .u, .u, .u, .u]) [.s sc, .o (encW ds x_row_p.2), .s (eInt x_y), .s (eInt x_many_p.1), .s ((eTp (eTp eInt)) x_handles_p.1), .s ((eTp eInt) x_state_p.1), .u, .s ((eTp eInt) x_row_p.1), .s ((eP2 eNm (eTp eInt)) x_told_sets.1), .s ((eLs (eTp eInt)) x_told_sets.2), .o ((eLs eInt) x_spare), .s ((eP2 eInt (eTp eInt)) x_best_3), .s ((eTp eInt) x_own), .u, .u, .s (eD x_y_10), .u, .u, .u, .u, .u] law_L1 (v_law_L4 x_handles_p x_state_p x_s_4 x_y_10) := by
  unfold g_law_L4 at h
  unfold v_law_L4
  exact (jf_bnd (Γ1 := fun x_right : Bool => [.s sc, .o (encW ds x_row_p.2), .s (eInt x_y), .s (eInt x_many_p.1), .s ((eTp (eTp eInt)) x_handles_p.1), .s ((eTp eInt) x_state_p.1), .u, .s ((eTp eInt) x_row_p.1), .s ((eP2 eNm (eTp eInt)) x_told_sets.1), .s ((eLs (eTp eInt)) x_told_sets.2), .o ((eLs eInt) x_spare), .s ((eP2 eInt (eTp eInt)) x_best_3), .s ((eTp eInt) x_own), .u, .u, .s (eD x_y_10), .s (eBool x_right), .u, .u, .u, .u]) (jn_set (je_and (je_un (jo_n rfl) (hr_n rfl) (o_isi (T := "tuple") rfl _)) (fun hb144 => (je_bin (jo_e (je_lc (eo := eD) (Γx := fun x_y_11 : D => [.s sc, .o (encW ds x_row_p.2), .s (eInt x_y), .s (eInt x_many_p.1), .s ((eTp (eTp eInt)) x_handles_p.1), .s ((eTp eInt) x_state_p.1), .u, .s ((eTp eInt) x_row_p.1), .s ((eP2 eNm (eTp eInt)) x_told_sets.1), .s ((eLs (eTp eInt)) x_told_sets.2), .o ((eLs eInt) x_spare), .s ((eP2 eInt (eTp eInt)) x_best_3), .s ((eTp eInt) x_own), .u, .u, .s (eD x_y_10), .u, .s (eD x_y_11), .u, .u, .u]) (ji_e (je_s rfl) (it_Y (h.1 hb144).1)) rfl (fun _ => (jg_n rfl)) (fun _ => rfl) (fun _ => rfl) (fun x_y_11 hb139 => (jt_or (jt_not (jt_c (je_args (ja_c (je_s rfl) ja_n) (c__law_is_number x_y_11)))) (fun hb143 => (jt_c (je_bin (jo_n rfl) (jo_e je_c) (hr_as (en := eInt) (dc := dInt) (((h.1 hb144).2.1 x_y_11 hb139) hb143) (hr_n rfl)) hr_v (o_ltI _ _)))))) (fun x_y_11 hb139 hb140 => (je_s rfl)) (h.1 hb144).2.2.1)) (jo_e (je_args ja_n (o_lstS eD ([] : (List D))))) hr_v hr_v (o_eqYnil (h.1 hb144).2.2.2)))) rfl) (fun x_right h_x_right => (jf_bnd (Γ1 := fun x_right_2 : Bool => [.s sc, .o (encW ds x_row_p.2), .s (eInt x_y), .s (eInt x_many_p.1), .s ((eTp (eTp eInt)) x_handles_p.1), .s ((eTp eInt) x_state_p.1), .u, .s ((eTp eInt) x_row_p.1), .s ((eP2 eNm (eTp eInt)) x_told_sets.1), .s ((eLs (eTp eInt)) x_told_sets.2), .o ((eLs eInt) x_spare), .s ((eP2 eInt (eTp eInt)) x_best_3), .s ((eTp eInt) x_own), .u, .u, .s (eD x_y_10), .s (eBool x_right_2), .u, .u, .u, .u]) (jn_set (je_and (je_s rfl) (fun hb151 => (je_and (je_bin (jo_e (je_un (jo_n rfl) (hr_as (en := (eTp eInt)) (dc := (dTp dInt)) (h_x_right.1 hb151).1 (hr_n rfl)) (o_lstT eInt _))) (jo_e (je_un (jo_n rfl) (hr_as (en := (eTp eInt)) (dc := (dTp dInt)) (h_x_right.1 hb151).2.1 (hr_n rfl)) (o_sortSetT (h_x_right.1 hb151).2.2.1 (h_x_right.1 hb151).2.2.2.1))) hr_v hr_v (o_eq (e := (eLs eInt)) (by decide) (((dTp dInt) x_y_10).getD default) (srtSet (((dTp dInt) x_y_10).getD default)))) (fun hb150 => (je_and (je_args (ja_c (je_s rfl) (ja_c (je_as (en := (eTp eInt)) (dc := (dTp dInt)) ((h_x_right.1 hb151).2.2.2.2 hb150).1 (je_s rfl)) ja_n)) (c__law_odd x_state_p.1 (((dTp dInt) x_y_10).getD default) ((h_x_right.1 hb151).2.2.2.2 hb150).2.1)) (fun hb149 => (je_bin (jo_e (je_lc (eo := (eTp eInt)) (Γx := fun x_y_12 : (List Int) => [.s sc, .o (encW ds x_row_p.2), .s (eInt x_y), .s (eInt x_many_p.1), .s ((eTp (eTp eInt)) x_handles_p.1), .s ((eTp eInt) x_state_p.1), .s ((eTp eInt) x_y_12), .s ((eTp eInt) x_row_p.1), .s ((eP2 eNm (eTp eInt)) x_told_sets.1), .s ((eLs (eTp eInt)) x_told_sets.2), .o ((eLs eInt) x_spare), .s ((eP2 eInt (eTp eInt)) x_best_3), .s ((eTp eInt) x_own), .u, .u, .s (eD x_y_10), .s (eBool x_right), .u, .u, .u, .u]) (ji_e (je_s rfl) (it_T (eTp eInt) _)) rfl (fun _ => (jg_n rfl)) (fun _ => rfl) (fun _ => rfl) (fun x_y_12 hb145 => (jt_c (je_args (ja_c (je_s rfl) (ja_c (je_as (en := (eTp eInt)) (dc := (dTp dInt)) ((((h_x_right.1 hb151).2.2.2.2 hb150).2.2 hb149).1 x_y_12 hb145).1 (je_s rfl)) ja_n)) (c__law_odd x_y_12 (((dTp dInt) x_y_10).getD default) ((((h_x_right.1 hb151).2.2.2.2 hb150).2.2 hb149).1 x_y_12 hb145).2)))) (fun x_y_12 hb145 hb146 => (je_s rfl)) (((h_x_right.1 hb151).2.2.2.2 hb150).2.2 hb149).2)) (jo_e (je_args ja_n (o_lstS (eTp eInt) ([] : (List (List Int)))))) hr_v hr_v (o_eq (e := (eLs (eTp eInt))) (by decide) ((x_handles_p.1.filter (fun x_y_12 : (List Int) => (v__law_odd x_y_12 (((dTp dInt) x_y_10).getD default)))).map (fun x_y_12 : (List Int) => x_y_12)) ([]))))))))) rfl) (fun x_right_2 h_x_right_2 => (jf_if (jt_not (jt_c (je_args (ja_c (je_args (ja_c (je_s rfl) (ja_c (je_s rfl) (ja_c (je_s rfl) ja_n))) (c_are_even x_state_p.1 x_handles_p.1 x_y_10 h_x_right_2)) (ja_c (je_s rfl) ja_n)) (c__law_is_bit (v_are_even x_state_p.1 x_handles_p.1 x_y_10) x_right_2)))) (fun hb152 => (jf_rt (jr_ret je_c pr_0))) (fun hb152 => (jf_nx (JN.post jn_next (.c .k (.c .k (.c .k (.c .k (.c .k (.c .k (.c .k (.c .k (.c .k (.c .k (.c .k (.c .k (.c .k (.c .k (.c .k (.c .su (.c .su (.c .k (.c .k (.c .k (.c .k .nil)))))))))))))))))))))))))) h_x_right.2)) h.2)
theorem c_law_R1 (x_many_p : (Int) × Nat) (x_handles_p : ((List (List Int))) × Nat) (x_state_p : ((List Int)) × Nat) (x_row_p : ((List Int)) × Nat) (x_told_sets : (Nm × (List Int)) × (List (List Int))) (ds : List Int) (sc : D) (x_s : Nat) (x_y : Int) (x_spare : (List Int)) (x_best_3 : (Int × (List Int))) (h : g_law_R1 x_many_p x_handles_p x_state_p x_row_p x_told_sets) : JF eBool (pr0 : Bool → Env → Prop) (fun x_s : Nat => [.s sc, .o (encW ds x_s), .u, .u, .u, .u, .u, .u, .u, .u, .a, .u, .u, .u, .u, .u, .u, .u, .u, .u, .u]) [.s sc, .o (encW ds x_row_p.2), .s (eInt x_y), .s (eInt x_many_p.1), .s ((eTp (eTp eInt)) x_handles_p.1), .s ((eTp eInt) x_state_p.1), .u, .s ((eTp eInt) x_row_p.1), .s ((eP2 eNm (eTp eInt)) x_told_sets.1), .s ((eLs (eTp eInt)) x_told_sets.2), .o ((eLs eInt) x_spare), .s ((eP2 eInt (eTp eInt)) x_best_3), .u, .u, .u, .u, .u, .u, .u, .u, .u] law_R1 (v_law_R1 x_many_p x_handles_p x_state_p x_row_p x_told_sets) := by
  unfold g_law_R1 at h
  unfold v_law_R1
  exact (jf_bnd (Γ1 := fun x_own : (List Int) => [.s sc, .o (encW ds x_row_p.2), .s (eInt x_y), .s (eInt x_many_p.1), .s ((eTp (eTp eInt)) x_handles_p.1), .s ((eTp eInt) x_state_p.1), .u, .s ((eTp eInt) x_row_p.1), .s ((eP2 eNm (eTp eInt)) x_told_sets.1), .s ((eLs (eTp eInt)) x_told_sets.2), .o ((eLs eInt) x_spare), .s ((eP2 eInt (eTp eInt)) x_best_3), .s ((eTp eInt) x_own), .u, .u, .u, .u, .u, .u, .u, .u]) (jn_set (je_if (en := (eTp eInt)) (x := x_told_sets.1.2) (y := x_state_p.1) (jt_c (je_bin (jo_e (je_bin (jo_n rfl) (jo_e je_c) (hr_n rfl) hr_v (o_ix20 eNm (eTp eInt) _))) (jo_e je_c) hr_v hr_v (o_eq (e := eNm) (by decide) x_told_sets.1.1 (nm "no")))) (fun hb138 => (je_bin (jo_n rfl) (jo_e je_c) (hr_n rfl) hr_v (o_ix21 eNm (eTp eInt) _))) (fun hb138 => (je_s rfl))) rfl) (fun x_own h_x_own => (jf_jl0 (k := fun x_u_2 : Unit => x_row_p.2) (jl_for (Γh := fun x_s_4 : Unit => [.s sc, .o (encW ds x_row_p.2), .s (eInt x_y), .s (eInt x_many_p.1), .s ((eTp (eTp eInt)) x_handles_p.1), .s ((eTp eInt) x_state_p.1), .u, .s ((eTp eInt) x_row_p.1), .s ((eP2 eNm (eTp eInt)) x_told_sets.1), .s ((eLs (eTp eInt)) x_told_sets.2), .o ((eLs eInt) x_spare), .s ((eP2 eInt (eTp eInt)) x_best_3), .s ((eTp eInt) x_own), .u, .u, .u, .u, .u, .u, .u, .u]) (Γg := fun (x_s_4 : Unit) (x_y_10 : D) => [.s sc, .o (encW ds x_row_p.2), .s (eInt x_y), .s (eInt x_many_p.1), .s ((eTp (eTp eInt)) x_handles_p.1), .s ((eTp eInt) x_state_p.1), .u, .s ((eTp eInt) x_row_p.1), .s ((eP2 eNm (eTp eInt)) x_told_sets.1), .s ((eLs (eTp eInt)) x_told_sets.2), .o ((eLs eInt) x_spare), .s ((eP2 eInt (eTp eInt)) x_best_3), .s ((eTp eInt) x_own), .u, .u, .s (eD x_y_10), .u, .u, .u, .u, .u]) (st := (v_law_L4 x_handles_p x_state_p)) (G := (g_law_L4 x_handles_p x_state_p)) (s0 := ()) (ji_e (je_args (ja_c (je_s rfl) (ja_c (je_un (jo_n rfl) (hr_n rfl) (o_revT eInt _)) (ja_c (je_un (jo_n rfl) (hr_n rfl) (o_lstT eInt _)) (ja_c je_c (ja_c (je_args ja_n (o_tupS eInt ([] : (List Int)))) (ja_c (je_sl (jo_n rfl) (jp_so (jo_e je_c) hr_v) jp_no (hr_n rfl) (o_slT eInt _ _ _)) (ja_c (je_bin (jo_n rfl) (jo_e (je_args (ja_c je_c ja_n) (o_tupS eInt ([3] : (List Int))))) (hr_n rfl) hr_v (o_addT eInt h_x_own.1)) (ja_c (je_bin (jo_n rfl) (jo_e (je_sl (jo_n rfl) (jp_so (jo_e (je_un (jo_e je_c) hr_v (o_negI _))) hr_v) jp_no (hr_n rfl) (o_slT eInt _ _ _))) (hr_n rfl) hr_v (o_addT eInt h_x_own.2.1)) (ja_c (je_args (ja_c je_c ja_n) (o_tupS eBool ([true] : (List Bool)))) (ja_c (je_args (ja_c (je_un (jo_e je_c) hr_v (o_negI _)) ja_n) (o_tupS eInt ([(-1)] : (List Int)))) (ja_c (je_args (ja_c je_c (ja_c je_c ja_n)) (o_tup2 eInt eInt 0 1)) (ja_c (je_args (ja_c je_c ja_n) (o_tupS eNm ([(nm "a")] : (List Nm)))) (ja_c (je_cast rgt_eq (je_trg (jrg_1 (je_s rfl)) h_x_own.2.2.1)) (ja_c (je_args (ja_c je_c (ja_c je_c ja_n)) (o_tup2 eInt (eOp eInt) 0 none)) ja_n)))))))))))))) (o_tupS eD ([((eTp eInt) x_own), ((eTp eInt) x_own.reverse), ((eLs eInt) x_own), ((eOp eInt) none), ((eTp eInt) ([])), ((eTp eInt) (cutD x_own (some 1) none)), ((eTp eInt) (x_own ++ ([3]))), ((eTp eInt) (x_own ++ (cutD x_own (some (-1)) none))), ((eTp eBool) ([true])), ((eTp eInt) ([(-1)])), ((eP2 eInt eInt) (0, 1)), ((eTp eNm) ([(nm "a")])), ((eTp eInt) (rngT 0 x_many_p.1)), ((eP2 eInt (eOp eInt)) (0, none))] : (List D)))) (it_T eD _)) (.c .k (.c .k (.c .k (.c .k (.c .k (.c .k (.c .k (.c .k (.c .k (.c .k (.c .k (.c .k (.c .k (.c .k (.c .k (.c .k (.c .k (.c .k (.c .k (.c .k (.c .k .nil))))))))))))))))))))) (fun _ _ => (jg_n rfl)) (fun x_s_4 x_y_10 h => c_law_L4 x_handles_p x_state_p ds sc x_y x_many_p x_row_p x_told_sets x_spare x_best_3 x_own x_s_4 x_y_10 h) h_x_own.2.2.2) (fun _ => (.c .k (.c .k (.c .su (.c .su (.c .su (.c .su (.c .k (.c .su (.c .su (.c .su (.c .oa (.c .su (.c .su (.c .k (.c .k (.c .k (.c .k (.c .k (.c .k (.c .k (.c .k .nil)))))))))))))))))))))))) h)
theorem c_law_R2 (x_many_p : (Int) × Nat) (x_handles_p : ((List (List Int))) × Nat) (x_state_p : ((List Int)) × Nat) (x_row_p : ((List Int)) × Nat) (x_told_sets : (Nm × (List Int)) × (List (List Int))) (x_best_3 : (Int × (List Int))) (ds : List Int) (sc : D) (x_s : Nat) (x_y : Int) (x_spare : (List Int)) (h : g_law_R2 x_many_p x_handles_p x_state_p x_row_p x_told_sets x_best_3) : JF eBool (pr0 : Bool → Env → Prop) (fun x_s : Nat => [.s sc, .o (encW ds x_s), .u, .u, .u, .u, .u, .u, .u, .u, .a, .u, .u, .u, .u, .u, .u, .u, .u, .u, .u]) [.s sc, .o (encW ds x_row_p.2), .s (eInt x_y), .s (eInt x_many_p.1), .s ((eTp (eTp eInt)) x_handles_p.1), .s ((eTp eInt) x_state_p.1), .u, .s ((eTp eInt) x_row_p.1), .s ((eP2 eNm (eTp eInt)) x_told_sets.1), .s ((eLs (eTp eInt)) x_told_sets.2), .o ((eLs eInt) x_spare), .s ((eP2 eInt (eTp eInt)) x_best_3), .u, .u, .u, .u, .u, .u, .u, .u, .u] law_R2 (v_law_R2 x_many_p x_handles_p x_state_p x_row_p x_told_sets x_best_3) := by
  unfold g_law_R2 at h
  unfold v_law_R2
  exact (jf_ifT (jt_c (je_bin (jo_e (je_args (ja_c (je_s rfl) (ja_c (je_s rfl) ja_n)) (c_worst_state x_many_p.1 x_handles_p.1 h.1))) (jo_n rfl) hr_v (hr_n rfl) (o_ne (e := (eP2 eInt (eTp eInt))) (by decide) (v_worst_state x_many_p.1 x_handles_p.1) x_best_3))) (fun hb153 => (.rt (jr_ret je_c pr_0))) (fun hb153 => (jf_seq jn_next (c_law_R1 x_many_p x_handles_p x_state_p x_row_p x_told_sets ds sc x_s x_y x_spare x_best_3 (h.2 hb153)))))
theorem c_law_R3 (x_many_p : (Int) × Nat) (x_handles_p : ((List (List Int))) × Nat) (x_state_p : ((List Int)) × Nat) (x_row_p : ((List Int)) × Nat) (x_told_sets : (Nm × (List Int)) × (List (List Int))) (x_best : (Int × (List Int))) (ds : List Int) (sc : D) (x_s : Nat) (x_y : Int) (x_spare : (List Int)) (h : g_law_R3 x_many_p x_handles_p x_state_p x_row_p x_told_sets x_best) : JF eBool (pr0 : Bool → Env → Prop) (fun x_s : Nat => [.s sc, .o (encW ds x_s), .u, .u, .u, .u, .u, .u, .u, .u, .a, .u, .u, .u, .u, .u, .u, .u, .u, .u, .u]) [.s sc, .o (encW ds x_row_p.2), .s (eInt x_y), .s (eInt x_many_p.1), .s ((eTp (eTp eInt)) x_handles_p.1), .s ((eTp eInt) x_state_p.1), .u, .s ((eTp eInt) x_row_p.1), .s ((eP2 eNm (eTp eInt)) x_told_sets.1), .s ((eLs (eTp eInt)) x_told_sets.2), .o ((eLs eInt) x_spare), .s ((eP2 eInt (eTp eInt)) x_best), .u, .u, .u, .u, .u, .u, .u, .u, .u] law_R3 (v_law_R3 x_many_p x_handles_p x_state_p x_row_p x_told_sets x_best) := by
  unfold g_law_R3 at h
  unfold v_law_R3
  exact (jf_bnd (Γ1 := fun x_best_3 : (Int × (List Int)) => [.s sc, .o (encW ds x_row_p.2), .s (eInt x_y), .s (eInt x_many_p.1), .s ((eTp (eTp eInt)) x_handles_p.1), .s ((eTp eInt) x_state_p.1), .u, .s ((eTp eInt) x_row_p.1), .s ((eP2 eNm (eTp eInt)) x_told_sets.1), .s ((eLs (eTp eInt)) x_told_sets.2), .o ((eLs eInt) x_spare), .s ((eP2 eInt (eTp eInt)) x_best_3), .u, .u, .u, .u, .u, .u, .u, .u, .u]) (jn_for (Γh := fun x_s_3 : (Int × (List Int)) => [.s sc, .o (encW ds x_row_p.2), .s (eInt x_y), .s (eInt x_many_p.1), .s ((eTp (eTp eInt)) x_handles_p.1), .s ((eTp eInt) x_state_p.1), .u, .s ((eTp eInt) x_row_p.1), .s ((eP2 eNm (eTp eInt)) x_told_sets.1), .s ((eLs (eTp eInt)) x_told_sets.2), .o ((eLs eInt) x_spare), .s ((eP2 eInt (eTp eInt)) x_s_3), .u, .u, .u, .u, .u, .u, .u, .u, .u]) (Γg := fun (x_s_3 : (Int × (List Int))) (x_y_9 : (List Int)) => [.s sc, .o (encW ds x_row_p.2), .s (eInt x_y), .s (eInt x_many_p.1), .s ((eTp (eTp eInt)) x_handles_p.1), .s ((eTp eInt) x_state_p.1), .u, .s ((eTp eInt) x_row_p.1), .s ((eP2 eNm (eTp eInt)) x_told_sets.1), .s ((eLs (eTp eInt)) x_told_sets.2), .o ((eLs eInt) x_spare), .s ((eP2 eInt (eTp eInt)) x_s_3), .s ((eTp eInt) x_y_9), .u, .u, .u, .u, .u, .u, .u, .u]) (st := (v_law_L3 x_handles_p)) (G := (g_law_L3 x_handles_p)) (s0 := x_best) (ji_e (je_args (ja_c (je_cast rgt_eq (je_trg (jrg_1 (je_s rfl)) h.1)) ja_n) (c__law_sets (rngT 0 x_many_p.1) h.2.1)) (it_L (eTp eInt) _)) (.c .k (.c .k (.c .k (.c .k (.c .k (.c .k (.c .k (.c .k (.c .k (.c .k (.c .k (.c .k (.c .k (.c .k (.c .k (.c .k (.c .k (.c .k (.c .k (.c .k (.c .k .nil))))))))))))))))))))) (fun _ _ => (jg_n rfl)) (fun x_s_3 x_y_9 h => c_law_L3 x_handles_p ds sc x_y x_many_p x_state_p x_row_p x_told_sets x_spare x_s_3 x_y_9 h) h.2.2.1) (fun x_best_3 h_x_best_3 => (c_law_R2 x_many_p x_handles_p x_state_p x_row_p x_told_sets x_best_3 ds sc x_s x_y x_spare h_x_best_3)) h.2.2.2)
theorem c_law_R4 (x_many_p : (Int) × Nat) (x_handles_p : ((List (List Int))) × Nat) (x_state_p : ((List Int)) × Nat) (x_row_p : ((List Int)) × Nat) (x_told_sets : (Nm × (List Int)) × (List (List Int))) (ds : List Int) (sc : D) (x_s : Nat) (x_y : Int) (x_spare : (List Int)) (h : g_law_R4 x_many_p x_handles_p x_state_p x_row_p x_told_sets) : JF eBool (pr0 : Bool → Env → Prop) (fun x_s : Nat => [.s sc, .o (encW ds x_s), .u, .u, .u, .u, .u, .u, .u, .u, .a, .u, .u, .u, .u, .u, .u, .u, .u, .u, .u]) [.s sc, .o (encW ds x_row_p.2), .s (eInt x_y), .s (eInt x_many_p.1), .s ((eTp (eTp eInt)) x_handles_p.1), .s ((eTp eInt) x_state_p.1), .u, .s ((eTp eInt) x_row_p.1), .s ((eP2 eNm (eTp eInt)) x_told_sets.1), .s ((eLs (eTp eInt)) x_told_sets.2), .o ((eLs eInt) x_spare), .u, .u, .u, .u, .u, .u, .u, .u, .u, .u] law_R4 (v_law_R4 x_many_p x_handles_p x_state_p x_row_p x_told_sets) := by
  unfold g_law_R4 at h
  unfold v_law_R4
  exact (jf_bnd (Γ1 := fun x_best : (Int × (List Int)) => [.s sc, .o (encW ds x_row_p.2), .s (eInt x_y), .s (eInt x_many_p.1), .s ((eTp (eTp eInt)) x_handles_p.1), .s ((eTp eInt) x_state_p.1), .u, .s ((eTp eInt) x_row_p.1), .s ((eP2 eNm (eTp eInt)) x_told_sets.1), .s ((eLs (eTp eInt)) x_told_sets.2), .o ((eLs eInt) x_spare), .s ((eP2 eInt (eTp eInt)) x_best), .u, .u, .u, .u, .u, .u, .u, .u, .u]) (jn_set (je_args (ja_c je_c (ja_c (je_args ja_n (o_tupS eInt ([] : (List Int)))) ja_n)) (o_tup2 eInt (eTp eInt) 0 ([]))) rfl) (fun x_best h_x_best => (c_law_R3 x_many_p x_handles_p x_state_p x_row_p x_told_sets x_best ds sc x_s x_y x_spare h_x_best)) h)
theorem c_law_R5 (x_many_p : (Int) × Nat) (x_handles_p : ((List (List Int))) × Nat) (x_state_p : ((List Int)) × Nat) (x_row_p : ((List Int)) × Nat) (x_told_sets : (Nm × (List Int)) × (List (List Int))) (x_spare : (List Int)) (ds : List Int) (sc : D) (x_s : Nat) (x_y : Int) (h : g_law_R5 x_many_p x_handles_p x_state_p x_row_p x_told_sets x_spare) : JF eBool (pr0 : Bool → Env → Prop) (fun x_s : Nat => [.s sc, .o (encW ds x_s), .u, .u, .u, .u, .u, .u, .u, .u, .a, .u, .u, .u, .u, .u, .u, .u, .u, .u, .u]) [.s sc, .o (encW ds x_row_p.2), .s (eInt x_y), .s (eInt x_many_p.1), .s ((eTp (eTp eInt)) x_handles_p.1), .s ((eTp eInt) x_state_p.1), .u, .s ((eTp eInt) x_row_p.1), .s ((eP2 eNm (eTp eInt)) x_told_sets.1), .s ((eLs (eTp eInt)) x_told_sets.2), .o ((eLs eInt) x_spare), .u, .u, .u, .u, .u, .u, .u, .u, .u, .u] law_R5 (v_law_R5 x_many_p x_handles_p x_state_p x_row_p x_told_sets x_spare) := by
  unfold g_law_R5 at h
  unfold v_law_R5
  exact (jf_ifT (jt_c (je_bin (jo_e (je_args (ja_c (je_s rfl) ja_n) (c_spare_handles x_handles_p.1 h.1))) (jo_e (je_un (jo_n rfl) (hr_n rfl) (o_tupL eInt _))) hr_v hr_v (o_ne (e := (eTp eInt)) (by decide) (v_spare_handles x_handles_p.1) x_spare))) (fun hb154 => (.rt (jr_ret je_c pr_0))) (fun hb154 => (jf_seq jn_next (c_law_R4 x_many_p x_handles_p x_state_p x_row_p x_told_sets ds sc x_s x_y x_spare (h.2 hb154)))))
theorem c_law_R6 (x_many_p : (Int) × Nat) (x_handles_p : ((List (List Int))) × Nat) (x_state_p : ((List Int)) × Nat) (x_row_p : ((List Int)) × Nat) (x_told_sets : (Nm × (List Int)) × (List (List Int))) (ds : List Int) (sc : D) (x_s : Nat) (x_y : Int) (h : g_law_R6 x_many_p x_handles_p x_state_p x_row_p x_told_sets) : JF eBool (pr0 : Bool → Env → Prop) (fun x_s : Nat => [.s sc, .o (encW ds x_s), .u, .u, .u, .u, .u, .u, .u, .u, .a, .u, .u, .u, .u, .u, .u, .u, .u, .u, .u]) [.s sc, .o (encW ds x_row_p.2), .s (eInt x_y), .s (eInt x_many_p.1), .s ((eTp (eTp eInt)) x_handles_p.1), .s ((eTp eInt) x_state_p.1), .u, .s ((eTp eInt) x_row_p.1), .s ((eP2 eNm (eTp eInt)) x_told_sets.1), .s ((eLs (eTp eInt)) x_told_sets.2), .a, .u, .u, .u, .u, .u, .u, .u, .u, .u, .u] law_R6 (v_law_R6 x_many_p x_handles_p x_state_p x_row_p x_told_sets) := by
  unfold g_law_R6 at h
  unfold v_law_R6
  exact (jf_bnd (Γ1 := fun x_spare : (List Int) => [.s sc, .o (encW ds x_row_p.2), .s (eInt x_y), .s (eInt x_many_p.1), .s ((eTp (eTp eInt)) x_handles_p.1), .s ((eTp eInt) x_state_p.1), .u, .s ((eTp eInt) x_row_p.1), .s ((eP2 eNm (eTp eInt)) x_told_sets.1), .s ((eLs (eTp eInt)) x_told_sets.2), .o ((eLs eInt) x_spare), .u, .u, .u, .u, .u, .u, .u, .u, .u, .u]) (jn_setO (je_lc (eo := eInt) (Γx := fun x_y_8 : Int => [.s sc, .o (encW ds x_row_p.2), .s (eInt x_y), .s (eInt x_many_p.1), .s ((eTp (eTp eInt)) x_handles_p.1), .s ((eTp eInt) x_state_p.1), .u, .s ((eTp eInt) x_row_p.1), .s ((eP2 eNm (eTp eInt)) x_told_sets.1), .s ((eLs (eTp eInt)) x_told_sets.2), .a, .u, .u, .u, .u, .u, .u, .u, .s (eInt x_y_8), .u, .u]) (ji_a (ja_c (je_un (jo_n rfl) (hr_n rfl) (o_lenT (eTp eInt) _)) ja_n) (it_r1 h.1)) rfl (fun _ => (jg_n rfl)) (fun _ => rfl) (fun _ => rfl) (fun x_y_8 hb132 => (jt_c (je_bin (jo_e (je_bin (jo_e (je_args (ja_c (je_bin (jo_n rfl) (jo_n rfl) (hr_n rfl) (hr_n rfl) (o_ixT (eTp eInt) (h.2.1 x_y_8 hb132).1)) (ja_c (je_bin (jo_e (je_sl (jo_n rfl) jp_no (jp_so (jo_n rfl) (hr_n rfl)) (hr_n rfl) (o_slT (eTp eInt) _ _ _))) (jo_e (je_sl (jo_n rfl) (jp_so (jo_e (je_bin (jo_n rfl) (jo_e je_c) (hr_n rfl) hr_v (o_addI _ _))) hr_v) jp_no (hr_n rfl) (o_slT (eTp eInt) _ _ _))) hr_v hr_v (o_addT (eTp eInt) (h.2.1 x_y_8 hb132).2.1)) ja_n)) (c__law_opened (ixT x_handles_p.1 x_y_8) ((cutD x_handles_p.1 none (some x_y_8)) ++ (cutD x_handles_p.1 (some (x_y_8 + 1)) none)) (h.2.1 x_y_8 hb132).2.2))) (jo_e je_c) hr_v hr_v (o_ix20 eNm (eTp eInt) _))) (jo_e je_c) hr_v hr_v (o_eq (e := eNm) (by decide) ((v__law_opened (ixT x_handles_p.1 x_y_8) ((cutD x_handles_p.1 none (some x_y_8)) ++ (cutD x_handles_p.1 (some (x_y_8 + 1)) none))).1) (nm "yes"))))) (fun x_y_8 hb132 hb133 => (je_s rfl)) h.2.2.1) rfl) (fun x_spare h_x_spare => (c_law_R5 x_many_p x_handles_p x_state_p x_row_p x_told_sets x_spare ds sc x_s x_y h_x_spare)) h.2.2.2)
theorem c_law_R7 (x_many_p : (Int) × Nat) (x_handles_p : ((List (List Int))) × Nat) (x_state_p : ((List Int)) × Nat) (x_row_p : ((List Int)) × Nat) (x_told_sets : (Nm × (List Int)) × (List (List Int))) (ds : List Int) (sc : D) (x_s : Nat) (x_y : Int) (h : g_law_R7 x_many_p x_handles_p x_state_p x_row_p x_told_sets) : JF eBool (pr0 : Bool → Env → Prop) (fun x_s : Nat => [.s sc, .o (encW ds x_s), .u, .u, .u, .u, .u, .u, .u, .u, .a, .u, .u, .u, .u, .u, .u, .u, .u, .u, .u]) [.s sc, .o (encW ds x_row_p.2), .s (eInt x_y), .s (eInt x_many_p.1), .s ((eTp (eTp eInt)) x_handles_p.1), .s ((eTp eInt) x_state_p.1), .u, .s ((eTp eInt) x_row_p.1), .s ((eP2 eNm (eTp eInt)) x_told_sets.1), .s ((eLs (eTp eInt)) x_told_sets.2), .a, .u, .u, .u, .u, .u, .u, .u, .u, .u, .u] law_R7 (v_law_R7 x_many_p x_handles_p x_state_p x_row_p x_told_sets) := by
  unfold g_law_R7 at h
  unfold v_law_R7
  exact (jf_ifT (jt_or (jt_c (je_bin (jo_n rfl) (jo_e (je_args (ja_c (je_s rfl) (ja_c (je_s rfl) ja_n)) (c__law_opened x_state_p.1 x_handles_p.1 h.1))) (hr_n rfl) hr_v (o_ne (e := (eP2 eNm (eTp eInt))) (by decide) x_told_sets.1 (v__law_opened x_state_p.1 x_handles_p.1)))) (fun hb131 => (jt_c (je_bin (jo_e (je_args (ja_c (je_s rfl) (ja_c (je_s rfl) ja_n)) (c_states_from x_state_p.1 x_handles_p.1 (h.2.1 hb131).1))) (jo_e (je_un (jo_e (je_lc0 (eo := (eTp eInt)) (Γx := fun x_y_7 : (List Int) => [.s sc, .o (encW ds x_row_p.2), .s (eInt x_y), .s (eInt x_many_p.1), .s ((eTp (eTp eInt)) x_handles_p.1), .s ((eTp eInt) x_state_p.1), .u, .s ((eTp eInt) x_row_p.1), .s ((eP2 eNm (eTp eInt)) x_told_sets.1), .s ((eLs (eTp eInt)) x_told_sets.2), .a, .u, .u, .u, .u, .u, .u, .u, .u, .u, .s ((eTp eInt) x_y_7)]) (ji_e (je_s rfl) (it_L (eTp eInt) _)) rfl (fun _ => (jg_n rfl)) (fun _ => rfl) (fun _ => rfl) (fun x_y_7 hb127 => (je_args (ja_c (je_s rfl) (ja_c (je_s rfl) (ja_c (je_s rfl) ja_n))) (c__law_after x_state_p.1 x_handles_p.1 x_y_7 ((h.2.1 hb131).2.1 x_y_7 hb127)))) (h.2.1 hb131).2.2.1)) hr_v (o_lenSetTs (h.2.1 hb131).2.2.2))) hr_v hr_v (o_ne (e := eInt) (by decide) (v_states_from x_state_p.1 x_handles_p.1) ((ddp (x_told_sets.2.map (fun x_y_7 : (List Int) => (v__law_after x_state_p.1 x_handles_p.1 x_y_7)))).length : Int)))))) (fun hb155 => (.rt (jr_ret je_c pr_0))) (fun hb155 => (jf_seq jn_next (c_law_R6 x_many_p x_handles_p x_state_p x_row_p x_told_sets ds sc x_s x_y (h.2.2 hb155)))))
theorem c_law_R8 (x_many_p : (Int) × Nat) (x_handles_p : ((List (List Int))) × Nat) (x_state_p : ((List Int)) × Nat) (x_row_p : ((List Int)) × Nat) (ds : List Int) (sc : D) (x_s : Nat) (x_y : Int) (h : g_law_R8 x_many_p x_handles_p x_state_p x_row_p) : JF eBool (pr0 : Bool → Env → Prop) (fun x_s : Nat => [.s sc, .o (encW ds x_s), .u, .u, .u, .u, .u, .u, .u, .u, .a, .u, .u, .u, .u, .u, .u, .u, .u, .u, .u]) [.s sc, .o (encW ds x_row_p.2), .s (eInt x_y), .s (eInt x_many_p.1), .s ((eTp (eTp eInt)) x_handles_p.1), .s ((eTp eInt) x_state_p.1), .u, .s ((eTp eInt) x_row_p.1), .u, .u, .a, .u, .u, .u, .u, .u, .u, .u, .u, .u, .u] law_R8 (v_law_R8 x_many_p x_handles_p x_state_p x_row_p) := by
  unfold g_law_R8 at h
  unfold v_law_R8
  exact (jf_bnd (Γ1 := fun x_told_sets : (Nm × (List Int)) × (List (List Int)) => [.s sc, .o (encW ds x_row_p.2), .s (eInt x_y), .s (eInt x_many_p.1), .s ((eTp (eTp eInt)) x_handles_p.1), .s ((eTp eInt) x_state_p.1), .u, .s ((eTp eInt) x_row_p.1), .s ((eP2 eNm (eTp eInt)) x_told_sets.1), .s ((eLs (eTp eInt)) x_told_sets.2), .a, .u, .u, .u, .u, .u, .u, .u, .u, .u, .u]) (jn_par (ja_c (je_args (ja_c (je_s rfl) (ja_c (je_s rfl) ja_n)) (c_opened x_state_p.1 x_handles_p.1 h.1)) (ja_c (je_args (ja_c (je_cast rgt_eq (je_trg (jrg_1 (je_un (jo_n rfl) (hr_n rfl) (o_lenT (eTp eInt) _))) h.2.1)) ja_n) (c__law_sets (rngT 0 (x_handles_p.1.length : Int)) h.2.2.1)) ja_n)) rfl rfl) (fun x_told_sets h_x_told_sets => (c_law_R7 x_many_p x_handles_p x_state_p x_row_p x_told_sets ds sc x_s x_y h_x_told_sets)) h.2.2.2)
theorem c_law_R9 (x_many_p : (Int) × Nat) (x_handles_p : ((List (List Int))) × Nat) (x_state_p : ((List Int)) × Nat) (x_row_p : ((List Int)) × Nat) (ds : List Int) (sc : D) (x_s : Nat) (x_y : Int) (h : g_law_R9 x_many_p x_handles_p x_state_p x_row_p) : JF eBool (pr0 : Bool → Env → Prop) (fun x_s : Nat => [.s sc, .o (encW ds x_s), .u, .u, .u, .u, .u, .u, .u, .u, .a, .u, .u, .u, .u, .u, .u, .u, .u, .u, .u]) [.s sc, .o (encW ds x_row_p.2), .s (eInt x_y), .s (eInt x_many_p.1), .s ((eTp (eTp eInt)) x_handles_p.1), .s ((eTp eInt) x_state_p.1), .u, .s ((eTp eInt) x_row_p.1), .u, .u, .a, .u, .u, .u, .u, .u, .u, .u, .u, .u, .u] law_R9 (v_law_R9 x_many_p x_handles_p x_state_p x_row_p) := by
  unfold g_law_R9 at h
  unfold v_law_R9
  exact (jf_ifT (jt_c (je_bin (jo_e (je_args (ja_c (je_s rfl) (ja_c (je_s rfl) (ja_c (je_s rfl) ja_n))) (c_after x_state_p.1 x_handles_p.1 x_row_p.1 h.1))) (jo_e (je_args (ja_c (je_s rfl) (ja_c (je_s rfl) (ja_c (je_s rfl) ja_n))) (c__law_after x_state_p.1 x_handles_p.1 x_row_p.1 h.2.1))) hr_v hr_v (o_ne (e := (eTp eInt)) (by decide) (v_after x_state_p.1 x_handles_p.1 x_row_p.1) (v__law_after x_state_p.1 x_handles_p.1 x_row_p.1)))) (fun hb156 => (.rt (jr_ret je_c pr_0))) (fun hb156 => (jf_seq jn_next (c_law_R8 x_many_p x_handles_p x_state_p x_row_p ds sc x_s x_y (h.2.2 hb156)))))
theorem c_law_R10 (ds : List Int) (x_many_p : (Int) × Nat) (x_handles_p : ((List (List Int))) × Nat) (x_state_p : ((List Int)) × Nat) (sc : D) (x_s : Nat) (x_y : Int) (h : g_law_R10 ds x_many_p x_handles_p x_state_p) : JF eBool (pr0 : Bool → Env → Prop) (fun x_s : Nat => [.s sc, .o (encW ds x_s), .u, .u, .u, .u, .u, .u, .u, .u, .a, .u, .u, .u, .u, .u, .u, .u, .u, .u, .u]) [.s sc, .o (encW ds x_state_p.2), .s (eInt x_y), .s (eInt x_many_p.1), .s ((eTp (eTp eInt)) x_handles_p.1), .s ((eTp eInt) x_state_p.1), .u, .u, .u, .u, .a, .u, .u, .u, .u, .u, .u, .u, .u, .u, .u] law_R10 (v_law_R10 ds x_many_p x_handles_p x_state_p) := by
  unfold g_law_R10 at h
  unfold v_law_R10
  exact (jf_bnd (Γ1 := fun x_row_p : ((List Int)) × Nat => [.s sc, .o (encW ds x_row_p.2), .s (eInt x_y), .s (eInt x_many_p.1), .s ((eTp (eTp eInt)) x_handles_p.1), .s ((eTp eInt) x_state_p.1), .u, .s ((eTp eInt) x_row_p.1), .u, .u, .a, .u, .u, .u, .u, .u, .u, .u, .u, .u, .u]) (jn_set (je_ifW (en := (eTp eInt)) (x := (lcS (fun (x_a_4 : Nat) (x_y_6 : Int) => cond true (some (nxt ds x_a_4 (x_handles_p.1.length : Int)), x_a_4 + 1) (none, x_a_4)) ((x_state_p.2) + 1) (rngT 0 (nxt ds x_state_p.2 5))).1) (y := []) (Γf := fun a_ : Nat => [.s sc, .o (encW ds a_), .s (eInt x_y), .s (eInt x_many_p.1), .s ((eTp (eTp eInt)) x_handles_p.1), .s ((eTp eInt) x_state_p.1), .u, .u, .u, .u, .a, .u, .u, .u, .u, .u, .u, .u, .u, .u, .u]) (pa := (lcS (fun (x_a_4 : Nat) (x_y_6 : Int) => cond true (some (nxt ds x_a_4 (x_handles_p.1.length : Int)), x_a_4 + 1) (none, x_a_4)) ((x_state_p.2) + 1) (rngT 0 (nxt ds x_state_p.2 5))).2) (pb := x_state_p.2) (jt_c (je_bin (jo_n rfl) (jo_e (je_args ja_n (o_tupS (eTp eInt) ([] : (List (List Int)))))) (hr_n rfl) hr_v (o_ne (e := (eTp (eTp eInt))) (by decide) x_handles_p.1 ([])))) (fun hb126 => (je_un (jo_e (je_lcS (eo := eInt) (p := fun (x_a_4 : Nat) (x_y_6 : Int) => true) (f := fun (x_a_4 : Nat) (x_y_6 : Int) => (nxt ds x_a_4 (x_handles_p.1.length : Int))) (n1 := fun (x_a_4 : Nat) (x_y_6 : Int) => x_a_4) (n2 := fun (x_a_4 : Nat) (x_y_6 : Int) => x_a_4 + 1) (G := (fun (x_a_4 : Nat) (x_y_6 : Int) => (true = true → (x_handles_p.1.length : Int) ≠ 0))) (Γw := fun x_a_4 : Nat => [.s sc, .o (encW ds x_a_4), .s (eInt x_y), .s (eInt x_many_p.1), .s ((eTp (eTp eInt)) x_handles_p.1), .s ((eTp eInt) x_state_p.1), .u, .u, .u, .u, .a, .u, .u, .u, .u, .u, .u, .u, .u, .u, .u]) (Γx := fun (x_a_4 : Nat) (x_y_6 : Int) => [.s sc, .o (encW ds x_a_4), .s (eInt x_y), .s (eInt x_many_p.1), .s ((eTp (eTp eInt)) x_handles_p.1), .s ((eTp eInt) x_state_p.1), .u, .u, .u, .u, .a, .u, .u, .u, .u, .u, .u, .u, .s (eInt x_y_6), .u, .u]) (ji_a (ja_c (je_io rfl (ja_c je_c ja_n) rfl (o_next (by decide))) ja_n) (it_r1 (h.1 hb126).1)) rfl (fun _ _ => (jg_n rfl)) (fun _ _ => rfl) (fun _ _ => rfl) (fun _ _ => ⟨rfl, fun v hv => by simp only [List.mem_cons, List.not_mem_nil, or_false] at hv; (rcases hv with rfl) <;> rfl⟩) (fun x_a_4 x_y_6 hb124 => jt_yes) (fun x_a_4 x_y_6 hb124 hb125 => (je_io rfl (ja_c (je_un (jo_n rfl) (hr_n rfl) (o_lenT (eTp eInt) _)) ja_n) rfl (o_next (hb124 hb125)))) (h.1 hb126).2.1 (h.1 hb126).2.2)) hr_v (o_tupL eInt _))) (fun hb126 => (je_args ja_n (o_tupS eInt ([] : (List Int)))))) rfl) (fun x_row_p h_x_row_p => (c_law_R9 x_many_p x_handles_p x_state_p x_row_p ds sc x_s x_y h_x_row_p)) h.2)
theorem c_law_R11 (ds : List Int) (x_many_p : (Int) × Nat) (x_handles_p : ((List (List Int))) × Nat) (x_state_p : ((List Int)) × Nat) (sc : D) (x_s : Nat) (x_y : Int) (h : g_law_R11 ds x_many_p x_handles_p x_state_p) : JF eBool (pr0 : Bool → Env → Prop) (fun x_s : Nat => [.s sc, .o (encW ds x_s), .u, .u, .u, .u, .u, .u, .u, .u, .a, .u, .u, .u, .u, .u, .u, .u, .u, .u, .u]) [.s sc, .o (encW ds x_state_p.2), .s (eInt x_y), .s (eInt x_many_p.1), .s ((eTp (eTp eInt)) x_handles_p.1), .s ((eTp eInt) x_state_p.1), .u, .u, .u, .u, .a, .u, .u, .u, .u, .u, .u, .u, .u, .u, .u] law_R11 (v_law_R11 ds x_many_p x_handles_p x_state_p) := by
  unfold g_law_R11 at h
  unfold v_law_R11
  exact (jf_jl (G := (fun x_u : Unit => g_law_R10 ds x_many_p x_handles_p x_state_p)) (jl_for (Γh := fun x_s_2 : Unit => [.s sc, .o (encW ds x_state_p.2), .s (eInt x_y), .s (eInt x_many_p.1), .s ((eTp (eTp eInt)) x_handles_p.1), .s ((eTp eInt) x_state_p.1), .u, .u, .u, .u, .a, .u, .u, .u, .u, .u, .u, .u, .u, .u, .u]) (Γg := fun (x_s_2 : Unit) (x_y_5 : (List Int)) => [.s sc, .o (encW ds x_state_p.2), .s (eInt x_y), .s (eInt x_many_p.1), .s ((eTp (eTp eInt)) x_handles_p.1), .s ((eTp eInt) x_state_p.1), .s ((eTp eInt) x_y_5), .u, .u, .u, .a, .u, .u, .u, .u, .u, .u, .u, .u, .u, .u]) (st := (v_law_L2 x_state_p)) (G := (g_law_L2 x_state_p)) (s0 := ()) (ji_e (je_s rfl) (it_T (eTp eInt) _)) (.c .k (.c .k (.c .k (.c .k (.c .k (.c .k (.c .k (.c .k (.c .k (.c .k (.c .k (.c .k (.c .k (.c .k (.c .k (.c .k (.c .k (.c .k (.c .k (.c .k (.c .k .nil))))))))))))))))))))) (fun _ _ => (jg_n rfl)) (fun x_s_2 x_y_5 h => c_law_L2 x_state_p ds sc x_y x_many_p x_handles_p x_s_2 x_y_5 h) h.1) (fun x_u h => (c_law_R10 ds x_many_p x_handles_p x_state_p sc x_s x_y h)) h.2)
theorem c_law_R12 (ds : List Int) (x_many_p : (Int) × Nat) (x_handles_p : ((List (List Int))) × Nat) (sc : D) (x_s : Nat) (x_y : Int) (h : g_law_R12 ds x_many_p x_handles_p) : JF eBool (pr0 : Bool → Env → Prop) (fun x_s : Nat => [.s sc, .o (encW ds x_s), .u, .u, .u, .u, .u, .u, .u, .u, .a, .u, .u, .u, .u, .u, .u, .u, .u, .u, .u]) [.s sc, .o (encW ds x_handles_p.2), .s (eInt x_y), .s (eInt x_many_p.1), .s ((eTp (eTp eInt)) x_handles_p.1), .u, .u, .u, .u, .u, .a, .u, .u, .u, .u, .u, .u, .u, .u, .u, .u] law_R12 (v_law_R12 ds x_many_p x_handles_p) := by
  unfold g_law_R12 at h
  unfold v_law_R12
  exact (jf_bnd (Γ1 := fun x_state_p : ((List Int)) × Nat => [.s sc, .o (encW ds x_state_p.2), .s (eInt x_y), .s (eInt x_many_p.1), .s ((eTp (eTp eInt)) x_handles_p.1), .s ((eTp eInt) x_state_p.1), .u, .u, .u, .u, .a, .u, .u, .u, .u, .u, .u, .u, .u, .u, .u]) (jn_set (je_un (jo_e (je_lcS (eo := eInt) (p := fun (x_a_3 : Nat) (x_y_4 : Int) => (decide ((nxt ds x_a_3 2) = 0))) (f := fun (x_a_3 : Nat) (x_y_4 : Int) => x_y_4) (n1 := fun (x_a_3 : Nat) (x_y_4 : Int) => x_a_3 + 1) (n2 := fun (x_a_3 : Nat) (x_y_4 : Int) => x_a_3 + 1) (G := (fun (x_a_3 : Nat) (x_y_4 : Int) => True)) (Γw := fun x_a_3 : Nat => [.s sc, .o (encW ds x_a_3), .s (eInt x_y), .s (eInt x_many_p.1), .s ((eTp (eTp eInt)) x_handles_p.1), .u, .u, .u, .u, .u, .a, .u, .u, .u, .u, .u, .u, .u, .u, .u, .u]) (Γx := fun (x_a_3 : Nat) (x_y_4 : Int) => [.s sc, .o (encW ds x_a_3), .s (eInt x_y), .s (eInt x_many_p.1), .s ((eTp (eTp eInt)) x_handles_p.1), .u, .u, .u, .u, .u, .a, .u, .u, .u, .u, .u, .u, .u, .u, .s (eInt x_y_4), .u]) (ji_a (ja_c (je_s rfl) ja_n) (it_r1 h.1)) rfl (fun _ _ => (jg_n rfl)) (fun _ _ => rfl) (fun _ _ => rfl) (fun _ _ => ⟨rfl, fun v hv => by simp only [List.mem_cons, List.not_mem_nil, or_false] at hv; (rcases hv with rfl) <;> rfl⟩) (fun x_a_3 x_y_4 hb121 => (jt_c (je_bin (jo_e (je_io rfl (ja_c je_c ja_n) rfl (o_next (by decide)))) (jo_e je_c) hr_v hr_v (o_eq (e := eInt) (by decide) (nxt ds x_a_3 2) 0)))) (fun x_a_3 x_y_4 hb121 hb122 => (je_s rfl)) (okS_all (fun _ _ => trivial) _ _) h.2.1)) hr_v (o_tupL eInt _)) rfl) (fun x_state_p h_x_state_p => (c_law_R11 ds x_many_p x_handles_p x_state_p sc x_s x_y h_x_state_p)) h.2.2)
theorem c_law_R13 (ds : List Int) (x_many_p : (Int) × Nat) (sc : D) (x_s : Nat) (x_y : Int) (h : g_law_R13 ds x_many_p) : JF eBool (pr0 : Bool → Env → Prop) (fun x_s : Nat => [.s sc, .o (encW ds x_s), .u, .u, .u, .u, .u, .u, .u, .u, .a, .u, .u, .u, .u, .u, .u, .u, .u, .u, .u]) [.s sc, .o (encW ds x_many_p.2), .s (eInt x_y), .s (eInt x_many_p.1), .u, .u, .u, .u, .u, .u, .a, .u, .u, .u, .u, .u, .u, .u, .u, .u, .u] law_R13 (v_law_R13 ds x_many_p) := by
  unfold g_law_R13 at h
  unfold v_law_R13
  exact (jf_bnd (Γ1 := fun x_handles_p : ((List (List Int))) × Nat => [.s sc, .o (encW ds x_handles_p.2), .s (eInt x_y), .s (eInt x_many_p.1), .s ((eTp (eTp eInt)) x_handles_p.1), .u, .u, .u, .u, .u, .a, .u, .u, .u, .u, .u, .u, .u, .u, .u, .u]) (jn_set (je_un (jo_e (je_lcS (eo := (eTp eInt)) (p := fun (x_a : Nat) (x_y_2 : Int) => true) (f := fun (x_a : Nat) (x_y_2 : Int) => (lcS (fun (x_a_2 : Nat) (x_y_3 : Int) => cond (decide ((nxt ds x_a_2 2) = 0)) (some x_y_3, x_a_2 + 1) (none, x_a_2 + 1)) x_a (rngT 0 x_many_p.1)).1) (n1 := fun (x_a : Nat) (x_y_2 : Int) => x_a) (n2 := fun (x_a : Nat) (x_y_2 : Int) => (lcS (fun (x_a_2 : Nat) (x_y_3 : Int) => cond (decide ((nxt ds x_a_2 2) = 0)) (some x_y_3, x_a_2 + 1) (none, x_a_2 + 1)) x_a (rngT 0 x_many_p.1)).2) (G := (fun (x_a : Nat) (x_y_2 : Int) => (true = true → (bdI x_many_p.1 = true ∧ (rngT 0 x_many_p.1).length ≤ sizeLine)))) (Γw := fun x_a : Nat => [.s sc, .o (encW ds x_a), .s (eInt x_y), .s (eInt x_many_p.1), .u, .u, .u, .u, .u, .u, .a, .u, .u, .u, .u, .u, .u, .u, .u, .u, .u]) (Γx := fun (x_a : Nat) (x_y_2 : Int) => [.s sc, .o (encW ds x_a), .s (eInt x_y), .s (eInt x_many_p.1), .u, .u, .u, .u, .u, .u, .a, .u, .u, .u, .u, .u, .u, .u, .s (eInt x_y_2), .u, .u]) (ji_a (ja_c (je_io rfl (ja_c je_c ja_n) rfl (o_next (by decide))) ja_n) (it_r1 h.1)) rfl (fun _ _ => (jg_n rfl)) (fun _ _ => rfl) (fun _ _ => rfl) (fun _ _ => ⟨rfl, fun v hv => by simp only [List.mem_cons, List.not_mem_nil, or_false] at hv; (rcases hv with rfl) <;> rfl⟩) (fun x_a x_y_2 hb119 => jt_yes) (fun x_a x_y_2 hb119 hb120 => (je_un (jo_e (je_lcS (eo := eInt) (p := fun (x_a_2 : Nat) (x_y_3 : Int) => (decide ((nxt ds x_a_2 2) = 0))) (f := fun (x_a_2 : Nat) (x_y_3 : Int) => x_y_3) (n1 := fun (x_a_2 : Nat) (x_y_3 : Int) => x_a_2 + 1) (n2 := fun (x_a_2 : Nat) (x_y_3 : Int) => x_a_2 + 1) (G := (fun (x_a_2 : Nat) (x_y_3 : Int) => True)) (Γw := fun x_a_2 : Nat => [.s sc, .o (encW ds x_a_2), .s (eInt x_y), .s (eInt x_many_p.1), .u, .u, .u, .u, .u, .u, .a, .u, .u, .u, .u, .u, .u, .u, .s (eInt x_y_2), .u, .u]) (Γx := fun (x_a_2 : Nat) (x_y_3 : Int) => [.s sc, .o (encW ds x_a_2), .s (eInt x_y), .s (eInt x_many_p.1), .u, .u, .u, .u, .u, .u, .a, .u, .u, .u, .u, .u, .u, .u, .s (eInt x_y_2), .s (eInt x_y_3), .u]) (ji_a (ja_c (je_s rfl) ja_n) (it_r1 (hb119 hb120).1)) rfl (fun _ _ => (jg_n rfl)) (fun _ _ => rfl) (fun _ _ => rfl) (fun _ _ => ⟨rfl, fun v hv => by simp only [List.mem_cons, List.not_mem_nil, or_false] at hv; (rcases hv with rfl) <;> rfl⟩) (fun x_a_2 x_y_3 hb117 => (jt_c (je_bin (jo_e (je_io rfl (ja_c je_c ja_n) rfl (o_next (by decide)))) (jo_e je_c) hr_v hr_v (o_eq (e := eInt) (by decide) (nxt ds x_a_2 2) 0)))) (fun x_a_2 x_y_3 hb117 hb118 => (je_s rfl)) (okS_all (fun _ _ => trivial) _ _) (hb119 hb120).2)) hr_v (o_tupL eInt _))) h.2.1 h.2.2.1)) hr_v (o_tupL (eTp eInt) _)) rfl) (fun x_handles_p h_x_handles_p => (c_law_R12 ds x_many_p x_handles_p sc x_s x_y h_x_handles_p)) h.2.2.2)
theorem c_law_L1 (ds : List Int) (sc : D) (x_s : Nat) (x_y : Int) (h : g_law_L1 ds x_s x_y) : JF eBool (pr0 : Bool → Env → Prop) (fun x_s : Nat => [.s sc, .o (encW ds x_s), .u, .u, .u, .u, .u, .u, .u, .u, .a, .u, .u, .u, .u, .u, .u, .u, .u, .u, .u]) [.s sc, .o (encW ds x_s), .s (eInt x_y), .u, .u, .u, .u, .u, .u, .u, .a, .u, .u, .u, .u, .u, .u, .u, .u, .u, .u] law_L4 (v_law_L1 ds x_s x_y) := by
  unfold g_law_L1 at h
  unfold v_law_L1
  exact (jf_bnd (Γ1 := fun x_many_p : (Int) × Nat => [.s sc, .o (encW ds x_many_p.2), .s (eInt x_y), .s (eInt x_many_p.1), .u, .u, .u, .u, .u, .u, .a, .u, .u, .u, .u, .u, .u, .u, .u, .u, .u]) (jn_set (je_bin (jo_e je_c) (jo_e (je_io rfl (ja_c je_c ja_n) rfl (o_next (by decide)))) hr_v hr_v (o_addI _ _)) rfl) (fun x_many_p h_x_many_p => (c_law_R13 ds x_many_p sc x_s x_y h_x_many_p)) h)
theorem c_law (ds : List Int) (sc : D) (hd : m__law_draws [sc, .int 300] = some (.list (ds.map .int))) (h : g_law ds) : m_law [sc] = some (.bool (v_law ds)) := by
  unfold g_law at h
  unfold v_law
  exact run_jr (er := eBool) rfl (by exact jr_seq (Γ1 := [.s sc, .o (encW ds 0), .u, .u, .u, .u, .u, .u, .u, .u, .u, .u, .u, .u, .u, .u, .u, .u, .u, .u, .u]) (law_A (i := 1) hd rfl rfl) (jr_jl (G := (fun _ => True)) (jl_for (Γh := fun x_s : Nat => [.s sc, .o (encW ds x_s), .u, .u, .u, .u, .u, .u, .u, .u, .a, .u, .u, .u, .u, .u, .u, .u, .u, .u, .u]) (Γg := fun (x_s : Nat) (x_y : Int) => [.s sc, .o (encW ds x_s), .s (eInt x_y), .u, .u, .u, .u, .u, .u, .u, .a, .u, .u, .u, .u, .u, .u, .u, .u, .u, .u]) (st := (v_law_L1 ds)) (G := (g_law_L1 ds)) (s0 := 0) (ji_a (ja_c je_c ja_n) (it_r1 h.1)) (.c .k (.c .k (.c .k (.c .k (.c .k (.c .k (.c .k (.c .k (.c .k (.c .k (.c .ua (.c .k (.c .k (.c .k (.c .k (.c .k (.c .k (.c .k (.c .k (.c .k (.c .k .nil))))))))))))))))))))) (fun _ _ => (jg_n rfl)) (fun x_s x_y h => c_law_L1 ds sc x_s x_y h) h.2) (fun x_u_3 h => (jr_ret je_c pr_0)) (on_true _)))
end DL

set_option maxHeartbeats 4000000
/-! DTG: strict total orders; the least of a list. -/
namespace DL
open PySem L2
structure STO {α : Type} (lt : α → α → Bool) : Prop where
  irr : ∀ a, lt a a = false
  tra : ∀ a b c, lt a b = true → lt b c = true → lt a c = true
  tri : ∀ a b, lt a b = false → lt b a = false → a = b
theorem sto_I : STO ltI' := ⟨fun a => by simp [ltI'], fun a b c h1 h2 => by
  unfold ltI' at *
  simp only [decide_eq_true_eq] at *
  omega, fun a b h1 h2 => by
  unfold ltI' at *
  simp only [decide_eq_false_iff_not] at *
  omega⟩
theorem sto_P {α β : Type} [DecidableEq α] {l1 : α → α → Bool} {l2 : β → β → Bool} (s1 : STO l1) (s2 : STO l2) : STO (ltP l1 l2) := ⟨fun a => by simp [ltP, s2.irr], fun a b c h1 h2 => by
  unfold ltP at *
  by_cases e1 : a.1 = b.1
  · rw [if_pos e1] at h1
    by_cases e2 : b.1 = c.1
    · rw [if_pos e2] at h2
      rw [if_pos (e1.trans e2)]
      exact s2.tra _ _ _ h1 h2
    · rw [if_neg e2] at h2
      rw [if_neg (by rw [e1]; exact e2), e1]
      exact h2
  · rw [if_neg e1] at h1
    by_cases e2 : b.1 = c.1
    · rw [if_neg (by rw [← e2]; exact e1), ← e2]
      exact h1
    · rw [if_neg e2] at h2
      have h3 := s1.tra _ _ _ h1 h2
      rw [if_neg (fun z => by rw [z, s1.irr] at h3; cases h3)]
      exact h3, fun a b h1 h2 => by
  unfold ltP at *
  by_cases e1 : a.1 = b.1
  · rw [if_pos e1] at h1
    rw [if_pos e1.symm] at h2
    exact Prod.ext e1 (s2.tri _ _ h1 h2)
  · rw [if_neg e1] at h1
    rw [if_neg (Ne.symm e1)] at h2
    exact absurd (s1.tri _ _ h1 h2) e1⟩
section
variable {α : Type} [DecidableEq α] {lt : α → α → Bool}
theorem ltL_irr (s : STO lt) : ∀ a : List α, ltL lt a a = false
  | [] => rfl
  | x :: xs => by rw [ltL, if_pos rfl, ltL_irr s xs]
theorem ltL_tra (s : STO lt) : ∀ a b c : List α, ltL lt a b = true → ltL lt b c = true → ltL lt a c = true
  | [], [], _, h, _ => by cases h
  | [], _ :: _, [], _, h => by cases h
  | [], _ :: _, _ :: _, _, _ => rfl
  | _ :: _, [], _, h, _ => by cases h
  | _ :: _, _ :: _, [], _, h => by cases h
  | x :: xs, y :: ys, z :: zs, h1, h2 => by
    rw [ltL] at h1 h2 ⊢
    by_cases e1 : x = y
    · rw [if_pos e1] at h1
      by_cases e2 : y = z
      · rw [if_pos e2] at h2
        rw [if_pos (e1.trans e2)]
        exact ltL_tra s xs ys zs h1 h2
      · rw [if_neg e2] at h2
        rw [if_neg (by rw [e1]; exact e2), e1]
        exact h2
    · rw [if_neg e1] at h1
      by_cases e2 : y = z
      · rw [if_neg (by rw [← e2]; exact e1), ← e2]
        exact h1
      · rw [if_neg e2] at h2
        have h3 := s.tra _ _ _ h1 h2
        rw [if_neg (fun z => by rw [z, s.irr] at h3; cases h3)]
        exact h3
theorem ltL_tri (s : STO lt) : ∀ a b : List α, ltL lt a b = false → ltL lt b a = false → a = b
  | [], [], _, _ => rfl
  | [], _ :: _, h, _ => by cases h
  | _ :: _, [], _, h => by cases h
  | x :: xs, y :: ys, h1, h2 => by
    rw [ltL] at h1 h2
    by_cases e1 : x = y
    · rw [if_pos e1] at h1
      rw [if_pos e1.symm] at h2
      rw [e1, ltL_tri s xs ys h1 h2]
    · rw [if_neg e1] at h1
      rw [if_neg (Ne.symm e1)] at h2
      exact absurd (s.tri _ _ h1 h2) e1
theorem sto_L (s : STO lt) : STO (ltL lt) := ⟨ltL_irr s, ltL_tra s, ltL_tri s⟩
omit [DecidableEq α] in
theorem fold_min (s : STO lt) : ∀ (xs : List α) (x : α), (xs.foldl (fun a y => cond (lt y a) y a) x ∈ x :: xs) ∧ ∀ y ∈ x :: xs, lt y (xs.foldl (fun a y => cond (lt y a) y a) x) = false
  | [], x => ⟨List.mem_cons_self, fun y hy => by
    rw [List.mem_singleton.mp hy]
    exact s.irr x⟩
  | z :: xs, x => by
    rw [List.foldl_cons]
    obtain ⟨h1, h2⟩ := fold_min s xs (cond (lt z x) z x)
    have hx : lt x (xs.foldl (fun a y => cond (lt y a) y a) (cond (lt z x) z x)) = false := by
      have := h2 _ List.mem_cons_self
      cases hz : lt z x with
      | false => rw [hz] at this; exact this
      | true =>
        rw [hz] at this
        cases q : lt x (xs.foldl (fun a y => cond (lt y a) y a) (cond true z x)) with
        | false => rfl
        | true => exact absurd (s.tra _ _ _ hz q) (by simp only [cond_true] at this ⊢; rw [this]; simp)
    have hz : lt z (xs.foldl (fun a y => cond (lt y a) y a) (cond (lt z x) z x)) = false := by
      have := h2 _ List.mem_cons_self
      cases hz : lt z x with
      | true => rw [hz] at this; exact this
      | false =>
        rw [hz] at this
        cases q : lt z (xs.foldl (fun a y => cond (lt y a) y a) (cond false z x)) with
        | false => rfl
        | true =>
          -- x is not above the least, nor z below x
          cases q2 : lt x z with
          | true => exact absurd (s.tra _ _ _ q2 q) (by simp only [cond_false] at this ⊢; rw [this]; simp)
          | false =>
            have := s.tri _ _ q2 hz
            subst this
            simp only [cond_false] at this q
            rw [this] at q
            cases q
    refine ⟨?_, fun y hy => ?_⟩
    · rcases List.mem_cons.mp h1 with e | e
      · rw [e]
        cases lt z x
        · exact List.mem_cons_self
        · exact List.mem_cons_of_mem _ List.mem_cons_self
      · exact List.mem_cons_of_mem _ (List.mem_cons_of_mem _ e)
    · rcases List.mem_cons.mp hy with rfl | hy
      · exact hx
      · rcases List.mem_cons.mp hy with rfl | hy
        · exact hz
        · exact h2 y (List.mem_cons_of_mem _ hy)
omit [DecidableEq α] in
theorem minT_spec [Inhabited α] (s : STO lt) {l : List α} (h : l ≠ []) : minT lt l ∈ l ∧ ∀ y ∈ l, lt y (minT lt l) = false := by
  cases l with
  | nil => exact absurd rfl h
  | cons x xs => exact fold_min s xs x
omit [DecidableEq α] in
theorem minT_eq [Inhabited α] (s : STO lt) {l : List α} {x : α} (h : x ∈ l) (h2 : ∀ y ∈ l, lt y x = false) : minT lt l = x := by
  obtain ⟨a, b⟩ := minT_spec s (l := l) (fun z => by rw [z] at h; cases h)
  exact s.tri _ _ (h2 _ a) (b _ h)
omit [DecidableEq α] in
theorem minT_congr [Inhabited α] (s : STO lt) {l m : List α} (h : l ≠ []) (hm : ∀ x, x ∈ l ↔ x ∈ m) : minT lt l = minT lt m := by
  obtain ⟨a, b⟩ := minT_spec s (l := l) h
  exact (minT_eq s ((hm _).mp a) fun y hy => b y ((hm y).mpr hy)).symm
end
end DL

set_option maxHeartbeats 4000000
/-! DTH: dicts by their keys; the head of a sorted list. -/
namespace DL
open PySem L2
section
variable {κ β : Type} [DecidableEq κ]
theorem get_nil (k : κ) : diGet? ([] : List (κ × β)) k = none := rfl
theorem get_cons (p : κ × β) (l : List (κ × β)) (k : κ) : diGet? (p :: l) k = if p.1 = k then some p.2 else diGet? l k := by
  unfold diGet?
  rw [List.find?_cons]
  by_cases h : p.1 = k <;> simp [h]
theorem get_app (l m : List (κ × β)) (k : κ) : diGet? (l ++ m) k = (diGet? l k).or (diGet? m k) := by
  induction l with
  | nil => simp [get_nil]
  | cons p l ih =>
    rw [List.cons_append, get_cons, get_cons, ih]
    by_cases h : p.1 = k <;> simp [h]
theorem get_none {l : List (κ × β)} {k : κ} (h : diHas l k = false) : diGet? l k = none := by
  rw [diHas_get?] at h
  cases q : diGet? l k with
  | none => rfl
  | some v => rw [q] at h; cases h
theorem get_put (l : List (κ × β)) (k : κ) (v : β) (a : κ) : diGet? (diPut l k v) a = if k = a then some v else diGet? l a := by
  unfold diPut
  split
  · rename_i hk
    induction l with
    | nil => cases hk
    | cons p l ih =>
      rw [List.map_cons, get_cons]
      by_cases hp : p.1 = k
      · simp only [hp, if_true]
        by_cases ha : k = a
        · simp [ha]
        · simp only [ha, if_false]
          rw [get_cons, if_neg (by rw [hp]; exact ha)]
          by_cases hl : diHas l k = true
          · rw [ih hl, if_neg ha]
          · have : l.map (fun p => if p.1 = k then (p.1, v) else p) = l := by
              refine (List.map_congr_left fun q hq => ?_).trans (List.map_id l)
              have : ¬ q.1 = k := fun z => hl (diHas_iff.mpr (List.mem_map.mpr ⟨q, hq, z⟩))
              rw [if_neg this]
              rfl
            rw [this]
      · rw [if_neg hp]
        have hl : diHas l k = true := by
          rw [diHas_iff] at hk ⊢
          unfold diKeys at hk ⊢
          rw [List.map_cons, List.mem_cons] at hk
          rcases hk with e | e
          · exact absurd e.symm hp
          · exact e
        rw [ih hl, get_cons]
        by_cases ha : k = a
        · have : ¬ p.1 = a := by rw [← ha]; exact hp
          simp [ha, this]
        · simp [ha]
  · rename_i hk
    rw [get_app]
    have hn := get_none (by simpa using hk : diHas l k = false)
    by_cases ha : k = a
    · subst ha
      rw [hn, if_pos rfl]
      simp [get_cons]
    · rw [if_neg ha, get_cons, if_neg ha, get_nil]
      simp
theorem get_mem {l : List (κ × β)} {k : κ} {v : β} (h : diGet? l k = some v) : (k, v) ∈ l := by
  induction l with
  | nil => cases h
  | cons p l ih =>
    rw [get_cons] at h
    by_cases e : p.1 = k
    · rw [if_pos e] at h
      cases h
      rw [← e]
      exact List.mem_cons_self
    · rw [if_neg e] at h
      exact List.mem_cons_of_mem _ (ih h)
theorem get_of_mem {l : List (κ × β)} (hn : (diKeys l).Nodup) {p : κ × β} (h : p ∈ l) : diGet? l p.1 = some p.2 := by
  induction l with
  | nil => cases h
  | cons q l ih =>
    unfold diKeys at hn
    rw [List.map_cons, List.nodup_cons] at hn
    rw [get_cons]
    rcases List.mem_cons.mp h with rfl | h
    · rw [if_pos rfl]
    · rw [if_neg (fun z => hn.1 (List.mem_map.mpr ⟨p, h, z.symm⟩))]
      exact ih hn.2 h
theorem has_get {l : List (κ × β)} [Inhabited β] {k : κ} (h : k ∈ diKeys l) : diHas l k = true ∧ (k, diGet l k) ∈ l := by
  have h1 := diHas_iff.mpr h
  refine ⟨h1, ?_⟩
  rw [diHas_get?] at h1
  unfold diGet
  cases q : diGet? l k with
  | none => rw [q] at h1; cases h1
  | some v => exact get_mem q
theorem get_fn (f : κ → β) : ∀ (ks : List κ) (acc : List (κ × β)) (k : κ), diGet? ((ks.map fun k => (k, f k)).foldl (fun acc p => diPut acc p.1 p.2) acc) k = if k ∈ ks then some (f k) else diGet? acc k
  | [], acc, k => by simp
  | a :: ks, acc, k => by
    rw [List.map_cons, List.foldl_cons, get_fn f ks, get_put]
    by_cases h : k ∈ ks
    · simp [h]
    · by_cases e : a = k
      · subst e
        simp [h]
      · simp [h, e, Ne.symm e]
theorem dictT_fn (f : κ → β) (ks : List κ) (k : κ) : diGet? (dictT (ks.map fun k => (k, f k))) k = if k ∈ ks then some (f k) else none := get_fn f ks [] k
theorem dictT_get [Inhabited β] (f : κ → β) {ks : List κ} {k : κ} (h : k ∈ ks) : diHas (dictT (ks.map fun k => (k, f k))) k = true ∧ diGet (dictT (ks.map fun k => (k, f k))) k = f k := by
  unfold diGet
  rw [diHas_get?, dictT_fn, if_pos h]
  exact ⟨rfl, rfl⟩
theorem eqDi_self [DecidableEq β] {l : List (κ × β)} (hn : (diKeys l).Nodup) : eqDi l l = true := by
  unfold eqDi
  rw [Bool.and_eq_true]
  refine ⟨by simp, List.all_eq_true.mpr fun p hp => ?_⟩
  rw [get_of_mem hn hp]
  simp
theorem eqDi_dictT [DecidableEq β] (l : List (κ × β)) : eqDi (dictT l) (dictT l) = true := eqDi_self (dictT_keys l).2
theorem put_all {P : κ × β → Prop} {l : List (κ × β)} {k : κ} {v : β} (h : ∀ p ∈ l, P p) (hv : P (k, v)) : ∀ p ∈ diPut l k v, P p := fun p hp => by
  unfold diPut at hp
  split at hp
  · rw [List.mem_map] at hp
    obtain ⟨q, hq, rfl⟩ := hp
    split
    · rename_i e
      rw [e]
      exact hv
    · exact h q hq
  · rw [List.mem_append, List.mem_singleton] at hp
    rcases hp with hp | rfl
    · exact h p hp
    · exact hv
end
/-! ### the order of names; heads of sorted lists -/
theorem sto_N : STO ltN := ⟨fun a => by
  unfold ltN
  simp only [decide_eq_false_iff_not]
  exact List.lt_irrefl _, fun a b c h1 h2 => by
  unfold ltN at *
  rw [decide_eq_true_eq] at *
  exact List.lt_trans h1 h2, fun a b h1 h2 => by
  unfold ltN at *
  rw [decide_eq_false_iff_not] at *
  have h3 : a.1.cps.toList = b.1.cps.toList := List.le_antisymm (List.not_lt.mp h2) (List.not_lt.mp h1)
  have h4 : a.1 = b.1 := by
    cases ha : a.1 with
    | mk x => cases hb : b.1 with
      | mk y =>
        rw [ha, hb] at h3
        congr 1
        exact Array.toList_inj.mp h3
  exact Subtype.ext h4⟩
section
variable {α : Type} {lt : α → α → Bool}
theorem ins_head (s : STO lt) (x : α) : ∀ l : List α, (∀ z m, l = z :: m → ∀ y ∈ l, lt y z = false) → ∀ z m, insT (fun a b => !lt b a) x l = z :: m → ∀ y ∈ insT (fun a b => !lt b a) x l, lt y z = false
  | [], _, z, m, e, y, hy => by
    cases e
    rw [List.mem_singleton.mp (show y ∈ [x] from hy)]
    exact s.irr x
  | a :: l, h, z, m, e, y, hy => by
    have ha := h a l rfl
    rw [insT] at e hy
    cases q : lt a x with
    | false =>
      rw [q] at e hy
      simp only [Bool.not_false, cond_true] at e hy
      cases e
      rcases List.mem_cons.mp hy with rfl | hy
      · exact s.irr y
      · rcases List.mem_cons.mp hy with rfl | hy
        · exact q
        · -- y ≥ a ≥ x
          have h1 := ha y (List.mem_cons_of_mem _ hy)
          cases q2 : lt y x with
          | false => rfl
          | true =>
            cases q3 : lt x a with
            | true => exact absurd (s.tra _ _ _ q2 q3) (by rw [h1]; simp)
            | false =>
              have := s.tri _ _ q q3
              subst this
              rw [h1] at q2
              cases q2
    | true =>
      rw [q] at e hy
      simp only [Bool.not_true, cond_false] at e hy
      cases e
      rcases List.mem_cons.mp hy with rfl | hy
      · exact s.irr y
      · rcases mem_insT hy with rfl | hy
        · cases q2 : lt y a with
          | false => rfl
          | true => exact absurd (s.tra _ _ _ q q2) (by rw [s.irr]; simp)
        · exact ha y (List.mem_cons_of_mem _ hy)
theorem srt_head (s : STO lt) : ∀ (l : List α) z m, srtT lt l = z :: m → ∀ y ∈ srtT lt l, lt y z = false
  | [], z, m, e, y, hy => by cases hy
  | x :: l, z, m, e, y, hy => ins_head s x (srtT lt l) (fun z m e y hy => srt_head s l z m e y hy) z m e y hy
theorem srt_min [Inhabited α] [DecidableEq α] (s : STO lt) {l : List α} (h : l ≠ []) : ixT (srtT lt l) 0 = minT lt l := by
  cases q : srtT lt l with
  | nil =>
    exfalso
    cases l with
    | nil => exact h rfl
    | cons x l =>
      have : x ∈ srtT lt (x :: l) := mem_srt.mpr List.mem_cons_self
      rw [q] at this
      cases this
  | cons z m =>
    rw [ixT_0]
    refine (minT_eq s (mem_srt.mp (by rw [q]; exact List.mem_cons_self)) fun y hy => ?_).symm
    exact srt_head s l z m q y (mem_srt.mpr hy)
end
end DL

set_option maxHeartbeats 4000000
/-! k46: states as sets of four bolts; what opens, what shows that none does. -/
namespace DL
open PySem L2
theorem map_idI {α : Type} (l : List α) : l.map (fun x => x) = l := List.map_id l
def S16 : List (List Int) := v__law_sets (rngT 0 4)
def subsZ : List Int → List (List Int)
  | [] => [[]]
  | x :: xs => subsZ xs ++ (subsZ xs).map (x :: ·)
theorem mem_subsZ {l m : List Int} (h : l.Sublist m) : l ∈ subsZ m := by
  induction h with
  | slnil => exact List.mem_singleton.mpr rfl
  | cons a h ih => exact List.mem_append_left _ ih
  | cons_cons a h ih => exact List.mem_append_right _ (List.mem_map.mpr ⟨_, ih, rfl⟩)
theorem s16_chk : (subsZ (rngT 0 4)).all (fun s => decide (s ∈ S16)) = true := by decide +kernel
theorem s16_of {s : List Int} (hs : s.Sublist (rngT 0 4)) : s ∈ S16 := of_decide_eq_true (List.all_eq_true.mp s16_chk s (mem_subsZ hs))
theorem rng_sub {m : Int} (h0 : 0 ≤ m) (h : m ≤ 4) : (rngT 0 m).Sublist (rngT 0 4) := by
  have : m = 0 ∨ m = 1 ∨ m = 2 ∨ m = 3 ∨ m = 4 := by omega
  rcases this with rfl | rfl | rfl | rfl | rfl
  · exact (show rngT 0 0 = (rngT 0 4).take 0 by decide) ▸ List.take_sublist ..
  · exact (show rngT 0 1 = (rngT 0 4).take 1 by decide) ▸ List.take_sublist ..
  · exact (show rngT 0 2 = (rngT 0 4).take 2 by decide) ▸ List.take_sublist ..
  · exact (show rngT 0 3 = (rngT 0 4).take 3 by decide) ▸ List.take_sublist ..
  · exact List.Sublist.refl _
theorem s16_bd {s : List Int} (h : s ∈ S16) : s.length ≤ 4 ∧ ∀ x ∈ s, 0 ≤ x ∧ x < 4 := by
  have k : S16.all (fun s => decide (s.length ≤ 4) && s.all fun x => decide (0 ≤ x) && decide (x < 4)) = true := by decide +kernel
  have := List.all_eq_true.mp k s h
  simp only [Bool.and_eq_true, decide_eq_true_eq, List.all_eq_true] at this
  exact this
theorem tab1 : S16.all (fun s => S16.all fun h => decide (v_turned_by s h = v__law_turned s h) && decide (v__law_turned s h ∈ S16) && decide (v__law_odd s h = v__law_odd h s)) = true := by decide +kernel
theorem tab2 : S16.all (fun s => S16.all fun h => let t := v__law_turned s h; S16.all fun b => v__law_odd t b == (v__law_odd s b != v__law_odd h b)) = true := by decide +kernel
theorem tab3 : S16.all (fun s => decide (s = []) || S16.any fun b => v__law_odd s b) = true := by decide +kernel
theorem t16 {s h : List Int} (hs : s ∈ S16) (hh : h ∈ S16) : v_turned_by s h = v__law_turned s h ∧ v__law_turned s h ∈ S16 ∧ v__law_odd s h = v__law_odd h s := by
  have := List.all_eq_true.mp (List.all_eq_true.mp tab1 s hs) h hh
  simp only [Bool.and_eq_true, decide_eq_true_eq] at this
  exact ⟨this.1.1, this.1.2, this.2⟩
theorem odd_l {s h b : List Int} (hs : s ∈ S16) (hh : h ∈ S16) (hb : b ∈ S16) : v__law_odd (v__law_turned s h) b = (v__law_odd s b != v__law_odd h b) := beq_iff_eq.mp (List.all_eq_true.mp (List.all_eq_true.mp (List.all_eq_true.mp tab2 s hs) h hh) b hb)
theorem odd_r {s b c : List Int} (hs : s ∈ S16) (hb : b ∈ S16) (hc : c ∈ S16) : v__law_odd s (v__law_turned b c) = (v__law_odd s b != v__law_odd s c) := by
  rw [(t16 hs (t16 hb hc).2.1).2.2, odd_l hb hc hs, (t16 hb hs).2.2, (t16 hc hs).2.2]
/-- either some of the handles open, or there are bolts that show that none do -/
theorem fred : ∀ (hs : List (List Int)), (∀ h ∈ hs, h ∈ S16) → ∀ s ∈ S16, (∃ sel : List (List Int), sel.Sublist hs ∧ sel.foldl v__law_turned s = []) ∨ (∃ b ∈ S16, v__law_odd s b = true ∧ ∀ h ∈ hs, v__law_odd h b = false)
  | [], _, s, hs => by
    have := List.all_eq_true.mp tab3 s hs
    rw [Bool.or_eq_true, decide_eq_true_eq, List.any_eq_true] at this
    rcases this with e | ⟨b, hb, e⟩
    · exact .inl ⟨[], .slnil, e⟩
    · exact .inr ⟨b, hb, e, fun h hh => by cases hh⟩
  | h :: hs, H, s, ms => by
    have mh := H h List.mem_cons_self
    have H' := fun h' (q : h' ∈ hs) => H h' (List.mem_cons_of_mem _ q)
    rcases fred hs H' s ms with ⟨sel, a, b⟩ | ⟨b1, m1, o1, e1⟩
    · exact .inl ⟨sel, a.cons _, b⟩
    rcases fred hs H' _ (t16 ms mh).2.1 with ⟨sel, a, b⟩ | ⟨b2, m2, o2, e2⟩
    · exact .inl ⟨h :: sel, a.cons_cons _, b⟩
    rw [odd_l ms mh m2] at o2
    cases q1 : v__law_odd h b1 with
    | false => exact .inr ⟨b1, m1, o1, fun x hx => (List.mem_cons.mp hx).elim (fun e => e ▸ q1) (e1 x)⟩
    | true =>
      cases q2 : v__law_odd h b2 with
      | false =>
        rw [q2] at o2
        refine .inr ⟨b2, m2, by simpa using o2, fun x hx => (List.mem_cons.mp hx).elim (fun e => e ▸ q2) (e2 x)⟩
      | true =>
        rw [q2] at o2
        have o3 : v__law_odd s b2 = false := by simpa using o2
        refine .inr ⟨_, (t16 m1 m2).2.1, by rw [odd_r ms m1 m2, o1, o3]; rfl, fun x hx => ?_⟩
        rw [odd_r (H x hx) m1 m2]
        rcases List.mem_cons.mp hx with e | hx
        · rw [e, q1, q2]
          rfl
        · rw [e1 x hx, e2 x hx]
          rfl
theorem rng_ix {α : Type} [Inhabited α] (hs : List α) : (rngT 0 (hs.length : Int)).map (ixT hs) = hs := by
  refine List.ext_getElem (by simp [rng_len]) fun i h1 h2 => ?_
  rw [List.getElem_map]
  have : (rngT 0 (hs.length : Int))[i]'(by simpa using h1) = (i : Int) := by simp [rngT]
  rw [this, ixT_nat hs i h2]
theorem after_fold (s : List Int) (hs : List (List Int)) (pl : List Int) : v__law_after s hs pl = (pl.map (ixT hs)).foldl v__law_turned s := by
  unfold v__law_after
  rw [bnd_eq, List.foldl_map]
  rfl
structure HsOk (hs : List (List Int)) : Prop where
  len : hs.length ≤ 4
  mem : ∀ h ∈ hs, h ∈ S16
abbrev plsK (n : Nat) : List (List Int) := v__law_sets (rngT 0 (n : Int))
theorem pl_chk : (List.range 5).all (fun n => (subsZ (rngT 0 (n : Int))).all (fun p => decide (p ∈ plsK n)) && decide ((plsK n).length ≤ 16) && (plsK n).all fun p => decide (p.length ≤ 4) && p.all fun k => decide (0 ≤ k) && decide (k < (n : Int))) = true := by decide +kernel
theorem pls {n : Nat} (h : n ≤ 4) : (∀ p : List Int, p.Sublist (rngT 0 (n : Int)) → p ∈ plsK n) ∧ (plsK n).length ≤ 16 ∧ ∀ p ∈ plsK n, p.length ≤ 4 ∧ ∀ k ∈ p, 0 ≤ k ∧ k < (n : Int) := by
  have := List.all_eq_true.mp pl_chk n (List.mem_range.mpr (by omega))
  simp only [Bool.and_eq_true, decide_eq_true_eq, List.all_eq_true] at this
  exact ⟨fun p hp => this.1.1 p (mem_subsZ hp), this.1.2, this.2⟩
/-- every bolt that is told -/
def evK (s : List Int) (hs : List (List Int)) : List Int := ((rngT 0 9).filter (fun x_y_2 : Int => ((decide (x_y_2 ∈ s)) || (!decide (((hs.filter (fun x_y_3 : (List Int) => (decide (x_y_2 ∈ x_y_3)))).map (fun x_y_3 : (List Int) => x_y_3)) = ([])))))).map (fun x_y_2 : Int => x_y_2)
theorem ev_p (s : List Int) (hs : List (List Int)) (x : Int) : ((decide (x ∈ s)) || (!decide (((hs.filter (fun x_y_3 : (List Int) => (decide (x ∈ x_y_3)))).map (fun x_y_3 : (List Int) => x_y_3)) = ([])))) = true ↔ x ∈ s ∨ ∃ h ∈ hs, x ∈ h := by
  rw [Bool.or_eq_true, decide_eq_true_eq, map_idI, Bool.not_eq_true', decide_eq_false_iff_not, List.filter_eq_nil_iff]
  refine or_congr Iff.rfl ⟨fun h => ?_, fun ⟨h, a, b⟩ z => z h a (decide_eq_true b)⟩
  refine Classical.byContradiction fun z => h fun a ha q => z ⟨a, ha, of_decide_eq_true q⟩
theorem ev_mem {s : List Int} {hs : List (List Int)} (ms : s ∈ S16) (H : HsOk hs) (x : Int) : x ∈ evK s hs ↔ x ∈ s ∨ ∃ h ∈ hs, x ∈ h := by
  unfold evK
  rw [map_idI, List.mem_filter, ev_p]
  refine ⟨fun h => h.2, fun h => ⟨mem_rng.mpr ?_, h⟩⟩
  rcases h with h | ⟨a, ha, h⟩
  · have := (s16_bd ms).2 x h
    omega
  · have := (s16_bd (H.mem a ha)).2 x h
    omega
theorem ev_16 {s : List Int} {hs : List (List Int)} (ms : s ∈ S16) (H : HsOk hs) : evK s hs ∈ S16 := by
  refine s16_of ?_
  unfold evK
  rw [map_idI, show rngT 0 9 = rngT 0 4 ++ rngT 4 9 by decide, List.filter_append]
  rw [show (rngT 4 9).filter _ = [] from List.filter_eq_nil_iff.mpr fun x hx z => by
    rw [ev_p] at z
    have hx := mem_rng.mp hx
    rcases z with h | ⟨a, ha, h⟩
    · have := (s16_bd ms).2 x h
      omega
    · have := (s16_bd (H.mem a ha)).2 x h
      omega, List.append_nil]
  exact List.filter_sublist
theorem ev_asc (s : List Int) (hs : List (List Int)) : (evK s hs).Pairwise (· < ·) := by
  unfold evK
  rw [map_idI]
  exact List.Pairwise.filter _ (show (rngT 0 9).Pairwise (· < ·) by decide)
theorem flat16 {hs : List (List Int)} (H : HsOk hs) : (hs.flatMap fun x => x).length ≤ 16 := by
  have : ∀ hs : List (List Int), (∀ h ∈ hs, h ∈ S16) → (hs.flatMap fun x => x).length ≤ 4 * hs.length := by
    intro hs
    induction hs with
    | nil => intro _; exact Nat.le_refl _
    | cons h hs ih =>
      intro q
      have h1 := (s16_bd (q h List.mem_cons_self)).1
      have h2 := ih fun a ha => q a (List.mem_cons_of_mem _ ha)
      rw [List.flatMap_cons, List.length_append, List.length_cons]
      omega
  have h1 := this hs H.mem
  have h2 := H.len
  omega
theorem flat_eq (hs : List (List Int)) : ((hs.filter (fun x_y : (List Int) => true)).flatMap (fun x_y : (List Int) => (x_y.filter (fun x_y_2 : Int => true)).map (fun x_y_2 : Int => x_y_2))) = hs.flatMap fun x => x := by
  have e : ∀ {α : Type} (l : List α), l.filter (fun _ => true) = l := fun l => List.filter_eq_self.mpr fun _ _ => rfl
  rw [e]
  congr 1
  funext x
  rw [e, map_idI]
theorem ddp_le (l : List Int) : (ddp l).length ≤ l.length := nodup_le (nodup_ddp l) fun x hx => mem_ddp.mp hx
theorem bolts_eq {s : List Int} {hs : List (List Int)} (ms : s ∈ S16) (H : HsOk hs) : v_bolts_of s hs = evK s hs ∧ g_bolts_of s hs := by
  have h1 := flat16 H
  have h2 := (s16_bd ms).1
  constructor
  · unfold v_bolts_of v_set_of
    rw [flat_eq]
    refine asc_one (srtSet_asc _).1 (ev_asc s hs) fun y => ?_
    rw [(srtSet_asc _).2, ev_mem ms H, List.mem_append, List.mem_flatMap]
  · unfold g_bolts_of g_set_of
    rw [flat_eq]
    have h3 := ddp_le (s ++ hs.flatMap fun x => x)
    rw [List.length_append] at h3
    refine ⟨sizeLe _ (by omega), sizeLe _ (by omega), by rw [List.length_append]; omega, by omega⟩
theorem mo_eq (a b : List Int) : v_meets_odd a b = v__law_odd a b := by
  unfold v_meets_odd v__law_odd
  rw [bnd_eq]
  generalize (((a.filter (fun x_y : Int => (decide (x_y ∈ b)))).map (fun x_y : Int => x_y)).length : Int) = n
  have h1 := Int.mul_fdiv_add_fmod n 2
  have h2 := Int.fmod_nonneg_of_pos n (b := 2) (by omega)
  have h3 := Int.fmod_lt_of_pos n (b := 2) (by omega)
  rw [Bool.eq_iff_iff, decide_eq_true_eq, Bool.not_eq_true', decide_eq_false_iff_not]
  omega
theorem num_chk : S16.all (fun b => v_is_number_set (eTp eInt b) && decide (v__law_sets b ≠ [] ∧ (v__law_sets b).length ≤ 16) && (v__law_sets b).all (fun c => decide (c ∈ S16)) && (subsZ b).all (fun c => decide (c ∈ v__law_sets b))) = true := by decide +kernel
theorem num16 {b : List Int} (h : b ∈ S16) : v_is_number_set (eTp eInt b) = true ∧ (v__law_sets b).length ≤ 16 ∧ (∀ c ∈ v__law_sets b, c ∈ S16) ∧ ∀ c : List Int, c.Sublist b → c ∈ v__law_sets b := by
  have := List.all_eq_true.mp num_chk b h
  simp only [Bool.and_eq_true, decide_eq_true_eq, List.all_eq_true] at this
  exact ⟨this.1.1.1, this.1.1.2.2, this.1.2, fun c hc => this.2 c (mem_subsZ hc)⟩
theorem dec_tp (b : List Int) : dTp dInt (eTp eInt b) = some b := dAll_en (e := eInt) (fun _ => rfl) b
def showK (s : List Int) (hs : List (List Int)) (b : List Int) : Bool := v__law_odd s b && decide ((hs.filter fun h => v__law_odd h b).map (fun x => x) = [])
theorem show_iff (s : List Int) (hs : List (List Int)) (b : List Int) : showK s hs b = true ↔ v__law_odd s b = true ∧ ∀ h ∈ hs, v__law_odd h b = false := by
  unfold showK
  rw [Bool.and_eq_true, decide_eq_true_eq, map_idI, List.filter_eq_nil_iff]
  simp only [Bool.not_eq_true]
theorem even_core (s : List Int) (hs : List (List Int)) (b : List Int) : ((v_meets_odd s b) && (!((hs.map (fun x_y : (List Int) => (v_meets_odd x_y b))).any id))) = showK s hs b := by
  rw [Bool.eq_iff_iff, show_iff, Bool.and_eq_true, mo_eq]
  refine and_congr Iff.rfl ?_
  rw [Bool.not_eq_true', List.any_eq_false]
  refine ⟨fun h x hx => ?_, fun h y hy => ?_⟩
  · have := h _ (List.mem_map.mpr ⟨x, hx, rfl⟩)
    rw [mo_eq] at this
    simpa using this
  · obtain ⟨x, hx, rfl⟩ := List.mem_map.mp hy
    rw [mo_eq, h x hx]
    simp
theorem even16 {b : List Int} (h : b ∈ S16) (s : List Int) (hs : List (List Int)) : v_are_even s hs (eTp eInt b) = showK s hs b := by
  unfold v_are_even
  rw [(num16 h).1, dec_tp]
  exact even_core s hs b
theorem g_odd16 (s b : List Int) (h : s.length ≤ 4) : g__law_odd s b ∧ g_meets_odd s b := by
  unfold g__law_odd g_meets_odd
  rw [map_idI, bnd_eq]
  have h1 : (s.filter (fun x_y : Int => (decide (x_y ∈ b)))).length ≤ 4 := Nat.le_trans (List.length_filter_le _ _) h
  generalize (s.filter (fun x_y : Int => (decide (x_y ∈ b)))).length = n at h1
  have : n = 0 ∨ n = 1 ∨ n = 2 ∨ n = 3 ∨ n = 4 := by omega
  rcases this with rfl | rfl | rfl | rfl | rfl <;> exact ⟨⟨sizeLe _ (by omega), by decide +kernel, by decide +kernel⟩, sizeLe _ (by omega), by decide +kernel⟩
instance (p : List Int) : Decidable (g_is_ascending p) := by unfold g_is_ascending; infer_instance
instance (p : D) : Decidable (g_is_number_set p) := by unfold g_is_number_set; infer_instance
theorem gnum_chk : S16.all (fun b => decide (g_is_number_set (eTp eInt b))) = true := by decide +kernel
theorem g_even {s : List Int} (hs4 : s.length ≤ 4) {hs : List (List Int)} (H : HsOk hs) {t : D} (g : g_is_number_set t) (d : v_is_number_set t = true → (dTp dInt t).isSome = true) : g_are_even s hs t := by
  unfold g_are_even
  refine ⟨g, fun q => ?_⟩
  have d := d (by simpa using q)
  exact ⟨d, (g_odd16 _ _ hs4).2, fun _ => ⟨fun x hx => ⟨d, (g_odd16 _ _ (s16_bd (H.mem x hx)).1).2⟩, sizeLe _ (by have := H.len; omega)⟩⟩
theorem g_even16 {s : List Int} (ms : s ∈ S16) {hs : List (List Int)} (H : HsOk hs) {b : List Int} (h : b ∈ S16) : g_are_even s hs (eTp eInt b) := g_even (s16_bd ms).1 H (of_decide_eq_true (List.all_eq_true.mp gnum_chk b h)) fun _ => by rw [dec_tp]; rfl
theorem g_turn16 {s h : List Int} (hs : s ∈ S16) (hh : h ∈ S16) : g_turned_by s h ∧ g__law_turned s h := by
  have h1 := (s16_bd hs).1
  have h2 := (s16_bd hh).1
  unfold g_turned_by g__law_turned g_set_of
  simp only [bnd_eq, map_idI]
  have a1 := List.length_filter_le (fun x_y : Int => (!(decide (x_y ∈ h)))) s
  have a2 := List.length_filter_le (fun x_y : Int => (!(decide (x_y ∈ s)))) h
  have a3 := ddp_le ((s.filter (fun x_y : Int => (!(decide (x_y ∈ h))))) ++ (h.filter (fun x_y : Int => (!(decide (x_y ∈ s))))))
  rw [List.length_append] at a3
  refine ⟨⟨sizeLe _ (by omega), sizeLe _ (by omega), sizeLe _ (by omega), by rw [List.length_append]; omega, by omega⟩, by decide +kernel, sizeLe _ (Nat.le_trans (List.length_filter_le _ _) (by decide))⟩
/-- bolt by bolt -/
theorem after16 {hs : List (List Int)} (H : HsOk hs) : ∀ (pl : List Int) (s : List Int), s ∈ S16 → (∀ k ∈ pl, 0 ≤ k ∧ k < (hs.length : Int)) → v_after s hs pl = v__law_after s hs pl ∧ v__law_after s hs pl ∈ S16 ∧ g_after s hs pl ∧ g__law_after s hs pl := by
  intro pl
  induction pl with
  | nil => exact fun s hs' _ => ⟨rfl, hs', trivial, trivial⟩
  | cons k pl ih =>
    intro s ms hk
    have k1 := hk k List.mem_cons_self
    have io : ixOk hs k := ixOk_of k1.1 k1.2
    have mh := H.mem _ (ixT_mem io)
    obtain ⟨a, b, _⟩ := t16 ms mh
    obtain ⟨e, m, g1, g2⟩ := ih _ b fun j hj => hk j (List.mem_cons_of_mem _ hj)
    obtain ⟨gt1, gt2⟩ := g_turn16 ms mh
    unfold v_after v__law_after g_after g__law_after at *
    simp only [bnd_eq, List.foldl_cons] at *
    have e1 : v_after_L1 hs s k = v__law_turned s (ixT hs k) := a
    have e2 : v__law_after_L1 hs s k = v__law_turned s (ixT hs k) := rfl
    rw [e1, e2]
    exact ⟨e, m, ⟨⟨io, gt1⟩, by rw [e1]; exact g1⟩, ⟨io, gt2⟩, by rw [e2]; exact g2⟩
end DL

set_option maxHeartbeats 4000000
/-! k46: opened, spare handles, the worst state; what shows that none opens. -/
namespace DL
open PySem L2
theorem rgB0 {m : Int} (h0 : 0 ≤ m) (h : m ≤ 1000) : rgB 0 m = true := by
  unfold rgB
  rw [bdI_of (by omega) (by omega), bdI_of (by omega) (by omega), Bool.true_and, Bool.true_and]
  exact decide_eq_true (by omega)
theorem find_congr {α : Type} {p q : α → Bool} : ∀ {xs : List α}, (∀ x ∈ xs, p x = q x) → xs.find? p = xs.find? q
  | [], _ => rfl
  | x :: xs, h => by
    rw [List.find?_cons, List.find?_cons, h x List.mem_cons_self, find_congr fun y hy => h y (List.mem_cons_of_mem _ hy)]
theorem on_find {α R : Type} {st : Unit → α → Fw Unit R} {p : α → Bool} {f : α → R} (h : ∀ x, st () x = cond (p x) (.rt (f x)) (.nx ())) {G : Prop} : ∀ xs : List α, (xs.find? p = none → G) → (foldF st () xs).on (fun _ => G) (fun _ => True)
  | [], k => k rfl
  | x :: xs, k => by
    rw [foldF, h]
    cases hp : p x with
    | true => trivial
    | false => exact on_find h xs fun e => k (by rw [List.find?_cons, hp]; exact e)
abbrev ableK (s : List Int) (hs : List (List Int)) : List (List Int) := (v__law_sets (evK s hs)).filter (showK s hs)
theorem ableP_eq {s : List Int} {hs : List (List Int)} (ms : s ∈ S16) (H : HsOk hs) : ((v_all_sets (v_bolts_of s hs)).filter (fun x_y_2 : (List Int) => (v_are_even s hs ((eTp eInt) x_y_2)))).map (fun x_y_2 : (List Int) => x_y_2) = ableK s hs := by
  rw [map_idI, (bolts_eq ms H).1]
  exact List.filter_congr fun b hb => even16 ((num16 (ev_16 ms H)).2.2.1 b hb) s hs
theorem ableL_eq (s : List Int) (hs : List (List Int)) : ((v__law_sets (evK s hs)).filter (fun x_y_4 : (List Int) => ((v__law_odd s x_y_4) && (decide (((hs.filter (fun x_y_5 : (List Int) => (v__law_odd x_y_5 x_y_4))).map (fun x_y_5 : (List Int) => x_y_5)) = ([])))))).map (fun x_y_4 : (List Int) => x_y_4) = ableK s hs := map_idI _
def yesK (s : List Int) (hs : List (List Int)) : Option (List Int) := (plsK hs.length).find? fun x => decide (v__law_after s hs x = [])
theorem pl_ix {hs : List (List Int)} (H : HsOk hs) {p : List Int} (h : p ∈ plsK hs.length) : ∀ k ∈ p, 0 ≤ k ∧ k < (hs.length : Int) := ((pls H.len).2.2 p h).2
theorem odd_ev {s : List Int} {e : List Int} (b : List Int) (h : ∀ x ∈ s, x ∈ e) : v__law_odd s (e.filter fun x => decide (x ∈ b)) = v__law_odd s b := by
  unfold v__law_odd
  rw [show (s.filter fun x_y : Int => decide (x_y ∈ e.filter fun x => decide (x ∈ b))) = s.filter fun x_y : Int => decide (x_y ∈ b) from List.filter_congr fun x hx => by
    rw [decide_eq_decide, List.mem_filter, decide_eq_true_eq]
    exact ⟨fun q => q.2, fun q => ⟨h x hx, q⟩⟩]
theorem able_ne {s : List Int} {hs : List (List Int)} (ms : s ∈ S16) (H : HsOk hs) (hn : yesK s hs = none) : ableK s hs ≠ [] := by
  rcases fred hs H.mem s ms with ⟨sel, a, b⟩ | ⟨b, mb, o, e⟩
  · exfalso
    rw [← rng_ix hs] at a
    obtain ⟨pl, h1, h2⟩ := List.sublist_map_iff.mp a
    have hp := (pls H.len).1 pl h1
    have := List.find?_eq_none.mp hn pl hp
    rw [decide_eq_true_eq, after_fold, ← h2] at this
    exact this b
  · intro z
    have hev := ev_16 ms H
    have hb : (evK s hs).filter (fun x => decide (x ∈ b)) ∈ ableK s hs := by
      refine List.mem_filter.mpr ⟨(num16 hev).2.2.2 _ List.filter_sublist, (show_iff s hs _).mpr ⟨?_, fun h hh => ?_⟩⟩
      · rw [odd_ev b fun x hx => (ev_mem ms H x).mpr (.inl hx)]
        exact o
      · rw [odd_ev b fun x hx => (ev_mem ms H x).mpr (.inr ⟨h, hh, hx⟩)]
        exact e h hh
    rw [z] at hb
    cases hb
theorem ix0 {α : Type} [Inhabited α] {l : List α} (h : l ≠ []) : ixOk l 0 ∧ ixT l 0 ∈ l := by
  have io : ixOk l 0 := by
    cases l with
    | nil => exact absurd rfl h
    | cons x l => exact ixOk_of (by omega) (by simp)
  exact ⟨io, ixT_mem io⟩
theorem sets_g {b : List Int} (h : b ∈ S16) : g__law_sets b ∧ g_all_sets b := by
  have h1 := (num16 h).2.1
  have h2 := (s16_bd h).1
  exact ⟨⟨Nat.le_trans h1 (by omega), by omega⟩, ⟨Nat.le_trans h1 (by omega), by omega⟩⟩
theorem pls_g {n : Nat} (h : n ≤ 4) : g__law_sets (rngT 0 (n : Int)) ∧ g_all_sets (rngT 0 (n : Int)) := by
  have h1 := (pls h).2.1
  have h2 := rng_len 0 (n : Int)
  exact ⟨⟨Nat.le_trans h1 (by omega), by omega⟩, ⟨Nat.le_trans h1 (by omega), by omega⟩⟩
theorem opened16 {s : List Int} {hs : List (List Int)} (ms : s ∈ S16) (H : HsOk hs) : v_opened s hs = v__law_opened s hs ∧ g_opened s hs ∧ g__law_opened s hs ∧ ((v_opened s hs).1 = nm "no" → (v_opened s hs).2 ∈ S16) := by
  have hP : ∀ x, v_opened_L1 s hs () x = cond (decide (v_after s hs x = [])) (Fw.rt ((nm "yes"), x)) (Fw.nx ()) := fun x => rfl
  have hL : ∀ x, v__law_opened_L1 s hs () x = cond (decide (v__law_after s hs x = [])) (Fw.rt ((nm "yes"), x)) (Fw.nx ()) := fun x => rfl
  have ef : (plsK hs.length).find? (fun x => decide (v_after s hs x = [])) = yesK s hs := find_congr fun x hx => by rw [(after16 H x s ms (pl_ix H hx)).1]
  have eP : v_opened s hs = ((yesK s hs).map fun x => (nm "yes", x)).getD (nm "no", ixT (ableK s hs) 0) := by
    unfold v_opened
    simp only [bnd_eq]
    rw [ableP_eq ms H, foldF_find (fun x => decide (v_after s hs x = [])) (fun x => (nm "yes", x)) hP, show v_all_sets (rngT 0 (hs.length : Int)) = plsK hs.length from rfl, ef]
  have eL : v__law_opened s hs = ((yesK s hs).map fun x => (nm "yes", x)).getD (nm "no", ixT (ableK s hs) 0) := by
    unfold v__law_opened
    simp only [bnd_eq]
    rw [foldF_find (fun x => decide (v__law_after s hs x = [])) (fun x => (nm "yes", x)) hL]
    exact congrArg (fun z => ((yesK s hs).map fun x => (nm "yes", x)).getD (nm "no", ixT z 0)) (ableL_eq s hs)
  have hl := H.len
  have hev := ev_16 ms H
  have hal : (ableK s hs).length ≤ 16 := Nat.le_trans (List.length_filter_le _ _) (num16 hev).2.1
  refine ⟨eP.trans eL.symm, ?_, ?_, fun h => ?_⟩
  · unfold g_opened
    refine ⟨rgB0 (by omega) (by omega), (pls_g hl).2, okFF_mem _ _ fun _ x hx => (after16 H x s ms (pl_ix H hx)).2.2.1, on_find hP _ fun hn => ?_⟩
    have hn : yesK s hs = none := by rw [← ef]; exact hn
    rw [ableP_eq ms H, bnd_eq, (bolts_eq ms H).1]
    exact ⟨(bolts_eq ms H).2, (sets_g hev).2, fun b hb => g_even16 ms H ((num16 hev).2.2.1 b hb), sizeLe _ (by omega), (ix0 (able_ne ms H hn)).1⟩
  · unfold g__law_opened
    refine ⟨rgB0 (by omega) (by omega), (pls_g hl).1, okFF_mem _ _ fun _ x hx => (after16 H x s ms (pl_ix H hx)).2.2.2, on_find hL _ fun hn => ?_⟩
    have hn : yesK s hs = none := hn
    refine ⟨by decide +kernel, fun x _ _ => ?_, ?_, ?_⟩
    · rw [map_idI]
      exact sizeLe _ (Nat.le_trans (List.length_filter_le _ _) (by omega))
    · rw [map_idI]
      exact sizeLe _ (Nat.le_trans (List.length_filter_le _ _) (by decide))
    · rw [show (((rngT 0 9).filter (fun x_y_2 : Int => ((decide (x_y_2 ∈ s)) || (!decide (((hs.filter (fun x_y_3 : (List Int) => (decide (x_y_2 ∈ x_y_3)))).map (fun x_y_3 : (List Int) => x_y_3)) = ([])))))).map (fun x_y_2 : Int => x_y_2)) = evK s hs from rfl]
      simp only [bnd_eq]
      rw [ableL_eq s hs]
      refine ⟨(sets_g hev).1, fun b _ => ⟨(g_odd16 s b (s16_bd ms).1).1, fun _ => ⟨fun h hh => (g_odd16 h b (s16_bd (H.mem h hh)).1).1, ?_⟩⟩, sizeLe _ (by omega), (ix0 (able_ne ms H hn)).1⟩
      rw [map_idI]
      exact sizeLe _ (Nat.le_trans (List.length_filter_le _ _) (by omega))
  · rw [eP] at h ⊢
    cases q : yesK s hs with
    | some x =>
      rw [q] at h
      exact absurd (show nm "yes" = nm "no" from h) (by decide)
    | none =>
      exact (num16 hev).2.2.1 _ (List.mem_filter.mp (ix0 (able_ne ms H q)).2).1
/-! ### spare handles, the worst state, states -/
def othK (hs : List (List Int)) (k : Int) : List (List Int) := (cutD hs none (some k)) ++ (cutD hs (some (k + 1)) none)
theorem oth_ok {hs : List (List Int)} (H : HsOk hs) {k : Int} (h0 : 0 ≤ k) (h1 : k < (hs.length : Int)) : HsOk (othK hs k) ∧ (cutD hs none (some k)).length + (cutD hs (some (k + 1)) none).length ≤ 4 := by
  have e1 := cut_to hs k.toNat (by omega)
  have e2 := cut_from hs (k.toNat + 1) (by omega)
  rw [show ((k.toNat : Nat) : Int) = k by omega] at e1
  rw [show ((k.toNat + 1 : Nat) : Int) = k + 1 by omega] at e2
  unfold othK
  rw [e1, e2]
  have hl := H.len
  refine ⟨⟨by rw [List.length_append, List.length_take, List.length_drop]; omega, fun h hh => ?_⟩, by rw [List.length_take, List.length_drop]; omega⟩
  rcases List.mem_append.mp hh with q | q
  · exact H.mem h (List.mem_of_mem_take q)
  · exact H.mem h (List.mem_of_mem_drop q)
def spareK (hs : List (List Int)) : List Int := ((rngT 0 (hs.length : Int)).filter (fun x_y_8 : Int => (decide (((v__law_opened (ixT hs x_y_8) (othK hs x_y_8)).1) = (nm "yes"))))).map (fun x_y_8 : Int => x_y_8)
theorem spare16 {hs : List (List Int)} (H : HsOk hs) : v_spare_handles hs = spareK hs ∧ g_spare_handles hs := by
  have hl := H.len
  have st : ∀ (acc : List Int) (k : Int), k ∈ rngT 0 (hs.length : Int) → v_spare_handles_L1 hs acc k = acc ++ cond (decide (((v__law_opened (ixT hs k) (othK hs k)).1) = (nm "yes"))) [k] [] := fun acc k hk => by
    have hk := mem_rng.mp hk
    have io : ixOk hs k := ixOk_of hk.1 hk.2
    have := (opened16 (H.mem _ (ixT_mem io)) (oth_ok H hk.1 hk.2).1).1
    unfold v_spare_handles_L1
    simp only [bnd_eq]
    rw [show (cutD hs none (some k)) ++ (cutD hs (some (k + 1)) none) = othK hs k from rfl, this]
    cases decide (((v__law_opened (ixT hs k) (othK hs k)).1) = (nm "yes")) with
    | true => rfl
    | false => simp
  have keep : ∀ (xs : List Int) (acc : List Int), (∀ k ∈ xs, k ∈ rngT 0 (hs.length : Int)) → xs.foldl (v_spare_handles_L1 hs) acc = acc ++ xs.filter (fun k => decide (((v__law_opened (ixT hs k) (othK hs k)).1) = (nm "yes"))) := by
    intro xs
    induction xs with
    | nil => intro acc _; simp
    | cons x xs ih =>
      intro acc h
      rw [List.foldl_cons, st acc x (h x List.mem_cons_self), ih _ fun y hy => h y (List.mem_cons_of_mem _ hy), List.filter_cons]
      cases decide (((v__law_opened (ixT hs x) (othK hs x)).1) = (nm "yes")) <;> simp
  constructor
  · unfold v_spare_handles spareK
    simp only [bnd_eq]
    rw [map_idI, keep _ _ fun k hk => hk, List.nil_append]
  · unfold g_spare_handles
    rw [bnd_eq]
    refine ⟨bdI_of (by omega) (by omega), ?_⟩
    have go : ∀ (xs : List Int) (acc : List Int), (∀ k ∈ xs, k ∈ rngT 0 (hs.length : Int)) → acc.length + xs.length ≤ 4 → okF (v_spare_handles_L1 hs) (g_spare_handles_L1 hs) acc xs := by
      intro xs
      induction xs with
      | nil => exact fun _ _ _ => trivial
      | cons x xs ih =>
        intro acc h hz
        have hx := h x List.mem_cons_self
        have hk := mem_rng.mp hx
        have io : ixOk hs x := ixOk_of hk.1 hk.2
        obtain ⟨o1, o2⟩ := oth_ok H hk.1 hk.2
        have op := opened16 (H.mem _ (ixT_mem io)) o1
        rw [List.length_cons] at hz
        refine ⟨?_, ih _ (fun y hy => h y (List.mem_cons_of_mem _ hy)) ?_⟩
        · unfold g_spare_handles_L1
          rw [bnd_eq]
          exact ⟨sizeLe _ (by omega), io, op.2.1, fun _ => by rw [sizeLine_eq]; omega⟩
        · rw [st acc x hx, List.length_append]
          cases decide (((v__law_opened (ixT hs x) (othK hs x)).1) = (nm "yes")) <;> simp <;> omega
    exact go _ _ (fun k hk => hk) (by rw [rng_len]; simp; omega)
theorem worst16 {hs : List (List Int)} (H : HsOk hs) {m : Int} (m0 : 0 ≤ m) (m1 : m ≤ 4) (r : Nat) : v_worst_state m hs = (v__law_sets (rngT 0 m)).foldl (v_law_L3 (hs, r)) (0, []) ∧ g_worst_state m hs ∧ ∀ s ∈ v__law_sets (rngT 0 m), s ∈ S16 := by
  have hm : rngT 0 m ∈ S16 := s16_of (rng_sub m0 m1)
  have hs16 := (num16 hm).2.2.1
  refine ⟨?_, ?_, hs16⟩
  · unfold v_worst_state
    simp only [bnd_eq]
    have go : ∀ (xs : List (List Int)) (b : Int × List Int), (∀ s ∈ xs, s ∈ S16) → xs.foldl (v_worst_state_L1 hs) b = xs.foldl (v_law_L3 (hs, r)) b := by
      intro xs
      induction xs with
      | nil => exact fun _ _ => rfl
      | cons x xs ih =>
        intro b h
        rw [List.foldl_cons, List.foldl_cons]
        rw [show v_worst_state_L1 hs b x = v_law_L3 (hs, r) b x by
          unfold v_worst_state_L1 v_law_L3
          rw [(opened16 (h x List.mem_cons_self) H).1]]
        exact ih _ fun y hy => h y (List.mem_cons_of_mem _ hy)
    exact go _ _ hs16
  · unfold g_worst_state
    rw [bnd_eq]
    refine ⟨rgB0 (by omega) (by omega), (sets_g hm).2, okF_mem _ _ fun _ x hx => (opened16 (hs16 x hx) H).2.1⟩
/-! ### what is told as bolts that show it -/
def r1K (t : D) : Bool := (isY "tuple" t) && ((((itsY t).filter (fun x_y_11 : D => ((!(v__law_is_number x_y_11)) || (decide (((dInt x_y_11).getD default) < 0))))).map (fun x_y_11 : D => x_y_11)).isEmpty)
def decK (t : D) : List Int := ((dTp dInt) t).getD default
/-- what holds of a thing whatever the state -/
def GdT (t : D) : Prop := g_is_number_set t ∧ (v_is_number_set t = true → (dTp dInt t).isSome = true) ∧ ((isY "tuple" t) = true → (seqY t = true ∧ (∀ x_y_11 ∈ (itsY t), (!(v__law_is_number x_y_11)) = false → (dInt x_y_11).isSome = true) ∧ (((itsY t).filter (fun x_y_11 : D => ((!(v__law_is_number x_y_11)) || (decide (((dInt x_y_11).getD default) < 0))))).map (fun x_y_11 : D => x_y_11)).length ≤ sizeLine ∧ SeqAt.shaped (eLs eD (((itsY t).filter (fun x_y_11 : D => ((!(v__law_is_number x_y_11)) || (decide (((dInt x_y_11).getD default) < 0))))).map (fun x_y_11 : D => x_y_11))) = true)) ∧ (r1K t = true → ((dTp dInt t).isSome = true ∧ (decK t).length ≤ 4000 ∧ (ddp (decK t)).length < 64)) ∧ ((v_is_number_set t = (r1K t && decide (decK t = srtSet (decK t)))) ∨ (decK t = [-1] ∧ r1K t = false))
instance (t : D) : Decidable (GdT t) := by unfold GdT; infer_instance
theorem ifT {b : Bool} {A : Prop} (h : A) : b = true → A := fun _ => h
theorem L4_ok {s : List Int} {hs : List (List Int)} (ms : s ∈ S16) (H : HsOk hs) {t : D} (g : GdT t) (r r' : Nat) : v_law_L4 (hs, r) (s, r') () t = .nx () ∧ g_law_L4 (hs, r) (s, r') () t := by
  obtain ⟨g1, g2, g3, g4, g5⟩ := g
  have hl := H.len
  constructor
  · unfold v_law_L4
    simp only [bnd_eq]
    rw [show ((isY "tuple" t) && ((((itsY t).filter (fun x_y_11 : D => ((!(v__law_is_number x_y_11)) || (decide (((dInt x_y_11).getD default) < 0))))).map (fun x_y_11 : D => x_y_11)).isEmpty)) = r1K t from rfl]
    have e : v_are_even s hs t = (r1K t && ((decide (decK t = srtSet (decK t))) && ((v__law_odd s (decK t)) && (decide (((hs.filter (fun x_y_12 : (List Int) => (v__law_odd x_y_12 (decK t)))).map (fun x_y_12 : (List Int) => x_y_12)) = ([])))))) := by
      unfold v_are_even
      rw [show (((dTp dInt) t).getD default) = decK t from rfl, even_core]
      rw [show ((v__law_odd s (decK t)) && (decide (((hs.filter (fun x_y_12 : (List Int) => (v__law_odd x_y_12 (decK t)))).map (fun x_y_12 : (List Int) => x_y_12)) = ([])))) = showK s hs (decK t) from rfl]
      rcases g5 with h | ⟨h1, h2⟩
      · rw [h, ← Bool.and_assoc]
        cases (r1K t && decide (decK t = srtSet (decK t))) <;> rfl
      · rw [h2, h1]
        have : showK s hs [-1] = false := by
          rw [Bool.eq_false_iff]
          intro z
          have := ((show_iff s hs _).mp z).1
          unfold v__law_odd at this
          rw [show (s.filter fun x_y : Int => decide (x_y ∈ [(-1 : Int)])) = [] from List.filter_eq_nil_iff.mpr fun x hx q => by
            have h := (s16_bd ms).2 x hx
            have q := List.mem_singleton.mp (of_decide_eq_true q)
            omega] at this
          exact absurd this (by decide)
        rw [this]
        cases v_is_number_set t <;> rfl
    rw [show (((dTp dInt) t).getD default) = decK t from rfl, ← e]
    cases v_are_even s hs t <;> rfl
  · unfold g_law_L4
    refine ⟨g3, ?_⟩
    simp only [bnd_eq]
    refine ⟨fun q => ?_, g_even (s16_bd ms).1 H g1 g2⟩
    obtain ⟨d, k1, k2⟩ := g4 q
    refine ⟨d, d, k1, k2, fun _ => ⟨d, (g_odd16 _ _ (s16_bd ms).1).1, fun _ => ⟨fun x hx => ⟨d, (g_odd16 _ _ (s16_bd (H.mem x hx)).1).1⟩, ?_⟩⟩⟩
    rw [map_idI]
    exact sizeLe _ (Nat.le_trans (List.length_filter_le _ _) (by omega))
def thK (own : List Int) (m : Int) : List D := [((eTp eInt) own), ((eTp eInt) own.reverse), ((eLs eInt) own), ((eOp eInt) none), ((eTp eInt) ([])), ((eTp eInt) (cutD own (some 1) none)), ((eTp eInt) (own ++ ([3]))), ((eTp eInt) (own ++ (cutD own (some (-1)) none))), ((eTp eBool) ([true])), ((eTp eInt) ([(-1)])), ((eP2 eInt eInt) (0, 1)), ((eTp eNm) ([(nm "a")])), ((eTp eInt) (rngT 0 m)), ((eP2 eInt (eOp eInt)) (0, none))]
theorem th_chk : S16.all (fun own => (List.range 5).all fun m => (thK own (m : Int)).all fun t => decide (GdT t)) = true := by decide +kernel
theorem th_ok {own : List Int} (h : own ∈ S16) {m : Int} (m0 : 0 ≤ m) (m1 : m ≤ 4) : ∀ t ∈ thK own m, GdT t := fun t ht => by
  have := List.all_eq_true.mp (List.all_eq_true.mp th_chk own h) m.toNat (List.mem_range.mpr (by omega))
  rw [show ((m.toNat : Nat) : Int) = m by omega] at this
  exact of_decide_eq_true (List.all_eq_true.mp this t ht)
end DL

set_option maxHeartbeats 4000000
/-! k46: the turn, the law. -/
namespace DL
open PySem L2
theorem loop_nx {α R : Type} {st : Unit → α → Fw Unit R} : ∀ {xs : List α}, (∀ x ∈ xs, st () x = .nx ()) → foldF st () xs = .nx ()
  | [], _ => rfl
  | x :: xs, h => by
    rw [foldF, h x List.mem_cons_self]
    exact loop_nx fun y hy => h y (List.mem_cons_of_mem _ hy)
theorem lcS_sub {α : Type} {st : Nat → α → Option α × Nat} (h : ∀ a x, (st a x).1 = some x ∨ (st a x).1 = none) : ∀ (xs : List α) (a : Nat), (lcS st a xs).1.Sublist xs
  | [], a => .slnil
  | x :: xs, a => by
    rw [lcS]
    dsimp only
    rcases h a x with e | e
    · rw [e]
      exact (lcS_sub h xs _).cons_cons _
    · rw [e]
      exact (lcS_sub h xs _).cons _
theorem st_ok (ds : List Int) {m : Int} (m0 : 0 ≤ m) (m1 : m ≤ 4) (a : Nat) : (lcS (fun (x_a_2 : Nat) (x_y_3 : Int) => cond (decide ((nxt ds x_a_2 2) = 0)) (some x_y_3, x_a_2 + 1) (none, x_a_2 + 1)) a (rngT 0 m)).1 ∈ S16 := by
  refine s16_of ((lcS_sub (fun a x => ?_) _ _).trans (rng_sub m0 m1))
  cases decide ((nxt ds a 2) = 0) with
  | true => exact .inl rfl
  | false => exact .inr rfl
theorem ifCond {α : Type} {b : Bool} {x y : α} {P : α → Prop} (h1 : b = true → P x) (h2 : b = false → P y) : P (cond b x y) := by
  cases b with
  | true => exact h1 rfl
  | false => exact h2 rfl
theorem go_R1 {m : Int} (m0 : 0 ≤ m) (m1 : m ≤ 4) {hs : List (List Int)} (H : HsOk hs) {s : List Int} (ms : s ∈ S16) (n r q : Nat) (row : List Int) (k : Nat) (sets : List (List Int)) : Go (v_law_R1 (m, n) (hs, r) (s, q) (row, k) (v_opened s hs, sets)) (g_law_R1 (m, n) (hs, r) (s, q) (row, k) (v_opened s hs, sets)) := by
  unfold v_law_R1 g_law_R1
  try dsimp only
  refine .bnd fun own hown => ?_
  have mo : own ∈ S16 := by
    rw [hown]
    refine ifCond (P := fun z => z ∈ S16) (fun h => (opened16 ms H).2.2.2 (of_decide_eq_true h)) fun _ => ms
  have hl := (s16_bd mo).1
  have ht := th_ok mo m0 m1
  have e : foldF (v_law_L4 (hs, r) (s, q)) () (thK own m) = .nx () := loop_nx fun t h => (L4_ok ms H (ht t h) r q).1
  refine .and (by rw [sizeLine_eq]; simp; omega) (.and ?_ (.and (rgB0 m0 (by omega)) ⟨⟨k, ?_⟩, okFF_mem _ _ fun _ t h => (L4_ok ms H (ht t h) r q).2⟩))
  · have : (cutD own (some (-1)) none).length ≤ 4 := by
      have k : S16.all (fun own => decide ((cutD own (some (-1)) none).length ≤ 4)) = true := by decide +kernel
      exact of_decide_eq_true (List.all_eq_true.mp k own mo)
    exact sizeLe _ (by omega)
  · show Fw.on (foldF (v_law_L4 (hs, r) (s, q)) () (thK own m)) _ _ = _
    rw [e]
    rfl
theorem notT {α : Type} [DecidableEq α] {a b : α} (h : a = b) : (!decide (a = b)) = false := by rw [decide_eq_true h]; rfl
theorem go_R8 {m : Int} (m0 : 0 ≤ m) (m1 : m ≤ 4) {hs : List (List Int)} (H : HsOk hs) {s : List Int} (ms : s ∈ S16) (n r q : Nat) (row : List Int) (k : Nat) : Go (v_law_R8 (m, n) (hs, r) (s, q) (row, k)) (g_law_R8 (m, n) (hs, r) (s, q) (row, k)) := by
  have op := opened16 ms H
  have hl := H.len
  have hp := pls hl
  unfold v_law_R8 g_law_R8
  try dsimp only
  refine .and op.2.1 (.and (rgB0 (by omega) (by omega)) (.and (pls_g hl).1 (.bnd fun ts hts => ?_)))
  subst hts
  unfold v_law_R7 g_law_R7
  try dsimp only
  have af : ∀ x ∈ plsK hs.length, _ := fun x hx => after16 H x s ms (pl_ix H hx)
  have gst : g_states_from s hs := by
    unfold g_states_from
    refine ⟨rgB0 (by omega) (by omega), (pls_g hl).2, fun x hx => (af x hx).2.2.1, sizeLe _ (Nat.le_trans hp.2.1 (by omega)), ?_⟩
    rw [List.length_map]
    exact Nat.lt_of_le_of_lt hp.2.1 (by omega)
  have vst : v_states_from s hs = ((ddp ((v__law_sets (rngT 0 (hs.length : Int))).map (fun x_y_7 : (List Int) => (v__law_after s hs x_y_7)))).length : Int) := by
    unfold v_states_from
    rw [List.map_congr_left (f := fun x_y : List Int => v_after s hs x_y) (g := fun x_y : List Int => v__law_after s hs x_y) (l := v_all_sets (rngT 0 (hs.length : Int))) fun x hx => (af x hx).1]
    rfl
  refine .and op.2.2.1 (.and (fun _ => ⟨gst, fun x hx => (af x hx).2.2.2, sizeLe _ (Nat.le_trans hp.2.1 (by omega)), by rw [List.length_map]; exact Nat.lt_of_le_of_lt hp.2.1 (by omega)⟩) (.if (by rw [notT op.1, notT vst]; rfl) ?_))
  unfold v_law_R6 g_law_R6
  try dsimp only
  obtain ⟨sp1, sp2⟩ := spare16 H
  refine .and (bdI_of (by omega) (by omega)) (.and (fun x hx => ?_) (.and ?_ (.bnd fun spare hsp => ?_)))
  · have hx := mem_rng.mp hx
    have io : ixOk hs x := ixOk_of hx.1 hx.2
    obtain ⟨o1, o2⟩ := oth_ok H hx.1 hx.2
    exact ⟨io, sizeLe _ (by omega), (opened16 (H.mem _ (ixT_mem io)) o1).2.2.1⟩
  · rw [List.length_map]
    refine sizeLe _ (Nat.le_trans (List.length_filter_le _ _) ?_)
    rw [rng_len]
    omega
  unfold v_law_R5 g_law_R5
  try dsimp only
  have hsp : v_spare_handles hs = spare := sp1.trans hsp.symm
  refine .and sp2 (.if (notT hsp) ?_)
  unfold v_law_R4 g_law_R4
  try dsimp only
  refine .bnd fun b0 hb0 => ?_
  subst hb0
  unfold v_law_R3 g_law_R3
  try dsimp only
  obtain ⟨w1, w2, w3⟩ := worst16 H m0 m1 r
  refine .and (rgB0 m0 (by omega)) (.and (sets_g (s16_of (rng_sub m0 m1))).1 (.and (okF_mem _ _ fun _ x hx => (opened16 (w3 x hx) H).2.2.1) (.bnd fun b1 hb1 => ?_)))
  unfold v_law_R2 g_law_R2
  try dsimp only
  exact .and w2 (.if (notT (w1.trans hb1.symm)) (go_R1 m0 m1 H ms n r q row k _))
theorem turn_ok (ds : List Int) (a : Nat) (x : Int) : Go (v_law_L1 ds a x) (g_law_L1 ds a x) := by
  unfold v_law_L1 g_law_L1
  have n0 := nxt_lo ds a 4 (by omega)
  have n1 := nxt_hi ds a 4 (by omega)
  refine .bnd fun mp hm => ?_
  obtain ⟨m, n⟩ := mp
  simp only [Prod.mk.injEq] at hm
  have m0 : 0 ≤ m := by omega
  have m1 : m ≤ 4 := by omega
  unfold v_law_R13 g_law_R13
  try dsimp only
  have h0 := nxt_lo ds n 5 (by omega)
  have h1 := nxt_hi ds n 5 (by omega)
  have hb : bdI m = true := bdI_of (by omega) (by omega)
  have hlen : (rngT 0 m).length ≤ sizeLine := by rw [rng_len]; exact sizeLe _ (by omega)
  refine .and (bdI_of (by omega) (by omega)) (.and (okS_all (fun _ _ _ => ⟨hb, hlen⟩) _ _) (.and (by rw [rng_len]; exact sizeLe _ (by omega)) (.bnd fun hp hhp => ?_)))
  have H : HsOk hp.1 := by
    rw [hhp]
    have lm := lcS_mem (st := (fun (x_a : Nat) (x_y_2 : Int) => cond true (some ((lcS (fun (x_a_2 : Nat) (x_y_3 : Int) => cond (decide ((nxt ds x_a_2 2) = 0)) (some x_y_3, x_a_2 + 1) (none, x_a_2 + 1)) x_a (rngT 0 m)).1), (lcS (fun (x_a_2 : Nat) (x_y_3 : Int) => cond (decide ((nxt ds x_a_2 2) = 0)) (some x_y_3, x_a_2 + 1) (none, x_a_2 + 1)) x_a (rngT 0 m)).2) (none, x_a))) (rngT 0 (nxt ds n 5)) (n + 1)
    refine ⟨Nat.le_trans lm.1 (by rw [rng_len]; omega), fun h hh => ?_⟩
    obtain ⟨b, y, _, e⟩ := lm.2 h hh
    cases (Option.some.inj e)
    exact st_ok ds m0 m1 b
  obtain ⟨hs, r⟩ := hp
  unfold v_law_R12 g_law_R12
  try dsimp only
  refine .and hb (.and hlen (.bnd fun sp hsp => ?_))
  have ms : sp.1 ∈ S16 := by
    rw [hsp]
    exact st_ok ds m0 m1 r
  obtain ⟨s, q⟩ := sp
  have hl := H.len
  unfold v_law_R11 g_law_R11
  try dsimp only
  have e2 : foldF (v_law_L2 (s, q)) () hs = .nx () := loop_nx fun h hh => by
    unfold v_law_L2
    dsimp only
    rw [notT (t16 ms (H.mem h hh)).1]
    rfl
  have hgo : Go (v_law_R10 ds (m, n) (hs, r) (s, q)) (g_law_R10 ds (m, n) (hs, r) (s, q)) := by
    unfold v_law_R10 g_law_R10
    try dsimp only
    have k0 := nxt_lo ds q 5 (by omega)
    have k1 := nxt_hi ds q 5 (by omega)
    refine .and (fun z => ⟨bdI_of (by omega) (by omega), okS_all (fun _ _ _ => ?_) _ _, by rw [rng_len]; exact sizeLe _ (by omega)⟩) (.bnd fun rp hrp => ?_)
    · cases hs with
      | nil => simp at z
      | cons y l => simp; omega
    have hrow : ∀ y ∈ rp.1, 0 ≤ y ∧ y < (hs.length : Int) := by
      rw [hrp]
      dsimp only
      refine ifCond (P := fun z : List Int => ∀ y ∈ z, 0 ≤ y ∧ y < (hs.length : Int)) (fun z y hy => ?_) fun _ y hy => by cases hy
      obtain ⟨_, h2⟩ := lcS_map (fun (a : Nat) (_ : Int) => nxt ds a (hs.length : Int)) 1 (rngT 0 (nxt ds q 5)) (q + 1)
      obtain ⟨b, _, _, e⟩ := h2 y hy
      have hpos : (0 : Int) < (hs.length : Int) := by
        cases hs with
        | nil => simp at z
        | cons y l => simp
      rw [e]
      exact ⟨nxt_lo ds b _ hpos, nxt_hi ds b _ hpos⟩
    obtain ⟨row, k⟩ := rp
    obtain ⟨af1, _, af3, af4⟩ := after16 H row s ms hrow
    unfold v_law_R9 g_law_R9
    try dsimp only
    exact .and af3 (.and af4 (.if (notT af1) (go_R8 m0 m1 H ms n r q row k)))
  rw [e2]
  exact ⟨hgo.1, okFF_mem _ _ fun _ h hh => by
    unfold g_law_L2
    exact g_turn16 ms (H.mem h hh), hgo.2⟩
theorem law_holds (ns : List Int) (h : ns.length ≤ 63) : m_law [.list (ns.map .int)] = some (.bool true) := by
  obtain ⟨ds, ed⟩ := draws_ok ns h 300 (by omega)
  obtain ⟨e, ok⟩ := law_turns (turn_ok ds) (rngT 0 4) 0
  have hv : v_law ds = true := e
  have := c_law ds (.list (ns.map .int)) ed ⟨by decide +kernel, ok⟩
  rw [hv] at this
  exact this
end DL

set_option maxHeartbeats 4000000
namespace DL
open PySem PySem.Spec L2 PyProof.Rows
/-! ### the text -/
def topS (i : Nat) : Stmt := PySem.Challenge.pw_bondslaid_k46_whole_bolts_that_turn_toge.main.body.getD i (.Pass ⟨0, 0, 0, 0⟩)
abbrev S_is_number : Stmt := topS 1
theorem sc_is_number : FnScope ["thing"] ["thing"] (defScope S_is_number) := ⟨rfl, rfl, rfl, by decide +kernel, rfl, by decide +kernel, by decide +kernel⟩
abbrev S_is_ascending : Stmt := topS 2
theorem sc_is_ascending : FnScope ["things", "k"] ["things"] (defScope S_is_ascending) := ⟨rfl, rfl, rfl, by decide +kernel, rfl, by decide +kernel, by decide +kernel⟩
abbrev S_is_number_set : Stmt := topS 3
theorem sc_is_number_set : FnScope ["thing", "one"] ["thing"] (defScope S_is_number_set) := ⟨rfl, rfl, rfl, by decide +kernel, rfl, by decide +kernel, by decide +kernel⟩
abbrev S_set_of : Stmt := topS 4
theorem sc_set_of : FnScope ["things"] ["things"] (defScope S_set_of) := ⟨rfl, rfl, rfl, by decide +kernel, rfl, by decide +kernel, by decide +kernel⟩
abbrev S_sets_of : Stmt := topS 5
theorem sc_sets_of : FnScope ["things", "many", "found", "_", "row", "one"] ["things", "many"] (defScope S_sets_of) := ⟨rfl, rfl, rfl, by decide +kernel, rfl, by decide +kernel, by decide +kernel⟩
abbrev S_all_sets : Stmt := topS 6
theorem sc_all_sets : FnScope ["things", "found", "many"] ["things"] (defScope S_all_sets) := ⟨rfl, rfl, rfl, by decide +kernel, rfl, by decide +kernel, by decide +kernel⟩
abbrev S_turned_by : Stmt := topS 8
theorem sc_turned_by : FnScope ["state", "handle", "gone", "bolt"] ["state", "handle"] (defScope S_turned_by) := ⟨rfl, rfl, rfl, by decide +kernel, rfl, by decide +kernel, by decide +kernel⟩
abbrev S_after : Stmt := topS 9
theorem sc_after : FnScope ["state", "handles", "row", "k"] ["state", "handles", "row"] (defScope S_after) := ⟨rfl, rfl, rfl, by decide +kernel, rfl, by decide +kernel, by decide +kernel⟩
abbrev S_bolts_of : Stmt := topS 10
theorem sc_bolts_of : FnScope ["state", "handles", "handle", "bolt"] ["state", "handles"] (defScope S_bolts_of) := ⟨rfl, rfl, rfl, by decide +kernel, rfl, by decide +kernel, by decide +kernel⟩
abbrev S_meets_odd : Stmt := topS 11
theorem sc_meets_odd : FnScope ["one", "other", "bolt"] ["one", "other"] (defScope S_meets_odd) := ⟨rfl, rfl, rfl, by decide +kernel, rfl, by decide +kernel, by decide +kernel⟩
abbrev S_are_even : Stmt := topS 12
theorem sc_are_even : FnScope ["state", "handles", "bolts", "handle"] ["state", "handles", "bolts"] (defScope S_are_even) := ⟨rfl, rfl, rfl, by decide +kernel, rfl, by decide +kernel, by decide +kernel⟩
abbrev S_opened : Stmt := topS 13
theorem sc_opened : FnScope ["state", "handles", "places", "able", "bolts"] ["state", "handles"] (defScope S_opened) := ⟨rfl, rfl, rfl, by decide +kernel, rfl, by decide +kernel, by decide +kernel⟩
abbrev S_states_from : Stmt := topS 14
theorem sc_states_from : FnScope ["state", "handles", "places"] ["state", "handles"] (defScope S_states_from) := ⟨rfl, rfl, rfl, by decide +kernel, rfl, by decide +kernel, by decide +kernel⟩
abbrev S_spare_handles : Stmt := topS 15
theorem sc_spare_handles : FnScope ["handles", "found", "k", "others"] ["handles"] (defScope S_spare_handles) := ⟨rfl, rfl, rfl, by decide +kernel, rfl, by decide +kernel, by decide +kernel⟩
abbrev S_worst_state : Stmt := topS 16
theorem sc_worst_state : FnScope ["many", "handles", "best", "state", "word", "told"] ["many", "handles"] (defScope S_worst_state) := ⟨rfl, rfl, rfl, by decide +kernel, rfl, by decide +kernel, by decide +kernel⟩
abbrev S__law_draws : Stmt := topS 18
theorem sc__law_draws : FnScope ["script", "many", "draws", "mixed", "k", "cell", "rest", "turn"] ["script", "many"] (defScope S__law_draws) := ⟨rfl, rfl, rfl, by decide +kernel, rfl, by decide +kernel, by decide +kernel⟩
abbrev S__law_next : Stmt := topS 19
theorem sc__law_next : FnScope ["w", "many"] ["w", "many"] (defScope S__law_next) := ⟨rfl, rfl, rfl, by decide +kernel, rfl, by decide +kernel, by decide +kernel⟩
abbrev S__law_is_number : Stmt := topS 20
theorem sc__law_is_number : FnScope ["thing"] ["thing"] (defScope S__law_is_number) := ⟨rfl, rfl, rfl, by decide +kernel, rfl, by decide +kernel, by decide +kernel⟩
abbrev S__law_is_bit : Stmt := topS 21
theorem sc__law_is_bit : FnScope ["said", "due"] ["said", "due"] (defScope S__law_is_bit) := ⟨rfl, rfl, rfl, by decide +kernel, rfl, by decide +kernel, by decide +kernel⟩
abbrev S__law_sets : Stmt := topS 22
theorem sc__law_sets : FnScope ["things", "found", "layer", "k", "longer", "row", "thing"] ["things"] (defScope S__law_sets) := ⟨rfl, rfl, rfl, by decide +kernel, rfl, by decide +kernel, by decide +kernel⟩
abbrev S__law_turned : Stmt := topS 23
theorem sc__law_turned : FnScope ["state", "handle", "bolt"] ["state", "handle"] (defScope S__law_turned) := ⟨rfl, rfl, rfl, by decide +kernel, rfl, by decide +kernel, by decide +kernel⟩
abbrev S__law_after : Stmt := topS 24
theorem sc__law_after : FnScope ["state", "handles", "row", "k"] ["state", "handles", "row"] (defScope S__law_after) := ⟨rfl, rfl, rfl, by decide +kernel, rfl, by decide +kernel, by decide +kernel⟩
abbrev S__law_odd : Stmt := topS 25
theorem sc__law_odd : FnScope ["one", "other", "many", "bolt"] ["one", "other"] (defScope S__law_odd) := ⟨rfl, rfl, rfl, by decide +kernel, rfl, by decide +kernel, by decide +kernel⟩
abbrev S__law_opened : Stmt := topS 26
theorem sc__law_opened : FnScope ["state", "handles", "places", "every", "able", "bolt", "handle", "bolts"] ["state", "handles"] (defScope S__law_opened) := ⟨rfl, rfl, rfl, by decide +kernel, rfl, by decide +kernel, by decide +kernel⟩
abbrev S_law : Stmt := topS 27
theorem sc_law : FnScope ["script", "w", "turn", "many", "handles", "state", "handle", "row", "told", "sets", "spare", "best", "own", "word", "places", "thing", "right", "n", "k", "bolt", "some"] ["script"] (defScope S_law) := ⟨rfl, rfl, rfl, by decide +kernel, rfl, by decide +kernel, by decide +kernel⟩
structure Tx (K : PySem.W.Frag) (mg : Str → Option Value) where
  f_is_number : Addr
  d_is_number : FuncData
  F_is_number : Fun K "is_number" "is_number" S_is_number f_is_number d_is_number
  b_is_number : Binds K d_is_number ["thing"] []
  g_is_number : mg "is_number" = some (.ref f_is_number)
  f_is_ascending : Addr
  d_is_ascending : FuncData
  F_is_ascending : Fun K "is_ascending" "is_ascending" S_is_ascending f_is_ascending d_is_ascending
  b_is_ascending : Binds K d_is_ascending ["things"] []
  g_is_ascending : mg "is_ascending" = some (.ref f_is_ascending)
  f_is_number_set : Addr
  d_is_number_set : FuncData
  F_is_number_set : Fun K "is_number_set" "is_number_set" S_is_number_set f_is_number_set d_is_number_set
  b_is_number_set : Binds K d_is_number_set ["thing"] []
  g_is_number_set : mg "is_number_set" = some (.ref f_is_number_set)
  f_set_of : Addr
  d_set_of : FuncData
  F_set_of : Fun K "set_of" "set_of" S_set_of f_set_of d_set_of
  b_set_of : Binds K d_set_of ["things"] []
  g_set_of : mg "set_of" = some (.ref f_set_of)
  f_sets_of : Addr
  d_sets_of : FuncData
  F_sets_of : Fun K "sets_of" "sets_of" S_sets_of f_sets_of d_sets_of
  b_sets_of : Binds K d_sets_of ["things", "many"] []
  g_sets_of : mg "sets_of" = some (.ref f_sets_of)
  f_all_sets : Addr
  d_all_sets : FuncData
  F_all_sets : Fun K "all_sets" "all_sets" S_all_sets f_all_sets d_all_sets
  b_all_sets : Binds K d_all_sets ["things"] []
  g_all_sets : mg "all_sets" = some (.ref f_all_sets)
  f_turned_by : Addr
  d_turned_by : FuncData
  F_turned_by : Fun K "turned_by" "turned_by" S_turned_by f_turned_by d_turned_by
  b_turned_by : Binds K d_turned_by ["state", "handle"] []
  g_turned_by : mg "turned_by" = some (.ref f_turned_by)
  f_after : Addr
  d_after : FuncData
  F_after : Fun K "after" "after" S_after f_after d_after
  b_after : Binds K d_after ["state", "handles", "row"] []
  g_after : mg "after" = some (.ref f_after)
  f_bolts_of : Addr
  d_bolts_of : FuncData
  F_bolts_of : Fun K "bolts_of" "bolts_of" S_bolts_of f_bolts_of d_bolts_of
  b_bolts_of : Binds K d_bolts_of ["state", "handles"] []
  g_bolts_of : mg "bolts_of" = some (.ref f_bolts_of)
  f_meets_odd : Addr
  d_meets_odd : FuncData
  F_meets_odd : Fun K "meets_odd" "meets_odd" S_meets_odd f_meets_odd d_meets_odd
  b_meets_odd : Binds K d_meets_odd ["one", "other"] []
  g_meets_odd : mg "meets_odd" = some (.ref f_meets_odd)
  f_are_even : Addr
  d_are_even : FuncData
  F_are_even : Fun K "are_even" "are_even" S_are_even f_are_even d_are_even
  b_are_even : Binds K d_are_even ["state", "handles", "bolts"] []
  g_are_even : mg "are_even" = some (.ref f_are_even)
  f_opened : Addr
  d_opened : FuncData
  F_opened : Fun K "opened" "opened" S_opened f_opened d_opened
  b_opened : Binds K d_opened ["state", "handles"] []
  g_opened : mg "opened" = some (.ref f_opened)
  f_states_from : Addr
  d_states_from : FuncData
  F_states_from : Fun K "states_from" "states_from" S_states_from f_states_from d_states_from
  b_states_from : Binds K d_states_from ["state", "handles"] []
  g_states_from : mg "states_from" = some (.ref f_states_from)
  f_spare_handles : Addr
  d_spare_handles : FuncData
  F_spare_handles : Fun K "spare_handles" "spare_handles" S_spare_handles f_spare_handles d_spare_handles
  b_spare_handles : Binds K d_spare_handles ["handles"] []
  g_spare_handles : mg "spare_handles" = some (.ref f_spare_handles)
  f_worst_state : Addr
  d_worst_state : FuncData
  F_worst_state : Fun K "worst_state" "worst_state" S_worst_state f_worst_state d_worst_state
  b_worst_state : Binds K d_worst_state ["many", "handles"] []
  g_worst_state : mg "worst_state" = some (.ref f_worst_state)
  f__law_draws : Addr
  d__law_draws : FuncData
  F__law_draws : Fun K "_law_draws" "_law_draws" S__law_draws f__law_draws d__law_draws
  b__law_draws : Binds K d__law_draws ["script", "many"] []
  g__law_draws : mg "_law_draws" = some (.ref f__law_draws)
  f__law_next : Addr
  d__law_next : FuncData
  F__law_next : Fun K "_law_next" "_law_next" S__law_next f__law_next d__law_next
  b__law_next : Binds K d__law_next ["w", "many"] []
  g__law_next : mg "_law_next" = some (.ref f__law_next)
  f__law_is_number : Addr
  d__law_is_number : FuncData
  F__law_is_number : Fun K "_law_is_number" "_law_is_number" S__law_is_number f__law_is_number d__law_is_number
  b__law_is_number : Binds K d__law_is_number ["thing"] []
  g__law_is_number : mg "_law_is_number" = some (.ref f__law_is_number)
  f__law_is_bit : Addr
  d__law_is_bit : FuncData
  F__law_is_bit : Fun K "_law_is_bit" "_law_is_bit" S__law_is_bit f__law_is_bit d__law_is_bit
  b__law_is_bit : Binds K d__law_is_bit ["said", "due"] []
  g__law_is_bit : mg "_law_is_bit" = some (.ref f__law_is_bit)
  f__law_sets : Addr
  d__law_sets : FuncData
  F__law_sets : Fun K "_law_sets" "_law_sets" S__law_sets f__law_sets d__law_sets
  b__law_sets : Binds K d__law_sets ["things"] []
  g__law_sets : mg "_law_sets" = some (.ref f__law_sets)
  f__law_turned : Addr
  d__law_turned : FuncData
  F__law_turned : Fun K "_law_turned" "_law_turned" S__law_turned f__law_turned d__law_turned
  b__law_turned : Binds K d__law_turned ["state", "handle"] []
  g__law_turned : mg "_law_turned" = some (.ref f__law_turned)
  f__law_after : Addr
  d__law_after : FuncData
  F__law_after : Fun K "_law_after" "_law_after" S__law_after f__law_after d__law_after
  b__law_after : Binds K d__law_after ["state", "handles", "row"] []
  g__law_after : mg "_law_after" = some (.ref f__law_after)
  f__law_odd : Addr
  d__law_odd : FuncData
  F__law_odd : Fun K "_law_odd" "_law_odd" S__law_odd f__law_odd d__law_odd
  b__law_odd : Binds K d__law_odd ["one", "other"] []
  g__law_odd : mg "_law_odd" = some (.ref f__law_odd)
  f__law_opened : Addr
  d__law_opened : FuncData
  F__law_opened : Fun K "_law_opened" "_law_opened" S__law_opened f__law_opened d__law_opened
  b__law_opened : Binds K d__law_opened ["state", "handles"] []
  g__law_opened : mg "_law_opened" = some (.ref f__law_opened)
  f_law : Addr
  d_law : FuncData
  F_law : Fun K "law" "law" S_law f_law d_law
  b_law : Binds K d_law ["script"] []
  g_law : mg "law" = some (.ref f_law)
  z_bool : mg "bool" = none
  z_isinstance : mg "isinstance" = none
  z_int : mg "int" = none
  z_len : mg "len" = none
  z_range : mg "range" = none
  z_all : mg "all" = none
  z_tuple : mg "tuple" = none
  z_sorted : mg "sorted" = none
  z_set : mg "set" = none
  z_list : mg "list" = none
  z_any : mg "any" = none
  z_abs : mg "abs" = none
section
variable {P : Program} {w : World} {K : PySem.W.Frag} {mg : Str → Option Value} {base : Heap}
theorem ok_is_number (T : Tx K mg) : FnOk P w K mg base CX0 1 T.f_is_number T.d_is_number ["thing"] (spD K m_is_number) := fn_d T.F_is_number sc_is_number rfl (by decide) fun cdv A outer s H E hr =>
    (dss_one (ds_ret (de_and (de_isi "int" PyProof.Rows.boot_int T.z_int T.z_isinstance (dod_n 0)) (de_one (de_not (de_isi "bool" PyProof.Rows.boot_bool T.z_bool T.z_isinstance (dod_n 0)))))))
theorem ok_is_ascending (T : Tx K mg) : FnOk P w K mg base CX0 1 T.f_is_ascending T.d_is_ascending ["things"] (spD K m_is_ascending) := fn_d T.F_is_ascending sc_is_ascending rfl (by decide) fun cdv A outer s H E hr =>
    (dss_one (ds_ret (de_b1 (cr_all rfl) ch_all (by rfl) T.z_all boot_all (dod_e (de_o (do_lc [("k", 1)] rfl sc_is_ascending.nd (di_r1 (by rfl) T.z_range (da_cons (de_op op_sub od_sub (dod_e (de_b1 call_lenAll ch_len (by rfl) T.z_len PySem.boot_len (dod_n 0))) (dod_e de_int)) da_nil)) (blkOk_by (by rfl)) (fun _ _ _ _ _ => (dgw_n 1 sc_is_ascending.nd)) (fun _ _ _ _ _ => dts_nil) (fun _ _ _ _ _ => (de_cmp op_lt od_cmpI (dod_e (de_ix (hu_of hr) (dod_n 0) (dod_n 1))) (dod_e (de_ix (hu_of hr) (dod_n 0) (dod_e (de_op op_addD od_add (dod_n 1) (dod_e de_int))))) (nomark _)))))))))
theorem ok_is_number_set (T : Tx K mg) : FnOk P w K mg base CX0 2 T.f_is_number_set T.d_is_number_set ["thing"] (spD K m_is_number_set) := fn_d T.F_is_number_set sc_is_number_set rfl (by decide) fun cdv A outer s H E hr =>
    (dss_one (ds_ret (de_and (de_isi "tuple" PyProof.Rows.boot_tuple T.z_tuple T.z_isinstance (dod_n 0)) (de_and (de_b1 (cr_all rfl) ch_all (by rfl) T.z_all boot_all (dod_e (de_o (do_lc [("one", 1)] rfl sc_is_number_set.nd (di_e (de_var 0)) (blkOk_by (by rfl)) (fun _ _ _ _ _ => (dgw_n 1 sc_is_number_set.nd)) (fun _ _ _ _ _ => dts_nil) (fun _ _ _ _ _ => (de_call (ok_is_number T) (hr.mono (by decide)) (by rfl) T.g_is_number T.F_is_number.kp T.b_is_number pass0 (da_cons (de_var 1) da_nil))))))) (de_one (de_call (ok_is_ascending T) (hr.mono (by decide)) (by rfl) T.g_is_ascending T.F_is_ascending.kp T.b_is_ascending pass0 (da_cons (de_var 0) da_nil)))))))
theorem ok_set_of (T : Tx K mg) : FnOk P w K mg base CX0 1 T.f_set_of T.d_set_of ["things"] (spD K m_set_of) := fn_d T.F_set_of sc_set_of rfl (by decide) fun cdv A outer s H E hr =>
    (dss_one (ds_ret (de_t1 call_tuple_of ch_tup (by rfl) T.z_tuple PyProof.Rows.boot_tuple (dod_e (de_o (do_sortSet rfl (by rfl) T.z_sorted (by rfl) T.z_set (dod_n 0)))))))
theorem ok_sets_of (T : Tx K mg) : FnOk P w K mg base CX0 1 T.f_sets_of T.d_sets_of ["things", "many"] (spD K m_sets_of) := fn_d T.F_sets_of sc_sets_of rfl (by decide) fun cdv A outer s H E hr =>
    (dss_cons (ds_setO 2 sc_sets_of.nd (do_lst (da_cons (de_tup da_nil) da_nil)))
    (dss_cons (ds_for PassesOwn.never rfl (di_r1 (by rfl) T.z_range (da_cons (de_var 1) da_nil)) (dg_n 3 sc_sets_of.nd) (dss_one (ds_setLc2 [("row", 4), ("one", 5)] [5] 2 rfl sc_sets_of.nd (by rfl) (sw_true (by rfl) (by rfl) (by rfl) (by rfl)) (di_e (de_var 2)) (blkOk_by (by rfl)) (by decide) (fun _ _ _ _ _ => (dgw_n 4 sc_sets_of.nd)) (fun _ _ _ _ _ => dts_nil) (fun _ _ _ _ _ => (di_e (de_var 0))) (fun _ _ _ _ _ => (dgw_n 5 sc_sets_of.nd)) (fun _ _ _ _ _ => (dts_one (dt_w (dw_or (dt_cmp (op_eqD hr.units) od_eq (dod_n 4) (dod_e (de_tup da_nil)) (nomark _)) (dw_or1 (dt_cmp op_gt od_cmpI (dod_n 5) (dod_e (de_ix (hu_of hr) (dod_n 4) (dod_e (de_un un_neg ud_neg (dod_e de_int))))) (nomark _))))))) (fun _ _ _ _ _ => (de_op op_addD od_add (dod_n 4) (dod_e (de_tup (da_cons (de_var 5) da_nil))))))))
    (dss_one (ds_ret (de_var 2)))))
theorem ok_all_sets (T : Tx K mg) : FnOk P w K mg base CX0 2 T.f_all_sets T.d_all_sets ["things"] (spD K m_all_sets) := fn_d T.F_all_sets sc_all_sets rfl (by decide) fun cdv A outer s H E hr =>
    (dss_cons (ds_setO 1 sc_all_sets.nd (do_lst da_nil))
    (dss_cons (ds_for PassesOwn.never rfl (di_r1 (by rfl) T.z_range (da_cons (de_op op_addD od_add (dod_e (de_b1 call_lenAll ch_len (by rfl) T.z_len PySem.boot_len (dod_n 0))) (dod_e de_int)) da_nil)) (dg_n 2 sc_all_sets.nd) (dss_one (ds_expr (de_mutL 1 PySem.F.slot_list_extend PySem.F.type_list_extend mt_extS mh_extend (da_cons (de_call (ok_sets_of T) (hr.mono (by decide)) (by rfl) T.g_sets_of T.F_sets_of.kp T.b_sets_of pass0 (da_cons (de_var 0) (da_cons (de_var 2) da_nil))) da_nil)))))
    (dss_one (ds_ret (de_var 1)))))
theorem ok_turned_by (T : Tx K mg) : FnOk P w K mg base CX0 2 T.f_turned_by T.d_turned_by ["state", "handle"] (spD K m_turned_by) := fn_d T.F_turned_by sc_turned_by rfl (by decide) fun cdv A outer s H E hr =>
    (dss_cons (ds_setLc [("bolt", 3)] 2 rfl sc_turned_by.nd (by rfl) (sw_true (by rfl) (by rfl) (by rfl) (by rfl)) (di_e (de_var 0)) (blkOk_by (by rfl)) (fun _ _ _ _ _ => (dgw_n 3 sc_turned_by.nd)) (fun _ _ _ _ _ => (dts_one (dt_cmp (op_notInAll (hu65 hr)) oh_notIn (dod_n 3) (dod_n 1) (by rfl)))) (fun _ _ _ _ _ => (de_var 3)))
    (dss_one (ds_ret (de_call (ok_set_of T) (hr.mono (by decide)) (by rfl) T.g_set_of T.F_set_of.kp T.b_set_of pass0 (da_cons (de_op op_addD od_add (dod_n 2) (dod_e (de_o (do_lc [("bolt", 3)] rfl sc_turned_by.nd (di_e (de_var 1)) (blkOk_by (by rfl)) (fun _ _ _ _ _ => (dgw_n 3 sc_turned_by.nd)) (fun _ _ _ _ _ => (dts_one (dt_cmp (op_notInAll (hu65 hr)) oh_notIn (dod_n 3) (dod_n 0) (by rfl)))) (fun _ _ _ _ _ => (de_var 3)))))) da_nil)))))
theorem ok_after (T : Tx K mg) : FnOk P w K mg base CX0 3 T.f_after T.d_after ["state", "handles", "row"] (spD K m_after) := fn_d T.F_after sc_after rfl (by decide) fun cdv A outer s H E hr =>
    (dss_cons (ds_for PassesOwn.never rfl (di_e (de_var 2)) (dg_n 3 sc_after.nd) (dss_one (ds_set 0 sc_after.nd (de_call (ok_turned_by T) (hr.mono (by decide)) (by rfl) T.g_turned_by T.F_turned_by.kp T.b_turned_by pass0 (da_cons (de_var 0) (da_cons (de_ix (hu_of hr) (dod_n 1) (dod_n 3)) da_nil))))))
    (dss_one (ds_ret (de_var 0))))
theorem ok_bolts_of (T : Tx K mg) : FnOk P w K mg base CX0 2 T.f_bolts_of T.d_bolts_of ["state", "handles"] (spD K m_bolts_of) := fn_d T.F_bolts_of sc_bolts_of rfl (by decide) fun cdv A outer s H E hr =>
    (dss_one (ds_ret (de_call (ok_set_of T) (hr.mono (by decide)) (by rfl) T.g_set_of T.F_set_of.kp T.b_set_of pass0 (da_cons (de_op op_addD od_add (dod_e (de_o (do_t1 call_list_of co_lst (by rfl) T.z_list PyProof.Rows.boot_list (dod_n 0)))) (dod_e (de_o (do_lc2 [("handle", 2), ("bolt", 3)] [3] rfl sc_bolts_of.nd (di_e (de_var 1)) (blkOk_by (by rfl)) (by decide) (fun _ _ _ _ _ => (dgw_n 2 sc_bolts_of.nd)) (fun _ _ _ _ _ => dts_nil) (fun _ _ _ _ _ => (di_e (de_var 2))) (fun _ _ _ _ _ => (dgw_n 3 sc_bolts_of.nd)) (fun _ _ _ _ _ => dts_nil) (fun _ _ _ _ _ => (de_var 3)))))) da_nil))))
theorem ok_meets_odd (T : Tx K mg) : FnOk P w K mg base CX0 1 T.f_meets_odd T.d_meets_odd ["one", "other"] (spD K m_meets_odd) := fn_d T.F_meets_odd sc_meets_odd rfl (by decide) fun cdv A outer s H E hr =>
    (dss_one (ds_ret (de_cmp (op_eqD hr.units) od_eq (dod_e (de_op op_modN od_mod (dod_e (de_b1 call_lenAll ch_len (by rfl) T.z_len PySem.boot_len (dod_e (de_o (do_lc [("bolt", 2)] rfl sc_meets_odd.nd (di_e (de_var 0)) (blkOk_by (by rfl)) (fun _ _ _ _ _ => (dgw_n 2 sc_meets_odd.nd)) (fun _ _ _ _ _ => (dts_one (dt_cmp (op_inAll (hu65 hr)) oh_in (dod_n 2) (dod_n 1) (by rfl)))) (fun _ _ _ _ _ => (de_var 2))))))) (dod_e de_int))) (dod_e de_int) (nomark _))))
theorem ok_are_even (T : Tx K mg) : FnOk P w K mg base CX0 3 T.f_are_even T.d_are_even ["state", "handles", "bolts"] (spD K m_are_even) := fn_d T.F_are_even sc_are_even rfl (by decide) fun cdv A outer s H E hr =>
    (dss_cons (ds_if (dt_not (dt_val (de_call (ok_is_number_set T) (hr.mono (by decide)) (by rfl) T.g_is_number_set T.F_is_number_set.kp T.b_is_number_set pass0 (da_cons (de_var 2) da_nil)))) (dss_one (ds_ret de_bl)) dss_nil)
    (dss_one (ds_ret (de_and (de_call (ok_meets_odd T) (hr.mono (by decide)) (by rfl) T.g_meets_odd T.F_meets_odd.kp T.b_meets_odd pass0 (da_cons (de_var 0) (da_cons (de_var 2) da_nil))) (de_one (de_not (de_b1 (cr_any rfl) ch_any (by rfl) T.z_any boot_any (dod_e (de_o (do_lc [("handle", 3)] rfl sc_are_even.nd (di_e (de_var 1)) (blkOk_by (by rfl)) (fun _ _ _ _ _ => (dgw_n 3 sc_are_even.nd)) (fun _ _ _ _ _ => dts_nil) (fun _ _ _ _ _ => (de_call (ok_meets_odd T) (hr.mono (by decide)) (by rfl) T.g_meets_odd T.F_meets_odd.kp T.b_meets_odd pass0 (da_cons (de_var 3) (da_cons (de_var 2) da_nil))))))))))))))
theorem ok_opened (T : Tx K mg) : FnOk P w K mg base CX0 4 T.f_opened T.d_opened ["state", "handles"] (spD K m_opened) := fn_d T.F_opened sc_opened rfl (by decide) fun cdv A outer s H E hr =>
    (dss_cons (ds_for PassesOwn.never rfl (di_e (de_call (ok_all_sets T) (hr.mono (by decide)) (by rfl) T.g_all_sets T.F_all_sets.kp T.b_all_sets pass0 (da_cons (de_tupRg rfl (by rfl) T.z_tuple (drg_1 (by rfl) T.z_range (de_b1 call_lenAll ch_len (by rfl) T.z_len PySem.boot_len (dod_n 1)))) da_nil))) (dg_n 2 sc_opened.nd) (dss_one (ds_if (dt_cmp (op_eqD hr.units) od_eq (dod_e (de_call (ok_after T) (hr.mono (by decide)) (by rfl) T.g_after T.F_after.kp T.b_after pass0 (da_cons (de_var 0) (da_cons (de_var 1) (da_cons (de_var 2) da_nil))))) (dod_e (de_tup da_nil)) (nomark _)) (dss_one (ds_ret (de_tup (da_cons de_str (da_cons (de_var 2) da_nil))))) dss_nil)))
    (dss_cons (ds_setLc [("bolts", 4)] 3 rfl sc_opened.nd (by rfl) (sw_true (by rfl) (by rfl) (by rfl) (by rfl)) (di_e (de_call (ok_all_sets T) (hr.mono (by decide)) (by rfl) T.g_all_sets T.F_all_sets.kp T.b_all_sets pass0 (da_cons (de_call (ok_bolts_of T) (hr.mono (by decide)) (by rfl) T.g_bolts_of T.F_bolts_of.kp T.b_bolts_of pass0 (da_cons (de_var 0) (da_cons (de_var 1) da_nil))) da_nil))) (blkOk_by (by rfl)) (fun _ _ _ _ _ => (dgw_n 4 sc_opened.nd)) (fun _ _ _ _ _ => (dts_one (dt_val (de_call (ok_are_even T) (hr.mono (by decide)) (by rfl) T.g_are_even T.F_are_even.kp T.b_are_even pass0 (da_cons (de_var 0) (da_cons (de_var 1) (da_cons (de_var 4) da_nil))))))) (fun _ _ _ _ _ => (de_var 4)))
    (dss_one (ds_ret (de_tup (da_cons de_str (da_cons (de_ix (hu_of hr) (dod_n 3) (dod_e de_int)) da_nil)))))))
theorem ok_states_from (T : Tx K mg) : FnOk P w K mg base CX0 4 T.f_states_from T.d_states_from ["state", "handles"] (spD K m_states_from) := fn_d T.F_states_from sc_states_from rfl (by decide) fun cdv A outer s H E hr =>
    (dss_one (ds_ret (de_lenSetT (Nat.lt_of_succ_lt (hu65 hr)) rfl (by rfl) T.z_len (by rfl) T.z_set (dod_e (de_o (do_lc [("places", 2)] rfl sc_states_from.nd (di_e (de_call (ok_all_sets T) (hr.mono (by decide)) (by rfl) T.g_all_sets T.F_all_sets.kp T.b_all_sets pass0 (da_cons (de_tupRg rfl (by rfl) T.z_tuple (drg_1 (by rfl) T.z_range (de_b1 call_lenAll ch_len (by rfl) T.z_len PySem.boot_len (dod_n 1)))) da_nil))) (blkOk_by (by rfl)) (fun _ _ _ _ _ => (dgw_n 2 sc_states_from.nd)) (fun _ _ _ _ _ => dts_nil) (fun _ _ _ _ _ => (de_call (ok_after T) (hr.mono (by decide)) (by rfl) T.g_after T.F_after.kp T.b_after pass0 (da_cons (de_var 0) (da_cons (de_var 1) (da_cons (de_var 2) da_nil)))))))))))
theorem ok_spare_handles (T : Tx K mg) : FnOk P w K mg base CX0 5 T.f_spare_handles T.d_spare_handles ["handles"] (spD K m_spare_handles) := fn_d T.F_spare_handles sc_spare_handles rfl (by decide) fun cdv A outer s H E hr =>
    (dss_cons (ds_setO 1 sc_spare_handles.nd (do_lst da_nil))
    (dss_cons (ds_for PassesOwn.never rfl (di_r1 (by rfl) T.z_range (da_cons (de_b1 call_lenAll ch_len (by rfl) T.z_len PySem.boot_len (dod_n 0)) da_nil)) (dg_n 2 sc_spare_handles.nd) (dss_cons (ds_set 3 sc_spare_handles.nd (de_op op_addD od_add (dod_e (de_sl (dod_n 0) dp_no (dp_so (dod_n 2)))) (dod_e (de_sl (dod_n 0) (dp_so (dod_e (de_op op_addD od_add (dod_n 2) (dod_e de_int)))) dp_no))))
    (dss_one (ds_if (dt_cmp (op_eqD hr.units) od_eq (dod_e (de_ix (hu_of hr) (dod_e (de_call (ok_opened T) (hr.mono (by decide)) (by rfl) T.g_opened T.F_opened.kp T.b_opened pass0 (da_cons (de_ix (hu_of hr) (dod_n 0) (dod_n 2)) (da_cons (de_var 3) da_nil)))) (dod_e de_int))) (dod_e de_str) (nomark _)) (dss_one (ds_expr (de_mutL 1 PySem.F.slot_list_append PySem.F.type_list_append mt_append mh_append (da_cons (de_var 2) da_nil)))) dss_nil))))
    (dss_one (ds_ret (de_t1 call_tuple_of ch_tup (by rfl) T.z_tuple PyProof.Rows.boot_tuple (dod_n 1))))))
theorem ok_worst_state (T : Tx K mg) : FnOk P w K mg base CX0 5 T.f_worst_state T.d_worst_state ["many", "handles"] (spD K m_worst_state) := fn_d T.F_worst_state sc_worst_state rfl (by decide) fun cdv A outer s H E hr =>
    (dss_cons (ds_set 2 sc_worst_state.nd (de_tup (da_cons de_int (da_cons (de_tup da_nil) da_nil))))
    (dss_cons (ds_for PassesOwn.never rfl (di_e (de_call (ok_all_sets T) (hr.mono (by decide)) (by rfl) T.g_all_sets T.F_all_sets.kp T.b_all_sets pass0 (da_cons (de_tupRg rfl (by rfl) T.z_tuple (drg_1 (by rfl) T.z_range (de_var 0))) da_nil))) (dg_n 3 sc_worst_state.nd) (dss_cons (ds_asg (de_call (ok_opened T) (hr.mono (by decide)) (by rfl) T.g_opened T.F_opened.kp T.b_opened pass0 (da_cons (de_var 3) (da_cons (de_var 1) da_nil))) (dg_tp rfl (dgs_cons (dg_n 4 sc_worst_state.nd) (dgs_cons (dg_n 5 sc_worst_state.nd) dgs_nil))))
    (dss_one (ds_if (dt_w (dw_and (dt_cmp (op_eqD hr.units) od_eq (dod_n 4) (dod_e de_str) (nomark _)) (dw_and1 (dt_cmp op_gt od_cmpI (dod_e (de_b1 call_lenAll ch_len (by rfl) T.z_len PySem.boot_len (dod_n 5))) (dod_e (de_ix (hu_of hr) (dod_n 2) (dod_e de_int))) (nomark _))))) (dss_one (ds_set 2 sc_worst_state.nd (de_tup (da_cons (de_b1 call_lenAll ch_len (by rfl) T.z_len PySem.boot_len (dod_n 5)) (da_cons (de_var 3) da_nil))))) dss_nil))))
    (dss_one (ds_ret (de_var 2)))))
theorem ok__law_draws (T : Tx K mg) : FnOk P w K mg base CX0 1 T.f__law_draws T.d__law_draws ["script", "many"] (spD K m__law_draws) := fn_d T.F__law_draws sc__law_draws rfl (by decide) fun cdv A outer s H E hr =>
    (dss_cons (ds_setO 2 sc__law_draws.nd (do_lst da_nil))
    (dss_cons (ds_set 3 sc__law_draws.nd de_int)
    (dss_cons (ds_for PassesOwn.never rfl (di_r1 (by rfl) T.z_range (da_cons (de_b1 call_lenAll ch_len (by rfl) T.z_len PySem.boot_len (dod_n 0)) da_nil)) (dg_n 4 sc__law_draws.nd) (dss_cons (ds_set 5 sc__law_draws.nd (de_b1 call_abs ch_abs (by rfl) T.z_abs boot_abs (dod_e (de_t1 call_int1 ch_int (by rfl) T.z_int PyProof.Rows.boot_int (dod_e (de_ix (hu_of hr) (dod_n 0) (dod_n 4)))))))
    (dss_cons (ds_set 3 sc__law_draws.nd (de_op op_modN od_mod (dod_e (de_t1 call_int1 ch_int (by rfl) T.z_int PyProof.Rows.boot_int (dod_e (de_op op_addD od_add (dod_e (de_op op_addD od_add (dod_e (de_op op_mul od_mul (dod_n 3) (dod_e de_int))) (dod_e (de_op op_modN od_mod (dod_n 5) (dod_e de_int))))) (dod_n 4))))) (dod_e de_int)))
    (dss_cons (ds_set 6 sc__law_draws.nd de_int)
    (dss_cons (ds_if (dt_cmp op_ge od_cmpI (dod_n 5) (dod_e (de_op op_pow od_pow (dod_e de_int) (dod_e de_int))) (nomark _)) (dss_one (ds_set 6 sc__law_draws.nd (de_var 5))) (dss_cons (ds_expr (de_mutL 2 PySem.F.slot_list_append PySem.F.type_list_append mt_append mh_append (da_cons (de_op op_modN od_mod (dod_e (de_t1 call_int1 ch_int (by rfl) T.z_int PyProof.Rows.boot_int (dod_n 5))) (dod_e de_int)) da_nil)))
    (dss_one (ds_expr (de_mutL 2 PySem.F.slot_list_append PySem.F.type_list_append mt_append mh_append (da_cons (de_op op_modN od_mod (dod_e (de_op op_modN od_mod (dod_e (de_t1 call_int1 ch_int (by rfl) T.z_int PyProof.Rows.boot_int (dod_e (de_op op_addD od_add (dod_e (de_op op_mul od_mul (dod_n 3) (dod_e de_int))) (dod_e de_int))))) (dod_e de_int))) (dod_e de_int)) da_nil))))))
    (dss_one (ds_for PassesOwn.never rfl (di_r1 (by rfl) T.z_range (da_cons de_int da_nil)) (dg_n 7 sc__law_draws.nd) (dss_one (ds_if (dt_cmp op_gt od_cmpI (dod_n 6) (dod_e de_int) (nomark _)) (dss_cons (ds_expr (de_mutL 2 PySem.F.slot_list_append PySem.F.type_list_append mt_append mh_append (da_cons (de_op op_modN od_mod (dod_e (de_t1 call_int1 ch_int (by rfl) T.z_int PyProof.Rows.boot_int (dod_n 6))) (dod_e de_int)) da_nil)))
    (dss_one (ds_set 6 sc__law_draws.nd (de_op op_fdivN od_fdiv (dod_n 6) (dod_e de_int))))) dss_nil)))))))))
    (dss_cons (ds_for PassesOwn.never rfl (di_r1 (by rfl) T.z_range (da_cons (de_var 1) da_nil)) (dg_n 4 sc__law_draws.nd) (dss_cons (ds_set 3 sc__law_draws.nd (de_op op_modN od_mod (dod_e (de_t1 call_int1 ch_int (by rfl) T.z_int PyProof.Rows.boot_int (dod_e (de_op op_addD od_add (dod_e (de_op op_addD od_add (dod_e (de_op op_mul od_mul (dod_n 3) (dod_e de_int))) (dod_n 4))) (dod_e de_int))))) (dod_e de_int)))
    (dss_one (ds_expr (de_mutL 2 PySem.F.slot_list_append PySem.F.type_list_append mt_append mh_append (da_cons (de_op op_modN od_mod (dod_e (de_t1 call_int1 ch_int (by rfl) T.z_int PyProof.Rows.boot_int (dod_n 3))) (dod_e de_int)) da_nil))))))
    (dss_one (ds_ret (de_sl (dod_n 2) dp_no (dp_so (dod_n 1)))))))))
theorem ok__law_next (T : Tx K mg) : FnOk P w K mg base CX0 1 T.f__law_next T.d__law_next ["w", "many"] (spIO K m__law_next) := fn_io T.F__law_next sc__law_next rfl (by decide) fun cdv A outer s H E hr =>
    (dss_cons (ds_augIx (hu_of hr) 0 in_add de_int)
    (dss_cons (ds_if (dt_cmp op_gt od_cmpI (dod_e (de_ix (hu_of hr) (dod_n 0) (dod_e de_str))) (dod_e (de_b1 call_lenAll ch_len (by rfl) T.z_len PySem.boot_len (dod_e (de_ix (hu_of hr) (dod_n 0) (dod_e de_str))))) (nomark _)) (dss_one (ds_ret de_int)) dss_nil)
    (dss_one (ds_ret (de_op op_modN od_mod (dod_e (de_t1 call_int1 ch_int (by rfl) T.z_int PyProof.Rows.boot_int (dod_e (de_ix (hu_of hr) (dod_e (de_ix (hu_of hr) (dod_n 0) (dod_e de_str))) (dod_e (de_op op_sub od_sub (dod_e (de_ix (hu_of hr) (dod_n 0) (dod_e de_str))) (dod_e de_int))))))) (dod_n 1))))))
theorem ok__law_is_number (T : Tx K mg) : FnOk P w K mg base CX0 1 T.f__law_is_number T.d__law_is_number ["thing"] (spD K m__law_is_number) := fn_d T.F__law_is_number sc__law_is_number rfl (by decide) fun cdv A outer s H E hr =>
    (dss_one (ds_ret (de_and (de_isi "int" PyProof.Rows.boot_int T.z_int T.z_isinstance (dod_n 0)) (de_one (de_not (de_isi "bool" PyProof.Rows.boot_bool T.z_bool T.z_isinstance (dod_n 0)))))))
theorem ok__law_is_bit (T : Tx K mg) : FnOk P w K mg base CX0 1 T.f__law_is_bit T.d__law_is_bit ["said", "due"] (spD K m__law_is_bit) := fn_d T.F__law_is_bit sc__law_is_bit rfl (by decide) fun cdv A outer s H E hr =>
    (dss_one (ds_ret (de_or (de_and (de_var 1) (de_one (de_cmp op_is_bl od_isB (dod_n 0) (dod_e de_bl) (nomark _)))) (de_one (de_and (de_not (de_var 1)) (de_one (de_cmp op_is_bl od_isB (dod_n 0) (dod_e de_bl) (nomark _))))))))
theorem ok__law_sets (T : Tx K mg) : FnOk P w K mg base CX0 1 T.f__law_sets T.d__law_sets ["things"] (spD K m__law_sets) := fn_d T.F__law_sets sc__law_sets rfl (by decide) fun cdv A outer s H E hr =>
    (dss_cons (ds_parM 1 2 rfl sc__law_sets.nd (dm_ow (do_lst (da_cons (de_tup da_nil) da_nil)) (dm_ow (do_lst (da_cons (de_tup da_nil) da_nil)) dm_nil)))
    (dss_cons (ds_for PassesOwn.never rfl (di_r1 (by rfl) T.z_range (da_cons (de_b1 call_lenAll ch_len (by rfl) T.z_len PySem.boot_len (dod_n 0)) da_nil)) (dg_n 3 sc__law_sets.nd) (dss_cons (ds_setO 4 sc__law_sets.nd (do_lst da_nil))
    (dss_cons (ds_for PassesOwn.never rfl (di_e (de_var 2)) (dg_n 5 sc__law_sets.nd) (dss_one (ds_set 4 sc__law_sets.nd (de_op op_addD od_add (dod_n 4) (dod_e (de_o (do_lc [("thing", 6)] rfl sc__law_sets.nd (di_e (de_var 0)) (blkOk_by (by rfl)) (fun _ _ _ _ _ => (dgw_n 6 sc__law_sets.nd)) (fun _ _ _ _ _ => (dts_one (dt_w (dw_or (dt_cmp (op_eqD hr.units) od_eq (dod_n 5) (dod_e (de_tup da_nil)) (nomark _)) (dw_or1 (dt_cmp op_gt od_cmpI (dod_n 6) (dod_e (de_ix (hu_of hr) (dod_n 5) (dod_e (de_un un_neg ud_neg (dod_e de_int))))) (nomark _))))))) (fun _ _ _ _ _ => (de_op op_addD od_add (dod_n 5) (dod_e (de_tup (da_cons (de_var 6) da_nil))))))))))))
    (dss_cons (ds_set 2 sc__law_sets.nd (de_var 4))
    (dss_one (ds_set 1 sc__law_sets.nd (de_op op_addD od_add (dod_n 1) (dod_n 2))))))))
    (dss_one (ds_ret (de_var 1)))))
theorem ok__law_turned (T : Tx K mg) : FnOk P w K mg base CX0 1 T.f__law_turned T.d__law_turned ["state", "handle"] (spD K m__law_turned) := fn_d T.F__law_turned sc__law_turned rfl (by decide) fun cdv A outer s H E hr =>
    (dss_one (ds_ret (de_t1 call_tuple_of ch_tup (by rfl) T.z_tuple PyProof.Rows.boot_tuple (dod_e (de_o (do_lc [("bolt", 2)] rfl sc__law_turned.nd (di_r1 (by rfl) T.z_range (da_cons de_int da_nil)) (blkOk_by (by rfl)) (fun _ _ _ _ _ => (dgw_n 2 sc__law_turned.nd)) (fun _ _ _ _ _ => (dts_one (dt_cmp (op_neD hr.units) od_ne (dod_e (de_cmp (op_inAll (hu65 hr)) oh_in (dod_n 2) (dod_n 0) (by rfl))) (dod_e (de_cmp (op_inAll (hu65 hr)) oh_in (dod_n 2) (dod_n 1) (by rfl))) (nomark _)))) (fun _ _ _ _ _ => (de_var 2))))))))
theorem ok__law_after (T : Tx K mg) : FnOk P w K mg base CX0 2 T.f__law_after T.d__law_after ["state", "handles", "row"] (spD K m__law_after) := fn_d T.F__law_after sc__law_after rfl (by decide) fun cdv A outer s H E hr =>
    (dss_cons (ds_for PassesOwn.never rfl (di_e (de_var 2)) (dg_n 3 sc__law_after.nd) (dss_one (ds_set 0 sc__law_after.nd (de_call (ok__law_turned T) (hr.mono (by decide)) (by rfl) T.g__law_turned T.F__law_turned.kp T.b__law_turned pass0 (da_cons (de_var 0) (da_cons (de_ix (hu_of hr) (dod_n 1) (dod_n 3)) da_nil))))))
    (dss_one (ds_ret (de_var 0))))
theorem ok__law_odd (T : Tx K mg) : FnOk P w K mg base CX0 1 T.f__law_odd T.d__law_odd ["one", "other"] (spD K m__law_odd) := fn_d T.F__law_odd sc__law_odd rfl (by decide) fun cdv A outer s H E hr =>
    (dss_cons (ds_set 2 sc__law_odd.nd (de_b1 call_lenAll ch_len (by rfl) T.z_len PySem.boot_len (dod_e (de_o (do_lc [("bolt", 3)] rfl sc__law_odd.nd (di_e (de_var 0)) (blkOk_by (by rfl)) (fun _ _ _ _ _ => (dgw_n 3 sc__law_odd.nd)) (fun _ _ _ _ _ => (dts_one (dt_cmp (op_inAll (hu65 hr)) oh_in (dod_n 3) (dod_n 1) (by rfl)))) (fun _ _ _ _ _ => (de_var 3)))))))
    (dss_one (ds_ret (de_cmp (op_neD hr.units) od_ne (dod_e (de_op op_mul od_mul (dod_e (de_op op_fdivN od_fdiv (dod_n 2) (dod_e de_int))) (dod_e de_int))) (dod_n 2) (nomark _)))))
theorem ok__law_opened (T : Tx K mg) : FnOk P w K mg base CX0 3 T.f__law_opened T.d__law_opened ["state", "handles"] (spD K m__law_opened) := fn_d T.F__law_opened sc__law_opened rfl (by decide) fun cdv A outer s H E hr =>
    (dss_cons (ds_for PassesOwn.never rfl (di_e (de_call (ok__law_sets T) (hr.mono (by decide)) (by rfl) T.g__law_sets T.F__law_sets.kp T.b__law_sets pass0 (da_cons (de_tupRg rfl (by rfl) T.z_tuple (drg_1 (by rfl) T.z_range (de_b1 call_lenAll ch_len (by rfl) T.z_len PySem.boot_len (dod_n 1)))) da_nil))) (dg_n 2 sc__law_opened.nd) (dss_one (ds_if (dt_cmp (op_eqD hr.units) od_eq (dod_e (de_call (ok__law_after T) (hr.mono (by decide)) (by rfl) T.g__law_after T.F__law_after.kp T.b__law_after pass0 (da_cons (de_var 0) (da_cons (de_var 1) (da_cons (de_var 2) da_nil))))) (dod_e (de_tup da_nil)) (nomark _)) (dss_one (ds_ret (de_tup (da_cons de_str (da_cons (de_var 2) da_nil))))) dss_nil)))
    (dss_cons (ds_setLc [("bolt", 5)] 3 rfl sc__law_opened.nd (by rfl) (sw_true (by rfl) (by rfl) (by rfl) (by rfl)) (di_r1 (by rfl) T.z_range (da_cons de_int da_nil)) (blkOk_by (by rfl)) (fun _ _ _ _ _ => (dgw_n 5 sc__law_opened.nd)) (fun _ _ _ _ _ => (dts_one (dt_w (dw_or (dt_cmp (op_inAll (hu65 hr)) oh_in (dod_n 5) (dod_n 0) (by rfl)) (dw_or1 (dt_cmp (op_neD hr.units) od_ne (dod_e (de_o (do_lc [("handle", 6)] rfl sc__law_opened.nd (di_e (de_var 1)) (blkOk_by (by rfl)) (fun _ _ _ _ _ => (dgw_n 6 sc__law_opened.nd)) (fun _ _ _ _ _ => (dts_one (dt_cmp (op_inAll (hu65 hr)) oh_in (dod_n 5) (dod_n 6) (by rfl)))) (fun _ _ _ _ _ => (de_var 6))))) (dod_e (de_o (do_lst da_nil))) (nomark _))))))) (fun _ _ _ _ _ => (de_var 5)))
    (dss_cons (ds_setLc [("bolts", 7)] 4 rfl sc__law_opened.nd (by rfl) (sw_true (by rfl) (by rfl) (by rfl) (by rfl)) (di_e (de_call (ok__law_sets T) (hr.mono (by decide)) (by rfl) T.g__law_sets T.F__law_sets.kp T.b__law_sets pass0 (da_cons (de_t1 call_tuple_of ch_tup (by rfl) T.z_tuple PyProof.Rows.boot_tuple (dod_n 3)) da_nil))) (blkOk_by (by rfl)) (fun _ _ _ _ _ => (dgw_n 7 sc__law_opened.nd)) (fun _ _ _ _ _ => (dts_one (dt_w (dw_and (dt_val (de_call (ok__law_odd T) (hr.mono (by decide)) (by rfl) T.g__law_odd T.F__law_odd.kp T.b__law_odd pass0 (da_cons (de_var 0) (da_cons (de_var 7) da_nil)))) (dw_and1 (dt_cmp (op_eqD hr.units) od_eq (dod_e (de_o (do_lc [("handle", 6)] rfl sc__law_opened.nd (di_e (de_var 1)) (blkOk_by (by rfl)) (fun _ _ _ _ _ => (dgw_n 6 sc__law_opened.nd)) (fun _ _ _ _ _ => (dts_one (dt_val (de_call (ok__law_odd T) (hr.mono (by decide)) (by rfl) T.g__law_odd T.F__law_odd.kp T.b__law_odd pass0 (da_cons (de_var 6) (da_cons (de_var 7) da_nil)))))) (fun _ _ _ _ _ => (de_var 6))))) (dod_e (de_o (do_lst da_nil))) (nomark _))))))) (fun _ _ _ _ _ => (de_var 7)))
    (dss_one (ds_ret (de_tup (da_cons de_str (da_cons (de_ix (hu_of hr) (dod_n 4) (dod_e de_int)) da_nil))))))))
theorem ok_law (T : Tx K mg) : FnOk P w K mg base CX0 6 T.f_law T.d_law ["script"] (spD K m_law) := fn_d T.F_law sc_law rfl (by decide) fun cdv A outer s H E hr =>
    (dss_cons (ds_setO 1 sc_law.nd (do_disp (dps_cons de_str (de_call (ok__law_draws T) (hr.mono (by decide)) (by rfl) T.g__law_draws T.F__law_draws.kp T.b__law_draws pass0 (da_cons (de_var 0) (da_cons de_int da_nil))) (dps_cons de_str de_int dps_nil))))
    (dss_cons (ds_for PassesOwn.never rfl (di_r1 (by rfl) T.z_range (da_cons de_int da_nil)) (dg_n 2 sc_law.nd) (dss_cons (ds_set 3 sc_law.nd (de_op op_addD od_add (dod_e de_int) (dod_e (de_callIO 1 (ok__law_next T) (hr.mono (by decide)) (by rfl) T.g__law_next T.F__law_next.kp T.b__law_next pass0 (da_cons de_int da_nil)))))
    (dss_cons (ds_set 4 sc_law.nd (de_t1 call_tuple_of ch_tup (by rfl) T.z_tuple PyProof.Rows.boot_tuple (dod_e (de_o (do_lc [("k", 18)] rfl sc_law.nd (di_r1 (by rfl) T.z_range (da_cons (de_callIO 1 (ok__law_next T) (hr.mono (by decide)) (by rfl) T.g__law_next T.F__law_next.kp T.b__law_next pass0 (da_cons de_int da_nil)) da_nil)) (blkOk_by (by rfl)) (fun _ _ _ _ _ => (dgw_n 18 sc_law.nd)) (fun _ _ _ _ _ => dts_nil) (fun _ _ _ _ _ => (de_t1 call_tuple_of ch_tup (by rfl) T.z_tuple PyProof.Rows.boot_tuple (dod_e (de_o (do_lc [("bolt", 19)] rfl sc_law.nd (di_r1 (by rfl) T.z_range (da_cons (de_var 3) da_nil)) (blkOk_by (by rfl)) (fun _ _ _ _ _ => (dgw_n 19 sc_law.nd)) (fun _ _ _ _ _ => (dts_one (dt_cmp (op_eqD hr.units) od_eq (dod_e (de_callIO 1 (ok__law_next T) (hr.mono (by decide)) (by rfl) T.g__law_next T.F__law_next.kp T.b__law_next pass0 (da_cons de_int da_nil))) (dod_e de_int) (nomark _)))) (fun _ _ _ _ _ => (de_var 19))))))))))))
    (dss_cons (ds_set 5 sc_law.nd (de_t1 call_tuple_of ch_tup (by rfl) T.z_tuple PyProof.Rows.boot_tuple (dod_e (de_o (do_lc [("bolt", 19)] rfl sc_law.nd (di_r1 (by rfl) T.z_range (da_cons (de_var 3) da_nil)) (blkOk_by (by rfl)) (fun _ _ _ _ _ => (dgw_n 19 sc_law.nd)) (fun _ _ _ _ _ => (dts_one (dt_cmp (op_eqD hr.units) od_eq (dod_e (de_callIO 1 (ok__law_next T) (hr.mono (by decide)) (by rfl) T.g__law_next T.F__law_next.kp T.b__law_next pass0 (da_cons de_int da_nil))) (dod_e de_int) (nomark _)))) (fun _ _ _ _ _ => (de_var 19)))))))
    (dss_cons (ds_for PassesOwn.never rfl (di_e (de_var 4)) (dg_n 6 sc_law.nd) (dss_one (ds_if (dt_cmp (op_neD hr.units) od_ne (dod_e (de_call (ok_turned_by T) (hr.mono (by decide)) (by rfl) T.g_turned_by T.F_turned_by.kp T.b_turned_by pass0 (da_cons (de_var 5) (da_cons (de_var 6) da_nil)))) (dod_e (de_call (ok__law_turned T) (hr.mono (by decide)) (by rfl) T.g__law_turned T.F__law_turned.kp T.b__law_turned pass0 (da_cons (de_var 5) (da_cons (de_var 6) da_nil)))) (nomark _)) (dss_one (ds_ret de_bl)) dss_nil)))
    (dss_cons (ds_set 7 sc_law.nd (de_if (dt_cmp (op_neD hr.units) od_ne (dod_n 4) (dod_e (de_tup da_nil)) (nomark _)) (de_t1 call_tuple_of ch_tup (by rfl) T.z_tuple PyProof.Rows.boot_tuple (dod_e (de_o (do_lc [("k", 18)] rfl sc_law.nd (di_r1 (by rfl) T.z_range (da_cons (de_callIO 1 (ok__law_next T) (hr.mono (by decide)) (by rfl) T.g__law_next T.F__law_next.kp T.b__law_next pass0 (da_cons de_int da_nil)) da_nil)) (blkOk_by (by rfl)) (fun _ _ _ _ _ => (dgw_n 18 sc_law.nd)) (fun _ _ _ _ _ => dts_nil) (fun _ _ _ _ _ => (de_callIO 1 (ok__law_next T) (hr.mono (by decide)) (by rfl) T.g__law_next T.F__law_next.kp T.b__law_next pass0 (da_cons (de_b1 call_lenAll ch_len (by rfl) T.z_len PySem.boot_len (dod_n 4)) da_nil))))))) (de_tup da_nil)))
    (dss_cons (ds_if (dt_cmp (op_neD hr.units) od_ne (dod_e (de_call (ok_after T) (hr.mono (by decide)) (by rfl) T.g_after T.F_after.kp T.b_after pass0 (da_cons (de_var 5) (da_cons (de_var 4) (da_cons (de_var 7) da_nil))))) (dod_e (de_call (ok__law_after T) (hr.mono (by decide)) (by rfl) T.g__law_after T.F__law_after.kp T.b__law_after pass0 (da_cons (de_var 5) (da_cons (de_var 4) (da_cons (de_var 7) da_nil))))) (nomark _)) (dss_one (ds_ret de_bl)) dss_nil)
    (dss_cons (ds_par 8 9 rfl sc_law.nd (da_cons (de_call (ok_opened T) (hr.mono (by decide)) (by rfl) T.g_opened T.F_opened.kp T.b_opened pass0 (da_cons (de_var 5) (da_cons (de_var 4) da_nil))) (da_cons (de_call (ok__law_sets T) (hr.mono (by decide)) (by rfl) T.g__law_sets T.F__law_sets.kp T.b__law_sets pass0 (da_cons (de_tupRg rfl (by rfl) T.z_tuple (drg_1 (by rfl) T.z_range (de_b1 call_lenAll ch_len (by rfl) T.z_len PySem.boot_len (dod_n 4)))) da_nil)) da_nil)))
    (dss_cons (ds_if (dt_w (dw_or (dt_cmp (op_neD hr.units) od_ne (dod_n 8) (dod_e (de_call (ok__law_opened T) (hr.mono (by decide)) (by rfl) T.g__law_opened T.F__law_opened.kp T.b__law_opened pass0 (da_cons (de_var 5) (da_cons (de_var 4) da_nil)))) (nomark _)) (dw_or1 (dt_cmp (op_neD hr.units) od_ne (dod_e (de_call (ok_states_from T) (hr.mono (by decide)) (by rfl) T.g_states_from T.F_states_from.kp T.b_states_from pass0 (da_cons (de_var 5) (da_cons (de_var 4) da_nil)))) (dod_e (de_lenSetT (Nat.lt_of_succ_lt (hu65 hr)) rfl (by rfl) T.z_len (by rfl) T.z_set (dod_e (de_o (do_lc [("some", 20)] rfl sc_law.nd (di_e (de_var 9)) (blkOk_by (by rfl)) (fun _ _ _ _ _ => (dgw_n 20 sc_law.nd)) (fun _ _ _ _ _ => dts_nil) (fun _ _ _ _ _ => (de_call (ok__law_after T) (hr.mono (by decide)) (by rfl) T.g__law_after T.F__law_after.kp T.b__law_after pass0 (da_cons (de_var 5) (da_cons (de_var 4) (da_cons (de_var 20) da_nil)))))))))) (nomark _))))) (dss_one (ds_ret de_bl)) dss_nil)
    (dss_cons (ds_setLc [("k", 18)] 10 rfl sc_law.nd (by rfl) (sw_true (by rfl) (by rfl) (by rfl) (by rfl)) (di_r1 (by rfl) T.z_range (da_cons (de_b1 call_lenAll ch_len (by rfl) T.z_len PySem.boot_len (dod_n 4)) da_nil)) (blkOk_by (by rfl)) (fun _ _ _ _ _ => (dgw_n 18 sc_law.nd)) (fun _ _ _ _ _ => (dts_one (dt_cmp (op_eqD hr.units) od_eq (dod_e (de_ix (hu_of hr) (dod_e (de_call (ok__law_opened T) (hr.mono (by decide)) (by rfl) T.g__law_opened T.F__law_opened.kp T.b__law_opened pass0 (da_cons (de_ix (hu_of hr) (dod_n 4) (dod_n 18)) (da_cons (de_op op_addD od_add (dod_e (de_sl (dod_n 4) dp_no (dp_so (dod_n 18)))) (dod_e (de_sl (dod_n 4) (dp_so (dod_e (de_op op_addD od_add (dod_n 18) (dod_e de_int)))) dp_no))) da_nil)))) (dod_e de_int))) (dod_e de_str) (nomark _)))) (fun _ _ _ _ _ => (de_var 18)))
    (dss_cons (ds_if (dt_cmp (op_neD hr.units) od_ne (dod_e (de_call (ok_spare_handles T) (hr.mono (by decide)) (by rfl) T.g_spare_handles T.F_spare_handles.kp T.b_spare_handles pass0 (da_cons (de_var 4) da_nil))) (dod_e (de_t1 call_tuple_of ch_tup (by rfl) T.z_tuple PyProof.Rows.boot_tuple (dod_n 10))) (nomark _)) (dss_one (ds_ret de_bl)) dss_nil)
    (dss_cons (ds_set 11 sc_law.nd (de_tup (da_cons de_int (da_cons (de_tup da_nil) da_nil))))
    (dss_cons (ds_for PassesOwn.never rfl (di_e (de_call (ok__law_sets T) (hr.mono (by decide)) (by rfl) T.g__law_sets T.F__law_sets.kp T.b__law_sets pass0 (da_cons (de_tupRg rfl (by rfl) T.z_tuple (drg_1 (by rfl) T.z_range (de_var 3))) da_nil))) (dg_n 12 sc_law.nd) (dss_cons (ds_asg (de_call (ok__law_opened T) (hr.mono (by decide)) (by rfl) T.g__law_opened T.F__law_opened.kp T.b__law_opened pass0 (da_cons (de_var 12) (da_cons (de_var 4) da_nil))) (dg_tp rfl (dgs_cons (dg_n 13 sc_law.nd) (dgs_cons (dg_n 14 sc_law.nd) dgs_nil))))
    (dss_one (ds_set 11 sc_law.nd (de_if (dt_w (dw_and (dt_cmp (op_eqD hr.units) od_eq (dod_n 13) (dod_e de_str) (nomark _)) (dw_and1 (dt_cmp op_gt od_cmpI (dod_e (de_b1 call_lenAll ch_len (by rfl) T.z_len PySem.boot_len (dod_n 14))) (dod_e (de_ix (hu_of hr) (dod_n 11) (dod_e de_int))) (nomark _))))) (de_tup (da_cons (de_b1 call_lenAll ch_len (by rfl) T.z_len PySem.boot_len (dod_n 14)) (da_cons (de_var 12) da_nil))) (de_var 11))))))
    (dss_cons (ds_if (dt_cmp (op_neD hr.units) od_ne (dod_e (de_call (ok_worst_state T) (hr.mono (by decide)) (by rfl) T.g_worst_state T.F_worst_state.kp T.b_worst_state pass0 (da_cons (de_var 3) (da_cons (de_var 4) da_nil)))) (dod_n 11) (nomark _)) (dss_one (ds_ret de_bl)) dss_nil)
    (dss_cons (ds_set 12 sc_law.nd (de_if (dt_cmp (op_eqD hr.units) od_eq (dod_e (de_ix (hu_of hr) (dod_n 8) (dod_e de_int))) (dod_e de_str) (nomark _)) (de_ix (hu_of hr) (dod_n 8) (dod_e de_int)) (de_var 5)))
    (dss_one (ds_for PassesOwn.never rfl (di_e (de_tup (da_cons (de_var 12) (da_cons (de_rev (dod_n 12)) (da_cons (de_o (do_t1 call_list_of co_lst (by rfl) T.z_list PyProof.Rows.boot_list (dod_n 12))) (da_cons de_non (da_cons (de_tup da_nil) (da_cons (de_sl (dod_n 12) (dp_so (dod_e de_int)) dp_no) (da_cons (de_op op_addD od_add (dod_n 12) (dod_e (de_tup (da_cons de_int da_nil)))) (da_cons (de_op op_addD od_add (dod_n 12) (dod_e (de_sl (dod_n 12) (dp_so (dod_e (de_un un_neg ud_neg (dod_e de_int)))) dp_no))) (da_cons (de_tup (da_cons de_bl da_nil)) (da_cons (de_tup (da_cons (de_un un_neg ud_neg (dod_e de_int)) da_nil)) (da_cons (de_tup (da_cons de_int (da_cons de_int da_nil))) (da_cons (de_tup (da_cons de_str da_nil)) (da_cons (de_tupRg rfl (by rfl) T.z_tuple (drg_1 (by rfl) T.z_range (de_var 3))) (da_cons (de_tup (da_cons de_int (da_cons de_non da_nil))) da_nil)))))))))))))))) (dg_n 15 sc_law.nd) (dss_cons (ds_set 16 sc_law.nd (de_and (de_isi "tuple" PyProof.Rows.boot_tuple T.z_tuple T.z_isinstance (dod_n 15)) (de_one (de_cmp (op_eqD hr.units) od_eq (dod_e (de_o (do_lc [("n", 17)] rfl sc_law.nd (di_e (de_var 15)) (blkOk_by (by rfl)) (fun _ _ _ _ _ => (dgw_n 17 sc_law.nd)) (fun _ _ _ _ _ => (dts_one (dt_w (dw_or (dt_not (dt_val (de_call (ok__law_is_number T) (hr.mono (by decide)) (by rfl) T.g__law_is_number T.F__law_is_number.kp T.b__law_is_number pass0 (da_cons (de_var 17) da_nil)))) (dw_or1 (dt_cmp op_lt od_cmpI (dod_n 17) (dod_e de_int) (nomark _))))))) (fun _ _ _ _ _ => (de_var 17))))) (dod_e (de_o (do_lst da_nil))) (nomark _)))))
    (dss_cons (ds_set 16 sc_law.nd (de_and (de_var 16) (de_and (de_cmp (op_eqD hr.units) od_eq (dod_e (de_o (do_t1 call_list_of co_lst (by rfl) T.z_list PyProof.Rows.boot_list (dod_n 15)))) (dod_e (de_o (do_sortSet rfl (by rfl) T.z_sorted (by rfl) T.z_set (dod_n 15)))) (nomark _)) (de_and (de_call (ok__law_odd T) (hr.mono (by decide)) (by rfl) T.g__law_odd T.F__law_odd.kp T.b__law_odd pass0 (da_cons (de_var 5) (da_cons (de_var 15) da_nil))) (de_one (de_cmp (op_eqD hr.units) od_eq (dod_e (de_o (do_lc [("handle", 6)] rfl sc_law.nd (di_e (de_var 4)) (blkOk_by (by rfl)) (fun _ _ _ _ _ => (dgw_n 6 sc_law.nd)) (fun _ _ _ _ _ => (dts_one (dt_val (de_call (ok__law_odd T) (hr.mono (by decide)) (by rfl) T.g__law_odd T.F__law_odd.kp T.b__law_odd pass0 (da_cons (de_var 6) (da_cons (de_var 15) da_nil)))))) (fun _ _ _ _ _ => (de_var 6))))) (dod_e (de_o (do_lst da_nil))) (nomark _)))))))
    (dss_one (ds_if (dt_not (dt_val (de_call (ok__law_is_bit T) (hr.mono (by decide)) (by rfl) T.g__law_is_bit T.F__law_is_bit.kp T.b__law_is_bit pass0 (da_cons (de_call (ok_are_even T) (hr.mono (by decide)) (by rfl) T.g_are_even T.F_are_even.kp T.b_are_even pass0 (da_cons (de_var 5) (da_cons (de_var 4) (da_cons (de_var 15) da_nil)))) (da_cons (de_var 16) da_nil))))) (dss_one (ds_ret de_bl)) dss_nil)))))))))))))))))))))
    (dss_one (ds_ret de_bl))))
end
/-! ### the law's own head -/
theorem all_mk {l : PySem.W.OpenLaw} {w : World} {K : PySem.W.Frag} {h : Heap} {mg : Str → Option Value} {fa : Addr} (X : K.In h) (G : h.Ns mainGlobals mg) (hfa : mg "law" = some (.ref fa))
    {f0 : Addr} {od0 an0 : Option Addr} {sl0 : Array (Option Value)} {oc0 kV0 dc0 pm0 cd0 ct0 : Value}
    (a0 : PySem.W.nsIn K mainGlobals "is_number" = some (some (.ref f0))) (l0 : K.lookup f0 = some ⟨oc0, od0, .func (PySem.W.fnOf "is_number" "is_number" (defArgs S_is_number) (defBody S_is_number) (defScope S_is_number) .none kV0 dc0 pm0 an0 cd0 ct0), sl0⟩) (c0 : PySem.W.codeIn K cd0 "is_number" = true) (k0 : PySem.W.keepIn K (.ref f0) = true)
    {f1 : Addr} {od1 an1 : Option Addr} {sl1 : Array (Option Value)} {oc1 kV1 dc1 pm1 cd1 ct1 : Value}
    (a1 : PySem.W.nsIn K mainGlobals "is_ascending" = some (some (.ref f1))) (l1 : K.lookup f1 = some ⟨oc1, od1, .func (PySem.W.fnOf "is_ascending" "is_ascending" (defArgs S_is_ascending) (defBody S_is_ascending) (defScope S_is_ascending) .none kV1 dc1 pm1 an1 cd1 ct1), sl1⟩) (c1 : PySem.W.codeIn K cd1 "is_ascending" = true) (k1 : PySem.W.keepIn K (.ref f1) = true)
    {f2 : Addr} {od2 an2 : Option Addr} {sl2 : Array (Option Value)} {oc2 kV2 dc2 pm2 cd2 ct2 : Value}
    (a2 : PySem.W.nsIn K mainGlobals "is_number_set" = some (some (.ref f2))) (l2 : K.lookup f2 = some ⟨oc2, od2, .func (PySem.W.fnOf "is_number_set" "is_number_set" (defArgs S_is_number_set) (defBody S_is_number_set) (defScope S_is_number_set) .none kV2 dc2 pm2 an2 cd2 ct2), sl2⟩) (c2 : PySem.W.codeIn K cd2 "is_number_set" = true) (k2 : PySem.W.keepIn K (.ref f2) = true)
    {f3 : Addr} {od3 an3 : Option Addr} {sl3 : Array (Option Value)} {oc3 kV3 dc3 pm3 cd3 ct3 : Value}
    (a3 : PySem.W.nsIn K mainGlobals "set_of" = some (some (.ref f3))) (l3 : K.lookup f3 = some ⟨oc3, od3, .func (PySem.W.fnOf "set_of" "set_of" (defArgs S_set_of) (defBody S_set_of) (defScope S_set_of) .none kV3 dc3 pm3 an3 cd3 ct3), sl3⟩) (c3 : PySem.W.codeIn K cd3 "set_of" = true) (k3 : PySem.W.keepIn K (.ref f3) = true)
    {f4 : Addr} {od4 an4 : Option Addr} {sl4 : Array (Option Value)} {oc4 kV4 dc4 pm4 cd4 ct4 : Value}
    (a4 : PySem.W.nsIn K mainGlobals "sets_of" = some (some (.ref f4))) (l4 : K.lookup f4 = some ⟨oc4, od4, .func (PySem.W.fnOf "sets_of" "sets_of" (defArgs S_sets_of) (defBody S_sets_of) (defScope S_sets_of) .none kV4 dc4 pm4 an4 cd4 ct4), sl4⟩) (c4 : PySem.W.codeIn K cd4 "sets_of" = true) (k4 : PySem.W.keepIn K (.ref f4) = true)
    {f5 : Addr} {od5 an5 : Option Addr} {sl5 : Array (Option Value)} {oc5 kV5 dc5 pm5 cd5 ct5 : Value}
    (a5 : PySem.W.nsIn K mainGlobals "all_sets" = some (some (.ref f5))) (l5 : K.lookup f5 = some ⟨oc5, od5, .func (PySem.W.fnOf "all_sets" "all_sets" (defArgs S_all_sets) (defBody S_all_sets) (defScope S_all_sets) .none kV5 dc5 pm5 an5 cd5 ct5), sl5⟩) (c5 : PySem.W.codeIn K cd5 "all_sets" = true) (k5 : PySem.W.keepIn K (.ref f5) = true)
    {f6 : Addr} {od6 an6 : Option Addr} {sl6 : Array (Option Value)} {oc6 kV6 dc6 pm6 cd6 ct6 : Value}
    (a6 : PySem.W.nsIn K mainGlobals "turned_by" = some (some (.ref f6))) (l6 : K.lookup f6 = some ⟨oc6, od6, .func (PySem.W.fnOf "turned_by" "turned_by" (defArgs S_turned_by) (defBody S_turned_by) (defScope S_turned_by) .none kV6 dc6 pm6 an6 cd6 ct6), sl6⟩) (c6 : PySem.W.codeIn K cd6 "turned_by" = true) (k6 : PySem.W.keepIn K (.ref f6) = true)
    {f7 : Addr} {od7 an7 : Option Addr} {sl7 : Array (Option Value)} {oc7 kV7 dc7 pm7 cd7 ct7 : Value}
    (a7 : PySem.W.nsIn K mainGlobals "after" = some (some (.ref f7))) (l7 : K.lookup f7 = some ⟨oc7, od7, .func (PySem.W.fnOf "after" "after" (defArgs S_after) (defBody S_after) (defScope S_after) .none kV7 dc7 pm7 an7 cd7 ct7), sl7⟩) (c7 : PySem.W.codeIn K cd7 "after" = true) (k7 : PySem.W.keepIn K (.ref f7) = true)
    {f8 : Addr} {od8 an8 : Option Addr} {sl8 : Array (Option Value)} {oc8 kV8 dc8 pm8 cd8 ct8 : Value}
    (a8 : PySem.W.nsIn K mainGlobals "bolts_of" = some (some (.ref f8))) (l8 : K.lookup f8 = some ⟨oc8, od8, .func (PySem.W.fnOf "bolts_of" "bolts_of" (defArgs S_bolts_of) (defBody S_bolts_of) (defScope S_bolts_of) .none kV8 dc8 pm8 an8 cd8 ct8), sl8⟩) (c8 : PySem.W.codeIn K cd8 "bolts_of" = true) (k8 : PySem.W.keepIn K (.ref f8) = true)
    {f9 : Addr} {od9 an9 : Option Addr} {sl9 : Array (Option Value)} {oc9 kV9 dc9 pm9 cd9 ct9 : Value}
    (a9 : PySem.W.nsIn K mainGlobals "meets_odd" = some (some (.ref f9))) (l9 : K.lookup f9 = some ⟨oc9, od9, .func (PySem.W.fnOf "meets_odd" "meets_odd" (defArgs S_meets_odd) (defBody S_meets_odd) (defScope S_meets_odd) .none kV9 dc9 pm9 an9 cd9 ct9), sl9⟩) (c9 : PySem.W.codeIn K cd9 "meets_odd" = true) (k9 : PySem.W.keepIn K (.ref f9) = true)
    {f10 : Addr} {od10 an10 : Option Addr} {sl10 : Array (Option Value)} {oc10 kV10 dc10 pm10 cd10 ct10 : Value}
    (a10 : PySem.W.nsIn K mainGlobals "are_even" = some (some (.ref f10))) (l10 : K.lookup f10 = some ⟨oc10, od10, .func (PySem.W.fnOf "are_even" "are_even" (defArgs S_are_even) (defBody S_are_even) (defScope S_are_even) .none kV10 dc10 pm10 an10 cd10 ct10), sl10⟩) (c10 : PySem.W.codeIn K cd10 "are_even" = true) (k10 : PySem.W.keepIn K (.ref f10) = true)
    {f11 : Addr} {od11 an11 : Option Addr} {sl11 : Array (Option Value)} {oc11 kV11 dc11 pm11 cd11 ct11 : Value}
    (a11 : PySem.W.nsIn K mainGlobals "opened" = some (some (.ref f11))) (l11 : K.lookup f11 = some ⟨oc11, od11, .func (PySem.W.fnOf "opened" "opened" (defArgs S_opened) (defBody S_opened) (defScope S_opened) .none kV11 dc11 pm11 an11 cd11 ct11), sl11⟩) (c11 : PySem.W.codeIn K cd11 "opened" = true) (k11 : PySem.W.keepIn K (.ref f11) = true)
    {f12 : Addr} {od12 an12 : Option Addr} {sl12 : Array (Option Value)} {oc12 kV12 dc12 pm12 cd12 ct12 : Value}
    (a12 : PySem.W.nsIn K mainGlobals "states_from" = some (some (.ref f12))) (l12 : K.lookup f12 = some ⟨oc12, od12, .func (PySem.W.fnOf "states_from" "states_from" (defArgs S_states_from) (defBody S_states_from) (defScope S_states_from) .none kV12 dc12 pm12 an12 cd12 ct12), sl12⟩) (c12 : PySem.W.codeIn K cd12 "states_from" = true) (k12 : PySem.W.keepIn K (.ref f12) = true)
    {f13 : Addr} {od13 an13 : Option Addr} {sl13 : Array (Option Value)} {oc13 kV13 dc13 pm13 cd13 ct13 : Value}
    (a13 : PySem.W.nsIn K mainGlobals "spare_handles" = some (some (.ref f13))) (l13 : K.lookup f13 = some ⟨oc13, od13, .func (PySem.W.fnOf "spare_handles" "spare_handles" (defArgs S_spare_handles) (defBody S_spare_handles) (defScope S_spare_handles) .none kV13 dc13 pm13 an13 cd13 ct13), sl13⟩) (c13 : PySem.W.codeIn K cd13 "spare_handles" = true) (k13 : PySem.W.keepIn K (.ref f13) = true)
    {f14 : Addr} {od14 an14 : Option Addr} {sl14 : Array (Option Value)} {oc14 kV14 dc14 pm14 cd14 ct14 : Value}
    (a14 : PySem.W.nsIn K mainGlobals "worst_state" = some (some (.ref f14))) (l14 : K.lookup f14 = some ⟨oc14, od14, .func (PySem.W.fnOf "worst_state" "worst_state" (defArgs S_worst_state) (defBody S_worst_state) (defScope S_worst_state) .none kV14 dc14 pm14 an14 cd14 ct14), sl14⟩) (c14 : PySem.W.codeIn K cd14 "worst_state" = true) (k14 : PySem.W.keepIn K (.ref f14) = true)
    {f15 : Addr} {od15 an15 : Option Addr} {sl15 : Array (Option Value)} {oc15 kV15 dc15 pm15 cd15 ct15 : Value}
    (a15 : PySem.W.nsIn K mainGlobals "_law_draws" = some (some (.ref f15))) (l15 : K.lookup f15 = some ⟨oc15, od15, .func (PySem.W.fnOf "_law_draws" "_law_draws" (defArgs S__law_draws) (defBody S__law_draws) (defScope S__law_draws) .none kV15 dc15 pm15 an15 cd15 ct15), sl15⟩) (c15 : PySem.W.codeIn K cd15 "_law_draws" = true) (k15 : PySem.W.keepIn K (.ref f15) = true)
    {f16 : Addr} {od16 an16 : Option Addr} {sl16 : Array (Option Value)} {oc16 kV16 dc16 pm16 cd16 ct16 : Value}
    (a16 : PySem.W.nsIn K mainGlobals "_law_next" = some (some (.ref f16))) (l16 : K.lookup f16 = some ⟨oc16, od16, .func (PySem.W.fnOf "_law_next" "_law_next" (defArgs S__law_next) (defBody S__law_next) (defScope S__law_next) .none kV16 dc16 pm16 an16 cd16 ct16), sl16⟩) (c16 : PySem.W.codeIn K cd16 "_law_next" = true) (k16 : PySem.W.keepIn K (.ref f16) = true)
    {f17 : Addr} {od17 an17 : Option Addr} {sl17 : Array (Option Value)} {oc17 kV17 dc17 pm17 cd17 ct17 : Value}
    (a17 : PySem.W.nsIn K mainGlobals "_law_is_number" = some (some (.ref f17))) (l17 : K.lookup f17 = some ⟨oc17, od17, .func (PySem.W.fnOf "_law_is_number" "_law_is_number" (defArgs S__law_is_number) (defBody S__law_is_number) (defScope S__law_is_number) .none kV17 dc17 pm17 an17 cd17 ct17), sl17⟩) (c17 : PySem.W.codeIn K cd17 "_law_is_number" = true) (k17 : PySem.W.keepIn K (.ref f17) = true)
    {f18 : Addr} {od18 an18 : Option Addr} {sl18 : Array (Option Value)} {oc18 kV18 dc18 pm18 cd18 ct18 : Value}
    (a18 : PySem.W.nsIn K mainGlobals "_law_is_bit" = some (some (.ref f18))) (l18 : K.lookup f18 = some ⟨oc18, od18, .func (PySem.W.fnOf "_law_is_bit" "_law_is_bit" (defArgs S__law_is_bit) (defBody S__law_is_bit) (defScope S__law_is_bit) .none kV18 dc18 pm18 an18 cd18 ct18), sl18⟩) (c18 : PySem.W.codeIn K cd18 "_law_is_bit" = true) (k18 : PySem.W.keepIn K (.ref f18) = true)
    {f19 : Addr} {od19 an19 : Option Addr} {sl19 : Array (Option Value)} {oc19 kV19 dc19 pm19 cd19 ct19 : Value}
    (a19 : PySem.W.nsIn K mainGlobals "_law_sets" = some (some (.ref f19))) (l19 : K.lookup f19 = some ⟨oc19, od19, .func (PySem.W.fnOf "_law_sets" "_law_sets" (defArgs S__law_sets) (defBody S__law_sets) (defScope S__law_sets) .none kV19 dc19 pm19 an19 cd19 ct19), sl19⟩) (c19 : PySem.W.codeIn K cd19 "_law_sets" = true) (k19 : PySem.W.keepIn K (.ref f19) = true)
    {f20 : Addr} {od20 an20 : Option Addr} {sl20 : Array (Option Value)} {oc20 kV20 dc20 pm20 cd20 ct20 : Value}
    (a20 : PySem.W.nsIn K mainGlobals "_law_turned" = some (some (.ref f20))) (l20 : K.lookup f20 = some ⟨oc20, od20, .func (PySem.W.fnOf "_law_turned" "_law_turned" (defArgs S__law_turned) (defBody S__law_turned) (defScope S__law_turned) .none kV20 dc20 pm20 an20 cd20 ct20), sl20⟩) (c20 : PySem.W.codeIn K cd20 "_law_turned" = true) (k20 : PySem.W.keepIn K (.ref f20) = true)
    {f21 : Addr} {od21 an21 : Option Addr} {sl21 : Array (Option Value)} {oc21 kV21 dc21 pm21 cd21 ct21 : Value}
    (a21 : PySem.W.nsIn K mainGlobals "_law_after" = some (some (.ref f21))) (l21 : K.lookup f21 = some ⟨oc21, od21, .func (PySem.W.fnOf "_law_after" "_law_after" (defArgs S__law_after) (defBody S__law_after) (defScope S__law_after) .none kV21 dc21 pm21 an21 cd21 ct21), sl21⟩) (c21 : PySem.W.codeIn K cd21 "_law_after" = true) (k21 : PySem.W.keepIn K (.ref f21) = true)
    {f22 : Addr} {od22 an22 : Option Addr} {sl22 : Array (Option Value)} {oc22 kV22 dc22 pm22 cd22 ct22 : Value}
    (a22 : PySem.W.nsIn K mainGlobals "_law_odd" = some (some (.ref f22))) (l22 : K.lookup f22 = some ⟨oc22, od22, .func (PySem.W.fnOf "_law_odd" "_law_odd" (defArgs S__law_odd) (defBody S__law_odd) (defScope S__law_odd) .none kV22 dc22 pm22 an22 cd22 ct22), sl22⟩) (c22 : PySem.W.codeIn K cd22 "_law_odd" = true) (k22 : PySem.W.keepIn K (.ref f22) = true)
    {f23 : Addr} {od23 an23 : Option Addr} {sl23 : Array (Option Value)} {oc23 kV23 dc23 pm23 cd23 ct23 : Value}
    (a23 : PySem.W.nsIn K mainGlobals "_law_opened" = some (some (.ref f23))) (l23 : K.lookup f23 = some ⟨oc23, od23, .func (PySem.W.fnOf "_law_opened" "_law_opened" (defArgs S__law_opened) (defBody S__law_opened) (defScope S__law_opened) .none kV23 dc23 pm23 an23 cd23 ct23), sl23⟩) (c23 : PySem.W.codeIn K cd23 "_law_opened" = true) (k23 : PySem.W.keepIn K (.ref f23) = true)
    {f24 : Addr} {od24 an24 : Option Addr} {sl24 : Array (Option Value)} {oc24 kV24 dc24 pm24 cd24 ct24 : Value}
    (a24 : PySem.W.nsIn K mainGlobals "law" = some (some (.ref f24))) (l24 : K.lookup f24 = some ⟨oc24, od24, .func (PySem.W.fnOf "law" "law" (defArgs S_law) (defBody S_law) (defScope S_law) .none kV24 dc24 pm24 an24 cd24 ct24), sl24⟩) (c24 : PySem.W.codeIn K cd24 "law" = true) (k24 : PySem.W.keepIn K (.ref f24) = true)
    (z_bool : PySem.W.nsIn K mainGlobals "bool" = some none)
    (z_isinstance : PySem.W.nsIn K mainGlobals "isinstance" = some none)
    (z_int : PySem.W.nsIn K mainGlobals "int" = some none)
    (z_len : PySem.W.nsIn K mainGlobals "len" = some none)
    (z_range : PySem.W.nsIn K mainGlobals "range" = some none)
    (z_all : PySem.W.nsIn K mainGlobals "all" = some none)
    (z_tuple : PySem.W.nsIn K mainGlobals "tuple" = some none)
    (z_sorted : PySem.W.nsIn K mainGlobals "sorted" = some none)
    (z_set : PySem.W.nsIn K mainGlobals "set" = some none)
    (z_list : PySem.W.nsIn K mainGlobals "list" = some none)
    (z_any : PySem.W.nsIn K mainGlobals "any" = some none)
    (z_abs : PySem.W.nsIn K mainGlobals "abs" = some none)
    : ∃ fd : FuncData, (∀ (s : Shared) (v : Value), BindsTo s fd ⟨[v], []⟩ [("script", v)]) ∧ ∀ base : Heap, K.In base → base.Ns mainGlobals mg → FnOk l.prog w K mg base CX0 6 fa fd ["script"] (spD K m_law) := by
  have e := hfa.symm.trans (PySem.W.mg_of X G a24)
  cases e
  have F0 := fun_mk (st := S_is_number) l0 c0 k0
  have F1 := fun_mk (st := S_is_ascending) l1 c1 k1
  have F2 := fun_mk (st := S_is_number_set) l2 c2 k2
  have F3 := fun_mk (st := S_set_of) l3 c3 k3
  have F4 := fun_mk (st := S_sets_of) l4 c4 k4
  have F5 := fun_mk (st := S_all_sets) l5 c5 k5
  have F6 := fun_mk (st := S_turned_by) l6 c6 k6
  have F7 := fun_mk (st := S_after) l7 c7 k7
  have F8 := fun_mk (st := S_bolts_of) l8 c8 k8
  have F9 := fun_mk (st := S_meets_odd) l9 c9 k9
  have F10 := fun_mk (st := S_are_even) l10 c10 k10
  have F11 := fun_mk (st := S_opened) l11 c11 k11
  have F12 := fun_mk (st := S_states_from) l12 c12 k12
  have F13 := fun_mk (st := S_spare_handles) l13 c13 k13
  have F14 := fun_mk (st := S_worst_state) l14 c14 k14
  have F15 := fun_mk (st := S__law_draws) l15 c15 k15
  have F16 := fun_mk (st := S__law_next) l16 c16 k16
  have F17 := fun_mk (st := S__law_is_number) l17 c17 k17
  have F18 := fun_mk (st := S__law_is_bit) l18 c18 k18
  have F19 := fun_mk (st := S__law_sets) l19 c19 k19
  have F20 := fun_mk (st := S__law_turned) l20 c20 k20
  have F21 := fun_mk (st := S__law_after) l21 c21 k21
  have F22 := fun_mk (st := S__law_odd) l22 c22 k22
  have F23 := fun_mk (st := S__law_opened) l23 c23 k23
  have F24 := fun_mk (st := S_law) l24 c24 k24
  exact ⟨PySem.W.fnOf "law" "law" (defArgs S_law) (defBody S_law) (defScope S_law) .none kV24 dc24 pm24 an24 cd24 ct24, fun s v => .of_eq rfl, fun base _ _ => ok_law (P := l.prog) (w := w) (base := base) (T := {
    f_is_number := f0, d_is_number := _, F_is_number := F0, g_is_number := PySem.W.mg_of X G a0,
    b_is_number := F0.binds (ps := ["thing"]) fun _ _ _ _ _ _ us hl => match us, hl with | [_], _ => rfl,
    f_is_ascending := f1, d_is_ascending := _, F_is_ascending := F1, g_is_ascending := PySem.W.mg_of X G a1,
    b_is_ascending := F1.binds (ps := ["things"]) fun _ _ _ _ _ _ us hl => match us, hl with | [_], _ => rfl,
    f_is_number_set := f2, d_is_number_set := _, F_is_number_set := F2, g_is_number_set := PySem.W.mg_of X G a2,
    b_is_number_set := F2.binds (ps := ["thing"]) fun _ _ _ _ _ _ us hl => match us, hl with | [_], _ => rfl,
    f_set_of := f3, d_set_of := _, F_set_of := F3, g_set_of := PySem.W.mg_of X G a3,
    b_set_of := F3.binds (ps := ["things"]) fun _ _ _ _ _ _ us hl => match us, hl with | [_], _ => rfl,
    f_sets_of := f4, d_sets_of := _, F_sets_of := F4, g_sets_of := PySem.W.mg_of X G a4,
    b_sets_of := F4.binds (ps := ["things", "many"]) fun _ _ _ _ _ _ us hl => match us, hl with | [_, _], _ => rfl,
    f_all_sets := f5, d_all_sets := _, F_all_sets := F5, g_all_sets := PySem.W.mg_of X G a5,
    b_all_sets := F5.binds (ps := ["things"]) fun _ _ _ _ _ _ us hl => match us, hl with | [_], _ => rfl,
    f_turned_by := f6, d_turned_by := _, F_turned_by := F6, g_turned_by := PySem.W.mg_of X G a6,
    b_turned_by := F6.binds (ps := ["state", "handle"]) fun _ _ _ _ _ _ us hl => match us, hl with | [_, _], _ => rfl,
    f_after := f7, d_after := _, F_after := F7, g_after := PySem.W.mg_of X G a7,
    b_after := F7.binds (ps := ["state", "handles", "row"]) fun _ _ _ _ _ _ us hl => match us, hl with | [_, _, _], _ => rfl,
    f_bolts_of := f8, d_bolts_of := _, F_bolts_of := F8, g_bolts_of := PySem.W.mg_of X G a8,
    b_bolts_of := F8.binds (ps := ["state", "handles"]) fun _ _ _ _ _ _ us hl => match us, hl with | [_, _], _ => rfl,
    f_meets_odd := f9, d_meets_odd := _, F_meets_odd := F9, g_meets_odd := PySem.W.mg_of X G a9,
    b_meets_odd := F9.binds (ps := ["one", "other"]) fun _ _ _ _ _ _ us hl => match us, hl with | [_, _], _ => rfl,
    f_are_even := f10, d_are_even := _, F_are_even := F10, g_are_even := PySem.W.mg_of X G a10,
    b_are_even := F10.binds (ps := ["state", "handles", "bolts"]) fun _ _ _ _ _ _ us hl => match us, hl with | [_, _, _], _ => rfl,
    f_opened := f11, d_opened := _, F_opened := F11, g_opened := PySem.W.mg_of X G a11,
    b_opened := F11.binds (ps := ["state", "handles"]) fun _ _ _ _ _ _ us hl => match us, hl with | [_, _], _ => rfl,
    f_states_from := f12, d_states_from := _, F_states_from := F12, g_states_from := PySem.W.mg_of X G a12,
    b_states_from := F12.binds (ps := ["state", "handles"]) fun _ _ _ _ _ _ us hl => match us, hl with | [_, _], _ => rfl,
    f_spare_handles := f13, d_spare_handles := _, F_spare_handles := F13, g_spare_handles := PySem.W.mg_of X G a13,
    b_spare_handles := F13.binds (ps := ["handles"]) fun _ _ _ _ _ _ us hl => match us, hl with | [_], _ => rfl,
    f_worst_state := f14, d_worst_state := _, F_worst_state := F14, g_worst_state := PySem.W.mg_of X G a14,
    b_worst_state := F14.binds (ps := ["many", "handles"]) fun _ _ _ _ _ _ us hl => match us, hl with | [_, _], _ => rfl,
    f__law_draws := f15, d__law_draws := _, F__law_draws := F15, g__law_draws := PySem.W.mg_of X G a15,
    b__law_draws := F15.binds (ps := ["script", "many"]) fun _ _ _ _ _ _ us hl => match us, hl with | [_, _], _ => rfl,
    f__law_next := f16, d__law_next := _, F__law_next := F16, g__law_next := PySem.W.mg_of X G a16,
    b__law_next := F16.binds (ps := ["w", "many"]) fun _ _ _ _ _ _ us hl => match us, hl with | [_, _], _ => rfl,
    f__law_is_number := f17, d__law_is_number := _, F__law_is_number := F17, g__law_is_number := PySem.W.mg_of X G a17,
    b__law_is_number := F17.binds (ps := ["thing"]) fun _ _ _ _ _ _ us hl => match us, hl with | [_], _ => rfl,
    f__law_is_bit := f18, d__law_is_bit := _, F__law_is_bit := F18, g__law_is_bit := PySem.W.mg_of X G a18,
    b__law_is_bit := F18.binds (ps := ["said", "due"]) fun _ _ _ _ _ _ us hl => match us, hl with | [_, _], _ => rfl,
    f__law_sets := f19, d__law_sets := _, F__law_sets := F19, g__law_sets := PySem.W.mg_of X G a19,
    b__law_sets := F19.binds (ps := ["things"]) fun _ _ _ _ _ _ us hl => match us, hl with | [_], _ => rfl,
    f__law_turned := f20, d__law_turned := _, F__law_turned := F20, g__law_turned := PySem.W.mg_of X G a20,
    b__law_turned := F20.binds (ps := ["state", "handle"]) fun _ _ _ _ _ _ us hl => match us, hl with | [_, _], _ => rfl,
    f__law_after := f21, d__law_after := _, F__law_after := F21, g__law_after := PySem.W.mg_of X G a21,
    b__law_after := F21.binds (ps := ["state", "handles", "row"]) fun _ _ _ _ _ _ us hl => match us, hl with | [_, _, _], _ => rfl,
    f__law_odd := f22, d__law_odd := _, F__law_odd := F22, g__law_odd := PySem.W.mg_of X G a22,
    b__law_odd := F22.binds (ps := ["one", "other"]) fun _ _ _ _ _ _ us hl => match us, hl with | [_, _], _ => rfl,
    f__law_opened := f23, d__law_opened := _, F__law_opened := F23, g__law_opened := PySem.W.mg_of X G a23,
    b__law_opened := F23.binds (ps := ["state", "handles"]) fun _ _ _ _ _ _ us hl => match us, hl with | [_, _], _ => rfl,
    f_law := fa, d_law := _, F_law := F24, g_law := PySem.W.mg_of X G a24,
    b_law := F24.binds (ps := ["script"]) fun _ _ _ _ _ _ us hl => match us, hl with | [_], _ => rfl,
    z_bool := PySem.W.mg_none_of X G z_bool,
    z_isinstance := PySem.W.mg_none_of X G z_isinstance,
    z_int := PySem.W.mg_none_of X G z_int,
    z_len := PySem.W.mg_none_of X G z_len,
    z_range := PySem.W.mg_none_of X G z_range,
    z_all := PySem.W.mg_none_of X G z_all,
    z_tuple := PySem.W.mg_none_of X G z_tuple,
    z_sorted := PySem.W.mg_none_of X G z_sorted,
    z_set := PySem.W.mg_none_of X G z_set,
    z_list := PySem.W.mg_none_of X G z_list,
    z_any := PySem.W.mg_none_of X G z_any,
    z_abs := PySem.W.mg_none_of X G z_abs
  })⟩
end DL

set_option maxHeartbeats 4000000
open PySem PySem.W PyProof.Rows
set_option maxHeartbeats 0 in
theorem PySem.Challenge.cw_bondslaid_k46_whole_bolts_that_turn_toge_holds : PySem.Challenge.rw_bondslaid_k46_whole_bolts_that_turn_toge.Holds := by
  w_on; o_law; k_head; (case hw => w_witness2)
  k_fill
  refine L2.walk_of (l := PySem.Challenge.rw_bondslaid_k46_whole_bolts_that_turn_toge) (n := 63) (k := 6) (x := "script") (CX := fun _ => L2.CX0) (sp := fun w => DL.spD _ DL.m_law) rfl (by decide) rfl ⟨rfl, by decide, by decide⟩ (fun w h Y => PySem.W.kIn_of Y) ?F (fun _ _ a ns hl _ hS => DL.sp_start hS (DL.law_holds ns hl) fun _ => rfl) (fun _ _ _ _ _ h => h)
  case F =>
    intro w mg fa h KX G hmg
    refine' DL.all_mk KX G hmg ?a0 ?l0 ?c0 ?k0 ?a1 ?l1 ?c1 ?k1 ?a2 ?l2 ?c2 ?k2 ?a3 ?l3 ?c3 ?k3 ?a4 ?l4 ?c4 ?k4 ?a5 ?l5 ?c5 ?k5 ?a6 ?l6 ?c6 ?k6 ?a7 ?l7 ?c7 ?k7 ?a8 ?l8 ?c8 ?k8 ?a9 ?l9 ?c9 ?k9 ?a10 ?l10 ?c10 ?k10 ?a11 ?l11 ?c11 ?k11 ?a12 ?l12 ?c12 ?k12 ?a13 ?l13 ?c13 ?k13 ?a14 ?l14 ?c14 ?k14 ?a15 ?l15 ?c15 ?k15 ?a16 ?l16 ?c16 ?k16 ?a17 ?l17 ?c17 ?k17 ?a18 ?l18 ?c18 ?k18 ?a19 ?l19 ?c19 ?k19 ?a20 ?l20 ?c20 ?k20 ?a21 ?l21 ?c21 ?k21 ?a22 ?l22 ?c22 ?k22 ?a23 ?l23 ?c23 ?k23 ?a24 ?l24 ?c24 ?k24 ?z_bool ?z_isinstance ?z_int ?z_len ?z_range ?z_all ?z_tuple ?z_sorted ?z_set ?z_list ?z_any ?z_abs
    (case a0 => k_is)
    (case l0 => k_is)
    (case c0 => k_is)
    (case k0 => k_is)
    (case a1 => k_is)
    (case l1 => k_is)
    (case c1 => k_is)
    (case k1 => k_is)
    (case a2 => k_is)
    (case l2 => k_is)
    (case c2 => k_is)
    (case k2 => k_is)
    (case a3 => k_is)
    (case l3 => k_is)
    (case c3 => k_is)
    (case k3 => k_is)
    (case a4 => k_is)
    (case l4 => k_is)
    (case c4 => k_is)
    (case k4 => k_is)
    (case a5 => k_is)
    (case l5 => k_is)
    (case c5 => k_is)
    (case k5 => k_is)
    (case a6 => k_is)
    (case l6 => k_is)
    (case c6 => k_is)
    (case k6 => k_is)
    (case a7 => k_is)
    (case l7 => k_is)
    (case c7 => k_is)
    (case k7 => k_is)
    (case a8 => k_is)
    (case l8 => k_is)
    (case c8 => k_is)
    (case k8 => k_is)
    (case a9 => k_is)
    (case l9 => k_is)
    (case c9 => k_is)
    (case k9 => k_is)
    (case a10 => k_is)
    (case l10 => k_is)
    (case c10 => k_is)
    (case k10 => k_is)
    (case a11 => k_is)
    (case l11 => k_is)
    (case c11 => k_is)
    (case k11 => k_is)
    (case a12 => k_is)
    (case l12 => k_is)
    (case c12 => k_is)
    (case k12 => k_is)
    (case a13 => k_is)
    (case l13 => k_is)
    (case c13 => k_is)
    (case k13 => k_is)
    (case a14 => k_is)
    (case l14 => k_is)
    (case c14 => k_is)
    (case k14 => k_is)
    (case a15 => k_is)
    (case l15 => k_is)
    (case c15 => k_is)
    (case k15 => k_is)
    (case a16 => k_is)
    (case l16 => k_is)
    (case c16 => k_is)
    (case k16 => k_is)
    (case a17 => k_is)
    (case l17 => k_is)
    (case c17 => k_is)
    (case k17 => k_is)
    (case a18 => k_is)
    (case l18 => k_is)
    (case c18 => k_is)
    (case k18 => k_is)
    (case a19 => k_is)
    (case l19 => k_is)
    (case c19 => k_is)
    (case k19 => k_is)
    (case a20 => k_is)
    (case l20 => k_is)
    (case c20 => k_is)
    (case k20 => k_is)
    (case a21 => k_is)
    (case l21 => k_is)
    (case c21 => k_is)
    (case k21 => k_is)
    (case a22 => k_is)
    (case l22 => k_is)
    (case c22 => k_is)
    (case k22 => k_is)
    (case a23 => k_is)
    (case l23 => k_is)
    (case c23 => k_is)
    (case k23 => k_is)
    (case a24 => k_is)
    (case l24 => k_is)
    (case c24 => k_is)
    (case k24 => k_is)
    (case z_bool => k_is)
    (case z_isinstance => k_is)
    (case z_int => k_is)
    (case z_len => k_is)
    (case z_range => k_is)
    (case z_all => k_is)
    (case z_tuple => k_is)
    (case z_sorted => k_is)
    (case z_set => k_is)
    (case z_list => k_is)
    (case z_any => k_is)
    (case z_abs => k_is)

