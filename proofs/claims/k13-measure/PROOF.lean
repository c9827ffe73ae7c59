import PyProof.Rows.All
import Wide.All
import OpenK.AllK
import Wide.FinOn
import HandS.Walk
import HandS.Deep
import HandS.IsInst
import HandS.Conv
import HandS.Comp
import HandS.Words
import HandS.WordsList
import HandS.Ends
import HandS.Wide
import PyProof.StrBlock2
import KE.DataEq
import KE.DataFind
import HandS.Text
import HandS.NoneIn
import HandS.Style
import HandS.Iter
import KE.SortData
import KE.KeyNested
import HandS.SortKw
import KE.DataMinMax
import KE.DatumOrd
import HandS.ForMost
import PySem.Challenge.RW_cutless_k13_measure
set_option Elab.async false
set_option linter.all false
set_option maxRecDepth 100000
/-! The data layer: a Python program over plain data as Lean functions. -/
namespace DL
open PySem PySem.Spec L2

/-- data: plain values, tuples, lists, the law's own script, dicts by ints and texts -/
inductive D where
  | non
  | bl (b : Bool)
  | int (i : Int)
  | str (x : Str)
  | tup (xs : List D)
  | lst (xs : List D)
  | scr (ns : List Int)
  | dct (kvs : List (Key × D))
/-- a slot: unassigned, plain data, or a list that this frame alone holds -/
inductive Sl where
  | no
  | val (d : D)
  | own (xs : List D)
abbrev Rho := List Sl

/-! ### data without lists -/
mutual
def noL : D → Bool
  | .non => true
  | .bl _ => true
  | .int _ => true
  | .str _ => true
  | .tup xs => noLs xs
  | .lst _ => false
  | .scr _ => true
  | .dct _ => false
def noLs : List D → Bool
  | [] => true
  | x :: xs => noL x && noLs xs
end

/-! ### how data stand in a heap -/
/-- a list of ints that is read alone -/
def Scr (K : PySem.W.Frag) (H : Hp) (a : Addr) (ns : List Int) : Prop :=
  (∃ o, H a = some (.frz o (.lst (ns.map V.int)))) ∨
    ∃ (o : Obj) (its : Array Value) (n : Nat), K.lookup a = some o ∧ o.cls = .type "list" ∧ o.dict = none ∧ o.data = .seq its n ∧ its.size ≤ sizeLine ∧ Vals (ns.map V.int) its.toList
theorem Scr.sq {K : PySem.W.Frag} {H : Hp} {a : Addr} {ns : List Int} (h : Scr K H a ns) : SqL K H a (ns.map V.int) := h.elim (fun z => .inl (.inr z)) .inr
theorem Scr.of {K : PySem.W.Frag} {H : Hp} {a : Addr} {ns : List Int} (o : Only H) (h : SqL K H a (ns.map V.int)) : Scr K H a ns := by
  rcases h with (h | ⟨ob, h⟩) | h
  · rcases o a with z | ⟨_, _, z⟩ <;> (rw [h] at z; cases z)
  · exact .inl ⟨ob, h⟩
  · exact .inr h
mutual
inductive Rp (K : PySem.W.Frag) (H : Hp) : V → D → Prop
  | non : Rp K H .non .non
  | bl (b : Bool) : Rp K H (.bl b) (.bl b)
  | int (i : Int) : Rp K H (.int i) (.int i)
  | str (x : Str) : Rp K H (.str x) (.str x)
  | tup {a : Addr} {xs : List V} {ds : List D} : SqT K H a xs → RpAll K H xs ds → Rp K H (.ref a) (.tup ds)
  | lst {a : Addr} {xs : List V} {ds : List D} : H a = some (.lst xs) → RpAll K H xs ds → Rp K H (.ref a) (.lst ds)
  | scr {a : Addr} {ns : List Int} : Scr K H a ns → Rp K H (.ref a) (.scr ns)
  | dct {a : Addr} {xs : List (Key × V)} {ds : List (Key × D)} : H a = some (.dK xs) → RpKv K H xs ds → Rp K H (.ref a) (.dct ds)
inductive RpAll (K : PySem.W.Frag) (H : Hp) : List V → List D → Prop
  | nil : RpAll K H [] []
  | cons {v : V} {vs : List V} {d : D} {ds : List D} : Rp K H v d → RpAll K H vs ds → RpAll K H (v :: vs) (d :: ds)
inductive RpKv (K : PySem.W.Frag) (H : Hp) : List (Key × V) → List (Key × D) → Prop
  | nil : RpKv K H [] []
  | cons {k : Key} {v : V} {vs : List (Key × V)} {d : D} {ds : List (Key × D)} : Rp K H v d → RpKv K H vs ds → RpKv K H ((k, v) :: vs) ((k, d) :: ds)
end
theorem sqL_mono {K : PySem.W.Frag} {W W' : Hp} {a : Addr} {xs : List V} (s : Same W W') (h : SqL K W a xs) : SqL K W' a xs := s.seq h
theorem sqT_mono {K : PySem.W.Frag} {W W' : Hp} {a : Addr} {xs : List V} (s : Same W W') (h : SqT K W a xs) : SqT K W' a xs := by
  rcases h with (h | ⟨o, h⟩) | h
  · exact .inl (.inl (s _ _ h))
  · exact .inl (.inr ⟨o, s _ _ h⟩)
  · exact .inr h
theorem scr_mono {K : PySem.W.Frag} {W W' : Hp} {a : Addr} {xs : List Int} (s : Same W W') (h : Scr K W a xs) : Scr K W' a xs := by
  rcases h with ⟨o, h⟩ | h
  · exact .inl ⟨o, s _ _ h⟩
  · exact .inr h
mutual
theorem rp_mono {K : PySem.W.Frag} {W W' : Hp} (s : Same W W') : ∀ {v : V} {d : D}, Rp K W v d → Rp K W' v d
  | _, _, .non => .non
  | _, _, .bl b => .bl b
  | _, _, .int i => .int i
  | _, _, .str x => .str x
  | _, _, .tup h a => .tup (sqT_mono s h) (rpAll_mono s a)
  | _, _, .lst h a => .lst (s _ _ h) (rpAll_mono s a)
  | _, _, .scr h => .scr (scr_mono s h)
  | _, _, .dct h a => .dct (s _ _ h) (rpKv_mono s a)
theorem rpAll_mono {K : PySem.W.Frag} {W W' : Hp} (s : Same W W') : ∀ {vs : List V} {ds : List D}, RpAll K W vs ds → RpAll K W' vs ds
  | _, _, .nil => .nil
  | _, _, .cons h t => .cons (rp_mono s h) (rpAll_mono s t)
theorem rpKv_mono {K : PySem.W.Frag} {W W' : Hp} (s : Same W W') : ∀ {vs : List (Key × V)} {ds : List (Key × D)}, RpKv K W vs ds → RpKv K W' vs ds
  | _, _, .nil => .nil
  | _, _, .cons h t => .cons (rp_mono s h) (rpKv_mono s t)
end
section
variable {K : PySem.W.Frag} {W : Hp}
theorem RpAll.length : ∀ {vs : List V} {ds : List D}, RpAll K W vs ds → vs.length = ds.length
  | _, _, .nil => rfl
  | _, _, .cons _ t => by rw [List.length_cons, List.length_cons, RpAll.length t]
theorem RpAll.get : ∀ {vs : List V} {ds : List D} {i : Nat} {d : D}, RpAll K W vs ds → ds[i]? = some d → ∃ v, vs[i]? = some v ∧ Rp K W v d
  | _, _, _, _, .nil, e => by simp at e
  | _, _, 0, _, .cons h _, e => by
    simp at e
    subst e
    exact ⟨_, rfl, h⟩
  | _, _, i + 1, d, .cons _ t, e => by
    obtain ⟨v, h1, h2⟩ := RpAll.get (i := i) (d := d) t (by simpa using e)
    exact ⟨v, by simpa using h1, h2⟩
theorem RpAll.getV : ∀ {vs : List V} {ds : List D} {i : Nat} {v : V}, RpAll K W vs ds → vs[i]? = some v → ∃ d, ds[i]? = some d ∧ Rp K W v d
  | _, _, _, _, .nil, e => by simp at e
  | _, _, 0, _, .cons h _, e => by
    simp at e
    subst e
    exact ⟨_, rfl, h⟩
  | _, _, i + 1, v, .cons _ t, e => by
    obtain ⟨d, h1, h2⟩ := RpAll.getV (i := i) (v := v) t (by simpa using e)
    exact ⟨d, by simpa using h1, h2⟩
theorem RpAll.append : ∀ {vs ws : List V} {ds es : List D}, RpAll K W vs ds → RpAll K W ws es → RpAll K W (vs ++ ws) (ds ++ es)
  | _, _, _, _, .nil, s => s
  | _, _, _, _, .cons h t, s => .cons h (RpAll.append t s)
theorem RpAll.take : ∀ {vs : List V} {ds : List D} (n : Nat), RpAll K W vs ds → RpAll K W (vs.take n) (ds.take n)
  | _, _, 0, _ => .nil
  | _, _, _ + 1, .nil => .nil
  | _, _, n + 1, .cons h t => .cons h (RpAll.take n t)
theorem RpAll.drop : ∀ {vs : List V} {ds : List D} (n : Nat), RpAll K W vs ds → RpAll K W (vs.drop n) (ds.drop n)
  | _, _, 0, h => h
  | _, _, _ + 1, .nil => .nil
  | _, _, n + 1, .cons _ t => RpAll.drop n t
theorem RpAll.set {v : V} {d : D} (h : Rp K W v d) : ∀ {vs : List V} {ds : List D} (i : Nat), RpAll K W vs ds → RpAll K W (vs.set i v) (ds.set i d)
  | _, _, _, .nil => .nil
  | _, _, 0, .cons _ t => .cons h t
  | _, _, i + 1, .cons q t => .cons q (RpAll.set h i t)
theorem RpAll.dropLast : ∀ {vs : List V} {ds : List D}, RpAll K W vs ds → RpAll K W vs.dropLast ds.dropLast := fun {vs ds} h => by
  rw [List.dropLast_eq_take, List.dropLast_eq_take, h.length]
  exact h.take _
theorem RpAll.eraseIdx : ∀ {vs : List V} {ds : List D} (i : Nat), RpAll K W vs ds → RpAll K W (vs.eraseIdx i) (ds.eraseIdx i)
  | _, _, _, .nil => .nil
  | _, _, 0, .cons _ t => t
  | _, _, i + 1, .cons q t => .cons q (RpAll.eraseIdx i t)
theorem RpAll.one {v : V} {d : D} (h : Rp K W v d) : RpAll K W [v] [d] := .cons h .nil
theorem RpAll.ints : ∀ (ns : List Int), RpAll K W (ns.map V.int) (ns.map D.int)
  | [] => .nil
  | n :: r => .cons (.int n) (RpAll.ints r)
theorem RpAll.toInts : ∀ {vs : List V} {ns : List Int}, RpAll K W vs (ns.map D.int) → vs = ns.map V.int
  | _, [], .nil => rfl
  | _, n :: r, .cons (.int _) t => by rw [List.map_cons, RpAll.toInts t]
theorem RpAll.toBls : ∀ {vs : List V} {ns : List Bool}, RpAll K W vs (ns.map D.bl) → vs = ns.map V.bl
  | _, [], .nil => rfl
  | _, n :: r, .cons (.bl _) t => by rw [List.map_cons, RpAll.toBls t]
theorem RpAll.toStrs : ∀ {vs : List V} {ns : List Str}, RpAll K W vs (ns.map D.str) → vs = ns.map V.str
  | _, [], .nil => rfl
  | _, n :: r, .cons (.str _) t => by rw [List.map_cons, RpAll.toStrs t]
end

/-! ### the state of a frame -/
structure RS (K : PySem.W.Frag) (ρ : Rho) (σ : L2.St) (O : Addr → Bool) (W H : Hp) : Prop where
  len : σ.length = ρ.length
  sub : Same W H
  hid : ∀ b, O b = true → W b = none ∧ ∃ vs, H b = some (.lst vs)
  vals : ∀ (i : Nat) (d : D), ρ[i]? = some (.val d) → ∃ v, σ[i]? = some (some v) ∧ Rp K W v d
  owns : ∀ (i : Nat) (xs : List D), ρ[i]? = some (.own xs) → ∃ a vs, σ[i]? = some (some (.ref a)) ∧ O a = true ∧ H a = some (.lst vs) ∧ RpAll K W vs xs
  apart : ∀ (i j : Nat) (xs ys : List D) (a : Addr), ρ[i]? = some (.own xs) → ρ[j]? = some (.own ys) → σ[i]? = some (some (.ref a)) → σ[j]? = some (some (.ref a)) → i = j

/-- nothing that stood has changed; what is seen more is new -/
structure PStep (W H W' H' : Hp) : Prop where
  le : Same W W'
  keep : Same H H'
  sub : Same W' H'
  new : ∀ b o, W' b = some o → W b = some o ∨ H b = none
theorem PStep.refl {W H : Hp} (s : Same W H) : PStep W H W H := ⟨fun _ _ e => e, fun _ _ e => e, s, fun _ _ e => .inl e⟩
theorem PStep.trans {W H W1 H1 W2 H2 : Hp} (a : PStep W H W1 H1) (b : PStep W1 H1 W2 H2) : PStep W H W2 H2 where
  le := a.le.trans b.le
  keep := a.keep.trans b.keep
  sub := b.sub
  new := fun c o e => by
    rcases b.new c o e with z | z
    · exact a.new c o z
    · exact .inr (a.keep.free z)
/-- only what the frame owns has changed -/
structure SStep (O : Addr → Bool) (W H : Hp) (O' : Addr → Bool) (W' H' : Hp) : Prop where
  le : Same W W'
  keep : ∀ b o, H b = some o → O b = false → H' b = some o
  new : ∀ b o, W' b = some o → W b = some o ∨ H b = none ∨ O b = true
  own : ∀ b, O' b = true → O b = true ∨ H b = none
theorem SStep.refl {O : Addr → Bool} {W H : Hp} : SStep O W H O W H := ⟨fun _ _ e => e, fun _ _ e _ => e, fun _ _ e => .inl e, fun _ e => .inl e⟩
theorem PStep.s {W H W' H' : Hp} {O : Addr → Bool} (p : PStep W H W' H') : SStep O W H O W' H' :=
  ⟨p.le, fun b o e _ => p.keep b o e, fun b o e => (p.new b o e).elim .inl fun z => .inr (.inl z), fun _ e => .inl e⟩
theorem SStep.free {O O' : Addr → Bool} {W H W' H' : Hp} (a : SStep O W H O' W' H') {b : Addr} (h : H' b = none) : H b = none ∨ O b = true := by
  cases e : H b with
  | none => exact .inl rfl
  | some o =>
    cases q : O b with
    | true => exact .inr rfl
    | false =>
      rw [a.keep b o e q] at h
      cases h
theorem SStep.trans {O O1 O2 : Addr → Bool} {W H W1 H1 W2 H2 : Hp} (a : SStep O W H O1 W1 H1) (b : SStep O1 W1 H1 O2 W2 H2) : SStep O W H O2 W2 H2 where
  le := a.le.trans b.le
  keep := fun c o e q => by
    refine b.keep c o (a.keep c o e q) ?_
    cases z : O1 c with
    | false => rfl
    | true =>
      rcases a.own c z with y | y
      · rw [q] at y; cases y
      · rw [e] at y; cases y
  new := fun c o e => by
    rcases b.new c o e with z | z | z
    · exact a.new c o z
    · exact (a.free z).elim (fun y => .inr (.inl y)) fun y => .inr (.inr y)
    · exact (a.own c z).elim (fun y => .inr (.inr y)) fun y => .inr (.inl y)
  own := fun c e => by
    rcases b.own c e with z | z
    · exact a.own c z
    · exact (a.free z).elim .inr .inl

section
variable {K : PySem.W.Frag} {ρ ρ' : Rho} {σ σ' : L2.St} {O O' : Addr → Bool} {W H W' H' : Hp} {al bl : List Nat}
theorem RS.pstep (r : RS K ρ σ O W H) (p : PStep W H W' H') : RS K ρ σ O W' H' where
  len := r.len
  sub := p.sub
  hid := fun b e => by
    obtain ⟨h1, vs, h2⟩ := r.hid b e
    refine ⟨?_, vs, p.keep b _ h2⟩
    cases q : W' b with
    | none => rfl
    | some o =>
      rcases p.new b o q with z | z
      · rw [h1] at z; cases z
      · rw [h2] at z; cases z
  vals := fun i d e => by
    obtain ⟨v, h1, h2⟩ := r.vals i d e
    exact ⟨v, h1, rp_mono p.le h2⟩
  owns := fun i xs e => by
    obtain ⟨a, vs, h1, h2, h3, h4⟩ := r.owns i xs e
    exact ⟨a, vs, h1, h2, p.keep _ _ h3, rpAll_mono p.le h4⟩
  apart := r.apart

/-- slot i holds an own list that stands at b -/
def own1 (ρ : Rho) (σ : L2.St) (b : Addr) (i : Nat) : Bool := match ρ[i]?, σ[i]? with
  | some (.own _), some (some (.ref a)) => decide (a = b)
  | _, _ => false
theorem own1_iff {b : Addr} {i : Nat} : own1 ρ σ b i = true ↔ ∃ xs, ρ[i]? = some (.own xs) ∧ σ[i]? = some (some (.ref b)) := by
  unfold own1
  constructor
  · intro h
    split at h
    · rename_i e1 e2
      exact ⟨_, e1, by rw [e2, of_decide_eq_true h]⟩
    · cases h
  · rintro ⟨xs, e1, e2⟩
    rw [e1, e2]
    exact decide_eq_true rfl
/-- what is seen through the slots al, too -/
def vw (ρ : Rho) (σ : L2.St) (al : List Nat) (W H : Hp) : Hp := fun b => match W b with
  | some o => some o
  | none => if al.any (own1 ρ σ b) = true then H b else none
theorem vw_of (b : Addr) {o : HO} (e : W b = some o) : vw ρ σ al W H b = some o := by unfold vw; rw [e]
theorem vw_le : Same W (vw ρ σ al W H) := fun b o e => vw_of b e
theorem vw_nil : vw ρ σ [] W H = W := by
  funext b
  unfold vw
  cases e : W b with
  | some o => rfl
  | none => exact if_neg (by simp)
theorem of_vw {b : Addr} {o : HO} (h : vw ρ σ al W H b = some o) : W b = some o ∨ (W b = none ∧ H b = some o ∧ ∃ i ∈ al, own1 ρ σ b i = true) := by
  unfold vw at h
  split at h
  · rename_i q; exact .inl (by rw [q, h])
  · rename_i q
    split at h
    · rename_i z
      obtain ⟨i, hi, y⟩ := List.any_eq_true.mp z
      exact .inr ⟨q, h, i, hi, y⟩
    · cases h
theorem vw_sub (s : Same W H) : Same (vw ρ σ al W H) H := fun b o e => by
  rcases of_vw e with z | ⟨_, z, _⟩
  · exact s b o z
  · exact z
theorem vw_own {b : Addr} {o : HO} {i : Nat} (hi : i ∈ al) (h : own1 ρ σ b i = true) (e : H b = some o) (s : Same W H) : vw ρ σ al W H b = some o := by
  unfold vw
  cases q : W b with
  | some u =>
    have := s b u q
    rw [e] at this
    cases this
    rfl
  | none => exact (if_pos (List.any_eq_true.mpr ⟨i, hi, h⟩)).trans e
theorem vw_mono (hs : ∀ i ∈ al, i ∈ bl) (s : Same W H) : Same (vw ρ σ al W H) (vw ρ σ bl W H) := fun b o e => by
  rcases of_vw e with z | ⟨_, z, i, hi, y⟩
  · exact vw_of b z
  · exact vw_own (hs i hi) y z s
theorem vw_step (p : PStep W H W' H') : Same (vw ρ σ al W H) (vw ρ σ al W' H') := fun b o e => by
  rcases of_vw e with z | ⟨_, z, i, hi, y⟩
  · exact vw_of b (p.le b o z)
  · exact vw_own hi y (p.keep b o z) p.sub
theorem vw_l (s : Same W H) : Same (vw ρ σ al W H) (vw ρ σ (al ++ bl) W H) := vw_mono (fun _ h => List.mem_append_left _ h) s
theorem vw_r (s : Same W H) : Same (vw ρ σ bl W H) (vw ρ σ (al ++ bl) W H) := vw_mono (fun _ h => List.mem_append_right _ h) s

/-- data without lists lean on nothing that is owned -/
theorem down_ho (r : RS K ρ σ O W H) {a : Addr} {o : HO} (e : vw ρ σ al W H a = some o) (n : ∀ vs, o ≠ .lst vs) : W a = some o := by
  rcases of_vw e with z | ⟨_, z, i, hi, y⟩
  · exact z
  · exfalso
    obtain ⟨ys, e1, e2⟩ := own1_iff.mp y
    obtain ⟨a', vs, h1, _, h3, _⟩ := r.owns i ys e1
    rw [e2] at h1
    cases h1
    rw [z] at h3
    exact n vs (Option.some.inj h3)
theorem sqT_down (r : RS K ρ σ O W H) {a : Addr} {xs : List V} (h : SqT K (vw ρ σ al W H) a xs) : SqT K W a xs := by
  rcases h with (h | ⟨o, h⟩) | h
  · exact .inl (.inl (down_ho r h fun _ z => nomatch z))
  · exact .inl (.inr ⟨o, down_ho r h fun _ z => nomatch z⟩)
  · exact .inr h
mutual
theorem rp_down (r : RS K ρ σ O W H) : ∀ {d : D} {v : V}, noL d = true → Rp K (vw ρ σ al W H) v d → Rp K W v d
  | .non, _, _, .non => .non
  | .bl _, _, _, .bl b => .bl b
  | .int _, _, _, .int i => .int i
  | .str _, _, _, .str x => .str x
  | .tup ds, _, h, .tup hq ha => .tup (sqT_down r hq) (rpAll_down r (by simpa [noL] using h) ha)
  | .lst _, _, h, _ => by simp [noL] at h
  | .dct _, _, h, _ => by simp [noL] at h
  | .scr _, _, _, .scr h => by
    rcases h with ⟨o, h⟩ | h
    · exact .scr (.inl ⟨o, down_ho r h fun _ z => nomatch z⟩)
    · exact .scr (.inr h)
theorem rpAll_down (r : RS K ρ σ O W H) : ∀ {ds : List D} {vs : List V}, noLs ds = true → RpAll K (vw ρ σ al W H) vs ds → RpAll K W vs ds
  | [], _, _, .nil => .nil
  | d :: ds, _, h, .cons h1 h2 => by
    simp only [noLs, Bool.and_eq_true] at h
    exact .cons (rp_down r h.1 h1) (rpAll_down r h.2 h2)
end

/-- slots given up -/
def unown (al : List Nat) (ρ : Rho) : Rho := ρ.mapIdx fun i s => match s with
  | .own xs => if al.contains i then .val (.lst xs) else .own xs
  | s => s
/-- slot i is owned -/
def isOwn (ρ : Rho) (i : Nat) : Bool := match ρ[i]? with
  | some (.own _) => true
  | _ => false
/-- none of the slots al is owned -/
def noO (al : List Nat) (ρ : Rho) : Bool := al.all fun i => !isOwn ρ i
theorem vw_noO (h : noO al ρ = true) : vw ρ σ al W H = W := by
  funext b
  unfold vw
  cases e : W b with
  | some o => rfl
  | none =>
    refine if_neg fun z => ?_
    obtain ⟨i, hi, y⟩ := List.any_eq_true.mp z
    obtain ⟨xs, e1, _⟩ := own1_iff.mp y
    have q := List.all_eq_true.mp h i hi
    unfold isOwn at q
    rw [e1] at q
    cases q
def esc (al : List Nat) (d : D) (ρ : Rho) : Rho := if (noO al ρ || noL d) = true then ρ else unown al ρ
theorem unown_get (al : List Nat) (ρ : Rho) (i : Nat) : (unown al ρ)[i]? = (ρ[i]?).map fun s => match s with
  | .own xs => if al.contains i then .val (.lst xs) else .own xs
  | s => s := by
  unfold unown
  rw [List.getElem?_mapIdx]
theorem RS.unown (r : RS K ρ σ O W H) : ∃ O' W', SStep O W H O' W' H ∧ RS K (unown al ρ) σ O' W' H ∧ Same (vw ρ σ al W H) W' := by
  refine ⟨fun b => O b && !(al.any (own1 ρ σ b)), vw ρ σ al W H, ⟨vw_le, fun _ _ e _ => e, fun b o e => ?_, fun b e => ?_⟩, ⟨?_, vw_sub r.sub, fun b e => ?_, fun i d e => ?_, fun i xs e => ?_, fun i j xs ys a e1 e2 => ?_⟩, fun _ _ e => e⟩
  · rcases of_vw e with z | ⟨_, z, i, hi, y⟩
    · exact .inl z
    · obtain ⟨ys, e1, e2⟩ := own1_iff.mp y
      obtain ⟨a', vs, h1, h2, _⟩ := r.owns i ys e1
      rw [e2] at h1
      cases h1
      exact .inr (.inr h2)
  · exact .inl (Bool.and_eq_true_iff.mp e).1
  · rw [r.len]; simp [DL.unown]
  · obtain ⟨e1, e2⟩ := Bool.and_eq_true_iff.mp e
    obtain ⟨h1, vs, h2⟩ := r.hid b e1
    refine ⟨?_, vs, h2⟩
    unfold vw
    rw [h1]
    exact if_neg (by simpa using e2)
  · rw [unown_get] at e
    cases q : ρ[i]? with
    | none => rw [q] at e; cases e
    | some s =>
      rw [q] at e
      cases s with
      | no => cases e
      | val d' =>
        cases e
        obtain ⟨v, h1, h2⟩ := r.vals i _ q
        exact ⟨v, h1, rp_mono vw_le h2⟩
      | own xs =>
        have e' : (if al.contains i then Sl.val (.lst xs) else Sl.own xs) = .val d := Option.some.inj e
        split at e'
        · rename_i hc
          cases e'
          obtain ⟨a, vs, h1, h2, h3, h4⟩ := r.owns i xs q
          refine ⟨.ref a, h1, .lst (vw_own (i := i) (by simpa using hc) (own1_iff.mpr ⟨xs, q, h1⟩) h3 r.sub) (rpAll_mono vw_le h4)⟩
        · cases e'
  · rw [unown_get] at e
    cases q : ρ[i]? with
    | none => rw [q] at e; cases e
    | some s =>
      rw [q] at e
      cases s with
      | no => cases e
      | val d' => cases e
      | own ys =>
        have e' : (if al.contains i then Sl.val (.lst ys) else Sl.own ys) = .own xs := Option.some.inj e
        split at e'
        · cases e'
        · rename_i hc
          cases e'
          obtain ⟨a, vs, h1, h2, h3, h4⟩ := r.owns i _ q
          refine ⟨a, vs, h1, ?_, h3, rpAll_mono vw_le h4⟩
          rw [h2, Bool.true_and, Bool.not_eq_true']
          cases z : al.any (own1 ρ σ a) with
          | false => rfl
          | true =>
            exfalso
            obtain ⟨j, hj, y⟩ := List.any_eq_true.mp z
            obtain ⟨zs, f1, f2⟩ := own1_iff.mp y
            have := r.apart i j _ zs a q f1 h1 f2
            subst this
            exact hc (by simpa using hj)
  · have back : ∀ (k : Nat) (zs : List D), (DL.unown al ρ)[k]? = some (.own zs) → ∃ zs, ρ[k]? = some (.own zs) := fun k zs e => by
      rw [unown_get] at e
      cases q : ρ[k]? with
      | none => rw [q] at e; cases e
      | some s =>
        rw [q] at e
        cases s with
        | no => cases e
        | val d' => cases e
        | own ys => exact ⟨ys, rfl⟩
    obtain ⟨xs', f1⟩ := back i xs e1
    obtain ⟨ys', f2⟩ := back j ys e2
    exact r.apart i j xs' ys' a f1 f2
/-- a value that goes out of what is borrowed -/
theorem RS.esc (r : RS K ρ σ O W H) {v : V} {d : D} (h : Rp K (vw ρ σ al W H) v d) : ∃ O' W', SStep O W H O' W' H ∧ RS K (esc al d ρ) σ O' W' H ∧ Rp K W' v d := by
  unfold DL.esc
  split
  · rename_i e
    refine ⟨O, W, .refl, r, ?_⟩
    rcases Bool.or_eq_true_iff.mp e with z | z
    · rw [vw_noO z] at h
      exact h
    · exact rp_down r z h
  · obtain ⟨O', W', h1, h2, h3⟩ := r.unown (al := al)
    exact ⟨O', W', h1, h2, rp_mono h3 h⟩

/-- a slot is set to data -/
theorem RS.set (r : RS K ρ σ O W H) {i : Nat} {v : V} {d : D} (h : Rp K W v d) : RS K (ρ.set i (.val d)) (σ.set i (some v)) O W H where
  len := by simp [r.len]
  sub := r.sub
  hid := r.hid
  vals := fun j e q => by
    by_cases hj : i = j
    · subst hj
      by_cases hi : i < ρ.length
      · rw [List.getElem?_set_self hi] at q
        cases q
        exact ⟨v, List.getElem?_set_self (by rw [r.len]; exact hi), h⟩
      · rw [List.getElem?_eq_none (by simp; omega)] at q
        cases q
    · rw [List.getElem?_set_ne hj] at q ⊢
      exact r.vals j e q
  owns := fun j xs q => by
    by_cases hj : i = j
    · subst hj
      by_cases hi : i < ρ.length
      · rw [List.getElem?_set_self hi] at q; cases q
      · rw [List.getElem?_eq_none (by simp; omega)] at q; cases q
    · rw [List.getElem?_set_ne hj] at q ⊢
      exact r.owns j xs q
  apart := fun j k xs ys a q1 q2 s1 s2 => by
    have ne : ∀ (j : Nat) (zs : List D), (ρ.set i (.val d))[j]? = some (.own zs) → i ≠ j := fun j zs q hj => by
      subst hj
      by_cases hi : i < ρ.length
      · rw [List.getElem?_set_self hi] at q; cases q
      · rw [List.getElem?_eq_none (by simp; omega)] at q; cases q
    have n1 := ne j xs q1
    have n2 := ne k ys q2
    rw [List.getElem?_set_ne n1] at q1 s1
    rw [List.getElem?_set_ne n2] at q2 s2
    exact r.apart _ _ _ _ a q1 q2 s1 s2
/-- a slot takes a new list that nothing else holds -/
theorem RS.setOwn (r : RS K ρ σ O W H) {i : Nat} {a : Addr} {vs : List V} {xs : List D} (e : H a = some (.lst vs)) (n : W a = none) (no : O a = false) (h : RpAll K W vs xs) :
    RS K (ρ.set i (.own xs)) (σ.set i (some (.ref a))) (fun b => O b || decide (b = a)) W H where
  len := by simp [r.len]
  sub := r.sub
  hid := fun b q => by
    rcases Bool.or_eq_true_iff.mp q with z | z
    · exact r.hid b z
    · rw [of_decide_eq_true z]; exact ⟨n, vs, e⟩
  vals := fun j f q => by
    by_cases hj : i = j
    · subst hj
      by_cases hi : i < ρ.length
      · rw [List.getElem?_set_self hi] at q; cases q
      · rw [List.getElem?_eq_none (by simp; omega)] at q; cases q
    · rw [List.getElem?_set_ne hj] at q ⊢
      exact r.vals j f q
  owns := fun j ys q => by
    by_cases hj : i = j
    · subst hj
      by_cases hi : i < ρ.length
      · rw [List.getElem?_set_self hi] at q
        cases q
        exact ⟨a, vs, List.getElem?_set_self (by rw [r.len]; exact hi), by simp, e, h⟩
      · rw [List.getElem?_eq_none (by simp; omega)] at q; cases q
    · rw [List.getElem?_set_ne hj] at q ⊢
      obtain ⟨b, ws, h1, h2, h3⟩ := r.owns j ys q
      exact ⟨b, ws, h1, by simp [h2], h3⟩
  apart := fun j k xs' ys b q1 q2 s1 s2 => by
    have lt : ∀ (zs : List D), (ρ.set i (.own xs))[i]? = some (.own zs) → i < σ.length := fun zs q => by
      have := (List.getElem?_eq_some_iff.mp q).1
      rw [r.len]
      simpa using this
    have other : ∀ (j : Nat) (zs : List D), i ≠ j → ρ[j]? = some (.own zs) → σ[j]? = some (some (.ref a)) → False := fun j zs _ q s => by
      obtain ⟨b, ws, h1, h2, _⟩ := r.owns j zs q
      rw [s] at h1
      cases h1
      rw [no] at h2
      cases h2
    by_cases hj : i = j
    · subst hj
      rw [List.getElem?_set_self (lt _ q1)] at s1
      cases s1
      by_cases hk : i = k
      · exact hk
      · rw [List.getElem?_set_ne hk] at q2 s2
        exact (other k _ hk q2 s2).elim
    · rw [List.getElem?_set_ne hj] at q1 s1
      by_cases hk : i = k
      · subst hk
        rw [List.getElem?_set_self (lt _ q2)] at s2
        cases s2
        exact (other j _ hj q1 s1).elim
      · rw [List.getElem?_set_ne hk] at q2 s2
        exact r.apart _ _ _ _ b q1 q2 s1 s2
/-- an own list is changed -/
theorem RS.write (r : RS K ρ σ O W H) {i : Nat} {a : Addr} {vs : List V} {xs ys : List D} (q : ρ[i]? = some (.own ys)) (s : σ[i]? = some (some (.ref a))) (h : RpAll K W vs xs) :
    RS K (ρ.set i (.own xs)) σ O W (upd H a (.lst vs)) ∧ SStep O W H O W (upd H a (.lst vs)) := by
  obtain ⟨a', vs', h1, h2, h3, h4⟩ := r.owns i ys q
  rw [s] at h1
  cases h1
  have wa : W a = none := (r.hid a h2).1
  have hi : i < ρ.length := (List.getElem?_eq_some_iff.mp q).1
  refine ⟨⟨by simp [r.len], fun b o e => ?_, fun b e => ?_, fun j d e => ?_, fun j zs e => ?_, fun j k xs' ys' b e1 e2 s1 s2 => ?_⟩, ⟨fun _ _ e => e, fun b o e z => ?_, fun _ _ e => .inl e, fun _ e => .inl e⟩⟩
  · have nb : b ≠ a := fun z => by subst z; rw [wa] at e; cases e
    rw [upd_ne nb]; exact r.sub b o e
  · refine ⟨(r.hid b e).1, ?_⟩
    by_cases hb : b = a
    · subst hb; exact ⟨vs, upd_same⟩
    · rw [upd_ne hb]; exact (r.hid b e).2
  · by_cases hj : i = j
    · subst hj; rw [List.getElem?_set_self hi] at e; cases e
    · rw [List.getElem?_set_ne hj] at e; exact r.vals j d e
  · by_cases hj : i = j
    · subst hj
      rw [List.getElem?_set_self hi] at e
      cases e
      exact ⟨a, vs, s, h2, upd_same, h⟩
    · rw [List.getElem?_set_ne hj] at e
      obtain ⟨b, ws, g1, g2, g3, g4⟩ := r.owns j zs e
      have nb : b ≠ a := fun z => by subst z; exact hj (r.apart i j ys zs b q e s g1)
      exact ⟨b, ws, g1, g2, by rw [upd_ne nb]; exact g3, g4⟩
  · have back : ∀ (k : Nat) (zs : List D), (ρ.set i (.own xs))[k]? = some (.own zs) → ∃ zs, ρ[k]? = some (.own zs) := fun k zs e => by
      by_cases hk : i = k
      · subst hk; exact ⟨ys, q⟩
      · rw [List.getElem?_set_ne hk] at e; exact ⟨zs, e⟩
    obtain ⟨_, f1⟩ := back j _ e1
    obtain ⟨_, f2⟩ := back k _ e2
    exact r.apart j k _ _ b f1 f2 s1 s2
  · have nb : b ≠ a := fun y => by subst y; rw [h2] at z; cases z
    rw [upd_ne nb]; exact e
end

/-! ### readings -/
/-- what is wanted of a pure expression's value -/
def Post (K : PySem.W.Frag) (ρ : Rho) (σ : L2.St) (al : List Nat) (W H : Hp) (d : D) (Q : VK) : Prop :=
  ∀ v W' H', PStep W H W' H' → Rp K (vw ρ σ al W' H') v d → Q v H'
def tP (K : PySem.W.Frag) (f : Rho → Option D) (al : List Nat) : TE := fun σ H Q => ∃ ρ O W d, RS K ρ σ O W H ∧ f ρ = some d ∧ Post K ρ σ al W H d Q
def tQ (K : PySem.W.Frag) (f : Rho → Option Bool) : TT := fun σ H Q => ∃ ρ O W b, RS K ρ σ O W H ∧ f ρ = some b ∧ ∀ W' H', PStep W H W' H' → Q b H'
def tPs (K : PySem.W.Frag) (f : Rho → Option (List D)) (al : List Nat) : TA := fun σ H Q => ∃ ρ O W ds, RS K ρ σ O W H ∧ f ρ = some ds ∧
  ∀ vs W' H', PStep W H W' H' → RpAll K (vw ρ σ al W' H') vs ds → Q vs H'
/-- a new list, held by nothing yet -/
def tN (K : PySem.W.Frag) (f : Rho → Option (List D)) (al : List Nat) : TE := fun σ H Q => ∃ ρ O W ds, RS K ρ σ O W H ∧ f ρ = some ds ∧
  ∀ a vs W' H', PStep W H W' H' → H a = none → W' a = none → H' a = some (.lst vs) → RpAll K (vw ρ σ al W' H') vs ds → Q (.ref a) H'
abbrev DP (X : Cx) (e : Expr) (f : Rho → Option D) (al : List Nat) : Prop := PE X e (tP X.K f al)
abbrev DT (X : Cx) (e : Expr) (f : Rho → Option Bool) : Prop := PT X e (tQ X.K f)
abbrev DA (X : Cx) (es : List Expr) (f : Rho → Option (List D)) (al : List Nat) : Prop := PA X es (tPs X.K f al)
abbrev DN (X : Cx) (e : Expr) (f : Rho → Option (List D)) (al : List Nat) : Prop := PE X e (tN X.K f al)

theorem pe_imp {X : Cx} {e : Expr} {t t' : TE} (h : PE X e t) (i : ∀ σ H Q, t' σ H Q → t σ H Q) : PE X e t' := ⟨fun pins s σ H Q I q => h.run pins s σ H Q I (i σ H Q q)⟩
theorem pt_imp {X : Cx} {e : Expr} {t t' : TT} (h : PT X e t) (i : ∀ σ H Q, t' σ H Q → t σ H Q) : PT X e t' := ⟨fun pins s σ H Q I q => h.run pins s σ H Q I (i σ H Q q)⟩
theorem pw_imp {X : Cx} {e : Expr} {t t' : TT} (h : PW X e t) (i : ∀ σ H Q, t' σ H Q → t σ H Q) : PW X e t' := ⟨fun wh pins s σ H Q I q => h.run wh pins s σ H Q I (i σ H Q q)⟩
theorem pa_imp {X : Cx} {es : List Expr} {t t' : TA} (h : PA X es t) (i : ∀ σ H Q, t' σ H Q → t σ H Q) : PA X es t' := ⟨fun pos pins s σ H Q I q => h.run pos pins s σ H Q I (i σ H Q q)⟩
theorem ps_imp {X : Cx} {e : Stmt} {t t' : TS} (h : PS X e t) (i : ∀ D σ H, t' D σ H → t D σ H) : PS X e t' := ⟨fun pins s σ H D I q => h.run pins s σ H D I (i D σ H q)⟩
theorem pss_imp {X : Cx} {e : List Stmt} {t t' : TS} (h : PSs X e t) (i : ∀ D σ H, t' D σ H → t D σ H) : PSs X e t' := ⟨fun pins s σ H D I q => h.run pins s σ H D I (i D σ H q)⟩

section
variable {K : PySem.W.Frag} {ρ : Rho} {σ : L2.St} {O : Addr → Bool} {W H W' H' : Hp} {al bl : List Nat} {d : D} {Q : VK}
theorem Post.step (p : Post K ρ σ al W H d Q) (s : PStep W H W' H') : Post K ρ σ al W' H' d Q := fun v W2 H2 s2 h => p v W2 H2 (s.trans s2) h
theorem Post.here (p : Post K ρ σ al W H d Q) (s : Same W H) {v : V} (h : Rp K (vw ρ σ al W H) v d) : Q v H := p v W H (.refl s) h
theorem upd_step (s : Same W H) {p : Addr} (n : H p = none) (o : HO) : PStep W H (upd W p o) (upd H p o) where
  le := fun b u e => by
    rw [upd_ne (fun z => by subst z; rw [s b u e] at n; cases n)]
    exact e
  keep := fun b u e => by
    rw [upd_ne (ne_of_none e n)]
    exact e
  sub := fun b u e => by
    by_cases hb : b = p
    · subst hb; rw [upd_same] at e ⊢; exact e
    · rw [upd_ne hb] at e ⊢; exact s b u e
  new := fun b u e => by
    by_cases hb : b = p
    · subst hb; exact .inr n
    · rw [upd_ne hb] at e; exact .inl e
theorem Post.tup {ds : List D} (q : Post K ρ σ al W H (.tup ds) Q) (s : Same W H) {vs : List V} (h : RpAll K (vw ρ σ al W H) vs ds) {p : Addr} (n : H p = none) : Q (.ref p) (upd H p (.tup vs)) := by
  have st := upd_step s n (.tup vs)
  exact q _ _ _ st (.tup (.inl (.inl (vw_of p upd_same))) (rpAll_mono (vw_step st) h))
theorem Post.lst {ds : List D} (q : Post K ρ σ al W H (.lst ds) Q) (s : Same W H) {vs : List V} (h : RpAll K (vw ρ σ al W H) vs ds) {p : Addr} (n : H p = none) : Q (.ref p) (upd H p (.lst vs)) := by
  have st := upd_step s n (.lst vs)
  exact q _ _ _ st (.lst (vw_of p upd_same) (rpAll_mono (vw_step st) h))
theorem opt_bind {α β : Type} {x : Option α} {f : α → Option β} {b : β} (h : x.bind f = some b) : ∃ a, x = some a ∧ f a = some b := Option.bind_eq_some_iff.mp h
end
end DL

/-! The data layer, 2: expressions. -/
namespace DL
open PySem PySem.Spec L2

/-! ### combinators -/
abbrev Ex := Rho → Option D
def eC (d : D) : Ex := fun _ => some d
def eV (i : Nat) : Ex := fun ρ => match ρ[i]? with
  | some (.val d) => some d
  | some (.own xs) => some (.lst xs)
  | _ => none
def e1 (g : D → Option D) (f : Ex) : Ex := fun ρ => (f ρ).bind g
def e2 (g : D → D → Option D) (f h : Ex) : Ex := fun ρ => (f ρ).bind fun x => (h ρ).bind fun y => g x y
abbrev Exs := Rho → Option (List D)
def esN : Exs := fun _ => some []
def esC (f : Ex) (fs : Exs) : Exs := fun ρ => (f ρ).bind fun x => (fs ρ).bind fun xs => some (x :: xs)
def eA (g : List D → Option D) (fs : Exs) : Ex := fun ρ => (fs ρ).bind g
abbrev Te := Rho → Option Bool
def dB : D → Option Bool
  | .bl b => some b
  | _ => none
def tE (f : Ex) : Te := fun ρ => (f ρ).bind dB
def eT (t : Te) : Ex := fun ρ => (t ρ).map D.bl
def tAn (t u : Te) : Te := fun ρ => (t ρ).bind fun b => if b = true then u ρ else some false
def tOr' (t u : Te) : Te := fun ρ => (t ρ).bind fun b => if b = true then some true else u ρ
def tNo (t : Te) : Te := fun ρ => (t ρ).map (!·)

/-! ### operations on data -/

def dAdd : D → D → Option D
  | .int i, .int j => some (.int (i + j))
  | .str x, .str y => if x.length + y.length ≤ 16777216 then some (.str (x ++ y)) else none
  | .tup xs, .tup ys => if xs.isEmpty = false ∧ xs.length + ys.length ≤ 16777216 then some (.tup (xs ++ ys)) else none
  | .lst xs, .lst ys => if xs.length + ys.length ≤ 16777216 then some (.lst (xs ++ ys)) else none
  | _, _ => none
def dSub : D → D → Option D
  | .int i, .int j => some (.int (i - j))
  | _, _ => none
def mulOk (i j : Int) : Bool := (decide (-(2 ^ 64) < i) && decide (i < 2 ^ 64)) || (decide (-(2 ^ 64) < j) && decide (j < 2 ^ 64)) || (decide (i.natAbs < 2 ^ 400) && decide (j.natAbs < 2 ^ 400))
def dMul : D → D → Option D
  | .int i, .int j => if mulOk i j = true then some (.int (i * j)) else none
  | .str x, .int n => if x.length ≤ 1000 ∧ -1000 ≤ n ∧ n ≤ 1000 then some (.str (Txt.mul x n)) else none
  | .lst xs, .int n => if xs.length ≤ 1000 ∧ -1000 ≤ n ∧ n ≤ 1000 then some (.lst (List.replicate n.toNat xs).flatten) else none
  | _, _ => none
def dDiv : D → D → Option D
  | .int i, .int j => if 0 < j ∧ j < 2 ^ 200 then some (.int (i / j)) else none
  | _, _ => none
def dMod : D → D → Option D
  | .int i, .int j => if 0 < j then some (.int (i % j)) else none
  | _, _ => none
def dPow : D → D → Option D
  | .int i, .int j => if 0 ≤ j ∧ j ≤ 1000 ∧ -(2 ^ 60) < i ∧ i < 2 ^ 60 then some (.int (i ^ j.toNat)) else none
  | _, _ => none
def dNeg : D → Option D
  | .int i => some (.int (-i))
  | _ => none

/-! ### equality -/
mutual
/-- no script, no dict within -/
def pl : D → Bool
  | .non => true
  | .bl _ => true
  | .int _ => true
  | .str _ => true
  | .tup xs => pls xs
  | .lst xs => pls xs
  | _ => false
def pls : List D → Bool
  | [] => true
  | x :: xs => pl x && pls xs
end
mutual
def py : D → PyData
  | .bl b => .bool b
  | .int i => .int i
  | .str x => .str x
  | .tup xs => .tuple (pys xs)
  | .lst xs => .list (pys xs)
  | _ => .none
def pys : List D → List PyData
  | [] => []
  | x :: xs => py x :: pys xs
end
mutual
def dpt : D → Nat
  | .tup xs => dpts xs + 1
  | .lst xs => dpts xs + 1
  | _ => 0
def dpts : List D → Nat
  | [] => 0
  | x :: xs => max (dpt x) (dpts xs)
end
mutual
/-- Python's == -/
def deq : D → D → Bool
  | .non, .non => true
  | .bl a, .bl b => a == b
  | .bl a, .int b => (if a then 1 else 0) == b
  | .int a, .bl b => a == (if b then 1 else 0)
  | .int a, .int b => a == b
  | .str a, .str b => a == b
  | .tup xs, .tup ys => deqs xs ys
  | .lst xs, .lst ys => deqs xs ys
  | _, _ => false
def deqs : List D → List D → Bool
  | [], [] => true
  | x :: xs, y :: ys => deq x y && deqs xs ys
  | _, _ => false
end
/-- == -/
def dEqG (x y : D) : Option Bool := if (pl x && pl y && decide (min (dpt x) (dpt y) ≤ 60)) = true then some (deq x y) else none
def dEqB : D → D → Option Bool
  | .lst xs, .lst [] => some xs.isEmpty
  | x, y => dEqG x y
def dEq (x y : D) : Option D := (dEqB x y).map .bl
def dNe (x y : D) : Option D := (dEqB x y).map fun b => .bl (!b)
def dCmp (p : Int → Int → Bool) : D → D → Option D
  | .int i, .int j => some (.bl (p i j))
  | _, _ => none

mutual
theorem py_plain : ∀ d : D, (py d).plain = true
  | .non => rfl
  | .bl _ => rfl
  | .int _ => rfl
  | .str _ => rfl
  | .tup xs => by simp only [py, PyData.plain]; exact pys_plain xs
  | .lst xs => by simp only [py, PyData.plain]; exact pys_plain xs
  | .scr _ => rfl
  | .dct _ => rfl
theorem pys_plain : ∀ ds : List D, PyData.plainAll (pys ds) = true
  | [] => rfl
  | d :: ds => by simp only [pys, PyData.plainAll, py_plain d, pys_plain ds, Bool.and_self]
end
mutual
theorem py_depth : ∀ d : D, (py d).depth = dpt d
  | .non => rfl
  | .bl _ => rfl
  | .int _ => rfl
  | .str _ => rfl
  | .tup xs => by simp only [py, PyData.depth, dpt, pys_depth xs]
  | .lst xs => by simp only [py, PyData.depth, dpt, pys_depth xs]
  | .scr _ => rfl
  | .dct _ => rfl
theorem pys_depth : ∀ ds : List D, PyData.depthAll (pys ds) = dpts ds
  | [] => rfl
  | d :: ds => by simp only [pys, PyData.depthAll, dpts, py_depth d, pys_depth ds]
end
mutual
theorem py_eqv : ∀ {x y : D}, pl x = true → pl y = true → PyData.eqv (py x) (py y) = deq x y
  | .tup xs, .tup ys, hx, hy => by
    simp only [py, PyData.eqv, deq]
    exact pys_eqv (by simpa [pl] using hx) (by simpa [pl] using hy)
  | .lst xs, .lst ys, hx, hy => by
    simp only [py, PyData.eqv, deq]
    exact pys_eqv (by simpa [pl] using hx) (by simpa [pl] using hy)
  | .non, y, _, h => by cases y <;> first | (simp [pl] at h; done) | simp [py, PyData.eqv, deq]
  | .bl _, y, _, h => by cases y <;> first | (simp [pl] at h; done) | simp [py, PyData.eqv, deq]
  | .int _, y, _, h => by cases y <;> first | (simp [pl] at h; done) | simp [py, PyData.eqv, deq]
  | .str _, y, _, h => by cases y <;> first | (simp [pl] at h; done) | simp [py, PyData.eqv, deq]
  | .tup _, .non, _, _ => by simp [py, PyData.eqv, deq]
  | .tup _, .bl _, _, _ => by simp [py, PyData.eqv, deq]
  | .tup _, .int _, _, _ => by simp [py, PyData.eqv, deq]
  | .tup _, .str _, _, _ => by simp [py, PyData.eqv, deq]
  | .tup _, .lst _, _, _ => by simp [py, PyData.eqv, deq]
  | .lst _, .non, _, _ => by simp [py, PyData.eqv, deq]
  | .lst _, .bl _, _, _ => by simp [py, PyData.eqv, deq]
  | .lst _, .int _, _, _ => by simp [py, PyData.eqv, deq]
  | .lst _, .str _, _, _ => by simp [py, PyData.eqv, deq]
  | .lst _, .tup _, _, _ => by simp [py, PyData.eqv, deq]
  | .scr _, _, h, _ => by simp [pl] at h
  | .dct _, _, h, _ => by simp [pl] at h
  | .tup _, .scr _, _, h => by simp [pl] at h
  | .tup _, .dct _, _, h => by simp [pl] at h
  | .lst _, .scr _, _, h => by simp [pl] at h
  | .lst _, .dct _, _, h => by simp [pl] at h
theorem pys_eqv : ∀ {xs ys : List D}, pls xs = true → pls ys = true → PyData.eqvAll (pys xs) (pys ys) = deqs xs ys
  | [], [], _, _ => by simp [pys, PyData.eqvAll, deqs]
  | [], _ :: _, _, _ => by simp [pys, PyData.eqvAll, deqs]
  | _ :: _, [], _, _ => by simp [pys, PyData.eqvAll, deqs]
  | x :: xs, y :: ys, hx, hy => by
    simp only [pls, Bool.and_eq_true] at hx hy
    simp only [pys, PyData.eqvAll, deqs, py_eqv hx.1 hy.1, pys_eqv hx.2 hy.2]
end
mutual
theorem rp_dp {K : PySem.W.Frag} {H : Hp} : ∀ {d : D} {v : V}, pl d = true → Rp K H v d → Dp K H v (py d)
  | .non, _, _, .non => .non
  | .bl _, _, _, .bl b => .bl b
  | .int _, _, _, .int i => .int i
  | .str _, _, _, .str x => .str x
  | .tup ds, _, e, .tup h a => .tup h (rpAll_dp (by simpa [pl] using e) a)
  | .lst ds, _, e, .lst h a => .lst (.inl (.inl h)) (rpAll_dp (by simpa [pl] using e) a)
  | .scr _, _, e, _ => by simp [pl] at e
  | .dct _, _, e, _ => by simp [pl] at e
theorem rpAll_dp {K : PySem.W.Frag} {H : Hp} : ∀ {ds : List D} {vs : List V}, pls ds = true → RpAll K H vs ds → DpAll K H vs (pys ds)
  | [], _, _, .nil => .nil
  | d :: ds, _, e, .cons h t => by
    simp only [pls, Bool.and_eq_true] at e
    exact .cons (rp_dp e.1 h) (rpAll_dp e.2 t)
end

section
variable {X : Cx} {a b : Expr} {f g h : Ex} {al bl cl : List Nat} {pos : Pos}
/-! ### names, constants -/
theorem dp_const {e : Expr} {v : V} {d : D} (h : PE X e (tC v)) (hr : ∀ H, Rp X.K H v d) : DP X e (eC d) [] := pe_imp h fun σ H Q ⟨ρ, O, W, d', r, e, q⟩ => by
  cases e
  exact q.here r.sub (hr _)
theorem dp_int {i j pos} : DP X (.Constant (.int i) j pos) (eC (.int i)) [] := dp_const pe_int fun _ => .int i
theorem dp_bl {i j pos} : DP X (.Constant (.bool i) j pos) (eC (.bl i)) [] := dp_const pe_bl fun _ => .bl i
theorem dp_str {i j pos} : DP X (.Constant (.str i) j pos) (eC (.str i)) [] := dp_const pe_str fun _ => .str i
theorem dp_non {j pos} : DP X (.Constant .none j pos) (eC .non) [] := dp_const pe_non fun _ => .non
theorem dp_var (i : Nat) {e : Expr} (h : PE X e (tVar i)) : DP X e (eV i) [i] := pe_imp h fun σ H Q ⟨ρ, O, W, d, r, e, q⟩ => by
  unfold eV at e
  split at e
  · rename_i d' q'
    cases e
    obtain ⟨v, h1, h2⟩ := r.vals i _ q'
    exact ⟨v, h1, q.here r.sub (rp_mono vw_le h2)⟩
  · rename_i xs q'
    cases e
    obtain ⟨a, vs, h1, h2, h3, h4⟩ := r.owns i _ q'
    exact ⟨.ref a, h1, q.here r.sub (.lst (vw_own (i := i) (by simp) (own1_iff.mpr ⟨_, q', h1⟩) h3 r.sub) (rpAll_mono vw_le h4))⟩
  · cases e

/-! ### two in a row -/
theorem seq2 {r : R2} {g : D → D → Option D} {f1 f2 : Ex} {K : PySem.W.Frag}
    (hg : ∀ (ρ : Rho) (σ : L2.St) (O : Addr → Bool) (W H : Hp) (v1 v2 : V) (x y d : D) (Q : VK), RS K ρ σ O W H → g x y = some d → Rp K (vw ρ σ (al ++ bl) W H) v1 x → Rp K (vw ρ σ (al ++ bl) W H) v2 y → Post K ρ σ cl W H d Q → r v1 v2 H Q)
    (σ : L2.St) (H : Hp) (Q : VK) (h : tP K (e2 g f1 f2) cl σ H Q) : tOp r (tP K f1 al) (tP K f2 bl) σ H Q := by
  obtain ⟨ρ, O, W, d, rs, e, q⟩ := h
  obtain ⟨x, h1, e⟩ := opt_bind e
  obtain ⟨y, h2, e⟩ := opt_bind e
  refine ⟨ρ, O, W, x, rs, h1, fun v1 W1 H1 s1 p1 => ⟨ρ, O, W1, y, rs.pstep s1, h2, fun v2 W2 H2 s2 p2 => ?_⟩⟩
  have s := s1.trans s2
  exact hg ρ σ O W2 H2 v1 v2 x y d Q (rs.pstep s) e (rp_mono (vw_l s.sub) (rp_mono (vw_step s2) p1)) (rp_mono (vw_r s.sub) p2) (q.step s)
theorem dp_bin {op : Operator} {r : R2} {g : D → D → Option D} {f1 f2 : Ex} (ho : OpR X (binaryOp op) r)
    (hg : ∀ (ρ : Rho) (σ : L2.St) (O : Addr → Bool) (W H : Hp) (v1 v2 : V) (x y d : D) (Q : VK), RS X.K ρ σ O W H → g x y = some d → Rp X.K (vw ρ σ (al ++ bl) W H) v1 x → Rp X.K (vw ρ σ (al ++ bl) W H) v2 y → Post X.K ρ σ cl W H d Q → r v1 v2 H Q)
    (ha : DP X a f1 al) (hb : DP X b f2 bl) : DP X (.BinOp a op b pos) (e2 g f1 f2) cl := pe_imp (pe_op ho ha hb) (seq2 hg)
/-- a comparison, as a value or a test -/
abbrev DC (X : Cx) (op : CmpOp) (a b : Expr) (f : Ex) : Prop := PC X op a b (tP X.K f [])
theorem pc_imp {op : CmpOp} {t t' : TE} (h : PC X op a b t) (i : ∀ σ H Q, t' σ H Q → t σ H Q) : PC X op a b t' := ⟨fun pins s σ H Q I q => h.run pins s σ H Q I (i σ H Q q)⟩
theorem pc_R {op : CmpOp} {r : R2} {ta tb : TE} (ho : OpR X (compareOp op) r) (ha : PE X a ta) (hb : PE X b tb) : PC X op a b (tOp r ta tb) :=
  ⟨fun pins s σ H Q I h => bin ha hb I h fun v u s2 x y H2 I2 rx ry q => ho pins s2 σ H2 x y v u Q I2 rx ry q⟩
theorem dc_mk {op : CmpOp} {r : R2} {g : D → D → Option D} {f1 f2 : Ex} (ho : OpR X (compareOp op) r)
    (hg : ∀ (ρ : Rho) (σ : L2.St) (O : Addr → Bool) (W H : Hp) (v1 v2 : V) (x y d : D) (Q : VK), RS X.K ρ σ O W H → g x y = some d → Rp X.K (vw ρ σ (al ++ bl) W H) v1 x → Rp X.K (vw ρ σ (al ++ bl) W H) v2 y → Post X.K ρ σ [] W H d Q → r v1 v2 H Q)
    (ha : DP X a f1 al) (hb : DP X b f2 bl) : DC X op a b (e2 g f1 f2) := pc_imp (pc_R ho ha hb) (seq2 hg)
theorem dp_c {op : CmpOp} (h : DC X op a b f) (hm : behindInMarks op b = false := by rfl) : DP X (.Compare a [op] [b] pos) f [] := pe_cmp h hm
theorem dt_c {op : CmpOp} (h : DC X op a b f) (hm : behindInMarks op b = false := by rfl) : DT X (.Compare a [op] [b] pos) (tE f) := pt_imp (pt_cmp h hm) fun σ H Q ⟨ρ, O, W, b, rs, e, q⟩ => by
  obtain ⟨x, h1, e⟩ := opt_bind e
  refine ⟨ρ, O, W, x, rs, h1, fun v1 W1 H1 s1 p1 => ?_⟩
  unfold dB at e
  split at e
  · cases e; cases p1
    exact ⟨_, rfl, q _ _ s1⟩
  · cases e

/-! ### arithmetic -/
theorem line_eq : sizeLine = 16777216 := sizeLine_eq
theorem rp_tup {K : PySem.W.Frag} {H : Hp} {v : V} {ds : List D} (h : Rp K H v (.tup ds)) : ∃ a xs, v = .ref a ∧ SqT K H a xs ∧ RpAll K H xs ds := by
  cases h with
  | tup h a => exact ⟨_, _, rfl, h, a⟩
theorem rp_lst {K : PySem.W.Frag} {H : Hp} {v : V} {ds : List D} (h : Rp K H v (.lst ds)) : ∃ a xs, v = .ref a ∧ H a = some (.lst xs) ∧ RpAll K H xs ds := by
  cases h with
  | lst h a => exact ⟨_, _, rfl, h, a⟩
theorem RpAll.nil_iff {K : PySem.W.Frag} {H : Hp} {vs : List V} {ds : List D} (h : RpAll K H vs ds) : vs = [] ↔ ds = [] := by
  cases h <;> simp
theorem dp_add (ha : DP X a f al) (hb : DP X b g bl) : DP X (.BinOp a .Add b pos) (e2 dAdd f g) (al ++ bl) := by
  refine dp_bin (op_add.or (op_add_str.or (op_catT.or op_cat))) (fun ρ σ O W H v1 v2 x y d Q r e p1 p2 q => ?_) ha hb
  unfold dAdd at e
  split at e
  · cases e; cases p1; cases p2
    exact .inl ⟨_, _, rfl, rfl, q.here r.sub (.int _)⟩
  · split at e
    · cases e; cases p1; cases p2
      rename_i hz
      exact .inr (.inl ⟨_, _, rfl, rfl, by rw [line_eq]; exact hz, q.here r.sub (.str _)⟩)
    · cases e
  · split at e
    · rename_i hz
      cases e
      obtain ⟨p, xs, rfl, s1, a1⟩ := rp_tup p1
      obtain ⟨p', ys, rfl, s2, a2⟩ := rp_tup p2
      have sb := vw_sub (ρ := ρ) (σ := σ) (al := al ++ bl) r.sub
      refine .inr (.inr (.inl ⟨p, p', xs, ys, rfl, rfl, sqT_mono sb s1, sqT_mono sb s2, fun z => ?_, by rw [line_eq, a1.length, a2.length]; exact hz.2, fun z => ?_, fun z l nl => ?_⟩))
      · have := a1.nil_iff.mp z
        rw [this] at hz
        exact absurd hz.1 (by decide)
      · have e0 := a2.nil_iff.mp z
        rw [e0, List.append_nil] at q
        exact q.here r.sub (.tup s1 a1)
      · exact q.tup r.sub (a1.append a2) nl
    · cases e
  · split at e
    · rename_i hz
      cases e
      obtain ⟨p, xs, rfl, s1, a1⟩ := rp_lst p1
      obtain ⟨p', ys, rfl, s2, a2⟩ := rp_lst p2
      have sb := vw_sub (ρ := ρ) (σ := σ) (al := al ++ bl) r.sub
      exact .inr (.inr (.inr ⟨p, p', xs, ys, rfl, rfl, sb _ _ s1, sb _ _ s2, by rw [line_eq, a1.length, a2.length]; exact hz, fun l nl => q.lst r.sub (a1.append a2) nl⟩))
    · cases e
  · cases e
theorem dp_sub (ha : DP X a f al) (hb : DP X b g bl) : DP X (.BinOp a .Sub b pos) (e2 dSub f g) [] := by
  refine dp_bin op_sub (fun ρ σ O W H v1 v2 x y d Q r e p1 p2 q => ?_) ha hb
  unfold dSub at e
  split at e
  · cases e; cases p1; cases p2
    exact ⟨_, _, rfl, rfl, q.here r.sub (.int _)⟩
  · cases e
theorem op_mul_str : OpR X (binaryOp .Mult) (fun x y H Q => ∃ z n, x = .str z ∧ y = .int n ∧ MulOk z n ∧ Q (.str (Txt.mul z n)) H) := by
  intro pins s σ H x y v u Q I rx ry h
  obtain ⟨z, n, rfl, rfl, ok, q⟩ := h
  obtain ⟨t, rfl⟩ := rx
  obtain ⟨t', rfl⟩ := ry
  exact SB.mul ok fun t' k => ⟨.str _, H, I.tok _, ⟨_, rfl⟩, q⟩
theorem mulOk_str {z : Str} {n : Int} (h : z.length ≤ 1000 ∧ -1000 ≤ n ∧ n ≤ 1000) : MulOk z n := by
  obtain ⟨h1, h2, h3⟩ := h
  refine ⟨?_, fun _ _ => ?_, fun _ _ => ?_⟩
  · rw [Bool.or_eq_false_iff]
    exact ⟨decide_eq_false (by omega), decide_eq_false (by omega)⟩
  · have hn : 0 < n := by omega
    have : (1000 : Int) ≤ (2 ^ 63 - 1) / n := Int.le_ediv_of_mul_le hn (by omega)
    omega
  · have : z.length * n.toNat ≤ 1000 * 1000 := Nat.mul_le_mul h1 (by omega)
    unfold Builtin.Str.tooLong
    have h9 := sizeLine_eq
    exact decide_eq_false (by omega)
theorem mulOk_of {i j : Int} (h : mulOk i j = true) : CMul i j ∨ CMulW i j := by
  unfold mulOk at h
  simp only [Bool.or_eq_true, Bool.and_eq_true, decide_eq_true_eq] at h
  rcases h with (h | h) | h
  · exact .inl (.inl h)
  · exact .inl (.inr h)
  · exact .inr (wide_mul (a := 400) (b := 400) h.1 h.2 (by decide) (by decide) (by decide))
theorem dp_mul (ha : DP X a f al) (hb : DP X b g bl) : DP X (.BinOp a .Mult b pos) (e2 dMul f g) (al ++ bl) := by
  refine dp_bin (op_mul.or (op_mulW.or (op_mul_str.or op_rep))) (fun ρ σ O W H v1 v2 x y d Q r e p1 p2 q => ?_) ha hb
  unfold dMul at e
  split at e
  · split at e
    · rename_i hz
      cases e; cases p1; cases p2
      rcases mulOk_of hz with z | z
      · exact .inl ⟨_, _, rfl, rfl, z, q.here r.sub (.int _)⟩
      · exact .inr (.inl ⟨_, _, rfl, rfl, z, q.here r.sub (.int _)⟩)
    · cases e
  · split at e
    · rename_i hz
      cases e; cases p1; cases p2
      exact .inr (.inr (.inl ⟨_, _, rfl, rfl, mulOk_str hz, q.here r.sub (.str _)⟩))
    · cases e
  · split at e
    · rename_i n hz
      cases e; cases p2
      obtain ⟨p, xs, rfl, s1, a1⟩ := rp_lst p1
      have sb := vw_sub (ρ := ρ) (σ := σ) (al := al ++ bl) r.sub
      refine .inr (.inr (.inr ⟨p, _, xs, rfl, rfl, sb _ _ s1, by omega, by omega, ?_, fun l nl => q.lst r.sub ?_ nl⟩))
      · rw [a1.length, line_eq]
        have : _ * n.toNat ≤ 1000 * 1000 := Nat.mul_le_mul hz.1 (by omega)
        exact Nat.le_trans this (by decide)
      · generalize n.toNat = k
        induction k with
        | zero => exact .nil
        | succ k ih => rw [List.replicate_succ, List.replicate_succ]; exact a1.append ih
    · cases e
  · cases e
theorem dp_div (ha : DP X a f al) (hb : DP X b g bl) : DP X (.BinOp a .FloorDiv b pos) (e2 dDiv f g) [] := by
  refine dp_bin op_fdivW (fun ρ σ O W H v1 v2 x y d Q r e p1 p2 q => ?_) ha hb
  unfold dDiv at e
  split at e
  · split at e
    · rename_i hz
      cases e; cases p1; cases p2
      exact ⟨_, _, rfl, rfl, wide_div (b := 200) hz.1 (by omega) (by decide) (by decide), q.here r.sub (.int _)⟩
    · cases e
  · cases e
theorem dp_mod (ha : DP X a f al) (hb : DP X b g bl) : DP X (.BinOp a .Mod b pos) (e2 dMod f g) [] := by
  refine dp_bin op_mod (fun ρ σ O W H v1 v2 x y d Q r e p1 p2 q => ?_) ha hb
  unfold dMod at e
  split at e
  · split at e
    · rename_i hz
      cases e; cases p1; cases p2
      exact ⟨_, _, rfl, rfl, hz, q.here r.sub (.int _)⟩
    · cases e
  · cases e
theorem dp_pow (ha : DP X a f al) (hb : DP X b g bl) : DP X (.BinOp a .Pow b pos) (e2 dPow f g) [] := by
  refine dp_bin op_pow (fun ρ σ O W H v1 v2 x y d Q r e p1 p2 q => ?_) ha hb
  unfold dPow at e
  split at e
  · split at e
    · rename_i hz
      cases e; cases p1; cases p2
      exact ⟨_, _, rfl, rfl, ⟨hz.1, by omega, by omega⟩, q.here r.sub (.int _)⟩
    · cases e
  · cases e
theorem dp_neg (ha : DP X a f al) : DP X (.UnaryOp .USub a pos) (e1 dNeg f) [] := pe_imp (pe_un un_neg ha) fun σ H Q ⟨ρ, O, W, d, rs, e, q⟩ => by
  obtain ⟨x, h1, e⟩ := opt_bind e
  refine ⟨ρ, O, W, x, rs, h1, fun v1 W1 H1 s1 p1 => ?_⟩
  unfold dNeg at e
  split at e
  · cases e; cases p1
    exact ⟨_, rfl, (q.step s1).here s1.sub (.int _)⟩
  · cases e

/-! ### comparisons -/
theorem cmp_I {op : CmpOp} {p : Int → Int → Bool} (ho : OpR X (compareOp op) (rI0 fun i j => .bl (p i j))) (ha : DP X a f al) (hb : DP X b g bl) : DC X op a b (e2 (dCmp p) f g) := by
  refine dc_mk ho (fun ρ σ O W H v1 v2 x y d Q r e p1 p2 q => ?_) ha hb
  unfold dCmp at e
  split at e
  · cases e; cases p1; cases p2
    exact ⟨_, _, rfl, rfl, q.here r.sub (.bl _)⟩
  · cases e
abbrev pLt (i j : Int) : Bool := decide (i < j)
abbrev pLe (i j : Int) : Bool := decide (i ≤ j)
abbrev pGt (i j : Int) : Bool := decide (j < i)
abbrev pGe (i j : Int) : Bool := decide (j ≤ i)
theorem dc_lt (ha : DP X a f al) (hb : DP X b g bl) : DC X .Lt a b (e2 (dCmp pLt) f g) := cmp_I op_lt ha hb
theorem dc_le (ha : DP X a f al) (hb : DP X b g bl) : DC X .LtE a b (e2 (dCmp pLe) f g) := cmp_I op_le ha hb
theorem dc_gt (ha : DP X a f al) (hb : DP X b g bl) : DC X .Gt a b (e2 (dCmp pGt) f g) := cmp_I op_gt ha hb
theorem dc_ge (ha : DP X a f al) (hb : DP X b g bl) : DC X .GtE a b (e2 (dCmp pGe) f g) := cmp_I op_ge ha hb
theorem dp_dp_mono {K : PySem.W.Frag} {W W' : Hp} (s : Same W W') : ∀ {p : PyData} {v : V}, Dp K W v p → Dp K W' v p := by
  intro p v h
  exact Dp.rec (motive_1 := fun v d _ => Dp K W' v d) (motive_2 := fun vs ds _ => DpAll K W' vs ds) .non .bl .int .str (fun h _ ih => .lst (sqL_mono s h) ih) (fun h _ ih => .tup (sqT_mono s h) ih) .nil (fun _ _ h t => .cons h t) h
def rEqP (K : PySem.W.Frag) (neg : Bool) : R2 := fun x y H Q => ∃ d e, Dp K H x d ∧ Dp K H y e ∧ d.plain = true ∧ e.plain = true ∧ min d.depth e.depth ≤ 60 ∧ Q (.bl (if neg = true then !PyData.eqv d e else PyData.eqv d e)) H
theorem op_eqP (hu : X.A.units + 64 < cLine) : OpR X (compareOp .Eq) (rEqP X.K false) := by
  intro pins s σ H x y v u Q I rx ry h
  obtain ⟨d, e, hd, he, sd, se, dd, q⟩ := h
  obtain ⟨as, r1⟩ := Dp.reads I d x v hd rx
  obtain ⟨bs, r2⟩ := Dp.reads I e y u he ry
  exact SeqAt.eq_plain r1 r2 sd se (by omega) ⟨.bl _, H, I, rfl, q⟩
theorem op_neP (hu : X.A.units + 64 < cLine) : OpR X (compareOp .NotEq) (rEqP X.K true) := by
  intro pins s σ H x y v u Q I rx ry h
  obtain ⟨d, e, hd, he, sd, se, dd, q⟩ := h
  obtain ⟨as, r1⟩ := Dp.reads I d x v hd rx
  obtain ⟨bs, r2⟩ := Dp.reads I e y u he ry
  exact SeqAt.ne_plain r1 r2 sd se (by omega) ⟨.bl _, H, I, rfl, q⟩
/-- a list and the empty list -/
def rEqE (K : PySem.W.Frag) (neg : Bool) : R2 := fun x y H Q => ∃ a b xs, x = .ref a ∧ y = .ref b ∧ SqL K H a xs ∧ SqL K H b [] ∧ Q (.bl (if neg = true then !xs.isEmpty else xs.isEmpty)) H
theorem op_eqE (hu : X.A.units + 64 < cLine) : OpR X (compareOp .Eq) (rEqE X.K false) := by
  intro pins s σ H x y v u Q I rx ry h
  obtain ⟨a, b, xs, rfl, rfl, ha, hb, q⟩ := h
  cases rx; cases ry
  obtain ⟨its, r1, p1, _⟩ := I.list ha
  obtain ⟨its2, r2, p2, _⟩ := I.list hb
  cases r2
  cases r1 with
  | nil => exact SeqAt.eq_listAt (e := fun _ => true) p1.isList p2.isList rfl (by omega) (fun j h1 _ => absurd h1 (Nat.not_lt_zero j)) ⟨.bl true, H, I, rfl, q⟩
  | cons _ _ => exact SeqAt.eq_list_lengthsAt p1.isList p2.isList (by simp) (by omega) ⟨.bl false, H, I, rfl, q⟩
theorem op_neE (hu : X.A.units + 64 < cLine) : OpR X (compareOp .NotEq) (rEqE X.K true) := by
  intro pins s σ H x y v u Q I rx ry h
  obtain ⟨a, b, xs, rfl, rfl, ha, hb, q⟩ := h
  cases rx; cases ry
  obtain ⟨its, r1, p1, _⟩ := I.list ha
  obtain ⟨its2, r2, p2, _⟩ := I.list hb
  cases r2
  cases r1 with
  | nil => exact SeqAt.RcNeAt.lists (e := fun _ => true) p1.isList p2.isList rfl (by omega) (fun j h1 _ => absurd h1 (Nat.not_lt_zero j)) X.prog X.w X.xe _ ⟨.bl false, H, I, rfl, q⟩
  | cons _ _ => exact SeqAt.RcNeAt.lists_lengths p1.isList p2.isList (by simp) (by omega) X.prog X.w X.xe _ ⟨.bl true, H, I, rfl, q⟩
theorem dEqG_of {x y : D} {c : Bool} (e : dEqG x y = some c) : pl x = true ∧ pl y = true ∧ min (dpt x) (dpt y) ≤ 60 ∧ c = deq x y := by
  unfold dEqG at e
  split at e
  · rename_i h
    simp only [Bool.and_eq_true, decide_eq_true_eq] at h
    exact ⟨h.1.1, h.1.2, h.2, (Option.some.inj e).symm⟩
  · cases e
theorem dc_eqs {op : CmpOp} {neg : Bool} {k : D → D → Option D} (hk : ∀ x y, k x y = (dEqB x y).map fun b => .bl (if neg = true then !b else b)) (ho : OpR X (compareOp op) (fun x y H Q => rEqP X.K neg x y H Q ∨ rEqE X.K neg x y H Q)) (ha : DP X a f al) (hb : DP X b g bl) : DC X op a b (e2 k f g) := by
  refine dc_mk ho (fun ρ σ O W H v1 v2 x y d Q r e p1 p2 q => ?_) ha hb
  rw [hk] at e
  obtain ⟨c, e1, rfl⟩ := Option.map_eq_some_iff.mp e
  have sb := vw_sub (ρ := ρ) (σ := σ) (al := al ++ bl) r.sub
  have gen : dEqG x y = some c → rEqP X.K neg v1 v2 H Q := fun e1 => by
    obtain ⟨h1, h2, h3, rfl⟩ := dEqG_of e1
    refine ⟨py x, py y, dp_dp_mono sb (rp_dp h1 p1), dp_dp_mono sb (rp_dp h2 p2), py_plain x, py_plain y, by rw [py_depth, py_depth]; exact h3, ?_⟩
    rw [py_eqv h1 h2]
    exact q.here r.sub (.bl _)
  unfold dEqB at e1
  split at e1
  · cases e1
    obtain ⟨a', vs, rfl, k1, ra⟩ := rp_lst p1
    obtain ⟨b', us, rfl, k2, rb⟩ := rp_lst p2
    cases rb
    refine .inr ⟨a', b', vs, rfl, rfl, sqL_mono sb (.inl (.inl k1)), sqL_mono sb (.inl (.inl k2)), ?_⟩
    cases ra with
    | nil => exact q.here r.sub (.bl _)
    | cons _ _ => exact q.here r.sub (.bl _)
  · exact .inl (gen e1)
theorem dc_eq (hu : X.A.units + 64 < cLine) (ha : DP X a f al) (hb : DP X b g bl) : DC X .Eq a b (e2 dEq f g) := dc_eqs (neg := false) (fun x y => by unfold dEq; rfl) ((op_eqP hu).or (op_eqE hu)) ha hb
theorem dc_ne (hu : X.A.units + 64 < cLine) (ha : DP X a f al) (hb : DP X b g bl) : DC X .NotEq a b (e2 dNe f g) := dc_eqs (neg := true) (fun x y => by unfold dNe; rfl) ((op_neP hu).or (op_neE hu)) ha hb
end
end DL

/-! The data layer, 3: in, tests, items, slices, displays, calls. -/
namespace DL
open PySem PySem.Spec L2

/-! ### in -/
def dInB (x : D) (ys : List D) : Option Bool := if (pl x && pls ys && decide (min (dpts ys) (dpt x) ≤ 60)) = true then some (ys.any fun y => deq y x) else none
def dInO : D → D → Option Bool
  | x, .lst ys => dInB x ys
  | x, .tup ys => dInB x ys
  | x, .scr ns => dInB x (ns.map .int)
  | .str x, .str y => match x.cps.toList with
    | [c] => some (decide (c ∈ y.cps.toList))
    | _ => none
  | _, _ => none
def dIn (x y : D) : Option D := (dInO x y).map .bl
def dNotIn (x y : D) : Option D := (dInO x y).map fun b => .bl (!b)
theorem dInB_of {x : D} {ys : List D} {c : Bool} (e : dInB x ys = some c) : pl x = true ∧ pls ys = true ∧ min (dpts ys) (dpt x) ≤ 60 ∧ c = ys.any fun y => deq y x := by
  unfold dInB at e
  split at e
  · rename_i h
    simp only [Bool.and_eq_true, decide_eq_true_eq] at h
    exact ⟨h.1.1, h.1.2, h.2, (Option.some.inj e).symm⟩
  · cases e
theorem any_py {x : D} (hx : pl x = true) : ∀ {ys : List D}, pls ys = true → ((pys ys).any fun z => PyData.eqv z (py x)) = ys.any fun y => deq y x
  | [], _ => rfl
  | y :: ys, h => by
    simp only [pls, Bool.and_eq_true] at h
    simp only [pys, List.any_cons, py_eqv h.1 hx, any_py hx h.2]
def rInP (K : PySem.W.Frag) (neg : Bool) : R2 := fun x y H Q => ∃ d ds, Dp K H x d ∧ (Dp K H y (.list ds) ∨ Dp K H y (.tuple ds)) ∧ d.plain = true ∧ PyData.plainAll ds = true ∧ min (PyData.depthAll ds) d.depth ≤ 60 ∧
  Q (.bl (if neg = true then !(ds.any fun z => PyData.eqv z d) else ds.any fun z => PyData.eqv z d)) H
section
variable {X : Cx}
theorem op_inP (hu : X.A.units + 65 < cLine) : OpR X (compareOp .In) (rInP X.K false) := by
  intro pins s σ H x y v u Q I rx ry h
  obtain ⟨d, ds, hd, he, sd, se, dd, q⟩ := h
  obtain ⟨as, r1⟩ := Dp.reads I d x v hd rx
  rcases he with he | he
  · obtain ⟨bs, r2⟩ := Dp.reads I (.list ds) y u he ry
    exact SeqAt.in_list_data r2 r1 se sd (by omega) ⟨.bl _, H, I, rfl, q⟩
  · obtain ⟨bs, r2⟩ := Dp.reads I (.tuple ds) y u he ry
    exact SeqAt.in_tuple_data r2 r1 se sd (by omega) ⟨.bl _, H, I, rfl, q⟩
theorem op_notInP (hu : X.A.units + 65 < cLine) : OpR X (compareOp .NotIn) (rInP X.K true) := by
  intro pins s σ H x y v u Q I rx ry h
  obtain ⟨d, ds, hd, he, sd, se, dd, q⟩ := h
  obtain ⟨as, r1⟩ := Dp.reads I d x v hd rx
  rcases he with he | he
  · obtain ⟨bs, r2⟩ := Dp.reads I (.list ds) y u he ry
    exact SeqAt.notIn_list_data r2 r1 se sd (by omega) ⟨.bl _, H, I, rfl, q⟩
  · obtain ⟨bs, r2⟩ := Dp.reads I (.tuple ds) y u he ry
    exact SeqAt.notIn_tuple_data r2 r1 se sd (by omega) ⟨.bl _, H, I, rfl, q⟩
end
theorem map_ints {K : PySem.W.Frag} {U : Hp} (ns : List Int) : RpAll K U (ns.map V.int) (ns.map D.int) := RpAll.ints ns
theorem dpAll_dp_mono {K : PySem.W.Frag} {W W' : Hp} (s : Same W W') : ∀ {ps : List PyData} {vs : List V}, DpAll K W vs ps → DpAll K W' vs ps
  | _, _, .nil => .nil
  | _, _, .cons h t => .cons (dp_dp_mono s h) (dpAll_dp_mono s t)
def rInAll (K : PySem.W.Frag) (neg : Bool) : R2 := fun x y H Q => rInP K neg x y H Q ∨ (∃ (c : Nat) (z : Str), x = .str ⟨#[c]⟩ ∧ y = .str z ∧ Q (.bl (if neg = true then !decide (c ∈ z.cps.toList) else decide (c ∈ z.cps.toList))) H)
theorem str_one {z : Str} {c : Nat} (e : z.cps.toList = [c]) : z = ⟨#[c]⟩ := by
  obtain ⟨⟨l⟩⟩ := z
  have : l = [c] := e
  subst this
  rfl
theorem in_all {K : PySem.W.Frag} {U H : Hp} {v1 v2 : V} {x y : D} {c neg : Bool} {Q : VK} (e : dInO x y = some c) (p1 : Rp K U v1 x) (p2 : Rp K U v2 y) (sb : Same U H) (q : Q (.bl (if neg = true then !c else c)) H) : rInAll K neg v1 v2 H Q := by
  have seq : ∀ {a : Addr} {vs : List V} {ys : List D}, (SqL K U a vs ∨ SqT K U a vs) → dInB x ys = some c → RpAll K U vs ys → rInAll K neg v1 (.ref a) H Q := fun {a vs ys} hq e' ra => by
    obtain ⟨h1, h2, h3, rfl⟩ := dInB_of e'
    refine .inl ⟨py x, pys ys, dp_dp_mono sb (rp_dp h1 p1), ?_, py_plain x, pys_plain ys, by rw [py_depth, pys_depth]; exact h3, ?_⟩
    · rcases hq with hq | hq
      · exact .inl (.lst (sqL_mono sb hq) (dpAll_dp_mono sb (rpAll_dp h2 ra)))
      · exact .inr (.tup (sqT_mono sb hq) (dpAll_dp_mono sb (rpAll_dp h2 ra)))
    · rw [any_py h1 h2]
      exact q
  unfold dInO at e
  split at e
  · cases p2 with | lst h ra => exact seq (.inl (.inl (.inl h))) e ra
  · cases p2 with | tup h ra => exact seq (.inr h) e ra
  · cases p2 with | scr h => exact seq (.inl h.sq) e (map_ints _)
  · split at e
    · rename_i cc ec
      cases e; cases p1; cases p2
      exact .inr ⟨cc, _, congrArg V.str (str_one ec), rfl, q⟩
    · cases e
  · cases e

section
variable {X : Cx} {a b c : Expr} {es : List Expr} {f g h : Ex} {fs : Exs} {al bl cl : List Nat} {pos : Pos}
theorem op_inAll (hu : X.A.units + 65 < cLine) : OpR X (compareOp .In) (rInAll X.K false) := (op_inP hu).or op_in_sign
theorem op_notInAll (hu : X.A.units + 65 < cLine) : OpR X (compareOp .NotIn) (rInAll X.K true) := (op_notInP hu).or op_notIn_sign
theorem dc_in (hu : X.A.units + 65 < cLine) (ha : DP X a f al) (hb : DP X b g bl) : DC X .In a b (e2 dIn f g) := by
  refine dc_mk (op_inAll hu) (fun ρ σ O W H v1 v2 x y d Q r e p1 p2 q => ?_) ha hb
  obtain ⟨c, e1, rfl⟩ := Option.map_eq_some_iff.mp e
  exact in_all e1 p1 p2 (vw_sub r.sub) (q.here r.sub (.bl _))
theorem dc_notIn (hu : X.A.units + 65 < cLine) (ha : DP X a f al) (hb : DP X b g bl) : DC X .NotIn a b (e2 dNotIn f g) := by
  refine dc_mk (op_notInAll hu) (fun ρ σ O W H v1 v2 x y d Q r e p1 p2 q => ?_) ha hb
  obtain ⟨c, e1, rfl⟩ := Option.map_eq_some_iff.mp e
  exact in_all e1 p1 p2 (vw_sub r.sub) (q.here r.sub (.bl _))
/-- is None, is not None -/
def dIsN (neg : Bool) : D → Option D
  | .non => some (.bl (!neg))
  | _ => some (.bl neg)
theorem rp_non {K : PySem.W.Frag} {H : Hp} {v : V} {d : D} (h : Rp K H v d) : dIsN false d = some (.bl (decide (v = .non))) ∧ dIsN true d = some (.bl (!decide (v = .non))) := by
  cases h <;> exact ⟨rfl, rfl⟩
theorem dc_isN {j pos'} (ha : DP X a f al) : DC X .Is a (.Constant .none j pos') (e1 (dIsN false) f) := pc_imp (pc_isN ha) fun σ H Q ⟨ρ, O, W, d, rs, e, q⟩ => by
  obtain ⟨x, h1, e⟩ := opt_bind e
  refine ⟨ρ, O, W, x, rs, h1, fun v1 W1 H1 s1 p1 => ?_⟩
  rw [(rp_non p1).1] at e
  cases e
  exact (q.step s1).here s1.sub (.bl _)
theorem dc_notN {j pos'} (ha : DP X a f al) : DC X .IsNot a (.Constant .none j pos') (e1 (dIsN true) f) := pc_imp (pc_notN ha) fun σ H Q ⟨ρ, O, W, d, rs, e, q⟩ => by
  obtain ⟨x, h1, e⟩ := opt_bind e
  refine ⟨ρ, O, W, x, rs, h1, fun v1 W1 H1 s1 p1 => ?_⟩
  rw [(rp_non p1).2] at e
  cases e
  exact (q.step s1).here s1.sub (.bl _)

/-! ### tests -/
variable {t u : Te} {rest : List Expr}
theorem dt_e (ha : DP X a f al) (he : ∀ whole, isTrue a X.env whole = (do let v ← whole; standAt a.pos; holding [v] (truthy v)) := by intro _; rfl) : DT X a (tE f) := pt_imp (pt_val ha he) fun σ H Q ⟨ρ, O, W, b, rs, e, q⟩ => by
  obtain ⟨x, h1, e⟩ := opt_bind e
  refine ⟨ρ, O, W, x, rs, h1, fun v1 W1 H1 s1 p1 => ?_⟩
  unfold dB at e
  split at e
  · cases e; cases p1
    exact ⟨_, rfl, q _ _ s1⟩
  · cases e
theorem dt_no (ha : DT X a t) : DT X (.UnaryOp .Not a pos) (tNo t) := pt_imp (pt_not ha) fun σ H Q ⟨ρ, O, W, b, rs, e, q⟩ => by
  obtain ⟨x, h1, rfl⟩ := Option.map_eq_some_iff.mp e
  exact ⟨ρ, O, W, x, rs, h1, fun W1 H1 s1 => q _ _ s1⟩
theorem dw_and1 (ha : DT X a t) : PW X (.BoolOp .And [a] pos) (tQ X.K t) := pw_and1 ha
theorem dw_or1 (ha : DT X a t) : PW X (.BoolOp .Or [a] pos) (tQ X.K t) := pw_or1 ha
theorem dw_and (ha : DT X a t) (hb : PW X (.BoolOp .And (b :: rest) pos) (tQ X.K u)) : PW X (.BoolOp .And (a :: b :: rest) pos) (tQ X.K (tAn t u)) := pw_imp (pw_and ha hb) fun σ H Q ⟨ρ, O, W, c, rs, e, q⟩ => by
  obtain ⟨x, h1, e⟩ := opt_bind e
  refine ⟨ρ, O, W, x, rs, h1, fun W1 H1 s1 => ?_⟩
  cases x with
  | true => exact iteT ⟨ρ, O, W1, c, rs.pstep s1, e, fun W2 H2 s2 => q _ _ (s1.trans s2)⟩
  | false =>
    cases e
    exact iteF (q _ _ s1)
theorem dw_or (ha : DT X a t) (hb : PW X (.BoolOp .Or (b :: rest) pos) (tQ X.K u)) : PW X (.BoolOp .Or (a :: b :: rest) pos) (tQ X.K (tOr' t u)) := pw_imp (pw_or ha hb) fun σ H Q ⟨ρ, O, W, c, rs, e, q⟩ => by
  obtain ⟨x, h1, e⟩ := opt_bind e
  refine ⟨ρ, O, W, x, rs, h1, fun W1 H1 s1 => ?_⟩
  cases x with
  | false => exact iteF ⟨ρ, O, W1, c, rs.pstep s1, e, fun W2 H2 s2 => q _ _ (s1.trans s2)⟩
  | true =>
    cases e
    exact iteT (q _ _ s1)
theorem dt_w (h : PW X a (tQ X.K t)) : DT X a t := h.pt
/-- and, or, not as values (all bools) -/
def eAn (f g : Ex) : Ex := fun ρ => (f ρ).bind fun x => match x with
  | .bl b => if b = true then g ρ else some (.bl false)
  | _ => none
def eOr (f g : Ex) : Ex := fun ρ => (f ρ).bind fun x => match x with
  | .bl b => if b = true then some (.bl true) else g ρ
  | _ => none
def dNot : D → Option D
  | .bl b => some (.bl (!b))
  | _ => none
theorem dp_one {op} (ha : DP X a f al) : DP X (.BoolOp op [a] pos) f al := pe_one ha
theorem dp_and (ha : DP X a f al) (hb : DP X (.BoolOp .And (b :: rest) pos) g bl) : DP X (.BoolOp .And (a :: b :: rest) pos) (eAn f g) bl := pe_imp (pe_and ha hb) fun σ H Q ⟨ρ, O, W, d, rs, e, q⟩ => by
  obtain ⟨x, h1, e⟩ := opt_bind e
  refine ⟨ρ, O, W, x, rs, h1, fun v1 W1 H1 s1 p1 => ?_⟩
  split at e
  · cases p1
    rename_i c
    refine ⟨c, rfl, ?_⟩
    cases c with
    | true => exact iteT ⟨ρ, O, W1, d, rs.pstep s1, e, q.step s1⟩
    | false => cases e; exact iteF ((q.step s1).here s1.sub (.bl _))
  · cases e
theorem dp_or (ha : DP X a f al) (hb : DP X (.BoolOp .Or (b :: rest) pos) g bl) : DP X (.BoolOp .Or (a :: b :: rest) pos) (eOr f g) bl := pe_imp (pe_or ha hb) fun σ H Q ⟨ρ, O, W, d, rs, e, q⟩ => by
  obtain ⟨x, h1, e⟩ := opt_bind e
  refine ⟨ρ, O, W, x, rs, h1, fun v1 W1 H1 s1 p1 => ?_⟩
  split at e
  · cases p1
    rename_i c
    refine ⟨c, rfl, ?_⟩
    cases c with
    | false => exact iteF ⟨ρ, O, W1, d, rs.pstep s1, e, q.step s1⟩
    | true => cases e; exact iteT ((q.step s1).here s1.sub (.bl _))
  · cases e
theorem dp_not (ha : DP X a f al) : DP X (.UnaryOp .Not a pos) (e1 dNot f) [] := pe_imp (pe_not ha) fun σ H Q ⟨ρ, O, W, d, rs, e, q⟩ => by
  obtain ⟨x, h1, e⟩ := opt_bind e
  refine ⟨ρ, O, W, x, rs, h1, fun v1 W1 H1 s1 p1 => ?_⟩
  unfold dNot at e
  split at e
  · cases e; cases p1
    exact ⟨_, rfl, (q.step s1).here s1.sub (.bl _)⟩
  · cases e
def eIf (t : Te) (f g : Ex) : Ex := fun ρ => (t ρ).bind fun b => if b = true then f ρ else g ρ
theorem dp_if (hc : DT X c t) (ha : DP X a f al) (hb : DP X b g bl) : DP X (.IfExp c a b pos) (eIf t f g) (al ++ bl) := pe_imp (pe_ifExp hc ha hb) fun σ H Q ⟨ρ, O, W, d, rs, e, q⟩ => by
  obtain ⟨x, h1, e⟩ := opt_bind e
  refine ⟨ρ, O, W, x, rs, h1, fun W1 H1 s1 => ?_⟩
  cases x with
  | true => exact iteT ⟨ρ, O, W1, d, rs.pstep s1, e, fun v W2 H2 s2 p => q v W2 H2 (s1.trans s2) (rp_mono (vw_l s2.sub) p)⟩
  | false => exact iteF ⟨ρ, O, W1, d, rs.pstep s1, e, fun v W2 H2 s2 p => q v W2 H2 (s1.trans s2) (rp_mono (vw_r s2.sub) p)⟩

/-! ### items -/
def dIx : D → D → Option D
  | .lst xs, .int i => atI xs i
  | .tup xs, .int i => atI xs i
  | .scr ns, .int i => (atI ns i).map .int
  | .str z, .int i => if z.length ≤ 16777216 then (atI z.cps.toList i).map fun c => .str ⟨#[c]⟩ else none
  | _, _ => none
theorem atI_rp {K : PySem.W.Frag} {U : Hp} {vs : List V} {ds : List D} {i : Int} {d : D} (h : RpAll K U vs ds) (e : atI ds i = some d) : ∃ v, atI vs i = some v ∧ Rp K U v d := by
  unfold atI at e ⊢
  rw [h.length]
  obtain ⟨j, e1, e2⟩ := opt_bind e
  obtain ⟨v, e3, r⟩ := h.get e2
  exact ⟨v, by rw [e1]; exact e3, r⟩
theorem atI_map {α β : Type} (g : α → β) {xs : List α} {i : Int} {x : α} (e : atI xs i = some x) : atI (xs.map g) i = some (g x) := by
  unfold atI at e ⊢
  rw [List.length_map]
  obtain ⟨j, e3, e4⟩ := opt_bind e
  rw [e3]
  show (xs.map g)[j]? = _
  rw [List.getElem?_map, e4]
  rfl
theorem ix_ok {K : PySem.W.Frag} {U H : Hp} {v1 v2 : V} {x y d : D} {Q : VK} (e : dIx x y = some d) (p1 : Rp K U v1 x) (p2 : Rp K U v2 y) (sb : Same U H) (q : ∀ v, Rp K U v d → Q v H) : rIx K v1 v2 H Q := by
  unfold dIx at e
  split at e
  · cases p1 with
    | lst h ra =>
      cases p2
      obtain ⟨v, e1, r⟩ := atI_rp ra e
      exact .inl ⟨_, _, _, v, rfl, rfl, .inl (.inl (sb _ _ h)), e1, q v r⟩
  · cases p1 with
    | tup h ra =>
      cases p2
      obtain ⟨v, e1, r⟩ := atI_rp ra e
      exact .inr (.inl ⟨_, _, _, v, rfl, rfl, sqT_mono sb h, e1, q v r⟩)
  · cases p1 with
    | scr h =>
      cases p2
      obtain ⟨n, e1, rfl⟩ := Option.map_eq_some_iff.mp e
      have e2 := atI_map D.int e1
      obtain ⟨v, e3, r⟩ := atI_rp (K := K) (U := U) (map_ints _) e2
      exact .inl ⟨_, _, _, v, rfl, rfl, sqL_mono sb h.sq, e3, q v r⟩
  · split at e
    · rename_i hz
      cases p1; cases p2
      obtain ⟨c, e1, rfl⟩ := Option.map_eq_some_iff.mp e
      exact .inr (.inr ⟨_, _, c, rfl, rfl, by rw [line_eq]; exact hz, e1, q _ (.str _)⟩)
    · cases e
  · cases e
theorem dp_ix (ha : DP X a f al) (hb : DP X b g bl) (hs : PlainIx b) : DP X (.Subscript a b pos) (e2 dIx f g) (al ++ bl) :=
  pe_imp (pe_ix ix_seq ha hb hs) (seq2 fun ρ σ O W H v1 v2 x y d Q r e p1 p2 q => ix_ok e p1 p2 (vw_sub r.sub) fun v p => q.here r.sub p)
/-- an item of a list at a name: it is not held by the name alone -/
theorem dp_ixv (i : Nat) {e : Expr} (he : PE X e (tVar i)) (hb : DP X b g bl) (hs : PlainIx b) : DP X (.Subscript e b pos) (e2 dIx (eV i) g) bl := pe_imp (pe_ix ix_seq he hb hs) fun σ H Q ⟨ρ, O, W, d, rs, e, q⟩ => by
  obtain ⟨x, h1, e⟩ := opt_bind e
  obtain ⟨y, h2, e⟩ := opt_bind e
  unfold eV at h1
  split at h1
  · rename_i d' q'
    cases h1
    obtain ⟨v, k1, k2⟩ := rs.vals i _ q'
    refine ⟨v, k1, ρ, O, W, y, rs, h2, fun v2 W2 H2 s2 p2 => ?_⟩
    exact ix_ok e (rp_mono ((s2.le).trans vw_le) k2) p2 (vw_sub s2.sub) fun v p => (q.step s2).here s2.sub p
  · rename_i xs q'
    cases h1
    obtain ⟨a, vs, k1, k2, k3, k4⟩ := rs.owns i _ q'
    refine ⟨.ref a, k1, ρ, O, W, y, rs, h2, fun v2 W2 H2 s2 p2 => ?_⟩
    cases y with
    | int j =>
      cases p2
      obtain ⟨v, e1, r⟩ := atI_rp k4 (show atI xs j = some d from e)
      exact .inl ⟨_, _, _, v, rfl, rfl, .inl (.inl (s2.keep _ _ k3)), e1, (q.step s2).here s2.sub (rp_mono ((s2.le).trans vw_le) r)⟩
    | _ => cases e
  · cases h1

/-! ### slices -/
def cutG {α : Type} (xs : List α) (lo hi : Option Int) : List α := (xs.drop (HT.sIx xs.length 0 lo)).take (HT.sIx xs.length xs.length hi - HT.sIx xs.length 0 lo)
theorem cutG_v (xs : List V) (lo hi : Option Int) : cutG xs lo hi = cutV xs lo hi := rfl
theorem RpAll.cut {K : PySem.W.Frag} {U : Hp} {vs : List V} {ds : List D} (h : RpAll K U vs ds) (lo hi : Option Int) : RpAll K U (cutV vs lo hi) (cutG ds lo hi) := by
  unfold cutV cutG
  rw [h.length]
  exact (h.drop _).take _
abbrev Eo := Rho → Option (Option Int)
def oN : Eo := fun _ => some none
def dI : D → Option Int
  | .int i => some i
  | _ => none
def oS (f : Ex) : Eo := fun ρ => ((f ρ).bind dI).map some
def tO (K : PySem.W.Frag) (f : Eo) : TO := fun σ H Q => ∃ ρ O W o, RS K ρ σ O W H ∧ f ρ = some o ∧ ∀ W' H', PStep W H W' H' → Q o H'
abbrev DO (X : Cx) (e : Option Expr) (f : Eo) : Prop := PO X e (tO X.K f)
theorem po_imp {e : Option Expr} {t t' : TO} (h : PO X e t) (i : ∀ σ H Q, t' σ H Q → t σ H Q) : PO X e t' := ⟨fun pins s σ H Q I q => h.run pins s σ H Q I (i σ H Q q)⟩
theorem do_n : DO X none oN := po_imp po_none fun σ H Q ⟨ρ, O, W, o, rs, e, q⟩ => by
  cases e
  exact q _ _ (.refl rs.sub)
theorem do_s (ha : DP X a f al) : DO X (some a) (oS f) := po_imp (po_some ha) fun σ H Q ⟨ρ, O, W, o, rs, e, q⟩ => by
  obtain ⟨i, e', rfl⟩ := Option.map_eq_some_iff.mp e
  obtain ⟨x, h1, e⟩ := opt_bind e'
  refine ⟨ρ, O, W, x, rs, h1, fun v1 W1 H1 s1 p1 => ?_⟩
  unfold dI at e
  split at e
  · cases e; cases p1
    exact ⟨_, rfl, q _ _ s1⟩
  · cases e
def dSl (lo hi : Option Int) : D → Option D
  | .lst xs => some (.lst (cutG xs lo hi))
  | .scr ns => some (.lst (cutG (ns.map .int) lo hi))
  | .tup xs => if HT.sIx xs.length 0 lo = 0 ∧ HT.sIx xs.length xs.length hi = xs.length then none else some (.tup (cutG xs lo hi))
  | .str z => if z.length ≤ 16777216 then some (.str (cutS z lo hi)) else none
  | _ => none
def eSl (f : Ex) (lo hi : Eo) : Ex := fun ρ => (f ρ).bind fun x => (lo ρ).bind fun l => (hi ρ).bind fun u => dSl l u x
theorem dp_sl {lo hi : Option Expr} {l u : Eo} {p2} (ha : DP X a f al) (hl : DO X lo l) (hh : DO X hi u) : DP X (.Subscript a (.Slice lo hi none p2) pos) (eSl f l u) al := by
  refine pe_imp (pe_slice (sl_list.or (sl_tup.or sl_str)) ha hl hh) fun σ H Q ⟨ρ, O, W, d, rs, e, q⟩ => ?_
  obtain ⟨x, h1, e⟩ := opt_bind e
  obtain ⟨i, h2, e⟩ := opt_bind e
  obtain ⟨j, h3, e⟩ := opt_bind e
  refine ⟨ρ, O, W, x, rs, h1, fun v1 W1 H1 s1 p1 => ⟨ρ, O, W1, i, rs.pstep s1, h2, fun W2 H2 s2 => ⟨ρ, O, W2, j, rs.pstep (s1.trans s2), h3, fun W3 H3 s3 => ?_⟩⟩⟩
  have s := s1.trans (s2.trans s3)
  have p1 := rp_mono (vw_step (s2.trans s3)) p1
  have q := q.step s
  unfold dSl at e
  split at e
  · cases e
    obtain ⟨a', vs, rfl, k, ra⟩ := rp_lst p1
    exact .inl ⟨a', vs, rfl, .inl (.inl (vw_sub s.sub _ _ k)), fun p n => q.lst s.sub (ra.cut i j) n⟩
  · cases e
    cases p1 with
    | scr k => exact .inl ⟨_, _, rfl, sqL_mono (vw_sub s.sub) k.sq, fun p n => q.lst s.sub ((map_ints _).cut i j) n⟩
  · split at e
    · cases e
    · rename_i hn
      cases e
      obtain ⟨a', vs, rfl, k, ra⟩ := rp_tup p1
      exact .inr (.inl ⟨a', vs, rfl, sqT_mono (vw_sub s.sub) k, by rw [ra.length]; exact hn, fun p n => q.tup s.sub (ra.cut i j) n⟩)
  · split at e
    · rename_i hz
      cases e; cases p1
      exact .inr (.inr ⟨_, rfl, by rw [line_eq]; exact hz, q.here s.sub (.str _)⟩)
    · cases e
  · cases e

/-- a slice of what a name holds: its items are not held by the name alone -/
theorem dp_slv (i : Nat) {e : Expr} {lo hi : Option Expr} {l u : Eo} {p2} (ha : PE X e (tVar i)) (hl : DO X lo l) (hh : DO X hi u) : DP X (.Subscript e (.Slice lo hi none p2) pos) (eSl (eV i) l u) [] := by
  refine pe_imp (pe_slice (sl_list.or (sl_tup.or sl_str)) ha hl hh) fun σ H Q ⟨ρ, O, W, d, rs, e, q⟩ => ?_
  obtain ⟨x, h1, e⟩ := opt_bind e
  obtain ⟨i', h2, e⟩ := opt_bind e
  obtain ⟨j, h3, e⟩ := opt_bind e
  unfold eV at h1
  split at h1
  · rename_i d' q'
    cases h1
    obtain ⟨v, k1, k2⟩ := rs.vals i _ q'
    refine ⟨v, k1, ρ, O, W, i', rs, h2, fun W2 H2 s2 => ⟨ρ, O, W2, j, rs.pstep s2, h3, fun W3 H3 s3 => ?_⟩⟩
    have s := s2.trans s3
    have p1 := rp_mono s.le k2
    have q := q.step s
    have up : Same W3 (vw ρ σ [] W3 H3) := vw_le
    cases x with
    | lst xs =>
      have e' : some (D.lst (cutG xs i' j)) = some d := e
      cases e'
      obtain ⟨a', vs, rfl, k, ra⟩ := rp_lst p1
      exact .inl ⟨a', vs, rfl, .inl (.inl (s.sub _ _ k)), fun p n => q.lst s.sub (rpAll_mono up (ra.cut i' j)) n⟩
    | scr ns =>
      have e' : some (D.lst (cutG (ns.map .int) i' j)) = some d := e
      cases e'
      cases p1 with
      | scr k => exact .inl ⟨_, _, rfl, sqL_mono s.sub k.sq, fun p n => q.lst s.sub ((map_ints _).cut i' j) n⟩
    | tup xs =>
      have e' : (if HT.sIx xs.length 0 i' = 0 ∧ HT.sIx xs.length xs.length j = xs.length then none else some (D.tup (cutG xs i' j))) = some d := e
      split at e'
      · cases e'
      · rename_i hn
        cases e'
        obtain ⟨a', vs, rfl, k, ra⟩ := rp_tup p1
        exact .inr (.inl ⟨a', vs, rfl, sqT_mono s.sub k, by rw [ra.length]; exact hn, fun p n => q.tup s.sub (rpAll_mono up (ra.cut i' j)) n⟩)
    | str z =>
      have e' : (if z.length ≤ 16777216 then some (D.str (cutS z i' j)) else none) = some d := e
      split at e'
      · rename_i hz
        cases e'
        cases p1
        exact .inr (.inr ⟨_, rfl, by rw [line_eq]; exact hz, q.here s.sub (.str _)⟩)
      · cases e'
    | _ => cases e
  · rename_i xs q'
    cases h1
    have e' : some (D.lst (cutG xs i' j)) = some d := e
    cases e'
    obtain ⟨a', vs, k1, k2, k3, k4⟩ := rs.owns i _ q'
    refine ⟨.ref a', k1, ρ, O, W, i', rs, h2, fun W2 H2 s2 => ⟨ρ, O, W2, j, rs.pstep s2, h3, fun W3 H3 s3 => ?_⟩⟩
    have s := s2.trans s3
    exact .inl ⟨a', vs, rfl, .inl (.inl (s.keep _ _ k3)), fun p n => (q.step s).lst s.sub (rpAll_mono (s.le.trans vw_le) (k4.cut i' j)) n⟩
  · cases h1

/-! ### argument lists, displays -/
theorem da_nil : DA X [] esN [] := pa_imp pa_nil fun σ H Q ⟨ρ, O, W, ds, rs, e, q⟩ => by
  cases e
  exact q _ _ _ (.refl rs.sub) .nil
theorem da_cons (ha : DP X a f al) (hr : DA X es fs bl) (hs : starEach (a :: es) X.env = (false, eval a X.env) :: starEach es X.env := by rfl) : DA X (a :: es) (esC f fs) (al ++ bl) := pa_imp (pa_cons ha hr hs) fun σ H Q ⟨ρ, O, W, ds, rs, e, q⟩ => by
  obtain ⟨x, h1, e⟩ := opt_bind e
  obtain ⟨xs, h2, e⟩ := opt_bind e
  cases e
  refine ⟨ρ, O, W, x, rs, h1, fun v1 W1 H1 s1 p1 => ⟨ρ, O, W1, xs, rs.pstep s1, h2, fun vs W2 H2 s2 p2 => ?_⟩⟩
  have s := s1.trans s2
  exact q _ _ _ s (.cons (rp_mono (vw_l s.sub) (rp_mono (vw_step s2) p1)) (rpAll_mono (vw_r s.sub) p2))
def dTup (ds : List D) : Option D := if ds.length ≤ 16777216 then some (.tup ds) else none
theorem dp_tup {x1} (h : DA X es fs al) : DP X (.Tuple es x1 pos) (eA dTup fs) al := pe_imp (pe_tup h) fun σ H Q ⟨ρ, O, W, d, rs, e, q⟩ => by
  obtain ⟨ds, h1, e⟩ := opt_bind e
  unfold dTup at e
  split at e
  · rename_i hz
    cases e
    refine ⟨ρ, O, W, ds, rs, h1, fun vs W1 H1 s1 p1 => ⟨by rw [line_eq, p1.length]; exact hz, fun p n => (q.step s1).tup s1.sub p1 n⟩⟩
  · cases e
def lsG (fs : Exs) : Exs := fun ρ => (fs ρ).bind fun ds => if ds.length ≤ 16777216 then some ds else none
theorem dn_lst (h : DA X es fs al) : DN X (.List es pos) (lsG fs) al := pe_imp (pe_lst h) fun σ H Q ⟨ρ, O, W, ds, rs, e, q⟩ => by
  obtain ⟨ds', h1, e⟩ := opt_bind e
  split at e
  · rename_i hz
    cases e
    refine ⟨ρ, O, W, ds, rs, h1, fun vs W1 H1 s1 p1 => ⟨by rw [line_eq, p1.length]; exact hz, fun p n => ?_⟩⟩
    have wn : W1 p = none := by
      cases z : W1 p with
      | none => rfl
      | some o => rw [s1.sub p o z] at n; cases n
    have st : PStep W1 H1 W1 (upd H1 p (.lst vs)) := ⟨fun _ _ e => e, fun b o e => by rw [upd_ne (ne_of_none e n)]; exact e, fun b o e => by rw [upd_ne (ne_of_none (s1.sub b o e) n)]; exact s1.sub b o e, fun _ _ e => .inl e⟩
    exact q p vs W1 _ (s1.trans st) (s1.keep.free n) wn upd_same (rpAll_mono (vw_step st) p1)
  · cases e
def eL (fs : Exs) : Ex := fun ρ => (fs ρ).map .lst
theorem tP_tN {K : PySem.W.Frag} {fs : Exs} {al : List Nat} (σ : L2.St) (H : Hp) (Q : VK) (h : tP K (eL fs) al σ H Q) : tN K fs al σ H Q := by
  obtain ⟨ρ, O, W, d, rs, e, q⟩ := h
  obtain ⟨ds, h1, rfl⟩ := Option.map_eq_some_iff.mp e
  refine ⟨ρ, O, W, ds, rs, h1, fun a vs W' H' s n w hh ra => ?_⟩
  have st : PStep W H (upd W' a (.lst vs)) H' := ⟨fun b o e => by
      have := s.le b o e
      rw [upd_ne (fun z => by subst z; rw [w] at this; cases this)]
      exact this, s.keep, fun b o e => by
      by_cases hb : b = a
      · subst hb; rw [upd_same] at e; rw [hh, e]
      · rw [upd_ne hb] at e; exact s.sub b o e, fun b o e => by
      by_cases hb : b = a
      · subst hb; exact .inr n
      · rw [upd_ne hb] at e; exact s.new b o e⟩
  have up : Same (vw ρ σ al W' H') (vw ρ σ al (upd W' a (.lst vs)) H') := fun b o e => by
    rcases of_vw e with z | ⟨_, z, i, hi, y⟩
    · refine vw_of b ?_
      rw [upd_ne (fun y => by subst y; rw [w] at z; cases z)]
      exact z
    · exact vw_own hi y z st.sub
  exact q _ _ _ st (.lst (vw_of a upd_same) (rpAll_mono up ra))
theorem dp_n {e : Expr} (h : DN X e fs al) : DP X e (eL fs) al := pe_imp h tP_tN

/-! ### built-ins by their names -/
theorem cb {e : Expr} {r : List V → Hp → VK → Prop} {k : List D → Option D} (he : PE X e (tCB r (tPs X.K fs al)))
    (hg : ∀ (ρ : Rho) (σ : L2.St) (O : Addr → Bool) (W H : Hp) (vs : List V) (ds : List D) (d : D) (Q : VK), RS X.K ρ σ O W H → k ds = some d → RpAll X.K (vw ρ σ al W H) vs ds → Post X.K ρ σ cl W H d Q → r vs H Q) : DP X e (eA k fs) cl :=
  pe_imp he fun σ H Q ⟨ρ, O, W, d, rs, e, q⟩ => by
    obtain ⟨ds, h1, e⟩ := opt_bind e
    exact ⟨ρ, O, W, ds, rs, h1, fun vs W1 H1 s1 p1 => hg ρ σ O W1 H1 vs ds d Q (rs.pstep s1) e p1 (q.step s1)⟩
theorem rpAll1 {K : PySem.W.Frag} {U : Hp} {vs : List V} {d : D} (h : RpAll K U vs [d]) : ∃ v, vs = [v] ∧ Rp K U v d := by
  cases h with | cons h t => cases t; exact ⟨_, rfl, h⟩
theorem rpAll2 {K : PySem.W.Frag} {U : Hp} {vs : List V} {d e : D} (h : RpAll K U vs [d, e]) : ∃ v w, vs = [v, w] ∧ Rp K U v d ∧ Rp K U w e := by
  cases h with | cons h t => cases t with | cons h' t => cases t; exact ⟨_, _, rfl, h, h'⟩
def dLen : List D → Option D
  | [.lst xs] => some (.int xs.length)
  | [.tup xs] => some (.int xs.length)
  | [.scr ns] => some (.int ns.length)
  | [.str z] => if z.length ≤ 16777216 then some (.int z.length) else none
  | _ => none
theorem boot_len' : bootBuiltins "len" = some (.builtin "len") := by decide +kernel
theorem boot_int' : bootBuiltins "int" = some (.type "int") := by decide +kernel
theorem boot_str' : bootBuiltins "str" = some (.type "str") := by decide +kernel
theorem boot_tuple' : bootBuiltins "tuple" = some (.type "tuple") := by decide +kernel
theorem boot_list' : bootBuiltins "list" = some (.type "list") := by decide +kernel
theorem boot_bool' : bootBuiltins "bool" = some (.type "bool") := by decide +kernel
theorem boot_dict' : bootBuiltins "dict" = some (.type "dict") := by decide +kernel
theorem boot_sum' : bootBuiltins "sum" = some (.builtin "sum") := by decide +kernel
theorem boot_min' : bootBuiltins "min" = some (.builtin "min") := by decide +kernel
theorem boot_max' : bootBuiltins "max" = some (.builtin "max") := by decide +kernel
theorem boot_all' : bootBuiltins "all" = some (.builtin "all") := by decide +kernel
theorem boot_any' : bootBuiltins "any" = some (.builtin "any") := by decide +kernel
theorem boot_isi' : bootBuiltins "isinstance" = some (.builtin "isinstance") := by decide +kernel
variable {p : Pos}
theorem dp_len (hg : Gl X "len") (hm : X.mg "len" = none) (ha : DA X (a :: es) fs al) (he : starEach (a :: es) X.env = (false, eval a X.env) :: starEach es X.env := by rfl) (hpl : (backTo pos (starEach es X.env)).any (·.1) = false := by rfl) :
    DP X (.Call (.Name "len" p) (a :: es) [] pos) (eA dLen fs) [] := by
  refine cb (pe_callB (call_len_seq.or call_len_str) hg hm boot_len' ha (he := he) (hpl := hpl)) fun ρ σ O W H vs ds d Q r e p q => ?_
  unfold dLen at e
  split at e
  · cases e
    obtain ⟨v, rfl, p1⟩ := rpAll1 p
    obtain ⟨a', xs, rfl, k, ra⟩ := rp_lst p1
    refine .inl ⟨a', xs, rfl, .inl (.inl (.inl (vw_sub r.sub _ _ k))), ?_⟩
    rw [ra.length]
    exact q.here r.sub (.int _)
  · cases e
    obtain ⟨v, rfl, p1⟩ := rpAll1 p
    obtain ⟨a', xs, rfl, k, ra⟩ := rp_tup p1
    refine .inl ⟨a', xs, rfl, .inr (sqT_mono (vw_sub r.sub) k), ?_⟩
    rw [ra.length]
    exact q.here r.sub (.int _)
  · cases e
    obtain ⟨v, rfl, p1⟩ := rpAll1 p
    cases p1 with
    | scr k =>
      refine .inl ⟨_, _, rfl, .inl (sqL_mono (vw_sub r.sub) k.sq), ?_⟩
      rw [List.length_map]
      exact q.here r.sub (.int _)
  · split at e
    · rename_i hz
      cases e
      obtain ⟨v, rfl, p1⟩ := rpAll1 p
      cases p1
      exact .inr ⟨_, rfl, by rw [line_eq]; exact hz, q.here r.sub (.int _)⟩
    · cases e
  · cases e
def dInt : List D → Option D
  | [.int i] => some (.int i)
  | [.bl b] => some (.int (if b then 1 else 0))
  | [.str z] => if z.length ≤ 640 then (PySem.intText? z).map .int else none
  | _ => none
theorem dp_intc (hg : Gl X "int") (hm : X.mg "int" = none) (ha : DA X (a :: es) fs al) (he : starEach (a :: es) X.env = (false, eval a X.env) :: starEach es X.env := by rfl) (hpl : (backTo pos (starEach es X.env)).any (·.1) = false := by rfl) :
    DP X (.Call (.Name "int" p) (a :: es) [] pos) (eA dInt fs) [] := by
  refine cb (pe_callTy (call_int1.or call_int_str) hg hm boot_int' ha (he := he) (hpl := hpl)) fun ρ σ O W H vs ds d Q r e p q => ?_
  unfold dInt at e
  split at e
  · cases e
    obtain ⟨v, rfl, p1⟩ := rpAll1 p
    cases p1
    exact .inl (.inl ⟨_, rfl, q.here r.sub (.int _)⟩)
  · cases e
    obtain ⟨v, rfl, p1⟩ := rpAll1 p
    cases p1
    exact .inl (.inr ⟨_, rfl, q.here r.sub (.int _)⟩)
  · split at e
    · rename_i hz
      obtain ⟨n, e1, rfl⟩ := Option.map_eq_some_iff.mp e
      obtain ⟨v, rfl, p1⟩ := rpAll1 p
      cases p1
      exact .inr ⟨_, n, rfl, e1, hz, q.here r.sub (.int _)⟩
    · cases e
  · cases e
def dStr : List D → Option D
  | [.int i] => if -(2 ^ 60) < i ∧ i < 2 ^ 60 then some (.str (toString i)) else none
  | _ => none
theorem dp_strc (hg : Gl X "str") (hm : X.mg "str" = none) (ha : DA X (a :: es) fs al) (he : starEach (a :: es) X.env = (false, eval a X.env) :: starEach es X.env := by rfl) (hpl : (backTo pos (starEach es X.env)).any (·.1) = false := by rfl) :
    DP X (.Call (.Name "str" p) (a :: es) [] pos) (eA dStr fs) [] := by
  refine cb (pe_callTy call_str_int hg hm boot_str' ha (he := he) (hpl := hpl)) fun ρ σ O W H vs ds d Q r e p q => ?_
  unfold dStr at e
  split at e
  · split at e
    · rename_i i hz
      cases e
      obtain ⟨v, rfl, p1⟩ := rpAll1 p
      cases p1
      refine ⟨_, rfl, ?_, q.here r.sub (.str _)⟩
      exact Nat.lt_of_lt_of_le (PySem.Flt.log2_lt_of (k := 60) (by decide) (by omega)) (by decide)
    · cases e
  · cases e
def dTuple : List D → Option D
  | [.lst xs] => some (.tup xs)
  | [.tup xs] => some (.tup xs)
  | [.scr ns] => some (.tup (ns.map .int))
  | _ => none
theorem dp_tuplec (hg : Gl X "tuple") (hm : X.mg "tuple" = none) (ha : DA X (a :: es) fs al) (he : starEach (a :: es) X.env = (false, eval a X.env) :: starEach es X.env := by rfl) (hpl : (backTo pos (starEach es X.env)).any (·.1) = false := by rfl) :
    DP X (.Call (.Name "tuple" p) (a :: es) [] pos) (eA dTuple fs) al := by
  refine cb (pe_callTy call_tuple_of hg hm boot_tuple' ha (he := he) (hpl := hpl)) fun ρ σ O W H vs ds d Q r e p q => ?_
  unfold dTuple at e
  split at e
  · cases e
    obtain ⟨v, rfl, p1⟩ := rpAll1 p
    obtain ⟨a', xs, rfl, k, ra⟩ := rp_lst p1
    exact ⟨a', xs, rfl, .inl ⟨.inl (.inl (vw_sub r.sub _ _ k)), fun l n => q.tup r.sub ra n⟩⟩
  · cases e
    obtain ⟨v, rfl, p1⟩ := rpAll1 p
    obtain ⟨a', xs, rfl, k, ra⟩ := rp_tup p1
    exact ⟨a', xs, rfl, .inr ⟨sqT_mono (vw_sub r.sub) k, q.here r.sub (.tup k ra)⟩⟩
  · cases e
    obtain ⟨v, rfl, p1⟩ := rpAll1 p
    cases p1 with
    | scr k => exact ⟨_, _, rfl, .inl ⟨sqL_mono (vw_sub r.sub) k.sq, fun l n => q.tup r.sub (map_ints _) n⟩⟩
  · cases e
/-- list(..): a new list -/
def dList : List D → Option (List D)
  | [.lst xs] => some xs
  | [.tup xs] => some xs
  | [.scr ns] => some (ns.map .int)
  | _ => none
theorem cbN {e : Expr} {r : List V → Hp → VK → Prop} {k : List D → Option (List D)} (he : PE X e (tCB r (tPs X.K fs al)))
    (hg : ∀ (ρ : Rho) (σ : L2.St) (O : Addr → Bool) (W H : Hp) (vs : List V) (ds xs : List D) (Q : VK), RS X.K ρ σ O W H → k ds = some xs → RpAll X.K (vw ρ σ al W H) vs ds → (∀ us l, RpAll X.K (vw ρ σ cl W H) us xs → H l = none → Q (.ref l) (upd H l (.lst us))) → r vs H Q) : DN X e (fun ρ => (fs ρ).bind k) cl :=
  pe_imp he fun σ H Q ⟨ρ, O, W, d, rs, e, q⟩ => by
    obtain ⟨ds, h1, e⟩ := opt_bind e
    refine ⟨ρ, O, W, ds, rs, h1, fun vs W1 H1 s1 p1 => hg ρ σ O W1 H1 vs ds d Q (rs.pstep s1) e p1 fun us l ra n => ?_⟩
    have wn : W1 l = none := by
      cases z : W1 l with
      | none => rfl
      | some o => rw [s1.sub l o z] at n; cases n
    have st : PStep W1 H1 W1 (upd H1 l (.lst us)) := ⟨fun _ _ e => e, fun b o e => by rw [upd_ne (ne_of_none e n)]; exact e, fun b o e => by rw [upd_ne (ne_of_none (s1.sub b o e) n)]; exact s1.sub b o e, fun _ _ e => .inl e⟩
    exact q l us W1 _ (s1.trans st) (s1.keep.free n) wn upd_same (rpAll_mono (vw_step st) ra)
def nL (k : List D → Option (List D)) (fs : Exs) : Exs := fun ρ => (fs ρ).bind k
theorem dn_listc (hg : Gl X "list") (hm : X.mg "list" = none) (ha : DA X (a :: es) fs al) (he : starEach (a :: es) X.env = (false, eval a X.env) :: starEach es X.env := by rfl) (hpl : (backTo pos (starEach es X.env)).any (·.1) = false := by rfl) :
    DN X (.Call (.Name "list" p) (a :: es) [] pos) (nL dList fs) al := by
  refine cbN (pe_callTy call_list_of hg hm boot_list' ha (he := he) (hpl := hpl)) fun ρ σ O W H vs ds xs Q r e p q => ?_
  unfold dList at e
  split at e
  · cases e
    obtain ⟨v, rfl, p1⟩ := rpAll1 p
    obtain ⟨a', ws, rfl, k, ra⟩ := rp_lst p1
    exact ⟨a', ws, rfl, .inl (.inl (.inl (vw_sub r.sub _ _ k))), fun l n => q ws l ra n⟩
  · cases e
    obtain ⟨v, rfl, p1⟩ := rpAll1 p
    obtain ⟨a', ws, rfl, k, ra⟩ := rp_tup p1
    exact ⟨a', ws, rfl, .inr (sqT_mono (vw_sub r.sub) k), fun l n => q ws l ra n⟩
  · cases e
    obtain ⟨v, rfl, p1⟩ := rpAll1 p
    cases p1 with
    | scr k => exact ⟨_, _, rfl, .inl (sqL_mono (vw_sub r.sub) k.sq), fun l n => q _ l (map_ints _) n⟩
  · cases e
/-- ints of a list of data -/
def dInts : List D → Option (List Int)
  | [] => some []
  | .int i :: r => (dInts r).map (i :: ·)
  | _ :: _ => none
theorem dInts_map : ∀ {ds : List D} {ns : List Int}, dInts ds = some ns → ds = ns.map .int
  | [], _, e => by cases e; rfl
  | .int i :: r, _, e => by
    simp only [dInts, Option.map_eq_some_iff] at e
    obtain ⟨ms, e1, rfl⟩ := e
    rw [dInts_map e1]; rfl
  | .non :: _, _, e => by cases e
  | .bl _ :: _, _, e => by cases e
  | .str _ :: _, _, e => by cases e
  | .tup _ :: _, _, e => by cases e
  | .lst _ :: _, _, e => by cases e
  | .scr _ :: _, _, e => by cases e
  | .dct _ :: _, _, e => by cases e
def dSum : List D → Option D
  | [.lst xs] => (dInts xs).map fun ns => .int ns.sum
  | _ => none
theorem dp_sumc (hc : X.calm = true) (hg : Gl X "sum") (hm : X.mg "sum" = none) (ha : DA X (a :: es) fs al) (he : starEach (a :: es) X.env = (false, eval a X.env) :: starEach es X.env := by rfl) (hpl : (backTo pos (starEach es X.env)).any (·.1) = false := by rfl) :
    DP X (.Call (.Name "sum" p) (a :: es) [] pos) (eA dSum fs) [] := by
  refine cb (pe_callB (cr_sum hc) hg hm boot_sum' ha (he := he) (hpl := hpl)) fun ρ σ O W H vs ds d Q r e p q => ?_
  unfold dSum at e
  split at e
  · obtain ⟨ns, e1, rfl⟩ := Option.map_eq_some_iff.mp e
    obtain ⟨v, rfl, p1⟩ := rpAll1 p
    obtain ⟨a', ws, rfl, k, ra⟩ := rp_lst p1
    rw [dInts_map e1] at ra
    have := ra.toInts
    subst this
    exact ⟨a', ns, rfl, .inl (.inl (vw_sub r.sub _ _ k)), q.here r.sub (.int _)⟩
  · cases e
def dMax2 : List D → Option D
  | [.int i, .int j] => some (.int (if j > i then j else i))
  | _ => none
def dMin2 : List D → Option D
  | [.int i, .int j] => some (.int (if j < i then j else i))
  | _ => none
theorem dp_max2 (hc : X.calm = true) (hg : Gl X "max") (hm : X.mg "max" = none) (ha : DA X (a :: es) fs al) (he : starEach (a :: es) X.env = (false, eval a X.env) :: starEach es X.env := by rfl) (hpl : (backTo pos (starEach es X.env)).any (·.1) = false := by rfl) :
    DP X (.Call (.Name "max" p) (a :: es) [] pos) (eA dMax2 fs) [] := by
  refine cb (pe_callB (call_max2 hc) hg hm boot_max' ha (he := he) (hpl := hpl)) fun ρ σ O W H vs ds d Q r e p q => ?_
  unfold dMax2 at e
  split at e
  · cases e
    obtain ⟨v, w, rfl, p1, p2⟩ := rpAll2 p
    cases p1; cases p2
    exact ⟨_, _, rfl, q.here r.sub (.int _)⟩
  · cases e
theorem dp_min2 (hc : X.calm = true) (hg : Gl X "min") (hm : X.mg "min" = none) (ha : DA X (a :: es) fs al) (he : starEach (a :: es) X.env = (false, eval a X.env) :: starEach es X.env := by rfl) (hpl : (backTo pos (starEach es X.env)).any (·.1) = false := by rfl) :
    DP X (.Call (.Name "min" p) (a :: es) [] pos) (eA dMin2 fs) [] := by
  refine cb (pe_callB (call_min2 hc) hg hm boot_min' ha (he := he) (hpl := hpl)) fun ρ σ O W H vs ds d Q r e p q => ?_
  unfold dMin2 at e
  split at e
  · cases e
    obtain ⟨v, w, rfl, p1, p2⟩ := rpAll2 p
    cases p1; cases p2
    exact ⟨_, _, rfl, q.here r.sub (.int _)⟩
  · cases e
def dBls : List D → Option (List Bool)
  | [] => some []
  | .bl i :: r => (dBls r).map (i :: ·)
  | _ :: _ => none
theorem dBls_map : ∀ {ds : List D} {ns : List Bool}, dBls ds = some ns → ds = ns.map .bl
  | [], _, e => by cases e; rfl
  | .bl i :: r, _, e => by
    simp only [dBls, Option.map_eq_some_iff] at e
    obtain ⟨ms, e1, rfl⟩ := e
    rw [dBls_map e1]; rfl
  | .non :: _, _, e => by cases e
  | .int _ :: _, _, e => by cases e
  | .str _ :: _, _, e => by cases e
  | .tup _ :: _, _, e => by cases e
  | .lst _ :: _, _, e => by cases e
  | .scr _ :: _, _, e => by cases e
  | .dct _ :: _, _, e => by cases e
def dAll : List D → Option D
  | [.lst xs] => (dBls xs).map fun ns => .bl (ns.all id)
  | _ => none
def dAny : List D → Option D
  | [.lst xs] => (dBls xs).map fun ns => .bl (ns.any id)
  | _ => none
theorem dp_allc (hc : X.calm = true) (hg : Gl X "all") (hm : X.mg "all" = none) (ha : DA X (a :: es) fs al) (he : starEach (a :: es) X.env = (false, eval a X.env) :: starEach es X.env := by rfl) (hpl : (backTo pos (starEach es X.env)).any (·.1) = false := by rfl) :
    DP X (.Call (.Name "all" p) (a :: es) [] pos) (eA dAll fs) [] := by
  refine cb (pe_callB (cr_all hc) hg hm boot_all' ha (he := he) (hpl := hpl)) fun ρ σ O W H vs ds d Q r e p q => ?_
  unfold dAll at e
  split at e
  · obtain ⟨ns, e1, rfl⟩ := Option.map_eq_some_iff.mp e
    obtain ⟨v, rfl, p1⟩ := rpAll1 p
    obtain ⟨a', ws, rfl, k, ra⟩ := rp_lst p1
    rw [dBls_map e1] at ra
    have := ra.toBls
    subst this
    exact ⟨a', ns, rfl, .inl (.inl (vw_sub r.sub _ _ k)), q.here r.sub (.bl _)⟩
  · cases e
theorem dp_anyc (hc : X.calm = true) (hg : Gl X "any") (hm : X.mg "any" = none) (ha : DA X (a :: es) fs al) (he : starEach (a :: es) X.env = (false, eval a X.env) :: starEach es X.env := by rfl) (hpl : (backTo pos (starEach es X.env)).any (·.1) = false := by rfl) :
    DP X (.Call (.Name "any" p) (a :: es) [] pos) (eA dAny fs) [] := by
  refine cb (pe_callB (cr_any hc) hg hm boot_any' ha (he := he) (hpl := hpl)) fun ρ σ O W H vs ds d Q r e p q => ?_
  unfold dAny at e
  split at e
  · obtain ⟨ns, e1, rfl⟩ := Option.map_eq_some_iff.mp e
    obtain ⟨v, rfl, p1⟩ := rpAll1 p
    obtain ⟨a', ws, rfl, k, ra⟩ := rp_lst p1
    rw [dBls_map e1] at ra
    have := ra.toBls
    subst this
    exact ⟨a', ns, rfl, .inl (.inl (vw_sub r.sub _ _ k)), q.here r.sub (.bl _)⟩
  · cases e
/-! ### isinstance(e, T) -/
inductive Ty where
  | int | bool | str | list | tuple | dict
def Ty.name : Ty → String
  | .int => "int"
  | .bool => "bool"
  | .str => "str"
  | .list => "list"
  | .tuple => "tuple"
  | .dict => "dict"
def isi (t : Ty) : D → Option D
  | .non => some (.bl false)
  | .bl _ => some (.bl (match t with | .int => true | .bool => true | _ => false))
  | .int _ => some (.bl (match t with | .int => true | _ => false))
  | .str _ => some (.bl (match t with | .str => true | _ => false))
  | .tup _ => some (.bl (match t with | .tuple => true | _ => false))
  | .lst _ => some (.bl (match t with | .list => true | _ => false))
  | .scr _ => some (.bl (match t with | .list => true | _ => false))
  | .dct _ => some (.bl (match t with | .dict => true | _ => false))
theorem kit1 (a b : String) {r : Bool} (h : kitB a b = some r) {K : PySem.W.Frag} : PySem.W.kitOne K (.type a) (.type b) = some r := kit_ty h
theorem isi_kit (t : Ty) : kitB "NoneType" t.name = some false ∧ kitB "bool" t.name = some (match t with | .int => true | .bool => true | _ => false) ∧ kitB "int" t.name = some (match t with | .int => true | _ => false) ∧
    kitB "str" t.name = some (match t with | .str => true | _ => false) ∧ kitB "tuple" t.name = some (match t with | .tuple => true | _ => false) ∧ kitB "list" t.name = some (match t with | .list => true | _ => false) ∧ kitB "dict" t.name = some (match t with | .dict => true | _ => false) := by
  cases t <;> decide +kernel
theorem isi_ok {K : PySem.W.Frag} {U H : Hp} {v : V} {x d : D} {t : Ty} {Q : VK} (e : isi t x = some d) (p1 : Rp K U v x) (sb : Same U H) (q : ∀ b, d = .bl b → Q (.bl b) H) : rIsi K [v, .ty t.name] H Q := by
  obtain ⟨k1, k2, k3, k4, k5, k6, k7⟩ := isi_kit t
  cases p1 with
  | non => cases e; exact ⟨_, _, _, _, _, rfl, .ty _, .base .non, kit_ty k1, q _ rfl⟩
  | bl b => cases e; exact ⟨_, _, _, _, _, rfl, .ty _, .base (.bl _), kit_ty k2, q _ rfl⟩
  | int b => cases e; exact ⟨_, _, _, _, _, rfl, .ty _, .base (.int _), kit_ty k3, q _ rfl⟩
  | str b => cases e; exact ⟨_, _, _, _, _, rfl, .ty _, .base (.str _), kit_ty k4, q _ rfl⟩
  | tup h _ =>
    cases e
    rcases h with (h | ⟨o, h⟩) | ⟨o, its, n, h1, h2, _⟩
    · exact ⟨_, _, _, _, _, rfl, .ty _, .base (.tup (sb _ _ h)), kit_ty k5, q _ rfl⟩
    · exact ⟨_, _, _, _, _, rfl, .ty _, .fTuple (sb _ _ h), kit_ty k5, q _ rfl⟩
    · exact ⟨_, _, _, _, _, rfl, .ty _, .kTuple h1 h2, kit_ty k5, q _ rfl⟩
  | lst h _ => cases e; exact ⟨_, _, _, _, _, rfl, .ty _, .base (.lst (sb _ _ h)), kit_ty k6, q _ rfl⟩
  | scr h =>
    cases e
    rcases h with ⟨o, h⟩ | ⟨o, its, n, h1, h2, _⟩
    · exact ⟨_, _, _, _, _, rfl, .ty _, .base (.frz (sb _ _ h)), kit_ty k6, q _ rfl⟩
    · exact ⟨_, _, _, _, _, rfl, .ty _, .kList h1 h2, kit_ty k6, q _ rfl⟩
  | dct h _ => cases e; exact ⟨_, _, _, _, _, rfl, .ty _, .base (.dK (sb _ _ h)), kit_ty k7, q _ rfl⟩
theorem dp_isi (t : Ty) {e : Expr} (hg : Gl X "isinstance") (hm : X.mg "isinstance" = none) (ha : DP X a f al) (he : PE X e (tC (.ty t.name)))
    (h1 : starEach [a, e] X.env = (false, eval a X.env) :: starEach [e] X.env := by rfl) (h2 : starEach [e] X.env = (false, eval e X.env) :: starEach [] X.env := by rfl) (hpl : (backTo pos (starEach [e] X.env)).any (·.1) = false := by rfl) :
    DP X (.Call (.Name "isinstance" p) [a, e] [] pos) (e1 (isi t) f) [] := by
  refine pe_imp (pe_callB call_isi hg hm boot_isi' (pa_cons ha (pa_cons he pa_nil h2) h1) (he := h1) (hpl := hpl)) fun σ H Q ⟨ρ, O, W, d, rs, e, q⟩ => ?_
  obtain ⟨x, k1, e⟩ := opt_bind e
  refine ⟨ρ, O, W, x, rs, k1, fun v1 W1 H1 s1 p1 => ?_⟩
  exact isi_ok e p1 (vw_sub s1.sub) fun b hb => by
    subst hb
    exact (q.step s1).here s1.sub (.bl _)
theorem pe_tyInt {x : Str} {n : String} {pos : Pos} (hg : Gl X x) (hm : X.mg x = none) (hv : bootBuiltins x = some (.type n)) (hn : x ≠ "__name__" := by decide) (hd : (x == ("__debug__" : Str)) = false := by decide) : PE X (.Name x pos) (tC (.ty n)) := pe_bltn hg hm hv rfl hn hd
end
end DL

/-! The data layer, 4: own functions, statements, loops, comprehensions. -/
namespace DL
open PySem PySem.Spec L2

/-! ### own functions -/
def spD (K : PySem.W.Frag) (φ : List D → Option D) (n : Nat) : Sp := fun vs H Q _ => ∃ W ds d, ds.length = n ∧ Same W H ∧ RpAll K W vs ds ∧ φ ds = some d ∧ ∀ v W' H', PStep W H W' H' → Rp K W' v d → Q v H'
structure FOk (P : Program) (w : World) (K : PySem.W.Frag) (mg : Str → Option Value) (base : Heap) (n : Nat) (x : Str) (ps : List Str) (φ : List D → Option D) : Prop where
  ex : ∃ f fd, mg x = some (.ref f) ∧ PySem.W.keepIn K (.ref f) = true ∧ Binds K fd ps [] ∧ FnOk P w K mg base CX0 n f fd ps (spD K φ ps.length)
def fnL (n : Nat) (φ : List D → Option D) : List D → Option D := fun ds => if ds.length = n then φ ds else none

section
variable {K : PySem.W.Frag} {ρ : Rho} {σ : L2.St} {al : List Nat} {W H U' H' : Hp}
/-- behind a call: what is new is seen -/
def seen (W H U' : Hp) : Hp := fun b => match W b with
  | some o => some o
  | none => match H b with
    | some _ => none
    | none => U' b
theorem seen_ok (s : Same W H) (p : PStep (vw ρ σ al W H) H U' H') : PStep W H (seen W H U') H' ∧ Same U' (vw ρ σ al (seen W H U') H') := by
  have st : PStep W H (seen W H U') H' := by
    refine ⟨fun b o e => by unfold seen; rw [e], p.keep, fun b o e => ?_, fun b o e => ?_⟩
    · unfold seen at e
      split at e
      · rename_i q; cases e; exact p.keep b o (s b o q)
      · split at e
        · cases e
        · exact p.sub b o e
    · unfold seen at e
      split at e
      · rename_i q; cases e; exact .inl q
      · split at e
        · cases e
        · rename_i q; exact .inr q
  refine ⟨st, fun b o e => ?_⟩
  rcases p.new b o e with z | z
  · rcases of_vw z with y | ⟨_, y, i, hi, u⟩
    · exact vw_of b (st.le b o y)
    · exact vw_own hi u (p.keep b o y) st.sub
  · refine vw_of b ?_
    unfold seen
    have : W b = none := by
      cases q : W b with
      | none => rfl
      | some u => rw [s b u q] at z; cases z
    rw [this, z]
    exact e
end
section
variable {X : Cx} {a b c : Expr} {es : List Expr} {f g h : Ex} {fs : Exs} {al bl cl : List Nat} {pos p : Pos}
theorem dp_call {n k : Nat} {x : Str} {ps : List Str} {φ : List D → Option D} (F : FOk X.prog X.w X.K X.mg X.base n x ps φ) (hr : Room n X.A) (hg : Gl X x) (ha : DA X (a :: es) fs al) (hdb : (x == ("__debug__" : Str)) = false := by decide)
    (he : starEach (a :: es) X.env = (false, eval a X.env) :: starEach es X.env := by rfl) (hpl : (backTo pos (starEach es X.env)).any (·.1) = false := by rfl) (hkk : ps.length = k := by rfl) : DP X (.Call (.Name x p) (a :: es) [] pos) (eA (fnL k φ) fs) al := by
  subst hkk
  obtain ⟨fa, fd, hm, hk, hb, F⟩ := F.ex
  refine pe_imp (pe_call F hr hg hm hk hb .nil pass0 ha hdb he hpl) fun σ H Q ⟨ρ, O, W, d, rs, e, q⟩ => ?_
  obtain ⟨ds, h1, e⟩ := opt_bind e
  unfold fnL at e
  split at e
  · rename_i hl
    refine ⟨ρ, O, W, ds, rs, h1, fun vs W1 H1 s1 p1 => ?_⟩
    show spD _ _ _ (vs ++ []) H1 Q _
    rw [List.append_nil]
    refine ⟨vw ρ σ al W1 H1, ds, d, hl, vw_sub s1.sub, p1, e, fun v U' H' st r => ?_⟩
    obtain ⟨k1, k2⟩ := seen_ok s1.sub st
    exact (q.step s1) v _ H' k1 (rp_mono k2 r)
  · cases e
theorem dp_call0 {n : Nat} {x : Str} {φ : List D → Option D} (F : FOk X.prog X.w X.K X.mg X.base n x [] φ) (hr : Room n X.A) (hg : Gl X x) (hdb : (x == ("__debug__" : Str)) = false := by decide) :
    DP X (.Call (.Name x p) [] [] pos) (eA (fnL 0 φ) esN) [] := by
  obtain ⟨fa, fd, hm, hk, hb, F⟩ := F.ex
  refine pe_imp (pe_call0 F hr hg hm hk hb .nil pass0 hdb) fun σ H Q ⟨ρ, O, W, d, rs, e, q⟩ => ?_
  obtain ⟨ds, h1, e⟩ := opt_bind e
  cases h1
  refine ⟨W, [], d, rfl, rs.sub, .nil, e, fun v U' H' st r => q v _ H' st (rp_mono vw_le r)⟩

/-! ### what a statement comes to -/
inductive Out where
  | nx (ρ : Rho)
  | ret (d : D)
  | brk (ρ : Rho)
  | ct (ρ : Rho)
def SPost (K : PySem.W.Frag) (O : Addr → Bool) (W H : Hp) (E : Ends) : Out → Prop
  | .nx ρ => ∀ σ' O' W' H', SStep O W H O' W' H' → RS K ρ σ' O' W' H' → E.nx σ' H'
  | .ret d => ∀ v O' W' H', SStep O W H O' W' H' → Same W' H' → Rp K W' v d → E.rt v H'
  | .brk ρ => ∀ σ' O' W' H', SStep O W H O' W' H' → RS K ρ σ' O' W' H' → E.bk σ' H'
  | .ct ρ => ∀ σ' O' W' H', SStep O W H O' W' H' → RS K ρ σ' O' W' H' → E.ct σ' H'
abbrev Sx := Rho → Option Out
def tS (K : PySem.W.Frag) (F : Sx) : TS := fun E σ H => ∃ ρ O W out, RS K ρ σ O W H ∧ F ρ = some out ∧ SPost K O W H E out
abbrev DS (X : Cx) (st : Stmt) (F : Sx) : Prop := PS X st (tS X.K F)
abbrev DSs (X : Cx) (st : List Stmt) (F : Sx) : Prop := PSs X st (tS X.K F)
theorem SPost.step {K : PySem.W.Frag} {O O1 : Addr → Bool} {W H W1 H1 : Hp} {E : Ends} : ∀ {out : Out}, SPost K O W H E out → SStep O W H O1 W1 H1 → SPost K O1 W1 H1 E out
  | .nx _, p, s => fun σ' O' W' H' s' r => p σ' O' W' H' (s.trans s') r
  | .ret _, p, s => fun v O' W' H' s' sb r => p v O' W' H' (s.trans s') sb r
  | .brk _, p, s => fun σ' O' W' H' s' r => p σ' O' W' H' (s.trans s') r
  | .ct _, p, s => fun σ' O' W' H' s' r => p σ' O' W' H' (s.trans s') r

/-! ### blocks -/
def sNil : Sx := fun ρ => some (.nx ρ)
def sSeq (F G : Sx) : Sx := fun ρ => (F ρ).bind fun o => match o with
  | .nx ρ' => G ρ'
  | o => some o
theorem dss_nil : DSs X [] sNil := pss_imp pss_nil fun E σ H ⟨ρ, O, W, out, rs, e, q⟩ => by
  cases e
  exact q σ O W H .refl rs
theorem dss_cons {st : Stmt} {rest : List Stmt} {F G : Sx} (h1 : DS X st F) (h2 : DSs X rest G) : DSs X (st :: rest) (sSeq F G) := pss_imp (pss_cons h1 h2) fun E σ H ⟨ρ, O, W, out, rs, e, q⟩ => by
  obtain ⟨o, e1, e2⟩ := opt_bind e
  refine ⟨ρ, O, W, o, rs, e1, ?_⟩
  cases o with
  | nx ρ' => exact fun σ' O' W' H' s' r' => ⟨ρ', O', W', out, r', e2, q.step s'⟩
  | ret d => cases e2; exact q
  | brk ρ' => cases e2; exact q
  | ct ρ' => cases e2; exact q
theorem dss_one {st : Stmt} {F : Sx} (h1 : DS X st F) : DSs X [st] F := pss_one h1
theorem ds_never {st : Stmt} : DS X st (fun _ => none) := ps_imp ps_never fun E σ H ⟨ρ, O, W, out, rs, e, q⟩ => by cases e
def sNone : Sx := fun _ => none
theorem ds_none {st : Stmt} : DS X st sNone := ds_never
theorem ds_pass : DS X (.Pass pos) sNil := ps_imp ps_pass fun E σ H ⟨ρ, O, W, out, rs, e, q⟩ => by
  cases e
  exact q σ O W H .refl rs
theorem ds_doc {x j pos pos'} : DS X (.Expr (.Constant (.str x) j pos) pos') sNil := ps_imp ps_doc fun E σ H ⟨ρ, O, W, out, rs, e, q⟩ => by
  cases e
  exact q σ O W H .refl rs
def sCt : Sx := fun ρ => some (.ct ρ)
def sBk : Sx := fun ρ => some (.brk ρ)
theorem ds_ct : DS X (.Continue pos) sCt := ps_imp ps_continue fun E σ H ⟨ρ, O, W, out, rs, e, q⟩ => by
  cases e
  exact q σ O W H .refl rs
theorem ds_bk : DS X (.Break pos) sBk := ps_imp ps_break fun E σ H ⟨ρ, O, W, out, rs, e, q⟩ => by
  cases e
  exact q σ O W H .refl rs
def sRet (f : Ex) : Sx := fun ρ => (f ρ).map .ret
theorem ds_ret (ha : DP X a f al) : DS X (.Return (some a) pos) (sRet f) := ps_imp (ps_ret ha) fun E σ H ⟨ρ, O, W, out, rs, e, q⟩ => by
  obtain ⟨d, e1, rfl⟩ := Option.map_eq_some_iff.mp e
  refine ⟨ρ, O, W, d, rs, e1, fun v W1 H1 s1 p1 => ?_⟩
  obtain ⟨O2, W2, k1, k2, k3⟩ := (rs.pstep s1).esc p1
  exact q v O2 W2 H1 (s1.s.trans k1) k2.sub k3
def sRetN : Sx := fun _ => some (.ret .non)
theorem ds_retN : DS X (.Return none pos) sRetN := ps_imp ps_retN fun E σ H ⟨ρ, O, W, out, rs, e, q⟩ => by
  cases e
  exact q .non O W H .refl rs.sub .non
def sIf (t : Te) (F G : Sx) : Sx := fun ρ => (t ρ).bind fun b => if b = true then F ρ else G ρ
theorem ds_if {A B : List Stmt} {t : Te} {F G : Sx} (hc : DT X c t) (ha : DSs X A F) (hb : DSs X B G) : DS X (.If c A B pos) (sIf t F G) := ps_imp (ps_if hc ha hb) fun E σ H ⟨ρ, O, W, out, rs, e, q⟩ => by
  obtain ⟨b, e1, e2⟩ := opt_bind e
  refine ⟨ρ, O, W, b, rs, e1, fun W1 H1 s1 => ?_⟩
  cases b with
  | true => exact iteT ⟨ρ, O, W1, out, rs.pstep s1, e2, q.step s1.s⟩
  | false => exact iteF ⟨ρ, O, W1, out, rs.pstep s1, e2, q.step s1.s⟩

/-! ### expressions that change own lists -/
abbrev Xe := Rho → Option (D × Rho)
abbrev Xs := Rho → Option (List D × Rho)
def tX (K : PySem.W.Frag) (f : Xe) : TE := fun σ H Q => ∃ ρ O W d ρ', RS K ρ σ O W H ∧ f ρ = some (d, ρ') ∧ ∀ v O' W' H', SStep O W H O' W' H' → RS K ρ' σ O' W' H' → Rp K W' v d → Q v H'
def tXs (K : PySem.W.Frag) (f : Xs) : TA := fun σ H Q => ∃ ρ O W ds ρ', RS K ρ σ O W H ∧ f ρ = some (ds, ρ') ∧ ∀ vs O' W' H', SStep O W H O' W' H' → RS K ρ' σ O' W' H' → RpAll K W' vs ds → Q vs H'
abbrev DE (X : Cx) (e : Expr) (f : Xe) : Prop := PE X e (tX X.K f)
abbrev DEs (X : Cx) (es : List Expr) (f : Xs) : Prop := PA X es (tXs X.K f)
def xP (al : List Nat) (f : Ex) : Xe := fun ρ => (f ρ).map fun d => (d, esc al d ρ)
theorem tX_tP {K : PySem.W.Frag} {f : Ex} {al : List Nat} (σ : L2.St) (H : Hp) (Q : VK) (h : tX K (xP al f) σ H Q) : tP K f al σ H Q := by
  obtain ⟨ρ, O, W, d, ρ', rs, e, q⟩ := h
  obtain ⟨d', e1, e2⟩ := Option.map_eq_some_iff.mp e
  cases e2
  refine ⟨ρ, O, W, d, rs, e1, fun v W1 H1 s1 p1 => ?_⟩
  obtain ⟨O2, W2, k1, k2, k3⟩ := (rs.pstep s1).esc p1
  exact q v O2 W2 H1 (s1.s.trans k1) k2 k3
theorem de_p (ha : DP X a f al) : DE X a (xP al f) := pe_imp ha tX_tP
def xsN : Xs := fun ρ => some ([], ρ)
def xsC (f : Xe) (fs : Xs) : Xs := fun ρ => (f ρ).bind fun x => (fs x.2).bind fun xs => some (x.1 :: xs.1, xs.2)
theorem des_nil : DEs X [] xsN := pa_imp pa_nil fun σ H Q ⟨ρ, O, W, ds, ρ', rs, e, q⟩ => by
  cases e
  exact q [] O W H .refl rs .nil
theorem des_cons {f : Xe} {fs : Xs} (ha : DE X a f) (hr : DEs X es fs) (hs : starEach (a :: es) X.env = (false, eval a X.env) :: starEach es X.env := by rfl) : DEs X (a :: es) (xsC f fs) := pa_imp (pa_cons ha hr hs) fun σ H Q ⟨ρ, O, W, ds, ρ', rs, e, q⟩ => by
  obtain ⟨⟨x, ρ1⟩, e1, e⟩ := opt_bind e
  obtain ⟨⟨xs, ρ2⟩, e2, e⟩ := opt_bind e
  cases e
  refine ⟨ρ, O, W, x, ρ1, rs, e1, fun v O1 W1 H1 s1 r1 p1 => ⟨ρ1, O1, W1, xs, ρ2, r1, e2, fun vs O2 W2 H2 s2 r2 p2 => ?_⟩⟩
  exact q (v :: vs) O2 W2 H2 (s1.trans s2) r2 (.cons (rp_mono s2.le p1) p2)
def xA (k : List D → Option D) (fs : Xs) : Xe := fun ρ => (fs ρ).bind fun x => (k x.1).map fun d => (d, x.2)
theorem de_tup {x1} {fs : Xs} (h : DEs X es fs) : DE X (.Tuple es x1 pos) (xA dTup fs) := pe_imp (pe_tup h) fun σ H Q ⟨ρ, O, W, d, ρ', rs, e, q⟩ => by
  obtain ⟨⟨ds, ρ1⟩, e1, e⟩ := opt_bind e
  obtain ⟨d', e2, e⟩ := Option.map_eq_some_iff.mp e
  cases e
  unfold dTup at e2
  split at e2
  · rename_i hz
    cases e2
    refine ⟨ρ, O, W, ds, ρ1, rs, e1, fun vs O1 W1 H1 s1 r1 p1 => ⟨by rw [line_eq, p1.length]; exact hz, fun p n => ?_⟩⟩
    have st := upd_step r1.sub n (.tup vs)
    exact q _ O1 _ _ (s1.trans st.s) (r1.pstep st) (.tup (.inl (.inl upd_same)) (rpAll_mono st.le p1))
  · cases e2
theorem de_call {n k : Nat} {x : Str} {ps : List Str} {φ : List D → Option D} {fs : Xs} (F : FOk X.prog X.w X.K X.mg X.base n x ps φ) (hr : Room n X.A) (hg : Gl X x) (ha : DEs X (a :: es) fs) (hdb : (x == ("__debug__" : Str)) = false := by decide)
    (he : starEach (a :: es) X.env = (false, eval a X.env) :: starEach es X.env := by rfl) (hpl : (backTo pos (starEach es X.env)).any (·.1) = false := by rfl) (hkk : ps.length = k := by rfl) : DE X (.Call (.Name x p) (a :: es) [] pos) (xA (fnL k φ) fs) := by
  subst hkk
  obtain ⟨fa, fd, hm, hk, hb, F⟩ := F.ex
  refine pe_imp (pe_call F hr hg hm hk hb .nil pass0 ha hdb he hpl) fun σ H Q ⟨ρ, O, W, d, ρ', rs, e, q⟩ => ?_
  obtain ⟨⟨ds, ρ1⟩, h1, e⟩ := opt_bind e
  obtain ⟨d', e2, e⟩ := Option.map_eq_some_iff.mp e
  cases e
  unfold fnL at e2
  split at e2
  · rename_i hl
    refine ⟨ρ, O, W, ds, ρ1, rs, h1, fun vs O1 W1 H1 s1 r1 p1 => ?_⟩
    show spD _ _ _ (vs ++ []) H1 Q _
    rw [List.append_nil]
    refine ⟨W1, ds, d, hl, r1.sub, p1, e2, fun v W' H' st r => q v O1 W' H' (s1.trans st.s) (r1.pstep st) r⟩
  · cases e2
/-- x.pop(), x a name -/
def xPop (i : Nat) : Xe := fun ρ => match ρ[i]? with
  | some (.own xs) => (xs[xs.length - 1]?).map fun d => (d, ρ.set i (.own xs.dropLast))
  | _ => none
theorem de_pop {i : Nat} {o : Expr} {apos cpos : Pos} (ho : PE X o (tVar i)) (hbase : attributeBase o "pop" X.env (eval o X.env) = eval o X.env := by rfl) (hline : (apos.endLine == cpos.line) = true := by rfl) :
    DE X (.Call (.Attribute o "pop" apos) [] [] cpos) (xPop i) := by
  refine pe_imp (pe_bm0 PySem.F.plainAttrs_list PySem.F.slot_list_pop PySem.F.type_list_pop mt_pop ho hbase hline) fun σ H Q ⟨ρ, O, W, d, ρ', rs, e, q⟩ => ?_
  unfold xPop at e
  split at e
  · rename_i xs hq
    obtain ⟨d', e1, e2⟩ := Option.map_eq_some_iff.mp e
    cases e2
    obtain ⟨a, vs, h1, h2, h3, h4⟩ := rs.owns i xs hq
    obtain ⟨v, g1, g2⟩ := h4.get e1
    obtain ⟨k1, k2⟩ := rs.write (xs := xs.dropLast) hq h1 h4.dropLast
    exact ⟨.ref a, h1, .inl ⟨rfl, _, .inl (.inl h3)⟩, a, vs, v, rfl, rfl, h3, by rw [h4.length]; exact g1, q v O W _ k2 k1 g2⟩
  · cases e
/-- x.pop(i) -/
def xPopAt (i : Nat) (f : Ex) : Xe := fun ρ => (f ρ).bind fun k => match k, ρ[i]? with
  | .int n, some (.own xs) => if -(2 ^ 63) ≤ n ∧ n < 2 ^ 63 then (seqIndex? n xs.length).bind fun j => (xs[j]?).map fun d => (d, ρ.set i (.own (xs.eraseIdx j))) else none
  | _, _ => none

/-! ### targets -/
/-- slots but ts stay -/
def OutS (ts : List Nat) (σ σ' : L2.St) : Prop := σ'.length = σ.length ∧ ∀ k, k ∉ ts → σ'[k]? = σ[k]?
def tG (K : PySem.W.Frag) (g : D → Rho → Option Rho) (ts : List Nat) : TG := fun v σ H Q => ∃ ρ O W d ρ', RS K ρ σ O W H ∧ Rp K W v d ∧ g d ρ = some ρ' ∧ ∀ σ', RS K ρ' σ' O W H → OutS ts σ σ' → Q σ' H
abbrev DG (X : Cx) (e : Expr) (g : D → Rho → Option Rho) (ts : List Nat) : Prop := PG X e (tG X.K g ts)
def gN (i : Nat) : D → Rho → Option Rho := fun d ρ => some (ρ.set i (.val d))
theorem pg_imp {e : Expr} {t t' : TG} (h : PG X e t) (i : ∀ v σ H Q, t' v σ H Q → t v σ H Q) : PG X e t' := ⟨fun pins s σ H v u Q I r q => h.run pins s σ H v u Q I r (i v σ H Q q)⟩
theorem dg_name {i : Nat} {e : Expr} (h : PG X e (gName i)) : DG X e (gN i) [i] := pg_imp h fun v σ H Q ⟨ρ, O, W, d, ρ', rs, p, e, q⟩ => by
  cases e
  refine q _ (rs.set p) ⟨by simp, fun k hk => ?_⟩
  rw [List.getElem?_set_ne (fun z => hk (by simp [z]))]
def tGs (K : PySem.W.Frag) (g : List D → Rho → Option Rho) (ts : List Nat) : TGs := fun vs σ H Q => ∃ ρ O W ds ρ', RS K ρ σ O W H ∧ RpAll K W vs ds ∧ g ds ρ = some ρ' ∧ ∀ σ', RS K ρ' σ' O W H → OutS ts σ σ' → Q σ' H
abbrev DGs (X : Cx) (es : List Expr) (g : List D → Rho → Option Rho) (ts : List Nat) : Prop := PGs X es (tGs X.K g ts)
theorem pgs_imp {es : List Expr} {t t' : TGs} (h : PGs X es t) (i : ∀ v σ H Q, t' v σ H Q → t v σ H Q) : PGs X es t' := ⟨fun pins s σ H vs us Q I r q => h.run pins s σ H vs us Q I r (i vs σ H Q q)⟩
def gsN : List D → Rho → Option Rho := fun ds ρ => match ds with
  | [] => some ρ
  | _ => none
def gsC (g : D → Rho → Option Rho) (gs : List D → Rho → Option Rho) : List D → Rho → Option Rho := fun ds ρ => match ds with
  | d :: r => (g d ρ).bind fun ρ' => gs r ρ'
  | [] => none
theorem dgs_nil : DGs X [] gsN [] := pgs_imp pgs_nil fun vs σ H Q ⟨ρ, O, W, ds, ρ', rs, p, e, q⟩ => by
  unfold gsN at e
  split at e
  · cases e; cases p
    exact ⟨rfl, q σ rs ⟨rfl, fun _ _ => rfl⟩⟩
  · cases e
theorem OutS.mono {ts us : List Nat} {σ σ' : L2.St} (h : OutS ts σ σ') (s : ∀ i ∈ ts, i ∈ us) : OutS us σ σ' := ⟨h.1, fun k hk => h.2 k fun z => hk (s k z)⟩
theorem OutS.trans {ts : List Nat} {σ σ1 σ2 : L2.St} (h : OutS ts σ σ1) (h' : OutS ts σ1 σ2) : OutS ts σ σ2 := ⟨h'.1.trans h.1, fun k hk => (h'.2 k hk).trans (h.2 k hk)⟩
theorem dgs_cons {g : D → Rho → Option Rho} {gs : List D → Rho → Option Rho} {ts us : List Nat} (h1 : DG X a g ts) (h2 : DGs X es gs us) (hs : (assignEach (a :: es) X.env).map (·.2) = assign a X.env :: (assignEach es X.env).map (·.2) := by rfl) : DGs X (a :: es) (gsC g gs) (ts ++ us) := pgs_imp (pgs_cons h1 h2 hs) fun vs σ H Q ⟨ρ, O, W, ds, ρ', rs, p, e, q⟩ => by
  unfold gsC at e
  split at e
  · obtain ⟨ρ1, e1, e2⟩ := opt_bind e
    cases p with
    | cons p1 p2 =>
      refine ⟨_, _, rfl, ρ, O, W, _, ρ1, rs, p1, e1, fun σ1 r1 o1 => ⟨ρ1, O, W, _, ρ', r1, p2, e2, fun σ2 r2 o2 => ?_⟩⟩
      exact q σ2 r2 ((o1.mono fun i hi => List.mem_append_left _ hi).trans (o2.mono fun i hi => List.mem_append_right _ hi))
  · cases e
def gT (n : Nat) (gs : List D → Rho → Option Rho) : D → Rho → Option Rho := fun d ρ => match d with
  | .tup ds => if ds.length = n then gs ds ρ else none
  | .lst ds => if ds.length = n then gs ds ρ else none
  | _ => none
theorem pg_or {e : Expr} {t u : TG} (h : PG X e t) (k : PG X e u) : PG X e (fun v σ H Q => t v σ H Q ∨ u v σ H Q) := ⟨fun pins s σ H v w Q I r hw => hw.elim (h.run pins s σ H v w Q I r) (k.run pins s σ H v w Q I r)⟩
theorem dg_tup {k : Nat} {gs : List D → Rho → Option Rho} {ts : List Nat} (n : Nat) (hc : X.calm = true) (h : DGs X es gs ts) (hn : (assignEach es X.env).length = n := by rfl) (hst : (assignEach es X.env).findIdx? (·.1) = none := by rfl) : DG X (.Tuple es k pos) (gT n gs) ts := pg_imp (pg_or (pg_tup hc h hn hst) (pg_unl hc h hn hst)) fun v σ H Q ⟨ρ, O, W, d, ρ', rs, p, e, q⟩ => by
  unfold gT at e
  split at e
  · split at e
    · rename_i hl
      obtain ⟨a, xs, rfl, hq, ra⟩ := rp_tup p
      exact .inl ⟨a, xs, rfl, sqT_mono rs.sub hq, by rw [ra.length]; exact hl, ρ, O, W, _, ρ', rs, ra, e, q⟩
    · cases e
  · split at e
    · rename_i hl
      obtain ⟨a, xs, rfl, hq, ra⟩ := rp_lst p
      exact .inr ⟨a, xs, rfl, .inl (.inl (rs.sub _ _ hq)), by rw [ra.length]; exact hl, ρ, O, W, _, ρ', rs, ra, e, q⟩
    · cases e
  · cases e

/-! ### assignments -/
def sG (f : Xe) (g : D → Rho → Option Rho) : Sx := fun ρ => (f ρ).bind fun x => (g x.1 x.2).map .nx
theorem ds_asg {f : Xe} {g : D → Rho → Option Rho} {ts : List Nat} (he : DE X a f) (hg : DG X b g ts) (hs : swapsWithSole [b] a pos.line X.env = pure false := by rfl) (hw : swappedStores [b] a X.env = pure none := by rfl)
    (h1 : (assignEach [b] X.env).map (·.2) = [assign b X.env] := by rfl) : DS X (.Assign [b] a pos) (sG f g) := ps_imp (ps_asg he hg hs hw h1) fun E σ H ⟨ρ, O, W, out, rs, e, q⟩ => by
  obtain ⟨⟨d, ρ1⟩, e1, e⟩ := opt_bind e
  obtain ⟨ρ2, e2, rfl⟩ := Option.map_eq_some_iff.mp e
  exact ⟨ρ, O, W, d, ρ1, rs, e1, fun v O1 W1 H1 s1 r1 p1 => ⟨ρ1, O1, W1, d, ρ2, r1, p1, e2, fun σ' r' _ => q σ' O1 W1 H1 s1 r'⟩⟩
/-- x = e -/
theorem ds_set {i : Nat} {x : Str} {f : Xe} {pos' : Pos} (hN : X.N.Nodup) (hi : X.N[i]? = some x) (hx : Loc X.env.scope x) (he : DE X a f) (hs : swapsWith a (some (.Name x pos')) pos.line X.env = pure false := by rfl) (hf : X.fn x = true ∨ X.env.scope.names.lookup x = some .local := by first | exact .inl rfl | exact .inr rfl | assumption) :
    DS X (.Assign [.Name x pos'] a pos) (sG f (gN i)) := ps_imp (ps_set hN hi hx he hs hf) fun E σ H ⟨ρ, O, W, out, rs, e, q⟩ => by
  obtain ⟨⟨d, ρ1⟩, e1, e⟩ := opt_bind e
  cases e
  exact ⟨ρ, O, W, d, ρ1, rs, e1, fun v O1 W1 H1 s1 r1 p1 => q _ O1 W1 H1 s1 (r1.set p1)⟩
/-- x = a new list, from then on x's own -/
def sOwn (i : Nat) (al : List Nat) (fs : Exs) : Sx := fun ρ => (fs ρ).bind fun xs => if (noO al ρ || noLs xs) = true then some (.nx (ρ.set i (.own xs))) else none
theorem own_end {K : PySem.W.Frag} {ρ : Rho} {σ : L2.St} {O : Addr → Bool} {W H : Hp} {i : Nat} {xs : List D} {E : Ends} (rs : RS K ρ σ O W H) (hz : (noO al ρ || noLs xs) = true) (q : SPost K O W H E (.nx (ρ.set i (.own xs)))) :
    ∀ a vs W' H', PStep W H W' H' → H a = none → W' a = none → H' a = some (.lst vs) → RpAll K (vw ρ σ al W' H') vs xs → E.nx (σ.set i (some (.ref a))) H' := fun a vs W' H' s n w hh ra => by
  have r1 := rs.pstep s
  have ra' : RpAll K W' vs xs := by
    rcases Bool.or_eq_true_iff.mp hz with z | z
    · rw [vw_noO z] at ra
      exact ra
    · exact rpAll_down r1 z ra
  have oa : O a = false := by
    cases z : O a with
    | false => rfl
    | true => obtain ⟨_, us, y⟩ := rs.hid a z; rw [n] at y; cases y
  refine q _ _ W' H' ⟨s.le, fun b o e _ => s.keep b o e, fun b o e => (s.new b o e).elim .inl fun z => .inr (.inl z), fun b e => ?_⟩ (r1.setOwn hh w oa ra')
  rcases Bool.or_eq_true_iff.mp e with z | z
  · exact .inl z
  · exact .inr (by rw [of_decide_eq_true z]; exact n)
theorem ds_own {i : Nat} {x : Str} {fs : Exs} {pos' : Pos} (hN : X.N.Nodup) (hi : X.N[i]? = some x) (hx : Loc X.env.scope x) (he : DN X a fs al) (hs : swapsWith a (some (.Name x pos')) pos.line X.env = pure false := by rfl) (hf : X.fn x = true ∨ X.env.scope.names.lookup x = some .local := by first | exact .inl rfl | exact .inr rfl | assumption) :
    DS X (.Assign [.Name x pos'] a pos) (sOwn i al fs) := ps_imp (ps_set hN hi hx he hs hf) fun E σ H ⟨ρ, O, W, out, rs, e, q⟩ => by
  obtain ⟨xs, e1, e⟩ := opt_bind e
  split at e
  · rename_i hz
    cases e
    exact ⟨ρ, O, W, xs, rs, e1, own_end rs hz q⟩
  · cases e
end
end DL

/-! The data layer, 5: methods, loops, comprehensions, bodies. -/
namespace DL
open PySem PySem.Spec L2
section
variable {X : Cx} {a b c : Expr} {es : List Expr} {f g h : Ex} {fs : Exs} {al bl cl : List Nat} {pos p : Pos}

/-! ### x += e -/
def dAug : D → D → Option D
  | .int i, .int j => some (.int (i + j))
  | .str x, .str y => if x.length + y.length ≤ 16777216 then some (.str (x ++ y)) else none
  | _, _ => none
/-- ints, texts; an own list takes the items of another list -/
def sAug (i : Nat) (al : List Nat) (f : Ex) : Sx := fun ρ => (f ρ).bind fun y => match ρ[i]? with
  | some (.val x) => (dAug x y).map fun z => .nx (ρ.set i (.val z))
  | some (.own xs) => match y with
    | .lst ys => if (noO al ρ || noLs ys) = true ∧ xs.length + ys.length ≤ 16777216 then some (.nx (ρ.set i (.own (xs ++ ys)))) else none
    | _ => none
  | _ => none
theorem set_same {ρ : Rho} {σ : L2.St} {K : PySem.W.Frag} {O : Addr → Bool} {W H : Hp} {i : Nat} {xs : List D} {x : V} (r : RS K ρ σ O W H) (h : σ[i]? = some (some x)) : σ.set i (some x) = σ := by
  obtain ⟨hi, e⟩ := List.getElem?_eq_some_iff.mp h
  rw [← e]
  exact List.set_getElem_self hi
theorem ds_aug {i : Nat} {x : Str} {pos' : Pos} (hN : X.N.Nodup) (hi : X.N[i]? = some x) (hx : Loc X.env.scope x) (he : DP X a f al) (hf : X.fn x = true ∨ X.env.scope.names.lookup x = some .local := by first | exact .inl rfl | exact .inr rfl | assumption) :
    DS X (.AugAssign (.Name x pos') .Add a pos) (sAug i al f) := by
  refine ps_imp (ps_aug (ti := fun x y H Q => (rI0 fun i j => V.int (i + j)) x y H Q ∨ (fun x y H Q => ∃ i j, x = V.str i ∧ y = V.str j ∧ i.length + j.length ≤ sizeLine ∧ Q (V.str (i ++ j)) H) x y H Q ∨ rExt2 x y H Q) hN hi hx he (iop_add.or (iop_add_str.or iop_ext)) hf) fun E σ H ⟨ρ, O, W, out, rs, e, q⟩ => ?_
  obtain ⟨y, e1, e⟩ := opt_bind e
  split at e
  · rename_i x' hq
    obtain ⟨z, e2, rfl⟩ := Option.map_eq_some_iff.mp e
    obtain ⟨v, h1, h2⟩ := rs.vals i _ hq
    refine ⟨v, h1, ρ, O, W, y, rs, e1, fun v2 W2 H2 s2 p2 => ?_⟩
    unfold dAug at e2
    split at e2
    · cases e2; cases h2; cases p2
      exact .inl ⟨_, _, rfl, rfl, q _ O W2 H2 s2.s ((rs.pstep s2).set (.int _))⟩
    · split at e2
      · rename_i hz
        cases e2; cases h2; cases p2
        exact .inr (.inl ⟨_, _, rfl, rfl, by rw [line_eq]; exact hz, q _ O W2 H2 s2.s ((rs.pstep s2).set (.str _))⟩)
      · cases e2
    · cases e2
  · rename_i xs hq
    split at e
    · split at e
      · rename_i ys hz
        cases e
        obtain ⟨a', vs, h1, h2, h3, h4⟩ := rs.owns i _ hq
        refine ⟨.ref a', h1, ρ, O, W, .lst ys, rs, e1, fun v2 W2 H2 s2 p2 => ?_⟩
        have r2 := rs.pstep s2
        obtain ⟨b', ws, rfl, k1, k2⟩ := rp_lst p2
        have k3 : RpAll X.K W2 ws ys := by
          rcases Bool.or_eq_true_iff.mp hz.1 with z | z
          · rw [vw_noO z] at k2
            exact k2
          · exact rpAll_down r2 z k2
        have h4' := rpAll_mono s2.le h4
        obtain ⟨w1, w2⟩ := r2.write (xs := xs ++ ys) hq h1 (h4'.append k3)
        refine .inr (.inr ⟨a', b', vs, ws, rfl, rfl, s2.keep _ _ h3, vw_sub s2.sub _ _ k1, by rw [line_eq, h4.length, k2.length]; exact hz.2, ?_⟩)
        show E.nx (List.set σ i (some (.ref a'))) _
        rw [set_same (xs := []) rs h1]
        exact q _ O W2 _ (s2.s.trans w2) w1
      · cases e
    · cases e
  · cases e

/-! ### methods of an own list, as statements -/
def sApp (i : Nat) (f : Xe) : Sx := fun ρ => (f ρ).bind fun x => match x.2[i]? with
  | some (.own xs) => if xs.length < 16777216 then some (.nx (x.2.set i (.own (xs ++ [x.1])))) else none
  | _ => none
/-- the list stays own while its argument is reckoned -/
def keepsOwn (i : Nat) (ρ ρ' : Rho) : Bool := match ρ[i]?, ρ'[i]? with
  | some (.own _), some (.own _) => true
  | _, _ => false
theorem ds_app {i : Nat} {o : Expr} {f : Xe} {apos cpos spos : Pos} (ho : PE X o (tVar i)) (ha : DE X a f) (hown : ∀ ρ d ρ' xs, f ρ = some (d, ρ') → ρ'[i]? = some (.own xs) → ∃ ys, ρ[i]? = some (.own ys))
    (hbase : attributeBase o "append" X.env (eval o X.env) = eval o X.env := by rfl)
    (hfew : ((backTo cpos (starEach [a] X.env)).all (fun x => !x.1) && (backToKw cpos (keywordEach [] X.env)).all (fun x => x.1.isSome)
      && decide ([a].length + ([] : List Keyword).length + (if ([] : List Keyword).isEmpty then 0 else 1) < 30)) = true := by rfl)
    (hline : (apos.endLine == cpos.line) = true := by rfl) (hs : starEach [a] X.env = (false, eval a X.env) :: starEach [] X.env := by rfl) (hplain : (backTo cpos (starEach [] X.env)).any (·.1) = false := by rfl)
    (hsw : swapsWith (.Call (.Attribute o "append" apos) [a] [] cpos) none spos.line X.env = pure false := by rfl) :
    DS X (.Expr (.Call (.Attribute o "append" apos) [a] [] cpos) spos) (sApp i f) := by
  refine ps_imp (ps_expr (pe_bm PySem.F.plainAttrs_list PySem.F.slot_list_append PySem.F.type_list_append mt_append ho (pa_cons ha pa_nil hs) hbase hfew hline hs hplain) hsw) fun E σ H ⟨ρ, O, W, out, rs, e, q⟩ => ?_
  obtain ⟨⟨d, ρ1⟩, e1, e⟩ := opt_bind e
  split at e
  · rename_i xs hq
    split at e
    · rename_i hz
      cases e
      obtain ⟨ys, hq0⟩ := hown ρ d ρ1 xs e1 hq
      obtain ⟨a0, vs0, h1, h2, h3, h4⟩ := rs.owns i _ hq0
      refine ⟨.ref a0, h1, .inl ⟨rfl, _, .inl (.inl h3)⟩, ρ, O, W, d, ρ1, rs, e1, fun v O1 W1 H1 s1 r1 p1 => ?_⟩
      obtain ⟨a1, vs1, k1, k2, k3, k4⟩ := r1.owns i _ hq
      rw [h1] at k1
      cases k1
      obtain ⟨w1, w2⟩ := r1.write (xs := xs ++ [d]) hq h1 (k4.append (.one p1))
      exact ⟨a0, vs1, v, rfl, rfl, k3, by rw [line_eq, k4.length]; exact hz, q σ O1 W1 _ (s1.trans w2) w1⟩
    · cases e
  · cases e
theorem esc_own {al : List Nat} {d : D} {ρ : Rho} {i : Nat} {xs : List D} (h : (esc al d ρ)[i]? = some (.own xs)) : ∃ ys, ρ[i]? = some (.own ys) := by
  unfold esc at h
  split at h
  · exact ⟨xs, h⟩
  · rw [unown_get] at h
    cases q : ρ[i]? with
    | none => rw [q] at h; cases h
    | some s =>
      rw [q] at h
      cases s with
      | no => cases h
      | val d' => cases h
      | own ys => exact ⟨ys, rfl⟩
/-- «the slot stays own» for every expression -/
def Ko (f : Xe) : Prop := ∀ (i : Nat) (ρ : Rho) (d : D) (ρ' : Rho) (xs : List D), f ρ = some (d, ρ') → ρ'[i]? = some (.own xs) → ∃ ys, ρ[i]? = some (.own ys)
def Kos (f : Xs) : Prop := ∀ (i : Nat) (ρ : Rho) (d : List D) (ρ' : Rho) (xs : List D), f ρ = some (d, ρ') → ρ'[i]? = some (.own xs) → ∃ ys, ρ[i]? = some (.own ys)
theorem ko_p {al : List Nat} {f : Ex} : Ko (xP al f) := fun i ρ d ρ' xs e h => by
  obtain ⟨d', e1, e2⟩ := Option.map_eq_some_iff.mp e
  cases e2
  exact esc_own h
theorem ko_pop {j : Nat} : Ko (xPop j) := fun i ρ d ρ' xs e h => by
  unfold xPop at e
  split at e
  · rename_i ys hq
    obtain ⟨d', e1, e2⟩ := Option.map_eq_some_iff.mp e
    cases e2
    by_cases hj : j = i
    · subst hj; exact ⟨ys, hq⟩
    · rw [List.getElem?_set_ne hj] at h; exact ⟨xs, h⟩
  · cases e
theorem kos_nil : Kos xsN := fun i ρ d ρ' xs e h => by cases e; exact ⟨xs, h⟩
theorem kos_cons {f : Xe} {fs : Xs} (h1 : Ko f) (h2 : Kos fs) : Kos (xsC f fs) := fun i ρ d ρ' xs e h => by
  obtain ⟨⟨x, ρ1⟩, e1, e⟩ := opt_bind e
  obtain ⟨⟨xs', ρ2⟩, e2, e⟩ := opt_bind e
  cases e
  obtain ⟨ys, k⟩ := h2 i ρ1 _ _ xs e2 h
  exact h1 i ρ _ _ ys e1 k
theorem ko_a {k : List D → Option D} {fs : Xs} (h : Kos fs) : Ko (xA k fs) := fun i ρ d ρ' xs e h' => by
  obtain ⟨⟨ds, ρ1⟩, e1, e⟩ := opt_bind e
  obtain ⟨d', e2, e⟩ := Option.map_eq_some_iff.mp e
  cases e
  exact h i ρ _ _ xs e1 h'

/-! ### x[i] = e, x an own list -/
def sPut (i : Nat) (f : Xe) (k : Ex) : Sx := fun ρ => (f ρ).bind fun x => (k x.2).bind fun n => match n, x.2[i]? with
  | .int n, some (.own xs) => (ixN xs.length n).map fun j => .nx (x.2.set i (.own (xs.set j x.1)))
  | _, _ => none
theorem ds_put {i : Nat} {o k : Expr} {f : Xe} {g : Ex} {tpos : Pos} (ho : PE X o (tVar i)) (hk : DP X k g bl) (he : DE X a f)
    (ha : ∀ v, assign (.Subscript o k tpos) X.env v = (do
      let ov ← holding [v] (eval o X.env)
      let iv ← holding [v, ov] (eval k X.env)
      standAt tpos
      holding [v, ov, iv] (setItem ov iv v)
      release [v, ov, iv] []) := by intro _; rfl)
    (hs : swapsWithSole [.Subscript o k tpos] a pos.line X.env = pure false := by rfl) (hw : swappedStores [.Subscript o k tpos] a X.env = pure none := by rfl)
    (h1 : (assignEach [.Subscript o k tpos] X.env).map (·.2) = [assign (.Subscript o k tpos) X.env] := by rfl) : DS X (.Assign [.Subscript o k tpos] a pos) (sPut i f g) := by
  refine ps_imp (ps_asg he (pg_sub ho hk set_list ha) hs hw h1) fun E σ H ⟨ρ, O, W, out, rs, e, q⟩ => ?_
  obtain ⟨⟨d, ρ1⟩, e1, e⟩ := opt_bind e
  obtain ⟨n, e2, e⟩ := opt_bind e
  refine ⟨ρ, O, W, d, ρ1, rs, e1, fun v O1 W1 H1 s1 r1 p1 => ?_⟩
  split at e
  · rename_i n' xs hq
    obtain ⟨j, e3, rfl⟩ := Option.map_eq_some_iff.mp e
    obtain ⟨a1, vs1, k1, k2, k3, k4⟩ := r1.owns i _ hq
    refine ⟨.ref a1, k1, ρ1, O1, W1, _, r1, e2, fun v2 W2 H2 s2 p2 => ?_⟩
    cases p2
    have r2 := r1.pstep s2
    obtain ⟨w1, w2⟩ := r2.write (xs := xs.set j d) hq k1 ((rpAll_mono s2.le k4).set (rp_mono s2.le p1) j)
    exact ⟨a1, vs1, _, j, rfl, rfl, s2.keep _ _ k3, by rw [k4.length]; exact e3, q σ O1 W2 _ (s1.trans (s2.s.trans w2)) w1⟩
  · cases e

/-! ### what is walked -/
def Its (K : PySem.W.Frag) (J : It) (ds : List D) (U W : Hp) : Prop := ∃ G Y, Walk J ds.length G Y ∧ (∀ H', Same U H' → G H') ∧
  ∀ i H1 x H2, i < ds.length → Y i H1 x H2 → ∃ d, ds[i]? = some d ∧ ∀ W1, Same W W1 → Same W1 H1 → ∃ W2, PStep W1 H1 W2 H2 ∧ Rp K W2 x d
def tI (K : PySem.W.Frag) (f : Exs) (al : List Nat) : TI := fun σ H R => ∃ ρ O W ds, RS K ρ σ O W H ∧ f ρ = some ds ∧ ∀ J W' H', PStep W H W' H' → Its K J ds (vw ρ σ al W' H') W' → R J H'
abbrev DI (X : Cx) (tg e : Expr) (f : Exs) (al : List Nat) : Prop := PI X tg e (tI X.K f al)
theorem pi_imp {tg e : Expr} {t t' : TI} (h : PI X tg e t) (i : ∀ σ H R, t' σ H R → t σ H R) : PI X tg e t' := ⟨fun pins s σ H R I q => h.run pins s σ H R I (i σ H R q)⟩
theorem pi_or {tg e : Expr} {t t' : TI} (h : PI X tg e t) (h' : PI X tg e t') : PI X tg e (fun σ H R => t σ H R ∨ t' σ H R) := ⟨fun pins s σ H R I q => q.elim (h.run pins s σ H R I) (h'.run pins s σ H R I)⟩
theorem its_at {K : PySem.W.Frag} {J : It} {G : Hp → Prop} {vs : List V} {ds : List D} {U W : Hp} (w : Walk J vs.length G (YAt vs)) (hG : ∀ H', Same U H' → G H') (ra : RpAll K W vs ds) : Its K J ds U W := by
  refine ⟨G, YAt vs, by rw [← ra.length]; exact w, hG, fun i H1 x H2 hi y => ?_⟩
  obtain ⟨rfl, e⟩ := y
  obtain ⟨d, h1, h2⟩ := ra.getV e
  exact ⟨d, h1, fun W1 s1 s2 => ⟨W1, .refl s2, rp_mono s1 h2⟩⟩
/-- the items of a list, a tuple, the script, a text -/
def dItems : D → Option (List D)
  | .lst xs => some xs
  | .tup xs => some xs
  | .scr ns => some (ns.map .int)
  | .str z => some (z.cps.toList.map fun c => .str ⟨#[c]⟩)
  | _ => none
theorem its_str {K : PySem.W.Frag} {z : Str} {U W : Hp} : DL.Its K (L2.Its z) (z.cps.toList.map fun c => .str ⟨#[c]⟩) U W := by
  refine ⟨fun _ => True, fun i H v H' => H' = H ∧ ∃ c, z.cps[i]? = some c ∧ v = .str ⟨#[c]⟩, ?_, fun _ _ => trivial, fun i H1 x H2 hi y => ?_⟩
  · rw [show (z.cps.toList.map fun c => D.str ⟨#[c]⟩).length = z.cps.size by simp]
    exact walk_str
  · obtain ⟨rfl, c, h1, rfl⟩ := y
    refine ⟨.str ⟨#[c]⟩, ?_, fun W1 s1 s2 => ⟨W1, .refl s2, .str _⟩⟩
    rw [List.getElem?_map, Array.getElem?_toList, h1]
    rfl
/-- over a name -/
def iV (i : Nat) : Exs := fun ρ => (eV i ρ).bind dItems
theorem di_var (i : Nat) {tg e : Expr} (he : PE X e (tVar i)) : DI X tg e (iV i) [i] := pi_imp (pi_or (pi_list he) (pi_or (pi_tup he) (pi_str he))) fun σ H R ⟨ρ, O, W, ds, rs, e, q⟩ => by
  obtain ⟨d, e1, e⟩ := opt_bind e
  unfold eV at e1
  split at e1
  · rename_i d' hq
    cases e1
    obtain ⟨v, h1, h2⟩ := rs.vals i _ hq
    cases d with
    | lst xs =>
      cases e
      obtain ⟨a, vs, rfl, k, ra⟩ := rp_lst h2
      exact .inl ⟨_, h1, a, rfl, ⟨vs, .inl (.inl (rs.sub _ _ k))⟩, q _ W H (.refl rs.sub) (its_at walk_list (fun H' s => .inl (.inl (s _ _ (vw_of a k)))) ra)⟩
    | tup xs =>
      cases e
      obtain ⟨a, vs, rfl, k, ra⟩ := rp_tup h2
      exact .inr (.inl ⟨_, h1, a, rfl, ⟨vs, sqT_mono rs.sub k⟩, q _ W H (.refl rs.sub) (its_at walk_tup (fun H' s => sqT_mono (vw_le.trans s) k) ra)⟩)
    | scr ns =>
      cases e
      cases h2 with
      | scr k => exact .inl ⟨_, h1, _, rfl, ⟨_, sqL_mono rs.sub k.sq⟩, q _ W H (.refl rs.sub) (its_at walk_list (fun H' s => sqL_mono (vw_le.trans s) k.sq) (map_ints _))⟩
    | str z =>
      cases e
      cases h2
      exact .inr (.inr ⟨_, h1, _, rfl, q _ W H (.refl rs.sub) its_str⟩)
    | _ => cases e
  · rename_i xs hq
    cases e1
    cases e
    obtain ⟨a, vs, h1, h2, h3, h4⟩ := rs.owns i _ hq
    exact .inl ⟨_, h1, a, rfl, ⟨vs, .inl (.inl h3)⟩, q _ W H (.refl rs.sub) (its_at walk_list (fun H' s => .inl (.inl (s _ _ (vw_own (i := i) (by simp) (own1_iff.mpr ⟨_, hq, h1⟩) h3 rs.sub)))) h4)⟩
  · cases e1
/-- over any expression -/
def okIt (al : List Nat) (ρ : Rho) (d : D) : Bool := noO al ρ || noL d || (match d with
  | .lst xs => noLs xs
  | _ => false)
def iE (al : List Nat) (f : Ex) : Exs := fun ρ => (f ρ).bind fun d => if okIt al ρ d = true then dItems d else none
theorem di_e {tg : Expr} (he : DP X a f al) : DI X tg a (iE al f) al := pi_imp (pi_or (pi_list he) (pi_or (pi_tup he) (pi_str he))) fun σ H R ⟨ρ, O, W, ds, rs, e, q⟩ => by
  obtain ⟨d, e1, e⟩ := opt_bind e
  split at e
  · rename_i hz
    unfold okIt at hz
    cases d with
    | lst xs =>
      cases e
      refine .inl ⟨ρ, O, W, _, rs, e1, fun v W1 H1 s1 p1 => ?_⟩
      obtain ⟨a', vs, rfl, k, ra⟩ := rp_lst p1
      have ra' : RpAll X.K W1 vs ds := by
        rcases Bool.or_eq_true_iff.mp hz with z | z
        · rcases Bool.or_eq_true_iff.mp z with z | z
          · rw [vw_noO z] at ra; exact ra
          · simp [noL] at z
        · exact rpAll_down (rs.pstep s1) z ra
      exact ⟨a', rfl, ⟨vs, .inl (.inl (vw_sub s1.sub _ _ k))⟩, q _ W1 H1 s1 (its_at walk_list (fun H' s => .inl (.inl (s _ _ k))) ra')⟩
    | tup xs =>
      cases e
      refine .inr (.inl ⟨ρ, O, W, _, rs, e1, fun v W1 H1 s1 p1 => ?_⟩)
      have p1' : Rp X.K W1 v (.tup ds) := by
        rcases Bool.or_eq_true_iff.mp hz with z | z
        · rcases Bool.or_eq_true_iff.mp z with z | z
          · rw [vw_noO z] at p1; exact p1
          · exact rp_down (rs.pstep s1) z p1
        · cases z
      obtain ⟨a', vs, rfl, k, ra⟩ := rp_tup p1'
      exact ⟨a', rfl, ⟨vs, sqT_mono s1.sub k⟩, q _ W1 H1 s1 (its_at walk_tup (fun H' s => sqT_mono (vw_le.trans s) k) ra)⟩
    | scr ns =>
      cases e
      refine .inl ⟨ρ, O, W, _, rs, e1, fun v W1 H1 s1 p1 => ?_⟩
      cases p1 with
      | scr k => exact ⟨_, rfl, ⟨_, sqL_mono (vw_sub s1.sub) k.sq⟩, q _ W1 H1 s1 (its_at walk_list (fun H' s => sqL_mono s k.sq) (map_ints _))⟩
    | str z =>
      cases e
      refine .inr (.inr ⟨ρ, O, W, _, rs, e1, fun v W1 H1 s1 p1 => ?_⟩)
      cases p1
      exact ⟨_, rfl, q _ W1 H1 s1 its_str⟩
    | _ => cases e
  · cases e
/-- over range(n), range(a, b) -/
def rgD (a b : Int) : List D := (List.range (b - a).toNat).map fun i => .int (a + (i : Nat))
def dRg1 : List D → Option (List D)
  | [.int n] => if -(2 ^ 62) ≤ n ∧ n < 2 ^ 62 then some (rgD 0 n) else none
  | _ => none
def dRg2 : List D → Option (List D)
  | [.int a, .int b] => if (-(2 ^ 62) ≤ a ∧ a < 2 ^ 62) ∧ (-(2 ^ 62) ≤ b ∧ b < 2 ^ 62) then some (rgD a b) else none
  | _ => none
theorem its_rg {K : PySem.W.Frag} {a b : Int} {U W : Hp} : Its K (Itr a (b - a).toNat) (rgD a b) U W := by
  refine ⟨_, _, by rw [show (rgD a b).length = (b - a).toNat by simp [rgD]]; exact walk_range, fun _ _ => trivial, fun i H1 x H2 hi y => ?_⟩
  obtain ⟨rfl, rfl⟩ := y
  refine ⟨.int (a + i), ?_, fun W1 s1 s2 => ⟨W1, .refl s2, .int _⟩⟩
  rw [show (rgD a b).length = (b - a).toNat by simp [rgD]] at hi
  simp [rgD, hi]
theorem di_rg1 {tg : Expr} (hg : Gl X "range") (hm : X.mg "range" = none) (ha : DA X [a] fs al) (hs : starEach [a] X.env = [(false, eval a X.env)] := by rfl) : DI X tg (.Call (.Name "range" p) [a] [] pos) (nL dRg1 fs) [] := pi_imp (pi_range1 hg hm ha hs) fun σ H R ⟨ρ, O, W, ds, rs, e, q⟩ => by
  obtain ⟨ys, e1, e⟩ := opt_bind e
  refine ⟨ρ, O, W, ys, rs, e1, fun vs W1 H1 s1 p1 => ?_⟩
  unfold dRg1 at e
  split at e
  · split at e
    · rename_i n hz
      cases e
      obtain ⟨v, hv, p2⟩ := rpAll1 p1
      subst hv
      cases p2
      refine ⟨n, rfl, hz.1, hz.2, ?_⟩
      have := q (Itr 0 (n - 0).toNat) W1 H1 s1 its_rg
      rw [Int.sub_zero] at this
      exact this
    · cases e
  · cases e
theorem di_rg2 {tg : Expr} (hg : Gl X "range") (hm : X.mg "range" = none) (ha : DA X [a, b] fs al) (hs : starEach [a, b] X.env = [(false, eval a X.env), (false, eval b X.env)] := by rfl) (hs2 : starEach [b] X.env = [(false, eval b X.env)] := by rfl) : DI X tg (.Call (.Name "range" p) [a, b] [] pos) (nL dRg2 fs) [] := pi_imp (pi_range2 hg hm ha hs hs2) fun σ H R ⟨ρ, O, W, ds, rs, e, q⟩ => by
  obtain ⟨ys, e1, e⟩ := opt_bind e
  refine ⟨ρ, O, W, ys, rs, e1, fun vs W1 H1 s1 p1 => ?_⟩
  unfold dRg2 at e
  split at e
  · split at e
    · rename_i n m hz
      cases e
      obtain ⟨v, w, rfl, p1, p2⟩ := rpAll2 p1
      cases p1; cases p2
      exact ⟨n, m, rfl, ⟨hz.1.1, hz.1.2, hz.2.1, hz.2.2⟩, q _ W1 H1 s1 its_rg⟩
    · cases e
  · cases e

/-! ### for -/
def forS (g : D → Rho → Option Rho) (B : Sx) : List D → Rho → Option Out
  | [], ρ => some (.nx ρ)
  | d :: ds, ρ => (g d ρ).bind fun ρ1 => (B ρ1).bind fun o => match o with
    | .nx ρ2 => forS g B ds ρ2
    | .ct ρ2 => forS g B ds ρ2
    | .brk ρ2 => some (.nx ρ2)
    | .ret d => some (.ret d)
def sFor (al : List Nat) (it : Exs) (g : D → Rho → Option Rho) (B : Sx) : Sx := fun ρ => (it ρ).bind fun ds => forS g B ds (unown al ρ)
theorem ds_for {tg iter : Expr} {body : List Stmt} {it : Exs} {g : D → Rho → Option Rho} {ts : List Nat} {B : Sx} (hp : PassesOwn (model X.prog X.w) X.A X.env X.xe) (hc : X.calm = true) (hi : DI X tg iter it al) (hg : DG X tg g ts) (hb : DSs X body B)
    (hs : ∀ x, foldedSetIterable iter X.env x = pure x := by intro _; rfl) : DS X (.For tg iter body [] pos) (sFor al it g B) := by
  refine ps_imp (ps_for hp hc hi hg hb hs) fun E σ H ⟨ρ, O, W, out, rs, e, q⟩ => ?_
  obtain ⟨ds, e1, e⟩ := opt_bind e
  refine ⟨ρ, O, W, ds, rs, e1, fun J W1 H1 s1 its => ?_⟩
  obtain ⟨G, Y, wk, hG, hY⟩ := its
  obtain ⟨O2, W2, k1, k2, k3⟩ := (rs.pstep s1).unown (al := al)
  have hstart := s1.s.trans k1
  refine for_it wk (fun i σ' H' => ∃ ρ' O' W', SStep O W H O' W' H' ∧ RS X.K ρ' σ' O' W' H' ∧ Same W2 W' ∧ forS g B (ds.drop i) ρ' = some out) ⟨unown al ρ, O2, W2, hstart, k2, fun _ _ e => e, e⟩ (fun i σ' H' _ ⟨ρ', O', W', a1, a2, a3, a4⟩ => hG H' (k3.trans (a3.trans a2.sub))) (fun i x σ' H' H'' hi ⟨ρ', O', W', a1, a2, a3, a4⟩ y => ?_) (fun σ' H' ⟨ρ', O', W', a1, a2, a3, a4⟩ => ?_)
  · obtain ⟨d, hd, hW⟩ := hY i H' x H'' hi y
    obtain ⟨W'', st, rp⟩ := hW W' (k3' k3 a3) a2.sub
    rw [List.drop_eq_getElem_cons hi] at a4
    have hdd : ds[i] = d := by
      rw [List.getElem?_eq_getElem hi] at hd
      exact Option.some.inj hd
    rw [hdd] at a4
    obtain ⟨ρ1, b1, b2⟩ := opt_bind a4
    obtain ⟨o, b3, b4⟩ := opt_bind b2
    refine ⟨ρ', O', W'', d, ρ1, a2.pstep st, rp, b1, fun σ1 r1 _ => ⟨ρ1, O', W'', o, r1, b3, ?_⟩⟩
    have base := a1.trans (st.s (O := O'))
    cases o with
    | nx ρ2 => exact fun σ2 O3 W3 H3 s3 r3 => ⟨ρ2, O3, W3, base.trans s3, r3, (a3.trans st.le).trans s3.le, b4⟩
    | ct ρ2 => exact fun σ2 O3 W3 H3 s3 r3 => ⟨ρ2, O3, W3, base.trans s3, r3, (a3.trans st.le).trans s3.le, b4⟩
    | brk ρ2 =>
      cases b4
      exact fun σ2 O3 W3 H3 s3 r3 => q σ2 O3 W3 H3 (base.trans s3) r3
    | ret d2 =>
      cases b4
      exact fun v O3 W3 H3 s3 sb r3 => q v O3 W3 H3 (base.trans s3) sb r3
  · rw [List.drop_length] at a4
    cases a4
    exact q σ' O' W' H' a1 a2
where
  k3' {ρ : Rho} {σ : L2.St} {W1 H1 W2 W' : Hp} (k3 : Same (vw ρ σ al W1 H1) W2) (a3 : Same W2 W') : Same W1 W' := vw_le.trans (k3.trans a3)

/-! ### while -/
def whileS (c : Te) (B : Sx) : Nat → Rho → Option Out
  | 0, _ => none
  | n + 1, ρ => (c ρ).bind fun b => if b = true then (B ρ).bind fun o => match o with
      | .nx ρ2 => whileS c B n ρ2
      | .ct ρ2 => whileS c B n ρ2
      | .brk ρ2 => some (.nx ρ2)
      | .ret d => some (.ret d)
    else some (.nx ρ)
def sWhile (n : Nat) (c : Te) (B : Sx) : Sx := whileS c B n
theorem ds_while (n : Nat) {body : List Stmt} {t : Te} {B : Sx} (hp : PassesOwn (model X.prog X.w) X.A X.env X.xe) (hc : DT X c t) (hb : DSs X body B) : DS X (.While c body [] pos) (sWhile n t B) := by
  refine ps_imp (ps_while hp hc hb) fun E σ H ⟨ρ, O, W, out, rs, e, q⟩ => ?_
  refine ⟨fun m σ' H' => ∃ ρ' O' W', SStep O W H O' W' H' ∧ RS X.K ρ' σ' O' W' H' ∧ whileS t B m ρ' = some out, ⟨n, ρ, O, W, .refl, rs, e⟩, fun m σ' H' ⟨ρ', O', W', a1, a2, a3⟩ => ?_⟩
  cases m with
  | zero => cases a3
  | succ m =>
    obtain ⟨b, b1, b2⟩ := opt_bind a3
    refine ⟨ρ', O', W', b, a2, b1, fun W1 H1 s1 => ?_⟩
    have base := a1.trans (s1.s (O := O'))
    cases b with
    | false =>
      cases b2
      exact iteF (q σ' O' W1 H1 base (a2.pstep s1))
    | true =>
      obtain ⟨o, b3, b4⟩ := opt_bind (show ((B ρ').bind fun o => match o with
        | .nx ρ2 => whileS t B m ρ2
        | .ct ρ2 => whileS t B m ρ2
        | .brk ρ2 => some (.nx ρ2)
        | .ret d => some (.ret d)) = some out from b2)
      refine iteT ⟨fun σ2 H2 => ∃ ρ' O' W', SStep O W H O' W' H2 ∧ RS X.K ρ' σ2 O' W' H2 ∧ whileS t B m ρ' = some out, fun σ2 H2 z => ⟨m, Nat.lt_succ_self m, z⟩, ρ', O', W1, o, a2.pstep s1, b3, ?_⟩
      cases o with
      | nx ρ2 => exact fun σ2 O3 W3 H3 s3 r3 => ⟨ρ2, O3, W3, base.trans s3, r3, b4⟩
      | ct ρ2 => exact fun σ2 O3 W3 H3 s3 r3 => ⟨ρ2, O3, W3, base.trans s3, r3, b4⟩
      | brk ρ2 =>
        cases b4
        exact fun σ2 O3 W3 H3 s3 r3 => q σ2 O3 W3 H3 (base.trans s3) r3
      | ret d2 =>
        cases b4
        exact fun v O3 W3 H3 s3 sb r3 => q v O3 W3 H3 (base.trans s3) sb r3

/-! ### comprehensions -/
def wipeR (ρ : Rho) : List Nat → Rho
  | [] => ρ
  | v :: vs => (wipeR ρ vs).set v .no
theorem RS.no {K : PySem.W.Frag} {ρ : Rho} {σ : L2.St} {O : Addr → Bool} {W H : Hp} (r : RS K ρ σ O W H) (i : Nat) : RS K (ρ.set i .no) (σ.set i none) O W H where
  len := by simp [r.len]
  sub := r.sub
  hid := r.hid
  vals := fun j d q => by
    by_cases hj : i = j
    · subst hj
      have hi : i < ρ.length := by simpa using (List.getElem?_eq_some_iff.mp q).1
      rw [List.getElem?_set_self hi] at q; cases q
    · rw [List.getElem?_set_ne hj] at q ⊢; exact r.vals j d q
  owns := fun j xs q => by
    by_cases hj : i = j
    · subst hj
      have hi : i < ρ.length := by simpa using (List.getElem?_eq_some_iff.mp q).1
      rw [List.getElem?_set_self hi] at q; cases q
    · rw [List.getElem?_set_ne hj] at q ⊢; exact r.owns j xs q
  apart := fun j k xs ys a q1 q2 s1 s2 => by
    have ne : ∀ (j : Nat) (zs : List D), (ρ.set i .no)[j]? = some (.own zs) → i ≠ j := fun j zs q hj => by
      subst hj
      have hi : i < ρ.length := by simpa using (List.getElem?_eq_some_iff.mp q).1
      rw [List.getElem?_set_self hi] at q; cases q
    have n1 := ne j xs q1
    have n2 := ne k ys q2
    rw [List.getElem?_set_ne n1] at q1 s1
    rw [List.getElem?_set_ne n2] at q2 s2
    exact r.apart j k xs ys a q1 q2 s1 s2
theorem RS.wipe {K : PySem.W.Frag} {ρ : Rho} {σ : L2.St} {O : Addr → Bool} {W H : Hp} (r : RS K ρ σ O W H) : ∀ vs : List Nat, RS K (wipeR ρ vs) (L2.wipe σ vs) O W H
  | [] => r
  | v :: vs => (RS.wipe r vs).no v
theorem wipe_in {σ : L2.St} {k : Nat} : ∀ {vs : List Nat}, k ∈ vs → k < σ.length → (L2.wipe σ vs)[k]? = some none
  | [], h, _ => nomatch h
  | v :: vs, h, hl => by
    unfold L2.wipe
    by_cases hk : v = k
    · subst hk
      exact List.getElem?_set_self (by rw [wipe_length]; exact hl)
    · rw [List.getElem?_set_ne hk]
      rcases List.mem_cons.mp h with z | z
      · exact absurd z.symm hk
      · exact wipe_in z hl
theorem wipe_eq {σ σ' : L2.St} {ts vs : List Nat} (h : OutS ts (L2.wipe σ vs) σ') (s : ∀ i ∈ ts, i ∈ vs) : L2.wipe σ' vs = L2.wipe σ vs := by
  refine List.ext_getElem? fun k => ?_
  by_cases hk : k ∈ vs
  · by_cases hl : k < σ.length
    · rw [wipe_in hk hl, wipe_in hk (by rw [h.1, wipe_length]; exact hl)]
    · rw [List.getElem?_eq_none (by rw [wipe_length, h.1, wipe_length]; omega), List.getElem?_eq_none (by rw [wipe_length]; omega)]
  · rw [wipe_out hk, h.2 k (fun z => hk (s k z))]
def compS (g : D → Rho → Option Rho) (t : Te) (f : Ex) (ρ : Rho) : List D → Option (List D)
  | [] => some []
  | d :: ds => (g d ρ).bind fun ρ1 => (t ρ1).bind fun b => if b = true then (f ρ1).bind fun y => (compS g t f ρ ds).map (y :: ·) else compS g t f ρ ds
def lcG (vs : List Nat) (it : Exs) (g : D → Rho → Option Rho) (t : Te) (f : Ex) : Exs := fun ρ => (it ρ).bind fun ds => if ds.length < 16777216 then compS g t f (wipeR ρ vs) ds else none
end
end DL

/-! The data layer, 6: comprehensions, bodies, the law. -/
namespace DL
open PySem PySem.Spec L2
section
variable {X : Cx} {a b c : Expr} {es : List Expr} {f g h : Ex} {fs : Exs} {al bl cl : List Nat} {pos p : Pos}

/-- what a target does to the slots -/
structure GOk (g : D → Rho → Option Rho) (ts : List Nat) : Prop where
  out : ∀ d ρ ρ', g d ρ = some ρ' → ∀ k : Nat, k ∉ ts → ρ'[k]? = ρ[k]?
  ins : ∀ d ρ ρ', g d ρ = some ρ' → ∀ k : Nat, k ∈ ts → ∀ xs : List D, ρ'[k]? = some (.own xs) → False
structure GsOk (g : List D → Rho → Option Rho) (ts : List Nat) : Prop where
  out : ∀ d ρ ρ', g d ρ = some ρ' → ∀ k : Nat, k ∉ ts → ρ'[k]? = ρ[k]?
  ins : ∀ d ρ ρ', g d ρ = some ρ' → ∀ k : Nat, k ∈ ts → ∀ xs : List D, ρ'[k]? = some (.own xs) → False
  keep : ∀ d ρ ρ', g d ρ = some ρ' → ∀ k : Nat, (∀ xs : List D, ρ[k]? = some (.own xs) → False) → ∀ xs : List D, ρ'[k]? = some (.own xs) → False
theorem gok_name {i : Nat} : GOk (gN i) [i] where
  out := fun d ρ ρ' e k hk => by
    cases e
    rw [List.getElem?_set_ne (fun z => hk (by simp [z]))]
  ins := fun d ρ ρ' e k hk xs z => by
    cases e
    have hk : k = i := by simpa using hk
    subst hk
    have hi : k < ρ.length := by simpa using (List.getElem?_eq_some_iff.mp z).1
    rw [List.getElem?_set_self hi] at z
    cases z
theorem gsok_nil : GsOk gsN [] where
  out := fun d ρ ρ' e k _ => by
    unfold gsN at e
    split at e
    · cases e; rfl
    · cases e
  ins := fun _ _ _ _ _ hk => nomatch hk
  keep := fun d ρ ρ' e k n xs z => by
    unfold gsN at e
    split at e
    · cases e; exact n xs z
    · cases e
theorem gsok_cons {g : D → Rho → Option Rho} {gs : List D → Rho → Option Rho} {ts us : List Nat} (h1 : GOk g ts) (h2 : GsOk gs us) : GsOk (gsC g gs) (ts ++ us) := by
  have key : ∀ ds ρ ρ', gsC g gs ds ρ = some ρ' → ∃ d r ρ1, ds = d :: r ∧ g d ρ = some ρ1 ∧ gs r ρ1 = some ρ' := fun ds ρ ρ' e => by
    unfold gsC at e
    split at e
    · obtain ⟨ρ1, e1, e2⟩ := opt_bind e
      exact ⟨_, _, ρ1, rfl, e1, e2⟩
    · cases e
  refine ⟨fun ds ρ ρ' e k hk => ?_, fun ds ρ ρ' e k hk xs z => ?_, fun ds ρ ρ' e k n xs z => ?_⟩
  · obtain ⟨d, r, ρ1, _, e1, e2⟩ := key ds ρ ρ' e
    rw [h2.out _ _ _ e2 k (fun z => hk (List.mem_append_right _ z)), h1.out _ _ _ e1 k (fun z => hk (List.mem_append_left _ z))]
  · obtain ⟨d, r, ρ1, _, e1, e2⟩ := key ds ρ ρ' e
    by_cases hu : k ∈ us
    · exact h2.ins _ _ _ e2 k hu xs z
    · have ht : k ∈ ts := (List.mem_append.mp hk).elim (fun y => y) fun y => absurd y hu
      rw [h2.out _ _ _ e2 k hu] at z
      exact h1.ins _ _ _ e1 k ht xs z
  · obtain ⟨d, r, ρ1, _, e1, e2⟩ := key ds ρ ρ' e
    refine h2.keep _ _ _ e2 k (fun ys y => ?_) xs z
    by_cases ht : k ∈ ts
    · exact h1.ins _ _ _ e1 k ht ys y
    · rw [h1.out _ _ _ e1 k ht] at y
      exact n ys y
theorem gok_tup {n : Nat} {gs : List D → Rho → Option Rho} {ts : List Nat} (h : GsOk gs ts) : GOk (gT n gs) ts := by
  have key : ∀ d ρ ρ', gT n gs d ρ = some ρ' → ∃ ds, gs ds ρ = some ρ' := fun d ρ ρ' e => by
    unfold gT at e
    split at e
    · split at e
      · exact ⟨_, e⟩
      · cases e
    · split at e
      · exact ⟨_, e⟩
      · cases e
    · cases e
  exact ⟨fun d ρ ρ' e => (key d ρ ρ' e).elim fun ds z => h.out _ _ _ z, fun d ρ ρ' e => (key d ρ ρ' e).elim fun ds z => h.ins _ _ _ z⟩

theorem wipeR_in {ρ : Rho} {k : Nat} : ∀ {vs : List Nat}, k ∈ vs → ∀ xs, (wipeR ρ vs)[k]? = some (.own xs) → False
  | [], h, _, _ => nomatch h
  | v :: vs, h, xs, z => by
    unfold wipeR at z
    by_cases hk : v = k
    · subst hk
      have hi : v < (wipeR ρ vs).length := by simpa using (List.getElem?_eq_some_iff.mp z).1
      rw [List.getElem?_set_self hi] at z
      cases z
    · rw [List.getElem?_set_ne hk] at z
      rcases List.mem_cons.mp h with y | y
      · exact hk y.symm
      · exact wipeR_in y xs z
theorem wipeR_out {ρ : Rho} {k : Nat} : ∀ {vs : List Nat}, k ∉ vs → (wipeR ρ vs)[k]? = ρ[k]?
  | [], _ => rfl
  | v :: vs, h => by
    unfold wipeR
    rw [List.getElem?_set_ne (fun z => h (by simp [z])), wipeR_out (fun z => h (List.mem_cons_of_mem _ z))]
/-- what is seen in a block is seen outside, but through the block's own slots -/
theorem own1_blk {g : D → Rho → Option Rho} {ts vs : List Nat} {ρ ρ1 : Rho} {σ σ2 : L2.St} {d : D} (go : GOk g ts) (hts : ∀ i ∈ ts, i ∈ vs) (e : g d (wipeR ρ vs) = some ρ1) (o : OutS ts (L2.wipe σ vs) σ2) {b : Addr} {i : Nat} (h : own1 ρ1 σ2 b i = true) : i ∉ vs ∧ own1 ρ σ b i = true := by
  obtain ⟨xs, e1, e2⟩ := own1_iff.mp h
  have hv : i ∉ vs := fun hi => by
    by_cases ht : i ∈ ts
    · exact go.ins _ _ _ e i ht xs e1
    · rw [go.out _ _ _ e i ht] at e1
      exact wipeR_in hi xs e1
  have ht : i ∉ ts := fun z => hv (hts i z)
  refine ⟨hv, own1_iff.mpr ⟨xs, ?_, ?_⟩⟩
  · rw [← wipeR_out hv, ← go.out _ _ _ e i ht]; exact e1
  · rw [← wipe_out hv, ← o.2 i ht]; exact e2

abbrev DTs (X : Cx) (ifs : List Expr) (t : Te) : Prop := PTs X ifs (tQ X.K t)
theorem pts_imp {ifs : List Expr} {t t' : TT} (h : PTs X ifs t) (i : ∀ σ H Q, t' σ H Q → t σ H Q) : PTs X ifs t' := ⟨fun pins s σ H Q I q => h.run pins s σ H Q I (i σ H Q q)⟩
def tY : Te := fun _ => some true
theorem dts_nil : DTs X [] tY := pts_imp pts_nil fun σ H Q ⟨ρ, O, W, b, rs, e, q⟩ => by
  cases e
  exact q W H (.refl rs.sub)
theorem dts_one {t : Te} (h : DT X c t) : DTs X [c] t := pts_one h
/-- the reading of a comprehension -/
theorem lc_read {K : PySem.W.Frag} {it : Exs} {g : D → Rho → Option Rho} {ts vs : List Nat} {t : Te} {f : Ex} (go : GOk g ts) (hts : ∀ i ∈ ts, i ∈ vs)
    (σ : L2.St) (H : Hp) (Q : VK) (h : tN K (lcG vs it g t f) (bl.filter fun i => !vs.contains i) σ H Q) : tLc (tI K it al) (tG K g ts) (tQ K t) (tP K f bl) vs σ H Q := by
  obtain ⟨ρ, O, W, ys, rs, e, q⟩ := h
  obtain ⟨ds, e1, e⟩ := opt_bind e
  split at e
  · rename_i hz
    refine ⟨ρ, O, W, ds, rs, e1, fun J W1 H1 s1 its D nD => ?_⟩
    obtain ⟨G, Y, wk, hG, hY⟩ := its
    have wD : W1 D = none := by
      cases z : W1 D with
      | none => rfl
      | some o => rw [s1.sub D o z] at nD; cases nD
    have hD : H D = none := s1.keep.free nD
    have stp : ∀ {W' H' : Hp} {acc acc' : List V}, PStep W1 H1 W' H' → W' D = none → PStep W1 H1 W' (upd H' D (.lst acc)) := fun {W' H' acc acc'} s w =>
      ⟨s.le, fun b o e => by rw [upd_ne (ne_of_none e nD)]; exact s.keep b o e, fun b o e => by rw [upd_ne (fun z => by subst z; rw [w] at e; cases e)]; exact s.sub b o e, s.new⟩
    have ownD : ∀ {W' H' : Hp} {acc : List V} {cl : List Nat}, PStep W1 H1 W' H' → Same (vw ρ σ cl W' H') (vw ρ σ cl W' (upd H' D (.lst acc))) ∨ W' D ≠ none := fun {W' H' acc cl} s => by
      by_cases w : W' D = none
      · refine .inl fun b o e => ?_
        rcases of_vw e with z | ⟨z0, z, i, hi, y⟩
        · exact vw_of b z
        · have nb : b ≠ D := fun hb => by
            subst hb
            obtain ⟨xs, f1, f2⟩ := own1_iff.mp y
            obtain ⟨a', us, g1, g2, g3, _⟩ := rs.owns i xs f1
            rw [f2] at g1
            cases g1
            rw [hD] at g3
            cases g3
          unfold vw
          rw [z0]
          refine (if_pos (List.any_eq_true.mpr ⟨i, hi, y⟩)).trans ?_
          rw [upd_ne nb]
          exact z
      · exact .inr w
    refine lc_it wk (fun i H' => ∃ W' acc ya, PStep W1 H1 W' H' ∧ W' D = none ∧ H' D = some (.lst acc) ∧ RpAll K (vw ρ σ (bl.filter fun i => !vs.contains i) W' H') acc ya ∧ acc.length ≤ i ∧ (compS g t f (wipeR ρ vs) (ds.drop i)).map (ya ++ ·) = some ys)
      ⟨W1, [], [], stp (acc' := []) (.refl s1.sub) wD, wD, upd_same, .nil, Nat.le_refl _, ?_⟩ (fun i H' _ ⟨W', acc, ya, k1, k2, k3, k4, k5, k6⟩ => hG H' ((vw_sub s1.sub).trans k1.keep)) (fun i x H' H'' hi ⟨W', acc, ya, k1, k2, k3, k4, k5, k6⟩ y => ?_) (fun H' ⟨W', acc, ya, k1, k2, k3, k4, k5, k6⟩ => ?_)
    · rw [List.drop_zero]
      show (compS g t f (wipeR ρ vs) ds).map ([] ++ ·) = some ys
      rw [e]
      rfl
    · obtain ⟨d, hd, hW⟩ := hY i H' x H'' hi y
      obtain ⟨W2, st, rp⟩ := hW W' k1.le k1.sub
      rw [List.drop_eq_getElem_cons hi] at k6
      have hdd : ds[i] = d := by
        rw [List.getElem?_eq_getElem hi] at hd
        exact Option.some.inj hd
      rw [hdd] at k6
      obtain ⟨zs, b0, b1⟩ := Option.map_eq_some_iff.mp k6
      obtain ⟨ρ1, b2, b3⟩ := opt_bind b0
      obtain ⟨b, b4, b5⟩ := opt_bind b3
      have k1' := k1.trans st
      have none_of : ∀ {W3 H3 : Hp}, PStep W' H' W3 H3 → W3 D = none ∧ H3 D = some (.lst acc) := fun {W3 H3} s => by
        refine ⟨?_, s.keep _ _ k3⟩
        cases z : W3 D with
        | none => rfl
        | some o =>
          rcases s.new D o z with u | u
          · rw [k2] at u; cases u
          · rw [k3] at u; cases u
      refine ⟨wipeR ρ vs, O, W2, d, ρ1, ((rs.pstep s1).pstep k1').wipe vs, rp, b2, fun σ2 r2 o2 => ⟨wipe_eq o2 hts, ρ1, O, W2, b, r2, b4, fun W3 H3 s3 => ?_⟩⟩
      cases b with
      | false =>
        refine iteF ?_
        have s' := st.trans s3
        obtain ⟨n1, n2⟩ := none_of s'
        exact ⟨W3, acc, ya, k1.trans s', n1, n2, rpAll_mono (vw_step s') k4, by omega, Option.map_eq_some_iff.mpr ⟨zs, b5, b1⟩⟩
      | true =>
        obtain ⟨y', b6, b7⟩ := opt_bind (show ((f ρ1).bind fun y => (compS g t f (wipeR ρ vs) (ds.drop (i + 1))).map (y :: ·)) = some zs from b5)
        refine iteT ⟨ρ1, O, W3, y', r2.pstep s3, b6, fun v W4 H4 s4 p4 => ?_⟩
        obtain ⟨us, c1, rfl⟩ := Option.map_eq_some_iff.mp b7
        have s' := st.trans (s3.trans s4)
        obtain ⟨n1, n2⟩ := none_of s'
        refine ⟨acc, n2, by rw [line_eq]; omega, W4, acc ++ [v], ya ++ [y'], stp (acc' := []) (k1.trans s') n1, n1, upd_same, ?_, by simp; omega, Option.map_eq_some_iff.mpr ⟨us, c1, ?_⟩⟩
        · have up : Same (vw ρ σ (bl.filter fun i => !vs.contains i) W4 H4) (vw ρ σ (bl.filter fun i => !vs.contains i) W4 (upd H4 D (.lst (acc ++ [v])))) := (ownD (k1.trans s')).elim id fun z => absurd n1 z
          refine RpAll.append (rpAll_mono up (rpAll_mono (vw_step s') k4)) (.one (rp_mono up (rp_mono ?_ p4)))
          intro b o hb
          rcases of_vw hb with z | ⟨z0, z, j, hj, u⟩
          · exact vw_of b z
          · obtain ⟨j1, j2⟩ := own1_blk go hts b2 o2 u
            exact vw_own (i := j) (List.mem_filter.mpr ⟨hj, by simpa using j1⟩) j2 z s4.sub
        · rw [← b1]
          simp
    · rw [List.drop_length] at k6
      obtain ⟨zs, b0, b1⟩ := Option.map_eq_some_iff.mp k6
      cases b0
      rw [List.append_nil] at b1
      subst b1
      exact q D acc W' H' (s1.trans k1) hD k2 k3 k4
  · cases e
/-- [elt for target in iter if ..] -/
theorem dn_lc {elt tg iter : Expr} {ifs : List Expr} {scope : Scope} {own : List (Str × Nat)} {it : Exs} {g : D → Rho → Option Rho} {ts : List Nat} {t : Te} {f : Ex} (hc : X.calm = true) (hN : X.N.Nodup) (hi : DI X tg iter it al) (ok : BlkOk X.N X.env.scope scope own)
    (hg : ∀ (s : Shared) (H : Hp) (C : Addr) (cl : List (Str × Addr)) (fp : List Addr), DG (X.blk s H scope (compEnvC scope cl C X.env) fp) tg g ts) (ht : ∀ (s : Shared) (H : Hp) (C : Addr) (cl : List (Str × Addr)) (fp : List Addr), DTs (X.blk s H scope (compEnvC scope cl C X.env) fp) ifs t)
    (he : ∀ (s : Shared) (H : Hp) (C : Addr) (cl : List (Str × Addr)) (fp : List Addr), DP (X.blk s H scope (compEnvC scope cl C X.env) fp) elt f bl) (go : GOk g ts) (hts : ∀ i ∈ ts, i ∈ own.map (·.2)) (hs : ∀ x, foldedSetIterable iter X.env x = pure x := by intro _; rfl) :
    DN X (.ListComp elt [⟨tg, iter, ifs, 0⟩] scope pos) (lcG (own.map (·.2)) it g t f) (bl.filter fun i => !(own.map (·.2)).contains i) := pe_imp (pe_lc hc hN hi ok hg ht he hs) fun σ H Q h => lc_read go hts σ H Q h
/-- y = [..] -/
theorem ds_lc {i : Nat} {y : Str} {py spos : Pos} {elt tg iter : Expr} {ifs : List Expr} {scope : Scope} {own : List (Str × Nat)} {it : Exs} {g : D → Rho → Option Rho} {ts : List Nat} {t : Te} {f : Ex} (hc : X.calm = true) (hN : X.N.Nodup) (hy : X.N[i]? = some y) (hyl : X.env.scope.names.lookup y = some .local)
    (hsw : swapsWith (.ListComp elt [⟨tg, iter, ifs, 0⟩] scope pos) (some (.Name y py)) spos.line X.env = pure true) (hi : DI X tg iter it al) (ok : BlkOk X.N X.env.scope scope own)
    (hg : ∀ (s : Shared) (H : Hp) (C : Addr) (cl : List (Str × Addr)) (fp : List Addr), DG (X.blk s H scope (compEnvC scope cl C X.env) fp) tg g ts) (ht : ∀ (s : Shared) (H : Hp) (C : Addr) (cl : List (Str × Addr)) (fp : List Addr), DTs (X.blk s H scope (compEnvC scope cl C X.env) fp) ifs t)
    (he : ∀ (s : Shared) (H : Hp) (C : Addr) (cl : List (Str × Addr)) (fp : List Addr), DP (X.blk s H scope (compEnvC scope cl C X.env) fp) elt f bl) (go : GOk g ts) (hts : ∀ i ∈ ts, i ∈ own.map (·.2)) (hs : ∀ x, foldedSetIterable iter X.env x = pure x := by intro _; rfl) :
    DS X (.Assign [.Name y py] (.ListComp elt [⟨tg, iter, ifs, 0⟩] scope pos) spos) (sOwn i (bl.filter fun i => !(own.map (·.2)).contains i) (lcG (own.map (·.2)) it g t f)) := ps_imp (ps_setLc hc hN hy hyl hsw hi ok hg ht he hs) fun E σ H ⟨ρ, O, W, out, rs, e, q⟩ => by
  obtain ⟨xs, e1, e⟩ := opt_bind e
  split at e
  · rename_i hz
    cases e
    exact lc_read go hts σ H _ ⟨ρ, O, W, xs, rs, e1, own_end rs hz q⟩
  · cases e

/-- .. as plain data -/
theorem ds_lcv {i : Nat} {y : Str} {py spos : Pos} {elt tg iter : Expr} {ifs : List Expr} {scope : Scope} {own : List (Str × Nat)} {it : Exs} {g : D → Rho → Option Rho} {ts : List Nat} {t : Te} {f : Ex} (hc : X.calm = true) (hN : X.N.Nodup) (hy : X.N[i]? = some y) (hyl : X.env.scope.names.lookup y = some .local)
    (hsw : swapsWith (.ListComp elt [⟨tg, iter, ifs, 0⟩] scope pos) (some (.Name y py)) spos.line X.env = pure true) (hi : DI X tg iter it al) (ok : BlkOk X.N X.env.scope scope own)
    (hg : ∀ (s : Shared) (H : Hp) (C : Addr) (cl : List (Str × Addr)) (fp : List Addr), DG (X.blk s H scope (compEnvC scope cl C X.env) fp) tg g ts) (ht : ∀ (s : Shared) (H : Hp) (C : Addr) (cl : List (Str × Addr)) (fp : List Addr), DTs (X.blk s H scope (compEnvC scope cl C X.env) fp) ifs t)
    (he : ∀ (s : Shared) (H : Hp) (C : Addr) (cl : List (Str × Addr)) (fp : List Addr), DP (X.blk s H scope (compEnvC scope cl C X.env) fp) elt f bl) (go : GOk g ts) (hts : ∀ i ∈ ts, i ∈ own.map (·.2)) (hs : ∀ x, foldedSetIterable iter X.env x = pure x := by intro _; rfl) :
    DS X (.Assign [.Name y py] (.ListComp elt [⟨tg, iter, ifs, 0⟩] scope pos) spos) (sG (xP (bl.filter fun i => !(own.map (·.2)).contains i) (eL (lcG (own.map (·.2)) it g t f))) (gN i)) := ps_imp (ps_setLc hc hN hy hyl hsw hi ok hg ht he hs) fun E σ H ⟨ρ, O, W, out, rs, e, q⟩ => by
  obtain ⟨⟨d, ρ1⟩, e1, e⟩ := opt_bind e
  cases e
  exact lc_read go hts σ H _ (tP_tN σ H _ (tX_tP σ H _ ⟨ρ, O, W, d, ρ1, rs, e1, fun v O1 W1 H1 s1 r1 p1 => q _ O1 W1 H1 s1 (r1.set p1)⟩))
/-- a name of the module that holds plain data -/
theorem dp_glob {x : Str} {v : V} {u : Value} {d : D} {pos : Pos} (hg : Gl X x) (hm : X.mg x = some u) (r : RelV v u) (hr : ∀ H, Rp X.K H v d) (hd : (x == ("__debug__" : Str)) = false := by decide) : DP X (.Name x pos) (eC d) [] := dp_const (pe_glob hg hm r hd) hr
theorem hu64 {A : Around} {k : Nat} (hr : Room k A) : A.units + 64 < cLine := hr.units
theorem hu65 {A : Around} {k : Nat} (hr : Room k A) : A.units + 65 < cLine := by have := hr.un; omega

/-! ### the body of a def -/
def start' (n : Nat) (ds : List D) : Rho := ds.map .val ++ List.replicate (n - ds.length) .no
def runB (n : Nat) (B : Sx) (ds : List D) : Option D := (B (start' n ds)).bind fun o => match o with
  | .ret d => some d
  | .nx _ => some .non
  | _ => none
theorem vals_get {K : PySem.W.Frag} {W : Hp} : ∀ {vs : List V} {ds : List D} {m : Nat} {i : Nat} {d : D}, RpAll K W vs ds → (ds.map Sl.val ++ List.replicate m Sl.no)[i]? = some (.val d) → ∃ v, (vs.map some ++ List.replicate m none)[i]? = some (some v) ∧ Rp K W v d := by
  intro vs ds m i d ra e
  by_cases hi : i < ds.length
  · rw [List.getElem?_append_left (by simpa using hi), List.getElem?_map, List.getElem?_eq_getElem hi] at e
    have e' : ds[i] = d := by
      have := Option.some.inj e
      injection this
    obtain ⟨v, h1, h2⟩ := ra.get (i := i) (d := d) (by rw [List.getElem?_eq_getElem hi, e'])
    refine ⟨v, ?_, h2⟩
    rw [List.getElem?_append_left (by rw [List.length_map, ra.length]; exact hi), List.getElem?_map, h1]
    rfl
  · rw [List.getElem?_append_right (by simpa using hi)] at e
    have := List.mem_of_getElem? e
    rw [List.mem_replicate] at this
    cases this.2
theorem no_own {ds : List D} {m i : Nat} {xs : List D} (e : (ds.map Sl.val ++ List.replicate m Sl.no)[i]? = some (.own xs)) : False := by
  have := List.mem_of_getElem? e
  rcases List.mem_append.mp this with z | z
  · obtain ⟨_, _, y⟩ := List.mem_map.mp z
    cases y
  · rw [List.mem_replicate] at z
    cases z.2
theorem rs_start {K : PySem.W.Frag} {W H : Hp} {vs : List V} {ds : List D} {N : List Str} (s : Same W H) (ra : RpAll K W vs ds) : RS K (start' N.length ds) (L2.start N vs) (fun _ => false) W H where
  len := by
    unfold L2.start start'
    rw [List.length_append, List.length_append, List.length_map, List.length_map, List.length_replicate, List.length_replicate, ra.length]
  sub := s
  hid := fun _ e => nomatch e
  vals := fun i d e => by
    unfold start' at e
    unfold L2.start
    rw [ra.length]
    exact vals_get ra e
  owns := fun i xs e => (no_own e).elim
  apart := fun i j xs ys a e _ _ _ => (no_own e).elim
theorem fn_mk {P : Program} {w : World} {K : PySem.W.Frag} {mg : Str → Option Value} {base : Heap} {k : Nat} {x qual : Str} {st : Stmt} {fa : Addr} {fd : FuncData} {N ps : List Str} {B : Sx} (F : Fun K x qual st fa fd) (S : FnScope N ps (defScope st))
    (body : ∀ (cdv : Value) (A : Around) (outer : List PySem.Env) (s : Shared) (H : Hp) (E : XK), Room k (A.deeper (PyProof.Rows.envOfC qual (defScope st) s.heap.objs.size fa cdv)) → DSs (cxOf CX0 P w K mg base N qual (defScope st) fa cdv A outer s H E).nox (defBody st) B) : FnOk P w K mg base CX0 (k + 1) fa fd ps (spD K (runB N.length B) ps.length) := by
  refine F.ok S (fun vs H Q E h => ?_) (fun cdv A outer s H vs Q E hr h => ?_)
  · obtain ⟨W, ds, d, h1, _, h2, _⟩ := h
    rw [h2.length, h1]
  · obtain ⟨W, ds, d, h1, h2, h3, h4, h5⟩ := h
    refine ⟨_, body cdv A outer s H E hr, ?_⟩
    obtain ⟨o, e1, e2⟩ := opt_bind h4
    have fin : ∀ {O' : Addr → Bool} {W' H' : Hp}, SStep (fun _ => false) W H O' W' H' → Same W' H' → PStep W H W' H' := fun s sb => ⟨s.le, fun b o e => s.keep b o e rfl, sb, fun b o e => (s.new b o e).elim .inl fun z => z.elim .inr fun y => nomatch y⟩
    refine ⟨start' N.length ds, fun _ => false, W, o, rs_start h2 h3, e1, ?_⟩
    cases o with
    | ret d' => cases e2; exact fun v O' W' H' s sb r => h5 v W' H' (fin s sb) r
    | nx ρ => cases e2; exact fun σ' O' W' H' s r => h5 .non W' H' (fin s r.sub) .non
    | brk ρ => cases e2
    | ct ρ => cases e2
theorem fok_mk {P : Program} {w : World} {K : PySem.W.Frag} {mg : Str → Option Value} {base : Heap} {k : Nat} {x qual : Str} {st : Stmt} {fa : Addr} {fd : FuncData} {N ps : List Str} {B : Sx} (F : Fun K x qual st fa fd) (hm : mg x = some (.ref fa)) (S : FnScope N ps (defScope st)) (hb : Binds K fd ps [])
    (body : ∀ (cdv : Value) (A : Around) (outer : List PySem.Env) (s : Shared) (H : Hp) (E : XK), Room k (A.deeper (PyProof.Rows.envOfC qual (defScope st) s.heap.objs.size fa cdv)) → DSs (cxOf CX0 P w K mg base N qual (defScope st) fa cdv A outer s H E).nox (defBody st) B) : FOk P w K mg base (k + 1) x ps (runB N.length B) :=
  ⟨fa, fd, hm, F.kp, hb, fn_mk F S body⟩
/-- at level 0 nothing is promised -/
theorem fok_zero {P : Program} {w : World} {K : PySem.W.Frag} {mg : Str → Option Value} {base : Heap} {x qual : Str} {st : Stmt} {fa : Addr} {fd : FuncData} {ps : List Str} {φ : List D → Option D} (F : Fun K x qual st fa fd) (hm : mg x = some (.ref fa)) (hb : Binds K fd ps []) (h0 : ∀ ds, φ ds = none) : FOk P w K mg base 0 x ps φ := by
  refine ⟨fa, fd, hm, F.kp, hb, ⟨fun vs H Q E h => ?_, fun A outer s H args us vs Q E hr e0 hbt rv h => ?_⟩⟩
  · obtain ⟨W, ds, d, h1, _, h2, h3, _⟩ := h
    rw [h0] at h3
    cases h3
  · obtain ⟨W, ds, d, h1, _, h2, h3, _⟩ := h
    rw [h0] at h3
    cases h3
end
/-- the law's own promise gives its end -/
theorem law_end {K : PySem.W.Frag} {φ : List D → Option D} {n : Nat} (h : ∀ ns : List Int, ns.length ≤ n → φ [.scr ns] = some (.bl true)) (H : Hp) (a : Addr) (ns : List Int) (hl : ns.length ≤ n) (ho : Only H) (hS : SqL K H a (ns.map V.int)) :
    spD K φ 1 [.ref a] H (fun v _ => v = .bl true) fun _ _ _ => False :=
  ⟨H, [.scr ns], .bl true, rfl, fun _ _ e => e, .one (.scr (.of ho hS)), h ns hl, fun v W' H' _ r => by cases r; rfl⟩
end DL

/-! The data layer, W: what a meaning comes to, read backwards. -/
namespace DL
open PySem L2
inductive All2 {α β : Type} (R : α → β → Prop) : List α → List β → Prop
  | nil : All2 R [] []
  | cons {a : α} {b : β} {as : List α} {bs : List β} : R a b → All2 R as bs → All2 R (a :: as) (b :: bs)
theorem All2.length {α β : Type} {R : α → β → Prop} : ∀ {as : List α} {bs : List β}, All2 R as bs → bs.length = as.length
  | _, _, .nil => rfl
  | _, _, .cons _ t => by rw [List.length_cons, List.length_cons, All2.length t]
theorem All2.mem {α β : Type} {R : α → β → Prop} : ∀ {as : List α} {bs : List β}, All2 R as bs → ∀ b ∈ bs, ∃ a ∈ as, R a b
  | _, _, .nil, _, h => nomatch h
  | _, _, .cons r t, b, h => by
    rcases List.mem_cons.mp h with rfl | h
    · exact ⟨_, List.mem_cons_self, r⟩
    · obtain ⟨a, ha, q⟩ := All2.mem t b h
      exact ⟨a, List.mem_cons_of_mem _ ha, q⟩
def Wp {α : Type} (m : Option α) (Q : α → Prop) : Prop := ∃ a, m = some a ∧ Q a
section
variable {α β : Type} {ρ ρ' : Rho} {f g h : Ex} {fs : Exs} {t u : Te} {F G : Sx}
theorem Wp.mono {m : Option α} {Q Q' : α → Prop} (h : Wp m Q) (i : ∀ a, Q a → Q' a) : Wp m Q' := let ⟨a, e, q⟩ := h; ⟨a, e, i a q⟩
theorem w_some {a : α} {Q : α → Prop} (q : Q a) : Wp (some a) Q := ⟨a, rfl, q⟩
theorem w_of {m : Option α} {a : α} {Q : α → Prop} (e : m = some a) (q : Q a) : Wp m Q := ⟨a, e, q⟩
theorem w_bind {m : Option α} {k : α → Option β} {Q : β → Prop} (h : Wp m fun a => Wp (k a) Q) : Wp (m.bind k) Q := by
  obtain ⟨a, rfl, b, e, q⟩ := h
  exact ⟨b, e, q⟩
theorem w_map {m : Option α} {k : α → β} {Q : β → Prop} (h : Wp m fun a => Q (k a)) : Wp (m.map k) Q := by
  obtain ⟨a, rfl, q⟩ := h
  exact ⟨k a, rfl, q⟩
theorem Wp.get {m : Option α} {Q : α → Prop} (h : Wp m Q) : ∃ a, m = some a ∧ Q a := h
/-! ### expressions -/
theorem w_c {d : D} {Q : D → Prop} (q : Q d) : Wp (eC d ρ) Q := ⟨d, rfl, q⟩
theorem w_v {i : Nat} {d : D} {Q : D → Prop} (e : ρ[i]? = some (.val d)) (q : Q d) : Wp (eV i ρ) Q := ⟨d, by unfold eV; rw [e], q⟩
theorem w_vo {i : Nat} {xs : List D} {Q : D → Prop} (e : ρ[i]? = some (.own xs)) (q : Q (.lst xs)) : Wp (eV i ρ) Q := ⟨.lst xs, by unfold eV; rw [e], q⟩
theorem w_e1 {k : D → Option D} {Q : D → Prop} (q : Wp (f ρ) fun x => Wp (k x) Q) : Wp (e1 k f ρ) Q := w_bind q
theorem w_e2 {k : D → D → Option D} {Q : D → Prop} (q : Wp (f ρ) fun x => Wp (g ρ) fun y => Wp (k x y) Q) : Wp (e2 k f g ρ) Q := w_bind (q.mono fun _ z => w_bind z)
theorem w_esN {Q : List D → Prop} (q : Q []) : Wp (esN ρ) Q := ⟨[], rfl, q⟩
theorem w_esC {Q : List D → Prop} (q : Wp (f ρ) fun x => Wp (fs ρ) fun xs => Q (x :: xs)) : Wp (esC f fs ρ) Q := w_bind (q.mono fun _ z => w_bind (z.mono fun _ y => w_some y))
theorem w_eA {k : List D → Option D} {Q : D → Prop} (q : Wp (fs ρ) fun x => Wp (k x) Q) : Wp (eA k fs ρ) Q := w_bind q
theorem w_nL {k : List D → Option (List D)} {Q : List D → Prop} (q : Wp (fs ρ) fun x => Wp (k x) Q) : Wp (nL k fs ρ) Q := w_bind q
theorem w_eL {Q : D → Prop} (q : Wp (fs ρ) fun x => Q (.lst x)) : Wp (eL fs ρ) Q := w_map q
theorem w_lsG {Q : List D → Prop} (q : Wp (fs ρ) fun x => x.length ≤ 16777216 ∧ Q x) : Wp (lsG fs ρ) Q := w_bind (q.mono fun x z => ⟨x, if_pos z.1, z.2⟩)
theorem w_tup {ds : List D} {Q : D → Prop} (h : ds.length ≤ 16777216) (q : Q (.tup ds)) : Wp (dTup ds) Q := ⟨_, if_pos h, q⟩
theorem w_fnL {n : Nat} {φ : List D → Option D} {ds : List D} {Q : D → Prop} (h : ds.length = n) (q : Wp (φ ds) Q) : Wp (fnL n φ ds) Q := by
  unfold fnL; rw [if_pos h]; exact q
/-! ### tests -/
theorem w_tE {Q : Bool → Prop} (q : Wp (f ρ) fun d => Wp (dB d) Q) : Wp (tE f ρ) Q := w_bind q
theorem w_dB {b : Bool} {Q : Bool → Prop} (q : Q b) : Wp (dB (.bl b)) Q := ⟨b, rfl, q⟩
theorem w_tNo {Q : Bool → Prop} (q : Wp (t ρ) fun b => Q (!b)) : Wp (tNo t ρ) Q := w_map q
theorem w_tAn {Q : Bool → Prop} (q : Wp (t ρ) fun b => (b = true → Wp (u ρ) Q) ∧ (b = false → Q false)) : Wp (tAn t u ρ) Q := by
  obtain ⟨b, e, q⟩ := q
  unfold tAn; rw [e]
  cases b with
  | true => exact q.1 rfl
  | false => exact ⟨false, rfl, q.2 rfl⟩
theorem w_tAnP {Q : Bool → Prop} (q : Wp (t ρ) fun b => Wp (u ρ) fun c => Q (b && c)) : Wp (tAn t u ρ) Q := by
  obtain ⟨b, e, c, e2, q⟩ := q
  unfold tAn; rw [e]
  cases b with
  | true => exact ⟨c, e2, q⟩
  | false => exact ⟨false, rfl, q⟩
theorem w_tOr {Q : Bool → Prop} (q : Wp (t ρ) fun b => (b = true → Q true) ∧ (b = false → Wp (u ρ) Q)) : Wp (tOr' t u ρ) Q := by
  obtain ⟨b, e, q⟩ := q
  unfold tOr'; rw [e]
  cases b with
  | true => exact ⟨true, rfl, q.1 rfl⟩
  | false => exact q.2 rfl
theorem w_tY {Q : Bool → Prop} (q : Q true) : Wp (tY ρ) Q := ⟨true, rfl, q⟩
theorem w_eAn {Q : D → Prop} (q : Wp (f ρ) fun d => ∃ b, d = .bl b ∧ (b = true → Wp (g ρ) Q) ∧ (b = false → Q (.bl false))) : Wp (eAn f g ρ) Q := by
  obtain ⟨d, e, b, rfl, q⟩ := q
  unfold eAn; rw [e]
  cases b with
  | true => exact q.1 rfl
  | false => exact ⟨_, rfl, q.2 rfl⟩
theorem w_eOr {Q : D → Prop} (q : Wp (f ρ) fun d => ∃ b, d = .bl b ∧ (b = true → Q (.bl true)) ∧ (b = false → Wp (g ρ) Q)) : Wp (eOr f g ρ) Q := by
  obtain ⟨d, e, b, rfl, q⟩ := q
  unfold eOr; rw [e]
  cases b with
  | true => exact ⟨_, rfl, q.1 rfl⟩
  | false => exact q.2 rfl
theorem w_eIf {Q : D → Prop} (q : Wp (t ρ) fun b => (b = true → Wp (f ρ) Q) ∧ (b = false → Wp (g ρ) Q)) : Wp (eIf t f g ρ) Q := by
  obtain ⟨b, e, q⟩ := q
  unfold eIf; rw [e]
  cases b with
  | true => exact q.1 rfl
  | false => exact q.2 rfl
/-! ### operations -/
theorem w_addI {i j : Int} {Q : D → Prop} (q : Q (.int (i + j))) : Wp (dAdd (.int i) (.int j)) Q := ⟨_, rfl, q⟩
theorem w_addS {x y : Str} {Q : D → Prop} (h : x.length + y.length ≤ 16777216) (q : Q (.str (x ++ y))) : Wp (dAdd (.str x) (.str y)) Q := ⟨_, if_pos h, q⟩
theorem w_addC {x : Str} {c : Nat} {Q : D → Prop} (h : x.length + 1 ≤ 16777216) (q : Q (.str (x ++ ⟨#[c]⟩))) : Wp (dAdd (.str x) (.str ⟨#[c]⟩)) Q := w_addS h q
theorem w_addT {x y : List D} {Q : D → Prop} (h : x.isEmpty = false ∧ x.length + y.length ≤ 16777216) (q : Q (.tup (x ++ y))) : Wp (dAdd (.tup x) (.tup y)) Q := ⟨_, if_pos h, q⟩
theorem w_addL {x y : List D} {Q : D → Prop} (h : x.length + y.length ≤ 16777216) (q : Q (.lst (x ++ y))) : Wp (dAdd (.lst x) (.lst y)) Q := ⟨_, if_pos h, q⟩
theorem w_sub {i j : Int} {Q : D → Prop} (q : Q (.int (i - j))) : Wp (dSub (.int i) (.int j)) Q := ⟨_, rfl, q⟩
theorem w_mulI {i j : Int} {Q : D → Prop} (h : mulOk i j = true) (q : Q (.int (i * j))) : Wp (dMul (.int i) (.int j)) Q := ⟨_, if_pos h, q⟩
theorem w_mulS {x : Str} {n : Int} {Q : D → Prop} (h : x.length ≤ 1000 ∧ -1000 ≤ n ∧ n ≤ 1000) (q : Q (.str (Txt.mul x n))) : Wp (dMul (.str x) (.int n)) Q := ⟨_, if_pos h, q⟩
theorem w_div {i j : Int} {Q : D → Prop} (h : 0 < j ∧ j < 2 ^ 200) (q : Q (.int (i / j))) : Wp (dDiv (.int i) (.int j)) Q := ⟨_, if_pos h, q⟩
theorem w_mod {i j : Int} {Q : D → Prop} (h : 0 < j) (q : Q (.int (i % j))) : Wp (dMod (.int i) (.int j)) Q := ⟨_, if_pos h, q⟩
theorem w_pow {i j : Int} {Q : D → Prop} (h : 0 ≤ j ∧ j ≤ 1000 ∧ -(2 ^ 60) < i ∧ i < 2 ^ 60) (q : Q (.int (i ^ j.toNat))) : Wp (dPow (.int i) (.int j)) Q := ⟨_, if_pos h, q⟩
theorem w_neg {i : Int} {Q : D → Prop} (q : Q (.int (-i))) : Wp (dNeg (.int i)) Q := ⟨_, rfl, q⟩
theorem w_not {b : Bool} {Q : D → Prop} (q : Q (.bl (!b))) : Wp (dNot (.bl b)) Q := ⟨_, rfl, q⟩
theorem w_cmp {p : Int → Int → Bool} {i j : Int} {Q : D → Prop} (q : Q (.bl (p i j))) : Wp (dCmp p (.int i) (.int j)) Q := ⟨_, rfl, q⟩
theorem w_eqI {i j : Int} {Q : D → Prop} (q : Q (.bl (i == j))) : Wp (dEq (.int i) (.int j)) Q := ⟨_, rfl, q⟩
theorem w_eqS {i j : Str} {Q : D → Prop} (q : Q (.bl (i == j))) : Wp (dEq (.str i) (.str j)) Q := ⟨_, rfl, q⟩
theorem w_eqB {i j : Bool} {Q : D → Prop} (q : Q (.bl (i == j))) : Wp (dEq (.bl i) (.bl j)) Q := ⟨_, rfl, q⟩
theorem w_neI {i j : Int} {Q : D → Prop} (q : Q (.bl (!(i == j)))) : Wp (dNe (.int i) (.int j)) Q := ⟨_, rfl, q⟩
theorem w_neS {i j : Str} {Q : D → Prop} (q : Q (.bl (!(i == j)))) : Wp (dNe (.str i) (.str j)) Q := ⟨_, rfl, q⟩
theorem w_eq {x y : D} {b : Bool} {Q : D → Prop} (e : dEqB x y = some b) (q : Q (.bl b)) : Wp (dEq x y) Q := ⟨.bl b, by unfold dEq; rw [e]; rfl, q⟩
theorem w_ne {x y : D} {b : Bool} {Q : D → Prop} (e : dEqB x y = some b) (q : Q (.bl (!b))) : Wp (dNe x y) Q := ⟨.bl (!b), by unfold dNe; rw [e]; rfl, q⟩
theorem w_neE {xs : List D} {Q : D → Prop} (q : Q (.bl (!xs.isEmpty))) : Wp (dNe (.lst xs) (.lst [])) Q := w_ne rfl q
theorem w_eqE {xs : List D} {Q : D → Prop} (q : Q (.bl xs.isEmpty)) : Wp (dEq (.lst xs) (.lst [])) Q := w_eq rfl q
theorem w_in {x y : D} {b : Bool} {Q : D → Prop} (e : dInO x y = some b) (q : Q (.bl b)) : Wp (dIn x y) Q := ⟨.bl b, by unfold dIn; rw [e]; rfl, q⟩
theorem w_notIn {x y : D} {b : Bool} {Q : D → Prop} (e : dInO x y = some b) (q : Q (.bl (!b))) : Wp (dNotIn x y) Q := ⟨.bl (!b), by unfold dNotIn; rw [e]; rfl, q⟩
theorem in_flat {x : D} {ys : List D} (h : (pl x && pls ys && decide (min (dpts ys) (dpt x) ≤ 60)) = true) : dInB x ys = some (ys.any fun y => deq y x) := if_pos h
theorem w_ixL {xs : List D} {i : Int} {d : D} {Q : D → Prop} (e : atI xs i = some d) (q : Q d) : Wp (dIx (.lst xs) (.int i)) Q := ⟨d, e, q⟩
theorem w_ixT {xs : List D} {i : Int} {d : D} {Q : D → Prop} (e : atI xs i = some d) (q : Q d) : Wp (dIx (.tup xs) (.int i)) Q := ⟨d, e, q⟩
theorem w_ixR {xs : List Int} {i : Int} {d : Int} {Q : D → Prop} (e : atI xs i = some d) (q : Q (.int d)) : Wp (dIx (.scr xs) (.int i)) Q := ⟨.int d, by show (atI xs i).map D.int = _; rw [e]; rfl, q⟩
theorem w_ixS {z : Str} {i : Int} {c : Nat} {Q : D → Prop} (h : z.length ≤ 16777216) (e : atI z.cps.toList i = some c) (q : Q (.str ⟨#[c]⟩)) : Wp (dIx (.str z) (.int i)) Q := ⟨.str ⟨#[c]⟩, by show (if z.length ≤ 16777216 then _ else none) = _; rw [if_pos h, e]; rfl, q⟩
theorem w_lenL {xs : List D} {Q : D → Prop} (q : Q (.int xs.length)) : Wp (dLen [.lst xs]) Q := ⟨_, rfl, q⟩
theorem w_lenT {xs : List D} {Q : D → Prop} (q : Q (.int xs.length)) : Wp (dLen [.tup xs]) Q := ⟨_, rfl, q⟩
theorem w_lenR {xs : List Int} {Q : D → Prop} (q : Q (.int xs.length)) : Wp (dLen [.scr xs]) Q := ⟨_, rfl, q⟩
theorem w_lenS {z : Str} {Q : D → Prop} (h : z.length ≤ 16777216) (q : Q (.int z.length)) : Wp (dLen [.str z]) Q := ⟨_, if_pos h, q⟩
theorem w_intI {i : Int} {Q : D → Prop} (q : Q (.int i)) : Wp (dInt [.int i]) Q := ⟨_, rfl, q⟩
theorem w_intB {b : Bool} {Q : D → Prop} (q : Q (.int (if b then 1 else 0))) : Wp (dInt [.bl b]) Q := ⟨_, rfl, q⟩
theorem w_intBt {b : Bool} {Q : D → Prop} (h : b = true) (q : Q (.int 1)) : Wp (dInt [.bl b]) Q := by subst h; exact ⟨_, rfl, q⟩
theorem w_intBf {b : Bool} {Q : D → Prop} (h : b = false) (q : Q (.int 0)) : Wp (dInt [.bl b]) Q := by subst h; exact ⟨_, rfl, q⟩
theorem w_strI {i : Int} {Q : D → Prop} (h : -(2 ^ 60) < i ∧ i < 2 ^ 60) (q : Q (.str (toString i))) : Wp (dStr [.int i]) Q := ⟨_, if_pos h, q⟩
theorem w_tupleL {xs : List D} {Q : D → Prop} (q : Q (.tup xs)) : Wp (dTuple [.lst xs]) Q := ⟨_, rfl, q⟩
theorem w_tupleT {xs : List D} {Q : D → Prop} (q : Q (.tup xs)) : Wp (dTuple [.tup xs]) Q := ⟨_, rfl, q⟩
theorem w_listL {xs : List D} {Q : List D → Prop} (q : Q xs) : Wp (dList [.lst xs]) Q := ⟨_, rfl, q⟩
theorem w_listT {xs : List D} {Q : List D → Prop} (q : Q xs) : Wp (dList [.tup xs]) Q := ⟨_, rfl, q⟩
theorem dInts_of : ∀ ns : List Int, dInts (ns.map .int) = some ns
  | [] => rfl
  | n :: r => by show (dInts (r.map .int)).map (n :: ·) = _; rw [dInts_of r]; rfl
theorem dBls_of : ∀ ns : List Bool, dBls (ns.map .bl) = some ns
  | [] => rfl
  | n :: r => by show (dBls (r.map .bl)).map (n :: ·) = _; rw [dBls_of r]; rfl
theorem w_sum {xs : List D} {ns : List Int} {Q : D → Prop} (h : xs = ns.map .int) (q : Q (.int ns.sum)) : Wp (dSum [.lst xs]) Q := ⟨_, by subst h; show (dInts _).map _ = _; rw [dInts_of]; rfl, q⟩
theorem w_all {xs : List D} {ns : List Bool} {Q : D → Prop} (h : xs = ns.map .bl) (q : Q (.bl (ns.all id))) : Wp (dAll [.lst xs]) Q := ⟨_, by subst h; show (dBls _).map _ = _; rw [dBls_of]; rfl, q⟩
theorem w_any {xs : List D} {ns : List Bool} {Q : D → Prop} (h : xs = ns.map .bl) (q : Q (.bl (ns.any id))) : Wp (dAny [.lst xs]) Q := ⟨_, by subst h; show (dBls _).map _ = _; rw [dBls_of]; rfl, q⟩
theorem w_max2 {i j : Int} {Q : D → Prop} (q : Q (.int (if j > i then j else i))) : Wp (dMax2 [.int i, .int j]) Q := ⟨_, rfl, q⟩
theorem w_min2 {i j : Int} {Q : D → Prop} (q : Q (.int (if j < i then j else i))) : Wp (dMin2 [.int i, .int j]) Q := ⟨_, rfl, q⟩
theorem w_max2P {i j : Int} {Q : D → Prop} (q : ∀ r, i ≤ r → j ≤ r → (r = i ∨ r = j) → Q (.int r)) : Wp (dMax2 [.int i, .int j]) Q := w_max2 (q _ (by split <;> omega) (by split <;> omega) (by split <;> simp))
theorem w_min2P {i j : Int} {Q : D → Prop} (q : ∀ r, r ≤ i → r ≤ j → (r = i ∨ r = j) → Q (.int r)) : Wp (dMin2 [.int i, .int j]) Q := w_min2 (q _ (by split <;> omega) (by split <;> omega) (by split <;> simp))
theorem w_isi {ty : Ty} {x d : D} {Q : D → Prop} (e : isi ty x = some d) (q : Q d) : Wp (isi ty x) Q := ⟨d, e, q⟩
theorem w_oN {Q : Option Int → Prop} (q : Q none) : Wp (oN ρ) Q := ⟨none, rfl, q⟩
theorem w_oS {Q : Option Int → Prop} (q : Wp (f ρ) fun d => ∃ i, d = .int i ∧ Q (some i)) : Wp (oS f ρ) Q := by
  obtain ⟨d, e, i, rfl, q⟩ := q
  exact ⟨some i, by unfold oS; rw [e]; rfl, q⟩
theorem w_eSl {lo hi : Eo} {Q : D → Prop} (q : Wp (f ρ) fun x => Wp (lo ρ) fun l => Wp (hi ρ) fun u => Wp (dSl l u x) Q) : Wp (eSl f lo hi ρ) Q := w_bind (q.mono fun _ z => w_bind (z.mono fun _ y => w_bind y))
theorem w_sl1 {x : D} {Q : D → Prop} (q : Q (.tup [])) : Wp (dSl (some 1) none (.tup [x])) Q := ⟨_, rfl, q⟩
theorem w_sl2 {x y : D} {Q : D → Prop} (q : Q (.tup [y])) : Wp (dSl (some 1) none (.tup [x, y])) Q := ⟨_, rfl, q⟩
theorem w_sl3 {x y z : D} {Q : D → Prop} (q : Q (.tup [y, z])) : Wp (dSl (some 1) none (.tup [x, y, z])) Q := ⟨_, rfl, q⟩
theorem w_ixM {α : Type} {xs : List α} {k : α → D} {i : Int} {Q : D → Prop} (h0 : 0 ≤ i) (h1 : i < xs.length) (q : ∀ x ∈ xs, Q (k x)) : Wp (dIx (.lst (xs.map k)) (.int i)) Q := by
  have h2 : i.toNat < xs.length := by omega
  have := atI_nat (List.getElem?_eq_getElem h2)
  rw [Int.toNat_of_nonneg h0] at this
  exact w_ixL (atI_map k this) (q _ (List.getElem_mem h2))
/-! ### statements -/
def seqQ (G : Sx) (Q : Out → Prop) : Out → Prop
  | .nx ρ => Wp (G ρ) Q
  | .ret d => Q (.ret d)
  | .brk ρ => Q (.brk ρ)
  | .ct ρ => Q (.ct ρ)
theorem w_seq {Q : Out → Prop} (q : Wp (F ρ) (seqQ G Q)) : Wp (sSeq F G ρ) Q := by
  obtain ⟨o, e, q⟩ := q
  unfold sSeq; rw [e]
  cases o with
  | nx ρ' => exact q
  | ret d => exact ⟨_, rfl, q⟩
  | brk d => exact ⟨_, rfl, q⟩
  | ct d => exact ⟨_, rfl, q⟩
theorem w_sIf {Q : Out → Prop} (q : Wp (t ρ) fun b => (b = true → Wp (F ρ) Q) ∧ (b = false → Wp (G ρ) Q)) : Wp (sIf t F G ρ) Q := by
  obtain ⟨b, e, q⟩ := q
  unfold sIf; rw [e]
  cases b with
  | true => exact q.1 rfl
  | false => exact q.2 rfl
theorem w_nil {Q : Out → Prop} (q : Q (.nx ρ)) : Wp (sNil ρ) Q := ⟨_, rfl, q⟩
theorem w_ret {Q : Out → Prop} (q : Wp (f ρ) fun d => Q (.ret d)) : Wp (sRet f ρ) Q := w_map q
theorem w_sG {x : Xe} {g : D → Rho → Option Rho} {Q : Out → Prop} (q : Wp (x ρ) fun z => Wp (g z.1 z.2) fun ρ' => Q (.nx ρ')) : Wp (sG x g ρ) Q := w_bind (q.mono fun _ z => w_map z)
theorem w_xP {al : List Nat} {Q : D × Rho → Prop} (q : Wp (f ρ) fun d => Q (d, esc al d ρ)) : Wp (xP al f ρ) Q := w_map q
theorem w_gN {i : Nat} {d : D} {Q : Rho → Prop} (q : Q (ρ.set i (.val d))) : Wp (gN i d ρ) Q := ⟨_, rfl, q⟩
theorem w_gT {n : Nat} {gs : List D → Rho → Option Rho} {ds : List D} {Q : Rho → Prop} (h : ds.length = n) (q : Wp (gs ds ρ) Q) : Wp (gT n gs (.tup ds) ρ) Q := by
  unfold gT
  obtain ⟨a, e, q⟩ := q
  exact ⟨a, by simp only [h, if_true]; exact e, q⟩
theorem w_gT2 {gs : List D → Rho → Option Rho} {a b : D} {Q : Rho → Prop} (q : Wp (gs [a, b] ρ) Q) : Wp (gT 2 gs (.tup [a, b]) ρ) Q := w_gT rfl q
theorem w_gT3 {gs : List D → Rho → Option Rho} {a b c : D} {Q : Rho → Prop} (q : Wp (gs [a, b, c] ρ) Q) : Wp (gT 3 gs (.tup [a, b, c]) ρ) Q := w_gT rfl q
theorem w_gL {n : Nat} {gs : List D → Rho → Option Rho} {ds : List D} {Q : Rho → Prop} (h : ds.length = n) (q : Wp (gs ds ρ) Q) : Wp (gT n gs (.lst ds) ρ) Q := by
  unfold gT
  obtain ⟨a, e, q⟩ := q
  exact ⟨a, by simp only [h, if_true]; exact e, q⟩
theorem w_gsN {Q : Rho → Prop} (q : Q ρ) : Wp (gsN [] ρ) Q := ⟨_, rfl, q⟩
theorem w_gsC {g : D → Rho → Option Rho} {gs : List D → Rho → Option Rho} {d : D} {ds : List D} {Q : Rho → Prop} (q : Wp (g d ρ) fun ρ' => Wp (gs ds ρ') Q) : Wp (gsC g gs (d :: ds) ρ) Q := w_bind q
theorem w_own {i : Nat} {al : List Nat} {Q : Out → Prop} (q : Wp (fs ρ) fun xs => (noO al ρ || noLs xs) = true ∧ Q (.nx (ρ.set i (.own xs)))) : Wp (sOwn i al fs ρ) Q := w_bind (q.mono fun _ z => ⟨_, if_pos z.1, z.2⟩)
theorem w_app {i : Nat} {x : Xe} {Q : Out → Prop} (q : Wp (x ρ) fun z => ∃ xs, z.2[i]? = some (.own xs) ∧ xs.length < 16777216 ∧ Q (.nx (z.2.set i (.own (xs ++ [z.1]))))) : Wp (sApp i x ρ) Q := by
  obtain ⟨z, e, xs, h1, h2, q⟩ := q
  refine ⟨_, ?_, q⟩
  unfold sApp
  rw [e]
  show (match z.2[i]? with | some (.own xs) => _ | _ => none) = _
  rw [h1]
  exact if_pos h2
theorem w_pop {i : Nat} {xs : List D} {d : D} {Q : D × Rho → Prop} (h : ρ[i]? = some (.own (xs ++ [d]))) (q : Q (d, ρ.set i (.own xs))) : Wp (xPop i ρ) Q := by
  refine ⟨_, ?_, q⟩
  unfold xPop
  rw [h]
  simp
theorem w_xsN {Q : List D × Rho → Prop} (q : Q ([], ρ)) : Wp (xsN ρ) Q := ⟨_, rfl, q⟩
theorem w_xsC {x : Xe} {xs : Xs} {Q : List D × Rho → Prop} (q : Wp (x ρ) fun z => Wp (xs z.2) fun zs => Q (z.1 :: zs.1, zs.2)) : Wp (xsC x xs ρ) Q := w_bind (q.mono fun _ z => w_bind (z.mono fun _ y => w_some y))
theorem w_xA {k : List D → Option D} {xs : Xs} {Q : D × Rho → Prop} (q : Wp (xs ρ) fun z => Wp (k z.1) fun d => Q (d, z.2)) : Wp (xA k xs ρ) Q := w_bind (q.mono fun _ z => w_map z)
theorem w_augI {i : Nat} {al : List Nat} {x y : Int} {Q : Out → Prop} (h : ρ[i]? = some (.val (.int x))) (q : Wp (f ρ) fun d => d = .int y ∧ Q (.nx (ρ.set i (.val (.int (x + y)))))) : Wp (sAug i al f ρ) Q := by
  obtain ⟨d, e, rfl, q⟩ := q
  refine ⟨_, ?_, q⟩
  unfold sAug
  rw [e]
  show (match ρ[i]? with | some (.val x) => _ | some (.own xs) => _ | _ => none) = _
  rw [h]
  rfl
theorem w_augL {i : Nat} {al : List Nat} {xs : List D} {Q : Out → Prop} (h : ρ[i]? = some (.own xs)) (q : Wp (f ρ) fun d => ∃ ys, d = .lst ys ∧ (noO al ρ || noLs ys) = true ∧ xs.length + ys.length ≤ 16777216 ∧ Q (.nx (ρ.set i (.own (xs ++ ys))))) : Wp (sAug i al f ρ) Q := by
  obtain ⟨d, e, ys, rfl, h1, h2, q⟩ := q
  refine ⟨_, ?_, q⟩
  unfold sAug
  rw [e]
  show (match ρ[i]? with | some (.val x) => _ | some (.own xs) => _ | _ => none) = _
  rw [h]
  exact if_pos ⟨h1, h2⟩
theorem w_put {i : Nat} {x : Xe} {k : Ex} {Q : Out → Prop} (q : Wp (x ρ) fun z => Wp (k z.2) fun n => ∃ m xs j, n = .int m ∧ z.2[i]? = some (.own xs) ∧ ixN xs.length m = some j ∧ Q (.nx (z.2.set i (.own (xs.set j z.1))))) : Wp (sPut i x k ρ) Q := by
  obtain ⟨z, e, n, e2, m, xs, j, rfl, h1, h2, q⟩ := q
  refine ⟨_, ?_, q⟩
  unfold sPut
  rw [e]
  show ((k z.2).bind fun n => match n, z.2[i]? with | .int n, some (.own xs) => _ | _, _ => none) = _
  rw [e2]
  show (match D.int m, z.2[i]? with | .int n, some (.own xs) => _ | _, _ => none) = _
  rw [h1]
  show (ixN xs.length m).map _ = _
  rw [h2]
  rfl
/-! ### loops -/
def forQ (g : D → Rho → Option Rho) (B : Sx) (ds : List D) (Q : Out → Prop) : Out → Prop
  | .nx ρ => Wp (forS g B ds ρ) Q
  | .ct ρ => Wp (forS g B ds ρ) Q
  | .brk ρ => Q (.nx ρ)
  | .ret d => Q (.ret d)
theorem w_forN {g : D → Rho → Option Rho} {B : Sx} {Q : Out → Prop} (q : Q (.nx ρ)) : Wp (forS g B [] ρ) Q := ⟨_, rfl, q⟩
theorem w_forC {g : D → Rho → Option Rho} {B : Sx} {d : D} {ds : List D} {Q : Out → Prop} (q : Wp (g d ρ) fun ρ1 => Wp (B ρ1) (forQ g B ds Q)) : Wp (forS g B (d :: ds) ρ) Q := by
  obtain ⟨ρ1, e1, o, e2, q⟩ := q
  show Wp ((g d ρ).bind fun ρ1 => (B ρ1).bind fun o => match o with
    | .nx ρ2 => forS g B ds ρ2
    | .ct ρ2 => forS g B ds ρ2
    | .brk ρ2 => some (.nx ρ2)
    | .ret d => some (.ret d)) Q
  rw [e1]
  show Wp ((B ρ1).bind fun o => match o with
    | .nx ρ2 => forS g B ds ρ2
    | .ct ρ2 => forS g B ds ρ2
    | .brk ρ2 => some (.nx ρ2)
    | .ret d => some (.ret d)) Q
  rw [e2]
  cases o with
  | nx ρ2 => exact q
  | ct ρ2 => exact q
  | brk ρ2 => exact ⟨_, rfl, q⟩
  | ret d => exact ⟨_, rfl, q⟩
/-- a for by an invariant over what is still to come -/
theorem w_forI {g : D → Rho → Option Rho} {B : Sx} {Q : Out → Prop} (I : List D → Rho → Prop) (hs : ∀ d ds ρ, I (d :: ds) ρ → Wp (g d ρ) fun ρ1 => Wp (B ρ1) fun o => match o with
      | .nx ρ2 => I ds ρ2
      | .ct ρ2 => I ds ρ2
      | .brk ρ2 => Q (.nx ρ2)
      | .ret d => Q (.ret d)) (hd : ∀ ρ, I [] ρ → Q (.nx ρ)) : ∀ (ds : List D) (ρ : Rho), I ds ρ → Wp (forS g B ds ρ) Q
  | [], ρ, h => w_forN (hd ρ h)
  | d :: ds, ρ, h => w_forC ((hs d ds ρ h).mono fun ρ1 z => z.mono fun o y => by
      cases o with
      | nx ρ2 => exact w_forI I hs hd ds ρ2 y
      | ct ρ2 => exact w_forI I hs hd ds ρ2 y
      | brk ρ2 => exact y
      | ret d => exact y)
/-- behind one turn -/
def loopQ (I : Rho → Prop) (Q : Out → Prop) : Out → Prop
  | .nx ρ => I ρ
  | .ct ρ => I ρ
  | .brk ρ => Q (.nx ρ)
  | .ret d => Q (.ret d)
theorem lq_nx {I : Rho → Prop} {Q : Out → Prop} (h : I ρ) : loopQ I Q (.nx ρ) := h
theorem lq_ret {I : Rho → Prop} {Q : Out → Prop} {d : D} (h : Q (.ret d)) : loopQ I Q (.ret d) := h
theorem w_forA {g : D → Rho → Option Rho} {B : Sx} {Q : Out → Prop} (I : List D → Rho → Prop) (ds : List D) (h0 : I ds ρ) (hs : ∀ d ds ρ, I (d :: ds) ρ → Wp (g d ρ) fun ρ1 => Wp (B ρ1) (loopQ (I ds) Q)) (hd : ∀ ρ, I [] ρ → Q (.nx ρ)) : Wp (forS g B ds ρ) Q :=
  w_forI I (fun d ds ρ h => (hs d ds ρ h).mono fun _ z => z.mono fun o y => by cases o <;> exact y) hd ds ρ h0
theorem rgD_len {a b : Int} : (rgD a b).length = (b - a).toNat := by simp [rgD]
theorem rgD_mem {a b : Int} {d : D} (h : d ∈ rgD a b) : ∃ i : Int, d = .int i ∧ a ≤ i ∧ i < b := by
  unfold rgD at h
  obtain ⟨i, hi, rfl⟩ := List.mem_map.mp h
  have := List.mem_range.mp hi
  exact ⟨_, rfl, by omega, by omega⟩
theorem w_forR {g : D → Rho → Option Rho} {B : Sx} {Q : Out → Prop} {a b : Int} (I : Nat → Rho → Prop) (h0 : I 0 ρ) (hs : ∀ i ρ, i < (b - a).toNat → I i ρ → Wp (g (.int (a + (i : Nat))) ρ) fun ρ1 => Wp (B ρ1) (loopQ (I (i + 1)) Q)) (hd : ∀ ρ, I (b - a).toNat ρ → Q (.nx ρ)) : Wp (forS g B (rgD a b) ρ) Q := by
  refine w_forA (fun ds ρ => ∃ k, ds = (rgD a b).drop k ∧ k ≤ (b - a).toNat ∧ I k ρ) _ ⟨0, rfl, Nat.zero_le _, h0⟩ (fun d ds ρ ⟨k, e, hk, hI⟩ => ?_) (fun ρ ⟨k, e, hk, hI⟩ => ?_)
  · have hlt : k < (rgD a b).length := by
      refine Nat.lt_of_not_le fun z => ?_
      rw [List.drop_eq_nil_of_le z] at e
      cases e
    rw [List.drop_eq_getElem_cons hlt] at e
    have e1 := (List.cons.inj e).1
    have e2 := (List.cons.inj e).2
    have e3 : d = .int (a + (k : Nat)) := by rw [e1]; simp [rgD]
    subst e3
    rw [rgD_len] at hlt
    exact (hs k ρ hlt hI).mono fun _ z => z.mono fun o y => by
      cases o with
      | nx ρ2 => exact ⟨k + 1, e2, hlt, y⟩
      | ct ρ2 => exact ⟨k + 1, e2, hlt, y⟩
      | brk ρ2 => exact y
      | ret d => exact y
  · have hk2 : (rgD a b).length ≤ k := by
      refine Nat.le_of_not_lt fun z => ?_
      rw [List.drop_eq_getElem_cons z] at e
      cases e
    rw [rgD_len] at hk2
    have : k = (b - a).toNat := by omega
    subst this
    exact hd ρ hI
theorem w_sFor {al : List Nat} {it : Exs} {g : D → Rho → Option Rho} {B : Sx} {Q : Out → Prop} (q : Wp (it ρ) fun ds => Wp (forS g B ds (unown al ρ)) Q) : Wp (sFor al it g B ρ) Q := w_bind q
theorem w_sForV {al : List Nat} {it : Exs} {g : D → Rho → Option Rho} {B : Sx} {Q : Out → Prop} (h : unown al ρ = ρ') (q : Wp (it ρ) fun ds => Wp (forS g B ds ρ') Q) : Wp (sFor al it g B ρ) Q := by subst h; exact w_bind q
theorem w_iV {i : Nat} {Q : List D → Prop} (q : Wp (eV i ρ) fun d => Wp (dItems d) Q) : Wp (iV i ρ) Q := w_bind q
theorem w_iE {al : List Nat} {Q : List D → Prop} (q : Wp (f ρ) fun d => okIt al ρ d = true ∧ Wp (dItems d) Q) : Wp (iE al f ρ) Q := w_bind (q.mono fun d z => by rw [if_pos z.1]; exact z.2)
theorem w_itL {xs : List D} {Q : List D → Prop} (q : Q xs) : Wp (dItems (.lst xs)) Q := ⟨_, rfl, q⟩
theorem w_itT {xs : List D} {Q : List D → Prop} (q : Q xs) : Wp (dItems (.tup xs)) Q := ⟨_, rfl, q⟩
theorem w_itS {z : Str} {Q : List D → Prop} (q : Q (z.cps.toList.map fun c => .str ⟨#[c]⟩)) : Wp (dItems (.str z)) Q := ⟨_, rfl, q⟩
theorem w_rg1 {n : Int} {Q : List D → Prop} (h : -(2 ^ 62) ≤ n ∧ n < 2 ^ 62) (q : Q (rgD 0 n)) : Wp (dRg1 [.int n]) Q := ⟨_, if_pos h, q⟩
theorem w_rg2 {n m : Int} {Q : List D → Prop} (h : (-(2 ^ 62) ≤ n ∧ n < 2 ^ 62) ∧ (-(2 ^ 62) ≤ m ∧ m < 2 ^ 62)) (q : Q (rgD n m)) : Wp (dRg2 [.int n, .int m]) Q := ⟨_, if_pos h, q⟩
theorem w_while0 {n : Nat} {Q : Out → Prop} (q : Wp (whileS t F n ρ) Q) : Wp (sWhile n t F ρ) Q := q
def whQ (t : Te) (F : Sx) (n : Nat) (Q : Out → Prop) : Out → Prop
  | .nx ρ => Wp (whileS t F n ρ) Q
  | .ct ρ => Wp (whileS t F n ρ) Q
  | .brk ρ => Q (.nx ρ)
  | .ret d => Q (.ret d)
theorem w_while {n : Nat} {Q : Out → Prop} (q : Wp (t ρ) fun b => (b = true → Wp (F ρ) (whQ t F n Q)) ∧ (b = false → Q (.nx ρ))) : Wp (whileS t F (n + 1) ρ) Q := by
  obtain ⟨b, e, q⟩ := q
  show Wp ((t ρ).bind fun b => if b = true then (F ρ).bind fun o => match o with
      | .nx ρ2 => whileS t F n ρ2
      | .ct ρ2 => whileS t F n ρ2
      | .brk ρ2 => some (.nx ρ2)
      | .ret d => some (.ret d)
    else some (.nx ρ)) Q
  rw [e]
  cases b with
  | false => exact ⟨_, rfl, q.2 rfl⟩
  | true =>
    obtain ⟨o, e2, q⟩ := q.1 rfl
    show Wp ((F ρ).bind fun o => match o with
      | .nx ρ2 => whileS t F n ρ2
      | .ct ρ2 => whileS t F n ρ2
      | .brk ρ2 => some (.nx ρ2)
      | .ret d => some (.ret d)) Q
    rw [e2]
    cases o with
    | nx ρ2 => exact q
    | ct ρ2 => exact q
    | brk ρ2 => exact ⟨_, rfl, q⟩
    | ret d => exact ⟨_, rfl, q⟩
/-! ### comprehensions -/
theorem w_lcG {vs : List Nat} {it : Exs} {g : D → Rho → Option Rho} {Q : List D → Prop} (q : Wp (it ρ) fun ds => ds.length < 16777216 ∧ Wp (compS g t f (wipeR ρ vs) ds) Q) : Wp (lcG vs it g t f ρ) Q := w_bind (q.mono fun ds z => by rw [if_pos z.1]; exact z.2)
/-- each item gives an element -/
theorem w_compY {g : D → Rho → Option Rho} {R : D → D → Prop} : ∀ {ds : List D} {Q : List D → Prop}, (∀ d ∈ ds, Wp (g d ρ) fun ρ1 => Wp (f ρ1) (R d)) → (∀ ys, All2 R ds ys → Q ys) → Wp (compS g tY f ρ ds) Q
  | [], Q, _, q => ⟨[], rfl, q [] .nil⟩
  | d :: ds, Q, h, q => by
    obtain ⟨ρ1, e1, y, e2, r⟩ := h d List.mem_cons_self
    obtain ⟨ys, e3, r3⟩ := w_compY (Q := fun ys => All2 R ds ys) (fun d' hd => h d' (List.mem_cons_of_mem _ hd)) (fun _ z => z)
    refine ⟨y :: ys, ?_, q _ (.cons r r3)⟩
    show ((g d ρ).bind fun ρ1 => (tY ρ1).bind fun b => if b = true then (f ρ1).bind fun y => (compS g tY f ρ ds).map (y :: ·) else compS g tY f ρ ds) = _
    rw [e1]
    show ((f ρ1).bind fun y => (compS g tY f ρ ds).map (y :: ·)) = _
    rw [e2]
    show (compS g tY f ρ ds).map (y :: ·) = _
    rw [e3]
    rfl
/-- .. by a function -/
theorem w_compF {g : D → Rho → Option Rho} (k : D → D) : ∀ {ds : List D} {Q : List D → Prop}, (∀ d ∈ ds, Wp (g d ρ) fun ρ1 => Wp (f ρ1) fun y => y = k d) → Q (ds.map k) → Wp (compS g tY f ρ ds) Q
  | [], Q, _, q => ⟨[], rfl, q⟩
  | d :: ds, Q, h, q => by
    obtain ⟨ρ1, e1, y, e2, rfl⟩ := h d List.mem_cons_self
    obtain ⟨ys, e3, r3⟩ := w_compF k (Q := fun ys => ys = ds.map k) (fun d' hd => h d' (List.mem_cons_of_mem _ hd)) rfl
    subst r3
    refine ⟨_, ?_, q⟩
    show ((g d ρ).bind fun ρ1 => (tY ρ1).bind fun b => if b = true then (f ρ1).bind fun y => (compS g tY f ρ ds).map (y :: ·) else compS g tY f ρ ds) = _
    rw [e1]
    show ((f ρ1).bind fun y => (compS g tY f ρ ds).map (y :: ·)) = _
    rw [e2]
    show (compS g tY f ρ ds).map (k d :: ·) = _
    rw [e3]
    rfl
/-! ### ways -/
theorem br_t {b : Bool} {P R : Prop} (hb : b = true) (h : P) : (b = true → P) ∧ (b = false → R) := ⟨fun _ => h, fun z => (by rw [hb] at z; cases z)⟩
theorem br_f {b : Bool} {P R : Prop} (hb : b = false) (h : R) : (b = true → P) ∧ (b = false → R) := ⟨fun z => (by rw [hb] at z; cases z), fun _ => h⟩
theorem br_2 {b : Bool} {P R : Prop} (h : b = true → P) (h' : b = false → R) : (b = true → P) ∧ (b = false → R) := ⟨h, h'⟩
theorem br_d {p : Prop} [Decidable p] {P R : Prop} (h : p → P) (h' : ¬ p → R) : (decide p = true → P) ∧ (decide p = false → R) := ⟨fun z => h (of_decide_eq_true z), fun z => h' (of_decide_eq_false z)⟩
theorem br_e {i j : Int} {P R : Prop} (h : i = j → P) (h' : ¬ i = j → R) : ((i == j) = true → P) ∧ ((i == j) = false → R) := ⟨fun z => h (by simpa using z), fun z => h' (by simpa using z)⟩
theorem br_s {i j : Str} {P R : Prop} (h : i = j → P) (h' : ¬ i = j → R) : ((i == j) = true → P) ∧ ((i == j) = false → R) := ⟨fun z => h (by simpa using z), fun z => h' (by simpa using z)⟩
theorem br_n {b : Bool} {P R : Prop} (h : (b = true → R) ∧ (b = false → P)) : ((!b) = true → P) ∧ ((!b) = false → R) := ⟨fun z => h.2 (by simpa using z), fun z => h.1 (by simpa using z)⟩
theorem w_modP {i j : Int} {Q : D → Prop} (h : 0 < j) (q : ∀ r, 0 ≤ r → r < j → r = i % j → Q (.int r)) : Wp (dMod (.int i) (.int j)) Q := w_mod h (q _ (Int.emod_nonneg _ (by omega)) (Int.emod_lt_of_pos _ h) rfl)
theorem sq_nx {G : Sx} {Q : Out → Prop} (h : Wp (G ρ) Q) : seqQ G Q (.nx ρ) := h
theorem sq_ret {G : Sx} {Q : Out → Prop} {d : D} (h : Q (.ret d)) : seqQ G Q (.ret d) := h
/-- an item of a list in bounds -/
theorem atI_in {α : Type} {xs : List α} {i : Int} (h0 : 0 ≤ i) (h1 : i < xs.length) : ∃ d, atI xs i = some d ∧ d ∈ xs ∧ xs[i.toNat]? = some d := by
  have h2 : i.toNat < xs.length := by omega
  refine ⟨xs[i.toNat], ?_, List.getElem_mem h2, List.getElem?_eq_getElem h2⟩
  have := atI_nat (List.getElem?_eq_getElem h2)
  rw [Int.toNat_of_nonneg h0] at this
  exact this
theorem w_ixR' {xs : List Int} {i : Int} {Q : D → Prop} (h0 : 0 ≤ i) (h1 : i < xs.length) (q : ∀ c, c ∈ xs → Q (.int c)) : Wp (dIx (.scr xs) (.int i)) Q := by
  obtain ⟨d, e, m, _⟩ := atI_in h0 h1
  exact w_ixR e (q d m)
theorem w_ixL' {xs : List D} {i : Int} {Q : D → Prop} (h0 : 0 ≤ i) (h1 : i < xs.length) (q : ∀ c, c ∈ xs → Q c) : Wp (dIx (.lst xs) (.int i)) Q := by
  obtain ⟨d, e, m, _⟩ := atI_in h0 h1
  exact w_ixL e (q d m)
theorem w_ixS' {z : Str} {i : Int} {Q : D → Prop} (h : z.length ≤ 16777216) (h0 : 0 ≤ i) (h1 : i < z.length) (q : ∀ c, c ∈ z.cps.toList → Q (.str ⟨#[c]⟩)) : Wp (dIx (.str z) (.int i)) Q := by
  obtain ⟨d, e, m, _⟩ := atI_in (xs := z.cps.toList) h0 (by rw [Array.length_toList]; exact h1)
  exact w_ixS h e (q d m)
theorem mulOk_r {i j : Int} (h : -(2 ^ 64) < j ∧ j < 2 ^ 64) : mulOk i j = true := by
  unfold mulOk
  simp only [Bool.or_eq_true, Bool.and_eq_true, decide_eq_true_eq]
  exact .inl (.inr h)
theorem mulOk_l {i j : Int} (h : -(2 ^ 64) < i ∧ i < 2 ^ 64) : mulOk i j = true := by
  unfold mulOk
  simp only [Bool.or_eq_true, Bool.and_eq_true, decide_eq_true_eq]
  exact .inl (.inl h)
theorem ex_app {l : Option Sl} {xs : List D} {Q : List D → Prop} (e : l = some (.own xs)) (h : xs.length < 16777216) (q : Q xs) : ∃ xs, l = some (.own xs) ∧ xs.length < 16777216 ∧ Q xs := ⟨xs, e, h, q⟩
theorem ex_int {i : Int} {Q : Int → Prop} (q : Q i) : ∃ j, D.int i = .int j ∧ Q j := ⟨i, rfl, q⟩
theorem ex_bl {i : Bool} {Q : Bool → Prop} (q : Q i) : ∃ j, D.bl i = .bl j ∧ Q j := ⟨i, rfl, q⟩
theorem ex_lst {i : List D} {Q : List D → Prop} (q : Q i) : ∃ j, D.lst i = .lst j ∧ Q j := ⟨i, rfl, q⟩
theorem an_int {i : Int} {Q : Prop} (q : Q) : D.int i = .int i ∧ Q := ⟨rfl, q⟩
theorem an_big {n : Nat} {Q : Prop} (h : n ≤ 16777216) (q : Q) : n ≤ 16777216 ∧ Q := ⟨h, q⟩
theorem an_bigl {n : Nat} {Q : Prop} (h : n < 16777216) (q : Q) : n < 16777216 ∧ Q := ⟨h, q⟩
theorem an_own {b : Bool} {Q : Prop} (h : b = true) (q : Q) : b = true ∧ Q := ⟨h, q⟩
theorem fq_nx {g : D → Rho → Option Rho} {B : Sx} {ds : List D} {Q : Out → Prop} (h : Wp (forS g B ds ρ) Q) : forQ g B ds Q (.nx ρ) := h
theorem w_tup0 {Q : D → Prop} (q : Q (.tup [])) : Wp (dTup []) Q := ⟨_, if_pos (Nat.le_of_ble_eq_true rfl), q⟩
theorem w_tup1 {a : D} {Q : D → Prop} (q : Q (.tup [a])) : Wp (dTup [a]) Q := ⟨_, if_pos (Nat.le_of_ble_eq_true rfl), q⟩
theorem w_tup2 {a b : D} {Q : D → Prop} (q : Q (.tup [a, b])) : Wp (dTup [a, b]) Q := ⟨_, if_pos (Nat.le_of_ble_eq_true rfl), q⟩
theorem w_tup3 {a b c : D} {Q : D → Prop} (q : Q (.tup [a, b, c])) : Wp (dTup [a, b, c]) Q := ⟨_, if_pos (Nat.le_of_ble_eq_true rfl), q⟩
theorem w_tup4 {a b c d : D} {Q : D → Prop} (q : Q (.tup [a, b, c, d])) : Wp (dTup [a, b, c, d]) Q := ⟨_, if_pos (Nat.le_of_ble_eq_true rfl), q⟩
theorem w_tup5 {a b c d e : D} {Q : D → Prop} (q : Q (.tup [a, b, c, d, e])) : Wp (dTup [a, b, c, d, e]) Q := ⟨_, if_pos (Nat.le_of_ble_eq_true rfl), q⟩
theorem w_tup6 {a b c d e f : D} {Q : D → Prop} (q : Q (.tup [a, b, c, d, e, f])) : Wp (dTup [a, b, c, d, e, f]) Q := ⟨_, if_pos (Nat.le_of_ble_eq_true rfl), q⟩
theorem an_big0 {Q : Prop} (q : Q) : ([] : List D).length ≤ 16777216 ∧ Q := ⟨Nat.le_of_ble_eq_true rfl, q⟩
theorem an_bigl0 {Q : Prop} (q : Q) : ([] : List D).length < 16777216 ∧ Q := ⟨Nat.le_of_ble_eq_true rfl, q⟩
theorem an_big1 {a : D} {Q : Prop} (q : Q) : ([a] : List D).length ≤ 16777216 ∧ Q := ⟨Nat.le_of_ble_eq_true rfl, q⟩
theorem an_bigl1 {a : D} {Q : Prop} (q : Q) : ([a] : List D).length < 16777216 ∧ Q := ⟨Nat.le_of_ble_eq_true rfl, q⟩
theorem an_big2 {a b : D} {Q : Prop} (q : Q) : ([a, b] : List D).length ≤ 16777216 ∧ Q := ⟨Nat.le_of_ble_eq_true rfl, q⟩
theorem an_bigl2 {a b : D} {Q : Prop} (q : Q) : ([a, b] : List D).length < 16777216 ∧ Q := ⟨Nat.le_of_ble_eq_true rfl, q⟩
theorem an_big3 {a b c : D} {Q : Prop} (q : Q) : ([a, b, c] : List D).length ≤ 16777216 ∧ Q := ⟨Nat.le_of_ble_eq_true rfl, q⟩
theorem an_bigl3 {a b c : D} {Q : Prop} (q : Q) : ([a, b, c] : List D).length < 16777216 ∧ Q := ⟨Nat.le_of_ble_eq_true rfl, q⟩
theorem an_big4 {a b c d : D} {Q : Prop} (q : Q) : ([a, b, c, d] : List D).length ≤ 16777216 ∧ Q := ⟨Nat.le_of_ble_eq_true rfl, q⟩
theorem an_bigl4 {a b c d : D} {Q : Prop} (q : Q) : ([a, b, c, d] : List D).length < 16777216 ∧ Q := ⟨Nat.le_of_ble_eq_true rfl, q⟩
theorem an_big5 {a b c d e : D} {Q : Prop} (q : Q) : ([a, b, c, d, e] : List D).length ≤ 16777216 ∧ Q := ⟨Nat.le_of_ble_eq_true rfl, q⟩
theorem an_bigl5 {a b c d e : D} {Q : Prop} (q : Q) : ([a, b, c, d, e] : List D).length < 16777216 ∧ Q := ⟨Nat.le_of_ble_eq_true rfl, q⟩
theorem an_big6 {a b c d e f : D} {Q : Prop} (q : Q) : ([a, b, c, d, e, f] : List D).length ≤ 16777216 ∧ Q := ⟨Nat.le_of_ble_eq_true rfl, q⟩
theorem an_bigl6 {a b c d e f : D} {Q : Prop} (q : Q) : ([a, b, c, d, e, f] : List D).length < 16777216 ∧ Q := ⟨Nat.le_of_ble_eq_true rfl, q⟩
theorem an_big7 {a b c d e f g : D} {Q : Prop} (q : Q) : ([a, b, c, d, e, f, g] : List D).length ≤ 16777216 ∧ Q := ⟨Nat.le_of_ble_eq_true rfl, q⟩
theorem an_bigl7 {a b c d e f g : D} {Q : Prop} (q : Q) : ([a, b, c, d, e, f, g] : List D).length < 16777216 ∧ Q := ⟨Nat.le_of_ble_eq_true rfl, q⟩
theorem an_big8 {a b c d e f g h : D} {Q : Prop} (q : Q) : ([a, b, c, d, e, f, g, h] : List D).length ≤ 16777216 ∧ Q := ⟨Nat.le_of_ble_eq_true rfl, q⟩
theorem an_bigl8 {a b c d e f g h : D} {Q : Prop} (q : Q) : ([a, b, c, d, e, f, g, h] : List D).length < 16777216 ∧ Q := ⟨Nat.le_of_ble_eq_true rfl, q⟩
theorem w_addT1 {a : D} {y : List D} {Q : D → Prop} (h : y.length ≤ 1000) (q : Q (.tup (a :: y))) : Wp (dAdd (.tup [a]) (.tup y)) Q := w_addT ⟨rfl, by show 1 + y.length ≤ _; omega⟩ q
theorem w_compN {g : D → Rho → Option Rho} {Q : List D → Prop} (q : Q []) : Wp (compS g t f ρ []) Q := ⟨[], rfl, q⟩
theorem w_compC {g : D → Rho → Option Rho} {d : D} {ds : List D} {Q : List D → Prop} (q : Wp (g d ρ) fun ρ1 => Wp (f ρ1) fun y => Wp (compS g tY f ρ ds) fun ys => Q (y :: ys)) : Wp (compS g tY f ρ (d :: ds)) Q := by
  obtain ⟨ρ1, e1, y, e2, ys, e3, q⟩ := q
  refine ⟨y :: ys, ?_, q⟩
  show ((g d ρ).bind fun ρ1 => (tY ρ1).bind fun b => if b = true then (f ρ1).bind fun y => (compS g tY f ρ ds).map (y :: ·) else compS g tY f ρ ds) = _
  rw [e1]
  show ((f ρ1).bind fun y => (compS g tY f ρ ds).map (y :: ·)) = _
  rw [e2]
  show (compS g tY f ρ ds).map (y :: ·) = _
  rw [e3]
  rfl
/-! ### bodies -/
def retQ (Q : D → Prop) : Out → Prop
  | .ret d => Q d
  | .nx _ => Q .non
  | _ => False
theorem rq_ret {Q : D → Prop} {d : D} (h : Q d) : retQ Q (.ret d) := h
theorem w_runB {n : Nat} {B : Sx} {ds : List D} {Q : D → Prop} (q : Wp (B (start' n ds)) (retQ Q)) : Wp (runB n B ds) Q := by
  obtain ⟨o, e, q⟩ := q
  unfold runB
  rw [e]
  cases o with
  | ret d => exact ⟨_, rfl, q⟩
  | nx ρ => exact ⟨_, rfl, q⟩
  | brk ρ => exact q.elim
  | ct ρ => exact q.elim
theorem esc_nil {d : D} : esc [] d ρ = ρ := rfl
theorem esc_int {al : List Nat} {i : Int} : esc al (.int i) ρ = ρ := by unfold esc; rw [show noL (.int i) = true from by simp [noL], Bool.or_true]; exact if_pos rfl
theorem esc_str {al : List Nat} {i : Str} : esc al (.str i) ρ = ρ := by unfold esc; rw [show noL (.str i) = true from by simp [noL], Bool.or_true]; exact if_pos rfl
theorem esc_bl {al : List Nat} {i : Bool} : esc al (.bl i) ρ = ρ := by unfold esc; rw [show noL (.bl i) = true from by simp [noL], Bool.or_true]; exact if_pos rfl
theorem esc_non {al : List Nat} : esc al .non ρ = ρ := by unfold esc; rw [show noL .non = true from by simp [noL], Bool.or_true]; exact if_pos rfl
theorem unown_nil : unown [] ρ = ρ := by
  refine List.ext_getElem? fun i => ?_
  rw [unown_get]
  cases ρ[i]? with
  | none => rfl
  | some s => cases s <;> rfl
theorem esc_noL {al : List Nat} {d : D} (h : noL d = true) : esc al d ρ = ρ := by
  unfold esc
  rw [h, Bool.or_true]
  exact if_pos rfl
end
end DL

/-! Sorting of nested keys that < can tell apart. -/
namespace DL
open PySem PySem.SeqAt PyProof.Rows PySem.W
mutual
/-- a key as signs -/
def ntk : NestedKey → List (Int ⊕ List Nat)
  | .none => []
  | .num i => [.inl i]
  | .text x => [.inr x.cps.toList]
  | .tup ks => ntkA ks
def ntkA : List NestedKey → List (Int ⊕ List Nat)
  | [] => [.inl 0]
  | k :: ks => .inl 1 :: (ntk k ++ ntkA ks)
end
mutual
/-- x < y is answered -/
def cmb : NestedKey → NestedKey → Bool
  | .num _, .num _ => true
  | .text _, .text _ => true
  | .tup a, .tup b => cmbA a b
  | _, _ => false
def cmbA : List NestedKey → List NestedKey → Bool
  | x :: xs, y :: ys => if NestedKey.beq x y = true then cmbA xs ys else cmb x y
  | _, _ => true
end
abbrev lxT (a b : List (Int ⊕ List Nat)) : Bool := PyProof.Rows.lexLt itemOrd a b
def ltN (x y : NestedKey) : Bool := lxT (ntk x) (ntk y)
theorem lx_pre (p a b : List (Int ⊕ List Nat)) : lxT (p ++ a) (p ++ b) = lxT a b := lex_pre p a b
theorem lx_atom {p q : Int ⊕ List Nat} (hne : p ≠ q) (l m : List (Int ⊕ List Nat)) : lxT (p :: l) (q :: m) = lxT [p] [q] := lex_atom hne l m
theorem ntkA_cons (k : NestedKey) (ks : List NestedKey) : ntkA (k :: ks) = Sum.inl 1 :: (ntk k ++ ntkA ks) := by rw [ntkA]
theorem cmbA_yes {x y : NestedKey} {xs ys : List NestedKey} (h : cmbA (x :: xs) (y :: ys) = true) (e : NestedKey.beq x y = true) : cmbA xs ys = true := by
  rw [cmbA, if_pos e] at h
  exact h
theorem cmbA_no {x y : NestedKey} {xs ys : List NestedKey} (h : cmbA (x :: xs) (y :: ys) = true) (e : NestedKey.beq x y = false) : cmb x y = true := by
  rw [cmbA, if_neg (by rw [e]; decide)] at h
  exact h
mutual
theorem ntk_cut : ∀ (x y : NestedKey), cmb x y = true → NestedKey.beq x y = false → ∀ l m, lxT (ntk x ++ l) (ntk y ++ m) = lxT (ntk x) (ntk y)
  | .num a, .num b, _, e, l, m => by
    have ne : (Sum.inl a : Int ⊕ List Nat) ≠ .inl b := fun z => by
      rw [Sum.inl.inj z, NestedKey.beq_self] at e
      cases e
    rw [ntk, ntk]
    exact lx_atom ne l m
  | .text a, .text b, _, e, l, m => by
    have ne : (Sum.inr a.cps.toList : Int ⊕ List Nat) ≠ .inr b.cps.toList := fun z => by
      rw [str_of_cps (Sum.inr.inj z), NestedKey.beq_self] at e
      cases e
    rw [ntk, ntk]
    exact lx_atom ne l m
  | .tup a, .tup b, h, e, l, m => by
    rw [ntk, ntk]
    exact ntkA_cut a b (by rw [cmb] at h; exact h) (by rw [NestedKey.beq] at e; exact e) l m
  | .none, y, h, _, _, _ => by cases y <;> simp [cmb] at h
  | .num _, .none, h, _, _, _ => by simp [cmb] at h
  | .num _, .text _, h, _, _, _ => by simp [cmb] at h
  | .num _, .tup _, h, _, _, _ => by simp [cmb] at h
  | .text _, .none, h, _, _, _ => by simp [cmb] at h
  | .text _, .num _, h, _, _, _ => by simp [cmb] at h
  | .text _, .tup _, h, _, _, _ => by simp [cmb] at h
  | .tup _, .none, h, _, _, _ => by simp [cmb] at h
  | .tup _, .num _, h, _, _, _ => by simp [cmb] at h
  | .tup _, .text _, h, _, _, _ => by simp [cmb] at h
theorem ntkA_cut : ∀ (xs ys : List NestedKey), cmbA xs ys = true → NestedKey.beqAll xs ys = false → ∀ l m, lxT (ntkA xs ++ l) (ntkA ys ++ m) = lxT (ntkA xs) (ntkA ys)
  | [], [], _, e, _, _ => by simp [NestedKey.beqAll] at e
  | [], y :: ys, _, _, l, m => by
    rw [ntkA_cons, ntkA]
    exact (lx_atom (by simp) _ _).trans (lx_atom (by simp) _ _).symm
  | x :: xs, [], _, _, l, m => by
    rw [ntkA_cons, ntkA]
    exact (lx_atom (by simp) _ _).trans (lx_atom (by simp) _ _).symm
  | x :: xs, y :: ys, h, e, l, m => by
    rw [ntkA_cons, ntkA_cons]
    have q : lxT (ntk x ++ ntkA xs ++ l) (ntk y ++ ntkA ys ++ m) = lxT (ntk x ++ ntkA xs) (ntk y ++ ntkA ys) := by
      rw [List.append_assoc, List.append_assoc]
      cases hb : NestedKey.beq x y with
      | true =>
        rw [NestedKey.beqAll, hb, Bool.true_and] at e
        rw [NestedKey.eq_of_beq x y hb, lx_pre, lx_pre]
        exact ntkA_cut xs ys (cmbA_yes h hb) e l m
      | false =>
        have z := ntk_cut x y (cmbA_no h hb) hb
        rw [z, z]
    exact (lex_self (O := itemOrd) _ _ _).trans (q.trans (lex_self (O := itemOrd) _ _ _).symm)
end
theorem ltA_yes {x y : NestedKey} {xs ys : List NestedKey} (e : NestedKey.beq x y = true) : lxT (ntkA (x :: xs)) (ntkA (y :: ys)) = lxT (ntkA xs) (ntkA ys) := by
  rw [ntkA_cons, ntkA_cons, NestedKey.eq_of_beq x y e]
  exact (lex_self (O := itemOrd) _ _ _).trans (lx_pre _ _ _)
theorem ltA_no {x y : NestedKey} {xs ys : List NestedKey} (h : cmb x y = true) (e : NestedKey.beq x y = false) : lxT (ntkA (x :: xs)) (ntkA (y :: ys)) = ltN x y := by
  rw [ntkA_cons, ntkA_cons]
  exact (lex_self (O := itemOrd) _ _ _).trans (ntk_cut x y h e _ _)
mutual
/-- the value is the key, no truth value in it -/
inductive Nk (h : Heap) : NestedKey → Value → Prop
  | num (i : Int) (t : Tok) : Nk h (.num i) (.int i t)
  | text (x : Str) (t : Tok) : Nk h (.text x) (.str x t)
  | tup {a : Addr} {o : Obj} {vs : Array Value} {n : Nat} {ks : List NestedKey} : h.get? a = some o → o.cls = .type "tuple" → o.data = .seq vs n → NkA h ks vs.toList → Nk h (.tup ks) (.ref a)
inductive NkA (h : Heap) : List NestedKey → List Value → Prop
  | nil : NkA h [] []
  | cons {k : NestedKey} {v : Value} {ks : List NestedKey} {vs : List Value} : Nk h k v → NkA h ks vs → NkA h (k :: ks) (v :: vs)
end
mutual
theorem Nk.is {h : Heap} : ∀ {k : NestedKey} {v : Value}, Nk h k v → NestedIs h k v
  | _, _, .num i t => .int i t
  | _, _, .text x t => .text x t
  | _, _, .tup h1 h2 h3 h4 => .tup h1 h2 h3 h4.is
theorem NkA.is {h : Heap} : ∀ {ks : List NestedKey} {vs : List Value}, NkA h ks vs → NestedAll h ks vs
  | _, _, .nil => .nil
  | _, _, .cons h t => .cons h.is t.is
end
mutual
theorem Nk.keep {h h' : Heap} (g : ∀ a o, h.get? a = some o → o.cls = .type "tuple" → h'.get? a = some o) : ∀ {k : NestedKey} {v : Value}, Nk h k v → Nk h' k v
  | _, _, .num i t => .num i t
  | _, _, .text x t => .text x t
  | _, _, .tup h1 h2 h3 h4 => .tup (g _ _ h1 h2) h2 h3 (h4.keep g)
theorem NkA.keep {h h' : Heap} (g : ∀ a o, h.get? a = some o → o.cls = .type "tuple" → h'.get? a = some o) : ∀ {ks : List NestedKey} {vs : List Value}, NkA h ks vs → NkA h' ks vs
  | _, _, .nil => .nil
  | _, _, .cons h t => .cons (h.keep g) (t.keep g)
end
theorem NkA.length {h : Heap} : ∀ {ks : List NestedKey} {vs : List Value}, NkA h ks vs → vs.length = ks.length
  | _, _, .nil => rfl
  | _, _, .cons _ t => by rw [List.length_cons, List.length_cons, t.length]
/-- how two rows of values lie to each other -/
inductive TLt (A : Around) (s : Shared) : List Value → List Value → Bool → Prop
  | none2 : TLt A s [] [] false
  | short (y : Value) (ys : List Value) : TLt A s [] (y :: ys) true
  | long (x : Value) (xs : List Value) : TLt A s (x :: xs) [] false
  | same {x y : Value} {xs ys : List Value} {c : Bool} : EqAt A s x y true → TLt A s xs ys c → TLt A s (x :: xs) (y :: ys) c
  | other {x y : Value} {xs ys : List Value} {c : Bool} : EqAt A s x y false → RcLt A s x y c → TLt A s (x :: xs) (y :: ys) c
theorem TLt.size {A : Around} {s : Shared} {xs ys : List Value} {c : Bool} (h : TLt A s xs ys c) (z : xs.zip ys = []) : c = decide (xs.length < ys.length) := by
  cases h with
  | none2 => rfl
  | short y ys => simp
  | long x xs => simp
  | same _ _ => cases z
  | other _ _ => cases z
section
open AutoSeq1 (wpAny_loadPart')
open MeetsSeq MeetsSeq2 MeetsSeq3 SeqRoads2
theorem tup_lt (l b : Addr) (us vs : Array Value) (m n : Nat) (du dv : Option Addr) (lu lv : Array (Option Value)) (c : Bool) :
    Meets (Builtin.«tuple.__lt__» ⟨[.ref l, .ref b], []⟩)
      (fun A R s => s.heap.get? l = some ⟨.type "tuple", du, .seq us m, lu⟩ ∧ s.heap.get? b = some ⟨.type "tuple", dv, .seq vs n, lv⟩ ∧
        TLt A.in1 s us.toList vs.toList c ∧ R (.ok (.ret (.bool c))) s) :=
  .of_wp fun prog w A R s h => by
    obtain ⟨hp, g, d, tk, os⟩ := s
    obtain ⟨hu, hv, hT, hR⟩ := h
    have f2 := AutoSeq1.sub_tuple_tuple
    wp_walk using wpAny_loadPart' hu, wpAny_loadPart' hv, wpAny_forIn_list _ (fun rest r s' => r.1 = none ∧ s' = ⟨hp, g, d, tk, os⟩ ∧ ∃ xs ys, rest = xs.zip ys ∧ TLt A.in1 ⟨hp, g, d, tk, os⟩ xs ys c ∧
      decide (xs.length < ys.length) = decide (us.size < vs.size)) _
    case turn =>
      rintro ⟨y, x⟩ rest r s' ⟨hr, rfl, xs, ys, hz, hT', hs⟩
      cases hT' with
      | none2 => cases hz
      | short _ _ => cases hz
      | long _ _ => cases hz
      | @same x' y' xs' ys' _ he ht =>
        rw [List.zip_cons_cons] at hz
        obtain ⟨hz1, hz2⟩ := List.cons.inj hz
        obtain ⟨rfl, rfl⟩ := Prod.mk.inj hz1
        refine wpAny_bind (he prog w _ _ ?_)
        wp_walk
        exact ⟨rfl, rfl, xs', ys', hz2, ht, by simpa using hs⟩
      | @other x' y' xs' ys' _ he hl =>
        rw [List.zip_cons_cons] at hz
        obtain ⟨hz1, hz2⟩ := List.cons.inj hz
        obtain ⟨rfl, rfl⟩ := Prod.mk.inj hz1
        refine wpAny_bind (he prog w _ _ ?_)
        have hl2 : ∀ (E : Value → Shared → Prop) (Q : Value → Shared → Prop), Q (.bool c) ⟨hp, g, d, tk, os⟩ → wpAny (model prog w) A.in1 (PySem.richCompare .Lt y x) Q E ⟨hp, g, d, tk, os⟩ := fun E Q q => hl prog w E Q q
        generalize hRC : PySem.richCompare = RC at hl2 ⊢
        wp_walk
        refine hl2 _ _ ?_
        wp_walk
        exact ⟨_, rfl, hR⟩
    case fin =>
      rintro ⟨r1, r2⟩ s' ⟨hr, rfl, xs, ys, hz, hT', hs⟩
      simp only at hr
      subst hr
      have e := (hT'.size hz.symm).trans hs
      wp_walk
      refine ⟨_, rfl, ?_⟩
      rw [e] at hR
      simpa [Builtin.Tuple.tupleCompareSizes] using hR
    case h =>
      exact ⟨rfl, rfl, us.toList, vs.toList, rfl, hT, by simp⟩
theorem RcLt.tup {A : Around} {s : Shared} {l b : Addr} {us vs : Array Value} {c : Bool} (hl : s.heap.IsTuple l us) (hb : s.heap.IsTuple b vs) (hu : A.units < cLine) (hT : TLt A.in1 s us.toList vs.toList c) : RcLt A s (.ref l) (.ref b) c := fun prog w E Q h => by
  obtain ⟨⟨k1, du, e1, lu⟩, ho, hc, m, hd⟩ := id hl
  obtain ⟨⟨k2, dv, e2, lv⟩, ho2, hc2, n, hd2⟩ := id hb
  simp only at hc hd hc2 hd2
  subst hc hd hc2 hd2
  have ne : Value.bool c ≠ Value.notImplemented := fun z => nomatch z
  exact richCompare_meets_room (op := .Lt) ⟨_, ho, rfl⟩ ⟨_, ho2, rfl⟩ F.slot_tuple_lt F.entry_tuple_lt (F.args_tuple_lt_2 _ _) (tup_lt l b us vs m n du dv lu lv c) ⟨ho, ho2, hT, ne, h⟩ hu
end
theorem ltN_num (i j : Int) : ltN (.num i) (.num j) = decide (i < j) := by
  have e : ltN (.num i) (.num j) = lxT [.inl i] [.inl j] := rfl
  rw [e]
  by_cases z : i = j
  · subst z
    exact (lex_irrefl (O := itemOrd) _).trans (by simp)
  · exact (lex_diff (O := itemOrd) fun y => z (Sum.inl.inj y)).trans rfl
theorem ltN_text (i j : Str) : ltN (.text i) (.text j) = decide (i.cps.toList < j.cps.toList) := dataLt_str i j
mutual
theorem rcLt_nk : ∀ (x y : NestedKey) (A : Around) (s : Shared) (a b : Value), Nk s.heap x a → Nk s.heap y b → cmb x y = true → A.units + min x.depth y.depth < cLine → RcLt A s a b (ltN x y)
  | .num i, .num j, A, s, _, _, .num _ t, .num _ u, _, _ => by
    intro prog w E Q q
    rw [ltN_num] at q
    exact P.lt_int q
  | .text i, .text j, A, s, _, _, .text _ t, .text _ u, _, _ => by
    intro prog w E Q q
    rw [ltN_text] at q
    exact P.lt_str q
  | .tup xs, .tup ys, A, s, _, _, .tup (vs := vs) h1 h2 h3 h4, .tup (vs := ws) k1 k2 k3 k4, hc, hu => by
    have hc' : cmbA xs ys = true := by rw [cmb] at hc; exact hc
    have e : ltN (.tup xs) (.tup ys) = lxT (ntkA xs) (ntkA ys) := by rw [ltN, ntk, ntk]
    rw [e]
    exact RcLt.tup ⟨_, h1, h2, _, h3⟩ ⟨_, k1, k2, _, k3⟩ (room_here hu) (tlt_nk xs ys A.in1 s _ _ h4 k4 hc' (room_in hu))
  | .none, y, _, _, _, _, ra, _, _, _ => by cases ra
  | .num _, .none, _, _, _, _, _, rb, _, _ => by cases rb
  | .num _, .text _, _, _, _, _, _, _, h, _ => by simp [cmb] at h
  | .num _, .tup _, _, _, _, _, _, _, h, _ => by simp [cmb] at h
  | .text _, .none, _, _, _, _, _, rb, _, _ => by cases rb
  | .text _, .num _, _, _, _, _, _, _, h, _ => by simp [cmb] at h
  | .text _, .tup _, _, _, _, _, _, _, h, _ => by simp [cmb] at h
  | .tup _, .none, _, _, _, _, _, rb, _, _ => by cases rb
  | .tup _, .num _, _, _, _, _, _, _, h, _ => by simp [cmb] at h
  | .tup _, .text _, _, _, _, _, _, _, h, _ => by simp [cmb] at h
theorem tlt_nk : ∀ (xs ys : List NestedKey) (A : Around) (s : Shared) (vs ws : List Value), NkA s.heap xs vs → NkA s.heap ys ws → cmbA xs ys = true →
    A.units + min (NestedKey.depthAll xs) (NestedKey.depthAll ys) < cLine → TLt A s vs ws (lxT (ntkA xs) (ntkA ys))
  | [], [], A, s, _, _, .nil, .nil, _, _ => by
    have z : lxT (ntkA []) (ntkA []) = false := lex_irrefl (O := itemOrd) _
    rw [z]
    exact .none2
  | [], y :: ys, A, s, _, _, .nil, .cons _ _, _, _ => by
    have z : lxT (ntkA []) (ntkA (y :: ys)) = true := by
      rw [ntkA_cons, ntkA]
      exact (lex_diff (O := itemOrd) (by simp)).trans (by simp [itemLt])
    rw [z]
    exact .short _ _
  | x :: xs, [], A, s, _, _, .cons _ _, .nil, _, _ => by
    have z : lxT (ntkA (x :: xs)) (ntkA []) = false := by
      rw [ntkA_cons, ntkA]
      exact (lex_diff (O := itemOrd) (by simp)).trans (by simp [itemLt])
    rw [z]
    exact .long _ _
  | x :: xs, y :: ys, A, s, _, _, .cons r rs, .cons r' rs', h, hu => by
    have q := eqAt_key x y A s _ _ r.is r'.is (room_head hu)
    cases hb : NestedKey.beq x y with
    | true =>
      rw [hb] at q
      rw [ltA_yes hb]
      exact .same q (tlt_nk xs ys A s _ _ rs rs' (cmbA_yes h hb) (room_tail hu))
    | false =>
      rw [hb] at q
      rw [ltA_no (cmbA_no h hb) hb]
      exact .other q (rcLt_nk x y A s _ _ r r' (cmbA_no h hb) (room_head hu))
end
end DL

namespace DL
open PySem PySem.SeqAt PyProof.Rows PySem.W
theorem Nk.inj {h : Heap} {x y : NestedKey} {v : Value} (a : Nk h x v) (b : Nk h y v) : x = y := NestedIs.inj x y v a.is b.is
/-- the sorts of keys that may stand in one row -/
def kd : NestedKey → Nat
  | .num _ => 0
  | .text _ => 1
  | .tup (.num _ :: _) => 2
  | .tup (.text _ :: _) => 3
  | .tup (.tup _ :: _) => 4
  | _ => 9
/-- one row that can be sorted -/
structure Row (ks : List NestedKey) : Prop where
  cmb : ∀ a ∈ ks, ∀ b ∈ ks, cmb a b = true
  one : ∃ c, c ≤ 4 ∧ ∀ a ∈ ks, kd a = c
noncomputable def nkKind (h : Heap) (ks : List NestedKey) : PyProof.Rows.KeyKind where
  toKeyOrd := listOrd itemOrd
  keyOf v := open Classical in if q : ∃ k, k ∈ ks ∧ Nk h k v then some (ntk q.choose) else none
  dflt := ([] : List (Int ⊕ List Nat))
theorem nkKind_of {h : Heap} {ks : List NestedKey} {v : Value} {k : NestedKey} (m : k ∈ ks) (r : Nk h k v) : (nkKind h ks).keyOf v = some (ntk k) := by
  have q : ∃ k, k ∈ ks ∧ Nk h k v := ⟨k, m, r⟩
  have e : (nkKind h ks).keyOf v = some (ntk q.choose) := dif_pos q
  rw [e, q.choose_spec.2.inj r]
theorem nkKind_to {h : Heap} {ks : List NestedKey} {v : Value} {z : List (Int ⊕ List Nat)} (e : (nkKind h ks).keyOf v = some z) : ∃ k, k ∈ ks ∧ Nk h k v ∧ z = ntk k := by
  by_cases q : ∃ k, k ∈ ks ∧ Nk h k v
  · have e' : (nkKind h ks).keyOf v = some (ntk q.choose) := dif_pos q
    rw [e'] at e
    exact ⟨_, q.choose_spec.1, q.choose_spec.2, (Option.some.inj e).symm⟩
  · have e' : (nkKind h ks).keyOf v = none := dif_neg q
    rw [e'] at e
    cases e
/-- the class of a key's value -/
def kty : NestedKey → Value
  | .none => .type "NoneType"
  | .num _ => .type "int"
  | .text _ => .type "str"
  | .tup _ => .type "tuple"
theorem nk_looks {M : Model} {h : Heap} {k : NestedKey} {v : Value} (r : Nk h k v) : Looks M h (typeOf v) (kty k) := by
  cases r with
  | num i t => exact Looks.of_pure rfl
  | text x t => exact Looks.of_pure rfl
  | tup h1 h2 h3 h4 =>
    show Looks M h (typeOf (Value.ref _)) (Value.type "tuple")
    rw [← h2]
    exact (Looks.ld h1).andThen .now
section
variable {prog : Program} {w : World} {A : Around} {E : Value → Shared → Prop} {s : Shared}
theorem one_nk {f : Bool} {x y : NestedKey} {a b : Value} {Q : Bool → Shared → Prop} (hf : f = true → ∀ t, x ≠ .tup t) (ra : Nk s.heap x a) (rb : Nk s.heap y b) (h : cmb x y = true) (hu : A.units + min x.depth y.depth < cLine) (q : Q (ltN x y) s) :
    wpAny (model prog w) A (oneLt' f a b) Q E s := by
  cases f with
  | false =>
    rw [oneLt'_eq]
    simp only [Bool.false_eq_true, if_false]
    exact wpAny_bind (rcLt_nk x y A s a b ra rb h hu prog w E _ (wpAny_truthy_bool q))
  | true =>
    cases ra with
    | num i t =>
      cases rb with
      | num j u =>
        rw [ltN_num] at q
        exact oneLt_int q
      | _ => simp [cmb] at h
    | text i t =>
      cases rb with
      | text j u =>
        rw [ltN_text] at q
        exact oneLt_str q
      | _ => simp [cmb] at h
    | tup _ _ _ _ => exact absurd rfl (hf rfl _)
theorem kat_nk {b c : Bool} {Q : Bool → Shared → Prop} : ∀ (xs ys : List NestedKey) (i : Nat) (vs ws : List Value), NkA s.heap xs vs → NkA s.heap ys ws → cmbA xs ys = true → A.units + min (NestedKey.depthAll xs) (NestedKey.depthAll ys) < cLine →
    (b = true → i = 0 → ∀ x r t, xs = x :: r → x ≠ .tup t) → c = decide (xs.length < ys.length) → Q (lxT (ntkA xs) (ntkA ys)) s → KatLex prog w A b c Q (vs.zip ws) i s
  | [], [], i, _, _, .nil, .nil, _, _, _, hc, q => by
    have z : lxT (ntkA []) (ntkA []) = false := lex_irrefl (O := itemOrd) _
    rw [z] at q
    subst hc
    exact kat_nil q
  | [], y :: ys, i, _, _, .nil, .cons _ _, _, _, _, hc, q => by
    have z : lxT (ntkA []) (ntkA (y :: ys)) = true := by
      rw [ntkA_cons, ntkA]
      exact (lex_diff (O := itemOrd) (by simp)).trans (by simp [itemLt])
    rw [z] at q
    have e : c = true := by rw [hc]; simp
    subst e
    rw [List.zip_nil_left]
    exact kat_nil q
  | x :: xs, [], i, _, _, .cons _ _, .nil, _, _, _, hc, q => by
    have z : lxT (ntkA (x :: xs)) (ntkA []) = false := by
      rw [ntkA_cons, ntkA]
      exact (lex_diff (O := itemOrd) (by simp)).trans (by simp [itemLt])
    rw [z] at q
    have e : c = false := by rw [hc]; simp
    subst e
    rw [List.zip_nil_right]
    exact kat_nil q
  | x :: xs, y :: ys, i, _, _, .cons r rs, .cons r' rs', h, hu, hb, hc, q => by
    rw [List.zip_cons_cons]
    refine kat_cons (eqAt_key x y A s _ _ r.is r'.is (room_head hu) prog w _ _ ?_)
    cases hx : NestedKey.beq x y with
    | true =>
      rw [ltA_yes hx] at q
      exact kat_yes (kat_nk xs ys (i + 1) _ _ rs rs' (cmbA_yes h hx) (room_tail hu) (fun _ z => absurd z (Nat.succ_ne_zero i)) (by rw [hc]; simp) q)
    | false =>
      rw [ltA_no (cmbA_no h hx) hx] at q
      refine kat_no (one_nk (fun z t => ?_) r r' (cmbA_no h hx) (room_head hu) q)
      obtain ⟨z1, z2⟩ := Bool.and_eq_true_iff.mp z
      exact hb z1 (by simpa using z2) x xs t rfl
/-- rows of values that are keys -/
theorem tups_nk {h : Heap} : ∀ {ks : List NestedKey} {vs : List Value}, NkA h ks vs → (∀ k ∈ ks, ∃ x r, k = .tup (x :: r)) → ∃ fs, KatTups h vs fs ∧ fs.length = vs.length ∧ ∀ f ∈ fs, ∃ x r, NestedKey.tup (x :: r) ∈ ks ∧ Nk h x f
  | _, _, .nil, _ => ⟨[], KatTups.nil, rfl, fun f z => by cases z⟩
  | _, _, .cons (k := k) r t, ht => by
    obtain ⟨fs, h1, h2, h3⟩ := tups_nk t fun k m => ht k (List.mem_cons_of_mem _ m)
    obtain ⟨x, q, rfl⟩ := ht k List.mem_cons_self
    cases r with
    | @tup a o vs n _ ho hc hd hr =>
      cases e : vs.toList with
      | nil => rw [e] at hr; cases hr
      | cons f fr =>
        rw [e] at hr
        cases hr with
        | cons r1 r2 =>
          refine ⟨f :: fs, KatTups.cons ho hc hd (by rw [← Array.getElem?_toList, e]; rfl) h1, by simp [h2], fun g m => ?_⟩
          rcases List.mem_cons.mp m with rfl | m
          · exact ⟨x, q, List.mem_cons_self, r1⟩
          · obtain ⟨x', q', m1, m2⟩ := h3 g m
            exact ⟨x', q', List.mem_cons_of_mem _ m1, m2⟩
theorem NkA.mem {h : Heap} : ∀ {ks : List NestedKey} {vs : List Value}, NkA h ks vs → ∀ v ∈ vs, ∃ k ∈ ks, Nk h k v
  | _, _, .nil, v, m => by cases m
  | _, _, .cons r t, v, m => by
    rcases List.mem_cons.mp m with rfl | m
    · exact ⟨_, List.mem_cons_self, r⟩
    · obtain ⟨k, m1, m2⟩ := t.mem v m
      exact ⟨k, List.mem_cons_of_mem _ m1, m2⟩
theorem kd_tup {k : NestedKey} {c : Nat} (e : kd k = c) (h2 : 2 ≤ c) (h4 : c ≤ 4) : ∃ x r, k = .tup (x :: r) ∧ kty x = (if c = 2 then Value.type "int" else if c = 3 then Value.type "str" else Value.type "tuple") := by
  unfold kd at e
  split at e
  · omega
  · omega
  · subst e; exact ⟨_, _, rfl, rfl⟩
  · subst e; exact ⟨_, _, rfl, rfl⟩
  · subst e; exact ⟨_, _, rfl, rfl⟩
  · omega
theorem kd_one {k : NestedKey} {c : Nat} (e : kd k = c) (h2 : c < 2) : (∀ t, k ≠ .tup t) ∧ kty k = (if c = 0 then Value.type "int" else Value.type "str") := by
  unfold kd at e
  split at e
  · subst e; exact ⟨fun t z => (by cases z), rfl⟩
  · subst e; exact ⟨fun t z => (by cases z), rfl⟩
  · omega
  · omega
  · omega
  · omega
/-- they can be sorted -/
theorem sorts_nk {vs : List Value} {ks : List NestedKey} (e : NkA s.heap ks vs) (hk : Row ks) (hu : ∀ k ∈ ks, A.units + k.depth < cLine) : SortsAt prog w A s (nkKind s.heap ks) vs := by
  have room : ∀ {k k' : NestedKey}, k ∈ ks → A.units + min k.depth k'.depth < cLine := fun {k k'} m => by
    have z := hu k m
    have y := Nat.min_le_left k.depth k'.depth
    omega
  refine ⟨fun v hv => ?_, ?_⟩
  · obtain ⟨k, m, r⟩ := e.mem v hv
    exact ⟨_, nkKind_of m r⟩
  · obtain ⟨c, hc, one⟩ := hk.one
    by_cases h2 : 2 ≤ c
    · have ht : ∀ k ∈ ks, ∃ x r, k = .tup (x :: r) := fun k m => by
        obtain ⟨x, r, e, _⟩ := kd_tup (one k m) h2 hc
        exact ⟨x, r, e⟩
      refine ⟨tuples' ((if c = 2 then Value.type "int" else if c = 3 then Value.type "str" else Value.type "tuple") != Value.type "tuple"), ?_, fun hl E Q q => ?_⟩
      · intro E x y a b Q ha hb q
        obtain ⟨k, m, r, rfl⟩ := nkKind_to ha
        obtain ⟨k', m', r', rfl⟩ := nkKind_to hb
        have cc := hk.cmb k m k' m'
        have rm := room (k' := k') m
        have q' : Q (ltN k k') s := q
        cases r with
        | num i t => obtain ⟨_, _, z, _⟩ := kd_tup (one _ m) h2 hc; cases z
        | text i t => obtain ⟨_, _, z, _⟩ := kd_tup (one _ m) h2 hc; cases z
        | @tup a o us n xs g1 g2 g3 g4 =>
          cases r' with
          | num i t => simp [DL.cmb] at cc
          | text i t => simp [DL.cmb] at cc
          | @tup a' o' us' n' ys g1' g2' g3' g4' =>
            have n1 : us.size = xs.length := by simpa using g4.length
            have n2 : us'.size = ys.length := by simpa using g4'.length
            refine kat_lt g1 g3 g1' g3' (kat_nk xs ys 0 _ _ g4 g4' (by rw [DL.cmb] at cc; exact cc) (by have z := SeqAt.room_in rm; omega) (fun hb _ x r t ex => ?_) (by rw [n1, n2]) (by rw [ltN, ntk, ntk] at q'; exact q'))
            subst ex
            obtain ⟨x', r', e', hy⟩ := kd_tup (one _ m) h2 hc
            cases e'
            rintro rfl
            rw [← hy] at hb
            simp [kty] at hb
      · obtain ⟨fs, t1, t2, t3⟩ := tups_nk e ht
        refine kat_kind t1 (by omega) (fun f hf => ?_) (beq_self_eq_true _) q
        obtain ⟨x, r, m1, m2⟩ := t3 f hf
        obtain ⟨x', r', e', hy⟩ := kd_tup (one _ m1) h2 hc
        cases e'
        rw [← hy]
        exact nk_looks m2
    · refine ⟨oneType', ?_, fun hl E Q q => ?_⟩
      · intro E x y a b Q ha hb q
        obtain ⟨k, m, r, rfl⟩ := nkKind_to ha
        obtain ⟨k', m', r', rfl⟩ := nkKind_to hb
        rw [keyLt'_oneType]
        exact one_nk (fun _ => (kd_one (one k m) (by omega)).1) r r' (hk.cmb k m k' m') (room m) q
      · refine kas_kind (T := if c = 0 then Value.type "int" else Value.type "str") hl (fun v hv => ?_) (by split <;> decide) (beq_self_eq_true _) q
        obtain ⟨k, m, r⟩ := e.mem v hv
        rw [← (kd_one (one k m) (by omega)).2]
        exact nk_looks r
end
end DL

namespace DL
open PySem PySem.Spec L2
mutual
/-- data as a key -/
def nk : D → NestedKey
  | .int i => .num i
  | .str x => .text x
  | .tup xs => .tup (nks xs)
  | _ => .none
def nks : List D → List NestedKey
  | [] => []
  | x :: xs => nk x :: nks xs
end
mutual
/-- ints, texts, tuples of these -/
def nkOk : D → Bool
  | .int _ => true
  | .str _ => true
  | .tup xs => nkOks xs
  | _ => false
def nkOks : List D → Bool
  | [] => true
  | x :: xs => nkOk x && nkOks xs
end
theorem nks_map : ∀ xs : List D, nks xs = xs.map nk
  | [] => rfl
  | x :: xs => by rw [nks, nks_map xs]; rfl
theorem nkOks_all : ∀ xs : List D, nkOks xs = xs.all nkOk
  | [] => rfl
  | x :: xs => by rw [nkOks, nkOks_all xs]; rfl
mutual
theorem nk_inj : ∀ {x y : D}, nkOk x = true → nkOk y = true → nk x = nk y → x = y
  | .int _, .int _, _, _, e => by simp only [nk, NestedKey.num.injEq] at e; rw [e]
  | .str _, .str _, _, _, e => by simp only [nk, NestedKey.text.injEq] at e; rw [e]
  | .tup xs, .tup ys, hx, hy, e => by
    simp only [nk, NestedKey.tup.injEq] at e
    rw [nks_inj (by simpa [nkOk] using hx) (by simpa [nkOk] using hy) e]
  | .int _, .str _, _, _, e => by simp [nk] at e
  | .int _, .tup _, _, _, e => by simp [nk] at e
  | .str _, .int _, _, _, e => by simp [nk] at e
  | .str _, .tup _, _, _, e => by simp [nk] at e
  | .tup _, .int _, _, _, e => by simp [nk] at e
  | .tup _, .str _, _, _, e => by simp [nk] at e
  | .non, _, h, _, _ => by simp [nkOk] at h
  | .bl _, _, h, _, _ => by simp [nkOk] at h
  | .lst _, _, h, _, _ => by simp [nkOk] at h
  | .scr _, _, h, _, _ => by simp [nkOk] at h
  | .dct _, _, h, _, _ => by simp [nkOk] at h
  | _, .non, _, h, _ => by simp [nkOk] at h
  | _, .bl _, _, h, _ => by simp [nkOk] at h
  | _, .lst _, _, h, _ => by simp [nkOk] at h
  | _, .scr _, _, h, _ => by simp [nkOk] at h
  | _, .dct _, _, h, _ => by simp [nkOk] at h
theorem nks_inj : ∀ {xs ys : List D}, nkOks xs = true → nkOks ys = true → nks xs = nks ys → xs = ys
  | [], [], _, _, _ => rfl
  | [], _ :: _, _, _, e => by simp [nks] at e
  | _ :: _, [], _, _, e => by simp [nks] at e
  | x :: xs, y :: ys, hx, hy, e => by
    simp only [nkOks, Bool.and_eq_true] at hx hy
    simp only [nks, List.cons.injEq] at e
    rw [nk_inj hx.1 hy.1 e.1, nks_inj hx.2 hy.2 e.2]
end
mutual
theorem rp_nk {X : Cx} {pins : List (Addr × Obj)} {σ : L2.St} {H : Hp} {s : Shared} (I : Inv X pins σ H s) : ∀ {d : D} {v : V} {u : Value}, nkOk d = true → Rp X.K H v d → RelV v u → Nk s.heap (nk d) u
  | .int _, _, _, _, .int i, r => by
    obtain ⟨t, rfl⟩ := r
    exact .num i t
  | .str _, _, _, _, .str x, r => by
    obtain ⟨t, rfl⟩ := r
    exact .text x t
  | .tup ds, _, _, h, .tup (a := a) hq ha, r => by
    obtain rfl := show _ = Value.ref a from r
    obtain ⟨its, rv, ⟨o, ho, hc, n, hd⟩, _⟩ := I.tuple hq
    exact .tup ho hc hd (by simpa using rpAll_nk I (by simpa [nkOk] using h) ha rv)
  | .non, _, _, h, _, _ => by simp [nkOk] at h
  | .bl _, _, _, h, _, _ => by simp [nkOk] at h
  | .lst _, _, _, h, _, _ => by simp [nkOk] at h
  | .scr _, _, _, h, _, _ => by simp [nkOk] at h
  | .dct _, _, _, h, _, _ => by simp [nkOk] at h
theorem rpAll_nk {X : Cx} {pins : List (Addr × Obj)} {σ : L2.St} {H : Hp} {s : Shared} (I : Inv X pins σ H s) : ∀ {ds : List D} {vs : List V} {us : List Value}, nkOks ds = true → RpAll X.K H vs ds → Vals vs us → NkA s.heap (nks ds) us
  | [], _, _, _, .nil, .nil => .nil
  | d :: ds, _, _, h, .cons h1 h2, .cons r1 r2 => by
    simp only [nkOks, Bool.and_eq_true] at h
    exact .cons (rp_nk I h.1 h1 r1) (rpAll_nk I h.2 h2 r2)
end
/-- how sorted puts them -/
def leD (rev : Bool) : D → D → Bool := PySem.W.sortLe (PyProof.Rows.listOrd PyProof.Rows.itemOrd) rev fun d => ntk (nk d)
/-- the row can be sorted -/
def rowOk (ds : List D) : Bool := nkOks ds && ((nks ds).all fun a => (nks ds).all fun b => cmb a b) && ((nks ds).all fun a => kd a ≤ 4 && (nks ds).all fun b => kd a == kd b) && (nks ds).all (fun a => a.depth ≤ 60) && decide (ds.length ≤ 16777216)
theorem rowOk_row {ds : List D} (h : rowOk ds = true) : nkOks ds = true ∧ Row (nks ds) ∧ (∀ k ∈ nks ds, k.depth ≤ 60) ∧ ds.length ≤ sizeLine := by
  unfold rowOk at h
  simp only [Bool.and_eq_true, List.all_eq_true, decide_eq_true_eq, beq_iff_eq] at h
  obtain ⟨⟨⟨⟨h1, h2⟩, h3⟩, h4⟩, h5⟩ := h
  refine ⟨h1, ⟨h2, ?_⟩, h4, by rw [line_eq]; exact h5⟩
  cases e : nks ds with
  | nil => exact ⟨0, by omega, fun a m => by cases m⟩
  | cons k ks =>
    have m : k ∈ nks ds := by rw [e]; exact List.mem_cons_self
    refine ⟨kd k, (h3 k m).1, fun a ma => ?_⟩
    rw [← e] at ma
    exact ((h3 k m).2 a ma).symm
def dSort (rev : Bool) (ds : List D) : Option (List D) := if rowOk ds = true then some (ds.mergeSort (leD rev)) else none
/-- what the values out stand for -/
theorem each_split {K : PySem.W.Frag} {U : Hp} : ∀ {out : List Value} {ds : List D}, PySem.W.EachIs (fun u d => ∃ v, RelV v u ∧ Rp K U v d) out ds → ∃ vs, Vals vs out ∧ RpAll K U vs ds
  | _, _, .nil => ⟨[], .nil, .nil⟩
  | _, _, .cons ⟨v, r, p⟩ t => by
    obtain ⟨vs, h1, h2⟩ := each_split t
    exact ⟨v :: vs, .cons r h1, .cons p h2⟩
theorem each_join {K : PySem.W.Frag} {U : Hp} : ∀ {vs : List V} {us : List Value} {ds : List D}, Vals vs us → RpAll K U vs ds → PySem.W.EachIs (fun u d => ∃ v, RelV v u ∧ Rp K U v d) us ds
  | _, _, _, .nil, .nil => .nil
  | _, _, _, .cons r t, .cons p q => .cons ⟨_, r, p⟩ (each_join t q)
theorem each_key {h : Heap} {kz : List NestedKey} : ∀ {us : List Value} {ds : List D}, NkA h (nks ds) us → (∀ k ∈ nks ds, k ∈ kz) → PySem.W.EachIs (fun u d => (nkKind h kz).keyOf u = some (ntk (nk d))) us ds
  | _, [], .nil, _ => .nil
  | _, d :: ds, .cons r t, hm => .cons (nkKind_of (hm _ List.mem_cons_self) r) (each_key t fun k m => hm k (List.mem_cons_of_mem _ m))
/-- sorted(xs), sorted(xs, reverse=b) of data -/
def rSortD (K : PySem.W.Frag) (rev : Bool) : List V → Hp → VK → Prop := fun vs H Q => ∃ (a : Addr) (xs : List V) (U : Hp) (ds : List D), vs = [V.ref a] ∧ SqL K H a xs ∧ Same U H ∧ RpAll K U xs ds ∧ rowOk ds = true ∧
  ∀ ys p, RpAll K U ys (ds.mergeSort (leD rev)) → H p = none → Q (.ref p) (upd H p (.lst ys))
section
variable {X : Cx}
theorem sort_any {pins : List (Addr × Obj)} {s : Shared} {σ : L2.St} {H U : Hp} {a : Addr} {xs : List V} {ds : List D} {Q : VK} {rev : Bool} {G : Sem Value} (hu : X.A.units + 64 < cLine) (I : Inv X pins σ H s) (hl : SqL X.K H a xs) (sb : Same U H) (ra : RpAll X.K U xs ds) (ok : rowOk ds = true)
    (q : ∀ ys p, RpAll X.K U ys (ds.mergeSort (leD rev)) → H p = none → Q (.ref p) (upd H p (.lst ys)))
    (hG : ∀ {vs : List Value} {κ : PyProof.Rows.KeyKind} {P : Value → Shared → Prop}, s.heap.IsList a vs.toArray → PySem.W.SortsAt X.prog X.w X.A.in1.in1 { s with heap := PySem.W.sortingHeap (PySem.W.copyHeap s.heap vs) (s.heap.objs.size + 1) vs } κ vs → vs.length ≤ sizeLine →
      P (.ref (s.heap.objs.size + 1)) { s with heap := PyProof.Rows.sortedAll s.heap vs (PySem.W.sortVals κ rev vs vs).toArray } → wpAny (model X.prog X.w) X.A G P X.xe s) :
    wpAny (model X.prog X.w) X.A G (EP X pins σ Q) X.xe s := by
  obtain ⟨h1, h2, h3, h4⟩ := rowOk_row ok
  obtain ⟨its, rv, pl, hz⟩ := I.list hl
  have e0 : NkA s.heap (nks ds) its := rpAll_nk I h1 (rpAll_mono sb ra) rv
  have e1 : NkA (PySem.W.sortingHeap (PySem.W.copyHeap s.heap its) (s.heap.objs.size + 1) its) (nks ds) its := e0.keep fun b o z _ => PySem.W.sorting_copy_old z
  have hlen : its.length ≤ sizeLine := by rw [← rv.length]; exact hz
  refine hG pl.isList (sorts_nk (s := { s with heap := PySem.W.sortingHeap (PySem.W.copyHeap s.heap its) (s.heap.objs.size + 1) its }) e1 h2 fun k m => ?_) hlen ?_
  · have := h3 k m
    simp only [Around.in1_units]
    omega
  · have ev := PySem.W.sortVals_each (rev := rev) (κ := nkKind (PySem.W.sortingHeap (PySem.W.copyHeap s.heap its) (s.heap.objs.size + 1) its) (nks ds)) (fun d => ntk (nk d)) (each_join rv ra) (each_key e1 fun k m => m)
    obtain ⟨ys, r1, r2⟩ := each_split ev
    obtain ⟨ep, he⟩ := PyProof.Rows.sortedAll_at s.heap its (PySem.W.sortVals (nkKind (PySem.W.sortingHeap (PySem.W.copyHeap s.heap its) (s.heap.objs.size + 1) its) (nks ds)) rev its its).toArray
    have hy : ys.length ≤ sizeLine := by
      rw [r2.length, List.length_mergeSort]
      exact h4
    exact ⟨.ref _, upd H (s.heap.objs.size + 1) (.lst ys), I.laid (t' := s.toks) (fun _ _ => PyProof.Rows.sortedAll_old) (Nat.le_succ _) ⟨hy, _, ep, r1, he⟩, rfl, q ys _ r2 (I.hok.fresh (Nat.le_succ _))⟩
theorem cr_sortD (hu : X.A.units + 64 < cLine) : CallR X (.builtin "sorted") (rSortD X.K false) := by
  intro pins s σ H vs us Q I r h
  obtain ⟨a, xs, U, ds, rfl, hl, sb, ra, ok, q⟩ := h
  obtain ⟨u, rfl, ru⟩ := vals1 r
  obtain rfl : u = Value.ref a := ru
  exact sort_any hu I hl sb ra ok q fun g1 g2 g3 g4 => PySem.W.sorted_vals g1 g2 g3 g4
end
end DL

namespace DL
open PySem PySem.Spec L2
mutual
theorem nkOk_noL : ∀ {d : D}, nkOk d = true → noL d = true
  | .int _, _ => rfl
  | .str _, _ => rfl
  | .tup xs, h => by simp only [noL]; exact nkOks_noL (by simpa [nkOk] using h)
  | .non, h => by simp [nkOk] at h
  | .bl _, h => by simp [nkOk] at h
  | .lst _, h => by simp [nkOk] at h
  | .scr _, h => by simp [nkOk] at h
  | .dct _, h => by simp [nkOk] at h
theorem nkOks_noL : ∀ {ds : List D}, nkOks ds = true → noLs ds = true
  | [], _ => rfl
  | d :: ds, h => by
    simp only [nkOks, Bool.and_eq_true] at h
    simp only [noLs, nkOk_noL h.1, nkOks_noL h.2, Bool.and_self]
end
/-- sorted(..) -/
def dSorted (rev : Bool) : List D → Option (List D)
  | [.lst xs] => dSort rev xs
  | _ => none
theorem boot_sorted' : bootBuiltins "sorted" = some (.builtin "sorted") := by decide +kernel
section
variable {X : Cx} {a b c : Expr} {es : List Expr} {f g h : Ex} {fs : Exs} {al bl cl : List Nat} {p pos : Pos}
theorem sort_arg {K : PySem.W.Frag} {rev : Bool} {ρ : Rho} {σ : L2.St} {O : Addr → Bool} {W H : Hp} {vs : List V} {ds xs : List D} {Q : VK} (r : RS K ρ σ O W H) (e : dSorted rev ds = some xs) (p : RpAll K (vw ρ σ al W H) vs ds)
    (q : ∀ us l, RpAll K (vw ρ σ [] W H) us xs → H l = none → Q (.ref l) (upd H l (.lst us))) : rSortD K rev vs H Q := by
  unfold dSorted at e
  split at e
  · unfold dSort at e
    split at e
    · rename_i ok
      cases e
      obtain ⟨v, rfl, p1⟩ := rpAll1 p
      obtain ⟨a', ws, rfl, k, ra⟩ := rp_lst p1
      refine ⟨a', ws, W, _, rfl, .inl (.inl (vw_sub r.sub _ _ k)), r.sub, rpAll_down r (nkOks_noL (rowOk_row ok).1) ra, ok, fun ys l ry n => q ys l ?_ n⟩
      rw [vw_nil]
      exact ry
    · cases e
  · cases e
theorem dn_sortc (hu : X.A.units + 64 < cLine) (hg : Gl X "sorted") (hm : X.mg "sorted" = none) (ha : DA X (a :: es) fs al) (he : starEach (a :: es) X.env = (false, eval a X.env) :: starEach es X.env := by rfl) (hpl : (backTo pos (starEach es X.env)).any (·.1) = false := by rfl) :
    DN X (.Call (.Name "sorted" p) (a :: es) [] pos) (nL (dSorted false) fs) [] :=
  cbN (pe_callB (cr_sortD hu) hg hm boot_sorted' ha (he := he) (hpl := hpl)) fun ρ σ O W H vs ds xs Q r e p q => sort_arg r e p q
/-- with reverse=.. -/
theorem cr_sortR (hu : X.A.units + 64 < cLine) {rev : Bool} : CallRK X (.builtin "sorted") [Str.ofString "reverse"] (fun vs zs H Q => zs = [.bl rev] ∧ rSortD X.K rev vs H Q) := by
  intro pins s σ H vs zs us ws Q I r rz h
  obtain ⟨rfl, a, xs, U, ds, rfl, hl, sb, ra, ok, q⟩ := h
  obtain ⟨u, rfl, ru⟩ := vals1 r
  obtain rfl : u = Value.ref a := ru
  obtain ⟨w1, rfl, e1⟩ := vals1 rz
  obtain rfl : w1 = Value.bool rev := e1
  exact sort_any hu I hl sb ra ok q fun g1 g2 g3 g4 => PySem.W.sorted_rev_vals g1 g2 g3 g4
theorem cbNK {e : Expr} {v : V} {r : List V → List V → Hp → VK → Prop} {k : List D → Option (List D)} (he : PE X e (tCKw r (tPs X.K fs al) (tCons (tC v) tNil)))
    (hg : ∀ (ρ : Rho) (σ : L2.St) (O : Addr → Bool) (W H : Hp) (vs : List V) (ds xs : List D) (Q : VK), RS X.K ρ σ O W H → k ds = some xs → RpAll X.K (vw ρ σ al W H) vs ds → (∀ us l, RpAll X.K (vw ρ σ cl W H) us xs → H l = none → Q (.ref l) (upd H l (.lst us))) → r vs [v] H Q) : DN X e (nL k fs) cl :=
  pe_imp he fun σ H Q ⟨ρ, O, W, d, rs, e, q⟩ => by
    obtain ⟨ds, h1, e⟩ := opt_bind e
    refine ⟨ρ, O, W, ds, rs, h1, fun vs W1 H1 s1 p1 => hg ρ σ O W1 H1 vs ds d Q (rs.pstep s1) e p1 fun us l ra n => ?_⟩
    have wn : W1 l = none := by
      cases z : W1 l with
      | none => rfl
      | some o => rw [s1.sub l o z] at n; cases n
    have st : PStep W1 H1 W1 (upd H1 l (.lst us)) := ⟨fun _ _ e => e, fun b o e => by rw [upd_ne (ne_of_none e n)]; exact e, fun b o e => by rw [upd_ne (ne_of_none (s1.sub b o e) n)]; exact s1.sub b o e, fun _ _ e => .inl e⟩
    exact q l us W1 _ (s1.trans st) (s1.keep.free n) wn upd_same (rpAll_mono (vw_step st) ra)
theorem dn_sortR {rev : Bool} {j : Nat} {kp kq : Pos} (hu : X.A.units + 64 < cLine) (hg : Gl X "sorted") (hm : X.mg "sorted" = none) (ha : DA X (a :: es) fs al)
    (he : backTo pos (starEach (a :: es) X.env) = (false, eval a X.env) :: backTo pos (starEach es X.env) := by rfl) (hpl : (backTo pos (starEach (a :: es) X.env)).any (·.1) = false := by rfl) :
    DN X (.Call (.Name "sorted" p) (a :: es) [⟨some "reverse", .Constant (.bool rev) j kp, kq⟩] pos) (nL (dSorted rev) fs) [] :=
  cbNK (pe_callBK (cr_sortR hu) hg hm boot_sorted' ha (pk_cons pe_bl pk_nil) (he := he) (hpl := hpl)) fun ρ σ O W H vs ds xs Q r e p q => ⟨rfl, sort_arg r e p q⟩
end
end DL

namespace DL
open PySem PySem.Spec L2
def imax (n : Int) (ns : List Int) : Int := ns.foldl (fun a y => if a < y then y else a) n
theorem imax_cons (n m : Int) (ns : List Int) : imax n (m :: ns) = imax (if n < m then m else n) ns := rfl
theorem imax_ge : ∀ (ns : List Int) (n : Int), n ≤ imax n ns ∧ (∀ y ∈ ns, y ≤ imax n ns) ∧ imax n ns ∈ n :: ns
  | [], n => ⟨Int.le_refl n, fun y h => absurd h (by simp), List.mem_cons_self⟩
  | m :: ns, n => by
    have ih := imax_ge ns (if n < m then m else n)
    rw [← imax_cons] at ih
    obtain ⟨h1, h2, h3⟩ := ih
    refine ⟨?_, fun y hy => ?_, ?_⟩
    · split at h1 <;> omega
    · rcases List.mem_cons.mp hy with rfl | hy
      · split at h1 <;> omega
      · exact h2 y hy
    · rcases List.mem_cons.mp h3 with z | z
      · rw [z]
        split
        · exact List.mem_cons_of_mem _ List.mem_cons_self
        · exact List.mem_cons_self
      · exact List.mem_cons_of_mem _ (List.mem_cons_of_mem _ z)
theorem imax_one {n m : Int} {ns : List Int} (h1 : m ∈ n :: ns) (h2 : ∀ y ∈ n :: ns, y ≤ m) : m = imax n ns := by
  obtain ⟨a1, a2, a3⟩ := imax_ge ns n
  have b1 := h2 _ a3
  rcases List.mem_cons.mp h1 with rfl | z
  · omega
  · have := a2 m z
    omega
/-- max([..]) -/
def dMaxL : List D → Option D
  | [.lst xs] => match dInts xs with
    | some (n :: ns) => some (.int (imax n ns))
    | _ => none
  | _ => none
def dMaxD (z : Int) : List D → Option D
  | [.lst xs] => match dInts xs with
    | some (n :: ns) => some (.int (imax n ns))
    | some [] => some (.int z)
    | _ => none
  | _ => none
section
variable {X : Cx} {a b c : Expr} {es : List Expr} {f g h : Ex} {fs : Exs} {al bl cl : List Nat} {p pos : Pos}
theorem dp_maxL (hc : X.calm = true) (hg : Gl X "max") (hm : X.mg "max" = none) (ha : DA X (a :: es) fs al) (he : starEach (a :: es) X.env = (false, eval a X.env) :: starEach es X.env := by rfl) (hpl : (backTo pos (starEach es X.env)).any (·.1) = false := by rfl) :
    DP X (.Call (.Name "max" p) (a :: es) [] pos) (eA dMaxL fs) [] := by
  refine cb (pe_callB (cr_max hc) hg hm boot_max' ha (he := he) (hpl := hpl)) fun ρ σ O W H vs ds d Q r e p q => ?_
  unfold dMaxL at e
  split at e
  · split at e
    · rename_i n ns hn
      cases e
      obtain ⟨v, rfl, p1⟩ := rpAll1 p
      obtain ⟨a', ws, rfl, k, ra⟩ := rp_lst p1
      rw [dInts_map hn] at ra
      have := ra.toInts
      subst this
      refine ⟨a', n :: ns, rfl, .inl (.inl (vw_sub r.sub _ _ k)), by simp, fun m h1 h2 => ?_⟩
      rw [imax_one h1 h2]
      exact q.here r.sub (.int _)
    · cases e
  · cases e
theorem maxOf_int : ∀ (ns : List Int) (n : Int), PySem.W.maxOf n ns = imax n ns := fun ns n => by
  unfold PySem.W.maxOf imax
  congr 1
  funext a y
  show (if decide (a < y) = true then y else a) = _
  simp
theorem hold_ints {h : Heap} : ∀ {us : List Value} {ns : List Int}, Vals (ns.map V.int) us → ∃ as, ReadsAll h us (ns.map PyData.int) as
  | _, [], .nil => ⟨_, .nil⟩
  | _, n :: ns, .cons r t => by
    obtain ⟨tk, rfl⟩ := r
    obtain ⟨as, z⟩ := hold_ints (h := h) t
    exact ⟨_, .cons (.int n tk) z⟩
theorem cr_maxD (hc : X.calm = true) (hu : X.A.units + 64 < cLine) {z : Int} : CallRK X (.builtin "max") [Str.ofString "default"] (fun vs zs H Q => zs = [.int z] ∧ ∃ (a : Addr) (ns : List Int), vs = [V.ref a] ∧ SqL X.K H a (ns.map V.int) ∧ (ns = [] → Q (.int z) H) ∧ (∀ n ms, ns = n :: ms → Q (.int (imax n ms)) H)) := by
  intro pins s σ H vs zs us ws Q I r rz h
  obtain ⟨rfl, a, ns, rfl, hl, q0, q1⟩ := h
  obtain ⟨u, rfl, ru⟩ := vals1 r
  obtain rfl : u = Value.ref a := ru
  obtain ⟨w1, rfl, tk, rfl⟩ := vals1 rz
  obtain ⟨its, rv, pl, hz⟩ := I.list hl
  obtain ⟨as, hh⟩ := hold_ints (h := s.heap) rv
  refine PySem.W.max_list_datum_default (α := Int) (xs := ns) (I.ok.hd hc) pl.isList ⟨as, hh⟩ (by show X.A.units + 1 + 0 < cLine; omega) (fun e h' tk' kp => ?_) fun n ms i v h' tk' e hi ho kp => ?_
  · exact ⟨.int z, H, I.kept kp, ⟨_, rfl⟩, q0 e⟩
  · obtain ⟨bs, rr⟩ := ho
    rw [maxOf_int] at rr
    cases rr with
    | int _ t => exact ⟨.int _, H, I.kept kp, ⟨_, rfl⟩, q1 n ms e⟩
theorem cbK {e : Expr} {v : V} {r : List V → List V → Hp → VK → Prop} {k : List D → Option D} (he : PE X e (tCKw r (tPs X.K fs al) (tCons (tC v) tNil)))
    (hg : ∀ (ρ : Rho) (σ : L2.St) (O : Addr → Bool) (W H : Hp) (vs : List V) (ds : List D) (d : D) (Q : VK), RS X.K ρ σ O W H → k ds = some d → RpAll X.K (vw ρ σ al W H) vs ds → Post X.K ρ σ cl W H d Q → r vs [v] H Q) : DP X e (eA k fs) cl :=
  pe_imp he fun σ H Q ⟨ρ, O, W, d, rs, e, q⟩ => by
    obtain ⟨ds, h1, e⟩ := opt_bind e
    exact ⟨ρ, O, W, ds, rs, h1, fun vs W1 H1 s1 p1 => hg ρ σ O W1 H1 vs ds d Q (rs.pstep s1) e p1 (q.step s1)⟩
theorem dp_maxD {z : Int} {j : Nat} {kp kq : Pos} (hc : X.calm = true) (hu : X.A.units + 64 < cLine) (hg : Gl X "max") (hm : X.mg "max" = none) (ha : DA X (a :: es) fs al)
    (he : backTo pos (starEach (a :: es) X.env) = (false, eval a X.env) :: backTo pos (starEach es X.env) := by rfl) (hpl : (backTo pos (starEach (a :: es) X.env)).any (·.1) = false := by rfl) :
    DP X (.Call (.Name "max" p) (a :: es) [⟨some "default", .Constant (.int z) j kp, kq⟩] pos) (eA (dMaxD z) fs) [] := by
  refine cbK (pe_callBK (cr_maxD (z := z) hc hu) hg hm boot_max' ha (pk_cons pe_int pk_nil) (he := he) (hpl := hpl)) fun ρ σ O W H vs ds d Q r e p q => ?_
  unfold dMaxD at e
  split at e
  · obtain ⟨v, rfl, p1⟩ := rpAll1 p
    obtain ⟨a', ws, rfl, k, ra⟩ := rp_lst p1
    split at e
    · rename_i n ns hn
      cases e
      rw [dInts_map hn] at ra
      have := ra.toInts
      subst this
      exact ⟨rfl, a', n :: ns, rfl, .inl (.inl (vw_sub r.sub _ _ k)), fun z => (by cases z), fun m ms z => by cases z; exact q.here r.sub (.int _)⟩
    · rename_i hn
      cases e
      rw [dInts_map hn] at ra
      have := ra.toInts
      subst this
      exact ⟨rfl, a', [], rfl, .inl (.inl (vw_sub r.sub _ _ k)), fun _ => q.here r.sub (.int _), fun m ms z => by cases z⟩
    · cases e
  · cases e
/-- xs.count(y) -/
def dCount : D → D → Option D
  | .lst xs, y => if (pls xs && pl y && decide (min (dpts xs) (dpt y) ≤ 60)) = true then some (.int (xs.countP fun x => deq x y)) else none
  | _, _ => none
theorem countP_py {y : D} (hy : pl y = true) : ∀ {xs : List D}, pls xs = true → ((pys xs).countP fun z => PyData.eqv z (py y)) = xs.countP fun x => deq x y
  | [], _ => rfl
  | x :: xs, h => by
    simp only [pls, Bool.and_eq_true] at h
    simp only [pys, List.countP_cons, py_eqv h.1 hy, countP_py hy h.2]
def rCnt (K : PySem.W.Frag) : V → List V → Hp → VK → Prop := fun x xs H Q => ∃ (y : V) (d : PyData) (ds : List PyData), xs = [y] ∧ Dp K H x (.list ds) ∧ Dp K H y d ∧ PyData.plainAll ds = true ∧ d.plain = true ∧ min (PyData.depthAll ds) d.depth ≤ 60 ∧ Q (.int (ds.countP fun z => PyData.eqv z d : Nat)) H
theorem mt_cnt (hu : X.A.units + 64 < cLine) : MtR X "list.count" (rCnt X.K) := by
  intro pins s σ H x xs v us Q I rx rxs h
  obtain ⟨y, d, ds, rfl, h1, h2, h3, h4, h5, q⟩ := h
  obtain ⟨u, rfl, ru⟩ := rxs.one
  obtain ⟨as, r1⟩ := Dp.reads I (.list ds) x v h1 rx
  obtain ⟨bs, r2⟩ := Dp.reads I d y u h2 ru
  cases r1 with
  | list g1 g2 g3 g4 => exact SeqAt.count_list_data ⟨_, g1, g2, _, g3⟩ g4 r2 h3 h4 (by omega) ⟨.int _, H, I.tok _, ⟨_, rfl⟩, q⟩
theorem dp_count {apos cpos : Pos} (hu : X.A.units + 64 < cLine) (ha : DP X a f al) (hb : DP X b g bl)
    (hbase : attributeBase a "count" X.env (eval a X.env) = eval a X.env := by rfl)
    (hfew : ((backTo cpos (starEach [b] X.env)).all (fun x => !x.1) && (backToKw cpos (keywordEach [] X.env)).all (fun x => x.1.isSome) && decide ([b].length + ([] : List Keyword).length + (if ([] : List Keyword).isEmpty then 0 else 1) < 30)) = true := by rfl)
    (hline : (apos.endLine == cpos.line) = true := by rfl) (hs : starEach [b] X.env = (false, eval b X.env) :: starEach [] X.env := by rfl) (hplain : (backTo cpos (starEach [] X.env)).any (·.1) = false := by rfl) :
    DP X (.Call (.Attribute a "count" apos) [b] [] cpos) (e2 dCount f g) [] := by
  refine pe_imp (pe_bm PySem.F.plainAttrs_list PySem.F.slot_list_count PySem.F.type_list_count (mt_cnt hu) ha (pa_cons hb pa_nil hs) hbase hfew hline hs hplain) fun σ H Q ⟨ρ, O, W, d, rs, e, q⟩ => ?_
  obtain ⟨x, h1, e1⟩ := opt_bind e
  obtain ⟨y, h2, e2⟩ := opt_bind e1
  clear e e1
  unfold dCount at e2
  split at e2
  · rename_i xs
    split at e2
    · rename_i hh
      cases e2
      simp only [Bool.and_eq_true, decide_eq_true_eq] at hh
      refine ⟨ρ, O, W, _, rs, h1, fun v1 W1 H1 s1 p1 => ⟨?_, ρ, O, W1, y, rs.pstep s1, h2, fun v2 W2 H2 s2 p2 => ?_⟩⟩
      · obtain ⟨a', ws, rfl, k, ra⟩ := rp_lst p1
        exact .inl ⟨rfl, ws, .inl (.inl (vw_sub s1.sub _ _ k))⟩
      · have s := s1.trans s2
        refine ⟨v2, py y, pys xs, rfl, dp_dp_mono (vw_sub s.sub) (rp_dp (d := .lst xs) (by simpa [pl] using hh.1.1) (rp_mono (vw_step s2) p1)), dp_dp_mono (vw_sub s.sub) (rp_dp hh.1.2 p2), pys_plain xs, py_plain y, by rw [py_depth, pys_depth]; exact hh.2, ?_⟩
        rw [countP_py hh.1.2 hh.1.1]
        exact (q.step s).here s.sub (.int _)
    · cases e2
  · cases e2
/-- x < y: ints, texts, tuples -/
def dLt : D → D → Option D
  | .int i, .int j => some (.bl (decide (i < j)))
  | x, y => if (nkOk x && nkOk y && cmb (nk x) (nk y) && decide (min (nk x).depth (nk y).depth ≤ 60)) = true then some (.bl (ltN (nk x) (nk y))) else none
def rLt (K : PySem.W.Frag) : R2 := fun v1 v2 H Q => ∃ x y, Rp K H v1 x ∧ Rp K H v2 y ∧ nkOk x = true ∧ nkOk y = true ∧ cmb (nk x) (nk y) = true ∧ min (nk x).depth (nk y).depth ≤ 60 ∧ Q (.bl (ltN (nk x) (nk y))) H
theorem op_ltN (hu : X.A.units + 64 < cLine) : OpR X (compareOp .Lt) (rLt X.K) := by
  intro pins s σ H v1 v2 u1 u2 Q I r1 r2 h
  obtain ⟨x, y, p1, p2, n1, n2, hc, hd, q⟩ := h
  exact rcLt_nk (nk x) (nk y) X.A s u1 u2 (rp_nk I n1 p1 r1) (rp_nk I n2 p2 r2) hc (by omega) X.prog X.w X.xe _ ⟨.bl _, H, I, rfl, q⟩
theorem dc_ltG (hu : X.A.units + 64 < cLine) (ha : DP X a f al) (hb : DP X b g bl) : DC X .Lt a b (e2 dLt f g) := by
  refine dc_mk (op_lt.or (op_ltN hu)) (fun ρ σ O W H v1 v2 x y d Q r e p1 p2 q => ?_) ha hb
  unfold dLt at e
  split at e
  · cases e; cases p1; cases p2
    exact .inl ⟨_, _, rfl, rfl, q.here r.sub (.bl _)⟩
  · split at e
    · rename_i hh
      cases e
      simp only [Bool.and_eq_true, decide_eq_true_eq] at hh
      have sb := vw_sub (ρ := ρ) (σ := σ) (al := al ++ bl) r.sub
      exact .inr ⟨x, y, rp_mono sb p1, rp_mono sb p2, hh.1.1.1, hh.1.1.2, hh.1.2, hh.2, q.here r.sub (.bl _)⟩
    · cases e
end
end DL

namespace DL
open PySem PySem.Spec L2
/-- a slice of a list, a new list -/
def dCut (i j : Option Int) : D → Option (List D)
  | .lst xs => some (cutG xs i j)
  | .scr ns => some (cutG (ns.map .int) i j)
  | _ => none
def nSl (f : Ex) (l u : Eo) : Exs := fun ρ => (f ρ).bind fun x => (l ρ).bind fun i => (u ρ).bind fun j => dCut i j x
section
variable {X : Cx} {a b c : Expr} {es : List Expr} {f g h : Ex} {fs : Exs} {al bl cl : List Nat} {p pos : Pos}
theorem new_step {W H : Hp} (sb : Same W H) {l : Addr} {us : List V} (n : H l = none) : W l = none ∧ PStep W H W (upd H l (.lst us)) := by
  refine ⟨?_, fun _ _ e => e, fun b o e => by rw [upd_ne (ne_of_none e n)]; exact e, fun b o e => by rw [upd_ne (ne_of_none (sb b o e) n)]; exact sb b o e, fun _ _ e => .inl e⟩
  cases z : W l with
  | none => rfl
  | some o => rw [sb l o z] at n; cases n
theorem dn_slv (i : Nat) {e : Expr} {lo hi : Option Expr} {l u : Eo} {p2} (ha : PE X e (tVar i)) (hl : DO X lo l) (hh : DO X hi u) : DN X (.Subscript e (.Slice lo hi none p2) pos) (nSl (eV i) l u) [] := by
  refine pe_imp (pe_slice sl_list ha hl hh) fun σ H Q ⟨ρ, O, W, ds, rs, e, q⟩ => ?_
  obtain ⟨x, h1, e⟩ := opt_bind e
  obtain ⟨i', h2, e⟩ := opt_bind e
  obtain ⟨j, h3, e⟩ := opt_bind e
  have fin : ∀ (W3 H3 : Hp), PStep W H W3 H3 → ∀ (us : List V), RpAll X.K W3 us ds → ∀ p, H3 p = none → Q (.ref p) (upd H3 p (.lst us)) := fun W3 H3 s us ra p n => by
    obtain ⟨wn, st⟩ := new_step s.sub (us := us) n
    refine q p us W3 _ (s.trans st) (s.keep.free n) wn upd_same ?_
    rw [vw_nil]
    exact ra
  unfold eV at h1
  split at h1
  · rename_i d' q'
    cases h1
    obtain ⟨v, k1, k2⟩ := rs.vals i _ q'
    refine ⟨v, k1, ρ, O, W, i', rs, h2, fun W2 H2 s2 => ⟨ρ, O, W2, j, rs.pstep s2, h3, fun W3 H3 s3 => ?_⟩⟩
    have s := s2.trans s3
    have p1 := rp_mono s.le k2
    unfold dCut at e
    split at e
    · cases e
      obtain ⟨a', vs, rfl, k, ra⟩ := rp_lst p1
      exact ⟨a', vs, rfl, .inl (.inl (s.sub _ _ k)), fun p n => fin W3 H3 s _ (ra.cut i' j) p n⟩
    · cases e
      cases p1 with
      | scr k => exact ⟨_, _, rfl, sqL_mono s.sub k.sq, fun p n => fin W3 H3 s _ ((map_ints _).cut i' j) p n⟩
    · cases e
  · rename_i xs q'
    cases h1
    obtain ⟨a', vs, k1, k2, k3, k4⟩ := rs.owns i _ q'
    cases e
    refine ⟨.ref a', k1, ρ, O, W, i', rs, h2, fun W2 H2 s2 => ⟨ρ, O, W2, j, rs.pstep s2, h3, fun W3 H3 s3 => ?_⟩⟩
    have s := s2.trans s3
    exact ⟨a', vs, rfl, .inl (.inl (s.keep _ _ k3)), fun p n => fin W3 H3 s _ ((rpAll_mono s.le k4).cut i' j) p n⟩
  · cases h1
end
end DL

namespace DL
open PySem L2
section
variable {ρ ρ' : Rho} {f g : Ex} {fs : Exs} {t u : Te} {F G : Sx}
theorem w_ltI {i j : Int} {Q : D → Prop} (q : Q (.bl (decide (i < j)))) : Wp (dLt (.int i) (.int j)) Q := ⟨_, rfl, q⟩
theorem dLt_of {x y : D} (h : (nkOk x && nkOk y && cmb (nk x) (nk y) && decide (min (nk x).depth (nk y).depth ≤ 60)) = true) : dLt x y = some (.bl (ltN (nk x) (nk y))) := by
  unfold dLt
  split
  · rw [nk, nk, ltN_num]
  · exact if_pos h
theorem w_lt {x y : D} {Q : D → Prop} (h : (nkOk x && nkOk y && cmb (nk x) (nk y) && decide (min (nk x).depth (nk y).depth ≤ 60)) = true) (q : Q (.bl (ltN (nk x) (nk y)))) : Wp (dLt x y) Q := ⟨_, dLt_of h, q⟩
theorem w_maxL {n : Int} {xs : List D} {ns : List Int} {Q : D → Prop} (h : xs = (n :: ns).map .int) (q : Q (.int (imax n ns))) : Wp (dMaxL [.lst xs]) Q := ⟨_, by subst h; show (match dInts _ with | some (n :: ns) => _ | _ => none) = _; rw [dInts_of], q⟩
theorem w_maxD0 {z : Int} {Q : D → Prop} (q : Q (.int z)) : Wp (dMaxD z [.lst []]) Q := ⟨_, rfl, q⟩
theorem w_maxD {z n : Int} {xs : List D} {ns : List Int} {Q : D → Prop} (h : xs = (n :: ns).map .int) (q : Q (.int (imax n ns))) : Wp (dMaxD z [.lst xs]) Q := ⟨_, by subst h; show (match dInts _ with | some (n :: ns) => _ | some [] => _ | _ => none) = _; rw [dInts_of], q⟩
theorem w_count {xs : List D} {y : D} {Q : D → Prop} (h : (pls xs && pl y && decide (min (dpts xs) (dpt y) ≤ 60)) = true) (q : Q (.int (xs.countP fun x => deq x y))) : Wp (dCount (.lst xs) y) Q := ⟨_, if_pos h, q⟩
theorem w_sorted {rev : Bool} {xs : List D} {Q : List D → Prop} (h : rowOk xs = true) (q : Q (xs.mergeSort (leD rev))) : Wp (dSorted rev [.lst xs]) Q := ⟨_, if_pos h, q⟩
theorem w_nSl {l u : Eo} {Q : List D → Prop} (q : Wp (f ρ) fun x => Wp (l ρ) fun i => Wp (u ρ) fun j => Wp (dCut i j x) Q) : Wp (nSl f l u ρ) Q := w_bind (q.mono fun _ z => w_bind (z.mono fun _ y => w_bind y))
theorem w_cutL {i j : Option Int} {xs : List D} {Q : List D → Prop} (q : Q (cutG xs i j)) : Wp (dCut i j (.lst xs)) Q := ⟨_, rfl, q⟩
theorem w_slL {i j : Option Int} {xs : List D} {Q : D → Prop} (q : Q (.lst (cutG xs i j))) : Wp (dSl i j (.lst xs)) Q := ⟨_, rfl, q⟩
theorem w_slR {i j : Option Int} {xs : List Int} {Q : D → Prop} (q : Q (.lst (cutG (xs.map .int) i j))) : Wp (dSl i j (.scr xs)) Q := ⟨_, rfl, q⟩
theorem w_gL2 {gs : List D → Rho → Option Rho} {a b : D} {Q : Rho → Prop} (q : Wp (gs [a, b] ρ) Q) : Wp (gT 2 gs (.lst [a, b]) ρ) Q := w_gL rfl q
theorem w_gL3 {gs : List D → Rho → Option Rho} {a b c : D} {Q : Rho → Prop} (q : Wp (gs [a, b, c] ρ) Q) : Wp (gT 3 gs (.lst [a, b, c]) ρ) Q := w_gL rfl q
theorem w_gL5 {gs : List D → Rho → Option Rho} {a b c d e : D} {Q : Rho → Prop} (q : Wp (gs [a, b, c, d, e] ρ) Q) : Wp (gT 5 gs (.lst [a, b, c, d, e]) ρ) Q := w_gL rfl q
theorem w_ixLl {xs : List D} {i : Int} {d : D} {Q : D → Prop} (e : atI xs i = some d) (q : Q d) : Wp (dIx (.lst xs) (.int i)) Q := ⟨d, e, q⟩
/-- a comprehension over a row of things that are told as data -/
theorem w_compM {α : Type} {g : D → Rho → Option Rho} (e k : α → D) : ∀ {xs : List α} {Q : List D → Prop}, (∀ x ∈ xs, Wp (g (e x) ρ) fun ρ1 => Wp (f ρ1) fun y => y = k x) → Q (xs.map k) → Wp (compS g tY f ρ (xs.map e)) Q
  | [], Q, _, q => ⟨[], rfl, q⟩
  | x :: xs, Q, h, q => by
    refine w_compC ((h x List.mem_cons_self).mono fun ρ1 z => z.mono fun y hy => ?_)
    subst hy
    exact (w_compM e k (Q := fun ys => ys = xs.map k) (fun x' m => h x' (List.mem_cons_of_mem _ m)) rfl).mono fun ys hy => by
      subst hy
      exact q
theorem noO_nil : noO [] ρ = true := rfl
theorem noO_cons {i : Nat} {al : List Nat} : noO (i :: al) ρ = (!isOwn ρ i && noO al ρ) := rfl
theorem isOwn_val {d : D} : isOwn (.val d :: ρ) 0 = false := rfl
theorem isOwn_no : isOwn (.no :: ρ) 0 = false := rfl
theorem isOwn_own {xs : List D} : isOwn (.own xs :: ρ) 0 = true := rfl
theorem isOwn_succ {s : Sl} {i : Nat} : isOwn (s :: ρ) (i + 1) = isOwn ρ i := by unfold isOwn; rw [List.getElem?_cons_succ]
theorem unown_noO {al : List Nat} (h : noO al ρ = true) : unown al ρ = ρ := by
  refine List.ext_getElem? fun i => ?_
  rw [unown_get]
  cases e : ρ[i]? with
  | none => rfl
  | some s =>
    cases s with
    | no => rfl
    | val d => rfl
    | own xs =>
      show some (if al.contains i = true then Sl.val (.lst xs) else Sl.own xs) = _
      rw [if_neg fun z => ?_]
      have q := List.all_eq_true.mp h i (by simpa using z)
      unfold isOwn at q
      rw [e] at q
      cases q
theorem esc_noO {al : List Nat} {d : D} (h : noO al ρ = true) : esc al d ρ = ρ := by
  unfold esc
  rw [h, Bool.true_or]
  exact if_pos rfl
end
/-! ### what is sorted -/
theorem sort_perm {rev : Bool} {xs : List D} : (xs.mergeSort (leD rev)).Perm xs := List.mergeSort_perm xs _
theorem leD_total (rev : Bool) : PySem.W.TotalLe (leD rev) := PySem.W.sortLe_total _ _ _
theorem sort_pair {rev : Bool} {xs : List D} : (xs.mergeSort (leD rev)).Pairwise (fun a b => leD rev a b = true) := PySem.W.sort_pairwise (leD_total rev) xs
theorem leD_true {x y : D} : leD true x y = true ↔ ltN (nk x) (nk y) = false := by
  show (!lxT _ _) = true ↔ _
  rw [Bool.not_eq_true']
  rfl
theorem leD_false {x y : D} : leD false x y = true ↔ ltN (nk y) (nk x) = false := by
  show (!lxT _ _) = true ↔ _
  rw [Bool.not_eq_true']
  rfl
end DL

/-! Statements as data. -/
namespace ST
open PySem L2 DL
inductive U where
  | nt | al | so
  deriving DecidableEq
inductive B2 where
  | an | or | im
  deriving DecidableEq
def U.nm : U → Str
  | .nt => "not"
  | .al => "all"
  | .so => "some"
def B2.nm : B2 → Str
  | .an => "and"
  | .or => "or"
  | .im => "if"
inductive Stm where
  | yn (b : Bool)
  | word (w : Str) (ts : List Str)
  | un (k : U) (a : Stm)
  | bin (k : B2) (a b : Stm)
def ynm (b : Bool) : Str := if b then "yes" else "no"
def enc : Stm → D
  | .yn b => .tup [.str (ynm b)]
  | .word w ts => .tup [.str "word", .str w, .tup (ts.map .str)]
  | .un k a => .tup [.str k.nm, enc a]
  | .bin k a b => .tup [.str k.nm, enc a, enc b]
def sgn : Stm → Nat
  | .yn _ => 0
  | .word _ _ => 0
  | .un _ a => sgn a + 1
  | .bin _ a b => sgn a + sgn b + 1
def dep : Stm → Nat
  | .yn _ => 0
  | .word _ _ => 0
  | .un _ a => dep a + 1
  | .bin _ a b => max (dep a) (dep b) + 1
def short : Stm → Prop
  | .yn _ => True
  | .word _ ts => ts.length ≤ 3
  | .un _ a => short a
  | .bin _ a b => short a ∧ short b
theorem dep_le : ∀ a : Stm, dep a ≤ sgn a
  | .yn _ => Nat.le_refl _
  | .word _ _ => Nat.le_refl _
  | .un _ a => Nat.succ_le_succ (dep_le a)
  | .bin _ a b => by
    have h1 := dep_le a
    have h2 := dep_le b
    show max (dep a) (dep b) + 1 ≤ sgn a + sgn b + 1
    omega
theorem noLs_strs : ∀ ts : List Str, noLs (ts.map D.str) = true
  | [] => by simp [noLs]
  | t :: r => by
    rw [List.map_cons, noLs, noLs_strs r]
    simp [noL]
theorem noL_enc : ∀ a : Stm, noL (enc a) = true
  | .yn b => by simp [enc, noL, noLs]
  | .word w ts => by simp [enc, noL, noLs, noLs_strs]
  | .un k a => by simp [enc, noL, noLs, noL_enc a]
  | .bin k a b => by simp [enc, noL, noLs, noL_enc a, noL_enc b]
theorem noLs_encs : ∀ l : List Stm, noLs (l.map enc) = true
  | [] => by simp [noLs]
  | a :: r => by rw [List.map_cons, noLs, noLs_encs r, noL_enc a]; rfl
theorem esc_enc {al : List Nat} {a : Stm} {ρ : Rho} : esc al (enc a) ρ = ρ := esc_noL (noL_enc a)
theorem w_eAnd {a b : Stm} {Q : D → Prop} (q : Q (enc (.bin .an a b))) : Wp (dTup [.str "and", enc a, enc b]) Q := w_tup3 q
theorem w_eOr {a b : Stm} {Q : D → Prop} (q : Q (enc (.bin .or a b))) : Wp (dTup [.str "or", enc a, enc b]) Q := w_tup3 q
theorem w_eIf {a b : Stm} {Q : D → Prop} (q : Q (enc (.bin .im a b))) : Wp (dTup [.str "if", enc a, enc b]) Q := w_tup3 q
theorem w_eNot {a : Stm} {Q : D → Prop} (q : Q (enc (.un .nt a))) : Wp (dTup [.str "not", enc a]) Q := w_tup2 q
theorem w_eAll {a : Stm} {Q : D → Prop} (q : Q (enc (.un .al a))) : Wp (dTup [.str "all", enc a]) Q := w_tup2 q
theorem w_eSome {a : Stm} {Q : D → Prop} (q : Q (enc (.un .so a))) : Wp (dTup [.str "some", enc a]) Q := w_tup2 q
theorem w_eWord {w : Str} {ts : List Str} {Q : D → Prop} (q : Q (enc (.word w ts))) : Wp (dTup [.str "word", .str w, .tup (ts.map .str)]) Q := w_tup3 q
theorem nm_word (k : U) : (k.nm == ("word" : Str)) = false := by cases k <;> decide +kernel
theorem nm_word2 (k : B2) : (k.nm == ("word" : Str)) = false := by cases k <;> decide +kernel
theorem nm_word3 (b : Bool) : (ynm b == ("word" : Str)) = false := by cases b <;> decide +kernel
/-- the name in the place of .. -/
def putS (nm : Str) (d : Int) (t : Str) : Str := if t == nm then toString d else t
def U.in1 : U → Int
  | .nt => 0
  | _ => 1
def bindS (nm : Str) : Int → Stm → Stm
  | _, .yn b => .yn b
  | d, .word w ts => .word w (ts.map (putS nm d))
  | d, .un k a => .un k (bindS nm (d + k.in1) a)
  | d, .bin k a b => .bin k (bindS nm d a) (bindS nm d b)
theorem sgn_bind (nm : Str) : ∀ (d : Int) (a : Stm), sgn (bindS nm d a) = sgn a
  | _, .yn _ => rfl
  | _, .word _ _ => rfl
  | d, .un k a => congrArg (· + 1) (sgn_bind nm _ a)
  | d, .bin k a b => by show sgn (bindS nm d a) + sgn (bindS nm d b) + 1 = _; rw [sgn_bind nm d a, sgn_bind nm d b]; rfl
theorem short_bind (nm : Str) : ∀ (d : Int) (a : Stm), short a → short (bindS nm d a)
  | _, .yn _, h => h
  | _, .word _ ts, h => by show (ts.map _).length ≤ 3; rw [List.length_map]; exact h
  | d, .un k a, h => short_bind nm _ a h
  | d, .bin k a b, h => ⟨short_bind nm d a h.1, short_bind nm d b h.2⟩
theorem two_last {α : Type} : ∀ {l : List α}, 1 < l.length → ∃ r a b, l = r ++ [a, b] := by
  intro l h
  obtain ⟨r, b, rfl⟩ : ∃ r b, l = r ++ [b] := ⟨l.dropLast, l.getLast (by intro z; rw [z] at h; simp at h), (List.dropLast_concat_getLast _).symm⟩
  have h1 : 0 < r.length := by simp at h; exact h
  obtain ⟨r', a, rfl⟩ : ∃ r' a, r = r' ++ [a] := ⟨r.dropLast, r.getLast (by intro z; rw [z] at h1; simp at h1), (List.dropLast_concat_getLast _).symm⟩
  exact ⟨r', a, b, by simp⟩
theorem one_last {α : Type} {l : List α} (h : 0 < l.length) : ∃ r a, l = r ++ [a] := ⟨l.dropLast, l.getLast (by intro z; rw [z] at h; simp at h), (List.dropLast_concat_getLast _).symm⟩
end ST

/-! Trees as data. -/
namespace ST
open PySem L2 DL
inductive Tr where
  | close
  | rule (sd : Str) (s : Stm) (nm : Str) (ks : List Tr)
  | cut (s : Stm) (ks : List Tr)
mutual
def encT : Tr → D
  | .close => .tup [.str "close"]
  | .rule sd s nm ks => .tup [.str "rule", .str sd, enc s, .str nm, .tup (encTs ks)]
  | .cut s ks => .tup [.str "cut", enc s, .tup (encTs ks)]
def encTs : List Tr → List D
  | [] => []
  | t :: ts => encT t :: encTs ts
end
theorem encTs_map : ∀ ts : List Tr, encTs ts = ts.map encT
  | [] => rfl
  | t :: ts => by rw [encTs, encTs_map ts]; rfl
mutual
def hgt : Tr → Nat
  | .close => 1
  | .rule _ _ _ ks => hgts ks + 1
  | .cut _ ks => hgts ks + 1
def hgts : List Tr → Nat
  | [] => 0
  | t :: ts => max (hgt t) (hgts ts)
end
theorem hgts_le {t : Tr} : ∀ {ts : List Tr}, t ∈ ts → hgt t ≤ hgts ts
  | u :: ts, h => by
    show hgt t ≤ max (hgt u) (hgts ts)
    rcases List.mem_cons.mp h with rfl | h
    · omega
    · have := hgts_le h
      omega
mutual
theorem noL_encT : ∀ t : Tr, noL (encT t) = true
  | .close => by simp [encT, noL, noLs]
  | .rule _ s _ ks => by simp [encT, noL, noLs, noL_enc, noLs_encT ks]
  | .cut s ks => by simp [encT, noL, noLs, noL_enc, noLs_encT ks]
theorem noLs_encT : ∀ ts : List Tr, noLs (encTs ts) = true
  | [] => rfl
  | t :: ts => by simp [encTs, noLs, noL_encT t, noLs_encT ts]
end
theorem esc_encT {al : List Nat} {t : Tr} {ρ : Rho} : esc al (encT t) ρ = ρ := esc_noL (noL_encT t)
def kidsT : Tr → List Tr
  | .close => []
  | .rule _ _ _ ks => ks
  | .cut _ ks => ks
theorem kids_hgt : ∀ (t : Tr), hgt t = hgts (kidsT t) + 1
  | .close => rfl
  | .rule _ _ _ _ => rfl
  | .cut _ _ => rfl
/-- a key of the measure -/
abbrev K3 := Int × Int × Int
def encK (k : K3) : D := .tup [.int k.1, .int k.2.1, .int k.2.2]
def h2 : List Tr → Int
  | [a, b] => (hgt a : Int) + (hgt b : Int)
  | _ => 0
mutual
def keysT : Tr → List K3
  | .close => []
  | .rule _ _ _ ks => keysTs ks
  | .cut s ks => if (keysTs ks).isEmpty = true then [((sgn s : Int), 0, h2 ks)] else keysTs ks ++ [((sgn s : Int), 1, 0)]
def keysTs : List Tr → List K3
  | [] => []
  | t :: ts => keysT t ++ keysTs ts
end
mutual
/-- cuts have two kids, rules three at most, statements are not too deep -/
def okT : Tr → Prop
  | .close => True
  | .rule _ s _ ks => dep s ≤ 4 ∧ short s ∧ ks.length ≤ 3 ∧ okTs ks
  | .cut s ks => dep s ≤ 4 ∧ short s ∧ ks.length = 2 ∧ okTs ks
def okTs : List Tr → Prop
  | [] => True
  | t :: ts => okT t ∧ okTs ts
end
theorem okTs_mem {t : Tr} : ∀ {ts : List Tr}, okTs ts → t ∈ ts → okT t
  | u :: ts, h, m => by
    have h : okT u ∧ okTs ts := h
    rcases List.mem_cons.mp m with rfl | m
    · exact h.1
    · exact okTs_mem h.2 m
theorem okT_kids : ∀ {t : Tr}, okT t → okTs (kidsT t) ∧ (kidsT t).length ≤ 3
  | .close, _ => ⟨trivial, Nat.zero_le _⟩
  | .rule _ _ _ ks, h => by
    have h : _ ∧ _ ∧ ks.length ≤ 3 ∧ okTs ks := h
    exact ⟨h.2.2.2, h.2.2.1⟩
  | .cut _ ks, h => by
    have h : _ ∧ _ ∧ ks.length = 2 ∧ okTs ks := h
    exact ⟨h.2.2.2, by show ks.length ≤ 3; omega⟩
end ST

namespace G
open PySem PySem.Spec L2 DL
def topS (i : Nat) : Stmt := PySem.Challenge.pw_cutless_k13_measure.main.body.getD i (.Pass ⟨0, 0, 0, 0⟩)
abbrev s_signs : Stmt := topS 1
abbrev N_signs : List Str := ["A", "part"]
theorem sc_signs : FnScope N_signs ["A"] (defScope s_signs) := ⟨rfl, rfl, rfl, by decide +kernel, rfl, by decide +kernel, by decide +kernel⟩
abbrev s_kids_of : Stmt := topS 3
abbrev N_kids_of : List Str := ["tree"]
theorem sc_kids_of : FnScope N_kids_of ["tree"] (defScope s_kids_of) := ⟨rfl, rfl, rfl, by decide +kernel, rfl, by decide +kernel, by decide +kernel⟩
abbrev s_height : Stmt := topS 4
abbrev N_height : List Str := ["tree", "kid"]
theorem sc_height : FnScope N_height ["tree"] (defScope s_height) := ⟨rfl, rfl, rfl, by decide +kernel, rfl, by decide +kernel, by decide +kernel⟩
abbrev s_keys_met : Stmt := topS 5
abbrev N_keys_met : List Str := ["tree", "found", "kid"]
theorem sc_keys_met : FnScope N_keys_met ["tree"] (defScope s_keys_met) := ⟨rfl, rfl, rfl, by decide +kernel, rfl, by decide +kernel, by decide +kernel⟩
abbrev s_measure : Stmt := topS 6
abbrev N_measure : List Str := ["tree"]
theorem sc_measure : FnScope N_measure ["tree"] (defScope s_measure) := ⟨rfl, rfl, rfl, by decide +kernel, rfl, by decide +kernel, by decide +kernel⟩
abbrev s__law_cell : Stmt := topS 8
abbrev N__law_cell : List Str := ["_law_script", "_law_k", "_law_number"]
theorem sc__law_cell : FnScope N__law_cell ["_law_script", "_law_k"] (defScope s__law_cell) := ⟨rfl, rfl, rfl, by decide +kernel, rfl, by decide +kernel, by decide +kernel⟩
abbrev s__law_name : Stmt := topS 9
abbrev N__law_name : List Str := ["_law_cell_here", "_law_letters", "_law_found", "_law_rest", "_law_k"]
theorem sc__law_name : FnScope N__law_name ["_law_cell_here"] (defScope s__law_name) := ⟨rfl, rfl, rfl, by decide +kernel, rfl, by decide +kernel, by decide +kernel⟩
abbrev s__law_word : Stmt := topS 10
abbrev N__law_word : List Str := ["_law_cell_here", "_law_found", "_law_rest", "_law_k"]
theorem sc__law_word : FnScope N__law_word ["_law_cell_here"] (defScope s__law_word) := ⟨rfl, rfl, rfl, by decide +kernel, rfl, by decide +kernel, by decide +kernel⟩
abbrev s__law_wide : Stmt := topS 11
abbrev N__law_wide : List Str := ["_law_cell_here", "_law_deep", "_law_around", "_law_names", "_law_kind", "_law_rest", "_law_some", "_law_picks", "_law_one", "_law_k", "_law_pick"]
theorem sc__law_wide : FnScope N__law_wide ["_law_cell_here", "_law_deep", "_law_around", "_law_names"] (defScope s__law_wide) := ⟨rfl, rfl, rfl, by decide +kernel, rfl, by decide +kernel, by decide +kernel⟩
abbrev s__law_signs : Stmt := topS 12
abbrev N__law_signs : List Str := ["_law_s", "_law_part"]
theorem sc__law_signs : FnScope N__law_signs ["_law_s"] (defScope s__law_signs) := ⟨rfl, rfl, rfl, by decide +kernel, rfl, by decide +kernel, by decide +kernel⟩
abbrev s__law_grown : Stmt := topS 13
abbrev N__law_grown : List Str := ["_law_script", "_law_some", "_law_stand", "_law_cell_here", "_law_way", "_law_s", "_law_size", "_law_kids", "_law_high", "_law_keys", "_law_kid", "_law_tree"]
theorem sc__law_grown : FnScope N__law_grown ["_law_script", "_law_some"] (defScope s__law_grown) := ⟨rfl, rfl, rfl, by decide +kernel, rfl, by decide +kernel, by decide +kernel⟩
abbrev s__law_key : Stmt := topS 14
abbrev N__law_key : List Str := ["_law_one", "_law_number"]
theorem sc__law_key : FnScope N__law_key ["_law_one"] (defScope s__law_key) := ⟨rfl, rfl, rfl, by decide +kernel, rfl, by decide +kernel, by decide +kernel⟩
abbrev s__law_right : Stmt := topS 15
abbrev N__law_right : List Str := ["_law_found", "_law_keys", "_law_one", "_law_k"]
theorem sc__law_right : FnScope N__law_right ["_law_found", "_law_keys"] (defScope s__law_right) := ⟨rfl, rfl, rfl, by decide +kernel, rfl, by decide +kernel, by decide +kernel⟩
abbrev s_law : Stmt := topS 16
abbrev N_law : List Str := ["_law_script", "_law_stand", "_law_held", "_law_tree", "_law_high", "_law_keys", "_law_found"]
theorem sc_law : FnScope N_law ["_law_script"] (defScope s_law) := ⟨rfl, rfl, rfl, by decide +kernel, rfl, by decide +kernel, by decide +kernel⟩
abbrev j_signs : Nat := 0
abbrev j_kids_of : Nat := 1
abbrev j_height : Nat := 2
abbrev j_keys_met : Nat := 3
abbrev j_measure : Nat := 4
abbrev j__law_cell : Nat := 5
abbrev j__law_name : Nat := 6
abbrev j__law_word : Nat := 7
abbrev j__law_wide : Nat := 8
abbrev j__law_signs : Nat := 9
abbrev j__law_grown : Nat := 10
abbrev j__law_key : Nat := 11
abbrev j__law_right : Nat := 12
abbrev j_law : Nat := 13
structure Tx (P : Program) (w : World) (K : PySem.W.Frag) (mg : Str → Option Value) (base : Heap) (n : Nat) (φ : Nat → List D → Option D) : Prop where
  b_bool : mg "bool" = none
  b_int : mg "int" = none
  b_isinstance : mg "isinstance" = none
  b_len : mg "len" = none
  b_list : mg "list" = none
  b_max : mg "max" = none
  b_range : mg "range" = none
  b_sorted : mg "sorted" = none
  b_str : mg "str" = none
  b_sum : mg "sum" = none
  b_tuple : mg "tuple" = none
  c_signs : FOk P w K mg base n "signs" ["A"] (φ 0)
  c_kids_of : FOk P w K mg base n "kids_of" ["tree"] (φ 1)
  c_height : FOk P w K mg base n "height" ["tree"] (φ 2)
  c_keys_met : FOk P w K mg base n "keys_met" ["tree"] (φ 3)
  c_measure : FOk P w K mg base n "measure" ["tree"] (φ 4)
  c__law_cell : FOk P w K mg base n "_law_cell" ["_law_script", "_law_k"] (φ 5)
  c__law_name : FOk P w K mg base n "_law_name" ["_law_cell_here"] (φ 6)
  c__law_word : FOk P w K mg base n "_law_word" ["_law_cell_here"] (φ 7)
  c__law_wide : FOk P w K mg base n "_law_wide" ["_law_cell_here", "_law_deep", "_law_around", "_law_names"] (φ 8)
  c__law_signs : FOk P w K mg base n "_law_signs" ["_law_s"] (φ 9)
  c__law_grown : FOk P w K mg base n "_law_grown" ["_law_script", "_law_some"] (φ 10)
  c__law_key : FOk P w K mg base n "_law_key" ["_law_one"] (φ 11)
  c__law_right : FOk P w K mg base n "_law_right" ["_law_found", "_law_keys"] (φ 12)
  c_law : FOk P w K mg base n "law" ["_law_script"] (φ 13)
def B_signs (φ : Nat → List D → Option D) : Sx :=
      (sSeq (sIf (tOr' (tE (e2 dEq (e2 dIx (eV 0) (eC (.int 0))) (eC (.str "word")))) (tE (e2 dEq (eA dLen (esC (eV 0) esN)) (eC (.int 1))))) (sRet (eC (.int 0))) sNil)
      (sRet (e2 dAdd (eC (.int 1)) (eA dSum (esC (eL (lcG [1] (iE [] (eSl (eV 0) (oS (eC (.int 1))) oN)) (gN 1) tY (eA (fnL 1 (φ 0)) (esC (eV 1) esN)))) esN)))))
def B_kids_of (φ : Nat → List D → Option D) : Sx :=
      (sSeq (sIf (tE (e2 dEq (e2 dIx (eV 0) (eC (.int 0))) (eC (.str "close")))) (sRet (eA dTup esN)) sNil)
      (sRet (e2 dIx (eV 0) (e1 dNeg (eC (.int 1))))))
def B_height (φ : Nat → List D → Option D) : Sx :=
      (sRet (e2 dAdd (eC (.int 1)) (eA (dMaxD 0) (esC (eL (lcG [1] (iE [0] (eA (fnL 1 (φ 1)) (esC (eV 0) esN))) (gN 1) tY (eA (fnL 1 (φ 2)) (esC (eV 1) esN)))) esN))))
def B_keys_met (φ : Nat → List D → Option D) : Sx :=
      (sSeq (sG (xP [] (eL (lsG esN))) (gN 1))
      (sSeq (sFor [0] (iE [0] (eA (fnL 1 (φ 1)) (esC (eV 0) esN))) (gN 2) (sG (xP [1, 2] (e2 dAdd (eV 1) (eA (fnL 1 (φ 3)) (esC (eV 2) esN)))) (gN 1)))
      (sSeq (sIf (tE (e2 dNe (e2 dIx (eV 0) (eC (.int 0))) (eC (.str "cut")))) (sRet (eV 1)) sNil)
      (sSeq (sIf (tE (e2 dEq (eV 1) (eL (lsG esN)))) (sRet (eL (lsG (esC (eA dTup (esC (eA (fnL 1 (φ 0)) (esC (e2 dIx (eV 0) (eC (.int 1))) esN)) (esC (eC (.int 0)) (esC (e2 dAdd (eA (fnL 1 (φ 2)) (esC (e2 dIx (e2 dIx (eV 0) (eC (.int 2))) (eC (.int 0))) esN)) (eA (fnL 1 (φ 2)) (esC (e2 dIx (e2 dIx (eV 0) (eC (.int 2))) (eC (.int 1))) esN))) esN)))) esN)))) sNil)
      (sRet (e2 dAdd (eV 1) (eL (lsG (esC (eA dTup (esC (eA (fnL 1 (φ 0)) (esC (e2 dIx (eV 0) (eC (.int 1))) esN)) (esC (eC (.int 1)) (esC (eC (.int 0)) esN)))) esN)))))))))
def B_measure (φ : Nat → List D → Option D) : Sx :=
      (sRet (eL (nL (dSorted true) (esC (eA (fnL 1 (φ 3)) (esC (eV 0) esN)) esN))))
def B__law_cell (φ : Nat → List D → Option D) : Sx :=
      (sSeq (sIf (tE (e2 dLt (eV 1) (eA dLen (esC (eV 0) esN)))) (sRet (e2 dIx (eV 0) (eV 1))) sNil)
      (sSeq (sG (xP [1] (e2 dAdd (e2 dMul (eV 1) (eC (.int 7919))) (eC (.int 5)))) (gN 2))
      (sSeq (sIf (tE (e2 (dCmp pGt) (eA dLen (esC (eV 0) esN)) (eC (.int 0)))) (sG (xP [1] (e2 dAdd (e2 dMod (e2 dMul (e2 dIx (eV 0) (e2 dMod (e2 dMul (eV 1) (eC (.int 7))) (eA dLen (esC (eV 0) esN)))) (eC (.int 48271))) (eC (.int 2147483647))) (e2 dMul (eV 1) (eC (.int 104729))))) (gN 2)) sNil)
      (sRet (e2 dMod (e2 dMul (eV 2) (eV 2)) (eC (.int 2147483629)))))))
def B__law_name (φ : Nat → List D → Option D) : Sx :=
      (sSeq (sG (xP [] (eC (.str "abcdefghijklmnopqrstuvwxyz0123456789"))) (gN 1))
      (sSeq (sG (xP [] (e2 dIx (eV 1) (e2 dMod (e2 dDiv (eV 0) (eC (.int 8))) (eC (.int 26))))) (gN 2))
      (sSeq (sG (xP [] (e2 dDiv (eV 0) (eC (.int 208)))) (gN 3))
      (sSeq (sFor [] (nL dRg1 (esC (e2 dMod (eV 0) (eC (.int 8))) esN)) (gN 4) (sSeq (sG (xP [2] (e2 dAdd (eV 2) (e2 dIx (eV 1) (e2 dMod (eV 3) (eC (.int 36)))))) (gN 2))
      (sG (xP [] (e2 dDiv (eV 3) (eC (.int 36)))) (gN 3))))
      (sRet (eV 2))))))
def B__law_word (φ : Nat → List D → Option D) : Sx :=
      (sSeq (sG (xP [] (eC (.str ""))) (gN 1))
      (sSeq (sG (xP [] (e2 dDiv (eV 0) (eC (.int 8)))) (gN 2))
      (sSeq (sFor [] (nL dRg1 (esC (e2 dAdd (eC (.int 1)) (e2 dMod (eV 0) (eC (.int 8)))) esN)) (gN 3) (sSeq (sG (xP [1] (e2 dAdd (eV 1) (e2 dIx (eC (.str "etaoinshrdlcumwfgypbvkjxqz")) (e2 dMod (eV 2) (eC (.int 26)))))) (gN 1))
      (sG (xP [] (e2 dDiv (eV 2) (eC (.int 26)))) (gN 2))))
      (sSeq (sIf (tE (e2 dIn (eV 1) (eA dTup (esC (eC (.str "yes")) (esC (eC (.str "no")) (esC (eC (.str "not")) (esC (eC (.str "and")) (esC (eC (.str "or")) (esC (eC (.str "if")) (esC (eC (.str "all")) (esC (eC (.str "some")) esN))))))))))) (sRet (e2 dAdd (eV 1) (eC (.str "s")))) sNil)
      (sRet (eV 1))))))
def B__law_wide (φ : Nat → List D → Option D) : Sx :=
      (sSeq (sG (xP [] (e2 dIx (eL (lsG (esC (eC (.str "word")) (esC (eC (.str "not")) (esC (eC (.str "and")) (esC (eC (.str "or")) (esC (eC (.str "if")) (esC (eC (.str "all")) (esC (eC (.str "some")) (esC (eC (.str "yes")) (esC (eC (.str "no")) (esC (eC (.str "word")) esN)))))))))))) (e2 dMod (eV 0) (eC (.int 10))))) (gN 4))
      (sSeq (sG (xP [] (e2 dDiv (eV 0) (eC (.int 10)))) (gN 5))
      (sSeq (sIf (tOr' (tE (e2 dEq (eV 4) (eC (.str "yes")))) (tE (e2 dEq (eV 4) (eC (.str "no"))))) (sRet (eA dTup (esC (eV 4) esN))) sNil)
      (sSeq (sIf (tOr' (tE (e2 dEq (eV 4) (eC (.str "word")))) (tE (e2 dEq (eV 1) (eC (.int 0))))) (sSeq (sG (xP [3] (e2 dAdd (eV 3) (eL (lcG [9] (nL dRg1 (esC (eV 2) esN)) (gN 9) tY (eA dStr (esC (eV 9) esN)))))) (gN 6))
      (sSeq (sG (xP [] (eL (lsG (esC (e2 dMod (e2 dMul (eV 5) (eC (.int 31))) (eC (.int 1009))) (esC (e2 dMod (e2 dMul (eV 5) (eC (.int 37))) (eC (.int 1013))) (esC (e2 dMod (e2 dMul (eV 5) (eC (.int 41))) (eC (.int 1019))) esN)))))) (gN 7))
      (sRet (eA dTup (esC (eC (.str "word")) (esC (eA (fnL 1 (φ 7)) (esC (e2 dDiv (eV 5) (eC (.int 4))) esN)) (esC (eA dTuple (esC (eL (lcG [10] (iE [] (eSl (eV 7) oN (oS (e2 dMod (eV 5) (eC (.int 4)))))) (gN 10) tY (e2 dIx (eV 6) (e2 dMod (eV 10) (eA dLen (esC (eV 6) esN)))))) esN)) esN))))))) sNil)
      (sSeq (sIf (tE (e2 dEq (eV 4) (eC (.str "not")))) (sRet (eA dTup (esC (eC (.str "not")) (esC (eA (fnL 4 (φ 8)) (esC (eV 5) (esC (e2 dSub (eV 1) (eC (.int 1))) (esC (eV 2) (esC (eV 3) esN))))) esN)))) sNil)
      (sSeq (sIf (tOr' (tE (e2 dEq (eV 4) (eC (.str "all")))) (tE (e2 dEq (eV 4) (eC (.str "some"))))) (sRet (eA dTup (esC (eV 4) (esC (eA (fnL 4 (φ 8)) (esC (eV 5) (esC (e2 dSub (eV 1) (eC (.int 1))) (esC (e2 dAdd (eV 2) (eC (.int 1))) (esC (eV 3) esN))))) esN)))) sNil)
      (sSeq (sG (xP [2, 3] (eA (fnL 4 (φ 8)) (esC (e2 dMod (e2 dMul (eV 5) (eC (.int 48271))) (eC (.int 2147483647))) (esC (e2 dSub (eV 1) (eC (.int 1))) (esC (eV 2) (esC (eV 3) esN)))))) (gN 8))
      (sRet (eA dTup (esC (eV 4) (esC (eV 8) (esC (eA (fnL 4 (φ 8)) (esC (e2 dMod (e2 dMul (eV 5) (eC (.int 69621))) (eC (.int 2147483629))) (esC (e2 dSub (eV 1) (eC (.int 1))) (esC (eV 2) (esC (eV 3) esN))))) esN))))))))))))
def B__law_signs (φ : Nat → List D → Option D) : Sx :=
      (sSeq (sIf (tE (e2 dEq (e2 dIx (eV 0) (eC (.int 0))) (eC (.str "word")))) (sRet (eC (.int 0))) sNil)
      (sRet (e2 dAdd (eA dInt (esC (e2 (dCmp pGt) (eA dLen (esC (eV 0) esN)) (eC (.int 1))) esN)) (eA dSum (esC (eL (lcG [1] (iE [] (eSl (eV 0) (oS (eC (.int 1))) oN)) (gN 1) tY (eA (fnL 1 (φ 9)) (esC (eV 1) esN)))) esN)))))
def B__law_grown (φ : Nat → List D → Option D) : Sx :=
      (sSeq (sOwn 2 [] (lsG esN))
      (sSeq (sFor [] (iE [] (eSl (eV 0) oN (oS (eC (.int 90))))) (gN 3) (sSeq (sG (xP [] (e2 dMod (eV 3) (eC (.int 6)))) (gN 4))
      (sSeq (sG (xP [1] (eA (fnL 4 (φ 8)) (esC (e2 dDiv (eV 3) (eC (.int 36))) (esC (eC (.int 3)) (esC (eC (.int 0)) (esC (eV 1) esN)))))) (gN 5))
      (sSeq (sG (xP [] (e2 dAdd (eC (.int 1)) (e2 dMod (e2 dDiv (eV 3) (eC (.int 6))) (eC (.int 3))))) (gN 6))
      (sSeq (sIf (tE (e2 (dCmp pGt) (eV 4) (eC (.int 2)))) (sG (xP [] (eC (.int 2))) (gN 6)) sNil)
      (sSeq (sG (xP [] (eSl (eV 2) (oS (e1 dNeg (eV 6))) oN)) (gN 7))
      (sIf (tOr' (tE (e2 dEq (eV 4) (eC (.int 0)))) (tOr' (tE (e2 dLt (eA dLen (esC (eV 7) esN)) (eV 6))) (tE (e2 (dCmp pGt) (eA dMaxL (esC (eL (lcG [10] (iV 7) (gN 10) tY (e2 dIx (eV 10) (eC (.int 1))))) esN)) (eC (.int 29)))))) (sApp 2 (xP [] (eL (lsG (esC (eA dTup (esC (eC (.str "close")) esN)) (esC (eC (.int 1)) (esC (eL (lsG esN)) esN))))))) (sSeq (sOwn 2 [] (nSl (eV 2) oN (oS (e1 dNeg (eV 6)))))
      (sSeq (sG (xP [] (e2 dAdd (eC (.int 1)) (eA dMaxL (esC (eL (lcG [10] (iV 7) (gN 10) tY (e2 dIx (eV 10) (eC (.int 1))))) esN)))) (gN 8))
      (sSeq (sG (xP [] (eL (lsG esN))) (gN 9))
      (sSeq (sFor [7] (iV 7) (gN 10) (sG (xP [9] (e2 dAdd (eV 9) (e2 dIx (eV 10) (eC (.int 2))))) (gN 9)))
      (sSeq (sG (xP [5] (eA dTup (esC (eC (.str "rule")) (esC (eC (.str "left")) (esC (eV 5) (esC (e2 dIx (eL (lsG (esC (eC (.str "")) (esC (e2 dIx (eV 1) (eC (.int 0))) esN)))) (eA dInt (esC (e2 dIn (e2 dIx (eV 5) (eC (.int 0))) (eA dTup (esC (eC (.str "all")) (esC (eC (.str "some")) esN)))) esN))) (esC (eA dTuple (esC (eL (lcG [10] (iV 7) (gN 10) tY (e2 dIx (eV 10) (eC (.int 0))))) esN)) esN))))))) (gN 11))
      (sSeq (sIf (tE (e2 (dCmp pGt) (eV 4) (eC (.int 2)))) (sSeq (sG (xP [5] (eA dTup (esC (eC (.str "cut")) (esC (eV 5) (esC (e2 dIx (eV 11) (eC (.int 4))) esN))))) (gN 11))
      (sIf (tE (e2 dEq (eV 9) (eL (lsG esN)))) (sG (xP [5] (eL (lsG (esC (eA dTup (esC (eA (fnL 1 (φ 9)) (esC (eV 5) esN)) (esC (eC (.int 0)) (esC (e2 dAdd (e2 dIx (e2 dIx (eV 7) (eC (.int 0))) (eC (.int 1))) (e2 dIx (e2 dIx (eV 7) (eC (.int 1))) (eC (.int 1)))) esN)))) esN)))) (gN 9)) (sG (xP [9, 5] (e2 dAdd (eV 9) (eL (lsG (esC (eA dTup (esC (eA (fnL 1 (φ 9)) (esC (eV 5) esN)) (esC (eC (.int 1)) (esC (eC (.int 0)) esN)))) esN))))) (gN 9)))) sNil)
      (sApp 2 (xP [11, 8, 9] (eL (lsG (esC (eV 11) (esC (eV 8) (esC (eV 9) esN))))))))))))))))))))
      (sRet (eV 2))))
def B__law_key (φ : Nat → List D → Option D) : Sx :=
      (sSeq (sIf (tOr' (tNo (tE (e1 (isi .tuple) (eV 0)))) (tE (e2 dNe (eA dLen (esC (eV 0) esN)) (eC (.int 3))))) (sRet (eC (.bl false))) sNil)
      (sSeq (sFor [0] (iV 0) (gN 1) (sIf (tOr' (tNo (tE (e1 (isi .int) (eV 1)))) (tE (e1 (isi .bool) (eV 1)))) (sRet (eC (.bl false))) sNil))
      (sRet (eC (.bl true)))))
def B__law_right (φ : Nat → List D → Option D) : Sx :=
      (sSeq (sIf (tOr' (tNo (tE (e1 (isi .list) (eV 0)))) (tE (e2 dNe (eA dLen (esC (eV 0) esN)) (eA dLen (esC (eV 1) esN))))) (sRet (eC (.bl false))) sNil)
      (sSeq (sFor [0] (iV 0) (gN 2) (sIf (tNo (tE (eA (fnL 1 (φ 11)) (esC (eV 2) esN)))) (sRet (eC (.bl false))) sNil))
      (sSeq (sFor [] (nL dRg2 (esC (eC (.int 1)) (esC (eA dLen (esC (eV 0) esN)) esN))) (gN 3) (sIf (tE (e2 dLt (e2 dIx (eV 0) (e2 dSub (eV 3) (eC (.int 1)))) (e2 dIx (eV 0) (eV 3)))) (sRet (eC (.bl false))) sNil))
      (sSeq (sFor [1] (iV 1) (gN 2) (sIf (tE (e2 dNe (e2 dCount (eV 0) (eV 2)) (e2 dCount (eV 1) (eV 2)))) (sRet (eC (.bl false))) sNil))
      (sRet (eC (.bl true)))))))
def B_law (φ : Nat → List D → Option D) : Sx :=
      (sSeq (sG (xP [0, 0] (eA (fnL 2 (φ 10)) (esC (eV 0) (esC (eL (lsG (esC (eA (fnL 1 (φ 6)) (esC (eA (fnL 2 (φ 5)) (esC (eV 0) (esC (eC (.int 0)) esN))) esN)) (esC (eC (.str "n0")) esN)))) esN)))) (gN 1))
      (sSeq (sOwn 2 [] (lsG esN))
      (sSeq (sFor [1] (iE [1] (e2 dAdd (eV 1) (eL (lsG (esC (eL (lsG (esC (eA dTup (esC (eC (.str "close")) esN)) (esC (eC (.int 1)) (esC (eL (lsG esN)) esN))))) esN))))) (gT 3 (gsC (gN 3) (gsC (gN 4) (gsC (gN 5) gsN)))) (sApp 2 (xP [3, 5] (eA dTup (esC (eA (fnL 1 (φ 4)) (esC (eV 3) esN)) (esC (eV 5) esN))))))
      (sSeq (sFor [2] (iV 2) (gT 2 (gsC (gN 6) (gsC (gN 5) gsN))) (sIf (tNo (tE (eA (fnL 2 (φ 12)) (esC (eV 6) (esC (eV 5) esN))))) (sRet (eC (.bl false))) sNil))
      (sRet (eC (.bl true)))))))
section
variable {P : Program} {w : World} {K : PySem.W.Frag} {mg : Str → Option Value} {base : Heap} {n : Nat} {φ : Nat → List D → Option D}
set_option maxHeartbeats 4000000 in
theorem d_signs (T : Tx P w K mg base n φ) {fa : Addr} (cdv : Value) (A : Around) (outer : List PySem.Env) (s : Shared) (H : Hp) (E : XK) (hr : Room n (A.deeper (PyProof.Rows.envOfC "signs" (defScope s_signs) s.heap.objs.size fa cdv))) :
    DSs (cxOf CX0 P w K mg base N_signs "signs" (defScope s_signs) fa cdv A outer s H E).nox (defBody s_signs) (B_signs φ) := by
  refine (dss_cons (ds_if (dt_w (dw_or (dt_c (dc_eq (hu64 hr) (dp_ixv 0 (pv 0) dp_int (fun _ _ => rfl)) dp_str)) (dw_or1 (dt_c (dc_eq (hu64 hr) (dp_len (by rfl) T.b_len (da_cons (dp_var 0 (pv 0)) da_nil)) dp_int))))) (dss_one (ds_ret dp_int)) dss_nil)
      (dss_one (ds_ret (dp_add dp_int (dp_sumc (by rfl) (by rfl) T.b_sum (da_cons (dp_n (dn_lc (bl := [1]) (own := [("part", 1)]) (by rfl) sc_signs.nd (di_e (dp_slv 0 (pv 0) (do_s dp_int) do_n)) (blkOk_by (own := [("part", 1)]) (N := N_signs) (sc := defScope s_signs) (by decide +kernel)) (by intro _ _ _ _ _; exact (dg_name (pg_name (i := 1) sc_signs.nd (by rfl) (by exact Or.inl rfl)))) (by intro _ _ _ _ _; exact dts_nil) ?h1 gok_name (by decide))) da_nil))))))
  case h1 =>
    intro _ _ _ _ _
    exact (dp_call T.c_signs hr (by rfl) (da_cons (dp_var 1 (pv 1)) da_nil))
set_option maxHeartbeats 4000000 in
theorem d_kids_of (T : Tx P w K mg base n φ) {fa : Addr} (cdv : Value) (A : Around) (outer : List PySem.Env) (s : Shared) (H : Hp) (E : XK) (hr : Room n (A.deeper (PyProof.Rows.envOfC "kids_of" (defScope s_kids_of) s.heap.objs.size fa cdv))) :
    DSs (cxOf CX0 P w K mg base N_kids_of "kids_of" (defScope s_kids_of) fa cdv A outer s H E).nox (defBody s_kids_of) (B_kids_of φ) := by
  refine (dss_cons (ds_if (dt_c (dc_eq (hu64 hr) (dp_ixv 0 (pv 0) dp_int (fun _ _ => rfl)) dp_str)) (dss_one (ds_ret (dp_tup da_nil))) dss_nil)
      (dss_one (ds_ret (dp_ixv 0 (pv 0) (dp_neg dp_int) (fun _ _ => rfl)))))
set_option maxHeartbeats 4000000 in
theorem d_height (T : Tx P w K mg base n φ) {fa : Addr} (cdv : Value) (A : Around) (outer : List PySem.Env) (s : Shared) (H : Hp) (E : XK) (hr : Room n (A.deeper (PyProof.Rows.envOfC "height" (defScope s_height) s.heap.objs.size fa cdv))) :
    DSs (cxOf CX0 P w K mg base N_height "height" (defScope s_height) fa cdv A outer s H E).nox (defBody s_height) (B_height φ) := by
  refine (dss_one (ds_ret (dp_add dp_int (dp_maxD (by rfl) (hu64 hr) (by rfl) T.b_max (da_cons (dp_n (dn_lc (bl := [1]) (own := [("kid", 1)]) (by rfl) sc_height.nd (di_e (dp_call T.c_kids_of hr (by rfl) (da_cons (dp_var 0 (pv 0)) da_nil))) (blkOk_by (own := [("kid", 1)]) (N := N_height) (sc := defScope s_height) (by decide +kernel)) (by intro _ _ _ _ _; exact (dg_name (pg_name (i := 1) sc_height.nd (by rfl) (by exact Or.inl rfl)))) (by intro _ _ _ _ _; exact dts_nil) ?h1 gok_name (by decide))) da_nil)))))
  case h1 =>
    intro _ _ _ _ _
    exact (dp_call T.c_height hr (by rfl) (da_cons (dp_var 1 (pv 1)) da_nil))
set_option maxHeartbeats 4000000 in
theorem d_keys_met (T : Tx P w K mg base n φ) {fa : Addr} (cdv : Value) (A : Around) (outer : List PySem.Env) (s : Shared) (H : Hp) (E : XK) (hr : Room n (A.deeper (PyProof.Rows.envOfC "keys_met" (defScope s_keys_met) s.heap.objs.size fa cdv))) :
    DSs (cxOf CX0 P w K mg base N_keys_met "keys_met" (defScope s_keys_met) fa cdv A outer s H E).nox (defBody s_keys_met) (B_keys_met φ) := by
  refine (dss_cons (ds_set sc_keys_met.nd rfl (Or.inl rfl) (de_p (dp_n (dn_lst da_nil))))
      (dss_cons (ds_for PassesOwn.never rfl (di_e (dp_call T.c_kids_of hr (by rfl) (da_cons (dp_var 0 (pv 0)) da_nil))) (dg_name (pg_name (i := 2) sc_keys_met.nd (by rfl) (Or.inl rfl))) (dss_one (ds_set sc_keys_met.nd rfl (Or.inl rfl) (de_p (dp_add (dp_var 1 (pv 1)) (dp_call T.c_keys_met hr (by rfl) (da_cons (dp_var 2 (pv 2)) da_nil)))))))
      (dss_cons (ds_if (dt_c (dc_ne (hu64 hr) (dp_ixv 0 (pv 0) dp_int (fun _ _ => rfl)) dp_str)) (dss_one (ds_ret (dp_var 1 (pv 1)))) dss_nil)
      (dss_cons (ds_if (dt_c (dc_eq (hu64 hr) (dp_var 1 (pv 1)) (dp_n (dn_lst da_nil)))) (dss_one (ds_ret (dp_n (dn_lst (da_cons (dp_tup (da_cons (dp_call T.c_signs hr (by rfl) (da_cons (dp_ixv 0 (pv 0) dp_int (fun _ _ => rfl)) da_nil)) (da_cons dp_int (da_cons (dp_add (dp_call T.c_height hr (by rfl) (da_cons (dp_ix (dp_ixv 0 (pv 0) dp_int (fun _ _ => rfl)) dp_int (fun _ _ => rfl)) da_nil)) (dp_call T.c_height hr (by rfl) (da_cons (dp_ix (dp_ixv 0 (pv 0) dp_int (fun _ _ => rfl)) dp_int (fun _ _ => rfl)) da_nil))) da_nil)))) da_nil))))) dss_nil)
      (dss_one (ds_ret (dp_add (dp_var 1 (pv 1)) (dp_n (dn_lst (da_cons (dp_tup (da_cons (dp_call T.c_signs hr (by rfl) (da_cons (dp_ixv 0 (pv 0) dp_int (fun _ _ => rfl)) da_nil)) (da_cons dp_int (da_cons dp_int da_nil)))) da_nil))))))))))
set_option maxHeartbeats 4000000 in
theorem d_measure (T : Tx P w K mg base n φ) {fa : Addr} (cdv : Value) (A : Around) (outer : List PySem.Env) (s : Shared) (H : Hp) (E : XK) (hr : Room n (A.deeper (PyProof.Rows.envOfC "measure" (defScope s_measure) s.heap.objs.size fa cdv))) :
    DSs (cxOf CX0 P w K mg base N_measure "measure" (defScope s_measure) fa cdv A outer s H E).nox (defBody s_measure) (B_measure φ) := by
  refine (dss_one (ds_ret (dp_n (dn_sortR (hu64 hr) (by rfl) T.b_sorted (da_cons (dp_call T.c_keys_met hr (by rfl) (da_cons (dp_var 0 (pv 0)) da_nil)) da_nil)))))
set_option maxHeartbeats 4000000 in
theorem d__law_cell (T : Tx P w K mg base n φ) {fa : Addr} (cdv : Value) (A : Around) (outer : List PySem.Env) (s : Shared) (H : Hp) (E : XK) (hr : Room n (A.deeper (PyProof.Rows.envOfC "_law_cell" (defScope s__law_cell) s.heap.objs.size fa cdv))) :
    DSs (cxOf CX0 P w K mg base N__law_cell "_law_cell" (defScope s__law_cell) fa cdv A outer s H E).nox (defBody s__law_cell) (B__law_cell φ) := by
  refine (dss_cons (ds_if (dt_c (dc_ltG (hu64 hr) (dp_var 1 (pv 1)) (dp_len (by rfl) T.b_len (da_cons (dp_var 0 (pv 0)) da_nil)))) (dss_one (ds_ret (dp_ixv 0 (pv 0) (dp_var 1 (pv 1)) (fun _ _ => rfl)))) dss_nil)
      (dss_cons (ds_set sc__law_cell.nd rfl (Or.inl rfl) (de_p (dp_add (dp_mul (dp_var 1 (pv 1)) dp_int) dp_int)))
      (dss_cons (ds_if (dt_c (dc_gt (dp_len (by rfl) T.b_len (da_cons (dp_var 0 (pv 0)) da_nil)) dp_int)) (dss_one (ds_set sc__law_cell.nd rfl (Or.inl rfl) (de_p (dp_add (dp_mod (dp_mul (dp_ixv 0 (pv 0) (dp_mod (dp_mul (dp_var 1 (pv 1)) dp_int) (dp_len (by rfl) T.b_len (da_cons (dp_var 0 (pv 0)) da_nil))) (fun _ _ => rfl)) dp_int) dp_int) (dp_mul (dp_var 1 (pv 1)) dp_int))))) dss_nil)
      (dss_one (ds_ret (dp_mod (dp_mul (dp_var 2 (pv 2)) (dp_var 2 (pv 2))) dp_int))))))
set_option maxHeartbeats 4000000 in
theorem d__law_name (T : Tx P w K mg base n φ) {fa : Addr} (cdv : Value) (A : Around) (outer : List PySem.Env) (s : Shared) (H : Hp) (E : XK) (hr : Room n (A.deeper (PyProof.Rows.envOfC "_law_name" (defScope s__law_name) s.heap.objs.size fa cdv))) :
    DSs (cxOf CX0 P w K mg base N__law_name "_law_name" (defScope s__law_name) fa cdv A outer s H E).nox (defBody s__law_name) (B__law_name φ) := by
  refine (dss_cons (ds_set sc__law_name.nd rfl (Or.inl rfl) (de_p dp_str))
      (dss_cons (ds_set sc__law_name.nd rfl (Or.inl rfl) (de_p (dp_ixv 1 (pv 1) (dp_mod (dp_div (dp_var 0 (pv 0)) dp_int) dp_int) (fun _ _ => rfl))))
      (dss_cons (ds_set sc__law_name.nd rfl (Or.inl rfl) (de_p (dp_div (dp_var 0 (pv 0)) dp_int)))
      (dss_cons (ds_for PassesOwn.never rfl (di_rg1 (by rfl) T.b_range (da_cons (dp_mod (dp_var 0 (pv 0)) dp_int) da_nil)) (dg_name (pg_name (i := 4) sc__law_name.nd (by rfl) (Or.inl rfl))) (dss_cons (ds_set sc__law_name.nd rfl (Or.inl rfl) (de_p (dp_add (dp_var 2 (pv 2)) (dp_ixv 1 (pv 1) (dp_mod (dp_var 3 (pv 3)) dp_int) (fun _ _ => rfl)))))
      (dss_one (ds_set sc__law_name.nd rfl (Or.inl rfl) (de_p (dp_div (dp_var 3 (pv 3)) dp_int))))))
      (dss_one (ds_ret (dp_var 2 (pv 2))))))))
set_option maxHeartbeats 4000000 in
theorem d__law_word (T : Tx P w K mg base n φ) {fa : Addr} (cdv : Value) (A : Around) (outer : List PySem.Env) (s : Shared) (H : Hp) (E : XK) (hr : Room n (A.deeper (PyProof.Rows.envOfC "_law_word" (defScope s__law_word) s.heap.objs.size fa cdv))) :
    DSs (cxOf CX0 P w K mg base N__law_word "_law_word" (defScope s__law_word) fa cdv A outer s H E).nox (defBody s__law_word) (B__law_word φ) := by
  refine (dss_cons (ds_set sc__law_word.nd rfl (Or.inl rfl) (de_p dp_str))
      (dss_cons (ds_set sc__law_word.nd rfl (Or.inl rfl) (de_p (dp_div (dp_var 0 (pv 0)) dp_int)))
      (dss_cons (ds_for PassesOwn.never rfl (di_rg1 (by rfl) T.b_range (da_cons (dp_add dp_int (dp_mod (dp_var 0 (pv 0)) dp_int)) da_nil)) (dg_name (pg_name (i := 3) sc__law_word.nd (by rfl) (Or.inl rfl))) (dss_cons (ds_set sc__law_word.nd rfl (Or.inl rfl) (de_p (dp_add (dp_var 1 (pv 1)) (dp_ix dp_str (dp_mod (dp_var 2 (pv 2)) dp_int) (fun _ _ => rfl)))))
      (dss_one (ds_set sc__law_word.nd rfl (Or.inl rfl) (de_p (dp_div (dp_var 2 (pv 2)) dp_int))))))
      (dss_cons (ds_if (dt_c (dc_in (hu65 hr) (dp_var 1 (pv 1)) (dp_tup (da_cons dp_str (da_cons dp_str (da_cons dp_str (da_cons dp_str (da_cons dp_str (da_cons dp_str (da_cons dp_str (da_cons dp_str da_nil))))))))))) (dss_one (ds_ret (dp_add (dp_var 1 (pv 1)) dp_str))) dss_nil)
      (dss_one (ds_ret (dp_var 1 (pv 1))))))))
set_option maxHeartbeats 4000000 in
theorem d__law_wide (T : Tx P w K mg base n φ) {fa : Addr} (cdv : Value) (A : Around) (outer : List PySem.Env) (s : Shared) (H : Hp) (E : XK) (hr : Room n (A.deeper (PyProof.Rows.envOfC "_law_wide" (defScope s__law_wide) s.heap.objs.size fa cdv))) :
    DSs (cxOf CX0 P w K mg base N__law_wide "_law_wide" (defScope s__law_wide) fa cdv A outer s H E).nox (defBody s__law_wide) (B__law_wide φ) := by
  refine (dss_cons (ds_set sc__law_wide.nd rfl (Or.inl rfl) (de_p (dp_ix (dp_n (dn_lst (da_cons dp_str (da_cons dp_str (da_cons dp_str (da_cons dp_str (da_cons dp_str (da_cons dp_str (da_cons dp_str (da_cons dp_str (da_cons dp_str (da_cons dp_str da_nil)))))))))))) (dp_mod (dp_var 0 (pv 0)) dp_int) (fun _ _ => rfl))))
      (dss_cons (ds_set sc__law_wide.nd rfl (Or.inl rfl) (de_p (dp_div (dp_var 0 (pv 0)) dp_int)))
      (dss_cons (ds_if (dt_w (dw_or (dt_c (dc_eq (hu64 hr) (dp_var 4 (pv 4)) dp_str)) (dw_or1 (dt_c (dc_eq (hu64 hr) (dp_var 4 (pv 4)) dp_str))))) (dss_one (ds_ret (dp_tup (da_cons (dp_var 4 (pv 4)) da_nil)))) dss_nil)
      (dss_cons (ds_if (dt_w (dw_or (dt_c (dc_eq (hu64 hr) (dp_var 4 (pv 4)) dp_str)) (dw_or1 (dt_c (dc_eq (hu64 hr) (dp_var 1 (pv 1)) dp_int))))) (dss_cons (ds_set sc__law_wide.nd rfl (Or.inr rfl) (de_p (dp_add (dp_var 3 (pv 3)) (dp_n (dn_lc (bl := []) (own := [("_law_k", 9)]) (by rfl) sc__law_wide.nd (di_rg1 (by rfl) T.b_range (da_cons (dp_var 2 (pv 2)) da_nil)) (blkOk_by (own := [("_law_k", 9)]) (N := N__law_wide) (sc := defScope s__law_wide) (by decide +kernel)) (by intro _ _ _ _ _; exact (dg_name (pg_name (i := 9) sc__law_wide.nd (by rfl) (by exact Or.inl rfl)))) (by intro _ _ _ _ _; exact dts_nil) ?h1 gok_name (by decide))))))
      (dss_cons (ds_set sc__law_wide.nd rfl (Or.inl rfl) (de_p (dp_n (dn_lst (da_cons (dp_mod (dp_mul (dp_var 5 (pv 5)) dp_int) dp_int) (da_cons (dp_mod (dp_mul (dp_var 5 (pv 5)) dp_int) dp_int) (da_cons (dp_mod (dp_mul (dp_var 5 (pv 5)) dp_int) dp_int) da_nil)))))))
      (dss_one (ds_ret (dp_tup (da_cons dp_str (da_cons (dp_call T.c__law_word hr (by rfl) (da_cons (dp_div (dp_var 5 (pv 5)) dp_int) da_nil)) (da_cons (dp_tuplec (by rfl) T.b_tuple (da_cons (dp_n (dn_lc (bl := []) (own := [("_law_pick", 10)]) (by rfl) sc__law_wide.nd (di_e (dp_slv 7 (pv 7) do_n (do_s (dp_mod (dp_var 5 (pv 5)) dp_int)))) (blkOk_by (own := [("_law_pick", 10)]) (N := N__law_wide) (sc := defScope s__law_wide) (by decide +kernel)) (by intro _ _ _ _ _; exact (dg_name (pg_name (i := 10) sc__law_wide.nd (by rfl) (by exact Or.inl rfl)))) (by intro _ _ _ _ _; exact dts_nil) ?h2 gok_name (by decide))) da_nil)) da_nil)))))))) dss_nil)
      (dss_cons (ds_if (dt_c (dc_eq (hu64 hr) (dp_var 4 (pv 4)) dp_str)) (dss_one (ds_ret (dp_tup (da_cons dp_str (da_cons (dp_call T.c__law_wide hr (by rfl) (da_cons (dp_var 5 (pv 5)) (da_cons (dp_sub (dp_var 1 (pv 1)) dp_int) (da_cons (dp_var 2 (pv 2)) (da_cons (dp_var 3 (pv 3)) da_nil))))) da_nil))))) dss_nil)
      (dss_cons (ds_if (dt_w (dw_or (dt_c (dc_eq (hu64 hr) (dp_var 4 (pv 4)) dp_str)) (dw_or1 (dt_c (dc_eq (hu64 hr) (dp_var 4 (pv 4)) dp_str))))) (dss_one (ds_ret (dp_tup (da_cons (dp_var 4 (pv 4)) (da_cons (dp_call T.c__law_wide hr (by rfl) (da_cons (dp_var 5 (pv 5)) (da_cons (dp_sub (dp_var 1 (pv 1)) dp_int) (da_cons (dp_add (dp_var 2 (pv 2)) dp_int) (da_cons (dp_var 3 (pv 3)) da_nil))))) da_nil))))) dss_nil)
      (dss_cons (ds_set sc__law_wide.nd rfl (Or.inl rfl) (de_p (dp_call T.c__law_wide hr (by rfl) (da_cons (dp_mod (dp_mul (dp_var 5 (pv 5)) dp_int) dp_int) (da_cons (dp_sub (dp_var 1 (pv 1)) dp_int) (da_cons (dp_var 2 (pv 2)) (da_cons (dp_var 3 (pv 3)) da_nil)))))))
      (dss_one (ds_ret (dp_tup (da_cons (dp_var 4 (pv 4)) (da_cons (dp_var 8 (pv 8)) (da_cons (dp_call T.c__law_wide hr (by rfl) (da_cons (dp_mod (dp_mul (dp_var 5 (pv 5)) dp_int) dp_int) (da_cons (dp_sub (dp_var 1 (pv 1)) dp_int) (da_cons (dp_var 2 (pv 2)) (da_cons (dp_var 3 (pv 3)) da_nil))))) da_nil)))))))))))))
  case h1 =>
    intro _ _ _ _ _
    exact (dp_strc (by rfl) T.b_str (da_cons (dp_var 9 (pv 9)) da_nil))
  case h2 =>
    intro _ _ _ _ _
    exact (dp_ixv 6 (pv 6) (dp_mod (dp_var 10 (pv 10)) (dp_len (by rfl) T.b_len (da_cons (dp_var 6 (pv 6)) da_nil))) (fun _ _ => rfl))
set_option maxHeartbeats 4000000 in
theorem d__law_signs (T : Tx P w K mg base n φ) {fa : Addr} (cdv : Value) (A : Around) (outer : List PySem.Env) (s : Shared) (H : Hp) (E : XK) (hr : Room n (A.deeper (PyProof.Rows.envOfC "_law_signs" (defScope s__law_signs) s.heap.objs.size fa cdv))) :
    DSs (cxOf CX0 P w K mg base N__law_signs "_law_signs" (defScope s__law_signs) fa cdv A outer s H E).nox (defBody s__law_signs) (B__law_signs φ) := by
  refine (dss_cons (ds_if (dt_c (dc_eq (hu64 hr) (dp_ixv 0 (pv 0) dp_int (fun _ _ => rfl)) dp_str)) (dss_one (ds_ret dp_int)) dss_nil)
      (dss_one (ds_ret (dp_add (dp_intc (by rfl) T.b_int (da_cons (dp_c (dc_gt (dp_len (by rfl) T.b_len (da_cons (dp_var 0 (pv 0)) da_nil)) dp_int)) da_nil)) (dp_sumc (by rfl) (by rfl) T.b_sum (da_cons (dp_n (dn_lc (bl := [1]) (own := [("_law_part", 1)]) (by rfl) sc__law_signs.nd (di_e (dp_slv 0 (pv 0) (do_s dp_int) do_n)) (blkOk_by (own := [("_law_part", 1)]) (N := N__law_signs) (sc := defScope s__law_signs) (by decide +kernel)) (by intro _ _ _ _ _; exact (dg_name (pg_name (i := 1) sc__law_signs.nd (by rfl) (by exact Or.inl rfl)))) (by intro _ _ _ _ _; exact dts_nil) ?h1 gok_name (by decide))) da_nil))))))
  case h1 =>
    intro _ _ _ _ _
    exact (dp_call T.c__law_signs hr (by rfl) (da_cons (dp_var 1 (pv 1)) da_nil))
set_option maxHeartbeats 4000000 in
theorem d__law_grown (T : Tx P w K mg base n φ) {fa : Addr} (cdv : Value) (A : Around) (outer : List PySem.Env) (s : Shared) (H : Hp) (E : XK) (hr : Room n (A.deeper (PyProof.Rows.envOfC "_law_grown" (defScope s__law_grown) s.heap.objs.size fa cdv))) :
    DSs (cxOf CX0 P w K mg base N__law_grown "_law_grown" (defScope s__law_grown) fa cdv A outer s H E).nox (defBody s__law_grown) (B__law_grown φ) := by
  refine (dss_cons (ds_own sc__law_grown.nd rfl (Or.inl rfl) (dn_lst da_nil))
      (dss_cons (ds_for PassesOwn.never rfl (di_e (dp_slv 0 (pv 0) do_n (do_s dp_int))) (dg_name (pg_name (i := 3) sc__law_grown.nd (by rfl) (Or.inl rfl))) (dss_cons (ds_set sc__law_grown.nd rfl (Or.inl rfl) (de_p (dp_mod (dp_var 3 (pv 3)) dp_int)))
      (dss_cons (ds_set sc__law_grown.nd rfl (Or.inl rfl) (de_p (dp_call T.c__law_wide hr (by rfl) (da_cons (dp_div (dp_var 3 (pv 3)) dp_int) (da_cons dp_int (da_cons dp_int (da_cons (dp_var 1 (pv 1)) da_nil)))))))
      (dss_cons (ds_set sc__law_grown.nd rfl (Or.inl rfl) (de_p (dp_add dp_int (dp_mod (dp_div (dp_var 3 (pv 3)) dp_int) dp_int))))
      (dss_cons (ds_if (dt_c (dc_gt (dp_var 4 (pv 4)) dp_int)) (dss_one (ds_set sc__law_grown.nd rfl (Or.inl rfl) (de_p dp_int))) dss_nil)
      (dss_cons (ds_set sc__law_grown.nd rfl (Or.inl rfl) (de_p (dp_slv 2 (pv 2) (do_s (dp_neg (dp_var 6 (pv 6)))) do_n)))
      (dss_one (ds_if (dt_w (dw_or (dt_c (dc_eq (hu64 hr) (dp_var 4 (pv 4)) dp_int)) (dw_or (dt_c (dc_ltG (hu64 hr) (dp_len (by rfl) T.b_len (da_cons (dp_var 7 (pv 7)) da_nil)) (dp_var 6 (pv 6)))) (dw_or1 (dt_c (dc_gt (dp_maxL (by rfl) (by rfl) T.b_max (da_cons (dp_n (dn_lc (bl := []) (own := [("_law_kid", 10)]) (by rfl) sc__law_grown.nd (di_var 7 (pv 7)) (blkOk_by (own := [("_law_kid", 10)]) (N := N__law_grown) (sc := defScope s__law_grown) (by decide +kernel)) (by intro _ _ _ _ _; exact (dg_name (pg_name (i := 10) sc__law_grown.nd (by rfl) (by exact Or.inl rfl)))) (by intro _ _ _ _ _; exact dts_nil) ?h1 gok_name (by decide))) da_nil)) dp_int)))))) (dss_one (ds_app (pv 2) (de_p (dp_n (dn_lst (da_cons (dp_tup (da_cons dp_str da_nil)) (da_cons dp_int (da_cons (dp_n (dn_lst da_nil)) da_nil)))))) (ko_p 2))) (dss_cons (ds_own sc__law_grown.nd rfl (Or.inl rfl) (dn_slv 2 (pv 2) do_n (do_s (dp_neg (dp_var 6 (pv 6))))))
      (dss_cons (ds_set sc__law_grown.nd rfl (Or.inl rfl) (de_p (dp_add dp_int (dp_maxL (by rfl) (by rfl) T.b_max (da_cons (dp_n (dn_lc (bl := []) (own := [("_law_kid", 10)]) (by rfl) sc__law_grown.nd (di_var 7 (pv 7)) (blkOk_by (own := [("_law_kid", 10)]) (N := N__law_grown) (sc := defScope s__law_grown) (by decide +kernel)) (by intro _ _ _ _ _; exact (dg_name (pg_name (i := 10) sc__law_grown.nd (by rfl) (by exact Or.inl rfl)))) (by intro _ _ _ _ _; exact dts_nil) ?h2 gok_name (by decide))) da_nil)))))
      (dss_cons (ds_set sc__law_grown.nd rfl (Or.inl rfl) (de_p (dp_n (dn_lst da_nil))))
      (dss_cons (ds_for PassesOwn.never rfl (di_var 7 (pv 7)) (dg_name (pg_name (i := 10) sc__law_grown.nd (by rfl) (Or.inl rfl))) (dss_one (ds_set sc__law_grown.nd rfl (Or.inl rfl) (de_p (dp_add (dp_var 9 (pv 9)) (dp_ixv 10 (pv 10) dp_int (fun _ _ => rfl)))))))
      (dss_cons (ds_set sc__law_grown.nd rfl (Or.inl rfl) (de_p (dp_tup (da_cons dp_str (da_cons dp_str (da_cons (dp_var 5 (pv 5)) (da_cons (dp_ix (dp_n (dn_lst (da_cons dp_str (da_cons (dp_ixv 1 (pv 1) dp_int (fun _ _ => rfl)) da_nil)))) (dp_intc (by rfl) T.b_int (da_cons (dp_c (dc_in (hu65 hr) (dp_ixv 5 (pv 5) dp_int (fun _ _ => rfl)) (dp_tup (da_cons dp_str (da_cons dp_str da_nil))))) da_nil)) (fun _ _ => rfl)) (da_cons (dp_tuplec (by rfl) T.b_tuple (da_cons (dp_n (dn_lc (bl := []) (own := [("_law_kid", 10)]) (by rfl) sc__law_grown.nd (di_var 7 (pv 7)) (blkOk_by (own := [("_law_kid", 10)]) (N := N__law_grown) (sc := defScope s__law_grown) (by decide +kernel)) (by intro _ _ _ _ _; exact (dg_name (pg_name (i := 10) sc__law_grown.nd (by rfl) (by exact Or.inl rfl)))) (by intro _ _ _ _ _; exact dts_nil) ?h3 gok_name (by decide))) da_nil)) da_nil))))))))
      (dss_cons (ds_if (dt_c (dc_gt (dp_var 4 (pv 4)) dp_int)) (dss_cons (ds_set sc__law_grown.nd rfl (Or.inl rfl) (de_p (dp_tup (da_cons dp_str (da_cons (dp_var 5 (pv 5)) (da_cons (dp_ixv 11 (pv 11) dp_int (fun _ _ => rfl)) da_nil))))))
      (dss_one (ds_if (dt_c (dc_eq (hu64 hr) (dp_var 9 (pv 9)) (dp_n (dn_lst da_nil)))) (dss_one (ds_set sc__law_grown.nd rfl (Or.inl rfl) (de_p (dp_n (dn_lst (da_cons (dp_tup (da_cons (dp_call T.c__law_signs hr (by rfl) (da_cons (dp_var 5 (pv 5)) da_nil)) (da_cons dp_int (da_cons (dp_add (dp_ix (dp_ixv 7 (pv 7) dp_int (fun _ _ => rfl)) dp_int (fun _ _ => rfl)) (dp_ix (dp_ixv 7 (pv 7) dp_int (fun _ _ => rfl)) dp_int (fun _ _ => rfl))) da_nil)))) da_nil)))))) (dss_one (ds_set sc__law_grown.nd rfl (Or.inl rfl) (de_p (dp_add (dp_var 9 (pv 9)) (dp_n (dn_lst (da_cons (dp_tup (da_cons (dp_call T.c__law_signs hr (by rfl) (da_cons (dp_var 5 (pv 5)) da_nil)) (da_cons dp_int (da_cons dp_int da_nil)))) da_nil)))))))))) dss_nil)
      (dss_one (ds_app (pv 2) (de_p (dp_n (dn_lst (da_cons (dp_var 11 (pv 11)) (da_cons (dp_var 8 (pv 8)) (da_cons (dp_var 9 (pv 9)) da_nil)))))) (ko_p 2)))))))))))))))))
      (dss_one (ds_ret (dp_var 2 (pv 2))))))
  case h1 =>
    intro _ _ _ _ _
    exact (dp_ixv 10 (pv 10) dp_int (fun _ _ => rfl))
  case h2 =>
    intro _ _ _ _ _
    exact (dp_ixv 10 (pv 10) dp_int (fun _ _ => rfl))
  case h3 =>
    intro _ _ _ _ _
    exact (dp_ixv 10 (pv 10) dp_int (fun _ _ => rfl))
set_option maxHeartbeats 4000000 in
theorem d__law_key (T : Tx P w K mg base n φ) {fa : Addr} (cdv : Value) (A : Around) (outer : List PySem.Env) (s : Shared) (H : Hp) (E : XK) (hr : Room n (A.deeper (PyProof.Rows.envOfC "_law_key" (defScope s__law_key) s.heap.objs.size fa cdv))) :
    DSs (cxOf CX0 P w K mg base N__law_key "_law_key" (defScope s__law_key) fa cdv A outer s H E).nox (defBody s__law_key) (B__law_key φ) := by
  refine (dss_cons (ds_if (dt_w (dw_or (dt_no (dt_e (dp_isi .tuple (by rfl) T.b_isinstance (dp_var 0 (pv 0)) (pe_tyInt (by rfl) T.b_tuple boot_tuple')))) (dw_or1 (dt_c (dc_ne (hu64 hr) (dp_len (by rfl) T.b_len (da_cons (dp_var 0 (pv 0)) da_nil)) dp_int))))) (dss_one (ds_ret dp_bl)) dss_nil)
      (dss_cons (ds_for PassesOwn.never rfl (di_var 0 (pv 0)) (dg_name (pg_name (i := 1) sc__law_key.nd (by rfl) (Or.inl rfl))) (dss_one (ds_if (dt_w (dw_or (dt_no (dt_e (dp_isi .int (by rfl) T.b_isinstance (dp_var 1 (pv 1)) (pe_tyInt (by rfl) T.b_int boot_int')))) (dw_or1 (dt_e (dp_isi .bool (by rfl) T.b_isinstance (dp_var 1 (pv 1)) (pe_tyInt (by rfl) T.b_bool boot_bool')))))) (dss_one (ds_ret dp_bl)) dss_nil)))
      (dss_one (ds_ret dp_bl))))
set_option maxHeartbeats 4000000 in
theorem d__law_right (T : Tx P w K mg base n φ) {fa : Addr} (cdv : Value) (A : Around) (outer : List PySem.Env) (s : Shared) (H : Hp) (E : XK) (hr : Room n (A.deeper (PyProof.Rows.envOfC "_law_right" (defScope s__law_right) s.heap.objs.size fa cdv))) :
    DSs (cxOf CX0 P w K mg base N__law_right "_law_right" (defScope s__law_right) fa cdv A outer s H E).nox (defBody s__law_right) (B__law_right φ) := by
  refine (dss_cons (ds_if (dt_w (dw_or (dt_no (dt_e (dp_isi .list (by rfl) T.b_isinstance (dp_var 0 (pv 0)) (pe_tyInt (by rfl) T.b_list boot_list')))) (dw_or1 (dt_c (dc_ne (hu64 hr) (dp_len (by rfl) T.b_len (da_cons (dp_var 0 (pv 0)) da_nil)) (dp_len (by rfl) T.b_len (da_cons (dp_var 1 (pv 1)) da_nil))))))) (dss_one (ds_ret dp_bl)) dss_nil)
      (dss_cons (ds_for PassesOwn.never rfl (di_var 0 (pv 0)) (dg_name (pg_name (i := 2) sc__law_right.nd (by rfl) (Or.inl rfl))) (dss_one (ds_if (dt_no (dt_e (dp_call T.c__law_key hr (by rfl) (da_cons (dp_var 2 (pv 2)) da_nil)))) (dss_one (ds_ret dp_bl)) dss_nil)))
      (dss_cons (ds_for PassesOwn.never rfl (di_rg2 (by rfl) T.b_range (da_cons dp_int (da_cons (dp_len (by rfl) T.b_len (da_cons (dp_var 0 (pv 0)) da_nil)) da_nil))) (dg_name (pg_name (i := 3) sc__law_right.nd (by rfl) (Or.inl rfl))) (dss_one (ds_if (dt_c (dc_ltG (hu64 hr) (dp_ixv 0 (pv 0) (dp_sub (dp_var 3 (pv 3)) dp_int) (fun _ _ => rfl)) (dp_ixv 0 (pv 0) (dp_var 3 (pv 3)) (fun _ _ => rfl)))) (dss_one (ds_ret dp_bl)) dss_nil)))
      (dss_cons (ds_for PassesOwn.never rfl (di_var 1 (pv 1)) (dg_name (pg_name (i := 2) sc__law_right.nd (by rfl) (Or.inl rfl))) (dss_one (ds_if (dt_c (dc_ne (hu64 hr) (dp_count (hu64 hr) (dp_var 0 (pv 0)) (dp_var 2 (pv 2))) (dp_count (hu64 hr) (dp_var 1 (pv 1)) (dp_var 2 (pv 2))))) (dss_one (ds_ret dp_bl)) dss_nil)))
      (dss_one (ds_ret dp_bl))))))
set_option maxHeartbeats 4000000 in
theorem d_law (T : Tx P w K mg base n φ) {fa : Addr} (cdv : Value) (A : Around) (outer : List PySem.Env) (s : Shared) (H : Hp) (E : XK) (hr : Room n (A.deeper (PyProof.Rows.envOfC "law" (defScope s_law) s.heap.objs.size fa cdv))) :
    DSs (cxOf CX0 P w K mg base N_law "law" (defScope s_law) fa cdv A outer s H E).nox (defBody s_law) (B_law φ) := by
  refine (dss_cons (ds_set sc_law.nd rfl (Or.inl rfl) (de_p (dp_call T.c__law_grown hr (by rfl) (da_cons (dp_var 0 (pv 0)) (da_cons (dp_n (dn_lst (da_cons (dp_call T.c__law_name hr (by rfl) (da_cons (dp_call T.c__law_cell hr (by rfl) (da_cons (dp_var 0 (pv 0)) (da_cons dp_int da_nil))) da_nil)) (da_cons dp_str da_nil)))) da_nil)))))
      (dss_cons (ds_own sc_law.nd rfl (Or.inl rfl) (dn_lst da_nil))
      (dss_cons (ds_for PassesOwn.never rfl (di_e (dp_add (dp_var 1 (pv 1)) (dp_n (dn_lst (da_cons (dp_n (dn_lst (da_cons (dp_tup (da_cons dp_str da_nil)) (da_cons dp_int (da_cons (dp_n (dn_lst da_nil)) da_nil))))) da_nil))))) (dg_tup 3 (by rfl) (dgs_cons (dg_name (pg_name (i := 3) sc_law.nd (by rfl) (Or.inl rfl))) (dgs_cons (dg_name (pg_name (i := 4) sc_law.nd (by rfl) (Or.inl rfl))) (dgs_cons (dg_name (pg_name (i := 5) sc_law.nd (by rfl) (Or.inl rfl))) dgs_nil)))) (dss_one (ds_app (pv 2) (de_p (dp_tup (da_cons (dp_call T.c_measure hr (by rfl) (da_cons (dp_var 3 (pv 3)) da_nil)) (da_cons (dp_var 5 (pv 5)) da_nil)))) (ko_p 2))))
      (dss_cons (ds_for PassesOwn.never rfl (di_var 2 (pv 2)) (dg_tup 2 (by rfl) (dgs_cons (dg_name (pg_name (i := 6) sc_law.nd (by rfl) (Or.inl rfl))) (dgs_cons (dg_name (pg_name (i := 5) sc_law.nd (by rfl) (Or.inl rfl))) dgs_nil))) (dss_one (ds_if (dt_no (dt_e (dp_call T.c__law_right hr (by rfl) (da_cons (dp_var 6 (pv 6)) (da_cons (dp_var 5 (pv 5)) da_nil))))) (dss_one (ds_ret dp_bl)) dss_nil)))
      (dss_one (ds_ret dp_bl))))))
end
def bodies (φ : Nat → List D → Option D) : Nat → List D → Option D
  | 0 => runB 2 (B_signs φ)
  | 1 => runB 1 (B_kids_of φ)
  | 2 => runB 2 (B_height φ)
  | 3 => runB 3 (B_keys_met φ)
  | 4 => runB 1 (B_measure φ)
  | 5 => runB 3 (B__law_cell φ)
  | 6 => runB 5 (B__law_name φ)
  | 7 => runB 4 (B__law_word φ)
  | 8 => runB 11 (B__law_wide φ)
  | 9 => runB 2 (B__law_signs φ)
  | 10 => runB 12 (B__law_grown φ)
  | 11 => runB 2 (B__law_key φ)
  | 12 => runB 4 (B__law_right φ)
  | 13 => runB 7 (B_law φ)
  | _ => fun _ => none
def Phi : Nat → Nat → List D → Option D
  | 0 => fun _ _ => none
  | n + 1 => bodies (Phi n)
theorem Phi_signs (n : Nat) (ds : List D) : Phi (n + 1) 0 ds = runB 2 (B_signs (Phi n)) ds := rfl
theorem Phi_kids_of (n : Nat) (ds : List D) : Phi (n + 1) 1 ds = runB 1 (B_kids_of (Phi n)) ds := rfl
theorem Phi_height (n : Nat) (ds : List D) : Phi (n + 1) 2 ds = runB 2 (B_height (Phi n)) ds := rfl
theorem Phi_keys_met (n : Nat) (ds : List D) : Phi (n + 1) 3 ds = runB 3 (B_keys_met (Phi n)) ds := rfl
theorem Phi_measure (n : Nat) (ds : List D) : Phi (n + 1) 4 ds = runB 1 (B_measure (Phi n)) ds := rfl
theorem Phi__law_cell (n : Nat) (ds : List D) : Phi (n + 1) 5 ds = runB 3 (B__law_cell (Phi n)) ds := rfl
theorem Phi__law_name (n : Nat) (ds : List D) : Phi (n + 1) 6 ds = runB 5 (B__law_name (Phi n)) ds := rfl
theorem Phi__law_word (n : Nat) (ds : List D) : Phi (n + 1) 7 ds = runB 4 (B__law_word (Phi n)) ds := rfl
theorem Phi__law_wide (n : Nat) (ds : List D) : Phi (n + 1) 8 ds = runB 11 (B__law_wide (Phi n)) ds := rfl
theorem Phi__law_signs (n : Nat) (ds : List D) : Phi (n + 1) 9 ds = runB 2 (B__law_signs (Phi n)) ds := rfl
theorem Phi__law_grown (n : Nat) (ds : List D) : Phi (n + 1) 10 ds = runB 12 (B__law_grown (Phi n)) ds := rfl
theorem Phi__law_key (n : Nat) (ds : List D) : Phi (n + 1) 11 ds = runB 2 (B__law_key (Phi n)) ds := rfl
theorem Phi__law_right (n : Nat) (ds : List D) : Phi (n + 1) 12 ds = runB 4 (B__law_right (Phi n)) ds := rfl
theorem Phi_law (n : Nat) (ds : List D) : Phi (n + 1) 13 ds = runB 7 (B_law (Phi n)) ds := rfl
theorem R_signs {n : Nat} {x0 : D} {Q : D → Prop} (h : Wp (B_signs (Phi n) [.val x0, .no]) (retQ Q)) : Wp (fnL 1 (Phi (n + 1) 0) [x0]) Q := w_fnL rfl (w_runB h)
theorem R_kids_of {n : Nat} {x0 : D} {Q : D → Prop} (h : Wp (B_kids_of (Phi n) [.val x0]) (retQ Q)) : Wp (fnL 1 (Phi (n + 1) 1) [x0]) Q := w_fnL rfl (w_runB h)
theorem R_height {n : Nat} {x0 : D} {Q : D → Prop} (h : Wp (B_height (Phi n) [.val x0, .no]) (retQ Q)) : Wp (fnL 1 (Phi (n + 1) 2) [x0]) Q := w_fnL rfl (w_runB h)
theorem R_keys_met {n : Nat} {x0 : D} {Q : D → Prop} (h : Wp (B_keys_met (Phi n) [.val x0, .no, .no]) (retQ Q)) : Wp (fnL 1 (Phi (n + 1) 3) [x0]) Q := w_fnL rfl (w_runB h)
theorem R_measure {n : Nat} {x0 : D} {Q : D → Prop} (h : Wp (B_measure (Phi n) [.val x0]) (retQ Q)) : Wp (fnL 1 (Phi (n + 1) 4) [x0]) Q := w_fnL rfl (w_runB h)
theorem R__law_cell {n : Nat} {x0 x1 : D} {Q : D → Prop} (h : Wp (B__law_cell (Phi n) [.val x0, .val x1, .no]) (retQ Q)) : Wp (fnL 2 (Phi (n + 1) 5) [x0, x1]) Q := w_fnL rfl (w_runB h)
theorem R__law_name {n : Nat} {x0 : D} {Q : D → Prop} (h : Wp (B__law_name (Phi n) [.val x0, .no, .no, .no, .no]) (retQ Q)) : Wp (fnL 1 (Phi (n + 1) 6) [x0]) Q := w_fnL rfl (w_runB h)
theorem R__law_word {n : Nat} {x0 : D} {Q : D → Prop} (h : Wp (B__law_word (Phi n) [.val x0, .no, .no, .no]) (retQ Q)) : Wp (fnL 1 (Phi (n + 1) 7) [x0]) Q := w_fnL rfl (w_runB h)
theorem R__law_wide {n : Nat} {x0 x1 x2 x3 : D} {Q : D → Prop} (h : Wp (B__law_wide (Phi n) [.val x0, .val x1, .val x2, .val x3, .no, .no, .no, .no, .no, .no, .no]) (retQ Q)) : Wp (fnL 4 (Phi (n + 1) 8) [x0, x1, x2, x3]) Q := w_fnL rfl (w_runB h)
theorem R__law_signs {n : Nat} {x0 : D} {Q : D → Prop} (h : Wp (B__law_signs (Phi n) [.val x0, .no]) (retQ Q)) : Wp (fnL 1 (Phi (n + 1) 9) [x0]) Q := w_fnL rfl (w_runB h)
theorem R__law_grown {n : Nat} {x0 x1 : D} {Q : D → Prop} (h : Wp (B__law_grown (Phi n) [.val x0, .val x1, .no, .no, .no, .no, .no, .no, .no, .no, .no, .no]) (retQ Q)) : Wp (fnL 2 (Phi (n + 1) 10) [x0, x1]) Q := w_fnL rfl (w_runB h)
theorem R__law_key {n : Nat} {x0 : D} {Q : D → Prop} (h : Wp (B__law_key (Phi n) [.val x0, .no]) (retQ Q)) : Wp (fnL 1 (Phi (n + 1) 11) [x0]) Q := w_fnL rfl (w_runB h)
theorem R__law_right {n : Nat} {x0 x1 : D} {Q : D → Prop} (h : Wp (B__law_right (Phi n) [.val x0, .val x1, .no, .no]) (retQ Q)) : Wp (fnL 2 (Phi (n + 1) 12) [x0, x1]) Q := w_fnL rfl (w_runB h)
theorem R_law {n : Nat} {x0 : D} {Q : D → Prop} (h : Wp (B_law (Phi n) [.val x0, .no, .no, .no, .no, .no, .no]) (retQ Q)) : Wp (fnL 1 (Phi (n + 1) 13) [x0]) Q := w_fnL rfl (w_runB h)
/-- what the top has written of each def -/
structure Top (K : PySem.W.Frag) (mg : Str → Option Value) : Prop where
  b_bool : mg "bool" = none
  b_int : mg "int" = none
  b_isinstance : mg "isinstance" = none
  b_len : mg "len" = none
  b_list : mg "list" = none
  b_max : mg "max" = none
  b_range : mg "range" = none
  b_sorted : mg "sorted" = none
  b_str : mg "str" = none
  b_sum : mg "sum" = none
  b_tuple : mg "tuple" = none
  f_signs : ∃ fa fd, mg "signs" = some (.ref fa) ∧ Fun K "signs" "signs" s_signs fa fd ∧ Binds K fd ["A"] []
  f_kids_of : ∃ fa fd, mg "kids_of" = some (.ref fa) ∧ Fun K "kids_of" "kids_of" s_kids_of fa fd ∧ Binds K fd ["tree"] []
  f_height : ∃ fa fd, mg "height" = some (.ref fa) ∧ Fun K "height" "height" s_height fa fd ∧ Binds K fd ["tree"] []
  f_keys_met : ∃ fa fd, mg "keys_met" = some (.ref fa) ∧ Fun K "keys_met" "keys_met" s_keys_met fa fd ∧ Binds K fd ["tree"] []
  f_measure : ∃ fa fd, mg "measure" = some (.ref fa) ∧ Fun K "measure" "measure" s_measure fa fd ∧ Binds K fd ["tree"] []
  f__law_cell : ∃ fa fd, mg "_law_cell" = some (.ref fa) ∧ Fun K "_law_cell" "_law_cell" s__law_cell fa fd ∧ Binds K fd ["_law_script", "_law_k"] []
  f__law_name : ∃ fa fd, mg "_law_name" = some (.ref fa) ∧ Fun K "_law_name" "_law_name" s__law_name fa fd ∧ Binds K fd ["_law_cell_here"] []
  f__law_word : ∃ fa fd, mg "_law_word" = some (.ref fa) ∧ Fun K "_law_word" "_law_word" s__law_word fa fd ∧ Binds K fd ["_law_cell_here"] []
  f__law_wide : ∃ fa fd, mg "_law_wide" = some (.ref fa) ∧ Fun K "_law_wide" "_law_wide" s__law_wide fa fd ∧ Binds K fd ["_law_cell_here", "_law_deep", "_law_around", "_law_names"] []
  f__law_signs : ∃ fa fd, mg "_law_signs" = some (.ref fa) ∧ Fun K "_law_signs" "_law_signs" s__law_signs fa fd ∧ Binds K fd ["_law_s"] []
  f__law_grown : ∃ fa fd, mg "_law_grown" = some (.ref fa) ∧ Fun K "_law_grown" "_law_grown" s__law_grown fa fd ∧ Binds K fd ["_law_script", "_law_some"] []
  f__law_key : ∃ fa fd, mg "_law_key" = some (.ref fa) ∧ Fun K "_law_key" "_law_key" s__law_key fa fd ∧ Binds K fd ["_law_one"] []
  f__law_right : ∃ fa fd, mg "_law_right" = some (.ref fa) ∧ Fun K "_law_right" "_law_right" s__law_right fa fd ∧ Binds K fd ["_law_found", "_law_keys"] []
  f_law : ∃ fa fd, mg "law" = some (.ref fa) ∧ Fun K "law" "law" s_law fa fd ∧ Binds K fd ["_law_script"] []
theorem Top.all {P : Program} {w : World} {K : PySem.W.Frag} {mg : Str → Option Value} {base : Heap} (t : Top K mg) : ∀ n, Tx P w K mg base n (Phi n)
  | 0 => {
      b_bool := t.b_bool
      b_int := t.b_int
      b_isinstance := t.b_isinstance
      b_len := t.b_len
      b_list := t.b_list
      b_max := t.b_max
      b_range := t.b_range
      b_sorted := t.b_sorted
      b_str := t.b_str
      b_sum := t.b_sum
      b_tuple := t.b_tuple
      c_signs := let ⟨_, _, h1, h2, h3⟩ := t.f_signs; fok_zero h2 h1 h3 fun _ => rfl
      c_kids_of := let ⟨_, _, h1, h2, h3⟩ := t.f_kids_of; fok_zero h2 h1 h3 fun _ => rfl
      c_height := let ⟨_, _, h1, h2, h3⟩ := t.f_height; fok_zero h2 h1 h3 fun _ => rfl
      c_keys_met := let ⟨_, _, h1, h2, h3⟩ := t.f_keys_met; fok_zero h2 h1 h3 fun _ => rfl
      c_measure := let ⟨_, _, h1, h2, h3⟩ := t.f_measure; fok_zero h2 h1 h3 fun _ => rfl
      c__law_cell := let ⟨_, _, h1, h2, h3⟩ := t.f__law_cell; fok_zero h2 h1 h3 fun _ => rfl
      c__law_name := let ⟨_, _, h1, h2, h3⟩ := t.f__law_name; fok_zero h2 h1 h3 fun _ => rfl
      c__law_word := let ⟨_, _, h1, h2, h3⟩ := t.f__law_word; fok_zero h2 h1 h3 fun _ => rfl
      c__law_wide := let ⟨_, _, h1, h2, h3⟩ := t.f__law_wide; fok_zero h2 h1 h3 fun _ => rfl
      c__law_signs := let ⟨_, _, h1, h2, h3⟩ := t.f__law_signs; fok_zero h2 h1 h3 fun _ => rfl
      c__law_grown := let ⟨_, _, h1, h2, h3⟩ := t.f__law_grown; fok_zero h2 h1 h3 fun _ => rfl
      c__law_key := let ⟨_, _, h1, h2, h3⟩ := t.f__law_key; fok_zero h2 h1 h3 fun _ => rfl
      c__law_right := let ⟨_, _, h1, h2, h3⟩ := t.f__law_right; fok_zero h2 h1 h3 fun _ => rfl
      c_law := let ⟨_, _, h1, h2, h3⟩ := t.f_law; fok_zero h2 h1 h3 fun _ => rfl
    }
  | n + 1 => {
      b_bool := t.b_bool
      b_int := t.b_int
      b_isinstance := t.b_isinstance
      b_len := t.b_len
      b_list := t.b_list
      b_max := t.b_max
      b_range := t.b_range
      b_sorted := t.b_sorted
      b_str := t.b_str
      b_sum := t.b_sum
      b_tuple := t.b_tuple
      c_signs := let ⟨_, _, h1, h2, h3⟩ := t.f_signs; fok_mk h2 h1 sc_signs h3 (d_signs (t.all n))
      c_kids_of := let ⟨_, _, h1, h2, h3⟩ := t.f_kids_of; fok_mk h2 h1 sc_kids_of h3 (d_kids_of (t.all n))
      c_height := let ⟨_, _, h1, h2, h3⟩ := t.f_height; fok_mk h2 h1 sc_height h3 (d_height (t.all n))
      c_keys_met := let ⟨_, _, h1, h2, h3⟩ := t.f_keys_met; fok_mk h2 h1 sc_keys_met h3 (d_keys_met (t.all n))
      c_measure := let ⟨_, _, h1, h2, h3⟩ := t.f_measure; fok_mk h2 h1 sc_measure h3 (d_measure (t.all n))
      c__law_cell := let ⟨_, _, h1, h2, h3⟩ := t.f__law_cell; fok_mk h2 h1 sc__law_cell h3 (d__law_cell (t.all n))
      c__law_name := let ⟨_, _, h1, h2, h3⟩ := t.f__law_name; fok_mk h2 h1 sc__law_name h3 (d__law_name (t.all n))
      c__law_word := let ⟨_, _, h1, h2, h3⟩ := t.f__law_word; fok_mk h2 h1 sc__law_word h3 (d__law_word (t.all n))
      c__law_wide := let ⟨_, _, h1, h2, h3⟩ := t.f__law_wide; fok_mk h2 h1 sc__law_wide h3 (d__law_wide (t.all n))
      c__law_signs := let ⟨_, _, h1, h2, h3⟩ := t.f__law_signs; fok_mk h2 h1 sc__law_signs h3 (d__law_signs (t.all n))
      c__law_grown := let ⟨_, _, h1, h2, h3⟩ := t.f__law_grown; fok_mk h2 h1 sc__law_grown h3 (d__law_grown (t.all n))
      c__law_key := let ⟨_, _, h1, h2, h3⟩ := t.f__law_key; fok_mk h2 h1 sc__law_key h3 (d__law_key (t.all n))
      c__law_right := let ⟨_, _, h1, h2, h3⟩ := t.f__law_right; fok_mk h2 h1 sc__law_right h3 (d__law_right (t.all n))
      c_law := let ⟨_, _, h1, h2, h3⟩ := t.f_law; fok_mk h2 h1 sc_law h3 (d_law (t.all n))
    }
section
variable {K : PySem.W.Frag} {h : Heap} {mg : Str → Option Value}
theorem mk_top {f0 : Addr} {od0 an0 : Option Addr} {sl0 : Array (Option Value)} {oc0 kV0 dc0 pm0 cd0 ct0 : Value}
    {f1 : Addr} {od1 an1 : Option Addr} {sl1 : Array (Option Value)} {oc1 kV1 dc1 pm1 cd1 ct1 : Value}
    {f2 : Addr} {od2 an2 : Option Addr} {sl2 : Array (Option Value)} {oc2 kV2 dc2 pm2 cd2 ct2 : Value}
    {f3 : Addr} {od3 an3 : Option Addr} {sl3 : Array (Option Value)} {oc3 kV3 dc3 pm3 cd3 ct3 : Value}
    {f4 : Addr} {od4 an4 : Option Addr} {sl4 : Array (Option Value)} {oc4 kV4 dc4 pm4 cd4 ct4 : Value}
    {f5 : Addr} {od5 an5 : Option Addr} {sl5 : Array (Option Value)} {oc5 kV5 dc5 pm5 cd5 ct5 : Value}
    {f6 : Addr} {od6 an6 : Option Addr} {sl6 : Array (Option Value)} {oc6 kV6 dc6 pm6 cd6 ct6 : Value}
    {f7 : Addr} {od7 an7 : Option Addr} {sl7 : Array (Option Value)} {oc7 kV7 dc7 pm7 cd7 ct7 : Value}
    {f8 : Addr} {od8 an8 : Option Addr} {sl8 : Array (Option Value)} {oc8 kV8 dc8 pm8 cd8 ct8 : Value}
    {f9 : Addr} {od9 an9 : Option Addr} {sl9 : Array (Option Value)} {oc9 kV9 dc9 pm9 cd9 ct9 : Value}
    {f10 : Addr} {od10 an10 : Option Addr} {sl10 : Array (Option Value)} {oc10 kV10 dc10 pm10 cd10 ct10 : Value}
    {f11 : Addr} {od11 an11 : Option Addr} {sl11 : Array (Option Value)} {oc11 kV11 dc11 pm11 cd11 ct11 : Value}
    {f12 : Addr} {od12 an12 : Option Addr} {sl12 : Array (Option Value)} {oc12 kV12 dc12 pm12 cd12 ct12 : Value}
    {f13 : Addr} {od13 an13 : Option Addr} {sl13 : Array (Option Value)} {oc13 kV13 dc13 pm13 cd13 ct13 : Value} (X : K.In h) (G : h.Ns mainGlobals mg) (a0 : PySem.W.nsIn K mainGlobals "signs" = some (some (.ref f0))) (l0 : K.lookup f0 = some ⟨oc0, od0, .func (PySem.W.fnOf "signs" "signs" (defArgs s_signs) (defBody s_signs) (defScope s_signs) .none kV0 dc0 pm0 an0 cd0 ct0), sl0⟩) (c0 : PySem.W.codeIn K cd0 "signs" = true) (k0 : PySem.W.keepIn K (.ref f0) = true)
    (a1 : PySem.W.nsIn K mainGlobals "kids_of" = some (some (.ref f1))) (l1 : K.lookup f1 = some ⟨oc1, od1, .func (PySem.W.fnOf "kids_of" "kids_of" (defArgs s_kids_of) (defBody s_kids_of) (defScope s_kids_of) .none kV1 dc1 pm1 an1 cd1 ct1), sl1⟩) (c1 : PySem.W.codeIn K cd1 "kids_of" = true) (k1 : PySem.W.keepIn K (.ref f1) = true)
    (a2 : PySem.W.nsIn K mainGlobals "height" = some (some (.ref f2))) (l2 : K.lookup f2 = some ⟨oc2, od2, .func (PySem.W.fnOf "height" "height" (defArgs s_height) (defBody s_height) (defScope s_height) .none kV2 dc2 pm2 an2 cd2 ct2), sl2⟩) (c2 : PySem.W.codeIn K cd2 "height" = true) (k2 : PySem.W.keepIn K (.ref f2) = true)
    (a3 : PySem.W.nsIn K mainGlobals "keys_met" = some (some (.ref f3))) (l3 : K.lookup f3 = some ⟨oc3, od3, .func (PySem.W.fnOf "keys_met" "keys_met" (defArgs s_keys_met) (defBody s_keys_met) (defScope s_keys_met) .none kV3 dc3 pm3 an3 cd3 ct3), sl3⟩) (c3 : PySem.W.codeIn K cd3 "keys_met" = true) (k3 : PySem.W.keepIn K (.ref f3) = true)
    (a4 : PySem.W.nsIn K mainGlobals "measure" = some (some (.ref f4))) (l4 : K.lookup f4 = some ⟨oc4, od4, .func (PySem.W.fnOf "measure" "measure" (defArgs s_measure) (defBody s_measure) (defScope s_measure) .none kV4 dc4 pm4 an4 cd4 ct4), sl4⟩) (c4 : PySem.W.codeIn K cd4 "measure" = true) (k4 : PySem.W.keepIn K (.ref f4) = true)
    (a5 : PySem.W.nsIn K mainGlobals "_law_cell" = some (some (.ref f5))) (l5 : K.lookup f5 = some ⟨oc5, od5, .func (PySem.W.fnOf "_law_cell" "_law_cell" (defArgs s__law_cell) (defBody s__law_cell) (defScope s__law_cell) .none kV5 dc5 pm5 an5 cd5 ct5), sl5⟩) (c5 : PySem.W.codeIn K cd5 "_law_cell" = true) (k5 : PySem.W.keepIn K (.ref f5) = true)
    (a6 : PySem.W.nsIn K mainGlobals "_law_name" = some (some (.ref f6))) (l6 : K.lookup f6 = some ⟨oc6, od6, .func (PySem.W.fnOf "_law_name" "_law_name" (defArgs s__law_name) (defBody s__law_name) (defScope s__law_name) .none kV6 dc6 pm6 an6 cd6 ct6), sl6⟩) (c6 : PySem.W.codeIn K cd6 "_law_name" = true) (k6 : PySem.W.keepIn K (.ref f6) = true)
    (a7 : PySem.W.nsIn K mainGlobals "_law_word" = some (some (.ref f7))) (l7 : K.lookup f7 = some ⟨oc7, od7, .func (PySem.W.fnOf "_law_word" "_law_word" (defArgs s__law_word) (defBody s__law_word) (defScope s__law_word) .none kV7 dc7 pm7 an7 cd7 ct7), sl7⟩) (c7 : PySem.W.codeIn K cd7 "_law_word" = true) (k7 : PySem.W.keepIn K (.ref f7) = true)
    (a8 : PySem.W.nsIn K mainGlobals "_law_wide" = some (some (.ref f8))) (l8 : K.lookup f8 = some ⟨oc8, od8, .func (PySem.W.fnOf "_law_wide" "_law_wide" (defArgs s__law_wide) (defBody s__law_wide) (defScope s__law_wide) .none kV8 dc8 pm8 an8 cd8 ct8), sl8⟩) (c8 : PySem.W.codeIn K cd8 "_law_wide" = true) (k8 : PySem.W.keepIn K (.ref f8) = true)
    (a9 : PySem.W.nsIn K mainGlobals "_law_signs" = some (some (.ref f9))) (l9 : K.lookup f9 = some ⟨oc9, od9, .func (PySem.W.fnOf "_law_signs" "_law_signs" (defArgs s__law_signs) (defBody s__law_signs) (defScope s__law_signs) .none kV9 dc9 pm9 an9 cd9 ct9), sl9⟩) (c9 : PySem.W.codeIn K cd9 "_law_signs" = true) (k9 : PySem.W.keepIn K (.ref f9) = true)
    (a10 : PySem.W.nsIn K mainGlobals "_law_grown" = some (some (.ref f10))) (l10 : K.lookup f10 = some ⟨oc10, od10, .func (PySem.W.fnOf "_law_grown" "_law_grown" (defArgs s__law_grown) (defBody s__law_grown) (defScope s__law_grown) .none kV10 dc10 pm10 an10 cd10 ct10), sl10⟩) (c10 : PySem.W.codeIn K cd10 "_law_grown" = true) (k10 : PySem.W.keepIn K (.ref f10) = true)
    (a11 : PySem.W.nsIn K mainGlobals "_law_key" = some (some (.ref f11))) (l11 : K.lookup f11 = some ⟨oc11, od11, .func (PySem.W.fnOf "_law_key" "_law_key" (defArgs s__law_key) (defBody s__law_key) (defScope s__law_key) .none kV11 dc11 pm11 an11 cd11 ct11), sl11⟩) (c11 : PySem.W.codeIn K cd11 "_law_key" = true) (k11 : PySem.W.keepIn K (.ref f11) = true)
    (a12 : PySem.W.nsIn K mainGlobals "_law_right" = some (some (.ref f12))) (l12 : K.lookup f12 = some ⟨oc12, od12, .func (PySem.W.fnOf "_law_right" "_law_right" (defArgs s__law_right) (defBody s__law_right) (defScope s__law_right) .none kV12 dc12 pm12 an12 cd12 ct12), sl12⟩) (c12 : PySem.W.codeIn K cd12 "_law_right" = true) (k12 : PySem.W.keepIn K (.ref f12) = true)
    (a13 : PySem.W.nsIn K mainGlobals "law" = some (some (.ref f13))) (l13 : K.lookup f13 = some ⟨oc13, od13, .func (PySem.W.fnOf "law" "law" (defArgs s_law) (defBody s_law) (defScope s_law) .none kV13 dc13 pm13 an13 cd13 ct13), sl13⟩) (c13 : PySem.W.codeIn K cd13 "law" = true) (k13 : PySem.W.keepIn K (.ref f13) = true)
    (z_bool : PySem.W.nsIn K mainGlobals "bool" = some none)
    (z_int : PySem.W.nsIn K mainGlobals "int" = some none)
    (z_isinstance : PySem.W.nsIn K mainGlobals "isinstance" = some none)
    (z_len : PySem.W.nsIn K mainGlobals "len" = some none)
    (z_list : PySem.W.nsIn K mainGlobals "list" = some none)
    (z_max : PySem.W.nsIn K mainGlobals "max" = some none)
    (z_range : PySem.W.nsIn K mainGlobals "range" = some none)
    (z_sorted : PySem.W.nsIn K mainGlobals "sorted" = some none)
    (z_str : PySem.W.nsIn K mainGlobals "str" = some none)
    (z_sum : PySem.W.nsIn K mainGlobals "sum" = some none)
    (z_tuple : PySem.W.nsIn K mainGlobals "tuple" = some none) : Top K mg where
  b_bool := PySem.W.mg_none_of X G z_bool
  b_int := PySem.W.mg_none_of X G z_int
  b_isinstance := PySem.W.mg_none_of X G z_isinstance
  b_len := PySem.W.mg_none_of X G z_len
  b_list := PySem.W.mg_none_of X G z_list
  b_max := PySem.W.mg_none_of X G z_max
  b_range := PySem.W.mg_none_of X G z_range
  b_sorted := PySem.W.mg_none_of X G z_sorted
  b_str := PySem.W.mg_none_of X G z_str
  b_sum := PySem.W.mg_none_of X G z_sum
  b_tuple := PySem.W.mg_none_of X G z_tuple
  f_signs := ⟨f0, _, PySem.W.mg_of X G a0, fun_mk l0 c0 k0, (fun_mk (st := s_signs) l0 c0 k0).binds fun _ _ _ _ _ _ us hl => match us, hl with | [_], _ => rfl⟩
  f_kids_of := ⟨f1, _, PySem.W.mg_of X G a1, fun_mk l1 c1 k1, (fun_mk (st := s_kids_of) l1 c1 k1).binds fun _ _ _ _ _ _ us hl => match us, hl with | [_], _ => rfl⟩
  f_height := ⟨f2, _, PySem.W.mg_of X G a2, fun_mk l2 c2 k2, (fun_mk (st := s_height) l2 c2 k2).binds fun _ _ _ _ _ _ us hl => match us, hl with | [_], _ => rfl⟩
  f_keys_met := ⟨f3, _, PySem.W.mg_of X G a3, fun_mk l3 c3 k3, (fun_mk (st := s_keys_met) l3 c3 k3).binds fun _ _ _ _ _ _ us hl => match us, hl with | [_], _ => rfl⟩
  f_measure := ⟨f4, _, PySem.W.mg_of X G a4, fun_mk l4 c4 k4, (fun_mk (st := s_measure) l4 c4 k4).binds fun _ _ _ _ _ _ us hl => match us, hl with | [_], _ => rfl⟩
  f__law_cell := ⟨f5, _, PySem.W.mg_of X G a5, fun_mk l5 c5 k5, (fun_mk (st := s__law_cell) l5 c5 k5).binds fun _ _ _ _ _ _ us hl => match us, hl with | [_, _], _ => rfl⟩
  f__law_name := ⟨f6, _, PySem.W.mg_of X G a6, fun_mk l6 c6 k6, (fun_mk (st := s__law_name) l6 c6 k6).binds fun _ _ _ _ _ _ us hl => match us, hl with | [_], _ => rfl⟩
  f__law_word := ⟨f7, _, PySem.W.mg_of X G a7, fun_mk l7 c7 k7, (fun_mk (st := s__law_word) l7 c7 k7).binds fun _ _ _ _ _ _ us hl => match us, hl with | [_], _ => rfl⟩
  f__law_wide := ⟨f8, _, PySem.W.mg_of X G a8, fun_mk l8 c8 k8, (fun_mk (st := s__law_wide) l8 c8 k8).binds fun _ _ _ _ _ _ us hl => match us, hl with | [_, _, _, _], _ => rfl⟩
  f__law_signs := ⟨f9, _, PySem.W.mg_of X G a9, fun_mk l9 c9 k9, (fun_mk (st := s__law_signs) l9 c9 k9).binds fun _ _ _ _ _ _ us hl => match us, hl with | [_], _ => rfl⟩
  f__law_grown := ⟨f10, _, PySem.W.mg_of X G a10, fun_mk l10 c10 k10, (fun_mk (st := s__law_grown) l10 c10 k10).binds fun _ _ _ _ _ _ us hl => match us, hl with | [_, _], _ => rfl⟩
  f__law_key := ⟨f11, _, PySem.W.mg_of X G a11, fun_mk l11 c11 k11, (fun_mk (st := s__law_key) l11 c11 k11).binds fun _ _ _ _ _ _ us hl => match us, hl with | [_], _ => rfl⟩
  f__law_right := ⟨f12, _, PySem.W.mg_of X G a12, fun_mk l12 c12 k12, (fun_mk (st := s__law_right) l12 c12 k12).binds fun _ _ _ _ _ _ us hl => match us, hl with | [_, _], _ => rfl⟩
  f_law := ⟨f13, _, PySem.W.mg_of X G a13, fun_mk l13 c13 k13, (fun_mk (st := s_law) l13 c13 k13).binds fun _ _ _ _ _ _ us hl => match us, hl with | [_], _ => rfl⟩
end
theorem fin {P : Program} {w : World} {K : PySem.W.Frag} {h : Heap} {mg : Str → Option Value} {fa : Addr} (n : Nat) {f0 : Addr} {od0 an0 : Option Addr} {sl0 : Array (Option Value)} {oc0 kV0 dc0 pm0 cd0 ct0 : Value}
    {f1 : Addr} {od1 an1 : Option Addr} {sl1 : Array (Option Value)} {oc1 kV1 dc1 pm1 cd1 ct1 : Value}
    {f2 : Addr} {od2 an2 : Option Addr} {sl2 : Array (Option Value)} {oc2 kV2 dc2 pm2 cd2 ct2 : Value}
    {f3 : Addr} {od3 an3 : Option Addr} {sl3 : Array (Option Value)} {oc3 kV3 dc3 pm3 cd3 ct3 : Value}
    {f4 : Addr} {od4 an4 : Option Addr} {sl4 : Array (Option Value)} {oc4 kV4 dc4 pm4 cd4 ct4 : Value}
    {f5 : Addr} {od5 an5 : Option Addr} {sl5 : Array (Option Value)} {oc5 kV5 dc5 pm5 cd5 ct5 : Value}
    {f6 : Addr} {od6 an6 : Option Addr} {sl6 : Array (Option Value)} {oc6 kV6 dc6 pm6 cd6 ct6 : Value}
    {f7 : Addr} {od7 an7 : Option Addr} {sl7 : Array (Option Value)} {oc7 kV7 dc7 pm7 cd7 ct7 : Value}
    {f8 : Addr} {od8 an8 : Option Addr} {sl8 : Array (Option Value)} {oc8 kV8 dc8 pm8 cd8 ct8 : Value}
    {f9 : Addr} {od9 an9 : Option Addr} {sl9 : Array (Option Value)} {oc9 kV9 dc9 pm9 cd9 ct9 : Value}
    {f10 : Addr} {od10 an10 : Option Addr} {sl10 : Array (Option Value)} {oc10 kV10 dc10 pm10 cd10 ct10 : Value}
    {f11 : Addr} {od11 an11 : Option Addr} {sl11 : Array (Option Value)} {oc11 kV11 dc11 pm11 cd11 ct11 : Value}
    {f12 : Addr} {od12 an12 : Option Addr} {sl12 : Array (Option Value)} {oc12 kV12 dc12 pm12 cd12 ct12 : Value}
    {f13 : Addr} {od13 an13 : Option Addr} {sl13 : Array (Option Value)} {oc13 kV13 dc13 pm13 cd13 ct13 : Value} (X : K.In h) (G : h.Ns mainGlobals mg) (hfa : mg "law" = some (.ref fa)) (a0 : PySem.W.nsIn K mainGlobals "signs" = some (some (.ref f0))) (l0 : K.lookup f0 = some ⟨oc0, od0, .func (PySem.W.fnOf "signs" "signs" (defArgs s_signs) (defBody s_signs) (defScope s_signs) .none kV0 dc0 pm0 an0 cd0 ct0), sl0⟩) (c0 : PySem.W.codeIn K cd0 "signs" = true) (k0 : PySem.W.keepIn K (.ref f0) = true)
    (a1 : PySem.W.nsIn K mainGlobals "kids_of" = some (some (.ref f1))) (l1 : K.lookup f1 = some ⟨oc1, od1, .func (PySem.W.fnOf "kids_of" "kids_of" (defArgs s_kids_of) (defBody s_kids_of) (defScope s_kids_of) .none kV1 dc1 pm1 an1 cd1 ct1), sl1⟩) (c1 : PySem.W.codeIn K cd1 "kids_of" = true) (k1 : PySem.W.keepIn K (.ref f1) = true)
    (a2 : PySem.W.nsIn K mainGlobals "height" = some (some (.ref f2))) (l2 : K.lookup f2 = some ⟨oc2, od2, .func (PySem.W.fnOf "height" "height" (defArgs s_height) (defBody s_height) (defScope s_height) .none kV2 dc2 pm2 an2 cd2 ct2), sl2⟩) (c2 : PySem.W.codeIn K cd2 "height" = true) (k2 : PySem.W.keepIn K (.ref f2) = true)
    (a3 : PySem.W.nsIn K mainGlobals "keys_met" = some (some (.ref f3))) (l3 : K.lookup f3 = some ⟨oc3, od3, .func (PySem.W.fnOf "keys_met" "keys_met" (defArgs s_keys_met) (defBody s_keys_met) (defScope s_keys_met) .none kV3 dc3 pm3 an3 cd3 ct3), sl3⟩) (c3 : PySem.W.codeIn K cd3 "keys_met" = true) (k3 : PySem.W.keepIn K (.ref f3) = true)
    (a4 : PySem.W.nsIn K mainGlobals "measure" = some (some (.ref f4))) (l4 : K.lookup f4 = some ⟨oc4, od4, .func (PySem.W.fnOf "measure" "measure" (defArgs s_measure) (defBody s_measure) (defScope s_measure) .none kV4 dc4 pm4 an4 cd4 ct4), sl4⟩) (c4 : PySem.W.codeIn K cd4 "measure" = true) (k4 : PySem.W.keepIn K (.ref f4) = true)
    (a5 : PySem.W.nsIn K mainGlobals "_law_cell" = some (some (.ref f5))) (l5 : K.lookup f5 = some ⟨oc5, od5, .func (PySem.W.fnOf "_law_cell" "_law_cell" (defArgs s__law_cell) (defBody s__law_cell) (defScope s__law_cell) .none kV5 dc5 pm5 an5 cd5 ct5), sl5⟩) (c5 : PySem.W.codeIn K cd5 "_law_cell" = true) (k5 : PySem.W.keepIn K (.ref f5) = true)
    (a6 : PySem.W.nsIn K mainGlobals "_law_name" = some (some (.ref f6))) (l6 : K.lookup f6 = some ⟨oc6, od6, .func (PySem.W.fnOf "_law_name" "_law_name" (defArgs s__law_name) (defBody s__law_name) (defScope s__law_name) .none kV6 dc6 pm6 an6 cd6 ct6), sl6⟩) (c6 : PySem.W.codeIn K cd6 "_law_name" = true) (k6 : PySem.W.keepIn K (.ref f6) = true)
    (a7 : PySem.W.nsIn K mainGlobals "_law_word" = some (some (.ref f7))) (l7 : K.lookup f7 = some ⟨oc7, od7, .func (PySem.W.fnOf "_law_word" "_law_word" (defArgs s__law_word) (defBody s__law_word) (defScope s__law_word) .none kV7 dc7 pm7 an7 cd7 ct7), sl7⟩) (c7 : PySem.W.codeIn K cd7 "_law_word" = true) (k7 : PySem.W.keepIn K (.ref f7) = true)
    (a8 : PySem.W.nsIn K mainGlobals "_law_wide" = some (some (.ref f8))) (l8 : K.lookup f8 = some ⟨oc8, od8, .func (PySem.W.fnOf "_law_wide" "_law_wide" (defArgs s__law_wide) (defBody s__law_wide) (defScope s__law_wide) .none kV8 dc8 pm8 an8 cd8 ct8), sl8⟩) (c8 : PySem.W.codeIn K cd8 "_law_wide" = true) (k8 : PySem.W.keepIn K (.ref f8) = true)
    (a9 : PySem.W.nsIn K mainGlobals "_law_signs" = some (some (.ref f9))) (l9 : K.lookup f9 = some ⟨oc9, od9, .func (PySem.W.fnOf "_law_signs" "_law_signs" (defArgs s__law_signs) (defBody s__law_signs) (defScope s__law_signs) .none kV9 dc9 pm9 an9 cd9 ct9), sl9⟩) (c9 : PySem.W.codeIn K cd9 "_law_signs" = true) (k9 : PySem.W.keepIn K (.ref f9) = true)
    (a10 : PySem.W.nsIn K mainGlobals "_law_grown" = some (some (.ref f10))) (l10 : K.lookup f10 = some ⟨oc10, od10, .func (PySem.W.fnOf "_law_grown" "_law_grown" (defArgs s__law_grown) (defBody s__law_grown) (defScope s__law_grown) .none kV10 dc10 pm10 an10 cd10 ct10), sl10⟩) (c10 : PySem.W.codeIn K cd10 "_law_grown" = true) (k10 : PySem.W.keepIn K (.ref f10) = true)
    (a11 : PySem.W.nsIn K mainGlobals "_law_key" = some (some (.ref f11))) (l11 : K.lookup f11 = some ⟨oc11, od11, .func (PySem.W.fnOf "_law_key" "_law_key" (defArgs s__law_key) (defBody s__law_key) (defScope s__law_key) .none kV11 dc11 pm11 an11 cd11 ct11), sl11⟩) (c11 : PySem.W.codeIn K cd11 "_law_key" = true) (k11 : PySem.W.keepIn K (.ref f11) = true)
    (a12 : PySem.W.nsIn K mainGlobals "_law_right" = some (some (.ref f12))) (l12 : K.lookup f12 = some ⟨oc12, od12, .func (PySem.W.fnOf "_law_right" "_law_right" (defArgs s__law_right) (defBody s__law_right) (defScope s__law_right) .none kV12 dc12 pm12 an12 cd12 ct12), sl12⟩) (c12 : PySem.W.codeIn K cd12 "_law_right" = true) (k12 : PySem.W.keepIn K (.ref f12) = true)
    (a13 : PySem.W.nsIn K mainGlobals "law" = some (some (.ref f13))) (l13 : K.lookup f13 = some ⟨oc13, od13, .func (PySem.W.fnOf "law" "law" (defArgs s_law) (defBody s_law) (defScope s_law) .none kV13 dc13 pm13 an13 cd13 ct13), sl13⟩) (c13 : PySem.W.codeIn K cd13 "law" = true) (k13 : PySem.W.keepIn K (.ref f13) = true)
    (z_bool : PySem.W.nsIn K mainGlobals "bool" = some none)
    (z_int : PySem.W.nsIn K mainGlobals "int" = some none)
    (z_isinstance : PySem.W.nsIn K mainGlobals "isinstance" = some none)
    (z_len : PySem.W.nsIn K mainGlobals "len" = some none)
    (z_list : PySem.W.nsIn K mainGlobals "list" = some none)
    (z_max : PySem.W.nsIn K mainGlobals "max" = some none)
    (z_range : PySem.W.nsIn K mainGlobals "range" = some none)
    (z_sorted : PySem.W.nsIn K mainGlobals "sorted" = some none)
    (z_str : PySem.W.nsIn K mainGlobals "str" = some none)
    (z_sum : PySem.W.nsIn K mainGlobals "sum" = some none)
    (z_tuple : PySem.W.nsIn K mainGlobals "tuple" = some none) :
    ∃ fd : FuncData, (∀ (s : Shared) (v : Value), BindsTo s fd ⟨[v], []⟩ [("_law_script", v)]) ∧ ∀ base : Heap, K.In base → base.Ns mainGlobals mg → FnOk P w K mg base CX0 (n + 1) fa fd ["_law_script"] (spD K (Phi (n + 1) 13) 1) := by
  have t : Top K mg := mk_top X G a0 l0 c0 k0 a1 l1 c1 k1 a2 l2 c2 k2 a3 l3 c3 k3 a4 l4 c4 k4 a5 l5 c5 k5 a6 l6 c6 k6 a7 l7 c7 k7 a8 l8 c8 k8 a9 l9 c9 k9 a10 l10 c10 k10 a11 l11 c11 k11 a12 l12 c12 k12 a13 l13 c13 k13 z_bool z_int z_isinstance z_len z_list z_max z_range z_sorted z_str z_sum z_tuple
  have e := hfa.symm.trans (PySem.W.mg_of X G a13)
  cases e
  exact ⟨_, fun s v => .of_eq rfl, fun base _ _ => fn_mk (fun_mk (st := s_law) l13 c13 k13) sc_law (d_law (t.all n))⟩
end G

namespace G
open PySem L2 DL ST
theorem cell_ok {n : Nat} (hn : 1 ≤ n) (ns : List Int) (k : Int) (h0 : 0 ≤ k) (hk : k ≤ 1000) {Q : D → Prop} (q : ∀ c : Int, Q (.int c)) : Wp (fnL 2 (Phi n j__law_cell) [.scr ns, .int k]) Q := by
  obtain ⟨m, rfl⟩ : ∃ m, n = m + 1 := ⟨n - 1, by omega⟩
  apply R__law_cell
  unfold B__law_cell
  (repeat' (first | with_reducible refine w_ixR' (by omega) (by omega) (fun c _ => ?_) | with_reducible refine w_modP (by omega) (fun r _ _ _ => ?_) | with_reducible refine w_mulI (mulOk_r (by omega)) ?_ | with_reducible refine w_seq ?_ | with_reducible refine w_sIf ?_ | with_reducible refine w_nil ?_ | with_reducible refine w_ret ?_ | with_reducible refine w_sG ?_ | with_reducible refine w_xP ?_ | with_reducible refine w_gN ?_ | with_reducible refine w_gsN ?_ | with_reducible refine w_gsC ?_ | with_reducible refine w_gT2 ?_ | with_reducible refine w_gT3 ?_ | with_reducible refine w_gT (by rfl) ?_ | with_reducible refine w_c ?_ | ((with_reducible apply w_v); exact rfl) | ((with_reducible apply w_vo); exact rfl) | with_reducible refine w_e1 ?_ | with_reducible refine w_e2 ?_ | with_reducible refine w_esN ?_ | with_reducible refine w_esC ?_ | with_reducible refine w_eA ?_ | with_reducible refine w_nL ?_ | with_reducible refine w_eL ?_ | with_reducible refine w_lsG ?_ | with_reducible refine w_tup0 ?_ | with_reducible refine w_tup1 ?_ | with_reducible refine w_tup2 ?_ | with_reducible refine w_tup3 ?_ | with_reducible refine w_tup4 ?_ | with_reducible refine w_tup5 ?_ | with_reducible refine w_tup6 ?_ | with_reducible refine w_tup (by decide) ?_ | with_reducible refine w_tE ?_ | with_reducible refine w_dB ?_ | with_reducible refine w_tNo ?_ | with_reducible refine w_tAn ?_ | with_reducible refine w_tOr ?_ | with_reducible refine w_tY ?_ | with_reducible refine w_eAn ?_ | with_reducible refine w_eOr ?_ | with_reducible refine w_eIf ?_ | with_reducible refine w_addI ?_ | with_reducible refine w_sub ?_ | with_reducible refine w_neg ?_ | with_reducible refine w_not ?_ | with_reducible refine w_cmp ?_ | with_reducible refine w_ltI ?_ | with_reducible refine w_nSl ?_ | with_reducible refine w_cutL ?_ | with_reducible refine w_slL ?_ | with_reducible refine w_slR ?_ | with_reducible refine w_gL2 ?_ | with_reducible refine w_gL3 ?_ | with_reducible refine w_gL5 ?_ | with_reducible refine w_eqI ?_ | with_reducible refine w_eqS ?_ | with_reducible refine w_eqB ?_ | with_reducible refine w_neE ?_ | with_reducible refine w_eqE ?_ | with_reducible refine w_neI ?_ | with_reducible refine w_neS ?_ | with_reducible refine w_lenL ?_ | with_reducible refine w_lenT ?_ | with_reducible refine w_lenR ?_ | with_reducible refine w_intI ?_ | ((with_reducible apply w_intBt); (first | decide +kernel | exact rfl)) | ((with_reducible apply w_intBf); (first | decide +kernel | exact rfl)) | with_reducible refine w_intB ?_ | with_reducible refine w_tupleL ?_ | with_reducible refine w_tupleT ?_ | with_reducible refine w_listL ?_ | with_reducible refine w_listT ?_ | with_reducible refine w_max2P (fun r _ _ _ => ?_) | with_reducible refine w_min2P (fun r _ _ _ => ?_) | ((with_reducible apply w_isi); exact rfl) | with_reducible refine w_oN ?_ | with_reducible refine w_oS ?_ | with_reducible refine w_eSl ?_ | with_reducible refine w_sl1 ?_ | with_reducible refine w_sl2 ?_ | with_reducible refine w_sl3 ?_ | ((with_reducible apply w_ixT); exact rfl) | with_reducible refine w_mod (by decide) ?_ | with_reducible refine w_div (by decide) ?_ | with_reducible refine w_pow (by decide) ?_ | with_reducible refine w_own ?_ | with_reducible refine w_xsN ?_ | with_reducible refine w_xsC ?_ | with_reducible refine w_xA ?_ | with_reducible refine w_app ?_ | ((with_reducible refine sq_nx ?_); try simp only [esc_nil, esc_int, esc_str, esc_bl, esc_non, List.set_cons_zero, List.set_cons_succ, unown_nil, unown_noO, esc_noO, noO_nil, noO_cons, isOwn_val, isOwn_no, isOwn_own, isOwn_succ, Bool.not_false, Bool.and_self]) | with_reducible refine sq_ret ?_ | with_reducible refine rq_ret ?_ | with_reducible refine lq_ret ?_ | ((with_reducible refine lq_nx ?_); try simp only [esc_nil, esc_int, esc_str, esc_bl, esc_non, List.set_cons_zero, List.set_cons_succ, unown_nil, unown_noO, esc_noO, noO_nil, noO_cons, isOwn_val, isOwn_no, isOwn_own, isOwn_succ, Bool.not_false, Bool.and_self]) | ((with_reducible refine w_sFor ?_); try simp only [esc_nil, esc_int, esc_str, esc_bl, esc_non, List.set_cons_zero, List.set_cons_succ, unown_nil, unown_noO, esc_noO, noO_nil, noO_cons, isOwn_val, isOwn_no, isOwn_own, isOwn_succ, Bool.not_false, Bool.and_self]) | with_reducible refine w_iV ?_ | with_reducible refine w_iE ?_ | with_reducible refine w_itL ?_ | with_reducible refine w_itT ?_ | with_reducible refine w_itS ?_ | with_reducible refine w_lcG ?_ | with_reducible refine w_while0 ?_ | with_reducible refine w_mulI (mulOk_r (by decide)) ?_ | with_reducible refine w_mulI (mulOk_l (by decide)) ?_ | with_reducible refine ex_int ?_ | with_reducible refine ex_bl ?_ | with_reducible refine ex_lst ?_ | with_reducible refine an_int ?_ | with_reducible refine an_big0 ?_ | with_reducible refine an_bigl0 ?_ | with_reducible refine an_big1 ?_ | with_reducible refine an_bigl1 ?_ | with_reducible refine an_big2 ?_ | with_reducible refine an_bigl2 ?_ | with_reducible refine an_big3 ?_ | with_reducible refine an_bigl3 ?_ | with_reducible refine an_big4 ?_ | with_reducible refine an_bigl4 ?_ | with_reducible refine an_big5 ?_ | with_reducible refine an_bigl5 ?_ | with_reducible refine an_big6 ?_ | with_reducible refine an_bigl6 ?_ | with_reducible refine an_big7 ?_ | with_reducible refine an_bigl7 ?_ | with_reducible refine an_big8 ?_ | with_reducible refine an_bigl8 ?_ | with_reducible refine an_big (by decide) ?_ | with_reducible refine an_bigl (by decide) ?_ | with_reducible refine w_compN ?_ | with_reducible refine w_compC ?_ | with_reducible refine w_addT1 (by simp) ?_ | ((with_reducible apply an_own); exact rfl) | ((with_reducible apply ex_app); (first | exact rfl | (simp only [esc_nil, esc_int, esc_str, esc_bl, esc_non, List.set_cons_zero, List.set_cons_succ, unown_nil, unown_noO, esc_noO, noO_nil, noO_cons, isOwn_val, isOwn_no, isOwn_own, isOwn_succ, Bool.not_false, Bool.and_self]; exact rfl))) | ((with_reducible apply w_augI); exact rfl) | ((with_reducible apply w_augL); exact rfl) | ((with_reducible apply br_t); (first | decide +kernel | exact rfl)) | ((with_reducible apply br_f); (first | decide +kernel | exact rfl)) | with_reducible refine br_n ?_ | with_reducible refine br_d (fun _ => ?_) (fun _ => ?_) | with_reducible refine br_e (fun _ => ?_) (fun _ => ?_) | with_reducible refine br_s (fun _ => ?_) (fun _ => ?_) | with_reducible refine br_2 (fun _ => ?_) (fun _ => ?_)))
  all_goals exact q _
theorem len_app (x y : Str) : (x ++ y).length = x.length + y.length := by
  show (x.cps ++ y.cps).size = _
  rw [Array.size_append]; rfl
theorem al36_len : ("abcdefghijklmnopqrstuvwxyz0123456789" : Str).length = 36 := by decide +kernel
theorem et_len : ("etaoinshrdlcumwfgypbvkjxqz" : Str).length = 26 := by decide +kernel
theorem name_ok {n : Nat} (hn : 1 ≤ n) (c : Int) {Q : D → Prop} (q : ∀ x : Str, 1 ≤ x.length → x.length ≤ 8 → Q (.str x)) : Wp (fnL 1 (Phi n j__law_name) [.int c]) Q := by
  obtain ⟨m, rfl⟩ : ∃ m, n = m + 1 := ⟨n - 1, by omega⟩
  apply R__law_name
  unfold B__law_name
  (repeat' (first | with_reducible refine w_ixS' (by rw [al36_len]; omega) (by omega) (by rw [al36_len]; omega) (fun c0 _ => ?_) | with_reducible refine w_modP (by omega) (fun r _ _ _ => ?_) | with_reducible refine w_rg1 (by omega) ?_ | with_reducible refine w_seq ?_ | with_reducible refine w_sIf ?_ | with_reducible refine w_nil ?_ | with_reducible refine w_ret ?_ | with_reducible refine w_sG ?_ | with_reducible refine w_xP ?_ | with_reducible refine w_gN ?_ | with_reducible refine w_gsN ?_ | with_reducible refine w_gsC ?_ | with_reducible refine w_gT2 ?_ | with_reducible refine w_gT3 ?_ | with_reducible refine w_gT (by rfl) ?_ | with_reducible refine w_c ?_ | ((with_reducible apply w_v); exact rfl) | ((with_reducible apply w_vo); exact rfl) | with_reducible refine w_e1 ?_ | with_reducible refine w_e2 ?_ | with_reducible refine w_esN ?_ | with_reducible refine w_esC ?_ | with_reducible refine w_eA ?_ | with_reducible refine w_nL ?_ | with_reducible refine w_eL ?_ | with_reducible refine w_lsG ?_ | with_reducible refine w_tup0 ?_ | with_reducible refine w_tup1 ?_ | with_reducible refine w_tup2 ?_ | with_reducible refine w_tup3 ?_ | with_reducible refine w_tup4 ?_ | with_reducible refine w_tup5 ?_ | with_reducible refine w_tup6 ?_ | with_reducible refine w_tup (by decide) ?_ | with_reducible refine w_tE ?_ | with_reducible refine w_dB ?_ | with_reducible refine w_tNo ?_ | with_reducible refine w_tAn ?_ | with_reducible refine w_tOr ?_ | with_reducible refine w_tY ?_ | with_reducible refine w_eAn ?_ | with_reducible refine w_eOr ?_ | with_reducible refine w_eIf ?_ | with_reducible refine w_addI ?_ | with_reducible refine w_sub ?_ | with_reducible refine w_neg ?_ | with_reducible refine w_not ?_ | with_reducible refine w_cmp ?_ | with_reducible refine w_ltI ?_ | with_reducible refine w_nSl ?_ | with_reducible refine w_cutL ?_ | with_reducible refine w_slL ?_ | with_reducible refine w_slR ?_ | with_reducible refine w_gL2 ?_ | with_reducible refine w_gL3 ?_ | with_reducible refine w_gL5 ?_ | with_reducible refine w_eqI ?_ | with_reducible refine w_eqS ?_ | with_reducible refine w_eqB ?_ | with_reducible refine w_neE ?_ | with_reducible refine w_eqE ?_ | with_reducible refine w_neI ?_ | with_reducible refine w_neS ?_ | with_reducible refine w_lenL ?_ | with_reducible refine w_lenT ?_ | with_reducible refine w_lenR ?_ | with_reducible refine w_intI ?_ | ((with_reducible apply w_intBt); (first | decide +kernel | exact rfl)) | ((with_reducible apply w_intBf); (first | decide +kernel | exact rfl)) | with_reducible refine w_intB ?_ | with_reducible refine w_tupleL ?_ | with_reducible refine w_tupleT ?_ | with_reducible refine w_listL ?_ | with_reducible refine w_listT ?_ | with_reducible refine w_max2P (fun r _ _ _ => ?_) | with_reducible refine w_min2P (fun r _ _ _ => ?_) | ((with_reducible apply w_isi); exact rfl) | with_reducible refine w_oN ?_ | with_reducible refine w_oS ?_ | with_reducible refine w_eSl ?_ | with_reducible refine w_sl1 ?_ | with_reducible refine w_sl2 ?_ | with_reducible refine w_sl3 ?_ | ((with_reducible apply w_ixT); exact rfl) | with_reducible refine w_mod (by decide) ?_ | with_reducible refine w_div (by decide) ?_ | with_reducible refine w_pow (by decide) ?_ | with_reducible refine w_own ?_ | with_reducible refine w_xsN ?_ | with_reducible refine w_xsC ?_ | with_reducible refine w_xA ?_ | with_reducible refine w_app ?_ | ((with_reducible refine sq_nx ?_); try simp only [esc_nil, esc_int, esc_str, esc_bl, esc_non, List.set_cons_zero, List.set_cons_succ, unown_nil, unown_noO, esc_noO, noO_nil, noO_cons, isOwn_val, isOwn_no, isOwn_own, isOwn_succ, Bool.not_false, Bool.and_self]) | with_reducible refine sq_ret ?_ | with_reducible refine rq_ret ?_ | with_reducible refine lq_ret ?_ | ((with_reducible refine lq_nx ?_); try simp only [esc_nil, esc_int, esc_str, esc_bl, esc_non, List.set_cons_zero, List.set_cons_succ, unown_nil, unown_noO, esc_noO, noO_nil, noO_cons, isOwn_val, isOwn_no, isOwn_own, isOwn_succ, Bool.not_false, Bool.and_self]) | ((with_reducible refine w_sFor ?_); try simp only [esc_nil, esc_int, esc_str, esc_bl, esc_non, List.set_cons_zero, List.set_cons_succ, unown_nil, unown_noO, esc_noO, noO_nil, noO_cons, isOwn_val, isOwn_no, isOwn_own, isOwn_succ, Bool.not_false, Bool.and_self]) | with_reducible refine w_iV ?_ | with_reducible refine w_iE ?_ | with_reducible refine w_itL ?_ | with_reducible refine w_itT ?_ | with_reducible refine w_itS ?_ | with_reducible refine w_lcG ?_ | with_reducible refine w_while0 ?_ | with_reducible refine w_mulI (mulOk_r (by decide)) ?_ | with_reducible refine w_mulI (mulOk_l (by decide)) ?_ | with_reducible refine ex_int ?_ | with_reducible refine ex_bl ?_ | with_reducible refine ex_lst ?_ | with_reducible refine an_int ?_ | with_reducible refine an_big0 ?_ | with_reducible refine an_bigl0 ?_ | with_reducible refine an_big1 ?_ | with_reducible refine an_bigl1 ?_ | with_reducible refine an_big2 ?_ | with_reducible refine an_bigl2 ?_ | with_reducible refine an_big3 ?_ | with_reducible refine an_bigl3 ?_ | with_reducible refine an_big4 ?_ | with_reducible refine an_bigl4 ?_ | with_reducible refine an_big5 ?_ | with_reducible refine an_bigl5 ?_ | with_reducible refine an_big6 ?_ | with_reducible refine an_bigl6 ?_ | with_reducible refine an_big7 ?_ | with_reducible refine an_bigl7 ?_ | with_reducible refine an_big8 ?_ | with_reducible refine an_bigl8 ?_ | with_reducible refine an_big (by decide) ?_ | with_reducible refine an_bigl (by decide) ?_ | with_reducible refine w_compN ?_ | with_reducible refine w_compC ?_ | with_reducible refine w_addT1 (by simp) ?_ | ((with_reducible apply an_own); exact rfl) | ((with_reducible apply ex_app); (first | exact rfl | (simp only [esc_nil, esc_int, esc_str, esc_bl, esc_non, List.set_cons_zero, List.set_cons_succ, unown_nil, unown_noO, esc_noO, noO_nil, noO_cons, isOwn_val, isOwn_no, isOwn_own, isOwn_succ, Bool.not_false, Bool.and_self]; exact rfl))) | ((with_reducible apply w_augI); exact rfl) | ((with_reducible apply w_augL); exact rfl) | ((with_reducible apply br_t); (first | decide +kernel | exact rfl)) | ((with_reducible apply br_f); (first | decide +kernel | exact rfl)) | with_reducible refine br_n ?_ | with_reducible refine br_d (fun _ => ?_) (fun _ => ?_) | with_reducible refine br_e (fun _ => ?_) (fun _ => ?_) | with_reducible refine br_s (fun _ => ?_) (fun _ => ?_) | with_reducible refine br_2 (fun _ => ?_) (fun _ => ?_)))
  refine w_forR (I := fun i ρ => ∃ (x : Str) (c' : Int) (s : Sl), ρ = [Sl.val (.int c), Sl.val (.str "abcdefghijklmnopqrstuvwxyz0123456789"), Sl.val (.str x), Sl.val (.int c'), s] ∧ 1 ≤ x.length ∧ x.length ≤ i + 1) ⟨⟨#[c0]⟩, _, _, rfl, Nat.le_refl 1, Nat.le_refl 1⟩ (fun i ρ hi hI => ?_) (fun ρ hI => ?_)
  · obtain ⟨x, c', s, rfl, h1, h2⟩ := hI
    (repeat' (first | with_reducible refine w_ixS' (by rw [al36_len]; omega) (by omega) (by rw [al36_len]; omega) (fun c2 _ => ?_) | with_reducible refine w_modP (by omega) (fun r _ _ _ => ?_) | with_reducible refine w_addC (by omega) ?_ | with_reducible refine w_seq ?_ | with_reducible refine w_sIf ?_ | with_reducible refine w_nil ?_ | with_reducible refine w_ret ?_ | with_reducible refine w_sG ?_ | with_reducible refine w_xP ?_ | with_reducible refine w_gN ?_ | with_reducible refine w_gsN ?_ | with_reducible refine w_gsC ?_ | with_reducible refine w_gT2 ?_ | with_reducible refine w_gT3 ?_ | with_reducible refine w_gT (by rfl) ?_ | with_reducible refine w_c ?_ | ((with_reducible apply w_v); exact rfl) | ((with_reducible apply w_vo); exact rfl) | with_reducible refine w_e1 ?_ | with_reducible refine w_e2 ?_ | with_reducible refine w_esN ?_ | with_reducible refine w_esC ?_ | with_reducible refine w_eA ?_ | with_reducible refine w_nL ?_ | with_reducible refine w_eL ?_ | with_reducible refine w_lsG ?_ | with_reducible refine w_tup0 ?_ | with_reducible refine w_tup1 ?_ | with_reducible refine w_tup2 ?_ | with_reducible refine w_tup3 ?_ | with_reducible refine w_tup4 ?_ | with_reducible refine w_tup5 ?_ | with_reducible refine w_tup6 ?_ | with_reducible refine w_tup (by decide) ?_ | with_reducible refine w_tE ?_ | with_reducible refine w_dB ?_ | with_reducible refine w_tNo ?_ | with_reducible refine w_tAn ?_ | with_reducible refine w_tOr ?_ | with_reducible refine w_tY ?_ | with_reducible refine w_eAn ?_ | with_reducible refine w_eOr ?_ | with_reducible refine w_eIf ?_ | with_reducible refine w_addI ?_ | with_reducible refine w_sub ?_ | with_reducible refine w_neg ?_ | with_reducible refine w_not ?_ | with_reducible refine w_cmp ?_ | with_reducible refine w_ltI ?_ | with_reducible refine w_nSl ?_ | with_reducible refine w_cutL ?_ | with_reducible refine w_slL ?_ | with_reducible refine w_slR ?_ | with_reducible refine w_gL2 ?_ | with_reducible refine w_gL3 ?_ | with_reducible refine w_gL5 ?_ | with_reducible refine w_eqI ?_ | with_reducible refine w_eqS ?_ | with_reducible refine w_eqB ?_ | with_reducible refine w_neE ?_ | with_reducible refine w_eqE ?_ | with_reducible refine w_neI ?_ | with_reducible refine w_neS ?_ | with_reducible refine w_lenL ?_ | with_reducible refine w_lenT ?_ | with_reducible refine w_lenR ?_ | with_reducible refine w_intI ?_ | ((with_reducible apply w_intBt); (first | decide +kernel | exact rfl)) | ((with_reducible apply w_intBf); (first | decide +kernel | exact rfl)) | with_reducible refine w_intB ?_ | with_reducible refine w_tupleL ?_ | with_reducible refine w_tupleT ?_ | with_reducible refine w_listL ?_ | with_reducible refine w_listT ?_ | with_reducible refine w_max2P (fun r _ _ _ => ?_) | with_reducible refine w_min2P (fun r _ _ _ => ?_) | ((with_reducible apply w_isi); exact rfl) | with_reducible refine w_oN ?_ | with_reducible refine w_oS ?_ | with_reducible refine w_eSl ?_ | with_reducible refine w_sl1 ?_ | with_reducible refine w_sl2 ?_ | with_reducible refine w_sl3 ?_ | ((with_reducible apply w_ixT); exact rfl) | with_reducible refine w_mod (by decide) ?_ | with_reducible refine w_div (by decide) ?_ | with_reducible refine w_pow (by decide) ?_ | with_reducible refine w_own ?_ | with_reducible refine w_xsN ?_ | with_reducible refine w_xsC ?_ | with_reducible refine w_xA ?_ | with_reducible refine w_app ?_ | ((with_reducible refine sq_nx ?_); try simp only [esc_nil, esc_int, esc_str, esc_bl, esc_non, List.set_cons_zero, List.set_cons_succ, unown_nil, unown_noO, esc_noO, noO_nil, noO_cons, isOwn_val, isOwn_no, isOwn_own, isOwn_succ, Bool.not_false, Bool.and_self]) | with_reducible refine sq_ret ?_ | with_reducible refine rq_ret ?_ | with_reducible refine lq_ret ?_ | ((with_reducible refine lq_nx ?_); try simp only [esc_nil, esc_int, esc_str, esc_bl, esc_non, List.set_cons_zero, List.set_cons_succ, unown_nil, unown_noO, esc_noO, noO_nil, noO_cons, isOwn_val, isOwn_no, isOwn_own, isOwn_succ, Bool.not_false, Bool.and_self]) | ((with_reducible refine w_sFor ?_); try simp only [esc_nil, esc_int, esc_str, esc_bl, esc_non, List.set_cons_zero, List.set_cons_succ, unown_nil, unown_noO, esc_noO, noO_nil, noO_cons, isOwn_val, isOwn_no, isOwn_own, isOwn_succ, Bool.not_false, Bool.and_self]) | with_reducible refine w_iV ?_ | with_reducible refine w_iE ?_ | with_reducible refine w_itL ?_ | with_reducible refine w_itT ?_ | with_reducible refine w_itS ?_ | with_reducible refine w_lcG ?_ | with_reducible refine w_while0 ?_ | with_reducible refine w_mulI (mulOk_r (by decide)) ?_ | with_reducible refine w_mulI (mulOk_l (by decide)) ?_ | with_reducible refine ex_int ?_ | with_reducible refine ex_bl ?_ | with_reducible refine ex_lst ?_ | with_reducible refine an_int ?_ | with_reducible refine an_big0 ?_ | with_reducible refine an_bigl0 ?_ | with_reducible refine an_big1 ?_ | with_reducible refine an_bigl1 ?_ | with_reducible refine an_big2 ?_ | with_reducible refine an_bigl2 ?_ | with_reducible refine an_big3 ?_ | with_reducible refine an_bigl3 ?_ | with_reducible refine an_big4 ?_ | with_reducible refine an_bigl4 ?_ | with_reducible refine an_big5 ?_ | with_reducible refine an_bigl5 ?_ | with_reducible refine an_big6 ?_ | with_reducible refine an_bigl6 ?_ | with_reducible refine an_big7 ?_ | with_reducible refine an_bigl7 ?_ | with_reducible refine an_big8 ?_ | with_reducible refine an_bigl8 ?_ | with_reducible refine an_big (by decide) ?_ | with_reducible refine an_bigl (by decide) ?_ | with_reducible refine w_compN ?_ | with_reducible refine w_compC ?_ | with_reducible refine w_addT1 (by simp) ?_ | ((with_reducible apply an_own); exact rfl) | ((with_reducible apply ex_app); (first | exact rfl | (simp only [esc_nil, esc_int, esc_str, esc_bl, esc_non, List.set_cons_zero, List.set_cons_succ, unown_nil, unown_noO, esc_noO, noO_nil, noO_cons, isOwn_val, isOwn_no, isOwn_own, isOwn_succ, Bool.not_false, Bool.and_self]; exact rfl))) | ((with_reducible apply w_augI); exact rfl) | ((with_reducible apply w_augL); exact rfl) | ((with_reducible apply br_t); (first | decide +kernel | exact rfl)) | ((with_reducible apply br_f); (first | decide +kernel | exact rfl)) | with_reducible refine br_n ?_ | with_reducible refine br_d (fun _ => ?_) (fun _ => ?_) | with_reducible refine br_e (fun _ => ?_) (fun _ => ?_) | with_reducible refine br_s (fun _ => ?_) (fun _ => ?_) | with_reducible refine br_2 (fun _ => ?_) (fun _ => ?_)))
    exact ⟨_, _, _, rfl, by rw [len_app]; show 1 ≤ _ + 1; omega, by rw [len_app]; show _ + 1 ≤ _; omega⟩
  · obtain ⟨x, c', s, rfl, h1, h2⟩ := hI
    (repeat' (first | with_reducible refine w_seq ?_ | with_reducible refine w_sIf ?_ | with_reducible refine w_nil ?_ | with_reducible refine w_ret ?_ | with_reducible refine w_sG ?_ | with_reducible refine w_xP ?_ | with_reducible refine w_gN ?_ | with_reducible refine w_gsN ?_ | with_reducible refine w_gsC ?_ | with_reducible refine w_gT2 ?_ | with_reducible refine w_gT3 ?_ | with_reducible refine w_gT (by rfl) ?_ | with_reducible refine w_c ?_ | ((with_reducible apply w_v); exact rfl) | ((with_reducible apply w_vo); exact rfl) | with_reducible refine w_e1 ?_ | with_reducible refine w_e2 ?_ | with_reducible refine w_esN ?_ | with_reducible refine w_esC ?_ | with_reducible refine w_eA ?_ | with_reducible refine w_nL ?_ | with_reducible refine w_eL ?_ | with_reducible refine w_lsG ?_ | with_reducible refine w_tup0 ?_ | with_reducible refine w_tup1 ?_ | with_reducible refine w_tup2 ?_ | with_reducible refine w_tup3 ?_ | with_reducible refine w_tup4 ?_ | with_reducible refine w_tup5 ?_ | with_reducible refine w_tup6 ?_ | with_reducible refine w_tup (by decide) ?_ | with_reducible refine w_tE ?_ | with_reducible refine w_dB ?_ | with_reducible refine w_tNo ?_ | with_reducible refine w_tAn ?_ | with_reducible refine w_tOr ?_ | with_reducible refine w_tY ?_ | with_reducible refine w_eAn ?_ | with_reducible refine w_eOr ?_ | with_reducible refine w_eIf ?_ | with_reducible refine w_addI ?_ | with_reducible refine w_sub ?_ | with_reducible refine w_neg ?_ | with_reducible refine w_not ?_ | with_reducible refine w_cmp ?_ | with_reducible refine w_ltI ?_ | with_reducible refine w_nSl ?_ | with_reducible refine w_cutL ?_ | with_reducible refine w_slL ?_ | with_reducible refine w_slR ?_ | with_reducible refine w_gL2 ?_ | with_reducible refine w_gL3 ?_ | with_reducible refine w_gL5 ?_ | with_reducible refine w_eqI ?_ | with_reducible refine w_eqS ?_ | with_reducible refine w_eqB ?_ | with_reducible refine w_neE ?_ | with_reducible refine w_eqE ?_ | with_reducible refine w_neI ?_ | with_reducible refine w_neS ?_ | with_reducible refine w_lenL ?_ | with_reducible refine w_lenT ?_ | with_reducible refine w_lenR ?_ | with_reducible refine w_intI ?_ | ((with_reducible apply w_intBt); (first | decide +kernel | exact rfl)) | ((with_reducible apply w_intBf); (first | decide +kernel | exact rfl)) | with_reducible refine w_intB ?_ | with_reducible refine w_tupleL ?_ | with_reducible refine w_tupleT ?_ | with_reducible refine w_listL ?_ | with_reducible refine w_listT ?_ | with_reducible refine w_max2P (fun r _ _ _ => ?_) | with_reducible refine w_min2P (fun r _ _ _ => ?_) | ((with_reducible apply w_isi); exact rfl) | with_reducible refine w_oN ?_ | with_reducible refine w_oS ?_ | with_reducible refine w_eSl ?_ | with_reducible refine w_sl1 ?_ | with_reducible refine w_sl2 ?_ | with_reducible refine w_sl3 ?_ | ((with_reducible apply w_ixT); exact rfl) | with_reducible refine w_mod (by decide) ?_ | with_reducible refine w_div (by decide) ?_ | with_reducible refine w_pow (by decide) ?_ | with_reducible refine w_own ?_ | with_reducible refine w_xsN ?_ | with_reducible refine w_xsC ?_ | with_reducible refine w_xA ?_ | with_reducible refine w_app ?_ | ((with_reducible refine sq_nx ?_); try simp only [esc_nil, esc_int, esc_str, esc_bl, esc_non, List.set_cons_zero, List.set_cons_succ, unown_nil, unown_noO, esc_noO, noO_nil, noO_cons, isOwn_val, isOwn_no, isOwn_own, isOwn_succ, Bool.not_false, Bool.and_self]) | with_reducible refine sq_ret ?_ | with_reducible refine rq_ret ?_ | with_reducible refine lq_ret ?_ | ((with_reducible refine lq_nx ?_); try simp only [esc_nil, esc_int, esc_str, esc_bl, esc_non, List.set_cons_zero, List.set_cons_succ, unown_nil, unown_noO, esc_noO, noO_nil, noO_cons, isOwn_val, isOwn_no, isOwn_own, isOwn_succ, Bool.not_false, Bool.and_self]) | ((with_reducible refine w_sFor ?_); try simp only [esc_nil, esc_int, esc_str, esc_bl, esc_non, List.set_cons_zero, List.set_cons_succ, unown_nil, unown_noO, esc_noO, noO_nil, noO_cons, isOwn_val, isOwn_no, isOwn_own, isOwn_succ, Bool.not_false, Bool.and_self]) | with_reducible refine w_iV ?_ | with_reducible refine w_iE ?_ | with_reducible refine w_itL ?_ | with_reducible refine w_itT ?_ | with_reducible refine w_itS ?_ | with_reducible refine w_lcG ?_ | with_reducible refine w_while0 ?_ | with_reducible refine w_mulI (mulOk_r (by decide)) ?_ | with_reducible refine w_mulI (mulOk_l (by decide)) ?_ | with_reducible refine ex_int ?_ | with_reducible refine ex_bl ?_ | with_reducible refine ex_lst ?_ | with_reducible refine an_int ?_ | with_reducible refine an_big0 ?_ | with_reducible refine an_bigl0 ?_ | with_reducible refine an_big1 ?_ | with_reducible refine an_bigl1 ?_ | with_reducible refine an_big2 ?_ | with_reducible refine an_bigl2 ?_ | with_reducible refine an_big3 ?_ | with_reducible refine an_bigl3 ?_ | with_reducible refine an_big4 ?_ | with_reducible refine an_bigl4 ?_ | with_reducible refine an_big5 ?_ | with_reducible refine an_bigl5 ?_ | with_reducible refine an_big6 ?_ | with_reducible refine an_bigl6 ?_ | with_reducible refine an_big7 ?_ | with_reducible refine an_bigl7 ?_ | with_reducible refine an_big8 ?_ | with_reducible refine an_bigl8 ?_ | with_reducible refine an_big (by decide) ?_ | with_reducible refine an_bigl (by decide) ?_ | with_reducible refine w_compN ?_ | with_reducible refine w_compC ?_ | with_reducible refine w_addT1 (by simp) ?_ | ((with_reducible apply an_own); exact rfl) | ((with_reducible apply ex_app); (first | exact rfl | (simp only [esc_nil, esc_int, esc_str, esc_bl, esc_non, List.set_cons_zero, List.set_cons_succ, unown_nil, unown_noO, esc_noO, noO_nil, noO_cons, isOwn_val, isOwn_no, isOwn_own, isOwn_succ, Bool.not_false, Bool.and_self]; exact rfl))) | ((with_reducible apply w_augI); exact rfl) | ((with_reducible apply w_augL); exact rfl) | ((with_reducible apply br_t); (first | decide +kernel | exact rfl)) | ((with_reducible apply br_f); (first | decide +kernel | exact rfl)) | with_reducible refine br_n ?_ | with_reducible refine br_d (fun _ => ?_) (fun _ => ?_) | with_reducible refine br_e (fun _ => ?_) (fun _ => ?_) | with_reducible refine br_s (fun _ => ?_) (fun _ => ?_) | with_reducible refine br_2 (fun _ => ?_) (fun _ => ?_)))
    exact q x h1 (by omega)
theorem word_ok {n : Nat} (hn : 1 ≤ n) (c : Int) {Q : D → Prop} (q : ∀ x : Str, Q (.str x)) : Wp (fnL 1 (Phi n j__law_word) [.int c]) Q := by
  obtain ⟨m, rfl⟩ : ∃ m, n = m + 1 := ⟨n - 1, by omega⟩
  apply R__law_word
  unfold B__law_word
  (repeat' (first | with_reducible refine w_modP (by omega) (fun r _ _ _ => ?_) | with_reducible refine w_rg1 (by omega) ?_ | with_reducible refine w_seq ?_ | with_reducible refine w_sIf ?_ | with_reducible refine w_nil ?_ | with_reducible refine w_ret ?_ | with_reducible refine w_sG ?_ | with_reducible refine w_xP ?_ | with_reducible refine w_gN ?_ | with_reducible refine w_gsN ?_ | with_reducible refine w_gsC ?_ | with_reducible refine w_gT2 ?_ | with_reducible refine w_gT3 ?_ | with_reducible refine w_gT (by rfl) ?_ | with_reducible refine w_c ?_ | ((with_reducible apply w_v); exact rfl) | ((with_reducible apply w_vo); exact rfl) | with_reducible refine w_e1 ?_ | with_reducible refine w_e2 ?_ | with_reducible refine w_esN ?_ | with_reducible refine w_esC ?_ | with_reducible refine w_eA ?_ | with_reducible refine w_nL ?_ | with_reducible refine w_eL ?_ | with_reducible refine w_lsG ?_ | with_reducible refine w_tup0 ?_ | with_reducible refine w_tup1 ?_ | with_reducible refine w_tup2 ?_ | with_reducible refine w_tup3 ?_ | with_reducible refine w_tup4 ?_ | with_reducible refine w_tup5 ?_ | with_reducible refine w_tup6 ?_ | with_reducible refine w_tup (by decide) ?_ | with_reducible refine w_tE ?_ | with_reducible refine w_dB ?_ | with_reducible refine w_tNo ?_ | with_reducible refine w_tAn ?_ | with_reducible refine w_tOr ?_ | with_reducible refine w_tY ?_ | with_reducible refine w_eAn ?_ | with_reducible refine w_eOr ?_ | with_reducible refine w_eIf ?_ | with_reducible refine w_addI ?_ | with_reducible refine w_sub ?_ | with_reducible refine w_neg ?_ | with_reducible refine w_not ?_ | with_reducible refine w_cmp ?_ | with_reducible refine w_ltI ?_ | with_reducible refine w_nSl ?_ | with_reducible refine w_cutL ?_ | with_reducible refine w_slL ?_ | with_reducible refine w_slR ?_ | with_reducible refine w_gL2 ?_ | with_reducible refine w_gL3 ?_ | with_reducible refine w_gL5 ?_ | with_reducible refine w_eqI ?_ | with_reducible refine w_eqS ?_ | with_reducible refine w_eqB ?_ | with_reducible refine w_neE ?_ | with_reducible refine w_eqE ?_ | with_reducible refine w_neI ?_ | with_reducible refine w_neS ?_ | with_reducible refine w_lenL ?_ | with_reducible refine w_lenT ?_ | with_reducible refine w_lenR ?_ | with_reducible refine w_intI ?_ | ((with_reducible apply w_intBt); (first | decide +kernel | exact rfl)) | ((with_reducible apply w_intBf); (first | decide +kernel | exact rfl)) | with_reducible refine w_intB ?_ | with_reducible refine w_tupleL ?_ | with_reducible refine w_tupleT ?_ | with_reducible refine w_listL ?_ | with_reducible refine w_listT ?_ | with_reducible refine w_max2P (fun r _ _ _ => ?_) | with_reducible refine w_min2P (fun r _ _ _ => ?_) | ((with_reducible apply w_isi); exact rfl) | with_reducible refine w_oN ?_ | with_reducible refine w_oS ?_ | with_reducible refine w_eSl ?_ | with_reducible refine w_sl1 ?_ | with_reducible refine w_sl2 ?_ | with_reducible refine w_sl3 ?_ | ((with_reducible apply w_ixT); exact rfl) | with_reducible refine w_mod (by decide) ?_ | with_reducible refine w_div (by decide) ?_ | with_reducible refine w_pow (by decide) ?_ | with_reducible refine w_own ?_ | with_reducible refine w_xsN ?_ | with_reducible refine w_xsC ?_ | with_reducible refine w_xA ?_ | with_reducible refine w_app ?_ | ((with_reducible refine sq_nx ?_); try simp only [esc_nil, esc_int, esc_str, esc_bl, esc_non, List.set_cons_zero, List.set_cons_succ, unown_nil, unown_noO, esc_noO, noO_nil, noO_cons, isOwn_val, isOwn_no, isOwn_own, isOwn_succ, Bool.not_false, Bool.and_self]) | with_reducible refine sq_ret ?_ | with_reducible refine rq_ret ?_ | with_reducible refine lq_ret ?_ | ((with_reducible refine lq_nx ?_); try simp only [esc_nil, esc_int, esc_str, esc_bl, esc_non, List.set_cons_zero, List.set_cons_succ, unown_nil, unown_noO, esc_noO, noO_nil, noO_cons, isOwn_val, isOwn_no, isOwn_own, isOwn_succ, Bool.not_false, Bool.and_self]) | ((with_reducible refine w_sFor ?_); try simp only [esc_nil, esc_int, esc_str, esc_bl, esc_non, List.set_cons_zero, List.set_cons_succ, unown_nil, unown_noO, esc_noO, noO_nil, noO_cons, isOwn_val, isOwn_no, isOwn_own, isOwn_succ, Bool.not_false, Bool.and_self]) | with_reducible refine w_iV ?_ | with_reducible refine w_iE ?_ | with_reducible refine w_itL ?_ | with_reducible refine w_itT ?_ | with_reducible refine w_itS ?_ | with_reducible refine w_lcG ?_ | with_reducible refine w_while0 ?_ | with_reducible refine w_mulI (mulOk_r (by decide)) ?_ | with_reducible refine w_mulI (mulOk_l (by decide)) ?_ | with_reducible refine ex_int ?_ | with_reducible refine ex_bl ?_ | with_reducible refine ex_lst ?_ | with_reducible refine an_int ?_ | with_reducible refine an_big0 ?_ | with_reducible refine an_bigl0 ?_ | with_reducible refine an_big1 ?_ | with_reducible refine an_bigl1 ?_ | with_reducible refine an_big2 ?_ | with_reducible refine an_bigl2 ?_ | with_reducible refine an_big3 ?_ | with_reducible refine an_bigl3 ?_ | with_reducible refine an_big4 ?_ | with_reducible refine an_bigl4 ?_ | with_reducible refine an_big5 ?_ | with_reducible refine an_bigl5 ?_ | with_reducible refine an_big6 ?_ | with_reducible refine an_bigl6 ?_ | with_reducible refine an_big7 ?_ | with_reducible refine an_bigl7 ?_ | with_reducible refine an_big8 ?_ | with_reducible refine an_bigl8 ?_ | with_reducible refine an_big (by decide) ?_ | with_reducible refine an_bigl (by decide) ?_ | with_reducible refine w_compN ?_ | with_reducible refine w_compC ?_ | with_reducible refine w_addT1 (by simp) ?_ | ((with_reducible apply an_own); exact rfl) | ((with_reducible apply ex_app); (first | exact rfl | (simp only [esc_nil, esc_int, esc_str, esc_bl, esc_non, List.set_cons_zero, List.set_cons_succ, unown_nil, unown_noO, esc_noO, noO_nil, noO_cons, isOwn_val, isOwn_no, isOwn_own, isOwn_succ, Bool.not_false, Bool.and_self]; exact rfl))) | ((with_reducible apply w_augI); exact rfl) | ((with_reducible apply w_augL); exact rfl) | ((with_reducible apply br_t); (first | decide +kernel | exact rfl)) | ((with_reducible apply br_f); (first | decide +kernel | exact rfl)) | with_reducible refine br_n ?_ | with_reducible refine br_d (fun _ => ?_) (fun _ => ?_) | with_reducible refine br_e (fun _ => ?_) (fun _ => ?_) | with_reducible refine br_s (fun _ => ?_) (fun _ => ?_) | with_reducible refine br_2 (fun _ => ?_) (fun _ => ?_)))
  refine w_forR (I := fun i ρ => ∃ (x : Str) (c' : Int) (s : Sl), ρ = [Sl.val (.int c), Sl.val (.str x), Sl.val (.int c'), s] ∧ x.length ≤ i) ⟨_, _, _, rfl, Nat.le_refl _⟩ (fun i ρ hi hI => ?_) (fun ρ hI => ?_)
  · obtain ⟨x, c', s, rfl, h2⟩ := hI
    (repeat' (first | with_reducible refine w_ixS' (by rw [et_len]; omega) (by omega) (by rw [et_len]; omega) (fun c2 _ => ?_) | with_reducible refine w_modP (by omega) (fun r _ _ _ => ?_) | with_reducible refine w_addC (by omega) ?_ | with_reducible refine w_seq ?_ | with_reducible refine w_sIf ?_ | with_reducible refine w_nil ?_ | with_reducible refine w_ret ?_ | with_reducible refine w_sG ?_ | with_reducible refine w_xP ?_ | with_reducible refine w_gN ?_ | with_reducible refine w_gsN ?_ | with_reducible refine w_gsC ?_ | with_reducible refine w_gT2 ?_ | with_reducible refine w_gT3 ?_ | with_reducible refine w_gT (by rfl) ?_ | with_reducible refine w_c ?_ | ((with_reducible apply w_v); exact rfl) | ((with_reducible apply w_vo); exact rfl) | with_reducible refine w_e1 ?_ | with_reducible refine w_e2 ?_ | with_reducible refine w_esN ?_ | with_reducible refine w_esC ?_ | with_reducible refine w_eA ?_ | with_reducible refine w_nL ?_ | with_reducible refine w_eL ?_ | with_reducible refine w_lsG ?_ | with_reducible refine w_tup0 ?_ | with_reducible refine w_tup1 ?_ | with_reducible refine w_tup2 ?_ | with_reducible refine w_tup3 ?_ | with_reducible refine w_tup4 ?_ | with_reducible refine w_tup5 ?_ | with_reducible refine w_tup6 ?_ | with_reducible refine w_tup (by decide) ?_ | with_reducible refine w_tE ?_ | with_reducible refine w_dB ?_ | with_reducible refine w_tNo ?_ | with_reducible refine w_tAn ?_ | with_reducible refine w_tOr ?_ | with_reducible refine w_tY ?_ | with_reducible refine w_eAn ?_ | with_reducible refine w_eOr ?_ | with_reducible refine w_eIf ?_ | with_reducible refine w_addI ?_ | with_reducible refine w_sub ?_ | with_reducible refine w_neg ?_ | with_reducible refine w_not ?_ | with_reducible refine w_cmp ?_ | with_reducible refine w_ltI ?_ | with_reducible refine w_nSl ?_ | with_reducible refine w_cutL ?_ | with_reducible refine w_slL ?_ | with_reducible refine w_slR ?_ | with_reducible refine w_gL2 ?_ | with_reducible refine w_gL3 ?_ | with_reducible refine w_gL5 ?_ | with_reducible refine w_eqI ?_ | with_reducible refine w_eqS ?_ | with_reducible refine w_eqB ?_ | with_reducible refine w_neE ?_ | with_reducible refine w_eqE ?_ | with_reducible refine w_neI ?_ | with_reducible refine w_neS ?_ | with_reducible refine w_lenL ?_ | with_reducible refine w_lenT ?_ | with_reducible refine w_lenR ?_ | with_reducible refine w_intI ?_ | ((with_reducible apply w_intBt); (first | decide +kernel | exact rfl)) | ((with_reducible apply w_intBf); (first | decide +kernel | exact rfl)) | with_reducible refine w_intB ?_ | with_reducible refine w_tupleL ?_ | with_reducible refine w_tupleT ?_ | with_reducible refine w_listL ?_ | with_reducible refine w_listT ?_ | with_reducible refine w_max2P (fun r _ _ _ => ?_) | with_reducible refine w_min2P (fun r _ _ _ => ?_) | ((with_reducible apply w_isi); exact rfl) | with_reducible refine w_oN ?_ | with_reducible refine w_oS ?_ | with_reducible refine w_eSl ?_ | with_reducible refine w_sl1 ?_ | with_reducible refine w_sl2 ?_ | with_reducible refine w_sl3 ?_ | ((with_reducible apply w_ixT); exact rfl) | with_reducible refine w_mod (by decide) ?_ | with_reducible refine w_div (by decide) ?_ | with_reducible refine w_pow (by decide) ?_ | with_reducible refine w_own ?_ | with_reducible refine w_xsN ?_ | with_reducible refine w_xsC ?_ | with_reducible refine w_xA ?_ | with_reducible refine w_app ?_ | ((with_reducible refine sq_nx ?_); try simp only [esc_nil, esc_int, esc_str, esc_bl, esc_non, List.set_cons_zero, List.set_cons_succ, unown_nil, unown_noO, esc_noO, noO_nil, noO_cons, isOwn_val, isOwn_no, isOwn_own, isOwn_succ, Bool.not_false, Bool.and_self]) | with_reducible refine sq_ret ?_ | with_reducible refine rq_ret ?_ | with_reducible refine lq_ret ?_ | ((with_reducible refine lq_nx ?_); try simp only [esc_nil, esc_int, esc_str, esc_bl, esc_non, List.set_cons_zero, List.set_cons_succ, unown_nil, unown_noO, esc_noO, noO_nil, noO_cons, isOwn_val, isOwn_no, isOwn_own, isOwn_succ, Bool.not_false, Bool.and_self]) | ((with_reducible refine w_sFor ?_); try simp only [esc_nil, esc_int, esc_str, esc_bl, esc_non, List.set_cons_zero, List.set_cons_succ, unown_nil, unown_noO, esc_noO, noO_nil, noO_cons, isOwn_val, isOwn_no, isOwn_own, isOwn_succ, Bool.not_false, Bool.and_self]) | with_reducible refine w_iV ?_ | with_reducible refine w_iE ?_ | with_reducible refine w_itL ?_ | with_reducible refine w_itT ?_ | with_reducible refine w_itS ?_ | with_reducible refine w_lcG ?_ | with_reducible refine w_while0 ?_ | with_reducible refine w_mulI (mulOk_r (by decide)) ?_ | with_reducible refine w_mulI (mulOk_l (by decide)) ?_ | with_reducible refine ex_int ?_ | with_reducible refine ex_bl ?_ | with_reducible refine ex_lst ?_ | with_reducible refine an_int ?_ | with_reducible refine an_big0 ?_ | with_reducible refine an_bigl0 ?_ | with_reducible refine an_big1 ?_ | with_reducible refine an_bigl1 ?_ | with_reducible refine an_big2 ?_ | with_reducible refine an_bigl2 ?_ | with_reducible refine an_big3 ?_ | with_reducible refine an_bigl3 ?_ | with_reducible refine an_big4 ?_ | with_reducible refine an_bigl4 ?_ | with_reducible refine an_big5 ?_ | with_reducible refine an_bigl5 ?_ | with_reducible refine an_big6 ?_ | with_reducible refine an_bigl6 ?_ | with_reducible refine an_big7 ?_ | with_reducible refine an_bigl7 ?_ | with_reducible refine an_big8 ?_ | with_reducible refine an_bigl8 ?_ | with_reducible refine an_big (by decide) ?_ | with_reducible refine an_bigl (by decide) ?_ | with_reducible refine w_compN ?_ | with_reducible refine w_compC ?_ | with_reducible refine w_addT1 (by simp) ?_ | ((with_reducible apply an_own); exact rfl) | ((with_reducible apply ex_app); (first | exact rfl | (simp only [esc_nil, esc_int, esc_str, esc_bl, esc_non, List.set_cons_zero, List.set_cons_succ, unown_nil, unown_noO, esc_noO, noO_nil, noO_cons, isOwn_val, isOwn_no, isOwn_own, isOwn_succ, Bool.not_false, Bool.and_self]; exact rfl))) | ((with_reducible apply w_augI); exact rfl) | ((with_reducible apply w_augL); exact rfl) | ((with_reducible apply br_t); (first | decide +kernel | exact rfl)) | ((with_reducible apply br_f); (first | decide +kernel | exact rfl)) | with_reducible refine br_n ?_ | with_reducible refine br_d (fun _ => ?_) (fun _ => ?_) | with_reducible refine br_e (fun _ => ?_) (fun _ => ?_) | with_reducible refine br_s (fun _ => ?_) (fun _ => ?_) | with_reducible refine br_2 (fun _ => ?_) (fun _ => ?_)))
    exact ⟨_, _, _, rfl, by rw [len_app]; show _ + 1 ≤ _; omega⟩
  · obtain ⟨x, c', s, rfl, h2⟩ := hI
    (repeat' (first | with_reducible refine w_seq ?_ | with_reducible refine w_sIf ?_ | with_reducible refine w_nil ?_ | with_reducible refine w_ret ?_ | with_reducible refine w_sG ?_ | with_reducible refine w_xP ?_ | with_reducible refine w_gN ?_ | with_reducible refine w_gsN ?_ | with_reducible refine w_gsC ?_ | with_reducible refine w_gT2 ?_ | with_reducible refine w_gT3 ?_ | with_reducible refine w_gT (by rfl) ?_ | with_reducible refine w_c ?_ | ((with_reducible apply w_v); exact rfl) | ((with_reducible apply w_vo); exact rfl) | with_reducible refine w_e1 ?_ | with_reducible refine w_e2 ?_ | with_reducible refine w_esN ?_ | with_reducible refine w_esC ?_ | with_reducible refine w_eA ?_ | with_reducible refine w_nL ?_ | with_reducible refine w_eL ?_ | with_reducible refine w_lsG ?_ | with_reducible refine w_tup0 ?_ | with_reducible refine w_tup1 ?_ | with_reducible refine w_tup2 ?_ | with_reducible refine w_tup3 ?_ | with_reducible refine w_tup4 ?_ | with_reducible refine w_tup5 ?_ | with_reducible refine w_tup6 ?_ | with_reducible refine w_tup (by decide) ?_ | with_reducible refine w_tE ?_ | with_reducible refine w_dB ?_ | with_reducible refine w_tNo ?_ | with_reducible refine w_tAn ?_ | with_reducible refine w_tOr ?_ | with_reducible refine w_tY ?_ | with_reducible refine w_eAn ?_ | with_reducible refine w_eOr ?_ | with_reducible refine w_eIf ?_ | with_reducible refine w_addI ?_ | with_reducible refine w_sub ?_ | with_reducible refine w_neg ?_ | with_reducible refine w_not ?_ | with_reducible refine w_cmp ?_ | with_reducible refine w_ltI ?_ | with_reducible refine w_nSl ?_ | with_reducible refine w_cutL ?_ | with_reducible refine w_slL ?_ | with_reducible refine w_slR ?_ | with_reducible refine w_gL2 ?_ | with_reducible refine w_gL3 ?_ | with_reducible refine w_gL5 ?_ | with_reducible refine w_eqI ?_ | with_reducible refine w_eqS ?_ | with_reducible refine w_eqB ?_ | with_reducible refine w_neE ?_ | with_reducible refine w_eqE ?_ | with_reducible refine w_neI ?_ | with_reducible refine w_neS ?_ | with_reducible refine w_lenL ?_ | with_reducible refine w_lenT ?_ | with_reducible refine w_lenR ?_ | with_reducible refine w_intI ?_ | ((with_reducible apply w_intBt); (first | decide +kernel | exact rfl)) | ((with_reducible apply w_intBf); (first | decide +kernel | exact rfl)) | with_reducible refine w_intB ?_ | with_reducible refine w_tupleL ?_ | with_reducible refine w_tupleT ?_ | with_reducible refine w_listL ?_ | with_reducible refine w_listT ?_ | with_reducible refine w_max2P (fun r _ _ _ => ?_) | with_reducible refine w_min2P (fun r _ _ _ => ?_) | ((with_reducible apply w_isi); exact rfl) | with_reducible refine w_oN ?_ | with_reducible refine w_oS ?_ | with_reducible refine w_eSl ?_ | with_reducible refine w_sl1 ?_ | with_reducible refine w_sl2 ?_ | with_reducible refine w_sl3 ?_ | ((with_reducible apply w_ixT); exact rfl) | with_reducible refine w_mod (by decide) ?_ | with_reducible refine w_div (by decide) ?_ | with_reducible refine w_pow (by decide) ?_ | with_reducible refine w_own ?_ | with_reducible refine w_xsN ?_ | with_reducible refine w_xsC ?_ | with_reducible refine w_xA ?_ | with_reducible refine w_app ?_ | ((with_reducible refine sq_nx ?_); try simp only [esc_nil, esc_int, esc_str, esc_bl, esc_non, List.set_cons_zero, List.set_cons_succ, unown_nil, unown_noO, esc_noO, noO_nil, noO_cons, isOwn_val, isOwn_no, isOwn_own, isOwn_succ, Bool.not_false, Bool.and_self]) | with_reducible refine sq_ret ?_ | with_reducible refine rq_ret ?_ | with_reducible refine lq_ret ?_ | ((with_reducible refine lq_nx ?_); try simp only [esc_nil, esc_int, esc_str, esc_bl, esc_non, List.set_cons_zero, List.set_cons_succ, unown_nil, unown_noO, esc_noO, noO_nil, noO_cons, isOwn_val, isOwn_no, isOwn_own, isOwn_succ, Bool.not_false, Bool.and_self]) | ((with_reducible refine w_sFor ?_); try simp only [esc_nil, esc_int, esc_str, esc_bl, esc_non, List.set_cons_zero, List.set_cons_succ, unown_nil, unown_noO, esc_noO, noO_nil, noO_cons, isOwn_val, isOwn_no, isOwn_own, isOwn_succ, Bool.not_false, Bool.and_self]) | with_reducible refine w_iV ?_ | with_reducible refine w_iE ?_ | with_reducible refine w_itL ?_ | with_reducible refine w_itT ?_ | with_reducible refine w_itS ?_ | with_reducible refine w_lcG ?_ | with_reducible refine w_while0 ?_ | with_reducible refine w_mulI (mulOk_r (by decide)) ?_ | with_reducible refine w_mulI (mulOk_l (by decide)) ?_ | with_reducible refine ex_int ?_ | with_reducible refine ex_bl ?_ | with_reducible refine ex_lst ?_ | with_reducible refine an_int ?_ | with_reducible refine an_big0 ?_ | with_reducible refine an_bigl0 ?_ | with_reducible refine an_big1 ?_ | with_reducible refine an_bigl1 ?_ | with_reducible refine an_big2 ?_ | with_reducible refine an_bigl2 ?_ | with_reducible refine an_big3 ?_ | with_reducible refine an_bigl3 ?_ | with_reducible refine an_big4 ?_ | with_reducible refine an_bigl4 ?_ | with_reducible refine an_big5 ?_ | with_reducible refine an_bigl5 ?_ | with_reducible refine an_big6 ?_ | with_reducible refine an_bigl6 ?_ | with_reducible refine an_big7 ?_ | with_reducible refine an_bigl7 ?_ | with_reducible refine an_big8 ?_ | with_reducible refine an_bigl8 ?_ | with_reducible refine an_big (by decide) ?_ | with_reducible refine an_bigl (by decide) ?_ | with_reducible refine w_compN ?_ | with_reducible refine w_compC ?_ | with_reducible refine w_addT1 (by simp) ?_ | ((with_reducible apply an_own); exact rfl) | ((with_reducible apply ex_app); (first | exact rfl | (simp only [esc_nil, esc_int, esc_str, esc_bl, esc_non, List.set_cons_zero, List.set_cons_succ, unown_nil, unown_noO, esc_noO, noO_nil, noO_cons, isOwn_val, isOwn_no, isOwn_own, isOwn_succ, Bool.not_false, Bool.and_self]; exact rfl))) | ((with_reducible apply w_augI); exact rfl) | ((with_reducible apply w_augL); exact rfl) | ((with_reducible apply br_t); (first | decide +kernel | exact rfl)) | ((with_reducible apply br_f); (first | decide +kernel | exact rfl)) | with_reducible refine br_n ?_ | with_reducible refine br_d (fun _ => ?_) (fun _ => ?_) | with_reducible refine br_e (fun _ => ?_) (fun _ => ?_) | with_reducible refine br_s (fun _ => ?_) (fun _ => ?_) | with_reducible refine br_2 (fun _ => ?_) (fun _ => ?_)))
    refine w_in (show dInO _ (.tup _) = _ from in_flat rfl) ?_
    (repeat' (first | with_reducible refine w_seq ?_ | with_reducible refine w_sIf ?_ | with_reducible refine w_nil ?_ | with_reducible refine w_ret ?_ | with_reducible refine w_sG ?_ | with_reducible refine w_xP ?_ | with_reducible refine w_gN ?_ | with_reducible refine w_gsN ?_ | with_reducible refine w_gsC ?_ | with_reducible refine w_gT2 ?_ | with_reducible refine w_gT3 ?_ | with_reducible refine w_gT (by rfl) ?_ | with_reducible refine w_c ?_ | ((with_reducible apply w_v); exact rfl) | ((with_reducible apply w_vo); exact rfl) | with_reducible refine w_e1 ?_ | with_reducible refine w_e2 ?_ | with_reducible refine w_esN ?_ | with_reducible refine w_esC ?_ | with_reducible refine w_eA ?_ | with_reducible refine w_nL ?_ | with_reducible refine w_eL ?_ | with_reducible refine w_lsG ?_ | with_reducible refine w_tup0 ?_ | with_reducible refine w_tup1 ?_ | with_reducible refine w_tup2 ?_ | with_reducible refine w_tup3 ?_ | with_reducible refine w_tup4 ?_ | with_reducible refine w_tup5 ?_ | with_reducible refine w_tup6 ?_ | with_reducible refine w_tup (by decide) ?_ | with_reducible refine w_tE ?_ | with_reducible refine w_dB ?_ | with_reducible refine w_tNo ?_ | with_reducible refine w_tAn ?_ | with_reducible refine w_tOr ?_ | with_reducible refine w_tY ?_ | with_reducible refine w_eAn ?_ | with_reducible refine w_eOr ?_ | with_reducible refine w_eIf ?_ | with_reducible refine w_addI ?_ | with_reducible refine w_sub ?_ | with_reducible refine w_neg ?_ | with_reducible refine w_not ?_ | with_reducible refine w_cmp ?_ | with_reducible refine w_ltI ?_ | with_reducible refine w_nSl ?_ | with_reducible refine w_cutL ?_ | with_reducible refine w_slL ?_ | with_reducible refine w_slR ?_ | with_reducible refine w_gL2 ?_ | with_reducible refine w_gL3 ?_ | with_reducible refine w_gL5 ?_ | with_reducible refine w_eqI ?_ | with_reducible refine w_eqS ?_ | with_reducible refine w_eqB ?_ | with_reducible refine w_neE ?_ | with_reducible refine w_eqE ?_ | with_reducible refine w_neI ?_ | with_reducible refine w_neS ?_ | with_reducible refine w_lenL ?_ | with_reducible refine w_lenT ?_ | with_reducible refine w_lenR ?_ | with_reducible refine w_intI ?_ | ((with_reducible apply w_intBt); (first | decide +kernel | exact rfl)) | ((with_reducible apply w_intBf); (first | decide +kernel | exact rfl)) | with_reducible refine w_intB ?_ | with_reducible refine w_tupleL ?_ | with_reducible refine w_tupleT ?_ | with_reducible refine w_listL ?_ | with_reducible refine w_listT ?_ | with_reducible refine w_max2P (fun r _ _ _ => ?_) | with_reducible refine w_min2P (fun r _ _ _ => ?_) | ((with_reducible apply w_isi); exact rfl) | with_reducible refine w_oN ?_ | with_reducible refine w_oS ?_ | with_reducible refine w_eSl ?_ | with_reducible refine w_sl1 ?_ | with_reducible refine w_sl2 ?_ | with_reducible refine w_sl3 ?_ | ((with_reducible apply w_ixT); exact rfl) | with_reducible refine w_mod (by decide) ?_ | with_reducible refine w_div (by decide) ?_ | with_reducible refine w_pow (by decide) ?_ | with_reducible refine w_own ?_ | with_reducible refine w_xsN ?_ | with_reducible refine w_xsC ?_ | with_reducible refine w_xA ?_ | with_reducible refine w_app ?_ | ((with_reducible refine sq_nx ?_); try simp only [esc_nil, esc_int, esc_str, esc_bl, esc_non, List.set_cons_zero, List.set_cons_succ, unown_nil, unown_noO, esc_noO, noO_nil, noO_cons, isOwn_val, isOwn_no, isOwn_own, isOwn_succ, Bool.not_false, Bool.and_self]) | with_reducible refine sq_ret ?_ | with_reducible refine rq_ret ?_ | with_reducible refine lq_ret ?_ | ((with_reducible refine lq_nx ?_); try simp only [esc_nil, esc_int, esc_str, esc_bl, esc_non, List.set_cons_zero, List.set_cons_succ, unown_nil, unown_noO, esc_noO, noO_nil, noO_cons, isOwn_val, isOwn_no, isOwn_own, isOwn_succ, Bool.not_false, Bool.and_self]) | ((with_reducible refine w_sFor ?_); try simp only [esc_nil, esc_int, esc_str, esc_bl, esc_non, List.set_cons_zero, List.set_cons_succ, unown_nil, unown_noO, esc_noO, noO_nil, noO_cons, isOwn_val, isOwn_no, isOwn_own, isOwn_succ, Bool.not_false, Bool.and_self]) | with_reducible refine w_iV ?_ | with_reducible refine w_iE ?_ | with_reducible refine w_itL ?_ | with_reducible refine w_itT ?_ | with_reducible refine w_itS ?_ | with_reducible refine w_lcG ?_ | with_reducible refine w_while0 ?_ | with_reducible refine w_mulI (mulOk_r (by decide)) ?_ | with_reducible refine w_mulI (mulOk_l (by decide)) ?_ | with_reducible refine ex_int ?_ | with_reducible refine ex_bl ?_ | with_reducible refine ex_lst ?_ | with_reducible refine an_int ?_ | with_reducible refine an_big0 ?_ | with_reducible refine an_bigl0 ?_ | with_reducible refine an_big1 ?_ | with_reducible refine an_bigl1 ?_ | with_reducible refine an_big2 ?_ | with_reducible refine an_bigl2 ?_ | with_reducible refine an_big3 ?_ | with_reducible refine an_bigl3 ?_ | with_reducible refine an_big4 ?_ | with_reducible refine an_bigl4 ?_ | with_reducible refine an_big5 ?_ | with_reducible refine an_bigl5 ?_ | with_reducible refine an_big6 ?_ | with_reducible refine an_bigl6 ?_ | with_reducible refine an_big7 ?_ | with_reducible refine an_bigl7 ?_ | with_reducible refine an_big8 ?_ | with_reducible refine an_bigl8 ?_ | with_reducible refine an_big (by decide) ?_ | with_reducible refine an_bigl (by decide) ?_ | with_reducible refine w_compN ?_ | with_reducible refine w_compC ?_ | with_reducible refine w_addT1 (by simp) ?_ | ((with_reducible apply an_own); exact rfl) | ((with_reducible apply ex_app); (first | exact rfl | (simp only [esc_nil, esc_int, esc_str, esc_bl, esc_non, List.set_cons_zero, List.set_cons_succ, unown_nil, unown_noO, esc_noO, noO_nil, noO_cons, isOwn_val, isOwn_no, isOwn_own, isOwn_succ, Bool.not_false, Bool.and_self]; exact rfl))) | ((with_reducible apply w_augI); exact rfl) | ((with_reducible apply w_augL); exact rfl) | ((with_reducible apply br_t); (first | decide +kernel | exact rfl)) | ((with_reducible apply br_f); (first | decide +kernel | exact rfl)) | with_reducible refine br_n ?_ | with_reducible refine br_d (fun _ => ?_) (fun _ => ?_) | with_reducible refine br_e (fun _ => ?_) (fun _ => ?_) | with_reducible refine br_s (fun _ => ?_) (fun _ => ?_) | with_reducible refine br_2 (fun _ => ?_) (fun _ => ?_)))
    · refine w_addS (by show _ + 1 ≤ _; omega) ?_
      (repeat' (first | with_reducible refine w_seq ?_ | with_reducible refine w_sIf ?_ | with_reducible refine w_nil ?_ | with_reducible refine w_ret ?_ | with_reducible refine w_sG ?_ | with_reducible refine w_xP ?_ | with_reducible refine w_gN ?_ | with_reducible refine w_gsN ?_ | with_reducible refine w_gsC ?_ | with_reducible refine w_gT2 ?_ | with_reducible refine w_gT3 ?_ | with_reducible refine w_gT (by rfl) ?_ | with_reducible refine w_c ?_ | ((with_reducible apply w_v); exact rfl) | ((with_reducible apply w_vo); exact rfl) | with_reducible refine w_e1 ?_ | with_reducible refine w_e2 ?_ | with_reducible refine w_esN ?_ | with_reducible refine w_esC ?_ | with_reducible refine w_eA ?_ | with_reducible refine w_nL ?_ | with_reducible refine w_eL ?_ | with_reducible refine w_lsG ?_ | with_reducible refine w_tup0 ?_ | with_reducible refine w_tup1 ?_ | with_reducible refine w_tup2 ?_ | with_reducible refine w_tup3 ?_ | with_reducible refine w_tup4 ?_ | with_reducible refine w_tup5 ?_ | with_reducible refine w_tup6 ?_ | with_reducible refine w_tup (by decide) ?_ | with_reducible refine w_tE ?_ | with_reducible refine w_dB ?_ | with_reducible refine w_tNo ?_ | with_reducible refine w_tAn ?_ | with_reducible refine w_tOr ?_ | with_reducible refine w_tY ?_ | with_reducible refine w_eAn ?_ | with_reducible refine w_eOr ?_ | with_reducible refine w_eIf ?_ | with_reducible refine w_addI ?_ | with_reducible refine w_sub ?_ | with_reducible refine w_neg ?_ | with_reducible refine w_not ?_ | with_reducible refine w_cmp ?_ | with_reducible refine w_ltI ?_ | with_reducible refine w_nSl ?_ | with_reducible refine w_cutL ?_ | with_reducible refine w_slL ?_ | with_reducible refine w_slR ?_ | with_reducible refine w_gL2 ?_ | with_reducible refine w_gL3 ?_ | with_reducible refine w_gL5 ?_ | with_reducible refine w_eqI ?_ | with_reducible refine w_eqS ?_ | with_reducible refine w_eqB ?_ | with_reducible refine w_neE ?_ | with_reducible refine w_eqE ?_ | with_reducible refine w_neI ?_ | with_reducible refine w_neS ?_ | with_reducible refine w_lenL ?_ | with_reducible refine w_lenT ?_ | with_reducible refine w_lenR ?_ | with_reducible refine w_intI ?_ | ((with_reducible apply w_intBt); (first | decide +kernel | exact rfl)) | ((with_reducible apply w_intBf); (first | decide +kernel | exact rfl)) | with_reducible refine w_intB ?_ | with_reducible refine w_tupleL ?_ | with_reducible refine w_tupleT ?_ | with_reducible refine w_listL ?_ | with_reducible refine w_listT ?_ | with_reducible refine w_max2P (fun r _ _ _ => ?_) | with_reducible refine w_min2P (fun r _ _ _ => ?_) | ((with_reducible apply w_isi); exact rfl) | with_reducible refine w_oN ?_ | with_reducible refine w_oS ?_ | with_reducible refine w_eSl ?_ | with_reducible refine w_sl1 ?_ | with_reducible refine w_sl2 ?_ | with_reducible refine w_sl3 ?_ | ((with_reducible apply w_ixT); exact rfl) | with_reducible refine w_mod (by decide) ?_ | with_reducible refine w_div (by decide) ?_ | with_reducible refine w_pow (by decide) ?_ | with_reducible refine w_own ?_ | with_reducible refine w_xsN ?_ | with_reducible refine w_xsC ?_ | with_reducible refine w_xA ?_ | with_reducible refine w_app ?_ | ((with_reducible refine sq_nx ?_); try simp only [esc_nil, esc_int, esc_str, esc_bl, esc_non, List.set_cons_zero, List.set_cons_succ, unown_nil, unown_noO, esc_noO, noO_nil, noO_cons, isOwn_val, isOwn_no, isOwn_own, isOwn_succ, Bool.not_false, Bool.and_self]) | with_reducible refine sq_ret ?_ | with_reducible refine rq_ret ?_ | with_reducible refine lq_ret ?_ | ((with_reducible refine lq_nx ?_); try simp only [esc_nil, esc_int, esc_str, esc_bl, esc_non, List.set_cons_zero, List.set_cons_succ, unown_nil, unown_noO, esc_noO, noO_nil, noO_cons, isOwn_val, isOwn_no, isOwn_own, isOwn_succ, Bool.not_false, Bool.and_self]) | ((with_reducible refine w_sFor ?_); try simp only [esc_nil, esc_int, esc_str, esc_bl, esc_non, List.set_cons_zero, List.set_cons_succ, unown_nil, unown_noO, esc_noO, noO_nil, noO_cons, isOwn_val, isOwn_no, isOwn_own, isOwn_succ, Bool.not_false, Bool.and_self]) | with_reducible refine w_iV ?_ | with_reducible refine w_iE ?_ | with_reducible refine w_itL ?_ | with_reducible refine w_itT ?_ | with_reducible refine w_itS ?_ | with_reducible refine w_lcG ?_ | with_reducible refine w_while0 ?_ | with_reducible refine w_mulI (mulOk_r (by decide)) ?_ | with_reducible refine w_mulI (mulOk_l (by decide)) ?_ | with_reducible refine ex_int ?_ | with_reducible refine ex_bl ?_ | with_reducible refine ex_lst ?_ | with_reducible refine an_int ?_ | with_reducible refine an_big0 ?_ | with_reducible refine an_bigl0 ?_ | with_reducible refine an_big1 ?_ | with_reducible refine an_bigl1 ?_ | with_reducible refine an_big2 ?_ | with_reducible refine an_bigl2 ?_ | with_reducible refine an_big3 ?_ | with_reducible refine an_bigl3 ?_ | with_reducible refine an_big4 ?_ | with_reducible refine an_bigl4 ?_ | with_reducible refine an_big5 ?_ | with_reducible refine an_bigl5 ?_ | with_reducible refine an_big6 ?_ | with_reducible refine an_bigl6 ?_ | with_reducible refine an_big7 ?_ | with_reducible refine an_bigl7 ?_ | with_reducible refine an_big8 ?_ | with_reducible refine an_bigl8 ?_ | with_reducible refine an_big (by decide) ?_ | with_reducible refine an_bigl (by decide) ?_ | with_reducible refine w_compN ?_ | with_reducible refine w_compC ?_ | with_reducible refine w_addT1 (by simp) ?_ | ((with_reducible apply an_own); exact rfl) | ((with_reducible apply ex_app); (first | exact rfl | (simp only [esc_nil, esc_int, esc_str, esc_bl, esc_non, List.set_cons_zero, List.set_cons_succ, unown_nil, unown_noO, esc_noO, noO_nil, noO_cons, isOwn_val, isOwn_no, isOwn_own, isOwn_succ, Bool.not_false, Bool.and_self]; exact rfl))) | ((with_reducible apply w_augI); exact rfl) | ((with_reducible apply w_augL); exact rfl) | ((with_reducible apply br_t); (first | decide +kernel | exact rfl)) | ((with_reducible apply br_f); (first | decide +kernel | exact rfl)) | with_reducible refine br_n ?_ | with_reducible refine br_d (fun _ => ?_) (fun _ => ?_) | with_reducible refine br_e (fun _ => ?_) (fun _ => ?_) | with_reducible refine br_s (fun _ => ?_) (fun _ => ?_) | with_reducible refine br_2 (fun _ => ?_) (fun _ => ?_)))
      exact q _
    · exact q _
theorem strs_of {ds ys : List D} (h : All2 (fun _ y => ∃ x : Str, y = .str x) ds ys) : ∃ ws : List Str, ys = ws.map .str ∧ ws.length = ds.length := by
  induction h with
  | nil => exact ⟨[], rfl, rfl⟩
  | cons r _ ih =>
    obtain ⟨c, rfl⟩ := r
    obtain ⟨cs, rfl, h2⟩ := ih
    exact ⟨c :: cs, rfl, by simp [h2]⟩
theorem cutG_mem {α : Type} {xs : List α} {lo hi : Option Int} {x : α} (h : x ∈ cutG xs lo hi) : x ∈ xs := List.mem_of_mem_drop (List.mem_of_mem_take h)
theorem cutG_len {α : Type} {xs : List α} {lo hi : Option Int} : (cutG xs lo hi).length ≤ xs.length := by
  unfold cutG
  rw [List.length_take, List.length_drop]
  omega
/-- what a word is made by -/
abbrev wpart (φ : Nat → List D → Option D) : Sx := (sSeq (sG (xP [3] (DL.e2 dAdd (eV 3) (eL (lcG [9] (nL dRg1 (esC (eV 2) esN)) (gN 9) tY (eA dStr (esC (eV 9) esN)))))) (gN 6))
      (sSeq (sG (xP [] (eL (lsG (esC (DL.e2 dMod (DL.e2 dMul (eV 5) (eC (.int 31))) (eC (.int 1009))) (esC (DL.e2 dMod (DL.e2 dMul (eV 5) (eC (.int 37))) (eC (.int 1013))) (esC (DL.e2 dMod (DL.e2 dMul (eV 5) (eC (.int 41))) (eC (.int 1019))) esN)))))) (gN 7))
      (sRet (eA dTup (esC (eC (.str "word")) (esC (eA (fnL 1 (φ 7)) (esC (DL.e2 dDiv (eV 5) (eC (.int 4))) esN)) (esC (eA dTuple (esC (eL (lcG [10] (iE [] (eSl (eV 7) oN (oS (DL.e2 dMod (eV 5) (eC (.int 4)))))) (gN 10) tY (DL.e2 dIx (eV 6) (DL.e2 dMod (eV 10) (eA dLen (esC (eV 6) esN)))))) esN)) esN)))))))
theorem wpart_ok {m : Nat} (hm : 1 ≤ m) (c0 c1 c4 : D) (r : Int) (around : Nat) (vs : List Str) (ha : around ≤ 20) (h1 : 0 < vs.length) (h2 : vs.length ≤ 10) {Q : Out → Prop} (q : ∀ A, dep A = 0 → short A → Q (.ret (enc A))) :
    Wp (wpart (Phi m) [.val c0, .val c1, .val (.int around), .val (.lst (vs.map .str)), .val c4, .val (.int r), .no, .no, .no, .no, .no]) Q := by
  unfold wpart
  (repeat' (first | with_reducible refine w_rg1 (by omega) ?_ | with_reducible refine w_seq ?_ | with_reducible refine w_sIf ?_ | with_reducible refine w_nil ?_ | with_reducible refine w_ret ?_ | with_reducible refine w_sG ?_ | with_reducible refine w_xP ?_ | with_reducible refine w_gN ?_ | with_reducible refine w_gsN ?_ | with_reducible refine w_gsC ?_ | with_reducible refine w_gT2 ?_ | with_reducible refine w_gT3 ?_ | with_reducible refine w_gT (by rfl) ?_ | with_reducible refine w_c ?_ | ((with_reducible apply w_v); exact rfl) | ((with_reducible apply w_vo); exact rfl) | with_reducible refine w_e1 ?_ | with_reducible refine w_e2 ?_ | with_reducible refine w_esN ?_ | with_reducible refine w_esC ?_ | with_reducible refine w_eA ?_ | with_reducible refine w_nL ?_ | with_reducible refine w_eL ?_ | with_reducible refine w_lsG ?_ | with_reducible refine w_tup0 ?_ | with_reducible refine w_tup1 ?_ | with_reducible refine w_tup2 ?_ | with_reducible refine w_tup3 ?_ | with_reducible refine w_tup4 ?_ | with_reducible refine w_tup5 ?_ | with_reducible refine w_tup6 ?_ | with_reducible refine w_tup (by decide) ?_ | with_reducible refine w_tE ?_ | with_reducible refine w_dB ?_ | with_reducible refine w_tNo ?_ | with_reducible refine w_tAn ?_ | with_reducible refine w_tOr ?_ | with_reducible refine w_tY ?_ | with_reducible refine w_eAn ?_ | with_reducible refine w_eOr ?_ | with_reducible refine w_eIf ?_ | with_reducible refine w_addI ?_ | with_reducible refine w_sub ?_ | with_reducible refine w_neg ?_ | with_reducible refine w_not ?_ | with_reducible refine w_cmp ?_ | with_reducible refine w_ltI ?_ | with_reducible refine w_nSl ?_ | with_reducible refine w_cutL ?_ | with_reducible refine w_slL ?_ | with_reducible refine w_slR ?_ | with_reducible refine w_gL2 ?_ | with_reducible refine w_gL3 ?_ | with_reducible refine w_gL5 ?_ | with_reducible refine w_eqI ?_ | with_reducible refine w_eqS ?_ | with_reducible refine w_eqB ?_ | with_reducible refine w_neE ?_ | with_reducible refine w_eqE ?_ | with_reducible refine w_neI ?_ | with_reducible refine w_neS ?_ | with_reducible refine w_lenL ?_ | with_reducible refine w_lenT ?_ | with_reducible refine w_lenR ?_ | with_reducible refine w_intI ?_ | ((with_reducible apply w_intBt); (first | decide +kernel | exact rfl)) | ((with_reducible apply w_intBf); (first | decide +kernel | exact rfl)) | with_reducible refine w_intB ?_ | with_reducible refine w_tupleL ?_ | with_reducible refine w_tupleT ?_ | with_reducible refine w_listL ?_ | with_reducible refine w_listT ?_ | with_reducible refine w_max2P (fun r _ _ _ => ?_) | with_reducible refine w_min2P (fun r _ _ _ => ?_) | ((with_reducible apply w_isi); exact rfl) | with_reducible refine w_oN ?_ | with_reducible refine w_oS ?_ | with_reducible refine w_eSl ?_ | with_reducible refine w_sl1 ?_ | with_reducible refine w_sl2 ?_ | with_reducible refine w_sl3 ?_ | ((with_reducible apply w_ixT); exact rfl) | with_reducible refine w_mod (by decide) ?_ | with_reducible refine w_div (by decide) ?_ | with_reducible refine w_pow (by decide) ?_ | with_reducible refine w_own ?_ | with_reducible refine w_xsN ?_ | with_reducible refine w_xsC ?_ | with_reducible refine w_xA ?_ | with_reducible refine w_app ?_ | ((with_reducible refine sq_nx ?_); try simp only [esc_nil, esc_int, esc_str, esc_bl, esc_non, List.set_cons_zero, List.set_cons_succ, unown_nil, unown_noO, esc_noO, noO_nil, noO_cons, isOwn_val, isOwn_no, isOwn_own, isOwn_succ, Bool.not_false, Bool.and_self]) | with_reducible refine sq_ret ?_ | with_reducible refine rq_ret ?_ | with_reducible refine lq_ret ?_ | ((with_reducible refine lq_nx ?_); try simp only [esc_nil, esc_int, esc_str, esc_bl, esc_non, List.set_cons_zero, List.set_cons_succ, unown_nil, unown_noO, esc_noO, noO_nil, noO_cons, isOwn_val, isOwn_no, isOwn_own, isOwn_succ, Bool.not_false, Bool.and_self]) | ((with_reducible refine w_sFor ?_); try simp only [esc_nil, esc_int, esc_str, esc_bl, esc_non, List.set_cons_zero, List.set_cons_succ, unown_nil, unown_noO, esc_noO, noO_nil, noO_cons, isOwn_val, isOwn_no, isOwn_own, isOwn_succ, Bool.not_false, Bool.and_self]) | with_reducible refine w_iV ?_ | with_reducible refine w_iE ?_ | with_reducible refine w_itL ?_ | with_reducible refine w_itT ?_ | with_reducible refine w_itS ?_ | with_reducible refine w_lcG ?_ | with_reducible refine w_while0 ?_ | with_reducible refine w_mulI (mulOk_r (by decide)) ?_ | with_reducible refine w_mulI (mulOk_l (by decide)) ?_ | with_reducible refine ex_int ?_ | with_reducible refine ex_bl ?_ | with_reducible refine ex_lst ?_ | with_reducible refine an_int ?_ | with_reducible refine an_big0 ?_ | with_reducible refine an_bigl0 ?_ | with_reducible refine an_big1 ?_ | with_reducible refine an_bigl1 ?_ | with_reducible refine an_big2 ?_ | with_reducible refine an_bigl2 ?_ | with_reducible refine an_big3 ?_ | with_reducible refine an_bigl3 ?_ | with_reducible refine an_big4 ?_ | with_reducible refine an_bigl4 ?_ | with_reducible refine an_big5 ?_ | with_reducible refine an_bigl5 ?_ | with_reducible refine an_big6 ?_ | with_reducible refine an_bigl6 ?_ | with_reducible refine an_big7 ?_ | with_reducible refine an_bigl7 ?_ | with_reducible refine an_big8 ?_ | with_reducible refine an_bigl8 ?_ | with_reducible refine an_big (by decide) ?_ | with_reducible refine an_bigl (by decide) ?_ | with_reducible refine w_compN ?_ | with_reducible refine w_compC ?_ | with_reducible refine w_addT1 (by simp) ?_ | ((with_reducible apply an_own); exact rfl) | ((with_reducible apply ex_app); (first | exact rfl | (simp only [esc_nil, esc_int, esc_str, esc_bl, esc_non, List.set_cons_zero, List.set_cons_succ, unown_nil, unown_noO, esc_noO, noO_nil, noO_cons, isOwn_val, isOwn_no, isOwn_own, isOwn_succ, Bool.not_false, Bool.and_self]; exact rfl))) | ((with_reducible apply w_augI); exact rfl) | ((with_reducible apply w_augL); exact rfl) | ((with_reducible apply br_t); (first | decide +kernel | exact rfl)) | ((with_reducible apply br_f); (first | decide +kernel | exact rfl)) | with_reducible refine br_n ?_ | with_reducible refine br_d (fun _ => ?_) (fun _ => ?_) | with_reducible refine br_e (fun _ => ?_) (fun _ => ?_) | with_reducible refine br_s (fun _ => ?_) (fun _ => ?_) | with_reducible refine br_2 (fun _ => ?_) (fun _ => ?_)))
  refine ⟨by rw [rgD_len]; omega, w_compY (R := fun _ y => ∃ x : Str, y = .str x) (fun d hd => ?_) (fun ys hy => ?_)⟩
  · obtain ⟨i, rfl, hi1, hi2⟩ := rgD_mem hd
    (repeat' (first | with_reducible refine w_strI (by omega) ?_ | with_reducible refine w_seq ?_ | with_reducible refine w_sIf ?_ | with_reducible refine w_nil ?_ | with_reducible refine w_ret ?_ | with_reducible refine w_sG ?_ | with_reducible refine w_xP ?_ | with_reducible refine w_gN ?_ | with_reducible refine w_gsN ?_ | with_reducible refine w_gsC ?_ | with_reducible refine w_gT2 ?_ | with_reducible refine w_gT3 ?_ | with_reducible refine w_gT (by rfl) ?_ | with_reducible refine w_c ?_ | ((with_reducible apply w_v); exact rfl) | ((with_reducible apply w_vo); exact rfl) | with_reducible refine w_e1 ?_ | with_reducible refine w_e2 ?_ | with_reducible refine w_esN ?_ | with_reducible refine w_esC ?_ | with_reducible refine w_eA ?_ | with_reducible refine w_nL ?_ | with_reducible refine w_eL ?_ | with_reducible refine w_lsG ?_ | with_reducible refine w_tup0 ?_ | with_reducible refine w_tup1 ?_ | with_reducible refine w_tup2 ?_ | with_reducible refine w_tup3 ?_ | with_reducible refine w_tup4 ?_ | with_reducible refine w_tup5 ?_ | with_reducible refine w_tup6 ?_ | with_reducible refine w_tup (by decide) ?_ | with_reducible refine w_tE ?_ | with_reducible refine w_dB ?_ | with_reducible refine w_tNo ?_ | with_reducible refine w_tAn ?_ | with_reducible refine w_tOr ?_ | with_reducible refine w_tY ?_ | with_reducible refine w_eAn ?_ | with_reducible refine w_eOr ?_ | with_reducible refine w_eIf ?_ | with_reducible refine w_addI ?_ | with_reducible refine w_sub ?_ | with_reducible refine w_neg ?_ | with_reducible refine w_not ?_ | with_reducible refine w_cmp ?_ | with_reducible refine w_ltI ?_ | with_reducible refine w_nSl ?_ | with_reducible refine w_cutL ?_ | with_reducible refine w_slL ?_ | with_reducible refine w_slR ?_ | with_reducible refine w_gL2 ?_ | with_reducible refine w_gL3 ?_ | with_reducible refine w_gL5 ?_ | with_reducible refine w_eqI ?_ | with_reducible refine w_eqS ?_ | with_reducible refine w_eqB ?_ | with_reducible refine w_neE ?_ | with_reducible refine w_eqE ?_ | with_reducible refine w_neI ?_ | with_reducible refine w_neS ?_ | with_reducible refine w_lenL ?_ | with_reducible refine w_lenT ?_ | with_reducible refine w_lenR ?_ | with_reducible refine w_intI ?_ | ((with_reducible apply w_intBt); (first | decide +kernel | exact rfl)) | ((with_reducible apply w_intBf); (first | decide +kernel | exact rfl)) | with_reducible refine w_intB ?_ | with_reducible refine w_tupleL ?_ | with_reducible refine w_tupleT ?_ | with_reducible refine w_listL ?_ | with_reducible refine w_listT ?_ | with_reducible refine w_max2P (fun r _ _ _ => ?_) | with_reducible refine w_min2P (fun r _ _ _ => ?_) | ((with_reducible apply w_isi); exact rfl) | with_reducible refine w_oN ?_ | with_reducible refine w_oS ?_ | with_reducible refine w_eSl ?_ | with_reducible refine w_sl1 ?_ | with_reducible refine w_sl2 ?_ | with_reducible refine w_sl3 ?_ | ((with_reducible apply w_ixT); exact rfl) | with_reducible refine w_mod (by decide) ?_ | with_reducible refine w_div (by decide) ?_ | with_reducible refine w_pow (by decide) ?_ | with_reducible refine w_own ?_ | with_reducible refine w_xsN ?_ | with_reducible refine w_xsC ?_ | with_reducible refine w_xA ?_ | with_reducible refine w_app ?_ | ((with_reducible refine sq_nx ?_); try simp only [esc_nil, esc_int, esc_str, esc_bl, esc_non, List.set_cons_zero, List.set_cons_succ, unown_nil, unown_noO, esc_noO, noO_nil, noO_cons, isOwn_val, isOwn_no, isOwn_own, isOwn_succ, Bool.not_false, Bool.and_self]) | with_reducible refine sq_ret ?_ | with_reducible refine rq_ret ?_ | with_reducible refine lq_ret ?_ | ((with_reducible refine lq_nx ?_); try simp only [esc_nil, esc_int, esc_str, esc_bl, esc_non, List.set_cons_zero, List.set_cons_succ, unown_nil, unown_noO, esc_noO, noO_nil, noO_cons, isOwn_val, isOwn_no, isOwn_own, isOwn_succ, Bool.not_false, Bool.and_self]) | ((with_reducible refine w_sFor ?_); try simp only [esc_nil, esc_int, esc_str, esc_bl, esc_non, List.set_cons_zero, List.set_cons_succ, unown_nil, unown_noO, esc_noO, noO_nil, noO_cons, isOwn_val, isOwn_no, isOwn_own, isOwn_succ, Bool.not_false, Bool.and_self]) | with_reducible refine w_iV ?_ | with_reducible refine w_iE ?_ | with_reducible refine w_itL ?_ | with_reducible refine w_itT ?_ | with_reducible refine w_itS ?_ | with_reducible refine w_lcG ?_ | with_reducible refine w_while0 ?_ | with_reducible refine w_mulI (mulOk_r (by decide)) ?_ | with_reducible refine w_mulI (mulOk_l (by decide)) ?_ | with_reducible refine ex_int ?_ | with_reducible refine ex_bl ?_ | with_reducible refine ex_lst ?_ | with_reducible refine an_int ?_ | with_reducible refine an_big0 ?_ | with_reducible refine an_bigl0 ?_ | with_reducible refine an_big1 ?_ | with_reducible refine an_bigl1 ?_ | with_reducible refine an_big2 ?_ | with_reducible refine an_bigl2 ?_ | with_reducible refine an_big3 ?_ | with_reducible refine an_bigl3 ?_ | with_reducible refine an_big4 ?_ | with_reducible refine an_bigl4 ?_ | with_reducible refine an_big5 ?_ | with_reducible refine an_bigl5 ?_ | with_reducible refine an_big6 ?_ | with_reducible refine an_bigl6 ?_ | with_reducible refine an_big7 ?_ | with_reducible refine an_bigl7 ?_ | with_reducible refine an_big8 ?_ | with_reducible refine an_bigl8 ?_ | with_reducible refine an_big (by decide) ?_ | with_reducible refine an_bigl (by decide) ?_ | with_reducible refine w_compN ?_ | with_reducible refine w_compC ?_ | with_reducible refine w_addT1 (by simp) ?_ | ((with_reducible apply an_own); exact rfl) | ((with_reducible apply ex_app); (first | exact rfl | (simp only [esc_nil, esc_int, esc_str, esc_bl, esc_non, List.set_cons_zero, List.set_cons_succ, unown_nil, unown_noO, esc_noO, noO_nil, noO_cons, isOwn_val, isOwn_no, isOwn_own, isOwn_succ, Bool.not_false, Bool.and_self]; exact rfl))) | ((with_reducible apply w_augI); exact rfl) | ((with_reducible apply w_augL); exact rfl) | ((with_reducible apply br_t); (first | decide +kernel | exact rfl)) | ((with_reducible apply br_f); (first | decide +kernel | exact rfl)) | with_reducible refine br_n ?_ | with_reducible refine br_d (fun _ => ?_) (fun _ => ?_) | with_reducible refine br_e (fun _ => ?_) (fun _ => ?_) | with_reducible refine br_s (fun _ => ?_) (fun _ => ?_) | with_reducible refine br_2 (fun _ => ?_) (fun _ => ?_)))
    exact ⟨_, rfl⟩
  · obtain ⟨ws, rfl, hw⟩ := strs_of hy
    rw [rgD_len] at hw
    (repeat' (first | with_reducible refine w_seq ?_ | with_reducible refine w_sIf ?_ | with_reducible refine w_nil ?_ | with_reducible refine w_ret ?_ | with_reducible refine w_sG ?_ | with_reducible refine w_xP ?_ | with_reducible refine w_gN ?_ | with_reducible refine w_gsN ?_ | with_reducible refine w_gsC ?_ | with_reducible refine w_gT2 ?_ | with_reducible refine w_gT3 ?_ | with_reducible refine w_gT (by rfl) ?_ | with_reducible refine w_c ?_ | ((with_reducible apply w_v); exact rfl) | ((with_reducible apply w_vo); exact rfl) | with_reducible refine w_e1 ?_ | with_reducible refine w_e2 ?_ | with_reducible refine w_esN ?_ | with_reducible refine w_esC ?_ | with_reducible refine w_eA ?_ | with_reducible refine w_nL ?_ | with_reducible refine w_eL ?_ | with_reducible refine w_lsG ?_ | with_reducible refine w_tup0 ?_ | with_reducible refine w_tup1 ?_ | with_reducible refine w_tup2 ?_ | with_reducible refine w_tup3 ?_ | with_reducible refine w_tup4 ?_ | with_reducible refine w_tup5 ?_ | with_reducible refine w_tup6 ?_ | with_reducible refine w_tup (by decide) ?_ | with_reducible refine w_tE ?_ | with_reducible refine w_dB ?_ | with_reducible refine w_tNo ?_ | with_reducible refine w_tAn ?_ | with_reducible refine w_tOr ?_ | with_reducible refine w_tY ?_ | with_reducible refine w_eAn ?_ | with_reducible refine w_eOr ?_ | with_reducible refine w_eIf ?_ | with_reducible refine w_addI ?_ | with_reducible refine w_sub ?_ | with_reducible refine w_neg ?_ | with_reducible refine w_not ?_ | with_reducible refine w_cmp ?_ | with_reducible refine w_ltI ?_ | with_reducible refine w_nSl ?_ | with_reducible refine w_cutL ?_ | with_reducible refine w_slL ?_ | with_reducible refine w_slR ?_ | with_reducible refine w_gL2 ?_ | with_reducible refine w_gL3 ?_ | with_reducible refine w_gL5 ?_ | with_reducible refine w_eqI ?_ | with_reducible refine w_eqS ?_ | with_reducible refine w_eqB ?_ | with_reducible refine w_neE ?_ | with_reducible refine w_eqE ?_ | with_reducible refine w_neI ?_ | with_reducible refine w_neS ?_ | with_reducible refine w_lenL ?_ | with_reducible refine w_lenT ?_ | with_reducible refine w_lenR ?_ | with_reducible refine w_intI ?_ | ((with_reducible apply w_intBt); (first | decide +kernel | exact rfl)) | ((with_reducible apply w_intBf); (first | decide +kernel | exact rfl)) | with_reducible refine w_intB ?_ | with_reducible refine w_tupleL ?_ | with_reducible refine w_tupleT ?_ | with_reducible refine w_listL ?_ | with_reducible refine w_listT ?_ | with_reducible refine w_max2P (fun r _ _ _ => ?_) | with_reducible refine w_min2P (fun r _ _ _ => ?_) | ((with_reducible apply w_isi); exact rfl) | with_reducible refine w_oN ?_ | with_reducible refine w_oS ?_ | with_reducible refine w_eSl ?_ | with_reducible refine w_sl1 ?_ | with_reducible refine w_sl2 ?_ | with_reducible refine w_sl3 ?_ | ((with_reducible apply w_ixT); exact rfl) | with_reducible refine w_mod (by decide) ?_ | with_reducible refine w_div (by decide) ?_ | with_reducible refine w_pow (by decide) ?_ | with_reducible refine w_own ?_ | with_reducible refine w_xsN ?_ | with_reducible refine w_xsC ?_ | with_reducible refine w_xA ?_ | with_reducible refine w_app ?_ | ((with_reducible refine sq_nx ?_); try simp only [esc_nil, esc_int, esc_str, esc_bl, esc_non, List.set_cons_zero, List.set_cons_succ, unown_nil, unown_noO, esc_noO, noO_nil, noO_cons, isOwn_val, isOwn_no, isOwn_own, isOwn_succ, Bool.not_false, Bool.and_self]) | with_reducible refine sq_ret ?_ | with_reducible refine rq_ret ?_ | with_reducible refine lq_ret ?_ | ((with_reducible refine lq_nx ?_); try simp only [esc_nil, esc_int, esc_str, esc_bl, esc_non, List.set_cons_zero, List.set_cons_succ, unown_nil, unown_noO, esc_noO, noO_nil, noO_cons, isOwn_val, isOwn_no, isOwn_own, isOwn_succ, Bool.not_false, Bool.and_self]) | ((with_reducible refine w_sFor ?_); try simp only [esc_nil, esc_int, esc_str, esc_bl, esc_non, List.set_cons_zero, List.set_cons_succ, unown_nil, unown_noO, esc_noO, noO_nil, noO_cons, isOwn_val, isOwn_no, isOwn_own, isOwn_succ, Bool.not_false, Bool.and_self]) | with_reducible refine w_iV ?_ | with_reducible refine w_iE ?_ | with_reducible refine w_itL ?_ | with_reducible refine w_itT ?_ | with_reducible refine w_itS ?_ | with_reducible refine w_lcG ?_ | with_reducible refine w_while0 ?_ | with_reducible refine w_mulI (mulOk_r (by decide)) ?_ | with_reducible refine w_mulI (mulOk_l (by decide)) ?_ | with_reducible refine ex_int ?_ | with_reducible refine ex_bl ?_ | with_reducible refine ex_lst ?_ | with_reducible refine an_int ?_ | with_reducible refine an_big0 ?_ | with_reducible refine an_bigl0 ?_ | with_reducible refine an_big1 ?_ | with_reducible refine an_bigl1 ?_ | with_reducible refine an_big2 ?_ | with_reducible refine an_bigl2 ?_ | with_reducible refine an_big3 ?_ | with_reducible refine an_bigl3 ?_ | with_reducible refine an_big4 ?_ | with_reducible refine an_bigl4 ?_ | with_reducible refine an_big5 ?_ | with_reducible refine an_bigl5 ?_ | with_reducible refine an_big6 ?_ | with_reducible refine an_bigl6 ?_ | with_reducible refine an_big7 ?_ | with_reducible refine an_bigl7 ?_ | with_reducible refine an_big8 ?_ | with_reducible refine an_bigl8 ?_ | with_reducible refine an_big (by decide) ?_ | with_reducible refine an_bigl (by decide) ?_ | with_reducible refine w_compN ?_ | with_reducible refine w_compC ?_ | with_reducible refine w_addT1 (by simp) ?_ | ((with_reducible apply an_own); exact rfl) | ((with_reducible apply ex_app); (first | exact rfl | (simp only [esc_nil, esc_int, esc_str, esc_bl, esc_non, List.set_cons_zero, List.set_cons_succ, unown_nil, unown_noO, esc_noO, noO_nil, noO_cons, isOwn_val, isOwn_no, isOwn_own, isOwn_succ, Bool.not_false, Bool.and_self]; exact rfl))) | ((with_reducible apply w_augI); exact rfl) | ((with_reducible apply w_augL); exact rfl) | ((with_reducible apply br_t); (first | decide +kernel | exact rfl)) | ((with_reducible apply br_f); (first | decide +kernel | exact rfl)) | with_reducible refine br_n ?_ | with_reducible refine br_d (fun _ => ?_) (fun _ => ?_) | with_reducible refine br_e (fun _ => ?_) (fun _ => ?_) | with_reducible refine br_s (fun _ => ?_) (fun _ => ?_) | with_reducible refine br_2 (fun _ => ?_) (fun _ => ?_)))
    refine w_addL (by rw [List.length_map, List.length_map]; omega) ?_
    rw [← List.map_append]
    have hl : (vs ++ ws).length ≤ 40 := by rw [List.length_append]; omega
    have hp : 0 < (vs ++ ws).length := by rw [List.length_append]; omega
    (repeat' (first | with_reducible refine word_ok hm _ (fun x => ?_) | with_reducible refine w_seq ?_ | with_reducible refine w_sIf ?_ | with_reducible refine w_nil ?_ | with_reducible refine w_ret ?_ | with_reducible refine w_sG ?_ | with_reducible refine w_xP ?_ | with_reducible refine w_gN ?_ | with_reducible refine w_gsN ?_ | with_reducible refine w_gsC ?_ | with_reducible refine w_gT2 ?_ | with_reducible refine w_gT3 ?_ | with_reducible refine w_gT (by rfl) ?_ | with_reducible refine w_c ?_ | ((with_reducible apply w_v); exact rfl) | ((with_reducible apply w_vo); exact rfl) | with_reducible refine w_e1 ?_ | with_reducible refine w_e2 ?_ | with_reducible refine w_esN ?_ | with_reducible refine w_esC ?_ | with_reducible refine w_eA ?_ | with_reducible refine w_nL ?_ | with_reducible refine w_eL ?_ | with_reducible refine w_lsG ?_ | with_reducible refine w_tup0 ?_ | with_reducible refine w_tup1 ?_ | with_reducible refine w_tup2 ?_ | with_reducible refine w_tup3 ?_ | with_reducible refine w_tup4 ?_ | with_reducible refine w_tup5 ?_ | with_reducible refine w_tup6 ?_ | with_reducible refine w_tup (by decide) ?_ | with_reducible refine w_tE ?_ | with_reducible refine w_dB ?_ | with_reducible refine w_tNo ?_ | with_reducible refine w_tAn ?_ | with_reducible refine w_tOr ?_ | with_reducible refine w_tY ?_ | with_reducible refine w_eAn ?_ | with_reducible refine w_eOr ?_ | with_reducible refine w_eIf ?_ | with_reducible refine w_addI ?_ | with_reducible refine w_sub ?_ | with_reducible refine w_neg ?_ | with_reducible refine w_not ?_ | with_reducible refine w_cmp ?_ | with_reducible refine w_ltI ?_ | with_reducible refine w_nSl ?_ | with_reducible refine w_cutL ?_ | with_reducible refine w_slL ?_ | with_reducible refine w_slR ?_ | with_reducible refine w_gL2 ?_ | with_reducible refine w_gL3 ?_ | with_reducible refine w_gL5 ?_ | with_reducible refine w_eqI ?_ | with_reducible refine w_eqS ?_ | with_reducible refine w_eqB ?_ | with_reducible refine w_neE ?_ | with_reducible refine w_eqE ?_ | with_reducible refine w_neI ?_ | with_reducible refine w_neS ?_ | with_reducible refine w_lenL ?_ | with_reducible refine w_lenT ?_ | with_reducible refine w_lenR ?_ | with_reducible refine w_intI ?_ | ((with_reducible apply w_intBt); (first | decide +kernel | exact rfl)) | ((with_reducible apply w_intBf); (first | decide +kernel | exact rfl)) | with_reducible refine w_intB ?_ | with_reducible refine w_tupleL ?_ | with_reducible refine w_tupleT ?_ | with_reducible refine w_listL ?_ | with_reducible refine w_listT ?_ | with_reducible refine w_max2P (fun r _ _ _ => ?_) | with_reducible refine w_min2P (fun r _ _ _ => ?_) | ((with_reducible apply w_isi); exact rfl) | with_reducible refine w_oN ?_ | with_reducible refine w_oS ?_ | with_reducible refine w_eSl ?_ | with_reducible refine w_sl1 ?_ | with_reducible refine w_sl2 ?_ | with_reducible refine w_sl3 ?_ | ((with_reducible apply w_ixT); exact rfl) | with_reducible refine w_mod (by decide) ?_ | with_reducible refine w_div (by decide) ?_ | with_reducible refine w_pow (by decide) ?_ | with_reducible refine w_own ?_ | with_reducible refine w_xsN ?_ | with_reducible refine w_xsC ?_ | with_reducible refine w_xA ?_ | with_reducible refine w_app ?_ | ((with_reducible refine sq_nx ?_); try simp only [esc_nil, esc_int, esc_str, esc_bl, esc_non, List.set_cons_zero, List.set_cons_succ, unown_nil, unown_noO, esc_noO, noO_nil, noO_cons, isOwn_val, isOwn_no, isOwn_own, isOwn_succ, Bool.not_false, Bool.and_self]) | with_reducible refine sq_ret ?_ | with_reducible refine rq_ret ?_ | with_reducible refine lq_ret ?_ | ((with_reducible refine lq_nx ?_); try simp only [esc_nil, esc_int, esc_str, esc_bl, esc_non, List.set_cons_zero, List.set_cons_succ, unown_nil, unown_noO, esc_noO, noO_nil, noO_cons, isOwn_val, isOwn_no, isOwn_own, isOwn_succ, Bool.not_false, Bool.and_self]) | ((with_reducible refine w_sFor ?_); try simp only [esc_nil, esc_int, esc_str, esc_bl, esc_non, List.set_cons_zero, List.set_cons_succ, unown_nil, unown_noO, esc_noO, noO_nil, noO_cons, isOwn_val, isOwn_no, isOwn_own, isOwn_succ, Bool.not_false, Bool.and_self]) | with_reducible refine w_iV ?_ | with_reducible refine w_iE ?_ | with_reducible refine w_itL ?_ | with_reducible refine w_itT ?_ | with_reducible refine w_itS ?_ | with_reducible refine w_lcG ?_ | with_reducible refine w_while0 ?_ | with_reducible refine w_mulI (mulOk_r (by decide)) ?_ | with_reducible refine w_mulI (mulOk_l (by decide)) ?_ | with_reducible refine ex_int ?_ | with_reducible refine ex_bl ?_ | with_reducible refine ex_lst ?_ | with_reducible refine an_int ?_ | with_reducible refine an_big0 ?_ | with_reducible refine an_bigl0 ?_ | with_reducible refine an_big1 ?_ | with_reducible refine an_bigl1 ?_ | with_reducible refine an_big2 ?_ | with_reducible refine an_bigl2 ?_ | with_reducible refine an_big3 ?_ | with_reducible refine an_bigl3 ?_ | with_reducible refine an_big4 ?_ | with_reducible refine an_bigl4 ?_ | with_reducible refine an_big5 ?_ | with_reducible refine an_bigl5 ?_ | with_reducible refine an_big6 ?_ | with_reducible refine an_bigl6 ?_ | with_reducible refine an_big7 ?_ | with_reducible refine an_bigl7 ?_ | with_reducible refine an_big8 ?_ | with_reducible refine an_bigl8 ?_ | with_reducible refine an_big (by decide) ?_ | with_reducible refine an_bigl (by decide) ?_ | with_reducible refine w_compN ?_ | with_reducible refine w_compC ?_ | with_reducible refine w_addT1 (by simp) ?_ | ((with_reducible apply an_own); exact rfl) | ((with_reducible apply ex_app); (first | exact rfl | (simp only [esc_nil, esc_int, esc_str, esc_bl, esc_non, List.set_cons_zero, List.set_cons_succ, unown_nil, unown_noO, esc_noO, noO_nil, noO_cons, isOwn_val, isOwn_no, isOwn_own, isOwn_succ, Bool.not_false, Bool.and_self]; exact rfl))) | ((with_reducible apply w_augI); exact rfl) | ((with_reducible apply w_augL); exact rfl) | ((with_reducible apply br_t); (first | decide +kernel | exact rfl)) | ((with_reducible apply br_f); (first | decide +kernel | exact rfl)) | with_reducible refine br_n ?_ | with_reducible refine br_d (fun _ => ?_) (fun _ => ?_) | with_reducible refine br_e (fun _ => ?_) (fun _ => ?_) | with_reducible refine br_s (fun _ => ?_) (fun _ => ?_) | with_reducible refine br_2 (fun _ => ?_) (fun _ => ?_)))
    refine ⟨Nat.lt_of_le_of_lt cutG_len (by show 3 < 16777216; omega), w_compY (R := fun _ y => ∃ x : Str, y = .str x) (fun d hd => ?_) (fun ys hy => ?_)⟩
    · have hd := cutG_mem hd
      simp only [List.mem_cons, List.not_mem_nil, or_false] at hd
      obtain ⟨z, rfl⟩ : ∃ z : Int, d = .int z := by rcases hd with rfl | rfl | rfl <;> exact ⟨_, rfl⟩
      (repeat' (first | with_reducible refine w_modP (by rw [List.length_map]; omega) (fun r _ h9 _ => ?_) | with_reducible refine w_seq ?_ | with_reducible refine w_sIf ?_ | with_reducible refine w_nil ?_ | with_reducible refine w_ret ?_ | with_reducible refine w_sG ?_ | with_reducible refine w_xP ?_ | with_reducible refine w_gN ?_ | with_reducible refine w_gsN ?_ | with_reducible refine w_gsC ?_ | with_reducible refine w_gT2 ?_ | with_reducible refine w_gT3 ?_ | with_reducible refine w_gT (by rfl) ?_ | with_reducible refine w_c ?_ | ((with_reducible apply w_v); exact rfl) | ((with_reducible apply w_vo); exact rfl) | with_reducible refine w_e1 ?_ | with_reducible refine w_e2 ?_ | with_reducible refine w_esN ?_ | with_reducible refine w_esC ?_ | with_reducible refine w_eA ?_ | with_reducible refine w_nL ?_ | with_reducible refine w_eL ?_ | with_reducible refine w_lsG ?_ | with_reducible refine w_tup0 ?_ | with_reducible refine w_tup1 ?_ | with_reducible refine w_tup2 ?_ | with_reducible refine w_tup3 ?_ | with_reducible refine w_tup4 ?_ | with_reducible refine w_tup5 ?_ | with_reducible refine w_tup6 ?_ | with_reducible refine w_tup (by decide) ?_ | with_reducible refine w_tE ?_ | with_reducible refine w_dB ?_ | with_reducible refine w_tNo ?_ | with_reducible refine w_tAn ?_ | with_reducible refine w_tOr ?_ | with_reducible refine w_tY ?_ | with_reducible refine w_eAn ?_ | with_reducible refine w_eOr ?_ | with_reducible refine w_eIf ?_ | with_reducible refine w_addI ?_ | with_reducible refine w_sub ?_ | with_reducible refine w_neg ?_ | with_reducible refine w_not ?_ | with_reducible refine w_cmp ?_ | with_reducible refine w_ltI ?_ | with_reducible refine w_nSl ?_ | with_reducible refine w_cutL ?_ | with_reducible refine w_slL ?_ | with_reducible refine w_slR ?_ | with_reducible refine w_gL2 ?_ | with_reducible refine w_gL3 ?_ | with_reducible refine w_gL5 ?_ | with_reducible refine w_eqI ?_ | with_reducible refine w_eqS ?_ | with_reducible refine w_eqB ?_ | with_reducible refine w_neE ?_ | with_reducible refine w_eqE ?_ | with_reducible refine w_neI ?_ | with_reducible refine w_neS ?_ | with_reducible refine w_lenL ?_ | with_reducible refine w_lenT ?_ | with_reducible refine w_lenR ?_ | with_reducible refine w_intI ?_ | ((with_reducible apply w_intBt); (first | decide +kernel | exact rfl)) | ((with_reducible apply w_intBf); (first | decide +kernel | exact rfl)) | with_reducible refine w_intB ?_ | with_reducible refine w_tupleL ?_ | with_reducible refine w_tupleT ?_ | with_reducible refine w_listL ?_ | with_reducible refine w_listT ?_ | with_reducible refine w_max2P (fun r _ _ _ => ?_) | with_reducible refine w_min2P (fun r _ _ _ => ?_) | ((with_reducible apply w_isi); exact rfl) | with_reducible refine w_oN ?_ | with_reducible refine w_oS ?_ | with_reducible refine w_eSl ?_ | with_reducible refine w_sl1 ?_ | with_reducible refine w_sl2 ?_ | with_reducible refine w_sl3 ?_ | ((with_reducible apply w_ixT); exact rfl) | with_reducible refine w_mod (by decide) ?_ | with_reducible refine w_div (by decide) ?_ | with_reducible refine w_pow (by decide) ?_ | with_reducible refine w_own ?_ | with_reducible refine w_xsN ?_ | with_reducible refine w_xsC ?_ | with_reducible refine w_xA ?_ | with_reducible refine w_app ?_ | ((with_reducible refine sq_nx ?_); try simp only [esc_nil, esc_int, esc_str, esc_bl, esc_non, List.set_cons_zero, List.set_cons_succ, unown_nil, unown_noO, esc_noO, noO_nil, noO_cons, isOwn_val, isOwn_no, isOwn_own, isOwn_succ, Bool.not_false, Bool.and_self]) | with_reducible refine sq_ret ?_ | with_reducible refine rq_ret ?_ | with_reducible refine lq_ret ?_ | ((with_reducible refine lq_nx ?_); try simp only [esc_nil, esc_int, esc_str, esc_bl, esc_non, List.set_cons_zero, List.set_cons_succ, unown_nil, unown_noO, esc_noO, noO_nil, noO_cons, isOwn_val, isOwn_no, isOwn_own, isOwn_succ, Bool.not_false, Bool.and_self]) | ((with_reducible refine w_sFor ?_); try simp only [esc_nil, esc_int, esc_str, esc_bl, esc_non, List.set_cons_zero, List.set_cons_succ, unown_nil, unown_noO, esc_noO, noO_nil, noO_cons, isOwn_val, isOwn_no, isOwn_own, isOwn_succ, Bool.not_false, Bool.and_self]) | with_reducible refine w_iV ?_ | with_reducible refine w_iE ?_ | with_reducible refine w_itL ?_ | with_reducible refine w_itT ?_ | with_reducible refine w_itS ?_ | with_reducible refine w_lcG ?_ | with_reducible refine w_while0 ?_ | with_reducible refine w_mulI (mulOk_r (by decide)) ?_ | with_reducible refine w_mulI (mulOk_l (by decide)) ?_ | with_reducible refine ex_int ?_ | with_reducible refine ex_bl ?_ | with_reducible refine ex_lst ?_ | with_reducible refine an_int ?_ | with_reducible refine an_big0 ?_ | with_reducible refine an_bigl0 ?_ | with_reducible refine an_big1 ?_ | with_reducible refine an_bigl1 ?_ | with_reducible refine an_big2 ?_ | with_reducible refine an_bigl2 ?_ | with_reducible refine an_big3 ?_ | with_reducible refine an_bigl3 ?_ | with_reducible refine an_big4 ?_ | with_reducible refine an_bigl4 ?_ | with_reducible refine an_big5 ?_ | with_reducible refine an_bigl5 ?_ | with_reducible refine an_big6 ?_ | with_reducible refine an_bigl6 ?_ | with_reducible refine an_big7 ?_ | with_reducible refine an_bigl7 ?_ | with_reducible refine an_big8 ?_ | with_reducible refine an_bigl8 ?_ | with_reducible refine an_big (by decide) ?_ | with_reducible refine an_bigl (by decide) ?_ | with_reducible refine w_compN ?_ | with_reducible refine w_compC ?_ | with_reducible refine w_addT1 (by simp) ?_ | ((with_reducible apply an_own); exact rfl) | ((with_reducible apply ex_app); (first | exact rfl | (simp only [esc_nil, esc_int, esc_str, esc_bl, esc_non, List.set_cons_zero, List.set_cons_succ, unown_nil, unown_noO, esc_noO, noO_nil, noO_cons, isOwn_val, isOwn_no, isOwn_own, isOwn_succ, Bool.not_false, Bool.and_self]; exact rfl))) | ((with_reducible apply w_augI); exact rfl) | ((with_reducible apply w_augL); exact rfl) | ((with_reducible apply br_t); (first | decide +kernel | exact rfl)) | ((with_reducible apply br_f); (first | decide +kernel | exact rfl)) | with_reducible refine br_n ?_ | with_reducible refine br_d (fun _ => ?_) (fun _ => ?_) | with_reducible refine br_e (fun _ => ?_) (fun _ => ?_) | with_reducible refine br_s (fun _ => ?_) (fun _ => ?_) | with_reducible refine br_2 (fun _ => ?_) (fun _ => ?_)))
      refine w_ixM (by assumption) (by rw [List.length_map] at h9; exact h9) fun x _ => ⟨x, rfl⟩
    · obtain ⟨ts, rfl, ht⟩ := strs_of hy
      have h3 : ts.length ≤ 3 := by rw [ht]; exact cutG_len
      (repeat' (first | with_reducible refine ST.w_eAnd ?_ | with_reducible refine ST.w_eOr ?_ | with_reducible refine ST.w_eIf ?_ | with_reducible refine ST.w_eNot ?_ | with_reducible refine ST.w_eAll ?_ | with_reducible refine ST.w_eSome ?_ | with_reducible refine ST.w_eWord ?_ | with_reducible refine w_seq ?_ | with_reducible refine w_sIf ?_ | with_reducible refine w_nil ?_ | with_reducible refine w_ret ?_ | with_reducible refine w_sG ?_ | with_reducible refine w_xP ?_ | with_reducible refine w_gN ?_ | with_reducible refine w_gsN ?_ | with_reducible refine w_gsC ?_ | with_reducible refine w_gT2 ?_ | with_reducible refine w_gT3 ?_ | with_reducible refine w_gT (by rfl) ?_ | with_reducible refine w_c ?_ | ((with_reducible apply w_v); exact rfl) | ((with_reducible apply w_vo); exact rfl) | with_reducible refine w_e1 ?_ | with_reducible refine w_e2 ?_ | with_reducible refine w_esN ?_ | with_reducible refine w_esC ?_ | with_reducible refine w_eA ?_ | with_reducible refine w_nL ?_ | with_reducible refine w_eL ?_ | with_reducible refine w_lsG ?_ | with_reducible refine w_tup0 ?_ | with_reducible refine w_tup1 ?_ | with_reducible refine w_tup2 ?_ | with_reducible refine w_tup3 ?_ | with_reducible refine w_tup4 ?_ | with_reducible refine w_tup5 ?_ | with_reducible refine w_tup6 ?_ | with_reducible refine w_tup (by decide) ?_ | with_reducible refine w_tE ?_ | with_reducible refine w_dB ?_ | with_reducible refine w_tNo ?_ | with_reducible refine w_tAn ?_ | with_reducible refine w_tOr ?_ | with_reducible refine w_tY ?_ | with_reducible refine w_eAn ?_ | with_reducible refine w_eOr ?_ | with_reducible refine w_eIf ?_ | with_reducible refine w_addI ?_ | with_reducible refine w_sub ?_ | with_reducible refine w_neg ?_ | with_reducible refine w_not ?_ | with_reducible refine w_cmp ?_ | with_reducible refine w_ltI ?_ | with_reducible refine w_nSl ?_ | with_reducible refine w_cutL ?_ | with_reducible refine w_slL ?_ | with_reducible refine w_slR ?_ | with_reducible refine w_gL2 ?_ | with_reducible refine w_gL3 ?_ | with_reducible refine w_gL5 ?_ | with_reducible refine w_eqI ?_ | with_reducible refine w_eqS ?_ | with_reducible refine w_eqB ?_ | with_reducible refine w_neE ?_ | with_reducible refine w_eqE ?_ | with_reducible refine w_neI ?_ | with_reducible refine w_neS ?_ | with_reducible refine w_lenL ?_ | with_reducible refine w_lenT ?_ | with_reducible refine w_lenR ?_ | with_reducible refine w_intI ?_ | ((with_reducible apply w_intBt); (first | decide +kernel | exact rfl)) | ((with_reducible apply w_intBf); (first | decide +kernel | exact rfl)) | with_reducible refine w_intB ?_ | with_reducible refine w_tupleL ?_ | with_reducible refine w_tupleT ?_ | with_reducible refine w_listL ?_ | with_reducible refine w_listT ?_ | with_reducible refine w_max2P (fun r _ _ _ => ?_) | with_reducible refine w_min2P (fun r _ _ _ => ?_) | ((with_reducible apply w_isi); exact rfl) | with_reducible refine w_oN ?_ | with_reducible refine w_oS ?_ | with_reducible refine w_eSl ?_ | with_reducible refine w_sl1 ?_ | with_reducible refine w_sl2 ?_ | with_reducible refine w_sl3 ?_ | ((with_reducible apply w_ixT); exact rfl) | with_reducible refine w_mod (by decide) ?_ | with_reducible refine w_div (by decide) ?_ | with_reducible refine w_pow (by decide) ?_ | with_reducible refine w_own ?_ | with_reducible refine w_xsN ?_ | with_reducible refine w_xsC ?_ | with_reducible refine w_xA ?_ | with_reducible refine w_app ?_ | ((with_reducible refine sq_nx ?_); try simp only [esc_nil, esc_int, esc_str, esc_bl, esc_non, List.set_cons_zero, List.set_cons_succ, unown_nil, unown_noO, esc_noO, noO_nil, noO_cons, isOwn_val, isOwn_no, isOwn_own, isOwn_succ, Bool.not_false, Bool.and_self, esc_enc]) | with_reducible refine sq_ret ?_ | with_reducible refine rq_ret ?_ | with_reducible refine lq_ret ?_ | ((with_reducible refine lq_nx ?_); try simp only [esc_nil, esc_int, esc_str, esc_bl, esc_non, List.set_cons_zero, List.set_cons_succ, unown_nil, unown_noO, esc_noO, noO_nil, noO_cons, isOwn_val, isOwn_no, isOwn_own, isOwn_succ, Bool.not_false, Bool.and_self, esc_enc]) | ((with_reducible refine w_sFor ?_); try simp only [esc_nil, esc_int, esc_str, esc_bl, esc_non, List.set_cons_zero, List.set_cons_succ, unown_nil, unown_noO, esc_noO, noO_nil, noO_cons, isOwn_val, isOwn_no, isOwn_own, isOwn_succ, Bool.not_false, Bool.and_self, esc_enc]) | with_reducible refine w_iV ?_ | with_reducible refine w_iE ?_ | with_reducible refine w_itL ?_ | with_reducible refine w_itT ?_ | with_reducible refine w_itS ?_ | with_reducible refine w_lcG ?_ | with_reducible refine w_while0 ?_ | with_reducible refine w_mulI (mulOk_r (by decide)) ?_ | with_reducible refine w_mulI (mulOk_l (by decide)) ?_ | with_reducible refine ex_int ?_ | with_reducible refine ex_bl ?_ | with_reducible refine ex_lst ?_ | with_reducible refine an_int ?_ | with_reducible refine an_big0 ?_ | with_reducible refine an_bigl0 ?_ | with_reducible refine an_big1 ?_ | with_reducible refine an_bigl1 ?_ | with_reducible refine an_big2 ?_ | with_reducible refine an_bigl2 ?_ | with_reducible refine an_big3 ?_ | with_reducible refine an_bigl3 ?_ | with_reducible refine an_big4 ?_ | with_reducible refine an_bigl4 ?_ | with_reducible refine an_big5 ?_ | with_reducible refine an_bigl5 ?_ | with_reducible refine an_big6 ?_ | with_reducible refine an_bigl6 ?_ | with_reducible refine an_big7 ?_ | with_reducible refine an_bigl7 ?_ | with_reducible refine an_big8 ?_ | with_reducible refine an_bigl8 ?_ | with_reducible refine an_big (by decide) ?_ | with_reducible refine an_bigl (by decide) ?_ | with_reducible refine w_compN ?_ | with_reducible refine w_compC ?_ | with_reducible refine w_addT1 (by simp) ?_ | ((with_reducible apply an_own); exact rfl) | ((with_reducible apply ex_app); (first | exact rfl | (simp only [esc_nil, esc_int, esc_str, esc_bl, esc_non, List.set_cons_zero, List.set_cons_succ, unown_nil, unown_noO, esc_noO, noO_nil, noO_cons, isOwn_val, isOwn_no, isOwn_own, isOwn_succ, Bool.not_false, Bool.and_self, esc_enc]; exact rfl))) | ((with_reducible apply w_augI); exact rfl) | ((with_reducible apply w_augL); exact rfl) | ((with_reducible apply br_t); (first | decide +kernel | exact rfl)) | ((with_reducible apply br_f); (first | decide +kernel | exact rfl)) | with_reducible refine br_n ?_ | with_reducible refine br_d (fun _ => ?_) (fun _ => ?_) | with_reducible refine br_e (fun _ => ?_) (fun _ => ?_) | with_reducible refine br_s (fun _ => ?_) (fun _ => ?_) | with_reducible refine br_2 (fun _ => ?_) (fun _ => ?_)))
      exact q (.word x ts) rfl h3
set_option maxHeartbeats 4000000 in
theorem wide_ok : ∀ (deep : Nat) {n : Nat} (c : Int) (around : Nat) (vs : List Str), deep + 2 ≤ n → 0 < vs.length → vs.length ≤ 10 → around + deep ≤ 20 → ∀ {Q : D → Prop}, (∀ A, dep A ≤ deep → short A → Q (enc A)) → Wp (fnL 4 (Phi n j__law_wide) [.int c, .int deep, .int around, .lst (vs.map .str)]) Q := by
  intro deep
  induction deep with
  | zero =>
    intro n c around vs hn h1 h2 h3 Q q
    obtain ⟨m, rfl⟩ : ∃ m, n = m + 1 := ⟨n - 1, by omega⟩
    apply R__law_wide
    unfold B__law_wide
    have wp := fun c0 c1 c4 r {Q' : Out → Prop} => wpart_ok (m := m) (by omega) c0 c1 c4 r around vs (by omega) h1 h2 (Q := Q')
    (repeat' (first | with_reducible refine w_seq ?_ | with_reducible refine w_sIf ?_ | with_reducible refine w_nil ?_ | with_reducible refine w_ret ?_ | with_reducible refine w_sG ?_ | with_reducible refine w_xP ?_ | with_reducible refine w_gN ?_ | with_reducible refine w_gsN ?_ | with_reducible refine w_gsC ?_ | with_reducible refine w_gT2 ?_ | with_reducible refine w_gT3 ?_ | with_reducible refine w_gT (by rfl) ?_ | with_reducible refine w_c ?_ | ((with_reducible apply w_v); exact rfl) | ((with_reducible apply w_vo); exact rfl) | with_reducible refine w_e1 ?_ | with_reducible refine w_e2 ?_ | with_reducible refine w_esN ?_ | with_reducible refine w_esC ?_ | with_reducible refine w_eA ?_ | with_reducible refine w_nL ?_ | with_reducible refine w_eL ?_ | with_reducible refine w_lsG ?_ | with_reducible refine w_tup0 ?_ | with_reducible refine w_tup1 ?_ | with_reducible refine w_tup2 ?_ | with_reducible refine w_tup3 ?_ | with_reducible refine w_tup4 ?_ | with_reducible refine w_tup5 ?_ | with_reducible refine w_tup6 ?_ | with_reducible refine w_tup (by decide) ?_ | with_reducible refine w_tE ?_ | with_reducible refine w_dB ?_ | with_reducible refine w_tNo ?_ | with_reducible refine w_tAn ?_ | with_reducible refine w_tOr ?_ | with_reducible refine w_tY ?_ | with_reducible refine w_eAn ?_ | with_reducible refine w_eOr ?_ | with_reducible refine w_eIf ?_ | with_reducible refine w_addI ?_ | with_reducible refine w_sub ?_ | with_reducible refine w_neg ?_ | with_reducible refine w_not ?_ | with_reducible refine w_cmp ?_ | with_reducible refine w_ltI ?_ | with_reducible refine w_nSl ?_ | with_reducible refine w_cutL ?_ | with_reducible refine w_slL ?_ | with_reducible refine w_slR ?_ | with_reducible refine w_gL2 ?_ | with_reducible refine w_gL3 ?_ | with_reducible refine w_gL5 ?_ | with_reducible refine w_eqI ?_ | with_reducible refine w_eqS ?_ | with_reducible refine w_eqB ?_ | with_reducible refine w_neE ?_ | with_reducible refine w_eqE ?_ | with_reducible refine w_neI ?_ | with_reducible refine w_neS ?_ | with_reducible refine w_lenL ?_ | with_reducible refine w_lenT ?_ | with_reducible refine w_lenR ?_ | with_reducible refine w_intI ?_ | ((with_reducible apply w_intBt); (first | decide +kernel | exact rfl)) | ((with_reducible apply w_intBf); (first | decide +kernel | exact rfl)) | with_reducible refine w_intB ?_ | with_reducible refine w_tupleL ?_ | with_reducible refine w_tupleT ?_ | with_reducible refine w_listL ?_ | with_reducible refine w_listT ?_ | with_reducible refine w_max2P (fun r _ _ _ => ?_) | with_reducible refine w_min2P (fun r _ _ _ => ?_) | ((with_reducible apply w_isi); exact rfl) | with_reducible refine w_oN ?_ | with_reducible refine w_oS ?_ | with_reducible refine w_eSl ?_ | with_reducible refine w_sl1 ?_ | with_reducible refine w_sl2 ?_ | with_reducible refine w_sl3 ?_ | ((with_reducible apply w_ixT); exact rfl) | with_reducible refine w_mod (by decide) ?_ | with_reducible refine w_div (by decide) ?_ | with_reducible refine w_pow (by decide) ?_ | with_reducible refine w_own ?_ | with_reducible refine w_xsN ?_ | with_reducible refine w_xsC ?_ | with_reducible refine w_xA ?_ | with_reducible refine w_app ?_ | ((with_reducible refine sq_nx ?_); try simp only [esc_nil, esc_int, esc_str, esc_bl, esc_non, List.set_cons_zero, List.set_cons_succ, unown_nil, unown_noO, esc_noO, noO_nil, noO_cons, isOwn_val, isOwn_no, isOwn_own, isOwn_succ, Bool.not_false, Bool.and_self]) | with_reducible refine sq_ret ?_ | with_reducible refine rq_ret ?_ | with_reducible refine lq_ret ?_ | ((with_reducible refine lq_nx ?_); try simp only [esc_nil, esc_int, esc_str, esc_bl, esc_non, List.set_cons_zero, List.set_cons_succ, unown_nil, unown_noO, esc_noO, noO_nil, noO_cons, isOwn_val, isOwn_no, isOwn_own, isOwn_succ, Bool.not_false, Bool.and_self]) | ((with_reducible refine w_sFor ?_); try simp only [esc_nil, esc_int, esc_str, esc_bl, esc_non, List.set_cons_zero, List.set_cons_succ, unown_nil, unown_noO, esc_noO, noO_nil, noO_cons, isOwn_val, isOwn_no, isOwn_own, isOwn_succ, Bool.not_false, Bool.and_self]) | with_reducible refine w_iV ?_ | with_reducible refine w_iE ?_ | with_reducible refine w_itL ?_ | with_reducible refine w_itT ?_ | with_reducible refine w_itS ?_ | with_reducible refine w_lcG ?_ | with_reducible refine w_while0 ?_ | with_reducible refine w_mulI (mulOk_r (by decide)) ?_ | with_reducible refine w_mulI (mulOk_l (by decide)) ?_ | with_reducible refine ex_int ?_ | with_reducible refine ex_bl ?_ | with_reducible refine ex_lst ?_ | with_reducible refine an_int ?_ | with_reducible refine an_big0 ?_ | with_reducible refine an_bigl0 ?_ | with_reducible refine an_big1 ?_ | with_reducible refine an_bigl1 ?_ | with_reducible refine an_big2 ?_ | with_reducible refine an_bigl2 ?_ | with_reducible refine an_big3 ?_ | with_reducible refine an_bigl3 ?_ | with_reducible refine an_big4 ?_ | with_reducible refine an_bigl4 ?_ | with_reducible refine an_big5 ?_ | with_reducible refine an_bigl5 ?_ | with_reducible refine an_big6 ?_ | with_reducible refine an_bigl6 ?_ | with_reducible refine an_big7 ?_ | with_reducible refine an_bigl7 ?_ | with_reducible refine an_big8 ?_ | with_reducible refine an_bigl8 ?_ | with_reducible refine an_big (by decide) ?_ | with_reducible refine an_bigl (by decide) ?_ | with_reducible refine w_compN ?_ | with_reducible refine w_compC ?_ | with_reducible refine w_addT1 (by simp) ?_ | ((with_reducible apply an_own); exact rfl) | ((with_reducible apply ex_app); (first | exact rfl | (simp only [esc_nil, esc_int, esc_str, esc_bl, esc_non, List.set_cons_zero, List.set_cons_succ, unown_nil, unown_noO, esc_noO, noO_nil, noO_cons, isOwn_val, isOwn_no, isOwn_own, isOwn_succ, Bool.not_false, Bool.and_self]; exact rfl))) | ((with_reducible apply w_augI); exact rfl) | ((with_reducible apply w_augL); exact rfl) | ((with_reducible apply br_t); (first | decide +kernel | exact rfl)) | ((with_reducible apply br_f); (first | decide +kernel | exact rfl)) | with_reducible refine br_n ?_ | with_reducible refine br_d (fun _ => ?_) (fun _ => ?_) | with_reducible refine br_e (fun _ => ?_) (fun _ => ?_) | with_reducible refine br_s (fun _ => ?_) (fun _ => ?_) | with_reducible refine br_2 (fun _ => ?_) (fun _ => ?_)))
    refine w_ixL' (by omega) (by show _ < (10 : Int); omega) fun d hd => ?_
    simp only [List.mem_cons, List.not_mem_nil, or_false] at hd
    rcases hd with rfl | rfl | rfl | rfl | rfl | rfl | rfl | rfl | rfl | rfl
    all_goals ((repeat' (first | with_reducible refine wp _ _ _ _ (fun A hA1 hA2 => ?_) | with_reducible refine w_seq ?_ | with_reducible refine w_sIf ?_ | with_reducible refine w_nil ?_ | with_reducible refine w_ret ?_ | with_reducible refine w_sG ?_ | with_reducible refine w_xP ?_ | with_reducible refine w_gN ?_ | with_reducible refine w_gsN ?_ | with_reducible refine w_gsC ?_ | with_reducible refine w_gT2 ?_ | with_reducible refine w_gT3 ?_ | with_reducible refine w_gT (by rfl) ?_ | with_reducible refine w_c ?_ | ((with_reducible apply w_v); exact rfl) | ((with_reducible apply w_vo); exact rfl) | with_reducible refine w_e1 ?_ | with_reducible refine w_e2 ?_ | with_reducible refine w_esN ?_ | with_reducible refine w_esC ?_ | with_reducible refine w_eA ?_ | with_reducible refine w_nL ?_ | with_reducible refine w_eL ?_ | with_reducible refine w_lsG ?_ | with_reducible refine w_tup0 ?_ | with_reducible refine w_tup1 ?_ | with_reducible refine w_tup2 ?_ | with_reducible refine w_tup3 ?_ | with_reducible refine w_tup4 ?_ | with_reducible refine w_tup5 ?_ | with_reducible refine w_tup6 ?_ | with_reducible refine w_tup (by decide) ?_ | with_reducible refine w_tE ?_ | with_reducible refine w_dB ?_ | with_reducible refine w_tNo ?_ | with_reducible refine w_tAn ?_ | with_reducible refine w_tOr ?_ | with_reducible refine w_tY ?_ | with_reducible refine w_eAn ?_ | with_reducible refine w_eOr ?_ | with_reducible refine w_eIf ?_ | with_reducible refine w_addI ?_ | with_reducible refine w_sub ?_ | with_reducible refine w_neg ?_ | with_reducible refine w_not ?_ | with_reducible refine w_cmp ?_ | with_reducible refine w_ltI ?_ | with_reducible refine w_nSl ?_ | with_reducible refine w_cutL ?_ | with_reducible refine w_slL ?_ | with_reducible refine w_slR ?_ | with_reducible refine w_gL2 ?_ | with_reducible refine w_gL3 ?_ | with_reducible refine w_gL5 ?_ | with_reducible refine w_eqI ?_ | with_reducible refine w_eqS ?_ | with_reducible refine w_eqB ?_ | with_reducible refine w_neE ?_ | with_reducible refine w_eqE ?_ | with_reducible refine w_neI ?_ | with_reducible refine w_neS ?_ | with_reducible refine w_lenL ?_ | with_reducible refine w_lenT ?_ | with_reducible refine w_lenR ?_ | with_reducible refine w_intI ?_ | ((with_reducible apply w_intBt); (first | decide +kernel | exact rfl)) | ((with_reducible apply w_intBf); (first | decide +kernel | exact rfl)) | with_reducible refine w_intB ?_ | with_reducible refine w_tupleL ?_ | with_reducible refine w_tupleT ?_ | with_reducible refine w_listL ?_ | with_reducible refine w_listT ?_ | with_reducible refine w_max2P (fun r _ _ _ => ?_) | with_reducible refine w_min2P (fun r _ _ _ => ?_) | ((with_reducible apply w_isi); exact rfl) | with_reducible refine w_oN ?_ | with_reducible refine w_oS ?_ | with_reducible refine w_eSl ?_ | with_reducible refine w_sl1 ?_ | with_reducible refine w_sl2 ?_ | with_reducible refine w_sl3 ?_ | ((with_reducible apply w_ixT); exact rfl) | with_reducible refine w_mod (by decide) ?_ | with_reducible refine w_div (by decide) ?_ | with_reducible refine w_pow (by decide) ?_ | with_reducible refine w_own ?_ | with_reducible refine w_xsN ?_ | with_reducible refine w_xsC ?_ | with_reducible refine w_xA ?_ | with_reducible refine w_app ?_ | ((with_reducible refine sq_nx ?_); try simp only [esc_nil, esc_int, esc_str, esc_bl, esc_non, List.set_cons_zero, List.set_cons_succ, unown_nil, unown_noO, esc_noO, noO_nil, noO_cons, isOwn_val, isOwn_no, isOwn_own, isOwn_succ, Bool.not_false, Bool.and_self]) | with_reducible refine sq_ret ?_ | with_reducible refine rq_ret ?_ | with_reducible refine lq_ret ?_ | ((with_reducible refine lq_nx ?_); try simp only [esc_nil, esc_int, esc_str, esc_bl, esc_non, List.set_cons_zero, List.set_cons_succ, unown_nil, unown_noO, esc_noO, noO_nil, noO_cons, isOwn_val, isOwn_no, isOwn_own, isOwn_succ, Bool.not_false, Bool.and_self]) | ((with_reducible refine w_sFor ?_); try simp only [esc_nil, esc_int, esc_str, esc_bl, esc_non, List.set_cons_zero, List.set_cons_succ, unown_nil, unown_noO, esc_noO, noO_nil, noO_cons, isOwn_val, isOwn_no, isOwn_own, isOwn_succ, Bool.not_false, Bool.and_self]) | with_reducible refine w_iV ?_ | with_reducible refine w_iE ?_ | with_reducible refine w_itL ?_ | with_reducible refine w_itT ?_ | with_reducible refine w_itS ?_ | with_reducible refine w_lcG ?_ | with_reducible refine w_while0 ?_ | with_reducible refine w_mulI (mulOk_r (by decide)) ?_ | with_reducible refine w_mulI (mulOk_l (by decide)) ?_ | with_reducible refine ex_int ?_ | with_reducible refine ex_bl ?_ | with_reducible refine ex_lst ?_ | with_reducible refine an_int ?_ | with_reducible refine an_big0 ?_ | with_reducible refine an_bigl0 ?_ | with_reducible refine an_big1 ?_ | with_reducible refine an_bigl1 ?_ | with_reducible refine an_big2 ?_ | with_reducible refine an_bigl2 ?_ | with_reducible refine an_big3 ?_ | with_reducible refine an_bigl3 ?_ | with_reducible refine an_big4 ?_ | with_reducible refine an_bigl4 ?_ | with_reducible refine an_big5 ?_ | with_reducible refine an_bigl5 ?_ | with_reducible refine an_big6 ?_ | with_reducible refine an_bigl6 ?_ | with_reducible refine an_big7 ?_ | with_reducible refine an_bigl7 ?_ | with_reducible refine an_big8 ?_ | with_reducible refine an_bigl8 ?_ | with_reducible refine an_big (by decide) ?_ | with_reducible refine an_bigl (by decide) ?_ | with_reducible refine w_compN ?_ | with_reducible refine w_compC ?_ | with_reducible refine w_addT1 (by simp) ?_ | ((with_reducible apply an_own); exact rfl) | ((with_reducible apply ex_app); (first | exact rfl | (simp only [esc_nil, esc_int, esc_str, esc_bl, esc_non, List.set_cons_zero, List.set_cons_succ, unown_nil, unown_noO, esc_noO, noO_nil, noO_cons, isOwn_val, isOwn_no, isOwn_own, isOwn_succ, Bool.not_false, Bool.and_self]; exact rfl))) | ((with_reducible apply w_augI); exact rfl) | ((with_reducible apply w_augL); exact rfl) | ((with_reducible apply br_t); (first | decide +kernel | exact rfl)) | ((with_reducible apply br_f); (first | decide +kernel | exact rfl)) | with_reducible refine br_n ?_ | with_reducible refine br_d (fun _ => ?_) (fun _ => ?_) | with_reducible refine br_e (fun _ => ?_) (fun _ => ?_) | with_reducible refine br_s (fun _ => ?_) (fun _ => ?_) | with_reducible refine br_2 (fun _ => ?_) (fun _ => ?_))))
    all_goals first
      | exact q A (by omega) hA2
      | exact q (.yn true) (Nat.le_refl _) trivial
      | exact q (.yn false) (Nat.le_refl _) trivial
  | succ deep ih =>
    intro n c around vs hn h1 h2 h3 Q q
    obtain ⟨m, rfl⟩ : ∃ m, n = m + 1 := ⟨n - 1, by omega⟩
    apply R__law_wide
    unfold B__law_wide
    have wp := fun c0 c1 c4 r {Q' : Out → Prop} => wpart_ok (m := m) (by omega) c0 c1 c4 r around vs (by omega) h1 h2 (Q := Q')
    have ih0 := fun (c d : Int) (hd : d = (deep : Int)) {Q : D → Prop} (q : ∀ A, dep A ≤ deep → short A → Q (enc A)) => show Wp (fnL 4 (Phi m j__law_wide) [.int c, .int d, .int around, .lst (vs.map .str)]) Q by
      subst hd; exact ih (n := m) c around vs (by omega) h1 h2 (by omega) q
    have ih1 := fun (c d : Int) (hd : d = (deep : Int)) {Q : D → Prop} (q : ∀ A, dep A ≤ deep → short A → Q (enc A)) => show Wp (fnL 4 (Phi m j__law_wide) [.int c, .int d, .int ((around : Int) + 1), .lst (vs.map .str)]) Q by
      subst hd; exact ih (n := m) c (around + 1) vs (by omega) h1 h2 (by omega) q
    (repeat' (first | with_reducible refine w_seq ?_ | with_reducible refine w_sIf ?_ | with_reducible refine w_nil ?_ | with_reducible refine w_ret ?_ | with_reducible refine w_sG ?_ | with_reducible refine w_xP ?_ | with_reducible refine w_gN ?_ | with_reducible refine w_gsN ?_ | with_reducible refine w_gsC ?_ | with_reducible refine w_gT2 ?_ | with_reducible refine w_gT3 ?_ | with_reducible refine w_gT (by rfl) ?_ | with_reducible refine w_c ?_ | ((with_reducible apply w_v); exact rfl) | ((with_reducible apply w_vo); exact rfl) | with_reducible refine w_e1 ?_ | with_reducible refine w_e2 ?_ | with_reducible refine w_esN ?_ | with_reducible refine w_esC ?_ | with_reducible refine w_eA ?_ | with_reducible refine w_nL ?_ | with_reducible refine w_eL ?_ | with_reducible refine w_lsG ?_ | with_reducible refine w_tup0 ?_ | with_reducible refine w_tup1 ?_ | with_reducible refine w_tup2 ?_ | with_reducible refine w_tup3 ?_ | with_reducible refine w_tup4 ?_ | with_reducible refine w_tup5 ?_ | with_reducible refine w_tup6 ?_ | with_reducible refine w_tup (by decide) ?_ | with_reducible refine w_tE ?_ | with_reducible refine w_dB ?_ | with_reducible refine w_tNo ?_ | with_reducible refine w_tAn ?_ | with_reducible refine w_tOr ?_ | with_reducible refine w_tY ?_ | with_reducible refine w_eAn ?_ | with_reducible refine w_eOr ?_ | with_reducible refine w_eIf ?_ | with_reducible refine w_addI ?_ | with_reducible refine w_sub ?_ | with_reducible refine w_neg ?_ | with_reducible refine w_not ?_ | with_reducible refine w_cmp ?_ | with_reducible refine w_ltI ?_ | with_reducible refine w_nSl ?_ | with_reducible refine w_cutL ?_ | with_reducible refine w_slL ?_ | with_reducible refine w_slR ?_ | with_reducible refine w_gL2 ?_ | with_reducible refine w_gL3 ?_ | with_reducible refine w_gL5 ?_ | with_reducible refine w_eqI ?_ | with_reducible refine w_eqS ?_ | with_reducible refine w_eqB ?_ | with_reducible refine w_neE ?_ | with_reducible refine w_eqE ?_ | with_reducible refine w_neI ?_ | with_reducible refine w_neS ?_ | with_reducible refine w_lenL ?_ | with_reducible refine w_lenT ?_ | with_reducible refine w_lenR ?_ | with_reducible refine w_intI ?_ | ((with_reducible apply w_intBt); (first | decide +kernel | exact rfl)) | ((with_reducible apply w_intBf); (first | decide +kernel | exact rfl)) | with_reducible refine w_intB ?_ | with_reducible refine w_tupleL ?_ | with_reducible refine w_tupleT ?_ | with_reducible refine w_listL ?_ | with_reducible refine w_listT ?_ | with_reducible refine w_max2P (fun r _ _ _ => ?_) | with_reducible refine w_min2P (fun r _ _ _ => ?_) | ((with_reducible apply w_isi); exact rfl) | with_reducible refine w_oN ?_ | with_reducible refine w_oS ?_ | with_reducible refine w_eSl ?_ | with_reducible refine w_sl1 ?_ | with_reducible refine w_sl2 ?_ | with_reducible refine w_sl3 ?_ | ((with_reducible apply w_ixT); exact rfl) | with_reducible refine w_mod (by decide) ?_ | with_reducible refine w_div (by decide) ?_ | with_reducible refine w_pow (by decide) ?_ | with_reducible refine w_own ?_ | with_reducible refine w_xsN ?_ | with_reducible refine w_xsC ?_ | with_reducible refine w_xA ?_ | with_reducible refine w_app ?_ | ((with_reducible refine sq_nx ?_); try simp only [esc_nil, esc_int, esc_str, esc_bl, esc_non, List.set_cons_zero, List.set_cons_succ, unown_nil, unown_noO, esc_noO, noO_nil, noO_cons, isOwn_val, isOwn_no, isOwn_own, isOwn_succ, Bool.not_false, Bool.and_self]) | with_reducible refine sq_ret ?_ | with_reducible refine rq_ret ?_ | with_reducible refine lq_ret ?_ | ((with_reducible refine lq_nx ?_); try simp only [esc_nil, esc_int, esc_str, esc_bl, esc_non, List.set_cons_zero, List.set_cons_succ, unown_nil, unown_noO, esc_noO, noO_nil, noO_cons, isOwn_val, isOwn_no, isOwn_own, isOwn_succ, Bool.not_false, Bool.and_self]) | ((with_reducible refine w_sFor ?_); try simp only [esc_nil, esc_int, esc_str, esc_bl, esc_non, List.set_cons_zero, List.set_cons_succ, unown_nil, unown_noO, esc_noO, noO_nil, noO_cons, isOwn_val, isOwn_no, isOwn_own, isOwn_succ, Bool.not_false, Bool.and_self]) | with_reducible refine w_iV ?_ | with_reducible refine w_iE ?_ | with_reducible refine w_itL ?_ | with_reducible refine w_itT ?_ | with_reducible refine w_itS ?_ | with_reducible refine w_lcG ?_ | with_reducible refine w_while0 ?_ | with_reducible refine w_mulI (mulOk_r (by decide)) ?_ | with_reducible refine w_mulI (mulOk_l (by decide)) ?_ | with_reducible refine ex_int ?_ | with_reducible refine ex_bl ?_ | with_reducible refine ex_lst ?_ | with_reducible refine an_int ?_ | with_reducible refine an_big0 ?_ | with_reducible refine an_bigl0 ?_ | with_reducible refine an_big1 ?_ | with_reducible refine an_bigl1 ?_ | with_reducible refine an_big2 ?_ | with_reducible refine an_bigl2 ?_ | with_reducible refine an_big3 ?_ | with_reducible refine an_bigl3 ?_ | with_reducible refine an_big4 ?_ | with_reducible refine an_bigl4 ?_ | with_reducible refine an_big5 ?_ | with_reducible refine an_bigl5 ?_ | with_reducible refine an_big6 ?_ | with_reducible refine an_bigl6 ?_ | with_reducible refine an_big7 ?_ | with_reducible refine an_bigl7 ?_ | with_reducible refine an_big8 ?_ | with_reducible refine an_bigl8 ?_ | with_reducible refine an_big (by decide) ?_ | with_reducible refine an_bigl (by decide) ?_ | with_reducible refine w_compN ?_ | with_reducible refine w_compC ?_ | with_reducible refine w_addT1 (by simp) ?_ | ((with_reducible apply an_own); exact rfl) | ((with_reducible apply ex_app); (first | exact rfl | (simp only [esc_nil, esc_int, esc_str, esc_bl, esc_non, List.set_cons_zero, List.set_cons_succ, unown_nil, unown_noO, esc_noO, noO_nil, noO_cons, isOwn_val, isOwn_no, isOwn_own, isOwn_succ, Bool.not_false, Bool.and_self]; exact rfl))) | ((with_reducible apply w_augI); exact rfl) | ((with_reducible apply w_augL); exact rfl) | ((with_reducible apply br_t); (first | decide +kernel | exact rfl)) | ((with_reducible apply br_f); (first | decide +kernel | exact rfl)) | with_reducible refine br_n ?_ | with_reducible refine br_d (fun _ => ?_) (fun _ => ?_) | with_reducible refine br_e (fun _ => ?_) (fun _ => ?_) | with_reducible refine br_s (fun _ => ?_) (fun _ => ?_) | with_reducible refine br_2 (fun _ => ?_) (fun _ => ?_)))
    refine w_ixL' (by omega) (by show _ < (10 : Int); omega) fun d hd => ?_
    simp only [List.mem_cons, List.not_mem_nil, or_false] at hd
    rcases hd with rfl | rfl | rfl | rfl | rfl | rfl | rfl | rfl | rfl | rfl
    all_goals ((repeat' (first | with_reducible refine ST.w_eAnd ?_ | with_reducible refine ST.w_eOr ?_ | with_reducible refine ST.w_eIf ?_ | with_reducible refine ST.w_eNot ?_ | with_reducible refine ST.w_eAll ?_ | with_reducible refine ST.w_eSome ?_ | with_reducible refine ST.w_eWord ?_ | with_reducible refine wp _ _ _ _ (fun A hA1 hA2 => ?_) | with_reducible refine ih0 _ _ (by omega) (fun A hA1 hA2 => ?_) | with_reducible refine ih1 _ _ (by omega) (fun A hA1 hA2 => ?_) | with_reducible refine w_seq ?_ | with_reducible refine w_sIf ?_ | with_reducible refine w_nil ?_ | with_reducible refine w_ret ?_ | with_reducible refine w_sG ?_ | with_reducible refine w_xP ?_ | with_reducible refine w_gN ?_ | with_reducible refine w_gsN ?_ | with_reducible refine w_gsC ?_ | with_reducible refine w_gT2 ?_ | with_reducible refine w_gT3 ?_ | with_reducible refine w_gT (by rfl) ?_ | with_reducible refine w_c ?_ | ((with_reducible apply w_v); exact rfl) | ((with_reducible apply w_vo); exact rfl) | with_reducible refine w_e1 ?_ | with_reducible refine w_e2 ?_ | with_reducible refine w_esN ?_ | with_reducible refine w_esC ?_ | with_reducible refine w_eA ?_ | with_reducible refine w_nL ?_ | with_reducible refine w_eL ?_ | with_reducible refine w_lsG ?_ | with_reducible refine w_tup0 ?_ | with_reducible refine w_tup1 ?_ | with_reducible refine w_tup2 ?_ | with_reducible refine w_tup3 ?_ | with_reducible refine w_tup4 ?_ | with_reducible refine w_tup5 ?_ | with_reducible refine w_tup6 ?_ | with_reducible refine w_tup (by decide) ?_ | with_reducible refine w_tE ?_ | with_reducible refine w_dB ?_ | with_reducible refine w_tNo ?_ | with_reducible refine w_tAn ?_ | with_reducible refine w_tOr ?_ | with_reducible refine w_tY ?_ | with_reducible refine w_eAn ?_ | with_reducible refine w_eOr ?_ | with_reducible refine w_eIf ?_ | with_reducible refine w_addI ?_ | with_reducible refine w_sub ?_ | with_reducible refine w_neg ?_ | with_reducible refine w_not ?_ | with_reducible refine w_cmp ?_ | with_reducible refine w_ltI ?_ | with_reducible refine w_nSl ?_ | with_reducible refine w_cutL ?_ | with_reducible refine w_slL ?_ | with_reducible refine w_slR ?_ | with_reducible refine w_gL2 ?_ | with_reducible refine w_gL3 ?_ | with_reducible refine w_gL5 ?_ | with_reducible refine w_eqI ?_ | with_reducible refine w_eqS ?_ | with_reducible refine w_eqB ?_ | with_reducible refine w_neE ?_ | with_reducible refine w_eqE ?_ | with_reducible refine w_neI ?_ | with_reducible refine w_neS ?_ | with_reducible refine w_lenL ?_ | with_reducible refine w_lenT ?_ | with_reducible refine w_lenR ?_ | with_reducible refine w_intI ?_ | ((with_reducible apply w_intBt); (first | decide +kernel | exact rfl)) | ((with_reducible apply w_intBf); (first | decide +kernel | exact rfl)) | with_reducible refine w_intB ?_ | with_reducible refine w_tupleL ?_ | with_reducible refine w_tupleT ?_ | with_reducible refine w_listL ?_ | with_reducible refine w_listT ?_ | with_reducible refine w_max2P (fun r _ _ _ => ?_) | with_reducible refine w_min2P (fun r _ _ _ => ?_) | ((with_reducible apply w_isi); exact rfl) | with_reducible refine w_oN ?_ | with_reducible refine w_oS ?_ | with_reducible refine w_eSl ?_ | with_reducible refine w_sl1 ?_ | with_reducible refine w_sl2 ?_ | with_reducible refine w_sl3 ?_ | ((with_reducible apply w_ixT); exact rfl) | with_reducible refine w_mod (by decide) ?_ | with_reducible refine w_div (by decide) ?_ | with_reducible refine w_pow (by decide) ?_ | with_reducible refine w_own ?_ | with_reducible refine w_xsN ?_ | with_reducible refine w_xsC ?_ | with_reducible refine w_xA ?_ | with_reducible refine w_app ?_ | ((with_reducible refine sq_nx ?_); try simp only [esc_nil, esc_int, esc_str, esc_bl, esc_non, List.set_cons_zero, List.set_cons_succ, unown_nil, unown_noO, esc_noO, noO_nil, noO_cons, isOwn_val, isOwn_no, isOwn_own, isOwn_succ, Bool.not_false, Bool.and_self, esc_enc]) | with_reducible refine sq_ret ?_ | with_reducible refine rq_ret ?_ | with_reducible refine lq_ret ?_ | ((with_reducible refine lq_nx ?_); try simp only [esc_nil, esc_int, esc_str, esc_bl, esc_non, List.set_cons_zero, List.set_cons_succ, unown_nil, unown_noO, esc_noO, noO_nil, noO_cons, isOwn_val, isOwn_no, isOwn_own, isOwn_succ, Bool.not_false, Bool.and_self, esc_enc]) | ((with_reducible refine w_sFor ?_); try simp only [esc_nil, esc_int, esc_str, esc_bl, esc_non, List.set_cons_zero, List.set_cons_succ, unown_nil, unown_noO, esc_noO, noO_nil, noO_cons, isOwn_val, isOwn_no, isOwn_own, isOwn_succ, Bool.not_false, Bool.and_self, esc_enc]) | with_reducible refine w_iV ?_ | with_reducible refine w_iE ?_ | with_reducible refine w_itL ?_ | with_reducible refine w_itT ?_ | with_reducible refine w_itS ?_ | with_reducible refine w_lcG ?_ | with_reducible refine w_while0 ?_ | with_reducible refine w_mulI (mulOk_r (by decide)) ?_ | with_reducible refine w_mulI (mulOk_l (by decide)) ?_ | with_reducible refine ex_int ?_ | with_reducible refine ex_bl ?_ | with_reducible refine ex_lst ?_ | with_reducible refine an_int ?_ | with_reducible refine an_big0 ?_ | with_reducible refine an_bigl0 ?_ | with_reducible refine an_big1 ?_ | with_reducible refine an_bigl1 ?_ | with_reducible refine an_big2 ?_ | with_reducible refine an_bigl2 ?_ | with_reducible refine an_big3 ?_ | with_reducible refine an_bigl3 ?_ | with_reducible refine an_big4 ?_ | with_reducible refine an_bigl4 ?_ | with_reducible refine an_big5 ?_ | with_reducible refine an_bigl5 ?_ | with_reducible refine an_big6 ?_ | with_reducible refine an_bigl6 ?_ | with_reducible refine an_big7 ?_ | with_reducible refine an_bigl7 ?_ | with_reducible refine an_big8 ?_ | with_reducible refine an_bigl8 ?_ | with_reducible refine an_big (by decide) ?_ | with_reducible refine an_bigl (by decide) ?_ | with_reducible refine w_compN ?_ | with_reducible refine w_compC ?_ | with_reducible refine w_addT1 (by simp) ?_ | ((with_reducible apply an_own); exact rfl) | ((with_reducible apply ex_app); (first | exact rfl | (simp only [esc_nil, esc_int, esc_str, esc_bl, esc_non, List.set_cons_zero, List.set_cons_succ, unown_nil, unown_noO, esc_noO, noO_nil, noO_cons, isOwn_val, isOwn_no, isOwn_own, isOwn_succ, Bool.not_false, Bool.and_self, esc_enc]; exact rfl))) | ((with_reducible apply w_augI); exact rfl) | ((with_reducible apply w_augL); exact rfl) | ((with_reducible apply br_t); (first | decide +kernel | exact rfl)) | ((with_reducible apply br_f); (first | decide +kernel | exact rfl)) | with_reducible refine br_n ?_ | with_reducible refine br_d (fun _ => ?_) (fun _ => ?_) | with_reducible refine br_e (fun _ => ?_) (fun _ => ?_) | with_reducible refine br_s (fun _ => ?_) (fun _ => ?_) | with_reducible refine br_2 (fun _ => ?_) (fun _ => ?_))))
    all_goals first
      | exact absurd (by assumption : ((deep + 1 : Nat) : Int) = 0) (by omega)
      | exact q A (by omega) hA2
      | exact q (.yn true) (Nat.zero_le _) trivial
      | exact q (.yn false) (Nat.zero_le _) trivial
      | exact q (.un .nt A) (Nat.succ_le_succ hA1) hA2
      | exact q (.un .al A) (Nat.succ_le_succ hA1) hA2
      | exact q (.un .so A) (Nat.succ_le_succ hA1) hA2
      | exact q (.bin _ _ A) (by show max (dep _) (dep A) + 1 ≤ _; omega) ⟨by assumption, hA2⟩
end G

namespace G
open PySem L2 DL ST
theorem signs_ok : ∀ (A : Stm) {n : Nat}, dep A + 1 ≤ n → ∀ {Q : D → Prop}, Q (.int (sgn A)) → Wp (fnL 1 (Phi n j_signs) [enc A]) Q
  | .yn b, n, hn, Q, q => by
    obtain ⟨m, rfl⟩ : ∃ m, n = m + 1 := ⟨n - 1, by omega⟩
    apply R_signs
    unfold B_signs
    simp only [enc]
    cases b <;> simp only [ynm, if_true, if_false, Bool.false_eq_true] <;> (repeat' (first | with_reducible refine w_seq ?_ | with_reducible refine w_sIf ?_ | with_reducible refine w_nil ?_ | with_reducible refine w_ret ?_ | with_reducible refine w_sG ?_ | with_reducible refine w_xP ?_ | with_reducible refine w_gN ?_ | with_reducible refine w_gsN ?_ | with_reducible refine w_gsC ?_ | with_reducible refine w_gT2 ?_ | with_reducible refine w_gT3 ?_ | with_reducible refine w_gT (by rfl) ?_ | with_reducible refine w_c ?_ | ((with_reducible apply w_v); exact rfl) | ((with_reducible apply w_vo); exact rfl) | with_reducible refine w_e1 ?_ | with_reducible refine w_e2 ?_ | with_reducible refine w_esN ?_ | with_reducible refine w_esC ?_ | with_reducible refine w_eA ?_ | with_reducible refine w_nL ?_ | with_reducible refine w_eL ?_ | with_reducible refine w_lsG ?_ | with_reducible refine w_tup0 ?_ | with_reducible refine w_tup1 ?_ | with_reducible refine w_tup2 ?_ | with_reducible refine w_tup3 ?_ | with_reducible refine w_tup4 ?_ | with_reducible refine w_tup5 ?_ | with_reducible refine w_tup6 ?_ | with_reducible refine w_tup (by decide) ?_ | with_reducible refine w_tE ?_ | with_reducible refine w_dB ?_ | with_reducible refine w_tNo ?_ | with_reducible refine w_tAn ?_ | with_reducible refine w_tOr ?_ | with_reducible refine w_tY ?_ | with_reducible refine w_eAn ?_ | with_reducible refine w_eOr ?_ | with_reducible refine w_eIf ?_ | with_reducible refine w_addI ?_ | with_reducible refine w_sub ?_ | with_reducible refine w_neg ?_ | with_reducible refine w_not ?_ | with_reducible refine w_cmp ?_ | with_reducible refine w_ltI ?_ | with_reducible refine w_nSl ?_ | with_reducible refine w_cutL ?_ | with_reducible refine w_slL ?_ | with_reducible refine w_slR ?_ | with_reducible refine w_gL2 ?_ | with_reducible refine w_gL3 ?_ | with_reducible refine w_gL5 ?_ | with_reducible refine w_eqI ?_ | with_reducible refine w_eqS ?_ | with_reducible refine w_eqB ?_ | with_reducible refine w_neE ?_ | with_reducible refine w_eqE ?_ | with_reducible refine w_neI ?_ | with_reducible refine w_neS ?_ | with_reducible refine w_lenL ?_ | with_reducible refine w_lenT ?_ | with_reducible refine w_lenR ?_ | with_reducible refine w_intI ?_ | ((with_reducible apply w_intBt); (first | decide +kernel | exact rfl)) | ((with_reducible apply w_intBf); (first | decide +kernel | exact rfl)) | with_reducible refine w_intB ?_ | with_reducible refine w_tupleL ?_ | with_reducible refine w_tupleT ?_ | with_reducible refine w_listL ?_ | with_reducible refine w_listT ?_ | with_reducible refine w_max2P (fun r _ _ _ => ?_) | with_reducible refine w_min2P (fun r _ _ _ => ?_) | ((with_reducible apply w_isi); exact rfl) | with_reducible refine w_oN ?_ | with_reducible refine w_oS ?_ | with_reducible refine w_eSl ?_ | with_reducible refine w_sl1 ?_ | with_reducible refine w_sl2 ?_ | with_reducible refine w_sl3 ?_ | ((with_reducible apply w_ixT); exact rfl) | with_reducible refine w_mod (by decide) ?_ | with_reducible refine w_div (by decide) ?_ | with_reducible refine w_pow (by decide) ?_ | with_reducible refine w_own ?_ | with_reducible refine w_xsN ?_ | with_reducible refine w_xsC ?_ | with_reducible refine w_xA ?_ | with_reducible refine w_app ?_ | ((with_reducible refine sq_nx ?_); try simp only [esc_nil, esc_int, esc_str, esc_bl, esc_non, List.set_cons_zero, List.set_cons_succ, unown_nil, unown_noO, esc_noO, noO_nil, noO_cons, isOwn_val, isOwn_no, isOwn_own, isOwn_succ, Bool.not_false, Bool.and_self]) | with_reducible refine sq_ret ?_ | with_reducible refine rq_ret ?_ | with_reducible refine lq_ret ?_ | ((with_reducible refine lq_nx ?_); try simp only [esc_nil, esc_int, esc_str, esc_bl, esc_non, List.set_cons_zero, List.set_cons_succ, unown_nil, unown_noO, esc_noO, noO_nil, noO_cons, isOwn_val, isOwn_no, isOwn_own, isOwn_succ, Bool.not_false, Bool.and_self]) | ((with_reducible refine w_sFor ?_); try simp only [esc_nil, esc_int, esc_str, esc_bl, esc_non, List.set_cons_zero, List.set_cons_succ, unown_nil, unown_noO, esc_noO, noO_nil, noO_cons, isOwn_val, isOwn_no, isOwn_own, isOwn_succ, Bool.not_false, Bool.and_self]) | with_reducible refine w_iV ?_ | with_reducible refine w_iE ?_ | with_reducible refine w_itL ?_ | with_reducible refine w_itT ?_ | with_reducible refine w_itS ?_ | with_reducible refine w_lcG ?_ | with_reducible refine w_while0 ?_ | with_reducible refine w_mulI (mulOk_r (by decide)) ?_ | with_reducible refine w_mulI (mulOk_l (by decide)) ?_ | with_reducible refine ex_int ?_ | with_reducible refine ex_bl ?_ | with_reducible refine ex_lst ?_ | with_reducible refine an_int ?_ | with_reducible refine an_big0 ?_ | with_reducible refine an_bigl0 ?_ | with_reducible refine an_big1 ?_ | with_reducible refine an_bigl1 ?_ | with_reducible refine an_big2 ?_ | with_reducible refine an_bigl2 ?_ | with_reducible refine an_big3 ?_ | with_reducible refine an_bigl3 ?_ | with_reducible refine an_big4 ?_ | with_reducible refine an_bigl4 ?_ | with_reducible refine an_big5 ?_ | with_reducible refine an_bigl5 ?_ | with_reducible refine an_big6 ?_ | with_reducible refine an_bigl6 ?_ | with_reducible refine an_big7 ?_ | with_reducible refine an_bigl7 ?_ | with_reducible refine an_big8 ?_ | with_reducible refine an_bigl8 ?_ | with_reducible refine an_big (by decide) ?_ | with_reducible refine an_bigl (by decide) ?_ | with_reducible refine w_compN ?_ | with_reducible refine w_compC ?_ | with_reducible refine w_addT1 (by simp) ?_ | ((with_reducible apply an_own); exact rfl) | ((with_reducible apply ex_app); (first | exact rfl | (simp only [esc_nil, esc_int, esc_str, esc_bl, esc_non, List.set_cons_zero, List.set_cons_succ, unown_nil, unown_noO, esc_noO, noO_nil, noO_cons, isOwn_val, isOwn_no, isOwn_own, isOwn_succ, Bool.not_false, Bool.and_self]; exact rfl))) | ((with_reducible apply w_augI); exact rfl) | ((with_reducible apply w_augL); exact rfl) | ((with_reducible apply br_t); (first | decide +kernel | exact rfl)) | ((with_reducible apply br_f); (first | decide +kernel | exact rfl)) | with_reducible refine br_n ?_ | with_reducible refine br_d (fun _ => ?_) (fun _ => ?_) | with_reducible refine br_e (fun _ => ?_) (fun _ => ?_) | with_reducible refine br_s (fun _ => ?_) (fun _ => ?_) | with_reducible refine br_2 (fun _ => ?_) (fun _ => ?_)))
    all_goals exact q
  | .word w ts, n, hn, Q, q => by
    obtain ⟨m, rfl⟩ : ∃ m, n = m + 1 := ⟨n - 1, by omega⟩
    apply R_signs
    unfold B_signs
    simp only [enc]
    (repeat' (first | with_reducible refine w_seq ?_ | with_reducible refine w_sIf ?_ | with_reducible refine w_nil ?_ | with_reducible refine w_ret ?_ | with_reducible refine w_sG ?_ | with_reducible refine w_xP ?_ | with_reducible refine w_gN ?_ | with_reducible refine w_gsN ?_ | with_reducible refine w_gsC ?_ | with_reducible refine w_gT2 ?_ | with_reducible refine w_gT3 ?_ | with_reducible refine w_gT (by rfl) ?_ | with_reducible refine w_c ?_ | ((with_reducible apply w_v); exact rfl) | ((with_reducible apply w_vo); exact rfl) | with_reducible refine w_e1 ?_ | with_reducible refine w_e2 ?_ | with_reducible refine w_esN ?_ | with_reducible refine w_esC ?_ | with_reducible refine w_eA ?_ | with_reducible refine w_nL ?_ | with_reducible refine w_eL ?_ | with_reducible refine w_lsG ?_ | with_reducible refine w_tup0 ?_ | with_reducible refine w_tup1 ?_ | with_reducible refine w_tup2 ?_ | with_reducible refine w_tup3 ?_ | with_reducible refine w_tup4 ?_ | with_reducible refine w_tup5 ?_ | with_reducible refine w_tup6 ?_ | with_reducible refine w_tup (by decide) ?_ | with_reducible refine w_tE ?_ | with_reducible refine w_dB ?_ | with_reducible refine w_tNo ?_ | with_reducible refine w_tAn ?_ | with_reducible refine w_tOr ?_ | with_reducible refine w_tY ?_ | with_reducible refine w_eAn ?_ | with_reducible refine w_eOr ?_ | with_reducible refine w_eIf ?_ | with_reducible refine w_addI ?_ | with_reducible refine w_sub ?_ | with_reducible refine w_neg ?_ | with_reducible refine w_not ?_ | with_reducible refine w_cmp ?_ | with_reducible refine w_ltI ?_ | with_reducible refine w_nSl ?_ | with_reducible refine w_cutL ?_ | with_reducible refine w_slL ?_ | with_reducible refine w_slR ?_ | with_reducible refine w_gL2 ?_ | with_reducible refine w_gL3 ?_ | with_reducible refine w_gL5 ?_ | with_reducible refine w_eqI ?_ | with_reducible refine w_eqS ?_ | with_reducible refine w_eqB ?_ | with_reducible refine w_neE ?_ | with_reducible refine w_eqE ?_ | with_reducible refine w_neI ?_ | with_reducible refine w_neS ?_ | with_reducible refine w_lenL ?_ | with_reducible refine w_lenT ?_ | with_reducible refine w_lenR ?_ | with_reducible refine w_intI ?_ | ((with_reducible apply w_intBt); (first | decide +kernel | exact rfl)) | ((with_reducible apply w_intBf); (first | decide +kernel | exact rfl)) | with_reducible refine w_intB ?_ | with_reducible refine w_tupleL ?_ | with_reducible refine w_tupleT ?_ | with_reducible refine w_listL ?_ | with_reducible refine w_listT ?_ | with_reducible refine w_max2P (fun r _ _ _ => ?_) | with_reducible refine w_min2P (fun r _ _ _ => ?_) | ((with_reducible apply w_isi); exact rfl) | with_reducible refine w_oN ?_ | with_reducible refine w_oS ?_ | with_reducible refine w_eSl ?_ | with_reducible refine w_sl1 ?_ | with_reducible refine w_sl2 ?_ | with_reducible refine w_sl3 ?_ | ((with_reducible apply w_ixT); exact rfl) | with_reducible refine w_mod (by decide) ?_ | with_reducible refine w_div (by decide) ?_ | with_reducible refine w_pow (by decide) ?_ | with_reducible refine w_own ?_ | with_reducible refine w_xsN ?_ | with_reducible refine w_xsC ?_ | with_reducible refine w_xA ?_ | with_reducible refine w_app ?_ | ((with_reducible refine sq_nx ?_); try simp only [esc_nil, esc_int, esc_str, esc_bl, esc_non, List.set_cons_zero, List.set_cons_succ, unown_nil, unown_noO, esc_noO, noO_nil, noO_cons, isOwn_val, isOwn_no, isOwn_own, isOwn_succ, Bool.not_false, Bool.and_self]) | with_reducible refine sq_ret ?_ | with_reducible refine rq_ret ?_ | with_reducible refine lq_ret ?_ | ((with_reducible refine lq_nx ?_); try simp only [esc_nil, esc_int, esc_str, esc_bl, esc_non, List.set_cons_zero, List.set_cons_succ, unown_nil, unown_noO, esc_noO, noO_nil, noO_cons, isOwn_val, isOwn_no, isOwn_own, isOwn_succ, Bool.not_false, Bool.and_self]) | ((with_reducible refine w_sFor ?_); try simp only [esc_nil, esc_int, esc_str, esc_bl, esc_non, List.set_cons_zero, List.set_cons_succ, unown_nil, unown_noO, esc_noO, noO_nil, noO_cons, isOwn_val, isOwn_no, isOwn_own, isOwn_succ, Bool.not_false, Bool.and_self]) | with_reducible refine w_iV ?_ | with_reducible refine w_iE ?_ | with_reducible refine w_itL ?_ | with_reducible refine w_itT ?_ | with_reducible refine w_itS ?_ | with_reducible refine w_lcG ?_ | with_reducible refine w_while0 ?_ | with_reducible refine w_mulI (mulOk_r (by decide)) ?_ | with_reducible refine w_mulI (mulOk_l (by decide)) ?_ | with_reducible refine ex_int ?_ | with_reducible refine ex_bl ?_ | with_reducible refine ex_lst ?_ | with_reducible refine an_int ?_ | with_reducible refine an_big0 ?_ | with_reducible refine an_bigl0 ?_ | with_reducible refine an_big1 ?_ | with_reducible refine an_bigl1 ?_ | with_reducible refine an_big2 ?_ | with_reducible refine an_bigl2 ?_ | with_reducible refine an_big3 ?_ | with_reducible refine an_bigl3 ?_ | with_reducible refine an_big4 ?_ | with_reducible refine an_bigl4 ?_ | with_reducible refine an_big5 ?_ | with_reducible refine an_bigl5 ?_ | with_reducible refine an_big6 ?_ | with_reducible refine an_bigl6 ?_ | with_reducible refine an_big7 ?_ | with_reducible refine an_bigl7 ?_ | with_reducible refine an_big8 ?_ | with_reducible refine an_bigl8 ?_ | with_reducible refine an_big (by decide) ?_ | with_reducible refine an_bigl (by decide) ?_ | with_reducible refine w_compN ?_ | with_reducible refine w_compC ?_ | with_reducible refine w_addT1 (by simp) ?_ | ((with_reducible apply an_own); exact rfl) | ((with_reducible apply ex_app); (first | exact rfl | (simp only [esc_nil, esc_int, esc_str, esc_bl, esc_non, List.set_cons_zero, List.set_cons_succ, unown_nil, unown_noO, esc_noO, noO_nil, noO_cons, isOwn_val, isOwn_no, isOwn_own, isOwn_succ, Bool.not_false, Bool.and_self]; exact rfl))) | ((with_reducible apply w_augI); exact rfl) | ((with_reducible apply w_augL); exact rfl) | ((with_reducible apply br_t); (first | decide +kernel | exact rfl)) | ((with_reducible apply br_f); (first | decide +kernel | exact rfl)) | with_reducible refine br_n ?_ | with_reducible refine br_d (fun _ => ?_) (fun _ => ?_) | with_reducible refine br_e (fun _ => ?_) (fun _ => ?_) | with_reducible refine br_s (fun _ => ?_) (fun _ => ?_) | with_reducible refine br_2 (fun _ => ?_) (fun _ => ?_)))
    all_goals exact q
  | .un k a, n, hn, Q, q => by
    obtain ⟨m, rfl⟩ : ∃ m, n = m + 1 := ⟨n - 1, by omega⟩
    have hn : dep a + 1 + 1 ≤ m + 1 := hn
    apply R_signs
    unfold B_signs
    simp only [enc]
    have ih := fun {Q : D → Prop} (q : Q (.int (sgn a))) => signs_ok a (n := m) (by omega) q
    cases k <;> simp only [U.nm] <;> (repeat' (first | with_reducible refine ih ?_ | with_reducible refine w_sum (ns := [((sgn a : Nat) : Int)]) rfl ?_ | with_reducible refine w_seq ?_ | with_reducible refine w_sIf ?_ | with_reducible refine w_nil ?_ | with_reducible refine w_ret ?_ | with_reducible refine w_sG ?_ | with_reducible refine w_xP ?_ | with_reducible refine w_gN ?_ | with_reducible refine w_gsN ?_ | with_reducible refine w_gsC ?_ | with_reducible refine w_gT2 ?_ | with_reducible refine w_gT3 ?_ | with_reducible refine w_gT (by rfl) ?_ | with_reducible refine w_c ?_ | ((with_reducible apply w_v); exact rfl) | ((with_reducible apply w_vo); exact rfl) | with_reducible refine w_e1 ?_ | with_reducible refine w_e2 ?_ | with_reducible refine w_esN ?_ | with_reducible refine w_esC ?_ | with_reducible refine w_eA ?_ | with_reducible refine w_nL ?_ | with_reducible refine w_eL ?_ | with_reducible refine w_lsG ?_ | with_reducible refine w_tup0 ?_ | with_reducible refine w_tup1 ?_ | with_reducible refine w_tup2 ?_ | with_reducible refine w_tup3 ?_ | with_reducible refine w_tup4 ?_ | with_reducible refine w_tup5 ?_ | with_reducible refine w_tup6 ?_ | with_reducible refine w_tup (by decide) ?_ | with_reducible refine w_tE ?_ | with_reducible refine w_dB ?_ | with_reducible refine w_tNo ?_ | with_reducible refine w_tAn ?_ | with_reducible refine w_tOr ?_ | with_reducible refine w_tY ?_ | with_reducible refine w_eAn ?_ | with_reducible refine w_eOr ?_ | with_reducible refine w_eIf ?_ | with_reducible refine w_addI ?_ | with_reducible refine w_sub ?_ | with_reducible refine w_neg ?_ | with_reducible refine w_not ?_ | with_reducible refine w_cmp ?_ | with_reducible refine w_ltI ?_ | with_reducible refine w_nSl ?_ | with_reducible refine w_cutL ?_ | with_reducible refine w_slL ?_ | with_reducible refine w_slR ?_ | with_reducible refine w_gL2 ?_ | with_reducible refine w_gL3 ?_ | with_reducible refine w_gL5 ?_ | with_reducible refine w_eqI ?_ | with_reducible refine w_eqS ?_ | with_reducible refine w_eqB ?_ | with_reducible refine w_neE ?_ | with_reducible refine w_eqE ?_ | with_reducible refine w_neI ?_ | with_reducible refine w_neS ?_ | with_reducible refine w_lenL ?_ | with_reducible refine w_lenT ?_ | with_reducible refine w_lenR ?_ | with_reducible refine w_intI ?_ | ((with_reducible apply w_intBt); (first | decide +kernel | exact rfl)) | ((with_reducible apply w_intBf); (first | decide +kernel | exact rfl)) | with_reducible refine w_intB ?_ | with_reducible refine w_tupleL ?_ | with_reducible refine w_tupleT ?_ | with_reducible refine w_listL ?_ | with_reducible refine w_listT ?_ | with_reducible refine w_max2P (fun r _ _ _ => ?_) | with_reducible refine w_min2P (fun r _ _ _ => ?_) | ((with_reducible apply w_isi); exact rfl) | with_reducible refine w_oN ?_ | with_reducible refine w_oS ?_ | with_reducible refine w_eSl ?_ | with_reducible refine w_sl1 ?_ | with_reducible refine w_sl2 ?_ | with_reducible refine w_sl3 ?_ | ((with_reducible apply w_ixT); exact rfl) | with_reducible refine w_mod (by decide) ?_ | with_reducible refine w_div (by decide) ?_ | with_reducible refine w_pow (by decide) ?_ | with_reducible refine w_own ?_ | with_reducible refine w_xsN ?_ | with_reducible refine w_xsC ?_ | with_reducible refine w_xA ?_ | with_reducible refine w_app ?_ | ((with_reducible refine sq_nx ?_); try simp only [esc_nil, esc_int, esc_str, esc_bl, esc_non, List.set_cons_zero, List.set_cons_succ, unown_nil, unown_noO, esc_noO, noO_nil, noO_cons, isOwn_val, isOwn_no, isOwn_own, isOwn_succ, Bool.not_false, Bool.and_self]) | with_reducible refine sq_ret ?_ | with_reducible refine rq_ret ?_ | with_reducible refine lq_ret ?_ | ((with_reducible refine lq_nx ?_); try simp only [esc_nil, esc_int, esc_str, esc_bl, esc_non, List.set_cons_zero, List.set_cons_succ, unown_nil, unown_noO, esc_noO, noO_nil, noO_cons, isOwn_val, isOwn_no, isOwn_own, isOwn_succ, Bool.not_false, Bool.and_self]) | ((with_reducible refine w_sFor ?_); try simp only [esc_nil, esc_int, esc_str, esc_bl, esc_non, List.set_cons_zero, List.set_cons_succ, unown_nil, unown_noO, esc_noO, noO_nil, noO_cons, isOwn_val, isOwn_no, isOwn_own, isOwn_succ, Bool.not_false, Bool.and_self]) | with_reducible refine w_iV ?_ | with_reducible refine w_iE ?_ | with_reducible refine w_itL ?_ | with_reducible refine w_itT ?_ | with_reducible refine w_itS ?_ | with_reducible refine w_lcG ?_ | with_reducible refine w_while0 ?_ | with_reducible refine w_mulI (mulOk_r (by decide)) ?_ | with_reducible refine w_mulI (mulOk_l (by decide)) ?_ | with_reducible refine ex_int ?_ | with_reducible refine ex_bl ?_ | with_reducible refine ex_lst ?_ | with_reducible refine an_int ?_ | with_reducible refine an_big0 ?_ | with_reducible refine an_bigl0 ?_ | with_reducible refine an_big1 ?_ | with_reducible refine an_bigl1 ?_ | with_reducible refine an_big2 ?_ | with_reducible refine an_bigl2 ?_ | with_reducible refine an_big3 ?_ | with_reducible refine an_bigl3 ?_ | with_reducible refine an_big4 ?_ | with_reducible refine an_bigl4 ?_ | with_reducible refine an_big5 ?_ | with_reducible refine an_bigl5 ?_ | with_reducible refine an_big6 ?_ | with_reducible refine an_bigl6 ?_ | with_reducible refine an_big7 ?_ | with_reducible refine an_bigl7 ?_ | with_reducible refine an_big8 ?_ | with_reducible refine an_bigl8 ?_ | with_reducible refine an_big (by decide) ?_ | with_reducible refine an_bigl (by decide) ?_ | with_reducible refine w_compN ?_ | with_reducible refine w_compC ?_ | with_reducible refine w_addT1 (by simp) ?_ | ((with_reducible apply an_own); exact rfl) | ((with_reducible apply ex_app); (first | exact rfl | (simp only [esc_nil, esc_int, esc_str, esc_bl, esc_non, List.set_cons_zero, List.set_cons_succ, unown_nil, unown_noO, esc_noO, noO_nil, noO_cons, isOwn_val, isOwn_no, isOwn_own, isOwn_succ, Bool.not_false, Bool.and_self]; exact rfl))) | ((with_reducible apply w_augI); exact rfl) | ((with_reducible apply w_augL); exact rfl) | ((with_reducible apply br_t); (first | decide +kernel | exact rfl)) | ((with_reducible apply br_f); (first | decide +kernel | exact rfl)) | with_reducible refine br_n ?_ | with_reducible refine br_d (fun _ => ?_) (fun _ => ?_) | with_reducible refine br_e (fun _ => ?_) (fun _ => ?_) | with_reducible refine br_s (fun _ => ?_) (fun _ => ?_) | with_reducible refine br_2 (fun _ => ?_) (fun _ => ?_)))
    all_goals (have e : (1 : Int) + [((sgn a : Nat) : Int)].sum = ((sgn a + 1 : Nat) : Int) := by simp; omega)
    all_goals (rw [e]; exact q)
  | .bin k a b, n, hn, Q, q => by
    obtain ⟨m, rfl⟩ : ∃ m, n = m + 1 := ⟨n - 1, by omega⟩
    have hn : max (dep a) (dep b) + 1 + 1 ≤ m + 1 := hn
    apply R_signs
    unfold B_signs
    simp only [enc]
    have ih := fun {Q : D → Prop} (q : Q (.int (sgn a))) => signs_ok a (n := m) (by omega) q
    have ih2 := fun {Q : D → Prop} (q : Q (.int (sgn b))) => signs_ok b (n := m) (by omega) q
    cases k <;> simp only [B2.nm] <;> (repeat' (first | with_reducible refine ih ?_ | with_reducible refine ih2 ?_ | with_reducible refine w_sum (ns := [((sgn a : Nat) : Int), ((sgn b : Nat) : Int)]) rfl ?_ | with_reducible refine w_seq ?_ | with_reducible refine w_sIf ?_ | with_reducible refine w_nil ?_ | with_reducible refine w_ret ?_ | with_reducible refine w_sG ?_ | with_reducible refine w_xP ?_ | with_reducible refine w_gN ?_ | with_reducible refine w_gsN ?_ | with_reducible refine w_gsC ?_ | with_reducible refine w_gT2 ?_ | with_reducible refine w_gT3 ?_ | with_reducible refine w_gT (by rfl) ?_ | with_reducible refine w_c ?_ | ((with_reducible apply w_v); exact rfl) | ((with_reducible apply w_vo); exact rfl) | with_reducible refine w_e1 ?_ | with_reducible refine w_e2 ?_ | with_reducible refine w_esN ?_ | with_reducible refine w_esC ?_ | with_reducible refine w_eA ?_ | with_reducible refine w_nL ?_ | with_reducible refine w_eL ?_ | with_reducible refine w_lsG ?_ | with_reducible refine w_tup0 ?_ | with_reducible refine w_tup1 ?_ | with_reducible refine w_tup2 ?_ | with_reducible refine w_tup3 ?_ | with_reducible refine w_tup4 ?_ | with_reducible refine w_tup5 ?_ | with_reducible refine w_tup6 ?_ | with_reducible refine w_tup (by decide) ?_ | with_reducible refine w_tE ?_ | with_reducible refine w_dB ?_ | with_reducible refine w_tNo ?_ | with_reducible refine w_tAn ?_ | with_reducible refine w_tOr ?_ | with_reducible refine w_tY ?_ | with_reducible refine w_eAn ?_ | with_reducible refine w_eOr ?_ | with_reducible refine w_eIf ?_ | with_reducible refine w_addI ?_ | with_reducible refine w_sub ?_ | with_reducible refine w_neg ?_ | with_reducible refine w_not ?_ | with_reducible refine w_cmp ?_ | with_reducible refine w_ltI ?_ | with_reducible refine w_nSl ?_ | with_reducible refine w_cutL ?_ | with_reducible refine w_slL ?_ | with_reducible refine w_slR ?_ | with_reducible refine w_gL2 ?_ | with_reducible refine w_gL3 ?_ | with_reducible refine w_gL5 ?_ | with_reducible refine w_eqI ?_ | with_reducible refine w_eqS ?_ | with_reducible refine w_eqB ?_ | with_reducible refine w_neE ?_ | with_reducible refine w_eqE ?_ | with_reducible refine w_neI ?_ | with_reducible refine w_neS ?_ | with_reducible refine w_lenL ?_ | with_reducible refine w_lenT ?_ | with_reducible refine w_lenR ?_ | with_reducible refine w_intI ?_ | ((with_reducible apply w_intBt); (first | decide +kernel | exact rfl)) | ((with_reducible apply w_intBf); (first | decide +kernel | exact rfl)) | with_reducible refine w_intB ?_ | with_reducible refine w_tupleL ?_ | with_reducible refine w_tupleT ?_ | with_reducible refine w_listL ?_ | with_reducible refine w_listT ?_ | with_reducible refine w_max2P (fun r _ _ _ => ?_) | with_reducible refine w_min2P (fun r _ _ _ => ?_) | ((with_reducible apply w_isi); exact rfl) | with_reducible refine w_oN ?_ | with_reducible refine w_oS ?_ | with_reducible refine w_eSl ?_ | with_reducible refine w_sl1 ?_ | with_reducible refine w_sl2 ?_ | with_reducible refine w_sl3 ?_ | ((with_reducible apply w_ixT); exact rfl) | with_reducible refine w_mod (by decide) ?_ | with_reducible refine w_div (by decide) ?_ | with_reducible refine w_pow (by decide) ?_ | with_reducible refine w_own ?_ | with_reducible refine w_xsN ?_ | with_reducible refine w_xsC ?_ | with_reducible refine w_xA ?_ | with_reducible refine w_app ?_ | ((with_reducible refine sq_nx ?_); try simp only [esc_nil, esc_int, esc_str, esc_bl, esc_non, List.set_cons_zero, List.set_cons_succ, unown_nil, unown_noO, esc_noO, noO_nil, noO_cons, isOwn_val, isOwn_no, isOwn_own, isOwn_succ, Bool.not_false, Bool.and_self]) | with_reducible refine sq_ret ?_ | with_reducible refine rq_ret ?_ | with_reducible refine lq_ret ?_ | ((with_reducible refine lq_nx ?_); try simp only [esc_nil, esc_int, esc_str, esc_bl, esc_non, List.set_cons_zero, List.set_cons_succ, unown_nil, unown_noO, esc_noO, noO_nil, noO_cons, isOwn_val, isOwn_no, isOwn_own, isOwn_succ, Bool.not_false, Bool.and_self]) | ((with_reducible refine w_sFor ?_); try simp only [esc_nil, esc_int, esc_str, esc_bl, esc_non, List.set_cons_zero, List.set_cons_succ, unown_nil, unown_noO, esc_noO, noO_nil, noO_cons, isOwn_val, isOwn_no, isOwn_own, isOwn_succ, Bool.not_false, Bool.and_self]) | with_reducible refine w_iV ?_ | with_reducible refine w_iE ?_ | with_reducible refine w_itL ?_ | with_reducible refine w_itT ?_ | with_reducible refine w_itS ?_ | with_reducible refine w_lcG ?_ | with_reducible refine w_while0 ?_ | with_reducible refine w_mulI (mulOk_r (by decide)) ?_ | with_reducible refine w_mulI (mulOk_l (by decide)) ?_ | with_reducible refine ex_int ?_ | with_reducible refine ex_bl ?_ | with_reducible refine ex_lst ?_ | with_reducible refine an_int ?_ | with_reducible refine an_big0 ?_ | with_reducible refine an_bigl0 ?_ | with_reducible refine an_big1 ?_ | with_reducible refine an_bigl1 ?_ | with_reducible refine an_big2 ?_ | with_reducible refine an_bigl2 ?_ | with_reducible refine an_big3 ?_ | with_reducible refine an_bigl3 ?_ | with_reducible refine an_big4 ?_ | with_reducible refine an_bigl4 ?_ | with_reducible refine an_big5 ?_ | with_reducible refine an_bigl5 ?_ | with_reducible refine an_big6 ?_ | with_reducible refine an_bigl6 ?_ | with_reducible refine an_big7 ?_ | with_reducible refine an_bigl7 ?_ | with_reducible refine an_big8 ?_ | with_reducible refine an_bigl8 ?_ | with_reducible refine an_big (by decide) ?_ | with_reducible refine an_bigl (by decide) ?_ | with_reducible refine w_compN ?_ | with_reducible refine w_compC ?_ | with_reducible refine w_addT1 (by simp) ?_ | ((with_reducible apply an_own); exact rfl) | ((with_reducible apply ex_app); (first | exact rfl | (simp only [esc_nil, esc_int, esc_str, esc_bl, esc_non, List.set_cons_zero, List.set_cons_succ, unown_nil, unown_noO, esc_noO, noO_nil, noO_cons, isOwn_val, isOwn_no, isOwn_own, isOwn_succ, Bool.not_false, Bool.and_self]; exact rfl))) | ((with_reducible apply w_augI); exact rfl) | ((with_reducible apply w_augL); exact rfl) | ((with_reducible apply br_t); (first | decide +kernel | exact rfl)) | ((with_reducible apply br_f); (first | decide +kernel | exact rfl)) | with_reducible refine br_n ?_ | with_reducible refine br_d (fun _ => ?_) (fun _ => ?_) | with_reducible refine br_e (fun _ => ?_) (fun _ => ?_) | with_reducible refine br_s (fun _ => ?_) (fun _ => ?_) | with_reducible refine br_2 (fun _ => ?_) (fun _ => ?_)))
    all_goals (have e : (1 : Int) + [((sgn a : Nat) : Int), ((sgn b : Nat) : Int)].sum = ((sgn a + sgn b + 1 : Nat) : Int) := by simp; omega)
    all_goals (rw [e]; exact q)
theorem lsigns_ok : ∀ (A : Stm) {n : Nat}, dep A + 1 ≤ n → ∀ {Q : D → Prop}, Q (.int (sgn A)) → Wp (fnL 1 (Phi n j__law_signs) [enc A]) Q
  | .yn b, n, hn, Q, q => by
    obtain ⟨m, rfl⟩ : ∃ m, n = m + 1 := ⟨n - 1, by omega⟩
    apply R__law_signs
    unfold B__law_signs
    simp only [enc]
    cases b <;> simp only [ynm, if_true, if_false, Bool.false_eq_true] <;> (repeat' (first | with_reducible refine w_seq ?_ | with_reducible refine w_sIf ?_ | with_reducible refine w_nil ?_ | with_reducible refine w_ret ?_ | with_reducible refine w_sG ?_ | with_reducible refine w_xP ?_ | with_reducible refine w_gN ?_ | with_reducible refine w_gsN ?_ | with_reducible refine w_gsC ?_ | with_reducible refine w_gT2 ?_ | with_reducible refine w_gT3 ?_ | with_reducible refine w_gT (by rfl) ?_ | with_reducible refine w_c ?_ | ((with_reducible apply w_v); exact rfl) | ((with_reducible apply w_vo); exact rfl) | with_reducible refine w_e1 ?_ | with_reducible refine w_e2 ?_ | with_reducible refine w_esN ?_ | with_reducible refine w_esC ?_ | with_reducible refine w_eA ?_ | with_reducible refine w_nL ?_ | with_reducible refine w_eL ?_ | with_reducible refine w_lsG ?_ | with_reducible refine w_tup0 ?_ | with_reducible refine w_tup1 ?_ | with_reducible refine w_tup2 ?_ | with_reducible refine w_tup3 ?_ | with_reducible refine w_tup4 ?_ | with_reducible refine w_tup5 ?_ | with_reducible refine w_tup6 ?_ | with_reducible refine w_tup (by decide) ?_ | with_reducible refine w_tE ?_ | with_reducible refine w_dB ?_ | with_reducible refine w_tNo ?_ | with_reducible refine w_tAn ?_ | with_reducible refine w_tOr ?_ | with_reducible refine w_tY ?_ | with_reducible refine w_eAn ?_ | with_reducible refine w_eOr ?_ | with_reducible refine w_eIf ?_ | with_reducible refine w_addI ?_ | with_reducible refine w_sub ?_ | with_reducible refine w_neg ?_ | with_reducible refine w_not ?_ | with_reducible refine w_cmp ?_ | with_reducible refine w_ltI ?_ | with_reducible refine w_nSl ?_ | with_reducible refine w_cutL ?_ | with_reducible refine w_slL ?_ | with_reducible refine w_slR ?_ | with_reducible refine w_gL2 ?_ | with_reducible refine w_gL3 ?_ | with_reducible refine w_gL5 ?_ | with_reducible refine w_eqI ?_ | with_reducible refine w_eqS ?_ | with_reducible refine w_eqB ?_ | with_reducible refine w_neE ?_ | with_reducible refine w_eqE ?_ | with_reducible refine w_neI ?_ | with_reducible refine w_neS ?_ | with_reducible refine w_lenL ?_ | with_reducible refine w_lenT ?_ | with_reducible refine w_lenR ?_ | with_reducible refine w_intI ?_ | ((with_reducible apply w_intBt); (first | decide +kernel | exact rfl)) | ((with_reducible apply w_intBf); (first | decide +kernel | exact rfl)) | with_reducible refine w_intB ?_ | with_reducible refine w_tupleL ?_ | with_reducible refine w_tupleT ?_ | with_reducible refine w_listL ?_ | with_reducible refine w_listT ?_ | with_reducible refine w_max2P (fun r _ _ _ => ?_) | with_reducible refine w_min2P (fun r _ _ _ => ?_) | ((with_reducible apply w_isi); exact rfl) | with_reducible refine w_oN ?_ | with_reducible refine w_oS ?_ | with_reducible refine w_eSl ?_ | with_reducible refine w_sl1 ?_ | with_reducible refine w_sl2 ?_ | with_reducible refine w_sl3 ?_ | ((with_reducible apply w_ixT); exact rfl) | with_reducible refine w_mod (by decide) ?_ | with_reducible refine w_div (by decide) ?_ | with_reducible refine w_pow (by decide) ?_ | with_reducible refine w_own ?_ | with_reducible refine w_xsN ?_ | with_reducible refine w_xsC ?_ | with_reducible refine w_xA ?_ | with_reducible refine w_app ?_ | ((with_reducible refine sq_nx ?_); try simp only [esc_nil, esc_int, esc_str, esc_bl, esc_non, List.set_cons_zero, List.set_cons_succ, unown_nil, unown_noO, esc_noO, noO_nil, noO_cons, isOwn_val, isOwn_no, isOwn_own, isOwn_succ, Bool.not_false, Bool.and_self]) | with_reducible refine sq_ret ?_ | with_reducible refine rq_ret ?_ | with_reducible refine lq_ret ?_ | ((with_reducible refine lq_nx ?_); try simp only [esc_nil, esc_int, esc_str, esc_bl, esc_non, List.set_cons_zero, List.set_cons_succ, unown_nil, unown_noO, esc_noO, noO_nil, noO_cons, isOwn_val, isOwn_no, isOwn_own, isOwn_succ, Bool.not_false, Bool.and_self]) | ((with_reducible refine w_sFor ?_); try simp only [esc_nil, esc_int, esc_str, esc_bl, esc_non, List.set_cons_zero, List.set_cons_succ, unown_nil, unown_noO, esc_noO, noO_nil, noO_cons, isOwn_val, isOwn_no, isOwn_own, isOwn_succ, Bool.not_false, Bool.and_self]) | with_reducible refine w_iV ?_ | with_reducible refine w_iE ?_ | with_reducible refine w_itL ?_ | with_reducible refine w_itT ?_ | with_reducible refine w_itS ?_ | with_reducible refine w_lcG ?_ | with_reducible refine w_while0 ?_ | with_reducible refine w_mulI (mulOk_r (by decide)) ?_ | with_reducible refine w_mulI (mulOk_l (by decide)) ?_ | with_reducible refine ex_int ?_ | with_reducible refine ex_bl ?_ | with_reducible refine ex_lst ?_ | with_reducible refine an_int ?_ | with_reducible refine an_big0 ?_ | with_reducible refine an_bigl0 ?_ | with_reducible refine an_big1 ?_ | with_reducible refine an_bigl1 ?_ | with_reducible refine an_big2 ?_ | with_reducible refine an_bigl2 ?_ | with_reducible refine an_big3 ?_ | with_reducible refine an_bigl3 ?_ | with_reducible refine an_big4 ?_ | with_reducible refine an_bigl4 ?_ | with_reducible refine an_big5 ?_ | with_reducible refine an_bigl5 ?_ | with_reducible refine an_big6 ?_ | with_reducible refine an_bigl6 ?_ | with_reducible refine an_big7 ?_ | with_reducible refine an_bigl7 ?_ | with_reducible refine an_big8 ?_ | with_reducible refine an_bigl8 ?_ | with_reducible refine an_big (by decide) ?_ | with_reducible refine an_bigl (by decide) ?_ | with_reducible refine w_compN ?_ | with_reducible refine w_compC ?_ | with_reducible refine w_addT1 (by simp) ?_ | ((with_reducible apply an_own); exact rfl) | ((with_reducible apply ex_app); (first | exact rfl | (simp only [esc_nil, esc_int, esc_str, esc_bl, esc_non, List.set_cons_zero, List.set_cons_succ, unown_nil, unown_noO, esc_noO, noO_nil, noO_cons, isOwn_val, isOwn_no, isOwn_own, isOwn_succ, Bool.not_false, Bool.and_self]; exact rfl))) | ((with_reducible apply w_augI); exact rfl) | ((with_reducible apply w_augL); exact rfl) | ((with_reducible apply br_t); (first | decide +kernel | exact rfl)) | ((with_reducible apply br_f); (first | decide +kernel | exact rfl)) | with_reducible refine br_n ?_ | with_reducible refine br_d (fun _ => ?_) (fun _ => ?_) | with_reducible refine br_e (fun _ => ?_) (fun _ => ?_) | with_reducible refine br_s (fun _ => ?_) (fun _ => ?_) | with_reducible refine br_2 (fun _ => ?_) (fun _ => ?_)))
    all_goals (refine w_sum (ns := []) rfl ?_; (repeat' (first | with_reducible refine w_seq ?_ | with_reducible refine w_sIf ?_ | with_reducible refine w_nil ?_ | with_reducible refine w_ret ?_ | with_reducible refine w_sG ?_ | with_reducible refine w_xP ?_ | with_reducible refine w_gN ?_ | with_reducible refine w_gsN ?_ | with_reducible refine w_gsC ?_ | with_reducible refine w_gT2 ?_ | with_reducible refine w_gT3 ?_ | with_reducible refine w_gT (by rfl) ?_ | with_reducible refine w_c ?_ | ((with_reducible apply w_v); exact rfl) | ((with_reducible apply w_vo); exact rfl) | with_reducible refine w_e1 ?_ | with_reducible refine w_e2 ?_ | with_reducible refine w_esN ?_ | with_reducible refine w_esC ?_ | with_reducible refine w_eA ?_ | with_reducible refine w_nL ?_ | with_reducible refine w_eL ?_ | with_reducible refine w_lsG ?_ | with_reducible refine w_tup0 ?_ | with_reducible refine w_tup1 ?_ | with_reducible refine w_tup2 ?_ | with_reducible refine w_tup3 ?_ | with_reducible refine w_tup4 ?_ | with_reducible refine w_tup5 ?_ | with_reducible refine w_tup6 ?_ | with_reducible refine w_tup (by decide) ?_ | with_reducible refine w_tE ?_ | with_reducible refine w_dB ?_ | with_reducible refine w_tNo ?_ | with_reducible refine w_tAn ?_ | with_reducible refine w_tOr ?_ | with_reducible refine w_tY ?_ | with_reducible refine w_eAn ?_ | with_reducible refine w_eOr ?_ | with_reducible refine w_eIf ?_ | with_reducible refine w_addI ?_ | with_reducible refine w_sub ?_ | with_reducible refine w_neg ?_ | with_reducible refine w_not ?_ | with_reducible refine w_cmp ?_ | with_reducible refine w_ltI ?_ | with_reducible refine w_nSl ?_ | with_reducible refine w_cutL ?_ | with_reducible refine w_slL ?_ | with_reducible refine w_slR ?_ | with_reducible refine w_gL2 ?_ | with_reducible refine w_gL3 ?_ | with_reducible refine w_gL5 ?_ | with_reducible refine w_eqI ?_ | with_reducible refine w_eqS ?_ | with_reducible refine w_eqB ?_ | with_reducible refine w_neE ?_ | with_reducible refine w_eqE ?_ | with_reducible refine w_neI ?_ | with_reducible refine w_neS ?_ | with_reducible refine w_lenL ?_ | with_reducible refine w_lenT ?_ | with_reducible refine w_lenR ?_ | with_reducible refine w_intI ?_ | ((with_reducible apply w_intBt); (first | decide +kernel | exact rfl)) | ((with_reducible apply w_intBf); (first | decide +kernel | exact rfl)) | with_reducible refine w_intB ?_ | with_reducible refine w_tupleL ?_ | with_reducible refine w_tupleT ?_ | with_reducible refine w_listL ?_ | with_reducible refine w_listT ?_ | with_reducible refine w_max2P (fun r _ _ _ => ?_) | with_reducible refine w_min2P (fun r _ _ _ => ?_) | ((with_reducible apply w_isi); exact rfl) | with_reducible refine w_oN ?_ | with_reducible refine w_oS ?_ | with_reducible refine w_eSl ?_ | with_reducible refine w_sl1 ?_ | with_reducible refine w_sl2 ?_ | with_reducible refine w_sl3 ?_ | ((with_reducible apply w_ixT); exact rfl) | with_reducible refine w_mod (by decide) ?_ | with_reducible refine w_div (by decide) ?_ | with_reducible refine w_pow (by decide) ?_ | with_reducible refine w_own ?_ | with_reducible refine w_xsN ?_ | with_reducible refine w_xsC ?_ | with_reducible refine w_xA ?_ | with_reducible refine w_app ?_ | ((with_reducible refine sq_nx ?_); try simp only [esc_nil, esc_int, esc_str, esc_bl, esc_non, List.set_cons_zero, List.set_cons_succ, unown_nil, unown_noO, esc_noO, noO_nil, noO_cons, isOwn_val, isOwn_no, isOwn_own, isOwn_succ, Bool.not_false, Bool.and_self]) | with_reducible refine sq_ret ?_ | with_reducible refine rq_ret ?_ | with_reducible refine lq_ret ?_ | ((with_reducible refine lq_nx ?_); try simp only [esc_nil, esc_int, esc_str, esc_bl, esc_non, List.set_cons_zero, List.set_cons_succ, unown_nil, unown_noO, esc_noO, noO_nil, noO_cons, isOwn_val, isOwn_no, isOwn_own, isOwn_succ, Bool.not_false, Bool.and_self]) | ((with_reducible refine w_sFor ?_); try simp only [esc_nil, esc_int, esc_str, esc_bl, esc_non, List.set_cons_zero, List.set_cons_succ, unown_nil, unown_noO, esc_noO, noO_nil, noO_cons, isOwn_val, isOwn_no, isOwn_own, isOwn_succ, Bool.not_false, Bool.and_self]) | with_reducible refine w_iV ?_ | with_reducible refine w_iE ?_ | with_reducible refine w_itL ?_ | with_reducible refine w_itT ?_ | with_reducible refine w_itS ?_ | with_reducible refine w_lcG ?_ | with_reducible refine w_while0 ?_ | with_reducible refine w_mulI (mulOk_r (by decide)) ?_ | with_reducible refine w_mulI (mulOk_l (by decide)) ?_ | with_reducible refine ex_int ?_ | with_reducible refine ex_bl ?_ | with_reducible refine ex_lst ?_ | with_reducible refine an_int ?_ | with_reducible refine an_big0 ?_ | with_reducible refine an_bigl0 ?_ | with_reducible refine an_big1 ?_ | with_reducible refine an_bigl1 ?_ | with_reducible refine an_big2 ?_ | with_reducible refine an_bigl2 ?_ | with_reducible refine an_big3 ?_ | with_reducible refine an_bigl3 ?_ | with_reducible refine an_big4 ?_ | with_reducible refine an_bigl4 ?_ | with_reducible refine an_big5 ?_ | with_reducible refine an_bigl5 ?_ | with_reducible refine an_big6 ?_ | with_reducible refine an_bigl6 ?_ | with_reducible refine an_big7 ?_ | with_reducible refine an_bigl7 ?_ | with_reducible refine an_big8 ?_ | with_reducible refine an_bigl8 ?_ | with_reducible refine an_big (by decide) ?_ | with_reducible refine an_bigl (by decide) ?_ | with_reducible refine w_compN ?_ | with_reducible refine w_compC ?_ | with_reducible refine w_addT1 (by simp) ?_ | ((with_reducible apply an_own); exact rfl) | ((with_reducible apply ex_app); (first | exact rfl | (simp only [esc_nil, esc_int, esc_str, esc_bl, esc_non, List.set_cons_zero, List.set_cons_succ, unown_nil, unown_noO, esc_noO, noO_nil, noO_cons, isOwn_val, isOwn_no, isOwn_own, isOwn_succ, Bool.not_false, Bool.and_self]; exact rfl))) | ((with_reducible apply w_augI); exact rfl) | ((with_reducible apply w_augL); exact rfl) | ((with_reducible apply br_t); (first | decide +kernel | exact rfl)) | ((with_reducible apply br_f); (first | decide +kernel | exact rfl)) | with_reducible refine br_n ?_ | with_reducible refine br_d (fun _ => ?_) (fun _ => ?_) | with_reducible refine br_e (fun _ => ?_) (fun _ => ?_) | with_reducible refine br_s (fun _ => ?_) (fun _ => ?_) | with_reducible refine br_2 (fun _ => ?_) (fun _ => ?_))); exact q)
  | .word w ts, n, hn, Q, q => by
    obtain ⟨m, rfl⟩ : ∃ m, n = m + 1 := ⟨n - 1, by omega⟩
    apply R__law_signs
    unfold B__law_signs
    simp only [enc]
    (repeat' (first | with_reducible refine w_seq ?_ | with_reducible refine w_sIf ?_ | with_reducible refine w_nil ?_ | with_reducible refine w_ret ?_ | with_reducible refine w_sG ?_ | with_reducible refine w_xP ?_ | with_reducible refine w_gN ?_ | with_reducible refine w_gsN ?_ | with_reducible refine w_gsC ?_ | with_reducible refine w_gT2 ?_ | with_reducible refine w_gT3 ?_ | with_reducible refine w_gT (by rfl) ?_ | with_reducible refine w_c ?_ | ((with_reducible apply w_v); exact rfl) | ((with_reducible apply w_vo); exact rfl) | with_reducible refine w_e1 ?_ | with_reducible refine w_e2 ?_ | with_reducible refine w_esN ?_ | with_reducible refine w_esC ?_ | with_reducible refine w_eA ?_ | with_reducible refine w_nL ?_ | with_reducible refine w_eL ?_ | with_reducible refine w_lsG ?_ | with_reducible refine w_tup0 ?_ | with_reducible refine w_tup1 ?_ | with_reducible refine w_tup2 ?_ | with_reducible refine w_tup3 ?_ | with_reducible refine w_tup4 ?_ | with_reducible refine w_tup5 ?_ | with_reducible refine w_tup6 ?_ | with_reducible refine w_tup (by decide) ?_ | with_reducible refine w_tE ?_ | with_reducible refine w_dB ?_ | with_reducible refine w_tNo ?_ | with_reducible refine w_tAn ?_ | with_reducible refine w_tOr ?_ | with_reducible refine w_tY ?_ | with_reducible refine w_eAn ?_ | with_reducible refine w_eOr ?_ | with_reducible refine w_eIf ?_ | with_reducible refine w_addI ?_ | with_reducible refine w_sub ?_ | with_reducible refine w_neg ?_ | with_reducible refine w_not ?_ | with_reducible refine w_cmp ?_ | with_reducible refine w_ltI ?_ | with_reducible refine w_nSl ?_ | with_reducible refine w_cutL ?_ | with_reducible refine w_slL ?_ | with_reducible refine w_slR ?_ | with_reducible refine w_gL2 ?_ | with_reducible refine w_gL3 ?_ | with_reducible refine w_gL5 ?_ | with_reducible refine w_eqI ?_ | with_reducible refine w_eqS ?_ | with_reducible refine w_eqB ?_ | with_reducible refine w_neE ?_ | with_reducible refine w_eqE ?_ | with_reducible refine w_neI ?_ | with_reducible refine w_neS ?_ | with_reducible refine w_lenL ?_ | with_reducible refine w_lenT ?_ | with_reducible refine w_lenR ?_ | with_reducible refine w_intI ?_ | ((with_reducible apply w_intBt); (first | decide +kernel | exact rfl)) | ((with_reducible apply w_intBf); (first | decide +kernel | exact rfl)) | with_reducible refine w_intB ?_ | with_reducible refine w_tupleL ?_ | with_reducible refine w_tupleT ?_ | with_reducible refine w_listL ?_ | with_reducible refine w_listT ?_ | with_reducible refine w_max2P (fun r _ _ _ => ?_) | with_reducible refine w_min2P (fun r _ _ _ => ?_) | ((with_reducible apply w_isi); exact rfl) | with_reducible refine w_oN ?_ | with_reducible refine w_oS ?_ | with_reducible refine w_eSl ?_ | with_reducible refine w_sl1 ?_ | with_reducible refine w_sl2 ?_ | with_reducible refine w_sl3 ?_ | ((with_reducible apply w_ixT); exact rfl) | with_reducible refine w_mod (by decide) ?_ | with_reducible refine w_div (by decide) ?_ | with_reducible refine w_pow (by decide) ?_ | with_reducible refine w_own ?_ | with_reducible refine w_xsN ?_ | with_reducible refine w_xsC ?_ | with_reducible refine w_xA ?_ | with_reducible refine w_app ?_ | ((with_reducible refine sq_nx ?_); try simp only [esc_nil, esc_int, esc_str, esc_bl, esc_non, List.set_cons_zero, List.set_cons_succ, unown_nil, unown_noO, esc_noO, noO_nil, noO_cons, isOwn_val, isOwn_no, isOwn_own, isOwn_succ, Bool.not_false, Bool.and_self]) | with_reducible refine sq_ret ?_ | with_reducible refine rq_ret ?_ | with_reducible refine lq_ret ?_ | ((with_reducible refine lq_nx ?_); try simp only [esc_nil, esc_int, esc_str, esc_bl, esc_non, List.set_cons_zero, List.set_cons_succ, unown_nil, unown_noO, esc_noO, noO_nil, noO_cons, isOwn_val, isOwn_no, isOwn_own, isOwn_succ, Bool.not_false, Bool.and_self]) | ((with_reducible refine w_sFor ?_); try simp only [esc_nil, esc_int, esc_str, esc_bl, esc_non, List.set_cons_zero, List.set_cons_succ, unown_nil, unown_noO, esc_noO, noO_nil, noO_cons, isOwn_val, isOwn_no, isOwn_own, isOwn_succ, Bool.not_false, Bool.and_self]) | with_reducible refine w_iV ?_ | with_reducible refine w_iE ?_ | with_reducible refine w_itL ?_ | with_reducible refine w_itT ?_ | with_reducible refine w_itS ?_ | with_reducible refine w_lcG ?_ | with_reducible refine w_while0 ?_ | with_reducible refine w_mulI (mulOk_r (by decide)) ?_ | with_reducible refine w_mulI (mulOk_l (by decide)) ?_ | with_reducible refine ex_int ?_ | with_reducible refine ex_bl ?_ | with_reducible refine ex_lst ?_ | with_reducible refine an_int ?_ | with_reducible refine an_big0 ?_ | with_reducible refine an_bigl0 ?_ | with_reducible refine an_big1 ?_ | with_reducible refine an_bigl1 ?_ | with_reducible refine an_big2 ?_ | with_reducible refine an_bigl2 ?_ | with_reducible refine an_big3 ?_ | with_reducible refine an_bigl3 ?_ | with_reducible refine an_big4 ?_ | with_reducible refine an_bigl4 ?_ | with_reducible refine an_big5 ?_ | with_reducible refine an_bigl5 ?_ | with_reducible refine an_big6 ?_ | with_reducible refine an_bigl6 ?_ | with_reducible refine an_big7 ?_ | with_reducible refine an_bigl7 ?_ | with_reducible refine an_big8 ?_ | with_reducible refine an_bigl8 ?_ | with_reducible refine an_big (by decide) ?_ | with_reducible refine an_bigl (by decide) ?_ | with_reducible refine w_compN ?_ | with_reducible refine w_compC ?_ | with_reducible refine w_addT1 (by simp) ?_ | ((with_reducible apply an_own); exact rfl) | ((with_reducible apply ex_app); (first | exact rfl | (simp only [esc_nil, esc_int, esc_str, esc_bl, esc_non, List.set_cons_zero, List.set_cons_succ, unown_nil, unown_noO, esc_noO, noO_nil, noO_cons, isOwn_val, isOwn_no, isOwn_own, isOwn_succ, Bool.not_false, Bool.and_self]; exact rfl))) | ((with_reducible apply w_augI); exact rfl) | ((with_reducible apply w_augL); exact rfl) | ((with_reducible apply br_t); (first | decide +kernel | exact rfl)) | ((with_reducible apply br_f); (first | decide +kernel | exact rfl)) | with_reducible refine br_n ?_ | with_reducible refine br_d (fun _ => ?_) (fun _ => ?_) | with_reducible refine br_e (fun _ => ?_) (fun _ => ?_) | with_reducible refine br_s (fun _ => ?_) (fun _ => ?_) | with_reducible refine br_2 (fun _ => ?_) (fun _ => ?_)))
    all_goals exact q
  | .un k a, n, hn, Q, q => by
    obtain ⟨m, rfl⟩ : ∃ m, n = m + 1 := ⟨n - 1, by omega⟩
    have hn : dep a + 1 + 1 ≤ m + 1 := hn
    apply R__law_signs
    unfold B__law_signs
    simp only [enc]
    have ih := fun {Q : D → Prop} (q : Q (.int (sgn a))) => lsigns_ok a (n := m) (by omega) q
    cases k <;> simp only [U.nm] <;> (repeat' (first | with_reducible refine ih ?_ | with_reducible refine w_sum (ns := [((sgn a : Nat) : Int)]) rfl ?_ | with_reducible refine w_seq ?_ | with_reducible refine w_sIf ?_ | with_reducible refine w_nil ?_ | with_reducible refine w_ret ?_ | with_reducible refine w_sG ?_ | with_reducible refine w_xP ?_ | with_reducible refine w_gN ?_ | with_reducible refine w_gsN ?_ | with_reducible refine w_gsC ?_ | with_reducible refine w_gT2 ?_ | with_reducible refine w_gT3 ?_ | with_reducible refine w_gT (by rfl) ?_ | with_reducible refine w_c ?_ | ((with_reducible apply w_v); exact rfl) | ((with_reducible apply w_vo); exact rfl) | with_reducible refine w_e1 ?_ | with_reducible refine w_e2 ?_ | with_reducible refine w_esN ?_ | with_reducible refine w_esC ?_ | with_reducible refine w_eA ?_ | with_reducible refine w_nL ?_ | with_reducible refine w_eL ?_ | with_reducible refine w_lsG ?_ | with_reducible refine w_tup0 ?_ | with_reducible refine w_tup1 ?_ | with_reducible refine w_tup2 ?_ | with_reducible refine w_tup3 ?_ | with_reducible refine w_tup4 ?_ | with_reducible refine w_tup5 ?_ | with_reducible refine w_tup6 ?_ | with_reducible refine w_tup (by decide) ?_ | with_reducible refine w_tE ?_ | with_reducible refine w_dB ?_ | with_reducible refine w_tNo ?_ | with_reducible refine w_tAn ?_ | with_reducible refine w_tOr ?_ | with_reducible refine w_tY ?_ | with_reducible refine w_eAn ?_ | with_reducible refine w_eOr ?_ | with_reducible refine w_eIf ?_ | with_reducible refine w_addI ?_ | with_reducible refine w_sub ?_ | with_reducible refine w_neg ?_ | with_reducible refine w_not ?_ | with_reducible refine w_cmp ?_ | with_reducible refine w_ltI ?_ | with_reducible refine w_nSl ?_ | with_reducible refine w_cutL ?_ | with_reducible refine w_slL ?_ | with_reducible refine w_slR ?_ | with_reducible refine w_gL2 ?_ | with_reducible refine w_gL3 ?_ | with_reducible refine w_gL5 ?_ | with_reducible refine w_eqI ?_ | with_reducible refine w_eqS ?_ | with_reducible refine w_eqB ?_ | with_reducible refine w_neE ?_ | with_reducible refine w_eqE ?_ | with_reducible refine w_neI ?_ | with_reducible refine w_neS ?_ | with_reducible refine w_lenL ?_ | with_reducible refine w_lenT ?_ | with_reducible refine w_lenR ?_ | with_reducible refine w_intI ?_ | ((with_reducible apply w_intBt); (first | decide +kernel | exact rfl)) | ((with_reducible apply w_intBf); (first | decide +kernel | exact rfl)) | with_reducible refine w_intB ?_ | with_reducible refine w_tupleL ?_ | with_reducible refine w_tupleT ?_ | with_reducible refine w_listL ?_ | with_reducible refine w_listT ?_ | with_reducible refine w_max2P (fun r _ _ _ => ?_) | with_reducible refine w_min2P (fun r _ _ _ => ?_) | ((with_reducible apply w_isi); exact rfl) | with_reducible refine w_oN ?_ | with_reducible refine w_oS ?_ | with_reducible refine w_eSl ?_ | with_reducible refine w_sl1 ?_ | with_reducible refine w_sl2 ?_ | with_reducible refine w_sl3 ?_ | ((with_reducible apply w_ixT); exact rfl) | with_reducible refine w_mod (by decide) ?_ | with_reducible refine w_div (by decide) ?_ | with_reducible refine w_pow (by decide) ?_ | with_reducible refine w_own ?_ | with_reducible refine w_xsN ?_ | with_reducible refine w_xsC ?_ | with_reducible refine w_xA ?_ | with_reducible refine w_app ?_ | ((with_reducible refine sq_nx ?_); try simp only [esc_nil, esc_int, esc_str, esc_bl, esc_non, List.set_cons_zero, List.set_cons_succ, unown_nil, unown_noO, esc_noO, noO_nil, noO_cons, isOwn_val, isOwn_no, isOwn_own, isOwn_succ, Bool.not_false, Bool.and_self]) | with_reducible refine sq_ret ?_ | with_reducible refine rq_ret ?_ | with_reducible refine lq_ret ?_ | ((with_reducible refine lq_nx ?_); try simp only [esc_nil, esc_int, esc_str, esc_bl, esc_non, List.set_cons_zero, List.set_cons_succ, unown_nil, unown_noO, esc_noO, noO_nil, noO_cons, isOwn_val, isOwn_no, isOwn_own, isOwn_succ, Bool.not_false, Bool.and_self]) | ((with_reducible refine w_sFor ?_); try simp only [esc_nil, esc_int, esc_str, esc_bl, esc_non, List.set_cons_zero, List.set_cons_succ, unown_nil, unown_noO, esc_noO, noO_nil, noO_cons, isOwn_val, isOwn_no, isOwn_own, isOwn_succ, Bool.not_false, Bool.and_self]) | with_reducible refine w_iV ?_ | with_reducible refine w_iE ?_ | with_reducible refine w_itL ?_ | with_reducible refine w_itT ?_ | with_reducible refine w_itS ?_ | with_reducible refine w_lcG ?_ | with_reducible refine w_while0 ?_ | with_reducible refine w_mulI (mulOk_r (by decide)) ?_ | with_reducible refine w_mulI (mulOk_l (by decide)) ?_ | with_reducible refine ex_int ?_ | with_reducible refine ex_bl ?_ | with_reducible refine ex_lst ?_ | with_reducible refine an_int ?_ | with_reducible refine an_big0 ?_ | with_reducible refine an_bigl0 ?_ | with_reducible refine an_big1 ?_ | with_reducible refine an_bigl1 ?_ | with_reducible refine an_big2 ?_ | with_reducible refine an_bigl2 ?_ | with_reducible refine an_big3 ?_ | with_reducible refine an_bigl3 ?_ | with_reducible refine an_big4 ?_ | with_reducible refine an_bigl4 ?_ | with_reducible refine an_big5 ?_ | with_reducible refine an_bigl5 ?_ | with_reducible refine an_big6 ?_ | with_reducible refine an_bigl6 ?_ | with_reducible refine an_big7 ?_ | with_reducible refine an_bigl7 ?_ | with_reducible refine an_big8 ?_ | with_reducible refine an_bigl8 ?_ | with_reducible refine an_big (by decide) ?_ | with_reducible refine an_bigl (by decide) ?_ | with_reducible refine w_compN ?_ | with_reducible refine w_compC ?_ | with_reducible refine w_addT1 (by simp) ?_ | ((with_reducible apply an_own); exact rfl) | ((with_reducible apply ex_app); (first | exact rfl | (simp only [esc_nil, esc_int, esc_str, esc_bl, esc_non, List.set_cons_zero, List.set_cons_succ, unown_nil, unown_noO, esc_noO, noO_nil, noO_cons, isOwn_val, isOwn_no, isOwn_own, isOwn_succ, Bool.not_false, Bool.and_self]; exact rfl))) | ((with_reducible apply w_augI); exact rfl) | ((with_reducible apply w_augL); exact rfl) | ((with_reducible apply br_t); (first | decide +kernel | exact rfl)) | ((with_reducible apply br_f); (first | decide +kernel | exact rfl)) | with_reducible refine br_n ?_ | with_reducible refine br_d (fun _ => ?_) (fun _ => ?_) | with_reducible refine br_e (fun _ => ?_) (fun _ => ?_) | with_reducible refine br_s (fun _ => ?_) (fun _ => ?_) | with_reducible refine br_2 (fun _ => ?_) (fun _ => ?_)))
    all_goals (have e : (1 : Int) + [((sgn a : Nat) : Int)].sum = ((sgn a + 1 : Nat) : Int) := by simp; omega)
    all_goals (rw [e]; exact q)
  | .bin k a b, n, hn, Q, q => by
    obtain ⟨m, rfl⟩ : ∃ m, n = m + 1 := ⟨n - 1, by omega⟩
    have hn : max (dep a) (dep b) + 1 + 1 ≤ m + 1 := hn
    apply R__law_signs
    unfold B__law_signs
    simp only [enc]
    have ih := fun {Q : D → Prop} (q : Q (.int (sgn a))) => lsigns_ok a (n := m) (by omega) q
    have ih2 := fun {Q : D → Prop} (q : Q (.int (sgn b))) => lsigns_ok b (n := m) (by omega) q
    cases k <;> simp only [B2.nm] <;> (repeat' (first | with_reducible refine ih ?_ | with_reducible refine ih2 ?_ | with_reducible refine w_sum (ns := [((sgn a : Nat) : Int), ((sgn b : Nat) : Int)]) rfl ?_ | with_reducible refine w_seq ?_ | with_reducible refine w_sIf ?_ | with_reducible refine w_nil ?_ | with_reducible refine w_ret ?_ | with_reducible refine w_sG ?_ | with_reducible refine w_xP ?_ | with_reducible refine w_gN ?_ | with_reducible refine w_gsN ?_ | with_reducible refine w_gsC ?_ | with_reducible refine w_gT2 ?_ | with_reducible refine w_gT3 ?_ | with_reducible refine w_gT (by rfl) ?_ | with_reducible refine w_c ?_ | ((with_reducible apply w_v); exact rfl) | ((with_reducible apply w_vo); exact rfl) | with_reducible refine w_e1 ?_ | with_reducible refine w_e2 ?_ | with_reducible refine w_esN ?_ | with_reducible refine w_esC ?_ | with_reducible refine w_eA ?_ | with_reducible refine w_nL ?_ | with_reducible refine w_eL ?_ | with_reducible refine w_lsG ?_ | with_reducible refine w_tup0 ?_ | with_reducible refine w_tup1 ?_ | with_reducible refine w_tup2 ?_ | with_reducible refine w_tup3 ?_ | with_reducible refine w_tup4 ?_ | with_reducible refine w_tup5 ?_ | with_reducible refine w_tup6 ?_ | with_reducible refine w_tup (by decide) ?_ | with_reducible refine w_tE ?_ | with_reducible refine w_dB ?_ | with_reducible refine w_tNo ?_ | with_reducible refine w_tAn ?_ | with_reducible refine w_tOr ?_ | with_reducible refine w_tY ?_ | with_reducible refine w_eAn ?_ | with_reducible refine w_eOr ?_ | with_reducible refine w_eIf ?_ | with_reducible refine w_addI ?_ | with_reducible refine w_sub ?_ | with_reducible refine w_neg ?_ | with_reducible refine w_not ?_ | with_reducible refine w_cmp ?_ | with_reducible refine w_ltI ?_ | with_reducible refine w_nSl ?_ | with_reducible refine w_cutL ?_ | with_reducible refine w_slL ?_ | with_reducible refine w_slR ?_ | with_reducible refine w_gL2 ?_ | with_reducible refine w_gL3 ?_ | with_reducible refine w_gL5 ?_ | with_reducible refine w_eqI ?_ | with_reducible refine w_eqS ?_ | with_reducible refine w_eqB ?_ | with_reducible refine w_neE ?_ | with_reducible refine w_eqE ?_ | with_reducible refine w_neI ?_ | with_reducible refine w_neS ?_ | with_reducible refine w_lenL ?_ | with_reducible refine w_lenT ?_ | with_reducible refine w_lenR ?_ | with_reducible refine w_intI ?_ | ((with_reducible apply w_intBt); (first | decide +kernel | exact rfl)) | ((with_reducible apply w_intBf); (first | decide +kernel | exact rfl)) | with_reducible refine w_intB ?_ | with_reducible refine w_tupleL ?_ | with_reducible refine w_tupleT ?_ | with_reducible refine w_listL ?_ | with_reducible refine w_listT ?_ | with_reducible refine w_max2P (fun r _ _ _ => ?_) | with_reducible refine w_min2P (fun r _ _ _ => ?_) | ((with_reducible apply w_isi); exact rfl) | with_reducible refine w_oN ?_ | with_reducible refine w_oS ?_ | with_reducible refine w_eSl ?_ | with_reducible refine w_sl1 ?_ | with_reducible refine w_sl2 ?_ | with_reducible refine w_sl3 ?_ | ((with_reducible apply w_ixT); exact rfl) | with_reducible refine w_mod (by decide) ?_ | with_reducible refine w_div (by decide) ?_ | with_reducible refine w_pow (by decide) ?_ | with_reducible refine w_own ?_ | with_reducible refine w_xsN ?_ | with_reducible refine w_xsC ?_ | with_reducible refine w_xA ?_ | with_reducible refine w_app ?_ | ((with_reducible refine sq_nx ?_); try simp only [esc_nil, esc_int, esc_str, esc_bl, esc_non, List.set_cons_zero, List.set_cons_succ, unown_nil, unown_noO, esc_noO, noO_nil, noO_cons, isOwn_val, isOwn_no, isOwn_own, isOwn_succ, Bool.not_false, Bool.and_self]) | with_reducible refine sq_ret ?_ | with_reducible refine rq_ret ?_ | with_reducible refine lq_ret ?_ | ((with_reducible refine lq_nx ?_); try simp only [esc_nil, esc_int, esc_str, esc_bl, esc_non, List.set_cons_zero, List.set_cons_succ, unown_nil, unown_noO, esc_noO, noO_nil, noO_cons, isOwn_val, isOwn_no, isOwn_own, isOwn_succ, Bool.not_false, Bool.and_self]) | ((with_reducible refine w_sFor ?_); try simp only [esc_nil, esc_int, esc_str, esc_bl, esc_non, List.set_cons_zero, List.set_cons_succ, unown_nil, unown_noO, esc_noO, noO_nil, noO_cons, isOwn_val, isOwn_no, isOwn_own, isOwn_succ, Bool.not_false, Bool.and_self]) | with_reducible refine w_iV ?_ | with_reducible refine w_iE ?_ | with_reducible refine w_itL ?_ | with_reducible refine w_itT ?_ | with_reducible refine w_itS ?_ | with_reducible refine w_lcG ?_ | with_reducible refine w_while0 ?_ | with_reducible refine w_mulI (mulOk_r (by decide)) ?_ | with_reducible refine w_mulI (mulOk_l (by decide)) ?_ | with_reducible refine ex_int ?_ | with_reducible refine ex_bl ?_ | with_reducible refine ex_lst ?_ | with_reducible refine an_int ?_ | with_reducible refine an_big0 ?_ | with_reducible refine an_bigl0 ?_ | with_reducible refine an_big1 ?_ | with_reducible refine an_bigl1 ?_ | with_reducible refine an_big2 ?_ | with_reducible refine an_bigl2 ?_ | with_reducible refine an_big3 ?_ | with_reducible refine an_bigl3 ?_ | with_reducible refine an_big4 ?_ | with_reducible refine an_bigl4 ?_ | with_reducible refine an_big5 ?_ | with_reducible refine an_bigl5 ?_ | with_reducible refine an_big6 ?_ | with_reducible refine an_bigl6 ?_ | with_reducible refine an_big7 ?_ | with_reducible refine an_bigl7 ?_ | with_reducible refine an_big8 ?_ | with_reducible refine an_bigl8 ?_ | with_reducible refine an_big (by decide) ?_ | with_reducible refine an_bigl (by decide) ?_ | with_reducible refine w_compN ?_ | with_reducible refine w_compC ?_ | with_reducible refine w_addT1 (by simp) ?_ | ((with_reducible apply an_own); exact rfl) | ((with_reducible apply ex_app); (first | exact rfl | (simp only [esc_nil, esc_int, esc_str, esc_bl, esc_non, List.set_cons_zero, List.set_cons_succ, unown_nil, unown_noO, esc_noO, noO_nil, noO_cons, isOwn_val, isOwn_no, isOwn_own, isOwn_succ, Bool.not_false, Bool.and_self]; exact rfl))) | ((with_reducible apply w_augI); exact rfl) | ((with_reducible apply w_augL); exact rfl) | ((with_reducible apply br_t); (first | decide +kernel | exact rfl)) | ((with_reducible apply br_f); (first | decide +kernel | exact rfl)) | with_reducible refine br_n ?_ | with_reducible refine br_d (fun _ => ?_) (fun _ => ?_) | with_reducible refine br_e (fun _ => ?_) (fun _ => ?_) | with_reducible refine br_s (fun _ => ?_) (fun _ => ?_) | with_reducible refine br_2 (fun _ => ?_) (fun _ => ?_)))
    all_goals (have e : (1 : Int) + [((sgn a : Nat) : Int), ((sgn b : Nat) : Int)].sum = ((sgn a + sgn b + 1 : Nat) : Int) := by simp; omega)
    all_goals (rw [e]; exact q)

theorem kids_ok {n : Nat} (hn : 1 ≤ n) (t : Tr) {Q : D → Prop} (q : Q (.tup (encTs (kidsT t)))) : Wp (fnL 1 (Phi n j_kids_of) [encT t]) Q := by
  obtain ⟨m, rfl⟩ : ∃ m, n = m + 1 := ⟨n - 1, by omega⟩
  apply R_kids_of
  unfold B_kids_of
  cases t <;> simp only [encT] <;> (repeat' (first | with_reducible refine w_ixT rfl ?_ | with_reducible refine w_seq ?_ | with_reducible refine w_sIf ?_ | with_reducible refine w_nil ?_ | with_reducible refine w_ret ?_ | with_reducible refine w_sG ?_ | with_reducible refine w_xP ?_ | with_reducible refine w_gN ?_ | with_reducible refine w_gsN ?_ | with_reducible refine w_gsC ?_ | with_reducible refine w_gT2 ?_ | with_reducible refine w_gT3 ?_ | with_reducible refine w_gT (by rfl) ?_ | with_reducible refine w_c ?_ | ((with_reducible apply w_v); exact rfl) | ((with_reducible apply w_vo); exact rfl) | with_reducible refine w_e1 ?_ | with_reducible refine w_e2 ?_ | with_reducible refine w_esN ?_ | with_reducible refine w_esC ?_ | with_reducible refine w_eA ?_ | with_reducible refine w_nL ?_ | with_reducible refine w_eL ?_ | with_reducible refine w_lsG ?_ | with_reducible refine w_tup0 ?_ | with_reducible refine w_tup1 ?_ | with_reducible refine w_tup2 ?_ | with_reducible refine w_tup3 ?_ | with_reducible refine w_tup4 ?_ | with_reducible refine w_tup5 ?_ | with_reducible refine w_tup6 ?_ | with_reducible refine w_tup (by decide) ?_ | with_reducible refine w_tE ?_ | with_reducible refine w_dB ?_ | with_reducible refine w_tNo ?_ | with_reducible refine w_tAn ?_ | with_reducible refine w_tOr ?_ | with_reducible refine w_tY ?_ | with_reducible refine w_eAn ?_ | with_reducible refine w_eOr ?_ | with_reducible refine w_eIf ?_ | with_reducible refine w_addI ?_ | with_reducible refine w_sub ?_ | with_reducible refine w_neg ?_ | with_reducible refine w_not ?_ | with_reducible refine w_cmp ?_ | with_reducible refine w_ltI ?_ | with_reducible refine w_nSl ?_ | with_reducible refine w_cutL ?_ | with_reducible refine w_slL ?_ | with_reducible refine w_slR ?_ | with_reducible refine w_gL2 ?_ | with_reducible refine w_gL3 ?_ | with_reducible refine w_gL5 ?_ | with_reducible refine w_eqI ?_ | with_reducible refine w_eqS ?_ | with_reducible refine w_eqB ?_ | with_reducible refine w_neE ?_ | with_reducible refine w_eqE ?_ | with_reducible refine w_neI ?_ | with_reducible refine w_neS ?_ | with_reducible refine w_lenL ?_ | with_reducible refine w_lenT ?_ | with_reducible refine w_lenR ?_ | with_reducible refine w_intI ?_ | ((with_reducible apply w_intBt); (first | decide +kernel | exact rfl)) | ((with_reducible apply w_intBf); (first | decide +kernel | exact rfl)) | with_reducible refine w_intB ?_ | with_reducible refine w_tupleL ?_ | with_reducible refine w_tupleT ?_ | with_reducible refine w_listL ?_ | with_reducible refine w_listT ?_ | with_reducible refine w_max2P (fun r _ _ _ => ?_) | with_reducible refine w_min2P (fun r _ _ _ => ?_) | ((with_reducible apply w_isi); exact rfl) | with_reducible refine w_oN ?_ | with_reducible refine w_oS ?_ | with_reducible refine w_eSl ?_ | with_reducible refine w_sl1 ?_ | with_reducible refine w_sl2 ?_ | with_reducible refine w_sl3 ?_ | ((with_reducible apply w_ixT); exact rfl) | with_reducible refine w_mod (by decide) ?_ | with_reducible refine w_div (by decide) ?_ | with_reducible refine w_pow (by decide) ?_ | with_reducible refine w_own ?_ | with_reducible refine w_xsN ?_ | with_reducible refine w_xsC ?_ | with_reducible refine w_xA ?_ | with_reducible refine w_app ?_ | ((with_reducible refine sq_nx ?_); try simp only [esc_nil, esc_int, esc_str, esc_bl, esc_non, List.set_cons_zero, List.set_cons_succ, unown_nil, unown_noO, esc_noO, noO_nil, noO_cons, isOwn_val, isOwn_no, isOwn_own, isOwn_succ, Bool.not_false, Bool.and_self]) | with_reducible refine sq_ret ?_ | with_reducible refine rq_ret ?_ | with_reducible refine lq_ret ?_ | ((with_reducible refine lq_nx ?_); try simp only [esc_nil, esc_int, esc_str, esc_bl, esc_non, List.set_cons_zero, List.set_cons_succ, unown_nil, unown_noO, esc_noO, noO_nil, noO_cons, isOwn_val, isOwn_no, isOwn_own, isOwn_succ, Bool.not_false, Bool.and_self]) | ((with_reducible refine w_sFor ?_); try simp only [esc_nil, esc_int, esc_str, esc_bl, esc_non, List.set_cons_zero, List.set_cons_succ, unown_nil, unown_noO, esc_noO, noO_nil, noO_cons, isOwn_val, isOwn_no, isOwn_own, isOwn_succ, Bool.not_false, Bool.and_self]) | with_reducible refine w_iV ?_ | with_reducible refine w_iE ?_ | with_reducible refine w_itL ?_ | with_reducible refine w_itT ?_ | with_reducible refine w_itS ?_ | with_reducible refine w_lcG ?_ | with_reducible refine w_while0 ?_ | with_reducible refine w_mulI (mulOk_r (by decide)) ?_ | with_reducible refine w_mulI (mulOk_l (by decide)) ?_ | with_reducible refine ex_int ?_ | with_reducible refine ex_bl ?_ | with_reducible refine ex_lst ?_ | with_reducible refine an_int ?_ | with_reducible refine an_big0 ?_ | with_reducible refine an_bigl0 ?_ | with_reducible refine an_big1 ?_ | with_reducible refine an_bigl1 ?_ | with_reducible refine an_big2 ?_ | with_reducible refine an_bigl2 ?_ | with_reducible refine an_big3 ?_ | with_reducible refine an_bigl3 ?_ | with_reducible refine an_big4 ?_ | with_reducible refine an_bigl4 ?_ | with_reducible refine an_big5 ?_ | with_reducible refine an_bigl5 ?_ | with_reducible refine an_big6 ?_ | with_reducible refine an_bigl6 ?_ | with_reducible refine an_big7 ?_ | with_reducible refine an_bigl7 ?_ | with_reducible refine an_big8 ?_ | with_reducible refine an_bigl8 ?_ | with_reducible refine an_big (by decide) ?_ | with_reducible refine an_bigl (by decide) ?_ | with_reducible refine w_compN ?_ | with_reducible refine w_compC ?_ | with_reducible refine w_addT1 (by simp) ?_ | ((with_reducible apply an_own); exact rfl) | ((with_reducible apply ex_app); (first | exact rfl | (simp only [esc_nil, esc_int, esc_str, esc_bl, esc_non, List.set_cons_zero, List.set_cons_succ, unown_nil, unown_noO, esc_noO, noO_nil, noO_cons, isOwn_val, isOwn_no, isOwn_own, isOwn_succ, Bool.not_false, Bool.and_self]; exact rfl))) | ((with_reducible apply w_augI); exact rfl) | ((with_reducible apply w_augL); exact rfl) | ((with_reducible apply br_t); (first | decide +kernel | exact rfl)) | ((with_reducible apply br_f); (first | decide +kernel | exact rfl)) | with_reducible refine br_n ?_ | with_reducible refine br_d (fun _ => ?_) (fun _ => ?_) | with_reducible refine br_e (fun _ => ?_) (fun _ => ?_) | with_reducible refine br_s (fun _ => ?_) (fun _ => ?_) | with_reducible refine br_2 (fun _ => ?_) (fun _ => ?_)))
  all_goals exact q
theorem hmax : ∀ (ts : List Tr) (a : Nat), imax (a : Int) (ts.map fun t => (hgt t : Int)) = ((max a (hgts ts) : Nat) : Int)
  | [], a => by simp [imax, hgts]
  | t :: ts, a => by
    rw [List.map_cons, imax_cons]
    have e : (if (a : Int) < (hgt t : Int) then (hgt t : Int) else (a : Int)) = ((max a (hgt t) : Nat) : Int) := by split <;> omega
    rw [e, hmax ts]
    show _ = ((max a (max (hgt t) (hgts ts)) : Nat) : Int)
    omega
theorem okIt_kids {al : List Nat} {ρ : Rho} {t : Tr} : okIt al ρ (.tup (encTs (kidsT t))) = true := by
  unfold okIt
  have : noL (.tup (encTs (kidsT t))) = true := by simp [noL, noLs_encT]
  rw [this]
  simp
theorem height_ok : ∀ (k : Nat) (t : Tr) {n : Nat}, hgt t ≤ k → okT t → k + 1 ≤ n → ∀ {Q : D → Prop}, Q (.int (hgt t)) → Wp (fnL 1 (Phi n j_height) [encT t]) Q := by
  intro k
  induction k with
  | zero =>
    intro t n h
    rw [kids_hgt] at h
    omega
  | succ k ih =>
    intro t n h ok hn Q q
    obtain ⟨m, rfl⟩ : ∃ m, n = m + 1 := ⟨n - 1, by omega⟩
    obtain ⟨ok1, ok2⟩ := okT_kids ok
    rw [kids_hgt] at h q
    apply R_height
    unfold B_height
    (repeat' (first | with_reducible refine kids_ok (by omega) t ?_ | with_reducible refine w_seq ?_ | with_reducible refine w_sIf ?_ | with_reducible refine w_nil ?_ | with_reducible refine w_ret ?_ | with_reducible refine w_sG ?_ | with_reducible refine w_xP ?_ | with_reducible refine w_gN ?_ | with_reducible refine w_gsN ?_ | with_reducible refine w_gsC ?_ | with_reducible refine w_gT2 ?_ | with_reducible refine w_gT3 ?_ | with_reducible refine w_gT (by rfl) ?_ | with_reducible refine w_c ?_ | ((with_reducible apply w_v); exact rfl) | ((with_reducible apply w_vo); exact rfl) | with_reducible refine w_e1 ?_ | with_reducible refine w_e2 ?_ | with_reducible refine w_esN ?_ | with_reducible refine w_esC ?_ | with_reducible refine w_eA ?_ | with_reducible refine w_nL ?_ | with_reducible refine w_eL ?_ | with_reducible refine w_lsG ?_ | with_reducible refine w_tup0 ?_ | with_reducible refine w_tup1 ?_ | with_reducible refine w_tup2 ?_ | with_reducible refine w_tup3 ?_ | with_reducible refine w_tup4 ?_ | with_reducible refine w_tup5 ?_ | with_reducible refine w_tup6 ?_ | with_reducible refine w_tup (by decide) ?_ | with_reducible refine w_tE ?_ | with_reducible refine w_dB ?_ | with_reducible refine w_tNo ?_ | with_reducible refine w_tAn ?_ | with_reducible refine w_tOr ?_ | with_reducible refine w_tY ?_ | with_reducible refine w_eAn ?_ | with_reducible refine w_eOr ?_ | with_reducible refine w_eIf ?_ | with_reducible refine w_addI ?_ | with_reducible refine w_sub ?_ | with_reducible refine w_neg ?_ | with_reducible refine w_not ?_ | with_reducible refine w_cmp ?_ | with_reducible refine w_ltI ?_ | with_reducible refine w_nSl ?_ | with_reducible refine w_cutL ?_ | with_reducible refine w_slL ?_ | with_reducible refine w_slR ?_ | with_reducible refine w_gL2 ?_ | with_reducible refine w_gL3 ?_ | with_reducible refine w_gL5 ?_ | with_reducible refine w_eqI ?_ | with_reducible refine w_eqS ?_ | with_reducible refine w_eqB ?_ | with_reducible refine w_neE ?_ | with_reducible refine w_eqE ?_ | with_reducible refine w_neI ?_ | with_reducible refine w_neS ?_ | with_reducible refine w_lenL ?_ | with_reducible refine w_lenT ?_ | with_reducible refine w_lenR ?_ | with_reducible refine w_intI ?_ | ((with_reducible apply w_intBt); (first | decide +kernel | exact rfl)) | ((with_reducible apply w_intBf); (first | decide +kernel | exact rfl)) | with_reducible refine w_intB ?_ | with_reducible refine w_tupleL ?_ | with_reducible refine w_tupleT ?_ | with_reducible refine w_listL ?_ | with_reducible refine w_listT ?_ | with_reducible refine w_max2P (fun r _ _ _ => ?_) | with_reducible refine w_min2P (fun r _ _ _ => ?_) | ((with_reducible apply w_isi); exact rfl) | with_reducible refine w_oN ?_ | with_reducible refine w_oS ?_ | with_reducible refine w_eSl ?_ | with_reducible refine w_sl1 ?_ | with_reducible refine w_sl2 ?_ | with_reducible refine w_sl3 ?_ | ((with_reducible apply w_ixT); exact rfl) | with_reducible refine w_mod (by decide) ?_ | with_reducible refine w_div (by decide) ?_ | with_reducible refine w_pow (by decide) ?_ | with_reducible refine w_own ?_ | with_reducible refine w_xsN ?_ | with_reducible refine w_xsC ?_ | with_reducible refine w_xA ?_ | with_reducible refine w_app ?_ | ((with_reducible refine sq_nx ?_); try simp only [esc_nil, esc_int, esc_str, esc_bl, esc_non, List.set_cons_zero, List.set_cons_succ, unown_nil, unown_noO, esc_noO, noO_nil, noO_cons, isOwn_val, isOwn_no, isOwn_own, isOwn_succ, Bool.not_false, Bool.and_self]) | with_reducible refine sq_ret ?_ | with_reducible refine rq_ret ?_ | with_reducible refine lq_ret ?_ | ((with_reducible refine lq_nx ?_); try simp only [esc_nil, esc_int, esc_str, esc_bl, esc_non, List.set_cons_zero, List.set_cons_succ, unown_nil, unown_noO, esc_noO, noO_nil, noO_cons, isOwn_val, isOwn_no, isOwn_own, isOwn_succ, Bool.not_false, Bool.and_self]) | ((with_reducible refine w_sFor ?_); try simp only [esc_nil, esc_int, esc_str, esc_bl, esc_non, List.set_cons_zero, List.set_cons_succ, unown_nil, unown_noO, esc_noO, noO_nil, noO_cons, isOwn_val, isOwn_no, isOwn_own, isOwn_succ, Bool.not_false, Bool.and_self]) | with_reducible refine w_iV ?_ | with_reducible refine w_iE ?_ | with_reducible refine w_itL ?_ | with_reducible refine w_itT ?_ | with_reducible refine w_itS ?_ | with_reducible refine w_lcG ?_ | with_reducible refine w_while0 ?_ | with_reducible refine w_mulI (mulOk_r (by decide)) ?_ | with_reducible refine w_mulI (mulOk_l (by decide)) ?_ | with_reducible refine ex_int ?_ | with_reducible refine ex_bl ?_ | with_reducible refine ex_lst ?_ | with_reducible refine an_int ?_ | with_reducible refine an_big0 ?_ | with_reducible refine an_bigl0 ?_ | with_reducible refine an_big1 ?_ | with_reducible refine an_bigl1 ?_ | with_reducible refine an_big2 ?_ | with_reducible refine an_bigl2 ?_ | with_reducible refine an_big3 ?_ | with_reducible refine an_bigl3 ?_ | with_reducible refine an_big4 ?_ | with_reducible refine an_bigl4 ?_ | with_reducible refine an_big5 ?_ | with_reducible refine an_bigl5 ?_ | with_reducible refine an_big6 ?_ | with_reducible refine an_bigl6 ?_ | with_reducible refine an_big7 ?_ | with_reducible refine an_bigl7 ?_ | with_reducible refine an_big8 ?_ | with_reducible refine an_bigl8 ?_ | with_reducible refine an_big (by decide) ?_ | with_reducible refine an_bigl (by decide) ?_ | with_reducible refine w_compN ?_ | with_reducible refine w_compC ?_ | with_reducible refine w_addT1 (by simp) ?_ | ((with_reducible apply an_own); exact rfl) | ((with_reducible apply ex_app); (first | exact rfl | (simp only [esc_nil, esc_int, esc_str, esc_bl, esc_non, List.set_cons_zero, List.set_cons_succ, unown_nil, unown_noO, esc_noO, noO_nil, noO_cons, isOwn_val, isOwn_no, isOwn_own, isOwn_succ, Bool.not_false, Bool.and_self]; exact rfl))) | ((with_reducible apply w_augI); exact rfl) | ((with_reducible apply w_augL); exact rfl) | ((with_reducible apply br_t); (first | decide +kernel | exact rfl)) | ((with_reducible apply br_f); (first | decide +kernel | exact rfl)) | with_reducible refine br_n ?_ | with_reducible refine br_d (fun _ => ?_) (fun _ => ?_) | with_reducible refine br_e (fun _ => ?_) (fun _ => ?_) | with_reducible refine br_s (fun _ => ?_) (fun _ => ?_) | with_reducible refine br_2 (fun _ => ?_) (fun _ => ?_)))
    rw [encTs_map]
    refine ⟨by rw [List.length_map]; omega, w_compM encT (fun u => .int (hgt u)) (fun u hu => ?_) ?_⟩
    · have hh := hgts_le hu
      (repeat' (first | with_reducible refine ih u (by omega) (okTs_mem ok1 hu) (by omega) ?_ | with_reducible refine w_seq ?_ | with_reducible refine w_sIf ?_ | with_reducible refine w_nil ?_ | with_reducible refine w_ret ?_ | with_reducible refine w_sG ?_ | with_reducible refine w_xP ?_ | with_reducible refine w_gN ?_ | with_reducible refine w_gsN ?_ | with_reducible refine w_gsC ?_ | with_reducible refine w_gT2 ?_ | with_reducible refine w_gT3 ?_ | with_reducible refine w_gT (by rfl) ?_ | with_reducible refine w_c ?_ | ((with_reducible apply w_v); exact rfl) | ((with_reducible apply w_vo); exact rfl) | with_reducible refine w_e1 ?_ | with_reducible refine w_e2 ?_ | with_reducible refine w_esN ?_ | with_reducible refine w_esC ?_ | with_reducible refine w_eA ?_ | with_reducible refine w_nL ?_ | with_reducible refine w_eL ?_ | with_reducible refine w_lsG ?_ | with_reducible refine w_tup0 ?_ | with_reducible refine w_tup1 ?_ | with_reducible refine w_tup2 ?_ | with_reducible refine w_tup3 ?_ | with_reducible refine w_tup4 ?_ | with_reducible refine w_tup5 ?_ | with_reducible refine w_tup6 ?_ | with_reducible refine w_tup (by decide) ?_ | with_reducible refine w_tE ?_ | with_reducible refine w_dB ?_ | with_reducible refine w_tNo ?_ | with_reducible refine w_tAn ?_ | with_reducible refine w_tOr ?_ | with_reducible refine w_tY ?_ | with_reducible refine w_eAn ?_ | with_reducible refine w_eOr ?_ | with_reducible refine w_eIf ?_ | with_reducible refine w_addI ?_ | with_reducible refine w_sub ?_ | with_reducible refine w_neg ?_ | with_reducible refine w_not ?_ | with_reducible refine w_cmp ?_ | with_reducible refine w_ltI ?_ | with_reducible refine w_nSl ?_ | with_reducible refine w_cutL ?_ | with_reducible refine w_slL ?_ | with_reducible refine w_slR ?_ | with_reducible refine w_gL2 ?_ | with_reducible refine w_gL3 ?_ | with_reducible refine w_gL5 ?_ | with_reducible refine w_eqI ?_ | with_reducible refine w_eqS ?_ | with_reducible refine w_eqB ?_ | with_reducible refine w_neE ?_ | with_reducible refine w_eqE ?_ | with_reducible refine w_neI ?_ | with_reducible refine w_neS ?_ | with_reducible refine w_lenL ?_ | with_reducible refine w_lenT ?_ | with_reducible refine w_lenR ?_ | with_reducible refine w_intI ?_ | ((with_reducible apply w_intBt); (first | decide +kernel | exact rfl)) | ((with_reducible apply w_intBf); (first | decide +kernel | exact rfl)) | with_reducible refine w_intB ?_ | with_reducible refine w_tupleL ?_ | with_reducible refine w_tupleT ?_ | with_reducible refine w_listL ?_ | with_reducible refine w_listT ?_ | with_reducible refine w_max2P (fun r _ _ _ => ?_) | with_reducible refine w_min2P (fun r _ _ _ => ?_) | ((with_reducible apply w_isi); exact rfl) | with_reducible refine w_oN ?_ | with_reducible refine w_oS ?_ | with_reducible refine w_eSl ?_ | with_reducible refine w_sl1 ?_ | with_reducible refine w_sl2 ?_ | with_reducible refine w_sl3 ?_ | ((with_reducible apply w_ixT); exact rfl) | with_reducible refine w_mod (by decide) ?_ | with_reducible refine w_div (by decide) ?_ | with_reducible refine w_pow (by decide) ?_ | with_reducible refine w_own ?_ | with_reducible refine w_xsN ?_ | with_reducible refine w_xsC ?_ | with_reducible refine w_xA ?_ | with_reducible refine w_app ?_ | ((with_reducible refine sq_nx ?_); try simp only [esc_nil, esc_int, esc_str, esc_bl, esc_non, List.set_cons_zero, List.set_cons_succ, unown_nil, unown_noO, esc_noO, noO_nil, noO_cons, isOwn_val, isOwn_no, isOwn_own, isOwn_succ, Bool.not_false, Bool.and_self]) | with_reducible refine sq_ret ?_ | with_reducible refine rq_ret ?_ | with_reducible refine lq_ret ?_ | ((with_reducible refine lq_nx ?_); try simp only [esc_nil, esc_int, esc_str, esc_bl, esc_non, List.set_cons_zero, List.set_cons_succ, unown_nil, unown_noO, esc_noO, noO_nil, noO_cons, isOwn_val, isOwn_no, isOwn_own, isOwn_succ, Bool.not_false, Bool.and_self]) | ((with_reducible refine w_sFor ?_); try simp only [esc_nil, esc_int, esc_str, esc_bl, esc_non, List.set_cons_zero, List.set_cons_succ, unown_nil, unown_noO, esc_noO, noO_nil, noO_cons, isOwn_val, isOwn_no, isOwn_own, isOwn_succ, Bool.not_false, Bool.and_self]) | with_reducible refine w_iV ?_ | with_reducible refine w_iE ?_ | with_reducible refine w_itL ?_ | with_reducible refine w_itT ?_ | with_reducible refine w_itS ?_ | with_reducible refine w_lcG ?_ | with_reducible refine w_while0 ?_ | with_reducible refine w_mulI (mulOk_r (by decide)) ?_ | with_reducible refine w_mulI (mulOk_l (by decide)) ?_ | with_reducible refine ex_int ?_ | with_reducible refine ex_bl ?_ | with_reducible refine ex_lst ?_ | with_reducible refine an_int ?_ | with_reducible refine an_big0 ?_ | with_reducible refine an_bigl0 ?_ | with_reducible refine an_big1 ?_ | with_reducible refine an_bigl1 ?_ | with_reducible refine an_big2 ?_ | with_reducible refine an_bigl2 ?_ | with_reducible refine an_big3 ?_ | with_reducible refine an_bigl3 ?_ | with_reducible refine an_big4 ?_ | with_reducible refine an_bigl4 ?_ | with_reducible refine an_big5 ?_ | with_reducible refine an_bigl5 ?_ | with_reducible refine an_big6 ?_ | with_reducible refine an_bigl6 ?_ | with_reducible refine an_big7 ?_ | with_reducible refine an_bigl7 ?_ | with_reducible refine an_big8 ?_ | with_reducible refine an_bigl8 ?_ | with_reducible refine an_big (by decide) ?_ | with_reducible refine an_bigl (by decide) ?_ | with_reducible refine w_compN ?_ | with_reducible refine w_compC ?_ | with_reducible refine w_addT1 (by simp) ?_ | ((with_reducible apply an_own); exact rfl) | ((with_reducible apply ex_app); (first | exact rfl | (simp only [esc_nil, esc_int, esc_str, esc_bl, esc_non, List.set_cons_zero, List.set_cons_succ, unown_nil, unown_noO, esc_noO, noO_nil, noO_cons, isOwn_val, isOwn_no, isOwn_own, isOwn_succ, Bool.not_false, Bool.and_self]; exact rfl))) | ((with_reducible apply w_augI); exact rfl) | ((with_reducible apply w_augL); exact rfl) | ((with_reducible apply br_t); (first | decide +kernel | exact rfl)) | ((with_reducible apply br_f); (first | decide +kernel | exact rfl)) | with_reducible refine br_n ?_ | with_reducible refine br_d (fun _ => ?_) (fun _ => ?_) | with_reducible refine br_e (fun _ => ?_) (fun _ => ?_) | with_reducible refine br_s (fun _ => ?_) (fun _ => ?_) | with_reducible refine br_2 (fun _ => ?_) (fun _ => ?_)))
      rfl
    · cases e : kidsT t with
      | nil =>
        rw [e] at q
        rw [List.map_nil]
        (repeat' (first | with_reducible refine w_maxD0 ?_ | with_reducible refine w_seq ?_ | with_reducible refine w_sIf ?_ | with_reducible refine w_nil ?_ | with_reducible refine w_ret ?_ | with_reducible refine w_sG ?_ | with_reducible refine w_xP ?_ | with_reducible refine w_gN ?_ | with_reducible refine w_gsN ?_ | with_reducible refine w_gsC ?_ | with_reducible refine w_gT2 ?_ | with_reducible refine w_gT3 ?_ | with_reducible refine w_gT (by rfl) ?_ | with_reducible refine w_c ?_ | ((with_reducible apply w_v); exact rfl) | ((with_reducible apply w_vo); exact rfl) | with_reducible refine w_e1 ?_ | with_reducible refine w_e2 ?_ | with_reducible refine w_esN ?_ | with_reducible refine w_esC ?_ | with_reducible refine w_eA ?_ | with_reducible refine w_nL ?_ | with_reducible refine w_eL ?_ | with_reducible refine w_lsG ?_ | with_reducible refine w_tup0 ?_ | with_reducible refine w_tup1 ?_ | with_reducible refine w_tup2 ?_ | with_reducible refine w_tup3 ?_ | with_reducible refine w_tup4 ?_ | with_reducible refine w_tup5 ?_ | with_reducible refine w_tup6 ?_ | with_reducible refine w_tup (by decide) ?_ | with_reducible refine w_tE ?_ | with_reducible refine w_dB ?_ | with_reducible refine w_tNo ?_ | with_reducible refine w_tAn ?_ | with_reducible refine w_tOr ?_ | with_reducible refine w_tY ?_ | with_reducible refine w_eAn ?_ | with_reducible refine w_eOr ?_ | with_reducible refine w_eIf ?_ | with_reducible refine w_addI ?_ | with_reducible refine w_sub ?_ | with_reducible refine w_neg ?_ | with_reducible refine w_not ?_ | with_reducible refine w_cmp ?_ | with_reducible refine w_ltI ?_ | with_reducible refine w_nSl ?_ | with_reducible refine w_cutL ?_ | with_reducible refine w_slL ?_ | with_reducible refine w_slR ?_ | with_reducible refine w_gL2 ?_ | with_reducible refine w_gL3 ?_ | with_reducible refine w_gL5 ?_ | with_reducible refine w_eqI ?_ | with_reducible refine w_eqS ?_ | with_reducible refine w_eqB ?_ | with_reducible refine w_neE ?_ | with_reducible refine w_eqE ?_ | with_reducible refine w_neI ?_ | with_reducible refine w_neS ?_ | with_reducible refine w_lenL ?_ | with_reducible refine w_lenT ?_ | with_reducible refine w_lenR ?_ | with_reducible refine w_intI ?_ | ((with_reducible apply w_intBt); (first | decide +kernel | exact rfl)) | ((with_reducible apply w_intBf); (first | decide +kernel | exact rfl)) | with_reducible refine w_intB ?_ | with_reducible refine w_tupleL ?_ | with_reducible refine w_tupleT ?_ | with_reducible refine w_listL ?_ | with_reducible refine w_listT ?_ | with_reducible refine w_max2P (fun r _ _ _ => ?_) | with_reducible refine w_min2P (fun r _ _ _ => ?_) | ((with_reducible apply w_isi); exact rfl) | with_reducible refine w_oN ?_ | with_reducible refine w_oS ?_ | with_reducible refine w_eSl ?_ | with_reducible refine w_sl1 ?_ | with_reducible refine w_sl2 ?_ | with_reducible refine w_sl3 ?_ | ((with_reducible apply w_ixT); exact rfl) | with_reducible refine w_mod (by decide) ?_ | with_reducible refine w_div (by decide) ?_ | with_reducible refine w_pow (by decide) ?_ | with_reducible refine w_own ?_ | with_reducible refine w_xsN ?_ | with_reducible refine w_xsC ?_ | with_reducible refine w_xA ?_ | with_reducible refine w_app ?_ | ((with_reducible refine sq_nx ?_); try simp only [esc_nil, esc_int, esc_str, esc_bl, esc_non, List.set_cons_zero, List.set_cons_succ, unown_nil, unown_noO, esc_noO, noO_nil, noO_cons, isOwn_val, isOwn_no, isOwn_own, isOwn_succ, Bool.not_false, Bool.and_self]) | with_reducible refine sq_ret ?_ | with_reducible refine rq_ret ?_ | with_reducible refine lq_ret ?_ | ((with_reducible refine lq_nx ?_); try simp only [esc_nil, esc_int, esc_str, esc_bl, esc_non, List.set_cons_zero, List.set_cons_succ, unown_nil, unown_noO, esc_noO, noO_nil, noO_cons, isOwn_val, isOwn_no, isOwn_own, isOwn_succ, Bool.not_false, Bool.and_self]) | ((with_reducible refine w_sFor ?_); try simp only [esc_nil, esc_int, esc_str, esc_bl, esc_non, List.set_cons_zero, List.set_cons_succ, unown_nil, unown_noO, esc_noO, noO_nil, noO_cons, isOwn_val, isOwn_no, isOwn_own, isOwn_succ, Bool.not_false, Bool.and_self]) | with_reducible refine w_iV ?_ | with_reducible refine w_iE ?_ | with_reducible refine w_itL ?_ | with_reducible refine w_itT ?_ | with_reducible refine w_itS ?_ | with_reducible refine w_lcG ?_ | with_reducible refine w_while0 ?_ | with_reducible refine w_mulI (mulOk_r (by decide)) ?_ | with_reducible refine w_mulI (mulOk_l (by decide)) ?_ | with_reducible refine ex_int ?_ | with_reducible refine ex_bl ?_ | with_reducible refine ex_lst ?_ | with_reducible refine an_int ?_ | with_reducible refine an_big0 ?_ | with_reducible refine an_bigl0 ?_ | with_reducible refine an_big1 ?_ | with_reducible refine an_bigl1 ?_ | with_reducible refine an_big2 ?_ | with_reducible refine an_bigl2 ?_ | with_reducible refine an_big3 ?_ | with_reducible refine an_bigl3 ?_ | with_reducible refine an_big4 ?_ | with_reducible refine an_bigl4 ?_ | with_reducible refine an_big5 ?_ | with_reducible refine an_bigl5 ?_ | with_reducible refine an_big6 ?_ | with_reducible refine an_bigl6 ?_ | with_reducible refine an_big7 ?_ | with_reducible refine an_bigl7 ?_ | with_reducible refine an_big8 ?_ | with_reducible refine an_bigl8 ?_ | with_reducible refine an_big (by decide) ?_ | with_reducible refine an_bigl (by decide) ?_ | with_reducible refine w_compN ?_ | with_reducible refine w_compC ?_ | with_reducible refine w_addT1 (by simp) ?_ | ((with_reducible apply an_own); exact rfl) | ((with_reducible apply ex_app); (first | exact rfl | (simp only [esc_nil, esc_int, esc_str, esc_bl, esc_non, List.set_cons_zero, List.set_cons_succ, unown_nil, unown_noO, esc_noO, noO_nil, noO_cons, isOwn_val, isOwn_no, isOwn_own, isOwn_succ, Bool.not_false, Bool.and_self]; exact rfl))) | ((with_reducible apply w_augI); exact rfl) | ((with_reducible apply w_augL); exact rfl) | ((with_reducible apply br_t); (first | decide +kernel | exact rfl)) | ((with_reducible apply br_f); (first | decide +kernel | exact rfl)) | with_reducible refine br_n ?_ | with_reducible refine br_d (fun _ => ?_) (fun _ => ?_) | with_reducible refine br_e (fun _ => ?_) (fun _ => ?_) | with_reducible refine br_s (fun _ => ?_) (fun _ => ?_) | with_reducible refine br_2 (fun _ => ?_) (fun _ => ?_)))
        exact q
      | cons u us =>
        rw [e] at q
        have e2 : ((u :: us).map fun u => D.int (hgt u)) = ((hgt u : Int) :: us.map fun t => (hgt t : Int)).map D.int := by rw [List.map_cons, List.map_cons, List.map_map]; rfl
        (repeat' (first | with_reducible refine w_maxD e2 ?_ | with_reducible refine w_seq ?_ | with_reducible refine w_sIf ?_ | with_reducible refine w_nil ?_ | with_reducible refine w_ret ?_ | with_reducible refine w_sG ?_ | with_reducible refine w_xP ?_ | with_reducible refine w_gN ?_ | with_reducible refine w_gsN ?_ | with_reducible refine w_gsC ?_ | with_reducible refine w_gT2 ?_ | with_reducible refine w_gT3 ?_ | with_reducible refine w_gT (by rfl) ?_ | with_reducible refine w_c ?_ | ((with_reducible apply w_v); exact rfl) | ((with_reducible apply w_vo); exact rfl) | with_reducible refine w_e1 ?_ | with_reducible refine w_e2 ?_ | with_reducible refine w_esN ?_ | with_reducible refine w_esC ?_ | with_reducible refine w_eA ?_ | with_reducible refine w_nL ?_ | with_reducible refine w_eL ?_ | with_reducible refine w_lsG ?_ | with_reducible refine w_tup0 ?_ | with_reducible refine w_tup1 ?_ | with_reducible refine w_tup2 ?_ | with_reducible refine w_tup3 ?_ | with_reducible refine w_tup4 ?_ | with_reducible refine w_tup5 ?_ | with_reducible refine w_tup6 ?_ | with_reducible refine w_tup (by decide) ?_ | with_reducible refine w_tE ?_ | with_reducible refine w_dB ?_ | with_reducible refine w_tNo ?_ | with_reducible refine w_tAn ?_ | with_reducible refine w_tOr ?_ | with_reducible refine w_tY ?_ | with_reducible refine w_eAn ?_ | with_reducible refine w_eOr ?_ | with_reducible refine w_eIf ?_ | with_reducible refine w_addI ?_ | with_reducible refine w_sub ?_ | with_reducible refine w_neg ?_ | with_reducible refine w_not ?_ | with_reducible refine w_cmp ?_ | with_reducible refine w_ltI ?_ | with_reducible refine w_nSl ?_ | with_reducible refine w_cutL ?_ | with_reducible refine w_slL ?_ | with_reducible refine w_slR ?_ | with_reducible refine w_gL2 ?_ | with_reducible refine w_gL3 ?_ | with_reducible refine w_gL5 ?_ | with_reducible refine w_eqI ?_ | with_reducible refine w_eqS ?_ | with_reducible refine w_eqB ?_ | with_reducible refine w_neE ?_ | with_reducible refine w_eqE ?_ | with_reducible refine w_neI ?_ | with_reducible refine w_neS ?_ | with_reducible refine w_lenL ?_ | with_reducible refine w_lenT ?_ | with_reducible refine w_lenR ?_ | with_reducible refine w_intI ?_ | ((with_reducible apply w_intBt); (first | decide +kernel | exact rfl)) | ((with_reducible apply w_intBf); (first | decide +kernel | exact rfl)) | with_reducible refine w_intB ?_ | with_reducible refine w_tupleL ?_ | with_reducible refine w_tupleT ?_ | with_reducible refine w_listL ?_ | with_reducible refine w_listT ?_ | with_reducible refine w_max2P (fun r _ _ _ => ?_) | with_reducible refine w_min2P (fun r _ _ _ => ?_) | ((with_reducible apply w_isi); exact rfl) | with_reducible refine w_oN ?_ | with_reducible refine w_oS ?_ | with_reducible refine w_eSl ?_ | with_reducible refine w_sl1 ?_ | with_reducible refine w_sl2 ?_ | with_reducible refine w_sl3 ?_ | ((with_reducible apply w_ixT); exact rfl) | with_reducible refine w_mod (by decide) ?_ | with_reducible refine w_div (by decide) ?_ | with_reducible refine w_pow (by decide) ?_ | with_reducible refine w_own ?_ | with_reducible refine w_xsN ?_ | with_reducible refine w_xsC ?_ | with_reducible refine w_xA ?_ | with_reducible refine w_app ?_ | ((with_reducible refine sq_nx ?_); try simp only [esc_nil, esc_int, esc_str, esc_bl, esc_non, List.set_cons_zero, List.set_cons_succ, unown_nil, unown_noO, esc_noO, noO_nil, noO_cons, isOwn_val, isOwn_no, isOwn_own, isOwn_succ, Bool.not_false, Bool.and_self]) | with_reducible refine sq_ret ?_ | with_reducible refine rq_ret ?_ | with_reducible refine lq_ret ?_ | ((with_reducible refine lq_nx ?_); try simp only [esc_nil, esc_int, esc_str, esc_bl, esc_non, List.set_cons_zero, List.set_cons_succ, unown_nil, unown_noO, esc_noO, noO_nil, noO_cons, isOwn_val, isOwn_no, isOwn_own, isOwn_succ, Bool.not_false, Bool.and_self]) | ((with_reducible refine w_sFor ?_); try simp only [esc_nil, esc_int, esc_str, esc_bl, esc_non, List.set_cons_zero, List.set_cons_succ, unown_nil, unown_noO, esc_noO, noO_nil, noO_cons, isOwn_val, isOwn_no, isOwn_own, isOwn_succ, Bool.not_false, Bool.and_self]) | with_reducible refine w_iV ?_ | with_reducible refine w_iE ?_ | with_reducible refine w_itL ?_ | with_reducible refine w_itT ?_ | with_reducible refine w_itS ?_ | with_reducible refine w_lcG ?_ | with_reducible refine w_while0 ?_ | with_reducible refine w_mulI (mulOk_r (by decide)) ?_ | with_reducible refine w_mulI (mulOk_l (by decide)) ?_ | with_reducible refine ex_int ?_ | with_reducible refine ex_bl ?_ | with_reducible refine ex_lst ?_ | with_reducible refine an_int ?_ | with_reducible refine an_big0 ?_ | with_reducible refine an_bigl0 ?_ | with_reducible refine an_big1 ?_ | with_reducible refine an_bigl1 ?_ | with_reducible refine an_big2 ?_ | with_reducible refine an_bigl2 ?_ | with_reducible refine an_big3 ?_ | with_reducible refine an_bigl3 ?_ | with_reducible refine an_big4 ?_ | with_reducible refine an_bigl4 ?_ | with_reducible refine an_big5 ?_ | with_reducible refine an_bigl5 ?_ | with_reducible refine an_big6 ?_ | with_reducible refine an_bigl6 ?_ | with_reducible refine an_big7 ?_ | with_reducible refine an_bigl7 ?_ | with_reducible refine an_big8 ?_ | with_reducible refine an_bigl8 ?_ | with_reducible refine an_big (by decide) ?_ | with_reducible refine an_bigl (by decide) ?_ | with_reducible refine w_compN ?_ | with_reducible refine w_compC ?_ | with_reducible refine w_addT1 (by simp) ?_ | ((with_reducible apply an_own); exact rfl) | ((with_reducible apply ex_app); (first | exact rfl | (simp only [esc_nil, esc_int, esc_str, esc_bl, esc_non, List.set_cons_zero, List.set_cons_succ, unown_nil, unown_noO, esc_noO, noO_nil, noO_cons, isOwn_val, isOwn_no, isOwn_own, isOwn_succ, Bool.not_false, Bool.and_self]; exact rfl))) | ((with_reducible apply w_augI); exact rfl) | ((with_reducible apply w_augL); exact rfl) | ((with_reducible apply br_t); (first | decide +kernel | exact rfl)) | ((with_reducible apply br_f); (first | decide +kernel | exact rfl)) | with_reducible refine br_n ?_ | with_reducible refine br_d (fun _ => ?_) (fun _ => ?_) | with_reducible refine br_e (fun _ => ?_) (fun _ => ?_) | with_reducible refine br_s (fun _ => ?_) (fun _ => ?_) | with_reducible refine br_2 (fun _ => ?_) (fun _ => ?_)))
        rw [hmax]
        have e3 : (1 : Int) + ((max (hgt u) (hgts us) : Nat) : Int) = ((hgts (u :: us) + 1 : Nat) : Int) := by
          show _ = ((max (hgt u) (hgts us) + 1 : Nat) : Int)
          omega
        rw [e3]
        exact q
theorem keysTs_app : ∀ (a b : List Tr), keysTs (a ++ b) = keysTs a ++ keysTs b
  | [], b => rfl
  | t :: a, b => by
    show keysT t ++ keysTs (a ++ b) = (keysT t ++ keysTs a) ++ keysTs b
    rw [keysTs_app a b, List.append_assoc]
theorem keys_kids (t : Tr) : (keysTs (kidsT t)).length ≤ (keysT t).length := by
  cases t with
  | close => exact Nat.le_refl _
  | rule _ _ _ ks => exact Nat.le_refl _
  | cut s ks =>
    show (keysTs ks).length ≤ (if (keysTs ks).isEmpty = true then [((sgn s : Int), (0 : Int), h2 ks)] else keysTs ks ++ [((sgn s : Int), (1 : Int), (0 : Int))]).length
    split
    · rename_i h
      rw [List.isEmpty_iff.mp h]
      exact Nat.zero_le _
    · rw [List.length_append]
      omega
theorem noLs_encK : ∀ ks : List K3, noLs (ks.map encK) = true
  | [] => rfl
  | k :: ks => by rw [List.map_cons, noLs, noLs_encK ks]; simp [encK, noL, noLs]
set_option maxHeartbeats 1000000 in
theorem keys_ok : ∀ (k : Nat) (t : Tr) {n : Nat}, hgt t ≤ k → okT t → (keysT t).length ≤ 1000 → k + 6 ≤ n → ∀ {Q : D → Prop}, Q (.lst ((keysT t).map encK)) → Wp (fnL 1 (Phi n j_keys_met) [encT t]) Q := by
  intro k
  induction k with
  | zero =>
    intro t n h
    rw [kids_hgt] at h
    omega
  | succ k ih =>
    intro t n h ok hk hn Q q
    obtain ⟨m, rfl⟩ : ∃ m, n = m + 1 := ⟨n - 1, by omega⟩
    obtain ⟨ok1, ok2⟩ := okT_kids ok
    have hkk := keys_kids t
    rw [kids_hgt] at h
    apply R_keys_met
    unfold B_keys_met
    (repeat' (first | with_reducible refine kids_ok (by omega) t ?_ | with_reducible refine w_seq ?_ | with_reducible refine w_sIf ?_ | with_reducible refine w_nil ?_ | with_reducible refine w_ret ?_ | with_reducible refine w_sG ?_ | with_reducible refine w_xP ?_ | with_reducible refine w_gN ?_ | with_reducible refine w_gsN ?_ | with_reducible refine w_gsC ?_ | with_reducible refine w_gT2 ?_ | with_reducible refine w_gT3 ?_ | with_reducible refine w_gT (by rfl) ?_ | with_reducible refine w_c ?_ | ((with_reducible apply w_v); exact rfl) | ((with_reducible apply w_vo); exact rfl) | with_reducible refine w_e1 ?_ | with_reducible refine w_e2 ?_ | with_reducible refine w_esN ?_ | with_reducible refine w_esC ?_ | with_reducible refine w_eA ?_ | with_reducible refine w_nL ?_ | with_reducible refine w_eL ?_ | with_reducible refine w_lsG ?_ | with_reducible refine w_tup0 ?_ | with_reducible refine w_tup1 ?_ | with_reducible refine w_tup2 ?_ | with_reducible refine w_tup3 ?_ | with_reducible refine w_tup4 ?_ | with_reducible refine w_tup5 ?_ | with_reducible refine w_tup6 ?_ | with_reducible refine w_tup (by decide) ?_ | with_reducible refine w_tE ?_ | with_reducible refine w_dB ?_ | with_reducible refine w_tNo ?_ | with_reducible refine w_tAn ?_ | with_reducible refine w_tOr ?_ | with_reducible refine w_tY ?_ | with_reducible refine w_eAn ?_ | with_reducible refine w_eOr ?_ | with_reducible refine w_eIf ?_ | with_reducible refine w_addI ?_ | with_reducible refine w_sub ?_ | with_reducible refine w_neg ?_ | with_reducible refine w_not ?_ | with_reducible refine w_cmp ?_ | with_reducible refine w_ltI ?_ | with_reducible refine w_nSl ?_ | with_reducible refine w_cutL ?_ | with_reducible refine w_slL ?_ | with_reducible refine w_slR ?_ | with_reducible refine w_gL2 ?_ | with_reducible refine w_gL3 ?_ | with_reducible refine w_gL5 ?_ | with_reducible refine w_eqI ?_ | with_reducible refine w_eqS ?_ | with_reducible refine w_eqB ?_ | with_reducible refine w_neE ?_ | with_reducible refine w_eqE ?_ | with_reducible refine w_neI ?_ | with_reducible refine w_neS ?_ | with_reducible refine w_lenL ?_ | with_reducible refine w_lenT ?_ | with_reducible refine w_lenR ?_ | with_reducible refine w_intI ?_ | ((with_reducible apply w_intBt); (first | decide +kernel | exact rfl)) | ((with_reducible apply w_intBf); (first | decide +kernel | exact rfl)) | with_reducible refine w_intB ?_ | with_reducible refine w_tupleL ?_ | with_reducible refine w_tupleT ?_ | with_reducible refine w_listL ?_ | with_reducible refine w_listT ?_ | with_reducible refine w_max2P (fun r _ _ _ => ?_) | with_reducible refine w_min2P (fun r _ _ _ => ?_) | ((with_reducible apply w_isi); exact rfl) | with_reducible refine w_oN ?_ | with_reducible refine w_oS ?_ | with_reducible refine w_eSl ?_ | with_reducible refine w_sl1 ?_ | with_reducible refine w_sl2 ?_ | with_reducible refine w_sl3 ?_ | ((with_reducible apply w_ixT); exact rfl) | with_reducible refine w_mod (by decide) ?_ | with_reducible refine w_div (by decide) ?_ | with_reducible refine w_pow (by decide) ?_ | with_reducible refine w_own ?_ | with_reducible refine w_xsN ?_ | with_reducible refine w_xsC ?_ | with_reducible refine w_xA ?_ | with_reducible refine w_app ?_ | ((with_reducible refine sq_nx ?_); try simp only [esc_nil, esc_int, esc_str, esc_bl, esc_non, List.set_cons_zero, List.set_cons_succ, unown_nil, unown_noO, esc_noO, noO_nil, noO_cons, isOwn_val, isOwn_no, isOwn_own, isOwn_succ, Bool.not_false, Bool.and_self]) | with_reducible refine sq_ret ?_ | with_reducible refine rq_ret ?_ | with_reducible refine lq_ret ?_ | ((with_reducible refine lq_nx ?_); try simp only [esc_nil, esc_int, esc_str, esc_bl, esc_non, List.set_cons_zero, List.set_cons_succ, unown_nil, unown_noO, esc_noO, noO_nil, noO_cons, isOwn_val, isOwn_no, isOwn_own, isOwn_succ, Bool.not_false, Bool.and_self]) | ((with_reducible refine w_sFor ?_); try simp only [esc_nil, esc_int, esc_str, esc_bl, esc_non, List.set_cons_zero, List.set_cons_succ, unown_nil, unown_noO, esc_noO, noO_nil, noO_cons, isOwn_val, isOwn_no, isOwn_own, isOwn_succ, Bool.not_false, Bool.and_self]) | with_reducible refine w_iV ?_ | with_reducible refine w_iE ?_ | with_reducible refine w_itL ?_ | with_reducible refine w_itT ?_ | with_reducible refine w_itS ?_ | with_reducible refine w_lcG ?_ | with_reducible refine w_while0 ?_ | with_reducible refine w_mulI (mulOk_r (by decide)) ?_ | with_reducible refine w_mulI (mulOk_l (by decide)) ?_ | with_reducible refine ex_int ?_ | with_reducible refine ex_bl ?_ | with_reducible refine ex_lst ?_ | with_reducible refine an_int ?_ | with_reducible refine an_big0 ?_ | with_reducible refine an_bigl0 ?_ | with_reducible refine an_big1 ?_ | with_reducible refine an_bigl1 ?_ | with_reducible refine an_big2 ?_ | with_reducible refine an_bigl2 ?_ | with_reducible refine an_big3 ?_ | with_reducible refine an_bigl3 ?_ | with_reducible refine an_big4 ?_ | with_reducible refine an_bigl4 ?_ | with_reducible refine an_big5 ?_ | with_reducible refine an_bigl5 ?_ | with_reducible refine an_big6 ?_ | with_reducible refine an_bigl6 ?_ | with_reducible refine an_big7 ?_ | with_reducible refine an_bigl7 ?_ | with_reducible refine an_big8 ?_ | with_reducible refine an_bigl8 ?_ | with_reducible refine an_big (by decide) ?_ | with_reducible refine an_bigl (by decide) ?_ | with_reducible refine w_compN ?_ | with_reducible refine w_compC ?_ | with_reducible refine w_addT1 (by simp) ?_ | ((with_reducible apply an_own); exact rfl) | ((with_reducible apply ex_app); (first | exact rfl | (simp only [esc_nil, esc_int, esc_str, esc_bl, esc_non, List.set_cons_zero, List.set_cons_succ, unown_nil, unown_noO, esc_noO, noO_nil, noO_cons, isOwn_val, isOwn_no, isOwn_own, isOwn_succ, Bool.not_false, Bool.and_self]; exact rfl))) | ((with_reducible apply w_augI); exact rfl) | ((with_reducible apply w_augL); exact rfl) | ((with_reducible apply br_t); (first | decide +kernel | exact rfl)) | ((with_reducible apply br_f); (first | decide +kernel | exact rfl)) | with_reducible refine br_n ?_ | with_reducible refine br_d (fun _ => ?_) (fun _ => ?_) | with_reducible refine br_e (fun _ => ?_) (fun _ => ?_) | with_reducible refine br_s (fun _ => ?_) (fun _ => ?_) | with_reducible refine br_2 (fun _ => ?_) (fun _ => ?_)))
    rw [encTs_map]
    refine w_forA (I := fun ds ρ => ∃ (a b : List Tr) (s : Sl), kidsT t = a ++ b ∧ ds = b.map encT ∧ ρ = [Sl.val (encT t), Sl.val (.lst ((keysTs a).map encK)), s]) _ ⟨[], kidsT t, _, rfl, rfl, rfl⟩ (fun d ds ρ hI => ?_) (fun ρ hI => ?_)
    · obtain ⟨a, b, s, e1, e2, rfl⟩ := hI
      obtain ⟨u, b, rfl⟩ : ∃ u r, b = u :: r := by
        cases b with
        | nil => cases e2
        | cons u r => exact ⟨u, r, rfl⟩
      obtain ⟨rfl, rfl⟩ := List.cons.inj e2
      have hu : u ∈ kidsT t := by rw [e1]; simp
      have hh := hgts_le hu
      rw [e1, keysTs_app] at hkk
      have e3 : keysTs (u :: b) = keysT u ++ keysTs b := rfl
      rw [e3] at hkk
      simp only [List.length_append] at hkk
      (repeat' (first | with_reducible refine ih u (by omega) (okTs_mem ok1 hu) (by omega) (by omega) ?_ | with_reducible refine w_addL (by simp only [List.length_map]; omega) ?_ | with_reducible refine w_seq ?_ | with_reducible refine w_sIf ?_ | with_reducible refine w_nil ?_ | with_reducible refine w_ret ?_ | with_reducible refine w_sG ?_ | with_reducible refine w_xP ?_ | with_reducible refine w_gN ?_ | with_reducible refine w_gsN ?_ | with_reducible refine w_gsC ?_ | with_reducible refine w_gT2 ?_ | with_reducible refine w_gT3 ?_ | with_reducible refine w_gT (by rfl) ?_ | with_reducible refine w_c ?_ | ((with_reducible apply w_v); exact rfl) | ((with_reducible apply w_vo); exact rfl) | with_reducible refine w_e1 ?_ | with_reducible refine w_e2 ?_ | with_reducible refine w_esN ?_ | with_reducible refine w_esC ?_ | with_reducible refine w_eA ?_ | with_reducible refine w_nL ?_ | with_reducible refine w_eL ?_ | with_reducible refine w_lsG ?_ | with_reducible refine w_tup0 ?_ | with_reducible refine w_tup1 ?_ | with_reducible refine w_tup2 ?_ | with_reducible refine w_tup3 ?_ | with_reducible refine w_tup4 ?_ | with_reducible refine w_tup5 ?_ | with_reducible refine w_tup6 ?_ | with_reducible refine w_tup (by decide) ?_ | with_reducible refine w_tE ?_ | with_reducible refine w_dB ?_ | with_reducible refine w_tNo ?_ | with_reducible refine w_tAn ?_ | with_reducible refine w_tOr ?_ | with_reducible refine w_tY ?_ | with_reducible refine w_eAn ?_ | with_reducible refine w_eOr ?_ | with_reducible refine w_eIf ?_ | with_reducible refine w_addI ?_ | with_reducible refine w_sub ?_ | with_reducible refine w_neg ?_ | with_reducible refine w_not ?_ | with_reducible refine w_cmp ?_ | with_reducible refine w_ltI ?_ | with_reducible refine w_nSl ?_ | with_reducible refine w_cutL ?_ | with_reducible refine w_slL ?_ | with_reducible refine w_slR ?_ | with_reducible refine w_gL2 ?_ | with_reducible refine w_gL3 ?_ | with_reducible refine w_gL5 ?_ | with_reducible refine w_eqI ?_ | with_reducible refine w_eqS ?_ | with_reducible refine w_eqB ?_ | with_reducible refine w_neE ?_ | with_reducible refine w_eqE ?_ | with_reducible refine w_neI ?_ | with_reducible refine w_neS ?_ | with_reducible refine w_lenL ?_ | with_reducible refine w_lenT ?_ | with_reducible refine w_lenR ?_ | with_reducible refine w_intI ?_ | ((with_reducible apply w_intBt); (first | decide +kernel | exact rfl)) | ((with_reducible apply w_intBf); (first | decide +kernel | exact rfl)) | with_reducible refine w_intB ?_ | with_reducible refine w_tupleL ?_ | with_reducible refine w_tupleT ?_ | with_reducible refine w_listL ?_ | with_reducible refine w_listT ?_ | with_reducible refine w_max2P (fun r _ _ _ => ?_) | with_reducible refine w_min2P (fun r _ _ _ => ?_) | ((with_reducible apply w_isi); exact rfl) | with_reducible refine w_oN ?_ | with_reducible refine w_oS ?_ | with_reducible refine w_eSl ?_ | with_reducible refine w_sl1 ?_ | with_reducible refine w_sl2 ?_ | with_reducible refine w_sl3 ?_ | ((with_reducible apply w_ixT); exact rfl) | with_reducible refine w_mod (by decide) ?_ | with_reducible refine w_div (by decide) ?_ | with_reducible refine w_pow (by decide) ?_ | with_reducible refine w_own ?_ | with_reducible refine w_xsN ?_ | with_reducible refine w_xsC ?_ | with_reducible refine w_xA ?_ | with_reducible refine w_app ?_ | ((with_reducible refine sq_nx ?_); try simp only [esc_nil, esc_int, esc_str, esc_bl, esc_non, List.set_cons_zero, List.set_cons_succ, unown_nil, unown_noO, esc_noO, noO_nil, noO_cons, isOwn_val, isOwn_no, isOwn_own, isOwn_succ, Bool.not_false, Bool.and_self]) | with_reducible refine sq_ret ?_ | with_reducible refine rq_ret ?_ | with_reducible refine lq_ret ?_ | ((with_reducible refine lq_nx ?_); try simp only [esc_nil, esc_int, esc_str, esc_bl, esc_non, List.set_cons_zero, List.set_cons_succ, unown_nil, unown_noO, esc_noO, noO_nil, noO_cons, isOwn_val, isOwn_no, isOwn_own, isOwn_succ, Bool.not_false, Bool.and_self]) | ((with_reducible refine w_sFor ?_); try simp only [esc_nil, esc_int, esc_str, esc_bl, esc_non, List.set_cons_zero, List.set_cons_succ, unown_nil, unown_noO, esc_noO, noO_nil, noO_cons, isOwn_val, isOwn_no, isOwn_own, isOwn_succ, Bool.not_false, Bool.and_self]) | with_reducible refine w_iV ?_ | with_reducible refine w_iE ?_ | with_reducible refine w_itL ?_ | with_reducible refine w_itT ?_ | with_reducible refine w_itS ?_ | with_reducible refine w_lcG ?_ | with_reducible refine w_while0 ?_ | with_reducible refine w_mulI (mulOk_r (by decide)) ?_ | with_reducible refine w_mulI (mulOk_l (by decide)) ?_ | with_reducible refine ex_int ?_ | with_reducible refine ex_bl ?_ | with_reducible refine ex_lst ?_ | with_reducible refine an_int ?_ | with_reducible refine an_big0 ?_ | with_reducible refine an_bigl0 ?_ | with_reducible refine an_big1 ?_ | with_reducible refine an_bigl1 ?_ | with_reducible refine an_big2 ?_ | with_reducible refine an_bigl2 ?_ | with_reducible refine an_big3 ?_ | with_reducible refine an_bigl3 ?_ | with_reducible refine an_big4 ?_ | with_reducible refine an_bigl4 ?_ | with_reducible refine an_big5 ?_ | with_reducible refine an_bigl5 ?_ | with_reducible refine an_big6 ?_ | with_reducible refine an_bigl6 ?_ | with_reducible refine an_big7 ?_ | with_reducible refine an_bigl7 ?_ | with_reducible refine an_big8 ?_ | with_reducible refine an_bigl8 ?_ | with_reducible refine an_big (by decide) ?_ | with_reducible refine an_bigl (by decide) ?_ | with_reducible refine w_compN ?_ | with_reducible refine w_compC ?_ | with_reducible refine w_addT1 (by simp) ?_ | ((with_reducible apply an_own); exact rfl) | ((with_reducible apply ex_app); (first | exact rfl | (simp only [esc_nil, esc_int, esc_str, esc_bl, esc_non, List.set_cons_zero, List.set_cons_succ, unown_nil, unown_noO, esc_noO, noO_nil, noO_cons, isOwn_val, isOwn_no, isOwn_own, isOwn_succ, Bool.not_false, Bool.and_self]; exact rfl))) | ((with_reducible apply w_augI); exact rfl) | ((with_reducible apply w_augL); exact rfl) | ((with_reducible apply br_t); (first | decide +kernel | exact rfl)) | ((with_reducible apply br_f); (first | decide +kernel | exact rfl)) | with_reducible refine br_n ?_ | with_reducible refine br_d (fun _ => ?_) (fun _ => ?_) | with_reducible refine br_e (fun _ => ?_) (fun _ => ?_) | with_reducible refine br_s (fun _ => ?_) (fun _ => ?_) | with_reducible refine br_2 (fun _ => ?_) (fun _ => ?_)))
      have e4 : keysTs (a ++ [u]) = keysTs a ++ keysT u := by
        rw [keysTs_app]
        show _ ++ (keysT u ++ []) = _
        rw [List.append_nil]
      rw [← List.map_append, ← e4]
      exact ⟨a ++ [u], b, _, by rw [e1]; simp, rfl, rfl⟩
    · obtain ⟨a, b, s, e1, e2, rfl⟩ := hI
      have hb : b = [] := List.map_eq_nil_iff.mp e2.symm
      subst hb
      rw [List.append_nil] at e1
      rw [← e1]
      cases t with
      | close =>
        simp only [encT]
        (repeat' (first | with_reducible refine w_seq ?_ | with_reducible refine w_sIf ?_ | with_reducible refine w_nil ?_ | with_reducible refine w_ret ?_ | with_reducible refine w_sG ?_ | with_reducible refine w_xP ?_ | with_reducible refine w_gN ?_ | with_reducible refine w_gsN ?_ | with_reducible refine w_gsC ?_ | with_reducible refine w_gT2 ?_ | with_reducible refine w_gT3 ?_ | with_reducible refine w_gT (by rfl) ?_ | with_reducible refine w_c ?_ | ((with_reducible apply w_v); exact rfl) | ((with_reducible apply w_vo); exact rfl) | with_reducible refine w_e1 ?_ | with_reducible refine w_e2 ?_ | with_reducible refine w_esN ?_ | with_reducible refine w_esC ?_ | with_reducible refine w_eA ?_ | with_reducible refine w_nL ?_ | with_reducible refine w_eL ?_ | with_reducible refine w_lsG ?_ | with_reducible refine w_tup0 ?_ | with_reducible refine w_tup1 ?_ | with_reducible refine w_tup2 ?_ | with_reducible refine w_tup3 ?_ | with_reducible refine w_tup4 ?_ | with_reducible refine w_tup5 ?_ | with_reducible refine w_tup6 ?_ | with_reducible refine w_tup (by decide) ?_ | with_reducible refine w_tE ?_ | with_reducible refine w_dB ?_ | with_reducible refine w_tNo ?_ | with_reducible refine w_tAn ?_ | with_reducible refine w_tOr ?_ | with_reducible refine w_tY ?_ | with_reducible refine w_eAn ?_ | with_reducible refine w_eOr ?_ | with_reducible refine w_eIf ?_ | with_reducible refine w_addI ?_ | with_reducible refine w_sub ?_ | with_reducible refine w_neg ?_ | with_reducible refine w_not ?_ | with_reducible refine w_cmp ?_ | with_reducible refine w_ltI ?_ | with_reducible refine w_nSl ?_ | with_reducible refine w_cutL ?_ | with_reducible refine w_slL ?_ | with_reducible refine w_slR ?_ | with_reducible refine w_gL2 ?_ | with_reducible refine w_gL3 ?_ | with_reducible refine w_gL5 ?_ | with_reducible refine w_eqI ?_ | with_reducible refine w_eqS ?_ | with_reducible refine w_eqB ?_ | with_reducible refine w_neE ?_ | with_reducible refine w_eqE ?_ | with_reducible refine w_neI ?_ | with_reducible refine w_neS ?_ | with_reducible refine w_lenL ?_ | with_reducible refine w_lenT ?_ | with_reducible refine w_lenR ?_ | with_reducible refine w_intI ?_ | ((with_reducible apply w_intBt); (first | decide +kernel | exact rfl)) | ((with_reducible apply w_intBf); (first | decide +kernel | exact rfl)) | with_reducible refine w_intB ?_ | with_reducible refine w_tupleL ?_ | with_reducible refine w_tupleT ?_ | with_reducible refine w_listL ?_ | with_reducible refine w_listT ?_ | with_reducible refine w_max2P (fun r _ _ _ => ?_) | with_reducible refine w_min2P (fun r _ _ _ => ?_) | ((with_reducible apply w_isi); exact rfl) | with_reducible refine w_oN ?_ | with_reducible refine w_oS ?_ | with_reducible refine w_eSl ?_ | with_reducible refine w_sl1 ?_ | with_reducible refine w_sl2 ?_ | with_reducible refine w_sl3 ?_ | ((with_reducible apply w_ixT); exact rfl) | with_reducible refine w_mod (by decide) ?_ | with_reducible refine w_div (by decide) ?_ | with_reducible refine w_pow (by decide) ?_ | with_reducible refine w_own ?_ | with_reducible refine w_xsN ?_ | with_reducible refine w_xsC ?_ | with_reducible refine w_xA ?_ | with_reducible refine w_app ?_ | ((with_reducible refine sq_nx ?_); try simp only [esc_nil, esc_int, esc_str, esc_bl, esc_non, List.set_cons_zero, List.set_cons_succ, unown_nil, unown_noO, esc_noO, noO_nil, noO_cons, isOwn_val, isOwn_no, isOwn_own, isOwn_succ, Bool.not_false, Bool.and_self]) | with_reducible refine sq_ret ?_ | with_reducible refine rq_ret ?_ | with_reducible refine lq_ret ?_ | ((with_reducible refine lq_nx ?_); try simp only [esc_nil, esc_int, esc_str, esc_bl, esc_non, List.set_cons_zero, List.set_cons_succ, unown_nil, unown_noO, esc_noO, noO_nil, noO_cons, isOwn_val, isOwn_no, isOwn_own, isOwn_succ, Bool.not_false, Bool.and_self]) | ((with_reducible refine w_sFor ?_); try simp only [esc_nil, esc_int, esc_str, esc_bl, esc_non, List.set_cons_zero, List.set_cons_succ, unown_nil, unown_noO, esc_noO, noO_nil, noO_cons, isOwn_val, isOwn_no, isOwn_own, isOwn_succ, Bool.not_false, Bool.and_self]) | with_reducible refine w_iV ?_ | with_reducible refine w_iE ?_ | with_reducible refine w_itL ?_ | with_reducible refine w_itT ?_ | with_reducible refine w_itS ?_ | with_reducible refine w_lcG ?_ | with_reducible refine w_while0 ?_ | with_reducible refine w_mulI (mulOk_r (by decide)) ?_ | with_reducible refine w_mulI (mulOk_l (by decide)) ?_ | with_reducible refine ex_int ?_ | with_reducible refine ex_bl ?_ | with_reducible refine ex_lst ?_ | with_reducible refine an_int ?_ | with_reducible refine an_big0 ?_ | with_reducible refine an_bigl0 ?_ | with_reducible refine an_big1 ?_ | with_reducible refine an_bigl1 ?_ | with_reducible refine an_big2 ?_ | with_reducible refine an_bigl2 ?_ | with_reducible refine an_big3 ?_ | with_reducible refine an_bigl3 ?_ | with_reducible refine an_big4 ?_ | with_reducible refine an_bigl4 ?_ | with_reducible refine an_big5 ?_ | with_reducible refine an_bigl5 ?_ | with_reducible refine an_big6 ?_ | with_reducible refine an_bigl6 ?_ | with_reducible refine an_big7 ?_ | with_reducible refine an_bigl7 ?_ | with_reducible refine an_big8 ?_ | with_reducible refine an_bigl8 ?_ | with_reducible refine an_big (by decide) ?_ | with_reducible refine an_bigl (by decide) ?_ | with_reducible refine w_compN ?_ | with_reducible refine w_compC ?_ | with_reducible refine w_addT1 (by simp) ?_ | ((with_reducible apply an_own); exact rfl) | ((with_reducible apply ex_app); (first | exact rfl | (simp only [esc_nil, esc_int, esc_str, esc_bl, esc_non, List.set_cons_zero, List.set_cons_succ, unown_nil, unown_noO, esc_noO, noO_nil, noO_cons, isOwn_val, isOwn_no, isOwn_own, isOwn_succ, Bool.not_false, Bool.and_self]; exact rfl))) | ((with_reducible apply w_augI); exact rfl) | ((with_reducible apply w_augL); exact rfl) | ((with_reducible apply br_t); (first | decide +kernel | exact rfl)) | ((with_reducible apply br_f); (first | decide +kernel | exact rfl)) | with_reducible refine br_n ?_ | with_reducible refine br_d (fun _ => ?_) (fun _ => ?_) | with_reducible refine br_e (fun _ => ?_) (fun _ => ?_) | with_reducible refine br_s (fun _ => ?_) (fun _ => ?_) | with_reducible refine br_2 (fun _ => ?_) (fun _ => ?_)))
        all_goals exact q
      | rule sd s nm ks =>
        simp only [encT]
        (repeat' (first | with_reducible refine w_seq ?_ | with_reducible refine w_sIf ?_ | with_reducible refine w_nil ?_ | with_reducible refine w_ret ?_ | with_reducible refine w_sG ?_ | with_reducible refine w_xP ?_ | with_reducible refine w_gN ?_ | with_reducible refine w_gsN ?_ | with_reducible refine w_gsC ?_ | with_reducible refine w_gT2 ?_ | with_reducible refine w_gT3 ?_ | with_reducible refine w_gT (by rfl) ?_ | with_reducible refine w_c ?_ | ((with_reducible apply w_v); exact rfl) | ((with_reducible apply w_vo); exact rfl) | with_reducible refine w_e1 ?_ | with_reducible refine w_e2 ?_ | with_reducible refine w_esN ?_ | with_reducible refine w_esC ?_ | with_reducible refine w_eA ?_ | with_reducible refine w_nL ?_ | with_reducible refine w_eL ?_ | with_reducible refine w_lsG ?_ | with_reducible refine w_tup0 ?_ | with_reducible refine w_tup1 ?_ | with_reducible refine w_tup2 ?_ | with_reducible refine w_tup3 ?_ | with_reducible refine w_tup4 ?_ | with_reducible refine w_tup5 ?_ | with_reducible refine w_tup6 ?_ | with_reducible refine w_tup (by decide) ?_ | with_reducible refine w_tE ?_ | with_reducible refine w_dB ?_ | with_reducible refine w_tNo ?_ | with_reducible refine w_tAn ?_ | with_reducible refine w_tOr ?_ | with_reducible refine w_tY ?_ | with_reducible refine w_eAn ?_ | with_reducible refine w_eOr ?_ | with_reducible refine w_eIf ?_ | with_reducible refine w_addI ?_ | with_reducible refine w_sub ?_ | with_reducible refine w_neg ?_ | with_reducible refine w_not ?_ | with_reducible refine w_cmp ?_ | with_reducible refine w_ltI ?_ | with_reducible refine w_nSl ?_ | with_reducible refine w_cutL ?_ | with_reducible refine w_slL ?_ | with_reducible refine w_slR ?_ | with_reducible refine w_gL2 ?_ | with_reducible refine w_gL3 ?_ | with_reducible refine w_gL5 ?_ | with_reducible refine w_eqI ?_ | with_reducible refine w_eqS ?_ | with_reducible refine w_eqB ?_ | with_reducible refine w_neE ?_ | with_reducible refine w_eqE ?_ | with_reducible refine w_neI ?_ | with_reducible refine w_neS ?_ | with_reducible refine w_lenL ?_ | with_reducible refine w_lenT ?_ | with_reducible refine w_lenR ?_ | with_reducible refine w_intI ?_ | ((with_reducible apply w_intBt); (first | decide +kernel | exact rfl)) | ((with_reducible apply w_intBf); (first | decide +kernel | exact rfl)) | with_reducible refine w_intB ?_ | with_reducible refine w_tupleL ?_ | with_reducible refine w_tupleT ?_ | with_reducible refine w_listL ?_ | with_reducible refine w_listT ?_ | with_reducible refine w_max2P (fun r _ _ _ => ?_) | with_reducible refine w_min2P (fun r _ _ _ => ?_) | ((with_reducible apply w_isi); exact rfl) | with_reducible refine w_oN ?_ | with_reducible refine w_oS ?_ | with_reducible refine w_eSl ?_ | with_reducible refine w_sl1 ?_ | with_reducible refine w_sl2 ?_ | with_reducible refine w_sl3 ?_ | ((with_reducible apply w_ixT); exact rfl) | with_reducible refine w_mod (by decide) ?_ | with_reducible refine w_div (by decide) ?_ | with_reducible refine w_pow (by decide) ?_ | with_reducible refine w_own ?_ | with_reducible refine w_xsN ?_ | with_reducible refine w_xsC ?_ | with_reducible refine w_xA ?_ | with_reducible refine w_app ?_ | ((with_reducible refine sq_nx ?_); try simp only [esc_nil, esc_int, esc_str, esc_bl, esc_non, List.set_cons_zero, List.set_cons_succ, unown_nil, unown_noO, esc_noO, noO_nil, noO_cons, isOwn_val, isOwn_no, isOwn_own, isOwn_succ, Bool.not_false, Bool.and_self]) | with_reducible refine sq_ret ?_ | with_reducible refine rq_ret ?_ | with_reducible refine lq_ret ?_ | ((with_reducible refine lq_nx ?_); try simp only [esc_nil, esc_int, esc_str, esc_bl, esc_non, List.set_cons_zero, List.set_cons_succ, unown_nil, unown_noO, esc_noO, noO_nil, noO_cons, isOwn_val, isOwn_no, isOwn_own, isOwn_succ, Bool.not_false, Bool.and_self]) | ((with_reducible refine w_sFor ?_); try simp only [esc_nil, esc_int, esc_str, esc_bl, esc_non, List.set_cons_zero, List.set_cons_succ, unown_nil, unown_noO, esc_noO, noO_nil, noO_cons, isOwn_val, isOwn_no, isOwn_own, isOwn_succ, Bool.not_false, Bool.and_self]) | with_reducible refine w_iV ?_ | with_reducible refine w_iE ?_ | with_reducible refine w_itL ?_ | with_reducible refine w_itT ?_ | with_reducible refine w_itS ?_ | with_reducible refine w_lcG ?_ | with_reducible refine w_while0 ?_ | with_reducible refine w_mulI (mulOk_r (by decide)) ?_ | with_reducible refine w_mulI (mulOk_l (by decide)) ?_ | with_reducible refine ex_int ?_ | with_reducible refine ex_bl ?_ | with_reducible refine ex_lst ?_ | with_reducible refine an_int ?_ | with_reducible refine an_big0 ?_ | with_reducible refine an_bigl0 ?_ | with_reducible refine an_big1 ?_ | with_reducible refine an_bigl1 ?_ | with_reducible refine an_big2 ?_ | with_reducible refine an_bigl2 ?_ | with_reducible refine an_big3 ?_ | with_reducible refine an_bigl3 ?_ | with_reducible refine an_big4 ?_ | with_reducible refine an_bigl4 ?_ | with_reducible refine an_big5 ?_ | with_reducible refine an_bigl5 ?_ | with_reducible refine an_big6 ?_ | with_reducible refine an_bigl6 ?_ | with_reducible refine an_big7 ?_ | with_reducible refine an_bigl7 ?_ | with_reducible refine an_big8 ?_ | with_reducible refine an_bigl8 ?_ | with_reducible refine an_big (by decide) ?_ | with_reducible refine an_bigl (by decide) ?_ | with_reducible refine w_compN ?_ | with_reducible refine w_compC ?_ | with_reducible refine w_addT1 (by simp) ?_ | ((with_reducible apply an_own); exact rfl) | ((with_reducible apply ex_app); (first | exact rfl | (simp only [esc_nil, esc_int, esc_str, esc_bl, esc_non, List.set_cons_zero, List.set_cons_succ, unown_nil, unown_noO, esc_noO, noO_nil, noO_cons, isOwn_val, isOwn_no, isOwn_own, isOwn_succ, Bool.not_false, Bool.and_self]; exact rfl))) | ((with_reducible apply w_augI); exact rfl) | ((with_reducible apply w_augL); exact rfl) | ((with_reducible apply br_t); (first | decide +kernel | exact rfl)) | ((with_reducible apply br_f); (first | decide +kernel | exact rfl)) | with_reducible refine br_n ?_ | with_reducible refine br_d (fun _ => ?_) (fun _ => ?_) | with_reducible refine br_e (fun _ => ?_) (fun _ => ?_) | with_reducible refine br_s (fun _ => ?_) (fun _ => ?_) | with_reducible refine br_2 (fun _ => ?_) (fun _ => ?_)))
        all_goals exact q
      | cut s ks =>
        have okc : dep s ≤ 4 ∧ short s ∧ ks.length = 2 ∧ okTs ks := ok
        obtain ⟨u, v, rfl⟩ : ∃ u v, ks = [u, v] := by
          match ks, okc.2.2.1 with
          | [u, v], _ => exact ⟨u, v, rfl⟩
        have hu := hgts_le (t := u) (ts := kidsT (.cut s [u, v])) (by simp [kidsT])
        have hv := hgts_le (t := v) (ts := kidsT (.cut s [u, v])) (by simp [kidsT])
        have ou := okTs_mem (t := u) ok1 (by simp [kidsT])
        have ov := okTs_mem (t := v) ok1 (by simp [kidsT])
        have eq : keysT (.cut s [u, v]) = if (keysTs [u, v]).isEmpty = true then [((sgn s : Int), 0, (hgt u : Int) + (hgt v : Int))] else keysTs [u, v] ++ [((sgn s : Int), 1, 0)] := rfl
        rw [eq] at q
        have ek : kidsT (.cut s [u, v]) = [u, v] := rfl
        rw [ek] at hkk ⊢
        have hl : ((keysTs [u, v]).map encK).length ≤ 1000 := by rw [List.length_map]; omega
        simp only [encT, encTs]
        (repeat' (first | with_reducible refine w_ixT rfl ?_ | with_reducible refine signs_ok s (by omega) ?_ | with_reducible refine height_ok k u (by omega) ou (by omega) ?_ | with_reducible refine height_ok k v (by omega) ov (by omega) ?_ | with_reducible refine w_seq ?_ | with_reducible refine w_sIf ?_ | with_reducible refine w_nil ?_ | with_reducible refine w_ret ?_ | with_reducible refine w_sG ?_ | with_reducible refine w_xP ?_ | with_reducible refine w_gN ?_ | with_reducible refine w_gsN ?_ | with_reducible refine w_gsC ?_ | with_reducible refine w_gT2 ?_ | with_reducible refine w_gT3 ?_ | with_reducible refine w_gT (by rfl) ?_ | with_reducible refine w_c ?_ | ((with_reducible apply w_v); exact rfl) | ((with_reducible apply w_vo); exact rfl) | with_reducible refine w_e1 ?_ | with_reducible refine w_e2 ?_ | with_reducible refine w_esN ?_ | with_reducible refine w_esC ?_ | with_reducible refine w_eA ?_ | with_reducible refine w_nL ?_ | with_reducible refine w_eL ?_ | with_reducible refine w_lsG ?_ | with_reducible refine w_tup0 ?_ | with_reducible refine w_tup1 ?_ | with_reducible refine w_tup2 ?_ | with_reducible refine w_tup3 ?_ | with_reducible refine w_tup4 ?_ | with_reducible refine w_tup5 ?_ | with_reducible refine w_tup6 ?_ | with_reducible refine w_tup (by decide) ?_ | with_reducible refine w_tE ?_ | with_reducible refine w_dB ?_ | with_reducible refine w_tNo ?_ | with_reducible refine w_tAn ?_ | with_reducible refine w_tOr ?_ | with_reducible refine w_tY ?_ | with_reducible refine w_eAn ?_ | with_reducible refine w_eOr ?_ | with_reducible refine w_eIf ?_ | with_reducible refine w_addI ?_ | with_reducible refine w_sub ?_ | with_reducible refine w_neg ?_ | with_reducible refine w_not ?_ | with_reducible refine w_cmp ?_ | with_reducible refine w_ltI ?_ | with_reducible refine w_nSl ?_ | with_reducible refine w_cutL ?_ | with_reducible refine w_slL ?_ | with_reducible refine w_slR ?_ | with_reducible refine w_gL2 ?_ | with_reducible refine w_gL3 ?_ | with_reducible refine w_gL5 ?_ | with_reducible refine w_eqI ?_ | with_reducible refine w_eqS ?_ | with_reducible refine w_eqB ?_ | with_reducible refine w_neE ?_ | with_reducible refine w_eqE ?_ | with_reducible refine w_neI ?_ | with_reducible refine w_neS ?_ | with_reducible refine w_lenL ?_ | with_reducible refine w_lenT ?_ | with_reducible refine w_lenR ?_ | with_reducible refine w_intI ?_ | ((with_reducible apply w_intBt); (first | decide +kernel | exact rfl)) | ((with_reducible apply w_intBf); (first | decide +kernel | exact rfl)) | with_reducible refine w_intB ?_ | with_reducible refine w_tupleL ?_ | with_reducible refine w_tupleT ?_ | with_reducible refine w_listL ?_ | with_reducible refine w_listT ?_ | with_reducible refine w_max2P (fun r _ _ _ => ?_) | with_reducible refine w_min2P (fun r _ _ _ => ?_) | ((with_reducible apply w_isi); exact rfl) | with_reducible refine w_oN ?_ | with_reducible refine w_oS ?_ | with_reducible refine w_eSl ?_ | with_reducible refine w_sl1 ?_ | with_reducible refine w_sl2 ?_ | with_reducible refine w_sl3 ?_ | ((with_reducible apply w_ixT); exact rfl) | with_reducible refine w_mod (by decide) ?_ | with_reducible refine w_div (by decide) ?_ | with_reducible refine w_pow (by decide) ?_ | with_reducible refine w_own ?_ | with_reducible refine w_xsN ?_ | with_reducible refine w_xsC ?_ | with_reducible refine w_xA ?_ | with_reducible refine w_app ?_ | ((with_reducible refine sq_nx ?_); try simp only [esc_nil, esc_int, esc_str, esc_bl, esc_non, List.set_cons_zero, List.set_cons_succ, unown_nil, unown_noO, esc_noO, noO_nil, noO_cons, isOwn_val, isOwn_no, isOwn_own, isOwn_succ, Bool.not_false, Bool.and_self]) | with_reducible refine sq_ret ?_ | with_reducible refine rq_ret ?_ | with_reducible refine lq_ret ?_ | ((with_reducible refine lq_nx ?_); try simp only [esc_nil, esc_int, esc_str, esc_bl, esc_non, List.set_cons_zero, List.set_cons_succ, unown_nil, unown_noO, esc_noO, noO_nil, noO_cons, isOwn_val, isOwn_no, isOwn_own, isOwn_succ, Bool.not_false, Bool.and_self]) | ((with_reducible refine w_sFor ?_); try simp only [esc_nil, esc_int, esc_str, esc_bl, esc_non, List.set_cons_zero, List.set_cons_succ, unown_nil, unown_noO, esc_noO, noO_nil, noO_cons, isOwn_val, isOwn_no, isOwn_own, isOwn_succ, Bool.not_false, Bool.and_self]) | with_reducible refine w_iV ?_ | with_reducible refine w_iE ?_ | with_reducible refine w_itL ?_ | with_reducible refine w_itT ?_ | with_reducible refine w_itS ?_ | with_reducible refine w_lcG ?_ | with_reducible refine w_while0 ?_ | with_reducible refine w_mulI (mulOk_r (by decide)) ?_ | with_reducible refine w_mulI (mulOk_l (by decide)) ?_ | with_reducible refine ex_int ?_ | with_reducible refine ex_bl ?_ | with_reducible refine ex_lst ?_ | with_reducible refine an_int ?_ | with_reducible refine an_big0 ?_ | with_reducible refine an_bigl0 ?_ | with_reducible refine an_big1 ?_ | with_reducible refine an_bigl1 ?_ | with_reducible refine an_big2 ?_ | with_reducible refine an_bigl2 ?_ | with_reducible refine an_big3 ?_ | with_reducible refine an_bigl3 ?_ | with_reducible refine an_big4 ?_ | with_reducible refine an_bigl4 ?_ | with_reducible refine an_big5 ?_ | with_reducible refine an_bigl5 ?_ | with_reducible refine an_big6 ?_ | with_reducible refine an_bigl6 ?_ | with_reducible refine an_big7 ?_ | with_reducible refine an_bigl7 ?_ | with_reducible refine an_big8 ?_ | with_reducible refine an_bigl8 ?_ | with_reducible refine an_big (by decide) ?_ | with_reducible refine an_bigl (by decide) ?_ | with_reducible refine w_compN ?_ | with_reducible refine w_compC ?_ | with_reducible refine w_addT1 (by simp) ?_ | ((with_reducible apply an_own); exact rfl) | ((with_reducible apply ex_app); (first | exact rfl | (simp only [esc_nil, esc_int, esc_str, esc_bl, esc_non, List.set_cons_zero, List.set_cons_succ, unown_nil, unown_noO, esc_noO, noO_nil, noO_cons, isOwn_val, isOwn_no, isOwn_own, isOwn_succ, Bool.not_false, Bool.and_self]; exact rfl))) | ((with_reducible apply w_augI); exact rfl) | ((with_reducible apply w_augL); exact rfl) | ((with_reducible apply br_t); (first | decide +kernel | exact rfl)) | ((with_reducible apply br_f); (first | decide +kernel | exact rfl)) | with_reducible refine br_n ?_ | with_reducible refine br_d (fun _ => ?_) (fun _ => ?_) | with_reducible refine br_e (fun _ => ?_) (fun _ => ?_) | with_reducible refine br_s (fun _ => ?_) (fun _ => ?_) | with_reducible refine br_2 (fun _ => ?_) (fun _ => ?_)))
        · rename_i hx
          rw [List.isEmpty_map] at hx
          rw [if_pos hx] at q
          exact q
        · rename_i hx
          rw [List.isEmpty_map] at hx
          rw [if_neg (by rw [hx]; decide)] at q
          refine w_addL (by show _ + 1 ≤ _; omega) ?_
          rw [List.map_append] at q
          exact q
theorem measure_ok {n : Nat} (t : Tr) (ht : hgt t ≤ 40) (ok : okT t) (hk : (keysT t).length ≤ 1000) (hn : 50 ≤ n) {Q : D → Prop} (hr : rowOk ((keysT t).map encK) = true) (q : Q (.lst (((keysT t).map encK).mergeSort (leD true)))) : Wp (fnL 1 (Phi n j_measure) [encT t]) Q := by
  obtain ⟨m, rfl⟩ : ∃ m, n = m + 1 := ⟨n - 1, by omega⟩
  apply R_measure
  unfold B_measure
  (repeat' (first | with_reducible refine keys_ok 40 t ht ok hk (by omega) ?_ | with_reducible refine w_sorted hr ?_ | with_reducible refine w_seq ?_ | with_reducible refine w_sIf ?_ | with_reducible refine w_nil ?_ | with_reducible refine w_ret ?_ | with_reducible refine w_sG ?_ | with_reducible refine w_xP ?_ | with_reducible refine w_gN ?_ | with_reducible refine w_gsN ?_ | with_reducible refine w_gsC ?_ | with_reducible refine w_gT2 ?_ | with_reducible refine w_gT3 ?_ | with_reducible refine w_gT (by rfl) ?_ | with_reducible refine w_c ?_ | ((with_reducible apply w_v); exact rfl) | ((with_reducible apply w_vo); exact rfl) | with_reducible refine w_e1 ?_ | with_reducible refine w_e2 ?_ | with_reducible refine w_esN ?_ | with_reducible refine w_esC ?_ | with_reducible refine w_eA ?_ | with_reducible refine w_nL ?_ | with_reducible refine w_eL ?_ | with_reducible refine w_lsG ?_ | with_reducible refine w_tup0 ?_ | with_reducible refine w_tup1 ?_ | with_reducible refine w_tup2 ?_ | with_reducible refine w_tup3 ?_ | with_reducible refine w_tup4 ?_ | with_reducible refine w_tup5 ?_ | with_reducible refine w_tup6 ?_ | with_reducible refine w_tup (by decide) ?_ | with_reducible refine w_tE ?_ | with_reducible refine w_dB ?_ | with_reducible refine w_tNo ?_ | with_reducible refine w_tAn ?_ | with_reducible refine w_tOr ?_ | with_reducible refine w_tY ?_ | with_reducible refine w_eAn ?_ | with_reducible refine w_eOr ?_ | with_reducible refine w_eIf ?_ | with_reducible refine w_addI ?_ | with_reducible refine w_sub ?_ | with_reducible refine w_neg ?_ | with_reducible refine w_not ?_ | with_reducible refine w_cmp ?_ | with_reducible refine w_ltI ?_ | with_reducible refine w_nSl ?_ | with_reducible refine w_cutL ?_ | with_reducible refine w_slL ?_ | with_reducible refine w_slR ?_ | with_reducible refine w_gL2 ?_ | with_reducible refine w_gL3 ?_ | with_reducible refine w_gL5 ?_ | with_reducible refine w_eqI ?_ | with_reducible refine w_eqS ?_ | with_reducible refine w_eqB ?_ | with_reducible refine w_neE ?_ | with_reducible refine w_eqE ?_ | with_reducible refine w_neI ?_ | with_reducible refine w_neS ?_ | with_reducible refine w_lenL ?_ | with_reducible refine w_lenT ?_ | with_reducible refine w_lenR ?_ | with_reducible refine w_intI ?_ | ((with_reducible apply w_intBt); (first | decide +kernel | exact rfl)) | ((with_reducible apply w_intBf); (first | decide +kernel | exact rfl)) | with_reducible refine w_intB ?_ | with_reducible refine w_tupleL ?_ | with_reducible refine w_tupleT ?_ | with_reducible refine w_listL ?_ | with_reducible refine w_listT ?_ | with_reducible refine w_max2P (fun r _ _ _ => ?_) | with_reducible refine w_min2P (fun r _ _ _ => ?_) | ((with_reducible apply w_isi); exact rfl) | with_reducible refine w_oN ?_ | with_reducible refine w_oS ?_ | with_reducible refine w_eSl ?_ | with_reducible refine w_sl1 ?_ | with_reducible refine w_sl2 ?_ | with_reducible refine w_sl3 ?_ | ((with_reducible apply w_ixT); exact rfl) | with_reducible refine w_mod (by decide) ?_ | with_reducible refine w_div (by decide) ?_ | with_reducible refine w_pow (by decide) ?_ | with_reducible refine w_own ?_ | with_reducible refine w_xsN ?_ | with_reducible refine w_xsC ?_ | with_reducible refine w_xA ?_ | with_reducible refine w_app ?_ | ((with_reducible refine sq_nx ?_); try simp only [esc_nil, esc_int, esc_str, esc_bl, esc_non, List.set_cons_zero, List.set_cons_succ, unown_nil, unown_noO, esc_noO, noO_nil, noO_cons, isOwn_val, isOwn_no, isOwn_own, isOwn_succ, Bool.not_false, Bool.and_self]) | with_reducible refine sq_ret ?_ | with_reducible refine rq_ret ?_ | with_reducible refine lq_ret ?_ | ((with_reducible refine lq_nx ?_); try simp only [esc_nil, esc_int, esc_str, esc_bl, esc_non, List.set_cons_zero, List.set_cons_succ, unown_nil, unown_noO, esc_noO, noO_nil, noO_cons, isOwn_val, isOwn_no, isOwn_own, isOwn_succ, Bool.not_false, Bool.and_self]) | ((with_reducible refine w_sFor ?_); try simp only [esc_nil, esc_int, esc_str, esc_bl, esc_non, List.set_cons_zero, List.set_cons_succ, unown_nil, unown_noO, esc_noO, noO_nil, noO_cons, isOwn_val, isOwn_no, isOwn_own, isOwn_succ, Bool.not_false, Bool.and_self]) | with_reducible refine w_iV ?_ | with_reducible refine w_iE ?_ | with_reducible refine w_itL ?_ | with_reducible refine w_itT ?_ | with_reducible refine w_itS ?_ | with_reducible refine w_lcG ?_ | with_reducible refine w_while0 ?_ | with_reducible refine w_mulI (mulOk_r (by decide)) ?_ | with_reducible refine w_mulI (mulOk_l (by decide)) ?_ | with_reducible refine ex_int ?_ | with_reducible refine ex_bl ?_ | with_reducible refine ex_lst ?_ | with_reducible refine an_int ?_ | with_reducible refine an_big0 ?_ | with_reducible refine an_bigl0 ?_ | with_reducible refine an_big1 ?_ | with_reducible refine an_bigl1 ?_ | with_reducible refine an_big2 ?_ | with_reducible refine an_bigl2 ?_ | with_reducible refine an_big3 ?_ | with_reducible refine an_bigl3 ?_ | with_reducible refine an_big4 ?_ | with_reducible refine an_bigl4 ?_ | with_reducible refine an_big5 ?_ | with_reducible refine an_bigl5 ?_ | with_reducible refine an_big6 ?_ | with_reducible refine an_bigl6 ?_ | with_reducible refine an_big7 ?_ | with_reducible refine an_bigl7 ?_ | with_reducible refine an_big8 ?_ | with_reducible refine an_bigl8 ?_ | with_reducible refine an_big (by decide) ?_ | with_reducible refine an_bigl (by decide) ?_ | with_reducible refine w_compN ?_ | with_reducible refine w_compC ?_ | with_reducible refine w_addT1 (by simp) ?_ | ((with_reducible apply an_own); exact rfl) | ((with_reducible apply ex_app); (first | exact rfl | (simp only [esc_nil, esc_int, esc_str, esc_bl, esc_non, List.set_cons_zero, List.set_cons_succ, unown_nil, unown_noO, esc_noO, noO_nil, noO_cons, isOwn_val, isOwn_no, isOwn_own, isOwn_succ, Bool.not_false, Bool.and_self]; exact rfl))) | ((with_reducible apply w_augI); exact rfl) | ((with_reducible apply w_augL); exact rfl) | ((with_reducible apply br_t); (first | decide +kernel | exact rfl)) | ((with_reducible apply br_f); (first | decide +kernel | exact rfl)) | with_reducible refine br_n ?_ | with_reducible refine br_d (fun _ => ?_) (fun _ => ?_) | with_reducible refine br_e (fun _ => ?_) (fun _ => ?_) | with_reducible refine br_s (fun _ => ?_) (fun _ => ?_) | with_reducible refine br_2 (fun _ => ?_) (fun _ => ?_)))
  exact q
end G

namespace G
open PySem L2 DL ST
theorem nk_encK (k : K3) : nk (encK k) = .tup [.num k.1, .num k.2.1, .num k.2.2] := by simp [encK, nk, nks]
theorem cmb_encK (a b : K3) : cmb (nk (encK a)) (nk (encK b)) = true := by
  rw [nk_encK, nk_encK]
  simp only [cmb, cmbA]
  split
  · split
    · split <;> rfl
    · rfl
  · rfl
theorem dep_encK (a : K3) : (nk (encK a)).depth = 1 := by rw [nk_encK]; simp [NestedKey.depth, NestedKey.depthAll]
theorem ok_encK (a : K3) : nkOk (encK a) = true := by simp [encK, nkOk, nkOks]
theorem kd_encK (a : K3) : kd (nk (encK a)) = 2 := by rw [nk_encK]; rfl
theorem row_encK (ks : List K3) (h : ks.length ≤ 1000) : rowOk (ks.map encK) = true := by
  unfold rowOk
  simp only [Bool.and_eq_true, List.all_eq_true, decide_eq_true_eq, beq_iff_eq, nkOks_all, nks_map, List.map_map, List.mem_map, Function.comp, List.length_map]
  refine ⟨⟨⟨⟨?_, ?_⟩, ?_⟩, ?_⟩, by omega⟩
  · rintro x ⟨a, _, rfl⟩
    exact ok_encK a
  · rintro x ⟨a, _, rfl⟩ y ⟨b, _, rfl⟩
    exact cmb_encK a b
  · rintro x ⟨a, _, rfl⟩
    refine ⟨by rw [kd_encK]; omega, ?_⟩
    rintro y ⟨b, _, rfl⟩
    rw [kd_encK, kd_encK]
  · rintro x ⟨a, _, rfl⟩
    rw [dep_encK]
    omega
theorem lt_encK (a b : K3) : (nkOk (encK a) && nkOk (encK b) && cmb (nk (encK a)) (nk (encK b)) && decide (min (nk (encK a)).depth (nk (encK b)).depth ≤ 60)) = true := by
  rw [ok_encK, ok_encK, cmb_encK, dep_encK, dep_encK]
  rfl
theorem key_ok {n : Nat} (hn : 1 ≤ n) (k : K3) {Q : D → Prop} (q : Q (.bl true)) : Wp (fnL 1 (Phi n j__law_key) [encK k]) Q := by
  obtain ⟨m, rfl⟩ : ∃ m, n = m + 1 := ⟨n - 1, by omega⟩
  apply R__law_key
  unfold B__law_key
  unfold encK
  (repeat' (first | with_reducible refine w_forC ?_ | with_reducible refine w_forN ?_ | with_reducible refine fq_nx ?_ | with_reducible refine w_seq ?_ | with_reducible refine w_sIf ?_ | with_reducible refine w_nil ?_ | with_reducible refine w_ret ?_ | with_reducible refine w_sG ?_ | with_reducible refine w_xP ?_ | with_reducible refine w_gN ?_ | with_reducible refine w_gsN ?_ | with_reducible refine w_gsC ?_ | with_reducible refine w_gT2 ?_ | with_reducible refine w_gT3 ?_ | with_reducible refine w_gT (by rfl) ?_ | with_reducible refine w_c ?_ | ((with_reducible apply w_v); exact rfl) | ((with_reducible apply w_vo); exact rfl) | with_reducible refine w_e1 ?_ | with_reducible refine w_e2 ?_ | with_reducible refine w_esN ?_ | with_reducible refine w_esC ?_ | with_reducible refine w_eA ?_ | with_reducible refine w_nL ?_ | with_reducible refine w_eL ?_ | with_reducible refine w_lsG ?_ | with_reducible refine w_tup0 ?_ | with_reducible refine w_tup1 ?_ | with_reducible refine w_tup2 ?_ | with_reducible refine w_tup3 ?_ | with_reducible refine w_tup4 ?_ | with_reducible refine w_tup5 ?_ | with_reducible refine w_tup6 ?_ | with_reducible refine w_tup (by decide) ?_ | with_reducible refine w_tE ?_ | with_reducible refine w_dB ?_ | with_reducible refine w_tNo ?_ | with_reducible refine w_tAn ?_ | with_reducible refine w_tOr ?_ | with_reducible refine w_tY ?_ | with_reducible refine w_eAn ?_ | with_reducible refine w_eOr ?_ | with_reducible refine w_eIf ?_ | with_reducible refine w_addI ?_ | with_reducible refine w_sub ?_ | with_reducible refine w_neg ?_ | with_reducible refine w_not ?_ | with_reducible refine w_cmp ?_ | with_reducible refine w_ltI ?_ | with_reducible refine w_nSl ?_ | with_reducible refine w_cutL ?_ | with_reducible refine w_slL ?_ | with_reducible refine w_slR ?_ | with_reducible refine w_gL2 ?_ | with_reducible refine w_gL3 ?_ | with_reducible refine w_gL5 ?_ | with_reducible refine w_eqI ?_ | with_reducible refine w_eqS ?_ | with_reducible refine w_eqB ?_ | with_reducible refine w_neE ?_ | with_reducible refine w_eqE ?_ | with_reducible refine w_neI ?_ | with_reducible refine w_neS ?_ | with_reducible refine w_lenL ?_ | with_reducible refine w_lenT ?_ | with_reducible refine w_lenR ?_ | with_reducible refine w_intI ?_ | ((with_reducible apply w_intBt); (first | decide +kernel | exact rfl)) | ((with_reducible apply w_intBf); (first | decide +kernel | exact rfl)) | with_reducible refine w_intB ?_ | with_reducible refine w_tupleL ?_ | with_reducible refine w_tupleT ?_ | with_reducible refine w_listL ?_ | with_reducible refine w_listT ?_ | with_reducible refine w_max2P (fun r _ _ _ => ?_) | with_reducible refine w_min2P (fun r _ _ _ => ?_) | ((with_reducible apply w_isi); exact rfl) | with_reducible refine w_oN ?_ | with_reducible refine w_oS ?_ | with_reducible refine w_eSl ?_ | with_reducible refine w_sl1 ?_ | with_reducible refine w_sl2 ?_ | with_reducible refine w_sl3 ?_ | ((with_reducible apply w_ixT); exact rfl) | with_reducible refine w_mod (by decide) ?_ | with_reducible refine w_div (by decide) ?_ | with_reducible refine w_pow (by decide) ?_ | with_reducible refine w_own ?_ | with_reducible refine w_xsN ?_ | with_reducible refine w_xsC ?_ | with_reducible refine w_xA ?_ | with_reducible refine w_app ?_ | ((with_reducible refine sq_nx ?_); try simp only [esc_nil, esc_int, esc_str, esc_bl, esc_non, List.set_cons_zero, List.set_cons_succ, unown_nil, unown_noO, esc_noO, noO_nil, noO_cons, isOwn_val, isOwn_no, isOwn_own, isOwn_succ, Bool.not_false, Bool.and_self]) | with_reducible refine sq_ret ?_ | with_reducible refine rq_ret ?_ | with_reducible refine lq_ret ?_ | ((with_reducible refine lq_nx ?_); try simp only [esc_nil, esc_int, esc_str, esc_bl, esc_non, List.set_cons_zero, List.set_cons_succ, unown_nil, unown_noO, esc_noO, noO_nil, noO_cons, isOwn_val, isOwn_no, isOwn_own, isOwn_succ, Bool.not_false, Bool.and_self]) | ((with_reducible refine w_sFor ?_); try simp only [esc_nil, esc_int, esc_str, esc_bl, esc_non, List.set_cons_zero, List.set_cons_succ, unown_nil, unown_noO, esc_noO, noO_nil, noO_cons, isOwn_val, isOwn_no, isOwn_own, isOwn_succ, Bool.not_false, Bool.and_self]) | with_reducible refine w_iV ?_ | with_reducible refine w_iE ?_ | with_reducible refine w_itL ?_ | with_reducible refine w_itT ?_ | with_reducible refine w_itS ?_ | with_reducible refine w_lcG ?_ | with_reducible refine w_while0 ?_ | with_reducible refine w_mulI (mulOk_r (by decide)) ?_ | with_reducible refine w_mulI (mulOk_l (by decide)) ?_ | with_reducible refine ex_int ?_ | with_reducible refine ex_bl ?_ | with_reducible refine ex_lst ?_ | with_reducible refine an_int ?_ | with_reducible refine an_big0 ?_ | with_reducible refine an_bigl0 ?_ | with_reducible refine an_big1 ?_ | with_reducible refine an_bigl1 ?_ | with_reducible refine an_big2 ?_ | with_reducible refine an_bigl2 ?_ | with_reducible refine an_big3 ?_ | with_reducible refine an_bigl3 ?_ | with_reducible refine an_big4 ?_ | with_reducible refine an_bigl4 ?_ | with_reducible refine an_big5 ?_ | with_reducible refine an_bigl5 ?_ | with_reducible refine an_big6 ?_ | with_reducible refine an_bigl6 ?_ | with_reducible refine an_big7 ?_ | with_reducible refine an_bigl7 ?_ | with_reducible refine an_big8 ?_ | with_reducible refine an_bigl8 ?_ | with_reducible refine an_big (by decide) ?_ | with_reducible refine an_bigl (by decide) ?_ | with_reducible refine w_compN ?_ | with_reducible refine w_compC ?_ | with_reducible refine w_addT1 (by simp) ?_ | ((with_reducible apply an_own); exact rfl) | ((with_reducible apply ex_app); (first | exact rfl | (simp only [esc_nil, esc_int, esc_str, esc_bl, esc_non, List.set_cons_zero, List.set_cons_succ, unown_nil, unown_noO, esc_noO, noO_nil, noO_cons, isOwn_val, isOwn_no, isOwn_own, isOwn_succ, Bool.not_false, Bool.and_self]; exact rfl))) | ((with_reducible apply w_augI); exact rfl) | ((with_reducible apply w_augL); exact rfl) | ((with_reducible apply br_t); (first | decide +kernel | exact rfl)) | ((with_reducible apply br_f); (first | decide +kernel | exact rfl)) | with_reducible refine br_n ?_ | with_reducible refine br_d (fun _ => ?_) (fun _ => ?_) | with_reducible refine br_e (fun _ => ?_) (fun _ => ?_) | with_reducible refine br_s (fun _ => ?_) (fun _ => ?_) | with_reducible refine br_2 (fun _ => ?_) (fun _ => ?_)))
  all_goals exact q
theorem pls_encK : ∀ ks : List K3, pls (ks.map encK) = true
  | [] => rfl
  | k :: ks => by rw [List.map_cons, pls, pls_encK ks]; simp [encK, pl, pls]
theorem dpt_encK (k : K3) : dpt (encK k) = 1 := by simp [encK, dpt, dpts]
theorem pl_encK (k : K3) : pl (encK k) = true := by simp [encK, pl, pls]
/-- the kept row of a tree's keys -/
theorem right_ok {n : Nat} (hn : 2 ≤ n) (ks : List K3) (hk : ks.length ≤ 1000) {Q : D → Prop} (q : Q (.bl true)) : Wp (fnL 2 (Phi n j__law_right) [.lst ((ks.map encK).mergeSort (leD true)), .lst (ks.map encK)]) Q := by
  obtain ⟨m, rfl⟩ : ∃ m, n = m + 1 := ⟨n - 1, by omega⟩
  have pm : ((ks.map encK).mergeSort (leD true)).Perm (ks.map encK) := sort_perm
  have pw := sort_pair (rev := true) (xs := ks.map encK)
  have hm : ∀ x ∈ (ks.map encK).mergeSort (leD true), ∃ k, x = encK k := fun x hx => by
    obtain ⟨k, _, e⟩ := List.mem_map.mp (pm.mem_iff.mp hx)
    exact ⟨k, e.symm⟩
  obtain ⟨qs, e⟩ : ∃ qs : List K3, (ks.map encK).mergeSort (leD true) = qs.map encK := by
    generalize (ks.map encK).mergeSort (leD true) = l at hm
    clear pm pw
    induction l with
    | nil => exact ⟨[], rfl⟩
    | cons x l ih =>
      obtain ⟨k, rfl⟩ := hm x List.mem_cons_self
      obtain ⟨qs, rfl⟩ := ih fun y hy => hm y (List.mem_cons_of_mem _ hy)
      exact ⟨k :: qs, rfl⟩
  rw [e] at pm pw ⊢
  have hl : qs.length = ks.length := by
    have := pm.length_eq
    simpa using this
  apply R__law_right
  unfold B__law_right
  (repeat' (first | with_reducible refine w_seq ?_ | with_reducible refine w_sIf ?_ | with_reducible refine w_nil ?_ | with_reducible refine w_ret ?_ | with_reducible refine w_sG ?_ | with_reducible refine w_xP ?_ | with_reducible refine w_gN ?_ | with_reducible refine w_gsN ?_ | with_reducible refine w_gsC ?_ | with_reducible refine w_gT2 ?_ | with_reducible refine w_gT3 ?_ | with_reducible refine w_gT (by rfl) ?_ | with_reducible refine w_c ?_ | ((with_reducible apply w_v); exact rfl) | ((with_reducible apply w_vo); exact rfl) | with_reducible refine w_e1 ?_ | with_reducible refine w_e2 ?_ | with_reducible refine w_esN ?_ | with_reducible refine w_esC ?_ | with_reducible refine w_eA ?_ | with_reducible refine w_nL ?_ | with_reducible refine w_eL ?_ | with_reducible refine w_lsG ?_ | with_reducible refine w_tup0 ?_ | with_reducible refine w_tup1 ?_ | with_reducible refine w_tup2 ?_ | with_reducible refine w_tup3 ?_ | with_reducible refine w_tup4 ?_ | with_reducible refine w_tup5 ?_ | with_reducible refine w_tup6 ?_ | with_reducible refine w_tup (by decide) ?_ | with_reducible refine w_tE ?_ | with_reducible refine w_dB ?_ | with_reducible refine w_tNo ?_ | with_reducible refine w_tAn ?_ | with_reducible refine w_tOr ?_ | with_reducible refine w_tY ?_ | with_reducible refine w_eAn ?_ | with_reducible refine w_eOr ?_ | with_reducible refine w_eIf ?_ | with_reducible refine w_addI ?_ | with_reducible refine w_sub ?_ | with_reducible refine w_neg ?_ | with_reducible refine w_not ?_ | with_reducible refine w_cmp ?_ | with_reducible refine w_ltI ?_ | with_reducible refine w_nSl ?_ | with_reducible refine w_cutL ?_ | with_reducible refine w_slL ?_ | with_reducible refine w_slR ?_ | with_reducible refine w_gL2 ?_ | with_reducible refine w_gL3 ?_ | with_reducible refine w_gL5 ?_ | with_reducible refine w_eqI ?_ | with_reducible refine w_eqS ?_ | with_reducible refine w_eqB ?_ | with_reducible refine w_neE ?_ | with_reducible refine w_eqE ?_ | with_reducible refine w_neI ?_ | with_reducible refine w_neS ?_ | with_reducible refine w_lenL ?_ | with_reducible refine w_lenT ?_ | with_reducible refine w_lenR ?_ | with_reducible refine w_intI ?_ | ((with_reducible apply w_intBt); (first | decide +kernel | exact rfl)) | ((with_reducible apply w_intBf); (first | decide +kernel | exact rfl)) | with_reducible refine w_intB ?_ | with_reducible refine w_tupleL ?_ | with_reducible refine w_tupleT ?_ | with_reducible refine w_listL ?_ | with_reducible refine w_listT ?_ | with_reducible refine w_max2P (fun r _ _ _ => ?_) | with_reducible refine w_min2P (fun r _ _ _ => ?_) | ((with_reducible apply w_isi); exact rfl) | with_reducible refine w_oN ?_ | with_reducible refine w_oS ?_ | with_reducible refine w_eSl ?_ | with_reducible refine w_sl1 ?_ | with_reducible refine w_sl2 ?_ | with_reducible refine w_sl3 ?_ | ((with_reducible apply w_ixT); exact rfl) | with_reducible refine w_mod (by decide) ?_ | with_reducible refine w_div (by decide) ?_ | with_reducible refine w_pow (by decide) ?_ | with_reducible refine w_own ?_ | with_reducible refine w_xsN ?_ | with_reducible refine w_xsC ?_ | with_reducible refine w_xA ?_ | with_reducible refine w_app ?_ | ((with_reducible refine sq_nx ?_); try simp only [esc_nil, esc_int, esc_str, esc_bl, esc_non, List.set_cons_zero, List.set_cons_succ, unown_nil, unown_noO, esc_noO, noO_nil, noO_cons, isOwn_val, isOwn_no, isOwn_own, isOwn_succ, Bool.not_false, Bool.and_self]) | with_reducible refine sq_ret ?_ | with_reducible refine rq_ret ?_ | with_reducible refine lq_ret ?_ | ((with_reducible refine lq_nx ?_); try simp only [esc_nil, esc_int, esc_str, esc_bl, esc_non, List.set_cons_zero, List.set_cons_succ, unown_nil, unown_noO, esc_noO, noO_nil, noO_cons, isOwn_val, isOwn_no, isOwn_own, isOwn_succ, Bool.not_false, Bool.and_self]) | ((with_reducible refine w_sFor ?_); try simp only [esc_nil, esc_int, esc_str, esc_bl, esc_non, List.set_cons_zero, List.set_cons_succ, unown_nil, unown_noO, esc_noO, noO_nil, noO_cons, isOwn_val, isOwn_no, isOwn_own, isOwn_succ, Bool.not_false, Bool.and_self]) | with_reducible refine w_iV ?_ | with_reducible refine w_iE ?_ | with_reducible refine w_itL ?_ | with_reducible refine w_itT ?_ | with_reducible refine w_itS ?_ | with_reducible refine w_lcG ?_ | with_reducible refine w_while0 ?_ | with_reducible refine w_mulI (mulOk_r (by decide)) ?_ | with_reducible refine w_mulI (mulOk_l (by decide)) ?_ | with_reducible refine ex_int ?_ | with_reducible refine ex_bl ?_ | with_reducible refine ex_lst ?_ | with_reducible refine an_int ?_ | with_reducible refine an_big0 ?_ | with_reducible refine an_bigl0 ?_ | with_reducible refine an_big1 ?_ | with_reducible refine an_bigl1 ?_ | with_reducible refine an_big2 ?_ | with_reducible refine an_bigl2 ?_ | with_reducible refine an_big3 ?_ | with_reducible refine an_bigl3 ?_ | with_reducible refine an_big4 ?_ | with_reducible refine an_bigl4 ?_ | with_reducible refine an_big5 ?_ | with_reducible refine an_bigl5 ?_ | with_reducible refine an_big6 ?_ | with_reducible refine an_bigl6 ?_ | with_reducible refine an_big7 ?_ | with_reducible refine an_bigl7 ?_ | with_reducible refine an_big8 ?_ | with_reducible refine an_bigl8 ?_ | with_reducible refine an_big (by decide) ?_ | with_reducible refine an_bigl (by decide) ?_ | with_reducible refine w_compN ?_ | with_reducible refine w_compC ?_ | with_reducible refine w_addT1 (by simp) ?_ | ((with_reducible apply an_own); exact rfl) | ((with_reducible apply ex_app); (first | exact rfl | (simp only [esc_nil, esc_int, esc_str, esc_bl, esc_non, List.set_cons_zero, List.set_cons_succ, unown_nil, unown_noO, esc_noO, noO_nil, noO_cons, isOwn_val, isOwn_no, isOwn_own, isOwn_succ, Bool.not_false, Bool.and_self]; exact rfl))) | ((with_reducible apply w_augI); exact rfl) | ((with_reducible apply w_augL); exact rfl) | ((with_reducible apply br_t); (first | decide +kernel | exact rfl)) | ((with_reducible apply br_f); (first | decide +kernel | exact rfl)) | with_reducible refine br_n ?_ | with_reducible refine br_d (fun _ => ?_) (fun _ => ?_) | with_reducible refine br_e (fun _ => ?_) (fun _ => ?_) | with_reducible refine br_s (fun _ => ?_) (fun _ => ?_) | with_reducible refine br_2 (fun _ => ?_) (fun _ => ?_)))
  rotate_left
  · rename_i hx
    rw [List.length_map, List.length_map, hl] at hx
    exact absurd rfl hx
  refine w_forA (I := fun ds ρ => ∃ (r : List K3) (s2 s3 : Sl), ds = r.map encK ∧ ρ = [Sl.val (.lst (qs.map encK)), Sl.val (.lst (ks.map encK)), s2, s3]) _ ⟨qs, _, _, rfl, rfl⟩ (fun d ds ρ hI => ?_) (fun ρ hI => ?_)
  · obtain ⟨r, s2, s3, e1, rfl⟩ := hI
    obtain ⟨k, r, rfl⟩ : ∃ u b, r = u :: b := by
      cases r with
      | nil => cases e1
      | cons u r => exact ⟨u, r, rfl⟩
    obtain ⟨rfl, rfl⟩ := List.cons.inj e1
    (repeat' (first | with_reducible refine key_ok (by omega) k ?_ | with_reducible refine w_seq ?_ | with_reducible refine w_sIf ?_ | with_reducible refine w_nil ?_ | with_reducible refine w_ret ?_ | with_reducible refine w_sG ?_ | with_reducible refine w_xP ?_ | with_reducible refine w_gN ?_ | with_reducible refine w_gsN ?_ | with_reducible refine w_gsC ?_ | with_reducible refine w_gT2 ?_ | with_reducible refine w_gT3 ?_ | with_reducible refine w_gT (by rfl) ?_ | with_reducible refine w_c ?_ | ((with_reducible apply w_v); exact rfl) | ((with_reducible apply w_vo); exact rfl) | with_reducible refine w_e1 ?_ | with_reducible refine w_e2 ?_ | with_reducible refine w_esN ?_ | with_reducible refine w_esC ?_ | with_reducible refine w_eA ?_ | with_reducible refine w_nL ?_ | with_reducible refine w_eL ?_ | with_reducible refine w_lsG ?_ | with_reducible refine w_tup0 ?_ | with_reducible refine w_tup1 ?_ | with_reducible refine w_tup2 ?_ | with_reducible refine w_tup3 ?_ | with_reducible refine w_tup4 ?_ | with_reducible refine w_tup5 ?_ | with_reducible refine w_tup6 ?_ | with_reducible refine w_tup (by decide) ?_ | with_reducible refine w_tE ?_ | with_reducible refine w_dB ?_ | with_reducible refine w_tNo ?_ | with_reducible refine w_tAn ?_ | with_reducible refine w_tOr ?_ | with_reducible refine w_tY ?_ | with_reducible refine w_eAn ?_ | with_reducible refine w_eOr ?_ | with_reducible refine w_eIf ?_ | with_reducible refine w_addI ?_ | with_reducible refine w_sub ?_ | with_reducible refine w_neg ?_ | with_reducible refine w_not ?_ | with_reducible refine w_cmp ?_ | with_reducible refine w_ltI ?_ | with_reducible refine w_nSl ?_ | with_reducible refine w_cutL ?_ | with_reducible refine w_slL ?_ | with_reducible refine w_slR ?_ | with_reducible refine w_gL2 ?_ | with_reducible refine w_gL3 ?_ | with_reducible refine w_gL5 ?_ | with_reducible refine w_eqI ?_ | with_reducible refine w_eqS ?_ | with_reducible refine w_eqB ?_ | with_reducible refine w_neE ?_ | with_reducible refine w_eqE ?_ | with_reducible refine w_neI ?_ | with_reducible refine w_neS ?_ | with_reducible refine w_lenL ?_ | with_reducible refine w_lenT ?_ | with_reducible refine w_lenR ?_ | with_reducible refine w_intI ?_ | ((with_reducible apply w_intBt); (first | decide +kernel | exact rfl)) | ((with_reducible apply w_intBf); (first | decide +kernel | exact rfl)) | with_reducible refine w_intB ?_ | with_reducible refine w_tupleL ?_ | with_reducible refine w_tupleT ?_ | with_reducible refine w_listL ?_ | with_reducible refine w_listT ?_ | with_reducible refine w_max2P (fun r _ _ _ => ?_) | with_reducible refine w_min2P (fun r _ _ _ => ?_) | ((with_reducible apply w_isi); exact rfl) | with_reducible refine w_oN ?_ | with_reducible refine w_oS ?_ | with_reducible refine w_eSl ?_ | with_reducible refine w_sl1 ?_ | with_reducible refine w_sl2 ?_ | with_reducible refine w_sl3 ?_ | ((with_reducible apply w_ixT); exact rfl) | with_reducible refine w_mod (by decide) ?_ | with_reducible refine w_div (by decide) ?_ | with_reducible refine w_pow (by decide) ?_ | with_reducible refine w_own ?_ | with_reducible refine w_xsN ?_ | with_reducible refine w_xsC ?_ | with_reducible refine w_xA ?_ | with_reducible refine w_app ?_ | ((with_reducible refine sq_nx ?_); try simp only [esc_nil, esc_int, esc_str, esc_bl, esc_non, List.set_cons_zero, List.set_cons_succ, unown_nil, unown_noO, esc_noO, noO_nil, noO_cons, isOwn_val, isOwn_no, isOwn_own, isOwn_succ, Bool.not_false, Bool.and_self]) | with_reducible refine sq_ret ?_ | with_reducible refine rq_ret ?_ | with_reducible refine lq_ret ?_ | ((with_reducible refine lq_nx ?_); try simp only [esc_nil, esc_int, esc_str, esc_bl, esc_non, List.set_cons_zero, List.set_cons_succ, unown_nil, unown_noO, esc_noO, noO_nil, noO_cons, isOwn_val, isOwn_no, isOwn_own, isOwn_succ, Bool.not_false, Bool.and_self]) | ((with_reducible refine w_sFor ?_); try simp only [esc_nil, esc_int, esc_str, esc_bl, esc_non, List.set_cons_zero, List.set_cons_succ, unown_nil, unown_noO, esc_noO, noO_nil, noO_cons, isOwn_val, isOwn_no, isOwn_own, isOwn_succ, Bool.not_false, Bool.and_self]) | with_reducible refine w_iV ?_ | with_reducible refine w_iE ?_ | with_reducible refine w_itL ?_ | with_reducible refine w_itT ?_ | with_reducible refine w_itS ?_ | with_reducible refine w_lcG ?_ | with_reducible refine w_while0 ?_ | with_reducible refine w_mulI (mulOk_r (by decide)) ?_ | with_reducible refine w_mulI (mulOk_l (by decide)) ?_ | with_reducible refine ex_int ?_ | with_reducible refine ex_bl ?_ | with_reducible refine ex_lst ?_ | with_reducible refine an_int ?_ | with_reducible refine an_big0 ?_ | with_reducible refine an_bigl0 ?_ | with_reducible refine an_big1 ?_ | with_reducible refine an_bigl1 ?_ | with_reducible refine an_big2 ?_ | with_reducible refine an_bigl2 ?_ | with_reducible refine an_big3 ?_ | with_reducible refine an_bigl3 ?_ | with_reducible refine an_big4 ?_ | with_reducible refine an_bigl4 ?_ | with_reducible refine an_big5 ?_ | with_reducible refine an_bigl5 ?_ | with_reducible refine an_big6 ?_ | with_reducible refine an_bigl6 ?_ | with_reducible refine an_big7 ?_ | with_reducible refine an_bigl7 ?_ | with_reducible refine an_big8 ?_ | with_reducible refine an_bigl8 ?_ | with_reducible refine an_big (by decide) ?_ | with_reducible refine an_bigl (by decide) ?_ | with_reducible refine w_compN ?_ | with_reducible refine w_compC ?_ | with_reducible refine w_addT1 (by simp) ?_ | ((with_reducible apply an_own); exact rfl) | ((with_reducible apply ex_app); (first | exact rfl | (simp only [esc_nil, esc_int, esc_str, esc_bl, esc_non, List.set_cons_zero, List.set_cons_succ, unown_nil, unown_noO, esc_noO, noO_nil, noO_cons, isOwn_val, isOwn_no, isOwn_own, isOwn_succ, Bool.not_false, Bool.and_self]; exact rfl))) | ((with_reducible apply w_augI); exact rfl) | ((with_reducible apply w_augL); exact rfl) | ((with_reducible apply br_t); (first | decide +kernel | exact rfl)) | ((with_reducible apply br_f); (first | decide +kernel | exact rfl)) | with_reducible refine br_n ?_ | with_reducible refine br_d (fun _ => ?_) (fun _ => ?_) | with_reducible refine br_e (fun _ => ?_) (fun _ => ?_) | with_reducible refine br_s (fun _ => ?_) (fun _ => ?_) | with_reducible refine br_2 (fun _ => ?_) (fun _ => ?_)))
    exact ⟨r, _, _, rfl, rfl⟩
  · obtain ⟨r, s2, s3, e1, rfl⟩ := hI
    (repeat' (first | with_reducible refine w_rg2 (by rw [List.length_map]; omega) ?_ | with_reducible refine w_seq ?_ | with_reducible refine w_sIf ?_ | with_reducible refine w_nil ?_ | with_reducible refine w_ret ?_ | with_reducible refine w_sG ?_ | with_reducible refine w_xP ?_ | with_reducible refine w_gN ?_ | with_reducible refine w_gsN ?_ | with_reducible refine w_gsC ?_ | with_reducible refine w_gT2 ?_ | with_reducible refine w_gT3 ?_ | with_reducible refine w_gT (by rfl) ?_ | with_reducible refine w_c ?_ | ((with_reducible apply w_v); exact rfl) | ((with_reducible apply w_vo); exact rfl) | with_reducible refine w_e1 ?_ | with_reducible refine w_e2 ?_ | with_reducible refine w_esN ?_ | with_reducible refine w_esC ?_ | with_reducible refine w_eA ?_ | with_reducible refine w_nL ?_ | with_reducible refine w_eL ?_ | with_reducible refine w_lsG ?_ | with_reducible refine w_tup0 ?_ | with_reducible refine w_tup1 ?_ | with_reducible refine w_tup2 ?_ | with_reducible refine w_tup3 ?_ | with_reducible refine w_tup4 ?_ | with_reducible refine w_tup5 ?_ | with_reducible refine w_tup6 ?_ | with_reducible refine w_tup (by decide) ?_ | with_reducible refine w_tE ?_ | with_reducible refine w_dB ?_ | with_reducible refine w_tNo ?_ | with_reducible refine w_tAn ?_ | with_reducible refine w_tOr ?_ | with_reducible refine w_tY ?_ | with_reducible refine w_eAn ?_ | with_reducible refine w_eOr ?_ | with_reducible refine w_eIf ?_ | with_reducible refine w_addI ?_ | with_reducible refine w_sub ?_ | with_reducible refine w_neg ?_ | with_reducible refine w_not ?_ | with_reducible refine w_cmp ?_ | with_reducible refine w_ltI ?_ | with_reducible refine w_nSl ?_ | with_reducible refine w_cutL ?_ | with_reducible refine w_slL ?_ | with_reducible refine w_slR ?_ | with_reducible refine w_gL2 ?_ | with_reducible refine w_gL3 ?_ | with_reducible refine w_gL5 ?_ | with_reducible refine w_eqI ?_ | with_reducible refine w_eqS ?_ | with_reducible refine w_eqB ?_ | with_reducible refine w_neE ?_ | with_reducible refine w_eqE ?_ | with_reducible refine w_neI ?_ | with_reducible refine w_neS ?_ | with_reducible refine w_lenL ?_ | with_reducible refine w_lenT ?_ | with_reducible refine w_lenR ?_ | with_reducible refine w_intI ?_ | ((with_reducible apply w_intBt); (first | decide +kernel | exact rfl)) | ((with_reducible apply w_intBf); (first | decide +kernel | exact rfl)) | with_reducible refine w_intB ?_ | with_reducible refine w_tupleL ?_ | with_reducible refine w_tupleT ?_ | with_reducible refine w_listL ?_ | with_reducible refine w_listT ?_ | with_reducible refine w_max2P (fun r _ _ _ => ?_) | with_reducible refine w_min2P (fun r _ _ _ => ?_) | ((with_reducible apply w_isi); exact rfl) | with_reducible refine w_oN ?_ | with_reducible refine w_oS ?_ | with_reducible refine w_eSl ?_ | with_reducible refine w_sl1 ?_ | with_reducible refine w_sl2 ?_ | with_reducible refine w_sl3 ?_ | ((with_reducible apply w_ixT); exact rfl) | with_reducible refine w_mod (by decide) ?_ | with_reducible refine w_div (by decide) ?_ | with_reducible refine w_pow (by decide) ?_ | with_reducible refine w_own ?_ | with_reducible refine w_xsN ?_ | with_reducible refine w_xsC ?_ | with_reducible refine w_xA ?_ | with_reducible refine w_app ?_ | ((with_reducible refine sq_nx ?_); try simp only [esc_nil, esc_int, esc_str, esc_bl, esc_non, List.set_cons_zero, List.set_cons_succ, unown_nil, unown_noO, esc_noO, noO_nil, noO_cons, isOwn_val, isOwn_no, isOwn_own, isOwn_succ, Bool.not_false, Bool.and_self]) | with_reducible refine sq_ret ?_ | with_reducible refine rq_ret ?_ | with_reducible refine lq_ret ?_ | ((with_reducible refine lq_nx ?_); try simp only [esc_nil, esc_int, esc_str, esc_bl, esc_non, List.set_cons_zero, List.set_cons_succ, unown_nil, unown_noO, esc_noO, noO_nil, noO_cons, isOwn_val, isOwn_no, isOwn_own, isOwn_succ, Bool.not_false, Bool.and_self]) | ((with_reducible refine w_sFor ?_); try simp only [esc_nil, esc_int, esc_str, esc_bl, esc_non, List.set_cons_zero, List.set_cons_succ, unown_nil, unown_noO, esc_noO, noO_nil, noO_cons, isOwn_val, isOwn_no, isOwn_own, isOwn_succ, Bool.not_false, Bool.and_self]) | with_reducible refine w_iV ?_ | with_reducible refine w_iE ?_ | with_reducible refine w_itL ?_ | with_reducible refine w_itT ?_ | with_reducible refine w_itS ?_ | with_reducible refine w_lcG ?_ | with_reducible refine w_while0 ?_ | with_reducible refine w_mulI (mulOk_r (by decide)) ?_ | with_reducible refine w_mulI (mulOk_l (by decide)) ?_ | with_reducible refine ex_int ?_ | with_reducible refine ex_bl ?_ | with_reducible refine ex_lst ?_ | with_reducible refine an_int ?_ | with_reducible refine an_big0 ?_ | with_reducible refine an_bigl0 ?_ | with_reducible refine an_big1 ?_ | with_reducible refine an_bigl1 ?_ | with_reducible refine an_big2 ?_ | with_reducible refine an_bigl2 ?_ | with_reducible refine an_big3 ?_ | with_reducible refine an_bigl3 ?_ | with_reducible refine an_big4 ?_ | with_reducible refine an_bigl4 ?_ | with_reducible refine an_big5 ?_ | with_reducible refine an_bigl5 ?_ | with_reducible refine an_big6 ?_ | with_reducible refine an_bigl6 ?_ | with_reducible refine an_big7 ?_ | with_reducible refine an_bigl7 ?_ | with_reducible refine an_big8 ?_ | with_reducible refine an_bigl8 ?_ | with_reducible refine an_big (by decide) ?_ | with_reducible refine an_bigl (by decide) ?_ | with_reducible refine w_compN ?_ | with_reducible refine w_compC ?_ | with_reducible refine w_addT1 (by simp) ?_ | ((with_reducible apply an_own); exact rfl) | ((with_reducible apply ex_app); (first | exact rfl | (simp only [esc_nil, esc_int, esc_str, esc_bl, esc_non, List.set_cons_zero, List.set_cons_succ, unown_nil, unown_noO, esc_noO, noO_nil, noO_cons, isOwn_val, isOwn_no, isOwn_own, isOwn_succ, Bool.not_false, Bool.and_self]; exact rfl))) | ((with_reducible apply w_augI); exact rfl) | ((with_reducible apply w_augL); exact rfl) | ((with_reducible apply br_t); (first | decide +kernel | exact rfl)) | ((with_reducible apply br_f); (first | decide +kernel | exact rfl)) | with_reducible refine br_n ?_ | with_reducible refine br_d (fun _ => ?_) (fun _ => ?_) | with_reducible refine br_e (fun _ => ?_) (fun _ => ?_) | with_reducible refine br_s (fun _ => ?_) (fun _ => ?_) | with_reducible refine br_2 (fun _ => ?_) (fun _ => ?_)))
    refine w_forR (I := fun i ρ => ∃ (s2 s3 : Sl), ρ = [Sl.val (.lst (qs.map encK)), Sl.val (.lst (ks.map encK)), s2, s3]) ⟨_, _, rfl⟩ (fun i ρ hi hI => ?_) (fun ρ hI => ?_)
    · obtain ⟨s2, s3, rfl⟩ := hI
      rw [List.length_map] at hi
      have h1 : i < qs.length := by omega
      have h2 : i + 1 < qs.length := by omega
      have a1 : atI (qs.map encK) (1 + (i : Int) - 1) = some (encK qs[i]) := by
        rw [show (1 + (i : Int) - 1) = (i : Int) by omega]
        exact atI_nat (by rw [List.getElem?_map, List.getElem?_eq_getElem h1]; rfl)
      have a2 : atI (qs.map encK) (1 + (i : Int)) = some (encK qs[i + 1]) := by
        rw [show (1 + (i : Int)) = ((i + 1 : Nat) : Int) by omega]
        exact atI_nat (by rw [List.getElem?_map, List.getElem?_eq_getElem h2]; rfl)
      have lf : ltN (nk (encK qs[i])) (nk (encK qs[i + 1])) = false := by
        have z := List.pairwise_iff_getElem.mp pw i (i + 1) (by rw [List.length_map]; exact h1) (by rw [List.length_map]; exact h2) (Nat.lt_succ_self i)
        rw [List.getElem_map, List.getElem_map] at z
        exact leD_true.mp z
      (repeat' (first | with_reducible refine w_ixL a1 ?_ | with_reducible refine w_ixL a2 ?_ | with_reducible refine w_lt (lt_encK _ _) ?_ | with_reducible refine w_seq ?_ | with_reducible refine w_sIf ?_ | with_reducible refine w_nil ?_ | with_reducible refine w_ret ?_ | with_reducible refine w_sG ?_ | with_reducible refine w_xP ?_ | with_reducible refine w_gN ?_ | with_reducible refine w_gsN ?_ | with_reducible refine w_gsC ?_ | with_reducible refine w_gT2 ?_ | with_reducible refine w_gT3 ?_ | with_reducible refine w_gT (by rfl) ?_ | with_reducible refine w_c ?_ | ((with_reducible apply w_v); exact rfl) | ((with_reducible apply w_vo); exact rfl) | with_reducible refine w_e1 ?_ | with_reducible refine w_e2 ?_ | with_reducible refine w_esN ?_ | with_reducible refine w_esC ?_ | with_reducible refine w_eA ?_ | with_reducible refine w_nL ?_ | with_reducible refine w_eL ?_ | with_reducible refine w_lsG ?_ | with_reducible refine w_tup0 ?_ | with_reducible refine w_tup1 ?_ | with_reducible refine w_tup2 ?_ | with_reducible refine w_tup3 ?_ | with_reducible refine w_tup4 ?_ | with_reducible refine w_tup5 ?_ | with_reducible refine w_tup6 ?_ | with_reducible refine w_tup (by decide) ?_ | with_reducible refine w_tE ?_ | with_reducible refine w_dB ?_ | with_reducible refine w_tNo ?_ | with_reducible refine w_tAn ?_ | with_reducible refine w_tOr ?_ | with_reducible refine w_tY ?_ | with_reducible refine w_eAn ?_ | with_reducible refine w_eOr ?_ | with_reducible refine w_eIf ?_ | with_reducible refine w_addI ?_ | with_reducible refine w_sub ?_ | with_reducible refine w_neg ?_ | with_reducible refine w_not ?_ | with_reducible refine w_cmp ?_ | with_reducible refine w_ltI ?_ | with_reducible refine w_nSl ?_ | with_reducible refine w_cutL ?_ | with_reducible refine w_slL ?_ | with_reducible refine w_slR ?_ | with_reducible refine w_gL2 ?_ | with_reducible refine w_gL3 ?_ | with_reducible refine w_gL5 ?_ | with_reducible refine w_eqI ?_ | with_reducible refine w_eqS ?_ | with_reducible refine w_eqB ?_ | with_reducible refine w_neE ?_ | with_reducible refine w_eqE ?_ | with_reducible refine w_neI ?_ | with_reducible refine w_neS ?_ | with_reducible refine w_lenL ?_ | with_reducible refine w_lenT ?_ | with_reducible refine w_lenR ?_ | with_reducible refine w_intI ?_ | ((with_reducible apply w_intBt); (first | decide +kernel | exact rfl)) | ((with_reducible apply w_intBf); (first | decide +kernel | exact rfl)) | with_reducible refine w_intB ?_ | with_reducible refine w_tupleL ?_ | with_reducible refine w_tupleT ?_ | with_reducible refine w_listL ?_ | with_reducible refine w_listT ?_ | with_reducible refine w_max2P (fun r _ _ _ => ?_) | with_reducible refine w_min2P (fun r _ _ _ => ?_) | ((with_reducible apply w_isi); exact rfl) | with_reducible refine w_oN ?_ | with_reducible refine w_oS ?_ | with_reducible refine w_eSl ?_ | with_reducible refine w_sl1 ?_ | with_reducible refine w_sl2 ?_ | with_reducible refine w_sl3 ?_ | ((with_reducible apply w_ixT); exact rfl) | with_reducible refine w_mod (by decide) ?_ | with_reducible refine w_div (by decide) ?_ | with_reducible refine w_pow (by decide) ?_ | with_reducible refine w_own ?_ | with_reducible refine w_xsN ?_ | with_reducible refine w_xsC ?_ | with_reducible refine w_xA ?_ | with_reducible refine w_app ?_ | ((with_reducible refine sq_nx ?_); try simp only [esc_nil, esc_int, esc_str, esc_bl, esc_non, List.set_cons_zero, List.set_cons_succ, unown_nil, unown_noO, esc_noO, noO_nil, noO_cons, isOwn_val, isOwn_no, isOwn_own, isOwn_succ, Bool.not_false, Bool.and_self]) | with_reducible refine sq_ret ?_ | with_reducible refine rq_ret ?_ | with_reducible refine lq_ret ?_ | ((with_reducible refine lq_nx ?_); try simp only [esc_nil, esc_int, esc_str, esc_bl, esc_non, List.set_cons_zero, List.set_cons_succ, unown_nil, unown_noO, esc_noO, noO_nil, noO_cons, isOwn_val, isOwn_no, isOwn_own, isOwn_succ, Bool.not_false, Bool.and_self]) | ((with_reducible refine w_sFor ?_); try simp only [esc_nil, esc_int, esc_str, esc_bl, esc_non, List.set_cons_zero, List.set_cons_succ, unown_nil, unown_noO, esc_noO, noO_nil, noO_cons, isOwn_val, isOwn_no, isOwn_own, isOwn_succ, Bool.not_false, Bool.and_self]) | with_reducible refine w_iV ?_ | with_reducible refine w_iE ?_ | with_reducible refine w_itL ?_ | with_reducible refine w_itT ?_ | with_reducible refine w_itS ?_ | with_reducible refine w_lcG ?_ | with_reducible refine w_while0 ?_ | with_reducible refine w_mulI (mulOk_r (by decide)) ?_ | with_reducible refine w_mulI (mulOk_l (by decide)) ?_ | with_reducible refine ex_int ?_ | with_reducible refine ex_bl ?_ | with_reducible refine ex_lst ?_ | with_reducible refine an_int ?_ | with_reducible refine an_big0 ?_ | with_reducible refine an_bigl0 ?_ | with_reducible refine an_big1 ?_ | with_reducible refine an_bigl1 ?_ | with_reducible refine an_big2 ?_ | with_reducible refine an_bigl2 ?_ | with_reducible refine an_big3 ?_ | with_reducible refine an_bigl3 ?_ | with_reducible refine an_big4 ?_ | with_reducible refine an_bigl4 ?_ | with_reducible refine an_big5 ?_ | with_reducible refine an_bigl5 ?_ | with_reducible refine an_big6 ?_ | with_reducible refine an_bigl6 ?_ | with_reducible refine an_big7 ?_ | with_reducible refine an_bigl7 ?_ | with_reducible refine an_big8 ?_ | with_reducible refine an_bigl8 ?_ | with_reducible refine an_big (by decide) ?_ | with_reducible refine an_bigl (by decide) ?_ | with_reducible refine w_compN ?_ | with_reducible refine w_compC ?_ | with_reducible refine w_addT1 (by simp) ?_ | ((with_reducible apply an_own); exact rfl) | ((with_reducible apply ex_app); (first | exact rfl | (simp only [esc_nil, esc_int, esc_str, esc_bl, esc_non, List.set_cons_zero, List.set_cons_succ, unown_nil, unown_noO, esc_noO, noO_nil, noO_cons, isOwn_val, isOwn_no, isOwn_own, isOwn_succ, Bool.not_false, Bool.and_self]; exact rfl))) | ((with_reducible apply w_augI); exact rfl) | ((with_reducible apply w_augL); exact rfl) | ((with_reducible apply br_t); (first | decide +kernel | exact rfl)) | ((with_reducible apply br_f); (first | decide +kernel | exact rfl)) | with_reducible refine br_n ?_ | with_reducible refine br_d (fun _ => ?_) (fun _ => ?_) | with_reducible refine br_e (fun _ => ?_) (fun _ => ?_) | with_reducible refine br_s (fun _ => ?_) (fun _ => ?_) | with_reducible refine br_2 (fun _ => ?_) (fun _ => ?_)))
      · rename_i hx
        rw [lf] at hx
        cases hx
      · exact ⟨_, _, rfl⟩
    · obtain ⟨s2, s3, rfl⟩ := hI
      (repeat' (first | with_reducible refine w_seq ?_ | with_reducible refine w_sIf ?_ | with_reducible refine w_nil ?_ | with_reducible refine w_ret ?_ | with_reducible refine w_sG ?_ | with_reducible refine w_xP ?_ | with_reducible refine w_gN ?_ | with_reducible refine w_gsN ?_ | with_reducible refine w_gsC ?_ | with_reducible refine w_gT2 ?_ | with_reducible refine w_gT3 ?_ | with_reducible refine w_gT (by rfl) ?_ | with_reducible refine w_c ?_ | ((with_reducible apply w_v); exact rfl) | ((with_reducible apply w_vo); exact rfl) | with_reducible refine w_e1 ?_ | with_reducible refine w_e2 ?_ | with_reducible refine w_esN ?_ | with_reducible refine w_esC ?_ | with_reducible refine w_eA ?_ | with_reducible refine w_nL ?_ | with_reducible refine w_eL ?_ | with_reducible refine w_lsG ?_ | with_reducible refine w_tup0 ?_ | with_reducible refine w_tup1 ?_ | with_reducible refine w_tup2 ?_ | with_reducible refine w_tup3 ?_ | with_reducible refine w_tup4 ?_ | with_reducible refine w_tup5 ?_ | with_reducible refine w_tup6 ?_ | with_reducible refine w_tup (by decide) ?_ | with_reducible refine w_tE ?_ | with_reducible refine w_dB ?_ | with_reducible refine w_tNo ?_ | with_reducible refine w_tAn ?_ | with_reducible refine w_tOr ?_ | with_reducible refine w_tY ?_ | with_reducible refine w_eAn ?_ | with_reducible refine w_eOr ?_ | with_reducible refine w_eIf ?_ | with_reducible refine w_addI ?_ | with_reducible refine w_sub ?_ | with_reducible refine w_neg ?_ | with_reducible refine w_not ?_ | with_reducible refine w_cmp ?_ | with_reducible refine w_ltI ?_ | with_reducible refine w_nSl ?_ | with_reducible refine w_cutL ?_ | with_reducible refine w_slL ?_ | with_reducible refine w_slR ?_ | with_reducible refine w_gL2 ?_ | with_reducible refine w_gL3 ?_ | with_reducible refine w_gL5 ?_ | with_reducible refine w_eqI ?_ | with_reducible refine w_eqS ?_ | with_reducible refine w_eqB ?_ | with_reducible refine w_neE ?_ | with_reducible refine w_eqE ?_ | with_reducible refine w_neI ?_ | with_reducible refine w_neS ?_ | with_reducible refine w_lenL ?_ | with_reducible refine w_lenT ?_ | with_reducible refine w_lenR ?_ | with_reducible refine w_intI ?_ | ((with_reducible apply w_intBt); (first | decide +kernel | exact rfl)) | ((with_reducible apply w_intBf); (first | decide +kernel | exact rfl)) | with_reducible refine w_intB ?_ | with_reducible refine w_tupleL ?_ | with_reducible refine w_tupleT ?_ | with_reducible refine w_listL ?_ | with_reducible refine w_listT ?_ | with_reducible refine w_max2P (fun r _ _ _ => ?_) | with_reducible refine w_min2P (fun r _ _ _ => ?_) | ((with_reducible apply w_isi); exact rfl) | with_reducible refine w_oN ?_ | with_reducible refine w_oS ?_ | with_reducible refine w_eSl ?_ | with_reducible refine w_sl1 ?_ | with_reducible refine w_sl2 ?_ | with_reducible refine w_sl3 ?_ | ((with_reducible apply w_ixT); exact rfl) | with_reducible refine w_mod (by decide) ?_ | with_reducible refine w_div (by decide) ?_ | with_reducible refine w_pow (by decide) ?_ | with_reducible refine w_own ?_ | with_reducible refine w_xsN ?_ | with_reducible refine w_xsC ?_ | with_reducible refine w_xA ?_ | with_reducible refine w_app ?_ | ((with_reducible refine sq_nx ?_); try simp only [esc_nil, esc_int, esc_str, esc_bl, esc_non, List.set_cons_zero, List.set_cons_succ, unown_nil, unown_noO, esc_noO, noO_nil, noO_cons, isOwn_val, isOwn_no, isOwn_own, isOwn_succ, Bool.not_false, Bool.and_self]) | with_reducible refine sq_ret ?_ | with_reducible refine rq_ret ?_ | with_reducible refine lq_ret ?_ | ((with_reducible refine lq_nx ?_); try simp only [esc_nil, esc_int, esc_str, esc_bl, esc_non, List.set_cons_zero, List.set_cons_succ, unown_nil, unown_noO, esc_noO, noO_nil, noO_cons, isOwn_val, isOwn_no, isOwn_own, isOwn_succ, Bool.not_false, Bool.and_self]) | ((with_reducible refine w_sFor ?_); try simp only [esc_nil, esc_int, esc_str, esc_bl, esc_non, List.set_cons_zero, List.set_cons_succ, unown_nil, unown_noO, esc_noO, noO_nil, noO_cons, isOwn_val, isOwn_no, isOwn_own, isOwn_succ, Bool.not_false, Bool.and_self]) | with_reducible refine w_iV ?_ | with_reducible refine w_iE ?_ | with_reducible refine w_itL ?_ | with_reducible refine w_itT ?_ | with_reducible refine w_itS ?_ | with_reducible refine w_lcG ?_ | with_reducible refine w_while0 ?_ | with_reducible refine w_mulI (mulOk_r (by decide)) ?_ | with_reducible refine w_mulI (mulOk_l (by decide)) ?_ | with_reducible refine ex_int ?_ | with_reducible refine ex_bl ?_ | with_reducible refine ex_lst ?_ | with_reducible refine an_int ?_ | with_reducible refine an_big0 ?_ | with_reducible refine an_bigl0 ?_ | with_reducible refine an_big1 ?_ | with_reducible refine an_bigl1 ?_ | with_reducible refine an_big2 ?_ | with_reducible refine an_bigl2 ?_ | with_reducible refine an_big3 ?_ | with_reducible refine an_bigl3 ?_ | with_reducible refine an_big4 ?_ | with_reducible refine an_bigl4 ?_ | with_reducible refine an_big5 ?_ | with_reducible refine an_bigl5 ?_ | with_reducible refine an_big6 ?_ | with_reducible refine an_bigl6 ?_ | with_reducible refine an_big7 ?_ | with_reducible refine an_bigl7 ?_ | with_reducible refine an_big8 ?_ | with_reducible refine an_bigl8 ?_ | with_reducible refine an_big (by decide) ?_ | with_reducible refine an_bigl (by decide) ?_ | with_reducible refine w_compN ?_ | with_reducible refine w_compC ?_ | with_reducible refine w_addT1 (by simp) ?_ | ((with_reducible apply an_own); exact rfl) | ((with_reducible apply ex_app); (first | exact rfl | (simp only [esc_nil, esc_int, esc_str, esc_bl, esc_non, List.set_cons_zero, List.set_cons_succ, unown_nil, unown_noO, esc_noO, noO_nil, noO_cons, isOwn_val, isOwn_no, isOwn_own, isOwn_succ, Bool.not_false, Bool.and_self]; exact rfl))) | ((with_reducible apply w_augI); exact rfl) | ((with_reducible apply w_augL); exact rfl) | ((with_reducible apply br_t); (first | decide +kernel | exact rfl)) | ((with_reducible apply br_f); (first | decide +kernel | exact rfl)) | with_reducible refine br_n ?_ | with_reducible refine br_d (fun _ => ?_) (fun _ => ?_) | with_reducible refine br_e (fun _ => ?_) (fun _ => ?_) | with_reducible refine br_s (fun _ => ?_) (fun _ => ?_) | with_reducible refine br_2 (fun _ => ?_) (fun _ => ?_)))
      refine w_forA (I := fun ds ρ => ∃ (r : List K3) (s2 s3 : Sl), ds = r.map encK ∧ ρ = [Sl.val (.lst (qs.map encK)), Sl.val (.lst (ks.map encK)), s2, s3]) _ ⟨ks, _, _, rfl, rfl⟩ (fun d ds ρ hI => ?_) (fun ρ hI => ?_)
      · obtain ⟨r, s2, s3, e1, rfl⟩ := hI
        obtain ⟨k, r, rfl⟩ : ∃ u b, r = u :: b := by
          cases r with
          | nil => cases e1
          | cons u r => exact ⟨u, r, rfl⟩
        obtain ⟨rfl, rfl⟩ := List.cons.inj e1
        have c1 : ∀ l : List K3, (pls (l.map encK) && pl (encK k) && decide (min (dpts (l.map encK)) (dpt (encK k)) ≤ 60)) = true := fun l => by
          rw [pls_encK, pl_encK, dpt_encK]
          simp only [Bool.and_self, Bool.true_and, decide_eq_true_eq]
          omega
        (repeat' (first | with_reducible refine w_count (c1 _) ?_ | with_reducible refine w_seq ?_ | with_reducible refine w_sIf ?_ | with_reducible refine w_nil ?_ | with_reducible refine w_ret ?_ | with_reducible refine w_sG ?_ | with_reducible refine w_xP ?_ | with_reducible refine w_gN ?_ | with_reducible refine w_gsN ?_ | with_reducible refine w_gsC ?_ | with_reducible refine w_gT2 ?_ | with_reducible refine w_gT3 ?_ | with_reducible refine w_gT (by rfl) ?_ | with_reducible refine w_c ?_ | ((with_reducible apply w_v); exact rfl) | ((with_reducible apply w_vo); exact rfl) | with_reducible refine w_e1 ?_ | with_reducible refine w_e2 ?_ | with_reducible refine w_esN ?_ | with_reducible refine w_esC ?_ | with_reducible refine w_eA ?_ | with_reducible refine w_nL ?_ | with_reducible refine w_eL ?_ | with_reducible refine w_lsG ?_ | with_reducible refine w_tup0 ?_ | with_reducible refine w_tup1 ?_ | with_reducible refine w_tup2 ?_ | with_reducible refine w_tup3 ?_ | with_reducible refine w_tup4 ?_ | with_reducible refine w_tup5 ?_ | with_reducible refine w_tup6 ?_ | with_reducible refine w_tup (by decide) ?_ | with_reducible refine w_tE ?_ | with_reducible refine w_dB ?_ | with_reducible refine w_tNo ?_ | with_reducible refine w_tAn ?_ | with_reducible refine w_tOr ?_ | with_reducible refine w_tY ?_ | with_reducible refine w_eAn ?_ | with_reducible refine w_eOr ?_ | with_reducible refine w_eIf ?_ | with_reducible refine w_addI ?_ | with_reducible refine w_sub ?_ | with_reducible refine w_neg ?_ | with_reducible refine w_not ?_ | with_reducible refine w_cmp ?_ | with_reducible refine w_ltI ?_ | with_reducible refine w_nSl ?_ | with_reducible refine w_cutL ?_ | with_reducible refine w_slL ?_ | with_reducible refine w_slR ?_ | with_reducible refine w_gL2 ?_ | with_reducible refine w_gL3 ?_ | with_reducible refine w_gL5 ?_ | with_reducible refine w_eqI ?_ | with_reducible refine w_eqS ?_ | with_reducible refine w_eqB ?_ | with_reducible refine w_neE ?_ | with_reducible refine w_eqE ?_ | with_reducible refine w_neI ?_ | with_reducible refine w_neS ?_ | with_reducible refine w_lenL ?_ | with_reducible refine w_lenT ?_ | with_reducible refine w_lenR ?_ | with_reducible refine w_intI ?_ | ((with_reducible apply w_intBt); (first | decide +kernel | exact rfl)) | ((with_reducible apply w_intBf); (first | decide +kernel | exact rfl)) | with_reducible refine w_intB ?_ | with_reducible refine w_tupleL ?_ | with_reducible refine w_tupleT ?_ | with_reducible refine w_listL ?_ | with_reducible refine w_listT ?_ | with_reducible refine w_max2P (fun r _ _ _ => ?_) | with_reducible refine w_min2P (fun r _ _ _ => ?_) | ((with_reducible apply w_isi); exact rfl) | with_reducible refine w_oN ?_ | with_reducible refine w_oS ?_ | with_reducible refine w_eSl ?_ | with_reducible refine w_sl1 ?_ | with_reducible refine w_sl2 ?_ | with_reducible refine w_sl3 ?_ | ((with_reducible apply w_ixT); exact rfl) | with_reducible refine w_mod (by decide) ?_ | with_reducible refine w_div (by decide) ?_ | with_reducible refine w_pow (by decide) ?_ | with_reducible refine w_own ?_ | with_reducible refine w_xsN ?_ | with_reducible refine w_xsC ?_ | with_reducible refine w_xA ?_ | with_reducible refine w_app ?_ | ((with_reducible refine sq_nx ?_); try simp only [esc_nil, esc_int, esc_str, esc_bl, esc_non, List.set_cons_zero, List.set_cons_succ, unown_nil, unown_noO, esc_noO, noO_nil, noO_cons, isOwn_val, isOwn_no, isOwn_own, isOwn_succ, Bool.not_false, Bool.and_self]) | with_reducible refine sq_ret ?_ | with_reducible refine rq_ret ?_ | with_reducible refine lq_ret ?_ | ((with_reducible refine lq_nx ?_); try simp only [esc_nil, esc_int, esc_str, esc_bl, esc_non, List.set_cons_zero, List.set_cons_succ, unown_nil, unown_noO, esc_noO, noO_nil, noO_cons, isOwn_val, isOwn_no, isOwn_own, isOwn_succ, Bool.not_false, Bool.and_self]) | ((with_reducible refine w_sFor ?_); try simp only [esc_nil, esc_int, esc_str, esc_bl, esc_non, List.set_cons_zero, List.set_cons_succ, unown_nil, unown_noO, esc_noO, noO_nil, noO_cons, isOwn_val, isOwn_no, isOwn_own, isOwn_succ, Bool.not_false, Bool.and_self]) | with_reducible refine w_iV ?_ | with_reducible refine w_iE ?_ | with_reducible refine w_itL ?_ | with_reducible refine w_itT ?_ | with_reducible refine w_itS ?_ | with_reducible refine w_lcG ?_ | with_reducible refine w_while0 ?_ | with_reducible refine w_mulI (mulOk_r (by decide)) ?_ | with_reducible refine w_mulI (mulOk_l (by decide)) ?_ | with_reducible refine ex_int ?_ | with_reducible refine ex_bl ?_ | with_reducible refine ex_lst ?_ | with_reducible refine an_int ?_ | with_reducible refine an_big0 ?_ | with_reducible refine an_bigl0 ?_ | with_reducible refine an_big1 ?_ | with_reducible refine an_bigl1 ?_ | with_reducible refine an_big2 ?_ | with_reducible refine an_bigl2 ?_ | with_reducible refine an_big3 ?_ | with_reducible refine an_bigl3 ?_ | with_reducible refine an_big4 ?_ | with_reducible refine an_bigl4 ?_ | with_reducible refine an_big5 ?_ | with_reducible refine an_bigl5 ?_ | with_reducible refine an_big6 ?_ | with_reducible refine an_bigl6 ?_ | with_reducible refine an_big7 ?_ | with_reducible refine an_bigl7 ?_ | with_reducible refine an_big8 ?_ | with_reducible refine an_bigl8 ?_ | with_reducible refine an_big (by decide) ?_ | with_reducible refine an_bigl (by decide) ?_ | with_reducible refine w_compN ?_ | with_reducible refine w_compC ?_ | with_reducible refine w_addT1 (by simp) ?_ | ((with_reducible apply an_own); exact rfl) | ((with_reducible apply ex_app); (first | exact rfl | (simp only [esc_nil, esc_int, esc_str, esc_bl, esc_non, List.set_cons_zero, List.set_cons_succ, unown_nil, unown_noO, esc_noO, noO_nil, noO_cons, isOwn_val, isOwn_no, isOwn_own, isOwn_succ, Bool.not_false, Bool.and_self]; exact rfl))) | ((with_reducible apply w_augI); exact rfl) | ((with_reducible apply w_augL); exact rfl) | ((with_reducible apply br_t); (first | decide +kernel | exact rfl)) | ((with_reducible apply br_f); (first | decide +kernel | exact rfl)) | with_reducible refine br_n ?_ | with_reducible refine br_d (fun _ => ?_) (fun _ => ?_) | with_reducible refine br_e (fun _ => ?_) (fun _ => ?_) | with_reducible refine br_s (fun _ => ?_) (fun _ => ?_) | with_reducible refine br_2 (fun _ => ?_) (fun _ => ?_)))
        · exact ⟨r, _, _, rfl, rfl⟩
        · rename_i hx
          exact absurd (by rw [pm.countP_eq]) hx
      · obtain ⟨r, s2, s3, e1, rfl⟩ := hI
        (repeat' (first | with_reducible refine w_seq ?_ | with_reducible refine w_sIf ?_ | with_reducible refine w_nil ?_ | with_reducible refine w_ret ?_ | with_reducible refine w_sG ?_ | with_reducible refine w_xP ?_ | with_reducible refine w_gN ?_ | with_reducible refine w_gsN ?_ | with_reducible refine w_gsC ?_ | with_reducible refine w_gT2 ?_ | with_reducible refine w_gT3 ?_ | with_reducible refine w_gT (by rfl) ?_ | with_reducible refine w_c ?_ | ((with_reducible apply w_v); exact rfl) | ((with_reducible apply w_vo); exact rfl) | with_reducible refine w_e1 ?_ | with_reducible refine w_e2 ?_ | with_reducible refine w_esN ?_ | with_reducible refine w_esC ?_ | with_reducible refine w_eA ?_ | with_reducible refine w_nL ?_ | with_reducible refine w_eL ?_ | with_reducible refine w_lsG ?_ | with_reducible refine w_tup0 ?_ | with_reducible refine w_tup1 ?_ | with_reducible refine w_tup2 ?_ | with_reducible refine w_tup3 ?_ | with_reducible refine w_tup4 ?_ | with_reducible refine w_tup5 ?_ | with_reducible refine w_tup6 ?_ | with_reducible refine w_tup (by decide) ?_ | with_reducible refine w_tE ?_ | with_reducible refine w_dB ?_ | with_reducible refine w_tNo ?_ | with_reducible refine w_tAn ?_ | with_reducible refine w_tOr ?_ | with_reducible refine w_tY ?_ | with_reducible refine w_eAn ?_ | with_reducible refine w_eOr ?_ | with_reducible refine w_eIf ?_ | with_reducible refine w_addI ?_ | with_reducible refine w_sub ?_ | with_reducible refine w_neg ?_ | with_reducible refine w_not ?_ | with_reducible refine w_cmp ?_ | with_reducible refine w_ltI ?_ | with_reducible refine w_nSl ?_ | with_reducible refine w_cutL ?_ | with_reducible refine w_slL ?_ | with_reducible refine w_slR ?_ | with_reducible refine w_gL2 ?_ | with_reducible refine w_gL3 ?_ | with_reducible refine w_gL5 ?_ | with_reducible refine w_eqI ?_ | with_reducible refine w_eqS ?_ | with_reducible refine w_eqB ?_ | with_reducible refine w_neE ?_ | with_reducible refine w_eqE ?_ | with_reducible refine w_neI ?_ | with_reducible refine w_neS ?_ | with_reducible refine w_lenL ?_ | with_reducible refine w_lenT ?_ | with_reducible refine w_lenR ?_ | with_reducible refine w_intI ?_ | ((with_reducible apply w_intBt); (first | decide +kernel | exact rfl)) | ((with_reducible apply w_intBf); (first | decide +kernel | exact rfl)) | with_reducible refine w_intB ?_ | with_reducible refine w_tupleL ?_ | with_reducible refine w_tupleT ?_ | with_reducible refine w_listL ?_ | with_reducible refine w_listT ?_ | with_reducible refine w_max2P (fun r _ _ _ => ?_) | with_reducible refine w_min2P (fun r _ _ _ => ?_) | ((with_reducible apply w_isi); exact rfl) | with_reducible refine w_oN ?_ | with_reducible refine w_oS ?_ | with_reducible refine w_eSl ?_ | with_reducible refine w_sl1 ?_ | with_reducible refine w_sl2 ?_ | with_reducible refine w_sl3 ?_ | ((with_reducible apply w_ixT); exact rfl) | with_reducible refine w_mod (by decide) ?_ | with_reducible refine w_div (by decide) ?_ | with_reducible refine w_pow (by decide) ?_ | with_reducible refine w_own ?_ | with_reducible refine w_xsN ?_ | with_reducible refine w_xsC ?_ | with_reducible refine w_xA ?_ | with_reducible refine w_app ?_ | ((with_reducible refine sq_nx ?_); try simp only [esc_nil, esc_int, esc_str, esc_bl, esc_non, List.set_cons_zero, List.set_cons_succ, unown_nil, unown_noO, esc_noO, noO_nil, noO_cons, isOwn_val, isOwn_no, isOwn_own, isOwn_succ, Bool.not_false, Bool.and_self]) | with_reducible refine sq_ret ?_ | with_reducible refine rq_ret ?_ | with_reducible refine lq_ret ?_ | ((with_reducible refine lq_nx ?_); try simp only [esc_nil, esc_int, esc_str, esc_bl, esc_non, List.set_cons_zero, List.set_cons_succ, unown_nil, unown_noO, esc_noO, noO_nil, noO_cons, isOwn_val, isOwn_no, isOwn_own, isOwn_succ, Bool.not_false, Bool.and_self]) | ((with_reducible refine w_sFor ?_); try simp only [esc_nil, esc_int, esc_str, esc_bl, esc_non, List.set_cons_zero, List.set_cons_succ, unown_nil, unown_noO, esc_noO, noO_nil, noO_cons, isOwn_val, isOwn_no, isOwn_own, isOwn_succ, Bool.not_false, Bool.and_self]) | with_reducible refine w_iV ?_ | with_reducible refine w_iE ?_ | with_reducible refine w_itL ?_ | with_reducible refine w_itT ?_ | with_reducible refine w_itS ?_ | with_reducible refine w_lcG ?_ | with_reducible refine w_while0 ?_ | with_reducible refine w_mulI (mulOk_r (by decide)) ?_ | with_reducible refine w_mulI (mulOk_l (by decide)) ?_ | with_reducible refine ex_int ?_ | with_reducible refine ex_bl ?_ | with_reducible refine ex_lst ?_ | with_reducible refine an_int ?_ | with_reducible refine an_big0 ?_ | with_reducible refine an_bigl0 ?_ | with_reducible refine an_big1 ?_ | with_reducible refine an_bigl1 ?_ | with_reducible refine an_big2 ?_ | with_reducible refine an_bigl2 ?_ | with_reducible refine an_big3 ?_ | with_reducible refine an_bigl3 ?_ | with_reducible refine an_big4 ?_ | with_reducible refine an_bigl4 ?_ | with_reducible refine an_big5 ?_ | with_reducible refine an_bigl5 ?_ | with_reducible refine an_big6 ?_ | with_reducible refine an_bigl6 ?_ | with_reducible refine an_big7 ?_ | with_reducible refine an_bigl7 ?_ | with_reducible refine an_big8 ?_ | with_reducible refine an_bigl8 ?_ | with_reducible refine an_big (by decide) ?_ | with_reducible refine an_bigl (by decide) ?_ | with_reducible refine w_compN ?_ | with_reducible refine w_compC ?_ | with_reducible refine w_addT1 (by simp) ?_ | ((with_reducible apply an_own); exact rfl) | ((with_reducible apply ex_app); (first | exact rfl | (simp only [esc_nil, esc_int, esc_str, esc_bl, esc_non, List.set_cons_zero, List.set_cons_succ, unown_nil, unown_noO, esc_noO, noO_nil, noO_cons, isOwn_val, isOwn_no, isOwn_own, isOwn_succ, Bool.not_false, Bool.and_self]; exact rfl))) | ((with_reducible apply w_augI); exact rfl) | ((with_reducible apply w_augL); exact rfl) | ((with_reducible apply br_t); (first | decide +kernel | exact rfl)) | ((with_reducible apply br_f); (first | decide +kernel | exact rfl)) | with_reducible refine br_n ?_ | with_reducible refine br_d (fun _ => ?_) (fun _ => ?_) | with_reducible refine br_e (fun _ => ?_) (fun _ => ?_) | with_reducible refine br_s (fun _ => ?_) (fun _ => ?_) | with_reducible refine br_2 (fun _ => ?_) (fun _ => ?_)))
        exact q
end G

namespace G
open PySem L2 DL ST
theorem cut_neg {α : Type} (xs : List α) {k : Int} (h : 0 < k) : cutG xs (some (-k)) none = xs.drop (xs.length - k.toNat) := by
  unfold cutG HT.sIx
  simp only
  rw [if_pos (by omega)]
  have e : (-k + (xs.length : Int)).toNat = xs.length - k.toNat := by omega
  rw [e, List.take_of_length_le (by rw [List.length_drop]; omega)]
theorem cut_to {α : Type} (xs : List α) {k : Int} (h : 0 < k) : cutG xs none (some (-k)) = xs.take (xs.length - k.toNat) := by
  unfold cutG HT.sIx
  simp only
  rw [if_pos (by omega)]
  have e : (-k + (xs.length : Int)).toNat = xs.length - k.toNat := by omega
  rw [e, List.drop_zero, Nat.sub_zero]
def rowT (t : Tr) : D := .lst [encT t, .int (hgt t), .lst ((keysT t).map encK)]
theorem enc_head (A : Stm) : ∃ x r, enc A = .tup (.str x :: r) := by
  cases A <;> exact ⟨_, _, rfl⟩
theorem hmaxs (u : Tr) (us : List Tr) : imax (hgt u : Int) (us.map fun t => (hgt t : Int)) = ((hgts (u :: us) : Nat) : Int) := hmax us (hgt u)
theorem okTs_app : ∀ {a b : List Tr}, okTs (a ++ b) ↔ okTs a ∧ okTs b
  | [], b => ⟨fun h => ⟨trivial, h⟩, fun h => h.2⟩
  | t :: a, b => by
    show okT t ∧ okTs (a ++ b) ↔ (okT t ∧ okTs a) ∧ okTs b
    rw [okTs_app]
    exact ⟨fun h => ⟨⟨h.1, h.2.1⟩, h.2.2⟩, fun h => ⟨h.1.1, h.1.2, h.2⟩⟩
theorem hgts_app : ∀ {a b : List Tr}, hgts (a ++ b) = max (hgts a) (hgts b)
  | [], b => by show hgts b = max 0 (hgts b); omega
  | t :: a, b => by
    show max (hgt t) (hgts (a ++ b)) = max (max (hgt t) (hgts a)) (hgts b)
    rw [hgts_app]
    omega
/-- the stand -/
structure Std (ts : List Tr) (left : Nat) : Prop where
  ok : okTs ts
  high : hgts ts ≤ 30
  many : ts.length + left ≤ 63
  keys : (keysTs ts).length + left ≤ 63
theorem std_close {ts : List Tr} {l : Nat} (h : Std ts (l + 1)) : Std (ts ++ [.close]) l where
  ok := okTs_app.mpr ⟨h.ok, trivial, trivial⟩
  high := by
    have := h.high
    rw [hgts_app]
    show max (hgts ts) (max 1 0) ≤ 30
    omega
  many := by
    have := h.many
    rw [List.length_append]
    show ts.length + 1 + l ≤ 63
    omega
  keys := by
    have := h.keys
    rw [keysTs_app, List.length_append]
    show (keysTs ts).length + 0 + l ≤ 63
    omega
theorem std_new {a b : List Tr} {t : Tr} {l : Nat} (h : Std (a ++ b) (l + 1)) (hb : 0 < b.length) (ht : kidsT t = b) (ok : okT t) (hh : hgts b ≤ 29) (hk : (keysT t).length ≤ (keysTs b).length + 1) : Std (a ++ [t]) l where
  ok := okTs_app.mpr ⟨(okTs_app.mp h.ok).1, ok, trivial⟩
  high := by
    have := h.high
    rw [hgts_app] at this ⊢
    have e : hgts [t] = max (hgt t) 0 := rfl
    rw [e, kids_hgt, ht]
    omega
  many := by
    have := h.many
    rw [List.length_append] at this ⊢
    show a.length + 1 + l ≤ 63
    omega
  keys := by
    have := h.keys
    rw [keysTs_app, List.length_append] at this ⊢
    have e : keysTs [t] = keysT t ++ [] := rfl
    rw [e, List.append_nil]
    omega
abbrev gpart (φ : Nat → List D → Option D) : Sx := (sSeq (sG (xP [] (eSl (eV 2) (oS (DL.e1 dNeg (eV 6))) oN)) (gN 7))
      (sIf (tOr' (tE (DL.e2 dEq (eV 4) (eC (.int 0)))) (tOr' (tE (DL.e2 dLt (eA dLen (esC (eV 7) esN)) (eV 6))) (tE (DL.e2 (dCmp pGt) (eA dMaxL (esC (eL (lcG [10] (iV 7) (gN 10) tY (DL.e2 dIx (eV 10) (eC (.int 1))))) esN)) (eC (.int 29)))))) (sApp 2 (xP [] (eL (lsG (esC (eA dTup (esC (eC (.str "close")) esN)) (esC (eC (.int 1)) (esC (eL (lsG esN)) esN))))))) (sSeq (sOwn 2 [] (nSl (eV 2) oN (oS (DL.e1 dNeg (eV 6)))))
      (sSeq (sG (xP [] (DL.e2 dAdd (eC (.int 1)) (eA dMaxL (esC (eL (lcG [10] (iV 7) (gN 10) tY (DL.e2 dIx (eV 10) (eC (.int 1))))) esN)))) (gN 8))
      (sSeq (sG (xP [] (eL (lsG esN))) (gN 9))
      (sSeq (sFor [7] (iV 7) (gN 10) (sG (xP [9] (DL.e2 dAdd (eV 9) (DL.e2 dIx (eV 10) (eC (.int 2))))) (gN 9)))
      (sSeq (sG (xP [5] (eA dTup (esC (eC (.str "rule")) (esC (eC (.str "left")) (esC (eV 5) (esC (DL.e2 dIx (eL (lsG (esC (eC (.str "")) (esC (DL.e2 dIx (eV 1) (eC (.int 0))) esN)))) (eA dInt (esC (DL.e2 dIn (DL.e2 dIx (eV 5) (eC (.int 0))) (eA dTup (esC (eC (.str "all")) (esC (eC (.str "some")) esN)))) esN))) (esC (eA dTuple (esC (eL (lcG [10] (iV 7) (gN 10) tY (DL.e2 dIx (eV 10) (eC (.int 0))))) esN)) esN))))))) (gN 11))
      (sSeq (sIf (tE (DL.e2 (dCmp pGt) (eV 4) (eC (.int 2)))) (sSeq (sG (xP [5] (eA dTup (esC (eC (.str "cut")) (esC (eV 5) (esC (DL.e2 dIx (eV 11) (eC (.int 4))) esN))))) (gN 11))
      (sIf (tE (DL.e2 dEq (eV 9) (eL (lsG esN)))) (sG (xP [5] (eL (lsG (esC (eA dTup (esC (eA (fnL 1 (φ 9)) (esC (eV 5) esN)) (esC (eC (.int 0)) (esC (DL.e2 dAdd (DL.e2 dIx (DL.e2 dIx (eV 7) (eC (.int 0))) (eC (.int 1))) (DL.e2 dIx (DL.e2 dIx (eV 7) (eC (.int 1))) (eC (.int 1)))) esN)))) esN)))) (gN 9)) (sG (xP [9, 5] (DL.e2 dAdd (eV 9) (eL (lsG (esC (eA dTup (esC (eA (fnL 1 (φ 9)) (esC (eV 5) esN)) (esC (eC (.int 1)) (esC (eC (.int 0)) esN)))) esN))))) (gN 9)))) sNil)
      (sApp 2 (xP [11, 8, 9] (eL (lsG (esC (eV 11) (esC (eV 8) (esC (eV 9) esN)))))))))))))))
theorem lq_app {I : Rho → Prop} {Q : DL.Out → Prop} {ρ : Rho} (h : I ρ) : loopQ I Q (.nx ρ) := h
theorem gpart_ok {m : Nat} (hm : 10 ≤ m) (c0 c3 : D) (vs : List Str) (hv : 0 < vs.length) (ts : List Tr) (l : Nat) (hS : Std ts (l + 1)) (way size : Int) (A : Stm) (hA1 : dep A ≤ 3) (hA2 : short A) (hs : 0 < size ∧ size ≤ 3) (hw : way > 2 → size = 2) (s7 s8 s9 s10 s11 : Sl) {Q : DL.Out → Prop}
    (q : ∀ ts' s7 s8 s9 s10 s11, Std ts' l → Q (.nx [.val c0, .val (.lst (vs.map .str)), .own (ts'.map rowT), .val c3, .val (.int way), .val (enc A), .val (.int size), s7, s8, s9, s10, s11])) :
    Wp (gpart (Phi m) [.val c0, .val (.lst (vs.map .str)), .own (ts.map rowT), .val c3, .val (.int way), .val (enc A), .val (.int size), s7, s8, s9, s10, s11]) Q := by
  unfold gpart
  have hlen : (ts.map rowT).length < 16777216 := by
    have := hS.many
    rw [List.length_map]
    omega
  have fc := fun s7 s8 s9 s10 s11 => q (ts ++ [.close]) s7 s8 s9 s10 s11 (std_close hS)
  simp only [List.map_append] at fc
  obtain ⟨a, b, rfl, hb⟩ : ∃ a b, ts = a ++ b ∧ a.length = ts.length - size.toNat := ⟨ts.take (ts.length - size.toNat), ts.drop (ts.length - size.toNat), (List.take_append_drop _ _).symm, by rw [List.length_take]; omega⟩
  have e1 : cutG ((a ++ b).map rowT) (some (-size)) none = b.map rowT := by
    rw [cut_neg _ hs.1, List.map_append, ← List.map_append, List.length_map, ← hb, List.map_append, List.drop_left' (by rw [List.length_map])]
  have e2 : cutG ((a ++ b).map rowT) none (some (-size)) = a.map rowT := by
    rw [cut_to _ hs.1, List.length_map, ← hb, List.map_append, List.take_left' (by rw [List.length_map])]
  have hm2 := hS.many
  have hk2 := hS.keys
  rw [List.length_append] at hm2 hb
  rw [keysTs_app, List.length_append] at hk2
  (repeat' (first | with_reducible refine w_seq ?_ | with_reducible refine w_sIf ?_ | with_reducible refine w_nil ?_ | with_reducible refine w_ret ?_ | with_reducible refine w_sG ?_ | with_reducible refine w_xP ?_ | with_reducible refine w_gN ?_ | with_reducible refine w_gsN ?_ | with_reducible refine w_gsC ?_ | with_reducible refine w_gT2 ?_ | with_reducible refine w_gT3 ?_ | with_reducible refine w_gT (by rfl) ?_ | with_reducible refine w_c ?_ | ((with_reducible apply w_v); exact rfl) | ((with_reducible apply w_vo); exact rfl) | with_reducible refine w_e1 ?_ | with_reducible refine w_e2 ?_ | with_reducible refine w_esN ?_ | with_reducible refine w_esC ?_ | with_reducible refine w_eA ?_ | with_reducible refine w_nL ?_ | with_reducible refine w_eL ?_ | with_reducible refine w_lsG ?_ | with_reducible refine w_tup0 ?_ | with_reducible refine w_tup1 ?_ | with_reducible refine w_tup2 ?_ | with_reducible refine w_tup3 ?_ | with_reducible refine w_tup4 ?_ | with_reducible refine w_tup5 ?_ | with_reducible refine w_tup6 ?_ | with_reducible refine w_tup (by decide) ?_ | with_reducible refine w_tE ?_ | with_reducible refine w_dB ?_ | with_reducible refine w_tNo ?_ | with_reducible refine w_tAn ?_ | with_reducible refine w_tOr ?_ | with_reducible refine w_tY ?_ | with_reducible refine w_eAn ?_ | with_reducible refine w_eOr ?_ | with_reducible refine w_eIf ?_ | with_reducible refine w_addI ?_ | with_reducible refine w_sub ?_ | with_reducible refine w_neg ?_ | with_reducible refine w_not ?_ | with_reducible refine w_cmp ?_ | with_reducible refine w_ltI ?_ | with_reducible refine w_nSl ?_ | with_reducible refine w_cutL ?_ | with_reducible refine w_slL ?_ | with_reducible refine w_slR ?_ | with_reducible refine w_gL2 ?_ | with_reducible refine w_gL3 ?_ | with_reducible refine w_gL5 ?_ | with_reducible refine w_eqI ?_ | with_reducible refine w_eqS ?_ | with_reducible refine w_eqB ?_ | with_reducible refine w_neE ?_ | with_reducible refine w_eqE ?_ | with_reducible refine w_neI ?_ | with_reducible refine w_neS ?_ | with_reducible refine w_lenL ?_ | with_reducible refine w_lenT ?_ | with_reducible refine w_lenR ?_ | with_reducible refine w_intI ?_ | ((with_reducible apply w_intBt); (first | decide +kernel | exact rfl)) | ((with_reducible apply w_intBf); (first | decide +kernel | exact rfl)) | with_reducible refine w_intB ?_ | with_reducible refine w_tupleL ?_ | with_reducible refine w_tupleT ?_ | with_reducible refine w_listL ?_ | with_reducible refine w_listT ?_ | with_reducible refine w_max2P (fun r _ _ _ => ?_) | with_reducible refine w_min2P (fun r _ _ _ => ?_) | ((with_reducible apply w_isi); exact rfl) | with_reducible refine w_oN ?_ | with_reducible refine w_oS ?_ | with_reducible refine w_eSl ?_ | with_reducible refine w_sl1 ?_ | with_reducible refine w_sl2 ?_ | with_reducible refine w_sl3 ?_ | ((with_reducible apply w_ixT); exact rfl) | with_reducible refine w_mod (by decide) ?_ | with_reducible refine w_div (by decide) ?_ | with_reducible refine w_pow (by decide) ?_ | with_reducible refine w_own ?_ | with_reducible refine w_xsN ?_ | with_reducible refine w_xsC ?_ | with_reducible refine w_xA ?_ | with_reducible refine w_app ?_ | ((with_reducible refine sq_nx ?_); try simp only [esc_nil, esc_int, esc_str, esc_bl, esc_non, List.set_cons_zero, List.set_cons_succ, unown_nil, unown_noO, esc_noO, noO_nil, noO_cons, isOwn_val, isOwn_no, isOwn_own, isOwn_succ, Bool.not_false, Bool.and_self]) | with_reducible refine sq_ret ?_ | with_reducible refine rq_ret ?_ | with_reducible refine lq_ret ?_ | ((with_reducible refine lq_nx ?_); try simp only [esc_nil, esc_int, esc_str, esc_bl, esc_non, List.set_cons_zero, List.set_cons_succ, unown_nil, unown_noO, esc_noO, noO_nil, noO_cons, isOwn_val, isOwn_no, isOwn_own, isOwn_succ, Bool.not_false, Bool.and_self]) | ((with_reducible refine w_sFor ?_); try simp only [esc_nil, esc_int, esc_str, esc_bl, esc_non, List.set_cons_zero, List.set_cons_succ, unown_nil, unown_noO, esc_noO, noO_nil, noO_cons, isOwn_val, isOwn_no, isOwn_own, isOwn_succ, Bool.not_false, Bool.and_self]) | with_reducible refine w_iV ?_ | with_reducible refine w_iE ?_ | with_reducible refine w_itL ?_ | with_reducible refine w_itT ?_ | with_reducible refine w_itS ?_ | with_reducible refine w_lcG ?_ | with_reducible refine w_while0 ?_ | with_reducible refine w_mulI (mulOk_r (by decide)) ?_ | with_reducible refine w_mulI (mulOk_l (by decide)) ?_ | with_reducible refine ex_int ?_ | with_reducible refine ex_bl ?_ | with_reducible refine ex_lst ?_ | with_reducible refine an_int ?_ | with_reducible refine an_big0 ?_ | with_reducible refine an_bigl0 ?_ | with_reducible refine an_big1 ?_ | with_reducible refine an_bigl1 ?_ | with_reducible refine an_big2 ?_ | with_reducible refine an_bigl2 ?_ | with_reducible refine an_big3 ?_ | with_reducible refine an_bigl3 ?_ | with_reducible refine an_big4 ?_ | with_reducible refine an_bigl4 ?_ | with_reducible refine an_big5 ?_ | with_reducible refine an_bigl5 ?_ | with_reducible refine an_big6 ?_ | with_reducible refine an_bigl6 ?_ | with_reducible refine an_big7 ?_ | with_reducible refine an_bigl7 ?_ | with_reducible refine an_big8 ?_ | with_reducible refine an_bigl8 ?_ | with_reducible refine an_big (by decide) ?_ | with_reducible refine an_bigl (by decide) ?_ | with_reducible refine w_compN ?_ | with_reducible refine w_compC ?_ | with_reducible refine w_addT1 (by simp) ?_ | ((with_reducible apply an_own); exact rfl) | ((with_reducible apply ex_app); (first | exact rfl | (simp only [esc_nil, esc_int, esc_str, esc_bl, esc_non, List.set_cons_zero, List.set_cons_succ, unown_nil, unown_noO, esc_noO, noO_nil, noO_cons, isOwn_val, isOwn_no, isOwn_own, isOwn_succ, Bool.not_false, Bool.and_self]; exact rfl))) | ((with_reducible apply w_augI); exact rfl) | ((with_reducible apply w_augL); exact rfl) | ((with_reducible apply br_t); (first | decide +kernel | exact rfl)) | ((with_reducible apply br_f); (first | decide +kernel | exact rfl)) | with_reducible refine br_n ?_ | with_reducible refine br_d (fun _ => ?_) (fun _ => ?_) | with_reducible refine br_e (fun _ => ?_) (fun _ => ?_) | with_reducible refine br_s (fun _ => ?_) (fun _ => ?_) | with_reducible refine br_2 (fun _ => ?_) (fun _ => ?_)))
  · exact hlen
  · exact fc _ _ _ _ _
  · exact hlen
  · exact fc _ _ _ _ _
  · rename_i hw0 hl0
    rw [e1] at hl0 ⊢
    rw [List.length_map] at hl0
    have hbs : b.length = size.toNat := by omega
    obtain ⟨u, us, rfl⟩ : ∃ u us, b = u :: us := by
      cases b with
      | nil => simp at hbs; omega
      | cons u us => exact ⟨u, us, rfl⟩
    have emax : ((u :: us).map fun t => D.int (hgt t)) = ((hgt u : Int) :: us.map fun t => (hgt t : Int)).map D.int := by rw [List.map_cons, List.map_cons, List.map_map]; rfl
    have hcl : ((u :: us).map rowT).length < 16777216 := by rw [List.length_map]; omega
    refine ⟨hcl, w_compM rowT (fun t => .int (hgt t)) (fun t ht => ?_) ?_⟩
    · unfold rowT
      (repeat' (first | with_reducible refine w_ixL rfl ?_ | with_reducible refine w_seq ?_ | with_reducible refine w_sIf ?_ | with_reducible refine w_nil ?_ | with_reducible refine w_ret ?_ | with_reducible refine w_sG ?_ | with_reducible refine w_xP ?_ | with_reducible refine w_gN ?_ | with_reducible refine w_gsN ?_ | with_reducible refine w_gsC ?_ | with_reducible refine w_gT2 ?_ | with_reducible refine w_gT3 ?_ | with_reducible refine w_gT (by rfl) ?_ | with_reducible refine w_c ?_ | ((with_reducible apply w_v); exact rfl) | ((with_reducible apply w_vo); exact rfl) | with_reducible refine w_e1 ?_ | with_reducible refine w_e2 ?_ | with_reducible refine w_esN ?_ | with_reducible refine w_esC ?_ | with_reducible refine w_eA ?_ | with_reducible refine w_nL ?_ | with_reducible refine w_eL ?_ | with_reducible refine w_lsG ?_ | with_reducible refine w_tup0 ?_ | with_reducible refine w_tup1 ?_ | with_reducible refine w_tup2 ?_ | with_reducible refine w_tup3 ?_ | with_reducible refine w_tup4 ?_ | with_reducible refine w_tup5 ?_ | with_reducible refine w_tup6 ?_ | with_reducible refine w_tup (by decide) ?_ | with_reducible refine w_tE ?_ | with_reducible refine w_dB ?_ | with_reducible refine w_tNo ?_ | with_reducible refine w_tAn ?_ | with_reducible refine w_tOr ?_ | with_reducible refine w_tY ?_ | with_reducible refine w_eAn ?_ | with_reducible refine w_eOr ?_ | with_reducible refine w_eIf ?_ | with_reducible refine w_addI ?_ | with_reducible refine w_sub ?_ | with_reducible refine w_neg ?_ | with_reducible refine w_not ?_ | with_reducible refine w_cmp ?_ | with_reducible refine w_ltI ?_ | with_reducible refine w_nSl ?_ | with_reducible refine w_cutL ?_ | with_reducible refine w_slL ?_ | with_reducible refine w_slR ?_ | with_reducible refine w_gL2 ?_ | with_reducible refine w_gL3 ?_ | with_reducible refine w_gL5 ?_ | with_reducible refine w_eqI ?_ | with_reducible refine w_eqS ?_ | with_reducible refine w_eqB ?_ | with_reducible refine w_neE ?_ | with_reducible refine w_eqE ?_ | with_reducible refine w_neI ?_ | with_reducible refine w_neS ?_ | with_reducible refine w_lenL ?_ | with_reducible refine w_lenT ?_ | with_reducible refine w_lenR ?_ | with_reducible refine w_intI ?_ | ((with_reducible apply w_intBt); (first | decide +kernel | exact rfl)) | ((with_reducible apply w_intBf); (first | decide +kernel | exact rfl)) | with_reducible refine w_intB ?_ | with_reducible refine w_tupleL ?_ | with_reducible refine w_tupleT ?_ | with_reducible refine w_listL ?_ | with_reducible refine w_listT ?_ | with_reducible refine w_max2P (fun r _ _ _ => ?_) | with_reducible refine w_min2P (fun r _ _ _ => ?_) | ((with_reducible apply w_isi); exact rfl) | with_reducible refine w_oN ?_ | with_reducible refine w_oS ?_ | with_reducible refine w_eSl ?_ | with_reducible refine w_sl1 ?_ | with_reducible refine w_sl2 ?_ | with_reducible refine w_sl3 ?_ | ((with_reducible apply w_ixT); exact rfl) | with_reducible refine w_mod (by decide) ?_ | with_reducible refine w_div (by decide) ?_ | with_reducible refine w_pow (by decide) ?_ | with_reducible refine w_own ?_ | with_reducible refine w_xsN ?_ | with_reducible refine w_xsC ?_ | with_reducible refine w_xA ?_ | with_reducible refine w_app ?_ | ((with_reducible refine sq_nx ?_); try simp only [esc_nil, esc_int, esc_str, esc_bl, esc_non, List.set_cons_zero, List.set_cons_succ, unown_nil, unown_noO, esc_noO, noO_nil, noO_cons, isOwn_val, isOwn_no, isOwn_own, isOwn_succ, Bool.not_false, Bool.and_self]) | with_reducible refine sq_ret ?_ | with_reducible refine rq_ret ?_ | with_reducible refine lq_ret ?_ | ((with_reducible refine lq_nx ?_); try simp only [esc_nil, esc_int, esc_str, esc_bl, esc_non, List.set_cons_zero, List.set_cons_succ, unown_nil, unown_noO, esc_noO, noO_nil, noO_cons, isOwn_val, isOwn_no, isOwn_own, isOwn_succ, Bool.not_false, Bool.and_self]) | ((with_reducible refine w_sFor ?_); try simp only [esc_nil, esc_int, esc_str, esc_bl, esc_non, List.set_cons_zero, List.set_cons_succ, unown_nil, unown_noO, esc_noO, noO_nil, noO_cons, isOwn_val, isOwn_no, isOwn_own, isOwn_succ, Bool.not_false, Bool.and_self]) | with_reducible refine w_iV ?_ | with_reducible refine w_iE ?_ | with_reducible refine w_itL ?_ | with_reducible refine w_itT ?_ | with_reducible refine w_itS ?_ | with_reducible refine w_lcG ?_ | with_reducible refine w_while0 ?_ | with_reducible refine w_mulI (mulOk_r (by decide)) ?_ | with_reducible refine w_mulI (mulOk_l (by decide)) ?_ | with_reducible refine ex_int ?_ | with_reducible refine ex_bl ?_ | with_reducible refine ex_lst ?_ | with_reducible refine an_int ?_ | with_reducible refine an_big0 ?_ | with_reducible refine an_bigl0 ?_ | with_reducible refine an_big1 ?_ | with_reducible refine an_bigl1 ?_ | with_reducible refine an_big2 ?_ | with_reducible refine an_bigl2 ?_ | with_reducible refine an_big3 ?_ | with_reducible refine an_bigl3 ?_ | with_reducible refine an_big4 ?_ | with_reducible refine an_bigl4 ?_ | with_reducible refine an_big5 ?_ | with_reducible refine an_bigl5 ?_ | with_reducible refine an_big6 ?_ | with_reducible refine an_bigl6 ?_ | with_reducible refine an_big7 ?_ | with_reducible refine an_bigl7 ?_ | with_reducible refine an_big8 ?_ | with_reducible refine an_bigl8 ?_ | with_reducible refine an_big (by decide) ?_ | with_reducible refine an_bigl (by decide) ?_ | with_reducible refine w_compN ?_ | with_reducible refine w_compC ?_ | with_reducible refine w_addT1 (by simp) ?_ | ((with_reducible apply an_own); exact rfl) | ((with_reducible apply ex_app); (first | exact rfl | (simp only [esc_nil, esc_int, esc_str, esc_bl, esc_non, List.set_cons_zero, List.set_cons_succ, unown_nil, unown_noO, esc_noO, noO_nil, noO_cons, isOwn_val, isOwn_no, isOwn_own, isOwn_succ, Bool.not_false, Bool.and_self]; exact rfl))) | ((with_reducible apply w_augI); exact rfl) | ((with_reducible apply w_augL); exact rfl) | ((with_reducible apply br_t); (first | decide +kernel | exact rfl)) | ((with_reducible apply br_f); (first | decide +kernel | exact rfl)) | with_reducible refine br_n ?_ | with_reducible refine br_d (fun _ => ?_) (fun _ => ?_) | with_reducible refine br_e (fun _ => ?_) (fun _ => ?_) | with_reducible refine br_s (fun _ => ?_) (fun _ => ?_) | with_reducible refine br_2 (fun _ => ?_) (fun _ => ?_)))
      rfl
    · (repeat' (first | with_reducible refine w_maxL emax ?_ | with_reducible refine w_seq ?_ | with_reducible refine w_sIf ?_ | with_reducible refine w_nil ?_ | with_reducible refine w_ret ?_ | with_reducible refine w_sG ?_ | with_reducible refine w_xP ?_ | with_reducible refine w_gN ?_ | with_reducible refine w_gsN ?_ | with_reducible refine w_gsC ?_ | with_reducible refine w_gT2 ?_ | with_reducible refine w_gT3 ?_ | with_reducible refine w_gT (by rfl) ?_ | with_reducible refine w_c ?_ | ((with_reducible apply w_v); exact rfl) | ((with_reducible apply w_vo); exact rfl) | with_reducible refine w_e1 ?_ | with_reducible refine w_e2 ?_ | with_reducible refine w_esN ?_ | with_reducible refine w_esC ?_ | with_reducible refine w_eA ?_ | with_reducible refine w_nL ?_ | with_reducible refine w_eL ?_ | with_reducible refine w_lsG ?_ | with_reducible refine w_tup0 ?_ | with_reducible refine w_tup1 ?_ | with_reducible refine w_tup2 ?_ | with_reducible refine w_tup3 ?_ | with_reducible refine w_tup4 ?_ | with_reducible refine w_tup5 ?_ | with_reducible refine w_tup6 ?_ | with_reducible refine w_tup (by decide) ?_ | with_reducible refine w_tE ?_ | with_reducible refine w_dB ?_ | with_reducible refine w_tNo ?_ | with_reducible refine w_tAn ?_ | with_reducible refine w_tOr ?_ | with_reducible refine w_tY ?_ | with_reducible refine w_eAn ?_ | with_reducible refine w_eOr ?_ | with_reducible refine w_eIf ?_ | with_reducible refine w_addI ?_ | with_reducible refine w_sub ?_ | with_reducible refine w_neg ?_ | with_reducible refine w_not ?_ | with_reducible refine w_cmp ?_ | with_reducible refine w_ltI ?_ | with_reducible refine w_nSl ?_ | with_reducible refine w_cutL ?_ | with_reducible refine w_slL ?_ | with_reducible refine w_slR ?_ | with_reducible refine w_gL2 ?_ | with_reducible refine w_gL3 ?_ | with_reducible refine w_gL5 ?_ | with_reducible refine w_eqI ?_ | with_reducible refine w_eqS ?_ | with_reducible refine w_eqB ?_ | with_reducible refine w_neE ?_ | with_reducible refine w_eqE ?_ | with_reducible refine w_neI ?_ | with_reducible refine w_neS ?_ | with_reducible refine w_lenL ?_ | with_reducible refine w_lenT ?_ | with_reducible refine w_lenR ?_ | with_reducible refine w_intI ?_ | ((with_reducible apply w_intBt); (first | decide +kernel | exact rfl)) | ((with_reducible apply w_intBf); (first | decide +kernel | exact rfl)) | with_reducible refine w_intB ?_ | with_reducible refine w_tupleL ?_ | with_reducible refine w_tupleT ?_ | with_reducible refine w_listL ?_ | with_reducible refine w_listT ?_ | with_reducible refine w_max2P (fun r _ _ _ => ?_) | with_reducible refine w_min2P (fun r _ _ _ => ?_) | ((with_reducible apply w_isi); exact rfl) | with_reducible refine w_oN ?_ | with_reducible refine w_oS ?_ | with_reducible refine w_eSl ?_ | with_reducible refine w_sl1 ?_ | with_reducible refine w_sl2 ?_ | with_reducible refine w_sl3 ?_ | ((with_reducible apply w_ixT); exact rfl) | with_reducible refine w_mod (by decide) ?_ | with_reducible refine w_div (by decide) ?_ | with_reducible refine w_pow (by decide) ?_ | with_reducible refine w_own ?_ | with_reducible refine w_xsN ?_ | with_reducible refine w_xsC ?_ | with_reducible refine w_xA ?_ | with_reducible refine w_app ?_ | ((with_reducible refine sq_nx ?_); try simp only [esc_nil, esc_int, esc_str, esc_bl, esc_non, List.set_cons_zero, List.set_cons_succ, unown_nil, unown_noO, esc_noO, noO_nil, noO_cons, isOwn_val, isOwn_no, isOwn_own, isOwn_succ, Bool.not_false, Bool.and_self]) | with_reducible refine sq_ret ?_ | with_reducible refine rq_ret ?_ | with_reducible refine lq_ret ?_ | ((with_reducible refine lq_nx ?_); try simp only [esc_nil, esc_int, esc_str, esc_bl, esc_non, List.set_cons_zero, List.set_cons_succ, unown_nil, unown_noO, esc_noO, noO_nil, noO_cons, isOwn_val, isOwn_no, isOwn_own, isOwn_succ, Bool.not_false, Bool.and_self]) | ((with_reducible refine w_sFor ?_); try simp only [esc_nil, esc_int, esc_str, esc_bl, esc_non, List.set_cons_zero, List.set_cons_succ, unown_nil, unown_noO, esc_noO, noO_nil, noO_cons, isOwn_val, isOwn_no, isOwn_own, isOwn_succ, Bool.not_false, Bool.and_self]) | with_reducible refine w_iV ?_ | with_reducible refine w_iE ?_ | with_reducible refine w_itL ?_ | with_reducible refine w_itT ?_ | with_reducible refine w_itS ?_ | with_reducible refine w_lcG ?_ | with_reducible refine w_while0 ?_ | with_reducible refine w_mulI (mulOk_r (by decide)) ?_ | with_reducible refine w_mulI (mulOk_l (by decide)) ?_ | with_reducible refine ex_int ?_ | with_reducible refine ex_bl ?_ | with_reducible refine ex_lst ?_ | with_reducible refine an_int ?_ | with_reducible refine an_big0 ?_ | with_reducible refine an_bigl0 ?_ | with_reducible refine an_big1 ?_ | with_reducible refine an_bigl1 ?_ | with_reducible refine an_big2 ?_ | with_reducible refine an_bigl2 ?_ | with_reducible refine an_big3 ?_ | with_reducible refine an_bigl3 ?_ | with_reducible refine an_big4 ?_ | with_reducible refine an_bigl4 ?_ | with_reducible refine an_big5 ?_ | with_reducible refine an_bigl5 ?_ | with_reducible refine an_big6 ?_ | with_reducible refine an_bigl6 ?_ | with_reducible refine an_big7 ?_ | with_reducible refine an_bigl7 ?_ | with_reducible refine an_big8 ?_ | with_reducible refine an_bigl8 ?_ | with_reducible refine an_big (by decide) ?_ | with_reducible refine an_bigl (by decide) ?_ | with_reducible refine w_compN ?_ | with_reducible refine w_compC ?_ | with_reducible refine w_addT1 (by simp) ?_ | ((with_reducible apply an_own); exact rfl) | ((with_reducible apply ex_app); (first | exact rfl | (simp only [esc_nil, esc_int, esc_str, esc_bl, esc_non, List.set_cons_zero, List.set_cons_succ, unown_nil, unown_noO, esc_noO, noO_nil, noO_cons, isOwn_val, isOwn_no, isOwn_own, isOwn_succ, Bool.not_false, Bool.and_self]; exact rfl))) | ((with_reducible apply w_augI); exact rfl) | ((with_reducible apply w_augL); exact rfl) | ((with_reducible apply br_t); (first | decide +kernel | exact rfl)) | ((with_reducible apply br_f); (first | decide +kernel | exact rfl)) | with_reducible refine br_n ?_ | with_reducible refine br_d (fun _ => ?_) (fun _ => ?_) | with_reducible refine br_e (fun _ => ?_) (fun _ => ?_) | with_reducible refine br_s (fun _ => ?_) (fun _ => ?_) | with_reducible refine br_2 (fun _ => ?_) (fun _ => ?_)))
      · exact hlen
      · exact fc _ _ _ _ _
      · rename_i hx
        rw [hmaxs] at hx
        have hx : ¬ (29 : Int) < ((hgts (u :: us) : Nat) : Int) := by simpa using hx
        rw [e2]
        refine ⟨hcl, w_compM rowT (fun t => .int (hgt t)) (fun t ht => ?_) ?_⟩
        · unfold rowT
          (repeat' (first | with_reducible refine w_ixL rfl ?_ | with_reducible refine w_seq ?_ | with_reducible refine w_sIf ?_ | with_reducible refine w_nil ?_ | with_reducible refine w_ret ?_ | with_reducible refine w_sG ?_ | with_reducible refine w_xP ?_ | with_reducible refine w_gN ?_ | with_reducible refine w_gsN ?_ | with_reducible refine w_gsC ?_ | with_reducible refine w_gT2 ?_ | with_reducible refine w_gT3 ?_ | with_reducible refine w_gT (by rfl) ?_ | with_reducible refine w_c ?_ | ((with_reducible apply w_v); exact rfl) | ((with_reducible apply w_vo); exact rfl) | with_reducible refine w_e1 ?_ | with_reducible refine w_e2 ?_ | with_reducible refine w_esN ?_ | with_reducible refine w_esC ?_ | with_reducible refine w_eA ?_ | with_reducible refine w_nL ?_ | with_reducible refine w_eL ?_ | with_reducible refine w_lsG ?_ | with_reducible refine w_tup0 ?_ | with_reducible refine w_tup1 ?_ | with_reducible refine w_tup2 ?_ | with_reducible refine w_tup3 ?_ | with_reducible refine w_tup4 ?_ | with_reducible refine w_tup5 ?_ | with_reducible refine w_tup6 ?_ | with_reducible refine w_tup (by decide) ?_ | with_reducible refine w_tE ?_ | with_reducible refine w_dB ?_ | with_reducible refine w_tNo ?_ | with_reducible refine w_tAn ?_ | with_reducible refine w_tOr ?_ | with_reducible refine w_tY ?_ | with_reducible refine w_eAn ?_ | with_reducible refine w_eOr ?_ | with_reducible refine w_eIf ?_ | with_reducible refine w_addI ?_ | with_reducible refine w_sub ?_ | with_reducible refine w_neg ?_ | with_reducible refine w_not ?_ | with_reducible refine w_cmp ?_ | with_reducible refine w_ltI ?_ | with_reducible refine w_nSl ?_ | with_reducible refine w_cutL ?_ | with_reducible refine w_slL ?_ | with_reducible refine w_slR ?_ | with_reducible refine w_gL2 ?_ | with_reducible refine w_gL3 ?_ | with_reducible refine w_gL5 ?_ | with_reducible refine w_eqI ?_ | with_reducible refine w_eqS ?_ | with_reducible refine w_eqB ?_ | with_reducible refine w_neE ?_ | with_reducible refine w_eqE ?_ | with_reducible refine w_neI ?_ | with_reducible refine w_neS ?_ | with_reducible refine w_lenL ?_ | with_reducible refine w_lenT ?_ | with_reducible refine w_lenR ?_ | with_reducible refine w_intI ?_ | ((with_reducible apply w_intBt); (first | decide +kernel | exact rfl)) | ((with_reducible apply w_intBf); (first | decide +kernel | exact rfl)) | with_reducible refine w_intB ?_ | with_reducible refine w_tupleL ?_ | with_reducible refine w_tupleT ?_ | with_reducible refine w_listL ?_ | with_reducible refine w_listT ?_ | with_reducible refine w_max2P (fun r _ _ _ => ?_) | with_reducible refine w_min2P (fun r _ _ _ => ?_) | ((with_reducible apply w_isi); exact rfl) | with_reducible refine w_oN ?_ | with_reducible refine w_oS ?_ | with_reducible refine w_eSl ?_ | with_reducible refine w_sl1 ?_ | with_reducible refine w_sl2 ?_ | with_reducible refine w_sl3 ?_ | ((with_reducible apply w_ixT); exact rfl) | with_reducible refine w_mod (by decide) ?_ | with_reducible refine w_div (by decide) ?_ | with_reducible refine w_pow (by decide) ?_ | with_reducible refine w_own ?_ | with_reducible refine w_xsN ?_ | with_reducible refine w_xsC ?_ | with_reducible refine w_xA ?_ | with_reducible refine w_app ?_ | ((with_reducible refine sq_nx ?_); try simp only [esc_nil, esc_int, esc_str, esc_bl, esc_non, List.set_cons_zero, List.set_cons_succ, unown_nil, unown_noO, esc_noO, noO_nil, noO_cons, isOwn_val, isOwn_no, isOwn_own, isOwn_succ, Bool.not_false, Bool.and_self]) | with_reducible refine sq_ret ?_ | with_reducible refine rq_ret ?_ | with_reducible refine lq_ret ?_ | ((with_reducible refine lq_nx ?_); try simp only [esc_nil, esc_int, esc_str, esc_bl, esc_non, List.set_cons_zero, List.set_cons_succ, unown_nil, unown_noO, esc_noO, noO_nil, noO_cons, isOwn_val, isOwn_no, isOwn_own, isOwn_succ, Bool.not_false, Bool.and_self]) | ((with_reducible refine w_sFor ?_); try simp only [esc_nil, esc_int, esc_str, esc_bl, esc_non, List.set_cons_zero, List.set_cons_succ, unown_nil, unown_noO, esc_noO, noO_nil, noO_cons, isOwn_val, isOwn_no, isOwn_own, isOwn_succ, Bool.not_false, Bool.and_self]) | with_reducible refine w_iV ?_ | with_reducible refine w_iE ?_ | with_reducible refine w_itL ?_ | with_reducible refine w_itT ?_ | with_reducible refine w_itS ?_ | with_reducible refine w_lcG ?_ | with_reducible refine w_while0 ?_ | with_reducible refine w_mulI (mulOk_r (by decide)) ?_ | with_reducible refine w_mulI (mulOk_l (by decide)) ?_ | with_reducible refine ex_int ?_ | with_reducible refine ex_bl ?_ | with_reducible refine ex_lst ?_ | with_reducible refine an_int ?_ | with_reducible refine an_big0 ?_ | with_reducible refine an_bigl0 ?_ | with_reducible refine an_big1 ?_ | with_reducible refine an_bigl1 ?_ | with_reducible refine an_big2 ?_ | with_reducible refine an_bigl2 ?_ | with_reducible refine an_big3 ?_ | with_reducible refine an_bigl3 ?_ | with_reducible refine an_big4 ?_ | with_reducible refine an_bigl4 ?_ | with_reducible refine an_big5 ?_ | with_reducible refine an_bigl5 ?_ | with_reducible refine an_big6 ?_ | with_reducible refine an_bigl6 ?_ | with_reducible refine an_big7 ?_ | with_reducible refine an_bigl7 ?_ | with_reducible refine an_big8 ?_ | with_reducible refine an_bigl8 ?_ | with_reducible refine an_big (by decide) ?_ | with_reducible refine an_bigl (by decide) ?_ | with_reducible refine w_compN ?_ | with_reducible refine w_compC ?_ | with_reducible refine w_addT1 (by simp) ?_ | ((with_reducible apply an_own); exact rfl) | ((with_reducible apply ex_app); (first | exact rfl | (simp only [esc_nil, esc_int, esc_str, esc_bl, esc_non, List.set_cons_zero, List.set_cons_succ, unown_nil, unown_noO, esc_noO, noO_nil, noO_cons, isOwn_val, isOwn_no, isOwn_own, isOwn_succ, Bool.not_false, Bool.and_self]; exact rfl))) | ((with_reducible apply w_augI); exact rfl) | ((with_reducible apply w_augL); exact rfl) | ((with_reducible apply br_t); (first | decide +kernel | exact rfl)) | ((with_reducible apply br_f); (first | decide +kernel | exact rfl)) | with_reducible refine br_n ?_ | with_reducible refine br_d (fun _ => ?_) (fun _ => ?_) | with_reducible refine br_e (fun _ => ?_) (fun _ => ?_) | with_reducible refine br_s (fun _ => ?_) (fun _ => ?_) | with_reducible refine br_2 (fun _ => ?_) (fun _ => ?_)))
          rfl
        · (repeat' (first | with_reducible refine w_maxL emax ?_ | with_reducible refine w_seq ?_ | with_reducible refine w_sIf ?_ | with_reducible refine w_nil ?_ | with_reducible refine w_ret ?_ | with_reducible refine w_sG ?_ | with_reducible refine w_xP ?_ | with_reducible refine w_gN ?_ | with_reducible refine w_gsN ?_ | with_reducible refine w_gsC ?_ | with_reducible refine w_gT2 ?_ | with_reducible refine w_gT3 ?_ | with_reducible refine w_gT (by rfl) ?_ | with_reducible refine w_c ?_ | ((with_reducible apply w_v); exact rfl) | ((with_reducible apply w_vo); exact rfl) | with_reducible refine w_e1 ?_ | with_reducible refine w_e2 ?_ | with_reducible refine w_esN ?_ | with_reducible refine w_esC ?_ | with_reducible refine w_eA ?_ | with_reducible refine w_nL ?_ | with_reducible refine w_eL ?_ | with_reducible refine w_lsG ?_ | with_reducible refine w_tup0 ?_ | with_reducible refine w_tup1 ?_ | with_reducible refine w_tup2 ?_ | with_reducible refine w_tup3 ?_ | with_reducible refine w_tup4 ?_ | with_reducible refine w_tup5 ?_ | with_reducible refine w_tup6 ?_ | with_reducible refine w_tup (by decide) ?_ | with_reducible refine w_tE ?_ | with_reducible refine w_dB ?_ | with_reducible refine w_tNo ?_ | with_reducible refine w_tAn ?_ | with_reducible refine w_tOr ?_ | with_reducible refine w_tY ?_ | with_reducible refine w_eAn ?_ | with_reducible refine w_eOr ?_ | with_reducible refine w_eIf ?_ | with_reducible refine w_addI ?_ | with_reducible refine w_sub ?_ | with_reducible refine w_neg ?_ | with_reducible refine w_not ?_ | with_reducible refine w_cmp ?_ | with_reducible refine w_ltI ?_ | with_reducible refine w_nSl ?_ | with_reducible refine w_cutL ?_ | with_reducible refine w_slL ?_ | with_reducible refine w_slR ?_ | with_reducible refine w_gL2 ?_ | with_reducible refine w_gL3 ?_ | with_reducible refine w_gL5 ?_ | with_reducible refine w_eqI ?_ | with_reducible refine w_eqS ?_ | with_reducible refine w_eqB ?_ | with_reducible refine w_neE ?_ | with_reducible refine w_eqE ?_ | with_reducible refine w_neI ?_ | with_reducible refine w_neS ?_ | with_reducible refine w_lenL ?_ | with_reducible refine w_lenT ?_ | with_reducible refine w_lenR ?_ | with_reducible refine w_intI ?_ | ((with_reducible apply w_intBt); (first | decide +kernel | exact rfl)) | ((with_reducible apply w_intBf); (first | decide +kernel | exact rfl)) | with_reducible refine w_intB ?_ | with_reducible refine w_tupleL ?_ | with_reducible refine w_tupleT ?_ | with_reducible refine w_listL ?_ | with_reducible refine w_listT ?_ | with_reducible refine w_max2P (fun r _ _ _ => ?_) | with_reducible refine w_min2P (fun r _ _ _ => ?_) | ((with_reducible apply w_isi); exact rfl) | with_reducible refine w_oN ?_ | with_reducible refine w_oS ?_ | with_reducible refine w_eSl ?_ | with_reducible refine w_sl1 ?_ | with_reducible refine w_sl2 ?_ | with_reducible refine w_sl3 ?_ | ((with_reducible apply w_ixT); exact rfl) | with_reducible refine w_mod (by decide) ?_ | with_reducible refine w_div (by decide) ?_ | with_reducible refine w_pow (by decide) ?_ | with_reducible refine w_own ?_ | with_reducible refine w_xsN ?_ | with_reducible refine w_xsC ?_ | with_reducible refine w_xA ?_ | with_reducible refine w_app ?_ | ((with_reducible refine sq_nx ?_); try simp only [esc_nil, esc_int, esc_str, esc_bl, esc_non, List.set_cons_zero, List.set_cons_succ, unown_nil, unown_noO, esc_noO, noO_nil, noO_cons, isOwn_val, isOwn_no, isOwn_own, isOwn_succ, Bool.not_false, Bool.and_self]) | with_reducible refine sq_ret ?_ | with_reducible refine rq_ret ?_ | with_reducible refine lq_ret ?_ | ((with_reducible refine lq_nx ?_); try simp only [esc_nil, esc_int, esc_str, esc_bl, esc_non, List.set_cons_zero, List.set_cons_succ, unown_nil, unown_noO, esc_noO, noO_nil, noO_cons, isOwn_val, isOwn_no, isOwn_own, isOwn_succ, Bool.not_false, Bool.and_self]) | ((with_reducible refine w_sFor ?_); try simp only [esc_nil, esc_int, esc_str, esc_bl, esc_non, List.set_cons_zero, List.set_cons_succ, unown_nil, unown_noO, esc_noO, noO_nil, noO_cons, isOwn_val, isOwn_no, isOwn_own, isOwn_succ, Bool.not_false, Bool.and_self]) | with_reducible refine w_iV ?_ | with_reducible refine w_iE ?_ | with_reducible refine w_itL ?_ | with_reducible refine w_itT ?_ | with_reducible refine w_itS ?_ | with_reducible refine w_lcG ?_ | with_reducible refine w_while0 ?_ | with_reducible refine w_mulI (mulOk_r (by decide)) ?_ | with_reducible refine w_mulI (mulOk_l (by decide)) ?_ | with_reducible refine ex_int ?_ | with_reducible refine ex_bl ?_ | with_reducible refine ex_lst ?_ | with_reducible refine an_int ?_ | with_reducible refine an_big0 ?_ | with_reducible refine an_bigl0 ?_ | with_reducible refine an_big1 ?_ | with_reducible refine an_bigl1 ?_ | with_reducible refine an_big2 ?_ | with_reducible refine an_bigl2 ?_ | with_reducible refine an_big3 ?_ | with_reducible refine an_bigl3 ?_ | with_reducible refine an_big4 ?_ | with_reducible refine an_bigl4 ?_ | with_reducible refine an_big5 ?_ | with_reducible refine an_bigl5 ?_ | with_reducible refine an_big6 ?_ | with_reducible refine an_bigl6 ?_ | with_reducible refine an_big7 ?_ | with_reducible refine an_bigl7 ?_ | with_reducible refine an_big8 ?_ | with_reducible refine an_bigl8 ?_ | with_reducible refine an_big (by decide) ?_ | with_reducible refine an_bigl (by decide) ?_ | with_reducible refine w_compN ?_ | with_reducible refine w_compC ?_ | with_reducible refine w_addT1 (by simp) ?_ | ((with_reducible apply an_own); exact rfl) | ((with_reducible apply ex_app); (first | exact rfl | (simp only [esc_nil, esc_int, esc_str, esc_bl, esc_non, List.set_cons_zero, List.set_cons_succ, unown_nil, unown_noO, esc_noO, noO_nil, noO_cons, isOwn_val, isOwn_no, isOwn_own, isOwn_succ, Bool.not_false, Bool.and_self]; exact rfl))) | ((with_reducible apply w_augI); exact rfl) | ((with_reducible apply w_augL); exact rfl) | ((with_reducible apply br_t); (first | decide +kernel | exact rfl)) | ((with_reducible apply br_f); (first | decide +kernel | exact rfl)) | with_reducible refine br_n ?_ | with_reducible refine br_d (fun _ => ?_) (fun _ => ?_) | with_reducible refine br_e (fun _ => ?_) (fun _ => ?_) | with_reducible refine br_s (fun _ => ?_) (fun _ => ?_) | with_reducible refine br_2 (fun _ => ?_) (fun _ => ?_)))
          rw [hmaxs]
          refine w_forA (I := fun ds ρ => ∃ (x y : List Tr) (s10 : Sl), u :: us = x ++ y ∧ ds = y.map rowT ∧ ρ = [Sl.val c0, Sl.val (.lst (vs.map .str)), Sl.own (a.map rowT), Sl.val c3, Sl.val (.int way), Sl.val (enc A), Sl.val (.int size), Sl.val (.lst ((u :: us).map rowT)), Sl.val (.int (1 + ((hgts (u :: us) : Nat) : Int))), Sl.val (.lst ((keysTs x).map encK)), s10, s11]) _ ⟨[], u :: us, _, rfl, rfl, rfl⟩ (fun d ds ρ hI => ?_) (fun ρ hI => ?_)
          · obtain ⟨x, y, s10, f1, f2, rfl⟩ := hI
            obtain ⟨v, y, rfl⟩ : ∃ v r, y = v :: r := by
              cases y with
              | nil => cases f2
              | cons v r => exact ⟨v, r, rfl⟩
            obtain ⟨rfl, rfl⟩ := List.cons.inj f2
            have f3 : keysTs (v :: y) = keysT v ++ keysTs y := rfl
            rw [f1, keysTs_app, f3] at hk2
            simp only [List.length_append] at hk2
            unfold rowT
            (repeat' (first | with_reducible refine w_ixL rfl ?_ | with_reducible refine w_addL (by simp only [List.length_map]; omega) ?_ | with_reducible refine w_seq ?_ | with_reducible refine w_sIf ?_ | with_reducible refine w_nil ?_ | with_reducible refine w_ret ?_ | with_reducible refine w_sG ?_ | with_reducible refine w_xP ?_ | with_reducible refine w_gN ?_ | with_reducible refine w_gsN ?_ | with_reducible refine w_gsC ?_ | with_reducible refine w_gT2 ?_ | with_reducible refine w_gT3 ?_ | with_reducible refine w_gT (by rfl) ?_ | with_reducible refine w_c ?_ | ((with_reducible apply w_v); exact rfl) | ((with_reducible apply w_vo); exact rfl) | with_reducible refine w_e1 ?_ | with_reducible refine w_e2 ?_ | with_reducible refine w_esN ?_ | with_reducible refine w_esC ?_ | with_reducible refine w_eA ?_ | with_reducible refine w_nL ?_ | with_reducible refine w_eL ?_ | with_reducible refine w_lsG ?_ | with_reducible refine w_tup0 ?_ | with_reducible refine w_tup1 ?_ | with_reducible refine w_tup2 ?_ | with_reducible refine w_tup3 ?_ | with_reducible refine w_tup4 ?_ | with_reducible refine w_tup5 ?_ | with_reducible refine w_tup6 ?_ | with_reducible refine w_tup (by decide) ?_ | with_reducible refine w_tE ?_ | with_reducible refine w_dB ?_ | with_reducible refine w_tNo ?_ | with_reducible refine w_tAn ?_ | with_reducible refine w_tOr ?_ | with_reducible refine w_tY ?_ | with_reducible refine w_eAn ?_ | with_reducible refine w_eOr ?_ | with_reducible refine w_eIf ?_ | with_reducible refine w_addI ?_ | with_reducible refine w_sub ?_ | with_reducible refine w_neg ?_ | with_reducible refine w_not ?_ | with_reducible refine w_cmp ?_ | with_reducible refine w_ltI ?_ | with_reducible refine w_nSl ?_ | with_reducible refine w_cutL ?_ | with_reducible refine w_slL ?_ | with_reducible refine w_slR ?_ | with_reducible refine w_gL2 ?_ | with_reducible refine w_gL3 ?_ | with_reducible refine w_gL5 ?_ | with_reducible refine w_eqI ?_ | with_reducible refine w_eqS ?_ | with_reducible refine w_eqB ?_ | with_reducible refine w_neE ?_ | with_reducible refine w_eqE ?_ | with_reducible refine w_neI ?_ | with_reducible refine w_neS ?_ | with_reducible refine w_lenL ?_ | with_reducible refine w_lenT ?_ | with_reducible refine w_lenR ?_ | with_reducible refine w_intI ?_ | ((with_reducible apply w_intBt); (first | decide +kernel | exact rfl)) | ((with_reducible apply w_intBf); (first | decide +kernel | exact rfl)) | with_reducible refine w_intB ?_ | with_reducible refine w_tupleL ?_ | with_reducible refine w_tupleT ?_ | with_reducible refine w_listL ?_ | with_reducible refine w_listT ?_ | with_reducible refine w_max2P (fun r _ _ _ => ?_) | with_reducible refine w_min2P (fun r _ _ _ => ?_) | ((with_reducible apply w_isi); exact rfl) | with_reducible refine w_oN ?_ | with_reducible refine w_oS ?_ | with_reducible refine w_eSl ?_ | with_reducible refine w_sl1 ?_ | with_reducible refine w_sl2 ?_ | with_reducible refine w_sl3 ?_ | ((with_reducible apply w_ixT); exact rfl) | with_reducible refine w_mod (by decide) ?_ | with_reducible refine w_div (by decide) ?_ | with_reducible refine w_pow (by decide) ?_ | with_reducible refine w_own ?_ | with_reducible refine w_xsN ?_ | with_reducible refine w_xsC ?_ | with_reducible refine w_xA ?_ | with_reducible refine w_app ?_ | ((with_reducible refine sq_nx ?_); try simp only [esc_nil, esc_int, esc_str, esc_bl, esc_non, List.set_cons_zero, List.set_cons_succ, unown_nil, unown_noO, esc_noO, noO_nil, noO_cons, isOwn_val, isOwn_no, isOwn_own, isOwn_succ, Bool.not_false, Bool.and_self]) | with_reducible refine sq_ret ?_ | with_reducible refine rq_ret ?_ | with_reducible refine lq_ret ?_ | ((with_reducible refine lq_nx ?_); try simp only [esc_nil, esc_int, esc_str, esc_bl, esc_non, List.set_cons_zero, List.set_cons_succ, unown_nil, unown_noO, esc_noO, noO_nil, noO_cons, isOwn_val, isOwn_no, isOwn_own, isOwn_succ, Bool.not_false, Bool.and_self]) | ((with_reducible refine w_sFor ?_); try simp only [esc_nil, esc_int, esc_str, esc_bl, esc_non, List.set_cons_zero, List.set_cons_succ, unown_nil, unown_noO, esc_noO, noO_nil, noO_cons, isOwn_val, isOwn_no, isOwn_own, isOwn_succ, Bool.not_false, Bool.and_self]) | with_reducible refine w_iV ?_ | with_reducible refine w_iE ?_ | with_reducible refine w_itL ?_ | with_reducible refine w_itT ?_ | with_reducible refine w_itS ?_ | with_reducible refine w_lcG ?_ | with_reducible refine w_while0 ?_ | with_reducible refine w_mulI (mulOk_r (by decide)) ?_ | with_reducible refine w_mulI (mulOk_l (by decide)) ?_ | with_reducible refine ex_int ?_ | with_reducible refine ex_bl ?_ | with_reducible refine ex_lst ?_ | with_reducible refine an_int ?_ | with_reducible refine an_big0 ?_ | with_reducible refine an_bigl0 ?_ | with_reducible refine an_big1 ?_ | with_reducible refine an_bigl1 ?_ | with_reducible refine an_big2 ?_ | with_reducible refine an_bigl2 ?_ | with_reducible refine an_big3 ?_ | with_reducible refine an_bigl3 ?_ | with_reducible refine an_big4 ?_ | with_reducible refine an_bigl4 ?_ | with_reducible refine an_big5 ?_ | with_reducible refine an_bigl5 ?_ | with_reducible refine an_big6 ?_ | with_reducible refine an_bigl6 ?_ | with_reducible refine an_big7 ?_ | with_reducible refine an_bigl7 ?_ | with_reducible refine an_big8 ?_ | with_reducible refine an_bigl8 ?_ | with_reducible refine an_big (by decide) ?_ | with_reducible refine an_bigl (by decide) ?_ | with_reducible refine w_compN ?_ | with_reducible refine w_compC ?_ | with_reducible refine w_addT1 (by simp) ?_ | ((with_reducible apply an_own); exact rfl) | ((with_reducible apply ex_app); (first | exact rfl | (simp only [esc_nil, esc_int, esc_str, esc_bl, esc_non, List.set_cons_zero, List.set_cons_succ, unown_nil, unown_noO, esc_noO, noO_nil, noO_cons, isOwn_val, isOwn_no, isOwn_own, isOwn_succ, Bool.not_false, Bool.and_self]; exact rfl))) | ((with_reducible apply w_augI); exact rfl) | ((with_reducible apply w_augL); exact rfl) | ((with_reducible apply br_t); (first | decide +kernel | exact rfl)) | ((with_reducible apply br_f); (first | decide +kernel | exact rfl)) | with_reducible refine br_n ?_ | with_reducible refine br_d (fun _ => ?_) (fun _ => ?_) | with_reducible refine br_e (fun _ => ?_) (fun _ => ?_) | with_reducible refine br_s (fun _ => ?_) (fun _ => ?_) | with_reducible refine br_2 (fun _ => ?_) (fun _ => ?_)))
            have e4 : keysTs (x ++ [v]) = keysTs x ++ keysT v := by
              rw [keysTs_app]
              show _ ++ (keysT v ++ []) = _
              rw [List.append_nil]
            rw [← List.map_append, ← e4]
            exact ⟨x ++ [v], y, _, by rw [f1]; simp, rfl, rfl⟩
          · obtain ⟨x, y, s10, f1, f2, rfl⟩ := hI
            have hy : y = [] := List.map_eq_nil_iff.mp f2.symm
            subst hy
            rw [List.append_nil] at f1
            subst f1
            obtain ⟨x0, r0, hA0⟩ := enc_head A
            have hd0 : ∀ {Q : D → Prop}, Q (.str x0) → Wp (dIx (enc A) (.int 0)) Q := fun {Q} q => by
              rw [hA0]
              exact w_ixT (atI_nat (j := 0) rfl) q
            (repeat' (first | with_reducible refine ST.w_eAnd ?_ | with_reducible refine ST.w_eOr ?_ | with_reducible refine ST.w_eIf ?_ | with_reducible refine ST.w_eNot ?_ | with_reducible refine ST.w_eAll ?_ | with_reducible refine ST.w_eSome ?_ | with_reducible refine ST.w_eWord ?_ | with_reducible refine hd0 ?_ | with_reducible refine w_ixM (by omega) (by omega) (fun nm hnm => ?_) | with_reducible refine w_seq ?_ | with_reducible refine w_sIf ?_ | with_reducible refine w_nil ?_ | with_reducible refine w_ret ?_ | with_reducible refine w_sG ?_ | with_reducible refine w_xP ?_ | with_reducible refine w_gN ?_ | with_reducible refine w_gsN ?_ | with_reducible refine w_gsC ?_ | with_reducible refine w_gT2 ?_ | with_reducible refine w_gT3 ?_ | with_reducible refine w_gT (by rfl) ?_ | with_reducible refine w_c ?_ | ((with_reducible apply w_v); exact rfl) | ((with_reducible apply w_vo); exact rfl) | with_reducible refine w_e1 ?_ | with_reducible refine w_e2 ?_ | with_reducible refine w_esN ?_ | with_reducible refine w_esC ?_ | with_reducible refine w_eA ?_ | with_reducible refine w_nL ?_ | with_reducible refine w_eL ?_ | with_reducible refine w_lsG ?_ | with_reducible refine w_tup0 ?_ | with_reducible refine w_tup1 ?_ | with_reducible refine w_tup2 ?_ | with_reducible refine w_tup3 ?_ | with_reducible refine w_tup4 ?_ | with_reducible refine w_tup5 ?_ | with_reducible refine w_tup6 ?_ | with_reducible refine w_tup (by decide) ?_ | with_reducible refine w_tE ?_ | with_reducible refine w_dB ?_ | with_reducible refine w_tNo ?_ | with_reducible refine w_tAn ?_ | with_reducible refine w_tOr ?_ | with_reducible refine w_tY ?_ | with_reducible refine w_eAn ?_ | with_reducible refine w_eOr ?_ | with_reducible refine w_eIf ?_ | with_reducible refine w_addI ?_ | with_reducible refine w_sub ?_ | with_reducible refine w_neg ?_ | with_reducible refine w_not ?_ | with_reducible refine w_cmp ?_ | with_reducible refine w_ltI ?_ | with_reducible refine w_nSl ?_ | with_reducible refine w_cutL ?_ | with_reducible refine w_slL ?_ | with_reducible refine w_slR ?_ | with_reducible refine w_gL2 ?_ | with_reducible refine w_gL3 ?_ | with_reducible refine w_gL5 ?_ | with_reducible refine w_eqI ?_ | with_reducible refine w_eqS ?_ | with_reducible refine w_eqB ?_ | with_reducible refine w_neE ?_ | with_reducible refine w_eqE ?_ | with_reducible refine w_neI ?_ | with_reducible refine w_neS ?_ | with_reducible refine w_lenL ?_ | with_reducible refine w_lenT ?_ | with_reducible refine w_lenR ?_ | with_reducible refine w_intI ?_ | ((with_reducible apply w_intBt); (first | decide +kernel | exact rfl)) | ((with_reducible apply w_intBf); (first | decide +kernel | exact rfl)) | with_reducible refine w_intB ?_ | with_reducible refine w_tupleL ?_ | with_reducible refine w_tupleT ?_ | with_reducible refine w_listL ?_ | with_reducible refine w_listT ?_ | with_reducible refine w_max2P (fun r _ _ _ => ?_) | with_reducible refine w_min2P (fun r _ _ _ => ?_) | ((with_reducible apply w_isi); exact rfl) | with_reducible refine w_oN ?_ | with_reducible refine w_oS ?_ | with_reducible refine w_eSl ?_ | with_reducible refine w_sl1 ?_ | with_reducible refine w_sl2 ?_ | with_reducible refine w_sl3 ?_ | ((with_reducible apply w_ixT); exact rfl) | with_reducible refine w_mod (by decide) ?_ | with_reducible refine w_div (by decide) ?_ | with_reducible refine w_pow (by decide) ?_ | with_reducible refine w_own ?_ | with_reducible refine w_xsN ?_ | with_reducible refine w_xsC ?_ | with_reducible refine w_xA ?_ | with_reducible refine w_app ?_ | ((with_reducible refine sq_nx ?_); try simp only [esc_nil, esc_int, esc_str, esc_bl, esc_non, List.set_cons_zero, List.set_cons_succ, unown_nil, unown_noO, esc_noO, noO_nil, noO_cons, isOwn_val, isOwn_no, isOwn_own, isOwn_succ, Bool.not_false, Bool.and_self, esc_enc]) | with_reducible refine sq_ret ?_ | with_reducible refine rq_ret ?_ | with_reducible refine lq_ret ?_ | ((with_reducible refine lq_nx ?_); try simp only [esc_nil, esc_int, esc_str, esc_bl, esc_non, List.set_cons_zero, List.set_cons_succ, unown_nil, unown_noO, esc_noO, noO_nil, noO_cons, isOwn_val, isOwn_no, isOwn_own, isOwn_succ, Bool.not_false, Bool.and_self, esc_enc]) | ((with_reducible refine w_sFor ?_); try simp only [esc_nil, esc_int, esc_str, esc_bl, esc_non, List.set_cons_zero, List.set_cons_succ, unown_nil, unown_noO, esc_noO, noO_nil, noO_cons, isOwn_val, isOwn_no, isOwn_own, isOwn_succ, Bool.not_false, Bool.and_self, esc_enc]) | with_reducible refine w_iV ?_ | with_reducible refine w_iE ?_ | with_reducible refine w_itL ?_ | with_reducible refine w_itT ?_ | with_reducible refine w_itS ?_ | with_reducible refine w_lcG ?_ | with_reducible refine w_while0 ?_ | with_reducible refine w_mulI (mulOk_r (by decide)) ?_ | with_reducible refine w_mulI (mulOk_l (by decide)) ?_ | with_reducible refine ex_int ?_ | with_reducible refine ex_bl ?_ | with_reducible refine ex_lst ?_ | with_reducible refine an_int ?_ | with_reducible refine an_big0 ?_ | with_reducible refine an_bigl0 ?_ | with_reducible refine an_big1 ?_ | with_reducible refine an_bigl1 ?_ | with_reducible refine an_big2 ?_ | with_reducible refine an_bigl2 ?_ | with_reducible refine an_big3 ?_ | with_reducible refine an_bigl3 ?_ | with_reducible refine an_big4 ?_ | with_reducible refine an_bigl4 ?_ | with_reducible refine an_big5 ?_ | with_reducible refine an_bigl5 ?_ | with_reducible refine an_big6 ?_ | with_reducible refine an_bigl6 ?_ | with_reducible refine an_big7 ?_ | with_reducible refine an_bigl7 ?_ | with_reducible refine an_big8 ?_ | with_reducible refine an_bigl8 ?_ | with_reducible refine an_big (by decide) ?_ | with_reducible refine an_bigl (by decide) ?_ | with_reducible refine w_compN ?_ | with_reducible refine w_compC ?_ | with_reducible refine w_addT1 (by simp) ?_ | ((with_reducible apply an_own); exact rfl) | ((with_reducible apply ex_app); (first | exact rfl | (simp only [esc_nil, esc_int, esc_str, esc_bl, esc_non, List.set_cons_zero, List.set_cons_succ, unown_nil, unown_noO, esc_noO, noO_nil, noO_cons, isOwn_val, isOwn_no, isOwn_own, isOwn_succ, Bool.not_false, Bool.and_self, esc_enc]; exact rfl))) | ((with_reducible apply w_augI); exact rfl) | ((with_reducible apply w_augL); exact rfl) | ((with_reducible apply br_t); (first | decide +kernel | exact rfl)) | ((with_reducible apply br_f); (first | decide +kernel | exact rfl)) | with_reducible refine br_n ?_ | with_reducible refine br_d (fun _ => ?_) (fun _ => ?_) | with_reducible refine br_e (fun _ => ?_) (fun _ => ?_) | with_reducible refine br_s (fun _ => ?_) (fun _ => ?_) | with_reducible refine br_2 (fun _ => ?_) (fun _ => ?_)))
            refine w_in (show dInO _ (.tup _) = _ from in_flat rfl) ?_
            (repeat' (first | with_reducible refine ST.w_eAnd ?_ | with_reducible refine ST.w_eOr ?_ | with_reducible refine ST.w_eIf ?_ | with_reducible refine ST.w_eNot ?_ | with_reducible refine ST.w_eAll ?_ | with_reducible refine ST.w_eSome ?_ | with_reducible refine ST.w_eWord ?_ | with_reducible refine w_intB ?_ | with_reducible refine w_seq ?_ | with_reducible refine w_sIf ?_ | with_reducible refine w_nil ?_ | with_reducible refine w_ret ?_ | with_reducible refine w_sG ?_ | with_reducible refine w_xP ?_ | with_reducible refine w_gN ?_ | with_reducible refine w_gsN ?_ | with_reducible refine w_gsC ?_ | with_reducible refine w_gT2 ?_ | with_reducible refine w_gT3 ?_ | with_reducible refine w_gT (by rfl) ?_ | with_reducible refine w_c ?_ | ((with_reducible apply w_v); exact rfl) | ((with_reducible apply w_vo); exact rfl) | with_reducible refine w_e1 ?_ | with_reducible refine w_e2 ?_ | with_reducible refine w_esN ?_ | with_reducible refine w_esC ?_ | with_reducible refine w_eA ?_ | with_reducible refine w_nL ?_ | with_reducible refine w_eL ?_ | with_reducible refine w_lsG ?_ | with_reducible refine w_tup0 ?_ | with_reducible refine w_tup1 ?_ | with_reducible refine w_tup2 ?_ | with_reducible refine w_tup3 ?_ | with_reducible refine w_tup4 ?_ | with_reducible refine w_tup5 ?_ | with_reducible refine w_tup6 ?_ | with_reducible refine w_tup (by decide) ?_ | with_reducible refine w_tE ?_ | with_reducible refine w_dB ?_ | with_reducible refine w_tNo ?_ | with_reducible refine w_tAn ?_ | with_reducible refine w_tOr ?_ | with_reducible refine w_tY ?_ | with_reducible refine w_eAn ?_ | with_reducible refine w_eOr ?_ | with_reducible refine w_eIf ?_ | with_reducible refine w_addI ?_ | with_reducible refine w_sub ?_ | with_reducible refine w_neg ?_ | with_reducible refine w_not ?_ | with_reducible refine w_cmp ?_ | with_reducible refine w_ltI ?_ | with_reducible refine w_nSl ?_ | with_reducible refine w_cutL ?_ | with_reducible refine w_slL ?_ | with_reducible refine w_slR ?_ | with_reducible refine w_gL2 ?_ | with_reducible refine w_gL3 ?_ | with_reducible refine w_gL5 ?_ | with_reducible refine w_eqI ?_ | with_reducible refine w_eqS ?_ | with_reducible refine w_eqB ?_ | with_reducible refine w_neE ?_ | with_reducible refine w_eqE ?_ | with_reducible refine w_neI ?_ | with_reducible refine w_neS ?_ | with_reducible refine w_lenL ?_ | with_reducible refine w_lenT ?_ | with_reducible refine w_lenR ?_ | with_reducible refine w_intI ?_ | ((with_reducible apply w_intBt); (first | decide +kernel | exact rfl)) | ((with_reducible apply w_intBf); (first | decide +kernel | exact rfl)) | with_reducible refine w_intB ?_ | with_reducible refine w_tupleL ?_ | with_reducible refine w_tupleT ?_ | with_reducible refine w_listL ?_ | with_reducible refine w_listT ?_ | with_reducible refine w_max2P (fun r _ _ _ => ?_) | with_reducible refine w_min2P (fun r _ _ _ => ?_) | ((with_reducible apply w_isi); exact rfl) | with_reducible refine w_oN ?_ | with_reducible refine w_oS ?_ | with_reducible refine w_eSl ?_ | with_reducible refine w_sl1 ?_ | with_reducible refine w_sl2 ?_ | with_reducible refine w_sl3 ?_ | ((with_reducible apply w_ixT); exact rfl) | with_reducible refine w_mod (by decide) ?_ | with_reducible refine w_div (by decide) ?_ | with_reducible refine w_pow (by decide) ?_ | with_reducible refine w_own ?_ | with_reducible refine w_xsN ?_ | with_reducible refine w_xsC ?_ | with_reducible refine w_xA ?_ | with_reducible refine w_app ?_ | ((with_reducible refine sq_nx ?_); try simp only [esc_nil, esc_int, esc_str, esc_bl, esc_non, List.set_cons_zero, List.set_cons_succ, unown_nil, unown_noO, esc_noO, noO_nil, noO_cons, isOwn_val, isOwn_no, isOwn_own, isOwn_succ, Bool.not_false, Bool.and_self, esc_enc]) | with_reducible refine sq_ret ?_ | with_reducible refine rq_ret ?_ | with_reducible refine lq_ret ?_ | ((with_reducible refine lq_nx ?_); try simp only [esc_nil, esc_int, esc_str, esc_bl, esc_non, List.set_cons_zero, List.set_cons_succ, unown_nil, unown_noO, esc_noO, noO_nil, noO_cons, isOwn_val, isOwn_no, isOwn_own, isOwn_succ, Bool.not_false, Bool.and_self, esc_enc]) | ((with_reducible refine w_sFor ?_); try simp only [esc_nil, esc_int, esc_str, esc_bl, esc_non, List.set_cons_zero, List.set_cons_succ, unown_nil, unown_noO, esc_noO, noO_nil, noO_cons, isOwn_val, isOwn_no, isOwn_own, isOwn_succ, Bool.not_false, Bool.and_self, esc_enc]) | with_reducible refine w_iV ?_ | with_reducible refine w_iE ?_ | with_reducible refine w_itL ?_ | with_reducible refine w_itT ?_ | with_reducible refine w_itS ?_ | with_reducible refine w_lcG ?_ | with_reducible refine w_while0 ?_ | with_reducible refine w_mulI (mulOk_r (by decide)) ?_ | with_reducible refine w_mulI (mulOk_l (by decide)) ?_ | with_reducible refine ex_int ?_ | with_reducible refine ex_bl ?_ | with_reducible refine ex_lst ?_ | with_reducible refine an_int ?_ | with_reducible refine an_big0 ?_ | with_reducible refine an_bigl0 ?_ | with_reducible refine an_big1 ?_ | with_reducible refine an_bigl1 ?_ | with_reducible refine an_big2 ?_ | with_reducible refine an_bigl2 ?_ | with_reducible refine an_big3 ?_ | with_reducible refine an_bigl3 ?_ | with_reducible refine an_big4 ?_ | with_reducible refine an_bigl4 ?_ | with_reducible refine an_big5 ?_ | with_reducible refine an_bigl5 ?_ | with_reducible refine an_big6 ?_ | with_reducible refine an_bigl6 ?_ | with_reducible refine an_big7 ?_ | with_reducible refine an_bigl7 ?_ | with_reducible refine an_big8 ?_ | with_reducible refine an_bigl8 ?_ | with_reducible refine an_big (by decide) ?_ | with_reducible refine an_bigl (by decide) ?_ | with_reducible refine w_compN ?_ | with_reducible refine w_compC ?_ | with_reducible refine w_addT1 (by simp) ?_ | ((with_reducible apply an_own); exact rfl) | ((with_reducible apply ex_app); (first | exact rfl | (simp only [esc_nil, esc_int, esc_str, esc_bl, esc_non, List.set_cons_zero, List.set_cons_succ, unown_nil, unown_noO, esc_noO, noO_nil, noO_cons, isOwn_val, isOwn_no, isOwn_own, isOwn_succ, Bool.not_false, Bool.and_self, esc_enc]; exact rfl))) | ((with_reducible apply w_augI); exact rfl) | ((with_reducible apply w_augL); exact rfl) | ((with_reducible apply br_t); (first | decide +kernel | exact rfl)) | ((with_reducible apply br_f); (first | decide +kernel | exact rfl)) | with_reducible refine br_n ?_ | with_reducible refine br_d (fun _ => ?_) (fun _ => ?_) | with_reducible refine br_e (fun _ => ?_) (fun _ => ?_) | with_reducible refine br_s (fun _ => ?_) (fun _ => ?_) | with_reducible refine br_2 (fun _ => ?_) (fun _ => ?_)))
            refine w_ixL' (by split <;> omega) (by show _ < (2 : Int); split <;> omega) fun d hd => ?_
            obtain ⟨nm', rfl⟩ : ∃ nm' : Str, d = .str nm' := by
              simp only [List.mem_cons, List.not_mem_nil, or_false] at hd
              rcases hd with rfl | rfl <;> exact ⟨_, rfl⟩
            (repeat' (first | with_reducible refine ST.w_eAnd ?_ | with_reducible refine ST.w_eOr ?_ | with_reducible refine ST.w_eIf ?_ | with_reducible refine ST.w_eNot ?_ | with_reducible refine ST.w_eAll ?_ | with_reducible refine ST.w_eSome ?_ | with_reducible refine ST.w_eWord ?_ | with_reducible refine w_seq ?_ | with_reducible refine w_sIf ?_ | with_reducible refine w_nil ?_ | with_reducible refine w_ret ?_ | with_reducible refine w_sG ?_ | with_reducible refine w_xP ?_ | with_reducible refine w_gN ?_ | with_reducible refine w_gsN ?_ | with_reducible refine w_gsC ?_ | with_reducible refine w_gT2 ?_ | with_reducible refine w_gT3 ?_ | with_reducible refine w_gT (by rfl) ?_ | with_reducible refine w_c ?_ | ((with_reducible apply w_v); exact rfl) | ((with_reducible apply w_vo); exact rfl) | with_reducible refine w_e1 ?_ | with_reducible refine w_e2 ?_ | with_reducible refine w_esN ?_ | with_reducible refine w_esC ?_ | with_reducible refine w_eA ?_ | with_reducible refine w_nL ?_ | with_reducible refine w_eL ?_ | with_reducible refine w_lsG ?_ | with_reducible refine w_tup0 ?_ | with_reducible refine w_tup1 ?_ | with_reducible refine w_tup2 ?_ | with_reducible refine w_tup3 ?_ | with_reducible refine w_tup4 ?_ | with_reducible refine w_tup5 ?_ | with_reducible refine w_tup6 ?_ | with_reducible refine w_tup (by decide) ?_ | with_reducible refine w_tE ?_ | with_reducible refine w_dB ?_ | with_reducible refine w_tNo ?_ | with_reducible refine w_tAn ?_ | with_reducible refine w_tOr ?_ | with_reducible refine w_tY ?_ | with_reducible refine w_eAn ?_ | with_reducible refine w_eOr ?_ | with_reducible refine w_eIf ?_ | with_reducible refine w_addI ?_ | with_reducible refine w_sub ?_ | with_reducible refine w_neg ?_ | with_reducible refine w_not ?_ | with_reducible refine w_cmp ?_ | with_reducible refine w_ltI ?_ | with_reducible refine w_nSl ?_ | with_reducible refine w_cutL ?_ | with_reducible refine w_slL ?_ | with_reducible refine w_slR ?_ | with_reducible refine w_gL2 ?_ | with_reducible refine w_gL3 ?_ | with_reducible refine w_gL5 ?_ | with_reducible refine w_eqI ?_ | with_reducible refine w_eqS ?_ | with_reducible refine w_eqB ?_ | with_reducible refine w_neE ?_ | with_reducible refine w_eqE ?_ | with_reducible refine w_neI ?_ | with_reducible refine w_neS ?_ | with_reducible refine w_lenL ?_ | with_reducible refine w_lenT ?_ | with_reducible refine w_lenR ?_ | with_reducible refine w_intI ?_ | ((with_reducible apply w_intBt); (first | decide +kernel | exact rfl)) | ((with_reducible apply w_intBf); (first | decide +kernel | exact rfl)) | with_reducible refine w_intB ?_ | with_reducible refine w_tupleL ?_ | with_reducible refine w_tupleT ?_ | with_reducible refine w_listL ?_ | with_reducible refine w_listT ?_ | with_reducible refine w_max2P (fun r _ _ _ => ?_) | with_reducible refine w_min2P (fun r _ _ _ => ?_) | ((with_reducible apply w_isi); exact rfl) | with_reducible refine w_oN ?_ | with_reducible refine w_oS ?_ | with_reducible refine w_eSl ?_ | with_reducible refine w_sl1 ?_ | with_reducible refine w_sl2 ?_ | with_reducible refine w_sl3 ?_ | ((with_reducible apply w_ixT); exact rfl) | with_reducible refine w_mod (by decide) ?_ | with_reducible refine w_div (by decide) ?_ | with_reducible refine w_pow (by decide) ?_ | with_reducible refine w_own ?_ | with_reducible refine w_xsN ?_ | with_reducible refine w_xsC ?_ | with_reducible refine w_xA ?_ | with_reducible refine w_app ?_ | ((with_reducible refine sq_nx ?_); try simp only [esc_nil, esc_int, esc_str, esc_bl, esc_non, List.set_cons_zero, List.set_cons_succ, unown_nil, unown_noO, esc_noO, noO_nil, noO_cons, isOwn_val, isOwn_no, isOwn_own, isOwn_succ, Bool.not_false, Bool.and_self, esc_enc]) | with_reducible refine sq_ret ?_ | with_reducible refine rq_ret ?_ | with_reducible refine lq_ret ?_ | ((with_reducible refine lq_nx ?_); try simp only [esc_nil, esc_int, esc_str, esc_bl, esc_non, List.set_cons_zero, List.set_cons_succ, unown_nil, unown_noO, esc_noO, noO_nil, noO_cons, isOwn_val, isOwn_no, isOwn_own, isOwn_succ, Bool.not_false, Bool.and_self, esc_enc]) | ((with_reducible refine w_sFor ?_); try simp only [esc_nil, esc_int, esc_str, esc_bl, esc_non, List.set_cons_zero, List.set_cons_succ, unown_nil, unown_noO, esc_noO, noO_nil, noO_cons, isOwn_val, isOwn_no, isOwn_own, isOwn_succ, Bool.not_false, Bool.and_self, esc_enc]) | with_reducible refine w_iV ?_ | with_reducible refine w_iE ?_ | with_reducible refine w_itL ?_ | with_reducible refine w_itT ?_ | with_reducible refine w_itS ?_ | with_reducible refine w_lcG ?_ | with_reducible refine w_while0 ?_ | with_reducible refine w_mulI (mulOk_r (by decide)) ?_ | with_reducible refine w_mulI (mulOk_l (by decide)) ?_ | with_reducible refine ex_int ?_ | with_reducible refine ex_bl ?_ | with_reducible refine ex_lst ?_ | with_reducible refine an_int ?_ | with_reducible refine an_big0 ?_ | with_reducible refine an_bigl0 ?_ | with_reducible refine an_big1 ?_ | with_reducible refine an_bigl1 ?_ | with_reducible refine an_big2 ?_ | with_reducible refine an_bigl2 ?_ | with_reducible refine an_big3 ?_ | with_reducible refine an_bigl3 ?_ | with_reducible refine an_big4 ?_ | with_reducible refine an_bigl4 ?_ | with_reducible refine an_big5 ?_ | with_reducible refine an_bigl5 ?_ | with_reducible refine an_big6 ?_ | with_reducible refine an_bigl6 ?_ | with_reducible refine an_big7 ?_ | with_reducible refine an_bigl7 ?_ | with_reducible refine an_big8 ?_ | with_reducible refine an_bigl8 ?_ | with_reducible refine an_big (by decide) ?_ | with_reducible refine an_bigl (by decide) ?_ | with_reducible refine w_compN ?_ | with_reducible refine w_compC ?_ | with_reducible refine w_addT1 (by simp) ?_ | ((with_reducible apply an_own); exact rfl) | ((with_reducible apply ex_app); (first | exact rfl | (simp only [esc_nil, esc_int, esc_str, esc_bl, esc_non, List.set_cons_zero, List.set_cons_succ, unown_nil, unown_noO, esc_noO, noO_nil, noO_cons, isOwn_val, isOwn_no, isOwn_own, isOwn_succ, Bool.not_false, Bool.and_self, esc_enc]; exact rfl))) | ((with_reducible apply w_augI); exact rfl) | ((with_reducible apply w_augL); exact rfl) | ((with_reducible apply br_t); (first | decide +kernel | exact rfl)) | ((with_reducible apply br_f); (first | decide +kernel | exact rfl)) | with_reducible refine br_n ?_ | with_reducible refine br_d (fun _ => ?_) (fun _ => ?_) | with_reducible refine br_e (fun _ => ?_) (fun _ => ?_) | with_reducible refine br_s (fun _ => ?_) (fun _ => ?_) | with_reducible refine br_2 (fun _ => ?_) (fun _ => ?_)))
            refine ⟨hcl, w_compM rowT encT (fun t ht => ?_) ?_⟩
            · unfold rowT
              (repeat' (first | with_reducible refine w_ixL rfl ?_ | with_reducible refine w_seq ?_ | with_reducible refine w_sIf ?_ | with_reducible refine w_nil ?_ | with_reducible refine w_ret ?_ | with_reducible refine w_sG ?_ | with_reducible refine w_xP ?_ | with_reducible refine w_gN ?_ | with_reducible refine w_gsN ?_ | with_reducible refine w_gsC ?_ | with_reducible refine w_gT2 ?_ | with_reducible refine w_gT3 ?_ | with_reducible refine w_gT (by rfl) ?_ | with_reducible refine w_c ?_ | ((with_reducible apply w_v); exact rfl) | ((with_reducible apply w_vo); exact rfl) | with_reducible refine w_e1 ?_ | with_reducible refine w_e2 ?_ | with_reducible refine w_esN ?_ | with_reducible refine w_esC ?_ | with_reducible refine w_eA ?_ | with_reducible refine w_nL ?_ | with_reducible refine w_eL ?_ | with_reducible refine w_lsG ?_ | with_reducible refine w_tup0 ?_ | with_reducible refine w_tup1 ?_ | with_reducible refine w_tup2 ?_ | with_reducible refine w_tup3 ?_ | with_reducible refine w_tup4 ?_ | with_reducible refine w_tup5 ?_ | with_reducible refine w_tup6 ?_ | with_reducible refine w_tup (by decide) ?_ | with_reducible refine w_tE ?_ | with_reducible refine w_dB ?_ | with_reducible refine w_tNo ?_ | with_reducible refine w_tAn ?_ | with_reducible refine w_tOr ?_ | with_reducible refine w_tY ?_ | with_reducible refine w_eAn ?_ | with_reducible refine w_eOr ?_ | with_reducible refine w_eIf ?_ | with_reducible refine w_addI ?_ | with_reducible refine w_sub ?_ | with_reducible refine w_neg ?_ | with_reducible refine w_not ?_ | with_reducible refine w_cmp ?_ | with_reducible refine w_ltI ?_ | with_reducible refine w_nSl ?_ | with_reducible refine w_cutL ?_ | with_reducible refine w_slL ?_ | with_reducible refine w_slR ?_ | with_reducible refine w_gL2 ?_ | with_reducible refine w_gL3 ?_ | with_reducible refine w_gL5 ?_ | with_reducible refine w_eqI ?_ | with_reducible refine w_eqS ?_ | with_reducible refine w_eqB ?_ | with_reducible refine w_neE ?_ | with_reducible refine w_eqE ?_ | with_reducible refine w_neI ?_ | with_reducible refine w_neS ?_ | with_reducible refine w_lenL ?_ | with_reducible refine w_lenT ?_ | with_reducible refine w_lenR ?_ | with_reducible refine w_intI ?_ | ((with_reducible apply w_intBt); (first | decide +kernel | exact rfl)) | ((with_reducible apply w_intBf); (first | decide +kernel | exact rfl)) | with_reducible refine w_intB ?_ | with_reducible refine w_tupleL ?_ | with_reducible refine w_tupleT ?_ | with_reducible refine w_listL ?_ | with_reducible refine w_listT ?_ | with_reducible refine w_max2P (fun r _ _ _ => ?_) | with_reducible refine w_min2P (fun r _ _ _ => ?_) | ((with_reducible apply w_isi); exact rfl) | with_reducible refine w_oN ?_ | with_reducible refine w_oS ?_ | with_reducible refine w_eSl ?_ | with_reducible refine w_sl1 ?_ | with_reducible refine w_sl2 ?_ | with_reducible refine w_sl3 ?_ | ((with_reducible apply w_ixT); exact rfl) | with_reducible refine w_mod (by decide) ?_ | with_reducible refine w_div (by decide) ?_ | with_reducible refine w_pow (by decide) ?_ | with_reducible refine w_own ?_ | with_reducible refine w_xsN ?_ | with_reducible refine w_xsC ?_ | with_reducible refine w_xA ?_ | with_reducible refine w_app ?_ | ((with_reducible refine sq_nx ?_); try simp only [esc_nil, esc_int, esc_str, esc_bl, esc_non, List.set_cons_zero, List.set_cons_succ, unown_nil, unown_noO, esc_noO, noO_nil, noO_cons, isOwn_val, isOwn_no, isOwn_own, isOwn_succ, Bool.not_false, Bool.and_self]) | with_reducible refine sq_ret ?_ | with_reducible refine rq_ret ?_ | with_reducible refine lq_ret ?_ | ((with_reducible refine lq_nx ?_); try simp only [esc_nil, esc_int, esc_str, esc_bl, esc_non, List.set_cons_zero, List.set_cons_succ, unown_nil, unown_noO, esc_noO, noO_nil, noO_cons, isOwn_val, isOwn_no, isOwn_own, isOwn_succ, Bool.not_false, Bool.and_self]) | ((with_reducible refine w_sFor ?_); try simp only [esc_nil, esc_int, esc_str, esc_bl, esc_non, List.set_cons_zero, List.set_cons_succ, unown_nil, unown_noO, esc_noO, noO_nil, noO_cons, isOwn_val, isOwn_no, isOwn_own, isOwn_succ, Bool.not_false, Bool.and_self]) | with_reducible refine w_iV ?_ | with_reducible refine w_iE ?_ | with_reducible refine w_itL ?_ | with_reducible refine w_itT ?_ | with_reducible refine w_itS ?_ | with_reducible refine w_lcG ?_ | with_reducible refine w_while0 ?_ | with_reducible refine w_mulI (mulOk_r (by decide)) ?_ | with_reducible refine w_mulI (mulOk_l (by decide)) ?_ | with_reducible refine ex_int ?_ | with_reducible refine ex_bl ?_ | with_reducible refine ex_lst ?_ | with_reducible refine an_int ?_ | with_reducible refine an_big0 ?_ | with_reducible refine an_bigl0 ?_ | with_reducible refine an_big1 ?_ | with_reducible refine an_bigl1 ?_ | with_reducible refine an_big2 ?_ | with_reducible refine an_bigl2 ?_ | with_reducible refine an_big3 ?_ | with_reducible refine an_bigl3 ?_ | with_reducible refine an_big4 ?_ | with_reducible refine an_bigl4 ?_ | with_reducible refine an_big5 ?_ | with_reducible refine an_bigl5 ?_ | with_reducible refine an_big6 ?_ | with_reducible refine an_bigl6 ?_ | with_reducible refine an_big7 ?_ | with_reducible refine an_bigl7 ?_ | with_reducible refine an_big8 ?_ | with_reducible refine an_bigl8 ?_ | with_reducible refine an_big (by decide) ?_ | with_reducible refine an_bigl (by decide) ?_ | with_reducible refine w_compN ?_ | with_reducible refine w_compC ?_ | with_reducible refine w_addT1 (by simp) ?_ | ((with_reducible apply an_own); exact rfl) | ((with_reducible apply ex_app); (first | exact rfl | (simp only [esc_nil, esc_int, esc_str, esc_bl, esc_non, List.set_cons_zero, List.set_cons_succ, unown_nil, unown_noO, esc_noO, noO_nil, noO_cons, isOwn_val, isOwn_no, isOwn_own, isOwn_succ, Bool.not_false, Bool.and_self]; exact rfl))) | ((with_reducible apply w_augI); exact rfl) | ((with_reducible apply w_augL); exact rfl) | ((with_reducible apply br_t); (first | decide +kernel | exact rfl)) | ((with_reducible apply br_f); (first | decide +kernel | exact rfl)) | with_reducible refine br_n ?_ | with_reducible refine br_d (fun _ => ?_) (fun _ => ?_) | with_reducible refine br_e (fun _ => ?_) (fun _ => ?_) | with_reducible refine br_s (fun _ => ?_) (fun _ => ?_) | with_reducible refine br_2 (fun _ => ?_) (fun _ => ?_)))
              rfl
            have okb := (okTs_app.mp hS.ok).2
            have eh : (1 : Int) + ((hgts (u :: us) : Nat) : Int) = ((hgts (u :: us) + 1 : Nat) : Int) := by omega
            have hal : (a.map rowT).length < 16777216 := by rw [List.length_map]; omega
            by_cases hw2 : 2 < way
            · have hw3 := hw hw2
              obtain ⟨v, rfl⟩ : ∃ v, us = [v] := by
                match us, hbs with
                | [v], _ => exact ⟨v, rfl⟩
                | [], h => simp at h; omega
                | _ :: _ :: _, h => simp at h; omega
              have ok' : okT (.cut A [u, v]) := ⟨by omega, hA2, rfl, okb⟩
              have fin := fun s7 s8 s9 s10 s11 => q (a ++ [.cut A [u, v]]) s7 s8 s9 s10 s11 (std_new hS (by simp) rfl ok' (by omega) (by
                show (if (keysTs [u, v]).isEmpty = true then [((sgn A : Int), (0 : Int), h2 [u, v])] else keysTs [u, v] ++ [((sgn A : Int), (1 : Int), (0 : Int))]).length ≤ _
                split
                · simp
                · rw [List.length_append]; exact Nat.le_refl _))
              have er : ∀ ks, keysT (.cut A [u, v]) = ks → rowT (.cut A [u, v]) = .lst [.tup [.str "cut", enc A, .tup ([u, v].map encT)], .int (1 + ((hgts [u, v] : Nat) : Int)), .lst (ks.map encK)] := fun ks hks => by
                subst hks
                rw [eh]
                rfl
              have ix0 : ∀ {Q : D → Prop}, Q (rowT u) → Wp (dIx (.lst ([u, v].map rowT)) (.int 0)) Q := fun q => w_ixL rfl q
              have ix1 : ∀ {Q : D → Prop}, Q (rowT v) → Wp (dIx (.lst ([u, v].map rowT)) (.int 1)) Q := fun q => w_ixL rfl q
              have ixr : ∀ {t : Tr} {Q : D → Prop}, Q (.int (hgt t)) → Wp (dIx (rowT t) (.int 1)) Q := fun q => w_ixL rfl q
              have ekt : keysT (.cut A [u, v]) = if (keysTs [u, v]).isEmpty = true then [((sgn A : Int), 0, (hgt u : Int) + (hgt v : Int))] else keysTs [u, v] ++ [((sgn A : Int), 1, 0)] := rfl
              simp only [List.map_append] at fin
              (repeat' (first | with_reducible refine ST.w_eAnd ?_ | with_reducible refine ST.w_eOr ?_ | with_reducible refine ST.w_eIf ?_ | with_reducible refine ST.w_eNot ?_ | with_reducible refine ST.w_eAll ?_ | with_reducible refine ST.w_eSome ?_ | with_reducible refine ST.w_eWord ?_ | with_reducible refine lsigns_ok A (by omega) ?_ | with_reducible refine ix0 ?_ | with_reducible refine ix1 ?_ | with_reducible refine ixr ?_ | with_reducible refine w_seq ?_ | with_reducible refine w_sIf ?_ | with_reducible refine w_nil ?_ | with_reducible refine w_ret ?_ | with_reducible refine w_sG ?_ | with_reducible refine w_xP ?_ | with_reducible refine w_gN ?_ | with_reducible refine w_gsN ?_ | with_reducible refine w_gsC ?_ | with_reducible refine w_gT2 ?_ | with_reducible refine w_gT3 ?_ | with_reducible refine w_gT (by rfl) ?_ | with_reducible refine w_c ?_ | ((with_reducible apply w_v); exact rfl) | ((with_reducible apply w_vo); exact rfl) | with_reducible refine w_e1 ?_ | with_reducible refine w_e2 ?_ | with_reducible refine w_esN ?_ | with_reducible refine w_esC ?_ | with_reducible refine w_eA ?_ | with_reducible refine w_nL ?_ | with_reducible refine w_eL ?_ | with_reducible refine w_lsG ?_ | with_reducible refine w_tup0 ?_ | with_reducible refine w_tup1 ?_ | with_reducible refine w_tup2 ?_ | with_reducible refine w_tup3 ?_ | with_reducible refine w_tup4 ?_ | with_reducible refine w_tup5 ?_ | with_reducible refine w_tup6 ?_ | with_reducible refine w_tup (by decide) ?_ | with_reducible refine w_tE ?_ | with_reducible refine w_dB ?_ | with_reducible refine w_tNo ?_ | with_reducible refine w_tAn ?_ | with_reducible refine w_tOr ?_ | with_reducible refine w_tY ?_ | with_reducible refine w_eAn ?_ | with_reducible refine w_eOr ?_ | with_reducible refine w_eIf ?_ | with_reducible refine w_addI ?_ | with_reducible refine w_sub ?_ | with_reducible refine w_neg ?_ | with_reducible refine w_not ?_ | with_reducible refine w_cmp ?_ | with_reducible refine w_ltI ?_ | with_reducible refine w_nSl ?_ | with_reducible refine w_cutL ?_ | with_reducible refine w_slL ?_ | with_reducible refine w_slR ?_ | with_reducible refine w_gL2 ?_ | with_reducible refine w_gL3 ?_ | with_reducible refine w_gL5 ?_ | with_reducible refine w_eqI ?_ | with_reducible refine w_eqS ?_ | with_reducible refine w_eqB ?_ | with_reducible refine w_neE ?_ | with_reducible refine w_eqE ?_ | with_reducible refine w_neI ?_ | with_reducible refine w_neS ?_ | with_reducible refine w_lenL ?_ | with_reducible refine w_lenT ?_ | with_reducible refine w_lenR ?_ | with_reducible refine w_intI ?_ | ((with_reducible apply w_intBt); (first | decide +kernel | exact rfl)) | ((with_reducible apply w_intBf); (first | decide +kernel | exact rfl)) | with_reducible refine w_intB ?_ | with_reducible refine w_tupleL ?_ | with_reducible refine w_tupleT ?_ | with_reducible refine w_listL ?_ | with_reducible refine w_listT ?_ | with_reducible refine w_max2P (fun r _ _ _ => ?_) | with_reducible refine w_min2P (fun r _ _ _ => ?_) | ((with_reducible apply w_isi); exact rfl) | with_reducible refine w_oN ?_ | with_reducible refine w_oS ?_ | with_reducible refine w_eSl ?_ | with_reducible refine w_sl1 ?_ | with_reducible refine w_sl2 ?_ | with_reducible refine w_sl3 ?_ | ((with_reducible apply w_ixT); exact rfl) | with_reducible refine w_mod (by decide) ?_ | with_reducible refine w_div (by decide) ?_ | with_reducible refine w_pow (by decide) ?_ | with_reducible refine w_own ?_ | with_reducible refine w_xsN ?_ | with_reducible refine w_xsC ?_ | with_reducible refine w_xA ?_ | with_reducible refine w_app ?_ | ((with_reducible refine sq_nx ?_); try simp only [esc_nil, esc_int, esc_str, esc_bl, esc_non, List.set_cons_zero, List.set_cons_succ, unown_nil, unown_noO, esc_noO, noO_nil, noO_cons, isOwn_val, isOwn_no, isOwn_own, isOwn_succ, Bool.not_false, Bool.and_self, esc_enc]) | with_reducible refine sq_ret ?_ | with_reducible refine rq_ret ?_ | with_reducible refine lq_ret ?_ | ((with_reducible refine lq_nx ?_); try simp only [esc_nil, esc_int, esc_str, esc_bl, esc_non, List.set_cons_zero, List.set_cons_succ, unown_nil, unown_noO, esc_noO, noO_nil, noO_cons, isOwn_val, isOwn_no, isOwn_own, isOwn_succ, Bool.not_false, Bool.and_self, esc_enc]) | ((with_reducible refine w_sFor ?_); try simp only [esc_nil, esc_int, esc_str, esc_bl, esc_non, List.set_cons_zero, List.set_cons_succ, unown_nil, unown_noO, esc_noO, noO_nil, noO_cons, isOwn_val, isOwn_no, isOwn_own, isOwn_succ, Bool.not_false, Bool.and_self, esc_enc]) | with_reducible refine w_iV ?_ | with_reducible refine w_iE ?_ | with_reducible refine w_itL ?_ | with_reducible refine w_itT ?_ | with_reducible refine w_itS ?_ | with_reducible refine w_lcG ?_ | with_reducible refine w_while0 ?_ | with_reducible refine w_mulI (mulOk_r (by decide)) ?_ | with_reducible refine w_mulI (mulOk_l (by decide)) ?_ | with_reducible refine ex_int ?_ | with_reducible refine ex_bl ?_ | with_reducible refine ex_lst ?_ | with_reducible refine an_int ?_ | with_reducible refine an_big0 ?_ | with_reducible refine an_bigl0 ?_ | with_reducible refine an_big1 ?_ | with_reducible refine an_bigl1 ?_ | with_reducible refine an_big2 ?_ | with_reducible refine an_bigl2 ?_ | with_reducible refine an_big3 ?_ | with_reducible refine an_bigl3 ?_ | with_reducible refine an_big4 ?_ | with_reducible refine an_bigl4 ?_ | with_reducible refine an_big5 ?_ | with_reducible refine an_bigl5 ?_ | with_reducible refine an_big6 ?_ | with_reducible refine an_bigl6 ?_ | with_reducible refine an_big7 ?_ | with_reducible refine an_bigl7 ?_ | with_reducible refine an_big8 ?_ | with_reducible refine an_bigl8 ?_ | with_reducible refine an_big (by decide) ?_ | with_reducible refine an_bigl (by decide) ?_ | with_reducible refine w_compN ?_ | with_reducible refine w_compC ?_ | with_reducible refine w_addT1 (by simp) ?_ | ((with_reducible apply an_own); exact rfl) | ((with_reducible apply ex_app); (first | exact rfl | (simp only [esc_nil, esc_int, esc_str, esc_bl, esc_non, List.set_cons_zero, List.set_cons_succ, unown_nil, unown_noO, esc_noO, noO_nil, noO_cons, isOwn_val, isOwn_no, isOwn_own, isOwn_succ, Bool.not_false, Bool.and_self, esc_enc]; exact rfl))) | ((with_reducible apply w_augI); exact rfl) | ((with_reducible apply w_augL); exact rfl) | ((with_reducible apply br_t); (first | decide +kernel | exact rfl)) | ((with_reducible apply br_f); (first | decide +kernel | exact rfl)) | with_reducible refine br_n ?_ | with_reducible refine br_d (fun _ => ?_) (fun _ => ?_) | with_reducible refine br_e (fun _ => ?_) (fun _ => ?_) | with_reducible refine br_s (fun _ => ?_) (fun _ => ?_) | with_reducible refine br_2 (fun _ => ?_) (fun _ => ?_)))
              · exact hal
              · rename_i hx
                rw [List.isEmpty_map] at hx
                have z := er _ (ekt.trans (if_pos hx))
                simp only [List.map_cons (f := rowT), List.map_nil (f := rowT), z] at fin
                exact fin _ _ _ _ _
              · rename_i hx
                rw [List.isEmpty_map] at hx
                have z := er _ (ekt.trans (if_neg (by rw [hx]; decide)))
                rw [List.map_append] at z
                simp only [List.map_cons (f := rowT), List.map_nil (f := rowT), z] at fin
                refine w_addL (by rw [List.length_map]; show _ + 1 ≤ _; omega) ?_
                (repeat' (first | with_reducible refine ST.w_eAnd ?_ | with_reducible refine ST.w_eOr ?_ | with_reducible refine ST.w_eIf ?_ | with_reducible refine ST.w_eNot ?_ | with_reducible refine ST.w_eAll ?_ | with_reducible refine ST.w_eSome ?_ | with_reducible refine ST.w_eWord ?_ | with_reducible refine w_seq ?_ | with_reducible refine w_sIf ?_ | with_reducible refine w_nil ?_ | with_reducible refine w_ret ?_ | with_reducible refine w_sG ?_ | with_reducible refine w_xP ?_ | with_reducible refine w_gN ?_ | with_reducible refine w_gsN ?_ | with_reducible refine w_gsC ?_ | with_reducible refine w_gT2 ?_ | with_reducible refine w_gT3 ?_ | with_reducible refine w_gT (by rfl) ?_ | with_reducible refine w_c ?_ | ((with_reducible apply w_v); exact rfl) | ((with_reducible apply w_vo); exact rfl) | with_reducible refine w_e1 ?_ | with_reducible refine w_e2 ?_ | with_reducible refine w_esN ?_ | with_reducible refine w_esC ?_ | with_reducible refine w_eA ?_ | with_reducible refine w_nL ?_ | with_reducible refine w_eL ?_ | with_reducible refine w_lsG ?_ | with_reducible refine w_tup0 ?_ | with_reducible refine w_tup1 ?_ | with_reducible refine w_tup2 ?_ | with_reducible refine w_tup3 ?_ | with_reducible refine w_tup4 ?_ | with_reducible refine w_tup5 ?_ | with_reducible refine w_tup6 ?_ | with_reducible refine w_tup (by decide) ?_ | with_reducible refine w_tE ?_ | with_reducible refine w_dB ?_ | with_reducible refine w_tNo ?_ | with_reducible refine w_tAn ?_ | with_reducible refine w_tOr ?_ | with_reducible refine w_tY ?_ | with_reducible refine w_eAn ?_ | with_reducible refine w_eOr ?_ | with_reducible refine w_eIf ?_ | with_reducible refine w_addI ?_ | with_reducible refine w_sub ?_ | with_reducible refine w_neg ?_ | with_reducible refine w_not ?_ | with_reducible refine w_cmp ?_ | with_reducible refine w_ltI ?_ | with_reducible refine w_nSl ?_ | with_reducible refine w_cutL ?_ | with_reducible refine w_slL ?_ | with_reducible refine w_slR ?_ | with_reducible refine w_gL2 ?_ | with_reducible refine w_gL3 ?_ | with_reducible refine w_gL5 ?_ | with_reducible refine w_eqI ?_ | with_reducible refine w_eqS ?_ | with_reducible refine w_eqB ?_ | with_reducible refine w_neE ?_ | with_reducible refine w_eqE ?_ | with_reducible refine w_neI ?_ | with_reducible refine w_neS ?_ | with_reducible refine w_lenL ?_ | with_reducible refine w_lenT ?_ | with_reducible refine w_lenR ?_ | with_reducible refine w_intI ?_ | ((with_reducible apply w_intBt); (first | decide +kernel | exact rfl)) | ((with_reducible apply w_intBf); (first | decide +kernel | exact rfl)) | with_reducible refine w_intB ?_ | with_reducible refine w_tupleL ?_ | with_reducible refine w_tupleT ?_ | with_reducible refine w_listL ?_ | with_reducible refine w_listT ?_ | with_reducible refine w_max2P (fun r _ _ _ => ?_) | with_reducible refine w_min2P (fun r _ _ _ => ?_) | ((with_reducible apply w_isi); exact rfl) | with_reducible refine w_oN ?_ | with_reducible refine w_oS ?_ | with_reducible refine w_eSl ?_ | with_reducible refine w_sl1 ?_ | with_reducible refine w_sl2 ?_ | with_reducible refine w_sl3 ?_ | ((with_reducible apply w_ixT); exact rfl) | with_reducible refine w_mod (by decide) ?_ | with_reducible refine w_div (by decide) ?_ | with_reducible refine w_pow (by decide) ?_ | with_reducible refine w_own ?_ | with_reducible refine w_xsN ?_ | with_reducible refine w_xsC ?_ | with_reducible refine w_xA ?_ | with_reducible refine w_app ?_ | ((with_reducible refine sq_nx ?_); try simp only [esc_nil, esc_int, esc_str, esc_bl, esc_non, List.set_cons_zero, List.set_cons_succ, unown_nil, unown_noO, esc_noO, noO_nil, noO_cons, isOwn_val, isOwn_no, isOwn_own, isOwn_succ, Bool.not_false, Bool.and_self, esc_enc]) | with_reducible refine sq_ret ?_ | with_reducible refine rq_ret ?_ | with_reducible refine lq_ret ?_ | ((with_reducible refine lq_nx ?_); try simp only [esc_nil, esc_int, esc_str, esc_bl, esc_non, List.set_cons_zero, List.set_cons_succ, unown_nil, unown_noO, esc_noO, noO_nil, noO_cons, isOwn_val, isOwn_no, isOwn_own, isOwn_succ, Bool.not_false, Bool.and_self, esc_enc]) | ((with_reducible refine w_sFor ?_); try simp only [esc_nil, esc_int, esc_str, esc_bl, esc_non, List.set_cons_zero, List.set_cons_succ, unown_nil, unown_noO, esc_noO, noO_nil, noO_cons, isOwn_val, isOwn_no, isOwn_own, isOwn_succ, Bool.not_false, Bool.and_self, esc_enc]) | with_reducible refine w_iV ?_ | with_reducible refine w_iE ?_ | with_reducible refine w_itL ?_ | with_reducible refine w_itT ?_ | with_reducible refine w_itS ?_ | with_reducible refine w_lcG ?_ | with_reducible refine w_while0 ?_ | with_reducible refine w_mulI (mulOk_r (by decide)) ?_ | with_reducible refine w_mulI (mulOk_l (by decide)) ?_ | with_reducible refine ex_int ?_ | with_reducible refine ex_bl ?_ | with_reducible refine ex_lst ?_ | with_reducible refine an_int ?_ | with_reducible refine an_big0 ?_ | with_reducible refine an_bigl0 ?_ | with_reducible refine an_big1 ?_ | with_reducible refine an_bigl1 ?_ | with_reducible refine an_big2 ?_ | with_reducible refine an_bigl2 ?_ | with_reducible refine an_big3 ?_ | with_reducible refine an_bigl3 ?_ | with_reducible refine an_big4 ?_ | with_reducible refine an_bigl4 ?_ | with_reducible refine an_big5 ?_ | with_reducible refine an_bigl5 ?_ | with_reducible refine an_big6 ?_ | with_reducible refine an_bigl6 ?_ | with_reducible refine an_big7 ?_ | with_reducible refine an_bigl7 ?_ | with_reducible refine an_big8 ?_ | with_reducible refine an_bigl8 ?_ | with_reducible refine an_big (by decide) ?_ | with_reducible refine an_bigl (by decide) ?_ | with_reducible refine w_compN ?_ | with_reducible refine w_compC ?_ | with_reducible refine w_addT1 (by simp) ?_ | ((with_reducible apply an_own); exact rfl) | ((with_reducible apply ex_app); (first | exact rfl | (simp only [esc_nil, esc_int, esc_str, esc_bl, esc_non, List.set_cons_zero, List.set_cons_succ, unown_nil, unown_noO, esc_noO, noO_nil, noO_cons, isOwn_val, isOwn_no, isOwn_own, isOwn_succ, Bool.not_false, Bool.and_self, esc_enc]; exact rfl))) | ((with_reducible apply w_augI); exact rfl) | ((with_reducible apply w_augL); exact rfl) | ((with_reducible apply br_t); (first | decide +kernel | exact rfl)) | ((with_reducible apply br_f); (first | decide +kernel | exact rfl)) | with_reducible refine br_n ?_ | with_reducible refine br_d (fun _ => ?_) (fun _ => ?_) | with_reducible refine br_e (fun _ => ?_) (fun _ => ?_) | with_reducible refine br_s (fun _ => ?_) (fun _ => ?_) | with_reducible refine br_2 (fun _ => ?_) (fun _ => ?_)))
                · exact hal
                · exact fin _ _ _ _ _
              · exact hal
              · exact absurd hw2 (by assumption)
            · have ok' : okT (.rule "left" A nm' (u :: us)) := ⟨by omega, hA2, by omega, okb⟩
              have fin := fun s7 s8 s9 s10 s11 => q (a ++ [.rule "left" A nm' (u :: us)]) s7 s8 s9 s10 s11 (std_new hS (by simp) rfl ok' (by omega) (Nat.le_succ _))
              have er : rowT (.rule "left" A nm' (u :: us)) = .lst [.tup [.str "rule", .str "left", enc A, .str nm', .tup ((u :: us).map encT)], .int (1 + ((hgts (u :: us) : Nat) : Int)), .lst ((keysTs (u :: us)).map encK)] := by
                rw [eh]
                show _ = D.lst [.tup [.str "rule", .str "left", enc A, .str nm', .tup (List.map encT (u :: us))], .int ((hgts (u :: us) + 1 : Nat) : Int), _]
                rw [← encTs_map]
                rfl
              simp only [List.map_append, List.map_cons (f := rowT), List.map_nil (f := rowT), er] at fin
              (repeat' (first | with_reducible refine ST.w_eAnd ?_ | with_reducible refine ST.w_eOr ?_ | with_reducible refine ST.w_eIf ?_ | with_reducible refine ST.w_eNot ?_ | with_reducible refine ST.w_eAll ?_ | with_reducible refine ST.w_eSome ?_ | with_reducible refine ST.w_eWord ?_ | with_reducible refine w_seq ?_ | with_reducible refine w_sIf ?_ | with_reducible refine w_nil ?_ | with_reducible refine w_ret ?_ | with_reducible refine w_sG ?_ | with_reducible refine w_xP ?_ | with_reducible refine w_gN ?_ | with_reducible refine w_gsN ?_ | with_reducible refine w_gsC ?_ | with_reducible refine w_gT2 ?_ | with_reducible refine w_gT3 ?_ | with_reducible refine w_gT (by rfl) ?_ | with_reducible refine w_c ?_ | ((with_reducible apply w_v); exact rfl) | ((with_reducible apply w_vo); exact rfl) | with_reducible refine w_e1 ?_ | with_reducible refine w_e2 ?_ | with_reducible refine w_esN ?_ | with_reducible refine w_esC ?_ | with_reducible refine w_eA ?_ | with_reducible refine w_nL ?_ | with_reducible refine w_eL ?_ | with_reducible refine w_lsG ?_ | with_reducible refine w_tup0 ?_ | with_reducible refine w_tup1 ?_ | with_reducible refine w_tup2 ?_ | with_reducible refine w_tup3 ?_ | with_reducible refine w_tup4 ?_ | with_reducible refine w_tup5 ?_ | with_reducible refine w_tup6 ?_ | with_reducible refine w_tup (by decide) ?_ | with_reducible refine w_tE ?_ | with_reducible refine w_dB ?_ | with_reducible refine w_tNo ?_ | with_reducible refine w_tAn ?_ | with_reducible refine w_tOr ?_ | with_reducible refine w_tY ?_ | with_reducible refine w_eAn ?_ | with_reducible refine w_eOr ?_ | with_reducible refine w_eIf ?_ | with_reducible refine w_addI ?_ | with_reducible refine w_sub ?_ | with_reducible refine w_neg ?_ | with_reducible refine w_not ?_ | with_reducible refine w_cmp ?_ | with_reducible refine w_ltI ?_ | with_reducible refine w_nSl ?_ | with_reducible refine w_cutL ?_ | with_reducible refine w_slL ?_ | with_reducible refine w_slR ?_ | with_reducible refine w_gL2 ?_ | with_reducible refine w_gL3 ?_ | with_reducible refine w_gL5 ?_ | with_reducible refine w_eqI ?_ | with_reducible refine w_eqS ?_ | with_reducible refine w_eqB ?_ | with_reducible refine w_neE ?_ | with_reducible refine w_eqE ?_ | with_reducible refine w_neI ?_ | with_reducible refine w_neS ?_ | with_reducible refine w_lenL ?_ | with_reducible refine w_lenT ?_ | with_reducible refine w_lenR ?_ | with_reducible refine w_intI ?_ | ((with_reducible apply w_intBt); (first | decide +kernel | exact rfl)) | ((with_reducible apply w_intBf); (first | decide +kernel | exact rfl)) | with_reducible refine w_intB ?_ | with_reducible refine w_tupleL ?_ | with_reducible refine w_tupleT ?_ | with_reducible refine w_listL ?_ | with_reducible refine w_listT ?_ | with_reducible refine w_max2P (fun r _ _ _ => ?_) | with_reducible refine w_min2P (fun r _ _ _ => ?_) | ((with_reducible apply w_isi); exact rfl) | with_reducible refine w_oN ?_ | with_reducible refine w_oS ?_ | with_reducible refine w_eSl ?_ | with_reducible refine w_sl1 ?_ | with_reducible refine w_sl2 ?_ | with_reducible refine w_sl3 ?_ | ((with_reducible apply w_ixT); exact rfl) | with_reducible refine w_mod (by decide) ?_ | with_reducible refine w_div (by decide) ?_ | with_reducible refine w_pow (by decide) ?_ | with_reducible refine w_own ?_ | with_reducible refine w_xsN ?_ | with_reducible refine w_xsC ?_ | with_reducible refine w_xA ?_ | with_reducible refine w_app ?_ | ((with_reducible refine sq_nx ?_); try simp only [esc_nil, esc_int, esc_str, esc_bl, esc_non, List.set_cons_zero, List.set_cons_succ, unown_nil, unown_noO, esc_noO, noO_nil, noO_cons, isOwn_val, isOwn_no, isOwn_own, isOwn_succ, Bool.not_false, Bool.and_self, esc_enc]) | with_reducible refine sq_ret ?_ | with_reducible refine rq_ret ?_ | with_reducible refine lq_ret ?_ | ((with_reducible refine lq_nx ?_); try simp only [esc_nil, esc_int, esc_str, esc_bl, esc_non, List.set_cons_zero, List.set_cons_succ, unown_nil, unown_noO, esc_noO, noO_nil, noO_cons, isOwn_val, isOwn_no, isOwn_own, isOwn_succ, Bool.not_false, Bool.and_self, esc_enc]) | ((with_reducible refine w_sFor ?_); try simp only [esc_nil, esc_int, esc_str, esc_bl, esc_non, List.set_cons_zero, List.set_cons_succ, unown_nil, unown_noO, esc_noO, noO_nil, noO_cons, isOwn_val, isOwn_no, isOwn_own, isOwn_succ, Bool.not_false, Bool.and_self, esc_enc]) | with_reducible refine w_iV ?_ | with_reducible refine w_iE ?_ | with_reducible refine w_itL ?_ | with_reducible refine w_itT ?_ | with_reducible refine w_itS ?_ | with_reducible refine w_lcG ?_ | with_reducible refine w_while0 ?_ | with_reducible refine w_mulI (mulOk_r (by decide)) ?_ | with_reducible refine w_mulI (mulOk_l (by decide)) ?_ | with_reducible refine ex_int ?_ | with_reducible refine ex_bl ?_ | with_reducible refine ex_lst ?_ | with_reducible refine an_int ?_ | with_reducible refine an_big0 ?_ | with_reducible refine an_bigl0 ?_ | with_reducible refine an_big1 ?_ | with_reducible refine an_bigl1 ?_ | with_reducible refine an_big2 ?_ | with_reducible refine an_bigl2 ?_ | with_reducible refine an_big3 ?_ | with_reducible refine an_bigl3 ?_ | with_reducible refine an_big4 ?_ | with_reducible refine an_bigl4 ?_ | with_reducible refine an_big5 ?_ | with_reducible refine an_bigl5 ?_ | with_reducible refine an_big6 ?_ | with_reducible refine an_bigl6 ?_ | with_reducible refine an_big7 ?_ | with_reducible refine an_bigl7 ?_ | with_reducible refine an_big8 ?_ | with_reducible refine an_bigl8 ?_ | with_reducible refine an_big (by decide) ?_ | with_reducible refine an_bigl (by decide) ?_ | with_reducible refine w_compN ?_ | with_reducible refine w_compC ?_ | with_reducible refine w_addT1 (by simp) ?_ | ((with_reducible apply an_own); exact rfl) | ((with_reducible apply ex_app); (first | exact rfl | (simp only [esc_nil, esc_int, esc_str, esc_bl, esc_non, List.set_cons_zero, List.set_cons_succ, unown_nil, unown_noO, esc_noO, noO_nil, noO_cons, isOwn_val, isOwn_no, isOwn_own, isOwn_succ, Bool.not_false, Bool.and_self, esc_enc]; exact rfl))) | ((with_reducible apply w_augI); exact rfl) | ((with_reducible apply w_augL); exact rfl) | ((with_reducible apply br_t); (first | decide +kernel | exact rfl)) | ((with_reducible apply br_f); (first | decide +kernel | exact rfl)) | with_reducible refine br_n ?_ | with_reducible refine br_d (fun _ => ?_) (fun _ => ?_) | with_reducible refine br_e (fun _ => ?_) (fun _ => ?_) | with_reducible refine br_s (fun _ => ?_) (fun _ => ?_) | with_reducible refine br_2 (fun _ => ?_) (fun _ => ?_)))
              · exact absurd (by assumption) hw2
              · exact absurd (by assumption) hw2
              · exact hal
              · exact fin _ _ _ _ _
end G

namespace G
open PySem L2 DL ST
theorem grown_ok {n : Nat} (hn : 20 ≤ n) (ns : List Int) (hl : ns.length ≤ 63) (vs : List Str) (hv : vs.length = 2) {Q : D → Prop} (q : ∀ ts : List Tr, Std ts 0 → Q (.lst (ts.map rowT))) : Wp (fnL 2 (Phi n j__law_grown) [.scr ns, .lst (vs.map .str)]) Q := by
  obtain ⟨m, rfl⟩ : ∃ m, n = m + 1 := ⟨n - 1, by omega⟩
  apply R__law_grown
  unfold B__law_grown
  (repeat' (first | with_reducible refine w_seq ?_ | with_reducible refine w_sIf ?_ | with_reducible refine w_nil ?_ | with_reducible refine w_ret ?_ | with_reducible refine w_sG ?_ | with_reducible refine w_xP ?_ | with_reducible refine w_gN ?_ | with_reducible refine w_gsN ?_ | with_reducible refine w_gsC ?_ | with_reducible refine w_gT2 ?_ | with_reducible refine w_gT3 ?_ | with_reducible refine w_gT (by rfl) ?_ | with_reducible refine w_c ?_ | ((with_reducible apply w_v); exact rfl) | ((with_reducible apply w_vo); exact rfl) | with_reducible refine w_e1 ?_ | with_reducible refine w_e2 ?_ | with_reducible refine w_esN ?_ | with_reducible refine w_esC ?_ | with_reducible refine w_eA ?_ | with_reducible refine w_nL ?_ | with_reducible refine w_eL ?_ | with_reducible refine w_lsG ?_ | with_reducible refine w_tup0 ?_ | with_reducible refine w_tup1 ?_ | with_reducible refine w_tup2 ?_ | with_reducible refine w_tup3 ?_ | with_reducible refine w_tup4 ?_ | with_reducible refine w_tup5 ?_ | with_reducible refine w_tup6 ?_ | with_reducible refine w_tup (by decide) ?_ | with_reducible refine w_tE ?_ | with_reducible refine w_dB ?_ | with_reducible refine w_tNo ?_ | with_reducible refine w_tAn ?_ | with_reducible refine w_tOr ?_ | with_reducible refine w_tY ?_ | with_reducible refine w_eAn ?_ | with_reducible refine w_eOr ?_ | with_reducible refine w_eIf ?_ | with_reducible refine w_addI ?_ | with_reducible refine w_sub ?_ | with_reducible refine w_neg ?_ | with_reducible refine w_not ?_ | with_reducible refine w_cmp ?_ | with_reducible refine w_ltI ?_ | with_reducible refine w_nSl ?_ | with_reducible refine w_cutL ?_ | with_reducible refine w_slL ?_ | with_reducible refine w_slR ?_ | with_reducible refine w_gL2 ?_ | with_reducible refine w_gL3 ?_ | with_reducible refine w_gL5 ?_ | with_reducible refine w_eqI ?_ | with_reducible refine w_eqS ?_ | with_reducible refine w_eqB ?_ | with_reducible refine w_neE ?_ | with_reducible refine w_eqE ?_ | with_reducible refine w_neI ?_ | with_reducible refine w_neS ?_ | with_reducible refine w_lenL ?_ | with_reducible refine w_lenT ?_ | with_reducible refine w_lenR ?_ | with_reducible refine w_intI ?_ | ((with_reducible apply w_intBt); (first | decide +kernel | exact rfl)) | ((with_reducible apply w_intBf); (first | decide +kernel | exact rfl)) | with_reducible refine w_intB ?_ | with_reducible refine w_tupleL ?_ | with_reducible refine w_tupleT ?_ | with_reducible refine w_listL ?_ | with_reducible refine w_listT ?_ | with_reducible refine w_max2P (fun r _ _ _ => ?_) | with_reducible refine w_min2P (fun r _ _ _ => ?_) | ((with_reducible apply w_isi); exact rfl) | with_reducible refine w_oN ?_ | with_reducible refine w_oS ?_ | with_reducible refine w_eSl ?_ | with_reducible refine w_sl1 ?_ | with_reducible refine w_sl2 ?_ | with_reducible refine w_sl3 ?_ | ((with_reducible apply w_ixT); exact rfl) | with_reducible refine w_mod (by decide) ?_ | with_reducible refine w_div (by decide) ?_ | with_reducible refine w_pow (by decide) ?_ | with_reducible refine w_own ?_ | with_reducible refine w_xsN ?_ | with_reducible refine w_xsC ?_ | with_reducible refine w_xA ?_ | with_reducible refine w_app ?_ | ((with_reducible refine sq_nx ?_); try simp only [esc_nil, esc_int, esc_str, esc_bl, esc_non, List.set_cons_zero, List.set_cons_succ, unown_nil, unown_noO, esc_noO, noO_nil, noO_cons, isOwn_val, isOwn_no, isOwn_own, isOwn_succ, Bool.not_false, Bool.and_self]) | with_reducible refine sq_ret ?_ | with_reducible refine rq_ret ?_ | with_reducible refine lq_ret ?_ | ((with_reducible refine lq_nx ?_); try simp only [esc_nil, esc_int, esc_str, esc_bl, esc_non, List.set_cons_zero, List.set_cons_succ, unown_nil, unown_noO, esc_noO, noO_nil, noO_cons, isOwn_val, isOwn_no, isOwn_own, isOwn_succ, Bool.not_false, Bool.and_self]) | ((with_reducible refine w_sFor ?_); try simp only [esc_nil, esc_int, esc_str, esc_bl, esc_non, List.set_cons_zero, List.set_cons_succ, unown_nil, unown_noO, esc_noO, noO_nil, noO_cons, isOwn_val, isOwn_no, isOwn_own, isOwn_succ, Bool.not_false, Bool.and_self]) | with_reducible refine w_iV ?_ | with_reducible refine w_iE ?_ | with_reducible refine w_itL ?_ | with_reducible refine w_itT ?_ | with_reducible refine w_itS ?_ | with_reducible refine w_lcG ?_ | with_reducible refine w_while0 ?_ | with_reducible refine w_mulI (mulOk_r (by decide)) ?_ | with_reducible refine w_mulI (mulOk_l (by decide)) ?_ | with_reducible refine ex_int ?_ | with_reducible refine ex_bl ?_ | with_reducible refine ex_lst ?_ | with_reducible refine an_int ?_ | with_reducible refine an_big0 ?_ | with_reducible refine an_bigl0 ?_ | with_reducible refine an_big1 ?_ | with_reducible refine an_bigl1 ?_ | with_reducible refine an_big2 ?_ | with_reducible refine an_bigl2 ?_ | with_reducible refine an_big3 ?_ | with_reducible refine an_bigl3 ?_ | with_reducible refine an_big4 ?_ | with_reducible refine an_bigl4 ?_ | with_reducible refine an_big5 ?_ | with_reducible refine an_bigl5 ?_ | with_reducible refine an_big6 ?_ | with_reducible refine an_bigl6 ?_ | with_reducible refine an_big7 ?_ | with_reducible refine an_bigl7 ?_ | with_reducible refine an_big8 ?_ | with_reducible refine an_bigl8 ?_ | with_reducible refine an_big (by decide) ?_ | with_reducible refine an_bigl (by decide) ?_ | with_reducible refine w_compN ?_ | with_reducible refine w_compC ?_ | with_reducible refine w_addT1 (by simp) ?_ | ((with_reducible apply an_own); exact rfl) | ((with_reducible apply ex_app); (first | exact rfl | (simp only [esc_nil, esc_int, esc_str, esc_bl, esc_non, List.set_cons_zero, List.set_cons_succ, unown_nil, unown_noO, esc_noO, noO_nil, noO_cons, isOwn_val, isOwn_no, isOwn_own, isOwn_succ, Bool.not_false, Bool.and_self]; exact rfl))) | ((with_reducible apply w_augI); exact rfl) | ((with_reducible apply w_augL); exact rfl) | ((with_reducible apply br_t); (first | decide +kernel | exact rfl)) | ((with_reducible apply br_f); (first | decide +kernel | exact rfl)) | with_reducible refine br_n ?_ | with_reducible refine br_d (fun _ => ?_) (fun _ => ?_) | with_reducible refine br_e (fun _ => ?_) (fun _ => ?_) | with_reducible refine br_s (fun _ => ?_) (fun _ => ?_) | with_reducible refine br_2 (fun _ => ?_) (fun _ => ?_)))
  have hc : (cutG (ns.map D.int) none (some 90)).length ≤ 63 := Nat.le_trans cutG_len (by rw [List.length_map]; exact hl)
  have hi : ∀ d ∈ cutG (ns.map D.int) none (some 90), ∃ i : Int, d = .int i := fun d hd => by
    obtain ⟨i, _, rfl⟩ := List.mem_map.mp (cutG_mem hd)
    exact ⟨i, rfl⟩
  refine w_forA (I := fun ds ρ => ∃ (ts : List Tr) (s3 s4 s5 s6 s7 s8 s9 s10 s11 : Sl), (∀ d ∈ ds, ∃ i : Int, d = .int i) ∧ Std ts ds.length ∧ ρ = [Sl.val (.scr ns), Sl.val (.lst (vs.map .str)), Sl.own (ts.map rowT), s3, s4, s5, s6, s7, s8, s9, s10, s11]) _
    ⟨[], _, _, _, _, _, _, _, _, _, hi, ⟨trivial, by decide, by simpa using hc, by show 0 + _ ≤ 63; omega⟩, rfl⟩ (fun d ds ρ hI => ?_) (fun ρ hI => ?_)
  · obtain ⟨ts, s3, s4, s5, s6, s7, s8, s9, s10, s11, h1, hS, rfl⟩ := hI
    obtain ⟨c, rfl⟩ := h1 d List.mem_cons_self
    have wd := fun c {Q : D → Prop} (q : ∀ A, dep A ≤ 3 → short A → Q (enc A)) => show Wp (fnL 4 (Phi m 8) [.int c, .int 3, .int 0, .lst (vs.map .str)]) Q from wide_ok 3 (n := m) c 0 vs (by omega) (by omega) (by omega) (by omega) q
    have gp := fun (way size : Int) A hA1 hA2 hs hw {Q : DL.Out → Prop} => gpart_ok (Q := Q) (m := m) (by omega) (.scr ns) (.int c) vs (by omega) ts ds.length hS way size A hA1 hA2 hs hw s7 s8 s9 s10 s11
    (repeat' (first | with_reducible refine ST.w_eAnd ?_ | with_reducible refine ST.w_eOr ?_ | with_reducible refine ST.w_eIf ?_ | with_reducible refine ST.w_eNot ?_ | with_reducible refine ST.w_eAll ?_ | with_reducible refine ST.w_eSome ?_ | with_reducible refine ST.w_eWord ?_ | with_reducible refine wd _ (fun A hA1 hA2 => ?_) | with_reducible refine gp _ _ _ (by assumption) (by assumption) (by omega) (by omega) (fun ts' s7 s8 s9 s10 s11 hS' => ?_) | with_reducible refine w_seq ?_ | with_reducible refine w_sIf ?_ | with_reducible refine w_nil ?_ | with_reducible refine w_ret ?_ | with_reducible refine w_sG ?_ | with_reducible refine w_xP ?_ | with_reducible refine w_gN ?_ | with_reducible refine w_gsN ?_ | with_reducible refine w_gsC ?_ | with_reducible refine w_gT2 ?_ | with_reducible refine w_gT3 ?_ | with_reducible refine w_gT (by rfl) ?_ | with_reducible refine w_c ?_ | ((with_reducible apply w_v); exact rfl) | ((with_reducible apply w_vo); exact rfl) | with_reducible refine w_e1 ?_ | with_reducible refine w_e2 ?_ | with_reducible refine w_esN ?_ | with_reducible refine w_esC ?_ | with_reducible refine w_eA ?_ | with_reducible refine w_nL ?_ | with_reducible refine w_eL ?_ | with_reducible refine w_lsG ?_ | with_reducible refine w_tup0 ?_ | with_reducible refine w_tup1 ?_ | with_reducible refine w_tup2 ?_ | with_reducible refine w_tup3 ?_ | with_reducible refine w_tup4 ?_ | with_reducible refine w_tup5 ?_ | with_reducible refine w_tup6 ?_ | with_reducible refine w_tup (by decide) ?_ | with_reducible refine w_tE ?_ | with_reducible refine w_dB ?_ | with_reducible refine w_tNo ?_ | with_reducible refine w_tAn ?_ | with_reducible refine w_tOr ?_ | with_reducible refine w_tY ?_ | with_reducible refine w_eAn ?_ | with_reducible refine w_eOr ?_ | with_reducible refine w_eIf ?_ | with_reducible refine w_addI ?_ | with_reducible refine w_sub ?_ | with_reducible refine w_neg ?_ | with_reducible refine w_not ?_ | with_reducible refine w_cmp ?_ | with_reducible refine w_ltI ?_ | with_reducible refine w_nSl ?_ | with_reducible refine w_cutL ?_ | with_reducible refine w_slL ?_ | with_reducible refine w_slR ?_ | with_reducible refine w_gL2 ?_ | with_reducible refine w_gL3 ?_ | with_reducible refine w_gL5 ?_ | with_reducible refine w_eqI ?_ | with_reducible refine w_eqS ?_ | with_reducible refine w_eqB ?_ | with_reducible refine w_neE ?_ | with_reducible refine w_eqE ?_ | with_reducible refine w_neI ?_ | with_reducible refine w_neS ?_ | with_reducible refine w_lenL ?_ | with_reducible refine w_lenT ?_ | with_reducible refine w_lenR ?_ | with_reducible refine w_intI ?_ | ((with_reducible apply w_intBt); (first | decide +kernel | exact rfl)) | ((with_reducible apply w_intBf); (first | decide +kernel | exact rfl)) | with_reducible refine w_intB ?_ | with_reducible refine w_tupleL ?_ | with_reducible refine w_tupleT ?_ | with_reducible refine w_listL ?_ | with_reducible refine w_listT ?_ | with_reducible refine w_max2P (fun r _ _ _ => ?_) | with_reducible refine w_min2P (fun r _ _ _ => ?_) | ((with_reducible apply w_isi); exact rfl) | with_reducible refine w_oN ?_ | with_reducible refine w_oS ?_ | with_reducible refine w_eSl ?_ | with_reducible refine w_sl1 ?_ | with_reducible refine w_sl2 ?_ | with_reducible refine w_sl3 ?_ | ((with_reducible apply w_ixT); exact rfl) | with_reducible refine w_mod (by decide) ?_ | with_reducible refine w_div (by decide) ?_ | with_reducible refine w_pow (by decide) ?_ | with_reducible refine w_own ?_ | with_reducible refine w_xsN ?_ | with_reducible refine w_xsC ?_ | with_reducible refine w_xA ?_ | with_reducible refine w_app ?_ | ((with_reducible refine sq_nx ?_); try simp only [esc_nil, esc_int, esc_str, esc_bl, esc_non, List.set_cons_zero, List.set_cons_succ, unown_nil, unown_noO, esc_noO, noO_nil, noO_cons, isOwn_val, isOwn_no, isOwn_own, isOwn_succ, Bool.not_false, Bool.and_self, esc_enc]) | with_reducible refine sq_ret ?_ | with_reducible refine rq_ret ?_ | with_reducible refine lq_ret ?_ | ((with_reducible refine lq_nx ?_); try simp only [esc_nil, esc_int, esc_str, esc_bl, esc_non, List.set_cons_zero, List.set_cons_succ, unown_nil, unown_noO, esc_noO, noO_nil, noO_cons, isOwn_val, isOwn_no, isOwn_own, isOwn_succ, Bool.not_false, Bool.and_self, esc_enc]) | ((with_reducible refine w_sFor ?_); try simp only [esc_nil, esc_int, esc_str, esc_bl, esc_non, List.set_cons_zero, List.set_cons_succ, unown_nil, unown_noO, esc_noO, noO_nil, noO_cons, isOwn_val, isOwn_no, isOwn_own, isOwn_succ, Bool.not_false, Bool.and_self, esc_enc]) | with_reducible refine w_iV ?_ | with_reducible refine w_iE ?_ | with_reducible refine w_itL ?_ | with_reducible refine w_itT ?_ | with_reducible refine w_itS ?_ | with_reducible refine w_lcG ?_ | with_reducible refine w_while0 ?_ | with_reducible refine w_mulI (mulOk_r (by decide)) ?_ | with_reducible refine w_mulI (mulOk_l (by decide)) ?_ | with_reducible refine ex_int ?_ | with_reducible refine ex_bl ?_ | with_reducible refine ex_lst ?_ | with_reducible refine an_int ?_ | with_reducible refine an_big0 ?_ | with_reducible refine an_bigl0 ?_ | with_reducible refine an_big1 ?_ | with_reducible refine an_bigl1 ?_ | with_reducible refine an_big2 ?_ | with_reducible refine an_bigl2 ?_ | with_reducible refine an_big3 ?_ | with_reducible refine an_bigl3 ?_ | with_reducible refine an_big4 ?_ | with_reducible refine an_bigl4 ?_ | with_reducible refine an_big5 ?_ | with_reducible refine an_bigl5 ?_ | with_reducible refine an_big6 ?_ | with_reducible refine an_bigl6 ?_ | with_reducible refine an_big7 ?_ | with_reducible refine an_bigl7 ?_ | with_reducible refine an_big8 ?_ | with_reducible refine an_bigl8 ?_ | with_reducible refine an_big (by decide) ?_ | with_reducible refine an_bigl (by decide) ?_ | with_reducible refine w_compN ?_ | with_reducible refine w_compC ?_ | with_reducible refine w_addT1 (by simp) ?_ | ((with_reducible apply an_own); exact rfl) | ((with_reducible apply ex_app); (first | exact rfl | (simp only [esc_nil, esc_int, esc_str, esc_bl, esc_non, List.set_cons_zero, List.set_cons_succ, unown_nil, unown_noO, esc_noO, noO_nil, noO_cons, isOwn_val, isOwn_no, isOwn_own, isOwn_succ, Bool.not_false, Bool.and_self, esc_enc]; exact rfl))) | ((with_reducible apply w_augI); exact rfl) | ((with_reducible apply w_augL); exact rfl) | ((with_reducible apply br_t); (first | decide +kernel | exact rfl)) | ((with_reducible apply br_f); (first | decide +kernel | exact rfl)) | with_reducible refine br_n ?_ | with_reducible refine br_d (fun _ => ?_) (fun _ => ?_) | with_reducible refine br_e (fun _ => ?_) (fun _ => ?_) | with_reducible refine br_s (fun _ => ?_) (fun _ => ?_) | with_reducible refine br_2 (fun _ => ?_) (fun _ => ?_)))
    all_goals exact ⟨ts', _, _, _, _, _, _, _, _, _, fun d hd => h1 d (List.mem_cons_of_mem _ hd), hS', rfl⟩
  · obtain ⟨ts, s3, s4, s5, s6, s7, s8, s9, s10, s11, h1, hS, rfl⟩ := hI
    (repeat' (first | with_reducible refine w_seq ?_ | with_reducible refine w_sIf ?_ | with_reducible refine w_nil ?_ | with_reducible refine w_ret ?_ | with_reducible refine w_sG ?_ | with_reducible refine w_xP ?_ | with_reducible refine w_gN ?_ | with_reducible refine w_gsN ?_ | with_reducible refine w_gsC ?_ | with_reducible refine w_gT2 ?_ | with_reducible refine w_gT3 ?_ | with_reducible refine w_gT (by rfl) ?_ | with_reducible refine w_c ?_ | ((with_reducible apply w_v); exact rfl) | ((with_reducible apply w_vo); exact rfl) | with_reducible refine w_e1 ?_ | with_reducible refine w_e2 ?_ | with_reducible refine w_esN ?_ | with_reducible refine w_esC ?_ | with_reducible refine w_eA ?_ | with_reducible refine w_nL ?_ | with_reducible refine w_eL ?_ | with_reducible refine w_lsG ?_ | with_reducible refine w_tup0 ?_ | with_reducible refine w_tup1 ?_ | with_reducible refine w_tup2 ?_ | with_reducible refine w_tup3 ?_ | with_reducible refine w_tup4 ?_ | with_reducible refine w_tup5 ?_ | with_reducible refine w_tup6 ?_ | with_reducible refine w_tup (by decide) ?_ | with_reducible refine w_tE ?_ | with_reducible refine w_dB ?_ | with_reducible refine w_tNo ?_ | with_reducible refine w_tAn ?_ | with_reducible refine w_tOr ?_ | with_reducible refine w_tY ?_ | with_reducible refine w_eAn ?_ | with_reducible refine w_eOr ?_ | with_reducible refine w_eIf ?_ | with_reducible refine w_addI ?_ | with_reducible refine w_sub ?_ | with_reducible refine w_neg ?_ | with_reducible refine w_not ?_ | with_reducible refine w_cmp ?_ | with_reducible refine w_ltI ?_ | with_reducible refine w_nSl ?_ | with_reducible refine w_cutL ?_ | with_reducible refine w_slL ?_ | with_reducible refine w_slR ?_ | with_reducible refine w_gL2 ?_ | with_reducible refine w_gL3 ?_ | with_reducible refine w_gL5 ?_ | with_reducible refine w_eqI ?_ | with_reducible refine w_eqS ?_ | with_reducible refine w_eqB ?_ | with_reducible refine w_neE ?_ | with_reducible refine w_eqE ?_ | with_reducible refine w_neI ?_ | with_reducible refine w_neS ?_ | with_reducible refine w_lenL ?_ | with_reducible refine w_lenT ?_ | with_reducible refine w_lenR ?_ | with_reducible refine w_intI ?_ | ((with_reducible apply w_intBt); (first | decide +kernel | exact rfl)) | ((with_reducible apply w_intBf); (first | decide +kernel | exact rfl)) | with_reducible refine w_intB ?_ | with_reducible refine w_tupleL ?_ | with_reducible refine w_tupleT ?_ | with_reducible refine w_listL ?_ | with_reducible refine w_listT ?_ | with_reducible refine w_max2P (fun r _ _ _ => ?_) | with_reducible refine w_min2P (fun r _ _ _ => ?_) | ((with_reducible apply w_isi); exact rfl) | with_reducible refine w_oN ?_ | with_reducible refine w_oS ?_ | with_reducible refine w_eSl ?_ | with_reducible refine w_sl1 ?_ | with_reducible refine w_sl2 ?_ | with_reducible refine w_sl3 ?_ | ((with_reducible apply w_ixT); exact rfl) | with_reducible refine w_mod (by decide) ?_ | with_reducible refine w_div (by decide) ?_ | with_reducible refine w_pow (by decide) ?_ | with_reducible refine w_own ?_ | with_reducible refine w_xsN ?_ | with_reducible refine w_xsC ?_ | with_reducible refine w_xA ?_ | with_reducible refine w_app ?_ | ((with_reducible refine sq_nx ?_); try simp only [esc_nil, esc_int, esc_str, esc_bl, esc_non, List.set_cons_zero, List.set_cons_succ, unown_nil, unown_noO, esc_noO, noO_nil, noO_cons, isOwn_val, isOwn_no, isOwn_own, isOwn_succ, Bool.not_false, Bool.and_self]) | with_reducible refine sq_ret ?_ | with_reducible refine rq_ret ?_ | with_reducible refine lq_ret ?_ | ((with_reducible refine lq_nx ?_); try simp only [esc_nil, esc_int, esc_str, esc_bl, esc_non, List.set_cons_zero, List.set_cons_succ, unown_nil, unown_noO, esc_noO, noO_nil, noO_cons, isOwn_val, isOwn_no, isOwn_own, isOwn_succ, Bool.not_false, Bool.and_self]) | ((with_reducible refine w_sFor ?_); try simp only [esc_nil, esc_int, esc_str, esc_bl, esc_non, List.set_cons_zero, List.set_cons_succ, unown_nil, unown_noO, esc_noO, noO_nil, noO_cons, isOwn_val, isOwn_no, isOwn_own, isOwn_succ, Bool.not_false, Bool.and_self]) | with_reducible refine w_iV ?_ | with_reducible refine w_iE ?_ | with_reducible refine w_itL ?_ | with_reducible refine w_itT ?_ | with_reducible refine w_itS ?_ | with_reducible refine w_lcG ?_ | with_reducible refine w_while0 ?_ | with_reducible refine w_mulI (mulOk_r (by decide)) ?_ | with_reducible refine w_mulI (mulOk_l (by decide)) ?_ | with_reducible refine ex_int ?_ | with_reducible refine ex_bl ?_ | with_reducible refine ex_lst ?_ | with_reducible refine an_int ?_ | with_reducible refine an_big0 ?_ | with_reducible refine an_bigl0 ?_ | with_reducible refine an_big1 ?_ | with_reducible refine an_bigl1 ?_ | with_reducible refine an_big2 ?_ | with_reducible refine an_bigl2 ?_ | with_reducible refine an_big3 ?_ | with_reducible refine an_bigl3 ?_ | with_reducible refine an_big4 ?_ | with_reducible refine an_bigl4 ?_ | with_reducible refine an_big5 ?_ | with_reducible refine an_bigl5 ?_ | with_reducible refine an_big6 ?_ | with_reducible refine an_bigl6 ?_ | with_reducible refine an_big7 ?_ | with_reducible refine an_bigl7 ?_ | with_reducible refine an_big8 ?_ | with_reducible refine an_bigl8 ?_ | with_reducible refine an_big (by decide) ?_ | with_reducible refine an_bigl (by decide) ?_ | with_reducible refine w_compN ?_ | with_reducible refine w_compC ?_ | with_reducible refine w_addT1 (by simp) ?_ | ((with_reducible apply an_own); exact rfl) | ((with_reducible apply ex_app); (first | exact rfl | (simp only [esc_nil, esc_int, esc_str, esc_bl, esc_non, List.set_cons_zero, List.set_cons_succ, unown_nil, unown_noO, esc_noO, noO_nil, noO_cons, isOwn_val, isOwn_no, isOwn_own, isOwn_succ, Bool.not_false, Bool.and_self]; exact rfl))) | ((with_reducible apply w_augI); exact rfl) | ((with_reducible apply w_augL); exact rfl) | ((with_reducible apply br_t); (first | decide +kernel | exact rfl)) | ((with_reducible apply br_f); (first | decide +kernel | exact rfl)) | with_reducible refine br_n ?_ | with_reducible refine br_d (fun _ => ?_) (fun _ => ?_) | with_reducible refine br_e (fun _ => ?_) (fun _ => ?_) | with_reducible refine br_s (fun _ => ?_) (fun _ => ?_) | with_reducible refine br_2 (fun _ => ?_) (fun _ => ?_)))
    exact q ts hS
abbrev lv : Nat := 120
theorem mes_ok (t : Tr) {n : Nat} (hn : 50 ≤ n) (ht : hgt t ≤ 30) (ok : okT t) (hk : (keysT t).length ≤ 63) {Q : D → Prop} (q : Q (.lst (((keysT t).map encK).mergeSort (leD true)))) : Wp (fnL 1 (Phi n j_measure) [encT t]) Q :=
  measure_ok t (by omega) ok (by omega) hn (row_encK _ (by omega)) q
def heldT (t : Tr) : D := .tup [.lst (((keysT t).map encK).mergeSort (leD true)), .lst ((keysT t).map encK)]
theorem keys_le {t : Tr} : ∀ {ts : List Tr}, t ∈ ts → (keysT t).length ≤ (keysTs ts).length
  | u :: ts, h => by
    show _ ≤ (keysT u ++ keysTs ts).length
    rw [List.length_append]
    rcases List.mem_cons.mp h with rfl | h
    · omega
    · have := keys_le h
      omega
theorem law_true (ns : List Int) (hl : ns.length ≤ 63) : Phi (lv + 1) 13 [.scr ns] = some (.bl true) := by
  have key : Wp (fnL 1 (Phi (lv + 1) 13) [.scr ns]) fun d => d = .bl true := by
    apply R_law
    unfold B_law
    have gr := fun (x : Str) {Q : D → Prop} (q : ∀ ts : List Tr, Std ts 0 → Q (.lst (ts.map rowT))) => show Wp (fnL 2 (Phi lv 10) [.scr ns, .lst [.str x, .str "n0"]]) Q from grown_ok (by decide) ns hl [x, "n0"] rfl q
    (repeat' (first | with_reducible refine cell_ok (by decide) ns _ (by decide) (by decide) (fun c => ?_) | with_reducible refine name_ok (by decide) _ (fun x hx1 hx2 => ?_) | with_reducible refine gr _ (fun ts hS => ?_) | with_reducible refine w_seq ?_ | with_reducible refine w_sIf ?_ | with_reducible refine w_nil ?_ | with_reducible refine w_ret ?_ | with_reducible refine w_sG ?_ | with_reducible refine w_xP ?_ | with_reducible refine w_gN ?_ | with_reducible refine w_gsN ?_ | with_reducible refine w_gsC ?_ | with_reducible refine w_gT2 ?_ | with_reducible refine w_gT3 ?_ | with_reducible refine w_gT (by rfl) ?_ | with_reducible refine w_c ?_ | ((with_reducible apply w_v); exact rfl) | ((with_reducible apply w_vo); exact rfl) | with_reducible refine w_e1 ?_ | with_reducible refine w_e2 ?_ | with_reducible refine w_esN ?_ | with_reducible refine w_esC ?_ | with_reducible refine w_eA ?_ | with_reducible refine w_nL ?_ | with_reducible refine w_eL ?_ | with_reducible refine w_lsG ?_ | with_reducible refine w_tup0 ?_ | with_reducible refine w_tup1 ?_ | with_reducible refine w_tup2 ?_ | with_reducible refine w_tup3 ?_ | with_reducible refine w_tup4 ?_ | with_reducible refine w_tup5 ?_ | with_reducible refine w_tup6 ?_ | with_reducible refine w_tup (by decide) ?_ | with_reducible refine w_tE ?_ | with_reducible refine w_dB ?_ | with_reducible refine w_tNo ?_ | with_reducible refine w_tAn ?_ | with_reducible refine w_tOr ?_ | with_reducible refine w_tY ?_ | with_reducible refine w_eAn ?_ | with_reducible refine w_eOr ?_ | with_reducible refine w_eIf ?_ | with_reducible refine w_addI ?_ | with_reducible refine w_sub ?_ | with_reducible refine w_neg ?_ | with_reducible refine w_not ?_ | with_reducible refine w_cmp ?_ | with_reducible refine w_ltI ?_ | with_reducible refine w_nSl ?_ | with_reducible refine w_cutL ?_ | with_reducible refine w_slL ?_ | with_reducible refine w_slR ?_ | with_reducible refine w_gL2 ?_ | with_reducible refine w_gL3 ?_ | with_reducible refine w_gL5 ?_ | with_reducible refine w_eqI ?_ | with_reducible refine w_eqS ?_ | with_reducible refine w_eqB ?_ | with_reducible refine w_neE ?_ | with_reducible refine w_eqE ?_ | with_reducible refine w_neI ?_ | with_reducible refine w_neS ?_ | with_reducible refine w_lenL ?_ | with_reducible refine w_lenT ?_ | with_reducible refine w_lenR ?_ | with_reducible refine w_intI ?_ | ((with_reducible apply w_intBt); (first | decide +kernel | exact rfl)) | ((with_reducible apply w_intBf); (first | decide +kernel | exact rfl)) | with_reducible refine w_intB ?_ | with_reducible refine w_tupleL ?_ | with_reducible refine w_tupleT ?_ | with_reducible refine w_listL ?_ | with_reducible refine w_listT ?_ | with_reducible refine w_max2P (fun r _ _ _ => ?_) | with_reducible refine w_min2P (fun r _ _ _ => ?_) | ((with_reducible apply w_isi); exact rfl) | with_reducible refine w_oN ?_ | with_reducible refine w_oS ?_ | with_reducible refine w_eSl ?_ | with_reducible refine w_sl1 ?_ | with_reducible refine w_sl2 ?_ | with_reducible refine w_sl3 ?_ | ((with_reducible apply w_ixT); exact rfl) | with_reducible refine w_mod (by decide) ?_ | with_reducible refine w_div (by decide) ?_ | with_reducible refine w_pow (by decide) ?_ | with_reducible refine w_own ?_ | with_reducible refine w_xsN ?_ | with_reducible refine w_xsC ?_ | with_reducible refine w_xA ?_ | with_reducible refine w_app ?_ | ((with_reducible refine sq_nx ?_); try simp only [esc_nil, esc_int, esc_str, esc_bl, esc_non, List.set_cons_zero, List.set_cons_succ, unown_nil, unown_noO, esc_noO, noO_nil, noO_cons, isOwn_val, isOwn_no, isOwn_own, isOwn_succ, Bool.not_false, Bool.and_self]) | with_reducible refine sq_ret ?_ | with_reducible refine rq_ret ?_ | with_reducible refine lq_ret ?_ | ((with_reducible refine lq_nx ?_); try simp only [esc_nil, esc_int, esc_str, esc_bl, esc_non, List.set_cons_zero, List.set_cons_succ, unown_nil, unown_noO, esc_noO, noO_nil, noO_cons, isOwn_val, isOwn_no, isOwn_own, isOwn_succ, Bool.not_false, Bool.and_self]) | ((with_reducible refine w_sFor ?_); try simp only [esc_nil, esc_int, esc_str, esc_bl, esc_non, List.set_cons_zero, List.set_cons_succ, unown_nil, unown_noO, esc_noO, noO_nil, noO_cons, isOwn_val, isOwn_no, isOwn_own, isOwn_succ, Bool.not_false, Bool.and_self]) | with_reducible refine w_iV ?_ | with_reducible refine w_iE ?_ | with_reducible refine w_itL ?_ | with_reducible refine w_itT ?_ | with_reducible refine w_itS ?_ | with_reducible refine w_lcG ?_ | with_reducible refine w_while0 ?_ | with_reducible refine w_mulI (mulOk_r (by decide)) ?_ | with_reducible refine w_mulI (mulOk_l (by decide)) ?_ | with_reducible refine ex_int ?_ | with_reducible refine ex_bl ?_ | with_reducible refine ex_lst ?_ | with_reducible refine an_int ?_ | with_reducible refine an_big0 ?_ | with_reducible refine an_bigl0 ?_ | with_reducible refine an_big1 ?_ | with_reducible refine an_bigl1 ?_ | with_reducible refine an_big2 ?_ | with_reducible refine an_bigl2 ?_ | with_reducible refine an_big3 ?_ | with_reducible refine an_bigl3 ?_ | with_reducible refine an_big4 ?_ | with_reducible refine an_bigl4 ?_ | with_reducible refine an_big5 ?_ | with_reducible refine an_bigl5 ?_ | with_reducible refine an_big6 ?_ | with_reducible refine an_bigl6 ?_ | with_reducible refine an_big7 ?_ | with_reducible refine an_bigl7 ?_ | with_reducible refine an_big8 ?_ | with_reducible refine an_bigl8 ?_ | with_reducible refine an_big (by decide) ?_ | with_reducible refine an_bigl (by decide) ?_ | with_reducible refine w_compN ?_ | with_reducible refine w_compC ?_ | with_reducible refine w_addT1 (by simp) ?_ | ((with_reducible apply an_own); exact rfl) | ((with_reducible apply ex_app); (first | exact rfl | (simp only [esc_nil, esc_int, esc_str, esc_bl, esc_non, List.set_cons_zero, List.set_cons_succ, unown_nil, unown_noO, esc_noO, noO_nil, noO_cons, isOwn_val, isOwn_no, isOwn_own, isOwn_succ, Bool.not_false, Bool.and_self]; exact rfl))) | ((with_reducible apply w_augI); exact rfl) | ((with_reducible apply w_augL); exact rfl) | ((with_reducible apply br_t); (first | decide +kernel | exact rfl)) | ((with_reducible apply br_f); (first | decide +kernel | exact rfl)) | with_reducible refine br_n ?_ | with_reducible refine br_d (fun _ => ?_) (fun _ => ?_) | with_reducible refine br_e (fun _ => ?_) (fun _ => ?_) | with_reducible refine br_s (fun _ => ?_) (fun _ => ?_) | with_reducible refine br_2 (fun _ => ?_) (fun _ => ?_)))
    have e0 : ts.map rowT ++ [.lst [.tup [.str "close"], .int 1, .lst []]] = (ts ++ [Tr.close]).map rowT := by
      rw [List.map_append]
      rfl
    have hm := hS.many
    refine w_addL (by rw [List.length_map]; show _ + 1 ≤ _; omega) ?_
    rw [e0]
    have all : ∀ t ∈ ts ++ [Tr.close], hgt t ≤ 30 ∧ okT t ∧ (keysT t).length ≤ 63 := fun t ht => by
      rcases List.mem_append.mp ht with z | z
      · have h1 := hgts_le z
        have h2 := hS.high
        have h3 := keys_le z
        have h4 := hS.keys
        exact ⟨by omega, okTs_mem hS.ok z, by omega⟩
      · rw [List.mem_singleton.mp z]
        exact ⟨by decide, trivial, Nat.zero_le _⟩
    have hlen : (ts ++ [Tr.close]).length ≤ 64 := by rw [List.length_append]; show _ + 1 ≤ 64; omega
    generalize ts ++ [Tr.close] = us at all hlen
    (repeat' (first | with_reducible refine w_seq ?_ | with_reducible refine w_sIf ?_ | with_reducible refine w_nil ?_ | with_reducible refine w_ret ?_ | with_reducible refine w_sG ?_ | with_reducible refine w_xP ?_ | with_reducible refine w_gN ?_ | with_reducible refine w_gsN ?_ | with_reducible refine w_gsC ?_ | with_reducible refine w_gT2 ?_ | with_reducible refine w_gT3 ?_ | with_reducible refine w_gT (by rfl) ?_ | with_reducible refine w_c ?_ | ((with_reducible apply w_v); exact rfl) | ((with_reducible apply w_vo); exact rfl) | with_reducible refine w_e1 ?_ | with_reducible refine w_e2 ?_ | with_reducible refine w_esN ?_ | with_reducible refine w_esC ?_ | with_reducible refine w_eA ?_ | with_reducible refine w_nL ?_ | with_reducible refine w_eL ?_ | with_reducible refine w_lsG ?_ | with_reducible refine w_tup0 ?_ | with_reducible refine w_tup1 ?_ | with_reducible refine w_tup2 ?_ | with_reducible refine w_tup3 ?_ | with_reducible refine w_tup4 ?_ | with_reducible refine w_tup5 ?_ | with_reducible refine w_tup6 ?_ | with_reducible refine w_tup (by decide) ?_ | with_reducible refine w_tE ?_ | with_reducible refine w_dB ?_ | with_reducible refine w_tNo ?_ | with_reducible refine w_tAn ?_ | with_reducible refine w_tOr ?_ | with_reducible refine w_tY ?_ | with_reducible refine w_eAn ?_ | with_reducible refine w_eOr ?_ | with_reducible refine w_eIf ?_ | with_reducible refine w_addI ?_ | with_reducible refine w_sub ?_ | with_reducible refine w_neg ?_ | with_reducible refine w_not ?_ | with_reducible refine w_cmp ?_ | with_reducible refine w_ltI ?_ | with_reducible refine w_nSl ?_ | with_reducible refine w_cutL ?_ | with_reducible refine w_slL ?_ | with_reducible refine w_slR ?_ | with_reducible refine w_gL2 ?_ | with_reducible refine w_gL3 ?_ | with_reducible refine w_gL5 ?_ | with_reducible refine w_eqI ?_ | with_reducible refine w_eqS ?_ | with_reducible refine w_eqB ?_ | with_reducible refine w_neE ?_ | with_reducible refine w_eqE ?_ | with_reducible refine w_neI ?_ | with_reducible refine w_neS ?_ | with_reducible refine w_lenL ?_ | with_reducible refine w_lenT ?_ | with_reducible refine w_lenR ?_ | with_reducible refine w_intI ?_ | ((with_reducible apply w_intBt); (first | decide +kernel | exact rfl)) | ((with_reducible apply w_intBf); (first | decide +kernel | exact rfl)) | with_reducible refine w_intB ?_ | with_reducible refine w_tupleL ?_ | with_reducible refine w_tupleT ?_ | with_reducible refine w_listL ?_ | with_reducible refine w_listT ?_ | with_reducible refine w_max2P (fun r _ _ _ => ?_) | with_reducible refine w_min2P (fun r _ _ _ => ?_) | ((with_reducible apply w_isi); exact rfl) | with_reducible refine w_oN ?_ | with_reducible refine w_oS ?_ | with_reducible refine w_eSl ?_ | with_reducible refine w_sl1 ?_ | with_reducible refine w_sl2 ?_ | with_reducible refine w_sl3 ?_ | ((with_reducible apply w_ixT); exact rfl) | with_reducible refine w_mod (by decide) ?_ | with_reducible refine w_div (by decide) ?_ | with_reducible refine w_pow (by decide) ?_ | with_reducible refine w_own ?_ | with_reducible refine w_xsN ?_ | with_reducible refine w_xsC ?_ | with_reducible refine w_xA ?_ | with_reducible refine w_app ?_ | ((with_reducible refine sq_nx ?_); try simp only [esc_nil, esc_int, esc_str, esc_bl, esc_non, List.set_cons_zero, List.set_cons_succ, unown_nil, unown_noO, esc_noO, noO_nil, noO_cons, isOwn_val, isOwn_no, isOwn_own, isOwn_succ, Bool.not_false, Bool.and_self]) | with_reducible refine sq_ret ?_ | with_reducible refine rq_ret ?_ | with_reducible refine lq_ret ?_ | ((with_reducible refine lq_nx ?_); try simp only [esc_nil, esc_int, esc_str, esc_bl, esc_non, List.set_cons_zero, List.set_cons_succ, unown_nil, unown_noO, esc_noO, noO_nil, noO_cons, isOwn_val, isOwn_no, isOwn_own, isOwn_succ, Bool.not_false, Bool.and_self]) | ((with_reducible refine w_sFor ?_); try simp only [esc_nil, esc_int, esc_str, esc_bl, esc_non, List.set_cons_zero, List.set_cons_succ, unown_nil, unown_noO, esc_noO, noO_nil, noO_cons, isOwn_val, isOwn_no, isOwn_own, isOwn_succ, Bool.not_false, Bool.and_self]) | with_reducible refine w_iV ?_ | with_reducible refine w_iE ?_ | with_reducible refine w_itL ?_ | with_reducible refine w_itT ?_ | with_reducible refine w_itS ?_ | with_reducible refine w_lcG ?_ | with_reducible refine w_while0 ?_ | with_reducible refine w_mulI (mulOk_r (by decide)) ?_ | with_reducible refine w_mulI (mulOk_l (by decide)) ?_ | with_reducible refine ex_int ?_ | with_reducible refine ex_bl ?_ | with_reducible refine ex_lst ?_ | with_reducible refine an_int ?_ | with_reducible refine an_big0 ?_ | with_reducible refine an_bigl0 ?_ | with_reducible refine an_big1 ?_ | with_reducible refine an_bigl1 ?_ | with_reducible refine an_big2 ?_ | with_reducible refine an_bigl2 ?_ | with_reducible refine an_big3 ?_ | with_reducible refine an_bigl3 ?_ | with_reducible refine an_big4 ?_ | with_reducible refine an_bigl4 ?_ | with_reducible refine an_big5 ?_ | with_reducible refine an_bigl5 ?_ | with_reducible refine an_big6 ?_ | with_reducible refine an_bigl6 ?_ | with_reducible refine an_big7 ?_ | with_reducible refine an_bigl7 ?_ | with_reducible refine an_big8 ?_ | with_reducible refine an_bigl8 ?_ | with_reducible refine an_big (by decide) ?_ | with_reducible refine an_bigl (by decide) ?_ | with_reducible refine w_compN ?_ | with_reducible refine w_compC ?_ | with_reducible refine w_addT1 (by simp) ?_ | ((with_reducible apply an_own); exact rfl) | ((with_reducible apply ex_app); (first | exact rfl | (simp only [esc_nil, esc_int, esc_str, esc_bl, esc_non, List.set_cons_zero, List.set_cons_succ, unown_nil, unown_noO, esc_noO, noO_nil, noO_cons, isOwn_val, isOwn_no, isOwn_own, isOwn_succ, Bool.not_false, Bool.and_self]; exact rfl))) | ((with_reducible apply w_augI); exact rfl) | ((with_reducible apply w_augL); exact rfl) | ((with_reducible apply br_t); (first | decide +kernel | exact rfl)) | ((with_reducible apply br_f); (first | decide +kernel | exact rfl)) | with_reducible refine br_n ?_ | with_reducible refine br_d (fun _ => ?_) (fun _ => ?_) | with_reducible refine br_e (fun _ => ?_) (fun _ => ?_) | with_reducible refine br_s (fun _ => ?_) (fun _ => ?_) | with_reducible refine br_2 (fun _ => ?_) (fun _ => ?_)))
    refine w_forA (I := fun ds ρ => ∃ (x y : List Tr) (s3 s4 s5 s6 : Sl), us = x ++ y ∧ ds = y.map rowT ∧ ρ = [Sl.val (.scr ns), Sl.val (.lst (ts.map rowT)), Sl.own (x.map heldT), s3, s4, s5, s6]) _ ⟨[], us, _, _, _, _, rfl, rfl, rfl⟩ (fun d ds ρ hI => ?_) (fun ρ hI => ?_)
    · obtain ⟨x, y, s3, s4, s5, s6, f1, f2, rfl⟩ := hI
      obtain ⟨v, y, rfl⟩ : ∃ v r, y = v :: r := by
        cases y with
        | nil => cases f2
        | cons v r => exact ⟨v, r, rfl⟩
      obtain ⟨rfl, rfl⟩ := List.cons.inj f2
      obtain ⟨g1, g2, g3⟩ := all v (by rw [f1]; simp)
      have hxl : (x.map heldT).length < 16777216 := by
        have := congrArg List.length f1
        simp only [List.length_append, List.length_cons] at this
        rw [List.length_map]
        omega
      unfold rowT
      (repeat' (first | with_reducible refine mes_ok v (by decide) g1 g2 g3 ?_ | with_reducible refine w_seq ?_ | with_reducible refine w_sIf ?_ | with_reducible refine w_nil ?_ | with_reducible refine w_ret ?_ | with_reducible refine w_sG ?_ | with_reducible refine w_xP ?_ | with_reducible refine w_gN ?_ | with_reducible refine w_gsN ?_ | with_reducible refine w_gsC ?_ | with_reducible refine w_gT2 ?_ | with_reducible refine w_gT3 ?_ | with_reducible refine w_gT (by rfl) ?_ | with_reducible refine w_c ?_ | ((with_reducible apply w_v); exact rfl) | ((with_reducible apply w_vo); exact rfl) | with_reducible refine w_e1 ?_ | with_reducible refine w_e2 ?_ | with_reducible refine w_esN ?_ | with_reducible refine w_esC ?_ | with_reducible refine w_eA ?_ | with_reducible refine w_nL ?_ | with_reducible refine w_eL ?_ | with_reducible refine w_lsG ?_ | with_reducible refine w_tup0 ?_ | with_reducible refine w_tup1 ?_ | with_reducible refine w_tup2 ?_ | with_reducible refine w_tup3 ?_ | with_reducible refine w_tup4 ?_ | with_reducible refine w_tup5 ?_ | with_reducible refine w_tup6 ?_ | with_reducible refine w_tup (by decide) ?_ | with_reducible refine w_tE ?_ | with_reducible refine w_dB ?_ | with_reducible refine w_tNo ?_ | with_reducible refine w_tAn ?_ | with_reducible refine w_tOr ?_ | with_reducible refine w_tY ?_ | with_reducible refine w_eAn ?_ | with_reducible refine w_eOr ?_ | with_reducible refine w_eIf ?_ | with_reducible refine w_addI ?_ | with_reducible refine w_sub ?_ | with_reducible refine w_neg ?_ | with_reducible refine w_not ?_ | with_reducible refine w_cmp ?_ | with_reducible refine w_ltI ?_ | with_reducible refine w_nSl ?_ | with_reducible refine w_cutL ?_ | with_reducible refine w_slL ?_ | with_reducible refine w_slR ?_ | with_reducible refine w_gL2 ?_ | with_reducible refine w_gL3 ?_ | with_reducible refine w_gL5 ?_ | with_reducible refine w_eqI ?_ | with_reducible refine w_eqS ?_ | with_reducible refine w_eqB ?_ | with_reducible refine w_neE ?_ | with_reducible refine w_eqE ?_ | with_reducible refine w_neI ?_ | with_reducible refine w_neS ?_ | with_reducible refine w_lenL ?_ | with_reducible refine w_lenT ?_ | with_reducible refine w_lenR ?_ | with_reducible refine w_intI ?_ | ((with_reducible apply w_intBt); (first | decide +kernel | exact rfl)) | ((with_reducible apply w_intBf); (first | decide +kernel | exact rfl)) | with_reducible refine w_intB ?_ | with_reducible refine w_tupleL ?_ | with_reducible refine w_tupleT ?_ | with_reducible refine w_listL ?_ | with_reducible refine w_listT ?_ | with_reducible refine w_max2P (fun r _ _ _ => ?_) | with_reducible refine w_min2P (fun r _ _ _ => ?_) | ((with_reducible apply w_isi); exact rfl) | with_reducible refine w_oN ?_ | with_reducible refine w_oS ?_ | with_reducible refine w_eSl ?_ | with_reducible refine w_sl1 ?_ | with_reducible refine w_sl2 ?_ | with_reducible refine w_sl3 ?_ | ((with_reducible apply w_ixT); exact rfl) | with_reducible refine w_mod (by decide) ?_ | with_reducible refine w_div (by decide) ?_ | with_reducible refine w_pow (by decide) ?_ | with_reducible refine w_own ?_ | with_reducible refine w_xsN ?_ | with_reducible refine w_xsC ?_ | with_reducible refine w_xA ?_ | with_reducible refine w_app ?_ | ((with_reducible refine sq_nx ?_); try simp only [esc_nil, esc_int, esc_str, esc_bl, esc_non, List.set_cons_zero, List.set_cons_succ, unown_nil, unown_noO, esc_noO, noO_nil, noO_cons, isOwn_val, isOwn_no, isOwn_own, isOwn_succ, Bool.not_false, Bool.and_self]) | with_reducible refine sq_ret ?_ | with_reducible refine rq_ret ?_ | with_reducible refine lq_ret ?_ | ((with_reducible refine lq_nx ?_); try simp only [esc_nil, esc_int, esc_str, esc_bl, esc_non, List.set_cons_zero, List.set_cons_succ, unown_nil, unown_noO, esc_noO, noO_nil, noO_cons, isOwn_val, isOwn_no, isOwn_own, isOwn_succ, Bool.not_false, Bool.and_self]) | ((with_reducible refine w_sFor ?_); try simp only [esc_nil, esc_int, esc_str, esc_bl, esc_non, List.set_cons_zero, List.set_cons_succ, unown_nil, unown_noO, esc_noO, noO_nil, noO_cons, isOwn_val, isOwn_no, isOwn_own, isOwn_succ, Bool.not_false, Bool.and_self]) | with_reducible refine w_iV ?_ | with_reducible refine w_iE ?_ | with_reducible refine w_itL ?_ | with_reducible refine w_itT ?_ | with_reducible refine w_itS ?_ | with_reducible refine w_lcG ?_ | with_reducible refine w_while0 ?_ | with_reducible refine w_mulI (mulOk_r (by decide)) ?_ | with_reducible refine w_mulI (mulOk_l (by decide)) ?_ | with_reducible refine ex_int ?_ | with_reducible refine ex_bl ?_ | with_reducible refine ex_lst ?_ | with_reducible refine an_int ?_ | with_reducible refine an_big0 ?_ | with_reducible refine an_bigl0 ?_ | with_reducible refine an_big1 ?_ | with_reducible refine an_bigl1 ?_ | with_reducible refine an_big2 ?_ | with_reducible refine an_bigl2 ?_ | with_reducible refine an_big3 ?_ | with_reducible refine an_bigl3 ?_ | with_reducible refine an_big4 ?_ | with_reducible refine an_bigl4 ?_ | with_reducible refine an_big5 ?_ | with_reducible refine an_bigl5 ?_ | with_reducible refine an_big6 ?_ | with_reducible refine an_bigl6 ?_ | with_reducible refine an_big7 ?_ | with_reducible refine an_bigl7 ?_ | with_reducible refine an_big8 ?_ | with_reducible refine an_bigl8 ?_ | with_reducible refine an_big (by decide) ?_ | with_reducible refine an_bigl (by decide) ?_ | with_reducible refine w_compN ?_ | with_reducible refine w_compC ?_ | with_reducible refine w_addT1 (by simp) ?_ | ((with_reducible apply an_own); exact rfl) | ((with_reducible apply ex_app); (first | exact rfl | (simp only [esc_nil, esc_int, esc_str, esc_bl, esc_non, List.set_cons_zero, List.set_cons_succ, unown_nil, unown_noO, esc_noO, noO_nil, noO_cons, isOwn_val, isOwn_no, isOwn_own, isOwn_succ, Bool.not_false, Bool.and_self]; exact rfl))) | ((with_reducible apply w_augI); exact rfl) | ((with_reducible apply w_augL); exact rfl) | ((with_reducible apply br_t); (first | decide +kernel | exact rfl)) | ((with_reducible apply br_f); (first | decide +kernel | exact rfl)) | with_reducible refine br_n ?_ | with_reducible refine br_d (fun _ => ?_) (fun _ => ?_) | with_reducible refine br_e (fun _ => ?_) (fun _ => ?_) | with_reducible refine br_s (fun _ => ?_) (fun _ => ?_) | with_reducible refine br_2 (fun _ => ?_) (fun _ => ?_)))
      · exact hxl
      · exact ⟨x ++ [v], y, _, _, _, _, by rw [f1]; simp, rfl, by rw [List.map_append]; rfl⟩
    · obtain ⟨x, y, s3, s4, s5, s6, f1, f2, rfl⟩ := hI
      have hy : y = [] := List.map_eq_nil_iff.mp f2.symm
      subst hy
      rw [List.append_nil] at f1
      subst f1
      (repeat' (first | with_reducible refine w_seq ?_ | with_reducible refine w_sIf ?_ | with_reducible refine w_nil ?_ | with_reducible refine w_ret ?_ | with_reducible refine w_sG ?_ | with_reducible refine w_xP ?_ | with_reducible refine w_gN ?_ | with_reducible refine w_gsN ?_ | with_reducible refine w_gsC ?_ | with_reducible refine w_gT2 ?_ | with_reducible refine w_gT3 ?_ | with_reducible refine w_gT (by rfl) ?_ | with_reducible refine w_c ?_ | ((with_reducible apply w_v); exact rfl) | ((with_reducible apply w_vo); exact rfl) | with_reducible refine w_e1 ?_ | with_reducible refine w_e2 ?_ | with_reducible refine w_esN ?_ | with_reducible refine w_esC ?_ | with_reducible refine w_eA ?_ | with_reducible refine w_nL ?_ | with_reducible refine w_eL ?_ | with_reducible refine w_lsG ?_ | with_reducible refine w_tup0 ?_ | with_reducible refine w_tup1 ?_ | with_reducible refine w_tup2 ?_ | with_reducible refine w_tup3 ?_ | with_reducible refine w_tup4 ?_ | with_reducible refine w_tup5 ?_ | with_reducible refine w_tup6 ?_ | with_reducible refine w_tup (by decide) ?_ | with_reducible refine w_tE ?_ | with_reducible refine w_dB ?_ | with_reducible refine w_tNo ?_ | with_reducible refine w_tAn ?_ | with_reducible refine w_tOr ?_ | with_reducible refine w_tY ?_ | with_reducible refine w_eAn ?_ | with_reducible refine w_eOr ?_ | with_reducible refine w_eIf ?_ | with_reducible refine w_addI ?_ | with_reducible refine w_sub ?_ | with_reducible refine w_neg ?_ | with_reducible refine w_not ?_ | with_reducible refine w_cmp ?_ | with_reducible refine w_ltI ?_ | with_reducible refine w_nSl ?_ | with_reducible refine w_cutL ?_ | with_reducible refine w_slL ?_ | with_reducible refine w_slR ?_ | with_reducible refine w_gL2 ?_ | with_reducible refine w_gL3 ?_ | with_reducible refine w_gL5 ?_ | with_reducible refine w_eqI ?_ | with_reducible refine w_eqS ?_ | with_reducible refine w_eqB ?_ | with_reducible refine w_neE ?_ | with_reducible refine w_eqE ?_ | with_reducible refine w_neI ?_ | with_reducible refine w_neS ?_ | with_reducible refine w_lenL ?_ | with_reducible refine w_lenT ?_ | with_reducible refine w_lenR ?_ | with_reducible refine w_intI ?_ | ((with_reducible apply w_intBt); (first | decide +kernel | exact rfl)) | ((with_reducible apply w_intBf); (first | decide +kernel | exact rfl)) | with_reducible refine w_intB ?_ | with_reducible refine w_tupleL ?_ | with_reducible refine w_tupleT ?_ | with_reducible refine w_listL ?_ | with_reducible refine w_listT ?_ | with_reducible refine w_max2P (fun r _ _ _ => ?_) | with_reducible refine w_min2P (fun r _ _ _ => ?_) | ((with_reducible apply w_isi); exact rfl) | with_reducible refine w_oN ?_ | with_reducible refine w_oS ?_ | with_reducible refine w_eSl ?_ | with_reducible refine w_sl1 ?_ | with_reducible refine w_sl2 ?_ | with_reducible refine w_sl3 ?_ | ((with_reducible apply w_ixT); exact rfl) | with_reducible refine w_mod (by decide) ?_ | with_reducible refine w_div (by decide) ?_ | with_reducible refine w_pow (by decide) ?_ | with_reducible refine w_own ?_ | with_reducible refine w_xsN ?_ | with_reducible refine w_xsC ?_ | with_reducible refine w_xA ?_ | with_reducible refine w_app ?_ | ((with_reducible refine sq_nx ?_); try simp only [esc_nil, esc_int, esc_str, esc_bl, esc_non, List.set_cons_zero, List.set_cons_succ, unown_nil, unown_noO, esc_noO, noO_nil, noO_cons, isOwn_val, isOwn_no, isOwn_own, isOwn_succ, Bool.not_false, Bool.and_self]) | with_reducible refine sq_ret ?_ | with_reducible refine rq_ret ?_ | with_reducible refine lq_ret ?_ | ((with_reducible refine lq_nx ?_); try simp only [esc_nil, esc_int, esc_str, esc_bl, esc_non, List.set_cons_zero, List.set_cons_succ, unown_nil, unown_noO, esc_noO, noO_nil, noO_cons, isOwn_val, isOwn_no, isOwn_own, isOwn_succ, Bool.not_false, Bool.and_self]) | ((with_reducible refine w_sFor ?_); try simp only [esc_nil, esc_int, esc_str, esc_bl, esc_non, List.set_cons_zero, List.set_cons_succ, unown_nil, unown_noO, esc_noO, noO_nil, noO_cons, isOwn_val, isOwn_no, isOwn_own, isOwn_succ, Bool.not_false, Bool.and_self]) | with_reducible refine w_iV ?_ | with_reducible refine w_iE ?_ | with_reducible refine w_itL ?_ | with_reducible refine w_itT ?_ | with_reducible refine w_itS ?_ | with_reducible refine w_lcG ?_ | with_reducible refine w_while0 ?_ | with_reducible refine w_mulI (mulOk_r (by decide)) ?_ | with_reducible refine w_mulI (mulOk_l (by decide)) ?_ | with_reducible refine ex_int ?_ | with_reducible refine ex_bl ?_ | with_reducible refine ex_lst ?_ | with_reducible refine an_int ?_ | with_reducible refine an_big0 ?_ | with_reducible refine an_bigl0 ?_ | with_reducible refine an_big1 ?_ | with_reducible refine an_bigl1 ?_ | with_reducible refine an_big2 ?_ | with_reducible refine an_bigl2 ?_ | with_reducible refine an_big3 ?_ | with_reducible refine an_bigl3 ?_ | with_reducible refine an_big4 ?_ | with_reducible refine an_bigl4 ?_ | with_reducible refine an_big5 ?_ | with_reducible refine an_bigl5 ?_ | with_reducible refine an_big6 ?_ | with_reducible refine an_bigl6 ?_ | with_reducible refine an_big7 ?_ | with_reducible refine an_bigl7 ?_ | with_reducible refine an_big8 ?_ | with_reducible refine an_bigl8 ?_ | with_reducible refine an_big (by decide) ?_ | with_reducible refine an_bigl (by decide) ?_ | with_reducible refine w_compN ?_ | with_reducible refine w_compC ?_ | with_reducible refine w_addT1 (by simp) ?_ | ((with_reducible apply an_own); exact rfl) | ((with_reducible apply ex_app); (first | exact rfl | (simp only [esc_nil, esc_int, esc_str, esc_bl, esc_non, List.set_cons_zero, List.set_cons_succ, unown_nil, unown_noO, esc_noO, noO_nil, noO_cons, isOwn_val, isOwn_no, isOwn_own, isOwn_succ, Bool.not_false, Bool.and_self]; exact rfl))) | ((with_reducible apply w_augI); exact rfl) | ((with_reducible apply w_augL); exact rfl) | ((with_reducible apply br_t); (first | decide +kernel | exact rfl)) | ((with_reducible apply br_f); (first | decide +kernel | exact rfl)) | with_reducible refine br_n ?_ | with_reducible refine br_d (fun _ => ?_) (fun _ => ?_) | with_reducible refine br_e (fun _ => ?_) (fun _ => ?_) | with_reducible refine br_s (fun _ => ?_) (fun _ => ?_) | with_reducible refine br_2 (fun _ => ?_) (fun _ => ?_)))
      obtain ⟨a0, a1, a2, a3, a4, a5, a6, e7⟩ : ∃ a0 a1 a2 a3 a4 a5 a6 : Sl, unown [2] [Sl.val (.scr ns), Sl.val (.lst (ts.map rowT)), Sl.own (us.map heldT), s3, s4, s5, s6] = [a0, a1, a2, a3, a4, a5, a6] := by
        have hl7 : (unown [2] [Sl.val (.scr ns), Sl.val (.lst (ts.map rowT)), Sl.own (us.map heldT), s3, s4, s5, s6]).length = 7 := by simp [unown]
        match unown [2] [Sl.val (.scr ns), Sl.val (.lst (ts.map rowT)), Sl.own (us.map heldT), s3, s4, s5, s6], hl7 with
        | [a0, a1, a2, a3, a4, a5, a6], _ => exact ⟨a0, a1, a2, a3, a4, a5, a6, rfl⟩
      rw [e7]
      refine w_forA (I := fun ds ρ => ∃ (y : List Tr) (a0 a1 a2 a3 a4 a5 a6 : Sl), (∀ t ∈ y, t ∈ us) ∧ ds = y.map heldT ∧ ρ = [a0, a1, a2, a3, a4, a5, a6]) _ ⟨us, _, _, _, _, _, _, _, fun _ h => h, rfl, rfl⟩ (fun d ds ρ hI => ?_) (fun ρ hI => ?_)
      · obtain ⟨y, a0, a1, a2, a3, a4, a5, a6, f1, f2, rfl⟩ := hI
        obtain ⟨v, y, rfl⟩ : ∃ v r, y = v :: r := by
          cases y with
          | nil => cases f2
          | cons v r => exact ⟨v, r, rfl⟩
        obtain ⟨rfl, rfl⟩ := List.cons.inj f2
        obtain ⟨g1, g2, g3⟩ := all v (f1 v List.mem_cons_self)
        unfold heldT
        (repeat' (first | with_reducible refine right_ok (by decide) (keysT v) (by omega) ?_ | with_reducible refine w_seq ?_ | with_reducible refine w_sIf ?_ | with_reducible refine w_nil ?_ | with_reducible refine w_ret ?_ | with_reducible refine w_sG ?_ | with_reducible refine w_xP ?_ | with_reducible refine w_gN ?_ | with_reducible refine w_gsN ?_ | with_reducible refine w_gsC ?_ | with_reducible refine w_gT2 ?_ | with_reducible refine w_gT3 ?_ | with_reducible refine w_gT (by rfl) ?_ | with_reducible refine w_c ?_ | ((with_reducible apply w_v); exact rfl) | ((with_reducible apply w_vo); exact rfl) | with_reducible refine w_e1 ?_ | with_reducible refine w_e2 ?_ | with_reducible refine w_esN ?_ | with_reducible refine w_esC ?_ | with_reducible refine w_eA ?_ | with_reducible refine w_nL ?_ | with_reducible refine w_eL ?_ | with_reducible refine w_lsG ?_ | with_reducible refine w_tup0 ?_ | with_reducible refine w_tup1 ?_ | with_reducible refine w_tup2 ?_ | with_reducible refine w_tup3 ?_ | with_reducible refine w_tup4 ?_ | with_reducible refine w_tup5 ?_ | with_reducible refine w_tup6 ?_ | with_reducible refine w_tup (by decide) ?_ | with_reducible refine w_tE ?_ | with_reducible refine w_dB ?_ | with_reducible refine w_tNo ?_ | with_reducible refine w_tAn ?_ | with_reducible refine w_tOr ?_ | with_reducible refine w_tY ?_ | with_reducible refine w_eAn ?_ | with_reducible refine w_eOr ?_ | with_reducible refine w_eIf ?_ | with_reducible refine w_addI ?_ | with_reducible refine w_sub ?_ | with_reducible refine w_neg ?_ | with_reducible refine w_not ?_ | with_reducible refine w_cmp ?_ | with_reducible refine w_ltI ?_ | with_reducible refine w_nSl ?_ | with_reducible refine w_cutL ?_ | with_reducible refine w_slL ?_ | with_reducible refine w_slR ?_ | with_reducible refine w_gL2 ?_ | with_reducible refine w_gL3 ?_ | with_reducible refine w_gL5 ?_ | with_reducible refine w_eqI ?_ | with_reducible refine w_eqS ?_ | with_reducible refine w_eqB ?_ | with_reducible refine w_neE ?_ | with_reducible refine w_eqE ?_ | with_reducible refine w_neI ?_ | with_reducible refine w_neS ?_ | with_reducible refine w_lenL ?_ | with_reducible refine w_lenT ?_ | with_reducible refine w_lenR ?_ | with_reducible refine w_intI ?_ | ((with_reducible apply w_intBt); (first | decide +kernel | exact rfl)) | ((with_reducible apply w_intBf); (first | decide +kernel | exact rfl)) | with_reducible refine w_intB ?_ | with_reducible refine w_tupleL ?_ | with_reducible refine w_tupleT ?_ | with_reducible refine w_listL ?_ | with_reducible refine w_listT ?_ | with_reducible refine w_max2P (fun r _ _ _ => ?_) | with_reducible refine w_min2P (fun r _ _ _ => ?_) | ((with_reducible apply w_isi); exact rfl) | with_reducible refine w_oN ?_ | with_reducible refine w_oS ?_ | with_reducible refine w_eSl ?_ | with_reducible refine w_sl1 ?_ | with_reducible refine w_sl2 ?_ | with_reducible refine w_sl3 ?_ | ((with_reducible apply w_ixT); exact rfl) | with_reducible refine w_mod (by decide) ?_ | with_reducible refine w_div (by decide) ?_ | with_reducible refine w_pow (by decide) ?_ | with_reducible refine w_own ?_ | with_reducible refine w_xsN ?_ | with_reducible refine w_xsC ?_ | with_reducible refine w_xA ?_ | with_reducible refine w_app ?_ | ((with_reducible refine sq_nx ?_); try simp only [esc_nil, esc_int, esc_str, esc_bl, esc_non, List.set_cons_zero, List.set_cons_succ, unown_nil, unown_noO, esc_noO, noO_nil, noO_cons, isOwn_val, isOwn_no, isOwn_own, isOwn_succ, Bool.not_false, Bool.and_self]) | with_reducible refine sq_ret ?_ | with_reducible refine rq_ret ?_ | with_reducible refine lq_ret ?_ | ((with_reducible refine lq_nx ?_); try simp only [esc_nil, esc_int, esc_str, esc_bl, esc_non, List.set_cons_zero, List.set_cons_succ, unown_nil, unown_noO, esc_noO, noO_nil, noO_cons, isOwn_val, isOwn_no, isOwn_own, isOwn_succ, Bool.not_false, Bool.and_self]) | ((with_reducible refine w_sFor ?_); try simp only [esc_nil, esc_int, esc_str, esc_bl, esc_non, List.set_cons_zero, List.set_cons_succ, unown_nil, unown_noO, esc_noO, noO_nil, noO_cons, isOwn_val, isOwn_no, isOwn_own, isOwn_succ, Bool.not_false, Bool.and_self]) | with_reducible refine w_iV ?_ | with_reducible refine w_iE ?_ | with_reducible refine w_itL ?_ | with_reducible refine w_itT ?_ | with_reducible refine w_itS ?_ | with_reducible refine w_lcG ?_ | with_reducible refine w_while0 ?_ | with_reducible refine w_mulI (mulOk_r (by decide)) ?_ | with_reducible refine w_mulI (mulOk_l (by decide)) ?_ | with_reducible refine ex_int ?_ | with_reducible refine ex_bl ?_ | with_reducible refine ex_lst ?_ | with_reducible refine an_int ?_ | with_reducible refine an_big0 ?_ | with_reducible refine an_bigl0 ?_ | with_reducible refine an_big1 ?_ | with_reducible refine an_bigl1 ?_ | with_reducible refine an_big2 ?_ | with_reducible refine an_bigl2 ?_ | with_reducible refine an_big3 ?_ | with_reducible refine an_bigl3 ?_ | with_reducible refine an_big4 ?_ | with_reducible refine an_bigl4 ?_ | with_reducible refine an_big5 ?_ | with_reducible refine an_bigl5 ?_ | with_reducible refine an_big6 ?_ | with_reducible refine an_bigl6 ?_ | with_reducible refine an_big7 ?_ | with_reducible refine an_bigl7 ?_ | with_reducible refine an_big8 ?_ | with_reducible refine an_bigl8 ?_ | with_reducible refine an_big (by decide) ?_ | with_reducible refine an_bigl (by decide) ?_ | with_reducible refine w_compN ?_ | with_reducible refine w_compC ?_ | with_reducible refine w_addT1 (by simp) ?_ | ((with_reducible apply an_own); exact rfl) | ((with_reducible apply ex_app); (first | exact rfl | (simp only [esc_nil, esc_int, esc_str, esc_bl, esc_non, List.set_cons_zero, List.set_cons_succ, unown_nil, unown_noO, esc_noO, noO_nil, noO_cons, isOwn_val, isOwn_no, isOwn_own, isOwn_succ, Bool.not_false, Bool.and_self]; exact rfl))) | ((with_reducible apply w_augI); exact rfl) | ((with_reducible apply w_augL); exact rfl) | ((with_reducible apply br_t); (first | decide +kernel | exact rfl)) | ((with_reducible apply br_f); (first | decide +kernel | exact rfl)) | with_reducible refine br_n ?_ | with_reducible refine br_d (fun _ => ?_) (fun _ => ?_) | with_reducible refine br_e (fun _ => ?_) (fun _ => ?_) | with_reducible refine br_s (fun _ => ?_) (fun _ => ?_) | with_reducible refine br_2 (fun _ => ?_) (fun _ => ?_)))
        exact ⟨y, _, _, _, _, _, _, _, fun t ht => f1 t (List.mem_cons_of_mem _ ht), rfl, rfl⟩
      · obtain ⟨y, a0, a1, a2, a3, a4, a5, a6, f1, f2, rfl⟩ := hI
        (repeat' (first | with_reducible refine w_seq ?_ | with_reducible refine w_sIf ?_ | with_reducible refine w_nil ?_ | with_reducible refine w_ret ?_ | with_reducible refine w_sG ?_ | with_reducible refine w_xP ?_ | with_reducible refine w_gN ?_ | with_reducible refine w_gsN ?_ | with_reducible refine w_gsC ?_ | with_reducible refine w_gT2 ?_ | with_reducible refine w_gT3 ?_ | with_reducible refine w_gT (by rfl) ?_ | with_reducible refine w_c ?_ | ((with_reducible apply w_v); exact rfl) | ((with_reducible apply w_vo); exact rfl) | with_reducible refine w_e1 ?_ | with_reducible refine w_e2 ?_ | with_reducible refine w_esN ?_ | with_reducible refine w_esC ?_ | with_reducible refine w_eA ?_ | with_reducible refine w_nL ?_ | with_reducible refine w_eL ?_ | with_reducible refine w_lsG ?_ | with_reducible refine w_tup0 ?_ | with_reducible refine w_tup1 ?_ | with_reducible refine w_tup2 ?_ | with_reducible refine w_tup3 ?_ | with_reducible refine w_tup4 ?_ | with_reducible refine w_tup5 ?_ | with_reducible refine w_tup6 ?_ | with_reducible refine w_tup (by decide) ?_ | with_reducible refine w_tE ?_ | with_reducible refine w_dB ?_ | with_reducible refine w_tNo ?_ | with_reducible refine w_tAn ?_ | with_reducible refine w_tOr ?_ | with_reducible refine w_tY ?_ | with_reducible refine w_eAn ?_ | with_reducible refine w_eOr ?_ | with_reducible refine w_eIf ?_ | with_reducible refine w_addI ?_ | with_reducible refine w_sub ?_ | with_reducible refine w_neg ?_ | with_reducible refine w_not ?_ | with_reducible refine w_cmp ?_ | with_reducible refine w_ltI ?_ | with_reducible refine w_nSl ?_ | with_reducible refine w_cutL ?_ | with_reducible refine w_slL ?_ | with_reducible refine w_slR ?_ | with_reducible refine w_gL2 ?_ | with_reducible refine w_gL3 ?_ | with_reducible refine w_gL5 ?_ | with_reducible refine w_eqI ?_ | with_reducible refine w_eqS ?_ | with_reducible refine w_eqB ?_ | with_reducible refine w_neE ?_ | with_reducible refine w_eqE ?_ | with_reducible refine w_neI ?_ | with_reducible refine w_neS ?_ | with_reducible refine w_lenL ?_ | with_reducible refine w_lenT ?_ | with_reducible refine w_lenR ?_ | with_reducible refine w_intI ?_ | ((with_reducible apply w_intBt); (first | decide +kernel | exact rfl)) | ((with_reducible apply w_intBf); (first | decide +kernel | exact rfl)) | with_reducible refine w_intB ?_ | with_reducible refine w_tupleL ?_ | with_reducible refine w_tupleT ?_ | with_reducible refine w_listL ?_ | with_reducible refine w_listT ?_ | with_reducible refine w_max2P (fun r _ _ _ => ?_) | with_reducible refine w_min2P (fun r _ _ _ => ?_) | ((with_reducible apply w_isi); exact rfl) | with_reducible refine w_oN ?_ | with_reducible refine w_oS ?_ | with_reducible refine w_eSl ?_ | with_reducible refine w_sl1 ?_ | with_reducible refine w_sl2 ?_ | with_reducible refine w_sl3 ?_ | ((with_reducible apply w_ixT); exact rfl) | with_reducible refine w_mod (by decide) ?_ | with_reducible refine w_div (by decide) ?_ | with_reducible refine w_pow (by decide) ?_ | with_reducible refine w_own ?_ | with_reducible refine w_xsN ?_ | with_reducible refine w_xsC ?_ | with_reducible refine w_xA ?_ | with_reducible refine w_app ?_ | ((with_reducible refine sq_nx ?_); try simp only [esc_nil, esc_int, esc_str, esc_bl, esc_non, List.set_cons_zero, List.set_cons_succ, unown_nil, unown_noO, esc_noO, noO_nil, noO_cons, isOwn_val, isOwn_no, isOwn_own, isOwn_succ, Bool.not_false, Bool.and_self]) | with_reducible refine sq_ret ?_ | with_reducible refine rq_ret ?_ | with_reducible refine lq_ret ?_ | ((with_reducible refine lq_nx ?_); try simp only [esc_nil, esc_int, esc_str, esc_bl, esc_non, List.set_cons_zero, List.set_cons_succ, unown_nil, unown_noO, esc_noO, noO_nil, noO_cons, isOwn_val, isOwn_no, isOwn_own, isOwn_succ, Bool.not_false, Bool.and_self]) | ((with_reducible refine w_sFor ?_); try simp only [esc_nil, esc_int, esc_str, esc_bl, esc_non, List.set_cons_zero, List.set_cons_succ, unown_nil, unown_noO, esc_noO, noO_nil, noO_cons, isOwn_val, isOwn_no, isOwn_own, isOwn_succ, Bool.not_false, Bool.and_self]) | with_reducible refine w_iV ?_ | with_reducible refine w_iE ?_ | with_reducible refine w_itL ?_ | with_reducible refine w_itT ?_ | with_reducible refine w_itS ?_ | with_reducible refine w_lcG ?_ | with_reducible refine w_while0 ?_ | with_reducible refine w_mulI (mulOk_r (by decide)) ?_ | with_reducible refine w_mulI (mulOk_l (by decide)) ?_ | with_reducible refine ex_int ?_ | with_reducible refine ex_bl ?_ | with_reducible refine ex_lst ?_ | with_reducible refine an_int ?_ | with_reducible refine an_big0 ?_ | with_reducible refine an_bigl0 ?_ | with_reducible refine an_big1 ?_ | with_reducible refine an_bigl1 ?_ | with_reducible refine an_big2 ?_ | with_reducible refine an_bigl2 ?_ | with_reducible refine an_big3 ?_ | with_reducible refine an_bigl3 ?_ | with_reducible refine an_big4 ?_ | with_reducible refine an_bigl4 ?_ | with_reducible refine an_big5 ?_ | with_reducible refine an_bigl5 ?_ | with_reducible refine an_big6 ?_ | with_reducible refine an_bigl6 ?_ | with_reducible refine an_big7 ?_ | with_reducible refine an_bigl7 ?_ | with_reducible refine an_big8 ?_ | with_reducible refine an_bigl8 ?_ | with_reducible refine an_big (by decide) ?_ | with_reducible refine an_bigl (by decide) ?_ | with_reducible refine w_compN ?_ | with_reducible refine w_compC ?_ | with_reducible refine w_addT1 (by simp) ?_ | ((with_reducible apply an_own); exact rfl) | ((with_reducible apply ex_app); (first | exact rfl | (simp only [esc_nil, esc_int, esc_str, esc_bl, esc_non, List.set_cons_zero, List.set_cons_succ, unown_nil, unown_noO, esc_noO, noO_nil, noO_cons, isOwn_val, isOwn_no, isOwn_own, isOwn_succ, Bool.not_false, Bool.and_self]; exact rfl))) | ((with_reducible apply w_augI); exact rfl) | ((with_reducible apply w_augL); exact rfl) | ((with_reducible apply br_t); (first | decide +kernel | exact rfl)) | ((with_reducible apply br_f); (first | decide +kernel | exact rfl)) | with_reducible refine br_n ?_ | with_reducible refine br_d (fun _ => ?_) (fun _ => ?_) | with_reducible refine br_e (fun _ => ?_) (fun _ => ?_) | with_reducible refine br_s (fun _ => ?_) (fun _ => ?_) | with_reducible refine br_2 (fun _ => ?_) (fun _ => ?_)))
        rfl
  obtain ⟨d, e, rfl⟩ := key
  exact e
end G

open PySem PySem.W PyProof.Rows
set_option maxHeartbeats 0 in
theorem PySem.Challenge.cw_cutless_k13_measure_holds : PySem.Challenge.rw_cutless_k13_measure.Holds := by
  w_on; o_law; k_head; (case hw => w_witness2)
  k_fill
  refine L2.walk_of (l := PySem.Challenge.rw_cutless_k13_measure) (n := 63) (k := G.lv + 1) (x := "_law_script") (CX := fun _ => L2.CX0) (sp := fun w => DL.spD _ (G.Phi (G.lv + 1) 13) 1) rfl (by decide) rfl ⟨rfl, by decide, by decide⟩ (fun w h Y => PySem.W.kIn_of Y) ?F (fun w H a ns hl ho hS => DL.law_end G.law_true H a ns hl ho hS) (fun _ _ _ _ _ h => h)
  case F =>
    intro w mg fa h KX hG hmg
    refine' G.fin G.lv KX hG hmg ?a0 ?l0 ?c0 ?k0 ?a1 ?l1 ?c1 ?k1 ?a2 ?l2 ?c2 ?k2 ?a3 ?l3 ?c3 ?k3 ?a4 ?l4 ?c4 ?k4 ?a5 ?l5 ?c5 ?k5 ?a6 ?l6 ?c6 ?k6 ?a7 ?l7 ?c7 ?k7 ?a8 ?l8 ?c8 ?k8 ?a9 ?l9 ?c9 ?k9 ?a10 ?l10 ?c10 ?k10 ?a11 ?l11 ?c11 ?k11 ?a12 ?l12 ?c12 ?k12 ?a13 ?l13 ?c13 ?k13 ?z_bool ?z_int ?z_isinstance ?z_len ?z_list ?z_max ?z_range ?z_sorted ?z_str ?z_sum ?z_tuple
    (case a0 => k_is)
    (case l0 => k_is)
    (case c0 => k_is)
    (case k0 => k_is)
    (case a1 => k_is)
    (case l1 => k_is)
    (case c1 => k_is)
    (case k1 => k_is)
    (case a2 => k_is)
    (case l2 => k_is)
    (case c2 => k_is)
    (case k2 => k_is)
    (case a3 => k_is)
    (case l3 => k_is)
    (case c3 => k_is)
    (case k3 => k_is)
    (case a4 => k_is)
    (case l4 => k_is)
    (case c4 => k_is)
    (case k4 => k_is)
    (case a5 => k_is)
    (case l5 => k_is)
    (case c5 => k_is)
    (case k5 => k_is)
    (case a6 => k_is)
    (case l6 => k_is)
    (case c6 => k_is)
    (case k6 => k_is)
    (case a7 => k_is)
    (case l7 => k_is)
    (case c7 => k_is)
    (case k7 => k_is)
    (case a8 => k_is)
    (case l8 => k_is)
    (case c8 => k_is)
    (case k8 => k_is)
    (case a9 => k_is)
    (case l9 => k_is)
    (case c9 => k_is)
    (case k9 => k_is)
    (case a10 => k_is)
    (case l10 => k_is)
    (case c10 => k_is)
    (case k10 => k_is)
    (case a11 => k_is)
    (case l11 => k_is)
    (case c11 => k_is)
    (case k11 => k_is)
    (case a12 => k_is)
    (case l12 => k_is)
    (case c12 => k_is)
    (case k12 => k_is)
    (case a13 => k_is)
    (case l13 => k_is)
    (case c13 => k_is)
    (case k13 => k_is)
    (case z_bool => k_is)
    (case z_int => k_is)
    (case z_isinstance => k_is)
    (case z_len => k_is)
    (case z_list => k_is)
    (case z_max => k_is)
    (case z_range => k_is)
    (case z_sorted => k_is)
    (case z_str => k_is)
    (case z_sum => k_is)
    (case z_tuple => k_is)

