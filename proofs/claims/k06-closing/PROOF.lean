import PyProof.Rows.All
import Wide.All
import OpenK.AllK
import Wide.FinOn
import HandS.Walk
import HandS.Deep
import HandS.IsInst
import HandS.Conv
import HandS.Comp
import HandS.Words
import HandS.WordsList
import HandS.Ends
import HandS.Nested
import KE.KeyNested
import HandS.Wide
import PyProof.StrBlock2
import KE.DataEq
import KE.DataFind
import HandS.TupAny
import HandS.Text
import HandS.NoneIn
import HandS.Style
import HandS.Iter
import KE.SortData
import HandS.SortKw
import KE.DataMinMax
import KE.DatumOrd
import HandS.EndTab
import KE.KNest
import HandS.WideBits
import HandS.Zip
import HandS.Dict
import KE.KDictKeyed
import KE.KDictDisplayH
import HandS.TupSets
import KE.GoesSet
import KE.KEqNest
import HandS.More
import HandS.ForMost
import PySem.Challenge.RW_cutless_k06_closing
set_option Elab.async false
set_option linter.all false
set_option maxRecDepth 100000
/-! The data layer: a Python program over plain data as Lean functions. -/
namespace DL
open PySem PySem.Spec L2

/-- a nested def's text, its captured names, its number -/
structure Fsh where
  k : Nat
  name : Str
  qual : Str
  params : Arguments
  body : List Stmt
  scope : Scope
  fr : List Str
abbrev Fsh.nf (S : Fsh) (cl : List (Str × Addr)) (c : Addr) : NdefX.NF := ⟨S.name, S.qual, S.params, S.body, S.scope, cl, c⟩
/-- data: plain values, tuples, lists, the law's own script, dicts by ints and texts -/
inductive D where
  | non
  | bl (b : Bool)
  | int (i : Int)
  | str (x : Str)
  | tup (xs : List D)
  | lst (xs : List D)
  | scr (ns : List Int)
  | dct (kvs : List (Key × D))
  | fn (S : Fsh) (caps : List Str)
/-- a slot: unassigned, plain data, or a list or dict that this frame alone holds -/
inductive Sl where
  | no
  | val (d : D)
  | ow (d : D)
  | ns (xss : List (List D))
  | kd (kvs : List (D × D))
abbrev Sl.own (xs : List D) : Sl := .ow (.lst xs)
abbrev Sl.dic (kvs : List (Key × D)) : Sl := .ow (.dct kvs)
abbrev Rho := List Sl
/-- slots of hidden objects -/
def Sl.hid : Sl → Bool
  | .ns _ => true
  | .kd _ => true
  | _ => false
mutual
/-- data as a key -/
def nk : D → NestedKey
  | .int i => .num i
  | .str x => .text x
  | .tup xs => .tup (nks xs)
  | _ => .none
def nks : List D → List NestedKey
  | [] => []
  | x :: xs => nk x :: nks xs
end
mutual
/-- ints, texts, tuples of these -/
def nkOk : D → Bool
  | .int _ => true
  | .str _ => true
  | .tup xs => nkOks xs
  | _ => false
def nkOks : List D → Bool
  | [] => true
  | x :: xs => nkOk x && nkOks xs
end
abbrev NE := NestedKey × Addr × V

/-! ### data without lists -/
mutual
def noL : D → Bool
  | .non => true
  | .bl _ => true
  | .int _ => true
  | .str _ => true
  | .tup xs => noLs xs
  | .lst _ => false
  | .scr _ => true
  | .dct _ => false
  | .fn _ _ => true
def noLs : List D → Bool
  | [] => true
  | x :: xs => noL x && noLs xs
end

/-! ### how data stand in a heap -/
/-- a list of ints that is read alone -/
def Scr (K : PySem.W.Frag) (H : Hp) (a : Addr) (ns : List Int) : Prop :=
  (∃ o, H a = some (.frz o (.lst (ns.map V.int)))) ∨
    ∃ (o : Obj) (its : Array Value) (n : Nat), K.lookup a = some o ∧ o.cls = .type "list" ∧ o.dict = none ∧ o.data = .seq its n ∧ its.size ≤ sizeLine ∧ Vals (ns.map V.int) its.toList
theorem Scr.sq {K : PySem.W.Frag} {H : Hp} {a : Addr} {ns : List Int} (h : Scr K H a ns) : SqL K H a (ns.map V.int) := h.elim (fun z => .inl (.inr z)) .inr
theorem Scr.of {K : PySem.W.Frag} {H : Hp} {a : Addr} {ns : List Int} (o : Only H) (h : SqL K H a (ns.map V.int)) : Scr K H a ns := by
  rcases h with (h | ⟨ob, h⟩) | h
  · rcases o a with z | ⟨_, _, z⟩ <;> (rw [h] at z; cases z)
  · exact .inl ⟨ob, h⟩
  · exact .inr h
/-- just this object -/
def ExO (c : Addr) (o : Obj) : HO := .ext fun h => h.get? c = some o
/-- the captured cells, each as it is -/
structure CapsAt (H : Hp) (cl : List (Str × Addr)) (fr caps : List Str) : Prop where
  len : caps.length = fr.length
  inj : ∀ x y c, cl.lookup x = some c → cl.lookup y = some c → x = y
  all : ∀ y c, cl.lookup y = some c → ∃ o v, H c = some (ExO c o) ∧ o.data = .cell v
  has : ∀ (i : Nat) (y x : Str), fr[i]? = some y → caps[i]? = some x → ∃ c o u, cl.lookup y = some c ∧ H c = some (ExO c o) ∧ o.data = .cell (some u) ∧ RelV (.str x) u
theorem CapsAt.mono {H H' : Hp} {cl : List (Str × Addr)} {fr caps : List Str} (h : CapsAt H cl fr caps) (s : ∀ b φ, H b = some (.ext φ) → H' b = some (.ext φ)) : CapsAt H' cl fr caps where
  len := h.len
  inj := h.inj
  all := fun y c e => by
    obtain ⟨o, v, h1, h2⟩ := h.all y c e
    exact ⟨o, v, s _ _ h1, h2⟩
  has := fun i y x e1 e2 => by
    obtain ⟨c, o, u, h1, h2, h3⟩ := h.has i y x e1 e2
    exact ⟨c, o, u, h1, s _ _ h2, h3⟩
mutual
inductive Rp (K : PySem.W.Frag) (H : Hp) : V → D → Prop
  | non : Rp K H .non .non
  | bl (b : Bool) : Rp K H (.bl b) (.bl b)
  | int (i : Int) : Rp K H (.int i) (.int i)
  | str (x : Str) : Rp K H (.str x) (.str x)
  | tup {a : Addr} {xs : List V} {ds : List D} : SqT K H a xs → RpAll K H xs ds → Rp K H (.ref a) (.tup ds)
  | lst {a : Addr} {xs : List V} {ds : List D} : H a = some (.lst xs) → RpAll K H xs ds → Rp K H (.ref a) (.lst ds)
  | scr {a : Addr} {ns : List Int} : Scr K H a ns → Rp K H (.ref a) (.scr ns)
  | dct {a : Addr} {xs : List (Key × V)} {ds : List (Key × D)} : Rd H a (.dK xs) → RpKv K H xs ds → Rp K H (.ref a) (.dct ds)
  | fn {f c : Addr} {S : Fsh} {cl : List (Str × Addr)} {caps : List Str} : H f = some (NdefX.FnO f (S.nf cl c)) → H c = some (LamX.CodeO c S.qual) → CapsAt H cl S.fr caps → Rp K H (.ref f) (.fn S caps)
inductive RpAll (K : PySem.W.Frag) (H : Hp) : List V → List D → Prop
  | nil : RpAll K H [] []
  | cons {v : V} {vs : List V} {d : D} {ds : List D} : Rp K H v d → RpAll K H vs ds → RpAll K H (v :: vs) (d :: ds)
inductive RpKv (K : PySem.W.Frag) (H : Hp) : List (Key × V) → List (Key × D) → Prop
  | nil : RpKv K H [] []
  | cons {k : Key} {v : V} {vs : List (Key × V)} {d : D} {ds : List (Key × D)} : Rp K H v d → RpKv K H vs ds → RpKv K H ((k, v) :: vs) ((k, d) :: ds)
end
theorem sqL_mono {K : PySem.W.Frag} {W W' : Hp} {a : Addr} {xs : List V} (s : Same W W') (h : SqL K W a xs) : SqL K W' a xs := s.seq h
theorem sqT_mono {K : PySem.W.Frag} {W W' : Hp} {a : Addr} {xs : List V} (s : Same W W') (h : SqT K W a xs) : SqT K W' a xs := by
  rcases h with (h | ⟨o, h⟩) | h
  · exact .inl (.inl (s _ _ h))
  · exact .inl (.inr ⟨o, s _ _ h⟩)
  · exact .inr h
theorem rd_mono {W W' : Hp} {a : Addr} {u : HO} (s : Same W W') (h : Rd W a u) : Rd W' a u := h.elim (fun z => .inl (s _ _ z)) fun ⟨o, z⟩ => .inr ⟨o, s _ _ z⟩
theorem scr_mono {K : PySem.W.Frag} {W W' : Hp} {a : Addr} {xs : List Int} (s : Same W W') (h : Scr K W a xs) : Scr K W' a xs := by
  rcases h with ⟨o, h⟩ | h
  · exact .inl ⟨o, s _ _ h⟩
  · exact .inr h
mutual
theorem rp_mono {K : PySem.W.Frag} {W W' : Hp} (s : Same W W') : ∀ {v : V} {d : D}, Rp K W v d → Rp K W' v d
  | _, _, .non => .non
  | _, _, .bl b => .bl b
  | _, _, .int i => .int i
  | _, _, .str x => .str x
  | _, _, .tup h a => .tup (sqT_mono s h) (rpAll_mono s a)
  | _, _, .lst h a => .lst (s _ _ h) (rpAll_mono s a)
  | _, _, .scr h => .scr (scr_mono s h)
  | _, _, .dct h a => .dct (rd_mono s h) (rpKv_mono s a)
  | _, _, .fn h1 h2 h3 => .fn (s _ _ h1) (s _ _ h2) (h3.mono fun b φ e => s b _ e)
theorem rpAll_mono {K : PySem.W.Frag} {W W' : Hp} (s : Same W W') : ∀ {vs : List V} {ds : List D}, RpAll K W vs ds → RpAll K W' vs ds
  | _, _, .nil => .nil
  | _, _, .cons h t => .cons (rp_mono s h) (rpAll_mono s t)
theorem rpKv_mono {K : PySem.W.Frag} {W W' : Hp} (s : Same W W') : ∀ {vs : List (Key × V)} {ds : List (Key × D)}, RpKv K W vs ds → RpKv K W' vs ds
  | _, _, .nil => .nil
  | _, _, .cons h t => .cons (rp_mono s h) (rpKv_mono s t)
end
section
variable {K : PySem.W.Frag} {W : Hp}
theorem RpAll.length : ∀ {vs : List V} {ds : List D}, RpAll K W vs ds → vs.length = ds.length
  | _, _, .nil => rfl
  | _, _, .cons _ t => by rw [List.length_cons, List.length_cons, RpAll.length t]
theorem RpAll.get : ∀ {vs : List V} {ds : List D} {i : Nat} {d : D}, RpAll K W vs ds → ds[i]? = some d → ∃ v, vs[i]? = some v ∧ Rp K W v d
  | _, _, _, _, .nil, e => by simp at e
  | _, _, 0, _, .cons h _, e => by
    simp at e
    subst e
    exact ⟨_, rfl, h⟩
  | _, _, i + 1, d, .cons _ t, e => by
    obtain ⟨v, h1, h2⟩ := RpAll.get (i := i) (d := d) t (by simpa using e)
    exact ⟨v, by simpa using h1, h2⟩
theorem RpAll.getV : ∀ {vs : List V} {ds : List D} {i : Nat} {v : V}, RpAll K W vs ds → vs[i]? = some v → ∃ d, ds[i]? = some d ∧ Rp K W v d
  | _, _, _, _, .nil, e => by simp at e
  | _, _, 0, _, .cons h _, e => by
    simp at e
    subst e
    exact ⟨_, rfl, h⟩
  | _, _, i + 1, v, .cons _ t, e => by
    obtain ⟨d, h1, h2⟩ := RpAll.getV (i := i) (v := v) t (by simpa using e)
    exact ⟨d, by simpa using h1, h2⟩
theorem RpAll.append : ∀ {vs ws : List V} {ds es : List D}, RpAll K W vs ds → RpAll K W ws es → RpAll K W (vs ++ ws) (ds ++ es)
  | _, _, _, _, .nil, s => s
  | _, _, _, _, .cons h t, s => .cons h (RpAll.append t s)
theorem RpAll.take : ∀ {vs : List V} {ds : List D} (n : Nat), RpAll K W vs ds → RpAll K W (vs.take n) (ds.take n)
  | _, _, 0, _ => .nil
  | _, _, _ + 1, .nil => .nil
  | _, _, n + 1, .cons h t => .cons h (RpAll.take n t)
theorem RpAll.drop : ∀ {vs : List V} {ds : List D} (n : Nat), RpAll K W vs ds → RpAll K W (vs.drop n) (ds.drop n)
  | _, _, 0, h => h
  | _, _, _ + 1, .nil => .nil
  | _, _, n + 1, .cons _ t => RpAll.drop n t
theorem RpAll.set {v : V} {d : D} (h : Rp K W v d) : ∀ {vs : List V} {ds : List D} (i : Nat), RpAll K W vs ds → RpAll K W (vs.set i v) (ds.set i d)
  | _, _, _, .nil => .nil
  | _, _, 0, .cons _ t => .cons h t
  | _, _, i + 1, .cons q t => .cons q (RpAll.set h i t)
theorem RpAll.dropLast : ∀ {vs : List V} {ds : List D}, RpAll K W vs ds → RpAll K W vs.dropLast ds.dropLast := fun {vs ds} h => by
  rw [List.dropLast_eq_take, List.dropLast_eq_take, h.length]
  exact h.take _
theorem RpAll.eraseIdx : ∀ {vs : List V} {ds : List D} (i : Nat), RpAll K W vs ds → RpAll K W (vs.eraseIdx i) (ds.eraseIdx i)
  | _, _, _, .nil => .nil
  | _, _, 0, .cons _ t => t
  | _, _, i + 1, .cons q t => .cons q (RpAll.eraseIdx i t)
theorem RpAll.one {v : V} {d : D} (h : Rp K W v d) : RpAll K W [v] [d] := .cons h .nil
theorem RpAll.ints : ∀ (ns : List Int), RpAll K W (ns.map V.int) (ns.map D.int)
  | [] => .nil
  | n :: r => .cons (.int n) (RpAll.ints r)
theorem RpAll.toInts : ∀ {vs : List V} {ns : List Int}, RpAll K W vs (ns.map D.int) → vs = ns.map V.int
  | _, [], .nil => rfl
  | _, n :: r, .cons (.int _) t => by rw [List.map_cons, RpAll.toInts t]
theorem RpAll.toBls : ∀ {vs : List V} {ns : List Bool}, RpAll K W vs (ns.map D.bl) → vs = ns.map V.bl
  | _, [], .nil => rfl
  | _, n :: r, .cons (.bl _) t => by rw [List.map_cons, RpAll.toBls t]
theorem RpAll.toStrs : ∀ {vs : List V} {ns : List Str}, RpAll K W vs (ns.map D.str) → vs = ns.map V.str
  | _, [], .nil => rfl
  | _, n :: r, .cons (.str _) t => by rw [List.map_cons, RpAll.toStrs t]
end

/-! ### the state of a frame -/
/-- objects that a frame may change -/
inductive Mo : HO → Prop
  | lst (vs : List V) : Mo (.lst vs)
  | dK (xs : List (Key × V)) : Mo (.dK xs)
  | ext (φ : Heap → Prop) : Mo (.ext φ)
/-- an object that stands for data, what it holds told by W -/
inductive HoR (K : PySem.W.Frag) (W : Hp) : HO → D → Prop
  | lst {vs : List V} {xs : List D} : RpAll K W vs xs → HoR K W (.lst vs) (.lst xs)
  | dK {xs : List (Key × V)} {kvs : List (Key × D)} : RpKv K W xs kvs → HoR K W (.dK xs) (.dct kvs)
/-- those that stand for data of an own slot -/
inductive MoO : HO → Prop
  | lst (vs : List V) : MoO (.lst vs)
  | dK (xs : List (Key × V)) : MoO (.dK xs)
theorem HoR.moO {K : PySem.W.Frag} {W : Hp} {o : HO} {d : D} (h : HoR K W o d) : MoO o := by
  cases h
  · exact .lst _
  · exact .dK _
theorem HoR.mo {K : PySem.W.Frag} {W : Hp} {o : HO} {d : D} (h : HoR K W o d) : Mo o := by
  cases h
  · exact .lst _
  · exact .dK _
theorem HoR.mono {K : PySem.W.Frag} {W W' : Hp} {o : HO} {d : D} (s : Same W W') (h : HoR K W o d) : HoR K W' o d := by
  cases h with
  | lst h => exact .lst (rpAll_mono s h)
  | dK h => exact .dK (rpKv_mono s h)
theorem HoR.rp {K : PySem.W.Frag} {W : Hp} {a : Addr} {o : HO} {d : D} (e : W a = some o) (h : HoR K W o d) : Rp K W (.ref a) d := by
  cases h with
  | lst h => exact .lst e h
  | dK h => exact .dct (.inl e) h
structure RS (K : PySem.W.Frag) (ρ : Rho) (σ : L2.St) (O : Addr → Bool) (W H : Hp) : Prop where
  len : σ.length = ρ.length
  sub : Same W H
  hid : ∀ b, O b = true → W b = none ∧ ∃ o, H b = some o ∧ Mo o
  vals : ∀ (i : Nat) (d : D), ρ[i]? = some (.val d) → ∃ v, σ[i]? = some (some v) ∧ Rp K W v d
  ownsG : ∀ (i : Nat) (d : D), ρ[i]? = some (.ow d) → ∃ a o, σ[i]? = some (some (.ref a)) ∧ O a = true ∧ H a = some o ∧ HoR K W o d
  apart : ∀ (i j : Nat) (xs ys : D) (a : Addr), ρ[i]? = some (.ow xs) → ρ[j]? = some (.ow ys) → σ[i]? = some (some (.ref a)) → σ[j]? = some (some (.ref a)) → i = j

theorem RS.owns {K : PySem.W.Frag} {ρ : Rho} {σ : L2.St} {O : Addr → Bool} {W H : Hp} (r : RS K ρ σ O W H) (i : Nat) (xs : List D) (e : ρ[i]? = some (.own xs)) : ∃ a vs, σ[i]? = some (some (.ref a)) ∧ O a = true ∧ H a = some (.lst vs) ∧ RpAll K W vs xs := by
  obtain ⟨a, o, h1, h2, h3, h4⟩ := r.ownsG i _ e
  cases h4 with
  | lst h4 => exact ⟨a, _, h1, h2, h3, h4⟩
theorem RS.dics {K : PySem.W.Frag} {ρ : Rho} {σ : L2.St} {O : Addr → Bool} {W H : Hp} (r : RS K ρ σ O W H) (i : Nat) (kvs : List (Key × D)) (e : ρ[i]? = some (.dic kvs)) : ∃ a xs, σ[i]? = some (some (.ref a)) ∧ O a = true ∧ H a = some (.dK xs) ∧ RpKv K W xs kvs := by
  obtain ⟨a, o, h1, h2, h3, h4⟩ := r.ownsG i _ e
  cases h4 with
  | dK h4 => exact ⟨a, _, h1, h2, h3, h4⟩

/-- nothing that stood has changed; what is seen more is new -/
structure PStep (W H W' H' : Hp) : Prop where
  le : Same W W'
  keep : Same H H'
  sub : Same W' H'
  new : ∀ b o, W' b = some o → W b = some o ∨ H b = none
theorem PStep.refl {W H : Hp} (s : Same W H) : PStep W H W H := ⟨fun _ _ e => e, fun _ _ e => e, s, fun _ _ e => .inl e⟩
theorem PStep.trans {W H W1 H1 W2 H2 : Hp} (a : PStep W H W1 H1) (b : PStep W1 H1 W2 H2) : PStep W H W2 H2 where
  le := a.le.trans b.le
  keep := a.keep.trans b.keep
  sub := b.sub
  new := fun c o e => by
    rcases b.new c o e with z | z
    · exact a.new c o z
    · exact .inr (a.keep.free z)
/-- only what the frame owns has changed -/
structure SStep (O : Addr → Bool) (W H : Hp) (O' : Addr → Bool) (W' H' : Hp) : Prop where
  le : Same W W'
  keep : ∀ b o, H b = some o → O b = false → H' b = some o
  new : ∀ b o, W' b = some o → W b = some o ∨ H b = none ∨ O b = true
  own : ∀ b, O' b = true → O b = true ∨ H b = none
theorem SStep.refl {O : Addr → Bool} {W H : Hp} : SStep O W H O W H := ⟨fun _ _ e => e, fun _ _ e _ => e, fun _ _ e => .inl e, fun _ e => .inl e⟩
theorem PStep.s {W H W' H' : Hp} {O : Addr → Bool} (p : PStep W H W' H') : SStep O W H O W' H' :=
  ⟨p.le, fun b o e _ => p.keep b o e, fun b o e => (p.new b o e).elim .inl fun z => .inr (.inl z), fun _ e => .inl e⟩
theorem SStep.free {O O' : Addr → Bool} {W H W' H' : Hp} (a : SStep O W H O' W' H') {b : Addr} (h : H' b = none) : H b = none ∨ O b = true := by
  cases e : H b with
  | none => exact .inl rfl
  | some o =>
    cases q : O b with
    | true => exact .inr rfl
    | false =>
      rw [a.keep b o e q] at h
      cases h
theorem SStep.trans {O O1 O2 : Addr → Bool} {W H W1 H1 W2 H2 : Hp} (a : SStep O W H O1 W1 H1) (b : SStep O1 W1 H1 O2 W2 H2) : SStep O W H O2 W2 H2 where
  le := a.le.trans b.le
  keep := fun c o e q => by
    refine b.keep c o (a.keep c o e q) ?_
    cases z : O1 c with
    | false => rfl
    | true =>
      rcases a.own c z with y | y
      · rw [q] at y; cases y
      · rw [e] at y; cases y
  new := fun c o e => by
    rcases b.new c o e with z | z | z
    · exact a.new c o z
    · exact (a.free z).elim (fun y => .inr (.inl y)) fun y => .inr (.inr y)
    · exact (a.own c z).elim (fun y => .inr (.inr y)) fun y => .inr (.inl y)
  own := fun c e => by
    rcases b.own c e with z | z
    · exact a.own c z
    · exact (a.free z).elim .inr .inl

section
variable {K : PySem.W.Frag} {ρ ρ' : Rho} {σ σ' : L2.St} {O O' : Addr → Bool} {W H W' H' : Hp} {al bl : List Nat}
theorem RS.pstep0 (r : RS K ρ σ O W H) (p : PStep W H W' H') : RS K ρ σ O W' H' where
  len := r.len
  sub := p.sub
  hid := fun b e => by
    obtain ⟨h1, vs, h2, h3⟩ := r.hid b e
    refine ⟨?_, vs, p.keep b _ h2, h3⟩
    cases q : W' b with
    | none => rfl
    | some o =>
      rcases p.new b o q with z | z
      · rw [h1] at z; cases z
      · rw [h2] at z; cases z
  vals := fun i d e => by
    obtain ⟨v, h1, h2⟩ := r.vals i d e
    exact ⟨v, h1, rp_mono p.le h2⟩
  ownsG := fun i xs e => by
    obtain ⟨a, vs, h1, h2, h3, h4⟩ := r.ownsG i xs e
    exact ⟨a, vs, h1, h2, p.keep _ _ h3, h4.mono p.le⟩
  apart := r.apart

/-- slot i holds an own list that stands at b -/
def own1 (ρ : Rho) (σ : L2.St) (b : Addr) (i : Nat) : Bool := match ρ[i]?, σ[i]? with
  | some (.ow _), some (some (.ref a)) => decide (a = b)
  | _, _ => false
theorem own1_iff {b : Addr} {i : Nat} : own1 ρ σ b i = true ↔ ∃ xs, ρ[i]? = some (.ow xs) ∧ σ[i]? = some (some (.ref b)) := by
  unfold own1
  constructor
  · intro h
    split at h
    · rename_i e1 e2
      exact ⟨_, e1, by rw [e2, of_decide_eq_true h]⟩
    · cases h
  · rintro ⟨xs, e1, e2⟩
    rw [e1, e2]
    exact decide_eq_true rfl
/-- what is seen through the slots al, too -/
def vw (ρ : Rho) (σ : L2.St) (al : List Nat) (W H : Hp) : Hp := fun b => match W b with
  | some o => some o
  | none => if al.any (own1 ρ σ b) = true then H b else none
theorem vw_of (b : Addr) {o : HO} (e : W b = some o) : vw ρ σ al W H b = some o := by unfold vw; rw [e]
theorem vw_le : Same W (vw ρ σ al W H) := fun b o e => vw_of b e
theorem vw_nil : vw ρ σ [] W H = W := by
  funext b
  unfold vw
  cases e : W b with
  | some o => rfl
  | none => exact if_neg (by simp)
theorem of_vw {b : Addr} {o : HO} (h : vw ρ σ al W H b = some o) : W b = some o ∨ (W b = none ∧ H b = some o ∧ ∃ i ∈ al, own1 ρ σ b i = true) := by
  unfold vw at h
  split at h
  · rename_i q; exact .inl (by rw [q, h])
  · rename_i q
    split at h
    · rename_i z
      obtain ⟨i, hi, y⟩ := List.any_eq_true.mp z
      exact .inr ⟨q, h, i, hi, y⟩
    · cases h
theorem vw_sub (s : Same W H) : Same (vw ρ σ al W H) H := fun b o e => by
  rcases of_vw e with z | ⟨_, z, _⟩
  · exact s b o z
  · exact z
theorem vw_own {b : Addr} {o : HO} {i : Nat} (hi : i ∈ al) (h : own1 ρ σ b i = true) (e : H b = some o) (s : Same W H) : vw ρ σ al W H b = some o := by
  unfold vw
  cases q : W b with
  | some u =>
    have := s b u q
    rw [e] at this
    cases this
    rfl
  | none => exact (if_pos (List.any_eq_true.mpr ⟨i, hi, h⟩)).trans e
theorem vw_mono (hs : ∀ i ∈ al, i ∈ bl) (s : Same W H) : Same (vw ρ σ al W H) (vw ρ σ bl W H) := fun b o e => by
  rcases of_vw e with z | ⟨_, z, i, hi, y⟩
  · exact vw_of b z
  · exact vw_own (hs i hi) y z s
theorem vw_step (p : PStep W H W' H') : Same (vw ρ σ al W H) (vw ρ σ al W' H') := fun b o e => by
  rcases of_vw e with z | ⟨_, z, i, hi, y⟩
  · exact vw_of b (p.le b o z)
  · exact vw_own hi y (p.keep b o z) p.sub
theorem vw_l (s : Same W H) : Same (vw ρ σ al W H) (vw ρ σ (al ++ bl) W H) := vw_mono (fun _ h => List.mem_append_left _ h) s
theorem vw_r (s : Same W H) : Same (vw ρ σ bl W H) (vw ρ σ (al ++ bl) W H) := vw_mono (fun _ h => List.mem_append_right _ h) s

/-- data without lists lean on nothing that is owned -/
theorem down_ho (r : RS K ρ σ O W H) {a : Addr} {o : HO} (e : vw ρ σ al W H a = some o) (n : ¬ MoO o) : W a = some o := by
  rcases of_vw e with z | ⟨_, z, i, hi, y⟩
  · exact z
  · exfalso
    obtain ⟨ys, e1, e2⟩ := own1_iff.mp y
    obtain ⟨a', vs, h1, _, h3, h4⟩ := r.ownsG i ys e1
    rw [e2] at h1
    cases h1
    rw [z] at h3
    exact n (Option.some.inj h3 ▸ h4.moO)
theorem sqT_down (r : RS K ρ σ O W H) {a : Addr} {xs : List V} (h : SqT K (vw ρ σ al W H) a xs) : SqT K W a xs := by
  rcases h with (h | ⟨o, h⟩) | h
  · exact .inl (.inl (down_ho r h fun z => nomatch z))
  · exact .inl (.inr ⟨o, down_ho r h fun z => nomatch z⟩)
  · exact .inr h
mutual
theorem rp_down0 (r : RS K ρ σ O W H) : ∀ {d : D} {v : V}, noL d = true → Rp K (vw ρ σ al W H) v d → Rp K W v d
  | .non, _, _, .non => .non
  | .bl _, _, _, .bl b => .bl b
  | .int _, _, _, .int i => .int i
  | .str _, _, _, .str x => .str x
  | .tup ds, _, h, .tup hq ha => .tup (sqT_down r hq) (rpAll_down0 r (by simpa [noL] using h) ha)
  | .lst _, _, h, _ => by simp [noL] at h
  | .dct _, _, h, _ => by simp [noL] at h
  | .fn _ _, _, _, .fn h1 h2 h3 => .fn (down_ho r h1 fun z => nomatch z) (down_ho r h2 fun z => nomatch z) (h3.mono fun b φ e => down_ho r e fun z => nomatch z)
  | .scr _, _, _, .scr h => by
    rcases h with ⟨o, h⟩ | h
    · exact .scr (.inl ⟨o, down_ho r h fun z => nomatch z⟩)
    · exact .scr (.inr h)
theorem rpAll_down0 (r : RS K ρ σ O W H) : ∀ {ds : List D} {vs : List V}, noLs ds = true → RpAll K (vw ρ σ al W H) vs ds → RpAll K W vs ds
  | [], _, _, .nil => .nil
  | d :: ds, _, h, .cons h1 h2 => by
    simp only [noLs, Bool.and_eq_true] at h
    exact .cons (rp_down0 r h.1 h1) (rpAll_down0 r h.2 h2)
end

/-- slots given up -/
def unown (al : List Nat) (ρ : Rho) : Rho := ρ.mapIdx fun i s => match s with
  | .ow d => if al.contains i then .val d else .ow d
  | s => s
/-- slot i is owned -/
def isOwn (ρ : Rho) (i : Nat) : Bool := match ρ[i]? with
  | some (.ow _) => true
  | _ => false
/-- none of the slots al is owned -/
def noO (al : List Nat) (ρ : Rho) : Bool := al.all fun i => !isOwn ρ i
theorem vw_noO (h : noO al ρ = true) : vw ρ σ al W H = W := by
  funext b
  unfold vw
  cases e : W b with
  | some o => rfl
  | none =>
    refine if_neg fun z => ?_
    obtain ⟨i, hi, y⟩ := List.any_eq_true.mp z
    obtain ⟨xs, e1, _⟩ := own1_iff.mp y
    have q := List.all_eq_true.mp h i hi
    unfold isOwn at q
    rw [e1] at q
    cases q
def esc (al : List Nat) (d : D) (ρ : Rho) : Rho := if (noO al ρ || noL d) = true then ρ else unown al ρ
theorem unown_get (al : List Nat) (ρ : Rho) (i : Nat) : (unown al ρ)[i]? = (ρ[i]?).map fun s => match s with
  | .ow d => if al.contains i then .val d else .ow d
  | s => s := by
  unfold unown
  rw [List.getElem?_mapIdx]
theorem RS.unown (r : RS K ρ σ O W H) : ∃ O' W', SStep O W H O' W' H ∧ RS K (unown al ρ) σ O' W' H ∧ Same (vw ρ σ al W H) W' ∧ ∀ b, al.any (own1 ρ σ b) = false → O' b = O b ∧ W' b = W b := by
  refine ⟨fun b => O b && !(al.any (own1 ρ σ b)), vw ρ σ al W H, ⟨vw_le, fun _ _ e _ => e, fun b o e => ?_, fun b e => ?_⟩, ⟨?_, vw_sub r.sub, fun b e => ?_, fun i d e => ?_, fun i xs e => ?_, fun i j xs ys a e1 e2 => ?_⟩, fun _ _ e => e, fun b h => ⟨by show (O b && !al.any (own1 ρ σ b)) = O b; rw [h]; simp, by unfold vw; rw [h]; cases W b <;> rfl⟩⟩
  · rcases of_vw e with z | ⟨_, z, i, hi, y⟩
    · exact .inl z
    · obtain ⟨ys, e1, e2⟩ := own1_iff.mp y
      obtain ⟨a', vs, h1, h2, _⟩ := r.ownsG i ys e1
      rw [e2] at h1
      cases h1
      exact .inr (.inr h2)
  · exact .inl (Bool.and_eq_true_iff.mp e).1
  · rw [r.len]; simp [DL.unown]
  · obtain ⟨e1, e2⟩ := Bool.and_eq_true_iff.mp e
    obtain ⟨h1, vs, h2⟩ := r.hid b e1
    refine ⟨?_, vs, h2⟩
    unfold vw
    rw [h1]
    exact if_neg (by simpa using e2)
  · rw [unown_get] at e
    cases q : ρ[i]? with
    | none => rw [q] at e; cases e
    | some s =>
      rw [q] at e
      cases s with
      | ns xss => cases e
      | kd kvs => cases e
      | no => cases e
      | val d' =>
        cases e
        obtain ⟨v, h1, h2⟩ := r.vals i _ q
        exact ⟨v, h1, rp_mono vw_le h2⟩
      | ow xs =>
        have e' : (if al.contains i then Sl.val xs else Sl.ow xs) = .val d := Option.some.inj e
        split at e'
        · rename_i hc
          cases e'
          obtain ⟨a, vs, h1, h2, h3, h4⟩ := r.ownsG i _ q
          refine ⟨.ref a, h1, (h4.mono vw_le).rp (vw_own (i := i) (by simpa using hc) (own1_iff.mpr ⟨_, q, h1⟩) h3 r.sub)⟩
        · cases e'
  · rw [unown_get] at e
    cases q : ρ[i]? with
    | none => rw [q] at e; cases e
    | some s =>
      rw [q] at e
      cases s with
      | ns xss => cases e
      | kd kvs => cases e
      | no => cases e
      | val d' => cases e
      | ow ys =>
        have e' : (if al.contains i then Sl.val ys else Sl.ow ys) = .ow xs := Option.some.inj e
        split at e'
        · cases e'
        · rename_i hc
          cases e'
          obtain ⟨a, vs, h1, h2, h3, h4⟩ := r.ownsG i _ q
          refine ⟨a, vs, h1, ?_, h3, h4.mono vw_le⟩
          rw [h2, Bool.true_and, Bool.not_eq_true']
          cases z : al.any (own1 ρ σ a) with
          | false => rfl
          | true =>
            exfalso
            obtain ⟨j, hj, y⟩ := List.any_eq_true.mp z
            obtain ⟨zs, f1, f2⟩ := own1_iff.mp y
            have := r.apart i j _ zs a q f1 h1 f2
            subst this
            exact hc (by simpa using hj)
  · have back : ∀ (k : Nat) (zs : D), (DL.unown al ρ)[k]? = some (.ow zs) → ∃ zs, ρ[k]? = some (.ow zs) := fun k zs e => by
      rw [unown_get] at e
      cases q : ρ[k]? with
      | none => rw [q] at e; cases e
      | some s =>
        rw [q] at e
        cases s with
        | ns xss => cases e
        | kd kvs => cases e
        | no => cases e
        | val d' => cases e
        | ow ys => exact ⟨ys, rfl⟩
    obtain ⟨xs', f1⟩ := back i xs e1
    obtain ⟨ys', f2⟩ := back j ys e2
    exact r.apart i j xs' ys' a f1 f2
/-- a value that goes out of what is borrowed -/
theorem RS.esc (r : RS K ρ σ O W H) {v : V} {d : D} (h : Rp K (vw ρ σ al W H) v d) : ∃ O' W', SStep O W H O' W' H ∧ RS K (esc al d ρ) σ O' W' H ∧ Rp K W' v d := by
  unfold DL.esc
  split
  · rename_i e
    refine ⟨O, W, .refl, r, ?_⟩
    rcases Bool.or_eq_true_iff.mp e with z | z
    · rw [vw_noO z] at h
      exact h
    · exact rp_down0 r z h
  · obtain ⟨O', W', h1, h2, h3, _⟩ := r.unown (al := al)
    exact ⟨O', W', h1, h2, rp_mono h3 h⟩

/-- a slot is set to data -/
theorem RS.set (r : RS K ρ σ O W H) {i : Nat} {v : V} {d : D} (h : Rp K W v d) : RS K (ρ.set i (.val d)) (σ.set i (some v)) O W H where
  len := by simp [r.len]
  sub := r.sub
  hid := r.hid
  vals := fun j e q => by
    by_cases hj : i = j
    · subst hj
      by_cases hi : i < ρ.length
      · rw [List.getElem?_set_self hi] at q
        cases q
        exact ⟨v, List.getElem?_set_self (by rw [r.len]; exact hi), h⟩
      · rw [List.getElem?_eq_none (by simp; omega)] at q
        cases q
    · rw [List.getElem?_set_ne hj] at q ⊢
      exact r.vals j e q
  ownsG := fun j xs q => by
    by_cases hj : i = j
    · subst hj
      by_cases hi : i < ρ.length
      · rw [List.getElem?_set_self hi] at q; cases q
      · rw [List.getElem?_eq_none (by simp; omega)] at q; cases q
    · rw [List.getElem?_set_ne hj] at q ⊢
      exact r.ownsG j xs q
  apart := fun j k xs ys a q1 q2 s1 s2 => by
    have ne : ∀ (j : Nat) (zs : D), (ρ.set i (.val d))[j]? = some (.ow zs) → i ≠ j := fun j zs q hj => by
      subst hj
      by_cases hi : i < ρ.length
      · rw [List.getElem?_set_self hi] at q; cases q
      · rw [List.getElem?_eq_none (by simp; omega)] at q; cases q
    have n1 := ne j xs q1
    have n2 := ne k ys q2
    rw [List.getElem?_set_ne n1] at q1 s1
    rw [List.getElem?_set_ne n2] at q2 s2
    exact r.apart _ _ _ _ a q1 q2 s1 s2
/-- a slot takes a new list that nothing else holds -/
theorem RS.setOw (r : RS K ρ σ O W H) {i : Nat} {a : Addr} {vs : HO} {xs : D} (e : H a = some vs) (n : W a = none) (no : O a = false) (h : HoR K W vs xs) :
    RS K (ρ.set i (.ow xs)) (σ.set i (some (.ref a))) (fun b => O b || decide (b = a)) W H where
  len := by simp [r.len]
  sub := r.sub
  hid := fun b q => by
    rcases Bool.or_eq_true_iff.mp q with z | z
    · exact r.hid b z
    · rw [of_decide_eq_true z]; exact ⟨n, vs, e, h.mo⟩
  vals := fun j f q => by
    by_cases hj : i = j
    · subst hj
      by_cases hi : i < ρ.length
      · rw [List.getElem?_set_self hi] at q; cases q
      · rw [List.getElem?_eq_none (by simp; omega)] at q; cases q
    · rw [List.getElem?_set_ne hj] at q ⊢
      exact r.vals j f q
  ownsG := fun j ys q => by
    by_cases hj : i = j
    · subst hj
      by_cases hi : i < ρ.length
      · rw [List.getElem?_set_self hi] at q
        cases q
        exact ⟨a, vs, List.getElem?_set_self (by rw [r.len]; exact hi), by simp, e, h⟩
      · rw [List.getElem?_eq_none (by simp; omega)] at q; cases q
    · rw [List.getElem?_set_ne hj] at q ⊢
      obtain ⟨b, ws, h1, h2, h3⟩ := r.ownsG j ys q
      exact ⟨b, ws, h1, by simp [h2], h3⟩
  apart := fun j k xs' ys b q1 q2 s1 s2 => by
    have lt : ∀ (zs : D), (ρ.set i (.ow xs))[i]? = some (.ow zs) → i < σ.length := fun zs q => by
      have := (List.getElem?_eq_some_iff.mp q).1
      rw [r.len]
      simpa using this
    have other : ∀ (j : Nat) (zs : D), i ≠ j → ρ[j]? = some (.ow zs) → σ[j]? = some (some (.ref a)) → False := fun j zs _ q s => by
      obtain ⟨b, ws, h1, h2, _⟩ := r.ownsG j zs q
      rw [s] at h1
      cases h1
      rw [no] at h2
      cases h2
    by_cases hj : i = j
    · subst hj
      rw [List.getElem?_set_self (lt _ q1)] at s1
      cases s1
      by_cases hk : i = k
      · exact hk
      · rw [List.getElem?_set_ne hk] at q2 s2
        exact (other k _ hk q2 s2).elim
    · rw [List.getElem?_set_ne hj] at q1 s1
      by_cases hk : i = k
      · subst hk
        rw [List.getElem?_set_self (lt _ q2)] at s2
        cases s2
        exact (other j _ hj q1 s1).elim
      · rw [List.getElem?_set_ne hk] at q2 s2
        exact r.apart _ _ _ _ b q1 q2 s1 s2
theorem RS.setOwn (r : RS K ρ σ O W H) {i : Nat} {a : Addr} {vs : List V} {xs : List D} (e : H a = some (.lst vs)) (n : W a = none) (no : O a = false) (h : RpAll K W vs xs) :
    RS K (ρ.set i (.own xs)) (σ.set i (some (.ref a))) (fun b => O b || decide (b = a)) W H := r.setOw e n no (.lst h)
/-- an own list is changed -/
theorem RS.writeG (r : RS K ρ σ O W H) {i : Nat} {a : Addr} {vs : HO} {xs ys : D} (q : ρ[i]? = some (.ow ys)) (s : σ[i]? = some (some (.ref a))) (h : HoR K W vs xs) :
    RS K (ρ.set i (.ow xs)) σ O W (upd H a vs) ∧ SStep O W H O W (upd H a vs) := by
  obtain ⟨a', vs', h1, h2, h3, h4⟩ := r.ownsG i ys q
  rw [s] at h1
  cases h1
  have wa : W a = none := (r.hid a h2).1
  have hi : i < ρ.length := (List.getElem?_eq_some_iff.mp q).1
  refine ⟨⟨by simp [r.len], fun b o e => ?_, fun b e => ?_, fun j d e => ?_, fun j zs e => ?_, fun j k xs' ys' b e1 e2 s1 s2 => ?_⟩, ⟨fun _ _ e => e, fun b o e z => ?_, fun _ _ e => .inl e, fun _ e => .inl e⟩⟩
  · have nb : b ≠ a := fun z => by subst z; rw [wa] at e; cases e
    rw [upd_ne nb]; exact r.sub b o e
  · refine ⟨(r.hid b e).1, ?_⟩
    by_cases hb : b = a
    · subst hb; exact ⟨vs, upd_same, h.mo⟩
    · rw [upd_ne hb]; exact (r.hid b e).2
  · by_cases hj : i = j
    · subst hj; rw [List.getElem?_set_self hi] at e; cases e
    · rw [List.getElem?_set_ne hj] at e; exact r.vals j d e
  · by_cases hj : i = j
    · subst hj
      rw [List.getElem?_set_self hi] at e
      cases e
      exact ⟨a, vs, s, h2, upd_same, h⟩
    · rw [List.getElem?_set_ne hj] at e
      obtain ⟨b, ws, g1, g2, g3, g4⟩ := r.ownsG j zs e
      have nb : b ≠ a := fun z => by subst z; exact hj (r.apart i j ys zs b q e s g1)
      exact ⟨b, ws, g1, g2, by rw [upd_ne nb]; exact g3, g4⟩
  · have back : ∀ (k : Nat) (zs : D), (ρ.set i (.ow xs))[k]? = some (.ow zs) → ∃ zs, ρ[k]? = some (.ow zs) := fun k zs e => by
      by_cases hk : i = k
      · subst hk; exact ⟨ys, q⟩
      · rw [List.getElem?_set_ne hk] at e; exact ⟨zs, e⟩
    obtain ⟨_, f1⟩ := back j _ e1
    obtain ⟨_, f2⟩ := back k _ e2
    exact r.apart j k _ _ b f1 f2 s1 s2
  · have nb : b ≠ a := fun y => by subst y; rw [h2] at z; cases z
    rw [upd_ne nb]; exact e
theorem RS.write0 (r : RS K ρ σ O W H) {i : Nat} {a : Addr} {vs : List V} {xs ys : List D} (q : ρ[i]? = some (.own ys)) (s : σ[i]? = some (some (.ref a))) (h : RpAll K W vs xs) :
    RS K (ρ.set i (.own xs)) σ O W (upd H a (.lst vs)) ∧ SStep O W H O W (upd H a (.lst vs)) := r.writeG q s (.lst h)
end

/-! ### tables of code objects stand aside -/
/-- what stands in the heap but for the tables -/
def tb (H : Hp) : Hp := fun b => match H b with
  | some (.tbl _) => none
  | o => o
/-- no table -/
def NT (o : HO) : Prop := ∀ ps, o ≠ .tbl ps
theorem tb_some {H : Hp} {b : Addr} {o : HO} (e : tb H b = some o) : H b = some o ∧ NT o := by
  unfold tb at e
  split at e
  · cases e
  · rename_i z
    exact ⟨e, fun ps y => z ps (by rw [e, y])⟩
theorem tb_of {H : Hp} {b : Addr} {o : HO} (e : H b = some o) (n : NT o) : tb H b = some o := by
  unfold tb
  split
  · rename_i ps z
    rw [e] at z
    exact absurd (Option.some.inj z) (n ps)
  · exact e
theorem tb_le {H : Hp} : Same (tb H) H := fun b o e => (tb_some e).1
theorem tb_none {H : Hp} {b : Addr} (e : H b = none) : tb H b = none := by
  unfold tb
  split
  · rfl
  · exact e
theorem tb_upd {H : Hp} {a : Addr} {o : HO} (n : NT o) : tb (upd H a o) = upd (tb H) a o := by
  funext b
  by_cases hb : b = a
  · subst hb
    rw [upd_same]
    exact tb_of upd_same n
  · rw [upd_ne hb]
    unfold tb
    rw [upd_ne hb]
theorem nt_lst {vs : List V} : NT (.lst vs) := fun _ z => nomatch z
theorem nt_tup {vs : List V} : NT (.tup vs) := fun _ z => nomatch z
/-- the tables of this law -/
class Tbs where
  T : List NdefX.NTab
  F : Addr → List NE → Heap → Prop := fun _ _ _ => False
abbrev TZ [Tbs] (H : Hp) : Prop := NdefX.TabsN Tbs.T H
theorem tt_ext [Tbs] {H H' : Hp} (e : ∀ b o, H b = some o → H' b = some o) (t : TZ H) : TZ H' := NdefX.TabsN.ext t e
theorem tt_new [Tbs] {H : Hp} {a : Addr} {o : HO} (n : H a = none) (t : TZ H) : TZ (upd H a o) := tt_ext (fun b u e => by rw [upd_ne (ne_of_none e n)]; exact e) t
theorem tt_lst [Tbs] {H : Hp} {a : Addr} {o : HO} {vs : List V} (n : H a = some (.lst vs)) (t : TZ H) : TZ (upd H a o) := fun p hp => by
  obtain ⟨ps, h1, h2, h3⟩ := t p hp
  refine ⟨ps, by rw [upd_ne (fun z => by rw [z, n] at h1; cases h1)]; exact h1, h2, fun pos cv hc => ?_⟩
  obtain ⟨c, e1, e2⟩ := h3 pos cv hc
  have ne : c ≠ a := fun z => by
    rw [z, n] at e2
    unfold LamX.CodeO at e2
    cases e2
  exact ⟨c, e1, by rw [upd_ne ne]; exact e2⟩
theorem tt_upd [Tbs] {H : Hp} {a : Addr} {o : HO} (c : H a = none ∨ ∃ vs, H a = some (.lst vs)) (t : TZ H) : TZ (upd H a o) := c.elim (fun n => tt_new n t) fun ⟨_, n⟩ => tt_lst n t
structure PZ [Tbs] (W H W' H' : Hp) : Prop extends PStep W (tb H) W' (tb H') where
  tabs : TZ H → TZ H'
structure SZ [Tbs] (O : Addr → Bool) (W H : Hp) (O' : Addr → Bool) (W' H' : Hp) : Prop extends SStep O W (tb H) O' W' (tb H') where
  tabs : TZ H → TZ H'
section
variable [Tbs] {K : PySem.W.Frag} {ρ ρ' : Rho} {σ σ' : L2.St} {O O' O1 O2 : Addr → Bool} {W H W' H' W1 H1 W2 H2 : Hp} {al bl : List Nat}
theorem vw_subT (s : Same W (tb H)) : Same (vw ρ σ al W (tb H)) H := (vw_sub s).trans tb_le
theorem w_free (s : Same W (tb H)) {p : Addr} (n : H p = none) : W p = none := by
  cases z : W p with
  | none => rfl
  | some o => rw [tb_le _ _ (s p o z)] at n; cases n
theorem hid_step (s : Same W (tb H)) {p : Addr} (n : H p = none) {vs : List V} : PZ W H W (upd H p (.lst vs)) := by
  refine ⟨?_, tt_new n⟩
  rw [tb_upd nt_lst]
  have n' := tb_none n
  exact ⟨fun _ _ e => e, fun b o e => by rw [upd_ne (ne_of_none e n')]; exact e, fun b o e => by rw [upd_ne (ne_of_none (s b o e) n')]; exact s b o e, fun _ _ e => .inl e⟩
theorem PZ.at (p : PZ W H W' H') {a : Addr} {o : HO} (e : tb H a = some o) : H' a = some o := tb_le _ _ (p.keep a o e)
theorem PZ.free (p : PZ W H W' H') {a : Addr} (e : H' a = none) : tb H a = none := p.keep.free (tb_none e)
theorem PZ.refl (s : Same W (tb H)) : PZ W H W H := ⟨.refl s, id⟩
theorem PZ.trans (a : PZ W H W1 H1) (b : PZ W1 H1 W2 H2) : PZ W H W2 H2 := ⟨a.toPStep.trans b.toPStep, fun t => b.tabs (a.tabs t)⟩
theorem PZ.s (p : PZ W H W' H') : SZ O W H O W' H' := ⟨p.toPStep.s, p.tabs⟩
theorem SZ.refl : SZ O W H O W H := ⟨.refl, id⟩
theorem SZ.trans (a : SZ O W H O1 W1 H1) (b : SZ O1 W1 H1 O2 W2 H2) : SZ O W H O2 W2 H2 := ⟨a.toSStep.trans b.toSStep, fun t => b.tabs (a.tabs t)⟩
theorem SStep.t (a : SStep O W (tb H) O' W' (tb H)) : SZ O W H O' W' H := ⟨a, id⟩
/-- slot i holds a list of lists that this frame alone holds; its objects are hidden from all rules but its own -/
structure NsAt (K : PySem.W.Frag) (ρ : Rho) (σ : L2.St) (O : Addr → Bool) (W H : Hp) (i : Nat) (xss : List (List D)) (a : Addr) (bs : List Addr) : Prop where
  slot : σ[i]? = some (some (.ref a))
  at0 : H a = some (.lst (bs.map V.ref))
  nd : (a :: bs).Nodup
  hid : ∀ b ∈ a :: bs, O b = true ∧ W b = none ∧ H b ≠ none
  len : bs.length = xss.length
  each : ∀ (j : Nat) (b : Addr) (xs : List D), bs[j]? = some b → xss[j]? = some xs → ∃ us, H b = some (.lst us) ∧ RpAll K W us xs
  apart : ∀ (j : Nat) (d : D) (c : Addr), ρ[j]? = some (.ow d) → σ[j]? = some (some (.ref c)) → c ∉ a :: bs
/-- slot i holds a dict by nested tuples that this frame alone holds; hidden -/
structure KdAt (K : PySem.W.Frag) (ρ : Rho) (σ : L2.St) (O : Addr → Bool) (W H : Hp) (i : Nat) (kvs : List (D × D)) (a : Addr) (es : List NE) : Prop where
  slot : σ[i]? = some (some (.ref a))
  at0 : H a = some (.ext (Tbs.F a es))
  hid : O a = true ∧ W a = none
  ents : Paired (fun (p : D × D) (e : NE) => nkOk p.1 = true ∧ nk p.1 = e.1 ∧ Rp K W (.ref e.2.1) p.1 ∧ Rp K W e.2.2 p.2) kvs es
  apart : ∀ (j : Nat) (d : D) (c : Addr), ρ[j]? = some (.ow d) → σ[j]? = some (some (.ref c)) → c ≠ a
theorem KdAt.keep {i : Nat} {kvs : List (D × D)} {a : Addr} {es : List NE} (n : KdAt K ρ σ O W H i kvs a es) (hO : O' a = true) (hW : W' a = none) (hH : ∀ o, H a = some o → H' a = some o) (le : Same W W') (e : σ'[i]? = σ[i]?)
    (ap : ∀ (j : Nat) (d : D) (c : Addr), ρ'[j]? = some (.ow d) → σ'[j]? = some (some (.ref c)) → c ≠ a) : KdAt K ρ' σ' O' W' H' i kvs a es where
  slot := e.trans n.slot
  at0 := hH _ n.at0
  hid := ⟨hO, hW⟩
  ents := L2.Paired.mapP n.ents fun p e h => ⟨h.1, h.2.1, rp_mono le h.2.2.1, rp_mono le h.2.2.2⟩
  apart := ap
structure NS (K : PySem.W.Frag) (ρ : Rho) (σ : L2.St) (O : Addr → Bool) (W H : Hp) : Prop where
  has : ∀ (i : Nat) (xss : List (List D)), ρ[i]? = some (.ns xss) → ∃ a bs, NsAt K ρ σ O W H i xss a bs
  one : ∀ (i j : Nat) (xss yss : List (List D)), ρ[i]? = some (.ns xss) → ρ[j]? = some (.ns yss) → i = j
  hasK : ∀ (i : Nat) (kvs : List (D × D)), ρ[i]? = some (.kd kvs) → ∃ a es, KdAt K ρ σ O W H i kvs a es
  oneK : ∀ (i j : Nat) (kvs : List (D × D)) (s : Sl), ρ[i]? = some (.kd kvs) → ρ[j]? = some s → s.hid = true → i = j
theorem NsAt.keep {i : Nat} {xss : List (List D)} {a : Addr} {bs : List Addr} (n : NsAt K ρ σ O W H i xss a bs) (hO : ∀ b ∈ a :: bs, O' b = true) (hW : ∀ b ∈ a :: bs, W' b = none) (hH : ∀ b ∈ a :: bs, ∀ o, H b = some o → H' b = some o) (le : Same W W') (e : σ'[i]? = σ[i]?)
    (ap : ∀ (j : Nat) (d : D) (c : Addr), ρ'[j]? = some (.ow d) → σ'[j]? = some (some (.ref c)) → c ∉ a :: bs) : NsAt K ρ' σ' O' W' H' i xss a bs where
  slot := e.trans n.slot
  at0 := hH a List.mem_cons_self _ n.at0
  nd := n.nd
  hid := fun b m => by
    obtain ⟨o, ho⟩ := Option.ne_none_iff_exists'.mp (n.hid b m).2.2
    exact ⟨hO b m, hW b m, by rw [hH b m o ho]; exact fun z => nomatch z⟩
  len := n.len
  each := fun j b xs e1 e2 => by
    obtain ⟨us, h1, h2⟩ := n.each j b xs e1 e2
    exact ⟨us, hH b (List.mem_cons_of_mem _ (List.mem_of_getElem? e1)) _ h1, rpAll_mono le h2⟩
  apart := ap
theorem NS.pstep (n : NS K ρ σ O W H) (p : PStep W H W' H') : NS K ρ σ O W' H' where
  has := fun i xss h => by
    obtain ⟨a, bs, n⟩ := n.has i xss h
    refine ⟨a, bs, n.keep (fun b m => (n.hid b m).1) (fun b m => ?_) (fun b _ o e => p.keep b o e) p.le rfl n.apart⟩
    cases q : W' b with
    | none => rfl
    | some u =>
      rcases p.new b u q with z | z
      · rw [(n.hid b m).2.1] at z; cases z
      · exact absurd z (n.hid b m).2.2
  one := n.one
  hasK := fun i kvs h => by
    obtain ⟨a, es, n⟩ := n.hasK i kvs h
    refine ⟨a, es, n.keep n.hid.1 ?_ (fun o e => p.keep a o e) p.le rfl n.apart⟩
    cases q : W' a with
    | none => rfl
    | some u =>
      rcases p.new a u q with z | z
      · rw [n.hid.2] at z; cases z
      · rw [n.at0] at z; cases z
  oneK := n.oneK
theorem NS.not (h : ∀ (i : Nat) (s : Sl), s.hid = true → ρ[i]? ≠ some s) : NS K ρ σ O W H := ⟨fun i xss e => absurd e (h i _ rfl), fun i j xss yss e _ => absurd e (h i _ rfl), fun i kvs e => absurd e (h i _ rfl), fun i j kvs s e _ _ => absurd e (h i _ rfl)⟩
/-- the slots change, the heaps do not -/
theorem NS.slots (n : NS K ρ σ O W H) (e : ∀ (i : Nat) (s : Sl), s.hid = true → ρ'[i]? = some s → ρ[i]? = some s ∧ σ'[i]? = σ[i]?) (f : ∀ (i : Nat) (d : D), ρ'[i]? = some (.ow d) → (∃ d', ρ[i]? = some (.ow d')) ∧ σ'[i]? = σ[i]?) : NS K ρ' σ' O W H where
  has := fun i xss h => by
    obtain ⟨h1, h2⟩ := e i _ rfl h
    obtain ⟨a, bs, n⟩ := n.has i xss h1
    refine ⟨a, bs, n.keep (fun b m => (n.hid b m).1) (fun b m => (n.hid b m).2.1) (fun _ _ _ e => e) (fun _ _ e => e) h2 fun j d c e1 e2 => ?_⟩
    obtain ⟨⟨d', e3⟩, e4⟩ := f j d e1
    exact n.apart j d' c e3 (e4 ▸ e2)
  one := fun i j xss yss h1 h2 => n.one i j xss yss (e i _ rfl h1).1 (e j _ rfl h2).1
  hasK := fun i kvs h => by
    obtain ⟨h1, h2⟩ := e i _ rfl h
    obtain ⟨a, es, n⟩ := n.hasK i kvs h1
    refine ⟨a, es, n.keep n.hid.1 n.hid.2 (fun _ e => e) (fun _ _ e => e) h2 fun j d c e1 e2 => ?_⟩
    obtain ⟨⟨d', e3⟩, e4⟩ := f j d e1
    exact n.apart j d' c e3 (e4 ▸ e2)
  oneK := fun i j kvs s h1 h2 hs => n.oneK i j kvs s (e i _ rfl h1).1 (e j s hs h2).1 hs
/-- slot k takes a new own object at p -/
theorem NS.own (n : NS K ρ σ O W H) {k : Nat} {d0 : D} {p : Addr} (h : O p = false) : NS K (ρ.set k (.ow d0)) (σ.set k (some (.ref p))) (fun b => O b || decide (b = p)) W H where
  has := fun i xss h0 => by
    have ne : k ≠ i := fun z => by
      subst z
      have hi : k < ρ.length := by simpa using (List.getElem?_eq_some_iff.mp h0).1
      rw [List.getElem?_set_self hi] at h0
      cases h0
    rw [List.getElem?_set_ne ne] at h0
    obtain ⟨a, bs, n⟩ := n.has i xss h0
    refine ⟨a, bs, n.keep (fun b m => by rw [(n.hid b m).1]; rfl) (fun b m => (n.hid b m).2.1) (fun _ _ _ e => e) (fun _ _ e => e) (List.getElem?_set_ne ne) fun j d c e1 e2 => ?_⟩
    by_cases hj : k = j
    · subst hj
      have hi : k < (σ.set k (some (.ref p))).length := (List.getElem?_eq_some_iff.mp e2).1
      rw [List.getElem?_set_self (by simpa using hi)] at e2
      cases e2
      exact fun m => by rw [(n.hid p m).1] at h; cases h
    · rw [List.getElem?_set_ne hj] at e1 e2
      exact n.apart j d c e1 e2
  one := fun i j xss yss h1 h2 => by
    have ne : ∀ (i : Nat) (xss : List (List D)), (ρ.set k (.ow d0))[i]? = some (.ns xss) → k ≠ i := fun i xss h0 z => by
      subst z
      have hi : k < ρ.length := by simpa using (List.getElem?_eq_some_iff.mp h0).1
      rw [List.getElem?_set_self hi] at h0
      cases h0
    have n1 := ne i xss h1
    have n2 := ne j yss h2
    rw [List.getElem?_set_ne n1] at h1
    rw [List.getElem?_set_ne n2] at h2
    exact n.one i j xss yss h1 h2
  hasK := fun i kvs h0 => by
    have ne : k ≠ i := fun z => by
      subst z
      have hi : k < ρ.length := by simpa using (List.getElem?_eq_some_iff.mp h0).1
      rw [List.getElem?_set_self hi] at h0
      cases h0
    rw [List.getElem?_set_ne ne] at h0
    obtain ⟨a, es, n⟩ := n.hasK i kvs h0
    refine ⟨a, es, n.keep (by rw [n.hid.1]; rfl) n.hid.2 (fun _ e => e) (fun _ _ e => e) (List.getElem?_set_ne ne) fun j d c e1 e2 => ?_⟩
    by_cases hj : k = j
    · subst hj
      have hi : k < (σ.set k (some (.ref p))).length := (List.getElem?_eq_some_iff.mp e2).1
      rw [List.getElem?_set_self (by simpa using hi)] at e2
      cases e2
      exact fun m => by rw [m, n.hid.1] at h; cases h
    · rw [List.getElem?_set_ne hj] at e1 e2
      exact n.apart j d c e1 e2
  oneK := fun i j kvs s h1 h2 hs => by
    have ne : ∀ (i : Nat) (s : Sl), s.hid = true → (ρ.set k (.ow d0))[i]? = some s → k ≠ i := fun i s hs h0 z => by
      subst z
      have hi : k < ρ.length := by simpa using (List.getElem?_eq_some_iff.mp h0).1
      rw [List.getElem?_set_self hi] at h0
      cases h0
      cases hs
    have n1 := ne i _ rfl h1
    have n2 := ne j s hs h2
    rw [List.getElem?_set_ne n1] at h1
    rw [List.getElem?_set_ne n2] at h2
    exact n.oneK i j kvs s h1 h2 hs
/-- an own object is changed -/
theorem NS.write (n : NS K ρ σ O W H) {k : Nat} {d0 d1 : D} {p : Addr} {u : HO} (q : ρ[k]? = some (.ow d0)) (s : σ[k]? = some (some (.ref p))) : NS K (ρ.set k (.ow d1)) σ O W (upd H p u) := by
  have key : NS K ρ σ O W (upd H p u) := ⟨fun i xss h => by
    obtain ⟨a, bs, n⟩ := n.has i xss h
    refine ⟨a, bs, n.keep (fun b m => (n.hid b m).1) (fun b m => (n.hid b m).2.1) (fun b m o e => ?_) (fun _ _ e => e) rfl n.apart⟩
    have nb : b ≠ p := fun z => by
      subst z
      exact n.apart k d0 b q s m
    rw [upd_ne nb]
    exact e, n.one, fun i kvs h => by
    obtain ⟨a, es, n⟩ := n.hasK i kvs h
    refine ⟨a, es, n.keep n.hid.1 n.hid.2 (fun o e => ?_) (fun _ _ e => e) rfl n.apart⟩
    have nb : a ≠ p := fun z => n.apart k d0 p q s z.symm
    rw [upd_ne nb]
    exact e, n.oneK⟩
  refine key.slots (fun i t ht e => ?_) (fun i d e => ?_)
  · by_cases hi : k = i
    · subst hi
      rw [List.getElem?_set_self (List.getElem?_eq_some_iff.mp q).1] at e
      cases e
      cases ht
    · rw [List.getElem?_set_ne hi] at e
      exact ⟨e, rfl⟩
  · by_cases hi : k = i
    · subst hi
      exact ⟨⟨d0, q⟩, rfl⟩
    · rw [List.getElem?_set_ne hi] at e
      exact ⟨⟨d, e⟩, rfl⟩
/-- slots given up -/
theorem NS.unown (n : NS K ρ σ O W H) {al : List Nat} (h : ∀ b, al.any (own1 ρ σ b) = false → O' b = O b ∧ W' b = W b) (le : Same W W') : NS K (DL.unown al ρ) σ O' W' H := by
  have key : NS K ρ σ O' W' H := ⟨fun i xss h0 => by
    obtain ⟨a, bs, n⟩ := n.has i xss h0
    have z : ∀ b ∈ a :: bs, al.any (own1 ρ σ b) = false := fun b m => by
      cases q : al.any (own1 ρ σ b) with
      | false => rfl
      | true =>
        obtain ⟨j, _, y⟩ := List.any_eq_true.mp q
        obtain ⟨d, e1, e2⟩ := own1_iff.mp y
        exact absurd m (n.apart j d b e1 e2)
    exact ⟨a, bs, n.keep (fun b m => (h b (z b m)).1.trans (n.hid b m).1) (fun b m => (h b (z b m)).2.trans (n.hid b m).2.1) (fun _ _ _ e => e) le rfl n.apart⟩, n.one, fun i kvs h0 => by
    obtain ⟨a, es, n⟩ := n.hasK i kvs h0
    have z : al.any (own1 ρ σ a) = false := by
      cases q : al.any (own1 ρ σ a) with
      | false => rfl
      | true =>
        obtain ⟨j, _, y⟩ := List.any_eq_true.mp q
        obtain ⟨d, e1, e2⟩ := own1_iff.mp y
        exact absurd rfl (n.apart j d a e1 e2)
    exact ⟨a, es, n.keep ((h a z).1.trans n.hid.1) ((h a z).2.trans n.hid.2) (fun _ e => e) le rfl n.apart⟩, n.oneK⟩
  refine key.slots (fun j t ht e => ?_) (fun j d e => ?_)
  · rw [unown_get] at e
    cases q : ρ[j]? with
    | none => rw [q] at e; cases e
    | some s =>
      rw [q] at e
      cases s with
      | ow d =>
        have e' : (if al.contains j then Sl.val d else Sl.ow d) = t := Option.some.inj e
        split at e' <;> subst e' <;> cases ht
      | no => cases e; cases ht
      | val d => cases e; cases ht
      | ns yss => cases e; exact ⟨rfl, rfl⟩
      | kd kvs => cases e; exact ⟨rfl, rfl⟩
  · rw [unown_get] at e
    cases q : ρ[j]? with
    | none => rw [q] at e; cases e
    | some s =>
      rw [q] at e
      cases s with
      | ow d' => exact ⟨⟨d', rfl⟩, rfl⟩
      | no => cases e
      | val d' => cases e
      | ns yss => cases e
      | kd kvs => cases e
/-- the state of a frame, the tables known -/
structure RZ (K : PySem.W.Frag) (ρ : Rho) (σ : L2.St) (O : Addr → Bool) (W H : Hp) : Prop extends RS K ρ σ O W (tb H) where
  tz : TZ H
  ns : NS K ρ σ O W (tb H)
theorem NS.set (n : NS K ρ σ O W H) {i : Nat} {s : Sl} {v : Option V} (hs : s.hid = false) (ho : ∀ d, s ≠ .ow d) : NS K (ρ.set i s) (σ.set i v) O W H := by
  refine n.slots (fun j t ht e => ?_) (fun j d e => ?_)
  · by_cases hj : i = j
    · subst hj
      have hi : i < ρ.length := by simpa using (List.getElem?_eq_some_iff.mp e).1
      rw [List.getElem?_set_self hi] at e
      cases e
      rw [hs] at ht
      cases ht
    · rw [List.getElem?_set_ne hj] at e ⊢
      exact ⟨e, rfl⟩
  · by_cases hj : i = j
    · subst hj
      have hi : i < ρ.length := by simpa using (List.getElem?_eq_some_iff.mp e).1
      rw [List.getElem?_set_self hi] at e
      exact absurd (Option.some.inj e) (ho d)
    · rw [List.getElem?_set_ne hj] at e ⊢
      exact ⟨⟨d, e⟩, rfl⟩
theorem RZ.write (r : RZ K ρ σ O W H) {i : Nat} {a : Addr} {vs : List V} {xs ys : List D} (q : ρ[i]? = some (.own ys)) (s : σ[i]? = some (some (.ref a))) (h : RpAll K W vs xs) :
    RZ K (ρ.set i (.own xs)) σ O W (upd H a (.lst vs)) ∧ SZ O W H O W (upd H a (.lst vs)) := by
  obtain ⟨k1, k2⟩ := r.toRS.write0 q s h
  obtain ⟨a', us, h1, _, h3, _⟩ := r.owns i ys q
  rw [s] at h1
  cases h1
  rw [← tb_upd nt_lst] at k1 k2
  have t := tt_lst (o := .lst vs) (tb_le _ _ h3)
  exact ⟨⟨k1, t r.tz, by rw [tb_upd nt_lst]; exact r.ns.write q s⟩, k2, t⟩
theorem RZ.pstep (r : RZ K ρ σ O W H) (p : PZ W H W' H') : RZ K ρ σ O W' H' := ⟨r.toRS.pstep0 p.toPStep, p.tabs r.tz, r.ns.pstep p.toPStep⟩
theorem RZ.unown (r : RZ K ρ σ O W H) : ∃ O' W', SStep O W (tb H) O' W' (tb H) ∧ RZ K (DL.unown al ρ) σ O' W' H ∧ Same (vw ρ σ al W (tb H)) W' := by
  obtain ⟨O', W', k1, k2, k3, k4⟩ := r.toRS.unown (al := al)
  exact ⟨O', W', k1, ⟨k2, r.tz, r.ns.unown k4 k1.le⟩, k3⟩
theorem RZ.esc (r : RZ K ρ σ O W H) {v : V} {d : D} (h : Rp K (vw ρ σ al W (tb H)) v d) : ∃ O' W', SStep O W (tb H) O' W' (tb H) ∧ RZ K (DL.esc al d ρ) σ O' W' H ∧ Rp K W' v d := by
  unfold DL.esc
  split
  · rename_i e
    refine ⟨O, W, .refl, r, ?_⟩
    rcases Bool.or_eq_true_iff.mp e with z | z
    · rw [vw_noO z] at h
      exact h
    · exact rp_down0 r.toRS z h
  · obtain ⟨O', W', k1, k2, k3⟩ := r.unown (al := al)
    exact ⟨O', W', k1, k2, rp_mono k3 h⟩
theorem RZ.set (r : RZ K ρ σ O W H) {i : Nat} {v : V} {d : D} (h : Rp K W v d) : RZ K (ρ.set i (.val d)) (σ.set i (some v)) O W H := ⟨r.toRS.set h, r.tz, r.ns.set rfl fun _ z => nomatch z⟩
theorem RZ.setOwn (r : RZ K ρ σ O W H) {i : Nat} {a : Addr} {vs : List V} {xs : List D} (e : tb H a = some (.lst vs)) (n : W a = none) (no : O a = false) (h : RpAll K W vs xs):
    RZ K (ρ.set i (.own xs)) (σ.set i (some (.ref a))) (fun b => O b || decide (b = a)) W H := ⟨r.toRS.setOwn e n no h, r.tz, r.ns.own no⟩
theorem rp_down (r : RZ K ρ σ O W H) {d : D} {v : V} (n : noL d = true) (h : Rp K (vw ρ σ al W (tb H)) v d) : Rp K W v d := rp_down0 r.toRS n h
theorem rpAll_down (r : RZ K ρ σ O W H) {ds : List D} {vs : List V} (n : noLs ds = true) (h : RpAll K (vw ρ σ al W (tb H)) vs ds) : RpAll K W vs ds := rpAll_down0 r.toRS n h
end

/-! ### readings -/
/-- what is wanted of a pure expression's value -/
def Post [Tbs] (K : PySem.W.Frag) (ρ : Rho) (σ : L2.St) (al : List Nat) (W H : Hp) (d : D) (Q : VK) : Prop :=
  ∀ v W' H', PZ W H W' H' → Rp K (vw ρ σ al W' (tb H')) v d → Q v H'
def tP [Tbs] (K : PySem.W.Frag) (f : Rho → Option D) (al : List Nat) : TE := fun σ H Q => ∃ ρ O W d, RZ K ρ σ O W H ∧ f ρ = some d ∧ Post K ρ σ al W H d Q
def tQ [Tbs] (K : PySem.W.Frag) (f : Rho → Option Bool) : TT := fun σ H Q => ∃ ρ O W b, RZ K ρ σ O W H ∧ f ρ = some b ∧ ∀ W' H', PZ W H W' H' → Q b H'
def tPs [Tbs] (K : PySem.W.Frag) (f : Rho → Option (List D)) (al : List Nat) : TA := fun σ H Q => ∃ ρ O W ds, RZ K ρ σ O W H ∧ f ρ = some ds ∧
  ∀ vs W' H', PZ W H W' H' → RpAll K (vw ρ σ al W' (tb H')) vs ds → Q vs H'
/-- a new list, held by nothing yet -/
def tN [Tbs] (K : PySem.W.Frag) (f : Rho → Option (List D)) (al : List Nat) : TE := fun σ H Q => ∃ ρ O W ds, RZ K ρ σ O W H ∧ f ρ = some ds ∧
  ∀ a vs W' H', PZ W H W' H' → tb H a = none → W' a = none → H' a = some (.lst vs) → RpAll K (vw ρ σ al W' (tb H')) vs ds → Q (.ref a) H'
abbrev DP [Tbs] (X : Cx) (e : Expr) (f : Rho → Option D) (al : List Nat) : Prop := PE X e (tP X.K f al)
abbrev DT [Tbs] (X : Cx) (e : Expr) (f : Rho → Option Bool) : Prop := PT X e (tQ X.K f)
abbrev DA [Tbs] (X : Cx) (es : List Expr) (f : Rho → Option (List D)) (al : List Nat) : Prop := PA X es (tPs X.K f al)
abbrev DN [Tbs] (X : Cx) (e : Expr) (f : Rho → Option (List D)) (al : List Nat) : Prop := PE X e (tN X.K f al)

theorem pe_imp {X : Cx} {e : Expr} {t t' : TE} (h : PE X e t) (i : ∀ σ H Q, t' σ H Q → t σ H Q) : PE X e t' := ⟨fun pins s σ H Q I q => h.run pins s σ H Q I (i σ H Q q)⟩
theorem pt_imp {X : Cx} {e : Expr} {t t' : TT} (h : PT X e t) (i : ∀ σ H Q, t' σ H Q → t σ H Q) : PT X e t' := ⟨fun pins s σ H Q I q => h.run pins s σ H Q I (i σ H Q q)⟩
theorem pw_imp {X : Cx} {e : Expr} {t t' : TT} (h : PW X e t) (i : ∀ σ H Q, t' σ H Q → t σ H Q) : PW X e t' := ⟨fun wh pins s σ H Q I q => h.run wh pins s σ H Q I (i σ H Q q)⟩
theorem pa_imp {X : Cx} {es : List Expr} {t t' : TA} (h : PA X es t) (i : ∀ σ H Q, t' σ H Q → t σ H Q) : PA X es t' := ⟨fun pos pins s σ H Q I q => h.run pos pins s σ H Q I (i σ H Q q)⟩
theorem ps_imp {X : Cx} {e : Stmt} {t t' : TS} (h : PS X e t) (i : ∀ D σ H, t' D σ H → t D σ H) : PS X e t' := ⟨fun pins s σ H D I q => h.run pins s σ H D I (i D σ H q)⟩
theorem pss_imp {X : Cx} {e : List Stmt} {t t' : TS} (h : PSs X e t) (i : ∀ D σ H, t' D σ H → t D σ H) : PSs X e t' := ⟨fun pins s σ H D I q => h.run pins s σ H D I (i D σ H q)⟩

section
variable [Tbs] {K : PySem.W.Frag} {ρ : Rho} {σ : L2.St} {O : Addr → Bool} {W H W' H' : Hp} {al bl : List Nat} {d : D} {Q : VK}
theorem Post.step (p : Post K ρ σ al W H d Q) (s : PZ W H W' H') : Post K ρ σ al W' H' d Q := fun v W2 H2 s2 h => p v W2 H2 (s.trans s2) h
theorem Post.here (p : Post K ρ σ al W H d Q) (s : Same W (tb H)) {v : V} (h : Rp K (vw ρ σ al W (tb H)) v d) : Q v H := p v W H (.refl s) h
theorem upd_step0 (s : Same W H) {p : Addr} (n : H p = none) (o : HO) : PStep W H (upd W p o) (upd H p o) where
  le := fun b u e => by
    rw [upd_ne (fun z => by subst z; rw [s b u e] at n; cases n)]
    exact e
  keep := fun b u e => by
    rw [upd_ne (ne_of_none e n)]
    exact e
  sub := fun b u e => by
    by_cases hb : b = p
    · subst hb; rw [upd_same] at e ⊢; exact e
    · rw [upd_ne hb] at e ⊢; exact s b u e
  new := fun b u e => by
    by_cases hb : b = p
    · subst hb; exact .inr n
    · rw [upd_ne hb] at e; exact .inl e
theorem upd_step (s : Same W (tb H)) {p : Addr} (n : H p = none) {o : HO} (ho : NT o) : PZ W H (upd W p o) (upd H p o) :=
  ⟨by rw [tb_upd ho]; exact upd_step0 s (tb_none n) o, tt_new n⟩
theorem Post.tup {ds : List D} (q : Post K ρ σ al W H (.tup ds) Q) (s : Same W (tb H)) {vs : List V} (h : RpAll K (vw ρ σ al W (tb H)) vs ds) {p : Addr} (n : H p = none) : Q (.ref p) (upd H p (.tup vs)) := by
  have st := upd_step s n (nt_tup (vs := vs))
  exact q _ _ _ st (.tup (.inl (.inl (vw_of p upd_same))) (rpAll_mono (vw_step st.toPStep) h))
theorem Post.lst {ds : List D} (q : Post K ρ σ al W H (.lst ds) Q) (s : Same W (tb H)) {vs : List V} (h : RpAll K (vw ρ σ al W (tb H)) vs ds) {p : Addr} (n : H p = none) : Q (.ref p) (upd H p (.lst vs)) := by
  have st := upd_step s n (nt_lst (vs := vs))
  exact q _ _ _ st (.lst (vw_of p upd_same) (rpAll_mono (vw_step st.toPStep) h))
theorem opt_bind {α β : Type} {x : Option α} {f : α → Option β} {b : β} (h : x.bind f = some b) : ∃ a, x = some a ∧ f a = some b := Option.bind_eq_some_iff.mp h
end
end DL

/-! The data layer, 2: expressions. -/
namespace DL
open PySem PySem.Spec L2
variable [Tbs]

/-! ### combinators -/
abbrev Ex := Rho → Option D
def eC (d : D) : Ex := fun _ => some d
def eV (i : Nat) : Ex := fun ρ => match ρ[i]? with
  | some (.val d) => some d
  | some (.own xs) => some (.lst xs)
  | some (.dic kvs) => some (.dct kvs)
  | _ => none
def e1 (g : D → Option D) (f : Ex) : Ex := fun ρ => (f ρ).bind g
def e2 (g : D → D → Option D) (f h : Ex) : Ex := fun ρ => (f ρ).bind fun x => (h ρ).bind fun y => g x y
abbrev Exs := Rho → Option (List D)
def esN : Exs := fun _ => some []
def esC (f : Ex) (fs : Exs) : Exs := fun ρ => (f ρ).bind fun x => (fs ρ).bind fun xs => some (x :: xs)
def eA (g : List D → Option D) (fs : Exs) : Ex := fun ρ => (fs ρ).bind g
abbrev Te := Rho → Option Bool
def dB : D → Option Bool
  | .bl b => some b
  | _ => none
def tE (f : Ex) : Te := fun ρ => (f ρ).bind dB
def eT (t : Te) : Ex := fun ρ => (t ρ).map D.bl
def tAn (t u : Te) : Te := fun ρ => (t ρ).bind fun b => if b = true then u ρ else some false
def tOr' (t u : Te) : Te := fun ρ => (t ρ).bind fun b => if b = true then some true else u ρ
def tNo (t : Te) : Te := fun ρ => (t ρ).map (!·)

/-! ### operations on data -/

def dAdd : D → D → Option D
  | .int i, .int j => some (.int (i + j))
  | .str x, .str y => if x.length + y.length ≤ 16777216 then some (.str (x ++ y)) else none
  | .tup xs, .tup ys => if xs.length + ys.length ≤ 16777216 then some (.tup (xs ++ ys)) else none
  | .lst xs, .lst ys => if xs.length + ys.length ≤ 16777216 then some (.lst (xs ++ ys)) else none
  | _, _ => none
def dSub : D → D → Option D
  | .int i, .int j => some (.int (i - j))
  | _, _ => none
def mulOk (i j : Int) : Bool := (decide (-(2 ^ 64) < i) && decide (i < 2 ^ 64)) || (decide (-(2 ^ 64) < j) && decide (j < 2 ^ 64)) || (decide (i.natAbs < 2 ^ 400) && decide (j.natAbs < 2 ^ 400))
def dMul : D → D → Option D
  | .int i, .int j => if mulOk i j = true then some (.int (i * j)) else none
  | .str x, .int n => if x.length ≤ 1000 ∧ -1000 ≤ n ∧ n ≤ 1000 then some (.str (Txt.mul x n)) else none
  | .lst xs, .int n => if xs.length ≤ 1000 ∧ -1000 ≤ n ∧ n ≤ 1000 then some (.lst (List.replicate n.toNat xs).flatten) else none
  | _, _ => none
def dDiv : D → D → Option D
  | .int i, .int j => if 0 < j ∧ j < 2 ^ 200 then some (.int (i / j)) else none
  | _, _ => none
def dMod : D → D → Option D
  | .int i, .int j => if 0 < j then some (.int (i % j)) else none
  | _, _ => none
def dPow : D → D → Option D
  | .int i, .int j => if 0 ≤ j ∧ j ≤ 1000 ∧ -(2 ^ 60) < i ∧ i < 2 ^ 60 then some (.int (i ^ j.toNat)) else none
  | _, _ => none
def dNeg : D → Option D
  | .int i => some (.int (-i))
  | _ => none

/-! ### equality -/
mutual
/-- no script, no dict within -/
def pl : D → Bool
  | .non => true
  | .bl _ => true
  | .int _ => true
  | .str _ => true
  | .tup xs => pls xs
  | .lst xs => pls xs
  | _ => false
def pls : List D → Bool
  | [] => true
  | x :: xs => pl x && pls xs
end
mutual
def py : D → PyData
  | .bl b => .bool b
  | .int i => .int i
  | .str x => .str x
  | .tup xs => .tuple (pys xs)
  | .lst xs => .list (pys xs)
  | _ => .none
def pys : List D → List PyData
  | [] => []
  | x :: xs => py x :: pys xs
end
mutual
def dpt : D → Nat
  | .tup xs => dpts xs + 1
  | .lst xs => dpts xs + 1
  | _ => 0
def dpts : List D → Nat
  | [] => 0
  | x :: xs => max (dpt x) (dpts xs)
end
mutual
/-- Python's == -/
def deq : D → D → Bool
  | .non, .non => true
  | .bl a, .bl b => a == b
  | .bl a, .int b => (if a then 1 else 0) == b
  | .int a, .bl b => a == (if b then 1 else 0)
  | .int a, .int b => a == b
  | .str a, .str b => a == b
  | .tup xs, .tup ys => deqs xs ys
  | .lst xs, .lst ys => deqs xs ys
  | _, _ => false
def deqs : List D → List D → Bool
  | [], [] => true
  | x :: xs, y :: ys => deq x y && deqs xs ys
  | _, _ => false
end
/-- == -/
def dEqG (x y : D) : Option Bool := if (pl x && pl y && decide (min (dpt x) (dpt y) ≤ 160)) = true then some (deq x y) else none
def dEqB : D → D → Option Bool
  | .lst xs, .lst [] => some xs.isEmpty
  | x, y => dEqG x y
def dEq (x y : D) : Option D := (dEqB x y).map .bl
def dNe (x y : D) : Option D := (dEqB x y).map fun b => .bl (!b)
def dCmp (p : Int → Int → Bool) : D → D → Option D
  | .int i, .int j => some (.bl (p i j))
  | _, _ => none

mutual
theorem py_plain : ∀ d : D, (py d).plain = true
  | .non => rfl
  | .bl _ => rfl
  | .int _ => rfl
  | .str _ => rfl
  | .tup xs => by simp only [py, PyData.plain]; exact pys_plain xs
  | .lst xs => by simp only [py, PyData.plain]; exact pys_plain xs
  | .scr _ => rfl
  | .dct _ => rfl
  | .fn _ _ => rfl
theorem pys_plain : ∀ ds : List D, PyData.plainAll (pys ds) = true
  | [] => rfl
  | d :: ds => by simp only [pys, PyData.plainAll, py_plain d, pys_plain ds, Bool.and_self]
end
mutual
theorem py_depth : ∀ d : D, (py d).depth = dpt d
  | .non => rfl
  | .bl _ => rfl
  | .int _ => rfl
  | .str _ => rfl
  | .tup xs => by simp only [py, PyData.depth, dpt, pys_depth xs]
  | .lst xs => by simp only [py, PyData.depth, dpt, pys_depth xs]
  | .scr _ => rfl
  | .dct _ => rfl
  | .fn _ _ => rfl
theorem pys_depth : ∀ ds : List D, PyData.depthAll (pys ds) = dpts ds
  | [] => rfl
  | d :: ds => by simp only [pys, PyData.depthAll, dpts, py_depth d, pys_depth ds]
end
mutual
theorem py_eqv : ∀ {x y : D}, pl x = true → pl y = true → PyData.eqv (py x) (py y) = deq x y
  | .tup xs, .tup ys, hx, hy => by
    simp only [py, PyData.eqv, deq]
    exact pys_eqv (by simpa [pl] using hx) (by simpa [pl] using hy)
  | .lst xs, .lst ys, hx, hy => by
    simp only [py, PyData.eqv, deq]
    exact pys_eqv (by simpa [pl] using hx) (by simpa [pl] using hy)
  | .non, y, _, h => by cases y <;> first | (simp [pl] at h; done) | simp [py, PyData.eqv, deq]
  | .bl _, y, _, h => by cases y <;> first | (simp [pl] at h; done) | simp [py, PyData.eqv, deq]
  | .int _, y, _, h => by cases y <;> first | (simp [pl] at h; done) | simp [py, PyData.eqv, deq]
  | .str _, y, _, h => by cases y <;> first | (simp [pl] at h; done) | simp [py, PyData.eqv, deq]
  | .tup _, .non, _, _ => by simp [py, PyData.eqv, deq]
  | .tup _, .bl _, _, _ => by simp [py, PyData.eqv, deq]
  | .tup _, .int _, _, _ => by simp [py, PyData.eqv, deq]
  | .tup _, .str _, _, _ => by simp [py, PyData.eqv, deq]
  | .tup _, .lst _, _, _ => by simp [py, PyData.eqv, deq]
  | .lst _, .non, _, _ => by simp [py, PyData.eqv, deq]
  | .lst _, .bl _, _, _ => by simp [py, PyData.eqv, deq]
  | .lst _, .int _, _, _ => by simp [py, PyData.eqv, deq]
  | .lst _, .str _, _, _ => by simp [py, PyData.eqv, deq]
  | .lst _, .tup _, _, _ => by simp [py, PyData.eqv, deq]
  | .scr _, _, h, _ => by simp [pl] at h
  | .dct _, _, h, _ => by simp [pl] at h
  | .fn _ _, _, h, _ => by simp [pl] at h
  | .tup _, .scr _, _, h => by simp [pl] at h
  | .tup _, .dct _, _, h => by simp [pl] at h
  | .tup _, .fn _ _, _, h => by simp [pl] at h
  | .lst _, .scr _, _, h => by simp [pl] at h
  | .lst _, .dct _, _, h => by simp [pl] at h
  | .lst _, .fn _ _, _, h => by simp [pl] at h
theorem pys_eqv : ∀ {xs ys : List D}, pls xs = true → pls ys = true → PyData.eqvAll (pys xs) (pys ys) = deqs xs ys
  | [], [], _, _ => by simp [pys, PyData.eqvAll, deqs]
  | [], _ :: _, _, _ => by simp [pys, PyData.eqvAll, deqs]
  | _ :: _, [], _, _ => by simp [pys, PyData.eqvAll, deqs]
  | x :: xs, y :: ys, hx, hy => by
    simp only [pls, Bool.and_eq_true] at hx hy
    simp only [pys, PyData.eqvAll, deqs, py_eqv hx.1 hy.1, pys_eqv hx.2 hy.2]
end
mutual
theorem rp_dp {K : PySem.W.Frag} {H : Hp} : ∀ {d : D} {v : V}, pl d = true → Rp K H v d → Dp K H v (py d)
  | .non, _, _, .non => .non
  | .bl _, _, _, .bl b => .bl b
  | .int _, _, _, .int i => .int i
  | .str _, _, _, .str x => .str x
  | .tup ds, _, e, .tup h a => .tup h (rpAll_dp (by simpa [pl] using e) a)
  | .lst ds, _, e, .lst h a => .lst (.inl (.inl h)) (rpAll_dp (by simpa [pl] using e) a)
  | .scr _, _, e, _ => by simp [pl] at e
  | .dct _, _, e, _ => by simp [pl] at e
  | .fn _ _, _, e, _ => by simp [pl] at e
theorem rpAll_dp {K : PySem.W.Frag} {H : Hp} : ∀ {ds : List D} {vs : List V}, pls ds = true → RpAll K H vs ds → DpAll K H vs (pys ds)
  | [], _, _, .nil => .nil
  | d :: ds, _, e, .cons h t => by
    simp only [pls, Bool.and_eq_true] at e
    exact .cons (rp_dp e.1 h) (rpAll_dp e.2 t)
end

section
variable {X : Cx} {a b : Expr} {f g h : Ex} {al bl cl : List Nat} {pos : Pos}
/-! ### names, constants -/
theorem dp_const {e : Expr} {v : V} {d : D} (h : PE X e (tC v)) (hr : ∀ H, Rp X.K H v d) : DP X e (eC d) [] := pe_imp h fun σ H Q ⟨ρ, O, W, d', r, e, q⟩ => by
  cases e
  exact q.here r.sub (hr _)
theorem dp_int {i j pos} : DP X (.Constant (.int i) j pos) (eC (.int i)) [] := dp_const pe_int fun _ => .int i
theorem dp_bl {i j pos} : DP X (.Constant (.bool i) j pos) (eC (.bl i)) [] := dp_const pe_bl fun _ => .bl i
theorem dp_str {i j pos} : DP X (.Constant (.str i) j pos) (eC (.str i)) [] := dp_const pe_str fun _ => .str i
theorem dp_non {j pos} : DP X (.Constant .none j pos) (eC .non) [] := dp_const pe_non fun _ => .non
theorem dp_var (i : Nat) {e : Expr} (h : PE X e (tVar i)) : DP X e (eV i) [i] := pe_imp h fun σ H Q ⟨ρ, O, W, d, r, e, q⟩ => by
  unfold eV at e
  split at e
  · rename_i d' q'
    cases e
    obtain ⟨v, h1, h2⟩ := r.vals i _ q'
    exact ⟨v, h1, q.here r.sub (rp_mono vw_le h2)⟩
  · rename_i xs q'
    cases e
    obtain ⟨a, vs, h1, h2, h3, h4⟩ := r.owns i _ q'
    exact ⟨.ref a, h1, q.here r.sub (.lst (vw_own (i := i) (by simp) (own1_iff.mpr ⟨_, q', h1⟩) h3 r.sub) (rpAll_mono vw_le h4))⟩
  · rename_i xs q'
    cases e
    obtain ⟨a, vs, h1, h2, h3, h4⟩ := r.dics i _ q'
    exact ⟨.ref a, h1, q.here r.sub (.dct (.inl (vw_own (i := i) (by simp) (own1_iff.mpr ⟨_, q', h1⟩) h3 r.sub)) (rpKv_mono vw_le h4))⟩
  · cases e

/-! ### two in a row -/
theorem seq2 {r : R2} {g : D → D → Option D} {f1 f2 : Ex} {K : PySem.W.Frag}
    (hg : ∀ (ρ : Rho) (σ : L2.St) (O : Addr → Bool) (W H : Hp) (v1 v2 : V) (x y d : D) (Q : VK), RZ K ρ σ O W H → g x y = some d → Rp K (vw ρ σ (al ++ bl) W (tb H)) v1 x → Rp K (vw ρ σ (al ++ bl) W (tb H)) v2 y → Post K ρ σ cl W H d Q → r v1 v2 H Q)
    (σ : L2.St) (H : Hp) (Q : VK) (h : tP K (e2 g f1 f2) cl σ H Q) : tOp r (tP K f1 al) (tP K f2 bl) σ H Q := by
  obtain ⟨ρ, O, W, d, rs, e, q⟩ := h
  obtain ⟨x, h1, e⟩ := opt_bind e
  obtain ⟨y, h2, e⟩ := opt_bind e
  refine ⟨ρ, O, W, x, rs, h1, fun v1 W1 H1 s1 p1 => ⟨ρ, O, W1, y, rs.pstep s1, h2, fun v2 W2 H2 s2 p2 => ?_⟩⟩
  have s := s1.trans s2
  exact hg ρ σ O W2 H2 v1 v2 x y d Q (rs.pstep s) e (rp_mono (vw_l s.sub) (rp_mono (vw_step s2.toPStep) p1)) (rp_mono (vw_r s.sub) p2) (q.step s)
theorem dp_bin {op : Operator} {r : R2} {g : D → D → Option D} {f1 f2 : Ex} (ho : OpR X (binaryOp op) r)
    (hg : ∀ (ρ : Rho) (σ : L2.St) (O : Addr → Bool) (W H : Hp) (v1 v2 : V) (x y d : D) (Q : VK), RZ X.K ρ σ O W H → g x y = some d → Rp X.K (vw ρ σ (al ++ bl) W (tb H)) v1 x → Rp X.K (vw ρ σ (al ++ bl) W (tb H)) v2 y → Post X.K ρ σ cl W H d Q → r v1 v2 H Q)
    (ha : DP X a f1 al) (hb : DP X b f2 bl) : DP X (.BinOp a op b pos) (e2 g f1 f2) cl := pe_imp (pe_op ho ha hb) (seq2 hg)
/-- a comparison, as a value or a test -/
abbrev DC (X : Cx) (op : CmpOp) (a b : Expr) (f : Ex) : Prop := PC X op a b (tP X.K f [])
theorem pc_imp {op : CmpOp} {t t' : TE} (h : PC X op a b t) (i : ∀ σ H Q, t' σ H Q → t σ H Q) : PC X op a b t' := ⟨fun pins s σ H Q I q => h.run pins s σ H Q I (i σ H Q q)⟩
theorem pc_R {op : CmpOp} {r : R2} {ta tb : TE} (ho : OpR X (compareOp op) r) (ha : PE X a ta) (hb : PE X b tb) : PC X op a b (tOp r ta tb) :=
  ⟨fun pins s σ H Q I h => bin ha hb I h fun v u s2 x y H2 I2 rx ry q => ho pins s2 σ H2 x y v u Q I2 rx ry q⟩
theorem dc_mk {op : CmpOp} {r : R2} {g : D → D → Option D} {f1 f2 : Ex} (ho : OpR X (compareOp op) r)
    (hg : ∀ (ρ : Rho) (σ : L2.St) (O : Addr → Bool) (W H : Hp) (v1 v2 : V) (x y d : D) (Q : VK), RZ X.K ρ σ O W H → g x y = some d → Rp X.K (vw ρ σ (al ++ bl) W (tb H)) v1 x → Rp X.K (vw ρ σ (al ++ bl) W (tb H)) v2 y → Post X.K ρ σ [] W H d Q → r v1 v2 H Q)
    (ha : DP X a f1 al) (hb : DP X b f2 bl) : DC X op a b (e2 g f1 f2) := pc_imp (pc_R ho ha hb) (seq2 hg)
theorem dp_c {op : CmpOp} (h : DC X op a b f) (hm : behindInMarks op b = false := by rfl) : DP X (.Compare a [op] [b] pos) f [] := pe_cmp h hm
theorem dt_c {op : CmpOp} (h : DC X op a b f) (hm : behindInMarks op b = false := by rfl) : DT X (.Compare a [op] [b] pos) (tE f) := pt_imp (pt_cmp h hm) fun σ H Q ⟨ρ, O, W, b, rs, e, q⟩ => by
  obtain ⟨x, h1, e⟩ := opt_bind e
  refine ⟨ρ, O, W, x, rs, h1, fun v1 W1 H1 s1 p1 => ?_⟩
  unfold dB at e
  split at e
  · cases e; cases p1
    exact ⟨_, rfl, q _ _ s1⟩
  · cases e

/-! ### arithmetic -/
theorem line_eq : sizeLine = 16777216 := sizeLine_eq
theorem rp_tup {K : PySem.W.Frag} {H : Hp} {v : V} {ds : List D} (h : Rp K H v (.tup ds)) : ∃ a xs, v = .ref a ∧ SqT K H a xs ∧ RpAll K H xs ds := by
  cases h with
  | tup h a => exact ⟨_, _, rfl, h, a⟩
theorem rp_lst {K : PySem.W.Frag} {H : Hp} {v : V} {ds : List D} (h : Rp K H v (.lst ds)) : ∃ a xs, v = .ref a ∧ H a = some (.lst xs) ∧ RpAll K H xs ds := by
  cases h with
  | lst h a => exact ⟨_, _, rfl, h, a⟩
theorem RpAll.nil_iff {K : PySem.W.Frag} {H : Hp} {vs : List V} {ds : List D} (h : RpAll K H vs ds) : vs = [] ↔ ds = [] := by
  cases h <;> simp
theorem dp_add (ha : DP X a f al) (hb : DP X b g bl) : DP X (.BinOp a .Add b pos) (e2 dAdd f g) (al ++ bl) := by
  refine dp_bin (op_add.or (op_add_str.or (op_catA.or op_cat))) (fun ρ σ O W H v1 v2 x y d Q r e p1 p2 q => ?_) ha hb
  unfold dAdd at e
  split at e
  · cases e; cases p1; cases p2
    exact .inl ⟨_, _, rfl, rfl, q.here r.sub (.int _)⟩
  · split at e
    · cases e; cases p1; cases p2
      rename_i hz
      exact .inr (.inl ⟨_, _, rfl, rfl, by rw [line_eq]; exact hz, q.here r.sub (.str _)⟩)
    · cases e
  · split at e
    · rename_i hz
      cases e
      obtain ⟨p, xs, rfl, s1, a1⟩ := rp_tup p1
      obtain ⟨p', ys, rfl, s2, a2⟩ := rp_tup p2
      have sb := (vw_sub (ρ := ρ) (σ := σ) (al := al ++ bl) r.sub).trans tb_le
      refine .inr (.inr (.inl ⟨p, p', xs, ys, rfl, rfl, sqT_mono sb s1, sqT_mono sb s2, by rw [line_eq, a1.length, a2.length]; exact hz, fun z => ?_, fun _ z => ?_, fun _ z l nl => ?_⟩))
      · have e0 := a1.nil_iff.mp z
        rw [e0, List.nil_append] at q
        exact q.here r.sub (.tup s2 a2)
      · have e0 := a2.nil_iff.mp z
        rw [e0, List.append_nil] at q
        exact q.here r.sub (.tup s1 a1)
      · exact q.tup r.sub (a1.append a2) nl
    · cases e
  · split at e
    · rename_i hz
      cases e
      obtain ⟨p, xs, rfl, s1, a1⟩ := rp_lst p1
      obtain ⟨p', ys, rfl, s2, a2⟩ := rp_lst p2
      have sb := (vw_sub (ρ := ρ) (σ := σ) (al := al ++ bl) r.sub).trans tb_le
      exact .inr (.inr (.inr ⟨p, p', xs, ys, rfl, rfl, sb _ _ s1, sb _ _ s2, by rw [line_eq, a1.length, a2.length]; exact hz, fun l nl => q.lst r.sub (a1.append a2) nl⟩))
    · cases e
  · cases e
theorem dp_sub (ha : DP X a f al) (hb : DP X b g bl) : DP X (.BinOp a .Sub b pos) (e2 dSub f g) [] := by
  refine dp_bin op_sub (fun ρ σ O W H v1 v2 x y d Q r e p1 p2 q => ?_) ha hb
  unfold dSub at e
  split at e
  · cases e; cases p1; cases p2
    exact ⟨_, _, rfl, rfl, q.here r.sub (.int _)⟩
  · cases e
theorem op_mul_str : OpR X (binaryOp .Mult) (fun x y H Q => ∃ z n, x = .str z ∧ y = .int n ∧ MulOk z n ∧ Q (.str (Txt.mul z n)) H) := by
  intro pins s σ H x y v u Q I rx ry h
  obtain ⟨z, n, rfl, rfl, ok, q⟩ := h
  obtain ⟨t, rfl⟩ := rx
  obtain ⟨t', rfl⟩ := ry
  exact SB.mul ok fun t' k => ⟨.str _, H, I.tok _, ⟨_, rfl⟩, q⟩
theorem mulOk_str {z : Str} {n : Int} (h : z.length ≤ 1000 ∧ -1000 ≤ n ∧ n ≤ 1000) : MulOk z n := by
  obtain ⟨h1, h2, h3⟩ := h
  refine ⟨?_, fun _ _ => ?_, fun _ _ => ?_⟩
  · rw [Bool.or_eq_false_iff]
    exact ⟨decide_eq_false (by omega), decide_eq_false (by omega)⟩
  · have hn : 0 < n := by omega
    have : (1000 : Int) ≤ (2 ^ 63 - 1) / n := Int.le_ediv_of_mul_le hn (by omega)
    omega
  · have : z.length * n.toNat ≤ 1000 * 1000 := Nat.mul_le_mul h1 (by omega)
    unfold Builtin.Str.tooLong
    have h9 := sizeLine_eq
    exact decide_eq_false (by omega)
theorem mulOk_of {i j : Int} (h : mulOk i j = true) : CMul i j ∨ CMulW i j := by
  unfold mulOk at h
  simp only [Bool.or_eq_true, Bool.and_eq_true, decide_eq_true_eq] at h
  rcases h with (h | h) | h
  · exact .inl (.inl h)
  · exact .inl (.inr h)
  · exact .inr (wide_mul (a := 400) (b := 400) h.1 h.2 (by decide) (by decide) (by decide))
theorem dp_mul (ha : DP X a f al) (hb : DP X b g bl) : DP X (.BinOp a .Mult b pos) (e2 dMul f g) (al ++ bl) := by
  refine dp_bin (op_mul.or (op_mulW.or (op_mul_str.or op_rep))) (fun ρ σ O W H v1 v2 x y d Q r e p1 p2 q => ?_) ha hb
  unfold dMul at e
  split at e
  · split at e
    · rename_i hz
      cases e; cases p1; cases p2
      rcases mulOk_of hz with z | z
      · exact .inl ⟨_, _, rfl, rfl, z, q.here r.sub (.int _)⟩
      · exact .inr (.inl ⟨_, _, rfl, rfl, z, q.here r.sub (.int _)⟩)
    · cases e
  · split at e
    · rename_i hz
      cases e; cases p1; cases p2
      exact .inr (.inr (.inl ⟨_, _, rfl, rfl, mulOk_str hz, q.here r.sub (.str _)⟩))
    · cases e
  · split at e
    · rename_i n hz
      cases e; cases p2
      obtain ⟨p, xs, rfl, s1, a1⟩ := rp_lst p1
      have sb := (vw_sub (ρ := ρ) (σ := σ) (al := al ++ bl) r.sub).trans tb_le
      refine .inr (.inr (.inr ⟨p, _, xs, rfl, rfl, sb _ _ s1, by omega, by omega, ?_, fun l nl => q.lst r.sub ?_ nl⟩))
      · rw [a1.length, line_eq]
        have : _ * n.toNat ≤ 1000 * 1000 := Nat.mul_le_mul hz.1 (by omega)
        exact Nat.le_trans this (by decide)
      · generalize n.toNat = k
        induction k with
        | zero => exact .nil
        | succ k ih => rw [List.replicate_succ, List.replicate_succ]; exact a1.append ih
    · cases e
  · cases e
theorem dp_div (ha : DP X a f al) (hb : DP X b g bl) : DP X (.BinOp a .FloorDiv b pos) (e2 dDiv f g) [] := by
  refine dp_bin op_fdivW (fun ρ σ O W H v1 v2 x y d Q r e p1 p2 q => ?_) ha hb
  unfold dDiv at e
  split at e
  · split at e
    · rename_i hz
      cases e; cases p1; cases p2
      exact ⟨_, _, rfl, rfl, wide_div (b := 200) hz.1 (by omega) (by decide) (by decide), q.here r.sub (.int _)⟩
    · cases e
  · cases e
theorem dp_mod (ha : DP X a f al) (hb : DP X b g bl) : DP X (.BinOp a .Mod b pos) (e2 dMod f g) [] := by
  refine dp_bin op_mod (fun ρ σ O W H v1 v2 x y d Q r e p1 p2 q => ?_) ha hb
  unfold dMod at e
  split at e
  · split at e
    · rename_i hz
      cases e; cases p1; cases p2
      exact ⟨_, _, rfl, rfl, hz, q.here r.sub (.int _)⟩
    · cases e
  · cases e
theorem dp_pow (ha : DP X a f al) (hb : DP X b g bl) : DP X (.BinOp a .Pow b pos) (e2 dPow f g) [] := by
  refine dp_bin op_pow (fun ρ σ O W H v1 v2 x y d Q r e p1 p2 q => ?_) ha hb
  unfold dPow at e
  split at e
  · split at e
    · rename_i hz
      cases e; cases p1; cases p2
      exact ⟨_, _, rfl, rfl, ⟨hz.1, by omega, by omega⟩, q.here r.sub (.int _)⟩
    · cases e
  · cases e
theorem dp_neg (ha : DP X a f al) : DP X (.UnaryOp .USub a pos) (e1 dNeg f) [] := pe_imp (pe_un un_neg ha) fun σ H Q ⟨ρ, O, W, d, rs, e, q⟩ => by
  obtain ⟨x, h1, e⟩ := opt_bind e
  refine ⟨ρ, O, W, x, rs, h1, fun v1 W1 H1 s1 p1 => ?_⟩
  unfold dNeg at e
  split at e
  · cases e; cases p1
    exact ⟨_, rfl, (q.step s1).here s1.sub (.int _)⟩
  · cases e

/-! ### comparisons -/
theorem cmp_I {op : CmpOp} {p : Int → Int → Bool} (ho : OpR X (compareOp op) (rI0 fun i j => .bl (p i j))) (ha : DP X a f al) (hb : DP X b g bl) : DC X op a b (e2 (dCmp p) f g) := by
  refine dc_mk ho (fun ρ σ O W H v1 v2 x y d Q r e p1 p2 q => ?_) ha hb
  unfold dCmp at e
  split at e
  · cases e; cases p1; cases p2
    exact ⟨_, _, rfl, rfl, q.here r.sub (.bl _)⟩
  · cases e
abbrev pLt (i j : Int) : Bool := decide (i < j)
abbrev pLe (i j : Int) : Bool := decide (i ≤ j)
abbrev pGt (i j : Int) : Bool := decide (j < i)
abbrev pGe (i j : Int) : Bool := decide (j ≤ i)
theorem dc_lt (ha : DP X a f al) (hb : DP X b g bl) : DC X .Lt a b (e2 (dCmp pLt) f g) := cmp_I op_lt ha hb
theorem dc_le (ha : DP X a f al) (hb : DP X b g bl) : DC X .LtE a b (e2 (dCmp pLe) f g) := cmp_I op_le ha hb
theorem dc_gt (ha : DP X a f al) (hb : DP X b g bl) : DC X .Gt a b (e2 (dCmp pGt) f g) := cmp_I op_gt ha hb
theorem dc_ge (ha : DP X a f al) (hb : DP X b g bl) : DC X .GtE a b (e2 (dCmp pGe) f g) := cmp_I op_ge ha hb
theorem dp_dp_mono {K : PySem.W.Frag} {W W' : Hp} (s : Same W W') : ∀ {p : PyData} {v : V}, Dp K W v p → Dp K W' v p := by
  intro p v h
  exact Dp.rec (motive_1 := fun v d _ => Dp K W' v d) (motive_2 := fun vs ds _ => DpAll K W' vs ds) .non .bl .int .str (fun h _ ih => .lst (sqL_mono s h) ih) (fun h _ ih => .tup (sqT_mono s h) ih) .nil (fun _ _ h t => .cons h t) h
def rEqP (K : PySem.W.Frag) (neg : Bool) : R2 := fun x y H Q => ∃ d e, Dp K H x d ∧ Dp K H y e ∧ d.plain = true ∧ e.plain = true ∧ min d.depth e.depth ≤ 160 ∧ Q (.bl (if neg = true then !PyData.eqv d e else PyData.eqv d e)) H
theorem op_eqP (hu : X.A.units + 190 < cLine) : OpR X (compareOp .Eq) (rEqP X.K false) := by
  intro pins s σ H x y v u Q I rx ry h
  obtain ⟨d, e, hd, he, sd, se, dd, q⟩ := h
  obtain ⟨as, r1⟩ := Dp.reads I d x v hd rx
  obtain ⟨bs, r2⟩ := Dp.reads I e y u he ry
  exact SeqAt.eq_plain r1 r2 sd se (by omega) ⟨.bl _, H, I, rfl, q⟩
theorem op_neP (hu : X.A.units + 190 < cLine) : OpR X (compareOp .NotEq) (rEqP X.K true) := by
  intro pins s σ H x y v u Q I rx ry h
  obtain ⟨d, e, hd, he, sd, se, dd, q⟩ := h
  obtain ⟨as, r1⟩ := Dp.reads I d x v hd rx
  obtain ⟨bs, r2⟩ := Dp.reads I e y u he ry
  exact SeqAt.ne_plain r1 r2 sd se (by omega) ⟨.bl _, H, I, rfl, q⟩
/-- a list and the empty list -/
def rEqE (K : PySem.W.Frag) (neg : Bool) : R2 := fun x y H Q => ∃ a b xs, x = .ref a ∧ y = .ref b ∧ SqL K H a xs ∧ SqL K H b [] ∧ Q (.bl (if neg = true then !xs.isEmpty else xs.isEmpty)) H
theorem op_eqE (hu : X.A.units + 190 < cLine) : OpR X (compareOp .Eq) (rEqE X.K false) := by
  intro pins s σ H x y v u Q I rx ry h
  obtain ⟨a, b, xs, rfl, rfl, ha, hb, q⟩ := h
  cases rx; cases ry
  obtain ⟨its, r1, p1, _⟩ := I.list ha
  obtain ⟨its2, r2, p2, _⟩ := I.list hb
  cases r2
  cases r1 with
  | nil => exact SeqAt.eq_listAt (e := fun _ => true) p1.isList p2.isList rfl (by omega) (fun j h1 _ => absurd h1 (Nat.not_lt_zero j)) ⟨.bl true, H, I, rfl, q⟩
  | cons _ _ => exact SeqAt.eq_list_lengthsAt p1.isList p2.isList (by simp) (by omega) ⟨.bl false, H, I, rfl, q⟩
theorem op_neE (hu : X.A.units + 190 < cLine) : OpR X (compareOp .NotEq) (rEqE X.K true) := by
  intro pins s σ H x y v u Q I rx ry h
  obtain ⟨a, b, xs, rfl, rfl, ha, hb, q⟩ := h
  cases rx; cases ry
  obtain ⟨its, r1, p1, _⟩ := I.list ha
  obtain ⟨its2, r2, p2, _⟩ := I.list hb
  cases r2
  cases r1 with
  | nil => exact SeqAt.RcNeAt.lists (e := fun _ => true) p1.isList p2.isList rfl (by omega) (fun j h1 _ => absurd h1 (Nat.not_lt_zero j)) X.prog X.w X.xe _ ⟨.bl false, H, I, rfl, q⟩
  | cons _ _ => exact SeqAt.RcNeAt.lists_lengths p1.isList p2.isList (by simp) (by omega) X.prog X.w X.xe _ ⟨.bl true, H, I, rfl, q⟩
theorem dEqG_of {x y : D} {c : Bool} (e : dEqG x y = some c) : pl x = true ∧ pl y = true ∧ min (dpt x) (dpt y) ≤ 160 ∧ c = deq x y := by
  unfold dEqG at e
  split at e
  · rename_i h
    simp only [Bool.and_eq_true, decide_eq_true_eq] at h
    exact ⟨h.1.1, h.1.2, h.2, (Option.some.inj e).symm⟩
  · cases e
theorem dc_eqs {op : CmpOp} {neg : Bool} {k : D → D → Option D} (hk : ∀ x y, k x y = (dEqB x y).map fun b => .bl (if neg = true then !b else b)) (ho : OpR X (compareOp op) (fun x y H Q => rEqP X.K neg x y H Q ∨ rEqE X.K neg x y H Q)) (ha : DP X a f al) (hb : DP X b g bl) : DC X op a b (e2 k f g) := by
  refine dc_mk ho (fun ρ σ O W H v1 v2 x y d Q r e p1 p2 q => ?_) ha hb
  rw [hk] at e
  obtain ⟨c, e1, rfl⟩ := Option.map_eq_some_iff.mp e
  have sb := (vw_sub (ρ := ρ) (σ := σ) (al := al ++ bl) r.sub).trans tb_le
  have gen : dEqG x y = some c → rEqP X.K neg v1 v2 H Q := fun e1 => by
    obtain ⟨h1, h2, h3, rfl⟩ := dEqG_of e1
    refine ⟨py x, py y, dp_dp_mono sb (rp_dp h1 p1), dp_dp_mono sb (rp_dp h2 p2), py_plain x, py_plain y, by rw [py_depth, py_depth]; exact h3, ?_⟩
    rw [py_eqv h1 h2]
    exact q.here r.sub (.bl _)
  unfold dEqB at e1
  split at e1
  · cases e1
    obtain ⟨a', vs, rfl, k1, ra⟩ := rp_lst p1
    obtain ⟨b', us, rfl, k2, rb⟩ := rp_lst p2
    cases rb
    refine .inr ⟨a', b', vs, rfl, rfl, sqL_mono sb (.inl (.inl k1)), sqL_mono sb (.inl (.inl k2)), ?_⟩
    cases ra with
    | nil => exact q.here r.sub (.bl _)
    | cons _ _ => exact q.here r.sub (.bl _)
  · exact .inl (gen e1)
theorem dc_eq (hu : X.A.units + 190 < cLine) (ha : DP X a f al) (hb : DP X b g bl) : DC X .Eq a b (e2 dEq f g) := dc_eqs (neg := false) (fun x y => by unfold dEq; rfl) ((op_eqP hu).or (op_eqE hu)) ha hb
theorem dc_ne (hu : X.A.units + 190 < cLine) (ha : DP X a f al) (hb : DP X b g bl) : DC X .NotEq a b (e2 dNe f g) := dc_eqs (neg := true) (fun x y => by unfold dNe; rfl) ((op_neP hu).or (op_neE hu)) ha hb
end
end DL

/-! The data layer, 3: in, tests, items, slices, displays, calls. -/
namespace DL
open PySem PySem.Spec L2
variable [Tbs]

/-! ### in -/
def dInB (x : D) (ys : List D) : Option Bool := if (pl x && pls ys && decide (min (dpts ys) (dpt x) ≤ 60)) = true then some (ys.any fun y => deq y x) else none
/-- x stands in y -/
def found (y x : Str) : Bool := !(Builtin.Str.occurrences y x 0 y.length 1).isEmpty
def dInO : D → D → Option Bool
  | x, .lst ys => dInB x ys
  | x, .tup ys => dInB x ys
  | x, .scr ns => dInB x (ns.map .int)
  | .str x, .str y => match x.cps.toList with
    | [c] => some (decide (c ∈ y.cps.toList))
    | _ => some (found y x)
  | _, _ => none
def dIn (x y : D) : Option D := (dInO x y).map .bl
def dNotIn (x y : D) : Option D := (dInO x y).map fun b => .bl (!b)
theorem dInB_of {x : D} {ys : List D} {c : Bool} (e : dInB x ys = some c) : pl x = true ∧ pls ys = true ∧ min (dpts ys) (dpt x) ≤ 60 ∧ c = ys.any fun y => deq y x := by
  unfold dInB at e
  split at e
  · rename_i h
    simp only [Bool.and_eq_true, decide_eq_true_eq] at h
    exact ⟨h.1.1, h.1.2, h.2, (Option.some.inj e).symm⟩
  · cases e
theorem any_py {x : D} (hx : pl x = true) : ∀ {ys : List D}, pls ys = true → ((pys ys).any fun z => PyData.eqv z (py x)) = ys.any fun y => deq y x
  | [], _ => rfl
  | y :: ys, h => by
    simp only [pls, Bool.and_eq_true] at h
    simp only [pys, List.any_cons, py_eqv h.1 hx, any_py hx h.2]
def rInP (K : PySem.W.Frag) (neg : Bool) : R2 := fun x y H Q => ∃ d ds, Dp K H x d ∧ (Dp K H y (.list ds) ∨ Dp K H y (.tuple ds)) ∧ d.plain = true ∧ PyData.plainAll ds = true ∧ min (PyData.depthAll ds) d.depth ≤ 60 ∧
  Q (.bl (if neg = true then !(ds.any fun z => PyData.eqv z d) else ds.any fun z => PyData.eqv z d)) H
section
variable {X : Cx}
theorem op_inP (hu : X.A.units + 65 < cLine) : OpR X (compareOp .In) (rInP X.K false) := by
  intro pins s σ H x y v u Q I rx ry h
  obtain ⟨d, ds, hd, he, sd, se, dd, q⟩ := h
  obtain ⟨as, r1⟩ := Dp.reads I d x v hd rx
  rcases he with he | he
  · obtain ⟨bs, r2⟩ := Dp.reads I (.list ds) y u he ry
    exact SeqAt.in_list_data r2 r1 se sd (by omega) ⟨.bl _, H, I, rfl, q⟩
  · obtain ⟨bs, r2⟩ := Dp.reads I (.tuple ds) y u he ry
    exact SeqAt.in_tuple_data r2 r1 se sd (by omega) ⟨.bl _, H, I, rfl, q⟩
theorem op_notInP (hu : X.A.units + 65 < cLine) : OpR X (compareOp .NotIn) (rInP X.K true) := by
  intro pins s σ H x y v u Q I rx ry h
  obtain ⟨d, ds, hd, he, sd, se, dd, q⟩ := h
  obtain ⟨as, r1⟩ := Dp.reads I d x v hd rx
  rcases he with he | he
  · obtain ⟨bs, r2⟩ := Dp.reads I (.list ds) y u he ry
    exact SeqAt.notIn_list_data r2 r1 se sd (by omega) ⟨.bl _, H, I, rfl, q⟩
  · obtain ⟨bs, r2⟩ := Dp.reads I (.tuple ds) y u he ry
    exact SeqAt.notIn_tuple_data r2 r1 se sd (by omega) ⟨.bl _, H, I, rfl, q⟩
end
theorem map_ints {K : PySem.W.Frag} {U : Hp} (ns : List Int) : RpAll K U (ns.map V.int) (ns.map D.int) := RpAll.ints ns
theorem dpAll_dp_mono {K : PySem.W.Frag} {W W' : Hp} (s : Same W W') : ∀ {ps : List PyData} {vs : List V}, DpAll K W vs ps → DpAll K W' vs ps
  | _, _, .nil => .nil
  | _, _, .cons h t => .cons (dp_dp_mono s h) (dpAll_dp_mono s t)
def rInAll (K : PySem.W.Frag) (neg : Bool) : R2 := fun x y H Q => rInP K neg x y H Q ∨ (∃ (a z : Str), x = .str a ∧ y = .str z ∧ Q (.bl (if neg = true then !found z a else found z a)) H)
theorem op_in_str {X : Cx} : OpR X (compareOp .In) (fun x y H Q => ∃ (a z : Str), x = .str a ∧ y = .str z ∧ Q (.bl (found z a)) H) := by
  intro pins s σ H x y v u Q I rx ry h
  obtain ⟨c, z, rfl, rfl, q⟩ := h
  obtain ⟨t, rfl⟩ := rx
  obtain ⟨t', rfl⟩ := ry
  exact PyProof.Rows.in_str (fin_bl I q rfl)
theorem op_notIn_str {X : Cx} : OpR X (compareOp .NotIn) (fun x y H Q => ∃ (a z : Str), x = .str a ∧ y = .str z ∧ Q (.bl (!found z a)) H) := by
  intro pins s σ H x y v u Q I rx ry h
  obtain ⟨c, z, rfl, rfl, q⟩ := h
  obtain ⟨t, rfl⟩ := rx
  obtain ⟨t', rfl⟩ := ry
  exact PyProof.Rows.notIn_str (fin_bl I q rfl)
theorem str_one {z : Str} {c : Nat} (e : z.cps.toList = [c]) : z = ⟨#[c]⟩ := by
  obtain ⟨⟨l⟩⟩ := z
  have : l = [c] := e
  subst this
  rfl
theorem in_all {K : PySem.W.Frag} {U H : Hp} {v1 v2 : V} {x y : D} {c neg : Bool} {Q : VK} (e : dInO x y = some c) (p1 : Rp K U v1 x) (p2 : Rp K U v2 y) (sb : Same U H) (q : Q (.bl (if neg = true then !c else c)) H) : rInAll K neg v1 v2 H Q := by
  have seq : ∀ {a : Addr} {vs : List V} {ys : List D}, (SqL K U a vs ∨ SqT K U a vs) → dInB x ys = some c → RpAll K U vs ys → rInAll K neg v1 (.ref a) H Q := fun {a vs ys} hq e' ra => by
    obtain ⟨h1, h2, h3, rfl⟩ := dInB_of e'
    refine .inl ⟨py x, pys ys, dp_dp_mono sb (rp_dp h1 p1), ?_, py_plain x, pys_plain ys, by rw [py_depth, pys_depth]; exact h3, ?_⟩
    · rcases hq with hq | hq
      · exact .inl (.lst (sqL_mono sb hq) (dpAll_dp_mono sb (rpAll_dp h2 ra)))
      · exact .inr (.tup (sqT_mono sb hq) (dpAll_dp_mono sb (rpAll_dp h2 ra)))
    · rw [any_py h1 h2]
      exact q
  unfold dInO at e
  split at e
  · cases p2 with | lst h ra => exact seq (.inl (.inl (.inl h))) e ra
  · cases p2 with | tup h ra => exact seq (.inr h) e ra
  · cases p2 with | scr h => exact seq (.inl h.sq) e (map_ints _)
  · split at e
    · rename_i cc ec
      cases e; cases p1; cases p2
      refine .inr ⟨⟨#[cc]⟩, _, congrArg V.str (str_one ec), rfl, ?_⟩
      unfold found
      rw [PySem.StrLaws.found_one]
      exact q
    · cases e; cases p1; cases p2
      exact .inr ⟨_, _, rfl, rfl, q⟩
  · cases e

section
variable {X : Cx} {a b c : Expr} {es : List Expr} {f g h : Ex} {fs : Exs} {al bl cl : List Nat} {pos : Pos}
theorem op_inAll (hu : X.A.units + 65 < cLine) : OpR X (compareOp .In) (rInAll X.K false) := (op_inP hu).or op_in_str
theorem op_notInAll (hu : X.A.units + 65 < cLine) : OpR X (compareOp .NotIn) (rInAll X.K true) := (op_notInP hu).or op_notIn_str
theorem dc_in (hu : X.A.units + 65 < cLine) (ha : DP X a f al) (hb : DP X b g bl) : DC X .In a b (e2 dIn f g) := by
  refine dc_mk (op_inAll hu) (fun ρ σ O W H v1 v2 x y d Q r e p1 p2 q => ?_) ha hb
  obtain ⟨c, e1, rfl⟩ := Option.map_eq_some_iff.mp e
  exact in_all e1 p1 p2 (vw_subT r.sub) (q.here r.sub (.bl _))
theorem dc_notIn (hu : X.A.units + 65 < cLine) (ha : DP X a f al) (hb : DP X b g bl) : DC X .NotIn a b (e2 dNotIn f g) := by
  refine dc_mk (op_notInAll hu) (fun ρ σ O W H v1 v2 x y d Q r e p1 p2 q => ?_) ha hb
  obtain ⟨c, e1, rfl⟩ := Option.map_eq_some_iff.mp e
  exact in_all e1 p1 p2 (vw_subT r.sub) (q.here r.sub (.bl _))
/-- is None, is not None -/
def dIsN (neg : Bool) : D → Option D
  | .non => some (.bl (!neg))
  | _ => some (.bl neg)
theorem rp_non {K : PySem.W.Frag} {H : Hp} {v : V} {d : D} (h : Rp K H v d) : dIsN false d = some (.bl (decide (v = .non))) ∧ dIsN true d = some (.bl (!decide (v = .non))) := by
  cases h <;> exact ⟨rfl, rfl⟩
theorem dc_isN {j pos'} (ha : DP X a f al) : DC X .Is a (.Constant .none j pos') (e1 (dIsN false) f) := pc_imp (pc_isN ha) fun σ H Q ⟨ρ, O, W, d, rs, e, q⟩ => by
  obtain ⟨x, h1, e⟩ := opt_bind e
  refine ⟨ρ, O, W, x, rs, h1, fun v1 W1 H1 s1 p1 => ?_⟩
  rw [(rp_non p1).1] at e
  cases e
  exact (q.step s1).here s1.sub (.bl _)
theorem dc_notN {j pos'} (ha : DP X a f al) : DC X .IsNot a (.Constant .none j pos') (e1 (dIsN true) f) := pc_imp (pc_notN ha) fun σ H Q ⟨ρ, O, W, d, rs, e, q⟩ => by
  obtain ⟨x, h1, e⟩ := opt_bind e
  refine ⟨ρ, O, W, x, rs, h1, fun v1 W1 H1 s1 p1 => ?_⟩
  rw [(rp_non p1).2] at e
  cases e
  exact (q.step s1).here s1.sub (.bl _)

/-! ### tests -/
variable {t u : Te} {rest : List Expr}
theorem dt_e (ha : DP X a f al) (he : ∀ whole, isTrue a X.env whole = (do let v ← whole; standAt a.pos; holding [v] (truthy v)) := by intro _; rfl) : DT X a (tE f) := pt_imp (pt_val ha he) fun σ H Q ⟨ρ, O, W, b, rs, e, q⟩ => by
  obtain ⟨x, h1, e⟩ := opt_bind e
  refine ⟨ρ, O, W, x, rs, h1, fun v1 W1 H1 s1 p1 => ?_⟩
  unfold dB at e
  split at e
  · cases e; cases p1
    exact ⟨_, rfl, q _ _ s1⟩
  · cases e
theorem dt_no (ha : DT X a t) : DT X (.UnaryOp .Not a pos) (tNo t) := pt_imp (pt_not ha) fun σ H Q ⟨ρ, O, W, b, rs, e, q⟩ => by
  obtain ⟨x, h1, rfl⟩ := Option.map_eq_some_iff.mp e
  exact ⟨ρ, O, W, x, rs, h1, fun W1 H1 s1 => q _ _ s1⟩
theorem dw_and1 (ha : DT X a t) : PW X (.BoolOp .And [a] pos) (tQ X.K t) := pw_and1 ha
theorem dw_or1 (ha : DT X a t) : PW X (.BoolOp .Or [a] pos) (tQ X.K t) := pw_or1 ha
theorem dw_and (ha : DT X a t) (hb : PW X (.BoolOp .And (b :: rest) pos) (tQ X.K u)) : PW X (.BoolOp .And (a :: b :: rest) pos) (tQ X.K (tAn t u)) := pw_imp (pw_and ha hb) fun σ H Q ⟨ρ, O, W, c, rs, e, q⟩ => by
  obtain ⟨x, h1, e⟩ := opt_bind e
  refine ⟨ρ, O, W, x, rs, h1, fun W1 H1 s1 => ?_⟩
  cases x with
  | true => exact iteT ⟨ρ, O, W1, c, rs.pstep s1, e, fun W2 H2 s2 => q _ _ (s1.trans s2)⟩
  | false =>
    cases e
    exact iteF (q _ _ s1)
theorem dw_or (ha : DT X a t) (hb : PW X (.BoolOp .Or (b :: rest) pos) (tQ X.K u)) : PW X (.BoolOp .Or (a :: b :: rest) pos) (tQ X.K (tOr' t u)) := pw_imp (pw_or ha hb) fun σ H Q ⟨ρ, O, W, c, rs, e, q⟩ => by
  obtain ⟨x, h1, e⟩ := opt_bind e
  refine ⟨ρ, O, W, x, rs, h1, fun W1 H1 s1 => ?_⟩
  cases x with
  | false => exact iteF ⟨ρ, O, W1, c, rs.pstep s1, e, fun W2 H2 s2 => q _ _ (s1.trans s2)⟩
  | true =>
    cases e
    exact iteT (q _ _ s1)
theorem dt_w (h : PW X a (tQ X.K t)) : DT X a t := h.pt
/-- and, or, not as values (all bools) -/
def eAn (f g : Ex) : Ex := fun ρ => (f ρ).bind fun x => match x with
  | .bl b => if b = true then g ρ else some (.bl false)
  | _ => none
def eOr (f g : Ex) : Ex := fun ρ => (f ρ).bind fun x => match x with
  | .bl b => if b = true then some (.bl true) else g ρ
  | _ => none
def dNot : D → Option D
  | .bl b => some (.bl (!b))
  | _ => none
theorem dp_one {op} (ha : DP X a f al) : DP X (.BoolOp op [a] pos) f al := pe_one ha
theorem dp_and (ha : DP X a f al) (hb : DP X (.BoolOp .And (b :: rest) pos) g bl) : DP X (.BoolOp .And (a :: b :: rest) pos) (eAn f g) bl := pe_imp (pe_and ha hb) fun σ H Q ⟨ρ, O, W, d, rs, e, q⟩ => by
  obtain ⟨x, h1, e⟩ := opt_bind e
  refine ⟨ρ, O, W, x, rs, h1, fun v1 W1 H1 s1 p1 => ?_⟩
  split at e
  · cases p1
    rename_i c
    refine ⟨c, rfl, ?_⟩
    cases c with
    | true => exact iteT ⟨ρ, O, W1, d, rs.pstep s1, e, q.step s1⟩
    | false => cases e; exact iteF ((q.step s1).here s1.sub (.bl _))
  · cases e
theorem dp_or (ha : DP X a f al) (hb : DP X (.BoolOp .Or (b :: rest) pos) g bl) : DP X (.BoolOp .Or (a :: b :: rest) pos) (eOr f g) bl := pe_imp (pe_or ha hb) fun σ H Q ⟨ρ, O, W, d, rs, e, q⟩ => by
  obtain ⟨x, h1, e⟩ := opt_bind e
  refine ⟨ρ, O, W, x, rs, h1, fun v1 W1 H1 s1 p1 => ?_⟩
  split at e
  · cases p1
    rename_i c
    refine ⟨c, rfl, ?_⟩
    cases c with
    | false => exact iteF ⟨ρ, O, W1, d, rs.pstep s1, e, q.step s1⟩
    | true => cases e; exact iteT ((q.step s1).here s1.sub (.bl _))
  · cases e
theorem dp_not (ha : DP X a f al) : DP X (.UnaryOp .Not a pos) (e1 dNot f) [] := pe_imp (pe_not ha) fun σ H Q ⟨ρ, O, W, d, rs, e, q⟩ => by
  obtain ⟨x, h1, e⟩ := opt_bind e
  refine ⟨ρ, O, W, x, rs, h1, fun v1 W1 H1 s1 p1 => ?_⟩
  unfold dNot at e
  split at e
  · cases e; cases p1
    exact ⟨_, rfl, (q.step s1).here s1.sub (.bl _)⟩
  · cases e
def eIf (t : Te) (f g : Ex) : Ex := fun ρ => (t ρ).bind fun b => if b = true then f ρ else g ρ
theorem dp_if (hc : DT X c t) (ha : DP X a f al) (hb : DP X b g bl) : DP X (.IfExp c a b pos) (eIf t f g) (al ++ bl) := pe_imp (pe_ifExp hc ha hb) fun σ H Q ⟨ρ, O, W, d, rs, e, q⟩ => by
  obtain ⟨x, h1, e⟩ := opt_bind e
  refine ⟨ρ, O, W, x, rs, h1, fun W1 H1 s1 => ?_⟩
  cases x with
  | true => exact iteT ⟨ρ, O, W1, d, rs.pstep s1, e, fun v W2 H2 s2 p => q v W2 H2 (s1.trans s2) (rp_mono (vw_l s2.sub) p)⟩
  | false => exact iteF ⟨ρ, O, W1, d, rs.pstep s1, e, fun v W2 H2 s2 p => q v W2 H2 (s1.trans s2) (rp_mono (vw_r s2.sub) p)⟩

/-! ### items -/
def dIx : D → D → Option D
  | .lst xs, .int i => atI xs i
  | .tup xs, .int i => atI xs i
  | .scr ns, .int i => (atI ns i).map .int
  | .str z, .int i => if z.length ≤ 16777216 then (atI z.cps.toList i).map fun c => .str ⟨#[c]⟩ else none
  | _, _ => none
theorem atI_rp {K : PySem.W.Frag} {U : Hp} {vs : List V} {ds : List D} {i : Int} {d : D} (h : RpAll K U vs ds) (e : atI ds i = some d) : ∃ v, atI vs i = some v ∧ Rp K U v d := by
  unfold atI at e ⊢
  rw [h.length]
  obtain ⟨j, e1, e2⟩ := opt_bind e
  obtain ⟨v, e3, r⟩ := h.get e2
  exact ⟨v, by rw [e1]; exact e3, r⟩
theorem atI_map {α β : Type} (g : α → β) {xs : List α} {i : Int} {x : α} (e : atI xs i = some x) : atI (xs.map g) i = some (g x) := by
  unfold atI at e ⊢
  rw [List.length_map]
  obtain ⟨j, e3, e4⟩ := opt_bind e
  rw [e3]
  show (xs.map g)[j]? = _
  rw [List.getElem?_map, e4]
  rfl
theorem ix_ok {K : PySem.W.Frag} {U H : Hp} {v1 v2 : V} {x y d : D} {Q : VK} (e : dIx x y = some d) (p1 : Rp K U v1 x) (p2 : Rp K U v2 y) (sb : Same U H) (q : ∀ v, Rp K U v d → Q v H) : rIx K v1 v2 H Q := by
  unfold dIx at e
  split at e
  · cases p1 with
    | lst h ra =>
      cases p2
      obtain ⟨v, e1, r⟩ := atI_rp ra e
      exact .inl ⟨_, _, _, v, rfl, rfl, .inl (.inl (sb _ _ h)), e1, q v r⟩
  · cases p1 with
    | tup h ra =>
      cases p2
      obtain ⟨v, e1, r⟩ := atI_rp ra e
      exact .inr (.inl ⟨_, _, _, v, rfl, rfl, sqT_mono sb h, e1, q v r⟩)
  · cases p1 with
    | scr h =>
      cases p2
      obtain ⟨n, e1, rfl⟩ := Option.map_eq_some_iff.mp e
      have e2 := atI_map D.int e1
      obtain ⟨v, e3, r⟩ := atI_rp (K := K) (U := U) (map_ints _) e2
      exact .inl ⟨_, _, _, v, rfl, rfl, sqL_mono sb h.sq, e3, q v r⟩
  · split at e
    · rename_i hz
      cases p1; cases p2
      obtain ⟨c, e1, rfl⟩ := Option.map_eq_some_iff.mp e
      exact .inr (.inr ⟨_, _, c, rfl, rfl, by rw [line_eq]; exact hz, e1, q _ (.str _)⟩)
    · cases e
  · cases e
theorem dp_ix (ha : DP X a f al) (hb : DP X b g bl) (hs : PlainIx b) : DP X (.Subscript a b pos) (e2 dIx f g) (al ++ bl) :=
  pe_imp (pe_ix ix_seq ha hb hs) (seq2 fun ρ σ O W H v1 v2 x y d Q r e p1 p2 q => ix_ok e p1 p2 (vw_subT r.sub) fun v p => q.here r.sub p)
/-- an item of a list at a name: it is not held by the name alone -/
theorem dp_ixv (i : Nat) {e : Expr} (he : PE X e (tVar i)) (hb : DP X b g bl) (hs : PlainIx b) : DP X (.Subscript e b pos) (e2 dIx (eV i) g) bl := pe_imp (pe_ix ix_seq he hb hs) fun σ H Q ⟨ρ, O, W, d, rs, e, q⟩ => by
  obtain ⟨x, h1, e⟩ := opt_bind e
  obtain ⟨y, h2, e⟩ := opt_bind e
  unfold eV at h1
  split at h1
  · rename_i d' q'
    cases h1
    obtain ⟨v, k1, k2⟩ := rs.vals i _ q'
    refine ⟨v, k1, ρ, O, W, y, rs, h2, fun v2 W2 H2 s2 p2 => ?_⟩
    exact ix_ok e (rp_mono ((s2.le).trans vw_le) k2) p2 (vw_subT s2.sub) fun v p => (q.step s2).here s2.sub p
  · rename_i xs q'
    cases h1
    obtain ⟨a, vs, k1, k2, k3, k4⟩ := rs.owns i _ q'
    refine ⟨.ref a, k1, ρ, O, W, y, rs, h2, fun v2 W2 H2 s2 p2 => ?_⟩
    cases y with
    | int j =>
      cases p2
      obtain ⟨v, e1, r⟩ := atI_rp k4 (show atI xs j = some d from e)
      exact .inl ⟨_, _, _, v, rfl, rfl, .inl (.inl (s2.at k3)), e1, (q.step s2).here s2.sub (rp_mono ((s2.le).trans vw_le) r)⟩
    | _ => cases e
  · cases h1
    cases y <;> cases e
  · cases h1

/-! ### slices -/
def cutG {α : Type} (xs : List α) (lo hi : Option Int) : List α := (xs.drop (HT.sIx xs.length 0 lo)).take (HT.sIx xs.length xs.length hi - HT.sIx xs.length 0 lo)
theorem cutG_v (xs : List V) (lo hi : Option Int) : cutG xs lo hi = cutV xs lo hi := rfl
theorem RpAll.cut {K : PySem.W.Frag} {U : Hp} {vs : List V} {ds : List D} (h : RpAll K U vs ds) (lo hi : Option Int) : RpAll K U (cutV vs lo hi) (cutG ds lo hi) := by
  unfold cutV cutG
  rw [h.length]
  exact (h.drop _).take _
abbrev Eo := Rho → Option (Option Int)
def oN : Eo := fun _ => some none
def dI : D → Option Int
  | .int i => some i
  | _ => none
def oS (f : Ex) : Eo := fun ρ => ((f ρ).bind dI).map some
def tO (K : PySem.W.Frag) (f : Eo) : TO := fun σ H Q => ∃ ρ O W o, RZ K ρ σ O W H ∧ f ρ = some o ∧ ∀ W' H', PZ W H W' H' → Q o H'
abbrev DO (X : Cx) (e : Option Expr) (f : Eo) : Prop := PO X e (tO X.K f)
theorem po_imp {e : Option Expr} {t t' : TO} (h : PO X e t) (i : ∀ σ H Q, t' σ H Q → t σ H Q) : PO X e t' := ⟨fun pins s σ H Q I q => h.run pins s σ H Q I (i σ H Q q)⟩
theorem do_n : DO X none oN := po_imp po_none fun σ H Q ⟨ρ, O, W, o, rs, e, q⟩ => by
  cases e
  exact q _ _ (.refl rs.sub)
theorem do_s (ha : DP X a f al) : DO X (some a) (oS f) := po_imp (po_some ha) fun σ H Q ⟨ρ, O, W, o, rs, e, q⟩ => by
  obtain ⟨i, e', rfl⟩ := Option.map_eq_some_iff.mp e
  obtain ⟨x, h1, e⟩ := opt_bind e'
  refine ⟨ρ, O, W, x, rs, h1, fun v1 W1 H1 s1 p1 => ?_⟩
  unfold dI at e
  split at e
  · cases e; cases p1
    exact ⟨_, rfl, q _ _ s1⟩
  · cases e
def dSl (lo hi : Option Int) : D → Option D
  | .lst xs => some (.lst (cutG xs lo hi))
  | .scr ns => some (.lst (cutG (ns.map .int) lo hi))
  | .tup xs => if HT.sIx xs.length 0 lo = 0 ∧ HT.sIx xs.length xs.length hi = xs.length then none else some (.tup (cutG xs lo hi))
  | .str z => if z.length ≤ 16777216 then some (.str (cutS z lo hi)) else none
  | _ => none
def eSl (f : Ex) (lo hi : Eo) : Ex := fun ρ => (f ρ).bind fun x => (lo ρ).bind fun l => (hi ρ).bind fun u => dSl l u x
theorem dp_sl {lo hi : Option Expr} {l u : Eo} {p2} (ha : DP X a f al) (hl : DO X lo l) (hh : DO X hi u) : DP X (.Subscript a (.Slice lo hi none p2) pos) (eSl f l u) al := by
  refine pe_imp (pe_slice (sl_list.or (sl_tup.or sl_str)) ha hl hh) fun σ H Q ⟨ρ, O, W, d, rs, e, q⟩ => ?_
  obtain ⟨x, h1, e⟩ := opt_bind e
  obtain ⟨i, h2, e⟩ := opt_bind e
  obtain ⟨j, h3, e⟩ := opt_bind e
  refine ⟨ρ, O, W, x, rs, h1, fun v1 W1 H1 s1 p1 => ⟨ρ, O, W1, i, rs.pstep s1, h2, fun W2 H2 s2 => ⟨ρ, O, W2, j, rs.pstep (s1.trans s2), h3, fun W3 H3 s3 => ?_⟩⟩⟩
  have s := s1.trans (s2.trans s3)
  have p1 := rp_mono (vw_step (s2.trans s3).toPStep) p1
  have q := q.step s
  unfold dSl at e
  split at e
  · cases e
    obtain ⟨a', vs, rfl, k, ra⟩ := rp_lst p1
    exact .inl ⟨a', vs, rfl, .inl (.inl (vw_subT s.sub _ _ k)), fun p n => q.lst s.sub (ra.cut i j) n⟩
  · cases e
    cases p1 with
    | scr k => exact .inl ⟨_, _, rfl, sqL_mono (vw_subT s.sub) k.sq, fun p n => q.lst s.sub ((map_ints _).cut i j) n⟩
  · split at e
    · cases e
    · rename_i hn
      cases e
      obtain ⟨a', vs, rfl, k, ra⟩ := rp_tup p1
      exact .inr (.inl ⟨a', vs, rfl, sqT_mono (vw_subT s.sub) k, by rw [ra.length]; exact hn, fun p n => q.tup s.sub (ra.cut i j) n⟩)
  · split at e
    · rename_i hz
      cases e; cases p1
      exact .inr (.inr ⟨_, rfl, by rw [line_eq]; exact hz, q.here s.sub (.str _)⟩)
    · cases e
  · cases e

/-- a slice of what a name holds: its items are not held by the name alone -/
theorem dp_slv (i : Nat) {e : Expr} {lo hi : Option Expr} {l u : Eo} {p2} (ha : PE X e (tVar i)) (hl : DO X lo l) (hh : DO X hi u) : DP X (.Subscript e (.Slice lo hi none p2) pos) (eSl (eV i) l u) [] := by
  refine pe_imp (pe_slice (sl_list.or (sl_tup.or sl_str)) ha hl hh) fun σ H Q ⟨ρ, O, W, d, rs, e, q⟩ => ?_
  obtain ⟨x, h1, e⟩ := opt_bind e
  obtain ⟨i', h2, e⟩ := opt_bind e
  obtain ⟨j, h3, e⟩ := opt_bind e
  unfold eV at h1
  split at h1
  · rename_i d' q'
    cases h1
    obtain ⟨v, k1, k2⟩ := rs.vals i _ q'
    refine ⟨v, k1, ρ, O, W, i', rs, h2, fun W2 H2 s2 => ⟨ρ, O, W2, j, rs.pstep s2, h3, fun W3 H3 s3 => ?_⟩⟩
    have s := s2.trans s3
    have p1 := rp_mono s.le k2
    have q := q.step s
    have up : Same W3 (vw ρ σ [] W3 (tb H3)) := vw_le
    cases x with
    | lst xs =>
      have e' : some (D.lst (cutG xs i' j)) = some d := e
      cases e'
      obtain ⟨a', vs, rfl, k, ra⟩ := rp_lst p1
      exact .inl ⟨a', vs, rfl, .inl (.inl (tb_le _ _ (s.sub _ _ k))), fun p n => q.lst s.sub (rpAll_mono up (ra.cut i' j)) n⟩
    | scr ns =>
      have e' : some (D.lst (cutG (ns.map .int) i' j)) = some d := e
      cases e'
      cases p1 with
      | scr k => exact .inl ⟨_, _, rfl, sqL_mono (s.sub.trans tb_le) k.sq, fun p n => q.lst s.sub ((map_ints _).cut i' j) n⟩
    | tup xs =>
      have e' : (if HT.sIx xs.length 0 i' = 0 ∧ HT.sIx xs.length xs.length j = xs.length then none else some (D.tup (cutG xs i' j))) = some d := e
      split at e'
      · cases e'
      · rename_i hn
        cases e'
        obtain ⟨a', vs, rfl, k, ra⟩ := rp_tup p1
        exact .inr (.inl ⟨a', vs, rfl, sqT_mono (s.sub.trans tb_le) k, by rw [ra.length]; exact hn, fun p n => q.tup s.sub (rpAll_mono up (ra.cut i' j)) n⟩)
    | str z =>
      have e' : (if z.length ≤ 16777216 then some (D.str (cutS z i' j)) else none) = some d := e
      split at e'
      · rename_i hz
        cases e'
        cases p1
        exact .inr (.inr ⟨_, rfl, by rw [line_eq]; exact hz, q.here s.sub (.str _)⟩)
      · cases e'
    | _ => cases e
  · rename_i xs q'
    cases h1
    have e' : some (D.lst (cutG xs i' j)) = some d := e
    cases e'
    obtain ⟨a', vs, k1, k2, k3, k4⟩ := rs.owns i _ q'
    refine ⟨.ref a', k1, ρ, O, W, i', rs, h2, fun W2 H2 s2 => ⟨ρ, O, W2, j, rs.pstep s2, h3, fun W3 H3 s3 => ?_⟩⟩
    have s := s2.trans s3
    exact .inl ⟨a', vs, rfl, .inl (.inl (s.at k3)), fun p n => (q.step s).lst s.sub (rpAll_mono (s.le.trans vw_le) (k4.cut i' j)) n⟩
  · cases h1
    cases e
  · cases h1

/-! ### argument lists, displays -/
theorem da_nil : DA X [] esN [] := pa_imp pa_nil fun σ H Q ⟨ρ, O, W, ds, rs, e, q⟩ => by
  cases e
  exact q _ _ _ (.refl rs.sub) .nil
theorem da_cons (ha : DP X a f al) (hr : DA X es fs bl) (hs : starEach (a :: es) X.env = (false, eval a X.env) :: starEach es X.env := by rfl) : DA X (a :: es) (esC f fs) (al ++ bl) := pa_imp (pa_cons ha hr hs) fun σ H Q ⟨ρ, O, W, ds, rs, e, q⟩ => by
  obtain ⟨x, h1, e⟩ := opt_bind e
  obtain ⟨xs, h2, e⟩ := opt_bind e
  cases e
  refine ⟨ρ, O, W, x, rs, h1, fun v1 W1 H1 s1 p1 => ⟨ρ, O, W1, xs, rs.pstep s1, h2, fun vs W2 H2 s2 p2 => ?_⟩⟩
  have s := s1.trans s2
  exact q _ _ _ s (.cons (rp_mono (vw_l s.sub) (rp_mono (vw_step s2.toPStep) p1)) (rpAll_mono (vw_r s.sub) p2))
def dTup (ds : List D) : Option D := if ds.length ≤ 16777216 then some (.tup ds) else none
theorem dp_tup {x1} (h : DA X es fs al) : DP X (.Tuple es x1 pos) (eA dTup fs) al := pe_imp (pe_tup h) fun σ H Q ⟨ρ, O, W, d, rs, e, q⟩ => by
  obtain ⟨ds, h1, e⟩ := opt_bind e
  unfold dTup at e
  split at e
  · rename_i hz
    cases e
    refine ⟨ρ, O, W, ds, rs, h1, fun vs W1 H1 s1 p1 => ⟨by rw [line_eq, p1.length]; exact hz, fun p n => (q.step s1).tup s1.sub p1 n⟩⟩
  · cases e
def lsG (fs : Exs) : Exs := fun ρ => (fs ρ).bind fun ds => if ds.length ≤ 16777216 then some ds else none
theorem dn_lst (h : DA X es fs al) : DN X (.List es pos) (lsG fs) al := pe_imp (pe_lst h) fun σ H Q ⟨ρ, O, W, ds, rs, e, q⟩ => by
  obtain ⟨ds', h1, e⟩ := opt_bind e
  split at e
  · rename_i hz
    cases e
    refine ⟨ρ, O, W, ds, rs, h1, fun vs W1 H1 s1 p1 => ⟨by rw [line_eq, p1.length]; exact hz, fun p n => ?_⟩⟩
    have wn : W1 p = none := w_free s1.sub n
    have st : PZ W1 H1 W1 (upd H1 p (.lst vs)) := hid_step s1.sub n
    exact q p vs W1 _ (s1.trans st) (s1.free n) wn upd_same (rpAll_mono (vw_step st.toPStep) p1)
  · cases e
def eL (fs : Exs) : Ex := fun ρ => (fs ρ).map .lst
theorem tP_tN {K : PySem.W.Frag} {fs : Exs} {al : List Nat} (σ : L2.St) (H : Hp) (Q : VK) (h : tP K (eL fs) al σ H Q) : tN K fs al σ H Q := by
  obtain ⟨ρ, O, W, d, rs, e, q⟩ := h
  obtain ⟨ds, h1, rfl⟩ := Option.map_eq_some_iff.mp e
  refine ⟨ρ, O, W, ds, rs, h1, fun a vs W' H' s n w hh ra => ?_⟩
  have st : PZ W H (upd W' a (.lst vs)) H' := ⟨⟨fun b o e => by
      have := s.le b o e
      rw [upd_ne (fun z => by subst z; rw [w] at this; cases this)]
      exact this, s.keep, fun b o e => by
      by_cases hb : b = a
      · subst hb; rw [upd_same] at e; cases e; exact tb_of hh nt_lst
      · rw [upd_ne hb] at e; exact s.sub b o e, fun b o e => by
      by_cases hb : b = a
      · subst hb; exact .inr n
      · rw [upd_ne hb] at e; exact s.new b o e⟩, s.tabs⟩
  have up : Same (vw ρ σ al W' (tb H')) (vw ρ σ al (upd W' a (.lst vs)) (tb H')) := fun b o e => by
    rcases of_vw e with z | ⟨_, z, i, hi, y⟩
    · refine vw_of b ?_
      rw [upd_ne (fun y => by subst y; rw [w] at z; cases z)]
      exact z
    · exact vw_own hi y z st.sub
  exact q _ _ _ st (.lst (vw_of a upd_same) (rpAll_mono up ra))
theorem dp_n {e : Expr} (h : DN X e fs al) : DP X e (eL fs) al := pe_imp h tP_tN

/-! ### built-ins by their names -/
theorem cb {e : Expr} {r : List V → Hp → VK → Prop} {k : List D → Option D} (he : PE X e (tCB r (tPs X.K fs al)))
    (hg : ∀ (ρ : Rho) (σ : L2.St) (O : Addr → Bool) (W H : Hp) (vs : List V) (ds : List D) (d : D) (Q : VK), RZ X.K ρ σ O W H → k ds = some d → RpAll X.K (vw ρ σ al W (tb H)) vs ds → Post X.K ρ σ cl W H d Q → r vs H Q) : DP X e (eA k fs) cl :=
  pe_imp he fun σ H Q ⟨ρ, O, W, d, rs, e, q⟩ => by
    obtain ⟨ds, h1, e⟩ := opt_bind e
    exact ⟨ρ, O, W, ds, rs, h1, fun vs W1 H1 s1 p1 => hg ρ σ O W1 H1 vs ds d Q (rs.pstep s1) e p1 (q.step s1)⟩
theorem rpAll1 {K : PySem.W.Frag} {U : Hp} {vs : List V} {d : D} (h : RpAll K U vs [d]) : ∃ v, vs = [v] ∧ Rp K U v d := by
  cases h with | cons h t => cases t; exact ⟨_, rfl, h⟩
theorem rpAll2 {K : PySem.W.Frag} {U : Hp} {vs : List V} {d e : D} (h : RpAll K U vs [d, e]) : ∃ v w, vs = [v, w] ∧ Rp K U v d ∧ Rp K U w e := by
  cases h with | cons h t => cases t with | cons h' t => cases t; exact ⟨_, _, rfl, h, h'⟩
def dLen : List D → Option D
  | [.lst xs] => some (.int xs.length)
  | [.tup xs] => some (.int xs.length)
  | [.scr ns] => some (.int ns.length)
  | [.str z] => if z.length ≤ 16777216 then some (.int z.length) else none
  | _ => none
theorem boot_len' : bootBuiltins "len" = some (.builtin "len") := by decide +kernel
theorem boot_int' : bootBuiltins "int" = some (.type "int") := by decide +kernel
theorem boot_str' : bootBuiltins "str" = some (.type "str") := by decide +kernel
theorem boot_tuple' : bootBuiltins "tuple" = some (.type "tuple") := by decide +kernel
theorem boot_list' : bootBuiltins "list" = some (.type "list") := by decide +kernel
theorem boot_bool' : bootBuiltins "bool" = some (.type "bool") := by decide +kernel
theorem boot_dict' : bootBuiltins "dict" = some (.type "dict") := by decide +kernel
theorem boot_sum' : bootBuiltins "sum" = some (.builtin "sum") := by decide +kernel
theorem boot_min' : bootBuiltins "min" = some (.builtin "min") := by decide +kernel
theorem boot_max' : bootBuiltins "max" = some (.builtin "max") := by decide +kernel
theorem boot_all' : bootBuiltins "all" = some (.builtin "all") := by decide +kernel
theorem boot_any' : bootBuiltins "any" = some (.builtin "any") := by decide +kernel
theorem boot_isi' : bootBuiltins "isinstance" = some (.builtin "isinstance") := by decide +kernel
variable {p : Pos}
theorem dp_len (hg : Gl X "len") (hm : X.mg "len" = none) (ha : DA X (a :: es) fs al) (he : starEach (a :: es) X.env = (false, eval a X.env) :: starEach es X.env := by rfl) (hpl : (backTo pos (starEach es X.env)).any (·.1) = false := by rfl) :
    DP X (.Call (.Name "len" p) (a :: es) [] pos) (eA dLen fs) [] := by
  refine cb (pe_callB (call_len_seq.or call_len_str) hg hm boot_len' ha (he := he) (hpl := hpl)) fun ρ σ O W H vs ds d Q r e p q => ?_
  unfold dLen at e
  split at e
  · cases e
    obtain ⟨v, rfl, p1⟩ := rpAll1 p
    obtain ⟨a', xs, rfl, k, ra⟩ := rp_lst p1
    refine .inl ⟨a', xs, rfl, .inl (.inl (.inl (vw_subT r.sub _ _ k))), ?_⟩
    rw [ra.length]
    exact q.here r.sub (.int _)
  · cases e
    obtain ⟨v, rfl, p1⟩ := rpAll1 p
    obtain ⟨a', xs, rfl, k, ra⟩ := rp_tup p1
    refine .inl ⟨a', xs, rfl, .inr (sqT_mono (vw_subT r.sub) k), ?_⟩
    rw [ra.length]
    exact q.here r.sub (.int _)
  · cases e
    obtain ⟨v, rfl, p1⟩ := rpAll1 p
    cases p1 with
    | scr k =>
      refine .inl ⟨_, _, rfl, .inl (sqL_mono (vw_subT r.sub) k.sq), ?_⟩
      rw [List.length_map]
      exact q.here r.sub (.int _)
  · split at e
    · rename_i hz
      cases e
      obtain ⟨v, rfl, p1⟩ := rpAll1 p
      cases p1
      exact .inr ⟨_, rfl, by rw [line_eq]; exact hz, q.here r.sub (.int _)⟩
    · cases e
  · cases e
def dInt : List D → Option D
  | [.int i] => some (.int i)
  | [.bl b] => some (.int (if b then 1 else 0))
  | [.str z] => if z.length ≤ 640 then (PySem.intText? z).map .int else none
  | _ => none
theorem dp_intc (hg : Gl X "int") (hm : X.mg "int" = none) (ha : DA X (a :: es) fs al) (he : starEach (a :: es) X.env = (false, eval a X.env) :: starEach es X.env := by rfl) (hpl : (backTo pos (starEach es X.env)).any (·.1) = false := by rfl) :
    DP X (.Call (.Name "int" p) (a :: es) [] pos) (eA dInt fs) [] := by
  refine cb (pe_callTy (call_int1.or call_int_str) hg hm boot_int' ha (he := he) (hpl := hpl)) fun ρ σ O W H vs ds d Q r e p q => ?_
  unfold dInt at e
  split at e
  · cases e
    obtain ⟨v, rfl, p1⟩ := rpAll1 p
    cases p1
    exact .inl (.inl ⟨_, rfl, q.here r.sub (.int _)⟩)
  · cases e
    obtain ⟨v, rfl, p1⟩ := rpAll1 p
    cases p1
    exact .inl (.inr ⟨_, rfl, q.here r.sub (.int _)⟩)
  · split at e
    · rename_i hz
      obtain ⟨n, e1, rfl⟩ := Option.map_eq_some_iff.mp e
      obtain ⟨v, rfl, p1⟩ := rpAll1 p
      cases p1
      exact .inr ⟨_, n, rfl, e1, hz, q.here r.sub (.int _)⟩
    · cases e
  · cases e
def dStr : List D → Option D
  | [.int i] => if -(2 ^ 60) < i ∧ i < 2 ^ 60 then some (.str (toString i)) else none
  | _ => none
theorem dp_strc (hg : Gl X "str") (hm : X.mg "str" = none) (ha : DA X (a :: es) fs al) (he : starEach (a :: es) X.env = (false, eval a X.env) :: starEach es X.env := by rfl) (hpl : (backTo pos (starEach es X.env)).any (·.1) = false := by rfl) :
    DP X (.Call (.Name "str" p) (a :: es) [] pos) (eA dStr fs) [] := by
  refine cb (pe_callTy call_str_int hg hm boot_str' ha (he := he) (hpl := hpl)) fun ρ σ O W H vs ds d Q r e p q => ?_
  unfold dStr at e
  split at e
  · split at e
    · rename_i i hz
      cases e
      obtain ⟨v, rfl, p1⟩ := rpAll1 p
      cases p1
      refine ⟨_, rfl, ?_, q.here r.sub (.str _)⟩
      exact Nat.lt_of_lt_of_le (PySem.Flt.log2_lt_of (k := 60) (by decide) (by omega)) (by decide)
    · cases e
  · cases e
def dTuple : List D → Option D
  | [.lst xs] => some (.tup xs)
  | [.tup xs] => some (.tup xs)
  | [.scr ns] => some (.tup (ns.map .int))
  | _ => none
theorem dp_tuplec (hg : Gl X "tuple") (hm : X.mg "tuple" = none) (ha : DA X (a :: es) fs al) (he : starEach (a :: es) X.env = (false, eval a X.env) :: starEach es X.env := by rfl) (hpl : (backTo pos (starEach es X.env)).any (·.1) = false := by rfl) :
    DP X (.Call (.Name "tuple" p) (a :: es) [] pos) (eA dTuple fs) al := by
  refine cb (pe_callTy call_tuple_of hg hm boot_tuple' ha (he := he) (hpl := hpl)) fun ρ σ O W H vs ds d Q r e p q => ?_
  unfold dTuple at e
  split at e
  · cases e
    obtain ⟨v, rfl, p1⟩ := rpAll1 p
    obtain ⟨a', xs, rfl, k, ra⟩ := rp_lst p1
    exact ⟨a', xs, rfl, .inl ⟨.inl (.inl (vw_subT r.sub _ _ k)), fun l n => q.tup r.sub ra n⟩⟩
  · cases e
    obtain ⟨v, rfl, p1⟩ := rpAll1 p
    obtain ⟨a', xs, rfl, k, ra⟩ := rp_tup p1
    exact ⟨a', xs, rfl, .inr ⟨sqT_mono (vw_subT r.sub) k, q.here r.sub (.tup k ra)⟩⟩
  · cases e
    obtain ⟨v, rfl, p1⟩ := rpAll1 p
    cases p1 with
    | scr k => exact ⟨_, _, rfl, .inl ⟨sqL_mono (vw_subT r.sub) k.sq, fun l n => q.tup r.sub (map_ints _) n⟩⟩
  · cases e
/-- list(..): a new list -/
def dList : List D → Option (List D)
  | [.lst xs] => some xs
  | [.tup xs] => some xs
  | [.scr ns] => some (ns.map .int)
  | _ => none
theorem cbN {e : Expr} {r : List V → Hp → VK → Prop} {k : List D → Option (List D)} (he : PE X e (tCB r (tPs X.K fs al)))
    (hg : ∀ (ρ : Rho) (σ : L2.St) (O : Addr → Bool) (W H : Hp) (vs : List V) (ds xs : List D) (Q : VK), RZ X.K ρ σ O W H → k ds = some xs → RpAll X.K (vw ρ σ al W (tb H)) vs ds → (∀ us l, RpAll X.K (vw ρ σ cl W (tb H)) us xs → H l = none → Q (.ref l) (upd H l (.lst us))) → r vs H Q) : DN X e (fun ρ => (fs ρ).bind k) cl :=
  pe_imp he fun σ H Q ⟨ρ, O, W, d, rs, e, q⟩ => by
    obtain ⟨ds, h1, e⟩ := opt_bind e
    refine ⟨ρ, O, W, ds, rs, h1, fun vs W1 H1 s1 p1 => hg ρ σ O W1 H1 vs ds d Q (rs.pstep s1) e p1 fun us l ra n => ?_⟩
    have wn : W1 l = none := w_free s1.sub n
    have st : PZ W1 H1 W1 (upd H1 l (.lst us)) := hid_step s1.sub n
    exact q l us W1 _ (s1.trans st) (s1.free n) wn upd_same (rpAll_mono (vw_step st.toPStep) ra)
def nL (k : List D → Option (List D)) (fs : Exs) : Exs := fun ρ => (fs ρ).bind k
theorem dn_listc (hg : Gl X "list") (hm : X.mg "list" = none) (ha : DA X (a :: es) fs al) (he : starEach (a :: es) X.env = (false, eval a X.env) :: starEach es X.env := by rfl) (hpl : (backTo pos (starEach es X.env)).any (·.1) = false := by rfl) :
    DN X (.Call (.Name "list" p) (a :: es) [] pos) (nL dList fs) al := by
  refine cbN (pe_callTy call_list_of hg hm boot_list' ha (he := he) (hpl := hpl)) fun ρ σ O W H vs ds xs Q r e p q => ?_
  unfold dList at e
  split at e
  · cases e
    obtain ⟨v, rfl, p1⟩ := rpAll1 p
    obtain ⟨a', ws, rfl, k, ra⟩ := rp_lst p1
    exact ⟨a', ws, rfl, .inl (.inl (.inl (vw_subT r.sub _ _ k))), fun l n => q ws l ra n⟩
  · cases e
    obtain ⟨v, rfl, p1⟩ := rpAll1 p
    obtain ⟨a', ws, rfl, k, ra⟩ := rp_tup p1
    exact ⟨a', ws, rfl, .inr (sqT_mono (vw_subT r.sub) k), fun l n => q ws l ra n⟩
  · cases e
    obtain ⟨v, rfl, p1⟩ := rpAll1 p
    cases p1 with
    | scr k => exact ⟨_, _, rfl, .inl (sqL_mono (vw_subT r.sub) k.sq), fun l n => q _ l (map_ints _) n⟩
  · cases e
/-- ints of a list of data -/
def dInts : List D → Option (List Int)
  | [] => some []
  | .int i :: r => (dInts r).map (i :: ·)
  | _ :: _ => none
theorem dInts_map : ∀ {ds : List D} {ns : List Int}, dInts ds = some ns → ds = ns.map .int
  | [], _, e => by cases e; rfl
  | .int i :: r, _, e => by
    simp only [dInts, Option.map_eq_some_iff] at e
    obtain ⟨ms, e1, rfl⟩ := e
    rw [dInts_map e1]; rfl
  | .non :: _, _, e => by cases e
  | .bl _ :: _, _, e => by cases e
  | .str _ :: _, _, e => by cases e
  | .tup _ :: _, _, e => by cases e
  | .lst _ :: _, _, e => by cases e
  | .scr _ :: _, _, e => by cases e
  | .dct _ :: _, _, e => by cases e
  | .fn _ _ :: _, _, e => by cases e
def dSum : List D → Option D
  | [.lst xs] => (dInts xs).map fun ns => .int ns.sum
  | _ => none
theorem dp_sumc (hc : X.calm = true) (hg : Gl X "sum") (hm : X.mg "sum" = none) (ha : DA X (a :: es) fs al) (he : starEach (a :: es) X.env = (false, eval a X.env) :: starEach es X.env := by rfl) (hpl : (backTo pos (starEach es X.env)).any (·.1) = false := by rfl) :
    DP X (.Call (.Name "sum" p) (a :: es) [] pos) (eA dSum fs) [] := by
  refine cb (pe_callB (cr_sum hc) hg hm boot_sum' ha (he := he) (hpl := hpl)) fun ρ σ O W H vs ds d Q r e p q => ?_
  unfold dSum at e
  split at e
  · obtain ⟨ns, e1, rfl⟩ := Option.map_eq_some_iff.mp e
    obtain ⟨v, rfl, p1⟩ := rpAll1 p
    obtain ⟨a', ws, rfl, k, ra⟩ := rp_lst p1
    rw [dInts_map e1] at ra
    have := ra.toInts
    subst this
    exact ⟨a', ns, rfl, .inl (.inl (vw_subT r.sub _ _ k)), q.here r.sub (.int _)⟩
  · cases e
def dMax2 : List D → Option D
  | [.int i, .int j] => some (.int (if j > i then j else i))
  | _ => none
def dMin2 : List D → Option D
  | [.int i, .int j] => some (.int (if j < i then j else i))
  | _ => none
theorem dp_max2 (hc : X.calm = true) (hg : Gl X "max") (hm : X.mg "max" = none) (ha : DA X (a :: es) fs al) (he : starEach (a :: es) X.env = (false, eval a X.env) :: starEach es X.env := by rfl) (hpl : (backTo pos (starEach es X.env)).any (·.1) = false := by rfl) :
    DP X (.Call (.Name "max" p) (a :: es) [] pos) (eA dMax2 fs) [] := by
  refine cb (pe_callB (call_max2 hc) hg hm boot_max' ha (he := he) (hpl := hpl)) fun ρ σ O W H vs ds d Q r e p q => ?_
  unfold dMax2 at e
  split at e
  · cases e
    obtain ⟨v, w, rfl, p1, p2⟩ := rpAll2 p
    cases p1; cases p2
    exact ⟨_, _, rfl, q.here r.sub (.int _)⟩
  · cases e
theorem dp_min2 (hc : X.calm = true) (hg : Gl X "min") (hm : X.mg "min" = none) (ha : DA X (a :: es) fs al) (he : starEach (a :: es) X.env = (false, eval a X.env) :: starEach es X.env := by rfl) (hpl : (backTo pos (starEach es X.env)).any (·.1) = false := by rfl) :
    DP X (.Call (.Name "min" p) (a :: es) [] pos) (eA dMin2 fs) [] := by
  refine cb (pe_callB (call_min2 hc) hg hm boot_min' ha (he := he) (hpl := hpl)) fun ρ σ O W H vs ds d Q r e p q => ?_
  unfold dMin2 at e
  split at e
  · cases e
    obtain ⟨v, w, rfl, p1, p2⟩ := rpAll2 p
    cases p1; cases p2
    exact ⟨_, _, rfl, q.here r.sub (.int _)⟩
  · cases e
def dBls : List D → Option (List Bool)
  | [] => some []
  | .bl i :: r => (dBls r).map (i :: ·)
  | _ :: _ => none
theorem dBls_map : ∀ {ds : List D} {ns : List Bool}, dBls ds = some ns → ds = ns.map .bl
  | [], _, e => by cases e; rfl
  | .bl i :: r, _, e => by
    simp only [dBls, Option.map_eq_some_iff] at e
    obtain ⟨ms, e1, rfl⟩ := e
    rw [dBls_map e1]; rfl
  | .non :: _, _, e => by cases e
  | .int _ :: _, _, e => by cases e
  | .str _ :: _, _, e => by cases e
  | .tup _ :: _, _, e => by cases e
  | .lst _ :: _, _, e => by cases e
  | .scr _ :: _, _, e => by cases e
  | .dct _ :: _, _, e => by cases e
  | .fn _ _ :: _, _, e => by cases e
def dAll : List D → Option D
  | [.lst xs] => (dBls xs).map fun ns => .bl (ns.all id)
  | _ => none
def dAny : List D → Option D
  | [.lst xs] => (dBls xs).map fun ns => .bl (ns.any id)
  | _ => none
theorem dp_allc (hc : X.calm = true) (hg : Gl X "all") (hm : X.mg "all" = none) (ha : DA X (a :: es) fs al) (he : starEach (a :: es) X.env = (false, eval a X.env) :: starEach es X.env := by rfl) (hpl : (backTo pos (starEach es X.env)).any (·.1) = false := by rfl) :
    DP X (.Call (.Name "all" p) (a :: es) [] pos) (eA dAll fs) [] := by
  refine cb (pe_callB (cr_all hc) hg hm boot_all' ha (he := he) (hpl := hpl)) fun ρ σ O W H vs ds d Q r e p q => ?_
  unfold dAll at e
  split at e
  · obtain ⟨ns, e1, rfl⟩ := Option.map_eq_some_iff.mp e
    obtain ⟨v, rfl, p1⟩ := rpAll1 p
    obtain ⟨a', ws, rfl, k, ra⟩ := rp_lst p1
    rw [dBls_map e1] at ra
    have := ra.toBls
    subst this
    exact ⟨a', ns, rfl, .inl (.inl (vw_subT r.sub _ _ k)), q.here r.sub (.bl _)⟩
  · cases e
theorem dp_anyc (hc : X.calm = true) (hg : Gl X "any") (hm : X.mg "any" = none) (ha : DA X (a :: es) fs al) (he : starEach (a :: es) X.env = (false, eval a X.env) :: starEach es X.env := by rfl) (hpl : (backTo pos (starEach es X.env)).any (·.1) = false := by rfl) :
    DP X (.Call (.Name "any" p) (a :: es) [] pos) (eA dAny fs) [] := by
  refine cb (pe_callB (cr_any hc) hg hm boot_any' ha (he := he) (hpl := hpl)) fun ρ σ O W H vs ds d Q r e p q => ?_
  unfold dAny at e
  split at e
  · obtain ⟨ns, e1, rfl⟩ := Option.map_eq_some_iff.mp e
    obtain ⟨v, rfl, p1⟩ := rpAll1 p
    obtain ⟨a', ws, rfl, k, ra⟩ := rp_lst p1
    rw [dBls_map e1] at ra
    have := ra.toBls
    subst this
    exact ⟨a', ns, rfl, .inl (.inl (vw_subT r.sub _ _ k)), q.here r.sub (.bl _)⟩
  · cases e
/-! ### isinstance(e, T) -/
inductive Ty where
  | int | bool | str | list | tuple | dict
def Ty.name : Ty → String
  | .int => "int"
  | .bool => "bool"
  | .str => "str"
  | .list => "list"
  | .tuple => "tuple"
  | .dict => "dict"
def isi (t : Ty) : D → Option D
  | .non => some (.bl false)
  | .bl _ => some (.bl (match t with | .int => true | .bool => true | _ => false))
  | .int _ => some (.bl (match t with | .int => true | _ => false))
  | .str _ => some (.bl (match t with | .str => true | _ => false))
  | .tup _ => some (.bl (match t with | .tuple => true | _ => false))
  | .lst _ => some (.bl (match t with | .list => true | _ => false))
  | .scr _ => some (.bl (match t with | .list => true | _ => false))
  | .dct _ => none
  | .fn _ _ => none
theorem kit1 (a b : String) {r : Bool} (h : kitB a b = some r) {K : PySem.W.Frag} : PySem.W.kitOne K (.type a) (.type b) = some r := kit_ty h
theorem isi_kit (t : Ty) : kitB "NoneType" t.name = some false ∧ kitB "bool" t.name = some (match t with | .int => true | .bool => true | _ => false) ∧ kitB "int" t.name = some (match t with | .int => true | _ => false) ∧
    kitB "str" t.name = some (match t with | .str => true | _ => false) ∧ kitB "tuple" t.name = some (match t with | .tuple => true | _ => false) ∧ kitB "list" t.name = some (match t with | .list => true | _ => false) ∧ kitB "dict" t.name = some (match t with | .dict => true | _ => false) := by
  cases t <;> decide +kernel
theorem isi_ok {K : PySem.W.Frag} {U H : Hp} {v : V} {x d : D} {t : Ty} {Q : VK} (e : isi t x = some d) (p1 : Rp K U v x) (sb : Same U H) (q : ∀ b, d = .bl b → Q (.bl b) H) : rIsi K [v, .ty t.name] H Q := by
  obtain ⟨k1, k2, k3, k4, k5, k6, k7⟩ := isi_kit t
  cases p1 with
  | non => cases e; exact ⟨_, _, _, _, _, rfl, .ty _, .base .non, kit_ty k1, q _ rfl⟩
  | bl b => cases e; exact ⟨_, _, _, _, _, rfl, .ty _, .base (.bl _), kit_ty k2, q _ rfl⟩
  | int b => cases e; exact ⟨_, _, _, _, _, rfl, .ty _, .base (.int _), kit_ty k3, q _ rfl⟩
  | str b => cases e; exact ⟨_, _, _, _, _, rfl, .ty _, .base (.str _), kit_ty k4, q _ rfl⟩
  | tup h _ =>
    cases e
    rcases h with (h | ⟨o, h⟩) | ⟨o, its, n, h1, h2, _⟩
    · exact ⟨_, _, _, _, _, rfl, .ty _, .base (.tup (sb _ _ h)), kit_ty k5, q _ rfl⟩
    · exact ⟨_, _, _, _, _, rfl, .ty _, .fTuple (sb _ _ h), kit_ty k5, q _ rfl⟩
    · exact ⟨_, _, _, _, _, rfl, .ty _, .kTuple h1 h2, kit_ty k5, q _ rfl⟩
  | lst h _ => cases e; exact ⟨_, _, _, _, _, rfl, .ty _, .base (.lst (sb _ _ h)), kit_ty k6, q _ rfl⟩
  | scr h =>
    cases e
    rcases h with ⟨o, h⟩ | ⟨o, its, n, h1, h2, _⟩
    · exact ⟨_, _, _, _, _, rfl, .ty _, .base (.frz (sb _ _ h)), kit_ty k6, q _ rfl⟩
    · exact ⟨_, _, _, _, _, rfl, .ty _, .kList h1 h2, kit_ty k6, q _ rfl⟩
  | dct h _ => cases e
  | fn _ _ _ => cases e
theorem dp_isi (t : Ty) {e : Expr} (hg : Gl X "isinstance") (hm : X.mg "isinstance" = none) (ha : DP X a f al) (he : PE X e (tC (.ty t.name)))
    (h1 : starEach [a, e] X.env = (false, eval a X.env) :: starEach [e] X.env := by rfl) (h2 : starEach [e] X.env = (false, eval e X.env) :: starEach [] X.env := by rfl) (hpl : (backTo pos (starEach [e] X.env)).any (·.1) = false := by rfl) :
    DP X (.Call (.Name "isinstance" p) [a, e] [] pos) (e1 (isi t) f) [] := by
  refine pe_imp (pe_callB call_isi hg hm boot_isi' (pa_cons ha (pa_cons he pa_nil h2) h1) (he := h1) (hpl := hpl)) fun σ H Q ⟨ρ, O, W, d, rs, e, q⟩ => ?_
  obtain ⟨x, k1, e⟩ := opt_bind e
  refine ⟨ρ, O, W, x, rs, k1, fun v1 W1 H1 s1 p1 => ?_⟩
  exact isi_ok e p1 (vw_subT s1.sub) fun b hb => by
    subst hb
    exact (q.step s1).here s1.sub (.bl _)
theorem pe_tyInt {x : Str} {n : String} {pos : Pos} (hg : Gl X x) (hm : X.mg x = none) (hv : bootBuiltins x = some (.type n)) (hn : x ≠ "__name__" := by decide) (hd : (x == ("__debug__" : Str)) = false := by decide) : PE X (.Name x pos) (tC (.ty n)) := pe_bltn hg hm hv rfl hn hd
end
end DL

/-! The data layer, 4: own functions, statements, loops, comprehensions. -/
namespace DL
open PySem PySem.Spec L2
variable [Tbs]

/-! ### own functions -/
def spD (K : PySem.W.Frag) (φ : List D → Option D) (n : Nat) : Sp := fun vs H Q _ => ∃ W ds d, ds.length = n ∧ Same W (tb H) ∧ TZ H ∧ RpAll K W vs ds ∧ φ ds = some d ∧ ∀ v W' H', PZ W H W' H' → Rp K W' v d → Q v H'
structure FOk (P : Program) (w : World) (K : PySem.W.Frag) (mg : Str → Option Value) (base : Heap) (n : Nat) (x : Str) (ps : List Str) (φ : List D → Option D) : Prop where
  ex : ∃ f fd, mg x = some (.ref f) ∧ PySem.W.keepIn K (.ref f) = true ∧ Binds K fd ps [] ∧ FnOk P w K mg base CX0 n f fd ps (spD K φ ps.length)
def fnL (n : Nat) (φ : List D → Option D) : List D → Option D := fun ds => if ds.length = n then φ ds else none

section
variable {K : PySem.W.Frag} {ρ : Rho} {σ : L2.St} {al : List Nat} {W H U' H' : Hp}
/-- behind a call: what is new is seen -/
def seen (W H U' : Hp) : Hp := fun b => match W b with
  | some o => some o
  | none => match H b with
    | some _ => none
    | none => U' b
theorem seen_ok0 (s : Same W H) (p : PStep (vw ρ σ al W H) H U' H') : PStep W H (seen W H U') H' ∧ Same U' (vw ρ σ al (seen W H U') H') := by
  have st : PStep W H (seen W H U') H' := by
    refine ⟨fun b o e => by unfold seen; rw [e], p.keep, fun b o e => ?_, fun b o e => ?_⟩
    · unfold seen at e
      split at e
      · rename_i q; cases e; exact p.keep b o (s b o q)
      · split at e
        · cases e
        · exact p.sub b o e
    · unfold seen at e
      split at e
      · rename_i q; cases e; exact .inl q
      · split at e
        · cases e
        · rename_i q; exact .inr q
  refine ⟨st, fun b o e => ?_⟩
  rcases p.new b o e with z | z
  · rcases of_vw z with y | ⟨_, y, i, hi, u⟩
    · exact vw_of b (st.le b o y)
    · exact vw_own hi u (p.keep b o y) st.sub
  · refine vw_of b ?_
    unfold seen
    have : W b = none := by
      cases q : W b with
      | none => rfl
      | some u => rw [s b u q] at z; cases z
    rw [this, z]
    exact e
theorem seen_ok (s : Same W (tb H)) (p : PZ (vw ρ σ al W (tb H)) H U' H') : PZ W H (seen W (tb H) U') H' ∧ Same U' (vw ρ σ al (seen W (tb H) U') (tb H')) := by
  obtain ⟨k1, k2⟩ := seen_ok0 s p.toPStep
  exact ⟨⟨k1, p.tabs⟩, k2⟩
end
section
variable {X : Cx} {a b c : Expr} {es : List Expr} {f g h : Ex} {fs : Exs} {al bl cl : List Nat} {pos p : Pos}
theorem dp_call {n k : Nat} {x : Str} {ps : List Str} {φ : List D → Option D} (F : FOk X.prog X.w X.K X.mg X.base n x ps φ) (hr : Room n X.A) (hg : Gl X x) (ha : DA X (a :: es) fs al) (hdb : (x == ("__debug__" : Str)) = false := by decide)
    (he : starEach (a :: es) X.env = (false, eval a X.env) :: starEach es X.env := by rfl) (hpl : (backTo pos (starEach es X.env)).any (·.1) = false := by rfl) (hkk : ps.length = k := by rfl) : DP X (.Call (.Name x p) (a :: es) [] pos) (eA (fnL k φ) fs) al := by
  subst hkk
  obtain ⟨fa, fd, hm, hk, hb, F⟩ := F.ex
  refine pe_imp (pe_call F hr hg hm hk hb .nil pass0 ha hdb he hpl) fun σ H Q ⟨ρ, O, W, d, rs, e, q⟩ => ?_
  obtain ⟨ds, h1, e⟩ := opt_bind e
  unfold fnL at e
  split at e
  · rename_i hl
    refine ⟨ρ, O, W, ds, rs, h1, fun vs W1 H1 s1 p1 => ?_⟩
    show spD _ _ _ (vs ++ []) H1 Q _
    rw [List.append_nil]
    refine ⟨vw ρ σ al W1 (tb H1), ds, d, hl, vw_sub s1.sub, (rs.pstep s1).tz, p1, e, fun v U' H' st r => ?_⟩
    obtain ⟨k1, k2⟩ := seen_ok s1.sub st
    exact (q.step s1) v _ H' k1 (rp_mono k2 r)
  · cases e
theorem dp_call0 {n : Nat} {x : Str} {φ : List D → Option D} (F : FOk X.prog X.w X.K X.mg X.base n x [] φ) (hr : Room n X.A) (hg : Gl X x) (hdb : (x == ("__debug__" : Str)) = false := by decide) :
    DP X (.Call (.Name x p) [] [] pos) (eA (fnL 0 φ) esN) [] := by
  obtain ⟨fa, fd, hm, hk, hb, F⟩ := F.ex
  refine pe_imp (pe_call0 F hr hg hm hk hb .nil pass0 hdb) fun σ H Q ⟨ρ, O, W, d, rs, e, q⟩ => ?_
  obtain ⟨ds, h1, e⟩ := opt_bind e
  cases h1
  refine ⟨W, [], d, rfl, rs.sub, rs.tz, .nil, e, fun v U' H' st r => q v _ H' st (rp_mono vw_le r)⟩

/-! ### what a statement comes to -/
inductive Out where
  | nx (ρ : Rho)
  | ret (d : D)
  | brk (ρ : Rho)
  | ct (ρ : Rho)
def SPost (K : PySem.W.Frag) (O : Addr → Bool) (W H : Hp) (E : Ends) : Out → Prop
  | .nx ρ => ∀ σ' O' W' H', SZ O W H O' W' H' → RZ K ρ σ' O' W' H' → E.nx σ' H'
  | .ret d => ∀ v O' W' H', SZ O W H O' W' H' → Same W' (tb H') → Rp K W' v d → E.rt v H'
  | .brk ρ => ∀ σ' O' W' H', SZ O W H O' W' H' → RZ K ρ σ' O' W' H' → E.bk σ' H'
  | .ct ρ => ∀ σ' O' W' H', SZ O W H O' W' H' → RZ K ρ σ' O' W' H' → E.ct σ' H'
abbrev Sx := Rho → Option Out
def tS (K : PySem.W.Frag) (F : Sx) : TS := fun E σ H => ∃ ρ O W out, RZ K ρ σ O W H ∧ F ρ = some out ∧ SPost K O W H E out
abbrev DS (X : Cx) (st : Stmt) (F : Sx) : Prop := PS X st (tS X.K F)
abbrev DSs (X : Cx) (st : List Stmt) (F : Sx) : Prop := PSs X st (tS X.K F)
theorem SPost.step {K : PySem.W.Frag} {O O1 : Addr → Bool} {W H W1 H1 : Hp} {E : Ends} : ∀ {out : Out}, SPost K O W H E out → SZ O W H O1 W1 H1 → SPost K O1 W1 H1 E out
  | .nx _, p, s => fun σ' O' W' H' s' r => p σ' O' W' H' (s.trans s') r
  | .ret _, p, s => fun v O' W' H' s' sb r => p v O' W' H' (s.trans s') sb r
  | .brk _, p, s => fun σ' O' W' H' s' r => p σ' O' W' H' (s.trans s') r
  | .ct _, p, s => fun σ' O' W' H' s' r => p σ' O' W' H' (s.trans s') r

/-! ### blocks -/
def sNil : Sx := fun ρ => some (.nx ρ)
def sSeq (F G : Sx) : Sx := fun ρ => (F ρ).bind fun o => match o with
  | .nx ρ' => G ρ'
  | o => some o
theorem dss_nil : DSs X [] sNil := pss_imp pss_nil fun E σ H ⟨ρ, O, W, out, rs, e, q⟩ => by
  cases e
  exact q σ O W H .refl rs
theorem dss_cons {st : Stmt} {rest : List Stmt} {F G : Sx} (h1 : DS X st F) (h2 : DSs X rest G) : DSs X (st :: rest) (sSeq F G) := pss_imp (pss_cons h1 h2) fun E σ H ⟨ρ, O, W, out, rs, e, q⟩ => by
  obtain ⟨o, e1, e2⟩ := opt_bind e
  refine ⟨ρ, O, W, o, rs, e1, ?_⟩
  cases o with
  | nx ρ' => exact fun σ' O' W' H' s' r' => ⟨ρ', O', W', out, r', e2, q.step s'⟩
  | ret d => cases e2; exact q
  | brk ρ' => cases e2; exact q
  | ct ρ' => cases e2; exact q
theorem dss_one {st : Stmt} {F : Sx} (h1 : DS X st F) : DSs X [st] F := pss_one h1
theorem ds_never {st : Stmt} : DS X st (fun _ => none) := ps_imp ps_never fun E σ H ⟨ρ, O, W, out, rs, e, q⟩ => by cases e
def sNone : Sx := fun _ => none
theorem ds_none {st : Stmt} : DS X st sNone := ds_never
theorem ds_pass : DS X (.Pass pos) sNil := ps_imp ps_pass fun E σ H ⟨ρ, O, W, out, rs, e, q⟩ => by
  cases e
  exact q σ O W H .refl rs
theorem ds_doc {x j pos pos'} : DS X (.Expr (.Constant (.str x) j pos) pos') sNil := ps_imp ps_doc fun E σ H ⟨ρ, O, W, out, rs, e, q⟩ => by
  cases e
  exact q σ O W H .refl rs
def sCt : Sx := fun ρ => some (.ct ρ)
def sBk : Sx := fun ρ => some (.brk ρ)
theorem ds_ct : DS X (.Continue pos) sCt := ps_imp ps_continue fun E σ H ⟨ρ, O, W, out, rs, e, q⟩ => by
  cases e
  exact q σ O W H .refl rs
theorem ds_bk : DS X (.Break pos) sBk := ps_imp ps_break fun E σ H ⟨ρ, O, W, out, rs, e, q⟩ => by
  cases e
  exact q σ O W H .refl rs
def sRet (f : Ex) : Sx := fun ρ => (f ρ).map .ret
theorem ds_ret (ha : DP X a f al) : DS X (.Return (some a) pos) (sRet f) := ps_imp (ps_ret ha) fun E σ H ⟨ρ, O, W, out, rs, e, q⟩ => by
  obtain ⟨d, e1, rfl⟩ := Option.map_eq_some_iff.mp e
  refine ⟨ρ, O, W, d, rs, e1, fun v W1 H1 s1 p1 => ?_⟩
  obtain ⟨O2, W2, k1, k2, k3⟩ := (rs.pstep s1).esc p1
  exact q v O2 W2 H1 (s1.s.trans k1.t) k2.sub k3
def sRetN : Sx := fun _ => some (.ret .non)
theorem ds_retN : DS X (.Return none pos) sRetN := ps_imp ps_retN fun E σ H ⟨ρ, O, W, out, rs, e, q⟩ => by
  cases e
  exact q .non O W H .refl rs.sub .non
def sIf (t : Te) (F G : Sx) : Sx := fun ρ => (t ρ).bind fun b => if b = true then F ρ else G ρ
theorem ds_if {A B : List Stmt} {t : Te} {F G : Sx} (hc : DT X c t) (ha : DSs X A F) (hb : DSs X B G) : DS X (.If c A B pos) (sIf t F G) := ps_imp (ps_if hc ha hb) fun E σ H ⟨ρ, O, W, out, rs, e, q⟩ => by
  obtain ⟨b, e1, e2⟩ := opt_bind e
  refine ⟨ρ, O, W, b, rs, e1, fun W1 H1 s1 => ?_⟩
  cases b with
  | true => exact iteT ⟨ρ, O, W1, out, rs.pstep s1, e2, q.step s1.s⟩
  | false => exact iteF ⟨ρ, O, W1, out, rs.pstep s1, e2, q.step s1.s⟩

/-! ### expressions that change own lists -/
abbrev Xe := Rho → Option (D × Rho)
abbrev Xs := Rho → Option (List D × Rho)
def tX (K : PySem.W.Frag) (f : Xe) : TE := fun σ H Q => ∃ ρ O W d ρ', RZ K ρ σ O W H ∧ f ρ = some (d, ρ') ∧ ∀ v O' W' H', SZ O W H O' W' H' → RZ K ρ' σ O' W' H' → Rp K W' v d → Q v H'
def tXs (K : PySem.W.Frag) (f : Xs) : TA := fun σ H Q => ∃ ρ O W ds ρ', RZ K ρ σ O W H ∧ f ρ = some (ds, ρ') ∧ ∀ vs O' W' H', SZ O W H O' W' H' → RZ K ρ' σ O' W' H' → RpAll K W' vs ds → Q vs H'
abbrev DE (X : Cx) (e : Expr) (f : Xe) : Prop := PE X e (tX X.K f)
abbrev DEs (X : Cx) (es : List Expr) (f : Xs) : Prop := PA X es (tXs X.K f)
def xP (al : List Nat) (f : Ex) : Xe := fun ρ => (f ρ).map fun d => (d, esc al d ρ)
theorem tX_tP {K : PySem.W.Frag} {f : Ex} {al : List Nat} (σ : L2.St) (H : Hp) (Q : VK) (h : tX K (xP al f) σ H Q) : tP K f al σ H Q := by
  obtain ⟨ρ, O, W, d, ρ', rs, e, q⟩ := h
  obtain ⟨d', e1, e2⟩ := Option.map_eq_some_iff.mp e
  cases e2
  refine ⟨ρ, O, W, d, rs, e1, fun v W1 H1 s1 p1 => ?_⟩
  obtain ⟨O2, W2, k1, k2, k3⟩ := (rs.pstep s1).esc p1
  exact q v O2 W2 H1 (s1.s.trans k1.t) k2 k3
theorem de_p (ha : DP X a f al) : DE X a (xP al f) := pe_imp ha tX_tP
def xsN : Xs := fun ρ => some ([], ρ)
def xsC (f : Xe) (fs : Xs) : Xs := fun ρ => (f ρ).bind fun x => (fs x.2).bind fun xs => some (x.1 :: xs.1, xs.2)
theorem des_nil : DEs X [] xsN := pa_imp pa_nil fun σ H Q ⟨ρ, O, W, ds, ρ', rs, e, q⟩ => by
  cases e
  exact q [] O W H .refl rs .nil
theorem des_cons {f : Xe} {fs : Xs} (ha : DE X a f) (hr : DEs X es fs) (hs : starEach (a :: es) X.env = (false, eval a X.env) :: starEach es X.env := by rfl) : DEs X (a :: es) (xsC f fs) := pa_imp (pa_cons ha hr hs) fun σ H Q ⟨ρ, O, W, ds, ρ', rs, e, q⟩ => by
  obtain ⟨⟨x, ρ1⟩, e1, e⟩ := opt_bind e
  obtain ⟨⟨xs, ρ2⟩, e2, e⟩ := opt_bind e
  cases e
  refine ⟨ρ, O, W, x, ρ1, rs, e1, fun v O1 W1 H1 s1 r1 p1 => ⟨ρ1, O1, W1, xs, ρ2, r1, e2, fun vs O2 W2 H2 s2 r2 p2 => ?_⟩⟩
  exact q (v :: vs) O2 W2 H2 (s1.trans s2) r2 (.cons (rp_mono s2.le p1) p2)
def xA (k : List D → Option D) (fs : Xs) : Xe := fun ρ => (fs ρ).bind fun x => (k x.1).map fun d => (d, x.2)
theorem de_tup {x1} {fs : Xs} (h : DEs X es fs) : DE X (.Tuple es x1 pos) (xA dTup fs) := pe_imp (pe_tup h) fun σ H Q ⟨ρ, O, W, d, ρ', rs, e, q⟩ => by
  obtain ⟨⟨ds, ρ1⟩, e1, e⟩ := opt_bind e
  obtain ⟨d', e2, e⟩ := Option.map_eq_some_iff.mp e
  cases e
  unfold dTup at e2
  split at e2
  · rename_i hz
    cases e2
    refine ⟨ρ, O, W, ds, ρ1, rs, e1, fun vs O1 W1 H1 s1 r1 p1 => ⟨by rw [line_eq, p1.length]; exact hz, fun p n => ?_⟩⟩
    have st := upd_step r1.sub n (nt_tup (vs := vs))
    exact q _ O1 _ _ (s1.trans st.s) (r1.pstep st) (.tup (.inl (.inl upd_same)) (rpAll_mono st.le p1))
  · cases e2
theorem de_call {n k : Nat} {x : Str} {ps : List Str} {φ : List D → Option D} {fs : Xs} (F : FOk X.prog X.w X.K X.mg X.base n x ps φ) (hr : Room n X.A) (hg : Gl X x) (ha : DEs X (a :: es) fs) (hdb : (x == ("__debug__" : Str)) = false := by decide)
    (he : starEach (a :: es) X.env = (false, eval a X.env) :: starEach es X.env := by rfl) (hpl : (backTo pos (starEach es X.env)).any (·.1) = false := by rfl) (hkk : ps.length = k := by rfl) : DE X (.Call (.Name x p) (a :: es) [] pos) (xA (fnL k φ) fs) := by
  subst hkk
  obtain ⟨fa, fd, hm, hk, hb, F⟩ := F.ex
  refine pe_imp (pe_call F hr hg hm hk hb .nil pass0 ha hdb he hpl) fun σ H Q ⟨ρ, O, W, d, ρ', rs, e, q⟩ => ?_
  obtain ⟨⟨ds, ρ1⟩, h1, e⟩ := opt_bind e
  obtain ⟨d', e2, e⟩ := Option.map_eq_some_iff.mp e
  cases e
  unfold fnL at e2
  split at e2
  · rename_i hl
    refine ⟨ρ, O, W, ds, ρ1, rs, h1, fun vs O1 W1 H1 s1 r1 p1 => ?_⟩
    show spD _ _ _ (vs ++ []) H1 Q _
    rw [List.append_nil]
    refine ⟨W1, ds, d, hl, r1.sub, r1.tz, p1, e2, fun v W' H' st r => q v O1 W' H' (s1.trans st.s) (r1.pstep st) r⟩
  · cases e2
/-- x.pop(), x a name -/
def xPop (i : Nat) : Xe := fun ρ => match ρ[i]? with
  | some (.own xs) => (xs[xs.length - 1]?).map fun d => (d, ρ.set i (.own xs.dropLast))
  | _ => none
theorem de_pop {i : Nat} {o : Expr} {apos cpos : Pos} (ho : PE X o (tVar i)) (hbase : attributeBase o "pop" X.env (eval o X.env) = eval o X.env := by rfl) (hline : (apos.endLine == cpos.line) = true := by rfl) :
    DE X (.Call (.Attribute o "pop" apos) [] [] cpos) (xPop i) := by
  refine pe_imp (pe_bm0 PySem.F.plainAttrs_list PySem.F.slot_list_pop PySem.F.type_list_pop mt_pop ho hbase hline) fun σ H Q ⟨ρ, O, W, d, ρ', rs, e, q⟩ => ?_
  unfold xPop at e
  split at e
  · rename_i xs hq
    obtain ⟨d', e1, e2⟩ := Option.map_eq_some_iff.mp e
    cases e2
    obtain ⟨a, vs, h1, h2, h3, h4⟩ := rs.owns i xs hq
    obtain ⟨v, g1, g2⟩ := h4.get e1
    obtain ⟨k1, k2⟩ := rs.write (xs := xs.dropLast) hq h1 h4.dropLast
    exact ⟨.ref a, h1, .inl ⟨rfl, _, .inl (.inl (tb_le _ _ h3))⟩, a, vs, v, rfl, rfl, tb_le _ _ h3, by rw [h4.length]; exact g1, q v O W _ k2 k1 g2⟩
  · cases e
/-- x.pop(i) -/
def xPopAt (i : Nat) (f : Ex) : Xe := fun ρ => (f ρ).bind fun k => match k, ρ[i]? with
  | .int n, some (.own xs) => if -(2 ^ 63) ≤ n ∧ n < 2 ^ 63 then (seqIndex? n xs.length).bind fun j => (xs[j]?).map fun d => (d, ρ.set i (.own (xs.eraseIdx j))) else none
  | _, _ => none

/-! ### targets -/
/-- slots but ts stay -/
def OutS (ts : List Nat) (σ σ' : L2.St) : Prop := σ'.length = σ.length ∧ ∀ k, k ∉ ts → σ'[k]? = σ[k]?
def tG (K : PySem.W.Frag) (g : D → Rho → Option Rho) (ts : List Nat) : TG := fun v σ H Q => ∃ ρ O W d ρ', RZ K ρ σ O W H ∧ Rp K W v d ∧ g d ρ = some ρ' ∧ ∀ σ', RZ K ρ' σ' O W H → OutS ts σ σ' → Q σ' H
abbrev DG (X : Cx) (e : Expr) (g : D → Rho → Option Rho) (ts : List Nat) : Prop := PG X e (tG X.K g ts)
def gN (i : Nat) : D → Rho → Option Rho := fun d ρ => some (ρ.set i (.val d))
theorem pg_imp {e : Expr} {t t' : TG} (h : PG X e t) (i : ∀ v σ H Q, t' v σ H Q → t v σ H Q) : PG X e t' := ⟨fun pins s σ H v u Q I r q => h.run pins s σ H v u Q I r (i v σ H Q q)⟩
theorem dg_name {i : Nat} {e : Expr} (h : PG X e (gName i)) : DG X e (gN i) [i] := pg_imp h fun v σ H Q ⟨ρ, O, W, d, ρ', rs, p, e, q⟩ => by
  cases e
  refine q _ (rs.set p) ⟨by simp, fun k hk => ?_⟩
  rw [List.getElem?_set_ne (fun z => hk (by simp [z]))]
def tGs (K : PySem.W.Frag) (g : List D → Rho → Option Rho) (ts : List Nat) : TGs := fun vs σ H Q => ∃ ρ O W ds ρ', RZ K ρ σ O W H ∧ RpAll K W vs ds ∧ g ds ρ = some ρ' ∧ ∀ σ', RZ K ρ' σ' O W H → OutS ts σ σ' → Q σ' H
abbrev DGs (X : Cx) (es : List Expr) (g : List D → Rho → Option Rho) (ts : List Nat) : Prop := PGs X es (tGs X.K g ts)
theorem pgs_imp {es : List Expr} {t t' : TGs} (h : PGs X es t) (i : ∀ v σ H Q, t' v σ H Q → t v σ H Q) : PGs X es t' := ⟨fun pins s σ H vs us Q I r q => h.run pins s σ H vs us Q I r (i vs σ H Q q)⟩
def gsN : List D → Rho → Option Rho := fun ds ρ => match ds with
  | [] => some ρ
  | _ => none
def gsC (g : D → Rho → Option Rho) (gs : List D → Rho → Option Rho) : List D → Rho → Option Rho := fun ds ρ => match ds with
  | d :: r => (g d ρ).bind fun ρ' => gs r ρ'
  | [] => none
theorem dgs_nil : DGs X [] gsN [] := pgs_imp pgs_nil fun vs σ H Q ⟨ρ, O, W, ds, ρ', rs, p, e, q⟩ => by
  unfold gsN at e
  split at e
  · cases e; cases p
    exact ⟨rfl, q σ rs ⟨rfl, fun _ _ => rfl⟩⟩
  · cases e
theorem OutS.mono {ts us : List Nat} {σ σ' : L2.St} (h : OutS ts σ σ') (s : ∀ i ∈ ts, i ∈ us) : OutS us σ σ' := ⟨h.1, fun k hk => h.2 k fun z => hk (s k z)⟩
theorem OutS.trans {ts : List Nat} {σ σ1 σ2 : L2.St} (h : OutS ts σ σ1) (h' : OutS ts σ1 σ2) : OutS ts σ σ2 := ⟨h'.1.trans h.1, fun k hk => (h'.2 k hk).trans (h.2 k hk)⟩
theorem dgs_cons {g : D → Rho → Option Rho} {gs : List D → Rho → Option Rho} {ts us : List Nat} (h1 : DG X a g ts) (h2 : DGs X es gs us) (hs : (assignEach (a :: es) X.env).map (·.2) = assign a X.env :: (assignEach es X.env).map (·.2) := by rfl) : DGs X (a :: es) (gsC g gs) (ts ++ us) := pgs_imp (pgs_cons h1 h2 hs) fun vs σ H Q ⟨ρ, O, W, ds, ρ', rs, p, e, q⟩ => by
  unfold gsC at e
  split at e
  · obtain ⟨ρ1, e1, e2⟩ := opt_bind e
    cases p with
    | cons p1 p2 =>
      refine ⟨_, _, rfl, ρ, O, W, _, ρ1, rs, p1, e1, fun σ1 r1 o1 => ⟨ρ1, O, W, _, ρ', r1, p2, e2, fun σ2 r2 o2 => ?_⟩⟩
      exact q σ2 r2 ((o1.mono fun i hi => List.mem_append_left _ hi).trans (o2.mono fun i hi => List.mem_append_right _ hi))
  · cases e
def gT (n : Nat) (gs : List D → Rho → Option Rho) : D → Rho → Option Rho := fun d ρ => match d with
  | .tup ds => if ds.length = n then gs ds ρ else none
  | .lst ds => if ds.length = n then gs ds ρ else none
  | _ => none
theorem pg_or {e : Expr} {t u : TG} (h : PG X e t) (k : PG X e u) : PG X e (fun v σ H Q => t v σ H Q ∨ u v σ H Q) := ⟨fun pins s σ H v w Q I r hw => hw.elim (h.run pins s σ H v w Q I r) (k.run pins s σ H v w Q I r)⟩
theorem dg_tup {k : Nat} {gs : List D → Rho → Option Rho} {ts : List Nat} (n : Nat) (hc : X.calm = true) (h : DGs X es gs ts) (hn : (assignEach es X.env).length = n := by rfl) (hst : (assignEach es X.env).findIdx? (·.1) = none := by rfl) : DG X (.Tuple es k pos) (gT n gs) ts := pg_imp (pg_or (pg_tup hc h hn hst) (pg_unl hc h hn hst)) fun v σ H Q ⟨ρ, O, W, d, ρ', rs, p, e, q⟩ => by
  unfold gT at e
  split at e
  · split at e
    · rename_i hl
      obtain ⟨a, xs, rfl, hq, ra⟩ := rp_tup p
      exact .inl ⟨a, xs, rfl, sqT_mono (rs.sub.trans tb_le) hq, by rw [ra.length]; exact hl, ρ, O, W, _, ρ', rs, ra, e, q⟩
    · cases e
  · split at e
    · rename_i hl
      obtain ⟨a, xs, rfl, hq, ra⟩ := rp_lst p
      exact .inr ⟨a, xs, rfl, .inl (.inl (tb_le _ _ (rs.sub _ _ hq))), by rw [ra.length]; exact hl, ρ, O, W, _, ρ', rs, ra, e, q⟩
    · cases e
  · cases e

/-! ### assignments -/
def sG (f : Xe) (g : D → Rho → Option Rho) : Sx := fun ρ => (f ρ).bind fun x => (g x.1 x.2).map .nx
theorem ds_asg {f : Xe} {g : D → Rho → Option Rho} {ts : List Nat} (he : DE X a f) (hg : DG X b g ts) (hs : swapsWithSole [b] a pos.line X.env = pure false := by rfl) (hw : swappedStores [b] a X.env = pure none := by rfl)
    (h1 : (assignEach [b] X.env).map (·.2) = [assign b X.env] := by rfl) : DS X (.Assign [b] a pos) (sG f g) := ps_imp (ps_asg he hg hs hw h1) fun E σ H ⟨ρ, O, W, out, rs, e, q⟩ => by
  obtain ⟨⟨d, ρ1⟩, e1, e⟩ := opt_bind e
  obtain ⟨ρ2, e2, rfl⟩ := Option.map_eq_some_iff.mp e
  exact ⟨ρ, O, W, d, ρ1, rs, e1, fun v O1 W1 H1 s1 r1 p1 => ⟨ρ1, O1, W1, d, ρ2, r1, p1, e2, fun σ' r' _ => q σ' O1 W1 H1 s1 r'⟩⟩
/-- x = e -/
theorem ds_set {i : Nat} {x : Str} {f : Xe} {pos' : Pos} (hN : X.N.Nodup) (hi : X.N[i]? = some x) (hx : Loc X.env.scope x) (he : DE X a f) (hs : swapsWith a (some (.Name x pos')) pos.line X.env = pure false := by rfl) (hf : X.fn x = true ∨ X.env.scope.names.lookup x = some .local := by first | exact .inl rfl | exact .inr rfl | assumption) :
    DS X (.Assign [.Name x pos'] a pos) (sG f (gN i)) := ps_imp (ps_set hN hi hx he hs hf) fun E σ H ⟨ρ, O, W, out, rs, e, q⟩ => by
  obtain ⟨⟨d, ρ1⟩, e1, e⟩ := opt_bind e
  cases e
  exact ⟨ρ, O, W, d, ρ1, rs, e1, fun v O1 W1 H1 s1 r1 p1 => q _ O1 W1 H1 s1 (r1.set p1)⟩
/-- x = a new list, from then on x's own -/
def sOwn (i : Nat) (al : List Nat) (fs : Exs) : Sx := fun ρ => (fs ρ).bind fun xs => if (noO al ρ || noLs xs) = true then some (.nx (ρ.set i (.own xs))) else none
theorem own_end {K : PySem.W.Frag} {ρ : Rho} {σ : L2.St} {O : Addr → Bool} {W H : Hp} {i : Nat} {xs : List D} {E : Ends} (rs : RZ K ρ σ O W H) (hz : (noO al ρ || noLs xs) = true) (q : SPost K O W H E (.nx (ρ.set i (.own xs)))) :
    ∀ a vs W' H', PZ W H W' H' → tb H a = none → W' a = none → H' a = some (.lst vs) → RpAll K (vw ρ σ al W' (tb H')) vs xs → E.nx (σ.set i (some (.ref a))) H' := fun a vs W' H' s n w hh ra => by
  have r1 := rs.pstep s
  have ra' : RpAll K W' vs xs := by
    rcases Bool.or_eq_true_iff.mp hz with z | z
    · rw [vw_noO z] at ra
      exact ra
    · exact rpAll_down r1 z ra
  have oa : O a = false := by
    cases z : O a with
    | false => rfl
    | true => obtain ⟨_, us, y, _⟩ := rs.hid a z; rw [n] at y; cases y
  refine q _ _ W' H' ⟨⟨s.le, fun b o e _ => s.keep b o e, fun b o e => (s.new b o e).elim .inl fun z => .inr (.inl z), fun b e => ?_⟩, s.tabs⟩ (r1.setOwn (tb_of hh nt_lst) w oa ra')
  rcases Bool.or_eq_true_iff.mp e with z | z
  · exact .inl z
  · exact .inr (by rw [of_decide_eq_true z]; exact n)
theorem ds_own {i : Nat} {x : Str} {fs : Exs} {pos' : Pos} (hN : X.N.Nodup) (hi : X.N[i]? = some x) (hx : Loc X.env.scope x) (he : DN X a fs al) (hs : swapsWith a (some (.Name x pos')) pos.line X.env = pure false := by rfl) (hf : X.fn x = true ∨ X.env.scope.names.lookup x = some .local := by first | exact .inl rfl | exact .inr rfl | assumption) :
    DS X (.Assign [.Name x pos'] a pos) (sOwn i al fs) := ps_imp (ps_set hN hi hx he hs hf) fun E σ H ⟨ρ, O, W, out, rs, e, q⟩ => by
  obtain ⟨xs, e1, e⟩ := opt_bind e
  split at e
  · rename_i hz
    cases e
    exact ⟨ρ, O, W, xs, rs, e1, own_end rs hz q⟩
  · cases e
end
end DL

/-! The data layer, 5: methods, loops, comprehensions, bodies. -/
namespace DL
open PySem PySem.Spec L2
variable [Tbs]
section
variable {X : Cx} {a b c : Expr} {es : List Expr} {f g h : Ex} {fs : Exs} {al bl cl : List Nat} {pos p : Pos}

/-! ### x += e -/
def dAug : D → D → Option D
  | .int i, .int j => some (.int (i + j))
  | .str x, .str y => if x.length + y.length ≤ 16777216 then some (.str (x ++ y)) else none
  | _, _ => none
/-- ints, texts; an own list takes the items of another list -/
def sAug (i : Nat) (al : List Nat) (f : Ex) : Sx := fun ρ => (f ρ).bind fun y => match ρ[i]? with
  | some (.val x) => (dAug x y).map fun z => .nx (ρ.set i (.val z))
  | some (.own xs) => match y with
    | .lst ys => if (noO al ρ || noLs ys) = true ∧ xs.length + ys.length ≤ 16777216 then some (.nx (ρ.set i (.own (xs ++ ys)))) else none
    | _ => none
  | _ => none
theorem set_same {ρ : Rho} {σ : L2.St} {K : PySem.W.Frag} {O : Addr → Bool} {W H : Hp} {i : Nat} {xs : List D} {x : V} (r : RZ K ρ σ O W H) (h : σ[i]? = some (some x)) : σ.set i (some x) = σ := by
  obtain ⟨hi, e⟩ := List.getElem?_eq_some_iff.mp h
  rw [← e]
  exact List.set_getElem_self hi
theorem ds_aug {i : Nat} {x : Str} {pos' : Pos} (hN : X.N.Nodup) (hi : X.N[i]? = some x) (hx : Loc X.env.scope x) (he : DP X a f al) (hf : X.fn x = true ∨ X.env.scope.names.lookup x = some .local := by first | exact .inl rfl | exact .inr rfl | assumption) :
    DS X (.AugAssign (.Name x pos') .Add a pos) (sAug i al f) := by
  refine ps_imp (ps_aug (ti := fun x y H Q => (rI0 fun i j => V.int (i + j)) x y H Q ∨ (fun x y H Q => ∃ i j, x = V.str i ∧ y = V.str j ∧ i.length + j.length ≤ sizeLine ∧ Q (V.str (i ++ j)) H) x y H Q ∨ rExt2 x y H Q) hN hi hx he (iop_add.or (iop_add_str.or iop_ext)) hf) fun E σ H ⟨ρ, O, W, out, rs, e, q⟩ => ?_
  obtain ⟨y, e1, e⟩ := opt_bind e
  split at e
  · rename_i x' hq
    obtain ⟨z, e2, rfl⟩ := Option.map_eq_some_iff.mp e
    obtain ⟨v, h1, h2⟩ := rs.vals i _ hq
    refine ⟨v, h1, ρ, O, W, y, rs, e1, fun v2 W2 H2 s2 p2 => ?_⟩
    unfold dAug at e2
    split at e2
    · cases e2; cases h2; cases p2
      exact .inl ⟨_, _, rfl, rfl, q _ O W2 H2 s2.s ((rs.pstep s2).set (.int _))⟩
    · split at e2
      · rename_i hz
        cases e2; cases h2; cases p2
        exact .inr (.inl ⟨_, _, rfl, rfl, by rw [line_eq]; exact hz, q _ O W2 H2 s2.s ((rs.pstep s2).set (.str _))⟩)
      · cases e2
    · cases e2
  · rename_i xs hq
    split at e
    · split at e
      · rename_i ys hz
        cases e
        obtain ⟨a', vs, h1, h2, h3, h4⟩ := rs.owns i _ hq
        refine ⟨.ref a', h1, ρ, O, W, .lst ys, rs, e1, fun v2 W2 H2 s2 p2 => ?_⟩
        have r2 := rs.pstep s2
        obtain ⟨b', ws, rfl, k1, k2⟩ := rp_lst p2
        have k3 : RpAll X.K W2 ws ys := by
          rcases Bool.or_eq_true_iff.mp hz.1 with z | z
          · rw [vw_noO z] at k2
            exact k2
          · exact rpAll_down r2 z k2
        have h4' := rpAll_mono s2.le h4
        obtain ⟨w1, w2⟩ := r2.write (xs := xs ++ ys) hq h1 (h4'.append k3)
        refine .inr (.inr ⟨a', b', vs, ws, rfl, rfl, s2.at h3, vw_subT s2.sub _ _ k1, by rw [line_eq, h4.length, k2.length]; exact hz.2, ?_⟩)
        show E.nx (List.set σ i (some (.ref a'))) _
        rw [set_same (xs := []) rs h1]
        exact q _ O W2 _ (s2.s.trans w2) w1
      · cases e
    · cases e
  · cases e

/-! ### methods of an own list, as statements -/
def sApp (i : Nat) (f : Xe) : Sx := fun ρ => (f ρ).bind fun x => match x.2[i]? with
  | some (.own xs) => if xs.length < 16777216 then some (.nx (x.2.set i (.own (xs ++ [x.1])))) else none
  | _ => none
/-- the list stays own while its argument is reckoned -/
def keepsOwn (i : Nat) (ρ ρ' : Rho) : Bool := match ρ[i]?, ρ'[i]? with
  | some (.own _), some (.own _) => true
  | _, _ => false
theorem ds_app {i : Nat} {o : Expr} {f : Xe} {apos cpos spos : Pos} (ho : PE X o (tVar i)) (ha : DE X a f) (hown : ∀ ρ d ρ' xs, f ρ = some (d, ρ') → ρ'[i]? = some (.own xs) → ∃ ys, ρ[i]? = some (.own ys))
    (hbase : attributeBase o "append" X.env (eval o X.env) = eval o X.env := by rfl)
    (hfew : ((backTo cpos (starEach [a] X.env)).all (fun x => !x.1) && (backToKw cpos (keywordEach [] X.env)).all (fun x => x.1.isSome)
      && decide ([a].length + ([] : List Keyword).length + (if ([] : List Keyword).isEmpty then 0 else 1) < 30)) = true := by rfl)
    (hline : (apos.endLine == cpos.line) = true := by rfl) (hs : starEach [a] X.env = (false, eval a X.env) :: starEach [] X.env := by rfl) (hplain : (backTo cpos (starEach [] X.env)).any (·.1) = false := by rfl)
    (hsw : swapsWith (.Call (.Attribute o "append" apos) [a] [] cpos) none spos.line X.env = pure false := by rfl) :
    DS X (.Expr (.Call (.Attribute o "append" apos) [a] [] cpos) spos) (sApp i f) := by
  refine ps_imp (ps_expr (pe_bm PySem.F.plainAttrs_list PySem.F.slot_list_append PySem.F.type_list_append mt_append ho (pa_cons ha pa_nil hs) hbase hfew hline hs hplain) hsw) fun E σ H ⟨ρ, O, W, out, rs, e, q⟩ => ?_
  obtain ⟨⟨d, ρ1⟩, e1, e⟩ := opt_bind e
  split at e
  · rename_i xs hq
    split at e
    · rename_i hz
      cases e
      obtain ⟨ys, hq0⟩ := hown ρ d ρ1 xs e1 hq
      obtain ⟨a0, vs0, h1, h2, h3, h4⟩ := rs.owns i _ hq0
      refine ⟨.ref a0, h1, .inl ⟨rfl, _, .inl (.inl (tb_le _ _ h3))⟩, ρ, O, W, d, ρ1, rs, e1, fun v O1 W1 H1 s1 r1 p1 => ?_⟩
      obtain ⟨a1, vs1, k1, k2, k3, k4⟩ := r1.owns i _ hq
      rw [h1] at k1
      cases k1
      obtain ⟨w1, w2⟩ := r1.write (xs := xs ++ [d]) hq h1 (k4.append (.one p1))
      exact ⟨a0, vs1, v, rfl, rfl, tb_le _ _ k3, by rw [line_eq, k4.length]; exact hz, q σ O1 W1 _ (s1.trans w2) w1⟩
    · cases e
  · cases e
theorem esc_own {al : List Nat} {d : D} {ρ : Rho} {i : Nat} {xs : List D} (h : (esc al d ρ)[i]? = some (.own xs)) : ∃ ys, ρ[i]? = some (.own ys) := by
  unfold esc at h
  split at h
  · exact ⟨xs, h⟩
  · rw [unown_get] at h
    cases q : ρ[i]? with
    | none => rw [q] at h; cases h
    | some s =>
      rw [q] at h
      cases s with
      | ns xss => cases h
      | kd kvs => cases h
      | no => cases h
      | val d' => cases h
      | ow ys =>
        have h' : (if al.contains i then Sl.val ys else Sl.ow ys) = Sl.ow (.lst xs) := Option.some.inj h
        split at h'
        · cases h'
        · cases h'
          exact ⟨xs, rfl⟩
/-- «the slot stays own» for every expression -/
def Ko (f : Xe) : Prop := ∀ (i : Nat) (ρ : Rho) (d : D) (ρ' : Rho) (xs : List D), f ρ = some (d, ρ') → ρ'[i]? = some (.own xs) → ∃ ys, ρ[i]? = some (.own ys)
def Kos (f : Xs) : Prop := ∀ (i : Nat) (ρ : Rho) (d : List D) (ρ' : Rho) (xs : List D), f ρ = some (d, ρ') → ρ'[i]? = some (.own xs) → ∃ ys, ρ[i]? = some (.own ys)
theorem ko_p {al : List Nat} {f : Ex} : Ko (xP al f) := fun i ρ d ρ' xs e h => by
  obtain ⟨d', e1, e2⟩ := Option.map_eq_some_iff.mp e
  cases e2
  exact esc_own h
theorem ko_pop {j : Nat} : Ko (xPop j) := fun i ρ d ρ' xs e h => by
  unfold xPop at e
  split at e
  · rename_i ys hq
    obtain ⟨d', e1, e2⟩ := Option.map_eq_some_iff.mp e
    cases e2
    by_cases hj : j = i
    · subst hj; exact ⟨ys, hq⟩
    · rw [List.getElem?_set_ne hj] at h; exact ⟨xs, h⟩
  · cases e
theorem kos_nil : Kos xsN := fun i ρ d ρ' xs e h => by cases e; exact ⟨xs, h⟩
theorem kos_cons {f : Xe} {fs : Xs} (h1 : Ko f) (h2 : Kos fs) : Kos (xsC f fs) := fun i ρ d ρ' xs e h => by
  obtain ⟨⟨x, ρ1⟩, e1, e⟩ := opt_bind e
  obtain ⟨⟨xs', ρ2⟩, e2, e⟩ := opt_bind e
  cases e
  obtain ⟨ys, k⟩ := h2 i ρ1 _ _ xs e2 h
  exact h1 i ρ _ _ ys e1 k
theorem ko_a {k : List D → Option D} {fs : Xs} (h : Kos fs) : Ko (xA k fs) := fun i ρ d ρ' xs e h' => by
  obtain ⟨⟨ds, ρ1⟩, e1, e⟩ := opt_bind e
  obtain ⟨d', e2, e⟩ := Option.map_eq_some_iff.mp e
  cases e
  exact h i ρ _ _ xs e1 h'

/-! ### x[i] = e, x an own list -/
def sPut (i : Nat) (f : Xe) (k : Ex) : Sx := fun ρ => (f ρ).bind fun x => (k x.2).bind fun n => match n, x.2[i]? with
  | .int n, some (.own xs) => (ixN xs.length n).map fun j => .nx (x.2.set i (.own (xs.set j x.1)))
  | _, _ => none
theorem ds_put {i : Nat} {o k : Expr} {f : Xe} {g : Ex} {tpos : Pos} (ho : PE X o (tVar i)) (hk : DP X k g bl) (he : DE X a f)
    (ha : ∀ v, assign (.Subscript o k tpos) X.env v = (do
      let ov ← holding [v] (eval o X.env)
      let iv ← holding [v, ov] (eval k X.env)
      standAt tpos
      holding [v, ov, iv] (setItem ov iv v)
      release [v, ov, iv] []) := by intro _; rfl)
    (hs : swapsWithSole [.Subscript o k tpos] a pos.line X.env = pure false := by rfl) (hw : swappedStores [.Subscript o k tpos] a X.env = pure none := by rfl)
    (h1 : (assignEach [.Subscript o k tpos] X.env).map (·.2) = [assign (.Subscript o k tpos) X.env] := by rfl) : DS X (.Assign [.Subscript o k tpos] a pos) (sPut i f g) := by
  refine ps_imp (ps_asg he (pg_sub ho hk set_list ha) hs hw h1) fun E σ H ⟨ρ, O, W, out, rs, e, q⟩ => ?_
  obtain ⟨⟨d, ρ1⟩, e1, e⟩ := opt_bind e
  obtain ⟨n, e2, e⟩ := opt_bind e
  refine ⟨ρ, O, W, d, ρ1, rs, e1, fun v O1 W1 H1 s1 r1 p1 => ?_⟩
  split at e
  · rename_i n' xs hq
    obtain ⟨j, e3, rfl⟩ := Option.map_eq_some_iff.mp e
    obtain ⟨a1, vs1, k1, k2, k3, k4⟩ := r1.owns i _ hq
    refine ⟨.ref a1, k1, ρ1, O1, W1, _, r1, e2, fun v2 W2 H2 s2 p2 => ?_⟩
    cases p2
    have r2 := r1.pstep s2
    obtain ⟨w1, w2⟩ := r2.write (xs := xs.set j d) hq k1 ((rpAll_mono s2.le k4).set (rp_mono s2.le p1) j)
    exact ⟨a1, vs1, _, j, rfl, rfl, s2.at k3, by rw [k4.length]; exact e3, q σ O1 W2 _ (s1.trans (s2.s.trans w2)) w1⟩
  · cases e

/-! ### what is walked -/
def Its (K : PySem.W.Frag) (J : It) (ds : List D) (U W : Hp) : Prop := ∃ G Y, Walk J ds.length G Y ∧ (∀ H', Same U H' → G H') ∧
  ∀ i H1 x H2, i < ds.length → Y i H1 x H2 → ∃ d, ds[i]? = some d ∧ ∀ W1, Same W W1 → Same W1 (tb H1) → ∃ W2, PZ W1 H1 W2 H2 ∧ Rp K W2 x d
def tI (K : PySem.W.Frag) (f : Exs) (al : List Nat) : TI := fun σ H R => ∃ ρ O W ds, RZ K ρ σ O W H ∧ f ρ = some ds ∧ ∀ J W' H', PZ W H W' H' → Its K J ds (vw ρ σ al W' (tb H')) W' → R J H'
abbrev DI (X : Cx) (tg e : Expr) (f : Exs) (al : List Nat) : Prop := PI X tg e (tI X.K f al)
theorem pi_imp {tg e : Expr} {t t' : TI} (h : PI X tg e t) (i : ∀ σ H R, t' σ H R → t σ H R) : PI X tg e t' := ⟨fun pins s σ H R I q => h.run pins s σ H R I (i σ H R q)⟩
theorem pi_or {tg e : Expr} {t t' : TI} (h : PI X tg e t) (h' : PI X tg e t') : PI X tg e (fun σ H R => t σ H R ∨ t' σ H R) := ⟨fun pins s σ H R I q => q.elim (h.run pins s σ H R I) (h'.run pins s σ H R I)⟩
theorem its_at {K : PySem.W.Frag} {J : It} {G : Hp → Prop} {vs : List V} {ds : List D} {U W : Hp} (w : Walk J vs.length G (YAt vs)) (hG : ∀ H', Same U H' → G H') (ra : RpAll K W vs ds) : Its K J ds U W := by
  refine ⟨G, YAt vs, by rw [← ra.length]; exact w, hG, fun i H1 x H2 hi y => ?_⟩
  obtain ⟨rfl, e⟩ := y
  obtain ⟨d, h1, h2⟩ := ra.getV e
  exact ⟨d, h1, fun W1 s1 s2 => ⟨W1, .refl s2, rp_mono s1 h2⟩⟩
/-- the items of a list, a tuple, the script, a text -/
def dItems : D → Option (List D)
  | .lst xs => some xs
  | .tup xs => some xs
  | .scr ns => some (ns.map .int)
  | .str z => some (z.cps.toList.map fun c => .str ⟨#[c]⟩)
  | _ => none
theorem its_str {K : PySem.W.Frag} {z : Str} {U W : Hp} : DL.Its K (L2.Its z) (z.cps.toList.map fun c => .str ⟨#[c]⟩) U W := by
  refine ⟨fun _ => True, fun i H v H' => H' = H ∧ ∃ c, z.cps[i]? = some c ∧ v = .str ⟨#[c]⟩, ?_, fun _ _ => trivial, fun i H1 x H2 hi y => ?_⟩
  · rw [show (z.cps.toList.map fun c => D.str ⟨#[c]⟩).length = z.cps.size by simp]
    exact walk_str
  · obtain ⟨rfl, c, h1, rfl⟩ := y
    refine ⟨.str ⟨#[c]⟩, ?_, fun W1 s1 s2 => ⟨W1, .refl s2, .str _⟩⟩
    rw [List.getElem?_map, Array.getElem?_toList, h1]
    rfl
/-- over a name -/
def iV (i : Nat) : Exs := fun ρ => (eV i ρ).bind dItems
theorem di_var (i : Nat) {tg e : Expr} (he : PE X e (tVar i)) : DI X tg e (iV i) [i] := pi_imp (pi_or (pi_list he) (pi_or (pi_tup he) (pi_str he))) fun σ H R ⟨ρ, O, W, ds, rs, e, q⟩ => by
  obtain ⟨d, e1, e⟩ := opt_bind e
  unfold eV at e1
  split at e1
  · rename_i d' hq
    cases e1
    obtain ⟨v, h1, h2⟩ := rs.vals i _ hq
    cases d with
    | lst xs =>
      cases e
      obtain ⟨a, vs, rfl, k, ra⟩ := rp_lst h2
      exact .inl ⟨_, h1, a, rfl, ⟨vs, .inl (.inl (tb_le _ _ (rs.sub _ _ k)))⟩, q _ W H (.refl rs.sub) (its_at walk_list (fun H' s => .inl (.inl (s _ _ (vw_of a k)))) ra)⟩
    | tup xs =>
      cases e
      obtain ⟨a, vs, rfl, k, ra⟩ := rp_tup h2
      exact .inr (.inl ⟨_, h1, a, rfl, ⟨vs, sqT_mono (rs.sub.trans tb_le) k⟩, q _ W H (.refl rs.sub) (its_at walk_tup (fun H' s => sqT_mono (vw_le.trans s) k) ra)⟩)
    | scr ns =>
      cases e
      cases h2 with
      | scr k => exact .inl ⟨_, h1, _, rfl, ⟨_, sqL_mono (rs.sub.trans tb_le) k.sq⟩, q _ W H (.refl rs.sub) (its_at walk_list (fun H' s => sqL_mono (vw_le.trans s) k.sq) (map_ints _))⟩
    | str z =>
      cases e
      cases h2
      exact .inr (.inr ⟨_, h1, _, rfl, q _ W H (.refl rs.sub) its_str⟩)
    | _ => cases e
  · rename_i xs hq
    cases e1
    cases e
    obtain ⟨a, vs, h1, h2, h3, h4⟩ := rs.owns i _ hq
    exact .inl ⟨_, h1, a, rfl, ⟨vs, .inl (.inl (tb_le _ _ h3))⟩, q _ W H (.refl rs.sub) (its_at walk_list (fun H' s => .inl (.inl (s _ _ (vw_own (i := i) (by simp) (own1_iff.mpr ⟨_, hq, h1⟩) h3 rs.sub)))) h4)⟩
  · cases e1
    cases e
  · cases e1
/-- over any expression -/
def okIt (al : List Nat) (ρ : Rho) (d : D) : Bool := noO al ρ || noL d || (match d with
  | .lst xs => noLs xs
  | _ => false)
def iE (al : List Nat) (f : Ex) : Exs := fun ρ => (f ρ).bind fun d => if okIt al ρ d = true then dItems d else none
theorem di_e {tg : Expr} (he : DP X a f al) : DI X tg a (iE al f) al := pi_imp (pi_or (pi_list he) (pi_or (pi_tup he) (pi_str he))) fun σ H R ⟨ρ, O, W, ds, rs, e, q⟩ => by
  obtain ⟨d, e1, e⟩ := opt_bind e
  split at e
  · rename_i hz
    unfold okIt at hz
    cases d with
    | lst xs =>
      cases e
      refine .inl ⟨ρ, O, W, _, rs, e1, fun v W1 H1 s1 p1 => ?_⟩
      obtain ⟨a', vs, rfl, k, ra⟩ := rp_lst p1
      have ra' : RpAll X.K W1 vs ds := by
        rcases Bool.or_eq_true_iff.mp hz with z | z
        · rcases Bool.or_eq_true_iff.mp z with z | z
          · rw [vw_noO z] at ra; exact ra
          · simp [noL] at z
        · exact rpAll_down (rs.pstep s1) z ra
      exact ⟨a', rfl, ⟨vs, .inl (.inl (vw_subT s1.sub _ _ k))⟩, q _ W1 H1 s1 (its_at walk_list (fun H' s => .inl (.inl (s _ _ k))) ra')⟩
    | tup xs =>
      cases e
      refine .inr (.inl ⟨ρ, O, W, _, rs, e1, fun v W1 H1 s1 p1 => ?_⟩)
      have p1' : Rp X.K W1 v (.tup ds) := by
        rcases Bool.or_eq_true_iff.mp hz with z | z
        · rcases Bool.or_eq_true_iff.mp z with z | z
          · rw [vw_noO z] at p1; exact p1
          · exact rp_down (rs.pstep s1) z p1
        · cases z
      obtain ⟨a', vs, rfl, k, ra⟩ := rp_tup p1'
      exact ⟨a', rfl, ⟨vs, sqT_mono (s1.sub.trans tb_le) k⟩, q _ W1 H1 s1 (its_at walk_tup (fun H' s => sqT_mono (vw_le.trans s) k) ra)⟩
    | scr ns =>
      cases e
      refine .inl ⟨ρ, O, W, _, rs, e1, fun v W1 H1 s1 p1 => ?_⟩
      cases p1 with
      | scr k => exact ⟨_, rfl, ⟨_, sqL_mono (vw_subT s1.sub) k.sq⟩, q _ W1 H1 s1 (its_at walk_list (fun H' s => sqL_mono s k.sq) (map_ints _))⟩
    | str z =>
      cases e
      refine .inr (.inr ⟨ρ, O, W, _, rs, e1, fun v W1 H1 s1 p1 => ?_⟩)
      cases p1
      exact ⟨_, rfl, q _ W1 H1 s1 its_str⟩
    | _ => cases e
  · cases e
/-- over range(n), range(a, b) -/
def rgD (a b : Int) : List D := (List.range (b - a).toNat).map fun i => .int (a + (i : Nat))
def dRg1 : List D → Option (List D)
  | [.int n] => if -(2 ^ 62) ≤ n ∧ n < 2 ^ 62 then some (rgD 0 n) else none
  | _ => none
def dRg2 : List D → Option (List D)
  | [.int a, .int b] => if (-(2 ^ 62) ≤ a ∧ a < 2 ^ 62) ∧ (-(2 ^ 62) ≤ b ∧ b < 2 ^ 62) then some (rgD a b) else none
  | _ => none
theorem its_rg {K : PySem.W.Frag} {a b : Int} {U W : Hp} : Its K (Itr a (b - a).toNat) (rgD a b) U W := by
  refine ⟨_, _, by rw [show (rgD a b).length = (b - a).toNat by simp [rgD]]; exact walk_range, fun _ _ => trivial, fun i H1 x H2 hi y => ?_⟩
  obtain ⟨rfl, rfl⟩ := y
  refine ⟨.int (a + i), ?_, fun W1 s1 s2 => ⟨W1, .refl s2, .int _⟩⟩
  rw [show (rgD a b).length = (b - a).toNat by simp [rgD]] at hi
  simp [rgD, hi]
theorem di_rg1 {tg : Expr} (hg : Gl X "range") (hm : X.mg "range" = none) (ha : DA X [a] fs al) (hs : starEach [a] X.env = [(false, eval a X.env)] := by rfl) : DI X tg (.Call (.Name "range" p) [a] [] pos) (nL dRg1 fs) [] := pi_imp (pi_range1 hg hm ha hs) fun σ H R ⟨ρ, O, W, ds, rs, e, q⟩ => by
  obtain ⟨ys, e1, e⟩ := opt_bind e
  refine ⟨ρ, O, W, ys, rs, e1, fun vs W1 H1 s1 p1 => ?_⟩
  unfold dRg1 at e
  split at e
  · split at e
    · rename_i n hz
      cases e
      obtain ⟨v, hv, p2⟩ := rpAll1 p1
      subst hv
      cases p2
      refine ⟨n, rfl, hz.1, hz.2, ?_⟩
      have := q (Itr 0 (n - 0).toNat) W1 H1 s1 its_rg
      rw [Int.sub_zero] at this
      exact this
    · cases e
  · cases e
theorem di_rg2 {tg : Expr} (hg : Gl X "range") (hm : X.mg "range" = none) (ha : DA X [a, b] fs al) (hs : starEach [a, b] X.env = [(false, eval a X.env), (false, eval b X.env)] := by rfl) (hs2 : starEach [b] X.env = [(false, eval b X.env)] := by rfl) : DI X tg (.Call (.Name "range" p) [a, b] [] pos) (nL dRg2 fs) [] := pi_imp (pi_range2 hg hm ha hs hs2) fun σ H R ⟨ρ, O, W, ds, rs, e, q⟩ => by
  obtain ⟨ys, e1, e⟩ := opt_bind e
  refine ⟨ρ, O, W, ys, rs, e1, fun vs W1 H1 s1 p1 => ?_⟩
  unfold dRg2 at e
  split at e
  · split at e
    · rename_i n m hz
      cases e
      obtain ⟨v, w, rfl, p1, p2⟩ := rpAll2 p1
      cases p1; cases p2
      exact ⟨n, m, rfl, ⟨hz.1.1, hz.1.2, hz.2.1, hz.2.2⟩, q _ W1 H1 s1 its_rg⟩
    · cases e
  · cases e

/-! ### for -/
def forS (g : D → Rho → Option Rho) (B : Sx) : List D → Rho → Option Out
  | [], ρ => some (.nx ρ)
  | d :: ds, ρ => (g d ρ).bind fun ρ1 => (B ρ1).bind fun o => match o with
    | .nx ρ2 => forS g B ds ρ2
    | .ct ρ2 => forS g B ds ρ2
    | .brk ρ2 => some (.nx ρ2)
    | .ret d => some (.ret d)
def sFor (al : List Nat) (it : Exs) (g : D → Rho → Option Rho) (B : Sx) : Sx := fun ρ => (it ρ).bind fun ds => forS g B ds (unown al ρ)
theorem ds_for {tg iter : Expr} {body : List Stmt} {it : Exs} {g : D → Rho → Option Rho} {ts : List Nat} {B : Sx} (hp : PassesOwn (model X.prog X.w) X.A X.env X.xe) (hc : X.calm = true) (hi : DI X tg iter it al) (hg : DG X tg g ts) (hb : DSs X body B)
    (hs : ∀ x, foldedSetIterable iter X.env x = pure x := by intro _; rfl) : DS X (.For tg iter body [] pos) (sFor al it g B) := by
  refine ps_imp (ps_for hp hc hi hg hb hs) fun E σ H ⟨ρ, O, W, out, rs, e, q⟩ => ?_
  obtain ⟨ds, e1, e⟩ := opt_bind e
  refine ⟨ρ, O, W, ds, rs, e1, fun J W1 H1 s1 its => ?_⟩
  obtain ⟨G, Y, wk, hG, hY⟩ := its
  obtain ⟨O2, W2, k1, k2, k3⟩ := (rs.pstep s1).unown (al := al)
  have hstart := s1.s.trans k1.t
  refine for_it wk (fun i σ' H' => ∃ ρ' O' W', SZ O W H O' W' H' ∧ RZ X.K ρ' σ' O' W' H' ∧ Same W2 W' ∧ forS g B (ds.drop i) ρ' = some out) ⟨unown al ρ, O2, W2, hstart, k2, fun _ _ e => e, e⟩ (fun i σ' H' _ ⟨ρ', O', W', a1, a2, a3, a4⟩ => hG H' (k3.trans (a3.trans (a2.sub.trans tb_le)))) (fun i x σ' H' H'' hi ⟨ρ', O', W', a1, a2, a3, a4⟩ y => ?_) (fun σ' H' ⟨ρ', O', W', a1, a2, a3, a4⟩ => ?_)
  · obtain ⟨d, hd, hW⟩ := hY i H' x H'' hi y
    obtain ⟨W'', st, rp⟩ := hW W' (k3' k3 a3) a2.sub
    rw [List.drop_eq_getElem_cons hi] at a4
    have hdd : ds[i] = d := by
      rw [List.getElem?_eq_getElem hi] at hd
      exact Option.some.inj hd
    rw [hdd] at a4
    obtain ⟨ρ1, b1, b2⟩ := opt_bind a4
    obtain ⟨o, b3, b4⟩ := opt_bind b2
    refine ⟨ρ', O', W'', d, ρ1, a2.pstep st, rp, b1, fun σ1 r1 _ => ⟨ρ1, O', W'', o, r1, b3, ?_⟩⟩
    have base := a1.trans (st.s (O := O'))
    cases o with
    | nx ρ2 => exact fun σ2 O3 W3 H3 s3 r3 => ⟨ρ2, O3, W3, base.trans s3, r3, (a3.trans st.le).trans s3.le, b4⟩
    | ct ρ2 => exact fun σ2 O3 W3 H3 s3 r3 => ⟨ρ2, O3, W3, base.trans s3, r3, (a3.trans st.le).trans s3.le, b4⟩
    | brk ρ2 =>
      cases b4
      exact fun σ2 O3 W3 H3 s3 r3 => q σ2 O3 W3 H3 (base.trans s3) r3
    | ret d2 =>
      cases b4
      exact fun v O3 W3 H3 s3 sb r3 => q v O3 W3 H3 (base.trans s3) sb r3
  · rw [List.drop_length] at a4
    cases a4
    exact q σ' O' W' H' a1 a2
where
  k3' {ρ : Rho} {σ : L2.St} {W1 H1 W2 W' : Hp} (k3 : Same (vw ρ σ al W1 (tb H1)) W2) (a3 : Same W2 W') : Same W1 W' := vw_le.trans (k3.trans a3)

/-! ### while -/
def whileS (c : Te) (B : Sx) : Nat → Rho → Option Out
  | 0, _ => none
  | n + 1, ρ => (c ρ).bind fun b => if b = true then (B ρ).bind fun o => match o with
      | .nx ρ2 => whileS c B n ρ2
      | .ct ρ2 => whileS c B n ρ2
      | .brk ρ2 => some (.nx ρ2)
      | .ret d => some (.ret d)
    else some (.nx ρ)
def sWhile (n : Nat) (c : Te) (B : Sx) : Sx := whileS c B n
theorem ds_while (n : Nat) {body : List Stmt} {t : Te} {B : Sx} (hp : PassesOwn (model X.prog X.w) X.A X.env X.xe) (hc : DT X c t) (hb : DSs X body B) : DS X (.While c body [] pos) (sWhile n t B) := by
  refine ps_imp (ps_while hp hc hb) fun E σ H ⟨ρ, O, W, out, rs, e, q⟩ => ?_
  refine ⟨fun m σ' H' => ∃ ρ' O' W', SZ O W H O' W' H' ∧ RZ X.K ρ' σ' O' W' H' ∧ whileS t B m ρ' = some out, ⟨n, ρ, O, W, .refl, rs, e⟩, fun m σ' H' ⟨ρ', O', W', a1, a2, a3⟩ => ?_⟩
  cases m with
  | zero => cases a3
  | succ m =>
    obtain ⟨b, b1, b2⟩ := opt_bind a3
    refine ⟨ρ', O', W', b, a2, b1, fun W1 H1 s1 => ?_⟩
    have base := a1.trans (s1.s (O := O'))
    cases b with
    | false =>
      cases b2
      exact iteF (q σ' O' W1 H1 base (a2.pstep s1))
    | true =>
      obtain ⟨o, b3, b4⟩ := opt_bind (show ((B ρ').bind fun o => match o with
        | .nx ρ2 => whileS t B m ρ2
        | .ct ρ2 => whileS t B m ρ2
        | .brk ρ2 => some (.nx ρ2)
        | .ret d => some (.ret d)) = some out from b2)
      refine iteT ⟨fun σ2 H2 => ∃ ρ' O' W', SZ O W H O' W' H2 ∧ RZ X.K ρ' σ2 O' W' H2 ∧ whileS t B m ρ' = some out, fun σ2 H2 z => ⟨m, Nat.lt_succ_self m, z⟩, ρ', O', W1, o, a2.pstep s1, b3, ?_⟩
      cases o with
      | nx ρ2 => exact fun σ2 O3 W3 H3 s3 r3 => ⟨ρ2, O3, W3, base.trans s3, r3, b4⟩
      | ct ρ2 => exact fun σ2 O3 W3 H3 s3 r3 => ⟨ρ2, O3, W3, base.trans s3, r3, b4⟩
      | brk ρ2 =>
        cases b4
        exact fun σ2 O3 W3 H3 s3 r3 => q σ2 O3 W3 H3 (base.trans s3) r3
      | ret d2 =>
        cases b4
        exact fun v O3 W3 H3 s3 sb r3 => q v O3 W3 H3 (base.trans s3) sb r3

/-! ### comprehensions -/
def wipeR (ρ : Rho) : List Nat → Rho
  | [] => ρ
  | v :: vs => (wipeR ρ vs).set v .no
theorem RS.no {K : PySem.W.Frag} {ρ : Rho} {σ : L2.St} {O : Addr → Bool} {W H : Hp} (r : RS K ρ σ O W H) (i : Nat) : RS K (ρ.set i .no) (σ.set i none) O W H where
  len := by simp [r.len]
  sub := r.sub
  hid := r.hid
  vals := fun j d q => by
    by_cases hj : i = j
    · subst hj
      have hi : i < ρ.length := by simpa using (List.getElem?_eq_some_iff.mp q).1
      rw [List.getElem?_set_self hi] at q; cases q
    · rw [List.getElem?_set_ne hj] at q ⊢; exact r.vals j d q
  ownsG := fun j xs q => by
    by_cases hj : i = j
    · subst hj
      have hi : i < ρ.length := by simpa using (List.getElem?_eq_some_iff.mp q).1
      rw [List.getElem?_set_self hi] at q; cases q
    · rw [List.getElem?_set_ne hj] at q ⊢; exact r.ownsG j xs q
  apart := fun j k xs ys a q1 q2 s1 s2 => by
    have ne : ∀ (j : Nat) (zs : D), (ρ.set i .no)[j]? = some (.ow zs) → i ≠ j := fun j zs q hj => by
      subst hj
      have hi : i < ρ.length := by simpa using (List.getElem?_eq_some_iff.mp q).1
      rw [List.getElem?_set_self hi] at q; cases q
    have n1 := ne j xs q1
    have n2 := ne k ys q2
    rw [List.getElem?_set_ne n1] at q1 s1
    rw [List.getElem?_set_ne n2] at q2 s2
    exact r.apart j k xs ys a q1 q2 s1 s2
theorem RS.wipe {K : PySem.W.Frag} {ρ : Rho} {σ : L2.St} {O : Addr → Bool} {W H : Hp} (r : RS K ρ σ O W H) : ∀ vs : List Nat, RS K (wipeR ρ vs) (L2.wipe σ vs) O W H
  | [] => r
  | v :: vs => (RS.wipe r vs).no v
theorem ns_wipe {K : PySem.W.Frag} {ρ : Rho} {σ : L2.St} {O : Addr → Bool} {W H : Hp} (n : NS K ρ σ O W H) : ∀ vs : List Nat, NS K (wipeR ρ vs) (L2.wipe σ vs) O W H
  | [] => n
  | v :: vs => (ns_wipe n vs).set rfl fun _ z => nomatch z
theorem RZ.wipe {K : PySem.W.Frag} {ρ : Rho} {σ : L2.St} {O : Addr → Bool} {W H : Hp} (r : RZ K ρ σ O W H) (vs : List Nat) : RZ K (wipeR ρ vs) (L2.wipe σ vs) O W H := ⟨r.toRS.wipe vs, r.tz, ns_wipe r.ns vs⟩
theorem wipe_in {σ : L2.St} {k : Nat} : ∀ {vs : List Nat}, k ∈ vs → k < σ.length → (L2.wipe σ vs)[k]? = some none
  | [], h, _ => nomatch h
  | v :: vs, h, hl => by
    unfold L2.wipe
    by_cases hk : v = k
    · subst hk
      exact List.getElem?_set_self (by rw [wipe_length]; exact hl)
    · rw [List.getElem?_set_ne hk]
      rcases List.mem_cons.mp h with z | z
      · exact absurd z.symm hk
      · exact wipe_in z hl
theorem wipe_eq {σ σ' : L2.St} {ts vs : List Nat} (h : OutS ts (L2.wipe σ vs) σ') (s : ∀ i ∈ ts, i ∈ vs) : L2.wipe σ' vs = L2.wipe σ vs := by
  refine List.ext_getElem? fun k => ?_
  by_cases hk : k ∈ vs
  · by_cases hl : k < σ.length
    · rw [wipe_in hk hl, wipe_in hk (by rw [h.1, wipe_length]; exact hl)]
    · rw [List.getElem?_eq_none (by rw [wipe_length, h.1, wipe_length]; omega), List.getElem?_eq_none (by rw [wipe_length]; omega)]
  · rw [wipe_out hk, h.2 k (fun z => hk (s k z))]
def compS (g : D → Rho → Option Rho) (t : Te) (f : Ex) (ρ : Rho) : List D → Option (List D)
  | [] => some []
  | d :: ds => (g d ρ).bind fun ρ1 => (t ρ1).bind fun b => if b = true then (f ρ1).bind fun y => (compS g t f ρ ds).map (y :: ·) else compS g t f ρ ds
def lcG (vs : List Nat) (it : Exs) (g : D → Rho → Option Rho) (t : Te) (f : Ex) : Exs := fun ρ => (it ρ).bind fun ds => if ds.length < 16777216 then compS g t f (wipeR ρ vs) ds else none
end
end DL

/-! The data layer, 6: comprehensions, bodies, the law. -/
namespace DL
open PySem PySem.Spec L2
variable [Tbs]
section
variable {X : Cx} {a b c : Expr} {es : List Expr} {f g h : Ex} {fs : Exs} {al bl cl : List Nat} {pos p : Pos}

/-- what a target does to the slots -/
structure GOk (g : D → Rho → Option Rho) (ts : List Nat) : Prop where
  out : ∀ d ρ ρ', g d ρ = some ρ' → ∀ k : Nat, k ∉ ts → ρ'[k]? = ρ[k]?
  ins : ∀ d ρ ρ', g d ρ = some ρ' → ∀ k : Nat, k ∈ ts → ∀ xs : D, ρ'[k]? = some (.ow xs) → False
structure GsOk (g : List D → Rho → Option Rho) (ts : List Nat) : Prop where
  out : ∀ d ρ ρ', g d ρ = some ρ' → ∀ k : Nat, k ∉ ts → ρ'[k]? = ρ[k]?
  ins : ∀ d ρ ρ', g d ρ = some ρ' → ∀ k : Nat, k ∈ ts → ∀ xs : D, ρ'[k]? = some (.ow xs) → False
  keep : ∀ d ρ ρ', g d ρ = some ρ' → ∀ k : Nat, (∀ xs : D, ρ[k]? = some (.ow xs) → False) → ∀ xs : D, ρ'[k]? = some (.ow xs) → False
theorem gok_name {i : Nat} : GOk (gN i) [i] where
  out := fun d ρ ρ' e k hk => by
    cases e
    rw [List.getElem?_set_ne (fun z => hk (by simp [z]))]
  ins := fun d ρ ρ' e k hk xs z => by
    cases e
    have hk : k = i := by simpa using hk
    subst hk
    have hi : k < ρ.length := by simpa using (List.getElem?_eq_some_iff.mp z).1
    rw [List.getElem?_set_self hi] at z
    cases z
theorem gsok_nil : GsOk gsN [] where
  out := fun d ρ ρ' e k _ => by
    unfold gsN at e
    split at e
    · cases e; rfl
    · cases e
  ins := fun _ _ _ _ _ hk => nomatch hk
  keep := fun d ρ ρ' e k n xs z => by
    unfold gsN at e
    split at e
    · cases e; exact n xs z
    · cases e
theorem gsok_cons {g : D → Rho → Option Rho} {gs : List D → Rho → Option Rho} {ts us : List Nat} (h1 : GOk g ts) (h2 : GsOk gs us) : GsOk (gsC g gs) (ts ++ us) := by
  have key : ∀ ds ρ ρ', gsC g gs ds ρ = some ρ' → ∃ d r ρ1, ds = d :: r ∧ g d ρ = some ρ1 ∧ gs r ρ1 = some ρ' := fun ds ρ ρ' e => by
    unfold gsC at e
    split at e
    · obtain ⟨ρ1, e1, e2⟩ := opt_bind e
      exact ⟨_, _, ρ1, rfl, e1, e2⟩
    · cases e
  refine ⟨fun ds ρ ρ' e k hk => ?_, fun ds ρ ρ' e k hk xs z => ?_, fun ds ρ ρ' e k n xs z => ?_⟩
  · obtain ⟨d, r, ρ1, _, e1, e2⟩ := key ds ρ ρ' e
    rw [h2.out _ _ _ e2 k (fun z => hk (List.mem_append_right _ z)), h1.out _ _ _ e1 k (fun z => hk (List.mem_append_left _ z))]
  · obtain ⟨d, r, ρ1, _, e1, e2⟩ := key ds ρ ρ' e
    by_cases hu : k ∈ us
    · exact h2.ins _ _ _ e2 k hu xs z
    · have ht : k ∈ ts := (List.mem_append.mp hk).elim (fun y => y) fun y => absurd y hu
      rw [h2.out _ _ _ e2 k hu] at z
      exact h1.ins _ _ _ e1 k ht xs z
  · obtain ⟨d, r, ρ1, _, e1, e2⟩ := key ds ρ ρ' e
    refine h2.keep _ _ _ e2 k (fun ys y => ?_) xs z
    by_cases ht : k ∈ ts
    · exact h1.ins _ _ _ e1 k ht ys y
    · rw [h1.out _ _ _ e1 k ht] at y
      exact n ys y
theorem gok_tup {n : Nat} {gs : List D → Rho → Option Rho} {ts : List Nat} (h : GsOk gs ts) : GOk (gT n gs) ts := by
  have key : ∀ d ρ ρ', gT n gs d ρ = some ρ' → ∃ ds, gs ds ρ = some ρ' := fun d ρ ρ' e => by
    unfold gT at e
    split at e
    · split at e
      · exact ⟨_, e⟩
      · cases e
    · split at e
      · exact ⟨_, e⟩
      · cases e
    · cases e
  exact ⟨fun d ρ ρ' e => (key d ρ ρ' e).elim fun ds z => h.out _ _ _ z, fun d ρ ρ' e => (key d ρ ρ' e).elim fun ds z => h.ins _ _ _ z⟩

theorem wipeR_in {ρ : Rho} {k : Nat} : ∀ {vs : List Nat}, k ∈ vs → ∀ xs, (wipeR ρ vs)[k]? = some (.ow xs) → False
  | [], h, _, _ => nomatch h
  | v :: vs, h, xs, z => by
    unfold wipeR at z
    by_cases hk : v = k
    · subst hk
      have hi : v < (wipeR ρ vs).length := by simpa using (List.getElem?_eq_some_iff.mp z).1
      rw [List.getElem?_set_self hi] at z
      cases z
    · rw [List.getElem?_set_ne hk] at z
      rcases List.mem_cons.mp h with y | y
      · exact hk y.symm
      · exact wipeR_in y xs z
theorem wipeR_out {ρ : Rho} {k : Nat} : ∀ {vs : List Nat}, k ∉ vs → (wipeR ρ vs)[k]? = ρ[k]?
  | [], _ => rfl
  | v :: vs, h => by
    unfold wipeR
    rw [List.getElem?_set_ne (fun z => h (by simp [z])), wipeR_out (fun z => h (List.mem_cons_of_mem _ z))]
/-- what is seen in a block is seen outside, but through the block's own slots -/
theorem own1_blk {g : D → Rho → Option Rho} {ts vs : List Nat} {ρ ρ1 : Rho} {σ σ2 : L2.St} {d : D} (go : GOk g ts) (hts : ∀ i ∈ ts, i ∈ vs) (e : g d (wipeR ρ vs) = some ρ1) (o : OutS ts (L2.wipe σ vs) σ2) {b : Addr} {i : Nat} (h : own1 ρ1 σ2 b i = true) : i ∉ vs ∧ own1 ρ σ b i = true := by
  obtain ⟨xs, e1, e2⟩ := own1_iff.mp h
  have hv : i ∉ vs := fun hi => by
    by_cases ht : i ∈ ts
    · exact go.ins _ _ _ e i ht xs e1
    · rw [go.out _ _ _ e i ht] at e1
      exact wipeR_in hi xs e1
  have ht : i ∉ ts := fun z => hv (hts i z)
  refine ⟨hv, own1_iff.mpr ⟨xs, ?_, ?_⟩⟩
  · rw [← wipeR_out hv, ← go.out _ _ _ e i ht]; exact e1
  · rw [← wipe_out hv, ← o.2 i ht]; exact e2

abbrev DTs (X : Cx) (ifs : List Expr) (t : Te) : Prop := PTs X ifs (tQ X.K t)
theorem pts_imp {ifs : List Expr} {t t' : TT} (h : PTs X ifs t) (i : ∀ σ H Q, t' σ H Q → t σ H Q) : PTs X ifs t' := ⟨fun pins s σ H Q I q => h.run pins s σ H Q I (i σ H Q q)⟩
def tY : Te := fun _ => some true
theorem dts_nil : DTs X [] tY := pts_imp pts_nil fun σ H Q ⟨ρ, O, W, b, rs, e, q⟩ => by
  cases e
  exact q W H (.refl rs.sub)
theorem dts_one {t : Te} (h : DT X c t) : DTs X [c] t := pts_one h
/-- the reading of a comprehension -/
theorem lc_read {K : PySem.W.Frag} {it : Exs} {g : D → Rho → Option Rho} {ts vs : List Nat} {t : Te} {f : Ex} (go : GOk g ts) (hts : ∀ i ∈ ts, i ∈ vs)
    (σ : L2.St) (H : Hp) (Q : VK) (h : tN K (lcG vs it g t f) (bl.filter fun i => !vs.contains i) σ H Q) : tLc (tI K it al) (tG K g ts) (tQ K t) (tP K f bl) vs σ H Q := by
  obtain ⟨ρ, O, W, ys, rs, e, q⟩ := h
  obtain ⟨ds, e1, e⟩ := opt_bind e
  split at e
  · rename_i hz
    refine ⟨ρ, O, W, ds, rs, e1, fun J W1 H1 s1 its D nD => ?_⟩
    obtain ⟨G, Y, wk, hG, hY⟩ := its
    have wD : W1 D = none := w_free s1.sub nD
    have hD : tb H D = none := s1.free nD
    have stp : ∀ {W' H' : Hp} {acc acc' : List V}, PZ W1 H1 W' H' → W' D = none → (H' D = none ∨ ∃ us, H' D = some (.lst us)) → PZ W1 H1 W' (upd H' D (.lst acc)) := fun {W' H' acc acc'} s w c =>
      ⟨by rw [tb_upd nt_lst]; exact ⟨s.le, fun b o e => by rw [upd_ne (ne_of_none e (tb_none nD))]; exact s.keep b o e, fun b o e => by rw [upd_ne (fun z => by subst z; rw [w] at e; cases e)]; exact s.sub b o e, s.new⟩, fun t => tt_upd c (s.tabs t)⟩
    have ownD : ∀ {W' H' : Hp} {acc : List V} {cl : List Nat}, PZ W1 H1 W' H' → Same (vw ρ σ cl W' (tb H')) (vw ρ σ cl W' (tb (upd H' D (.lst acc)))) ∨ W' D ≠ none := fun {W' H' acc cl} s => by
      by_cases w : W' D = none
      · refine .inl fun b o e => ?_
        rcases of_vw e with z | ⟨z0, z, i, hi, y⟩
        · exact vw_of b z
        · have nb : b ≠ D := fun hb => by
            subst hb
            obtain ⟨xs, f1, f2⟩ := own1_iff.mp y
            obtain ⟨a', us, g1, g2, g3, _⟩ := rs.ownsG i xs f1
            rw [f2] at g1
            cases g1
            rw [hD] at g3
            cases g3
          unfold vw
          rw [z0]
          refine (if_pos (List.any_eq_true.mpr ⟨i, hi, y⟩)).trans ?_
          rw [tb_upd nt_lst, upd_ne nb]
          exact z
      · exact .inr w
    refine lc_it wk (fun i H' => ∃ W' acc ya, PZ W1 H1 W' H' ∧ W' D = none ∧ H' D = some (.lst acc) ∧ RpAll K (vw ρ σ (bl.filter fun i => !vs.contains i) W' (tb H')) acc ya ∧ acc.length ≤ i ∧ (compS g t f (wipeR ρ vs) (ds.drop i)).map (ya ++ ·) = some ys)
      ⟨W1, [], [], stp (acc' := []) (.refl s1.sub) wD (.inl nD), wD, upd_same, .nil, Nat.le_refl _, ?_⟩ (fun i H' _ ⟨W', acc, ya, k1, k2, k3, k4, k5, k6⟩ => hG H' ((vw_sub s1.sub).trans (k1.keep.trans tb_le))) (fun i x H' H'' hi ⟨W', acc, ya, k1, k2, k3, k4, k5, k6⟩ y => ?_) (fun H' ⟨W', acc, ya, k1, k2, k3, k4, k5, k6⟩ => ?_)
    · rw [List.drop_zero]
      show (compS g t f (wipeR ρ vs) ds).map ([] ++ ·) = some ys
      rw [e]
      rfl
    · obtain ⟨d, hd, hW⟩ := hY i H' x H'' hi y
      obtain ⟨W2, st, rp⟩ := hW W' k1.le k1.sub
      rw [List.drop_eq_getElem_cons hi] at k6
      have hdd : ds[i] = d := by
        rw [List.getElem?_eq_getElem hi] at hd
        exact Option.some.inj hd
      rw [hdd] at k6
      obtain ⟨zs, b0, b1⟩ := Option.map_eq_some_iff.mp k6
      obtain ⟨ρ1, b2, b3⟩ := opt_bind b0
      obtain ⟨b, b4, b5⟩ := opt_bind b3
      have k1' := k1.trans st
      have none_of : ∀ {W3 H3 : Hp}, PZ W' H' W3 H3 → W3 D = none ∧ H3 D = some (.lst acc) := fun {W3 H3} s => by
        refine ⟨?_, s.at (tb_of k3 nt_lst)⟩
        cases z : W3 D with
        | none => rfl
        | some o =>
          rcases s.new D o z with u | u
          · rw [k2] at u; cases u
          · rw [tb_of k3 nt_lst] at u; cases u
      refine ⟨wipeR ρ vs, O, W2, d, ρ1, ((rs.pstep s1).pstep k1').wipe vs, rp, b2, fun σ2 r2 o2 => ⟨wipe_eq o2 hts, ρ1, O, W2, b, r2, b4, fun W3 H3 s3 => ?_⟩⟩
      cases b with
      | false =>
        refine iteF ?_
        have s' := st.trans s3
        obtain ⟨n1, n2⟩ := none_of s'
        exact ⟨W3, acc, ya, k1.trans s', n1, n2, rpAll_mono (vw_step s'.toPStep) k4, by omega, Option.map_eq_some_iff.mpr ⟨zs, b5, b1⟩⟩
      | true =>
        obtain ⟨y', b6, b7⟩ := opt_bind (show ((f ρ1).bind fun y => (compS g t f (wipeR ρ vs) (ds.drop (i + 1))).map (y :: ·)) = some zs from b5)
        refine iteT ⟨ρ1, O, W3, y', r2.pstep s3, b6, fun v W4 H4 s4 p4 => ?_⟩
        obtain ⟨us, c1, rfl⟩ := Option.map_eq_some_iff.mp b7
        have s' := st.trans (s3.trans s4)
        obtain ⟨n1, n2⟩ := none_of s'
        refine ⟨acc, n2, by rw [line_eq]; omega, W4, acc ++ [v], ya ++ [y'], stp (acc' := []) (k1.trans s') n1 (.inr ⟨_, n2⟩), n1, upd_same, ?_, by simp; omega, Option.map_eq_some_iff.mpr ⟨us, c1, ?_⟩⟩
        · have up : Same (vw ρ σ (bl.filter fun i => !vs.contains i) W4 (tb H4)) (vw ρ σ (bl.filter fun i => !vs.contains i) W4 (tb (upd H4 D (.lst (acc ++ [v]))))) := (ownD (k1.trans s')).elim id fun z => absurd n1 z
          refine RpAll.append (rpAll_mono up (rpAll_mono (vw_step s'.toPStep) k4)) (.one (rp_mono up (rp_mono ?_ p4)))
          intro b o hb
          rcases of_vw hb with z | ⟨z0, z, j, hj, u⟩
          · exact vw_of b z
          · obtain ⟨j1, j2⟩ := own1_blk go hts b2 o2 u
            exact vw_own (i := j) (List.mem_filter.mpr ⟨hj, by simpa using j1⟩) j2 z s4.sub
        · rw [← b1]
          simp
    · rw [List.drop_length] at k6
      obtain ⟨zs, b0, b1⟩ := Option.map_eq_some_iff.mp k6
      cases b0
      rw [List.append_nil] at b1
      subst b1
      exact q D acc W' H' (s1.trans k1) hD k2 k3 k4
  · cases e
/-- [elt for target in iter if ..] -/
theorem dn_lc {elt tg iter : Expr} {ifs : List Expr} {scope : Scope} {own : List (Str × Nat)} {it : Exs} {g : D → Rho → Option Rho} {ts : List Nat} {t : Te} {f : Ex} (hc : X.calm = true) (hN : X.N.Nodup) (hi : DI X tg iter it al) (ok : BlkOk X.N X.env.scope scope own)
    (hg : ∀ (s : Shared) (H : Hp) (C : Addr) (cl : List (Str × Addr)) (fp : List Addr), DG (X.blk s H scope (compEnvC scope cl C X.env) fp) tg g ts) (ht : ∀ (s : Shared) (H : Hp) (C : Addr) (cl : List (Str × Addr)) (fp : List Addr), DTs (X.blk s H scope (compEnvC scope cl C X.env) fp) ifs t)
    (he : ∀ (s : Shared) (H : Hp) (C : Addr) (cl : List (Str × Addr)) (fp : List Addr), DP (X.blk s H scope (compEnvC scope cl C X.env) fp) elt f bl) (go : GOk g ts) (hts : ∀ i ∈ ts, i ∈ own.map (·.2)) (hs : ∀ x, foldedSetIterable iter X.env x = pure x := by intro _; rfl) :
    DN X (.ListComp elt [⟨tg, iter, ifs, 0⟩] scope pos) (lcG (own.map (·.2)) it g t f) (bl.filter fun i => !(own.map (·.2)).contains i) := pe_imp (pe_lc hc hN hi ok hg ht he hs) fun σ H Q h => lc_read go hts σ H Q h
/-- y = [..] -/
theorem ds_lc {i : Nat} {y : Str} {py spos : Pos} {elt tg iter : Expr} {ifs : List Expr} {scope : Scope} {own : List (Str × Nat)} {it : Exs} {g : D → Rho → Option Rho} {ts : List Nat} {t : Te} {f : Ex} (hc : X.calm = true) (hN : X.N.Nodup) (hy : X.N[i]? = some y) (hyl : X.env.scope.names.lookup y = some .local)
    (hsw : swapsWith (.ListComp elt [⟨tg, iter, ifs, 0⟩] scope pos) (some (.Name y py)) spos.line X.env = pure true) (hi : DI X tg iter it al) (ok : BlkOk X.N X.env.scope scope own)
    (hg : ∀ (s : Shared) (H : Hp) (C : Addr) (cl : List (Str × Addr)) (fp : List Addr), DG (X.blk s H scope (compEnvC scope cl C X.env) fp) tg g ts) (ht : ∀ (s : Shared) (H : Hp) (C : Addr) (cl : List (Str × Addr)) (fp : List Addr), DTs (X.blk s H scope (compEnvC scope cl C X.env) fp) ifs t)
    (he : ∀ (s : Shared) (H : Hp) (C : Addr) (cl : List (Str × Addr)) (fp : List Addr), DP (X.blk s H scope (compEnvC scope cl C X.env) fp) elt f bl) (go : GOk g ts) (hts : ∀ i ∈ ts, i ∈ own.map (·.2)) (hs : ∀ x, foldedSetIterable iter X.env x = pure x := by intro _; rfl) :
    DS X (.Assign [.Name y py] (.ListComp elt [⟨tg, iter, ifs, 0⟩] scope pos) spos) (sOwn i (bl.filter fun i => !(own.map (·.2)).contains i) (lcG (own.map (·.2)) it g t f)) := ps_imp (ps_setLc hc hN hy hyl hsw hi ok hg ht he hs) fun E σ H ⟨ρ, O, W, out, rs, e, q⟩ => by
  obtain ⟨xs, e1, e⟩ := opt_bind e
  split at e
  · rename_i hz
    cases e
    exact lc_read go hts σ H _ ⟨ρ, O, W, xs, rs, e1, own_end rs hz q⟩
  · cases e

/-- .. as plain data -/
theorem ds_lcv {i : Nat} {y : Str} {py spos : Pos} {elt tg iter : Expr} {ifs : List Expr} {scope : Scope} {own : List (Str × Nat)} {it : Exs} {g : D → Rho → Option Rho} {ts : List Nat} {t : Te} {f : Ex} (hc : X.calm = true) (hN : X.N.Nodup) (hy : X.N[i]? = some y) (hyl : X.env.scope.names.lookup y = some .local)
    (hsw : swapsWith (.ListComp elt [⟨tg, iter, ifs, 0⟩] scope pos) (some (.Name y py)) spos.line X.env = pure true) (hi : DI X tg iter it al) (ok : BlkOk X.N X.env.scope scope own)
    (hg : ∀ (s : Shared) (H : Hp) (C : Addr) (cl : List (Str × Addr)) (fp : List Addr), DG (X.blk s H scope (compEnvC scope cl C X.env) fp) tg g ts) (ht : ∀ (s : Shared) (H : Hp) (C : Addr) (cl : List (Str × Addr)) (fp : List Addr), DTs (X.blk s H scope (compEnvC scope cl C X.env) fp) ifs t)
    (he : ∀ (s : Shared) (H : Hp) (C : Addr) (cl : List (Str × Addr)) (fp : List Addr), DP (X.blk s H scope (compEnvC scope cl C X.env) fp) elt f bl) (go : GOk g ts) (hts : ∀ i ∈ ts, i ∈ own.map (·.2)) (hs : ∀ x, foldedSetIterable iter X.env x = pure x := by intro _; rfl) :
    DS X (.Assign [.Name y py] (.ListComp elt [⟨tg, iter, ifs, 0⟩] scope pos) spos) (sG (xP (bl.filter fun i => !(own.map (·.2)).contains i) (eL (lcG (own.map (·.2)) it g t f))) (gN i)) := ps_imp (ps_setLc hc hN hy hyl hsw hi ok hg ht he hs) fun E σ H ⟨ρ, O, W, out, rs, e, q⟩ => by
  obtain ⟨⟨d, ρ1⟩, e1, e⟩ := opt_bind e
  cases e
  exact lc_read go hts σ H _ (tP_tN σ H _ (tX_tP σ H _ ⟨ρ, O, W, d, ρ1, rs, e1, fun v O1 W1 H1 s1 r1 p1 => q _ O1 W1 H1 s1 (r1.set p1)⟩))
/-- a name of the module that holds plain data -/
theorem dp_glob {x : Str} {v : V} {u : Value} {d : D} {pos : Pos} (hg : Gl X x) (hm : X.mg x = some u) (r : RelV v u) (hr : ∀ H, Rp X.K H v d) (hd : (x == ("__debug__" : Str)) = false := by decide) : DP X (.Name x pos) (eC d) [] := dp_const (pe_glob hg hm r hd) hr
theorem hu64 {A : Around} {k : Nat} (hr : Room k A) : A.units + 64 < cLine := hr.units
theorem hu190 {A : Around} {k : Nat} (hr : Room k A) : A.units + 190 < cLine := by have := hr.un; omega
theorem hu65 {A : Around} {k : Nat} (hr : Room k A) : A.units + 65 < cLine := by have := hr.un; omega

/-! ### the body of a def -/
def start' (n : Nat) (ds : List D) : Rho := ds.map .val ++ List.replicate (n - ds.length) .no
def runB (n : Nat) (B : Sx) (ds : List D) : Option D := (B (start' n ds)).bind fun o => match o with
  | .ret d => some d
  | .nx _ => some .non
  | _ => none
theorem vals_get {K : PySem.W.Frag} {W : Hp} : ∀ {vs : List V} {ds : List D} {m : Nat} {i : Nat} {d : D}, RpAll K W vs ds → (ds.map Sl.val ++ List.replicate m Sl.no)[i]? = some (.val d) → ∃ v, (vs.map some ++ List.replicate m none)[i]? = some (some v) ∧ Rp K W v d := by
  intro vs ds m i d ra e
  by_cases hi : i < ds.length
  · rw [List.getElem?_append_left (by simpa using hi), List.getElem?_map, List.getElem?_eq_getElem hi] at e
    have e' : ds[i] = d := by
      have := Option.some.inj e
      injection this
    obtain ⟨v, h1, h2⟩ := ra.get (i := i) (d := d) (by rw [List.getElem?_eq_getElem hi, e'])
    refine ⟨v, ?_, h2⟩
    rw [List.getElem?_append_left (by rw [List.length_map, ra.length]; exact hi), List.getElem?_map, h1]
    rfl
  · rw [List.getElem?_append_right (by simpa using hi)] at e
    have := List.mem_of_getElem? e
    rw [List.mem_replicate] at this
    cases this.2
theorem no_own {ds : List D} {m i : Nat} {xs : D} (e : (ds.map Sl.val ++ List.replicate m Sl.no)[i]? = some (.ow xs)) : False := by
  have := List.mem_of_getElem? e
  rcases List.mem_append.mp this with z | z
  · obtain ⟨_, _, y⟩ := List.mem_map.mp z
    cases y
  · rw [List.mem_replicate] at z
    cases z.2
theorem rs_start {K : PySem.W.Frag} {W H : Hp} {vs : List V} {ds : List D} {N : List Str} (s : Same W H) (ra : RpAll K W vs ds) : RS K (start' N.length ds) (L2.start N vs) (fun _ => false) W H where
  len := by
    unfold L2.start start'
    rw [List.length_append, List.length_append, List.length_map, List.length_map, List.length_replicate, List.length_replicate, ra.length]
  sub := s
  hid := fun _ e => nomatch e
  vals := fun i d e => by
    unfold start' at e
    unfold L2.start
    rw [ra.length]
    exact vals_get ra e
  ownsG := fun i xs e => (no_own e).elim
  apart := fun i j xs ys a e _ _ _ => (no_own e).elim
theorem ns_start {K : PySem.W.Frag} {n : Nat} {ds : List D} {σ : L2.St} {O : Addr → Bool} {W H : Hp} : NS K (start' n ds) σ O W H := NS.not fun i t ht e => by
  have := List.mem_of_getElem? e
  unfold start' at this
  rcases List.mem_append.mp this with z | z
  · obtain ⟨_, _, y⟩ := List.mem_map.mp z
    subst y
    cases ht
  · rw [List.mem_replicate] at z
    rw [z.2] at ht
    cases ht
theorem fn_mk {P : Program} {w : World} {K : PySem.W.Frag} {mg : Str → Option Value} {base : Heap} {k : Nat} {x qual : Str} {st : Stmt} {fa : Addr} {fd : FuncData} {N ps : List Str} {B : Sx} (F : Fun K x qual st fa fd) (S : FnScope N ps (defScope st))
    (body : ∀ (cdv : Value) (A : Around) (outer : List PySem.Env) (s : Shared) (H : Hp) (E : XK), Room k (A.deeper (PyProof.Rows.envOfC qual (defScope st) s.heap.objs.size fa cdv)) → DSs (cxOf CX0 P w K mg base N qual (defScope st) fa cdv A outer s H E).nox (defBody st) B) : FnOk P w K mg base CX0 (k + 1) fa fd ps (spD K (runB N.length B) ps.length) := by
  refine F.ok S (fun vs H Q E h => ?_) (fun cdv A outer s H vs Q E hr h => ?_)
  · obtain ⟨W, ds, d, h1, _, _, h2, _⟩ := h
    rw [h2.length, h1]
  · obtain ⟨W, ds, d, h1, h2, hz, h3, h4, h5⟩ := h
    refine ⟨_, body cdv A outer s H E hr, ?_⟩
    obtain ⟨o, e1, e2⟩ := opt_bind h4
    have fin : ∀ {O' : Addr → Bool} {W' H' : Hp}, SZ (fun _ => false) W H O' W' H' → Same W' (tb H') → PZ W H W' H' := fun s sb => ⟨⟨s.le, fun b o e => s.keep b o e rfl, sb, fun b o e => (s.new b o e).elim .inl fun z => z.elim .inr fun y => nomatch y⟩, s.tabs⟩
    refine ⟨start' N.length ds, fun _ => false, W, o, ⟨rs_start h2 h3, hz, ns_start⟩, e1, ?_⟩
    cases o with
    | ret d' => cases e2; exact fun v O' W' H' s sb r => h5 v W' H' (fin s sb) r
    | nx ρ => cases e2; exact fun σ' O' W' H' s r => h5 .non W' H' (fin s r.sub) .non
    | brk ρ => cases e2
    | ct ρ => cases e2
theorem fok_mk {P : Program} {w : World} {K : PySem.W.Frag} {mg : Str → Option Value} {base : Heap} {k : Nat} {x qual : Str} {st : Stmt} {fa : Addr} {fd : FuncData} {N ps : List Str} {B : Sx} (F : Fun K x qual st fa fd) (hm : mg x = some (.ref fa)) (S : FnScope N ps (defScope st)) (hb : Binds K fd ps [])
    (body : ∀ (cdv : Value) (A : Around) (outer : List PySem.Env) (s : Shared) (H : Hp) (E : XK), Room k (A.deeper (PyProof.Rows.envOfC qual (defScope st) s.heap.objs.size fa cdv)) → DSs (cxOf CX0 P w K mg base N qual (defScope st) fa cdv A outer s H E).nox (defBody st) B) : FOk P w K mg base (k + 1) x ps (runB N.length B) :=
  ⟨fa, fd, hm, F.kp, hb, fn_mk F S body⟩
/-- at level 0 nothing is promised -/
theorem fok_zero {P : Program} {w : World} {K : PySem.W.Frag} {mg : Str → Option Value} {base : Heap} {x qual : Str} {st : Stmt} {fa : Addr} {fd : FuncData} {ps : List Str} {φ : List D → Option D} (F : Fun K x qual st fa fd) (hm : mg x = some (.ref fa)) (hb : Binds K fd ps []) (h0 : ∀ ds, φ ds = none) : FOk P w K mg base 0 x ps φ := by
  refine ⟨fa, fd, hm, F.kp, hb, ⟨fun vs H Q E h => ?_, fun A outer s H args us vs Q E hr e0 hbt rv h => ?_⟩⟩
  · obtain ⟨W, ds, d, h1, _, _, h2, h3, _⟩ := h
    rw [h0] at h3
    cases h3
  · obtain ⟨W, ds, d, h1, _, _, h2, h3, _⟩ := h
    rw [h0] at h3
    cases h3
end
omit [Tbs] in
theorem scr_tb {K : PySem.W.Frag} {H : Hp} {a : Addr} {ns : List Int} (h : Scr K H a ns) : Scr K (tb H) a ns := by
  rcases h with ⟨o, h⟩ | h
  · exact .inl ⟨o, tb_of h fun _ z => nomatch z⟩
  · exact .inr h
/-- the law's own promise gives its end -/
theorem law_end {K : PySem.W.Frag} {φ : List D → Option D} {n : Nat} (h : ∀ ns : List Int, ns.length ≤ n → φ [.scr ns] = some (.bl true)) (H : Hp) (a : Addr) (ns : List Int) (hl : ns.length ≤ n) (ho : Only H) (hS : SqL K H a (ns.map V.int)) (tz : TZ H := by exact fun p hp => nomatch (show p ∈ ([] : List NdefX.NTab) from hp)) :
    spD K φ 1 [.ref a] H (fun v _ => v = .bl true) fun _ _ _ => False :=
  ⟨tb H, [.scr ns], .bl true, rfl, fun _ _ e => e, tz, .one (.scr (scr_tb (.of ho hS))), h ns hl, fun v W' H' _ r => by cases r; rfl⟩
end DL

/-! The data layer, W: what a meaning comes to, read backwards. -/
namespace DL
instance (priority := low) tbs0 : Tbs := { T := [] }
open PySem L2
inductive All2 {α β : Type} (R : α → β → Prop) : List α → List β → Prop
  | nil : All2 R [] []
  | cons {a : α} {b : β} {as : List α} {bs : List β} : R a b → All2 R as bs → All2 R (a :: as) (b :: bs)
theorem All2.length {α β : Type} {R : α → β → Prop} : ∀ {as : List α} {bs : List β}, All2 R as bs → bs.length = as.length
  | _, _, .nil => rfl
  | _, _, .cons _ t => by rw [List.length_cons, List.length_cons, All2.length t]
theorem All2.mem {α β : Type} {R : α → β → Prop} : ∀ {as : List α} {bs : List β}, All2 R as bs → ∀ b ∈ bs, ∃ a ∈ as, R a b
  | _, _, .nil, _, h => nomatch h
  | _, _, .cons r t, b, h => by
    rcases List.mem_cons.mp h with rfl | h
    · exact ⟨_, List.mem_cons_self, r⟩
    · obtain ⟨a, ha, q⟩ := All2.mem t b h
      exact ⟨a, List.mem_cons_of_mem _ ha, q⟩
def Wp {α : Type} (m : Option α) (Q : α → Prop) : Prop := ∃ a, m = some a ∧ Q a
section
variable {α β : Type} {ρ ρ' : Rho} {f g h : Ex} {fs : Exs} {t u : Te} {F G : Sx}
theorem Wp.mono {m : Option α} {Q Q' : α → Prop} (h : Wp m Q) (i : ∀ a, Q a → Q' a) : Wp m Q' := let ⟨a, e, q⟩ := h; ⟨a, e, i a q⟩
theorem w_some {a : α} {Q : α → Prop} (q : Q a) : Wp (some a) Q := ⟨a, rfl, q⟩
theorem w_of {m : Option α} {a : α} {Q : α → Prop} (e : m = some a) (q : Q a) : Wp m Q := ⟨a, e, q⟩
theorem w_bind {m : Option α} {k : α → Option β} {Q : β → Prop} (h : Wp m fun a => Wp (k a) Q) : Wp (m.bind k) Q := by
  obtain ⟨a, rfl, b, e, q⟩ := h
  exact ⟨b, e, q⟩
theorem w_map {m : Option α} {k : α → β} {Q : β → Prop} (h : Wp m fun a => Q (k a)) : Wp (m.map k) Q := by
  obtain ⟨a, rfl, q⟩ := h
  exact ⟨k a, rfl, q⟩
theorem Wp.get {m : Option α} {Q : α → Prop} (h : Wp m Q) : ∃ a, m = some a ∧ Q a := h
/-! ### expressions -/
theorem w_c {d : D} {Q : D → Prop} (q : Q d) : Wp (eC d ρ) Q := ⟨d, rfl, q⟩
theorem w_v {i : Nat} {d : D} {Q : D → Prop} (e : ρ[i]? = some (.val d)) (q : Q d) : Wp (eV i ρ) Q := ⟨d, by unfold eV; rw [e], q⟩
theorem w_vo {i : Nat} {xs : List D} {Q : D → Prop} (e : ρ[i]? = some (.own xs)) (q : Q (.lst xs)) : Wp (eV i ρ) Q := ⟨.lst xs, by unfold eV; rw [e], q⟩
theorem w_e1 {k : D → Option D} {Q : D → Prop} (q : Wp (f ρ) fun x => Wp (k x) Q) : Wp (e1 k f ρ) Q := w_bind q
theorem w_e2 {k : D → D → Option D} {Q : D → Prop} (q : Wp (f ρ) fun x => Wp (g ρ) fun y => Wp (k x y) Q) : Wp (e2 k f g ρ) Q := w_bind (q.mono fun _ z => w_bind z)
theorem w_esN {Q : List D → Prop} (q : Q []) : Wp (esN ρ) Q := ⟨[], rfl, q⟩
theorem w_esC {Q : List D → Prop} (q : Wp (f ρ) fun x => Wp (fs ρ) fun xs => Q (x :: xs)) : Wp (esC f fs ρ) Q := w_bind (q.mono fun _ z => w_bind (z.mono fun _ y => w_some y))
theorem w_eA {k : List D → Option D} {Q : D → Prop} (q : Wp (fs ρ) fun x => Wp (k x) Q) : Wp (eA k fs ρ) Q := w_bind q
theorem w_nL {k : List D → Option (List D)} {Q : List D → Prop} (q : Wp (fs ρ) fun x => Wp (k x) Q) : Wp (nL k fs ρ) Q := w_bind q
theorem w_eL {Q : D → Prop} (q : Wp (fs ρ) fun x => Q (.lst x)) : Wp (eL fs ρ) Q := w_map q
theorem w_lsG {Q : List D → Prop} (q : Wp (fs ρ) fun x => x.length ≤ 16777216 ∧ Q x) : Wp (lsG fs ρ) Q := w_bind (q.mono fun x z => ⟨x, if_pos z.1, z.2⟩)
theorem w_tup {ds : List D} {Q : D → Prop} (h : ds.length ≤ 16777216) (q : Q (.tup ds)) : Wp (dTup ds) Q := ⟨_, if_pos h, q⟩
theorem w_fnL {n : Nat} {φ : List D → Option D} {ds : List D} {Q : D → Prop} (h : ds.length = n) (q : Wp (φ ds) Q) : Wp (fnL n φ ds) Q := by
  unfold fnL; rw [if_pos h]; exact q
/-! ### tests -/
theorem w_tE {Q : Bool → Prop} (q : Wp (f ρ) fun d => Wp (dB d) Q) : Wp (tE f ρ) Q := w_bind q
theorem w_dB {b : Bool} {Q : Bool → Prop} (q : Q b) : Wp (dB (.bl b)) Q := ⟨b, rfl, q⟩
theorem w_tNo {Q : Bool → Prop} (q : Wp (t ρ) fun b => Q (!b)) : Wp (tNo t ρ) Q := w_map q
theorem w_tAn {Q : Bool → Prop} (q : Wp (t ρ) fun b => (b = true → Wp (u ρ) Q) ∧ (b = false → Q false)) : Wp (tAn t u ρ) Q := by
  obtain ⟨b, e, q⟩ := q
  unfold tAn; rw [e]
  cases b with
  | true => exact q.1 rfl
  | false => exact ⟨false, rfl, q.2 rfl⟩
theorem w_tAnP {Q : Bool → Prop} (q : Wp (t ρ) fun b => Wp (u ρ) fun c => Q (b && c)) : Wp (tAn t u ρ) Q := by
  obtain ⟨b, e, c, e2, q⟩ := q
  unfold tAn; rw [e]
  cases b with
  | true => exact ⟨c, e2, q⟩
  | false => exact ⟨false, rfl, q⟩
theorem w_tOr {Q : Bool → Prop} (q : Wp (t ρ) fun b => (b = true → Q true) ∧ (b = false → Wp (u ρ) Q)) : Wp (tOr' t u ρ) Q := by
  obtain ⟨b, e, q⟩ := q
  unfold tOr'; rw [e]
  cases b with
  | true => exact ⟨true, rfl, q.1 rfl⟩
  | false => exact q.2 rfl
theorem w_tY {Q : Bool → Prop} (q : Q true) : Wp (tY ρ) Q := ⟨true, rfl, q⟩
theorem w_eAn {Q : D → Prop} (q : Wp (f ρ) fun d => ∃ b, d = .bl b ∧ (b = true → Wp (g ρ) Q) ∧ (b = false → Q (.bl false))) : Wp (eAn f g ρ) Q := by
  obtain ⟨d, e, b, rfl, q⟩ := q
  unfold eAn; rw [e]
  cases b with
  | true => exact q.1 rfl
  | false => exact ⟨_, rfl, q.2 rfl⟩
theorem w_eOr {Q : D → Prop} (q : Wp (f ρ) fun d => ∃ b, d = .bl b ∧ (b = true → Q (.bl true)) ∧ (b = false → Wp (g ρ) Q)) : Wp (eOr f g ρ) Q := by
  obtain ⟨d, e, b, rfl, q⟩ := q
  unfold eOr; rw [e]
  cases b with
  | true => exact ⟨_, rfl, q.1 rfl⟩
  | false => exact q.2 rfl
theorem w_eIf {Q : D → Prop} (q : Wp (t ρ) fun b => (b = true → Wp (f ρ) Q) ∧ (b = false → Wp (g ρ) Q)) : Wp (eIf t f g ρ) Q := by
  obtain ⟨b, e, q⟩ := q
  unfold eIf; rw [e]
  cases b with
  | true => exact q.1 rfl
  | false => exact q.2 rfl
/-! ### operations -/
theorem w_addI {i j : Int} {Q : D → Prop} (q : Q (.int (i + j))) : Wp (dAdd (.int i) (.int j)) Q := ⟨_, rfl, q⟩
theorem w_addS {x y : Str} {Q : D → Prop} (h : x.length + y.length ≤ 16777216) (q : Q (.str (x ++ y))) : Wp (dAdd (.str x) (.str y)) Q := ⟨_, if_pos h, q⟩
theorem w_addC {x : Str} {c : Nat} {Q : D → Prop} (h : x.length + 1 ≤ 16777216) (q : Q (.str (x ++ ⟨#[c]⟩))) : Wp (dAdd (.str x) (.str ⟨#[c]⟩)) Q := w_addS h q
theorem w_addT {x y : List D} {Q : D → Prop} (h : x.isEmpty = false ∧ x.length + y.length ≤ 16777216) (q : Q (.tup (x ++ y))) : Wp (dAdd (.tup x) (.tup y)) Q := ⟨_, if_pos h.2, q⟩
theorem w_addU {x y : List D} {Q : D → Prop} (h : x.length + y.length ≤ 16777216) (q : Q (.tup (x ++ y))) : Wp (dAdd (.tup x) (.tup y)) Q := ⟨_, if_pos h, q⟩
theorem w_addL {x y : List D} {Q : D → Prop} (h : x.length + y.length ≤ 16777216) (q : Q (.lst (x ++ y))) : Wp (dAdd (.lst x) (.lst y)) Q := ⟨_, if_pos h, q⟩
theorem w_sub {i j : Int} {Q : D → Prop} (q : Q (.int (i - j))) : Wp (dSub (.int i) (.int j)) Q := ⟨_, rfl, q⟩
theorem w_mulI {i j : Int} {Q : D → Prop} (h : mulOk i j = true) (q : Q (.int (i * j))) : Wp (dMul (.int i) (.int j)) Q := ⟨_, if_pos h, q⟩
theorem w_mulS {x : Str} {n : Int} {Q : D → Prop} (h : x.length ≤ 1000 ∧ -1000 ≤ n ∧ n ≤ 1000) (q : Q (.str (Txt.mul x n))) : Wp (dMul (.str x) (.int n)) Q := ⟨_, if_pos h, q⟩
theorem w_div {i j : Int} {Q : D → Prop} (h : 0 < j ∧ j < 2 ^ 200) (q : Q (.int (i / j))) : Wp (dDiv (.int i) (.int j)) Q := ⟨_, if_pos h, q⟩
theorem w_mod {i j : Int} {Q : D → Prop} (h : 0 < j) (q : Q (.int (i % j))) : Wp (dMod (.int i) (.int j)) Q := ⟨_, if_pos h, q⟩
theorem w_pow {i j : Int} {Q : D → Prop} (h : 0 ≤ j ∧ j ≤ 1000 ∧ -(2 ^ 60) < i ∧ i < 2 ^ 60) (q : Q (.int (i ^ j.toNat))) : Wp (dPow (.int i) (.int j)) Q := ⟨_, if_pos h, q⟩
theorem w_neg {i : Int} {Q : D → Prop} (q : Q (.int (-i))) : Wp (dNeg (.int i)) Q := ⟨_, rfl, q⟩
theorem w_not {b : Bool} {Q : D → Prop} (q : Q (.bl (!b))) : Wp (dNot (.bl b)) Q := ⟨_, rfl, q⟩
theorem w_cmp {p : Int → Int → Bool} {i j : Int} {Q : D → Prop} (q : Q (.bl (p i j))) : Wp (dCmp p (.int i) (.int j)) Q := ⟨_, rfl, q⟩
theorem w_eqI {i j : Int} {Q : D → Prop} (q : Q (.bl (i == j))) : Wp (dEq (.int i) (.int j)) Q := ⟨_, rfl, q⟩
theorem w_eqS {i j : Str} {Q : D → Prop} (q : Q (.bl (i == j))) : Wp (dEq (.str i) (.str j)) Q := ⟨_, rfl, q⟩
theorem w_eqB {i j : Bool} {Q : D → Prop} (q : Q (.bl (i == j))) : Wp (dEq (.bl i) (.bl j)) Q := ⟨_, rfl, q⟩
theorem w_neI {i j : Int} {Q : D → Prop} (q : Q (.bl (!(i == j)))) : Wp (dNe (.int i) (.int j)) Q := ⟨_, rfl, q⟩
theorem w_neS {i j : Str} {Q : D → Prop} (q : Q (.bl (!(i == j)))) : Wp (dNe (.str i) (.str j)) Q := ⟨_, rfl, q⟩
theorem w_eq {x y : D} {b : Bool} {Q : D → Prop} (e : dEqB x y = some b) (q : Q (.bl b)) : Wp (dEq x y) Q := ⟨.bl b, by unfold dEq; rw [e]; rfl, q⟩
theorem w_ne {x y : D} {b : Bool} {Q : D → Prop} (e : dEqB x y = some b) (q : Q (.bl (!b))) : Wp (dNe x y) Q := ⟨.bl (!b), by unfold dNe; rw [e]; rfl, q⟩
theorem w_neE {xs : List D} {Q : D → Prop} (q : Q (.bl (!xs.isEmpty))) : Wp (dNe (.lst xs) (.lst [])) Q := w_ne rfl q
theorem w_eqE {xs : List D} {Q : D → Prop} (q : Q (.bl xs.isEmpty)) : Wp (dEq (.lst xs) (.lst [])) Q := w_eq rfl q
theorem w_in {x y : D} {b : Bool} {Q : D → Prop} (e : dInO x y = some b) (q : Q (.bl b)) : Wp (dIn x y) Q := ⟨.bl b, by unfold dIn; rw [e]; rfl, q⟩
theorem w_notIn {x y : D} {b : Bool} {Q : D → Prop} (e : dInO x y = some b) (q : Q (.bl (!b))) : Wp (dNotIn x y) Q := ⟨.bl (!b), by unfold dNotIn; rw [e]; rfl, q⟩
theorem in_flat {x : D} {ys : List D} (h : (pl x && pls ys && decide (min (dpts ys) (dpt x) ≤ 60)) = true) : dInB x ys = some (ys.any fun y => deq y x) := if_pos h
theorem w_ixL {xs : List D} {i : Int} {d : D} {Q : D → Prop} (e : atI xs i = some d) (q : Q d) : Wp (dIx (.lst xs) (.int i)) Q := ⟨d, e, q⟩
theorem w_ixT {xs : List D} {i : Int} {d : D} {Q : D → Prop} (e : atI xs i = some d) (q : Q d) : Wp (dIx (.tup xs) (.int i)) Q := ⟨d, e, q⟩
theorem w_ixR {xs : List Int} {i : Int} {d : Int} {Q : D → Prop} (e : atI xs i = some d) (q : Q (.int d)) : Wp (dIx (.scr xs) (.int i)) Q := ⟨.int d, by show (atI xs i).map D.int = _; rw [e]; rfl, q⟩
theorem w_ixS {z : Str} {i : Int} {c : Nat} {Q : D → Prop} (h : z.length ≤ 16777216) (e : atI z.cps.toList i = some c) (q : Q (.str ⟨#[c]⟩)) : Wp (dIx (.str z) (.int i)) Q := ⟨.str ⟨#[c]⟩, by show (if z.length ≤ 16777216 then _ else none) = _; rw [if_pos h, e]; rfl, q⟩
theorem w_lenL {xs : List D} {Q : D → Prop} (q : Q (.int xs.length)) : Wp (dLen [.lst xs]) Q := ⟨_, rfl, q⟩
theorem w_lenT {xs : List D} {Q : D → Prop} (q : Q (.int xs.length)) : Wp (dLen [.tup xs]) Q := ⟨_, rfl, q⟩
theorem w_lenR {xs : List Int} {Q : D → Prop} (q : Q (.int xs.length)) : Wp (dLen [.scr xs]) Q := ⟨_, rfl, q⟩
theorem w_lenS {z : Str} {Q : D → Prop} (h : z.length ≤ 16777216) (q : Q (.int z.length)) : Wp (dLen [.str z]) Q := ⟨_, if_pos h, q⟩
theorem w_intI {i : Int} {Q : D → Prop} (q : Q (.int i)) : Wp (dInt [.int i]) Q := ⟨_, rfl, q⟩
theorem w_intB {b : Bool} {Q : D → Prop} (q : Q (.int (if b then 1 else 0))) : Wp (dInt [.bl b]) Q := ⟨_, rfl, q⟩
theorem w_intBt {b : Bool} {Q : D → Prop} (h : b = true) (q : Q (.int 1)) : Wp (dInt [.bl b]) Q := by subst h; exact ⟨_, rfl, q⟩
theorem w_intBf {b : Bool} {Q : D → Prop} (h : b = false) (q : Q (.int 0)) : Wp (dInt [.bl b]) Q := by subst h; exact ⟨_, rfl, q⟩
theorem w_strI {i : Int} {Q : D → Prop} (h : -(2 ^ 60) < i ∧ i < 2 ^ 60) (q : Q (.str (toString i))) : Wp (dStr [.int i]) Q := ⟨_, if_pos h, q⟩
theorem w_tupleL {xs : List D} {Q : D → Prop} (q : Q (.tup xs)) : Wp (dTuple [.lst xs]) Q := ⟨_, rfl, q⟩
theorem w_tupleT {xs : List D} {Q : D → Prop} (q : Q (.tup xs)) : Wp (dTuple [.tup xs]) Q := ⟨_, rfl, q⟩
theorem w_listL {xs : List D} {Q : List D → Prop} (q : Q xs) : Wp (dList [.lst xs]) Q := ⟨_, rfl, q⟩
theorem w_listT {xs : List D} {Q : List D → Prop} (q : Q xs) : Wp (dList [.tup xs]) Q := ⟨_, rfl, q⟩
theorem dInts_of : ∀ ns : List Int, dInts (ns.map .int) = some ns
  | [] => rfl
  | n :: r => by show (dInts (r.map .int)).map (n :: ·) = _; rw [dInts_of r]; rfl
theorem dBls_of : ∀ ns : List Bool, dBls (ns.map .bl) = some ns
  | [] => rfl
  | n :: r => by show (dBls (r.map .bl)).map (n :: ·) = _; rw [dBls_of r]; rfl
theorem w_sum {xs : List D} {ns : List Int} {Q : D → Prop} (h : xs = ns.map .int) (q : Q (.int ns.sum)) : Wp (dSum [.lst xs]) Q := ⟨_, by subst h; show (dInts _).map _ = _; rw [dInts_of]; rfl, q⟩
theorem w_all {xs : List D} {ns : List Bool} {Q : D → Prop} (h : xs = ns.map .bl) (q : Q (.bl (ns.all id))) : Wp (dAll [.lst xs]) Q := ⟨_, by subst h; show (dBls _).map _ = _; rw [dBls_of]; rfl, q⟩
theorem w_any {xs : List D} {ns : List Bool} {Q : D → Prop} (h : xs = ns.map .bl) (q : Q (.bl (ns.any id))) : Wp (dAny [.lst xs]) Q := ⟨_, by subst h; show (dBls _).map _ = _; rw [dBls_of]; rfl, q⟩
theorem w_max2 {i j : Int} {Q : D → Prop} (q : Q (.int (if j > i then j else i))) : Wp (dMax2 [.int i, .int j]) Q := ⟨_, rfl, q⟩
theorem w_min2 {i j : Int} {Q : D → Prop} (q : Q (.int (if j < i then j else i))) : Wp (dMin2 [.int i, .int j]) Q := ⟨_, rfl, q⟩
theorem w_max2P {i j : Int} {Q : D → Prop} (q : ∀ r, i ≤ r → j ≤ r → (r = i ∨ r = j) → Q (.int r)) : Wp (dMax2 [.int i, .int j]) Q := w_max2 (q _ (by split <;> omega) (by split <;> omega) (by split <;> simp))
theorem w_min2P {i j : Int} {Q : D → Prop} (q : ∀ r, r ≤ i → r ≤ j → (r = i ∨ r = j) → Q (.int r)) : Wp (dMin2 [.int i, .int j]) Q := w_min2 (q _ (by split <;> omega) (by split <;> omega) (by split <;> simp))
theorem w_isi {ty : Ty} {x d : D} {Q : D → Prop} (e : isi ty x = some d) (q : Q d) : Wp (isi ty x) Q := ⟨d, e, q⟩
theorem w_oN {Q : Option Int → Prop} (q : Q none) : Wp (oN ρ) Q := ⟨none, rfl, q⟩
theorem w_oS {Q : Option Int → Prop} (q : Wp (f ρ) fun d => ∃ i, d = .int i ∧ Q (some i)) : Wp (oS f ρ) Q := by
  obtain ⟨d, e, i, rfl, q⟩ := q
  exact ⟨some i, by unfold oS; rw [e]; rfl, q⟩
theorem w_eSl {lo hi : Eo} {Q : D → Prop} (q : Wp (f ρ) fun x => Wp (lo ρ) fun l => Wp (hi ρ) fun u => Wp (dSl l u x) Q) : Wp (eSl f lo hi ρ) Q := w_bind (q.mono fun _ z => w_bind (z.mono fun _ y => w_bind y))
theorem w_sl1 {x : D} {Q : D → Prop} (q : Q (.tup [])) : Wp (dSl (some 1) none (.tup [x])) Q := ⟨_, rfl, q⟩
theorem w_sl2 {x y : D} {Q : D → Prop} (q : Q (.tup [y])) : Wp (dSl (some 1) none (.tup [x, y])) Q := ⟨_, rfl, q⟩
theorem w_sl3 {x y z : D} {Q : D → Prop} (q : Q (.tup [y, z])) : Wp (dSl (some 1) none (.tup [x, y, z])) Q := ⟨_, rfl, q⟩
theorem w_ixM {α : Type} {xs : List α} {k : α → D} {i : Int} {Q : D → Prop} (h0 : 0 ≤ i) (h1 : i < xs.length) (q : ∀ x ∈ xs, Q (k x)) : Wp (dIx (.lst (xs.map k)) (.int i)) Q := by
  have h2 : i.toNat < xs.length := by omega
  have := atI_nat (List.getElem?_eq_getElem h2)
  rw [Int.toNat_of_nonneg h0] at this
  exact w_ixL (atI_map k this) (q _ (List.getElem_mem h2))
/-! ### statements -/
def seqQ (G : Sx) (Q : Out → Prop) : Out → Prop
  | .nx ρ => Wp (G ρ) Q
  | .ret d => Q (.ret d)
  | .brk ρ => Q (.brk ρ)
  | .ct ρ => Q (.ct ρ)
theorem w_seq {Q : Out → Prop} (q : Wp (F ρ) (seqQ G Q)) : Wp (sSeq F G ρ) Q := by
  obtain ⟨o, e, q⟩ := q
  unfold sSeq; rw [e]
  cases o with
  | nx ρ' => exact q
  | ret d => exact ⟨_, rfl, q⟩
  | brk d => exact ⟨_, rfl, q⟩
  | ct d => exact ⟨_, rfl, q⟩
theorem w_sIf {Q : Out → Prop} (q : Wp (t ρ) fun b => (b = true → Wp (F ρ) Q) ∧ (b = false → Wp (G ρ) Q)) : Wp (sIf t F G ρ) Q := by
  obtain ⟨b, e, q⟩ := q
  unfold sIf; rw [e]
  cases b with
  | true => exact q.1 rfl
  | false => exact q.2 rfl
theorem w_nil {Q : Out → Prop} (q : Q (.nx ρ)) : Wp (sNil ρ) Q := ⟨_, rfl, q⟩
theorem w_ret {Q : Out → Prop} (q : Wp (f ρ) fun d => Q (.ret d)) : Wp (sRet f ρ) Q := w_map q
theorem w_sG {x : Xe} {g : D → Rho → Option Rho} {Q : Out → Prop} (q : Wp (x ρ) fun z => Wp (g z.1 z.2) fun ρ' => Q (.nx ρ')) : Wp (sG x g ρ) Q := w_bind (q.mono fun _ z => w_map z)
theorem w_xP {al : List Nat} {Q : D × Rho → Prop} (q : Wp (f ρ) fun d => Q (d, esc al d ρ)) : Wp (xP al f ρ) Q := w_map q
theorem w_gN {i : Nat} {d : D} {Q : Rho → Prop} (q : Q (ρ.set i (.val d))) : Wp (gN i d ρ) Q := ⟨_, rfl, q⟩
theorem w_gT {n : Nat} {gs : List D → Rho → Option Rho} {ds : List D} {Q : Rho → Prop} (h : ds.length = n) (q : Wp (gs ds ρ) Q) : Wp (gT n gs (.tup ds) ρ) Q := by
  unfold gT
  obtain ⟨a, e, q⟩ := q
  exact ⟨a, by simp only [h, if_true]; exact e, q⟩
theorem w_gT2 {gs : List D → Rho → Option Rho} {a b : D} {Q : Rho → Prop} (q : Wp (gs [a, b] ρ) Q) : Wp (gT 2 gs (.tup [a, b]) ρ) Q := w_gT rfl q
theorem w_gT3 {gs : List D → Rho → Option Rho} {a b c : D} {Q : Rho → Prop} (q : Wp (gs [a, b, c] ρ) Q) : Wp (gT 3 gs (.tup [a, b, c]) ρ) Q := w_gT rfl q
theorem w_gL {n : Nat} {gs : List D → Rho → Option Rho} {ds : List D} {Q : Rho → Prop} (h : ds.length = n) (q : Wp (gs ds ρ) Q) : Wp (gT n gs (.lst ds) ρ) Q := by
  unfold gT
  obtain ⟨a, e, q⟩ := q
  exact ⟨a, by simp only [h, if_true]; exact e, q⟩
theorem w_gsN {Q : Rho → Prop} (q : Q ρ) : Wp (gsN [] ρ) Q := ⟨_, rfl, q⟩
theorem w_gsC {g : D → Rho → Option Rho} {gs : List D → Rho → Option Rho} {d : D} {ds : List D} {Q : Rho → Prop} (q : Wp (g d ρ) fun ρ' => Wp (gs ds ρ') Q) : Wp (gsC g gs (d :: ds) ρ) Q := w_bind q
theorem w_own {i : Nat} {al : List Nat} {Q : Out → Prop} (q : Wp (fs ρ) fun xs => (noO al ρ || noLs xs) = true ∧ Q (.nx (ρ.set i (.own xs)))) : Wp (sOwn i al fs ρ) Q := w_bind (q.mono fun _ z => ⟨_, if_pos z.1, z.2⟩)
theorem w_app {i : Nat} {x : Xe} {Q : Out → Prop} (q : Wp (x ρ) fun z => ∃ xs, z.2[i]? = some (.own xs) ∧ xs.length < 16777216 ∧ Q (.nx (z.2.set i (.own (xs ++ [z.1]))))) : Wp (sApp i x ρ) Q := by
  obtain ⟨z, e, xs, h1, h2, q⟩ := q
  refine ⟨_, ?_, q⟩
  unfold sApp
  rw [e]
  show (match z.2[i]? with | some (.own xs) => _ | _ => none) = _
  rw [h1]
  exact if_pos h2
theorem w_pop {i : Nat} {xs : List D} {d : D} {Q : D × Rho → Prop} (h : ρ[i]? = some (.own (xs ++ [d]))) (q : Q (d, ρ.set i (.own xs))) : Wp (xPop i ρ) Q := by
  refine ⟨_, ?_, q⟩
  unfold xPop
  rw [h]
  simp
theorem w_xsN {Q : List D × Rho → Prop} (q : Q ([], ρ)) : Wp (xsN ρ) Q := ⟨_, rfl, q⟩
theorem w_xsC {x : Xe} {xs : Xs} {Q : List D × Rho → Prop} (q : Wp (x ρ) fun z => Wp (xs z.2) fun zs => Q (z.1 :: zs.1, zs.2)) : Wp (xsC x xs ρ) Q := w_bind (q.mono fun _ z => w_bind (z.mono fun _ y => w_some y))
theorem w_xA {k : List D → Option D} {xs : Xs} {Q : D × Rho → Prop} (q : Wp (xs ρ) fun z => Wp (k z.1) fun d => Q (d, z.2)) : Wp (xA k xs ρ) Q := w_bind (q.mono fun _ z => w_map z)
theorem w_augI {i : Nat} {al : List Nat} {x y : Int} {Q : Out → Prop} (h : ρ[i]? = some (.val (.int x))) (q : Wp (f ρ) fun d => d = .int y ∧ Q (.nx (ρ.set i (.val (.int (x + y)))))) : Wp (sAug i al f ρ) Q := by
  obtain ⟨d, e, rfl, q⟩ := q
  refine ⟨_, ?_, q⟩
  unfold sAug
  rw [e]
  show (match ρ[i]? with | some (.val x) => _ | some (.own xs) => _ | _ => none) = _
  rw [h]
  rfl
theorem w_augL {i : Nat} {al : List Nat} {xs : List D} {Q : Out → Prop} (h : ρ[i]? = some (.own xs)) (q : Wp (f ρ) fun d => ∃ ys, d = .lst ys ∧ (noO al ρ || noLs ys) = true ∧ xs.length + ys.length ≤ 16777216 ∧ Q (.nx (ρ.set i (.own (xs ++ ys))))) : Wp (sAug i al f ρ) Q := by
  obtain ⟨d, e, ys, rfl, h1, h2, q⟩ := q
  refine ⟨_, ?_, q⟩
  unfold sAug
  rw [e]
  show (match ρ[i]? with | some (.val x) => _ | some (.own xs) => _ | _ => none) = _
  rw [h]
  exact if_pos ⟨h1, h2⟩
theorem w_put {i : Nat} {x : Xe} {k : Ex} {Q : Out → Prop} (q : Wp (x ρ) fun z => Wp (k z.2) fun n => ∃ m xs j, n = .int m ∧ z.2[i]? = some (.own xs) ∧ ixN xs.length m = some j ∧ Q (.nx (z.2.set i (.own (xs.set j z.1))))) : Wp (sPut i x k ρ) Q := by
  obtain ⟨z, e, n, e2, m, xs, j, rfl, h1, h2, q⟩ := q
  refine ⟨_, ?_, q⟩
  unfold sPut
  rw [e]
  show ((k z.2).bind fun n => match n, z.2[i]? with | .int n, some (.own xs) => _ | _, _ => none) = _
  rw [e2]
  show (match D.int m, z.2[i]? with | .int n, some (.own xs) => _ | _, _ => none) = _
  rw [h1]
  show (ixN xs.length m).map _ = _
  rw [h2]
  rfl
/-! ### loops -/
def forQ (g : D → Rho → Option Rho) (B : Sx) (ds : List D) (Q : Out → Prop) : Out → Prop
  | .nx ρ => Wp (forS g B ds ρ) Q
  | .ct ρ => Wp (forS g B ds ρ) Q
  | .brk ρ => Q (.nx ρ)
  | .ret d => Q (.ret d)
theorem w_forN {g : D → Rho → Option Rho} {B : Sx} {Q : Out → Prop} (q : Q (.nx ρ)) : Wp (forS g B [] ρ) Q := ⟨_, rfl, q⟩
theorem w_forC {g : D → Rho → Option Rho} {B : Sx} {d : D} {ds : List D} {Q : Out → Prop} (q : Wp (g d ρ) fun ρ1 => Wp (B ρ1) (forQ g B ds Q)) : Wp (forS g B (d :: ds) ρ) Q := by
  obtain ⟨ρ1, e1, o, e2, q⟩ := q
  show Wp ((g d ρ).bind fun ρ1 => (B ρ1).bind fun o => match o with
    | .nx ρ2 => forS g B ds ρ2
    | .ct ρ2 => forS g B ds ρ2
    | .brk ρ2 => some (.nx ρ2)
    | .ret d => some (.ret d)) Q
  rw [e1]
  show Wp ((B ρ1).bind fun o => match o with
    | .nx ρ2 => forS g B ds ρ2
    | .ct ρ2 => forS g B ds ρ2
    | .brk ρ2 => some (.nx ρ2)
    | .ret d => some (.ret d)) Q
  rw [e2]
  cases o with
  | nx ρ2 => exact q
  | ct ρ2 => exact q
  | brk ρ2 => exact ⟨_, rfl, q⟩
  | ret d => exact ⟨_, rfl, q⟩
/-- a for by an invariant over what is still to come -/
theorem w_forI {g : D → Rho → Option Rho} {B : Sx} {Q : Out → Prop} (I : List D → Rho → Prop) (hs : ∀ d ds ρ, I (d :: ds) ρ → Wp (g d ρ) fun ρ1 => Wp (B ρ1) fun o => match o with
      | .nx ρ2 => I ds ρ2
      | .ct ρ2 => I ds ρ2
      | .brk ρ2 => Q (.nx ρ2)
      | .ret d => Q (.ret d)) (hd : ∀ ρ, I [] ρ → Q (.nx ρ)) : ∀ (ds : List D) (ρ : Rho), I ds ρ → Wp (forS g B ds ρ) Q
  | [], ρ, h => w_forN (hd ρ h)
  | d :: ds, ρ, h => w_forC ((hs d ds ρ h).mono fun ρ1 z => z.mono fun o y => by
      cases o with
      | nx ρ2 => exact w_forI I hs hd ds ρ2 y
      | ct ρ2 => exact w_forI I hs hd ds ρ2 y
      | brk ρ2 => exact y
      | ret d => exact y)
/-- behind one turn -/
def loopQ (I : Rho → Prop) (Q : Out → Prop) : Out → Prop
  | .nx ρ => I ρ
  | .ct ρ => I ρ
  | .brk ρ => Q (.nx ρ)
  | .ret d => Q (.ret d)
theorem lq_nx {I : Rho → Prop} {Q : Out → Prop} (h : I ρ) : loopQ I Q (.nx ρ) := h
theorem lq_ret {I : Rho → Prop} {Q : Out → Prop} {d : D} (h : Q (.ret d)) : loopQ I Q (.ret d) := h
theorem w_forA {g : D → Rho → Option Rho} {B : Sx} {Q : Out → Prop} (I : List D → Rho → Prop) (ds : List D) (h0 : I ds ρ) (hs : ∀ d ds ρ, I (d :: ds) ρ → Wp (g d ρ) fun ρ1 => Wp (B ρ1) (loopQ (I ds) Q)) (hd : ∀ ρ, I [] ρ → Q (.nx ρ)) : Wp (forS g B ds ρ) Q :=
  w_forI I (fun d ds ρ h => (hs d ds ρ h).mono fun _ z => z.mono fun o y => by cases o <;> exact y) hd ds ρ h0
theorem rgD_len {a b : Int} : (rgD a b).length = (b - a).toNat := by simp [rgD]
theorem rgD_mem {a b : Int} {d : D} (h : d ∈ rgD a b) : ∃ i : Int, d = .int i ∧ a ≤ i ∧ i < b := by
  unfold rgD at h
  obtain ⟨i, hi, rfl⟩ := List.mem_map.mp h
  have := List.mem_range.mp hi
  exact ⟨_, rfl, by omega, by omega⟩
theorem w_forR {g : D → Rho → Option Rho} {B : Sx} {Q : Out → Prop} {a b : Int} (I : Nat → Rho → Prop) (h0 : I 0 ρ) (hs : ∀ i ρ, i < (b - a).toNat → I i ρ → Wp (g (.int (a + (i : Nat))) ρ) fun ρ1 => Wp (B ρ1) (loopQ (I (i + 1)) Q)) (hd : ∀ ρ, I (b - a).toNat ρ → Q (.nx ρ)) : Wp (forS g B (rgD a b) ρ) Q := by
  refine w_forA (fun ds ρ => ∃ k, ds = (rgD a b).drop k ∧ k ≤ (b - a).toNat ∧ I k ρ) _ ⟨0, rfl, Nat.zero_le _, h0⟩ (fun d ds ρ ⟨k, e, hk, hI⟩ => ?_) (fun ρ ⟨k, e, hk, hI⟩ => ?_)
  · have hlt : k < (rgD a b).length := by
      refine Nat.lt_of_not_le fun z => ?_
      rw [List.drop_eq_nil_of_le z] at e
      cases e
    rw [List.drop_eq_getElem_cons hlt] at e
    have e1 := (List.cons.inj e).1
    have e2 := (List.cons.inj e).2
    have e3 : d = .int (a + (k : Nat)) := by rw [e1]; simp [rgD]
    subst e3
    rw [rgD_len] at hlt
    exact (hs k ρ hlt hI).mono fun _ z => z.mono fun o y => by
      cases o with
      | nx ρ2 => exact ⟨k + 1, e2, hlt, y⟩
      | ct ρ2 => exact ⟨k + 1, e2, hlt, y⟩
      | brk ρ2 => exact y
      | ret d => exact y
  · have hk2 : (rgD a b).length ≤ k := by
      refine Nat.le_of_not_lt fun z => ?_
      rw [List.drop_eq_getElem_cons z] at e
      cases e
    rw [rgD_len] at hk2
    have : k = (b - a).toNat := by omega
    subst this
    exact hd ρ hI
theorem w_sFor {al : List Nat} {it : Exs} {g : D → Rho → Option Rho} {B : Sx} {Q : Out → Prop} (q : Wp (it ρ) fun ds => Wp (forS g B ds (unown al ρ)) Q) : Wp (sFor al it g B ρ) Q := w_bind q
theorem w_sForV {al : List Nat} {it : Exs} {g : D → Rho → Option Rho} {B : Sx} {Q : Out → Prop} (h : unown al ρ = ρ') (q : Wp (it ρ) fun ds => Wp (forS g B ds ρ') Q) : Wp (sFor al it g B ρ) Q := by subst h; exact w_bind q
theorem w_iV {i : Nat} {Q : List D → Prop} (q : Wp (eV i ρ) fun d => Wp (dItems d) Q) : Wp (iV i ρ) Q := w_bind q
theorem w_iE {al : List Nat} {Q : List D → Prop} (q : Wp (f ρ) fun d => okIt al ρ d = true ∧ Wp (dItems d) Q) : Wp (iE al f ρ) Q := w_bind (q.mono fun d z => by rw [if_pos z.1]; exact z.2)
theorem w_itL {xs : List D} {Q : List D → Prop} (q : Q xs) : Wp (dItems (.lst xs)) Q := ⟨_, rfl, q⟩
theorem w_itT {xs : List D} {Q : List D → Prop} (q : Q xs) : Wp (dItems (.tup xs)) Q := ⟨_, rfl, q⟩
theorem w_itS {z : Str} {Q : List D → Prop} (q : Q (z.cps.toList.map fun c => .str ⟨#[c]⟩)) : Wp (dItems (.str z)) Q := ⟨_, rfl, q⟩
theorem w_rg1 {n : Int} {Q : List D → Prop} (h : -(2 ^ 62) ≤ n ∧ n < 2 ^ 62) (q : Q (rgD 0 n)) : Wp (dRg1 [.int n]) Q := ⟨_, if_pos h, q⟩
theorem w_rg2 {n m : Int} {Q : List D → Prop} (h : (-(2 ^ 62) ≤ n ∧ n < 2 ^ 62) ∧ (-(2 ^ 62) ≤ m ∧ m < 2 ^ 62)) (q : Q (rgD n m)) : Wp (dRg2 [.int n, .int m]) Q := ⟨_, if_pos h, q⟩
theorem w_while0 {n : Nat} {Q : Out → Prop} (q : Wp (whileS t F n ρ) Q) : Wp (sWhile n t F ρ) Q := q
def whQ (t : Te) (F : Sx) (n : Nat) (Q : Out → Prop) : Out → Prop
  | .nx ρ => Wp (whileS t F n ρ) Q
  | .ct ρ => Wp (whileS t F n ρ) Q
  | .brk ρ => Q (.nx ρ)
  | .ret d => Q (.ret d)
theorem w_while {n : Nat} {Q : Out → Prop} (q : Wp (t ρ) fun b => (b = true → Wp (F ρ) (whQ t F n Q)) ∧ (b = false → Q (.nx ρ))) : Wp (whileS t F (n + 1) ρ) Q := by
  obtain ⟨b, e, q⟩ := q
  show Wp ((t ρ).bind fun b => if b = true then (F ρ).bind fun o => match o with
      | .nx ρ2 => whileS t F n ρ2
      | .ct ρ2 => whileS t F n ρ2
      | .brk ρ2 => some (.nx ρ2)
      | .ret d => some (.ret d)
    else some (.nx ρ)) Q
  rw [e]
  cases b with
  | false => exact ⟨_, rfl, q.2 rfl⟩
  | true =>
    obtain ⟨o, e2, q⟩ := q.1 rfl
    show Wp ((F ρ).bind fun o => match o with
      | .nx ρ2 => whileS t F n ρ2
      | .ct ρ2 => whileS t F n ρ2
      | .brk ρ2 => some (.nx ρ2)
      | .ret d => some (.ret d)) Q
    rw [e2]
    cases o with
    | nx ρ2 => exact q
    | ct ρ2 => exact q
    | brk ρ2 => exact ⟨_, rfl, q⟩
    | ret d => exact ⟨_, rfl, q⟩
/-! ### comprehensions -/
theorem w_lcG {vs : List Nat} {it : Exs} {g : D → Rho → Option Rho} {Q : List D → Prop} (q : Wp (it ρ) fun ds => ds.length < 16777216 ∧ Wp (compS g t f (wipeR ρ vs) ds) Q) : Wp (lcG vs it g t f ρ) Q := w_bind (q.mono fun ds z => by rw [if_pos z.1]; exact z.2)
/-- each item gives an element -/
theorem w_compY {g : D → Rho → Option Rho} {R : D → D → Prop} : ∀ {ds : List D} {Q : List D → Prop}, (∀ d ∈ ds, Wp (g d ρ) fun ρ1 => Wp (f ρ1) (R d)) → (∀ ys, All2 R ds ys → Q ys) → Wp (compS g tY f ρ ds) Q
  | [], Q, _, q => ⟨[], rfl, q [] .nil⟩
  | d :: ds, Q, h, q => by
    obtain ⟨ρ1, e1, y, e2, r⟩ := h d List.mem_cons_self
    obtain ⟨ys, e3, r3⟩ := w_compY (Q := fun ys => All2 R ds ys) (fun d' hd => h d' (List.mem_cons_of_mem _ hd)) (fun _ z => z)
    refine ⟨y :: ys, ?_, q _ (.cons r r3)⟩
    show ((g d ρ).bind fun ρ1 => (tY ρ1).bind fun b => if b = true then (f ρ1).bind fun y => (compS g tY f ρ ds).map (y :: ·) else compS g tY f ρ ds) = _
    rw [e1]
    show ((f ρ1).bind fun y => (compS g tY f ρ ds).map (y :: ·)) = _
    rw [e2]
    show (compS g tY f ρ ds).map (y :: ·) = _
    rw [e3]
    rfl
/-- .. by a function -/
theorem w_compF {g : D → Rho → Option Rho} (k : D → D) : ∀ {ds : List D} {Q : List D → Prop}, (∀ d ∈ ds, Wp (g d ρ) fun ρ1 => Wp (f ρ1) fun y => y = k d) → Q (ds.map k) → Wp (compS g tY f ρ ds) Q
  | [], Q, _, q => ⟨[], rfl, q⟩
  | d :: ds, Q, h, q => by
    obtain ⟨ρ1, e1, y, e2, rfl⟩ := h d List.mem_cons_self
    obtain ⟨ys, e3, r3⟩ := w_compF k (Q := fun ys => ys = ds.map k) (fun d' hd => h d' (List.mem_cons_of_mem _ hd)) rfl
    subst r3
    refine ⟨_, ?_, q⟩
    show ((g d ρ).bind fun ρ1 => (tY ρ1).bind fun b => if b = true then (f ρ1).bind fun y => (compS g tY f ρ ds).map (y :: ·) else compS g tY f ρ ds) = _
    rw [e1]
    show ((f ρ1).bind fun y => (compS g tY f ρ ds).map (y :: ·)) = _
    rw [e2]
    show (compS g tY f ρ ds).map (k d :: ·) = _
    rw [e3]
    rfl
/-! ### ways -/
theorem br_t {b : Bool} {P R : Prop} (hb : b = true) (h : P) : (b = true → P) ∧ (b = false → R) := ⟨fun _ => h, fun z => (by rw [hb] at z; cases z)⟩
theorem br_f {b : Bool} {P R : Prop} (hb : b = false) (h : R) : (b = true → P) ∧ (b = false → R) := ⟨fun z => (by rw [hb] at z; cases z), fun _ => h⟩
theorem br_2 {b : Bool} {P R : Prop} (h : b = true → P) (h' : b = false → R) : (b = true → P) ∧ (b = false → R) := ⟨h, h'⟩
theorem br_d {p : Prop} [Decidable p] {P R : Prop} (h : p → P) (h' : ¬ p → R) : (decide p = true → P) ∧ (decide p = false → R) := ⟨fun z => h (of_decide_eq_true z), fun z => h' (of_decide_eq_false z)⟩
theorem br_e {i j : Int} {P R : Prop} (h : i = j → P) (h' : ¬ i = j → R) : ((i == j) = true → P) ∧ ((i == j) = false → R) := ⟨fun z => h (by simpa using z), fun z => h' (by simpa using z)⟩
theorem br_s {i j : Str} {P R : Prop} (h : i = j → P) (h' : ¬ i = j → R) : ((i == j) = true → P) ∧ ((i == j) = false → R) := ⟨fun z => h (by simpa using z), fun z => h' (by simpa using z)⟩
theorem br_n {b : Bool} {P R : Prop} (h : (b = true → R) ∧ (b = false → P)) : ((!b) = true → P) ∧ ((!b) = false → R) := ⟨fun z => h.2 (by simpa using z), fun z => h.1 (by simpa using z)⟩
theorem w_modP {i j : Int} {Q : D → Prop} (h : 0 < j) (q : ∀ r, 0 ≤ r → r < j → r = i % j → Q (.int r)) : Wp (dMod (.int i) (.int j)) Q := w_mod h (q _ (Int.emod_nonneg _ (by omega)) (Int.emod_lt_of_pos _ h) rfl)
theorem sq_nx {G : Sx} {Q : Out → Prop} (h : Wp (G ρ) Q) : seqQ G Q (.nx ρ) := h
theorem sq_ret {G : Sx} {Q : Out → Prop} {d : D} (h : Q (.ret d)) : seqQ G Q (.ret d) := h
/-- an item of a list in bounds -/
theorem atI_in {α : Type} {xs : List α} {i : Int} (h0 : 0 ≤ i) (h1 : i < xs.length) : ∃ d, atI xs i = some d ∧ d ∈ xs ∧ xs[i.toNat]? = some d := by
  have h2 : i.toNat < xs.length := by omega
  refine ⟨xs[i.toNat], ?_, List.getElem_mem h2, List.getElem?_eq_getElem h2⟩
  have := atI_nat (List.getElem?_eq_getElem h2)
  rw [Int.toNat_of_nonneg h0] at this
  exact this
theorem w_ixR' {xs : List Int} {i : Int} {Q : D → Prop} (h0 : 0 ≤ i) (h1 : i < xs.length) (q : ∀ c, c ∈ xs → Q (.int c)) : Wp (dIx (.scr xs) (.int i)) Q := by
  obtain ⟨d, e, m, _⟩ := atI_in h0 h1
  exact w_ixR e (q d m)
theorem w_ixL' {xs : List D} {i : Int} {Q : D → Prop} (h0 : 0 ≤ i) (h1 : i < xs.length) (q : ∀ c, c ∈ xs → Q c) : Wp (dIx (.lst xs) (.int i)) Q := by
  obtain ⟨d, e, m, _⟩ := atI_in h0 h1
  exact w_ixL e (q d m)
theorem w_ixS' {z : Str} {i : Int} {Q : D → Prop} (h : z.length ≤ 16777216) (h0 : 0 ≤ i) (h1 : i < z.length) (q : ∀ c, c ∈ z.cps.toList → Q (.str ⟨#[c]⟩)) : Wp (dIx (.str z) (.int i)) Q := by
  obtain ⟨d, e, m, _⟩ := atI_in (xs := z.cps.toList) h0 (by rw [Array.length_toList]; exact h1)
  exact w_ixS h e (q d m)
theorem mulOk_r {i j : Int} (h : -(2 ^ 64) < j ∧ j < 2 ^ 64) : mulOk i j = true := by
  unfold mulOk
  simp only [Bool.or_eq_true, Bool.and_eq_true, decide_eq_true_eq]
  exact .inl (.inr h)
theorem mulOk_l {i j : Int} (h : -(2 ^ 64) < i ∧ i < 2 ^ 64) : mulOk i j = true := by
  unfold mulOk
  simp only [Bool.or_eq_true, Bool.and_eq_true, decide_eq_true_eq]
  exact .inl (.inl h)
theorem ex_app {l : Option Sl} {xs : List D} {Q : List D → Prop} (e : l = some (.own xs)) (h : xs.length < 16777216) (q : Q xs) : ∃ xs, l = some (.own xs) ∧ xs.length < 16777216 ∧ Q xs := ⟨xs, e, h, q⟩
theorem ex_int {i : Int} {Q : Int → Prop} (q : Q i) : ∃ j, D.int i = .int j ∧ Q j := ⟨i, rfl, q⟩
theorem ex_bl {i : Bool} {Q : Bool → Prop} (q : Q i) : ∃ j, D.bl i = .bl j ∧ Q j := ⟨i, rfl, q⟩
theorem ex_lst {i : List D} {Q : List D → Prop} (q : Q i) : ∃ j, D.lst i = .lst j ∧ Q j := ⟨i, rfl, q⟩
theorem an_int {i : Int} {Q : Prop} (q : Q) : D.int i = .int i ∧ Q := ⟨rfl, q⟩
theorem an_big {n : Nat} {Q : Prop} (h : n ≤ 16777216) (q : Q) : n ≤ 16777216 ∧ Q := ⟨h, q⟩
theorem an_bigl {n : Nat} {Q : Prop} (h : n < 16777216) (q : Q) : n < 16777216 ∧ Q := ⟨h, q⟩
theorem an_own {b : Bool} {Q : Prop} (h : b = true) (q : Q) : b = true ∧ Q := ⟨h, q⟩
theorem fq_nx {g : D → Rho → Option Rho} {B : Sx} {ds : List D} {Q : Out → Prop} (h : Wp (forS g B ds ρ) Q) : forQ g B ds Q (.nx ρ) := h
theorem w_tup0 {Q : D → Prop} (q : Q (.tup [])) : Wp (dTup []) Q := ⟨_, if_pos (Nat.le_of_ble_eq_true rfl), q⟩
theorem w_tup1 {a : D} {Q : D → Prop} (q : Q (.tup [a])) : Wp (dTup [a]) Q := ⟨_, if_pos (Nat.le_of_ble_eq_true rfl), q⟩
theorem w_tup2 {a b : D} {Q : D → Prop} (q : Q (.tup [a, b])) : Wp (dTup [a, b]) Q := ⟨_, if_pos (Nat.le_of_ble_eq_true rfl), q⟩
theorem w_tup3 {a b c : D} {Q : D → Prop} (q : Q (.tup [a, b, c])) : Wp (dTup [a, b, c]) Q := ⟨_, if_pos (Nat.le_of_ble_eq_true rfl), q⟩
theorem w_tup4 {a b c d : D} {Q : D → Prop} (q : Q (.tup [a, b, c, d])) : Wp (dTup [a, b, c, d]) Q := ⟨_, if_pos (Nat.le_of_ble_eq_true rfl), q⟩
theorem w_tup5 {a b c d e : D} {Q : D → Prop} (q : Q (.tup [a, b, c, d, e])) : Wp (dTup [a, b, c, d, e]) Q := ⟨_, if_pos (Nat.le_of_ble_eq_true rfl), q⟩
theorem w_tup6 {a b c d e f : D} {Q : D → Prop} (q : Q (.tup [a, b, c, d, e, f])) : Wp (dTup [a, b, c, d, e, f]) Q := ⟨_, if_pos (Nat.le_of_ble_eq_true rfl), q⟩
theorem an_big0 {Q : Prop} (q : Q) : ([] : List D).length ≤ 16777216 ∧ Q := ⟨Nat.le_of_ble_eq_true rfl, q⟩
theorem an_bigl0 {Q : Prop} (q : Q) : ([] : List D).length < 16777216 ∧ Q := ⟨Nat.le_of_ble_eq_true rfl, q⟩
theorem an_big1 {a : D} {Q : Prop} (q : Q) : ([a] : List D).length ≤ 16777216 ∧ Q := ⟨Nat.le_of_ble_eq_true rfl, q⟩
theorem an_bigl1 {a : D} {Q : Prop} (q : Q) : ([a] : List D).length < 16777216 ∧ Q := ⟨Nat.le_of_ble_eq_true rfl, q⟩
theorem an_big2 {a b : D} {Q : Prop} (q : Q) : ([a, b] : List D).length ≤ 16777216 ∧ Q := ⟨Nat.le_of_ble_eq_true rfl, q⟩
theorem an_bigl2 {a b : D} {Q : Prop} (q : Q) : ([a, b] : List D).length < 16777216 ∧ Q := ⟨Nat.le_of_ble_eq_true rfl, q⟩
theorem an_big3 {a b c : D} {Q : Prop} (q : Q) : ([a, b, c] : List D).length ≤ 16777216 ∧ Q := ⟨Nat.le_of_ble_eq_true rfl, q⟩
theorem an_bigl3 {a b c : D} {Q : Prop} (q : Q) : ([a, b, c] : List D).length < 16777216 ∧ Q := ⟨Nat.le_of_ble_eq_true rfl, q⟩
theorem an_big4 {a b c d : D} {Q : Prop} (q : Q) : ([a, b, c, d] : List D).length ≤ 16777216 ∧ Q := ⟨Nat.le_of_ble_eq_true rfl, q⟩
theorem an_bigl4 {a b c d : D} {Q : Prop} (q : Q) : ([a, b, c, d] : List D).length < 16777216 ∧ Q := ⟨Nat.le_of_ble_eq_true rfl, q⟩
theorem an_big5 {a b c d e : D} {Q : Prop} (q : Q) : ([a, b, c, d, e] : List D).length ≤ 16777216 ∧ Q := ⟨Nat.le_of_ble_eq_true rfl, q⟩
theorem an_bigl5 {a b c d e : D} {Q : Prop} (q : Q) : ([a, b, c, d, e] : List D).length < 16777216 ∧ Q := ⟨Nat.le_of_ble_eq_true rfl, q⟩
theorem an_big6 {a b c d e f : D} {Q : Prop} (q : Q) : ([a, b, c, d, e, f] : List D).length ≤ 16777216 ∧ Q := ⟨Nat.le_of_ble_eq_true rfl, q⟩
theorem an_bigl6 {a b c d e f : D} {Q : Prop} (q : Q) : ([a, b, c, d, e, f] : List D).length < 16777216 ∧ Q := ⟨Nat.le_of_ble_eq_true rfl, q⟩
theorem an_big7 {a b c d e f g : D} {Q : Prop} (q : Q) : ([a, b, c, d, e, f, g] : List D).length ≤ 16777216 ∧ Q := ⟨Nat.le_of_ble_eq_true rfl, q⟩
theorem an_bigl7 {a b c d e f g : D} {Q : Prop} (q : Q) : ([a, b, c, d, e, f, g] : List D).length < 16777216 ∧ Q := ⟨Nat.le_of_ble_eq_true rfl, q⟩
theorem an_big8 {a b c d e f g h : D} {Q : Prop} (q : Q) : ([a, b, c, d, e, f, g, h] : List D).length ≤ 16777216 ∧ Q := ⟨Nat.le_of_ble_eq_true rfl, q⟩
theorem an_bigl8 {a b c d e f g h : D} {Q : Prop} (q : Q) : ([a, b, c, d, e, f, g, h] : List D).length < 16777216 ∧ Q := ⟨Nat.le_of_ble_eq_true rfl, q⟩
theorem w_addT1 {a : D} {y : List D} {Q : D → Prop} (h : y.length ≤ 1000) (q : Q (.tup (a :: y))) : Wp (dAdd (.tup [a]) (.tup y)) Q := w_addT ⟨rfl, by show 1 + y.length ≤ _; omega⟩ q
theorem w_compN {g : D → Rho → Option Rho} {Q : List D → Prop} (q : Q []) : Wp (compS g t f ρ []) Q := ⟨[], rfl, q⟩
theorem w_compC {g : D → Rho → Option Rho} {d : D} {ds : List D} {Q : List D → Prop} (q : Wp (g d ρ) fun ρ1 => Wp (f ρ1) fun y => Wp (compS g tY f ρ ds) fun ys => Q (y :: ys)) : Wp (compS g tY f ρ (d :: ds)) Q := by
  obtain ⟨ρ1, e1, y, e2, ys, e3, q⟩ := q
  refine ⟨y :: ys, ?_, q⟩
  show ((g d ρ).bind fun ρ1 => (tY ρ1).bind fun b => if b = true then (f ρ1).bind fun y => (compS g tY f ρ ds).map (y :: ·) else compS g tY f ρ ds) = _
  rw [e1]
  show ((f ρ1).bind fun y => (compS g tY f ρ ds).map (y :: ·)) = _
  rw [e2]
  show (compS g tY f ρ ds).map (y :: ·) = _
  rw [e3]
  rfl
/-! ### bodies -/
def retQ (Q : D → Prop) : Out → Prop
  | .ret d => Q d
  | .nx _ => Q .non
  | _ => False
theorem rq_ret {Q : D → Prop} {d : D} (h : Q d) : retQ Q (.ret d) := h
theorem w_runB {n : Nat} {B : Sx} {ds : List D} {Q : D → Prop} (q : Wp (B (start' n ds)) (retQ Q)) : Wp (runB n B ds) Q := by
  obtain ⟨o, e, q⟩ := q
  unfold runB
  rw [e]
  cases o with
  | ret d => exact ⟨_, rfl, q⟩
  | nx ρ => exact ⟨_, rfl, q⟩
  | brk ρ => exact q.elim
  | ct ρ => exact q.elim
theorem esc_nil {d : D} : esc [] d ρ = ρ := rfl
theorem esc_int {al : List Nat} {i : Int} : esc al (.int i) ρ = ρ := by unfold esc; rw [show noL (.int i) = true from by simp [noL], Bool.or_true]; exact if_pos rfl
theorem esc_str {al : List Nat} {i : Str} : esc al (.str i) ρ = ρ := by unfold esc; rw [show noL (.str i) = true from by simp [noL], Bool.or_true]; exact if_pos rfl
theorem esc_bl {al : List Nat} {i : Bool} : esc al (.bl i) ρ = ρ := by unfold esc; rw [show noL (.bl i) = true from by simp [noL], Bool.or_true]; exact if_pos rfl
theorem esc_non {al : List Nat} : esc al .non ρ = ρ := by unfold esc; rw [show noL .non = true from by simp [noL], Bool.or_true]; exact if_pos rfl
theorem unown_nil : unown [] ρ = ρ := by
  refine List.ext_getElem? fun i => ?_
  rw [unown_get]
  cases ρ[i]? with
  | none => rfl
  | some s => cases s <;> rfl
theorem esc_noL {al : List Nat} {d : D} (h : noL d = true) : esc al d ρ = ρ := by
  unfold esc
  rw [h, Bool.or_true]
  exact if_pos rfl
end
end DL

/-! Statements as data. -/
namespace ST
open PySem L2 DL
inductive U where
  | nt | al | so
  deriving DecidableEq
inductive B2 where
  | an | or | im
  deriving DecidableEq
def U.nm : U → Str
  | .nt => "not"
  | .al => "all"
  | .so => "some"
def B2.nm : B2 → Str
  | .an => "and"
  | .or => "or"
  | .im => "if"
inductive Stm where
  | yn (b : Bool)
  | word (w : Str) (ts : List Str)
  | un (k : U) (a : Stm)
  | bin (k : B2) (a b : Stm)
def ynm (b : Bool) : Str := if b then "yes" else "no"
def enc : Stm → D
  | .yn b => .tup [.str (ynm b)]
  | .word w ts => .tup [.str "word", .str w, .tup (ts.map .str)]
  | .un k a => .tup [.str k.nm, enc a]
  | .bin k a b => .tup [.str k.nm, enc a, enc b]
def sgn : Stm → Nat
  | .yn _ => 0
  | .word _ _ => 0
  | .un _ a => sgn a + 1
  | .bin _ a b => sgn a + sgn b + 1
def dep : Stm → Nat
  | .yn _ => 0
  | .word _ _ => 0
  | .un _ a => dep a + 1
  | .bin _ a b => max (dep a) (dep b) + 1
def short : Stm → Prop
  | .yn _ => True
  | .word _ ts => ts.length ≤ 3
  | .un _ a => short a
  | .bin _ a b => short a ∧ short b
theorem dep_le : ∀ a : Stm, dep a ≤ sgn a
  | .yn _ => Nat.le_refl _
  | .word _ _ => Nat.le_refl _
  | .un _ a => Nat.succ_le_succ (dep_le a)
  | .bin _ a b => by
    have h1 := dep_le a
    have h2 := dep_le b
    show max (dep a) (dep b) + 1 ≤ sgn a + sgn b + 1
    omega
theorem noLs_strs : ∀ ts : List Str, noLs (ts.map D.str) = true
  | [] => by simp [noLs]
  | t :: r => by
    rw [List.map_cons, noLs, noLs_strs r]
    simp [noL]
theorem noL_enc : ∀ a : Stm, noL (enc a) = true
  | .yn b => by simp [enc, noL, noLs]
  | .word w ts => by simp [enc, noL, noLs, noLs_strs]
  | .un k a => by simp [enc, noL, noLs, noL_enc a]
  | .bin k a b => by simp [enc, noL, noLs, noL_enc a, noL_enc b]
theorem noLs_encs : ∀ l : List Stm, noLs (l.map enc) = true
  | [] => by simp [noLs]
  | a :: r => by rw [List.map_cons, noLs, noLs_encs r, noL_enc a]; rfl
theorem esc_enc {al : List Nat} {a : Stm} {ρ : Rho} : esc al (enc a) ρ = ρ := esc_noL (noL_enc a)
theorem w_eAnd {a b : Stm} {Q : D → Prop} (q : Q (enc (.bin .an a b))) : Wp (dTup [.str "and", enc a, enc b]) Q := w_tup3 q
theorem w_eOr {a b : Stm} {Q : D → Prop} (q : Q (enc (.bin .or a b))) : Wp (dTup [.str "or", enc a, enc b]) Q := w_tup3 q
theorem w_eIf {a b : Stm} {Q : D → Prop} (q : Q (enc (.bin .im a b))) : Wp (dTup [.str "if", enc a, enc b]) Q := w_tup3 q
theorem w_eNot {a : Stm} {Q : D → Prop} (q : Q (enc (.un .nt a))) : Wp (dTup [.str "not", enc a]) Q := w_tup2 q
theorem w_eAll {a : Stm} {Q : D → Prop} (q : Q (enc (.un .al a))) : Wp (dTup [.str "all", enc a]) Q := w_tup2 q
theorem w_eSome {a : Stm} {Q : D → Prop} (q : Q (enc (.un .so a))) : Wp (dTup [.str "some", enc a]) Q := w_tup2 q
theorem w_eWord {w : Str} {ts : List Str} {Q : D → Prop} (q : Q (enc (.word w ts))) : Wp (dTup [.str "word", .str w, .tup (ts.map .str)]) Q := w_tup3 q
theorem nm_word (k : U) : (k.nm == ("word" : Str)) = false := by cases k <;> decide +kernel
theorem nm_word2 (k : B2) : (k.nm == ("word" : Str)) = false := by cases k <;> decide +kernel
theorem nm_word3 (b : Bool) : (ynm b == ("word" : Str)) = false := by cases b <;> decide +kernel
/-- the name in the place of .. -/
def putS (nm : Str) (d : Int) (t : Str) : Str := if t == nm then toString d else t
def U.in1 : U → Int
  | .nt => 0
  | _ => 1
def bindS (nm : Str) : Int → Stm → Stm
  | _, .yn b => .yn b
  | d, .word w ts => .word w (ts.map (putS nm d))
  | d, .un k a => .un k (bindS nm (d + k.in1) a)
  | d, .bin k a b => .bin k (bindS nm d a) (bindS nm d b)
theorem sgn_bind (nm : Str) : ∀ (d : Int) (a : Stm), sgn (bindS nm d a) = sgn a
  | _, .yn _ => rfl
  | _, .word _ _ => rfl
  | d, .un k a => congrArg (· + 1) (sgn_bind nm _ a)
  | d, .bin k a b => by show sgn (bindS nm d a) + sgn (bindS nm d b) + 1 = _; rw [sgn_bind nm d a, sgn_bind nm d b]; rfl
theorem short_bind (nm : Str) : ∀ (d : Int) (a : Stm), short a → short (bindS nm d a)
  | _, .yn _, h => h
  | _, .word _ ts, h => by show (ts.map _).length ≤ 3; rw [List.length_map]; exact h
  | d, .un k a, h => short_bind nm _ a h
  | d, .bin k a b, h => ⟨short_bind nm d a h.1, short_bind nm d b h.2⟩
theorem two_last {α : Type} : ∀ {l : List α}, 1 < l.length → ∃ r a b, l = r ++ [a, b] := by
  intro l h
  obtain ⟨r, b, rfl⟩ : ∃ r b, l = r ++ [b] := ⟨l.dropLast, l.getLast (by intro z; rw [z] at h; simp at h), (List.dropLast_concat_getLast _).symm⟩
  have h1 : 0 < r.length := by simp at h; exact h
  obtain ⟨r', a, rfl⟩ : ∃ r' a, r = r' ++ [a] := ⟨r.dropLast, r.getLast (by intro z; rw [z] at h1; simp at h1), (List.dropLast_concat_getLast _).symm⟩
  exact ⟨r', a, b, by simp⟩
theorem one_last {α : Type} {l : List α} (h : 0 < l.length) : ∃ r a, l = r ++ [a] := ⟨l.dropLast, l.getLast (by intro z; rw [z] at h; simp at h), (List.dropLast_concat_getLast _).symm⟩
end ST

/-! Sorting of nested keys that < can tell apart. -/
namespace DL
open PySem PySem.SeqAt PyProof.Rows PySem.W
mutual
/-- a key as signs -/
def ntk : NestedKey → List (Int ⊕ List Nat)
  | .none => []
  | .num i => [.inl i]
  | .text x => [.inr x.cps.toList]
  | .tup ks => ntkA ks
def ntkA : List NestedKey → List (Int ⊕ List Nat)
  | [] => [.inl 0]
  | k :: ks => .inl 1 :: (ntk k ++ ntkA ks)
end
mutual
/-- x < y is answered -/
def cmb : NestedKey → NestedKey → Bool
  | .num _, .num _ => true
  | .text _, .text _ => true
  | .tup a, .tup b => cmbA a b
  | _, _ => false
def cmbA : List NestedKey → List NestedKey → Bool
  | x :: xs, y :: ys => if NestedKey.beq x y = true then cmbA xs ys else cmb x y
  | _, _ => true
end
abbrev lxT (a b : List (Int ⊕ List Nat)) : Bool := PyProof.Rows.lexLt itemOrd a b
def ltN (x y : NestedKey) : Bool := lxT (ntk x) (ntk y)
theorem lx_pre (p a b : List (Int ⊕ List Nat)) : lxT (p ++ a) (p ++ b) = lxT a b := lex_pre p a b
theorem lx_atom {p q : Int ⊕ List Nat} (hne : p ≠ q) (l m : List (Int ⊕ List Nat)) : lxT (p :: l) (q :: m) = lxT [p] [q] := lex_atom hne l m
theorem ntkA_cons (k : NestedKey) (ks : List NestedKey) : ntkA (k :: ks) = Sum.inl 1 :: (ntk k ++ ntkA ks) := by rw [ntkA]
theorem cmbA_yes {x y : NestedKey} {xs ys : List NestedKey} (h : cmbA (x :: xs) (y :: ys) = true) (e : NestedKey.beq x y = true) : cmbA xs ys = true := by
  rw [cmbA, if_pos e] at h
  exact h
theorem cmbA_no {x y : NestedKey} {xs ys : List NestedKey} (h : cmbA (x :: xs) (y :: ys) = true) (e : NestedKey.beq x y = false) : cmb x y = true := by
  rw [cmbA, if_neg (by rw [e]; decide)] at h
  exact h
mutual
theorem ntk_cut : ∀ (x y : NestedKey), cmb x y = true → NestedKey.beq x y = false → ∀ l m, lxT (ntk x ++ l) (ntk y ++ m) = lxT (ntk x) (ntk y)
  | .num a, .num b, _, e, l, m => by
    have ne : (Sum.inl a : Int ⊕ List Nat) ≠ .inl b := fun z => by
      rw [Sum.inl.inj z, NestedKey.beq_self] at e
      cases e
    rw [ntk, ntk]
    exact lx_atom ne l m
  | .text a, .text b, _, e, l, m => by
    have ne : (Sum.inr a.cps.toList : Int ⊕ List Nat) ≠ .inr b.cps.toList := fun z => by
      rw [str_of_cps (Sum.inr.inj z), NestedKey.beq_self] at e
      cases e
    rw [ntk, ntk]
    exact lx_atom ne l m
  | .tup a, .tup b, h, e, l, m => by
    rw [ntk, ntk]
    exact ntkA_cut a b (by rw [cmb] at h; exact h) (by rw [NestedKey.beq] at e; exact e) l m
  | .none, y, h, _, _, _ => by cases y <;> simp [cmb] at h
  | .num _, .none, h, _, _, _ => by simp [cmb] at h
  | .num _, .text _, h, _, _, _ => by simp [cmb] at h
  | .num _, .tup _, h, _, _, _ => by simp [cmb] at h
  | .text _, .none, h, _, _, _ => by simp [cmb] at h
  | .text _, .num _, h, _, _, _ => by simp [cmb] at h
  | .text _, .tup _, h, _, _, _ => by simp [cmb] at h
  | .tup _, .none, h, _, _, _ => by simp [cmb] at h
  | .tup _, .num _, h, _, _, _ => by simp [cmb] at h
  | .tup _, .text _, h, _, _, _ => by simp [cmb] at h
theorem ntkA_cut : ∀ (xs ys : List NestedKey), cmbA xs ys = true → NestedKey.beqAll xs ys = false → ∀ l m, lxT (ntkA xs ++ l) (ntkA ys ++ m) = lxT (ntkA xs) (ntkA ys)
  | [], [], _, e, _, _ => by simp [NestedKey.beqAll] at e
  | [], y :: ys, _, _, l, m => by
    rw [ntkA_cons, ntkA]
    exact (lx_atom (by simp) _ _).trans (lx_atom (by simp) _ _).symm
  | x :: xs, [], _, _, l, m => by
    rw [ntkA_cons, ntkA]
    exact (lx_atom (by simp) _ _).trans (lx_atom (by simp) _ _).symm
  | x :: xs, y :: ys, h, e, l, m => by
    rw [ntkA_cons, ntkA_cons]
    have q : lxT (ntk x ++ ntkA xs ++ l) (ntk y ++ ntkA ys ++ m) = lxT (ntk x ++ ntkA xs) (ntk y ++ ntkA ys) := by
      rw [List.append_assoc, List.append_assoc]
      cases hb : NestedKey.beq x y with
      | true =>
        rw [NestedKey.beqAll, hb, Bool.true_and] at e
        rw [NestedKey.eq_of_beq x y hb, lx_pre, lx_pre]
        exact ntkA_cut xs ys (cmbA_yes h hb) e l m
      | false =>
        have z := ntk_cut x y (cmbA_no h hb) hb
        rw [z, z]
    exact (lex_self (O := itemOrd) _ _ _).trans (q.trans (lex_self (O := itemOrd) _ _ _).symm)
end
theorem ltA_yes {x y : NestedKey} {xs ys : List NestedKey} (e : NestedKey.beq x y = true) : lxT (ntkA (x :: xs)) (ntkA (y :: ys)) = lxT (ntkA xs) (ntkA ys) := by
  rw [ntkA_cons, ntkA_cons, NestedKey.eq_of_beq x y e]
  exact (lex_self (O := itemOrd) _ _ _).trans (lx_pre _ _ _)
theorem ltA_no {x y : NestedKey} {xs ys : List NestedKey} (h : cmb x y = true) (e : NestedKey.beq x y = false) : lxT (ntkA (x :: xs)) (ntkA (y :: ys)) = ltN x y := by
  rw [ntkA_cons, ntkA_cons]
  exact (lex_self (O := itemOrd) _ _ _).trans (ntk_cut x y h e _ _)
mutual
/-- the value is the key, no truth value in it -/
inductive Nk (h : Heap) : NestedKey → Value → Prop
  | num (i : Int) (t : Tok) : Nk h (.num i) (.int i t)
  | text (x : Str) (t : Tok) : Nk h (.text x) (.str x t)
  | tup {a : Addr} {o : Obj} {vs : Array Value} {n : Nat} {ks : List NestedKey} : h.get? a = some o → o.cls = .type "tuple" → o.data = .seq vs n → NkA h ks vs.toList → Nk h (.tup ks) (.ref a)
inductive NkA (h : Heap) : List NestedKey → List Value → Prop
  | nil : NkA h [] []
  | cons {k : NestedKey} {v : Value} {ks : List NestedKey} {vs : List Value} : Nk h k v → NkA h ks vs → NkA h (k :: ks) (v :: vs)
end
mutual
theorem Nk.is {h : Heap} : ∀ {k : NestedKey} {v : Value}, Nk h k v → NestedIs h k v
  | _, _, .num i t => .int i t
  | _, _, .text x t => .text x t
  | _, _, .tup h1 h2 h3 h4 => .tup h1 h2 h3 h4.is
theorem NkA.is {h : Heap} : ∀ {ks : List NestedKey} {vs : List Value}, NkA h ks vs → NestedAll h ks vs
  | _, _, .nil => .nil
  | _, _, .cons h t => .cons h.is t.is
end
mutual
theorem Nk.keep {h h' : Heap} (g : ∀ a o, h.get? a = some o → o.cls = .type "tuple" → h'.get? a = some o) : ∀ {k : NestedKey} {v : Value}, Nk h k v → Nk h' k v
  | _, _, .num i t => .num i t
  | _, _, .text x t => .text x t
  | _, _, .tup h1 h2 h3 h4 => .tup (g _ _ h1 h2) h2 h3 (h4.keep g)
theorem NkA.keep {h h' : Heap} (g : ∀ a o, h.get? a = some o → o.cls = .type "tuple" → h'.get? a = some o) : ∀ {ks : List NestedKey} {vs : List Value}, NkA h ks vs → NkA h' ks vs
  | _, _, .nil => .nil
  | _, _, .cons h t => .cons (h.keep g) (t.keep g)
end
theorem NkA.length {h : Heap} : ∀ {ks : List NestedKey} {vs : List Value}, NkA h ks vs → vs.length = ks.length
  | _, _, .nil => rfl
  | _, _, .cons _ t => by rw [List.length_cons, List.length_cons, t.length]
/-- how two rows of values lie to each other -/
inductive TLt (A : Around) (s : Shared) : List Value → List Value → Bool → Prop
  | none2 : TLt A s [] [] false
  | short (y : Value) (ys : List Value) : TLt A s [] (y :: ys) true
  | long (x : Value) (xs : List Value) : TLt A s (x :: xs) [] false
  | same {x y : Value} {xs ys : List Value} {c : Bool} : EqAt A s x y true → TLt A s xs ys c → TLt A s (x :: xs) (y :: ys) c
  | other {x y : Value} {xs ys : List Value} {c : Bool} : EqAt A s x y false → RcLt A s x y c → TLt A s (x :: xs) (y :: ys) c
theorem TLt.size {A : Around} {s : Shared} {xs ys : List Value} {c : Bool} (h : TLt A s xs ys c) (z : xs.zip ys = []) : c = decide (xs.length < ys.length) := by
  cases h with
  | none2 => rfl
  | short y ys => simp
  | long x xs => simp
  | same _ _ => cases z
  | other _ _ => cases z
section
open AutoSeq1 (wpAny_loadPart')
open MeetsSeq MeetsSeq2 MeetsSeq3 SeqRoads2
theorem tup_lt (l b : Addr) (us vs : Array Value) (m n : Nat) (du dv : Option Addr) (lu lv : Array (Option Value)) (c : Bool) :
    Meets (Builtin.«tuple.__lt__» ⟨[.ref l, .ref b], []⟩)
      (fun A R s => s.heap.get? l = some ⟨.type "tuple", du, .seq us m, lu⟩ ∧ s.heap.get? b = some ⟨.type "tuple", dv, .seq vs n, lv⟩ ∧
        TLt A.in1 s us.toList vs.toList c ∧ R (.ok (.ret (.bool c))) s) :=
  .of_wp fun prog w A R s h => by
    obtain ⟨hp, g, d, tk, os⟩ := s
    obtain ⟨hu, hv, hT, hR⟩ := h
    have f2 := AutoSeq1.sub_tuple_tuple
    wp_walk using wpAny_loadPart' hu, wpAny_loadPart' hv, wpAny_forIn_list _ (fun rest r s' => r.1 = none ∧ s' = ⟨hp, g, d, tk, os⟩ ∧ ∃ xs ys, rest = xs.zip ys ∧ TLt A.in1 ⟨hp, g, d, tk, os⟩ xs ys c ∧
      decide (xs.length < ys.length) = decide (us.size < vs.size)) _
    case turn =>
      rintro ⟨y, x⟩ rest r s' ⟨hr, rfl, xs, ys, hz, hT', hs⟩
      cases hT' with
      | none2 => cases hz
      | short _ _ => cases hz
      | long _ _ => cases hz
      | @same x' y' xs' ys' _ he ht =>
        rw [List.zip_cons_cons] at hz
        obtain ⟨hz1, hz2⟩ := List.cons.inj hz
        obtain ⟨rfl, rfl⟩ := Prod.mk.inj hz1
        refine wpAny_bind (he prog w _ _ ?_)
        wp_walk
        exact ⟨rfl, rfl, xs', ys', hz2, ht, by simpa using hs⟩
      | @other x' y' xs' ys' _ he hl =>
        rw [List.zip_cons_cons] at hz
        obtain ⟨hz1, hz2⟩ := List.cons.inj hz
        obtain ⟨rfl, rfl⟩ := Prod.mk.inj hz1
        refine wpAny_bind (he prog w _ _ ?_)
        have hl2 : ∀ (E : Value → Shared → Prop) (Q : Value → Shared → Prop), Q (.bool c) ⟨hp, g, d, tk, os⟩ → wpAny (model prog w) A.in1 (PySem.richCompare .Lt y x) Q E ⟨hp, g, d, tk, os⟩ := fun E Q q => hl prog w E Q q
        generalize hRC : PySem.richCompare = RC at hl2 ⊢
        wp_walk
        refine hl2 _ _ ?_
        wp_walk
        exact ⟨_, rfl, hR⟩
    case fin =>
      rintro ⟨r1, r2⟩ s' ⟨hr, rfl, xs, ys, hz, hT', hs⟩
      simp only at hr
      subst hr
      have e := (hT'.size hz.symm).trans hs
      wp_walk
      refine ⟨_, rfl, ?_⟩
      rw [e] at hR
      simpa [Builtin.Tuple.tupleCompareSizes] using hR
    case h =>
      exact ⟨rfl, rfl, us.toList, vs.toList, rfl, hT, by simp⟩
theorem RcLt.tup {A : Around} {s : Shared} {l b : Addr} {us vs : Array Value} {c : Bool} (hl : s.heap.IsTuple l us) (hb : s.heap.IsTuple b vs) (hu : A.units < cLine) (hT : TLt A.in1 s us.toList vs.toList c) : RcLt A s (.ref l) (.ref b) c := fun prog w E Q h => by
  obtain ⟨⟨k1, du, e1, lu⟩, ho, hc, m, hd⟩ := id hl
  obtain ⟨⟨k2, dv, e2, lv⟩, ho2, hc2, n, hd2⟩ := id hb
  simp only at hc hd hc2 hd2
  subst hc hd hc2 hd2
  have ne : Value.bool c ≠ Value.notImplemented := fun z => nomatch z
  exact richCompare_meets_room (op := .Lt) ⟨_, ho, rfl⟩ ⟨_, ho2, rfl⟩ F.slot_tuple_lt F.entry_tuple_lt (F.args_tuple_lt_2 _ _) (tup_lt l b us vs m n du dv lu lv c) ⟨ho, ho2, hT, ne, h⟩ hu
end
theorem ltN_num (i j : Int) : ltN (.num i) (.num j) = decide (i < j) := by
  have e : ltN (.num i) (.num j) = lxT [.inl i] [.inl j] := rfl
  rw [e]
  by_cases z : i = j
  · subst z
    exact (lex_irrefl (O := itemOrd) _).trans (by simp)
  · exact (lex_diff (O := itemOrd) fun y => z (Sum.inl.inj y)).trans rfl
theorem ltN_text (i j : Str) : ltN (.text i) (.text j) = decide (i.cps.toList < j.cps.toList) := dataLt_str i j
mutual
theorem rcLt_nk : ∀ (x y : NestedKey) (A : Around) (s : Shared) (a b : Value), Nk s.heap x a → Nk s.heap y b → cmb x y = true → A.units + min x.depth y.depth < cLine → RcLt A s a b (ltN x y)
  | .num i, .num j, A, s, _, _, .num _ t, .num _ u, _, _ => by
    intro prog w E Q q
    rw [ltN_num] at q
    exact P.lt_int q
  | .text i, .text j, A, s, _, _, .text _ t, .text _ u, _, _ => by
    intro prog w E Q q
    rw [ltN_text] at q
    exact P.lt_str q
  | .tup xs, .tup ys, A, s, _, _, .tup (vs := vs) h1 h2 h3 h4, .tup (vs := ws) k1 k2 k3 k4, hc, hu => by
    have hc' : cmbA xs ys = true := by rw [cmb] at hc; exact hc
    have e : ltN (.tup xs) (.tup ys) = lxT (ntkA xs) (ntkA ys) := by rw [ltN, ntk, ntk]
    rw [e]
    exact RcLt.tup ⟨_, h1, h2, _, h3⟩ ⟨_, k1, k2, _, k3⟩ (room_here hu) (tlt_nk xs ys A.in1 s _ _ h4 k4 hc' (room_in hu))
  | .none, y, _, _, _, _, ra, _, _, _ => by cases ra
  | .num _, .none, _, _, _, _, _, rb, _, _ => by cases rb
  | .num _, .text _, _, _, _, _, _, _, h, _ => by simp [cmb] at h
  | .num _, .tup _, _, _, _, _, _, _, h, _ => by simp [cmb] at h
  | .text _, .none, _, _, _, _, _, rb, _, _ => by cases rb
  | .text _, .num _, _, _, _, _, _, _, h, _ => by simp [cmb] at h
  | .text _, .tup _, _, _, _, _, _, _, h, _ => by simp [cmb] at h
  | .tup _, .none, _, _, _, _, _, rb, _, _ => by cases rb
  | .tup _, .num _, _, _, _, _, _, _, h, _ => by simp [cmb] at h
  | .tup _, .text _, _, _, _, _, _, _, h, _ => by simp [cmb] at h
theorem tlt_nk : ∀ (xs ys : List NestedKey) (A : Around) (s : Shared) (vs ws : List Value), NkA s.heap xs vs → NkA s.heap ys ws → cmbA xs ys = true →
    A.units + min (NestedKey.depthAll xs) (NestedKey.depthAll ys) < cLine → TLt A s vs ws (lxT (ntkA xs) (ntkA ys))
  | [], [], A, s, _, _, .nil, .nil, _, _ => by
    have z : lxT (ntkA []) (ntkA []) = false := lex_irrefl (O := itemOrd) _
    rw [z]
    exact .none2
  | [], y :: ys, A, s, _, _, .nil, .cons _ _, _, _ => by
    have z : lxT (ntkA []) (ntkA (y :: ys)) = true := by
      rw [ntkA_cons, ntkA]
      exact (lex_diff (O := itemOrd) (by simp)).trans (by simp [itemLt])
    rw [z]
    exact .short _ _
  | x :: xs, [], A, s, _, _, .cons _ _, .nil, _, _ => by
    have z : lxT (ntkA (x :: xs)) (ntkA []) = false := by
      rw [ntkA_cons, ntkA]
      exact (lex_diff (O := itemOrd) (by simp)).trans (by simp [itemLt])
    rw [z]
    exact .long _ _
  | x :: xs, y :: ys, A, s, _, _, .cons r rs, .cons r' rs', h, hu => by
    have q := eqAt_key x y A s _ _ r.is r'.is (room_head hu)
    cases hb : NestedKey.beq x y with
    | true =>
      rw [hb] at q
      rw [ltA_yes hb]
      exact .same q (tlt_nk xs ys A s _ _ rs rs' (cmbA_yes h hb) (room_tail hu))
    | false =>
      rw [hb] at q
      rw [ltA_no (cmbA_no h hb) hb]
      exact .other q (rcLt_nk x y A s _ _ r r' (cmbA_no h hb) (room_head hu))
end
end DL

namespace DL
open PySem PySem.SeqAt PyProof.Rows PySem.W
theorem Nk.inj {h : Heap} {x y : NestedKey} {v : Value} (a : Nk h x v) (b : Nk h y v) : x = y := NestedIs.inj x y v a.is b.is
/-- the sorts of keys that may stand in one row -/
def kd : NestedKey → Nat
  | .num _ => 0
  | .text _ => 1
  | .tup (.num _ :: _) => 2
  | .tup (.text _ :: _) => 3
  | .tup (.tup _ :: _) => 4
  | _ => 9
/-- one row that can be sorted -/
structure Row (ks : List NestedKey) : Prop where
  cmb : ∀ a ∈ ks, ∀ b ∈ ks, cmb a b = true
  one : ∃ c, c ≤ 4 ∧ ∀ a ∈ ks, kd a = c
noncomputable def nkKind (h : Heap) (ks : List NestedKey) : PyProof.Rows.KeyKind where
  toKeyOrd := listOrd itemOrd
  keyOf v := open Classical in if q : ∃ k, k ∈ ks ∧ Nk h k v then some (ntk q.choose) else none
  dflt := ([] : List (Int ⊕ List Nat))
theorem nkKind_of {h : Heap} {ks : List NestedKey} {v : Value} {k : NestedKey} (m : k ∈ ks) (r : Nk h k v) : (nkKind h ks).keyOf v = some (ntk k) := by
  have q : ∃ k, k ∈ ks ∧ Nk h k v := ⟨k, m, r⟩
  have e : (nkKind h ks).keyOf v = some (ntk q.choose) := dif_pos q
  rw [e, q.choose_spec.2.inj r]
theorem nkKind_to {h : Heap} {ks : List NestedKey} {v : Value} {z : List (Int ⊕ List Nat)} (e : (nkKind h ks).keyOf v = some z) : ∃ k, k ∈ ks ∧ Nk h k v ∧ z = ntk k := by
  by_cases q : ∃ k, k ∈ ks ∧ Nk h k v
  · have e' : (nkKind h ks).keyOf v = some (ntk q.choose) := dif_pos q
    rw [e'] at e
    exact ⟨_, q.choose_spec.1, q.choose_spec.2, (Option.some.inj e).symm⟩
  · have e' : (nkKind h ks).keyOf v = none := dif_neg q
    rw [e'] at e
    cases e
/-- the class of a key's value -/
def kty : NestedKey → Value
  | .none => .type "NoneType"
  | .num _ => .type "int"
  | .text _ => .type "str"
  | .tup _ => .type "tuple"
theorem nk_looks {M : Model} {h : Heap} {k : NestedKey} {v : Value} (r : Nk h k v) : Looks M h (typeOf v) (kty k) := by
  cases r with
  | num i t => exact Looks.of_pure rfl
  | text x t => exact Looks.of_pure rfl
  | tup h1 h2 h3 h4 =>
    show Looks M h (typeOf (Value.ref _)) (Value.type "tuple")
    rw [← h2]
    exact (Looks.ld h1).andThen .now
section
variable {prog : Program} {w : World} {A : Around} {E : Value → Shared → Prop} {s : Shared}
theorem one_nk {f : Bool} {x y : NestedKey} {a b : Value} {Q : Bool → Shared → Prop} (hf : f = true → ∀ t, x ≠ .tup t) (ra : Nk s.heap x a) (rb : Nk s.heap y b) (h : cmb x y = true) (hu : A.units + min x.depth y.depth < cLine) (q : Q (ltN x y) s) :
    wpAny (model prog w) A (oneLt' f a b) Q E s := by
  cases f with
  | false =>
    rw [oneLt'_eq]
    simp only [Bool.false_eq_true, if_false]
    exact wpAny_bind (rcLt_nk x y A s a b ra rb h hu prog w E _ (wpAny_truthy_bool q))
  | true =>
    cases ra with
    | num i t =>
      cases rb with
      | num j u =>
        rw [ltN_num] at q
        exact oneLt_int q
      | _ => simp [cmb] at h
    | text i t =>
      cases rb with
      | text j u =>
        rw [ltN_text] at q
        exact oneLt_str q
      | _ => simp [cmb] at h
    | tup _ _ _ _ => exact absurd rfl (hf rfl _)
theorem kat_nk {b c : Bool} {Q : Bool → Shared → Prop} : ∀ (xs ys : List NestedKey) (i : Nat) (vs ws : List Value), NkA s.heap xs vs → NkA s.heap ys ws → cmbA xs ys = true → A.units + min (NestedKey.depthAll xs) (NestedKey.depthAll ys) < cLine →
    (b = true → i = 0 → ∀ x r t, xs = x :: r → x ≠ .tup t) → c = decide (xs.length < ys.length) → Q (lxT (ntkA xs) (ntkA ys)) s → KatLex prog w A b c Q (vs.zip ws) i s
  | [], [], i, _, _, .nil, .nil, _, _, _, hc, q => by
    have z : lxT (ntkA []) (ntkA []) = false := lex_irrefl (O := itemOrd) _
    rw [z] at q
    subst hc
    exact kat_nil q
  | [], y :: ys, i, _, _, .nil, .cons _ _, _, _, _, hc, q => by
    have z : lxT (ntkA []) (ntkA (y :: ys)) = true := by
      rw [ntkA_cons, ntkA]
      exact (lex_diff (O := itemOrd) (by simp)).trans (by simp [itemLt])
    rw [z] at q
    have e : c = true := by rw [hc]; simp
    subst e
    rw [List.zip_nil_left]
    exact kat_nil q
  | x :: xs, [], i, _, _, .cons _ _, .nil, _, _, _, hc, q => by
    have z : lxT (ntkA (x :: xs)) (ntkA []) = false := by
      rw [ntkA_cons, ntkA]
      exact (lex_diff (O := itemOrd) (by simp)).trans (by simp [itemLt])
    rw [z] at q
    have e : c = false := by rw [hc]; simp
    subst e
    rw [List.zip_nil_right]
    exact kat_nil q
  | x :: xs, y :: ys, i, _, _, .cons r rs, .cons r' rs', h, hu, hb, hc, q => by
    rw [List.zip_cons_cons]
    refine kat_cons (eqAt_key x y A s _ _ r.is r'.is (room_head hu) prog w _ _ ?_)
    cases hx : NestedKey.beq x y with
    | true =>
      rw [ltA_yes hx] at q
      exact kat_yes (kat_nk xs ys (i + 1) _ _ rs rs' (cmbA_yes h hx) (room_tail hu) (fun _ z => absurd z (Nat.succ_ne_zero i)) (by rw [hc]; simp) q)
    | false =>
      rw [ltA_no (cmbA_no h hx) hx] at q
      refine kat_no (one_nk (fun z t => ?_) r r' (cmbA_no h hx) (room_head hu) q)
      obtain ⟨z1, z2⟩ := Bool.and_eq_true_iff.mp z
      exact hb z1 (by simpa using z2) x xs t rfl
/-- rows of values that are keys -/
theorem tups_nk {h : Heap} : ∀ {ks : List NestedKey} {vs : List Value}, NkA h ks vs → (∀ k ∈ ks, ∃ x r, k = .tup (x :: r)) → ∃ fs, KatTups h vs fs ∧ fs.length = vs.length ∧ ∀ f ∈ fs, ∃ x r, NestedKey.tup (x :: r) ∈ ks ∧ Nk h x f
  | _, _, .nil, _ => ⟨[], KatTups.nil, rfl, fun f z => by cases z⟩
  | _, _, .cons (k := k) r t, ht => by
    obtain ⟨fs, h1, h2, h3⟩ := tups_nk t fun k m => ht k (List.mem_cons_of_mem _ m)
    obtain ⟨x, q, rfl⟩ := ht k List.mem_cons_self
    cases r with
    | @tup a o vs n _ ho hc hd hr =>
      cases e : vs.toList with
      | nil => rw [e] at hr; cases hr
      | cons f fr =>
        rw [e] at hr
        cases hr with
        | cons r1 r2 =>
          refine ⟨f :: fs, KatTups.cons ho hc hd (by rw [← Array.getElem?_toList, e]; rfl) h1, by simp [h2], fun g m => ?_⟩
          rcases List.mem_cons.mp m with rfl | m
          · exact ⟨x, q, List.mem_cons_self, r1⟩
          · obtain ⟨x', q', m1, m2⟩ := h3 g m
            exact ⟨x', q', List.mem_cons_of_mem _ m1, m2⟩
theorem NkA.mem {h : Heap} : ∀ {ks : List NestedKey} {vs : List Value}, NkA h ks vs → ∀ v ∈ vs, ∃ k ∈ ks, Nk h k v
  | _, _, .nil, v, m => by cases m
  | _, _, .cons r t, v, m => by
    rcases List.mem_cons.mp m with rfl | m
    · exact ⟨_, List.mem_cons_self, r⟩
    · obtain ⟨k, m1, m2⟩ := t.mem v m
      exact ⟨k, List.mem_cons_of_mem _ m1, m2⟩
theorem kd_tup {k : NestedKey} {c : Nat} (e : kd k = c) (h2 : 2 ≤ c) (h4 : c ≤ 4) : ∃ x r, k = .tup (x :: r) ∧ kty x = (if c = 2 then Value.type "int" else if c = 3 then Value.type "str" else Value.type "tuple") := by
  unfold kd at e
  split at e
  · omega
  · omega
  · subst e; exact ⟨_, _, rfl, rfl⟩
  · subst e; exact ⟨_, _, rfl, rfl⟩
  · subst e; exact ⟨_, _, rfl, rfl⟩
  · omega
theorem kd_one {k : NestedKey} {c : Nat} (e : kd k = c) (h2 : c < 2) : (∀ t, k ≠ .tup t) ∧ kty k = (if c = 0 then Value.type "int" else Value.type "str") := by
  unfold kd at e
  split at e
  · subst e; exact ⟨fun t z => (by cases z), rfl⟩
  · subst e; exact ⟨fun t z => (by cases z), rfl⟩
  · omega
  · omega
  · omega
  · omega
/-- they can be sorted -/
theorem sorts_nk {vs : List Value} {ks : List NestedKey} (e : NkA s.heap ks vs) (hk : Row ks) (hu : ∀ k ∈ ks, A.units + k.depth < cLine) : SortsAt prog w A s (nkKind s.heap ks) vs := by
  have room : ∀ {k k' : NestedKey}, k ∈ ks → A.units + min k.depth k'.depth < cLine := fun {k k'} m => by
    have z := hu k m
    have y := Nat.min_le_left k.depth k'.depth
    omega
  refine ⟨fun v hv => ?_, ?_⟩
  · obtain ⟨k, m, r⟩ := e.mem v hv
    exact ⟨_, nkKind_of m r⟩
  · obtain ⟨c, hc, one⟩ := hk.one
    by_cases h2 : 2 ≤ c
    · have ht : ∀ k ∈ ks, ∃ x r, k = .tup (x :: r) := fun k m => by
        obtain ⟨x, r, e, _⟩ := kd_tup (one k m) h2 hc
        exact ⟨x, r, e⟩
      refine ⟨tuples' ((if c = 2 then Value.type "int" else if c = 3 then Value.type "str" else Value.type "tuple") != Value.type "tuple"), ?_, fun hl E Q q => ?_⟩
      · intro E x y a b Q ha hb q
        obtain ⟨k, m, r, rfl⟩ := nkKind_to ha
        obtain ⟨k', m', r', rfl⟩ := nkKind_to hb
        have cc := hk.cmb k m k' m'
        have rm := room (k' := k') m
        have q' : Q (ltN k k') s := q
        cases r with
        | num i t => obtain ⟨_, _, z, _⟩ := kd_tup (one _ m) h2 hc; cases z
        | text i t => obtain ⟨_, _, z, _⟩ := kd_tup (one _ m) h2 hc; cases z
        | @tup a o us n xs g1 g2 g3 g4 =>
          cases r' with
          | num i t => simp [DL.cmb] at cc
          | text i t => simp [DL.cmb] at cc
          | @tup a' o' us' n' ys g1' g2' g3' g4' =>
            have n1 : us.size = xs.length := by simpa using g4.length
            have n2 : us'.size = ys.length := by simpa using g4'.length
            refine kat_lt g1 g3 g1' g3' (kat_nk xs ys 0 _ _ g4 g4' (by rw [DL.cmb] at cc; exact cc) (by have z := SeqAt.room_in rm; omega) (fun hb _ x r t ex => ?_) (by rw [n1, n2]) (by rw [ltN, ntk, ntk] at q'; exact q'))
            subst ex
            obtain ⟨x', r', e', hy⟩ := kd_tup (one _ m) h2 hc
            cases e'
            rintro rfl
            rw [← hy] at hb
            simp [kty] at hb
      · obtain ⟨fs, t1, t2, t3⟩ := tups_nk e ht
        refine kat_kind t1 (by omega) (fun f hf => ?_) (beq_self_eq_true _) q
        obtain ⟨x, r, m1, m2⟩ := t3 f hf
        obtain ⟨x', r', e', hy⟩ := kd_tup (one _ m1) h2 hc
        cases e'
        rw [← hy]
        exact nk_looks m2
    · refine ⟨oneType', ?_, fun hl E Q q => ?_⟩
      · intro E x y a b Q ha hb q
        obtain ⟨k, m, r, rfl⟩ := nkKind_to ha
        obtain ⟨k', m', r', rfl⟩ := nkKind_to hb
        rw [keyLt'_oneType]
        exact one_nk (fun _ => (kd_one (one k m) (by omega)).1) r r' (hk.cmb k m k' m') (room m) q
      · refine kas_kind (T := if c = 0 then Value.type "int" else Value.type "str") hl (fun v hv => ?_) (by split <;> decide) (beq_self_eq_true _) q
        obtain ⟨k, m, r⟩ := e.mem v hv
        rw [← (kd_one (one k m) (by omega)).2]
        exact nk_looks r
end
end DL

namespace DL
open PySem PySem.Spec L2
variable [Tbs]
theorem nks_map : ∀ xs : List D, nks xs = xs.map nk
  | [] => rfl
  | x :: xs => by rw [nks, nks_map xs]; rfl
theorem nkOks_all : ∀ xs : List D, nkOks xs = xs.all nkOk
  | [] => rfl
  | x :: xs => by rw [nkOks, nkOks_all xs]; rfl
mutual
theorem nk_inj : ∀ {x y : D}, nkOk x = true → nkOk y = true → nk x = nk y → x = y
  | .int _, .int _, _, _, e => by simp only [nk, NestedKey.num.injEq] at e; rw [e]
  | .str _, .str _, _, _, e => by simp only [nk, NestedKey.text.injEq] at e; rw [e]
  | .tup xs, .tup ys, hx, hy, e => by
    simp only [nk, NestedKey.tup.injEq] at e
    rw [nks_inj (by simpa [nkOk] using hx) (by simpa [nkOk] using hy) e]
  | .int _, .str _, _, _, e => by simp [nk] at e
  | .int _, .tup _, _, _, e => by simp [nk] at e
  | .str _, .int _, _, _, e => by simp [nk] at e
  | .str _, .tup _, _, _, e => by simp [nk] at e
  | .tup _, .int _, _, _, e => by simp [nk] at e
  | .tup _, .str _, _, _, e => by simp [nk] at e
  | .non, _, h, _, _ => by simp [nkOk] at h
  | .bl _, _, h, _, _ => by simp [nkOk] at h
  | .lst _, _, h, _, _ => by simp [nkOk] at h
  | .scr _, _, h, _, _ => by simp [nkOk] at h
  | .dct _, _, h, _, _ => by simp [nkOk] at h
  | .fn _ _, _, h, _, _ => by simp [nkOk] at h
  | _, .non, _, h, _ => by simp [nkOk] at h
  | _, .bl _, _, h, _ => by simp [nkOk] at h
  | _, .lst _, _, h, _ => by simp [nkOk] at h
  | _, .scr _, _, h, _ => by simp [nkOk] at h
  | _, .dct _, _, h, _ => by simp [nkOk] at h
  | _, .fn _ _, _, h, _ => by simp [nkOk] at h
theorem nks_inj : ∀ {xs ys : List D}, nkOks xs = true → nkOks ys = true → nks xs = nks ys → xs = ys
  | [], [], _, _, _ => rfl
  | [], _ :: _, _, _, e => by simp [nks] at e
  | _ :: _, [], _, _, e => by simp [nks] at e
  | x :: xs, y :: ys, hx, hy, e => by
    simp only [nkOks, Bool.and_eq_true] at hx hy
    simp only [nks, List.cons.injEq] at e
    rw [nk_inj hx.1 hy.1 e.1, nks_inj hx.2 hy.2 e.2]
end
mutual
theorem rp_nk {X : Cx} {pins : List (Addr × Obj)} {σ : L2.St} {H : Hp} {s : Shared} (I : Inv X pins σ H s) : ∀ {d : D} {v : V} {u : Value}, nkOk d = true → Rp X.K H v d → RelV v u → Nk s.heap (nk d) u
  | .int _, _, _, _, .int i, r => by
    obtain ⟨t, rfl⟩ := r
    exact .num i t
  | .str _, _, _, _, .str x, r => by
    obtain ⟨t, rfl⟩ := r
    exact .text x t
  | .tup ds, _, _, h, .tup (a := a) hq ha, r => by
    obtain rfl := show _ = Value.ref a from r
    obtain ⟨its, rv, ⟨o, ho, hc, n, hd⟩, _⟩ := I.tuple hq
    exact .tup ho hc hd (by simpa using rpAll_nk I (by simpa [nkOk] using h) ha rv)
  | .non, _, _, h, _, _ => by simp [nkOk] at h
  | .bl _, _, _, h, _, _ => by simp [nkOk] at h
  | .lst _, _, _, h, _, _ => by simp [nkOk] at h
  | .scr _, _, _, h, _, _ => by simp [nkOk] at h
  | .dct _, _, _, h, _, _ => by simp [nkOk] at h
  | .fn _ _, _, _, h, _, _ => by simp [nkOk] at h
theorem rpAll_nk {X : Cx} {pins : List (Addr × Obj)} {σ : L2.St} {H : Hp} {s : Shared} (I : Inv X pins σ H s) : ∀ {ds : List D} {vs : List V} {us : List Value}, nkOks ds = true → RpAll X.K H vs ds → Vals vs us → NkA s.heap (nks ds) us
  | [], _, _, _, .nil, .nil => .nil
  | d :: ds, _, _, h, .cons h1 h2, .cons r1 r2 => by
    simp only [nkOks, Bool.and_eq_true] at h
    exact .cons (rp_nk I h.1 h1 r1) (rpAll_nk I h.2 h2 r2)
end
/-- how sorted puts them -/
def leD (rev : Bool) : D → D → Bool := PySem.W.sortLe (PyProof.Rows.listOrd PyProof.Rows.itemOrd) rev fun d => ntk (nk d)
/-- the row can be sorted -/
def rowOk (ds : List D) : Bool := nkOks ds && ((nks ds).all fun a => (nks ds).all fun b => cmb a b) && ((nks ds).all fun a => kd a ≤ 4 && (nks ds).all fun b => kd a == kd b) && (nks ds).all (fun a => a.depth ≤ 60) && decide (ds.length ≤ 16777216)
theorem rowOk_row {ds : List D} (h : rowOk ds = true) : nkOks ds = true ∧ Row (nks ds) ∧ (∀ k ∈ nks ds, k.depth ≤ 60) ∧ ds.length ≤ sizeLine := by
  unfold rowOk at h
  simp only [Bool.and_eq_true, List.all_eq_true, decide_eq_true_eq, beq_iff_eq] at h
  obtain ⟨⟨⟨⟨h1, h2⟩, h3⟩, h4⟩, h5⟩ := h
  refine ⟨h1, ⟨h2, ?_⟩, h4, by rw [line_eq]; exact h5⟩
  cases e : nks ds with
  | nil => exact ⟨0, by omega, fun a m => by cases m⟩
  | cons k ks =>
    have m : k ∈ nks ds := by rw [e]; exact List.mem_cons_self
    refine ⟨kd k, (h3 k m).1, fun a ma => ?_⟩
    rw [← e] at ma
    exact ((h3 k m).2 a ma).symm
def dSort (rev : Bool) (ds : List D) : Option (List D) := if rowOk ds = true then some (ds.mergeSort (leD rev)) else none
/-- what the values out stand for -/
theorem each_split {K : PySem.W.Frag} {U : Hp} : ∀ {out : List Value} {ds : List D}, PySem.W.EachIs (fun u d => ∃ v, RelV v u ∧ Rp K U v d) out ds → ∃ vs, Vals vs out ∧ RpAll K U vs ds
  | _, _, .nil => ⟨[], .nil, .nil⟩
  | _, _, .cons ⟨v, r, p⟩ t => by
    obtain ⟨vs, h1, h2⟩ := each_split t
    exact ⟨v :: vs, .cons r h1, .cons p h2⟩
theorem each_join {K : PySem.W.Frag} {U : Hp} : ∀ {vs : List V} {us : List Value} {ds : List D}, Vals vs us → RpAll K U vs ds → PySem.W.EachIs (fun u d => ∃ v, RelV v u ∧ Rp K U v d) us ds
  | _, _, _, .nil, .nil => .nil
  | _, _, _, .cons r t, .cons p q => .cons ⟨_, r, p⟩ (each_join t q)
theorem each_key {h : Heap} {kz : List NestedKey} : ∀ {us : List Value} {ds : List D}, NkA h (nks ds) us → (∀ k ∈ nks ds, k ∈ kz) → PySem.W.EachIs (fun u d => (nkKind h kz).keyOf u = some (ntk (nk d))) us ds
  | _, [], .nil, _ => .nil
  | _, d :: ds, .cons r t, hm => .cons (nkKind_of (hm _ List.mem_cons_self) r) (each_key t fun k m => hm k (List.mem_cons_of_mem _ m))
/-- sorted(xs), sorted(xs, reverse=b) of data -/
def rSortD (K : PySem.W.Frag) (rev : Bool) : List V → Hp → VK → Prop := fun vs H Q => ∃ (a : Addr) (xs : List V) (U : Hp) (ds : List D), vs = [V.ref a] ∧ SqL K H a xs ∧ Same U H ∧ RpAll K U xs ds ∧ rowOk ds = true ∧
  ∀ ys p, RpAll K U ys (ds.mergeSort (leD rev)) → H p = none → Q (.ref p) (upd H p (.lst ys))
section
variable {X : Cx}
theorem sort_any {pins : List (Addr × Obj)} {s : Shared} {σ : L2.St} {H U : Hp} {a : Addr} {xs : List V} {ds : List D} {Q : VK} {rev : Bool} {G : Sem Value} (hu : X.A.units + 64 < cLine) (I : Inv X pins σ H s) (hl : SqL X.K H a xs) (sb : Same U H) (ra : RpAll X.K U xs ds) (ok : rowOk ds = true)
    (q : ∀ ys p, RpAll X.K U ys (ds.mergeSort (leD rev)) → H p = none → Q (.ref p) (upd H p (.lst ys)))
    (hG : ∀ {vs : List Value} {κ : PyProof.Rows.KeyKind} {P : Value → Shared → Prop}, s.heap.IsList a vs.toArray → PySem.W.SortsAt X.prog X.w X.A.in1.in1 { s with heap := PySem.W.sortingHeap (PySem.W.copyHeap s.heap vs) (s.heap.objs.size + 1) vs } κ vs → vs.length ≤ sizeLine →
      P (.ref (s.heap.objs.size + 1)) { s with heap := PyProof.Rows.sortedAll s.heap vs (PySem.W.sortVals κ rev vs vs).toArray } → wpAny (model X.prog X.w) X.A G P X.xe s) :
    wpAny (model X.prog X.w) X.A G (EP X pins σ Q) X.xe s := by
  obtain ⟨h1, h2, h3, h4⟩ := rowOk_row ok
  obtain ⟨its, rv, pl, hz⟩ := I.list hl
  have e0 : NkA s.heap (nks ds) its := rpAll_nk I h1 (rpAll_mono sb ra) rv
  have e1 : NkA (PySem.W.sortingHeap (PySem.W.copyHeap s.heap its) (s.heap.objs.size + 1) its) (nks ds) its := e0.keep fun b o z _ => PySem.W.sorting_copy_old z
  have hlen : its.length ≤ sizeLine := by rw [← rv.length]; exact hz
  refine hG pl.isList (sorts_nk (s := { s with heap := PySem.W.sortingHeap (PySem.W.copyHeap s.heap its) (s.heap.objs.size + 1) its }) e1 h2 fun k m => ?_) hlen ?_
  · have := h3 k m
    simp only [Around.in1_units]
    omega
  · have ev := PySem.W.sortVals_each (rev := rev) (κ := nkKind (PySem.W.sortingHeap (PySem.W.copyHeap s.heap its) (s.heap.objs.size + 1) its) (nks ds)) (fun d => ntk (nk d)) (each_join rv ra) (each_key e1 fun k m => m)
    obtain ⟨ys, r1, r2⟩ := each_split ev
    obtain ⟨ep, he⟩ := PyProof.Rows.sortedAll_at s.heap its (PySem.W.sortVals (nkKind (PySem.W.sortingHeap (PySem.W.copyHeap s.heap its) (s.heap.objs.size + 1) its) (nks ds)) rev its its).toArray
    have hy : ys.length ≤ sizeLine := by
      rw [r2.length, List.length_mergeSort]
      exact h4
    exact ⟨.ref _, upd H (s.heap.objs.size + 1) (.lst ys), I.laid (t' := s.toks) (fun _ _ => PyProof.Rows.sortedAll_old) (Nat.le_succ _) ⟨hy, _, ep, r1, he⟩, rfl, q ys _ r2 (I.hok.fresh (Nat.le_succ _))⟩
theorem cr_sortD (hu : X.A.units + 64 < cLine) : CallR X (.builtin "sorted") (rSortD X.K false) := by
  intro pins s σ H vs us Q I r h
  obtain ⟨a, xs, U, ds, rfl, hl, sb, ra, ok, q⟩ := h
  obtain ⟨u, rfl, ru⟩ := vals1 r
  obtain rfl : u = Value.ref a := ru
  exact sort_any hu I hl sb ra ok q fun g1 g2 g3 g4 => PySem.W.sorted_vals g1 g2 g3 g4
end
end DL

namespace DL
open PySem PySem.Spec L2
variable [Tbs]
mutual
theorem nkOk_noL : ∀ {d : D}, nkOk d = true → noL d = true
  | .int _, _ => rfl
  | .str _, _ => rfl
  | .tup xs, h => by simp only [noL]; exact nkOks_noL (by simpa [nkOk] using h)
  | .non, h => by simp [nkOk] at h
  | .bl _, h => by simp [nkOk] at h
  | .lst _, h => by simp [nkOk] at h
  | .scr _, h => by simp [nkOk] at h
  | .dct _, h => by simp [nkOk] at h
  | .fn _ _, h => by simp [nkOk] at h
theorem nkOks_noL : ∀ {ds : List D}, nkOks ds = true → noLs ds = true
  | [], _ => rfl
  | d :: ds, h => by
    simp only [nkOks, Bool.and_eq_true] at h
    simp only [noLs, nkOk_noL h.1, nkOks_noL h.2, Bool.and_self]
end
/-- sorted(..) -/
def dSorted (rev : Bool) : List D → Option (List D)
  | [.lst xs] => dSort rev xs
  | _ => none
theorem boot_sorted' : bootBuiltins "sorted" = some (.builtin "sorted") := by decide +kernel
section
variable {X : Cx} {a b c : Expr} {es : List Expr} {f g h : Ex} {fs : Exs} {al bl cl : List Nat} {p pos : Pos}
theorem sort_arg {K : PySem.W.Frag} {rev : Bool} {ρ : Rho} {σ : L2.St} {O : Addr → Bool} {W H : Hp} {vs : List V} {ds xs : List D} {Q : VK} (r : RZ K ρ σ O W H) (e : dSorted rev ds = some xs) (p : RpAll K (vw ρ σ al W (tb H)) vs ds)
    (q : ∀ us l, RpAll K (vw ρ σ [] W (tb H)) us xs → H l = none → Q (.ref l) (upd H l (.lst us))) : rSortD K rev vs H Q := by
  unfold dSorted at e
  split at e
  · unfold dSort at e
    split at e
    · rename_i ok
      cases e
      obtain ⟨v, rfl, p1⟩ := rpAll1 p
      obtain ⟨a', ws, rfl, k, ra⟩ := rp_lst p1
      refine ⟨a', ws, W, _, rfl, .inl (.inl (vw_subT r.sub _ _ k)), r.sub.trans tb_le, rpAll_down r (nkOks_noL (rowOk_row ok).1) ra, ok, fun ys l ry n => q ys l ?_ n⟩
      rw [vw_nil]
      exact ry
    · cases e
  · cases e
theorem dn_sortc (hu : X.A.units + 64 < cLine) (hg : Gl X "sorted") (hm : X.mg "sorted" = none) (ha : DA X (a :: es) fs al) (he : starEach (a :: es) X.env = (false, eval a X.env) :: starEach es X.env := by rfl) (hpl : (backTo pos (starEach es X.env)).any (·.1) = false := by rfl) :
    DN X (.Call (.Name "sorted" p) (a :: es) [] pos) (nL (dSorted false) fs) [] :=
  cbN (pe_callB (cr_sortD hu) hg hm boot_sorted' ha (he := he) (hpl := hpl)) fun ρ σ O W H vs ds xs Q r e p q => sort_arg r e p q
/-- with reverse=.. -/
theorem cr_sortR (hu : X.A.units + 64 < cLine) {rev : Bool} : CallRK X (.builtin "sorted") [Str.ofString "reverse"] (fun vs zs H Q => zs = [.bl rev] ∧ rSortD X.K rev vs H Q) := by
  intro pins s σ H vs zs us ws Q I r rz h
  obtain ⟨rfl, a, xs, U, ds, rfl, hl, sb, ra, ok, q⟩ := h
  obtain ⟨u, rfl, ru⟩ := vals1 r
  obtain rfl : u = Value.ref a := ru
  obtain ⟨w1, rfl, e1⟩ := vals1 rz
  obtain rfl : w1 = Value.bool rev := e1
  exact sort_any hu I hl sb ra ok q fun g1 g2 g3 g4 => PySem.W.sorted_rev_vals g1 g2 g3 g4
theorem cbNK {e : Expr} {v : V} {r : List V → List V → Hp → VK → Prop} {k : List D → Option (List D)} (he : PE X e (tCKw r (tPs X.K fs al) (tCons (tC v) tNil)))
    (hg : ∀ (ρ : Rho) (σ : L2.St) (O : Addr → Bool) (W H : Hp) (vs : List V) (ds xs : List D) (Q : VK), RZ X.K ρ σ O W H → k ds = some xs → RpAll X.K (vw ρ σ al W (tb H)) vs ds → (∀ us l, RpAll X.K (vw ρ σ cl W (tb H)) us xs → H l = none → Q (.ref l) (upd H l (.lst us))) → r vs [v] H Q) : DN X e (nL k fs) cl :=
  pe_imp he fun σ H Q ⟨ρ, O, W, d, rs, e, q⟩ => by
    obtain ⟨ds, h1, e⟩ := opt_bind e
    refine ⟨ρ, O, W, ds, rs, h1, fun vs W1 H1 s1 p1 => hg ρ σ O W1 H1 vs ds d Q (rs.pstep s1) e p1 fun us l ra n => ?_⟩
    have wn : W1 l = none := w_free s1.sub n
    have st : PZ W1 H1 W1 (upd H1 l (.lst us)) := hid_step s1.sub n
    exact q l us W1 _ (s1.trans st) (s1.free n) wn upd_same (rpAll_mono (vw_step st.toPStep) ra)
theorem dn_sortR {rev : Bool} {j : Nat} {kp kq : Pos} (hu : X.A.units + 64 < cLine) (hg : Gl X "sorted") (hm : X.mg "sorted" = none) (ha : DA X (a :: es) fs al)
    (he : backTo pos (starEach (a :: es) X.env) = (false, eval a X.env) :: backTo pos (starEach es X.env) := by rfl) (hpl : (backTo pos (starEach (a :: es) X.env)).any (·.1) = false := by rfl) :
    DN X (.Call (.Name "sorted" p) (a :: es) [⟨some "reverse", .Constant (.bool rev) j kp, kq⟩] pos) (nL (dSorted rev) fs) [] :=
  cbNK (pe_callBK (cr_sortR hu) hg hm boot_sorted' ha (pk_cons pe_bl pk_nil) (he := he) (hpl := hpl)) fun ρ σ O W H vs ds xs Q r e p q => ⟨rfl, sort_arg r e p q⟩
end
end DL

namespace DL
open PySem PySem.Spec L2
variable [Tbs]
def imax (n : Int) (ns : List Int) : Int := ns.foldl (fun a y => if a < y then y else a) n
theorem imax_cons (n m : Int) (ns : List Int) : imax n (m :: ns) = imax (if n < m then m else n) ns := rfl
theorem imax_ge : ∀ (ns : List Int) (n : Int), n ≤ imax n ns ∧ (∀ y ∈ ns, y ≤ imax n ns) ∧ imax n ns ∈ n :: ns
  | [], n => ⟨Int.le_refl n, fun y h => absurd h (by simp), List.mem_cons_self⟩
  | m :: ns, n => by
    have ih := imax_ge ns (if n < m then m else n)
    rw [← imax_cons] at ih
    obtain ⟨h1, h2, h3⟩ := ih
    refine ⟨?_, fun y hy => ?_, ?_⟩
    · split at h1 <;> omega
    · rcases List.mem_cons.mp hy with rfl | hy
      · split at h1 <;> omega
      · exact h2 y hy
    · rcases List.mem_cons.mp h3 with z | z
      · rw [z]
        split
        · exact List.mem_cons_of_mem _ List.mem_cons_self
        · exact List.mem_cons_self
      · exact List.mem_cons_of_mem _ (List.mem_cons_of_mem _ z)
theorem imax_one {n m : Int} {ns : List Int} (h1 : m ∈ n :: ns) (h2 : ∀ y ∈ n :: ns, y ≤ m) : m = imax n ns := by
  obtain ⟨a1, a2, a3⟩ := imax_ge ns n
  have b1 := h2 _ a3
  rcases List.mem_cons.mp h1 with rfl | z
  · omega
  · have := a2 m z
    omega
/-- max([..]) -/
def dMaxL : List D → Option D
  | [.lst xs] => match dInts xs with
    | some (n :: ns) => some (.int (imax n ns))
    | _ => none
  | _ => none
def dMaxD (z : Int) : List D → Option D
  | [.lst xs] => match dInts xs with
    | some (n :: ns) => some (.int (imax n ns))
    | some [] => some (.int z)
    | _ => none
  | _ => none
section
variable {X : Cx} {a b c : Expr} {es : List Expr} {f g h : Ex} {fs : Exs} {al bl cl : List Nat} {p pos : Pos}
theorem dp_maxL (hc : X.calm = true) (hg : Gl X "max") (hm : X.mg "max" = none) (ha : DA X (a :: es) fs al) (he : starEach (a :: es) X.env = (false, eval a X.env) :: starEach es X.env := by rfl) (hpl : (backTo pos (starEach es X.env)).any (·.1) = false := by rfl) :
    DP X (.Call (.Name "max" p) (a :: es) [] pos) (eA dMaxL fs) [] := by
  refine cb (pe_callB (cr_max hc) hg hm boot_max' ha (he := he) (hpl := hpl)) fun ρ σ O W H vs ds d Q r e p q => ?_
  unfold dMaxL at e
  split at e
  · split at e
    · rename_i n ns hn
      cases e
      obtain ⟨v, rfl, p1⟩ := rpAll1 p
      obtain ⟨a', ws, rfl, k, ra⟩ := rp_lst p1
      rw [dInts_map hn] at ra
      have := ra.toInts
      subst this
      refine ⟨a', n :: ns, rfl, .inl (.inl (vw_subT r.sub _ _ k)), by simp, fun m h1 h2 => ?_⟩
      rw [imax_one h1 h2]
      exact q.here r.sub (.int _)
    · cases e
  · cases e
theorem maxOf_int : ∀ (ns : List Int) (n : Int), PySem.W.maxOf n ns = imax n ns := fun ns n => by
  unfold PySem.W.maxOf imax
  congr 1
  funext a y
  show (if decide (a < y) = true then y else a) = _
  simp
theorem hold_ints {h : Heap} : ∀ {us : List Value} {ns : List Int}, Vals (ns.map V.int) us → ∃ as, ReadsAll h us (ns.map PyData.int) as
  | _, [], .nil => ⟨_, .nil⟩
  | _, n :: ns, .cons r t => by
    obtain ⟨tk, rfl⟩ := r
    obtain ⟨as, z⟩ := hold_ints (h := h) t
    exact ⟨_, .cons (.int n tk) z⟩
theorem cr_maxD (hc : X.calm = true) (hu : X.A.units + 64 < cLine) {z : Int} : CallRK X (.builtin "max") [Str.ofString "default"] (fun vs zs H Q => zs = [.int z] ∧ ∃ (a : Addr) (ns : List Int), vs = [V.ref a] ∧ SqL X.K H a (ns.map V.int) ∧ (ns = [] → Q (.int z) H) ∧ (∀ n ms, ns = n :: ms → Q (.int (imax n ms)) H)) := by
  intro pins s σ H vs zs us ws Q I r rz h
  obtain ⟨rfl, a, ns, rfl, hl, q0, q1⟩ := h
  obtain ⟨u, rfl, ru⟩ := vals1 r
  obtain rfl : u = Value.ref a := ru
  obtain ⟨w1, rfl, tk, rfl⟩ := vals1 rz
  obtain ⟨its, rv, pl, hz⟩ := I.list hl
  obtain ⟨as, hh⟩ := hold_ints (h := s.heap) rv
  refine PySem.W.max_list_datum_default (α := Int) (xs := ns) (I.ok.hd hc) pl.isList ⟨as, hh⟩ (by show X.A.units + 1 + 0 < cLine; omega) (fun e h' tk' kp => ?_) fun n ms i v h' tk' e hi ho kp => ?_
  · exact ⟨.int z, H, I.kept kp, ⟨_, rfl⟩, q0 e⟩
  · obtain ⟨bs, rr⟩ := ho
    rw [maxOf_int] at rr
    cases rr with
    | int _ t => exact ⟨.int _, H, I.kept kp, ⟨_, rfl⟩, q1 n ms e⟩
theorem cbK {e : Expr} {v : V} {r : List V → List V → Hp → VK → Prop} {k : List D → Option D} (he : PE X e (tCKw r (tPs X.K fs al) (tCons (tC v) tNil)))
    (hg : ∀ (ρ : Rho) (σ : L2.St) (O : Addr → Bool) (W H : Hp) (vs : List V) (ds : List D) (d : D) (Q : VK), RZ X.K ρ σ O W H → k ds = some d → RpAll X.K (vw ρ σ al W (tb H)) vs ds → Post X.K ρ σ cl W H d Q → r vs [v] H Q) : DP X e (eA k fs) cl :=
  pe_imp he fun σ H Q ⟨ρ, O, W, d, rs, e, q⟩ => by
    obtain ⟨ds, h1, e⟩ := opt_bind e
    exact ⟨ρ, O, W, ds, rs, h1, fun vs W1 H1 s1 p1 => hg ρ σ O W1 H1 vs ds d Q (rs.pstep s1) e p1 (q.step s1)⟩
theorem dp_maxD {z : Int} {j : Nat} {kp kq : Pos} (hc : X.calm = true) (hu : X.A.units + 64 < cLine) (hg : Gl X "max") (hm : X.mg "max" = none) (ha : DA X (a :: es) fs al)
    (he : backTo pos (starEach (a :: es) X.env) = (false, eval a X.env) :: backTo pos (starEach es X.env) := by rfl) (hpl : (backTo pos (starEach (a :: es) X.env)).any (·.1) = false := by rfl) :
    DP X (.Call (.Name "max" p) (a :: es) [⟨some "default", .Constant (.int z) j kp, kq⟩] pos) (eA (dMaxD z) fs) [] := by
  refine cbK (pe_callBK (cr_maxD (z := z) hc hu) hg hm boot_max' ha (pk_cons pe_int pk_nil) (he := he) (hpl := hpl)) fun ρ σ O W H vs ds d Q r e p q => ?_
  unfold dMaxD at e
  split at e
  · obtain ⟨v, rfl, p1⟩ := rpAll1 p
    obtain ⟨a', ws, rfl, k, ra⟩ := rp_lst p1
    split at e
    · rename_i n ns hn
      cases e
      rw [dInts_map hn] at ra
      have := ra.toInts
      subst this
      exact ⟨rfl, a', n :: ns, rfl, .inl (.inl (vw_subT r.sub _ _ k)), fun z => (by cases z), fun m ms z => by cases z; exact q.here r.sub (.int _)⟩
    · rename_i hn
      cases e
      rw [dInts_map hn] at ra
      have := ra.toInts
      subst this
      exact ⟨rfl, a', [], rfl, .inl (.inl (vw_subT r.sub _ _ k)), fun _ => q.here r.sub (.int _), fun m ms z => by cases z⟩
    · cases e
  · cases e
/-- xs.count(y) -/
def dCount : D → D → Option D
  | .lst xs, y => if (pls xs && pl y && decide (min (dpts xs) (dpt y) ≤ 60)) = true then some (.int (xs.countP fun x => deq x y)) else none
  | _, _ => none
theorem countP_py {y : D} (hy : pl y = true) : ∀ {xs : List D}, pls xs = true → ((pys xs).countP fun z => PyData.eqv z (py y)) = xs.countP fun x => deq x y
  | [], _ => rfl
  | x :: xs, h => by
    simp only [pls, Bool.and_eq_true] at h
    simp only [pys, List.countP_cons, py_eqv h.1 hy, countP_py hy h.2]
def rCnt (K : PySem.W.Frag) : V → List V → Hp → VK → Prop := fun x xs H Q => ∃ (y : V) (d : PyData) (ds : List PyData), xs = [y] ∧ Dp K H x (.list ds) ∧ Dp K H y d ∧ PyData.plainAll ds = true ∧ d.plain = true ∧ min (PyData.depthAll ds) d.depth ≤ 60 ∧ Q (.int (ds.countP fun z => PyData.eqv z d : Nat)) H
theorem mt_cnt (hu : X.A.units + 64 < cLine) : MtR X "list.count" (rCnt X.K) := by
  intro pins s σ H x xs v us Q I rx rxs h
  obtain ⟨y, d, ds, rfl, h1, h2, h3, h4, h5, q⟩ := h
  obtain ⟨u, rfl, ru⟩ := rxs.one
  obtain ⟨as, r1⟩ := Dp.reads I (.list ds) x v h1 rx
  obtain ⟨bs, r2⟩ := Dp.reads I d y u h2 ru
  cases r1 with
  | list g1 g2 g3 g4 => exact SeqAt.count_list_data ⟨_, g1, g2, _, g3⟩ g4 r2 h3 h4 (by omega) ⟨.int _, H, I.tok _, ⟨_, rfl⟩, q⟩
theorem dp_count {apos cpos : Pos} (hu : X.A.units + 64 < cLine) (ha : DP X a f al) (hb : DP X b g bl)
    (hbase : attributeBase a "count" X.env (eval a X.env) = eval a X.env := by rfl)
    (hfew : ((backTo cpos (starEach [b] X.env)).all (fun x => !x.1) && (backToKw cpos (keywordEach [] X.env)).all (fun x => x.1.isSome) && decide ([b].length + ([] : List Keyword).length + (if ([] : List Keyword).isEmpty then 0 else 1) < 30)) = true := by rfl)
    (hline : (apos.endLine == cpos.line) = true := by rfl) (hs : starEach [b] X.env = (false, eval b X.env) :: starEach [] X.env := by rfl) (hplain : (backTo cpos (starEach [] X.env)).any (·.1) = false := by rfl) :
    DP X (.Call (.Attribute a "count" apos) [b] [] cpos) (e2 dCount f g) [] := by
  refine pe_imp (pe_bm PySem.F.plainAttrs_list PySem.F.slot_list_count PySem.F.type_list_count (mt_cnt hu) ha (pa_cons hb pa_nil hs) hbase hfew hline hs hplain) fun σ H Q ⟨ρ, O, W, d, rs, e, q⟩ => ?_
  obtain ⟨x, h1, e1⟩ := opt_bind e
  obtain ⟨y, h2, e2⟩ := opt_bind e1
  clear e e1
  unfold dCount at e2
  split at e2
  · rename_i xs
    split at e2
    · rename_i hh
      cases e2
      simp only [Bool.and_eq_true, decide_eq_true_eq] at hh
      refine ⟨ρ, O, W, _, rs, h1, fun v1 W1 H1 s1 p1 => ⟨?_, ρ, O, W1, y, rs.pstep s1, h2, fun v2 W2 H2 s2 p2 => ?_⟩⟩
      · obtain ⟨a', ws, rfl, k, ra⟩ := rp_lst p1
        exact .inl ⟨rfl, ws, .inl (.inl (vw_subT s1.sub _ _ k))⟩
      · have s := s1.trans s2
        refine ⟨v2, py y, pys xs, rfl, dp_dp_mono (vw_subT s.sub) (rp_dp (d := .lst xs) (by simpa [pl] using hh.1.1) (rp_mono (vw_step s2.toPStep) p1)), dp_dp_mono (vw_subT s.sub) (rp_dp hh.1.2 p2), pys_plain xs, py_plain y, by rw [py_depth, pys_depth]; exact hh.2, ?_⟩
        rw [countP_py hh.1.2 hh.1.1]
        exact (q.step s).here s.sub (.int _)
    · cases e2
  · cases e2
/-- x < y: ints, texts, tuples -/
def dLt : D → D → Option D
  | .int i, .int j => some (.bl (decide (i < j)))
  | x, y => if (nkOk x && nkOk y && cmb (nk x) (nk y) && decide (min (nk x).depth (nk y).depth ≤ 60)) = true then some (.bl (ltN (nk x) (nk y))) else none
def rLt (K : PySem.W.Frag) : R2 := fun v1 v2 H Q => ∃ x y, Rp K H v1 x ∧ Rp K H v2 y ∧ nkOk x = true ∧ nkOk y = true ∧ cmb (nk x) (nk y) = true ∧ min (nk x).depth (nk y).depth ≤ 60 ∧ Q (.bl (ltN (nk x) (nk y))) H
theorem op_ltN (hu : X.A.units + 64 < cLine) : OpR X (compareOp .Lt) (rLt X.K) := by
  intro pins s σ H v1 v2 u1 u2 Q I r1 r2 h
  obtain ⟨x, y, p1, p2, n1, n2, hc, hd, q⟩ := h
  exact rcLt_nk (nk x) (nk y) X.A s u1 u2 (rp_nk I n1 p1 r1) (rp_nk I n2 p2 r2) hc (by omega) X.prog X.w X.xe _ ⟨.bl _, H, I, rfl, q⟩
theorem dc_ltG (hu : X.A.units + 64 < cLine) (ha : DP X a f al) (hb : DP X b g bl) : DC X .Lt a b (e2 dLt f g) := by
  refine dc_mk (op_lt.or (op_ltN hu)) (fun ρ σ O W H v1 v2 x y d Q r e p1 p2 q => ?_) ha hb
  unfold dLt at e
  split at e
  · cases e; cases p1; cases p2
    exact .inl ⟨_, _, rfl, rfl, q.here r.sub (.bl _)⟩
  · split at e
    · rename_i hh
      cases e
      simp only [Bool.and_eq_true, decide_eq_true_eq] at hh
      have sb := vw_subT (ρ := ρ) (σ := σ) (al := al ++ bl) r.sub
      exact .inr ⟨x, y, rp_mono sb p1, rp_mono sb p2, hh.1.1.1, hh.1.1.2, hh.1.2, hh.2, q.here r.sub (.bl _)⟩
    · cases e
end
end DL

namespace DL
open PySem PySem.Spec L2
variable [Tbs]
/-- a slice of a list, a new list -/
def dCut (i j : Option Int) : D → Option (List D)
  | .lst xs => some (cutG xs i j)
  | .scr ns => some (cutG (ns.map .int) i j)
  | _ => none
def nSl (f : Ex) (l u : Eo) : Exs := fun ρ => (f ρ).bind fun x => (l ρ).bind fun i => (u ρ).bind fun j => dCut i j x
section
variable {X : Cx} {a b c : Expr} {es : List Expr} {f g h : Ex} {fs : Exs} {al bl cl : List Nat} {p pos : Pos}
theorem new_step {W H : Hp} (sb : Same W (tb H)) {l : Addr} {us : List V} (n : H l = none) : W l = none ∧ PZ W H W (upd H l (.lst us)) := by
  exact ⟨w_free sb n, hid_step sb n⟩
theorem dn_slv (i : Nat) {e : Expr} {lo hi : Option Expr} {l u : Eo} {p2} (ha : PE X e (tVar i)) (hl : DO X lo l) (hh : DO X hi u) : DN X (.Subscript e (.Slice lo hi none p2) pos) (nSl (eV i) l u) [] := by
  refine pe_imp (pe_slice sl_list ha hl hh) fun σ H Q ⟨ρ, O, W, ds, rs, e, q⟩ => ?_
  obtain ⟨x, h1, e⟩ := opt_bind e
  obtain ⟨i', h2, e⟩ := opt_bind e
  obtain ⟨j, h3, e⟩ := opt_bind e
  have fin : ∀ (W3 H3 : Hp), PZ W H W3 H3 → ∀ (us : List V), RpAll X.K W3 us ds → ∀ p, H3 p = none → Q (.ref p) (upd H3 p (.lst us)) := fun W3 H3 s us ra p n => by
    obtain ⟨wn, st⟩ := new_step s.sub (us := us) n
    refine q p us W3 _ (s.trans st) (s.free n) wn upd_same ?_
    rw [vw_nil]
    exact ra
  unfold eV at h1
  split at h1
  · rename_i d' q'
    cases h1
    obtain ⟨v, k1, k2⟩ := rs.vals i _ q'
    refine ⟨v, k1, ρ, O, W, i', rs, h2, fun W2 H2 s2 => ⟨ρ, O, W2, j, rs.pstep s2, h3, fun W3 H3 s3 => ?_⟩⟩
    have s := s2.trans s3
    have p1 := rp_mono s.le k2
    unfold dCut at e
    split at e
    · cases e
      obtain ⟨a', vs, rfl, k, ra⟩ := rp_lst p1
      exact ⟨a', vs, rfl, .inl (.inl (tb_le _ _ (s.sub _ _ k))), fun p n => fin W3 H3 s _ (ra.cut i' j) p n⟩
    · cases e
      cases p1 with
      | scr k => exact ⟨_, _, rfl, sqL_mono (s.sub.trans tb_le) k.sq, fun p n => fin W3 H3 s _ ((map_ints _).cut i' j) p n⟩
    · cases e
  · rename_i xs q'
    cases h1
    obtain ⟨a', vs, k1, k2, k3, k4⟩ := rs.owns i _ q'
    cases e
    refine ⟨.ref a', k1, ρ, O, W, i', rs, h2, fun W2 H2 s2 => ⟨ρ, O, W2, j, rs.pstep s2, h3, fun W3 H3 s3 => ?_⟩⟩
    have s := s2.trans s3
    exact ⟨a', vs, rfl, .inl (.inl (s.at k3)), fun p n => fin W3 H3 s _ ((rpAll_mono s.le k4).cut i' j) p n⟩
  · cases h1
    cases e
  · cases h1
end
end DL

namespace DL
open PySem L2
section
variable {ρ ρ' : Rho} {f g : Ex} {fs : Exs} {t u : Te} {F G : Sx}
theorem w_ltI {i j : Int} {Q : D → Prop} (q : Q (.bl (decide (i < j)))) : Wp (dLt (.int i) (.int j)) Q := ⟨_, rfl, q⟩
theorem dLt_of {x y : D} (h : (nkOk x && nkOk y && cmb (nk x) (nk y) && decide (min (nk x).depth (nk y).depth ≤ 60)) = true) : dLt x y = some (.bl (ltN (nk x) (nk y))) := by
  unfold dLt
  split
  · rw [nk, nk, ltN_num]
  · exact if_pos h
theorem w_lt {x y : D} {Q : D → Prop} (h : (nkOk x && nkOk y && cmb (nk x) (nk y) && decide (min (nk x).depth (nk y).depth ≤ 60)) = true) (q : Q (.bl (ltN (nk x) (nk y)))) : Wp (dLt x y) Q := ⟨_, dLt_of h, q⟩
theorem w_maxL {n : Int} {xs : List D} {ns : List Int} {Q : D → Prop} (h : xs = (n :: ns).map .int) (q : Q (.int (imax n ns))) : Wp (dMaxL [.lst xs]) Q := ⟨_, by subst h; show (match dInts _ with | some (n :: ns) => _ | _ => none) = _; rw [dInts_of], q⟩
theorem w_maxD0 {z : Int} {Q : D → Prop} (q : Q (.int z)) : Wp (dMaxD z [.lst []]) Q := ⟨_, rfl, q⟩
theorem w_maxD {z n : Int} {xs : List D} {ns : List Int} {Q : D → Prop} (h : xs = (n :: ns).map .int) (q : Q (.int (imax n ns))) : Wp (dMaxD z [.lst xs]) Q := ⟨_, by subst h; show (match dInts _ with | some (n :: ns) => _ | some [] => _ | _ => none) = _; rw [dInts_of], q⟩
theorem w_count {xs : List D} {y : D} {Q : D → Prop} (h : (pls xs && pl y && decide (min (dpts xs) (dpt y) ≤ 60)) = true) (q : Q (.int (xs.countP fun x => deq x y))) : Wp (dCount (.lst xs) y) Q := ⟨_, if_pos h, q⟩
theorem w_sorted {rev : Bool} {xs : List D} {Q : List D → Prop} (h : rowOk xs = true) (q : Q (xs.mergeSort (leD rev))) : Wp (dSorted rev [.lst xs]) Q := ⟨_, if_pos h, q⟩
theorem w_nSl {l u : Eo} {Q : List D → Prop} (q : Wp (f ρ) fun x => Wp (l ρ) fun i => Wp (u ρ) fun j => Wp (dCut i j x) Q) : Wp (nSl f l u ρ) Q := w_bind (q.mono fun _ z => w_bind (z.mono fun _ y => w_bind y))
theorem w_cutL {i j : Option Int} {xs : List D} {Q : List D → Prop} (q : Q (cutG xs i j)) : Wp (dCut i j (.lst xs)) Q := ⟨_, rfl, q⟩
theorem w_slL {i j : Option Int} {xs : List D} {Q : D → Prop} (q : Q (.lst (cutG xs i j))) : Wp (dSl i j (.lst xs)) Q := ⟨_, rfl, q⟩
theorem w_slR {i j : Option Int} {xs : List Int} {Q : D → Prop} (q : Q (.lst (cutG (xs.map .int) i j))) : Wp (dSl i j (.scr xs)) Q := ⟨_, rfl, q⟩
theorem w_gL2 {gs : List D → Rho → Option Rho} {a b : D} {Q : Rho → Prop} (q : Wp (gs [a, b] ρ) Q) : Wp (gT 2 gs (.lst [a, b]) ρ) Q := w_gL rfl q
theorem w_gL3 {gs : List D → Rho → Option Rho} {a b c : D} {Q : Rho → Prop} (q : Wp (gs [a, b, c] ρ) Q) : Wp (gT 3 gs (.lst [a, b, c]) ρ) Q := w_gL rfl q
theorem w_gL5 {gs : List D → Rho → Option Rho} {a b c d e : D} {Q : Rho → Prop} (q : Wp (gs [a, b, c, d, e] ρ) Q) : Wp (gT 5 gs (.lst [a, b, c, d, e]) ρ) Q := w_gL rfl q
theorem w_ixLl {xs : List D} {i : Int} {d : D} {Q : D → Prop} (e : atI xs i = some d) (q : Q d) : Wp (dIx (.lst xs) (.int i)) Q := ⟨d, e, q⟩
/-- a comprehension over a row of things that are told as data -/
theorem w_compM {α : Type} {g : D → Rho → Option Rho} (e k : α → D) : ∀ {xs : List α} {Q : List D → Prop}, (∀ x ∈ xs, Wp (g (e x) ρ) fun ρ1 => Wp (f ρ1) fun y => y = k x) → Q (xs.map k) → Wp (compS g tY f ρ (xs.map e)) Q
  | [], Q, _, q => ⟨[], rfl, q⟩
  | x :: xs, Q, h, q => by
    refine w_compC ((h x List.mem_cons_self).mono fun ρ1 z => z.mono fun y hy => ?_)
    subst hy
    exact (w_compM e k (Q := fun ys => ys = xs.map k) (fun x' m => h x' (List.mem_cons_of_mem _ m)) rfl).mono fun ys hy => by
      subst hy
      exact q
theorem noO_nil : noO [] ρ = true := rfl
theorem noO_cons {i : Nat} {al : List Nat} : noO (i :: al) ρ = (!isOwn ρ i && noO al ρ) := rfl
theorem isOwn_val {d : D} : isOwn (.val d :: ρ) 0 = false := rfl
theorem isOwn_no : isOwn (.no :: ρ) 0 = false := rfl
theorem isOwn_own {xs : List D} : isOwn (.own xs :: ρ) 0 = true := rfl
theorem isOwn_succ {s : Sl} {i : Nat} : isOwn (s :: ρ) (i + 1) = isOwn ρ i := by unfold isOwn; rw [List.getElem?_cons_succ]
theorem unown_noO {al : List Nat} (h : noO al ρ = true) : unown al ρ = ρ := by
  refine List.ext_getElem? fun i => ?_
  rw [unown_get]
  cases e : ρ[i]? with
  | none => rfl
  | some s =>
    cases s with
    | ns xss => rfl
    | kd kvs => rfl
    | no => rfl
    | val d => rfl
    | ow xs =>
      show some (if al.contains i = true then Sl.val xs else Sl.ow xs) = _
      rw [if_neg fun z => ?_]
      have q := List.all_eq_true.mp h i (by simpa using z)
      unfold isOwn at q
      rw [e] at q
      cases q
theorem esc_noO {al : List Nat} {d : D} (h : noO al ρ = true) : esc al d ρ = ρ := by
  unfold esc
  rw [h, Bool.true_or]
  exact if_pos rfl
end
/-! ### what is sorted -/
theorem sort_perm {rev : Bool} {xs : List D} : (xs.mergeSort (leD rev)).Perm xs := List.mergeSort_perm xs _
theorem leD_total (rev : Bool) : PySem.W.TotalLe (leD rev) := PySem.W.sortLe_total _ _ _
theorem sort_pair {rev : Bool} {xs : List D} : (xs.mergeSort (leD rev)).Pairwise (fun a b => leD rev a b = true) := PySem.W.sort_pairwise (leD_total rev) xs
theorem leD_true {x y : D} : leD true x y = true ↔ ltN (nk x) (nk y) = false := by
  show (!lxT _ _) = true ↔ _
  rw [Bool.not_eq_true']
  rfl
theorem leD_false {x y : D} : leD false x y = true ↔ ltN (nk y) (nk x) = false := by
  show (!lxT _ _) = true ↔ _
  rw [Bool.not_eq_true']
  rfl
end DL

/-! The data layer: functions that return a list of their own. -/
namespace DL
open PySem PySem.Spec L2
variable [Tbs]
def spN (K : PySem.W.Frag) (φ : List D → Option D) (n : Nat) : Sp := fun vs H Q _ => ∃ W ds xs, ds.length = n ∧ Same W (tb H) ∧ TZ H ∧ RpAll K W vs ds ∧ φ ds = some (.lst xs) ∧
  ∀ a us W' H', PZ W H W' H' → tb H a = none → W' a = none → H' a = some (.lst us) → RpAll K W' us xs → Q (.ref a) H'
structure FOkN (P : Program) (w : World) (K : PySem.W.Frag) (mg : Str → Option Value) (base : Heap) (n : Nat) (x : Str) (ps : List Str) (φ : List D → Option D) : Prop where
  ex : ∃ f fd, mg x = some (.ref f) ∧ PySem.W.keepIn K (.ref f) = true ∧ Binds K fd ps [] ∧ FnOk P w K mg base CX0 n f fd ps (spN K φ ps.length)
def nC (n : Nat) (φ : List D → Option D) (fs : Exs) : Exs := fun ρ => (fs ρ).bind fun ds => (fnL n φ ds).bind fun d => match d with
  | .lst xs => some xs
  | _ => none
section
variable {X : Cx} {a b c : Expr} {es : List Expr} {f g h : Ex} {fs : Exs} {al bl cl : List Nat} {pos p : Pos}
theorem dn_call {n k : Nat} {x : Str} {ps : List Str} {φ : List D → Option D} (F : FOkN X.prog X.w X.K X.mg X.base n x ps φ) (hr : Room n X.A) (hg : Gl X x) (ha : DA X (a :: es) fs al) (hdb : (x == ("__debug__" : Str)) = false := by decide)
    (he : starEach (a :: es) X.env = (false, eval a X.env) :: starEach es X.env := by rfl) (hpl : (backTo pos (starEach es X.env)).any (·.1) = false := by rfl) (hkk : ps.length = k := by rfl) : DN X (.Call (.Name x p) (a :: es) [] pos) (nC k φ fs) al := by
  subst hkk
  obtain ⟨fa, fd, hm, hk, hb, F⟩ := F.ex
  refine pe_imp (pe_call F hr hg hm hk hb .nil pass0 ha hdb he hpl) fun σ H Q ⟨ρ, O, W, xs, rs, e, q⟩ => ?_
  obtain ⟨ds, h1, e⟩ := opt_bind e
  obtain ⟨d, h2, e⟩ := opt_bind e
  unfold fnL at h2
  split at h2
  · rename_i hl
    split at e
    · cases e
      refine ⟨ρ, O, W, ds, rs, h1, fun vs W1 H1 s1 p1 => ?_⟩
      show spN _ _ _ (vs ++ []) H1 Q _
      rw [List.append_nil]
      refine ⟨vw ρ σ al W1 (tb H1), ds, xs, hl, vw_sub s1.sub, (rs.pstep s1).tz, p1, h2, fun a us U' H' st hn w hh ra => ?_⟩
      obtain ⟨k1, k2⟩ := seen_ok s1.sub st
      refine q a us (seen W1 (tb H1) U') H' (s1.trans k1) (s1.keep.free hn) ?_ hh (rpAll_mono k2 ra)
      have w1 : W1 a = none := by
        cases z : W1 a with
        | none => rfl
        | some o => rw [s1.sub a o z] at hn; cases hn
      unfold seen
      rw [w1, hn]
      exact w
    · cases e
  · cases h2
def tSN (K : PySem.W.Frag) (F : Sx) (i : Nat) : TS := fun E σ H => ∃ ρ O W ρ' xs, RZ K ρ σ O W H ∧ F ρ = some (.nx ρ') ∧ ρ'[i]? = some (.own xs) ∧
  ∀ a us O' W' H', SZ O W H O' W' H' → Same W' (tb H') → O' a = true → W' a = none → H' a = some (.lst us) → RpAll K W' us xs → E.rt (.ref a) H'
theorem dsn_cons {st : Stmt} {rest : List Stmt} {F G : Sx} {i : Nat} (h1 : DS X st F) (h2 : PSs X rest (tSN X.K G i)) : PSs X (st :: rest) (tSN X.K (sSeq F G) i) := pss_imp (pss_cons h1 h2) fun E σ H ⟨ρ, O, W, ρ', xs, rs, e, hx, q⟩ => by
  obtain ⟨o, e1, e2⟩ := opt_bind e
  refine ⟨ρ, O, W, o, rs, e1, ?_⟩
  cases o with
  | nx ρ1 => exact fun σ' O' W' H' s' r' => ⟨ρ1, O', W', ρ', xs, r', e2, hx, fun a us O2 W2 H2 s2 => q a us O2 W2 H2 (s'.trans s2)⟩
  | ret d => cases e2
  | brk ρ' => cases e2
  | ct ρ' => cases e2
theorem dsn_ret {i : Nat} {e : Expr} (h : PE X e (tVar i)) : PSs X [.Return (some e) pos] (tSN X.K sNil i) := pss_imp (pss_one (ps_ret h)) fun E σ H ⟨ρ, O, W, ρ', xs, rs, e, hx, q⟩ => by
  cases e
  obtain ⟨a, vs, h1, h2, h3, h4⟩ := rs.owns i xs hx
  exact ⟨.ref a, h1, q a vs O W H .refl rs.sub h2 (rs.hid a h2).1 (tb_le _ _ h3) h4⟩
end
def runN (n i : Nat) (B : Sx) (ds : List D) : Option D := (B (start' n ds)).bind fun o => match o with
  | .nx ρ => match ρ[i]? with
    | some (.ow (.lst xs)) => some (.lst xs)
    | _ => none
  | _ => none
theorem runN_some {n i : Nat} {B : Sx} {ds : List D} {d : D} (h : runN n i B ds = some d) : ∃ ρ xs, B (start' n ds) = some (.nx ρ) ∧ ρ[i]? = some (.own xs) ∧ d = .lst xs := by
  obtain ⟨o, e1, e2⟩ := opt_bind h
  cases o with
  | nx ρ =>
    refine ⟨ρ, ?_⟩
    have e2 : (match ρ[i]? with
      | some (.ow (.lst xs)) => some (.lst xs)
      | _ => none) = some d := e2
    split at e2
    · rename_i xs z
      cases e2
      exact ⟨xs, e1, z, rfl⟩
    · cases e2
  | ret d => cases e2
  | brk ρ' => cases e2
  | ct ρ' => cases e2
theorem fn_mkN {P : Program} {w : World} {K : PySem.W.Frag} {mg : Str → Option Value} {base : Heap} {k i : Nat} {x qual : Str} {st : Stmt} {fa : Addr} {fd : FuncData} {N ps : List Str} {B : Sx} (F : Fun K x qual st fa fd) (S : FnScope N ps (defScope st))
    (body : ∀ (cdv : Value) (A : Around) (outer : List PySem.Env) (s : Shared) (H : Hp) (E : XK), Room k (A.deeper (PyProof.Rows.envOfC qual (defScope st) s.heap.objs.size fa cdv)) → PSs (cxOf CX0 P w K mg base N qual (defScope st) fa cdv A outer s H E).nox (defBody st) (tSN K B i)) : FnOk P w K mg base CX0 (k + 1) fa fd ps (spN K (runN N.length i B) ps.length) := by
  refine F.ok S (fun vs H Q E h => ?_) (fun cdv A outer s H vs Q E hr h => ?_)
  · obtain ⟨W, ds, d, h1, _, _, h2, _⟩ := h
    rw [h2.length, h1]
  · obtain ⟨W, ds, xs, h1, h2, hz, h3, h4, h5⟩ := h
    refine ⟨_, body cdv A outer s H E hr, ?_⟩
    obtain ⟨ρ, ys, e1, e2, e3⟩ := runN_some h4
    cases e3
    have fin : ∀ {O' : Addr → Bool} {W' H' : Hp}, SZ (fun _ => false) W H O' W' H' → Same W' (tb H') → PZ W H W' H' := fun s sb => ⟨⟨s.le, fun b o e => s.keep b o e rfl, sb, fun b o e => (s.new b o e).elim .inl fun z => z.elim .inr fun y => nomatch y⟩, s.tabs⟩
    exact ⟨start' N.length ds, fun _ => false, W, ρ, xs, ⟨rs_start h2 h3, hz, ns_start⟩, e1, e2, fun a us O' W' H' s sb ho hw hh ra => h5 a us W' H' (fin s sb) ((s.own a ho).elim (fun z => nomatch z) id) hw hh ra⟩
theorem fokN_mk {P : Program} {w : World} {K : PySem.W.Frag} {mg : Str → Option Value} {base : Heap} {k i : Nat} {x qual : Str} {st : Stmt} {fa : Addr} {fd : FuncData} {N ps : List Str} {B : Sx} (F : Fun K x qual st fa fd) (hm : mg x = some (.ref fa)) (S : FnScope N ps (defScope st)) (hb : Binds K fd ps [])
    (body : ∀ (cdv : Value) (A : Around) (outer : List PySem.Env) (s : Shared) (H : Hp) (E : XK), Room k (A.deeper (PyProof.Rows.envOfC qual (defScope st) s.heap.objs.size fa cdv)) → PSs (cxOf CX0 P w K mg base N qual (defScope st) fa cdv A outer s H E).nox (defBody st) (tSN K B i)) : FOkN P w K mg base (k + 1) x ps (runN N.length i B) :=
  ⟨fa, fd, hm, F.kp, hb, fn_mkN F S body⟩
theorem fokN_zero {P : Program} {w : World} {K : PySem.W.Frag} {mg : Str → Option Value} {base : Heap} {x qual : Str} {st : Stmt} {fa : Addr} {fd : FuncData} {ps : List Str} {φ : List D → Option D} (F : Fun K x qual st fa fd) (hm : mg x = some (.ref fa)) (hb : Binds K fd ps []) (h0 : ∀ ds, φ ds = none) : FOkN P w K mg base 0 x ps φ := by
  refine ⟨fa, fd, hm, F.kp, hb, ⟨fun vs H Q E h => ?_, fun A outer s H args us vs Q E hr e0 hbt rv h => ?_⟩⟩
  · obtain ⟨W, ds, d, h1, _, _, h2, h3, _⟩ := h
    rw [h0] at h3
    cases h3
  · obtain ⟨W, ds, d, h1, _, _, h2, h3, _⟩ := h
    rw [h0] at h3
    cases h3
/-! walks -/
def retN (i : Nat) (Q : D → Prop) : Out → Prop
  | .nx ρ => ∃ xs, ρ[i]? = some (.own xs) ∧ Q (.lst xs)
  | _ => False
theorem w_runN {n i : Nat} {B : Sx} {ds : List D} {Q : D → Prop} (q : Wp (B (start' n ds)) (retN i Q)) : Wp (runN n i B ds) Q := by
  obtain ⟨o, e, q⟩ := q
  unfold runN
  rw [e]
  cases o with
  | nx ρ =>
    obtain ⟨xs, z, q⟩ := q
    refine ⟨.lst xs, ?_, q⟩
    show (match ρ[i]? with
      | some (.ow (.lst xs)) => some (D.lst xs)
      | _ => none) = _
    rw [z]
  | ret d => exact q.elim
  | brk ρ => exact q.elim
  | ct ρ => exact q.elim
theorem w_nC {n : Nat} {φ : List D → Option D} {fs : Exs} {ρ : Rho} {Q : List D → Prop} (q : Wp (fs ρ) fun ds => Wp (fnL n φ ds) fun d => ∃ xs, d = .lst xs ∧ Q xs) : Wp (nC n φ fs ρ) Q := by
  obtain ⟨ds, e1, d, e2, xs, rfl, q⟩ := q
  refine ⟨xs, ?_, q⟩
  unfold nC
  rw [e1, Option.bind_some, e2]
  rfl
theorem rn_nx {i : Nat} {Q : D → Prop} {ρ : Rho} {xs : List D} (h : ρ[i]? = some (.own xs)) (q : Q (.lst xs)) : retN i Q (.nx ρ) := ⟨xs, h, q⟩
end DL

/-! The data layer: function values with captured texts. -/
namespace DL
open PySem PySem.Spec L2
variable [Tbs]
section
variable {P : Program} {w : World} {H H' : Hp} {h : Heap}
theorem objOk_mono (s : ∀ b u, H b = some u → (∀ φ, u ≠ .ext φ) → H' b = some u) : ∀ {o : HO} {a : Addr}, ObjOk P w H h a o → ObjOk P w H' h a o
  | .lst _, _, x => x
  | .tup _, _, x => x
  | .dK _, _, x => x
  | .dT _, _, ⟨h1, h2, xs, h3, h4⟩ => ⟨h1, h2, xs, L2.Paired.mapP h3 fun p q ⟨a1, a2, a3⟩ => ⟨a1, s _ _ a2 (fun _ z => nomatch z), a3⟩, h4⟩
  | .set _ _, _, x => x
  | .ins _ _ _, _, x => ⟨s _ _ x.1 (fun _ z => nomatch z), x.2⟩
  | .own _, _, x => x
  | .xd _, _, x => x
  | .met _ _, _, x => x
  | .rng _ _, _, x => x
  | .frz _ u, _, ⟨h1, h2⟩ => ⟨h1, objOk_mono s h2⟩
  | .tbl _, _, x => x
  | .ext _, _, x => x
open Classical in
/-- without what stands at C -/
noncomputable def dropH (C : Addr → Prop) (H : Hp) : Hp := fun b => if C b then none else H b
open Classical in
/-- at C as in G -/
noncomputable def addH (C : Addr → Prop) (G H : Hp) : Hp := fun b => if C b then G b else H b
variable {C : Addr → Prop} {G : Hp}
theorem drop_c {b : Addr} (c : C b) : dropH C H b = none := if_pos c
theorem drop_n {b : Addr} (c : ¬ C b) : dropH C H b = H b := if_neg c
theorem add_c {b : Addr} (c : C b) : addH C G H b = G b := if_pos c
theorem add_n {b : Addr} (c : ¬ C b) : addH C G H b = H b := if_neg c
theorem drop_some {b : Addr} {o : HO} (e : dropH C H b = some o) : H b = some o ∧ ¬ C b := by
  by_cases c : C b
  · rw [drop_c c] at e; cases e
  · rw [drop_n c] at e; exact ⟨e, c⟩
end
/-- plain: neither tuple nor list nor dict nor function -/
def isAt : D → Bool
  | .non => true
  | .bl _ => true
  | .int _ => true
  | .str _ => true
  | _ => false
theorem rp_at {K : PySem.W.Frag} {W W' : Hp} : ∀ {d : D} {v : V}, isAt d = true → Rp K W v d → Rp K W' v d
  | .non, _, _, .non => .non
  | .bl _, _, _, .bl b => .bl b
  | .int _, _, _, .int b => .int b
  | .str _, _, _, .str b => .str b
  | .tup _, _, h, _ => by cases h
  | .lst _, _, h, _ => by cases h
  | .scr _, _, h, _ => by cases h
  | .dct _, _, h, _ => by cases h
  | .fn _ _, _, h, _ => by cases h
theorem rpAll_at {K : PySem.W.Frag} {W W' : Hp} : ∀ {ds : List D} {vs : List V}, ds.all isAt = true → RpAll K W vs ds → RpAll K W' vs ds
  | [], _, _, .nil => .nil
  | d :: ds, _, h, .cons h1 h2 => by
    simp only [List.all_cons, Bool.and_eq_true] at h
    exact .cons (rp_at h.1 h1) (rpAll_at h.2 h2)
/-- the promise of a nested def: its captured texts behind its arguments -/
def spF (K : PySem.W.Frag) (φ : List D → Option D) (n : Nat) (ws : List (Option V)) : Sp := fun vs H Q _ => ∃ (ds : List D) (caps : List Str) (d : D), TZ H ∧ ds.length = n ∧ ws = caps.map (fun x : Str => some (V.str x)) ∧ ds.all isAt = true ∧ RpAll K (fun _ => none) vs ds ∧ φ (ds ++ caps.map .str) = some d ∧ isAt d = true ∧
  ∀ v W' H', PZ (fun _ => none) H W' H' → Rp K (fun _ => none) v d → Q v H'
/-- all nested defs of these shapes keep it -/
def FnsOk (P : Program) (w : World) (K : PySem.W.Frag) (mg : Str → Option Value) (base : Heap) (n : Nat) (L : List Fsh) (ps : List Str) (φ : Nat → List D → Option D) : Prop :=
  ∀ S ∈ L, ∀ (f : Addr) (cl : List (Str × Addr)) (c : Addr), NdefX.NOk P w K mg base CX0 n f (S.nf cl c) ps S.fr (spF K (φ S.k) ps.length)
open Classical in
noncomputable def dCF (L : List Fsh) (n : Nat) (φ : Nat → List D → Option D) : D → List D → Option D
  | .fn S caps, ds => if S ∈ L ∧ ds.length = n ∧ ds.all isAt = true then (φ S.k (ds ++ caps.map .str)).bind fun d => if isAt d = true then some d else none else none
  | _, _ => none
noncomputable def eCF (L : List Fsh) (n : Nat) (φ : Nat → List D → Option D) (i : Nat) (fs : Exs) : Ex := fun ρ => (eV i ρ).bind fun x => (fs ρ).bind fun ds => dCF L n φ x ds
section
variable {X : Cx} {a b c : Expr} {es : List Expr} {f g h : Ex} {fs : Exs} {al bl cl : List Nat} {pos p : Pos}
/-- what is known behind the arguments: a call of a function value -/
theorem run_F {pins : List (Addr × Obj)} {s : Shared} {σ : L2.St} {H W : Hp} {Q : VK} {n : Nat} {ps : List Str} {φ : List D → Option D} {S : Fsh} {fa ca : Addr} {cl : List (Str × Addr)} {caps : List Str} {ds : List D} {d : D} {us : List Value} {vs : List V}
    (F : NdefX.NOk X.prog X.w X.K X.mg X.base CX0 n fa (S.nf cl ca) ps S.fr (spF X.K φ ps.length)) (hr : Room n X.A) (I : Inv X pins σ H s)
    (hf : H fa = some (NdefX.FnO fa (S.nf cl ca))) (hc : H ca = some (LamX.CodeO ca S.qual)) (C : CapsAt H cl S.fr caps) (r : Vals vs us) (hl : ds.length = ps.length) (hat : ds.all isAt = true) (ra : RpAll X.K (fun _ => none) vs ds) (e : φ (ds ++ caps.map .str) = some d) (hd : isAt d = true)
    (sb : Same W (tb H)) (tz : TZ H) (q : ∀ v H', PZ W H W H' → Rp X.K (fun _ => none) v d → Q v H') : wpAny (model X.prog X.w) X.A (call (.ref fa) us) (EP X pins σ Q) X.xe s := by
  have isC : ∀ b, (∃ y, cl.lookup y = some b) → ∃ o v, H b = some (ExO b o) ∧ o.data = .cell v ∧ s.heap.get? b = some o := fun b ⟨y, hy⟩ => by
    obtain ⟨o, v, h1, h2⟩ := C.all y b hy
    exact ⟨o, v, h1, h2, (I.hok b _ h1).1⟩
  have ext_of : ∀ b u, (∃ y, cl.lookup y = some b) → H b = some u → ∃ φ, u = .ext φ := fun b u hb e => by
    obtain ⟨o, v, h1, _⟩ := isC b hb
    rw [h1] at e
    exact ⟨_, (Option.some.inj e).symm⟩
  have nfa : ¬ ∃ y, cl.lookup y = some fa := fun z => by
    obtain ⟨o, v, _, h2, h3⟩ := isC fa z
    obtain ⟨od, sl, doc, pm, ctv, ho⟩ := NdefX.fnO_at I.hok hf
    rw [h3] at ho
    rw [Option.some.inj ho] at h2
    cases h2
  have nca : ¬ ∃ y, cl.lookup y = some ca := fun z => by
    obtain ⟨o, v, _, h2, h3⟩ := isC ca z
    obtain ⟨⟨oc, us', t, g1, g2, _⟩, _, _⟩ := I.hok ca _ hc
    rw [h3] at g1
    rw [← Option.some.inj g1, h2] at g2
    cases g2
  have nfr : ∀ b, (∃ y, cl.lookup y = some b) → b ∉ frs X.stack := fun b hb hm => by
    obtain ⟨o, v, h1, h2, h3⟩ := isC b hb
    have := I.env0.frf b hm
    rw [h1] at this
    cases this
  have E := I.env0
  let Cc : Addr → Prop := fun b => ∃ y, cl.lookup y = some b
  have sub : ∀ b u, H b = some u → (∀ φ, u ≠ .ext φ) → dropH Cc H b = some u := fun b u e n => by
    rw [drop_n (fun z => by obtain ⟨φ, y⟩ := ext_of b u z e; exact n φ y)]
    exact e
  have tzd : TZ (dropH Cc H) := fun p hp => by
    obtain ⟨ps, h1, h2, h3⟩ := tz p hp
    refine ⟨ps, sub _ _ h1 (fun _ z => nomatch z), h2, fun pos cv hcv => ?_⟩
    obtain ⟨c, e1, e2⟩ := h3 pos cv hcv
    refine ⟨c, e1, ?_⟩
    have nc : ¬ Cc c := fun z => by
      obtain ⟨o, v, _, g2, g3⟩ := isC c z
      obtain ⟨⟨oc, us', t, k1, k2, _⟩, _, _⟩ := I.hok c _ e2
      rw [g3] at k1
      rw [← Option.some.inj k1, g2] at k2
      cases k2
    rw [drop_n nc]
    exact e2
  have E' : Env0 X.prog X.w X.K X.mg X.base X.A X.stack s (dropH Cc H) := by
    refine ⟨E.frames, E.mod, fun b o e => ⟨(E.bs b o e).1, ?_⟩, E.bsz, E.funs, fun b hb => ?_, fun b o e => ?_, E.bare⟩
    · by_cases z : Cc b
      · exact drop_c z
      · rw [drop_n z]; exact (E.bs b o e).2
    · by_cases z : Cc b
      · exact drop_c z
      · rw [drop_n z]; exact E.frf b hb
    · obtain ⟨e1, _⟩ := drop_some e
      exact objOk_mono sub (E.hok b o e1)
  have CA : NdefX.CellsAt (S.nf cl ca).cl S.fr (caps.map fun x : Str => some (V.str x)) s.heap (dropH Cc H) := by
    refine ⟨by rw [List.length_map]; exact C.len, fun y b hy => ?_, C.inj, fun i y hi => ?_⟩
    · obtain ⟨o, v, _, h2, h3⟩ := isC b ⟨y, hy⟩
      exact ⟨drop_c ⟨y, hy⟩, v, o, h3, h2⟩
    · have hlt : i < caps.length := by rw [C.len]; exact (List.getElem?_eq_some_iff.mp hi).1
      obtain ⟨b, o, u, h1, h2, h3, h4⟩ := C.has i y caps[i] hi (List.getElem?_eq_getElem hlt)
      refine ⟨b, h1, fun v ev => ?_⟩
      rw [List.getElem?_map, List.getElem?_eq_getElem hlt] at ev
      have ev : V.str caps[i] = v := Option.some.inj (Option.some.inj ev)
      subst ev
      exact ⟨u, h4, o, (I.hok b _ h2).1, h3⟩
  refine wpAny_call (codeAny_mono (F.run X.A X.stack s (dropH Cc H) us vs _ (fun v H' => Rp X.K (fun _ => none) v d ∧ ∃ W', PZ (fun _ => none) (dropH Cc H) W' H') (fun _ _ _ => False) hr E' (by rw [drop_n nfa]; exact hf) (by show dropH Cc H ca = _; rw [drop_n nca]; exact hc) CA r ⟨ds, caps, d, tzd, hl, rfl, hat, ra, e, hd, fun v W' H' st rp => ⟨rp, W', st⟩⟩) fun r s' hq => ?_)
  cases r with
  | error e => exact hq.elim
  | ok fl =>
    cases fl with
    | next => exact False.elim hq
    | brk => exact False.elim hq
    | cont => exact False.elim hq
    | ret u =>
      obtain ⟨v, H1, os, bare, un, hok, rv, rp, W', st⟩ := hq
      have none1 : ∀ b, Cc b → H1 b = none := fun b hb => by
        obtain ⟨o, v, _, _, h3⟩ := isC b hb
        exact un.free b o h3 (drop_c hb) (by simp)
      have sub1 : ∀ b u, H1 b = some u → addH Cc H H1 b = some u := fun b u e => by
        rw [add_n (fun z => by rw [none1 b z] at e; cases e)]
        exact e
      have un' : Un (frs X.stack) [] H (addH Cc H H1) s.heap s'.heap := by
        have nz : ∀ b, H b = none → dropH Cc H b = none := fun b e => by
          by_cases z : Cc b
          · exact drop_c z
          · rw [drop_n z]; exact e
        refine ⟨fun b o e1 e2 => un.keep b o e1 (nz b e2), fun b o e1 e2 => un.slot b o e1 (nz b e2), fun b o e1 e2 e3 => ?_, un.there, fun b xs e => ?_, fun b o u e => ?_, fun b ps e => ?_⟩
        · have nc : ¬ Cc b := fun z => by
            obtain ⟨o', v', h1, _⟩ := isC b z
            rw [h1] at e2
            cases e2
          rw [add_n nc]
          exact un.free b o e1 (nz b e2) e3
        · exact sub1 b _ (un.tups b xs (sub b _ e fun _ z => nomatch z))
        · exact sub1 b _ (un.frzs b o u (sub b _ e fun _ z => nomatch z))
        · obtain ⟨more, hm⟩ := un.tbls b ps (sub b _ e fun _ z => nomatch z)
          exact ⟨more, sub1 b _ hm⟩
      have hok' : HOk X.prog X.w (addH Cc H H1) s'.heap := fun b o e => by
        by_cases z : Cc b
        · rw [add_c z] at e
          obtain ⟨o', v', h1, h2, h3⟩ := isC b z
          rw [h1] at e
          cases e
          have k := un.keep b o' h3 (drop_c z) (nfr b z) (by simp)
          exact ⟨k, ⟨o', k⟩, fun h1 h2 g1 g2 => g2 _ g1⟩
        · rw [add_n z] at e
          exact objOk_mono (fun b u e _ => sub1 b u e) (hok b o e)
      have kp : ∀ b o, tb H b = some o → tb (addH Cc H H1) b = some o := fun b o e => by
        obtain ⟨e1, n⟩ := tb_some e
        by_cases z : Cc b
        · exact tb_of ((add_c z).trans e1) n
        · exact tb_of (sub1 b o (tb_some (st.keep b o (tb_of ((drop_n z).trans e1) n))).1) n
      refine I.after ⟨v, addH Cc H H1, os, bare, un', hok', rv, q v _ ⟨⟨fun _ _ e => e, kp, fun b o e => kp b o (sb b o e), fun _ _ e => .inl e⟩, fun t => ?_⟩ rp⟩
      exact tt_ext sub1 (st.tabs tzd)
/-- f(..), f a name that holds a function value -/
theorem dp_callF {n k i : Nat} {x : Str} {ps : List Str} {L : List Fsh} {φ : Nat → List D → Option D} (F : FnsOk X.prog X.w X.K X.mg X.base n L ps φ) (hr : Room n X.A) (hN : X.N[i]? = some x) (hv : Vis X.env.scope x) (ha : DA X (a :: es) fs al)
    (hd : (x == ("__debug__" : Str)) = false := by decide) (hcd : (x == ("__classdict__" : Str)) = false := by decide) (he : starEach (a :: es) X.env = (false, eval a X.env) :: starEach es X.env := by rfl) (hpl : (backTo pos (starEach es X.env)).any (·.1) = false := by rfl) (hkk : ps.length = k := by rfl) :
    DP X (.Call (.Name x p) (a :: es) [] pos) (eCF L k φ i fs) [] := by
  subst hkk
  refine ⟨fun pins s σ H Q I ⟨ρ, O, W, d, rs, e, q⟩ => ?_⟩
  obtain ⟨fv, h1, e⟩ := opt_bind e
  obtain ⟨ds, h2, e⟩ := opt_bind e
  unfold dCF at e
  split at e
  · rename_i S caps _
    split at e
    · rename_i ok
      obtain ⟨d', h3, e⟩ := opt_bind e
      split at e
      · rename_i hat
        cases e
        have hq : ρ[i]? = some (.val (.fn S caps)) := by
          unfold eV at h1
          split at h1
          · rename_i z; rw [z]; cases h1; rfl
          · cases h1
          · cases h1
          · cases h1
        obtain ⟨v, hs, rp⟩ := rs.vals i _ hq
        cases rp with
        | @fn f c _ cl _ g1 g2 g3 =>
        have inH : ∀ b u, W b = some u → H b = some u := fun b u e => tb_le _ _ (rs.sub b u e)
        refine wpAny_Call_Name_kw (thn ((pe_var (pos := p) hN hv hd hcd).run pins s σ H (fun v H1 => v = .ref f ∧ H1 = H) I ⟨.ref f, hs, rfl, rfl⟩) fun u s1 ⟨v, H1, I1, r1, q1⟩ => ?_)
        obtain ⟨ev, eH⟩ := q1
        subst ev
        rw [eH] at I1
        obtain rfl : u = Value.ref f := r1
        refine PySem.W.callWith_F (first := []) (NdefX.fnAt_of I1 (inH _ _ g1)) (thn (ha.run pos pins s1 σ H (fun vs H2 => ∃ W2, PZ W H W2 H2 ∧ RpAll X.K (vw ρ σ al W2 (tb H2)) vs ds) I1 ⟨ρ, O, W, ds, rs, h2, fun vs W2 H2 s2 p2 => ⟨W2, s2, p2⟩⟩) fun us s2 ⟨vs, H2, I2, r, W2, st, ra⟩ => ⟨NdefX.fnAt_of I2 (st.at (rs.sub _ _ g1)), ?_⟩) he hpl
        show wpAny _ _ (call (.ref f) us) _ _ _
        have in2 : ∀ b u, W b = some u → H2 b = some u := fun b u e => st.at (rs.sub b u e)
        exact run_F (F S ok.1 f cl c) hr I2 (in2 _ _ g1) (in2 _ _ g2) (g3.mono fun b φ e => in2 b _ e) r ok.2.1 ok.2.2 (rpAll_at ok.2.2 ra) h3 hat st.sub (rs.pstep st).tz fun v H' st' rp => q v W2 H' (st.trans st') (rp_at hat rp)
      · cases e
    · cases e
  · cases e
end
/-- a nested def by its body -/
theorem nok_mk {P : Program} {w : World} {K : PySem.W.Frag} {mg : Str → Option Value} {base : Heap} {k : Nat} {N ps : List Str} {S : Fsh} {B : Sx} {f : Addr} {cl : List (Str × Addr)} {c : Addr} (SC : NdefX.NScope N ps S.fr S.scope)
    (hb : ∀ (doc pm ctv : Value) (us : List Value), us.length = ps.length → bindArgs ((S.nf cl c).fd doc pm ctv) ⟨us, []⟩ = pure (ps.zip us))
    (body : ∀ (A : Around) (outer : List PySem.Env) (s : Shared) (H : Hp) (E : XK), Room k (A.deeper (NdefX.envF (S.nf cl c) f s.heap.objs.size)) → DSs (NdefX.ncx CX0 P w K mg base N (S.nf cl c) f A outer s H E) S.body B) :
    NdefX.NOk P w K mg base CX0 (k + 1) f (S.nf cl c) ps S.fr (spF K (runB N.length B) ps.length) := by
  refine NdefX.nok_of (N := N) SC hb (fun ws vs H Q E h => ?_) (fun A outer s H vs ws Q E hr hf hc hl h => ?_)
  · obtain ⟨ds, caps, d, _, h1, _, _, h2, _⟩ := h
    rw [h2.length, h1]
  · obtain ⟨ds, caps, d, hz, h1, rfl, h2, h3, h4, h5, h6⟩ := h
    refine ⟨_, body A outer s H E hr, ?_⟩
    obtain ⟨o, e1, e2⟩ := opt_bind h4
    have ra : RpAll K (fun _ => none) (vs ++ caps.map V.str) (ds ++ caps.map .str) := h3.append (by
      clear h4 e1 e2 hl
      induction caps with
      | nil => exact .nil
      | cons x xs ih => exact .cons (.str x) ih)
    have es : NdefX.startF N vs (caps.map fun x : Str => some (V.str x)) = L2.start N (vs ++ caps.map V.str) := by
      unfold NdefX.startF L2.start
      rw [List.map_append, List.append_assoc, List.map_map, List.length_append, List.length_map, List.length_map, Nat.sub_sub]
      rfl
    rw [es]
    have fin : ∀ {O' : Addr → Bool} {W' H' : Hp}, SZ (fun _ => false) (fun _ => none) H O' W' H' → Same W' (tb H') → PZ (fun _ => none) H W' H' := fun s sb => ⟨⟨s.le, fun b o e => s.keep b o e rfl, sb, fun b o e => (s.new b o e).elim .inl fun z => z.elim .inr fun y => nomatch y⟩, s.tabs⟩
    refine ⟨start' N.length (ds ++ caps.map .str), fun _ => false, fun _ => none, o, ⟨rs_start (fun _ _ e => nomatch e) ra, hz, ns_start⟩, e1, ?_⟩
    cases o with
    | ret d' => cases e2; exact fun v O' W' H' s sb r => h6 v W' H' (fin s sb) (rp_at h5 r)
    | nx ρ => cases e2; exact fun σ' O' W' H' s r => h6 .non W' H' (fin s r.sub) .non
    | brk ρ => cases e2
    | ct ρ => cases e2
end DL

/-! The data layer: a nested def handed to a def of the module. -/
namespace DL
open PySem PySem.Spec L2
variable [Tbs]
mutual
/-- no function within -/
def noF : D → Bool
  | .non => true
  | .bl _ => true
  | .int _ => true
  | .str _ => true
  | .tup xs => noFs xs
  | .lst xs => noFs xs
  | .scr _ => true
  | .dct _ => false
  | .fn _ _ => false
def noFs : List D → Bool
  | [] => true
  | x :: xs => noF x && noFs xs
end
section
variable {K : PySem.W.Frag} {W W' : Hp}
theorem sqT_x (s : ∀ b u, W b = some u → (∀ φ, u ≠ .ext φ) → W' b = some u) {a : Addr} {xs : List V} (h : SqT K W a xs) : SqT K W' a xs := by
  rcases h with (h | ⟨o, h⟩) | h
  · exact .inl (.inl (s _ _ h fun _ z => nomatch z))
  · exact .inl (.inr ⟨o, s _ _ h fun _ z => nomatch z⟩)
  · exact .inr h
mutual
theorem rp_x (s : ∀ b u, W b = some u → (∀ φ, u ≠ .ext φ) → W' b = some u) : ∀ {d : D} {v : V}, noF d = true → Rp K W v d → Rp K W' v d
  | .non, _, _, .non => .non
  | .bl _, _, _, .bl b => .bl b
  | .int _, _, _, .int b => .int b
  | .str _, _, _, .str b => .str b
  | .tup ds, _, h, .tup hq ha => .tup (sqT_x s hq) (rpAll_x s (by simpa [noF] using h) ha)
  | .lst ds, _, h, .lst hq ha => .lst (s _ _ hq fun _ z => nomatch z) (rpAll_x s (by simpa [noF] using h) ha)
  | .scr _, _, _, .scr h => by
    rcases h with ⟨o, h⟩ | h
    · exact .scr (.inl ⟨o, s _ _ h fun _ z => nomatch z⟩)
    · exact .scr (.inr h)
  | .dct _, _, h, _ => by simp [noF] at h
  | .fn _ _, _, h, _ => by simp [noF] at h
theorem rpAll_x (s : ∀ b u, W b = some u → (∀ φ, u ≠ .ext φ) → W' b = some u) : ∀ {ds : List D} {vs : List V}, noFs ds = true → RpAll K W vs ds → RpAll K W' vs ds
  | [], _, _, .nil => .nil
  | d :: ds, _, h, .cons h1 h2 => by
    simp only [noFs, Bool.and_eq_true] at h
    exact .cons (rp_x s h.1 h1) (rpAll_x s h.2 h2)
end
end
/-- frames stand in the heap -/
theorem frames_there {h base : Heap} : ∀ {l : List PySem.Env} {b : Addr}, h.FunFrames base l → b ∈ frs l → ∃ o, h.get? b = some o
  | [], _, _, hb => by simp [frs] at hb
  | e :: l, b, hf, hb => by
    obtain ⟨_, ⟨L, o, e1, _, e3, _⟩, hr⟩ := hf
    unfold frs at hb
    rw [List.filterMap_cons, e1] at hb
    rcases List.mem_cons.mp hb with z | z
    · subst z; exact ⟨o, e3⟩
    · exact frames_there hr z
section
variable {X : Cx}
/-- each cell of the frame that is captured, as it is -/
def cellsOf (h : Heap) : Hp := fun b => (h.get? b).map (ExO b)
/-- a call of a module's def, one of its arguments the function at f -/
theorem run_A {pins : List (Addr × Obj)} {s : Shared} {σ : L2.St} {H W : Hp} {Q : VK} {n : Nat} {ps : List Str} {φ : List D → Option D} {ga : Addr} {fd : FuncData} {S : Fsh} {fa ca : Addr} {cl : List (Str × Addr)} {js : List Nat} {caps : List Str} {us : List Value} {vs : List V} {ds : List D} {d : D}
    (F : FnOk X.prog X.w X.K X.mg X.base CX0 n ga fd ps (spD X.K φ ps.length)) (hr : Room n X.A) (hb : Binds X.K fd ps []) (I : Inv X pins σ H s) (cp : NdefX.Caps X cl S.fr js) (hfn : ∀ y c, cl.lookup y = some c → X.fn y = true)
    (hcap : js.map (NdefX.slotAt σ) = caps.map fun x : Str => some (V.str x)) (hf : H fa = some (NdefX.FnO fa (S.nf cl ca))) (hc : H ca = some (LamX.CodeO ca S.qual)) (r : Vals vs us) (sb : Same W (tb H)) (tz : TZ H)
    (hl : ds.length = ps.length) (ra : ∀ Wp : Hp, Same W Wp → Rp X.K Wp (.ref fa) (.fn S caps) → RpAll X.K Wp vs ds) (e : φ ds = some d) (hd : noF d = true) (q : ∀ v W' H', PZ W H W' H' → Rp X.K W' v d → Q v H') :
    wpAny (model X.prog X.w) X.A (call (.ref ga) us) (EP X pins σ Q) X.xe s := by
  let Cc : Addr → Prop := fun b => ∃ y, cl.lookup y = some b
  have isC : ∀ b, Cc b → ∃ o v, s.heap.get? b = some o ∧ o.data = .cell v ∧ H b = none ∧ X.s_0.heap.objs.size ≤ b := fun b ⟨y, hy⟩ => by
    obtain ⟨v, o, h1, h2⟩ := I.cell y b (cp.sub y b hy)
    exact ⟨o, v, h1, h2, I.freeC y b (cp.sub y b hy), I.ok.cab y b (hfn y b hy) (cp.sub y b hy)⟩
  have CA := NdefX.cells_of I cp
  rw [hcap] at CA
  have noH : ∀ b u, H b = some u → ¬ Cc b := fun b u e z => by
    obtain ⟨_, _, _, _, h, _⟩ := isC b z
    rw [h] at e
    cases e
  have nst : ∀ b, Cc b → b ∉ frs X.stack := fun b hb hm => by
    obtain ⟨o, v, h1, h2, _, h4⟩ := isC b hb
    have low : b ∈ frs X.outer → False := fun z => by
      obtain ⟨o', e'⟩ := frames_there I.ok.funs z
      have := Heap.lt_size e'
      exact absurd h4 (Nat.not_le.mpr this)
    rcases I.ok.stk with z | ⟨z, z2⟩
    · rw [z] at hm
      exact low hm
    · rw [z] at hm
      unfold frs at hm
      rw [List.filterMap_cons, z2] at hm
      rcases List.mem_cons.mp hm with y | y
      · obtain ⟨m, ⟨o', es, ep, k1, k2, _⟩, _⟩ := I.loc
        rw [y, k1] at h1
        rw [← Option.some.inj h1, k2] at h2
        cases h2
      · exact low y
  have E := I.env0
  let Hp' : Hp := addH Cc (cellsOf s.heap) H
  have atC : ∀ b, Cc b → ∃ o v, Hp' b = some (ExO b o) ∧ s.heap.get? b = some o ∧ o.data = .cell v := fun b z => by
    obtain ⟨o, v, h1, h2, _⟩ := isC b z
    refine ⟨o, v, ?_, h1, h2⟩
    show addH Cc (cellsOf s.heap) H b = _
    rw [add_c z]
    unfold cellsOf
    rw [h1]
    rfl
  have up : ∀ b u, H b = some u → Hp' b = some u := fun b u e => by
    show addH Cc (cellsOf s.heap) H b = _
    rw [add_n (noH b u e)]
    exact e
  have upn : ∀ b, ¬ Cc b → Hp' b = H b := fun b z => add_n z
  have E' : Env0 X.prog X.w X.K X.mg X.base X.A X.stack s Hp' := by
    refine ⟨E.frames, E.mod, fun b o e => ⟨(E.bs b o e).1, ?_⟩, E.bsz, E.funs, fun b hb => ?_, fun b o e => ?_, E.bare⟩
    · rw [upn b fun z => ?_]
      · exact (E.bs b o e).2
      · obtain ⟨_, _, _, _, _, h4⟩ := isC b z
        have k1 := Heap.lt_size e
        have k2 := I.ok.bsz
        exact absurd (Nat.le_trans k2 h4) (Nat.not_le.mpr k1)
    · rw [upn b fun z => nst b z hb]
      exact E.frf b hb
    · by_cases z : Cc b
      · obtain ⟨o', v', h1, h2, _⟩ := atC b z
        rw [h1] at e
        cases e
        exact ⟨h2, ⟨o', h2⟩, fun _ _ g1 g2 => g2 _ g1⟩
      · rw [upn b z] at e
        exact objOk_mono (fun b u e _ => up b u e) (E.hok b o e)
  let Dd : Addr → Prop := fun b => Cc b ∨ b = fa ∨ b = ca
  let Wp : Hp := addH Dd Hp' W
  have ext_D : ∀ b u, Dd b → Hp' b = some u → ∃ φ, u = .ext φ := fun b u z e => by
    rcases z with z | z | z
    · obtain ⟨o, v, h1, _⟩ := atC b z
      rw [h1] at e
      exact ⟨_, (Option.some.inj e).symm⟩
    · subst z
      rw [up _ _ hf] at e
      exact ⟨_, (Option.some.inj e).symm⟩
    · subst z
      rw [up _ _ hc] at e
      exact ⟨_, (Option.some.inj e).symm⟩
  have subP : Same Wp (tb Hp') := fun b o e => by
    by_cases z : Dd b
    · have e : Hp' b = some o := (add_c z).symm.trans e
      obtain ⟨φ, y⟩ := ext_D b o z e
      exact tb_of e (by rw [y]; exact fun _ z => nomatch z)
    · have e : W b = some o := (add_n z).symm.trans e
      obtain ⟨e1, e2⟩ := tb_some (sb b o e)
      exact tb_of (up b o e1) e2
  have leP : Same W Wp := fun b o e => by
    by_cases z : Dd b
    · exact (add_c z).trans (up b o (tb_le _ _ (sb b o e)))
    · exact (add_n z).trans e
  have CP : CapsAt Wp cl S.fr caps := by
    refine ⟨by have := CA.len; rw [List.length_map] at this; exact this, CA.inj, fun y b hy => ?_, fun i y x h1 h2 => ?_⟩
    · obtain ⟨o, v, k1, _, k3⟩ := atC b ⟨y, hy⟩
      exact ⟨o, v, (add_c (.inl ⟨y, hy⟩)).trans k1, k3⟩
    · obtain ⟨b, k1, k2⟩ := CA.has i y h1
      obtain ⟨u, k3, o, k4, k5⟩ := k2 (.str x) (by rw [List.getElem?_map, h2]; rfl)
      obtain ⟨o', v', g1, g2, g3⟩ := atC b ⟨y, k1⟩
      rw [k4] at g2
      cases g2
      exact ⟨b, o, u, k1, (add_c (.inl ⟨y, k1⟩)).trans g1, k5, k3⟩
  have rf : Rp X.K Wp (.ref fa) (.fn S caps) := .fn ((add_c (.inr (.inl rfl))).trans (up _ _ hf)) ((add_c (.inr (.inr rfl))).trans (up _ _ hc)) CP
  have len : us.length = ps.length := by
    have k1 := (ra Wp leP rf).length
    rw [← r.length, k1, hl]
  have pre : spD X.K φ ps.length vs Hp' (fun v H1 => ∃ W1, PZ Wp Hp' W1 H1 ∧ Rp X.K W1 v d) (fun _ _ _ => False) := ⟨Wp, ds, d, hl, subP, tt_ext up tz, ra Wp leP rf, e, fun v W1 H1 st rp => ⟨W1, st, rp⟩⟩
  refine wpAny_call (codeAny_mono (F.run X.A X.stack s Hp' ⟨us, []⟩ us vs _ _ hr E' (by have := hb s us I.kIn (by rw [List.append_nil]; exact len); rw [List.append_nil] at this; exact this) r pre) fun r s' hq => ?_)
  cases r with
  | error e => exact hq.elim
  | ok fl =>
    cases fl with
    | next => exact False.elim hq
    | brk => exact False.elim hq
    | cont => exact False.elim hq
    | ret u =>
      obtain ⟨v, H1, os, bare, un, hok, rv, W1, st, rp⟩ := hq
      have at1 : ∀ b, Cc b → ∃ o v, H1 b = some (ExO b o) ∧ s.heap.get? b = some o ∧ o.data = .cell v ∧ s'.heap.get? b = some o := fun b z => by
        obtain ⟨o, v, h1, h2, h3⟩ := atC b z
        have k : H1 b = some (ExO b o) := st.at (tb_of h1 fun _ z => nomatch z)
        exact ⟨o, v, k, h2, h3, (hok b _ k).1⟩
      have dn : ∀ b u, H1 b = some u → (∀ φ, u ≠ .ext φ) → dropH Cc H1 b = some u := fun b u e n => by
        rw [drop_n (fun z => by obtain ⟨o, _, k, _⟩ := at1 b z; rw [k] at e; exact n _ (Option.some.inj e).symm)]
        exact e
      have un' : Un (frs X.stack) [] H (dropH Cc H1) s.heap s'.heap := by
        refine ⟨fun b o e1 e2 e3 e4 => ?_, fun b o e1 e2 e3 e4 => ?_, fun b o e1 e2 e3 => ?_, un.there, fun b xs e => ?_, fun b o u e => ?_, fun b ps e => ?_⟩
        · by_cases z : Cc b
          · obtain ⟨o', _, _, k2, _, k4⟩ := at1 b z
            rw [e1] at k2
            cases k2
            exact k4
          · exact un.keep b o e1 ((upn b z).trans e2) e3 e4
        · exact un.slot b o e1 ((upn b fun z => nst b z e3).trans e2) e3 e4
        · by_cases z : Cc b
          · exact drop_c z
          · rw [drop_n z]
            exact un.free b o e1 ((upn b z).trans e2) e3
        · exact dn b _ (un.tups b xs (up b _ e)) fun _ z => nomatch z
        · exact dn b _ (un.frzs b o u (up b _ e)) fun _ z => nomatch z
        · obtain ⟨more, hm⟩ := un.tbls b ps (up b _ e)
          exact ⟨more, dn b _ hm fun _ z => nomatch z⟩
      have hok' : HOk X.prog X.w (dropH Cc H1) s'.heap := fun b o e => objOk_mono dn (hok b o (drop_some e).1)
      have kp : ∀ b o, tb H b = some o → tb (dropH Cc H1) b = some o := fun b o e => by
        obtain ⟨e1, n⟩ := tb_some e
        have k := st.at (tb_of (up b o e1) n)
        exact tb_of ((drop_n (noH b o e1)).trans k) n
      have tz' : TZ (dropH Cc H1) := fun p hp => by
        obtain ⟨ps', h1, h2, h3⟩ := st.tabs (tt_ext up tz) p hp
        refine ⟨ps', dn _ _ h1 (fun _ z => nomatch z), h2, fun pos cv hcv => ?_⟩
        obtain ⟨c, e1, e2⟩ := h3 pos cv hcv
        refine ⟨c, e1, ?_⟩
        have nc : ¬ Cc c := fun z => by
          obtain ⟨o, v, _, _, g2, g3⟩ := at1 c z
          obtain ⟨⟨oc, us', t, k1, k2, _⟩, _, _⟩ := hok c _ e2
          rw [g3] at k1
          rw [← Option.some.inj k1, g2] at k2
          cases k2
        rw [drop_n nc]
        exact e2
      have ext1 : ∀ b u, Dd b → W1 b = some u → ∃ φ, u = .ext φ := fun b u z e => by
        have e' : H1 b = some u := tb_le _ _ (st.sub b u e)
        have key : ∃ φ, Hp' b = some (.ext φ) := by
          rcases z with z | z | z
          · obtain ⟨o, _, k, _⟩ := atC b z
            exact ⟨_, k⟩
          · subst z; exact ⟨_, up _ _ hf⟩
          · subst z; exact ⟨_, up _ _ hc⟩
        obtain ⟨φ, k⟩ := key
        have k' := st.at (tb_of k fun _ z => nomatch z)
        rw [k'] at e'
        exact ⟨φ, (Option.some.inj e').symm⟩
      refine I.after ⟨v, dropH Cc H1, os, bare, un', hok', rv, q v (addH Dd W W1) _ ⟨⟨fun b o e => ?_, kp, fun b o e => ?_, fun b o e => ?_⟩, fun _ => tz'⟩ (rp_x (fun b u e n => ?_) hd rp)⟩
      · by_cases z : Dd b
        · exact (add_c z).trans e
        · exact (add_n z).trans (st.le b o (leP b o e))
      · by_cases z : Dd b
        · exact kp b o (sb b o ((add_c z).symm.trans e))
        · obtain ⟨e1, e2⟩ := tb_some (st.sub b o ((add_n z).symm.trans e))
          exact tb_of ((drop_n fun y => z (.inl y)).trans e1) e2
      · by_cases z : Dd b
        · exact .inl ((add_c z).symm.trans e)
        · rcases st.new b o ((add_n z).symm.trans e) with y | y
          · exact .inl ((add_n z).symm.trans y)
          · refine .inr ?_
            cases k : tb H b with
            | none => rfl
            | some u =>
              obtain ⟨k1, k2⟩ := tb_some k
              rw [tb_of (up b u k1) k2] at y
              cases y
      · refine (add_n fun z => ?_).trans e
        obtain ⟨φ, y⟩ := ext1 b u z e
        exact n φ y
/-- g(a1, t, a3), t the name of the function just made -/
def tA (K : PySem.W.Frag) (S : Fsh) (cl : List (Str × Addr)) (js : List Nat) (i : Nat) (φ : List D → Option D) (f1 f3 : Ex) (al1 al3 : List Nat) : TE := fun σ H Q => ∃ ρ O W d1 d3 d caps fa ca, RZ K ρ σ O W H ∧ f1 ρ = some d1 ∧ f3 ρ = some d3 ∧ noO al1 ρ = true ∧ noO al3 ρ = true ∧ σ[i]? = some (some (.ref fa)) ∧ H fa = some (NdefX.FnO fa (S.nf cl ca)) ∧ H ca = some (LamX.CodeO ca S.qual) ∧
  js.map (NdefX.slotAt σ) = caps.map (fun x : Str => some (V.str x)) ∧ φ [d1, .fn S caps, d3] = some d ∧ noF d = true ∧ ∀ v W' H', PZ W H W' H' → Rp K W' v d → Q v H'
theorem pe_A {n i : Nat} {x t : Str} {ps : List Str} {φ : List D → Option D} {S : Fsh} {cl : List (Str × Addr)} {js : List Nat} {a1 a3 : Expr} {f1 f3 : Ex} {al1 al3 : List Nat} {p pt pos : Pos} (F : FOk X.prog X.w X.K X.mg X.base n x ps φ) (h3 : ps.length = 3) (hr : Room n X.A) (hg : Gl X x)
    (cp : X.Ok → NdefX.Caps X cl S.fr js) (hfn : ∀ y c, cl.lookup y = some c → X.fn y = true) (hN : X.N[i]? = some t) (hv : Vis X.env.scope t) (k1 : DP X a1 f1 al1) (k3 : DP X a3 f3 al3)
    (hdb : (x == ("__debug__" : Str)) = false := by decide) (hd : (t == ("__debug__" : Str)) = false := by decide) (hcd : (t == ("__classdict__" : Str)) = false := by decide)
    (he : starEach [a1, .Name t pt, a3] X.env = (false, eval a1 X.env) :: starEach [.Name t pt, a3] X.env := by rfl) (he2 : starEach [.Name t pt, a3] X.env = (false, eval (.Name t pt) X.env) :: starEach [a3] X.env := by rfl) (he3 : starEach [a3] X.env = (false, eval a3 X.env) :: starEach [] X.env := by rfl)
    (hpl : (backTo pos (starEach [.Name t pt, a3] X.env)).any (·.1) = false := by rfl) :
    PE X (.Call (.Name x p) [a1, .Name t pt, a3] [] pos) (tA X.K S cl js i φ f1 f3 al1 al3) := by
  obtain ⟨ga, fd, hm, hk, hb, F⟩ := F.ex
  refine ⟨fun pins s σ H Q I ⟨ρ, O, W, d1, d3, d, caps, fa, ca, rs, e1, e3, n1, n3, hs, hf, hc, hcap, e, hnf, q⟩ => ?_⟩
  have ha := pa_cons k1 (pa_cons (pe_var (pos := pt) hN hv hd hcd) (pa_cons k3 pa_nil he3) he2) he
  refine wpAny_Call_Name_kw (ld_glob I hg hm ?_ hdb)
  refine PySem.W.callWith_K (h₀ := X.base) I.ok.mod.kin hk (thn (ha.run pos pins s σ H (fun vs H3 => ∃ v1 v3 W3, vs = [v1, .ref fa, v3] ∧ PZ W H W3 H3 ∧ Rp X.K W3 v1 d1 ∧ Rp X.K W3 v3 d3) I ?_) fun us s1 ⟨vs, H3, I1, r, v1, v3, W3, ev, st, p1, p3⟩ => ⟨I1.kIn, ?_⟩) he hpl
  · refine ⟨ρ, O, W, d1, rs, e1, fun v1 W1 H1 s1 p1 => ⟨.ref fa, hs, ρ, O, W1, d3, rs.pstep s1, e3, fun v3 W3 H3 s3 p3 => ⟨v1, v3, W3, rfl, s1.trans s3, ?_, ?_⟩⟩⟩
    · rw [vw_noO n1] at p1
      exact rp_mono s3.le p1
    · rw [vw_noO n3] at p3
      exact p3
  · subst ev
    have in3 : ∀ b φ, H b = some (.ext φ) → H3 b = some (.ext φ) := fun b φ e => st.at (tb_of e fun _ z => nomatch z)
    exact run_A F hr hb I1 (cp I1.ok) hfn hcap (in3 _ _ hf) (in3 _ _ hc) r st.sub (rs.pstep st).tz (by rw [h3]; rfl) (fun Wp le rf => .cons (rp_mono le p1) (.cons rf (.cons (rp_mono le p3) .nil))) e hnf fun v W' H' st' rp => q v W' H' (st.trans st') rp

theorem RZ.slot {K : PySem.W.Frag} {ρ : Rho} {σ : L2.St} {O : Addr → Bool} {W H : Hp} (r : RZ K ρ σ O W H) {i : Nat} (h : ρ[i]? = some .no) (v : Option V) : RZ K ρ (σ.set i v) O W H := by
  have ne : ∀ {j : Nat} {x : Sl}, ρ[j]? = some x → x ≠ .no → i ≠ j := fun {j x} e n z => by
    subst z
    rw [h] at e
    exact n (Option.some.inj e).symm
  refine ⟨⟨by rw [List.length_set]; exact r.len, r.sub, r.hid, fun j d e => ?_, fun j xs e => ?_, fun j k xs ys a e1 e2 e3 e4 => ?_⟩, r.tz, ?_⟩
  · rw [List.getElem?_set_ne (ne e fun z => nomatch z)]
    exact r.vals j d e
  · rw [List.getElem?_set_ne (ne e fun z => nomatch z)]
    exact r.ownsG j xs e
  · rw [List.getElem?_set_ne (ne e1 fun z => nomatch z)] at e3
    rw [List.getElem?_set_ne (ne e2 fun z => nomatch z)] at e4
    exact r.apart j k xs ys a e1 e2 e3 e4
  · exact r.ns.slots (fun j t ht e => ⟨e, List.getElem?_set_ne (ne e (fun z => by subst z; cases ht))⟩) fun j d e => ⟨⟨d, e⟩, List.getElem?_set_ne (ne e (fun z => nomatch z))⟩
/-- the texts in the slots js -/
def capsOf (ρ : Rho) : List Nat → Option (List Str)
  | [] => some []
  | j :: js => match ρ[j]? with
    | some (.val (.str x)) => (capsOf ρ js).map (x :: ·)
    | _ => none
theorem caps_at {K : PySem.W.Frag} {ρ : Rho} {σ : L2.St} {O : Addr → Bool} {W H : Hp} (r : RZ K ρ σ O W H) : ∀ {js : List Nat} {caps : List Str}, capsOf ρ js = some caps → js.map (NdefX.slotAt σ) = caps.map fun x : Str => some (V.str x)
  | [], _, e => by
    cases e
    rfl
  | j :: js, caps, e => by
    unfold capsOf at e
    split at e
    · rename_i x hx
      obtain ⟨cs, e1, rfl⟩ := Option.map_eq_some_iff.mp e
      obtain ⟨v, h1, h2⟩ := r.vals j _ hx
      cases h2
      rw [List.map_cons, List.map_cons, caps_at r e1, NdefX.slotAt_of h1]
    · cases e
/-- def t(..): ..; return g(a1, t, a3) -/
def sDR (S : Fsh) (js : List Nat) (i : Nat) (φ : List D → Option D) (f1 f3 : Ex) (al1 al3 : List Nat) : Sx := fun ρ => match ρ[i]? with
  | some .no => (f1 ρ).bind fun d1 => (f3 ρ).bind fun d3 => (capsOf ρ js).bind fun caps => if (noO al1 ρ && noO al3 ρ) = true then (φ [d1, .fn S caps, d3]).bind fun d => if noF d = true then some (.ret d) else none else none
  | _ => none
theorem dss_DR {n i : Nat} {x : Str} {ps : List Str} {φ : List D → Option D} {S : Fsh} {js : List Nat} {a1 a3 : Expr} {f1 f3 : Ex} {al1 al3 : List Nat} {p pt pos pos' posd : Pos} {st : Stmt} {nm : Nat → Nat → Str} {c P : Addr} (F : FOk X.prog X.w X.K X.mg X.base n x ps φ) (h3 : ps.length = 3) (hr : Room n X.A) (hg : Gl X x)
    (hst : st = .FunctionDef S.name S.params S.body [] none [] S.scope none S.name posd) (TB : LamX.TabB X.base X.mg c P) (hcode : X.env.code = .ref c) (hm : (P, nm) ∈ (Tbs.T : List NdefX.NTab)) (hn : nm posd.line posd.col = X.env.qual ++ S.name) (hq : S.qual = X.env.qual ++ S.name) (hu : ∀ p ∈ (Tbs.T : List NdefX.NTab), p.1 = P → p.2 = nm)
    (hnd : NdefX.ndefB X.env.scope S.scope S.fr = true) (hjs : js.map (fun j => X.N[j]?) = S.fr.map some) (hd0 : S.params.defaults = []) (hk0 : S.params.kw_defaults = []) (hann : annTrees S.params none X.env = []) (hfn : ∀ y c, (cloFrom X.env.cells S.scope.names []).lookup y = some c → X.fn y = true)
    (hNd : X.N.Nodup) (hN : X.N[i]? = some S.name) (hx : Loc X.env.scope S.name) (hf : X.fn S.name = true ∨ X.env.scope.names.lookup S.name = some .local) (hv : Vis X.env.scope S.name) (k1 : DP X a1 f1 al1) (k3 : DP X a3 f3 al3)
    (hdb : (x == ("__debug__" : Str)) = false := by decide) (hd : (S.name == ("__debug__" : Str)) = false := by decide) (hcd : (S.name == ("__classdict__" : Str)) = false := by decide)
    (he : starEach [a1, .Name S.name pt, a3] X.env = (false, eval a1 X.env) :: starEach [.Name S.name pt, a3] X.env := by rfl) (he2 : starEach [.Name S.name pt, a3] X.env = (false, eval (.Name S.name pt) X.env) :: starEach [a3] X.env := by rfl) (he3 : starEach [a3] X.env = (false, eval a3 X.env) :: starEach [] X.env := by rfl)
    (hpl : (backTo pos (starEach [.Name S.name pt, a3] X.env)).any (·.1) = false := by rfl) :
    DSs X [st, .Return (some (.Call (.Name x p) [a1, .Name S.name pt, a3] [] pos)) pos'] (sDR S js i φ f1 f3 al1 al3) := by
  subst hst
  have nd := NdefX.ps_ndefM (X := X) (T := Tbs.T) (body := S.body) (pos := posd) TB hcode hm hn hu (NdefX.ndef_free hnd) hd0 hk0 hann hNd hN hx hf
  have cal := pe_A (X := X) (S := S) (cl := cloFrom X.env.cells S.scope.names []) (js := js) (pt := pt) (p := p) (pos := pos) F h3 hr hg (fun ok => NdefX.Caps.made ok (NdefX.ndef_free hnd) (NdefX.ndef_fr hnd) hjs) hfn hN hv k1 k3 hdb hd hcd he he2 he3 hpl
  refine pss_imp (pss_cons nd (pss_one (ps_ret (pos := pos') cal))) fun E σ H ⟨ρ, O, W, out, rs, e, q⟩ => ?_
  unfold sDR at e
  split at e
  · rename_i hi
    obtain ⟨d1, e1, e⟩ := opt_bind e
    obtain ⟨d3, e3, e⟩ := opt_bind e
    obtain ⟨caps, ec, e⟩ := opt_bind e
    split at e
    · rename_i hno
      obtain ⟨d, ed, e⟩ := opt_bind e
      split at e
      · rename_i hnf
        cases e
        refine ⟨rs.tz, fun f c' H1 eN nn T1 f0 g1 g2 => ?_⟩
        have kp : Same (tb H) (tb H1) := fun b o e => by
          obtain ⟨z1, z2⟩ := tb_some e
          exact tb_of (eN b o z1 z2) z2
        have st : PZ W H W H1 := ⟨⟨fun _ _ e => e, kp, fun b o e => kp b o (rs.sub b o e), fun _ _ e => .inl e⟩, fun _ => T1⟩
        have r1 := (rs.pstep st).slot hi (some (.ref f))
        rw [Bool.and_eq_true] at hno
        have hil : i < σ.length := by
          rw [rs.len]
          exact (List.getElem?_eq_some_iff.mp hi).1
        refine ⟨ρ, O, W, d1, d3, d, caps, f, c', r1, e1, e3, hno.1, hno.2, List.getElem?_set_self hil, ?_, ?_, caps_at r1 ec, ed, hnf, fun v W' H' s' rp => ?_⟩
        · show H1 f = some (NdefX.FnO f (S.nf _ c'))
          unfold Fsh.nf
          rw [hq]
          exact g1
        · rw [hq]
          exact g2
        · exact q v O W' H' (st.trans s').s (s'.sub) rp
      · cases e
    · cases e
  · cases e
end
end DL

/-! The data layer: defs that hold a nested def; the end of a law with tables. -/
namespace DL
open PySem PySem.Spec L2
section
variable {P : Program} {w : World} {K : PySem.W.Frag} {mg : Str → Option Value} {base : Heap}
/-- a def whose code object is known -/
structure FunC (K : PySem.W.Frag) (x qual : Str) (st : Stmt) (f : Addr) (fd : FuncData) (cdv : Value) : Prop where
  at_ : ∃ (oc : Value) (od : Option Addr) (kV doc pm : Value) (an : Option Addr) (ct : Value) (osl : Array (Option Value)),
    fd = PySem.W.fnOf x qual (defArgs st) (defBody st) (defScope st) .none kV doc pm an cdv ct ∧ K.lookup f = some ⟨oc, od, .func fd, osl⟩ ∧ PySem.W.codeIn K cdv qual = true
  kp : PySem.W.keepIn K (.ref f) = true
theorem FunC.fn {x qual : Str} {st : Stmt} {f : Addr} {fd : FuncData} {cdv : Value} (F : FunC K x qual st f fd cdv) : Fun K x qual st f fd := by
  obtain ⟨⟨oc, od, kV, doc, pm, an, ct, osl, h1, h2, h3⟩, h4⟩ := F
  exact ⟨⟨oc, od, kV, doc, pm, an, cdv, ct, osl, h1, h2, h3⟩, h4⟩
theorem func_mk {x qual : Str} {st : Stmt} {f : Addr} {oc : Value} {od an : Option Addr} {osl : Array (Option Value)} {kV doc pm cdv ct : Value} (l : K.lookup f = some ⟨oc, od, .func (PySem.W.fnOf x qual (defArgs st) (defBody st) (defScope st) .none kV doc pm an cdv ct), osl⟩)
    (c : PySem.W.codeIn K cdv qual = true) (k : PySem.W.keepIn K (.ref f) = true) {c0 : Addr} (e : cdv = .ref c0) : FunC K x qual st f (PySem.W.fnOf x qual (defArgs st) (defBody st) (defScope st) .none kV doc pm an cdv ct) (.ref c0) := by
  subst e
  exact ⟨⟨oc, od, kV, doc, pm, an, ct, osl, rfl, l, c⟩, k⟩
theorem tab_code {x : Str} {f c p : Addr} {oc : Value} {od : Option Addr} {osl : Array (Option Value)} {fd : FuncData} (a : PySem.W.nsIn K mainGlobals x = some (some (.ref f))) (l : K.lookup f = some ⟨oc, od, .func fd, osl⟩) (t : PySem.W.tabIn K x = some (c, p)) : fd.code = .ref c := by
  unfold PySem.W.tabIn at t
  rw [a] at t
  simp only [l] at t
  split at t
  · rename_i c' hc
    split at t
    · split at t
      · cases t
        exact hc
      · cases t
    · cases t
  · cases t
theorem tab_in {x : Str} {f c p : Addr} {oc e : Value} {od dd : Option Addr} {osl sl : Array (Option Value)} {fd : FuncData} {vs : Array Value} (a : PySem.W.nsIn K mainGlobals x = some (some (.ref f))) (l : K.lookup f = some ⟨oc, od, .func fd, osl⟩) (q : fd.code = .ref c) (lc : K.lookup c = some ⟨e, dd, .fields vs, sl⟩) (v : (vs[11]? : Option Value) = some (.ref p)) : PySem.W.tabIn K x = some (c, p) := by
  unfold PySem.W.tabIn
  rw [a]
  simp only [l, q, lc, v]
variable [Tbs]
theorem fok_mkC {k : Nat} {x qual : Str} {st : Stmt} {fa : Addr} {fd : FuncData} {N ps : List Str} {B : Sx} {cdv : Value} (F : FunC K x qual st fa fd cdv) (hm : mg x = some (.ref fa)) (S : FnScope N ps (defScope st)) (hb : Binds K fd ps [])
    (body : ∀ (A : Around) (outer : List PySem.Env) (s : Shared) (H : Hp) (E : XK), Room k (A.deeper (PyProof.Rows.envOfC qual (defScope st) s.heap.objs.size fa cdv)) → DSs (cxOf CX0 P w K mg base N qual (defScope st) fa cdv A outer s H E).nox (defBody st) B) : FOk P w K mg base (k + 1) x ps (runB N.length B) := by
  refine ⟨fa, fd, hm, F.kp, hb, ?_⟩
  obtain ⟨oc, od, kV, doc, pm, an, ct, osl, rfl, lk, hcd⟩ := F.at_
  refine fn_of lk hcd S (fun vs H Q E h => ?_) fun A outer s H vs Q E hr h => ?_
  · obtain ⟨W, ds, d, h1, _, _, h2, _⟩ := h
    rw [h2.length, h1]
  · obtain ⟨W, ds, d, h1, h2, hz, h3, h4, h5⟩ := h
    refine ⟨_, (body A outer s H E hr).nox, ?_⟩
    obtain ⟨o, e1, e2⟩ := opt_bind h4
    have fin : ∀ {O' : Addr → Bool} {W' H' : Hp}, SZ (fun _ => false) W H O' W' H' → Same W' (tb H') → PZ W H W' H' := fun s sb => ⟨⟨s.le, fun b o e => s.keep b o e rfl, sb, fun b o e => (s.new b o e).elim .inl fun z => z.elim .inr fun y => nomatch y⟩, s.tabs⟩
    refine ⟨start' N.length ds, fun _ => false, W, o, ⟨rs_start h2 h3, hz, ns_start⟩, e1, ?_⟩
    cases o with
    | ret d' => cases e2; exact fun v O' W' H' s sb r => h5 v W' H' (fin s sb) r
    | nx ρ => cases e2; exact fun σ' O' W' H' s r => h5 .non W' H' (fin s r.sub) .non
    | brk ρ => cases e2
    | ct ρ => cases e2
/-- at level 0 nothing is promised -/
theorem fns_zero {L : List Fsh} {ps : List Str} {φ : Nat → List D → Option D} (h0 : ∀ k ds, φ k ds = none) : FnsOk P w K mg base 0 L ps φ := fun S _ f cl c => by
  refine ⟨fun ws vs H Q E h => ?_, fun A outer s H us vs ws Q E _ _ _ _ _ _ h => ?_⟩
  · obtain ⟨ds, caps, d, _, _, _, _, _, h1, _⟩ := h
    rw [h0] at h1
    cases h1
  · obtain ⟨ds, caps, d, _, _, _, _, _, h1, _⟩ := h
    rw [h0] at h1
    cases h1
/-! ### the law's own call: the script may be any list -/
omit [Tbs] in
theorem objOk_frz {H H' : Hp} {h : Heap} (s : ∀ b u, H b = some u → (∀ vs, u ≠ .lst vs) → H' b = some u) : ∀ {o : HO} {a : Addr}, ObjOk P w H h a o → ObjOk P w H' h a o
  | .lst _, _, x => x
  | .tup _, _, x => x
  | .dK _, _, x => x
  | .dT _, _, ⟨h1, h2, xs, h3, h4⟩ => ⟨h1, h2, xs, L2.Paired.mapP h3 fun p q ⟨a1, a2, a3⟩ => ⟨a1, s _ _ a2 (fun _ z => nomatch z), a3⟩, h4⟩
  | .set _ _, _, x => x
  | .ins _ _ _, _, x => ⟨s _ _ x.1 (fun _ z => nomatch z), x.2⟩
  | .own _, _, x => x
  | .xd _, _, x => x
  | .met _ _, _, x => x
  | .rng _ _, _, x => x
  | .frz _ u, _, ⟨h1, h2⟩ => ⟨h1, objOk_frz s h2⟩
  | .tbl _, _, x => x
  | .ext _, _, x => x
def spL (K : PySem.W.Frag) (cs : List (Addr × Addr)) (n : Nat) : Sp := fun vs H Q _ => ∃ (a : Addr) (ns : List Int), vs = [.ref a] ∧ ns.length ≤ n ∧ (∀ p ∈ cs, H p.2 = some (.tbl #[])) ∧ SqL K H a (ns.map V.int) ∧ ∀ v H', v = .bl true → Q v H'
theorem fnOk_law {cs : List (Addr × Addr)} {k n : Nat} {fa : Addr} {fd : FuncData} {x : Str} {φ : List D → Option D} (F : FnOk P w K mg base CX0 k fa fd [x] (spD K φ 1)) (ht : ∀ ns : List Int, ns.length ≤ n → φ [.scr ns] = some (.bl true)) (hc : ∀ p ∈ (Tbs.T : List NdefX.NTab), ∃ q ∈ cs, q.2 = p.1) :
    FnOk P w K mg base CX0 k fa fd [x] (spL K cs n) := by
  refine ⟨fun vs H Q E h => ?_, fun A outer s H args us vs Q E hr e0 hb rv h => ?_⟩
  · obtain ⟨a, ns, rfl, _⟩ := h
    rfl
  · obtain ⟨a, ns, rfl, hl, hT, hS, hQ⟩ := h
    have core : ∀ H' : Hp, Env0 P w K mg base A outer s H' → (∀ p ∈ cs, H' p.2 = some (.tbl #[])) → Scr K H' a ns → (∀ b, H b = none → H' b = none) → (∀ b o, H b = some o → (∀ vs, o ≠ .lst vs) → H' b = some o) → codeAny (model P w) A (.call (.ref fa) args) (CR CX0 outer P w H s Q E) s := fun H' e' hT' hS' nn kp => by
      have tz : TZ H' := fun p hp => by
        obtain ⟨q, hq, e⟩ := hc p hp
        rw [← e]
        exact .nil (hT' q hq)
      refine codeAny_mono (F.run A outer s H' args us [.ref a] (fun v _ => v = .bl true) (fun _ _ _ => False) hr e' hb rv ⟨tb H', [.scr ns], .bl true, rfl, fun _ _ e => e, tz, .one (.scr (scr_tb hS')), ht ns hl, fun v W' H2 _ r => by cases r; rfl⟩) fun r s' hq => ?_
      cases r with
      | error e => exact hq.elim
      | ok fl =>
        cases fl with
        | next => exact False.elim hq
        | brk => exact False.elim hq
        | cont => exact False.elim hq
        | ret u =>
          obtain ⟨v, H1, os, bare, un, hok, r1, q1⟩ := hq
          refine ⟨v, H1, os, bare, ⟨fun b o e1 e2 => un.keep b o e1 (nn b e2), fun b o e1 e2 => un.slot b o e1 (nn b e2), fun b o e1 e2 => un.free b o e1 (nn b e2), un.there, fun b xs e => un.tups b xs (kp b _ e fun _ z => nomatch z), fun b o u e => un.frzs b o u (kp b _ e fun _ z => nomatch z), fun b ps e => un.tbls b ps (kp b _ e fun _ z => nomatch z)⟩, hok, r1, hQ v H1 q1⟩
    rcases hS with (hS | ⟨o, hS⟩) | hS
    · obtain ⟨h1, its, m, h2, h3⟩ := e0.hok a _ hS
      have up : ∀ b o, H b = some o → (∀ vs, o ≠ .lst vs) → upd H a (.frz ⟨.type "list", none, .seq its.toArray m, #[]⟩ (.lst (ns.map V.int))) b = some o := fun b o e z => by
        rw [upd_ne (fun y => by rw [y, hS] at e; exact z _ (Option.some.inj e).symm)]
        exact e
      have nu : ∀ b, H b = none → upd H a (.frz ⟨.type "list", none, .seq its.toArray m, #[]⟩ (.lst (ns.map V.int))) b = none := fun b e => by
        rw [upd_ne (fun y => by rw [y, hS] at e; cases e)]
        exact e
      refine core _ ⟨e0.frames, e0.mod, fun b o e => ⟨(e0.bs b o e).1, nu b (e0.bs b o e).2⟩, e0.bsz, e0.funs, fun b hb => nu b (e0.frf b hb), fun b o e => ?_, e0.bare⟩ (fun p hp => up _ _ (hT p hp) fun _ z => nomatch z) (.inl ⟨_, upd_same⟩) nu up
      by_cases hb : b = a
      · subst hb
        rw [upd_same] at e
        cases e
        exact ⟨h3, objOk_frz up ⟨h1, its, m, h2, h3⟩⟩
      · rw [upd_ne hb] at e
        exact objOk_frz up (e0.hok b o e)
    · exact core H e0 hT (.inl ⟨o, hS⟩) (fun _ e => e) (fun _ _ e _ => e)
    · exact core H e0 hT (.inr hS) (fun _ e => e) (fun _ _ e _ => e)
end
open PyProof.Rows in
/-- the end of a law some of whose defs hold nested defs -/
theorem walk_ofTb {l : PySem.W.OpenLaw} {n k : Nat} {q : Program} {loose : List Str} {XP : (Str → Option Value) → Heap → Prop} {YP : World → Heap → Prop} {dr : DefRec} {K : Params → PySem.W.Frag} {x : Str}
    (hn : l.most = some n) (hn2 : n ≤ sizeLine) (hdf : dr.params.defaults = []) (hr : Room k callerA) (hY : ∀ (w : World) (h : Heap), YP w h → (K w.params).In h)
    (F : ∀ (w : World) (mg : Str → Option Value) (fa : Addr) (h : Heap), (K w.params).In h → h.Ns mainGlobals mg → mg dr.name = some (.ref fa) →
      (∀ (y : Str) (c P : Addr), ((recsOf q).any fun e => e.name == y) = true → PySem.W.tabIn (K w.params) y = some (c, P) → PySem.W.CodeHd h c P ∧ h.get? P = some (PySem.W.tabObj #[])) → LamX.LawAtS l w (K w.params) CX0 k n x mg fa h) :
    PySem.W.WalkO q loose XP YP l.row.toRowW dr [] (fun f us => PySem.call f us) := by
  refine Att.attach_callB hn hdf fun w s0 s1 mg mb fa o pm cd doc a us ns Gd Y h1 h2 h3 hmg hobj hints hlen hbits hgens => ?_
  have KX := hY w _ Y
  have tabs : ∀ (y : Str) (c P : Addr), ((recsOf q).any fun e => e.name == y) = true → PySem.W.tabIn (K w.params) y = some (c, P) → PySem.W.CodeHd s1.heap c P ∧ s1.heap.get? P = some (PySem.W.tabObj #[]) := fun y c P ha ht => by
    cases e : (recsOf q).find? (fun e => e.name == y) with
    | none =>
      rw [List.find?_eq_none] at e
      obtain ⟨z, z1, z2⟩ := List.any_eq_true.mp ha
      exact absurd z2 (e z z1)
    | some d1 => exact PySem.W.tab_of Gd.T KX e ht
  obtain ⟨fd, cs, sp, t1, t2, t3, t4, t5, t6⟩ := F w mg fa _ KX Gd.T.g hmg tabs
  refine LamX.law_callTs KX Gd.T.g Gd.T.b Gd.T.builtins Gd.T.nolimit hgens t1 t2 t3 Gd.T.bmain hobj hints (Nat.le_trans hlen hn2) hr t6 t4 ?_ ?_
  · exact fun H e1 e2 => t5 H a ns hlen hbits e1 e2
  · exact fun _ _ _ e => e
end DL

/-! The data layer: divmod. -/
namespace DL
open PySem PySem.Spec L2
section
variable [Tbs] {X : Cx} {a : Expr} {es : List Expr} {fs : Exs} {al : List Nat} {pos p : Pos}
theorem boot_divmod' : bootBuiltins "divmod" = some (.builtin "divmod") := by decide +kernel
def dDivmod : List D → Option D
  | [.int i, .int j] => if 0 < j ∧ j < 2 ^ 200 then some (.tup [.int (i / j), .int (i % j)]) else none
  | _ => none
theorem dp_divmod (hg : Gl X "divmod") (hm : X.mg "divmod" = none) (ha : DA X (a :: es) fs al) (he : starEach (a :: es) X.env = (false, eval a X.env) :: starEach es X.env := by rfl) (hpl : (backTo pos (starEach es X.env)).any (·.1) = false := by rfl) :
    DP X (.Call (.Name "divmod" p) (a :: es) [] pos) (eA dDivmod fs) [] := by
  refine cb (pe_callB call_divmodW hg hm boot_divmod' ha (he := he) (hpl := hpl)) fun ρ σ O W H vs ds d Q r e p q => ?_
  unfold dDivmod at e
  split at e
  · split at e
    · rename_i i j hz
      cases e
      obtain ⟨v, w, rfl, p1, p2⟩ := rpAll2 p
      cases p1; cases p2
      have hc : CDivW i j := wide_div (b := 200) hz.1 (by omega) (by decide) (by decide)
      refine ⟨_, _, rfl, ⟨hz.1, PyProof.noPylong_of_log2 hc.2⟩, fun l n => q.tup r.sub (.cons (.int _) (.cons (.int _) .nil)) n⟩
    · cases e
  · cases e
end
theorem w_divmod {i j : Int} {Q : D → Prop} (h : 0 < j ∧ j < 2 ^ 200) (q : Q (.tup [.int (i / j), .int (i % j)])) : Wp (dDivmod [.int i, .int j]) Q := ⟨_, if_pos h, q⟩
end DL

set_option maxHeartbeats 1000000
/-! zip of a list or a tuple and a list or a tuple. -/
namespace ZX
open PySem
/-- t: a tuple, else a list -/
def Sq (t : Bool) (h : Heap) (a : Addr) (xs : Array Value) : Prop := match t with
  | true => h.IsTuple a xs
  | false => h.IsList a xs
def Ir (t : Bool) (h : Heap) (p l : Addr) (i : Nat) : Prop := match t with
  | true => h.IsTupleIter p l i
  | false => h.IsListIter p l i
section
variable {t : Bool} {h h' : Heap} {a b p l : Addr} {xs : Array Value} {i : Nat}
theorem Sq.ext (x : Sq t h a xs) (e : Heap.ExtBut b h h') (n : a ≠ b) : Sq t h' a xs := by
  cases t
  · exact Heap.IsList.extBut x e n
  · exact Heap.IsTuple.extBut x e n
theorem Ir.to (x : Ir t h p l i) (k : ∀ o, h.get? p = some o → h'.get? p = some o) : Ir t h' p l i := by
  cases t
  · obtain ⟨o, e, r⟩ : h.IsListIter p l i := x
    exact ⟨o, k o e, r⟩
  · obtain ⟨o, e, r⟩ : h.IsTupleIter p l i := x
    exact ⟨o, k o e, r⟩
theorem Ir.ext (x : Ir t h p l i) (e : Heap.ExtBut b h h') (n : p ≠ b) : Ir t h' p l i := x.to fun o z => e _ _ n z
theorem Ir.ob (x : Ir t h p l i) : ∃ o, h.get? p = some o ∧ o.data = .fields #[.ref l, .int i 0] := by
  cases t
  · obtain ⟨o, e, _, r⟩ : h.IsListIter p l i := x
    exact ⟨o, e, r⟩
  · obtain ⟨o, e, _, r⟩ : h.IsTupleIter p l i := x
    exact ⟨o, e, r⟩
theorem Sq.ob (x : Sq t h a xs) : ∃ o, h.get? a = some o := by
  cases t
  · obtain ⟨o, e, _⟩ : h.IsList a xs := x
    exact ⟨o, e⟩
  · obtain ⟨o, e, _⟩ : h.IsTuple a xs := x
    exact ⟨o, e⟩
end
section
variable {prog : Program} {w : World} {A : Around} {E : Value → Shared → Prop} {s : Shared} {t u : Bool}
theorem nx_item {p l : Addr} {i : Nat} {xs : Array Value} {x : Value} {Q : Value → Shared → Prop} (I : Ir t s.heap p l i) (L : Sq t s.heap l xs) (e : xs[i]? = some x) (q : ∀ h', Ir t h' p l (i + 1) → Heap.SameBut p s.heap h' → Q x { s with heap := h' }) :
    wpAny (model prog w) A (Builtin.SmallTypes.nextOf (.ref p)) Q E s := by
  cases t
  · exact wpAny_nextOf_list_item I L e q
  · exact RZ.nextOf_tuple_item I L e q
theorem nx_end {p l : Addr} {i : Nat} {xs : Array Value} {Q : Value → Shared → Prop} (hh : A.handled = none) (I : Ir t s.heap p l i) (L : Sq t s.heap l xs) (e : xs[i]? = none)
    (q : ∀ h' x, Heap.ExtBut p s.heap h' → (∃ o, h'.get? x = some o ∧ o.cls = .type "StopIteration") → E (.ref x) { s with heap := h' }) : wpAny (model prog w) A (Builtin.SmallTypes.nextOf (.ref p)) Q E s := by
  cases t
  · exact wpAny_nextOf_list_end hh I L e q
  · exact RZ.nextOf_tuple_end hh I L e q
theorem it_new {l : Addr} {xs : Array Value} {Q : Value → Shared → Prop} (L : Sq t s.heap l xs) (q : Q (.ref s.heap.objs.size) { s with heap := s.heap.push { cls := .type (if t then "tuple_iterator" else "list_iterator"), data := .fields #[.ref l, .int 0 0] } }) : wpAny (model prog w) A (pyIter (.ref l)) Q E s := by
  cases t
  · exact wpAny_pyIter_list L q
  · exact wpAny_pyIter_tuple L q
/-- one turn more -/
theorem next_item {z tI tO p r la lb : Addr} {i j : Nat} {xs ys : Array Value} {x y c d : Value} {Q : Value → Shared → Prop} (D : ZipApart z tI tO p r la lb) (Z : IsZip s.heap z tI tO .none) (PI : IsPair s.heap tI (.ref p) (.ref r)) (PO : IsPair s.heap tO c d)
    (I : Ir t s.heap p la i) (J : Ir u s.heap r lb j) (L : Sq t s.heap la xs) (M : Sq u s.heap lb ys) (ex : xs[i]? = some x) (ey : ys[j]? = some y)
    (q : ∀ h', IsZip h' z tI tO (rawInt s.heap.objs.size) → IsPair h' tO x y → Ir t h' p la (i + 1) → Ir u h' r lb (j + 1) → IsPair h' s.heap.objs.size x y → h'.objs.size = s.heap.objs.size + 1 →
      (∀ b o, b ≠ z → b ≠ tO → b ≠ p → b ≠ r → s.heap.get? b = some o → h'.get? b = some o) → Q (.ref s.heap.objs.size) { s with heap := h' }) :
    wpAny (model prog w) A (Builtin.«zip.__next__» ⟨[.ref z], []⟩) (fun f s' => ∃ v, f = .done (.ret v) ∧ Q v s') E s := by
  show wpAny _ _ (field (.ref z) 2 >>= _) _ _ _; refine wpAny_bind (wpAny_field Z rfl (x := .bool false) rfl ?_)
  show wpAny _ _ (field (.ref z) 3 >>= _) _ _ _; refine wpAny_bind (wpAny_field Z rfl (x := .ref tI) rfl ?_)
  refine wpAny_bind (wpAny_seqItems PI rfl ?_)
  show wpAny _ _ (Builtin.SmallTypes.ownedTupleIsFree (.ref z) >>= _) _ _ _; refine wpAny_bind ?_
  delta Builtin.SmallTypes.ownedTupleIsFree; refine wpAny_bind (wpAny_field Z rfl (x := .none) rfl (wpAny_pure ?_))
  simp only [if_true]
  refine wpAny_bind (wpAny_rule ?_); refine wpAny_bind (wpAny_field Z rfl (x := .ref tO) rfl ?_)
  refine wpAny_bind (wpAny_setField_rec Z (by simp) fun g1 Z1 S1 => ?_)
  have Z1 : IsZip g1 z tI tO .ellipsis := Z1
  refine wpAny_bind ?_
  simp only [List.zipIdx_nil, List.zipIdx_cons, List.forIn_nil, List.forIn_cons]
  refine wpAny_bind ?_; refine wpAny_bind (wpAny_onRaise ?_)
  show wpAny _ _ (Builtin.SmallTypes.nextOf (.ref p) >>= _) _ _ _
  refine wpAny_bind (nx_item (I.ext S1.extBut D.i1z) (L.ext S1.extBut D.l1z) ex fun g2 I2 S2 => wpAny_pure ?_)
  have PO2 : IsPair g2 tO c d := S2.extBut _ _ D.TOi1 (S1.extBut _ _ D.TOz PO)
  refine wpAny_bind (wpAny_seqItems PO2 rfl ?_)
  refine wpAny_bind (wpAny_updateSeq_pair PO2 fun g3 PO3 S3 => ?_)
  have PO3 : IsPair g3 tO x d := PO3
  refine wpAny_bind (wpAny_letGo (wpAny_pure ?_)); refine wpAny_bind ?_; refine wpAny_bind (wpAny_onRaise ?_)
  show wpAny _ _ (Builtin.SmallTypes.nextOf (.ref r) >>= _) _ _ _
  refine wpAny_bind (nx_item (((J.ext S1.extBut D.i2z).ext S2.extBut D.i12.symm).ext S3.extBut D.TOi2.symm) (((M.ext S1.extBut D.l2z).ext S2.extBut D.l2i1).ext S3.extBut D.l2TO) ey fun g4 J4 S4 => wpAny_pure ?_)
  have PO4 : IsPair g4 tO x d := S4.extBut _ _ D.TOi2 PO3
  refine wpAny_bind (wpAny_seqItems PO4 rfl ?_)
  refine wpAny_bind (wpAny_updateSeq_pair PO4 fun g5 PO5 S5 => ?_)
  have PO5 : IsPair g5 tO x y := PO5
  refine wpAny_bind (wpAny_letGo (wpAny_pure (wpAny_pure ?_))); refine wpAny_bind (wpAny_seqItems PO5 rfl ?_); refine wpAny_bind (wpAny_newTuple ?_)
  have sz : g5.objs.size = s.heap.objs.size := by rw [S5.1, S4.1, S3.1, S2.1, S1.1]
  have Z5 : IsZip g5 z tI tO .ellipsis := S5.extBut _ _ D.TOz.symm (S4.extBut _ _ D.i2z.symm (S3.extBut _ _ D.TOz.symm (S2.extBut _ _ D.i1z.symm Z1)))
  have kp : ∀ b o, b ≠ z → b ≠ tO → b ≠ p → b ≠ r → s.heap.get? b = some o → g5.get? b = some o := fun b o n1 n2 n3 n4 e => S5.extBut _ _ n2 (S4.extBut _ _ n4 (S3.extBut _ _ n2 (S2.extBut _ _ n3 (S1.extBut _ _ n1 e))))
  have I5 : Ir t g5 p la (i + 1) := ((I2.ext S3.extBut D.TOi1.symm).ext S4.extBut D.i12).ext S5.extBut D.TOi1.symm
  have J5 : Ir u g5 r lb (j + 1) := J4.ext S5.extBut D.TOi2.symm
  have zlt : z < g5.objs.size := Heap.lt_size Z5
  show wpAny _ _ (Builtin.SmallTypes.ownedTupleHandOut (.ref z) (.ref g5.objs.size) >>= _) _ _ _; refine wpAny_bind ?_
  delta Builtin.SmallTypes.ownedTupleHandOut
  have Z6 : IsZip (g5.push { cls := .type "tuple", data := .seq #[x, y] }) z tI tO .ellipsis := Heap.get?_push_of_some _ Z5
  refine wpAny_bind (wpAny_setField_rec Z6 (by simp) fun g7 Z7 S7 => ?_)
  have Z7 : IsZip g7 z tI tO (rawInt g5.objs.size) := Z7
  refine wpAny_setField_rec Z7 (by simp) fun g8 Z8 S8 => ?_
  have Z8 : IsZip g8 z tI tO (rawInt g5.objs.size) := Z8
  have up : ∀ b o, b ≠ z → g5.get? b = some o → g8.get? b = some o := fun b o n e => S8.extBut _ _ n (S7.extBut _ _ n (Heap.get?_push_of_some _ e))
  have T8 : IsPair g8 g5.objs.size x y := S8.extBut _ _ (Nat.ne_of_gt zlt) (S7.extBut _ _ (Nat.ne_of_gt zlt) (Heap.get?_push_size _ rfl))
  have sz8 : g8.objs.size = g5.objs.size + 1 := by rw [S8.1, S7.1, Heap.size_push]
  rw [sz] at Z8 T8 sz8
  refine wpAny_pure ⟨_, rfl, ?_⟩
  show Q (.ref g5.objs.size) _
  rw [sz]
  exact q g8 Z8 (up _ _ D.TOz PO5) (I5.to fun o e => up _ o D.i1z e) (J5.to fun o e => up _ o D.i2z e) T8 sz8 fun b o n1 n2 n3 n4 e => up b o n1 (kp b o n1 n2 n3 n4 e)
/-- at its end -/
theorem next_end {z tI tO p r la lb : Addr} {i j : Nat} {xs ys : Array Value} {c d : Value} {Q : Fin → Shared → Prop} (hh : A.handled = none) (D : ZipApart z tI tO p r la lb) (Z : IsZip s.heap z tI tO .none) (PI : IsPair s.heap tI (.ref p) (.ref r)) (PO : IsPair s.heap tO c d)
    (I : Ir t s.heap p la i) (J : Ir u s.heap r lb j) (L : Sq t s.heap la xs) (M : Sq u s.heap lb ys) (en : xs[i]? = none ∨ ys[j]? = none)
    (q : ∀ h' x, (∀ b o, b ≠ z → b ≠ tO → b ≠ p → b ≠ r → s.heap.get? b = some o → h'.get? b = some o) → (∃ o, h'.get? x = some o ∧ o.cls = .type "StopIteration") → E (.ref x) { s with heap := h' }) :
    wpAny (model prog w) A (Builtin.«zip.__next__» ⟨[.ref z], []⟩) Q E s := by
  show wpAny _ _ (field (.ref z) 2 >>= _) _ _ _; refine wpAny_bind (wpAny_field Z rfl (x := .bool false) rfl ?_)
  show wpAny _ _ (field (.ref z) 3 >>= _) _ _ _; refine wpAny_bind (wpAny_field Z rfl (x := .ref tI) rfl ?_)
  refine wpAny_bind (wpAny_seqItems PI rfl ?_)
  show wpAny _ _ (Builtin.SmallTypes.ownedTupleIsFree (.ref z) >>= _) _ _ _; refine wpAny_bind ?_
  delta Builtin.SmallTypes.ownedTupleIsFree; refine wpAny_bind (wpAny_field Z rfl (x := .none) rfl (wpAny_pure ?_))
  simp only [if_true]
  refine wpAny_bind (wpAny_rule ?_); refine wpAny_bind (wpAny_field Z rfl (x := .ref tO) rfl ?_)
  refine wpAny_bind (wpAny_setField_rec Z (by simp) fun g1 Z1 S1 => ?_)
  have Z1 : IsZip g1 z tI tO .ellipsis := Z1
  refine wpAny_bind ?_
  simp only [List.zipIdx_nil, List.zipIdx_cons, List.forIn_nil, List.forIn_cons]
  refine wpAny_bind ?_; refine wpAny_bind (wpAny_onRaise ?_)
  show wpAny _ _ (Builtin.SmallTypes.nextOf (.ref p) >>= _) _ _ _
  cases ex : xs[i]? with
  | none =>
    refine wpAny_bind (nx_end hh (I.ext S1.extBut D.i1z) (L.ext S1.extBut D.l1z) ex fun g2 x S2 hx => ?_)
    obtain ⟨o, ho, hc⟩ := hx
    have Z2 : IsZip g2 z tI tO .ellipsis := S2 _ _ D.i1z.symm Z1
    have nz : x ≠ z := fun y => by subst y; rw [Z2] at ho; cases ho; simp at hc
    exact wpAny_setField_rec Z2 (by simp) fun g3 _ S3 => q g3 x (fun b o n1 _ n3 _ e => S3.extBut _ _ n1 (S2 _ _ n3 (S1.extBut _ _ n1 e))) ⟨o, S3.extBut _ _ nz ho, hc⟩
  | some x =>
    have ey : ys[j]? = none := en.elim (fun h => by rw [ex] at h; cases h) id
    refine wpAny_bind (nx_item (I.ext S1.extBut D.i1z) (L.ext S1.extBut D.l1z) ex fun g2 I2 S2 => wpAny_pure ?_)
    have PO2 : IsPair g2 tO c d := S2.extBut _ _ D.TOi1 (S1.extBut _ _ D.TOz PO)
    refine wpAny_bind (wpAny_seqItems PO2 rfl ?_)
    refine wpAny_bind (wpAny_updateSeq_pair PO2 fun g3 PO3 S3 => ?_)
    refine wpAny_bind (wpAny_letGo (wpAny_pure ?_)); refine wpAny_bind ?_; refine wpAny_bind (wpAny_onRaise ?_)
    show wpAny _ _ (Builtin.SmallTypes.nextOf (.ref r) >>= _) _ _ _
    refine wpAny_bind (nx_end hh (((J.ext S1.extBut D.i2z).ext S2.extBut D.i12.symm).ext S3.extBut D.TOi2.symm) (((M.ext S1.extBut D.l2z).ext S2.extBut D.l2i1).ext S3.extBut D.l2TO) ey fun g4 y S4 hy => ?_)
    obtain ⟨o, ho, hc⟩ := hy
    have Z4 : IsZip g4 z tI tO .ellipsis := S4 _ _ D.i2z.symm (S3.extBut _ _ D.TOz.symm (S2.extBut _ _ D.i1z.symm Z1))
    have nz : y ≠ z := fun v => by subst v; rw [Z4] at ho; cases ho; simp at hc
    exact wpAny_setField_rec Z4 (by simp) fun g5 _ S5 => q g5 y (fun b o n1 n2 n3 n4 e => S5.extBut _ _ n1 (S4 _ _ n4 (S3.extBut _ _ n2 (S2.extBut _ _ n3 (S1.extBut _ _ n1 e))))) ⟨o, S5.extBut _ _ nz ho, hc⟩
theorem pn_item {z tI tO p r la lb : Addr} {i j : Nat} {xs ys : Array Value} {x y c d : Value} {Q : Option Value → Shared → Prop} (D : ZipApart z tI tO p r la lb) (Z : IsZip s.heap z tI tO .none) (PI : IsPair s.heap tI (.ref p) (.ref r)) (PO : IsPair s.heap tO c d)
    (I : Ir t s.heap p la i) (J : Ir u s.heap r lb j) (L : Sq t s.heap la xs) (M : Sq u s.heap lb ys) (ex : xs[i]? = some x) (ey : ys[j]? = some y)
    (q : ∀ h', IsZip h' z tI tO (rawInt s.heap.objs.size) → IsPair h' tO x y → Ir t h' p la (i + 1) → Ir u h' r lb (j + 1) → IsPair h' s.heap.objs.size x y → h'.objs.size = s.heap.objs.size + 1 →
      (∀ b o, b ≠ z → b ≠ tO → b ≠ p → b ≠ r → s.heap.get? b = some o → h'.get? b = some o) → Q (some (.ref s.heap.objs.size)) { s with heap := h' }) : wpAny (model prog w) A (pyNext (.ref z)) Q E s := by
  have ty : s.TypeIs (.ref z) "zip" := ⟨_, Z, rfl⟩
  delta pyNext
  refine wpAny_bind (wpAny_attempt (wpAny_callSpecial?_slot (name := Str.ofString "__next__") ty F.slot_zip_next ?_))
  exact wpAny_call_entry F.slot_zip_next ty F.entry_zip_next (next_item D Z PI PO I J L M ex ey fun h' b1 b2 b3 b4 b5 b6 b7 => wpAny_pure (q h' b1 b2 b3 b4 b5 b6 b7)) (F.args_zip_next_1 _)
theorem pn_end {z tI tO p r la lb : Addr} {i j : Nat} {xs ys : Array Value} {c d : Value} {Q : Option Value → Shared → Prop} (hh : A.handled = none) (D : ZipApart z tI tO p r la lb) (Z : IsZip s.heap z tI tO .none) (PI : IsPair s.heap tI (.ref p) (.ref r)) (PO : IsPair s.heap tO c d)
    (I : Ir t s.heap p la i) (J : Ir u s.heap r lb j) (L : Sq t s.heap la xs) (M : Sq u s.heap lb ys) (en : xs[i]? = none ∨ ys[j]? = none)
    (q : ∀ h', (∀ b o, b ≠ z → b ≠ tO → b ≠ p → b ≠ r → s.heap.get? b = some o → h'.get? b = some o) → Q none { s with heap := h' }) : wpAny (model prog w) A (pyNext (.ref z)) Q E s := by
  have ty : s.TypeIs (.ref z) "zip" := ⟨_, Z, rfl⟩
  delta pyNext
  refine wpAny_bind (wpAny_attempt (wpAny_callSpecial?_slot (name := Str.ofString "__next__") ty F.slot_zip_next ?_))
  refine wpAny_call_entry F.slot_zip_next ty F.entry_zip_next (next_end hh D Z PI PO I J L M en fun h' x hk hx => ?_) (F.args_zip_next_1 _)
  obtain ⟨o, ho, hc⟩ := hx
  exact wpAny_bind (wpAny_isInstance (T := "StopIteration") (b := true) ⟨o, ho, hc⟩ isSubtype_stop (wpAny_pure (q _ hk)))
end
abbrev itO (t : Bool) (l : Addr) : Obj := { cls := .type (if t then "tuple_iterator" else "list_iterator"), data := .fields #[.ref l, .int 0 0] }
abbrev prO (a b : Value) : Obj := { cls := .type "tuple", data := .seq #[a, b] }
abbrev k1 (t : Bool) (h : Heap) (l : Addr) : Heap := h.push (itO t l)
abbrev k2 (t u : Bool) (h : Heap) (l m : Addr) : Heap := (k1 t h l).push (itO u m)
abbrev k3 (t u : Bool) (h : Heap) (l m : Addr) : Heap := (k2 t u h l m).push (prO (.ref h.objs.size) (.ref (k1 t h l).objs.size))
abbrev k4 (t u : Bool) (h : Heap) (l m : Addr) : Heap := (k3 t u h l m).push (prO .none .none)
abbrev k5 (t u : Bool) (h : Heap) (l m : Addr) : Heap := (k4 t u h l m).push { cls := .type "zip", data := .fields #[.none, .bool false, .bool false, .ref (k2 t u h l m).objs.size, .ref (k3 t u h l m).objs.size] }
theorem Sq.push {t : Bool} {h : Heap} {a : Addr} {xs : Array Value} (x : Sq t h a xs) (o : Obj) : Sq t (h.push o) a xs := by
  cases t
  · obtain ⟨b, e, r⟩ : h.IsList a xs := x
    exact ⟨b, Heap.get?_push_of_some _ e, r⟩
  · obtain ⟨b, e, r⟩ : h.IsTuple a xs := x
    exact ⟨b, Heap.get?_push_of_some _ e, r⟩
theorem new_zip (t u : Bool) (l m : Addr) (xs ys : Array Value) : Meets (Builtin.«zip.__new__» ⟨[.type "zip", .ref l, .ref m], []⟩) (fun _ R s => Sq t s.heap l xs ∧ Sq u s.heap m ys ∧ R (.ok (.ret (.ref (k4 t u s.heap l m).objs.size))) { s with heap := k5 t u s.heap l m }) :=
  .of_wp fun prog w A R s q => by
    obtain ⟨hp, g, d, tk, os⟩ := s
    obtain ⟨q1, q2, q3⟩ := q
    have zz := sub_zip
    have Q1 : Sq t (Shared.heap ⟨hp, g, d, tk, os⟩) l xs := q1
    have Q2 : Sq u (Shared.heap ⟨hp.push (itO t l), g, d, tk, os⟩) m ys := q2.push _
    wp_walk using it_new Q1, it_new Q2
    exact ⟨_, rfl, q3⟩
section
variable {prog : Program} {w : World} {A : Around} {E : Value → Shared → Prop} {s : Shared} {t u : Bool}
theorem call_zip {l m : Addr} {xs ys : Array Value} {Q : Value → Shared → Prop} (L : Sq t s.heap l xs) (M : Sq u s.heap m ys)
    (q : ∀ h', IsZip h' (s.heap.objs.size + 4) (s.heap.objs.size + 2) (s.heap.objs.size + 3) .none → IsPair h' (s.heap.objs.size + 2) (.ref s.heap.objs.size) (.ref (s.heap.objs.size + 1)) → IsPair h' (s.heap.objs.size + 3) .none .none → Ir t h' s.heap.objs.size l 0 → Ir u h' (s.heap.objs.size + 1) m 0 →
      (∀ c o, s.heap.get? c = some o → h'.get? c = some o) → Q (.ref (s.heap.objs.size + 4)) { s with heap := h' }) : wpAny (model prog w) A (call (.type "zip") [.ref l, .ref m]) Q E s := by
  refine callType_new F.called_zip (by decide) (F.typeCall_zip_2 _ _) (F.newCall_zip_2 _ _) (fun o => F.args_object_init_3 o _ _) F.entry_zip_new (new_zip t u l m xs ys) ⟨L, M, ?_⟩
  have n1 : (k1 t s.heap l).objs.size = s.heap.objs.size + 1 := Heap.size_push ..
  have n2 : (k2 t u s.heap l m).objs.size = s.heap.objs.size + 2 := by rw [Heap.size_push, n1]
  have n3 : (k3 t u s.heap l m).objs.size = s.heap.objs.size + 3 := by rw [Heap.size_push, n2]
  have n4 : (k4 t u s.heap l m).objs.size = s.heap.objs.size + 4 := by rw [Heap.size_push, n3]
  have e5 : (k5 t u s.heap l m).get? (k4 t u s.heap l m).objs.size = some _ := Heap.get?_push_size _ rfl
  have e4 : (k5 t u s.heap l m).get? (k3 t u s.heap l m).objs.size = some _ := Heap.get?_push_of_some _ (Heap.get?_push_size _ rfl)
  have e3 : (k5 t u s.heap l m).get? (k2 t u s.heap l m).objs.size = some _ := Heap.get?_push_of_some _ (Heap.get?_push_of_some _ (Heap.get?_push_size _ rfl))
  have e2 : (k5 t u s.heap l m).get? (k1 t s.heap l).objs.size = some (itO u m) := Heap.get?_push_of_some _ (Heap.get?_push_of_some _ (Heap.get?_push_of_some _ (Heap.get?_push_size _ rfl)))
  have e1 : (k5 t u s.heap l m).get? s.heap.objs.size = some (itO t l) := Heap.get?_push_of_some _ (Heap.get?_push_of_some _ (Heap.get?_push_of_some _ (Heap.get?_push_of_some _ (Heap.get?_push_size _ rfl))))
  have J1 : Ir t (k5 t u s.heap l m) s.heap.objs.size l 0 := by
    cases t
    · exact ⟨_, e1, rfl, rfl⟩
    · exact ⟨_, e1, rfl, rfl⟩
  have J2 : Ir u (k5 t u s.heap l m) (k1 t s.heap l).objs.size m 0 := by
    cases u
    · exact ⟨_, e2, rfl, rfl⟩
    · exact ⟨_, e2, rfl, rfl⟩
  show _ ∧ _
  rw [n2, n3, n4] at e5
  rw [n1, n2] at e3
  rw [n3] at e4
  rw [n1] at J2
  rw [n4]
  exact ⟨⟨_, e5, rfl⟩, q _ e5 e3 e4 J1 J2 fun c o x => Heap.get?_push_of_some _ (Heap.get?_push_of_some _ (Heap.get?_push_of_some _ (Heap.get?_push_of_some _ (Heap.get?_push_of_some _ x))))⟩
end
end ZX

/-! The data layer: zip. -/
namespace ZX
open PySem PySem.Spec PyProof.Rows L2
def SX (t : Bool) (K : PySem.W.Frag) (H : Hp) (a : Addr) (xs : List V) : Prop := match t with
  | true => SqT K H a xs
  | false => SqL K H a xs
section
variable {X : Cx} {pins : List (Addr × Obj)} {σ : L2.St} {H : Hp} {s : Shared} {t : Bool} {a : Addr} {xs ys : List V}
theorem sx_at (I : Inv X pins σ H s) (h : SX t X.K H a xs) : ∃ us : List Value, Vals xs us ∧ Sq t s.heap a us.toArray := by
  cases t
  · obtain ⟨us, r, p, _⟩ := I.list h
    exact ⟨us, r, p.isList⟩
  · obtain ⟨us, r, p, _⟩ := I.tuple h
    exact ⟨us, r, p⟩
theorem sx_inj (I : Inv X pins σ H s) (h : SX t X.K H a xs) (g : SX t X.K H a ys) : xs = ys := by
  cases t
  · exact I.list_inj h g
  · exact I.tuple_inj h g
end
/-- what stands at a and b, in new pairs -/
def ItM (t u : Bool) (K : PySem.W.Frag) (a b : Addr) : It :=
  ⟨fun i H => ∃ (xs ys : List V) (x y : V), SX t K H a xs ∧ SX u K H b ys ∧ xs[i]? = some x ∧ ys[i]? = some y,
    fun i H v H' => ∃ T x y, v = .ref T ∧ H T = none ∧ H' = upd H T (.tup [x, y]) ∧ (∀ xs, SX t K H a xs → xs[i]? = some x) ∧ ∀ ys, SX u K H b ys → ys[i]? = some y,
    fun i H => ∃ xs ys : List V, SX t K H a xs ∧ SX u K H b ys ∧ (xs.length ≤ i ∨ ys.length ≤ i)⟩
theorem turnM {P : Program} {w : World} {K : PySem.W.Frag} {t u : Bool} {el : List Expr} {kk : Nat} {tp : Pos} {a b z tI tO p r : Addr} (D : ZipApart z tI tO p r a b) :
    Turn P w K (.Tuple el kk tp) (ItM t u K a b) [z, tI, tO, p, r] z (fun i h => IsZip h z tI tO .none ∧ IsPair h tI (.ref p) (.ref r) ∧ (∃ x y, IsPair h tO x y) ∧ Ir t h p a i ∧ Ir u h r b i) where
  mem := List.mem_cons_self
  obj := fun i h ⟨g1, g2, ⟨x, y, g3⟩, g4, g5⟩ c hc => by
    obtain ⟨o1, e1, d1⟩ := g4.ob
    obtain ⟨o2, e2, d2⟩ := g5.ob
    have cs : c = z ∨ c = tI ∨ c = tO ∨ c = p ∨ c = r := by simpa using hc
    rcases cs with rfl | rfl | rfl | rfl | rfl
    · exact ⟨_, g1, fun v n => nomatch n⟩
    · exact ⟨_, g2, fun v n => nomatch n⟩
    · exact ⟨_, g3, fun v n => nomatch n⟩
    · exact ⟨o1, e1, fun v n => by rw [d1] at n; cases n⟩
    · exact ⟨o2, e2, fun v n => by rw [d2] at n; cases n⟩
  keep := fun i h h' ⟨g1, g2, ⟨x, y, g3⟩, g4, g5⟩ k => ⟨k z (by simp) _ g1, k tI (by simp) _ g2, ⟨x, y, k tO (by simp) _ g3⟩, g4.to fun o e => k p (by simp) o e, g5.to fun o e => k r (by simp) o e⟩
  item := by
    intro X hP hw hK hc i pins s σ H E I hf ⟨g1, g2, ⟨x0, y0, g3⟩, g4, g5⟩ ⟨xs, ys, x, y, qx, qy, ex, ey⟩
    subst hP hw hK
    obtain ⟨us, rv, L⟩ := sx_at I qx
    obtain ⟨vs, rw', M⟩ := sx_at I qy
    obtain ⟨v1, hv1, r1⟩ := rv.get ex
    obtain ⟨v2, hv2, r2⟩ := rw'.get ey
    have zl : z < s.heap.objs.size := Heap.lt_size g1
    refine pn_item D g1 g2 g3 g4 g5 L M (x := v1) (y := v2) (by simpa using hv1) (by simpa using hv2) fun h' f1 f2 f3 f4 f5 _ f7 => ?_
    refine ⟨_, rfl, wpAny_letOwnedTupleGo_zip (s := { s with heap := h' }) f1 fun h2 f8 sb => ?_⟩
    have T2 : h2.get? s.heap.objs.size = some (prO v1 v2) := (sb.2 _ (Nat.ne_of_gt zl)).trans f5
    have ok : ObjOk X.prog X.w (upd H s.heap.objs.size (.tup [x, y])) h2 s.heap.objs.size (.tup [x, y]) := ⟨by show 2 ≤ sizeLine; decide, [v1, v2], .cons r1 (.cons r2 .nil), ⟨_, T2, rfl, _, rfl⟩⟩
    have ne5 : ∀ c, c ∉ [z, tI, tO, p, r] → c ≠ z ∧ c ≠ tO ∧ c ≠ p ∧ c ≠ r := fun c n => ⟨fun e => n (by simp [e]), fun e => n (by simp [e]), fun e => n (by simp [e]), fun e => n (by simp [e])⟩
    have I1 : Inv X pins σ (upd H s.heap.objs.size (.tup [x, y])) { s with heap := h2 } := by
      refine I.turnedNew (t' := s.toks) (ch := [z, tI, tO, p, r]) (fun c o n e => ?_) hf (Nat.le_refl _) ok
      obtain ⟨n1, n2, n3, n4⟩ := ne5 c n
      exact (sb.2 c n1).trans (f7 c o n1 n2 n3 n4 e)
    refine ⟨.ref s.heap.objs.size, _, I1, rfl, ⟨_, x, y, rfl, I.hok.fresh (Nat.le_refl _), rfl, fun l e => ?_, fun l e => ?_⟩, ⟨f8, ?_, ⟨v1, v2, (sb.2 _ D.TOz).trans f2⟩, f3.to fun o e => (sb.2 _ D.i1z).trans e, f4.to fun o e => (sb.2 _ D.i2z).trans e⟩, fun c hcm => ?_⟩
    · rw [sx_inj I e qx]; exact ex
    · rw [sx_inj I e qy]; exact ey
    · exact (sb.2 _ D.TIz).trans (f7 _ _ D.TIz D.TITO D.TIi1 D.TIi2 g2)
    · have lt : c < s.heap.objs.size := by
        obtain ⟨o1, e1, _⟩ := g4.ob
        obtain ⟨o2, e2, _⟩ := g5.ob
        have cs : c = z ∨ c = tI ∨ c = tO ∨ c = p ∨ c = r := by simpa using hcm
        rcases cs with rfl | rfl | rfl | rfl | rfl
        · exact zl
        · exact Heap.lt_size g2
        · exact Heap.lt_size g3
        · exact Heap.lt_size e1
        · exact Heap.lt_size e2
      rw [upd_ne (Nat.ne_of_lt lt)]
      exact (hf c hcm).1
  done := by
    intro X hP hw hK hc i pins s σ H E I hf ⟨g1, g2, ⟨x0, y0, g3⟩, g4, g5⟩ ⟨xs, ys, qx, qy, en⟩
    subst hP hw hK
    obtain ⟨us, rv, L⟩ := sx_at I qx
    obtain ⟨vs, rw', M⟩ := sx_at I qy
    have l1 := rv.length
    have l2 := rw'.length
    have en' : us.toArray[i]? = none ∨ vs.toArray[i]? = none := en.elim (fun e => .inl (by simp; omega)) fun e => .inr (by simp; omega)
    refine pn_end (I.ok.hd hc) D g1 g2 g3 g4 g5 L M en' fun h' f => ⟨rfl, I.turnedL (t' := s.toks) (ch := [z, tI, tO, p, r]) (fun c o n e => ?_) hf⟩
    exact f c o (fun y => n (by simp [y])) (fun y => n (by simp [y])) (fun y => n (by simp [y])) (fun y => n (by simp [y])) e
  self := fun A i s Q E st q => wpAny_pyIter_zip st.1 q
def iZM (K : PySem.W.Frag) (ta : TA) : TI := fun σ H R => ta σ H fun vs H1 => ∃ a b t u xs ys, vs = [.ref a, .ref b] ∧ SX t K H1 a xs ∧ SX u K H1 b ys ∧ R (ItM t u K a b) H1
theorem pi_zM {X : Cx} {e f : Expr} {ta : TA} {p pos tp : Pos} {el : List Expr} {kk : Nat} (hg : Gl X "zip") (hm : X.mg "zip" = none) (ha : PA X [e, f] ta) (he : starEach [e, f] X.env = (false, eval e X.env) :: starEach [f] X.env := by rfl) (hpl : (backTo pos (starEach [f] X.env)).any (·.1) = false := by rfl) :
    PI X (.Tuple el kk tp) (.Call (.Name "zip" p) [e, f] [] pos) (iZM X.K ta) := by
  constructor
  intro pins s σ H R I h
  refine Call_ (ld_blt I hg hm PyProof.Rows.boot_zip (PyProof.Rows.callWith_type1 (thn (ha.run pos pins s σ H _ I h) ?_) he hpl))
  rintro us s1 ⟨vs, H1, I1, r1, a, b, t, u, xs, ys, rfl, qx, qy, q⟩
  cases r1 with
  | cons r r2 =>
  cases r2 with
  | cons r' r3 =>
  cases r3
  cases r
  cases r'
  obtain ⟨is, rv, L⟩ := sx_at I1 qx
  obtain ⟨js, rw', M⟩ := sx_at I1 qy
  obtain ⟨o1, e1⟩ := L.ob
  obtain ⟨o2, e2⟩ := M.ob
  refine call_zip L M fun h' g1 g2 g3 g4 g5 kp => wpAny_pyIter_zip g1 ?_
  have I2 : Inv X pins σ H1 { s1 with heap := h' } := I1.kept (t' := s1.toks) kp
  have D := PySem.W.ktu_apart s1.heap.objs.size a b (Heap.lt_size e1) (Heap.lt_size e2)
  have fr : ∀ c, c ∈ [s1.heap.objs.size + 4, s1.heap.objs.size + 2, s1.heap.objs.size + 3, s1.heap.objs.size, s1.heap.objs.size + 1] → FpOk X pins H1 c := fun c m => by
    have le : s1.heap.objs.size ≤ c := by
      simp only [List.mem_cons, List.not_mem_nil, or_false] at m
      rcases m with m | m | m | m | m <;> rw [m] <;> first | exact Nat.le_add_right _ _ | exact Nat.le_refl _
    exact I1.fpOk le (I1.hok.fresh le)
  exact ⟨s1.heap.objs.size + 4, _, _, _, H1, rfl, I2, turnM D, ⟨g1, g2, ⟨_, _, g3⟩, g4, g5⟩, fr, q⟩
theorem walkM {K : PySem.W.Frag} {t u : Bool} {a b : Addr} {xs ys : List V} {n : Nat} (hn : n = min xs.length ys.length) : Walk (ItM t u K a b) n (fun H => SX t K H a xs ∧ SX u K H b ys) (YPair (fun i => xs[i]?) (fun i => ys[i]?)) := by
  refine ⟨fun i _ hi q => ?_, fun _ q => ⟨xs, ys, q.1, q.2, by omega⟩, fun i H v H' _ q ⟨T, x, z, c1, c2, c3, c4, c5⟩ => ⟨T, x, z, c1, c2, c3, c4 xs q.1, c5 ys q.2⟩⟩
  have h1 : i < xs.length := by omega
  have h2 : i < ys.length := by omega
  exact ⟨xs, ys, xs[i], ys[i], q.1, q.2, by simp [h1], by simp [h2]⟩
end ZX
namespace DL
open PySem PySem.Spec L2
variable [Tbs]
/-- the items of a list or a tuple -/
def dSeq : D → Option (List D)
  | .lst xs => some xs
  | .tup xs => some xs
  | _ => none
def zpD (xs ys : List D) : List D := (xs.zip ys).map fun p => .tup [p.1, p.2]
/-- zip(a, b) -/
def iZp (al : List Nat) (f : Exs) : Exs := fun ρ => (f ρ).bind fun ds => match ds with
  | [x, y] => (dSeq x).bind fun xs => (dSeq y).bind fun ys => if noO al ρ = true then some (zpD xs ys) else none
  | _ => none
theorem seq_sx {K : PySem.W.Frag} {W : Hp} {v : V} {d : D} {xs : List D} (r : Rp K W v d) (e : dSeq d = some xs) : ∃ a t vs, v = .ref a ∧ (∀ H', Same W H' → ZX.SX t K H' a vs) ∧ RpAll K W vs xs := by
  cases d with
  | lst ys =>
    cases e
    obtain ⟨a, vs, rfl, k, ra⟩ := rp_lst r
    exact ⟨a, false, vs, rfl, fun H' s => .inl (.inl (s _ _ k)), ra⟩
  | tup ys =>
    cases e
    obtain ⟨a, vs, rfl, k, ra⟩ := rp_tup r
    exact ⟨a, true, vs, rfl, fun H' s => sqT_mono s k, ra⟩
  | _ => cases e
theorem di_zip {X : Cx} {a b : Expr} {fs : Exs} {al : List Nat} {p pos tp : Pos} {el : List Expr} {kk : Nat} (hg : Gl X "zip") (hm : X.mg "zip" = none) (ha : DA X [a, b] fs al) (he : starEach [a, b] X.env = (false, eval a X.env) :: starEach [b] X.env := by rfl) (hpl : (backTo pos (starEach [b] X.env)).any (·.1) = false := by rfl) :
    DI X (.Tuple el kk tp) (.Call (.Name "zip" p) [a, b] [] pos) (iZp al fs) al := pi_imp (ZX.pi_zM hg hm ha he hpl) fun σ H R ⟨ρ, O, W, ds, rs, e, q⟩ => by
  obtain ⟨xy, e1, e⟩ := opt_bind e
  match xy, e with
  | [x, y], e =>
    obtain ⟨xs, e2, e⟩ := opt_bind e
    obtain ⟨ys, e3, e⟩ := opt_bind e
    split at e
    · rename_i hno
      cases e
      refine ⟨ρ, O, W, [x, y], rs, e1, fun vs W1 H1 s1 ra => ?_⟩
      rw [vw_noO hno] at ra
      cases ra with
      | cons h1 ra =>
      cases ra with
      | cons h2 ra =>
      cases ra
      obtain ⟨a1, t, us, rfl, g1, r1⟩ := seq_sx h1 e2
      obtain ⟨a2, u, ws, rfl, g2, r2⟩ := seq_sx h2 e3
      have sb : Same W1 H1 := s1.sub.trans tb_le
      refine ⟨a1, a2, t, u, us, ws, rfl, g1 H1 sb, g2 H1 sb, q _ W1 H1 s1 ⟨_, _, ZX.walkM (n := (zpD xs ys).length) ?_, fun H' s => ⟨g1 H' (vw_le.trans s), g2 H' (vw_le.trans s)⟩, fun i Ha x' Hb hi y' => ?_⟩⟩
      · unfold zpD
        rw [List.length_map, List.length_zip, r1.length, r2.length]
      · obtain ⟨T, vx, vy, rfl, n, rfl, k1, k2⟩ := y'
        obtain ⟨dx, ex, px⟩ := r1.getV k1
        obtain ⟨dy, ey, py⟩ := r2.getV k2
        refine ⟨.tup [dx, dy], ?_, fun W2 sW sH => ?_⟩
        · unfold zpD
          rw [List.getElem?_map, List.getElem?_zip_eq_some (z := (dx, dy)) |>.mpr ⟨ex, ey⟩]
          rfl
        · have st := upd_step sH n (nt_tup (vs := [vx, vy]))
          exact ⟨_, st, .tup (.inl (.inl upd_same)) (.cons (rp_mono (sW.trans st.le) px) (.cons (rp_mono (sW.trans st.le) py) .nil))⟩
    · cases e
end DL

/-! The data layer: x, y = a, b. -/
namespace DL
open PySem PySem.Spec L2
variable [Tbs]
def sPar (i j : Nat) (al : List Nat) (fs : Exs) : Sx := fun ρ => (fs ρ).bind fun ds => match ds with
  | [d, e] => if (noO al ρ || noLs [d, e]) = true then some (.nx ((ρ.set i (.val d)).set j (.val e))) else none
  | _ => none
theorem ds_par {X : Cx} {a b : Expr} {fs : Exs} {al : List Nat} {i j kt k2 : Nat} {x y : Str} {px py pt pt2 pos : Pos} (hc : X.calm = true) (hN : X.N.Nodup) (hi : X.N[i]? = some x) (hj : X.N[j]? = some y) (hij : i ≠ j) (hx : X.env.scope.names.lookup x = some .local) (hy : X.env.scope.names.lookup y = some .local) (ha : DA X [a, b] fs al)
    (hw : swappedStores [.Tuple [.Name x px, .Name y py] kt pt] (.Tuple [a, b] k2 pt2) X.env = pure (some [x, y]) := by rfl) (hs : swapsWithSole [.Tuple [.Name x px, .Name y py] kt pt] (.Tuple [a, b] k2 pt2) pos.line X.env = pure false := by rfl) : DS X (.Assign [.Tuple [.Name x px, .Name y py] kt pt] (.Tuple [a, b] k2 pt2) pos) (sPar i j al fs) := ps_imp (ps_par hc hN hi hj hij hx hy ha hw hs) fun E σ H ⟨ρ, O, W, out, rs, e, q⟩ => by
  obtain ⟨ds, e1, e⟩ := opt_bind e
  match ds, e1, e with
  | [d, f], e1, e =>
    have e : (if (noO al ρ || noLs [d, f]) = true then some (Out.nx ((ρ.set i (.val d)).set j (.val f))) else none) = some out := e
    split at e
    · rename_i hno
      cases e
      refine ⟨ρ, O, W, [d, f], rs, e1, fun vs W1 H1 s1 ra => ?_⟩
      have r1 := rs.pstep s1
      have ra' : RpAll X.K W1 vs [d, f] := by
        rcases Bool.or_eq_true_iff.mp hno with z | z
        · rw [vw_noO z] at ra
          exact ra
        · exact rpAll_down r1 z ra
      cases ra' with
      | cons h1 t1 =>
      cases t1 with
      | cons h2 t2 =>
      cases t2
      exact ⟨_, _, rfl, q _ O W1 H1 s1.s ((r1.set h1).set h2)⟩
    · cases e
end DL

/-! The data layer: t[::-1] of a tuple that is not empty. -/
namespace HT
open PySem PyProof.Rows
section
variable {prog : Program} {w : World} {A : Around} {E : Value → Shared → Prop} {s : Shared}
theorem sliceApplied_rev {sl : Addr} {vk : Value} {n : Nat} {Q : Int × Int × Nat → Shared → Prop} (hs : s.heap.IsSliceOf sl .none .none vk) (pk : IsPart vk (some (-1))) (hn : 0 < n)
    (h : Q ((n : Int) - 1, -1, n) s) : wpAny (model prog w) A (Builtin.Slice.sliceApplied (.ref sl) (pure (n : Int))) Q E s := by
  obtain ⟨os, hos, hcs, hds⟩ := id hs
  unfold Builtin.Slice.sliceApplied Builtin.Slice.sliceFields
  refine wpAny_bind (wpAny_bind (wpAny_field hos hds (x := .none) rfl (wpAny_bind (wpAny_field hos hds (x := .none) rfl (wpAny_bind (wpAny_field hos hds (x := vk) rfl (wpAny_pure ?_)))))))
  refine wpAny_bind (slicePart_ pk ?_)
  show wpAny _ _ (if ((-1 : Int) == 0) = true then _ else _) _ _ s
  rw [if_neg (by decide)]
  refine wpAny_bind (slicePart_none (wpAny_bind (slicePart_none (wpAny_bind (wpAny_pure ?_)))))
  show wpAny _ _ (pure ((n : Int) - 1, (-1 : Int), Builtin.Slice.slicePlaces ((n : Int) - 1) (-1) (-1))) _ _ s
  have e : Builtin.Slice.slicePlaces ((n : Int) - 1) (-1) (-1) = n := by
    unfold Builtin.Slice.slicePlaces
    rw [if_neg (by decide), if_pos (by omega), show (- -1 : Int) = 1 by decide, Int.ediv_one]
    omega
  rw [e]
  exact wpAny_pure h
theorem fm_congr {α β : Type} {f g : α → Option β} : ∀ {l : List α}, (∀ x ∈ l, f x = g x) → l.filterMap f = l.filterMap g
  | [], _ => rfl
  | x :: l, h => by
    rw [List.filterMap_cons, List.filterMap_cons, h x List.mem_cons_self, fm_congr fun y m => h y (List.mem_cons_of_mem _ m)]
theorem pick_rev (xs : Array Value) : ((List.range xs.size).filterMap fun (m : Nat) => xs[((xs.size : Int) - 1 + (m : Int) * (-1)).toNat]?).toArray = xs.toList.reverse.toArray := by
  congr 1
  have e : ∀ m ∈ List.range xs.size, xs[((xs.size : Int) - 1 + (m : Int) * (-1)).toNat]? = xs.toList.reverse[m]? := fun m hm => by
    have hm := List.mem_range.mp hm
    have e1 : ((xs.size : Int) - 1 + (m : Int) * (-1)).toNat = xs.size - 1 - m := by omega
    rw [e1, List.getElem?_reverse (by rw [Array.length_toList]; exact hm), Array.length_toList, Array.getElem?_toList]
  rw [fm_congr e]
  have := PySem.W.krv_all xs.toList.reverse.toArray
  rw [List.size_toArray, List.length_reverse, Array.length_toList] at this
  refine Eq.trans ?_ (this.trans (by simp))
  refine fm_congr fun m hm => ?_
  rw [List.getElem?_toArray]
theorem getItem_tuple_rev {t sl : Addr} {items : Array Value} {vk : Value} {Q : Value → Shared → Prop} (ht : IsTup s.heap t items) (hs : s.heap.IsSliceOf sl .none .none vk) (pk : IsPart vk (some (-1))) (hn : 0 < items.size)
    (h : Q (.ref s.heap.objs.size) { s with heap := s.heap.push { cls := .type "tuple", data := .seq items.toList.reverse.toArray } })
    (hsz : items.size ≤ sizeLine) : wpAny (model prog w) A (getItem (.ref t) (.ref sl)) Q E s := by
  have htake : sizeOk (.seq items.toList.reverse.toArray) := by
    show items.toList.reverse.toArray.size ≤ sizeLine
    rw [List.size_toArray, List.length_reverse, Array.length_toList]
    exact hsz
  obtain ⟨os, hos, hcs, hds⟩ := id hs
  have hTs : s.TypeIs (.ref sl) "slice" := ⟨os, hos, hcs⟩
  unfold getItem
  try with_reducible refine wpAny_holding ?_
  first | refine wpAny_bind (wpAny_pure ?_) | skip
  refine wpAny_bind (wpAny_sequenceKey ht.typeIs (by decide) ?_)
  refine wpAny_bind (wpAny_callSpecial?_slot (name := Str.ofString "__getitem__") ht.typeIs PyProof.Rows.slot_tuple_getitem
    (wpAny_call_entry PyProof.Rows.slot_tuple_getitem ht.typeIs entry_tuple_getitem ?_ (args_tuple_getitem _ _)))
  show wpAny _ _ (Builtin.Tuple.tupleItemsOf (.ref t) >>= _) _ _ s
  refine wpAny_bind (tupleItemsOf_ ht ?_)
  refine wpAny_bind (wpAny_typeOf hTs ?_)
  rw [if_pos (by decide)]
  refine wpAny_bind (sliceApplied_rev hs pk hn ?_)
  have hno : ¬ ((((items.size : Int) - 1) == 0 && (-1 : Int) == 1 && items.size == items.size) = true) := by
    intro q
    rw [Bool.and_eq_true, Bool.and_eq_true] at q
    exact absurd q.1.2 (by decide)
  show wpAny _ _ (if (((items.size : Int) - 1) == 0 && (-1 : Int) == 1 && items.size == items.size) = true then _ else _) _ _ s
  rw [if_neg hno, pick_rev]
  first
    | exact wpAny_bind (m := Builtin.Tuple.tupleExact _) (wpAny_newObj_type (wpAny_pure ⟨_, rfl, wpAny_pure h⟩) htake)
    | exact wpAny_bind (m := Builtin.Tuple.tupleExact _) (wpAny_newObj_type (wpAny_bind (wpAny_pure (wpAny_pure ⟨_, rfl, wpAny_pure h⟩))) htake)
    | exact wpAny_bind (wpAny_bind (m := Builtin.Tuple.tupleExact _) (wpAny_newObj_type (wpAny_pure (wpAny_pure ⟨_, rfl, wpAny_pure h⟩)) htake))
    | exact wpAny_bind (wpAny_bind (m := Builtin.Tuple.tupleExact _) (wpAny_newObj_type (wpAny_pure ⟨_, rfl, wpAny_pure h⟩) htake))
end
end HT
namespace L2
open PySem PySem.Spec PyProof.Rows
section
variable {X : Cx} {e : Expr} {te : TE} {k : Expr} {tk : TO} {pos p2 : Pos}
def tRev (K : PySem.W.Frag) (te : TE) (tk : TO) : TE := fun σ H Q => te σ H fun x H1 => tk σ H1 fun o H2 => o = some (-1) ∧ ∃ a xs, x = .ref a ∧ SqT K H2 a xs ∧ xs ≠ [] ∧ ∀ p, H2 p = none → Q (.ref p) (upd H2 p (.tup xs.reverse))
theorem pe_rev (he : PE X e te) (hk : PO X (some k) tk) : PE X (.Subscript e (.Slice none none (some k) p2) pos) (tRev X.K te tk) := by
  refine ⟨fun pins s σ H Q I h => ?_⟩
  refine Subscript_ (thn (he.run pins s σ H _ I h) fun v s1 ⟨x, H1, I1, r1, q1⟩ => ?_)
  refine wpAny_Slice ?_
  rw [evalPart_none]
  refine wpAny_pure ?_
  refine wpAny_pure ?_
  refine thn (hk.run pins s1 σ H1 _ I1 q1) fun vk s3 ⟨o, H3, I3, pk, q3⟩ => ?_
  obtain ⟨rfl, a, xs, rfl, hx, hne, q⟩ := q3
  have I4 : Inv X pins σ H3 { s3 with heap := s3.heap.push { cls := .type "slice", data := .fields #[.none, .none, vk] } } := I3.kept (t' := s3.toks) fun b ob q => Heap.get?_push_of_some _ q
  cases r1
  obtain ⟨its, r, ht, hz⟩ := I4.tuple hx
  have hlen : its.toArray.size = xs.length := by rw [List.size_toArray]; exact r.length.symm
  have hpos : 0 < its.toArray.size := by
    rw [hlen]
    exact List.length_pos_iff.mpr hne
  show wpAny (model X.prog X.w) X.A (subscriptTail e (.Slice none none (some k) p2) (.ref a) (.ref s3.heap.objs.size)) (EP X pins σ Q) X.xe { s3 with heap := s3.heap.push { cls := .type "slice", data := .fields #[.none, .none, vk] } }
  refine tail_any (ops := [.ref a, .ref s3.heap.objs.size]) ht.typeIs PyProof.Rows.slot_tuple_getitem.lookup ?_ (by with_unfolding_all rfl)
  refine HT.getItem_tuple_rev ht (Heap.IsSliceOf.new ..) pk hpos ?_ (by rw [hlen]; exact hz)
  refine ⟨.ref _, _, I4.laid (t' := s3.toks) (o := .tup xs.reverse) (fun b ob q => Heap.get?_push_of_some _ q) (Nat.le_refl _) ?_, rfl, q _ (I4.hok.fresh (Nat.le_refl _))⟩
  exact ⟨by rw [List.length_reverse]; exact hz, _, r.reverse, IsTup.new _ _⟩
end
end L2
namespace DL
open PySem PySem.Spec L2
variable [Tbs]
variable {X : Cx} {a : Expr} {f : Ex} {al : List Nat} {pos p2 : Pos}
def dRev : D → Option D
  | .tup (x :: xs) => some (.tup (x :: xs).reverse)
  | _ => none
def eRev (f : Ex) (u : Eo) : Ex := fun ρ => (f ρ).bind fun x => (u ρ).bind fun j => if j = some (-1) then dRev x else none
theorem rpAll_rev {K : PySem.W.Frag} {H : Hp} : ∀ {vs : List V} {ds : List D}, RpAll K H vs ds → RpAll K H vs.reverse ds.reverse
  | _, _, .nil => .nil
  | _, _, .cons h1 t => by
    rw [List.reverse_cons, List.reverse_cons]
    exact (rpAll_rev t).append (.cons h1 .nil)
theorem dp_rev {k : Expr} {u : Eo} (ha : DP X a f al) (hk : DO X (some k) u) : DP X (.Subscript a (.Slice none none (some k) p2) pos) (eRev f u) al := by
  refine pe_imp (pe_rev ha hk) fun σ H Q ⟨ρ, O, W, d, rs, e, q⟩ => ?_
  obtain ⟨x, h1, e⟩ := opt_bind e
  obtain ⟨j, h2, e⟩ := opt_bind e
  split at e
  · rename_i hj
    refine ⟨ρ, O, W, x, rs, h1, fun v1 W1 H1 s1 p1 => ⟨ρ, O, W1, j, rs.pstep s1, h2, fun W2 H2 s2 => ?_⟩⟩
    have s := s1.trans s2
    have p1 := rp_mono (vw_step s2.toPStep) p1
    have q := q.step s
    unfold dRev at e
    split at e
    · rename_i y ys
      cases e
      obtain ⟨a', vs, rfl, k, ra⟩ := rp_tup p1
      refine ⟨hj, a', vs, rfl, sqT_mono (vw_subT s.sub) k, fun z => ?_, fun p n => q.tup s.sub (rpAll_rev ra) n⟩
      have := ra.length
      rw [z] at this
      cases this
    · cases e
  · cases e
end DL

/-! The data layer: dicts by ints and texts. -/
namespace DL
open PySem PySem.Spec L2
variable [Tbs]
variable {X : Cx} {a b c : Expr} {f g h : Ex} {al bl cl : List Nat} {pos p1 p2 : Pos}
def dKey : D → Option Key
  | .int i => some (.inl i)
  | .str x => some (.inr x)
  | _ => none
def valD (kvs : List (Key × D)) (k : Key) : Option D := (kvs.find? fun kv => decide (kv.1 = k)).map (·.2)
theorem rp_key {K : PySem.W.Frag} {W : Hp} {v : V} {d : D} {k : Key} (h : Rp K W v d) (e : dKey d = some k) : v = kV k := by
  cases h <;> first | (cases e; rfl) | cases e
theorem rpKv_val {K : PySem.W.Frag} {W : Hp} (k : Key) : ∀ {vs : List (Key × V)} {ds : List (Key × D)}, RpKv K W vs ds → (valV vs k = none ∧ valD ds k = none) ∨ ∃ v d, valV vs k = some v ∧ valD ds k = some d ∧ Rp K W v d
  | _, _, .nil => .inl ⟨rfl, rfl⟩
  | _, _, @RpKv.cons _ _ k' v vs d ds h t => by
    by_cases e : k' = k
    · exact .inr ⟨v, d, by simp [valV, e], by simp [valD, e], h⟩
    · rcases rpKv_val k t with ⟨z1, z2⟩ | ⟨v, d, z1, z2, z3⟩
      · exact .inl ⟨by rw [valV_neg e]; exact z1, by unfold valD at z2 ⊢; rw [List.find?_cons_of_neg (by simpa using e)]; exact z2⟩
      · exact .inr ⟨v, d, by rw [valV_neg e]; exact z1, by unfold valD at z2 ⊢; rw [List.find?_cons_of_neg (by simpa using e)]; exact z2, z3⟩
theorem dget_rd {H : Hp} {a : Addr} {kvs : List (Key × V)} {k : Key} (e : Rd H a (.dK kvs)) : DGet H a (kV k) (valV kvs k) := .inl ⟨kvs, k, e, rfl, rfl⟩
/-- d[k] -/
def dGet : D → D → Option D
  | .dct kvs, y => (dKey y).bind fun k => valD kvs k
  | _, _ => none
theorem dp_dget (hu : X.A.units + 1 < cLine) (ha : DP X a f al) (hb : DP X b g bl) (hs : NoSl b) : DP X (.Subscript a b pos) (e2 dGet f g) (al ++ bl) :=
  pe_imp (pe_dget hu ha hb hs) fun σ H Q ⟨ρ, O, W, d, rs, e, q⟩ => by
    obtain ⟨x, h1, e⟩ := opt_bind e
    obtain ⟨y, h2, e⟩ := opt_bind e
    refine ⟨ρ, O, W, x, rs, h1, fun v1 W1 H1 s1 q1 => ⟨ρ, O, W1, y, rs.pstep s1, h2, fun v2 W2 H2 s2 q2 => ?_⟩⟩
    have s := s1.trans s2
    cases x with
    | dct kvs =>
      obtain ⟨k, e1, e2⟩ := opt_bind e
      have ek := rp_key q2 e1
      subst ek
      have q1 := rp_mono (vw_step s2.toPStep) q1
      cases q1 with
      | @dct a' xs _ hx hr =>
        rcases rpKv_val k hr with ⟨_, z⟩ | ⟨v, d', z1, z2, z3⟩
        · rw [z] at e2; cases e2
        · rw [z2] at e2
          cases e2
          refine ⟨a', v, rfl, ?_, (q.step s).here s.sub ?_⟩
          · rw [← z1]
            exact dget_rd (rd_mono (vw_subT s.sub) hx)
          · exact rp_mono (vw_l s.sub) z3
    | _ => cases e
/-- d.get(k, x) -/
def eGet (f g h : Ex) : Ex := fun ρ => (f ρ).bind fun x => (g ρ).bind fun y => (h ρ).bind fun z => match x with
  | .dct kvs => (dKey y).bind fun k => some ((valD kvs k).getD z)
  | _ => none
theorem dp_dget2 (hu : X.A.units + 1 < cLine) (ha : DP X a f al) (hb : DP X b g bl) (hc : DP X c h cl) (m : M2 X a "get" p1 b c p2) : DP X (.Call (.Attribute a "get" p1) [b, c] [] p2) (eGet f g h) (al ++ (bl ++ cl)) :=
  pe_imp (pe_dget2 hu ha hb hc m) fun σ H Q ⟨ρ, O, W, d, rs, e, q⟩ => by
    obtain ⟨x, h1, e⟩ := opt_bind e
    obtain ⟨y, h2, e⟩ := opt_bind e
    obtain ⟨z, h3, e⟩ := opt_bind e
    refine ⟨ρ, O, W, x, rs, h1, fun v1 W1 H1 s1 q1 => ?_⟩
    cases x with
    | dct kvs =>
      have e : ((dKey y).bind fun k => some ((valD kvs k).getD z)) = some d := e
      obtain ⟨k, e1, e2⟩ := opt_bind e
      cases e2
      cases q1 with
      | @dct a' xs _ hx hr =>
        refine ⟨a', rfl, .inl ⟨xs, rd_mono (vw_subT s1.sub) hx⟩, ρ, O, W1, y, rs.pstep s1, h2, fun v2 W2 H2 s2 q2 => ⟨ρ, O, W2, z, rs.pstep (s1.trans s2), h3, fun v3 W3 H3 s3 q3 => ?_⟩⟩
        have ek := rp_key q2 e1
        subst ek
        have s := s1.trans (s2.trans s3)
        have up := vw_step (ρ := ρ) (σ := σ) (al := al) (s2.trans s3).toPStep
        refine ⟨_, dget_rd (rd_mono (vw_subT s.sub) (rd_mono up hx)), (q.step s).here s.sub ?_⟩
        rcases rpKv_val k hr with ⟨z1, z2⟩ | ⟨v, d', z1, z2, z3⟩
        · rw [z1, z2]
          exact rp_mono (vw_mono (fun i m => by simp [m]) s.sub) q3
        · rw [z1, z2]
          exact rp_mono (vw_l s.sub) (rp_mono up z3)
    | _ => cases e
/-- in its place, or at the end -/
def putD (kvs : List (Key × D)) (k : Key) (d : D) : List (Key × D) :=
  if (kvs.any fun kv => decide (kv.1 = k)) = true then kvs.map (fun kv => if kv.1 = k then (kv.1, d) else kv) else kvs ++ [(k, d)]
theorem rpKv_any {K : PySem.W.Frag} {W : Hp} (k : Key) : ∀ {vs : List (Key × V)} {ds : List (Key × D)}, RpKv K W vs ds → (vs.any fun kv => decide (kv.1 = k)) = ds.any fun kv => decide (kv.1 = k)
  | _, _, .nil => rfl
  | _, _, .cons h t => by rw [List.any_cons, List.any_cons, rpKv_any k t]
theorem rpKv_repl {K : PySem.W.Frag} {W : Hp} (k : Key) {v : V} {d : D} (h : Rp K W v d) : ∀ {vs : List (Key × V)} {ds : List (Key × D)}, RpKv K W vs ds → RpKv K W (vs.map fun kv => if kv.1 = k then (kv.1, v) else kv) (ds.map fun kv => if kv.1 = k then (kv.1, d) else kv)
  | _, _, .nil => .nil
  | _, _, @RpKv.cons _ _ k' u vs e ds h1 t => by
    rw [List.map_cons, List.map_cons]
    by_cases z : k' = k
    · rw [if_pos z, if_pos z]
      exact .cons h (rpKv_repl k h t)
    · rw [if_neg z, if_neg z]
      exact .cons h1 (rpKv_repl k h t)
theorem rpKv_snoc {K : PySem.W.Frag} {W : Hp} {k : Key} {v : V} {d : D} (h : Rp K W v d) : ∀ {vs : List (Key × V)} {ds : List (Key × D)}, RpKv K W vs ds → RpKv K W (vs ++ [(k, v)]) (ds ++ [(k, d)])
  | _, _, .nil => .cons h .nil
  | _, _, .cons h1 t => .cons h1 (rpKv_snoc h t)
theorem rpKv_put {K : PySem.W.Frag} {W : Hp} (k : Key) {v : V} {d : D} (h : Rp K W v d) {vs : List (Key × V)} {ds : List (Key × D)} (r : RpKv K W vs ds) : RpKv K W (putK vs k v) (putD ds k d) := by
  unfold putK putD
  rw [rpKv_any k r]
  split
  · exact rpKv_repl k h r
  · exact rpKv_snoc h r
theorem rpKv_len {K : PySem.W.Frag} {W : Hp} : ∀ {vs : List (Key × V)} {ds : List (Key × D)}, RpKv K W vs ds → vs.length = ds.length
  | _, _, .nil => rfl
  | _, _, .cons _ t => congrArg (· + 1) (rpKv_len t)
theorem nt_dK {xs : List (Key × V)} : NT (.dK xs) := fun _ z => nomatch z
theorem tt_dK {H : Hp} {a : Addr} {o : HO} {vs : List (Key × V)} (n : H a = some (.dK vs)) (t : TZ H) : TZ (upd H a o) := fun p hp => by
  obtain ⟨ps, h1, h2, h3⟩ := t p hp
  refine ⟨ps, by rw [upd_ne (fun z => by rw [z, n] at h1; cases h1)]; exact h1, h2, fun pos cv hc => ?_⟩
  obtain ⟨c, e1, e2⟩ := h3 pos cv hc
  have ne : c ≠ a := fun z => by
    rw [z, n] at e2
    unfold LamX.CodeO at e2
    cases e2
  exact ⟨c, e1, by rw [upd_ne ne]; exact e2⟩
theorem RZ.writeD {K : PySem.W.Frag} {ρ : Rho} {σ : L2.St} {O : Addr → Bool} {W H : Hp} (r : RZ K ρ σ O W H) {i : Nat} {a : Addr} {vs : List (Key × V)} {xs ys : List (Key × D)} (q : ρ[i]? = some (.dic ys)) (s : σ[i]? = some (some (.ref a))) (h : RpKv K W vs xs) :
    RZ K (ρ.set i (.dic xs)) σ O W (upd H a (.dK vs)) ∧ SZ O W H O W (upd H a (.dK vs)) := by
  obtain ⟨k1, k2⟩ := r.toRS.writeG q s (.dK h)
  obtain ⟨a', us, h1, _, h3, _⟩ := r.dics i ys q
  rw [s] at h1
  cases h1
  rw [← tb_upd nt_dK] at k1 k2
  have t := tt_dK (o := .dK vs) (tb_le _ _ h3)
  exact ⟨⟨k1, t r.tz, by rw [tb_upd nt_dK]; exact r.ns.write q s⟩, k2, t⟩
/-- d[k] = e, d an own dict -/
def sDput (i : Nat) (f : Xe) (g : Ex) : Sx := fun ρ => (f ρ).bind fun x => (g x.2).bind fun n => match dKey n, x.2[i]? with
  | some k, some (.ow (.dct kvs)) => if kvs.length < 16777216 then some (.nx (x.2.set i (.dic (putD kvs k x.1)))) else none
  | _, _ => none
theorem ds_dput {i : Nat} {o k : Expr} {f : Xe} {g : Ex} {tpos : Pos} (hu : X.A.units + 1 < cLine) (ho : PE X o (tVar i)) (hk : DP X k g bl) (he : DE X a f)
    (hs : swapsWith a (some (.Subscript o k tpos)) pos.line X.env = pure false := by rfl) : DS X (.Assign [.Subscript o k tpos] a pos) (sDput i f g) := by
  refine ps_imp (ps_dput hu ho hk he hs) fun E σ H ⟨ρ, O, W, out, rs, e, q⟩ => ?_
  obtain ⟨⟨d, ρ1⟩, e1, e⟩ := opt_bind e
  obtain ⟨n, e2, e⟩ := opt_bind e
  refine ⟨ρ, O, W, d, ρ1, rs, e1, fun v O1 W1 H1 s1 r1 p1 => ?_⟩
  split at e
  · rename_i k' kvs hn hq
    split at e
    · rename_i hl
      cases e
      obtain ⟨a1, vs1, k1, k2, k3, k4⟩ := r1.dics i _ hq
      refine ⟨.ref a1, k1, ρ1, O1, W1, _, r1, e2, fun v2 W2 H2 s2 p2 => ?_⟩
      have ek := rp_key p2 hn
      subst ek
      have r2 := r1.pstep s2
      obtain ⟨w1, w2⟩ := r2.writeD (xs := putD kvs k' d) hq k1 (rpKv_put k' (rp_mono s2.le p1) (rpKv_mono s2.le k4))
      exact ⟨a1, _, rfl, .k (s2.at k3) (by rw [rpKv_len k4]; exact hl), q σ O1 W2 _ (s1.trans (s2.s.trans w2)) w1⟩
    · cases e
  · cases e
/-- x = {}, from then on x's own -/
def sDnew (i : Nat) : Sx := fun ρ => some (.nx (ρ.set i (.dic [])))
theorem ds_dnew {i : Nat} {x : Str} {pos' p3 : Pos} (hN : X.N.Nodup) (hi : X.N[i]? = some x) (hx : Loc X.env.scope x) (hs : swapsWith (.Dict [] [] p3) (some (.Name x pos')) pos.line X.env = pure false := by rfl) (hf : X.fn x = true ∨ X.env.scope.names.lookup x = some .local := by first | exact .inl rfl | exact .inr rfl | assumption) :
    DS X (.Assign [.Name x pos'] (.Dict [] [] p3) pos) (sDnew i) := ps_imp (ps_set hN hi hx pe_dnewK hs hf) fun E σ H ⟨ρ, O, W, out, rs, e, q⟩ => by
  cases e
  intro p n
  have tn : tb H p = none := tb_none n
  have wn : W p = none := w_free rs.sub n
  have oa : O p = false := by
    cases z : O p with
    | false => rfl
    | true => obtain ⟨_, us, y, _⟩ := rs.hid p z; rw [tn] at y; cases y
  have keep : Same (tb H) (tb (upd H p (.dK []))) := fun b o e => by
    rw [tb_upd nt_dK, upd_ne (fun z => by subst z; rw [tn] at e; cases e)]
    exact e
  have sb : Same W (tb (upd H p (.dK []))) := rs.sub.trans keep
  have pz : PZ W H W (upd H p (.dK [])) := ⟨⟨fun _ _ e => e, keep, sb, fun _ _ e => .inl e⟩, fun t => tt_new n t⟩
  have r1 := rs.pstep pz
  have r2 : RZ X.K (ρ.set i (.dic [])) (σ.set i (some (.ref p))) (fun b => O b || decide (b = p)) W (upd H p (.dK [])) := ⟨r1.toRS.setOw (by rw [tb_upd nt_dK]; exact upd_same) wn oa (.dK .nil), r1.tz, r1.ns.own oa⟩
  refine q _ _ W _ ⟨⟨fun _ _ e => e, fun b o e _ => keep b o e, fun _ _ e => .inl e, fun b e => ?_⟩, pz.tabs⟩ r2
  rcases Bool.or_eq_true_iff.mp e with z | z
  · exact .inl z
  · exact .inr (by rw [of_decide_eq_true z]; exact tn)
/-- x[y]: an item of a list, a tuple, a text, or of a dict -/
def dIxD (x y : D) : Option D := match x with
  | .dct kvs => dGet (.dct kvs) y
  | x => dIx x y
theorem pe_orE {e : Expr} {t t' : TE} (h : PE X e t) (h' : PE X e t') : PE X e (fun σ H Q => t σ H Q ∨ t' σ H Q) := ⟨fun pins s σ H Q I q => q.elim (h.run pins s σ H Q I) (h'.run pins s σ H Q I)⟩
theorem dp_ixd (hu : X.A.units + 1 < cLine) (ha : DP X a f al) (hb : DP X b g bl) (hs : PlainIx b) (hn : NoSl b) : DP X (.Subscript a b pos) (e2 dIxD f g) (al ++ bl) :=
  pe_imp (pe_orE (dp_ix ha hb hs) (dp_dget hu ha hb hn)) fun σ H Q ⟨ρ, O, W, d, rs, e, q⟩ => by
    obtain ⟨x, h1, e⟩ := opt_bind e
    obtain ⟨y, h2, e⟩ := opt_bind e
    cases x with
    | dct kvs => exact .inr ⟨ρ, O, W, d, rs, by show ((f ρ).bind fun x => (g ρ).bind fun y => dGet x y) = _; rw [h1, Option.bind_some, h2, Option.bind_some]; exact e, q⟩
    | _ => exact .inl ⟨ρ, O, W, d, rs, by show ((f ρ).bind fun x => (g ρ).bind fun y => dIx x y) = _; rw [h1, Option.bind_some, h2, Option.bind_some]; exact e, q⟩
/-- k in d, k not in d -/
def dHas (y x : D) : Option D := match x with
  | .dct kvs => (dKey y).map fun k => .bl (valD kvs k).isSome
  | _ => none
/-- d.pop(k) as a statement or a value, d an own dict -/
def dropD (kvs : List (Key × D)) (k : Key) : List (Key × D) := kvs.filter fun kv => decide (kv.1 ≠ k)
theorem rpKv_drop {K : PySem.W.Frag} {W : Hp} (k : Key) : ∀ {vs : List (Key × V)} {ds : List (Key × D)}, RpKv K W vs ds → RpKv K W (dropK vs k) (dropD ds k)
  | _, _, .nil => .nil
  | _, _, @RpKv.cons _ _ k' u vs e ds h1 t => by
    unfold dropK dropD
    by_cases z : k' = k
    · rw [List.filter_cons_of_neg (by simpa using z), List.filter_cons_of_neg (by simpa using z)]
      exact rpKv_drop k t
    · rw [List.filter_cons_of_pos (by simpa using z), List.filter_cons_of_pos (by simpa using z)]
      exact .cons h1 (rpKv_drop k t)
def sDpop (i : Nat) (g : Ex) : Sx := fun ρ => (g ρ).bind fun n => match dKey n, ρ[i]? with
  | some k, some (.ow (.dct kvs)) => if (valD kvs k).isSome = true then some (.nx (ρ.set i (.dic (dropD kvs k)))) else none
  | _, _ => none
theorem ds_dpop {i : Nat} {o k : Expr} {g : Ex} (ho : PE X o (tVar i)) (hk : DP X k g bl) (m : M1 X o "pop" p1 k p2) (hs : swapsWith (.Call (.Attribute o "pop" p1) [k] [] p2) none pos.line X.env = pure false := by rfl) :
    DS X (.Expr (.Call (.Attribute o "pop" p1) [k] [] p2) pos) (sDpop i g) := by
  refine ps_imp (ps_expr (pe_dpop1 ho hk m) hs) fun E σ H ⟨ρ, O, W, out, rs, e, q⟩ => ?_
  obtain ⟨n, e2, e⟩ := opt_bind e
  split at e
  · rename_i k' kvs hn hq
    split at e
    · rename_i hl
      cases e
      obtain ⟨a1, vs1, k1, k2, k3, k4⟩ := rs.dics i _ hq
      refine ⟨.ref a1, k1, a1, rfl, .inl ⟨vs1, .inl (tb_le _ _ k3)⟩, ρ, O, W, _, rs, e2, fun v2 W2 H2 s2 q2 => ?_⟩
      have ek := rp_key q2 hn
      subst ek
      have r2 := rs.pstep s2
      obtain ⟨w1, w2⟩ := r2.writeD (xs := dropD kvs k') hq k1 (rpKv_drop k' (rpKv_mono s2.le k4))
      rcases rpKv_val k' k4 with ⟨_, z⟩ | ⟨v, d', z1, z2, z3⟩
      · rw [z] at hl; cases hl
      · exact ⟨vs1, k', v, s2.at k3, rfl, z1, q σ O W2 _ (s2.s.trans w2) w1⟩
    · cases e
  · cases e
end DL
theorem DL.hu_1 {n : Nat} (h : n + 65 < PySem.cLine) : n + 1 < PySem.cLine := by omega

/-! A dict by nested tuples, held by what its one object is; setdefault. -/
namespace DL
open PySem PySem.Spec L2 PyProof.Rows
def NRel (kvs : List NE) (xs : List (NestedKey × Addr × Value)) : Prop := Paired (fun (p : NE) (q : NestedKey × Addr × Value) => p.1 = q.1 ∧ p.2.1 = q.2.1 ∧ RelV p.2.2 q.2.2) kvs xs
def NDat (P : Program) (w : World) (a : Addr) (kvs : List NE) (h : Heap) : Prop := (a == sysModules) = false ∧ ∃ xs, NRel kvs xs ∧ ∃ o es ep, h.get? a = some o ∧ o.ExactDict ∧ o.data = .dict es ep ∧ es.toList = xs.map (entryOfKey (nestedKind P w)) ∧ (xs.map (·.1)).Nodup
/-- the dict at a -/
def dN (P : Program) (w : World) (a : Addr) (kvs : List NE) : HO := .ext (NDat P w a kvs)
theorem dN_ok {P : Program} {w : World} {H : Hp} {h : Heap} {a : Addr} {kvs : List NE} (d : NDat P w a kvs h) : ObjOk P w H h a (dN P w a kvs) :=
  ⟨d, let ⟨_, _, _, o, _, _, e, _⟩ := d; ⟨o, e⟩, fun h1 h2 ⟨z, xs, r, o, es, ep, e, k⟩ f => ⟨z, xs, r, o, es, ep, f o e, k⟩⟩
theorem dN_of {P : Program} {w : World} {H : Hp} {h : Heap} {a : Addr} {kvs : List NE} (ok : HOk P w H h) (e : H a = some (dN P w a kvs)) : NDat P w a kvs h := (ok a _ e).1
def valN (kvs : List NE) (k : NestedKey) : Option V := (kvs.find? fun e => decide (e.1 = k)).map (·.2.2)
theorem nrel_val {k : NestedKey} : ∀ {kvs : List NE} {xs : List (NestedKey × Addr × Value)}, NRel kvs xs → (valN kvs k = none ∧ atKey xs k = none) ∨ ∃ v p, valN kvs k = some v ∧ atKey xs k = some p ∧ RelV v p.2
  | _, _, .nil => .inl ⟨rfl, rfl⟩
  | _, _, .cons (a := p) (b := q) h t => by
    by_cases e : p.1 = k
    · have e2 : q.1 = k := h.1.symm.trans e
      exact .inr ⟨p.2.2, q.2, by simp [valN, e], by simp [atKey, e2], h.2.2⟩
    · have e2 : ¬ q.1 = k := fun z => e (h.1.trans z)
      rcases nrel_val (k := k) t with ⟨z1, z2⟩ | ⟨v, r, z1, z2, z3⟩
      · exact .inl ⟨by unfold valN at z1 ⊢; rw [List.find?_cons_of_neg (by simpa using e)]; exact z1, by unfold atKey at z2 ⊢; rw [List.find?_cons_of_neg (by simpa using e2)]; exact z2⟩
      · exact .inr ⟨v, r, by unfold valN at z1 ⊢; rw [List.find?_cons_of_neg (by simpa using e)]; exact z1, by unfold atKey at z2 ⊢; rw [List.find?_cons_of_neg (by simpa using e2)]; exact z2, z3⟩
/-- the key k stands at b, wherever H is held -/
def KeyAt (X : Cx) (H : Hp) (k : NestedKey) (b : Addr) : Prop := ∀ (pins : List (Addr × Obj)) (σ : L2.St) (s : Shared), Inv X pins σ H s → (nestedKind X.prog X.w).is s.heap k b
theorem nrel_keys {P : Program} {w : World} {h : Heap} : ∀ {kvs : List NE} {xs : List (NestedKey × Addr × Value)}, NRel kvs xs → (∀ e ∈ kvs, (nestedKind P w).is h e.1 e.2.1) → ∀ x ∈ xs, (nestedKind P w).is h x.1 x.2.1
  | _, _, .nil, _ => fun x m => by cases m
  | _, _, .cons (a := p) (b := q) r t, hk => fun x m => by
    rcases List.mem_cons.mp m with rfl | m
    · have := hk p List.mem_cons_self
      rw [r.1, r.2.1] at this
      exact this
    · exact nrel_keys t (fun e z => hk e (List.mem_cons_of_mem _ z)) x m
/-- d.setdefault(k, v) -/
def rSetN (X : Cx) : V → List V → Hp → VK → Prop := fun x xs H Q => ∃ (a : Addr) (kvs : List NE) (k : NestedKey) (b : Addr) (v : V), x = .ref a ∧ xs = [.ref b, v] ∧ H a = some (dN X.prog X.w a kvs) ∧ kvs.length ≤ sizeLine ∧ KeyAt X H k b ∧ (∀ e ∈ kvs, KeyAt X H e.1 e.2.1) ∧
  (∀ u, valN kvs k = some u → Q u H) ∧ (valN kvs k = none → Q v (upd H a (dN X.prog X.w a (kvs ++ [(k, b, v)]))))
theorem mt_setN {X : Cx} (hu : X.A.units + 16 < cLine) : MtR X "dict.setdefault" (rSetN X) := by
  intro pins s σ H x xs v us Q I rx rxs h
  obtain ⟨a, kvs, k, b, d, rfl, rfl, ha, hz, hk, hks, q1, q2⟩ := h
  cases rx
  obtain ⟨u1, u2, rfl, r1, r2⟩ := vals2 rxs
  cases r1
  obtain ⟨hd, xs', rel, o, es, ep, ho, hx, hdat, hes, hnd⟩ := dN_of I.hok ha
  have dd : s.heap.DictOfH (nestedKind X.prog X.w) a xs' := ⟨o, es, ep, ho, hx, hdat, hes, nrel_keys rel fun e m => hks e m _ _ _ I, hnd⟩
  refine call_setdefault_heap (knd := nestedKind X.prog X.w) (k := k) (show X.A.in1.units + 8 < cLine from ?_) (hk _ _ _ I) hd dd (fun p hp => ?_) (fun hn h' dd' hs => ?_) (by rw [← Paired.length rel]; exact hz)
  · have : X.A.in1.units = X.A.units + 1 := rfl
    omega
  · rcases nrel_val (k := k) rel with ⟨_, z⟩ | ⟨v0, p0, z1, z2, z3⟩
    · rw [z] at hp; cases hp
    · rw [z2] at hp
      cases hp
      show EP X pins σ Q p.2 _
      exact ⟨v0, H, I.tok _, z3, q1 v0 z1⟩
  · rcases nrel_val (k := k) rel with ⟨z0, _⟩ | ⟨v0, p0, z1, z2, z3⟩
    · rw [storedH_new hn] at dd'
      obtain ⟨o', es', ep', e1, e2, e3, e4, _, e5⟩ := dd'
      have nd : NDat X.prog X.w a (kvs ++ [(k, b, d)]) h' := ⟨hd, _, Paired.snoc rel ⟨rfl, rfl, r2⟩, o', es', ep', e1, e2, e3, e4, e5⟩
      have I2 : Inv X pins σ (upd H a (dN X.prog X.w a (kvs ++ [(k, b, d)]))) { s with heap := h', toks := s.toks + (nestedKind X.prog X.w).draws k } :=
        d_write I (by rw [ha]; exact True.intro) hs ⟨o', e1⟩ (dN_ok nd)
      show EP X pins σ Q u2 _
      exact ⟨d, _, I2, r2, q2 z0⟩
    · rw [z2] at hn; cases hn
end DL

/-! The display of a dict by nested tuples. -/
namespace DL
open PySem PySem.Spec L2 PyProof.Rows
theorem atKey_none {xs : List (NestedKey × Addr × Value)} {k : NestedKey} (h : k ∉ xs.map (·.1)) : atKey xs k = none := by
  unfold atKey
  have : xs.find? (fun x => decide (x.1 = k)) = none := by
    rw [List.find?_eq_none]
    intro x m
    simp only [decide_eq_true_eq]
    intro e
    exact h (List.mem_map.mpr ⟨x, m, e⟩)
  rw [this]
  rfl
theorem storedAll_nodup : ∀ (ps acc : List (NestedKey × Addr × Value)), ((acc ++ ps).map (·.1)).Nodup → storedAllH acc ps = acc ++ ps
  | [], acc, _ => by rw [List.append_nil]; rfl
  | (k, a, v) :: ps, acc, h => by
    have e : storedAllH acc ((k, a, v) :: ps) = storedAllH (storedH acc k a v) ps := rfl
    have hk : k ∉ acc.map (·.1) := by
      rw [List.map_append, List.nodup_append] at h
      intro m
      exact h.2.2 k m k (by simp) rfl
    rw [e, storedH_new (atKey_none hk), storedAll_nodup ps (acc ++ [(k, a, v)]) (by rw [List.append_assoc]; exact h), List.append_assoc]
    rfl
section
variable {prog : Program} {w : World} {A : Around} {E : Value → Shared → Prop} {s : Shared} {env : Env}
theorem wpAny_Dict_walkN {keys : List (Option Expr)} {values : List Expr} {pos : Pos} {Q : Value → Shared → Prop} (hu : (nestedKind prog w).room A)
    (hall : keys.all (·.isSome) = true) (hl : keys.length = values.length) (h0 : keys ≠ []) (hlen : keys.length ≤ 15)
    (h : wpAny (model prog w) A (evalPairs (pairTrees keys values env pos)) (fun vs s₁ => ∃ ps, CarriesH (nestedKind prog w) s₁.heap vs ps ∧ s₁.heap.DictOfH (nestedKind prog w) s.heap.objs.size [] ∧
      ∀ h' tk, h'.DictOfH (nestedKind prog w) s.heap.objs.size (storedAllH [] ps) → Heap.SameBut s.heap.objs.size s₁.heap h' → Q (.ref s.heap.objs.size) { s₁ with heap := h', toks := tk }) E
      { s with heap := s.heap.push { cls := .type "dict", data := .dict #[] } }) :
    wpAny (model prog w) A (eval (.Dict keys values pos) env) Q E s := by
  have hn := pairTrees_length keys values env pos hall hl
  have hne : pairTrees keys values env pos ≠ [] := fun he => by
    rw [he] at hn
    exact h0 (List.length_eq_zero_iff.mp hn.symm)
  rw [arm_eval_Dict, zip_pairTrees keys values env pos hall hl, dictDisplay_pairs _ hne (by omega)]
  exact wpAny_bind (wpAny_standAt (wpAny_bind (wpAny_subDictH (knd := nestedKind prog w) (Q := fun d s' => wpAny (model prog w) A (pure (Value.ref d)) Q E s') hu (by rw [hn]; exact hlen)
    (wpAny_mono h (fun vs s₁ h₁ => by obtain ⟨ps, hc, hm, hq⟩ := h₁; exact ⟨ps, hc, hm, fun h' tk a b => wpAny_pure (hq h' tk a b)⟩) fun _ _ e => e))))
end
theorem carriesN {P : Program} {w : World} {h : Heap} : ∀ {kvs : List NE} {ws : List (Value × Value)}, VV (kvs.map fun e => (V.ref e.2.1, e.2.2)) ws → (∀ e ∈ kvs, (nestedKind P w).is h e.1 e.2.1) → ∃ xs, CarriesH (nestedKind P w) h ws xs ∧ NRel kvs xs
  | [], _, r, _ => by rw [List.map_nil] at r; cases r; exact ⟨[], True.intro, .nil⟩
  | p :: kvs, _, r, hk => by
    rw [List.map_cons] at r
    cases r with
    | @cons a b as bs h t =>
      obtain ⟨xs, c, q⟩ := carriesN t fun e m => hk e (List.mem_cons_of_mem _ m)
      obtain ⟨b1, b2⟩ := b
      have e1 : b1 = Value.ref p.2.1 := h.1
      exact ⟨(p.1, p.2.1, b2) :: xs, ⟨e1, rfl, hk p List.mem_cons_self, c⟩, .cons ⟨rfl, rfl, h.2⟩ q⟩
theorem nrel_fst : ∀ {kvs : List NE} {xs : List (NestedKey × Addr × Value)}, NRel kvs xs → xs.map (·.1) = kvs.map (·.1)
  | _, _, .nil => rfl
  | _, _, .cons (a := p) (b := q) r t => by rw [List.map_cons, List.map_cons, nrel_fst t, r.1]
theorem dN_empty {P : Program} {w : World} {H : Hp} (h : Heap) (hb : sysModules < h.objs.size) : ObjOk P w H (h.push { cls := .type "dict", data := .dict #[] }) h.objs.size (dN P w h.objs.size []) :=
  dN_ok ⟨beq_eq_false_iff_ne.mpr (Ne.symm (Nat.ne_of_lt hb)), [], .nil, _, #[], 0, Heap.get?_push_size _ rfl, ⟨rfl, rfl, rfl⟩, rfl, rfl, List.nodup_nil⟩
/-- {k: v, ..} with keys nested tuples, all different -/
def tDispN (X : Cx) (trs : List (TE × TE)) : TE := fun σ H Q => ∀ p, H p = none → tPairs trs σ (upd H p (dN X.prog X.w p [])) fun ps H2 => H2 p = some (dN X.prog X.w p []) ∧ ∃ kvs : List NE, ps = kvs.map (fun e => (V.ref e.2.1, e.2.2)) ∧ (kvs.map (·.1)).Nodup ∧ (∀ e ∈ kvs, KeyAt X H2 e.1 e.2.1) ∧ Q (.ref p) (upd H2 p (dN X.prog X.w p kvs))
theorem pe_dispN {X : Cx} {pos : Pos} {keys : List (Option Expr)} {values : List Expr} {trs : List (TE × TE)} (hu : X.A.units + 16 < cLine) (h : PPs X pos keys values trs) (hall : keys.all (·.isSome) = true) (hl : keys.length = values.length) (h0 : keys ≠ [])
    (h15 : keys.length ≤ 15) : PE X (.Dict keys values pos) (tDispN X trs) := by
  refine ⟨fun pins s σ H Q I q => ?_⟩
  have hn := I.hok.fresh (Nat.le_refl s.heap.objs.size)
  have I1 := I.laid (a := s.heap.objs.size) (o := dN X.prog X.w s.heap.objs.size []) (h' := s.heap.push { cls := .type "dict", data := .dict #[] }) (t' := s.toks) (fun _ _ q => Heap.get?_push_of_some _ q) (Nat.le_refl _) (dN_empty s.heap I.big)
  refine wpAny_Dict_walkN (show X.A.units + 8 < cLine by omega) hall hl h0 h15 (thn (h.run pins _ σ _ _ I1 (q _ hn)) fun ws s2 ⟨ps, H2, I2, rel, e, kvs, ep, nd, hk, q2⟩ => ?_)
  subst ep
  obtain ⟨xs, c, rk⟩ := carriesN (P := X.prog) (w := X.w) (h := s2.heap) rel fun e m => hk e m _ _ _ I2
  obtain ⟨hd, xs0, r0, o, es, ep, eo, ex, edat, ees, _⟩ := dN_of I2.hok e
  cases r0
  refine ⟨xs, c, ⟨o, es, ep, eo, ex, edat, ees, fun x m => (by cases m), List.nodup_nil⟩, fun h' tk dd' hs => ⟨.ref s.heap.objs.size, _, ?_, rfl, q2⟩⟩
  rw [storedAll_nodup xs [] (by rw [List.nil_append, nrel_fst rk]; exact nd), List.nil_append] at dd'
  obtain ⟨o', es', ep', e1, e2, e3, e4, _, e5⟩ := dd'
  exact d_write I2 (by rw [e]; exact True.intro) hs ⟨o', e1⟩ (dN_ok ⟨hd, xs, rk, o', es', ep', e1, e2, e3, e4, e5⟩)
end DL

/-! The data layer: a dict by nested tuples that a frame alone holds (slot kind kd). -/
namespace DL
open PySem PySem.Spec L2 PyProof.Rows
section
variable {X : Cx} {o e f : Expr} {td ty tx : TE} {apos cpos : Pos}
/-- d.setdefault(k, v), d a dict by nested tuples -/
def tSetN (X : Cx) (td ty tx : TE) : TE := fun σ H Q => td σ H fun x H1 => ∃ (a : Addr) (kvs : List NE), x = .ref a ∧ H1 a = some (dN X.prog X.w a kvs) ∧ ty σ H1 fun y H2 => tx σ H2 fun z H3 => rSetN X (.ref a) [y, z] H3 Q
theorem pe_setN (hu : X.A.units + 16 < cLine) (ho : PE X o td) (he : PE X e ty) (hf : PE X f tx) (m : M2 X o "setdefault" apos e f cpos) : PE X (.Call (.Attribute o "setdefault" apos) [e, f] [] cpos) (tSetN X td ty tx) := by
  refine ⟨fun pins s σ H Q I h => ?_⟩
  refine wpAny_Call_method m.base m.few m.line PySem.F.plainAttrs_dict PySem.F.slot_dict_setdefault PySem.F.type_dict_setdefault (thn (ho.run pins s σ H _ I h) fun u s1 ⟨x, H1, I1, rx, a, kvs, ex, d, q1⟩ => ?_)
  subst ex
  obtain rfl : u = Value.ref a := rx
  obtain ⟨hd, xs, rel, ob, es, ep, eo, exd, hdat, _⟩ := dN_of I1.hok d
  refine ⟨⟨ob, eo, exd.1⟩, fun b q => by cases q; exact ⟨ob, eo, exd.2.1⟩, ?_⟩
  rw [m.trees]
  refine Calls.callWith_builtin rfl (Calls.evalArgs_plain (Calls.spliced_cons (thn (he.run pins s1 σ H1 _ I1 q1) fun iv s2 ⟨y, H2, I2, ry, q2⟩ =>
    Calls.spliced_cons (thn (hf.run pins s2 σ H2 _ I2 q2) fun fv s3 ⟨z, H3, I3, rz, q3⟩ => Calls.spliced_nil ?_))))
  exact mt_setN hu pins s3 σ H3 (.ref a) [y, z] (.ref a) [iv, fv] Q I3 rfl (.cons ry (.cons rz .nil)) q3
end
variable [Tbs]
/-- no slot is hidden -/
def noHid : Rho → Bool
  | [] => true
  | s :: ρ => !s.hid && noHid ρ
theorem noHid_get : ∀ {ρ : Rho}, noHid ρ = true → ∀ (i : Nat) (s : Sl), s.hid = true → ρ[i]? ≠ some s
  | [], _, i, s, _, e => by simp at e
  | t :: ρ, h, 0, s, hs, e => by
    simp only [noHid, Bool.and_eq_true] at h
    cases e
    rw [hs] at h
    cases h.1
  | t :: ρ, h, i + 1, s, hs, e => by
    simp only [noHid, Bool.and_eq_true] at h
    exact noHid_get h.2 i s hs (by simpa using e)
section
variable {K : PySem.W.Frag} {ρ : Rho} {σ : L2.St} {O O' : Addr → Bool} {W H W' H' : Hp}
theorem RS.growK (r : RS K ρ σ O W H) (s : Same H H') (h1 : ∀ b, O b = true → O' b = true) (h2 : ∀ b, O' b = true → O b = true ∨ (H b = none ∧ ∃ o, H' b = some o ∧ Mo o)) : RS K ρ σ O' W H' where
  len := r.len
  sub := r.sub.trans s
  hid := fun b e => by
    rcases h2 b e with z | ⟨z1, o, z2, z3⟩
    · obtain ⟨k1, o, k2, k3⟩ := r.hid b z
      exact ⟨k1, o, s _ _ k2, k3⟩
    · refine ⟨?_, o, z2, z3⟩
      cases q : W b with
      | none => rfl
      | some u => rw [r.sub b u q] at z1; cases z1
  vals := r.vals
  ownsG := fun i d e => by
    obtain ⟨a, o, k1, k2, k3, k4⟩ := r.ownsG i d e
    exact ⟨a, o, k1, h1 a k2, s _ _ k3, k4⟩
  apart := r.apart
theorem nt_ext {φ : Heap → Prop} : NT (.ext φ) := fun _ z => nomatch z
theorem tz_nil (h : Tbs.T = []) {H : Hp} : TZ H := fun p hp => by rw [h] at hp; cases hp
/-- a slot that takes a hidden dict newly laid at a -/
theorem RZ.kdNew (r : RZ K ρ σ O W H) {i : Nat} {kvs : List (D × D)} {a : Addr} {es : List NE} (hT : Tbs.T = []) (hz : noHid ρ = true) (hi : i < ρ.length) (hn : H a = some (.ext (Tbs.F a []))) (hO : O a = true) (hW : W a = none) (ap : ∀ (j : Nat) (d : D) (c : Addr), ρ[j]? = some (.ow d) → σ[j]? = some (some (.ref c)) → c ≠ a)
    (ents : Paired (fun (p : D × D) (e : NE) => nkOk p.1 = true ∧ nk p.1 = e.1 ∧ Rp K W (.ref e.2.1) p.1 ∧ Rp K W e.2.2 p.2) kvs es) :
    RZ K (ρ.set i (.kd kvs)) (σ.set i (some (.ref a))) O W (upd H a (.ext (Tbs.F a es))) ∧ SZ O W H O W (upd H a (.ext (Tbs.F a es))) := by
  have etb : tb (upd H a (.ext (Tbs.F a es))) = upd (tb H) a (.ext (Tbs.F a es)) := tb_upd nt_ext
  have hset : ∀ (j : Nat) (t : Sl), (ρ.set i (.kd kvs))[j]? = some t → (j = i ∧ t = .kd kvs) ∨ (j ≠ i ∧ ρ[j]? = some t) := fun j t e => by
    by_cases hj : i = j
    · subst hj
      rw [List.getElem?_set_self hi] at e
      exact .inl ⟨rfl, (Option.some.inj e).symm⟩
    · rw [List.getElem?_set_ne hj] at e
      exact .inr ⟨fun z => hj z.symm, e⟩
  have hsig : ∀ (j : Nat), j ≠ i → (σ.set i (some (.ref a)))[j]? = σ[j]? := fun j h => List.getElem?_set_ne (fun z => h z.symm)
  refine ⟨⟨?_, tz_nil hT, ?_⟩, ⟨?_, fun _ => tz_nil hT⟩⟩
  · rw [etb]
    refine ⟨by simp [r.len], fun c o q => ?_, fun c q => ?_, fun j d q => ?_, fun j d q => ?_, fun j k d d' c q1 q2 s1 s2 => ?_⟩
    · rw [upd_ne (fun z => by subst z; rw [hW] at q; cases q)]
      exact r.sub c o q
    · refine ⟨(r.hid c q).1, ?_⟩
      by_cases hc : c = a
      · subst hc; exact ⟨_, upd_same, .ext _⟩
      · rw [upd_ne hc]; exact (r.hid c q).2
    · rcases hset j _ q with ⟨_, z⟩ | ⟨nj, z⟩
      · cases z
      · rw [hsig j nj]; exact r.vals j d z
    · rcases hset j _ q with ⟨_, z⟩ | ⟨nj, z⟩
      · cases z
      · obtain ⟨c, o, k1, k2, k3, k4⟩ := r.ownsG j d z
        exact ⟨c, o, by rw [hsig j nj]; exact k1, k2, by rw [upd_ne (ap j d c z k1)]; exact k3, k4⟩
    · rcases hset j _ q1 with ⟨_, z⟩ | ⟨nj, z⟩
      · cases z
      · rcases hset k _ q2 with ⟨_, y⟩ | ⟨nk, y⟩
        · cases y
        · rw [hsig j nj] at s1
          rw [hsig k nk] at s2
          exact r.apart j k d d' c z y s1 s2
  · rw [etb]
    refine ⟨fun j xss q => ?_, fun j k xss yss q1 q2 => ?_, fun j kv q => ?_, fun j k kv s q1 q2 hs => ?_⟩
    · rcases hset j _ q with ⟨_, z⟩ | ⟨nj, z⟩
      · cases z
      · exact absurd z (noHid_get hz j _ rfl)
    · rcases hset j _ q1 with ⟨_, z⟩ | ⟨nj, z⟩
      · cases z
      · exact absurd z (noHid_get hz j _ rfl)
    · rcases hset j _ q with ⟨rfl, z⟩ | ⟨nj, z⟩
      · cases z
        refine ⟨a, es, ⟨List.getElem?_set_self (by rw [r.len]; exact hi), upd_same, ⟨hO, hW⟩, ents, fun k d c e1 e2 => ?_⟩⟩
        rcases hset k _ e1 with ⟨_, y⟩ | ⟨nk, y⟩
        · cases y
        · rw [hsig k nk] at e2
          exact ap k d c y e2
      · exact absurd z (noHid_get hz j _ rfl)
    · rcases hset j _ q1 with ⟨rfl, _⟩ | ⟨nj, z⟩
      · rcases hset k _ q2 with ⟨rfl, _⟩ | ⟨nk, y⟩
        · rfl
        · exact absurd y (noHid_get hz k s hs)
      · exact absurd z (noHid_get hz j _ rfl)
  · rw [etb]
    refine ⟨fun _ _ q => q, fun c o q z => ?_, fun _ _ q => .inl q, fun _ q => .inl q⟩
    rw [upd_ne (fun y => by subst y; rw [hO] at z; cases z)]
    exact q
/-- the dict in a slot is written -/
theorem RZ.kdWrite (r : RZ K ρ σ O W H) {i : Nat} {kvs kvs' : List (D × D)} {a : Addr} {es es' : List NE} (hT : Tbs.T = []) (e : ρ[i]? = some (.kd kvs)) (n : KdAt K ρ σ O W (tb H) i kvs a es)
    (ents : Paired (fun (p : D × D) (e : NE) => nkOk p.1 = true ∧ nk p.1 = e.1 ∧ Rp K W (.ref e.2.1) p.1 ∧ Rp K W e.2.2 p.2) kvs' es') :
    RZ K (ρ.set i (.kd kvs')) σ O W (upd H a (.ext (Tbs.F a es'))) ∧ SZ O W H O W (upd H a (.ext (Tbs.F a es'))) := by
  have etb : tb (upd H a (.ext (Tbs.F a es'))) = upd (tb H) a (.ext (Tbs.F a es')) := tb_upd nt_ext
  have hi : i < ρ.length := (List.getElem?_eq_some_iff.mp e).1
  have hset : ∀ (j : Nat) (t : Sl), (ρ.set i (.kd kvs'))[j]? = some t → (j = i ∧ t = .kd kvs') ∨ (j ≠ i ∧ ρ[j]? = some t) := fun j t e => by
    by_cases hj : i = j
    · subst hj
      rw [List.getElem?_set_self hi] at e
      exact .inl ⟨rfl, (Option.some.inj e).symm⟩
    · rw [List.getElem?_set_ne hj] at e
      exact .inr ⟨fun z => hj z.symm, e⟩
  refine ⟨⟨?_, tz_nil hT, ?_⟩, ⟨?_, fun _ => tz_nil hT⟩⟩
  · rw [etb]
    refine ⟨by simp [r.len], fun c o q => ?_, fun c q => ?_, fun j d q => ?_, fun j d q => ?_, fun j k d d' c q1 q2 s1 s2 => ?_⟩
    · rw [upd_ne (fun z => by subst z; rw [n.hid.2] at q; cases q)]
      exact r.sub c o q
    · refine ⟨(r.hid c q).1, ?_⟩
      by_cases hc : c = a
      · subst hc; exact ⟨_, upd_same, .ext _⟩
      · rw [upd_ne hc]; exact (r.hid c q).2
    · rcases hset j _ q with ⟨_, z⟩ | ⟨nj, z⟩
      · cases z
      · exact r.vals j d z
    · rcases hset j _ q with ⟨_, z⟩ | ⟨nj, z⟩
      · cases z
      · obtain ⟨c, o, k1, k2, k3, k4⟩ := r.ownsG j d z
        exact ⟨c, o, k1, k2, by rw [upd_ne (n.apart j d c z k1)]; exact k3, k4⟩
    · rcases hset j _ q1 with ⟨_, z⟩ | ⟨nj, z⟩
      · cases z
      · rcases hset k _ q2 with ⟨_, y⟩ | ⟨nk, y⟩
        · cases y
        · exact r.apart j k d d' c z y s1 s2
  · rw [etb]
    refine ⟨fun j xss q => ?_, fun j k xss yss q1 q2 => ?_, fun j kv q => ?_, fun j k kv s q1 q2 hs => ?_⟩
    · rcases hset j _ q with ⟨_, z⟩ | ⟨nj, z⟩
      · cases z
      · exact absurd (r.ns.oneK i j kvs _ e z rfl) (fun y => nj y.symm)
    · rcases hset j _ q1 with ⟨_, z⟩ | ⟨nj, z⟩
      · cases z
      · exact absurd (r.ns.oneK i j kvs _ e z rfl) (fun y => nj y.symm)
    · rcases hset j _ q with ⟨rfl, z⟩ | ⟨nj, z⟩
      · cases z
        refine ⟨a, es', ⟨n.slot, upd_same, n.hid, ents, fun k d c e1 e2 => ?_⟩⟩
        rcases hset k _ e1 with ⟨_, y⟩ | ⟨nk, y⟩
        · cases y
        · exact n.apart k d c y e2
      · exact absurd (r.ns.oneK i j kvs _ e z rfl) (fun y => nj y.symm)
    · rcases hset j _ q1 with ⟨rfl, _⟩ | ⟨nj, z⟩
      · rcases hset k _ q2 with ⟨rfl, _⟩ | ⟨nk, y⟩
        · rfl
        · exact absurd (r.ns.oneK _ k kvs s e y hs) (fun y => nk y.symm)
      · exact absurd (r.ns.oneK i j kvs _ e z rfl) (fun y => nj y.symm)
  · rw [etb]
    refine ⟨fun _ _ q => q, fun c o q z => ?_, fun _ _ q => .inl q, fun _ q => .inl q⟩
    rw [upd_ne (fun y => by subst y; rw [n.hid.1] at z; cases z)]
    exact q
end
end DL

/-! The data layer: x = {k: v, ..}, y = x.setdefault(k, v), the keys nested tuples. -/
namespace DL
open PySem PySem.Spec L2 PyProof.Rows
variable [Tbs]
def eKv : List (Ex × Ex) → Rho → Option (List (D × D))
  | [], _ => some []
  | (f, g) :: r, ρ => (f ρ).bind fun k => (g ρ).bind fun v => (eKv r ρ).map fun l => (k, v) :: l
inductive KvP (X : Cx) : List (Option Expr) → List Expr → List (Ex × Ex) → Prop
  | nil : KvP X [] [] []
  | cons {k v : Expr} {ks : List (Option Expr)} {vs : List Expr} {f g : Ex} {r : List (Ex × Ex)} : DP X k f [] → DP X v g [] → KvP X ks vs r → KvP X (some k :: ks) (v :: vs) ((f, g) :: r)
theorem vw_nil0 {ρ : Rho} {σ : L2.St} {W H : Hp} : vw ρ σ [] W H = W := vw_noO rfl
theorem kv_pps {X : Cx} {pos : Pos} : ∀ {ks : List (Option Expr)} {vs : List Expr} {r : List (Ex × Ex)}, KvP X ks vs r → ∃ trs, PPs X pos ks vs trs ∧ ∀ (ρ : Rho) (σ : L2.St) (O : Addr → Bool) (W H : Hp) (l : List (D × D)) (Q : List (V × V) → Hp → Prop), RZ X.K ρ σ O W H → eKv r ρ = some l →
    (∀ W' H' ps, PZ W H W' H' → Paired (fun (d : D × D) (p : V × V) => Rp X.K W' p.1 d.1 ∧ Rp X.K W' p.2 d.2) l ps → Q ps H') → tPairs trs σ H Q
  | _, _, _, .nil => ⟨[], pps_nil, fun ρ σ O W H l Q rs e k => by
    cases e
    exact k W H [] (PZ.refl rs.sub) .nil⟩
  | _, _, _, .cons (f := f) (g := g) (r := r) hk hv hr => by
    obtain ⟨trs, h1, h2⟩ := kv_pps (pos := pos) hr
    refine ⟨_, pps_cons hk hv h1, fun ρ σ O W H l Q rs e k => ?_⟩
    obtain ⟨d1, e1, e⟩ := opt_bind e
    obtain ⟨d2, e2, e⟩ := opt_bind e
    obtain ⟨l', e3, rfl⟩ := Option.map_eq_some_iff.mp e
    refine ⟨ρ, O, W, d1, rs, e1, fun v1 W1 H1 s1 q1 => ⟨ρ, O, W1, d2, rs.pstep s1, e2, fun v2 W2 H2 s2 q2 => ?_⟩⟩
    rw [vw_nil0] at q1 q2
    exact h2 ρ σ O W2 H2 l' _ ((rs.pstep s1).pstep s2) e3 fun W' H' ps s3 rel => k W' H' _ ((s1.trans s2).trans s3) (.cons ⟨rp_mono (s2.trans s3).le q1, rp_mono s3.le q2⟩ rel)
/-- a key: a tuple of texts, ints, such tuples, not deep -/
def kyOk : D → Bool
  | .tup ds => nkOks ds && decide ((nk (.tup ds)).depth ≤ 8)
  | _ => false
theorem ky_ref {K : PySem.W.Frag} {W : Hp} {v : V} {d : D} (h : kyOk d = true) (r : Rp K W v d) : ∃ b, v = .ref b := by
  cases r <;> first | exact ⟨_, rfl⟩ | cases h
theorem ky_nk {d : D} (h : kyOk d = true) : nkOk d = true ∧ (nk d).depth ≤ 8 := by
  cases d <;> first | (simp only [kyOk, Bool.and_eq_true, decide_eq_true_eq] at h; exact ⟨by rw [nkOk]; exact h.1, h.2⟩) | cases h
theorem ky_at {X : Cx} {H : Hp} {b : Addr} {d : D} (h : kyOk d = true) (r : Rp X.K H (.ref b) d) : KeyAt X H (nk d) b := fun pins σ s I => ⟨(rp_nk I (ky_nk h).1 r rfl).is, (ky_nk h).2⟩
theorem kv_es {K : PySem.W.Frag} {W : Hp} : ∀ {l : List (D × D)} {ps : List (V × V)}, Paired (fun (d : D × D) (p : V × V) => Rp K W p.1 d.1 ∧ Rp K W p.2 d.2) l ps → (∀ p ∈ l, kyOk p.1 = true) →
    ∃ es : List NE, ps = es.map (fun e => (V.ref e.2.1, e.2.2)) ∧ Paired (fun (p : D × D) (e : NE) => nkOk p.1 = true ∧ nk p.1 = e.1 ∧ Rp K W (.ref e.2.1) p.1 ∧ Rp K W e.2.2 p.2) l es
  | _, _, .nil, _ => ⟨[], rfl, .nil⟩
  | _, _, .cons (a := d) (b := p) h t, hk => by
    obtain ⟨es, e1, e2⟩ := kv_es t fun p m => hk p (List.mem_cons_of_mem _ m)
    have k := hk d List.mem_cons_self
    obtain ⟨b, eb⟩ := ky_ref k h.1
    obtain ⟨p1, p2⟩ := p
    have eb : p1 = V.ref b := eb
    subst eb
    exact ⟨(nk d.1, b, p2) :: es, by rw [e1]; rfl, .cons ⟨(ky_nk k).1, rfl, h.1, h.2⟩ e2⟩
theorem es_fst {K : PySem.W.Frag} {W : Hp} : ∀ {l : List (D × D)} {es : List NE}, Paired (fun (p : D × D) (e : NE) => nkOk p.1 = true ∧ nk p.1 = e.1 ∧ Rp K W (.ref e.2.1) p.1 ∧ Rp K W e.2.2 p.2) l es → es.map (·.1) = l.map fun p => nk p.1
  | _, _, .nil => rfl
  | _, _, .cons h t => by rw [List.map_cons, List.map_cons, es_fst t, h.2.1]
theorem es_mem {K : PySem.W.Frag} {W : Hp} {e : NE} : ∀ {l : List (D × D)} {es : List NE}, Paired (fun (p : D × D) (e : NE) => nkOk p.1 = true ∧ nk p.1 = e.1 ∧ Rp K W (.ref e.2.1) p.1 ∧ Rp K W e.2.2 p.2) l es → e ∈ es → ∃ p ∈ l, nk p.1 = e.1 ∧ Rp K W (.ref e.2.1) p.1
  | _, _, .nil, m => by cases m
  | _, _, .cons (a := p) h t, m => by
    rcases List.mem_cons.mp m with rfl | m
    · exact ⟨p, List.mem_cons_self, h.2.1, h.2.2.1⟩
    · obtain ⟨p, m, k⟩ := es_mem t m
      exact ⟨p, List.mem_cons_of_mem _ m, k⟩
theorem es_key {X : Cx} {W H : Hp} {l : List (D × D)} {es : List NE} (h : Paired (fun (p : D × D) (e : NE) => nkOk p.1 = true ∧ nk p.1 = e.1 ∧ Rp X.K W (.ref e.2.1) p.1 ∧ Rp X.K W e.2.2 p.2) l es) (hk : ∀ p ∈ l, kyOk p.1 = true) (s : Same W H) : ∀ e ∈ es, KeyAt X H e.1 e.2.1 := fun e m => by
  obtain ⟨p, mp, e1, r⟩ := es_mem h m
  have := ky_at (hk p mp) (rp_mono s r)
  rw [e1] at this
  exact this
/-- x = {k: v, ..} -/
def sKdNew (i : Nat) (r : List (Ex × Ex)) : Sx := fun ρ => (eKv r ρ).bind fun l => if (l.all (fun p => kyOk p.1) && decide (l.map fun p => nk p.1).Nodup && noHid ρ && decide (i < ρ.length)) = true then some (.nx (ρ.set i (.kd l))) else none
section
variable {X : Cx} {pos : Pos}
theorem ds_kdnew {i : Nat} {x : Str} {pos' p3 : Pos} {keys : List (Option Expr)} {values : List Expr} {r : List (Ex × Ex)} (hT : Tbs.T = []) (hF : Tbs.F = NDat X.prog X.w) (hu : X.A.units + 16 < cLine) (hN : X.N.Nodup) (hi : X.N[i]? = some x) (hx : Loc X.env.scope x) (hp : KvP X keys values r)
    (hall : keys.all (·.isSome) = true) (hl : keys.length = values.length) (h0 : keys ≠ []) (h15 : keys.length ≤ 15)
    (hs : swapsWith (.Dict keys values p3) (some (.Name x pos')) pos.line X.env = pure false := by rfl) (hf : X.fn x = true ∨ X.env.scope.names.lookup x = some .local := by first | exact .inl rfl | exact .inr rfl | assumption) :
    DS X (.Assign [.Name x pos'] (.Dict keys values p3) pos) (sKdNew i r) := by
  obtain ⟨trs, pp, run⟩ := kv_pps (pos := p3) hp
  refine ps_imp (ps_set hN hi hx (pe_dispN hu pp hall hl h0 h15) hs hf) fun E σ H ⟨ρ, O, W, out, rs, e, q⟩ => ?_
  obtain ⟨l, el, e⟩ := opt_bind e
  split at e
  · rename_i hc
    cases e
    simp only [Bool.and_eq_true, decide_eq_true_eq, List.all_eq_true] at hc
    obtain ⟨⟨⟨hk, nd⟩, hz⟩, hi'⟩ := hc
    intro p hp0
    have dn : ∀ kvs : List NE, dN X.prog X.w p kvs = .ext (Tbs.F p kvs) := fun kvs => by rw [hF]; rfl
    rw [dn]
    have tn : tb H p = none := tb_none hp0
    have wn : W p = none := w_free rs.sub hp0
    have keep : Same (tb H) (tb (upd H p (.ext (Tbs.F p [])))) := fun b o e => by
      rw [tb_upd nt_ext, upd_ne (fun z => by subst z; rw [tn] at e; cases e)]
      exact e
    have pe : tb (upd H p (.ext (Tbs.F p []))) p = some (.ext (Tbs.F p [])) := by rw [tb_upd nt_ext]; exact upd_same
    have r1 : RZ X.K ρ σ (fun b => O b || decide (b = p)) W (upd H p (.ext (Tbs.F p []))) := ⟨rs.toRS.growK keep (fun b e => by show (O b || _) = true; rw [e]; rfl) fun b e => by
      rcases Bool.or_eq_true_iff.mp e with z | z
      · exact .inl z
      · have m := of_decide_eq_true z
        subst m
        exact .inr ⟨tn, _, pe, .ext _⟩, tz_nil hT, NS.not fun j s h => noHid_get hz j s h⟩
    have s0 : SZ O W H (fun b => O b || decide (b = p)) W (upd H p (.ext (Tbs.F p []))) := ⟨⟨fun _ _ e => e, fun b o e _ => keep b o e, fun _ _ e => .inl e, fun b e => (Bool.or_eq_true_iff.mp e).elim .inl fun z => .inr (by rw [of_decide_eq_true z]; exact tn)⟩, fun _ => tz_nil hT⟩
    refine run ρ σ _ W _ l _ r1 el fun W' H' ps s1 rel => ?_
    obtain ⟨es, e1, e2⟩ := kv_es rel hk
    have hp1 : H' p = some (.ext (Tbs.F p [])) := s1.at pe
    have wn' : W' p = none := by
      cases z : W' p with
      | none => rfl
      | some u =>
        rcases s1.new p u z with y | y
        · rw [wn] at y; cases y
        · rw [pe] at y; cases y
    have r2 := r1.pstep s1
    obtain ⟨r3, s3⟩ := r2.kdNew (i := i) (kvs := l) (a := p) (es := es) hT hz hi' hp1 (by show (O p || decide (p = p)) = true; simp) wn' (fun j d c z1 z2 => fun z => by
      subst z
      obtain ⟨c', o, k1, k2, k3, _⟩ := rs.ownsG j d z1
      rw [z2] at k1
      cases k1
      rw [tn] at k3
      cases k3) e2
    refine ⟨hp1, es, e1, by rw [es_fst e2]; exact nd, es_key e2 hk (r2.sub.trans tb_le), ?_⟩
    rw [dn]
    exact q _ _ W' _ ((s0.trans s1.s).trans s3) r3
  · cases e
end
end DL

namespace DL
open PySem PySem.Spec L2 PyProof.Rows
variable [Tbs]
def kdGet (kvs : List (D × D)) (k : D) : Option D := (kvs.find? fun p => decide (nk p.1 = nk k)).map (·.2)
theorem kd_val {K : PySem.W.Frag} {W : Hp} {k : D} : ∀ {l : List (D × D)} {es : List NE}, Paired (fun (p : D × D) (e : NE) => nkOk p.1 = true ∧ nk p.1 = e.1 ∧ Rp K W (.ref e.2.1) p.1 ∧ Rp K W e.2.2 p.2) l es → (kdGet l k = none ∧ valN es (nk k) = none) ∨ ∃ d v, kdGet l k = some d ∧ valN es (nk k) = some v ∧ Rp K W v d
  | _, _, .nil => .inl ⟨rfl, rfl⟩
  | _, _, .cons (a := p) (b := e) (l₁ := l) (l₂ := es) h t => by
    by_cases q : nk p.1 = nk k
    · have q2 : e.1 = nk k := h.2.1.symm.trans q
      exact .inr ⟨p.2, e.2.2, by simp [kdGet, q], by simp [valN, q2], h.2.2.2⟩
    · have q2 : ¬ e.1 = nk k := fun z => q (h.2.1.trans z)
      rcases kd_val (k := k) t with ⟨z1, z2⟩ | ⟨d, v, z1, z2, z3⟩
      · exact .inl ⟨by unfold kdGet at z1 ⊢; rw [List.find?_cons_of_neg (by simpa using q)]; exact z1, by unfold valN at z2 ⊢; rw [List.find?_cons_of_neg (by simpa using q2)]; exact z2⟩
      · exact .inr ⟨d, v, by unfold kdGet at z1 ⊢; rw [List.find?_cons_of_neg (by simpa using q)]; exact z1, by unfold valN at z2 ⊢; rw [List.find?_cons_of_neg (by simpa using q2)]; exact z2, z3⟩
theorem KdAt.pstep {K : PySem.W.Frag} {ρ : Rho} {σ : L2.St} {O : Addr → Bool} {W H W' H' : Hp} {i : Nat} {kvs : List (D × D)} {a : Addr} {es : List NE} (n : KdAt K ρ σ O W H i kvs a es) (p : PStep W H W' H') : KdAt K ρ σ O W' H' i kvs a es := by
  refine n.keep n.hid.1 ?_ (fun o e => p.keep a o e) p.le rfl n.apart
  cases q : W' a with
  | none => rfl
  | some u =>
    rcases p.new a u q with z | z
    · rw [n.hid.2] at z; cases z
    · rw [n.at0] at z; cases z
/-- y = x.setdefault(k, v) -/
def sKdSet (j i : Nat) (f g : Ex) : Sx := fun ρ => (f ρ).bind fun k => (g ρ).bind fun v => match ρ[i]? with
  | some (.kd kvs) => if (kvs.all (fun p => kyOk p.1) && kyOk k && noL v && decide (kvs.length ≤ 1000) && decide (j ≠ i)) = true then match kdGet kvs k with
    | some d => some (.nx (ρ.set j (.val d)))
    | none => some (.nx ((ρ.set i (.kd (kvs ++ [(k, v)]))).set j (.val v)))
    else none
  | _ => none
theorem pair_snoc {α β : Type} {F : α → β → Prop} {a : α} {b : β} {l : List α} {m : List β} (h : Paired F l m) (k : F a b) : Paired F (l ++ [a]) (m ++ [b]) := Paired.snoc h k
section
variable {X : Cx} {pos : Pos} {al bl : List Nat}
theorem ds_kdset {i j : Nat} {y : Str} {py : Pos} {o a b : Expr} {f g : Ex} {apos cpos : Pos} (hT : Tbs.T = []) (hF : Tbs.F = NDat X.prog X.w) (hu : X.A.units + 16 < cLine) (hN : X.N.Nodup) (hj : X.N[j]? = some y) (hx : Loc X.env.scope y) (ho : PE X o (tVar i)) (ha : DP X a f al) (hb : DP X b g bl) (m : M2 X o "setdefault" apos a b cpos)
    (hs : swapsWith (.Call (.Attribute o "setdefault" apos) [a, b] [] cpos) (some (.Name y py)) pos.line X.env = pure false := by rfl) (hf : X.fn y = true ∨ X.env.scope.names.lookup y = some .local := by first | exact .inl rfl | exact .inr rfl | assumption) :
    DS X (.Assign [.Name y py] (.Call (.Attribute o "setdefault" apos) [a, b] [] cpos) pos) (sKdSet j i f g) := by
  refine ps_imp (ps_set hN hj hx (pe_setN hu ho ha hb m) hs hf) fun E σ H ⟨ρ, O, W, out, rs, e, q⟩ => ?_
  obtain ⟨k, e1, e⟩ := opt_bind e
  obtain ⟨d, e2, e⟩ := opt_bind e
  split at e
  · rename_i kvs hq
    split at e
    · rename_i hc
      simp only [Bool.and_eq_true, decide_eq_true_eq, List.all_eq_true] at hc
      obtain ⟨⟨⟨⟨hks, hk⟩, hv⟩, hlen⟩, hij⟩ := hc
      obtain ⟨a0, es, n⟩ := rs.ns.hasK i kvs hq
      have dn : ∀ kvs : List NE, dN X.prog X.w a0 kvs = .ext (Tbs.F a0 kvs) := fun kvs => by rw [hF]; rfl
      refine ⟨.ref a0, n.slot, a0, es, rfl, by rw [dn]; exact tb_le _ _ n.at0, ρ, O, W, k, rs, e1, fun v1 W1 H1 s1 q1 => ⟨ρ, O, W1, d, rs.pstep s1, e2, fun v2 W2 H2 s2 q2 => ?_⟩⟩
      have q1 := rp_down (rs.pstep s1) (nkOk_noL (ky_nk hk).1) q1
      have q2 := rp_down ((rs.pstep s1).pstep s2) hv q2
      have q1 := rp_mono s2.le q1
      obtain ⟨b0, rfl⟩ := ky_ref hk q1
      have r2 := (rs.pstep s1).pstep s2
      have n2 := (n.pstep s1.toPStep).pstep s2.toPStep
      have le2 : Same W2 H2 := r2.sub.trans tb_le
      have len : es.length = kvs.length := (Paired.length n2.ents).symm
      refine ⟨a0, es, nk k, b0, v2, rfl, rfl, by rw [dn]; exact tb_le _ _ n2.at0, by rw [len, line_eq]; omega, ky_at hk (rp_mono le2 q1), es_key n2.ents hks le2, fun u eu => ?_, fun en => ?_⟩
      · rcases kd_val (k := k) n2.ents with ⟨_, z⟩ | ⟨d', v', z1, z2, z3⟩
        · rw [z] at eu; cases eu
        · rw [z2] at eu
          cases eu
          rw [z1] at e
          cases e
          exact q _ O W2 H2 (s1.trans s2).s (r2.set z3)
      · rcases kd_val (k := k) n2.ents with ⟨z0, _⟩ | ⟨d', v', z1, z2, z3⟩
        · rw [z0] at e
          cases e
          rw [dn]
          obtain ⟨r3, s3⟩ := r2.kdWrite (kvs' := kvs ++ [(k, d)]) (es' := es ++ [(nk k, b0, v2)]) hT hq n2 (pair_snoc n2.ents ⟨(ky_nk hk).1, rfl, q1, q2⟩)
          exact q _ O W2 _ ((s1.trans s2).s.trans s3) (r3.set q2)
        · rw [z2] at en; cases en
    · cases e
  · cases e
end
/-! ### walks -/
section
variable {ρ : Rho} {f g : Ex}
theorem w_kdnew {i : Nat} {r : List (Ex × Ex)} {Q : Out → Prop} (q : Wp (eKv r ρ) fun l => (l.all (fun p => kyOk p.1) && decide (l.map fun p => nk p.1).Nodup && noHid ρ && decide (i < ρ.length)) = true ∧ Q (.nx (ρ.set i (.kd l)))) : Wp (sKdNew i r ρ) Q := by
  obtain ⟨l, e, h, q⟩ := q
  refine ⟨_, ?_, q⟩
  unfold sKdNew
  rw [e, Option.bind_some, if_pos h]
theorem w_kv0 {Q : List (D × D) → Prop} (q : Q []) : Wp (eKv [] ρ) Q := ⟨_, rfl, q⟩
theorem w_kv1 {r : List (Ex × Ex)} {Q : List (D × D) → Prop} (q : Wp (f ρ) fun k => Wp (g ρ) fun v => Wp (eKv r ρ) fun l => Q ((k, v) :: l)) : Wp (eKv ((f, g) :: r) ρ) Q := by
  obtain ⟨k, e1, v, e2, l, e3, q⟩ := q
  refine ⟨_, ?_, q⟩
  unfold eKv
  rw [e1, Option.bind_some, e2, Option.bind_some, e3]
  rfl
theorem w_kdset {j i : Nat} {Q : Out → Prop} (q : Wp (f ρ) fun k => Wp (g ρ) fun v => ∃ kvs, ρ[i]? = some (.kd kvs) ∧ (kvs.all (fun p => kyOk p.1) && kyOk k && noL v && decide (kvs.length ≤ 1000) && decide (j ≠ i)) = true ∧
    (∀ d, kdGet kvs k = some d → Q (.nx (ρ.set j (.val d)))) ∧ (kdGet kvs k = none → Q (.nx ((ρ.set i (.kd (kvs ++ [(k, v)]))).set j (.val v))))) : Wp (sKdSet j i f g ρ) Q := by
  obtain ⟨k, e1, v, e2, kvs, h1, h2, q1, q2⟩ := q
  cases z : kdGet kvs k with
  | some d =>
    refine ⟨_, ?_, q1 d z⟩
    unfold sKdSet
    rw [e1, Option.bind_some, e2, Option.bind_some, h1]
    show (if _ then _ else _) = _
    rw [if_pos h2, z]
  | none =>
    refine ⟨_, ?_, q2 z⟩
    unfold sKdSet
    rw [e1, Option.bind_some, e2, Option.bind_some, h1]
    show (if _ then _ else _) = _
    rw [if_pos h2, z]
end
end DL
namespace DL
open PySem PySem.Spec L2
theorem hu16 {A : Around} {k : Nat} (hr : Room k A) : A.units + 16 < cLine := by have := hu64 hr; omega
end DL

/-! The data layer: for targets in x: if t: return f, where x is an own list that stays one. -/
namespace DL
open PySem PySem.Spec L2 PyProof.Rows
section
variable [Tbs] {X : Cx} {pos p1 p2 : Pos} {al : List Nat}
def sForK (i : Nat) (g : D → Rho → Option Rho) (B : Sx) : Sx := fun ρ => match ρ[i]? with
  | some (.own xs) => forS g B xs ρ
  | _ => none
theorem ds_forK {i : Nat} {tg iter c a : Expr} {t : Te} {f : Ex} {g : D → Rho → Option Rho} {ts : List Nat} (hp : PassesOwn (model X.prog X.w) X.A X.env X.xe) (hcalm : X.calm = true) (hi : PE X iter (tVar i)) (hg : DG X tg g ts) (hc : DT X c t) (ha : DP X a f al)
    (hs : ∀ x, foldedSetIterable iter X.env x = pure x := by intro _; rfl) : DS X (.For tg iter [.If c [.Return (some a) p1] [] p2] [] pos) (sForK i g (sIf t (sRet f) sNil)) := by
  refine ps_imp (ps_for hp hcalm (pi_list hi) hg (pss_one (ps_if hc (pss_one (ps_ret ha)) pss_nil)) hs) fun E σ H ⟨ρ, O, W, out, rs, e, q⟩ => ?_
  unfold sForK at e
  split at e
  · rename_i xs hq
    obtain ⟨a0, vs, h1, h2, h3, h4⟩ := rs.owns i _ hq
    refine ⟨_, h1, a0, rfl, ⟨vs, .inl (.inl (tb_le _ _ h3))⟩, ?_⟩
    have hlen := h4.length
    refine for_it walk_list (fun j σ' H' => ∃ ρ' W', PZ W H W' H' ∧ RZ X.K ρ' σ' O W' H' ∧ forS g (sIf t (sRet f) sNil) (xs.drop j) ρ' = some out) ⟨ρ, W, .refl rs.sub, rs, e⟩ (fun j σ' H' _ ⟨ρ', W', a1, a2, a4⟩ => .inl (.inl (a1.at h3))) (fun j x σ' H' H'' hj ⟨ρ', W', a1, a2, a4⟩ y => ?_) (fun σ' H' ⟨ρ', W', a1, a2, a4⟩ => ?_)
    · obtain ⟨rfl, ex⟩ := y
      obtain ⟨d, hd, rp⟩ := h4.getV ex
      have hj' : j < xs.length := by omega
      rw [List.drop_eq_getElem_cons hj'] at a4
      have hdd : xs[j] = d := by
        rw [List.getElem?_eq_getElem hj'] at hd
        exact Option.some.inj hd
      rw [hdd] at a4
      obtain ⟨ρ1, b1, b2⟩ := opt_bind a4
      obtain ⟨o, b3, b4⟩ := opt_bind b2
      obtain ⟨b, b5, b6⟩ := opt_bind (show ((t ρ1).bind fun b => if b = true then sRet f ρ1 else sNil ρ1) = some o from b3)
      refine ⟨ρ', O, W', d, ρ1, a2, rp_mono a1.le rp, b1, fun σ1 r1 _ => ⟨ρ1, O, W', b, r1, b5, fun W1 H1 s1 => ?_⟩⟩
      cases b with
      | true =>
        obtain ⟨d2, b7, rfl⟩ := Option.map_eq_some_iff.mp (show (f ρ1).map .ret = some o from b6)
        cases b4
        refine iteT ⟨ρ1, O, W1, d2, r1.pstep s1, b7, fun v W2 H2 s2 p2 => ?_⟩
        obtain ⟨O3, W3, k1, k2, k3⟩ := ((r1.pstep s1).pstep s2).esc p2
        exact q v O3 W3 H2 (((a1.trans s1).trans s2).s.trans k1.t) k2.sub k3
      | false =>
        cases (show some (Out.nx ρ1) = some o from b6)
        exact iteF ⟨ρ1, W1, a1.trans s1, r1.pstep s1, b4⟩
    · rw [List.drop_eq_nil_of_le (by omega)] at a4
      cases a4
      exact q σ' O W' H' a1.s a2
  · cases e
end
section
variable {ρ : Rho}
theorem w_forK {i : Nat} {g : D → Rho → Option Rho} {B : Sx} {xs : List D} {Q : Out → Prop} (e : ρ[i]? = some (.own xs)) (q : Wp (forS g B xs ρ) Q) : Wp (sForK i g B ρ) Q := by
  obtain ⟨o, e1, q⟩ := q
  refine ⟨o, ?_, q⟩
  unfold sForK
  rw [e]
  exact e1
end
end DL

/-! Walk rules for dicts. -/
namespace DL
open PySem L2
variable {ρ : Rho} {f g h : Ex}
theorem w_dnew {i : Nat} {Q : Out → Prop} (q : Q (.nx (ρ.set i (.dic [])))) : Wp (sDnew i ρ) Q := ⟨_, rfl, q⟩
theorem w_dput {i : Nat} {x : Xe} {Q : Out → Prop} (q : Wp (x ρ) fun z => Wp (g z.2) fun n => ∃ k kvs, dKey n = some k ∧ z.2[i]? = some (.dic kvs) ∧ kvs.length < 16777216 ∧ Q (.nx (z.2.set i (.dic (putD kvs k z.1))))) : Wp (sDput i x g ρ) Q := by
  refine w_bind (q.mono fun z y => w_bind (y.mono fun n w => ?_))
  obtain ⟨k, kvs, e1, e2, e3, e4⟩ := w
  refine ⟨_, ?_, e4⟩
  show (match dKey n, z.2[i]? with | some k, some (.ow (.dct kvs)) => _ | _, _ => none) = _
  rw [e1, e2]
  exact if_pos e3
theorem w_dpop {i : Nat} {Q : Out → Prop} (q : Wp (g ρ) fun n => ∃ k kvs, dKey n = some k ∧ ρ[i]? = some (.dic kvs) ∧ (valD kvs k).isSome = true ∧ Q (.nx (ρ.set i (.dic (dropD kvs k))))) : Wp (sDpop i g ρ) Q := by
  refine w_bind (q.mono fun n w => ?_)
  obtain ⟨k, kvs, e1, e2, e3, e4⟩ := w
  refine ⟨_, ?_, e4⟩
  show (match dKey n, ρ[i]? with | some k, some (.ow (.dct kvs)) => _ | _, _ => none) = _
  rw [e1, e2]
  exact if_pos e3
theorem w_get {Q : D → Prop} (q : Wp (f ρ) fun x => Wp (g ρ) fun y => Wp (h ρ) fun z => ∃ kvs k, x = .dct kvs ∧ dKey y = some k ∧ Q ((valD kvs k).getD z)) : Wp (eGet f g h ρ) Q := by
  refine w_bind (q.mono fun x y => w_bind (y.mono fun n w => w_bind (w.mono fun z u => ?_)))
  obtain ⟨kvs, k, rfl, e1, e2⟩ := u
  refine ⟨_, ?_, e2⟩
  show ((dKey n).bind fun k => some ((valD kvs k).getD z)) = _
  rw [e1]
  rfl
theorem w_ixdT {xs : List D} {y : D} {Q : D → Prop} (q : Wp (dIx (.tup xs) y) Q) : Wp (dIxD (.tup xs) y) Q := q
theorem w_ixdL {xs : List D} {y : D} {Q : D → Prop} (q : Wp (dIx (.lst xs) y) Q) : Wp (dIxD (.lst xs) y) Q := q
theorem w_ixdD {kvs : List (Key × D)} {y d : D} {k : Key} {Q : D → Prop} (e : dKey y = some k) (e2 : valD kvs k = some d) (q : Q d) : Wp (dIxD (.dct kvs) y) Q := ⟨d, by show (dKey y).bind _ = _; rw [e]; exact e2, q⟩
theorem w_vd {i : Nat} {kvs : List (Key × D)} {Q : D → Prop} (e : ρ[i]? = some (.dic kvs)) (q : Q (.dct kvs)) : Wp (eV i ρ) Q := ⟨_, by unfold eV; rw [e], q⟩
end DL

/-! The data layer: functions that return a dict of their own; x.pop(i). -/
namespace DL
open PySem PySem.Spec L2
section
variable [Tbs]
def spQ (K : PySem.W.Frag) (φ : List D → Option D) (n : Nat) : Sp := fun vs H Q _ => ∃ W ds xs, ds.length = n ∧ Same W (tb H) ∧ TZ H ∧ RpAll K W vs ds ∧ φ ds = some (.dct xs) ∧
  ∀ a us W' H', PZ W H W' H' → tb H a = none → W' a = none → H' a = some (.dK us) → RpKv K W' us xs → Q (.ref a) H'
structure FOkQ (P : Program) (w : World) (K : PySem.W.Frag) (mg : Str → Option Value) (base : Heap) (n : Nat) (x : Str) (ps : List Str) (φ : List D → Option D) : Prop where
  ex : ∃ f fd, mg x = some (.ref f) ∧ PySem.W.keepIn K (.ref f) = true ∧ Binds K fd ps [] ∧ FnOk P w K mg base CX0 n f fd ps (spQ K φ ps.length)
abbrev Kvs := List (Key × D)
def qC (n : Nat) (φ : List D → Option D) (fs : Exs) : Rho → Option Kvs := fun ρ => (fs ρ).bind fun ds => (fnL n φ ds).bind fun d => match d with
  | .dct xs => some xs
  | _ => none
/-- a new dict, held by nothing yet -/
def tQd (K : PySem.W.Frag) (f : Rho → Option Kvs) (al : List Nat) : TE := fun σ H Q => ∃ ρ O W ds, RZ K ρ σ O W H ∧ f ρ = some ds ∧
  ∀ a vs W' H', PZ W H W' H' → tb H a = none → W' a = none → H' a = some (.dK vs) → RpKv K (vw ρ σ al W' (tb H')) vs ds → Q (.ref a) H'
section
variable {X : Cx} {a b c : Expr} {es : List Expr} {f g h : Ex} {fs : Exs} {al bl cl : List Nat} {pos p : Pos}
theorem dq_call {n k : Nat} {x : Str} {ps : List Str} {φ : List D → Option D} (F : FOkQ X.prog X.w X.K X.mg X.base n x ps φ) (hr : Room n X.A) (hg : Gl X x) (ha : DA X (a :: es) fs al) (hdb : (x == ("__debug__" : Str)) = false := by decide)
    (he : starEach (a :: es) X.env = (false, eval a X.env) :: starEach es X.env := by rfl) (hpl : (backTo pos (starEach es X.env)).any (·.1) = false := by rfl) (hkk : ps.length = k := by rfl) : PE X (.Call (.Name x p) (a :: es) [] pos) (tQd X.K (qC k φ fs) al) := by
  subst hkk
  obtain ⟨fa, fd, hm, hk, hb, F⟩ := F.ex
  refine pe_imp (pe_call F hr hg hm hk hb .nil pass0 ha hdb he hpl) fun σ H Q ⟨ρ, O, W, xs, rs, e, q⟩ => ?_
  obtain ⟨ds, h1, e⟩ := opt_bind e
  obtain ⟨d, h2, e⟩ := opt_bind e
  unfold fnL at h2
  split at h2
  · rename_i hl
    split at e
    · cases e
      refine ⟨ρ, O, W, ds, rs, h1, fun vs W1 H1 s1 p1 => ?_⟩
      show spQ _ _ _ (vs ++ []) H1 Q _
      rw [List.append_nil]
      refine ⟨vw ρ σ al W1 (tb H1), ds, xs, hl, vw_sub s1.sub, (rs.pstep s1).tz, p1, h2, fun a us U' H' st hn w hh ra => ?_⟩
      obtain ⟨k1, k2⟩ := seen_ok s1.sub st
      refine q a us (seen W1 (tb H1) U') H' (s1.trans k1) (s1.keep.free hn) ?_ hh (rpKv_mono k2 ra)
      have w1 : W1 a = none := by
        cases z : W1 a with
        | none => rfl
        | some o => rw [s1.sub a o z] at hn; cases hn
      unfold seen
      rw [w1, hn]
      exact w
    · cases e
  · cases h2
/-- what is never reached -/
def eNone : Ex := fun _ => none
theorem dp_none {e : Expr} : DP X e eNone [] := ⟨fun pins s σ H Q I ⟨ρ, O, W, d, rs, e, q⟩ => nomatch e⟩
/-- x = f(..), a dict of its own -/
def sOwnD (i : Nat) (al : List Nat) (fs : Rho → Option Kvs) : Sx := fun ρ => (fs ρ).bind fun xs => if noO al ρ = true then some (.nx (ρ.set i (.dic xs))) else none
theorem ds_ownD {i : Nat} {x : Str} {fs : Rho → Option Kvs} {pos' : Pos} (hN : X.N.Nodup) (hi : X.N[i]? = some x) (hx : Loc X.env.scope x) (he : PE X a (tQd X.K fs al)) (hs : swapsWith a (some (.Name x pos')) pos.line X.env = pure false := by rfl) (hf : X.fn x = true ∨ X.env.scope.names.lookup x = some .local := by first | exact .inl rfl | exact .inr rfl | assumption) :
    DS X (.Assign [.Name x pos'] a pos) (sOwnD i al fs) := ps_imp (ps_set hN hi hx he hs hf) fun E σ H ⟨ρ, O, W, out, rs, e, q⟩ => by
  obtain ⟨xs, e1, e⟩ := opt_bind e
  split at e
  · rename_i hz
    cases e
    refine ⟨ρ, O, W, xs, rs, e1, fun a vs W' H' s n w hh ra => ?_⟩
    have r1 := rs.pstep s
    rw [vw_noO hz] at ra
    have oa : O a = false := by
      cases z : O a with
      | false => rfl
      | true => obtain ⟨_, us, y, _⟩ := rs.hid a z; rw [n] at y; cases y
    have r2 : RZ X.K (ρ.set i (.dic xs)) (σ.set i (some (.ref a))) (fun b => O b || decide (b = a)) W' H' := ⟨r1.toRS.setOw (tb_of hh nt_dK) w oa (.dK ra), r1.tz, r1.ns.own oa⟩
    refine q _ _ W' H' ⟨⟨s.le, fun b o e _ => s.keep b o e, fun b o e => (s.new b o e).elim .inl fun z => .inr (.inl z), fun b e => ?_⟩, s.tabs⟩ r2
    rcases Bool.or_eq_true_iff.mp e with z | z
    · exact .inl z
    · exact .inr (by rw [of_decide_eq_true z]; exact n)
  · cases e
def tSQ (K : PySem.W.Frag) (F : Sx) (i : Nat) : TS := fun E σ H => ∃ ρ O W ρ' xs, RZ K ρ σ O W H ∧ F ρ = some (.nx ρ') ∧ ρ'[i]? = some (.dic xs) ∧
  ∀ a us O' W' H', SZ O W H O' W' H' → Same W' (tb H') → O' a = true → W' a = none → H' a = some (.dK us) → RpKv K W' us xs → E.rt (.ref a) H'
theorem dsq_cons {st : Stmt} {rest : List Stmt} {F G : Sx} {i : Nat} (h1 : DS X st F) (h2 : PSs X rest (tSQ X.K G i)) : PSs X (st :: rest) (tSQ X.K (sSeq F G) i) := pss_imp (pss_cons h1 h2) fun E σ H ⟨ρ, O, W, ρ', xs, rs, e, hx, q⟩ => by
  obtain ⟨o, e1, e2⟩ := opt_bind e
  refine ⟨ρ, O, W, o, rs, e1, ?_⟩
  cases o with
  | nx ρ1 => exact fun σ' O' W' H' s' r' => ⟨ρ1, O', W', ρ', xs, r', e2, hx, fun a us O2 W2 H2 s2 => q a us O2 W2 H2 (s'.trans s2)⟩
  | ret d => cases e2
  | brk ρ' => cases e2
  | ct ρ' => cases e2
theorem dsq_ret {i : Nat} {e : Expr} (h : PE X e (tVar i)) : PSs X [.Return (some e) pos] (tSQ X.K sNil i) := pss_imp (pss_one (ps_ret h)) fun E σ H ⟨ρ, O, W, ρ', xs, rs, e, hx, q⟩ => by
  cases e
  obtain ⟨a, vs, h1, h2, h3, h4⟩ := rs.dics i xs hx
  exact ⟨.ref a, h1, q a vs O W H .refl rs.sub h2 (rs.hid a h2).1 (tb_le _ _ h3) h4⟩
theorem de_popAt {i : Nat} {o : Expr} {apos cpos : Pos} (ho : PE X o (tVar i)) (ha : DP X a f al) (hbase : attributeBase o "pop" X.env (eval o X.env) = eval o X.env := by rfl)
    (hfew : ((backTo cpos (starEach [a] X.env)).all (fun x => !x.1) && (backToKw cpos (keywordEach [] X.env)).all (fun x => x.1.isSome)
      && decide (([a] : List Expr).length + ([] : List Keyword).length + (if ([] : List Keyword).isEmpty then 0 else 1) < 30)) = true := by rfl)
    (hline : (apos.endLine == cpos.line) = true := by rfl) (hs : starEach [a] X.env = (false, eval a X.env) :: starEach [] X.env := by rfl) (hplain : (backTo cpos (starEach [] X.env)).any (·.1) = false := by rfl) :
    DE X (.Call (.Attribute o "pop" apos) [a] [] cpos) (xPopAt i f) := by
  refine pe_imp (pe_bm PySem.F.plainAttrs_list PySem.F.slot_list_pop PySem.F.type_list_pop mt_popAt ho (pa_cons ha pa_nil hs) hbase hfew hline hs hplain) fun σ H Q ⟨ρ, O, W, d, ρ', rs, e, q⟩ => ?_
  obtain ⟨k, e1, e⟩ := opt_bind e
  split at e
  · rename_i n xs hq
    split at e
    · rename_i hz
      obtain ⟨j, e2, e⟩ := opt_bind e
      obtain ⟨d', e3, e4⟩ := Option.map_eq_some_iff.mp e
      cases e4
      obtain ⟨a, vs, h1, h2, h3, h4⟩ := rs.owns i xs hq
      refine ⟨.ref a, h1, .inl ⟨rfl, _, .inl (.inl (tb_le _ _ h3))⟩, ρ, O, W, _, rs, e1, fun v1 W1 H1 s1 p1 => ?_⟩
      cases p1
      have r1 := rs.pstep s1
      obtain ⟨v, g1, g2⟩ := h4.get e3
      obtain ⟨k1, k2⟩ := r1.write (xs := xs.eraseIdx j) hq h1 ((rpAll_mono s1.le h4).eraseIdx j)
      exact ⟨a, vs, n, j, v, rfl, rfl, s1.at h3, hz.1, hz.2, by rw [h4.length]; exact e2, g1, q v O W1 _ (s1.s.trans k2) k1 (rp_mono s1.le g2)⟩
    · cases e
  · cases e
theorem ko_popAt {j : Nat} {f : Ex} : Ko (xPopAt j f) := fun i ρ d ρ' xs e h => by
  obtain ⟨k, e1, e⟩ := opt_bind e
  split at e
  · rename_i n ys hq
    split at e
    · obtain ⟨m, e2, e⟩ := opt_bind e
      obtain ⟨d', e3, e4⟩ := Option.map_eq_some_iff.mp e
      cases e4
      by_cases hj : j = i
      · subst hj
        exact ⟨ys, hq⟩
      · rw [List.getElem?_set_ne hj] at h
        exact ⟨xs, h⟩
    · cases e
  · cases e
end
def runQ (n i : Nat) (B : Sx) (ds : List D) : Option D := (B (start' n ds)).bind fun o => match o with
  | .nx ρ => match ρ[i]? with
    | some (.ow (.dct xs)) => some (.dct xs)
    | _ => none
  | _ => none
theorem runQ_some {n i : Nat} {B : Sx} {ds : List D} {d : D} (h : runQ n i B ds = some d) : ∃ ρ xs, B (start' n ds) = some (.nx ρ) ∧ ρ[i]? = some (.dic xs) ∧ d = .dct xs := by
  obtain ⟨o, e1, e2⟩ := opt_bind h
  cases o with
  | nx ρ =>
    refine ⟨ρ, ?_⟩
    have e2 : (match ρ[i]? with
      | some (.ow (.dct xs)) => some (.dct xs)
      | _ => none) = some d := e2
    split at e2
    · rename_i xs z
      cases e2
      exact ⟨xs, e1, z, rfl⟩
    · cases e2
  | ret d => cases e2
  | brk ρ' => cases e2
  | ct ρ' => cases e2
theorem fn_mkQ {P : Program} {w : World} {K : PySem.W.Frag} {mg : Str → Option Value} {base : Heap} {k i : Nat} {x qual : Str} {st : Stmt} {fa : Addr} {fd : FuncData} {N ps : List Str} {B : Sx} (F : Fun K x qual st fa fd) (S : FnScope N ps (defScope st))
    (body : ∀ (cdv : Value) (A : Around) (outer : List PySem.Env) (s : Shared) (H : Hp) (E : XK), Room k (A.deeper (PyProof.Rows.envOfC qual (defScope st) s.heap.objs.size fa cdv)) → PSs (cxOf CX0 P w K mg base N qual (defScope st) fa cdv A outer s H E).nox (defBody st) (tSQ K B i)) : FnOk P w K mg base CX0 (k + 1) fa fd ps (spQ K (runQ N.length i B) ps.length) := by
  refine F.ok S (fun vs H Q E h => ?_) (fun cdv A outer s H vs Q E hr h => ?_)
  · obtain ⟨W, ds, d, h1, _, _, h2, _⟩ := h
    rw [h2.length, h1]
  · obtain ⟨W, ds, xs, h1, h2, hz, h3, h4, h5⟩ := h
    refine ⟨_, body cdv A outer s H E hr, ?_⟩
    obtain ⟨ρ, ys, e1, e2, e3⟩ := runQ_some h4
    cases e3
    have fin : ∀ {O' : Addr → Bool} {W' H' : Hp}, SZ (fun _ => false) W H O' W' H' → Same W' (tb H') → PZ W H W' H' := fun s sb => ⟨⟨s.le, fun b o e => s.keep b o e rfl, sb, fun b o e => (s.new b o e).elim .inl fun z => z.elim .inr fun y => nomatch y⟩, s.tabs⟩
    exact ⟨start' N.length ds, fun _ => false, W, ρ, xs, ⟨rs_start h2 h3, hz, ns_start⟩, e1, e2, fun a us O' W' H' s sb ho hw hh ra => h5 a us W' H' (fin s sb) ((s.own a ho).elim (fun z => nomatch z) id) hw hh ra⟩
theorem fokQ_mk {P : Program} {w : World} {K : PySem.W.Frag} {mg : Str → Option Value} {base : Heap} {k i : Nat} {x qual : Str} {st : Stmt} {fa : Addr} {fd : FuncData} {N ps : List Str} {B : Sx} (F : Fun K x qual st fa fd) (hm : mg x = some (.ref fa)) (S : FnScope N ps (defScope st)) (hb : Binds K fd ps [])
    (body : ∀ (cdv : Value) (A : Around) (outer : List PySem.Env) (s : Shared) (H : Hp) (E : XK), Room k (A.deeper (PyProof.Rows.envOfC qual (defScope st) s.heap.objs.size fa cdv)) → PSs (cxOf CX0 P w K mg base N qual (defScope st) fa cdv A outer s H E).nox (defBody st) (tSQ K B i)) : FOkQ P w K mg base (k + 1) x ps (runQ N.length i B) :=
  ⟨fa, fd, hm, F.kp, hb, fn_mkQ F S body⟩
theorem fokQ_zero {P : Program} {w : World} {K : PySem.W.Frag} {mg : Str → Option Value} {base : Heap} {x qual : Str} {st : Stmt} {fa : Addr} {fd : FuncData} {ps : List Str} {φ : List D → Option D} (F : Fun K x qual st fa fd) (hm : mg x = some (.ref fa)) (hb : Binds K fd ps []) (h0 : ∀ ds, φ ds = none) : FOkQ P w K mg base 0 x ps φ := by
  refine ⟨fa, fd, hm, F.kp, hb, ⟨fun vs H Q E h => ?_, fun A outer s H args us vs Q E hr e0 hbt rv h => ?_⟩⟩
  · obtain ⟨W, ds, d, h1, _, _, h2, h3, _⟩ := h
    rw [h0] at h3
    cases h3
  · obtain ⟨W, ds, d, h1, _, _, h2, h3, _⟩ := h
    rw [h0] at h3
    cases h3
end
/-! walks -/
def retD (i : Nat) (Q : D → Prop) : Out → Prop
  | .nx ρ => ∃ xs, ρ[i]? = some (.dic xs) ∧ Q (.dct xs)
  | _ => False
theorem w_runQ {n i : Nat} {B : Sx} {ds : List D} {Q : D → Prop} (q : Wp (B (start' n ds)) (retD i Q)) : Wp (runQ n i B ds) Q := by
  obtain ⟨o, e, q⟩ := q
  unfold runQ
  rw [e]
  cases o with
  | nx ρ =>
    obtain ⟨xs, z, q⟩ := q
    refine ⟨.dct xs, ?_, q⟩
    show (match ρ[i]? with
      | some (.ow (.dct xs)) => some (D.dct xs)
      | _ => none) = _
    rw [z]
  | ret d => exact q.elim
  | brk ρ => exact q.elim
  | ct ρ => exact q.elim
theorem w_qC {n : Nat} {φ : List D → Option D} {fs : Exs} {ρ : Rho} {Q : Kvs → Prop} (q : Wp (fs ρ) fun ds => Wp (fnL n φ ds) fun d => ∃ xs, d = .dct xs ∧ Q xs) : Wp (qC n φ fs ρ) Q := by
  obtain ⟨ds, e1, d, e2, xs, rfl, q⟩ := q
  refine ⟨xs, ?_, q⟩
  unfold qC
  rw [e1, Option.bind_some, e2]
  rfl
theorem rd_nx {i : Nat} {Q : D → Prop} {ρ : Rho} {xs : Kvs} (h : ρ[i]? = some (.dic xs)) (q : Q (.dct xs)) : retD i Q (.nx ρ) := ⟨xs, h, q⟩
theorem w_ownD {i : Nat} {al : List Nat} {fs : Rho → Option Kvs} {ρ : Rho} {Q : Out → Prop} (q : Wp (fs ρ) fun xs => noO al ρ = true ∧ Q (.nx (ρ.set i (.dic xs)))) : Wp (sOwnD i al fs ρ) Q := by
  refine w_bind (q.mono fun xs y => ⟨_, if_pos y.1, y.2⟩)
theorem w_popAt {i : Nat} {f : Ex} {ρ : Rho} {Q : D × Rho → Prop} (q : Wp (f ρ) fun k => ∃ (n : Int) (xs : List D) (j : Nat) (d : D), k = .int n ∧ ρ[i]? = some (.own xs) ∧ (-(2 ^ 63) ≤ n ∧ n < 2 ^ 63) ∧ seqIndex? n xs.length = some j ∧ xs[j]? = some d ∧ Q (d, ρ.set i (.own (xs.eraseIdx j)))) : Wp (xPopAt i f ρ) Q := by
  refine w_bind (q.mono fun k y => ?_)
  obtain ⟨n, xs, j, d, rfl, e1, e2, e3, e4, e5⟩ := y
  refine ⟨_, ?_, e5⟩
  show (match D.int n, ρ[i]? with
    | .int n, some (.own xs) => if -(2 ^ 63) ≤ n ∧ n < 2 ^ 63 then (seqIndex? n xs.length).bind fun j => (xs[j]?).map fun d => (d, ρ.set i (.own (xs.eraseIdx j))) else none
    | _, _ => none) = _
  rw [e1]
  show (if -(2 ^ 63) ≤ n ∧ n < 2 ^ 63 then (seqIndex? n xs.length).bind fun j => (xs[j]?).map fun d => (d, ρ.set i (.own (xs.eraseIdx j))) else none) = _
  rw [if_pos e2, e3, Option.bind_some, e4]
  rfl
end DL

/-! Set tables of every size 2 ^ k: the search meets each slot. -/
namespace SXQ
open PySem L2
/-- 1 + 5 + .. + 5 ^ (n - 1) -/
def sm : Nat → Nat
  | 0 => 0
  | n + 1 => 5 * sm n + 1
theorem pow_sm : ∀ n, 5 ^ n = 4 * sm n + 1
  | 0 => rfl
  | n + 1 => by
    have ih := pow_sm n
    show 5 ^ n * 5 = 4 * (5 * sm n + 1) + 1
    omega
theorem sm_add (a : Nat) : ∀ b, sm (a + b) = 5 ^ b * sm a + sm b
  | 0 => by simp [sm]
  | b + 1 => by
    show 5 * sm (a + b) + 1 = 5 ^ b * 5 * sm a + (5 * sm b + 1)
    rw [sm_add a b, Nat.mul_add, Nat.mul_comm (5 ^ b) 5, Nat.mul_assoc]
    omega
/-- the turn of 2 ^ k steps is odd times 2 ^ k -/
theorem sm_two : ∀ k, ∃ c, sm (2 ^ k) = 2 ^ k * (2 * c + 1)
  | 0 => ⟨0, rfl⟩
  | k + 1 => by
    obtain ⟨c, e⟩ := sm_two k
    have p := pow_sm (2 ^ k)
    have e2 : (2 : Nat) ^ (k + 1) = 2 ^ k + 2 ^ k := by rw [Nat.pow_succ]; omega
    refine ⟨2 * c + 2 * (2 ^ k * (2 * c + 1)) * c + 2 ^ k * (2 * c + 1) - c, ?_⟩
    have e3 : sm (2 ^ (k + 1)) = 2 * (2 * sm (2 ^ k) + 1) * sm (2 ^ k) := by
      rw [e2, sm_add, p]
      generalize sm (2 ^ k) = s
      rw [show 2 * (2 * s + 1) = 4 * s + 2 by omega, Nat.add_mul, Nat.add_mul]
      omega
    rw [e3, e, e2]
    generalize 2 ^ k = q
    have hle : c ≤ 2 * c + 2 * (q * (2 * c + 1)) * c + q * (2 * c + 1) := by
      have : c ≤ 2 * c := by omega
      omega
    have g : 2 * (2 * c + 2 * (q * (2 * c + 1)) * c + q * (2 * c + 1) - c) + 1 = (2 * (q * (2 * c + 1)) + 1) * (2 * c + 1) := by
      generalize q * (2 * c + 1) = z
      have h1 : (2 * z + 1) * (2 * c + 1) = 2 * z * (2 * c) + 2 * z + 2 * c + 1 := by
        rw [Nat.add_mul, Nat.mul_add, Nat.one_mul]
        omega
      have h2 : 2 * z * (2 * c) = 2 * (2 * z * c) := by
        rw [Nat.mul_left_comm]
      rw [h1, h2]
      omega
    rw [g, ← Nat.two_mul]
    generalize 2 * c + 1 = o
    rw [Nat.mul_comm (2 * (2 * (q * o) + 1)) (q * o), Nat.mul_comm 2 q, Nat.mul_assoc q 2, Nat.mul_assoc q o]
    congr 1
    rw [Nat.mul_left_comm, Nat.mul_comm o]
/-- each number below 2 ^ k is met -/
theorem sm_all : ∀ (k j : Nat), j < 2 ^ k → ∃ n, n < 2 ^ k ∧ sm n % 2 ^ k = j
  | 0, j, h => ⟨0, by decide, by
    have : j = 0 := by simpa using h
    subst this; rfl⟩
  | k + 1, j, h => by
    have e2 : (2 : Nat) ^ (k + 1) = 2 * 2 ^ k := by rw [Nat.pow_succ]; omega
    have hp : 0 < (2 : Nat) ^ k := Nat.two_pow_pos k
    obtain ⟨n, hn, e⟩ := sm_all k (j % 2 ^ k) (Nat.mod_lt _ hp)
    obtain ⟨c, ec⟩ := sm_two k
    have p := pow_sm n
    have add : sm (2 ^ k + n) = sm n + 2 ^ k * ((4 * sm n + 1) * (2 * c + 1)) := by
      rw [sm_add, p, ec, Nat.mul_left_comm]
      omega
    have odd : (4 * sm n + 1) * (2 * c + 1) % 2 = 1 := by
      rw [Nat.mul_mod]
      have a1 : (4 * sm n + 1) % 2 = 1 := by omega
      have a2 : (2 * c + 1) % 2 = 1 := by omega
      rw [a1, a2]
    generalize (4 * sm n + 1) * (2 * c + 1) = o at add odd
    by_cases z : sm n % 2 ^ (k + 1) = j
    · exact ⟨n, by omega, z⟩
    · refine ⟨2 ^ k + n, by omega, ?_⟩
      have hb : sm (2 ^ k + n) % 2 ^ (k + 1) = sm n % 2 ^ k + 2 ^ k * ((sm n / 2 ^ k + o) % 2) := by
        rw [add, Nat.pow_succ, Nat.mod_mul, Nat.add_mul_mod_self_left, Nat.add_mul_div_left _ _ hp]
      have ha : sm n % 2 ^ (k + 1) = sm n % 2 ^ k + 2 ^ k * (sm n / 2 ^ k % 2) := by
        rw [Nat.pow_succ, Nat.mod_mul]
      have hj : j = j % 2 ^ k + 2 ^ k * (j / 2 ^ k % 2) := by
        have : j % 2 ^ (k + 1) = j := Nat.mod_eq_of_lt h
        rw [Nat.pow_succ, Nat.mod_mul] at this
        exact this.symm
      rw [hb, e]
      rw [ha, e] at z
      have c1 : sm n / 2 ^ k % 2 ≠ j / 2 ^ k % 2 := fun y => z (by rw [y]; exact hj.symm)
      have c2 : (sm n / 2 ^ k + o) % 2 = j / 2 ^ k % 2 := by omega
      rw [c2]
      exact hj.symm
/-- the masks -/
def Msk (m : Nat) : Prop := ∃ k, m + 1 = 2 ^ k ∧ 3 ≤ k ∧ k ≤ 16
theorem lcgI_eq (m i : Nat) : ∀ n, lcgI m i n % (m + 1) = (5 ^ n * i + sm n) % (m + 1)
  | 0 => by simp [lcgI, sm]
  | n + 1 => by
    have ih := lcgI_eq m i n
    show (lcgI m i n * 5 + 1) % (m + 1) % (m + 1) = (5 ^ n * 5 * i + (5 * sm n + 1)) % (m + 1)
    rw [Nat.mod_mod, Nat.add_mod, Nat.mul_mod, ih, ← Nat.mul_mod, ← Nat.add_mod]
    congr 1
    rw [Nat.add_mul, Nat.mul_assoc, Nat.mul_comm i 5, ← Nat.mul_assoc]
    omega
theorem lcgI_lt {m i : Nat} (hi : i ≤ m) : ∀ n, lcgI m i n < m + 1
  | 0 => Nat.lt_succ_of_le hi
  | n + 1 => Nat.mod_lt _ (Nat.succ_pos m)
theorem lcgI_meets {m : Nat} (hm : Msk m) {i j : Nat} (hi : i ≤ m) (hj : j ≤ m) : ∃ n, n ≤ m ∧ lcgI m i n = j := by
  obtain ⟨k, e, _, _⟩ := hm
  obtain ⟨a, ha, ea⟩ := sm_all k i (by omega)
  obtain ⟨b, hb, eb⟩ := sm_all k j (by omega)
  have go : ∀ c, (5 ^ c * i + sm c) % (m + 1) = sm (a + c) % (m + 1) := fun c => by
    rw [sm_add, Nat.add_mod, Nat.mul_mod, e]
    conv => rhs; rw [Nat.add_mod, Nat.mul_mod, ea]
    rw [Nat.mod_eq_of_lt (show i < 2 ^ k by omega)]
  have turn : ∀ c, sm (2 ^ k + c) % 2 ^ k = sm c % 2 ^ k := fun c => by
    obtain ⟨z, ez⟩ := sm_two k
    rw [sm_add, ez, Nat.mul_left_comm, Nat.mul_add_mod]
  have fin : ∀ c, lcgI m i c = sm (a + c) % (m + 1) := fun c => by
    rw [← go, ← lcgI_eq, Nat.mod_eq_of_lt (lcgI_lt hi c)]
  by_cases h : a ≤ b
  · refine ⟨b - a, by omega, ?_⟩
    rw [fin, show a + (b - a) = b by omega, e, eb]
  · refine ⟨2 ^ k + b - a, by omega, ?_⟩
    rw [fin, show a + (2 ^ k + b - a) = 2 ^ k + b by omega, e, turn, eb]
theorem run_all {m : Nat} (hm : Msk m) (h : Int) {j : Nat} (hj : j ≤ m) : ∃ n, n ≤ m + 12 ∧ runI m (SetTable.bits h) n = j := by
  obtain ⟨k, hk, e⟩ := lcgI_meets hm (runI_le m (SetTable.bits h) 12) hj
  exact ⟨12 + k, by omega, (runI_tail (bits_lt h) k).trans e⟩
theorem step_all {m : Nat} (hm : Msk m) (h : Int) {j : Nat} (hj : j ≤ m) : ∃ k, k < 10 * SetTable.turns m ∧ way m h k = j := by
  obtain ⟨n, hn, e⟩ := run_all hm h hj
  obtain ⟨k, hk, e2⟩ := run_nth m (SetTable.bits h) n
  exact ⟨k, by unfold SetTable.turns; omega, (congrArg SetTable.Probe.j e2).trans e⟩
theorem msk_odd {m : Nat} (hm : Msk m) : m % 2 = 1 := by
  obtain ⟨k, e, h3, _⟩ := hm
  obtain ⟨i, rfl⟩ : ∃ i, k = i + 1 := ⟨k - 1, by omega⟩
  rw [Nat.pow_succ] at e
  omega
theorem msk_big {m : Nat} (hm : Msk m) : m < 65536 := by
  obtain ⟨k, e, _, h16⟩ := hm
  have : (2 : Nat) ^ k ≤ 2 ^ 16 := Nat.pow_le_pow_right (by decide) h16
  have e16 : (2 : Nat) ^ 16 = 65536 := by decide
  omega
theorem way_in {m : Nat} {h : Int} {k : Nat} : way m h k ≤ m := by
  have hi : SetTable.bits h % (m + 1) ≤ m := Nat.le_of_lt_succ (Nat.mod_lt _ (Nat.succ_pos _))
  have r := runEnd_bd hi
  have q : (nth m (runAt m (SetTable.bits h % (m + 1)) (SetTable.bits h)) k).j + (nth m (runAt m (SetTable.bits h % (m + 1)) (SetTable.bits h)) k).more ≤ m := nth_in k _ (by
    unfold runAt
    dsimp only
    omega)
  unfold way
  omega
end SXQ

namespace SXQ
open PySem L2
/-- a table without dead slots, each of its slots met from its hash by live slots -/
structure Tab (t : SetTable) (hs : List Int) : Prop where
  up : Ris t.place.toList
  nodead : t.dummies = #[]
  many : t.place.size = hs.length
  msk : Msk t.mask
  within : ∀ x ∈ t.place.toList, x ≤ t.mask
  met : ∀ (i : Nat) (h : Int) (j : Nat), hs[i]? = some h → t.place.toList[i]? = some j → ∃ k, way t.mask h k = j ∧ ∀ k', k' < k → way t.mask h k' ∈ t.place.toList
theorem Tab.gap {t : SetTable} {hs : List Int} (T : Tab t hs) (hl : hs.length ≤ t.mask) (h : Int) : ∃ K, K < 10 * SetTable.turns t.mask ∧ way t.mask h K ∉ t.place.toList ∧ ∀ k, k < K → way t.mask h k ∈ t.place.toList := by
  obtain ⟨j, hj, hn⟩ := st_missing t.place.toList (t.mask + 1) (by have := T.many; rw [Array.length_toList]; omega)
  obtain ⟨k, hk, e⟩ := step_all T.msk h (Nat.le_of_lt_succ hj)
  obtain ⟨K, a, b, c⟩ := st_least (p := fun k => way t.mask h k ∉ t.place.toList) k (e ▸ hn)
  exact ⟨K, Nat.lt_of_le_of_lt a hk, b, fun k' hk' => Classical.not_not.mp (c k' hk')⟩
theorem Tab.sooner {t : SetTable} {hs : List Int} (T : Tab t hs) {h : Int} {K i j : Nat} (hK : way t.mask h K ∉ t.place.toList) (hi : hs[i]? = some h) (hj : t.place.toList[i]? = some j) : ∃ k, k < K ∧ way t.mask h k = j := by
  obtain ⟨k, e, hb⟩ := T.met i h j hi hj
  refine ⟨k, Classical.byContradiction fun z => ?_, e⟩
  rcases Nat.lt_or_eq_of_le (Nat.le_of_not_lt z) with c | c
  · exact hK (hb K c)
  · subst c
    exact hK (e ▸ List.mem_of_getElem? hj)
theorem Tab.laidIn {t : SetTable} {hs : List Int} (T : Tab t hs) {h : Int} {K : Nat} (hK : way t.mask h K ∉ t.place.toList) (hb : ∀ k, k < K → way t.mask h k ∈ t.place.toList) {p : Nat} (ep : p = SetTable.below t.place (way t.mask h K)) :
    p ≤ hs.length ∧ Tab (t.put (way t.mask h K)).1 (hs.take p ++ h :: hs.drop p) ∧ (t.put (way t.mask h K)).1.fill = hs.length + 1 := by
  subst ep
  generalize ej : way t.mask h K = j at hK
  have below := (below_cut T.up j).1
  have len0 : t.place.toList.length = hs.length := (Array.length_toList).trans T.many
  have inH : SetTable.below t.place j ≤ hs.length := T.many ▸ below
  have inP : SetTable.below t.place j ≤ t.place.toList.length := len0 ▸ inH
  have pl := put_place t j
  have sz : (t.put j).1.place.size = hs.length + 1 := by
    rw [← Array.length_toList, pl, len_ins _ inP, len0]
  have keep : ∀ {x}, x ∈ t.place.toList → x ∈ (t.put j).1.place.toList := fun hx => by rw [pl]; exact mem_ins.2 (.inr hx)
  refine ⟨inH, ⟨?_, put_dm T.nodead j, ?_, T.msk, ?_, ?_⟩, ?_⟩
  · exact ris_insert T.up fun e => hK (List.mem_of_getElem? ((Array.getElem?_toList).trans e))
  · rw [len_ins _ inH]; exact sz
  · intro x hx
    rw [pl] at hx
    rcases mem_ins.1 hx with rfl | z
    · exact ej ▸ way_in
    · exact T.within x z
  · intro i h' j' g1 g2
    rw [tins_get hs inH] at g1
    rw [pl, tins_get _ inP] at g2
    have old : ∀ i, hs[i]? = some h' → t.place.toList[i]? = some j' → ∃ k, way t.mask h' k = j' ∧ ∀ k', k' < k → way t.mask h' k' ∈ (t.put j).1.place.toList := fun i a b => by
      obtain ⟨k, e, z⟩ := T.met i h' j' a b
      exact ⟨k, e, fun k' q => keep (z k' q)⟩
    split at g1
    · rename_i c
      rw [if_pos c] at g2
      exact old i g1 g2
    · rename_i c
      rw [if_neg c] at g2
      split at g1
      · rename_i d
        rw [if_pos d] at g2
        cases g1; cases g2
        exact ⟨K, ej, fun k' q => keep (hb k' q)⟩
      · rename_i d
        rw [if_neg d] at g2
        exact old (i - 1) g1 g2
  · unfold SetTable.fill
    rw [sz, put_dm T.nodead j]
    rfl
/-! ### laying anew -/
theorem free_at {m : Nat} (hm : Msk m) (owner : Array (Option Nat)) (h : Int) {j : Nat} (hj : j ≤ m) (hf : oAt owner j = none) :
    ∃ K, SetTable.layClean.free m owner (SetTable.turns m) (SetTable.bits h % (m + 1)) (SetTable.bits h) = some (way m h K) ∧ oAt owner (way m h K) = none ∧ ∀ k, k < K → oAt owner (way m h k) ≠ none := by
  obtain ⟨n, hn, e⟩ := run_all hm h hj
  have hw : way m h (off m (SetTable.bits h % (m + 1)) (SetTable.bits h) n) = j := by
    unfold way
    rw [nth_off, itL_run]
    exact e
  obtain ⟨K, k1, k2, k3⟩ := st_least (p := fun k => oAt owner (way m h k) = none) _ (hw.symm ▸ hf)
  refine ⟨K, free_spec m owner (SetTable.turns m) n _ _ K (by unfold SetTable.turns; omega) k1 (fun k hk => ?_) ?_, k2, k3⟩
  · exact Option.isNone_eq_false_iff.mpr (Option.isSome_iff_ne_none.mpr (k3 k hk))
  · exact Option.isNone_iff_eq_none.mpr k2
theorem own_next {m : Nat} (hm : Msk m) {done : List Int} {owner : Array (Option Nat)} (W : Own m done owner) (hl : done.length ≤ m) (h : Int) :
    ∃ j, SetTable.layClean.free m owner (SetTable.turns m) (SetTable.bits h % (m + 1)) (SetTable.bits h) = some j ∧ Own m (done ++ [h]) (owner.setIfInBounds j (some done.length)) := by
  obtain ⟨ps, hps, hin⟩ := W.ps
  obtain ⟨i, hi, ni⟩ := st_missing ps (m + 1) (by omega)
  have fr : oAt owner i = none := Classical.byContradiction fun z => ni (hin i (Nat.le_of_lt_succ hi) z)
  obtain ⟨K, e1, e2, e3⟩ := free_at hm owner h (Nat.le_of_lt_succ hi) fr
  refine ⟨_, e1, ?_⟩
  have le : way m h K ≤ m := way_in
  generalize ej : way m h K = j at le e1 e2
  have self := oAt_set_self (some done.length) (show j < owner.size by rw [W.sz]; exact Nat.lt_succ_of_le le)
  have grow : ∀ {x : Nat}, oAt owner x ≠ none → oAt (owner.setIfInBounds j (some done.length)) x ≠ none := fun {x} hx => by
    by_cases c : x = j
    · subst c; rw [self]; exact fun z => nomatch z
    · rw [oAt_set_ne _ c]; exact hx
  constructor
  · rw [Array.size_setIfInBounds]; exact W.sz
  · intro x k hx e
    by_cases c : x = j
    · subst c
      rw [self] at e
      cases e
      exact ⟨h, K, by simp, ej, fun k' q => grow (e3 k' q)⟩
    · rw [oAt_set_ne _ c] at e
      obtain ⟨h', K', a1, a2, a3⟩ := W.at_ x k hx e
      exact ⟨h', K', by rw [List.getElem?_append_left (List.getElem?_eq_some_iff.mp a1).1]; exact a1, a2, fun k' q => grow (a3 k' q)⟩
  · intro k hk
    by_cases c : k = done.length
    · subst c
      exact ⟨j, le, self⟩
    · obtain ⟨x, hx, e⟩ := W.all k (by simp at hk; omega)
      refine ⟨x, hx, ?_⟩
      rw [oAt_set_ne _ fun z => by subst z; rw [e2] at e; cases e]
      exact e
  · refine ⟨j :: ps, by simp [hps], fun x hx e => ?_⟩
    by_cases c : x = j
    · exact c ▸ List.mem_cons_self
    · rw [oAt_set_ne _ c] at e
      exact List.mem_cons_of_mem _ (hin x hx e)
theorem own_fold {m : Nat} (hm : Msk m) : ∀ (rest done : List Int) (owner : Array (Option Nat)), Own m done owner → done.length + rest.length ≤ m →
    ∃ o2, rest.foldl (stepF m) (some (owner, done.length)) = some (o2, done.length + rest.length) ∧ Own m (done ++ rest) o2
  | [], done, owner, W, _ => ⟨owner, rfl, by simpa using W⟩
  | h :: rest, done, owner, W, hl => by
    simp only [List.length_cons] at hl
    obtain ⟨j, e, W'⟩ := own_next hm W (by omega) h
    obtain ⟨o2, f, W2⟩ := own_fold hm rest (done ++ [h]) _ W' (by simp; omega)
    refine ⟨o2, ?_, by simpa using W2⟩
    rw [List.foldl_cons, stepF_some e]
    rw [List.length_append] at f
    have f' : List.foldl (stepF m) (some (owner.setIfInBounds j (some done.length), done.length + 1)) rest = some (o2, done.length + 1 + rest.length) := f
    rw [f', List.length_cons, Nat.add_assoc, Nat.add_comm 1]
theorem clean_ok {m : Nat} (hm : Msk m) {hs : Array Int} (hn : hs.size ≤ m) : ∃ owner, SetTable.layClean m hs = some owner ∧ Own m hs.toList owner := by
  obtain ⟨o2, f, W⟩ := own_fold hm hs.toList [] _ (Own.init m) (by simpa using hn)
  refine ⟨o2, ?_, by simpa using W⟩
  rw [layClean_eq]
  have f' : List.foldl (stepF m) (some (Array.replicate (m + 1) none, 0)) hs.toList = some (o2, [].length + hs.toList.length) := f
  rw [f']
  rfl
/-- what is laid: the order is a shuffle, the table is good -/
theorem laid_ok {M f mv : Nat} {ld pl : Bool} {hs : Array Int} (hM : Msk M) (hn : hs.size ≤ M) :
    ∃ t' order, SetTable.laid M f mv ld pl hs = some (t', order) ∧ order.toList.Perm (List.range hs.size) ∧ Tab t' (order.toList.map fun i => hs.getD i 0) ∧ t'.mask = M ∧ t'.led = ld := by
  obtain ⟨owner, e, W⟩ := clean_ok hM hn
  have er : SetTable.laid M f mv ld pl hs = some ({ mask := M, place := ((liveOf M owner).map (·.1)).toArray, dummies := #[], finger := f, led := ld, moves := mv, plain := pl }, ((liveOf M owner).map (·.2)).toArray) := by
    unfold SetTable.laid
    rw [e]
    rfl
  have ris := ris_live (fun j => owner.getD j none) (List.range (M + 1)) List.pairwise_lt_range
  have r1 : Ris ((liveOf M owner).map (·.1)) := ris.1
  have r2 : ∀ x ∈ (liveOf M owner).map (·.1), x ∈ List.range (M + 1) := ris.2
  have memL : ∀ {x k}, (x, k) ∈ liveOf M owner ↔ x ≤ M ∧ oAt owner x = some k := mem_live W.sz
  have hlen : (liveOf M owner).length = hs.size := by
    obtain ⟨ps, p1, p2⟩ := W.ps
    have nd1 : ((liveOf M owner).map (·.1)).Nodup := List.Pairwise.imp (fun {a b : Nat} (h : a < b) => Nat.ne_of_lt h) r1
    have up1 := nat_nodup_len ((liveOf M owner).map (·.1)) ps nd1 fun x hx => by
      obtain ⟨⟨y, k⟩, hq, rfl⟩ := List.mem_map.mp hx
      obtain ⟨b1, b2⟩ := memL.1 hq
      exact p2 y b1 fun z => by rw [b2] at z; cases z
    have dn := nat_nodup_len (List.range hs.size) ((liveOf M owner).map (·.2)) List.nodup_range fun k hk => by
      obtain ⟨j, b⟩ := W.all k (by simpa using hk)
      exact List.mem_map.mpr ⟨(j, k), memL.2 b, rfl⟩
    simp only [List.length_map, List.length_range, Array.length_toList] at up1 dn p1
    omega
  refine ⟨_, _, er, ?_, ⟨r1, rfl, by simp, hM, fun x hx => Nat.le_of_lt_succ (List.mem_range.mp (r2 x hx)), fun i h j g1 g2 => ?_⟩, rfl, rfl⟩
  · refine perm_range hs.size _ (by simpa using hlen) fun k hk => ?_
    obtain ⟨j, b⟩ := W.all k (by simpa using hk)
    exact List.mem_map.mpr ⟨(j, k), memL.2 b, rfl⟩
  · simp only [List.getElem?_map] at g1
    have g2' : ((liveOf M owner).map (·.1))[i]? = some j := g2
    rw [List.getElem?_map] at g2'
    cases hq : (liveOf M owner)[i]? with
    | none => rw [hq] at g2'; cases g2'
    | some q =>
      obtain ⟨y, k⟩ := q
      rw [hq] at g1 g2'
      cases g2'
      have eh : hs.getD k 0 = h := Option.some.inj g1
      obtain ⟨b1, b2⟩ := memL.1 (List.mem_of_getElem? hq)
      obtain ⟨h0, K, a1, a2, a3⟩ := W.at_ y k b1 b2
      have e0 : hs.getD k 0 = h0 := by
        rw [Array.getElem?_toList] at a1
        simp [Array.getD_eq_getD_getElem?, a1]
      rw [e0] at eh
      subst eh
      refine ⟨K, a2, fun k' q => ?_⟩
      cases z : oAt owner (way M h0 k') with
      | none => exact absurd z (a3 k' q)
      | some k2 => exact List.mem_map.mpr ⟨(way M h0 k', k2), memL.2 ⟨way_in, z⟩, rfl⟩
theorem size_go : ∀ (f k : Nat), ∃ k', SetTable.sizeAbove.go n f (2 ^ k) = 2 ^ k' ∧ k ≤ k'
  | 0, k => ⟨k, by unfold SetTable.sizeAbove.go; rfl, Nat.le_refl _⟩
  | f + 1, k => by
    unfold SetTable.sizeAbove.go
    split
    · obtain ⟨k', e, h⟩ := size_go f (k + 1)
      exact ⟨k', by rw [← Nat.pow_succ]; exact e, by omega⟩
    · exact ⟨k, rfl, Nat.le_refl _⟩
theorem size_msk : ((List.range 1025).all fun n => let z := SetTable.sizeAbove n; decide (n < z ∧ z ≤ 2 * n + 8 ∧ (z = 8 ∨ z = 16 ∨ z = 32 ∨ z = 64 ∨ z = 128 ∨ z = 256 ∨ z = 512 ∨ z = 1024 ∨ z = 2048))) = true := by decide +kernel
theorem size_ok {n : Nat} (h : n ≤ 1024) : n < SetTable.sizeAbove n ∧ SetTable.sizeAbove n ≤ 2 * n + 8 ∧ Msk (SetTable.sizeAbove n - 1) := by
  have z := List.all_eq_true.mp size_msk n (List.mem_range.mpr (by omega))
  simp only [decide_eq_true_eq] at z
  obtain ⟨h1, h2, h3⟩ := z
  refine ⟨h1, h2, ?_⟩
  rcases h3 with e | e | e | e | e | e | e | e | e <;> rw [e]
  · exact ⟨3, rfl, by decide, by decide⟩
  · exact ⟨4, rfl, by decide, by decide⟩
  · exact ⟨5, rfl, by decide, by decide⟩
  · exact ⟨6, rfl, by decide, by decide⟩
  · exact ⟨7, rfl, by decide, by decide⟩
  · exact ⟨8, rfl, by decide, by decide⟩
  · exact ⟨9, rfl, by decide, by decide⟩
  · exact ⟨10, rfl, by decide, by decide⟩
  · exact ⟨11, rfl, by decide, by decide⟩
end SXQ

/-! Sets of texts and of nested tuples: the search. -/
namespace SXQ
open PySem PySem.SeqAt L2 DL
theorem depth_mem {k : NestedKey} : ∀ {ks : List NestedKey}, k ∈ ks → k.depth ≤ NestedKey.depthAll ks
  | x :: xs, h => by
    unfold NestedKey.depthAll
    rcases List.mem_cons.mp h with rfl | h
    · exact Nat.le_max_left _ _
    · exact Nat.le_trans (depth_mem h) (Nat.le_max_right _ _)
theorem wp_ite {α : Type} {M : Model} {A : Around} {E : Value → Shared → Prop} {s : Shared} {c : Prop} [Decidable c] {x y : Sem α} {Q : α → Shared → Prop} (h1 : c → wpAny M A x Q E s) (h2 : ¬ c → wpAny M A y Q E s) : wpAny M A (if c then x else y) Q E s := by
  split
  · exact h1 (by assumption)
  · exact h2 (by assumption)
section
variable {P : Program} {w : World} {s : Shared}
/-- it is no object of a class of the program -/
theorem class_nk : ∀ (n : Nat) (k : NestedKey) (v : Value), Nk s.heap k v → k.depth ≤ n → ∀ {A : Around} {E : Value → Shared → Prop} {Q : Bool → Shared → Prop}, Q false s → wpAny (model P w) A (ofAClassStatement n v) Q E s := by
  intro n
  induction n with
  | zero =>
    intro k v hk hd A E Q q
    cases hk with
    | num i t => exact wpAny_pure q
    | text x t => exact wpAny_pure q
    | tup _ _ _ _ => simp [NestedKey.depth] at hd
  | succ n ih =>
    intro k v hk hd A E Q q
    cases hk with
    | num i t => exact wpAny_pure q
    | text x t => exact wpAny_pure q
    | @tup a o vs m ks g1 g2 g3 g4 =>
      simp only [NestedKey.depth] at hd
      unfold ofAClassStatement
      refine wpAny_bind (wpAny_typeOf (T := "tuple") ⟨o, g1, g2⟩ ?_)
      dsimp only
      have e : (("tuple" : String) == "tuple") = true := by decide
      simp only [e, if_true, Bool.not_true, Bool.false_eq_true, if_false]
      try refine wpAny_bind (wpAny_pure ?_)
      try simp only [Bool.not_true, Bool.false_eq_true, if_false]
      refine wpAny_bind (m := seqItems? (.ref a)) (wpAny_seqItems g1 g3 ?_)
      dsimp only
      refine wpAny_bind (m := forIn vs _ _) ?_
      rw [← Array.forIn_toList]
      refine wpAny_forIn_list _ (fun left r z => r.1 = none ∧ z = s ∧ ∃ js, NkA s.heap js left ∧ NestedKey.depthAll js ≤ n) _ ?_ ?_ _ _ ⟨rfl, rfl, ks, g4, by omega⟩
      · rintro u left r z ⟨e1, rfl, js, hj, hjd⟩
        cases hj with
        | cons h1 h2 =>
          simp only [NestedKey.depthAll] at hjd
          refine wpAny_bind (ih _ u h1 (by omega) ?_)
          simp only [Bool.false_eq_true, if_false]
          exact wpAny_pure ⟨rfl, rfl, _, h2, by omega⟩
      · rintro ⟨r1, r2⟩ z ⟨e1, rfl, _⟩
        simp only at e1
        subst e1
        exact wpAny_pure q
/-- whatever is said of its hash -/
theorem hash_nk : ∀ (n : Nat) (k : NestedKey) (v : Value), Nk s.heap k v → ∀ {A : Around} {E : Value → Shared → Prop} {Q : Bool → Shared → Prop}, (∀ b, Q b s) → wpAny (model P w) A (hashByValue n v) Q E s := by
  intro n
  induction n with
  | zero =>
    intro k v hk A E Q q
    cases hk with
    | num i t => exact wpAny_pure (q _)
    | text x t => exact wpAny_pure (q _)
    | tup _ _ _ _ => exact wpAny_pure (q _)
  | succ n ih =>
    intro k v hk A E Q q
    cases hk with
    | num i t => exact wpAny_pure (q _)
    | text x t => exact wpAny_pure (q _)
    | @tup a o vs m ks g1 g2 g3 g4 =>
      unfold hashByValue
      refine wpAny_bind (wpAny_specialOf (T := "tuple") ⟨o, g1, g2⟩ F.slot_tuple_hash.lookup ?_)
      refine wpAny_bind (m := seqItems? (.ref a)) (wpAny_seqItems g1 g3 ?_)
      refine wpAny_bind (m := forIn vs _ _) ?_
      rw [← Array.forIn_toList]
      refine wpAny_forIn_list _ (fun left r z => z = s ∧ ∃ js, NkA s.heap js left) _ ?_ ?_ _ _ ⟨rfl, ks, g4⟩
      · rintro u left r z ⟨rfl, js, hj⟩
        cases hj with
        | cons h1 h2 =>
          refine wpAny_bind (ih _ u h1 fun b => ?_)
          cases b with
          | true =>
            simp only [Bool.not_true, Bool.false_eq_true, if_false]
            exact wpAny_pure ⟨rfl, _, h2⟩
          | false =>
            simp only [Bool.not_false, if_true]
            exact wpAny_pure (wpAny_pure (q _))
      · rintro ⟨r1, r2⟩ z ⟨rfl, _⟩
        cases r1 with
        | none => exact wpAny_pure (q _)
        | some b => exact wpAny_pure (q _)
/-- a search among such keys shows nothing -/
theorem seen_nk {A : Around} {E : Value → Shared → Prop} {k : NestedKey} {x : Value} {Q : Bool → Shared → Prop} (hk : Nk s.heap k x) (h8 : k.depth ≤ 8) {ys : List Value} (hy : ∀ y ∈ ys, ∃ j, Nk s.heap j y ∧ j.depth ≤ 8) (q : Q false s) :
    wpAny (model P w) A (searchCouldBeSeen x ys) Q E s := by
  unfold searchCouldBeSeen
  refine wpAny_bind ?_
  refine wpAny_forIn_list _ (fun left r z => r.1 = none ∧ z = s ∧ ∀ y ∈ left, ∃ j, Nk s.heap j y ∧ j.depth ≤ 8) _ ?_ ?_ _ _ ⟨rfl, rfl, hy⟩
  · rintro u left r z ⟨e1, rfl, hall⟩
    obtain ⟨j, hj, hj8⟩ := hall u List.mem_cons_self
    have tail : ∀ y ∈ left, ∃ j, Nk z.heap j y ∧ j.depth ≤ 8 := fun y m => hall y (List.mem_cons_of_mem _ m)
    dsimp only
    refine wp_ite (fun _ => ?_) fun _ => ?_
    · exact wpAny_pure ⟨rfl, rfl, tail⟩
    · refine wpAny_bind (quiet_key k x 8 z hk.is h8 A _ _ ?_)
      simp only [Bool.not_true, Bool.false_eq_true, if_false]
      refine wpAny_bind (quiet_key j u 8 z hj.is hj8 A _ _ ?_)
      simp only [Bool.not_true, Bool.false_eq_true, if_false]
      refine wpAny_bind (class_nk 8 k x hk h8 ?_)
      simp only [Bool.false_eq_true, if_false]
      refine wpAny_bind (class_nk 8 j u hj hj8 ?_)
      simp only [Bool.false_eq_true, if_false]
      exact wpAny_pure ⟨rfl, rfl, tail⟩
  · rintro ⟨r1, r2⟩ z ⟨e1, rfl, _⟩
    simp only at e1
    subst e1
    exact wpAny_pure q
end
/-- entries: values with their keys -/
abbrev Ent := List (Value × NestedKey)
/-- a set whose table is good -/
structure SetN (w : World) (h : Heap) (a : Addr) (L : Ent) (es : Array (Int × Value)) (ep : Nat) (t : SetTable) : Prop where
  ob : ∃ o, h.get? a = some o ∧ o.ExactSet ∧ o.data = .set es ep t
  rows : es.toList = L.map fun p => (p.2.hash w, p.1)
  tab : Tab t (L.map fun p => p.2.hash w)
  nd : (L.map (·.2)).Nodup
  key : ∀ p ∈ L, Nk h p.2 p.1 ∧ p.2.depth ≤ 8
  led : w.params.followText "set-order" = true ∨ t.led = true
  room : L.length * 5 < t.mask * 3
  few : L.length ≤ 200
section
variable {P : Program} {w : World} {A : Around} {E : Value → Shared → Prop} {s : Shared} {a : Addr} {L : Ent} {es : Array (Int × Value)} {ep : Nat} {t : SetTable}
theorem rows_size {L : Ent} {es : Array (Int × Value)} (h : es.toList = L.map fun p => (p.2.hash w, p.1)) : es.size = L.length := by
  rw [← Array.length_toList, h, List.length_map]
theorem tab_fits {t : SetTable} {hs : List Int} {n : Nat} (T : Tab t hs) (e : hs.length = n) (h : n ≤ t.mask) : t.fits n = true := by
  have h1 := T.many
  unfold SetTable.fits SetTable.fill
  rw [T.nodead]
  simp only [Bool.and_eq_true, beq_iff_eq, decide_eq_true_eq]
  exact ⟨h1.trans e, by show t.place.size + 0 ≤ _; omega⟩
theorem SetN.size (R : SetN w s.heap a L es ep t) : es.size = L.length := rows_size R.rows
theorem SetN.fits (R : SetN w s.heap a L es ep t) : t.fits es.size = true := by
  have := R.room
  exact tab_fits R.tab (by rw [List.length_map, R.size]) (by rw [R.size]; omega)
theorem SetN.entry (R : SetN w s.heap a L es ep t) {i : Nat} {p : Value × NestedKey} (h : L[i]? = some p) : es[i]? = some (p.2.hash w, p.1) := by
  rw [← Array.getElem?_toList, R.rows, List.getElem?_map, h]
  rfl
theorem same_mem (t : SetTable) : t.sameMemory t.moves t.mask = some true := by
  unfold SetTable.sameMemory
  exact if_pos (beq_self_eq_true _)
theorem nth_dm {m : Nat} : ∀ (n : Nat) (p : SetTable.Probe), p.dummy = none → (nth m p n).dummy = none
  | 0, _, h => h
  | n + 1, p, h => nth_dm n (adv m p) (by unfold adv; split <;> exact h)
/-- where the c-th look stands -/
abbrev st (t : SetTable) (h : Int) (c : Nat) : SetTable.Probe := nth t.mask (runAt t.mask (SetTable.bits h % (t.mask + 1)) (SetTable.bits h)) c
theorem st_add (t : SetTable) (h : Int) (c q : Nat) : nth t.mask (st t h c) q = st t h (c + q) := (nth_add t.mask c _ q).symm
/-- the search for a tuple, from its c-th look on -/
theorem look_from (R : SetN w s.heap a L es ep t) {x : Addr} {k : NestedKey} (hx : Nk s.heap k (.ref x)) (h8 : k.depth ≤ 8) (hu : A.units + 8 < cLine) {K : Nat} (hKf : K < 10 * SetTable.turns t.mask)
    (hK : way t.mask (k.hash w) K ∉ t.place.toList) (hKb : ∀ c, c < K → way t.mask (k.hash w) c ∈ t.place.toList) {Q : SetFound → Shared → Prop}
    (yes : k ∈ L.map (·.2) → Q (.there none) s) (no : k ∉ L.map (·.2) → Q (.free (way t.mask (k.hash w) K) false) s) (htup : ∀ p ∈ L, ∃ b, p.1 = Value.ref b) :
    ∀ (f c : Nat) (stand : Option SetTable.Probe), stand.getD (t.probeStart (k.hash w)) = st t (k.hash w) c → c ≤ K → K - c < f →
      (∀ (i : Nat) p, L[i]? = some p → p.2 = k → ∃ c', c ≤ c' ∧ c' < K ∧ t.place.toList[i]? = some (way t.mask (k.hash w) c')) →
      wpAny (model P w) A (setSearchFrom a (.ref x) (k.hash w) true f stand) Q E s := by
  intro f
  induction f with
  | zero => intro c stand _ _ hf; exact absurd hf (Nat.not_lt_zero _)
  | succ f ih =>
    intro c stand hst hc hf hre
    obtain ⟨o, ho, hex, hd⟩ := R.ob
    have hashAt : ∀ (i : Nat) p, L[i]? = some p → ((es[i]?.map (·.1)).getD 0) = p.2.hash w := fun i p hp => by rw [R.entry hp]; rfl
    have hodd : ¬ t.gaveWay = true := by unfold SetTable.gaveWay; rw [msk_odd R.tab.msk]; decide
    rw [setSearchFrom_succ]
    refine wpAny_bind (wpAny_setState_of ho hd R.fits ?_)
    dsimp only
    refine wp_if_neg hodd ?_
    try refine wpAny_bind (wpAny_pure ?_)
    have spec := go_spec t R.tab.up R.tab.nodead (fun i => (es[i]?.map (·.1)).getD 0) (k.hash w) (10 * SetTable.turns t.mask) (K - c) (st t (k.hash w) c) (nth_dm c _ rfl) (by omega)
      (fun q hq => by rw [st_add]; exact hKb (c + q) (by omega)) (by rw [st_add, Nat.add_sub_cancel' hc]; exact hK)
    rcases spec with ⟨q, i, hq, hi, hh, hno, hpr⟩ | ⟨hno, hpr⟩
    · rw [st_add] at hi
      rw [st_add, st_add] at hpr
      have pr : t.probe (fun i => (es[i]?.map (·.1)).getD 0) (k.hash w) (stand.getD (t.probeStart (k.hash w))) = some (.candidate (way t.mask (k.hash w) (c + q)) i (st t (k.hash w) (c + (q + 1)))) := by
        rw [hst]
        exact hpr
      rw [pr]
      dsimp only
      have il : i < L.length := by
        have z := (List.getElem?_eq_some_iff.mp hi).1
        have y := R.tab.many
        rw [List.length_map] at y
        rw [Array.length_toList] at z
        omega
      obtain ⟨p, hp⟩ : ∃ p, L[i]? = some p := ⟨_, List.getElem?_eq_getElem il⟩
      have pm : p ∈ L := List.mem_of_getElem? hp
      obtain ⟨pk, pd⟩ := R.key p pm
      obtain ⟨b, pb⟩ := htup p pm
      have rest : wpAny (model P w) A (searchRest a (.ref x) (k.hash w) true f es t (way t.mask (k.hash w) (c + q)) i (st t (k.hash w) (c + (q + 1)))) Q E s := by
        unfold searchRest
        rw [R.entry hp]
        dsimp only
        refine wpAny_bind (wpAny_holding (eqAt_key p.2 k A s _ _ pk.is hx.is (by omega) P w _ _ ?_))
        rw [← NestedKey.decide_eq]
        refine wpAny_bind (wpAny_setState_of ho hd R.fits ?_)
        dsimp only
        by_cases hkk : p.2 = k
        · refine wp_if_pos (by simp [hkk]) ?_
          exact wpAny_pure (yes (List.mem_map.mpr ⟨p, pm, hkk⟩))
        · refine wp_if_neg (by simp [hkk]) ?_
          try refine wpAny_bind (wpAny_pure ?_)
          rw [same_mem]
          dsimp only
          have lv := slot_live R.tab.up hi
          simp only [if_true, lv, R.entry hp, pb]
          refine wpAny_bind (wpAny_isSame_ref_self (wpAny_bind (wpAny_pure ?_)))
          simp only [if_true]
          refine wp_if_neg (by simp [hkk]) ?_
          refine ih (c + (q + 1)) _ rfl (by omega) (by omega) fun i0 p0 h0 hk0 => ?_
          obtain ⟨c', a1, a2, a3⟩ := hre i0 p0 h0 hk0
          refine ⟨c', Classical.byContradiction fun z => ?_, a2, a3⟩
          have ch : c' < c + q ∨ c' = c + q := by omega
          rcases ch with y | y
          · refine hno (c' - c) i0 (by omega) (by rw [st_add, Nat.add_sub_cancel' a1]; exact a3) ?_
            show (es[i0]?.map (·.1)).getD 0 = _
            rw [hashAt i0 p0 h0, hk0]
          · subst y
            have lv0 := slot_live R.tab.up a3
            rw [lv] at lv0
            cases lv0
            rw [hp] at h0
            cases h0
            exact hkk hk0
      by_cases hl : t.led = true
      · refine wp_if_neg (by simp [hl]) ?_
        try refine wpAny_bind (wpAny_pure ?_)
        exact rest
      · refine wp_if_pos (by simp [hl]) ?_
        refine wpAny_bind (seen_nk hx h8 (fun y hy => ?_) ?_)
        · obtain ⟨e, he, rfl⟩ := List.mem_map.mp hy
          have he1 : e ∈ es.toList := by
            have : e ∈ es ∧ e.1 = k.hash w := by simpa using he
            simpa using this.1
          rw [R.rows] at he1
          obtain ⟨p2, m2, rfl⟩ := List.mem_map.mp he1
          exact ⟨p2.2, R.key p2 m2⟩
        · refine wp_if_neg (by decide) ?_
          try refine wpAny_bind (wpAny_pure ?_)
          exact rest
    · have pr : t.probe (fun i => (es[i]?.map (·.1)).getD 0) (k.hash w) (stand.getD (t.probeStart (k.hash w))) = some (.empty (way t.mask (k.hash w) K) none) := by
        rw [st_add, Nat.add_sub_cancel' hc] at hpr
        rw [hst]
        exact hpr
      rw [pr]
      dsimp only
      refine wpAny_pure (no fun hm => ?_)
      obtain ⟨p0, h0, hk0⟩ := List.mem_map.mp hm
      obtain ⟨i0, l0, e0⟩ := List.getElem_of_mem h0
      have g0 : L[i0]? = some p0 := by rw [List.getElem?_eq_getElem l0, e0]
      obtain ⟨c', a1, a2, a3⟩ := hre i0 p0 g0 hk0
      refine hno (c' - c) i0 (by omega) (by rw [st_add, Nat.add_sub_cancel' a1]; exact a3) ?_
      show (es[i0]?.map (·.1)).getD 0 = _
      rw [hashAt i0 p0 g0, hk0]
theorem look_at (R : SetN w s.heap a L es ep t) {x : Addr} {k : NestedKey} (hx : Nk s.heap k (.ref x)) (h8 : k.depth ≤ 8) (hu : A.units + 8 < cLine) (hm : t.mask < 4096) (htup : ∀ p ∈ L, ∃ b, p.1 = Value.ref b) {Q : SetFound → Shared → Prop}
    (yes : k ∈ L.map (·.2) → Q (.there none) s)
    (no : ∀ K, k ∉ L.map (·.2) → way t.mask (k.hash w) K ∉ t.place.toList → (∀ c, c < K → way t.mask (k.hash w) c ∈ t.place.toList) → Q (.free (way t.mask (k.hash w) K) false) s) :
    wpAny (model P w) A (setSearch a (.ref x) (k.hash w) true) Q E s := by
  have rm := R.room
  obtain ⟨K, hKf, hK, hKb⟩ := R.tab.gap (by rw [List.length_map]; omega) (k.hash w)
  have big : K < 100000 := by
    unfold SetTable.turns at hKf
    omega
  unfold setSearch
  refine look_from R hx h8 hu hKf hK hKb yes (fun hn => no K hn hK hKb) htup 100000 0 none rfl (Nat.zero_le _) (by omega) fun i p hp hk => ?_
  have hi : (L.map fun p => p.2.hash w)[i]? = some (k.hash w) := by rw [List.getElem?_map, hp, ← hk]; rfl
  have il : i < t.place.toList.length := by
    have h1 := (List.getElem?_eq_some_iff.mp hp).1
    have h2 := R.tab.many
    rw [List.length_map] at h2
    rw [Array.length_toList]
    omega
  have hj := List.getElem?_eq_getElem il
  obtain ⟨c, hc, e⟩ := R.tab.sooner hK hi hj
  exact ⟨c, Nat.zero_le _, hc, by rw [hj, e]⟩
end
end SXQ

/-! Sets of texts and of nested tuples: adding. -/
namespace SXQ
open PySem PySem.SeqAt L2 DL
/-- rows and table, wherever they stand -/
structure SetW (w : World) (h : Heap) (L : Ent) (es : Array (Int × Value)) (t : SetTable) : Prop where
  rows : es.toList = L.map fun p => (p.2.hash w, p.1)
  tab : Tab t (L.map fun p => p.2.hash w)
  nd : (L.map (·.2)).Nodup
  key : ∀ p ∈ L, Nk h p.2 p.1 ∧ p.2.depth ≤ 8
  led : w.params.followText "set-order" = true ∨ t.led = true
  fit : L.length ≤ t.mask
  few : L.length ≤ 200
theorem SetN.w {w : World} {h : Heap} {a : Addr} {L : Ent} {es : Array (Int × Value)} {ep : Nat} {t : SetTable} (R : SetN w h a L es ep t) : SetW w h L es t :=
  ⟨R.rows, R.tab, R.nd, R.key, R.led, by have := R.room; omega, R.few⟩
theorem SetW.n {w : World} {h : Heap} {a : Addr} {L : Ent} {es : Array (Int × Value)} {ep : Nat} {t : SetTable} (R : SetW w h L es t) (ob : ∃ o, h.get? a = some o ∧ o.ExactSet ∧ o.data = .set es ep t) (room : L.length * 5 < t.mask * 3) : SetN w h a L es ep t :=
  ⟨ob, R.rows, R.tab, R.nd, R.key, R.led, room, R.few⟩
theorem SetW.fits {w : World} {h : Heap} {L : Ent} {es : Array (Int × Value)} {t : SetTable} (R : SetW w h L es t) : t.fits es.size = true :=
  tab_fits R.tab (by rw [List.length_map, rows_size R.rows]) (by rw [rows_size R.rows]; exact R.fit)
theorem SetW.size {w : World} {h : Heap} {L : Ent} {es : Array (Int × Value)} {t : SetTable} (R : SetW w h L es t) : es.size = L.length := rows_size R.rows
/-- tuples stay where the set alone is changed -/
theorem keep_set {h h' : Heap} {a : Addr} {o : Obj} (ho : h.get? a = some o) (hex : o.ExactSet) (sb : Heap.SameBut a h h') : ∀ b u, h.get? b = some u → u.cls = .type "tuple" → h'.get? b = some u := fun b u e c => by
  refine (sb.2 b fun z => ?_).trans e
  subst z
  rw [ho] at e
  cases e
  have := hex.1.symm.trans c
  simp at this
theorem SetW.keep {w : World} {h h' : Heap} {L : Ent} {es : Array (Int × Value)} {t : SetTable} (R : SetW w h L es t) (g : ∀ b u, h.get? b = some u → u.cls = .type "tuple" → h'.get? b = some u) : SetW w h' L es t :=
  ⟨R.rows, R.tab, R.nd, fun p m => ⟨(R.key p m).1.keep g, (R.key p m).2⟩, R.led, R.fit, R.few⟩
/-- the table's word of what stands in it alone -/
theorem Tab.alike {t t' : SetTable} {hs : List Int} (T : Tab t hs) (e1 : t'.place = t.place) (e2 : t'.dummies = t.dummies) (e3 : t'.mask = t.mask) : Tab t' hs := by
  obtain ⟨a, b, c, d, e, f⟩ := T
  constructor
  · rw [e1]; exact a
  · rw [e2]; exact b
  · rw [e1]; exact c
  · rw [e3]; exact d
  · rw [e1, e3]; exact e
  · rw [e1, e3]; exact f
theorem ent_order {w : World} {L : Ent} {es : Array (Int × Value)} {order : Array Nat} (hr : es.toList = L.map fun p => (p.2.hash w, p.1)) (hp : order.toList.Perm (List.range L.length)) :
    ∃ L' : Ent, (order.filterMap (es[·]?)).toList = (L'.map fun p => (p.2.hash w, p.1)) ∧ L'.Perm L ∧ (order.toList.map fun i => (es.map (·.1)).getD i 0) = L'.map fun p => p.2.hash w := by
  have ent : ∀ i : Nat, es[i]? = (L[i]?).map fun (p : Value × NestedKey) => (p.2.hash w, p.1) := fun i => by rw [← Array.getElem?_toList, hr, List.getElem?_map]
  refine ⟨order.toList.filterMap (L[·]?), ?_, ?_, ?_⟩
  · rw [Array.toList_filterMap, List.map_filterMap]
    congr 1
    funext i
    exact ent i
  · have h1 := hp.filterMap (L[·]?)
    have h2 : (List.range L.length).filterMap (L[·]?) = L := by
      have key : ∀ n, n ≤ L.length → (List.range n).filterMap (L[·]?) = L.take n := by
        intro n
        induction n with
        | zero => intro _; simp
        | succ n ih =>
          intro hn
          rw [List.range_succ, List.filterMap_append, ih (by omega), List.take_add_one]
          simp [List.getElem?_eq_getElem (show n < L.length by omega)]
      rw [key _ (Nat.le_refl _), List.take_length]
    rw [h2] at h1
    exact h1
  · have inn : ∀ i ∈ order.toList, i < L.length := fun i hi => List.mem_range.mp (hp.mem_iff.mp hi)
    generalize order.toList = l at inn
    induction l with
    | nil => rfl
    | cons i l ih =>
      have hi := inn i List.mem_cons_self
      have e := List.getElem?_eq_getElem hi
      rw [List.filterMap_cons_some e, List.map_cons, List.map_cons, ih fun j hj => inn j (List.mem_cons_of_mem _ hj)]
      congr 1
      rw [Array.getD_eq_getD_getElem?, Array.getElem?_map, ent i, e]
      rfl
/-- the rows laid anew in a table of another size -/
theorem SetW.anew {w : World} {h : Heap} {L : Ent} {es : Array (Int × Value)} {t : SetTable} (R : SetW w h L es t) {M f mv : Nat} {ld pl : Bool} (hM : Msk M) (hn : L.length ≤ M) (hl : w.params.followText "set-order" = true ∨ ld = true) :
    ∃ t' order L', SetTable.laid M f mv ld pl (es.map (·.1)) = some (t', order) ∧ order.toList.Perm (List.range es.size) ∧ (order.filterMap (es[·]?)).size = es.size ∧ L'.Perm L ∧ t'.mask = M ∧ SetW w h L' (order.filterMap (es[·]?)) t' := by
  have sz := R.size
  obtain ⟨t', order, e, hp, T, em, el⟩ := laid_ok (f := f) (mv := mv) (ld := ld) (pl := pl) (hs := es.map (·.1)) hM (by rw [Array.size_map, sz]; exact hn)
  rw [Array.size_map] at hp
  obtain ⟨L', r1, r2, r3⟩ := ent_order R.rows (sz ▸ hp)
  rw [r3] at T
  refine ⟨t', order, L', e, hp, ?_, r2, em, ⟨r1, T, (r2.map (·.2)).nodup_iff.mpr R.nd, fun p m => R.key p (r2.mem_iff.mp m), by rw [el]; exact hl, by rw [r2.length_eq, em]; exact hn, by rw [r2.length_eq]; exact R.few⟩⟩
  rw [rows_size r1, r2.length_eq, sz]
/-- one more row -/
theorem SetW.more {w : World} {h : Heap} {L : Ent} {es : Array (Int × Value)} {t : SetTable} (R : SetW w h L es t) {x : Value} {k : NestedKey} (hx : Nk h k x) (h8 : k.depth ≤ 8) (hm : k ∉ L.map (·.2)) {K : Nat} (hK : way t.mask (k.hash w) K ∉ t.place.toList)
    (hb : ∀ c, c < K → way t.mask (k.hash w) c ∈ t.place.toList) (few : L.length + 1 ≤ 200) (fit : L.length + 1 ≤ t.mask) {t1 : SetTable} {pl : Bool} (e1 : t1 = { (t.put (way t.mask (k.hash w) K)).1 with plain := pl }) :
    ∃ L', L'.Perm ((x, k) :: L) ∧ SetW w h L' (SetTable.insertAt es (t.put (way t.mask (k.hash w) K)).2 (k.hash w, x)) t1 ∧ t1.fill = L.length + 1 ∧ t1.mask = t.mask := by
  obtain ⟨hp, T, fl⟩ := R.tab.laidIn hK hb rfl
  rw [List.length_map] at hp fl
  have e2 : (t.put (way t.mask (k.hash w) K)).2 = SetTable.below t.place (way t.mask (k.hash w) K) := rfl
  rw [e2]
  generalize SetTable.below t.place (way t.mask (k.hash w) K) = p at hp T
  have pm := put_perm L p (x, k)
  refine ⟨L.take p ++ (x, k) :: L.drop p, pm, ⟨?_, ?_, ?_, ?_, ?_, ?_, ?_⟩, ?_, ?_⟩
  · rw [SetTable.toList_insertAt, R.rows, List.map_append, List.map_cons, List.map_take, List.map_drop]
  · rw [List.map_append, List.map_cons, List.map_take, List.map_drop]
    subst e1
    exact T.alike rfl rfl rfl
  · refine (pm.map (·.2)).nodup_iff.mpr ?_
    rw [List.map_cons]
    exact List.nodup_cons.mpr ⟨hm, R.nd⟩
  · intro q hq
    rcases List.mem_cons.mp (pm.mem_iff.mp hq) with rfl | z
    · exact ⟨hx, h8⟩
    · exact R.key q z
  · rw [e1]; exact R.led
  · rw [pm.length_eq, e1]; exact fit
  · rw [pm.length_eq]; exact few
  · rw [e1]; exact fl
  · rw [e1]; rfl
section
variable {P : Program} {w : World} {A : Around} {E : Value → Shared → Prop} {s : Shared} {a : Addr} {L : Ent} {es : Array (Int × Value)} {ep : Nat} {t : SetTable}
theorem store_n {o : Obj} {L' : Ent} {es' : Array (Int × Value)} {t' : SetTable} (ho : s.heap.get? a = some o) (hex : o.ExactSet) (hd : o.data = .set es ep t) (R : SetW w s.heap L' es' t') :
    Heap.SameBut a s.heap (s.heap.update a (Obj.putSet es' t')) ∧ (s.heap.update a (Obj.putSet es' t')).get? a = some { o with data := .set es' (ep + 1) t' } ∧ ({ o with data := .set es' (ep + 1) t' } : Obj).ExactSet ∧ SetW w (s.heap.update a (Obj.putSet es' t')) L' es' t' := by
  have sb : Heap.SameBut a s.heap (s.heap.update a (Obj.putSet es' t')) := Heap.SameBut.update ..
  exact ⟨sb, store_at ho hd, ⟨hex.1, hex.2.1, hex.2.2⟩, R.keep (keep_set ho hex sb)⟩
/-- a larger table -/
theorem relay_n {o : Obj} (ho : s.heap.get? a = some o) (hex : o.ExactSet) (hd : o.data = .set es ep t) (R : SetW w s.heap L es t) {wanted : Nat} (hw : wanted ≤ 1024) (hn : L.length * 5 < (SetTable.sizeAbove wanted - 1) * 3) {Q : Unit → Shared → Prop}
    (hQ : ∀ h' L' es' t', Heap.SameBut a s.heap h' → SetN w h' a L' es' (ep + 1) t' → L'.Perm L → t'.mask = SetTable.sizeAbove wanted - 1 → Q () { s with heap := h' }) : wpAny (model P w) A (setRelay a wanted) Q E s := by
  obtain ⟨z1, z2, z3⟩ := size_ok hw
  obtain ⟨t', order, L', e, hp, hsz, pm, em, R'⟩ := R.anew (f := t.finger) (mv := t.movedTo (SetTable.sizeAbove wanted - 1)) (ld := t.led) (pl := t.plain) z3 (by omega) R.led
  rw [setRelay_eq]
  refine wpAny_bind (wpAny_setState_of ho hd R.fits ?_)
  dsimp only
  refine wp_if_neg (by rw [sizeLine_eq]; omega) ?_
  try refine wpAny_bind (wpAny_pure ?_)
  have e' : t.relaid (es.map (·.1)) wanted = some (t', order) := e
  rw [e']
  dsimp only
  refine wpAny_bind ?_
  refine wp_if_neg (by rw [hsz]; simp) ?_
  try refine wpAny_bind (wpAny_pure ?_)
  refine wpAny_pure ?_
  dsimp only
  have few := R.few
  refine wpAny_storeSet_of ho hd ?_ (by rw [hsz, R.size, sizeLine_eq]; omega)
  obtain ⟨s1, s2, s3, s4⟩ := store_n ho hex hd R'
  exact hQ _ L' _ t' s1 (s4.n ⟨_, s2, s3, rfl⟩ (by rw [pm.length_eq, em]; exact hn)) pm em
/-- one kind of values -/
def Kd (tx : Bool) (v : Value) : Prop := if tx = true then ∃ x t, v = Value.str x t else ∃ b, v = Value.ref b
/-- what adding comes to -/
def Added (w : World) (a : Addr) (L : Ent) (x : Value) (k : NestedKey) (s : Shared) (Q : Bool → Shared → Prop) : Prop :=
  ∀ b h' L' es' ep' t', Heap.SameBut a s.heap h' → SetN w h' a L' es' ep' t' → t'.mask < 4096 → (k ∈ L.map (·.2) → L' = L) → (k ∉ L.map (·.2) → L'.Perm ((x, k) :: L)) → Q b { s with heap := h' }
theorem add_ref (R : SetN w s.heap a L es ep t) {x : Addr} {k : NestedKey} (hx : Nk s.heap k (.ref x)) (h8 : k.depth ≤ 8) (hu : A.units + 8 < cLine) (hmk : t.mask < 4096) (htup : ∀ p ∈ L, ∃ b, p.1 = Value.ref b) (few : L.length + 1 ≤ 200) {Q : Bool → Shared → Prop}
    (hQ : Added w a L (.ref x) k s Q) : wpAny (model P w) A (setAddHashed a (.ref x) (k.hash w)) Q E s := by
  obtain ⟨o, ho, hex, hd⟩ := R.ob
  have rm := R.room
  unfold setAddHashed
  refine wpAny_holding ?_
  rw [show (100000 : Nat) = 99999 + 1 from rfl, setAddHashedIn_succ]
  refine wpAny_bind (wpAny_setState_of ho hd R.fits ?_)
  dsimp only
  refine wp_if_neg (by simp [byScan, Value.scannable]) ?_
  try refine wpAny_bind (wpAny_pure ?_)
  refine wpAny_bind (look_at R hx h8 hu hmk htup (fun hm => ?_) fun K hm hK hb => ?_)
  · exact wpAny_pure (hQ false s.heap L es ep t (Heap.SameBut.refl a s.heap) R hmk (fun _ => rfl) fun z => absurd hm z)
  · dsimp only
    refine wpAny_bind (wpAny_setState_of ho hd R.fits ?_)
    dsimp only
    have tail : ∀ (t1 : SetTable) (pl : Bool), t1 = { (t.put (way t.mask (k.hash w) K)).1 with plain := pl } → wpAny (model P w) A (do
        storeSet a (SetTable.insertAt es (t.put (way t.mask (k.hash w) K)).2 (k.hash w, .ref x)) t1
        if !false && t1.tooFull then setRelay a (SetTable.grown (es.size + 1))
        return true) Q E s := fun t1 pl e1 => by
      obtain ⟨L1, pm, R1, fl, mk⟩ := R.w.more hx h8 hm hK hb few (by omega) e1
      obtain ⟨s1, s2, s3, s4⟩ := store_n ho hex hd R1
      refine wpAny_bind (wpAny_storeSet_of ho hd ?_ (by rw [R1.size, pm.length_eq, sizeLine_eq, List.length_cons]; omega))
      by_cases hf : t1.tooFull = true
      · refine wp_if_pos (by simp [hf]) ?_
        have g4 : SetTable.grown (es.size + 1) = 4 * (L.length + 1) := by
          unfold SetTable.grown
          rw [R.size, if_neg (by omega), Nat.mul_comm]
        rw [g4]
        obtain ⟨z1, z2, z3⟩ := size_ok (n := 4 * (L.length + 1)) (by omega)
        refine wpAny_bind (relay_n (s := { s with heap := _ }) s2 s3 rfl s4 (by omega) (by rw [pm.length_eq, List.length_cons]; omega) fun h2 L2 es2 t2 sb2 R2 pm2 em2 => ?_)
        exact wpAny_pure (hQ true h2 L2 es2 _ t2 (s1.trans sb2) R2 (by rw [em2]; omega) (fun z => absurd z hm) fun _ => pm2.trans pm)
      · refine wp_if_neg (by simp [hf]) ?_
        try refine wpAny_bind (wpAny_pure ?_)
        unfold SetTable.tooFull at hf
        rw [fl, decide_eq_true_eq] at hf
        exact wpAny_pure (hQ true _ L1 _ _ t1 s1 (s4.n ⟨_, s2, s3, rfl⟩ (by rw [pm.length_eq, List.length_cons]; omega)) (by rw [mk]; exact hmk) (fun z => absurd z hm) fun _ => pm)
    have hpl : (t.put (way t.mask (k.hash w) K)).1.plain = t.plain := rfl
    have self : ∀ u : SetTable, u = { u with plain := u.plain } := fun u => rfl
    refine wp_ite (fun _ => ?_) fun _ => ?_
    · refine wpAny_bind (hash_nk 8 k _ hx fun b => ?_)
      cases b with
      | true =>
        simp only [if_true]
        exact tail _ _ (self _)
      | false =>
        simp only [Bool.false_eq_true, if_false]
        exact tail _ false rfl
    · refine wpAny_bind (wpAny_pure ?_)
      simp only [if_true]
      exact tail _ _ (self _)
end
end SXQ

/-! Sets of texts: adding. -/
namespace SXQ
open PySem PySem.SeqAt L2 DL
section
variable {P : Program} {w : World} {A : Around} {E : Value → Shared → Prop} {s : Shared} {a : Addr} {L : Ent} {es : Array (Int × Value)} {ep : Nat} {t : SetTable}
theorem isStr_self (x : Str) (u : Tok) : Value.isStrOf x (.str x u) = true := by simp [Value.isStrOf]
/-- the first free slot -/
theorem slot_n {hs : List Int} (T : Tab t hs) (hl : hs.length ≤ t.mask) (h : Int) : ∃ K, way t.mask h K ∉ t.place.toList ∧ (∀ c, c < K → way t.mask h c ∈ t.place.toList) ∧ t.freeSlot h = some (way t.mask h K, false) := by
  obtain ⟨K, hKf, hK, hKb⟩ := T.gap hl h
  refine ⟨K, hK, hKb, ?_⟩
  have spec := go_spec t T.up T.nodead (fun _ => h + 1) h (10 * SetTable.turns t.mask) K (st t h 0) rfl hKf (fun q hq => by rw [st_add, Nat.zero_add]; exact hKb q hq) (by rw [st_add, Nat.zero_add]; exact hK)
  rcases spec with ⟨q, i, _, _, hh, _⟩ | ⟨_, hpr⟩
  · omega
  · unfold SetTable.freeSlot
    have pr : t.probe (fun _ => h + 1) h (t.probeStart h) = some (.empty (way t.mask h K) none) := by
      rw [st_add, Nat.zero_add] at hpr
      exact hpr
    rw [pr]
    rfl
theorem lay_n (R : SetW w s.heap L es t) {x : Value} {k : NestedKey} (hx : Nk s.heap k x) (h8 : k.depth ≤ 8) (hm : k ∉ L.map (·.2)) (few : L.length + 1 ≤ 200) (fit : L.length + 1 ≤ t.mask) :
    ∃ es' t1, layNew t es (k.hash w) x = (es', t1, false, false) ∧ ∀ (t2 : SetTable) (pl : Bool), t2 = { t1 with plain := pl } → ∃ L', L'.Perm ((x, k) :: L) ∧ SetW w s.heap L' es' t2 ∧ t2.fill = L.length + 1 ∧ t2.mask = t.mask := by
  obtain ⟨K, hK, hb, e⟩ := slot_n R.tab (by rw [List.length_map]; omega) (k.hash w)
  refine ⟨_, (t.put (way t.mask (k.hash w) K)).1, ?_, fun t2 pl e2 => R.more hx h8 hm hK hb few fit e2⟩
  obtain ⟨L1, pm, R1, _⟩ := R.more hx h8 hm hK hb few fit (t1 := { (t.put (way t.mask (k.hash w) K)).1 with plain := (t.put (way t.mask (k.hash w) K)).1.plain }) rfl
  have ft : (t.put (way t.mask (k.hash w) K)).1.fits (SetTable.insertAt es (t.put (way t.mask (k.hash w) K)).2 (k.hash w, x)).size = true := R1.fits
  unfold layNew
  rw [e]
  dsimp only
  rw [ft]
  unfold SetTable.orStandIn
  rw [ft]
  rfl
theorem relayAll_n (R : SetW w s.heap L es t) {wanted : Nat} (hw : wanted ≤ 1024) (hn : L.length * 5 < (SetTable.sizeAbove wanted - 1) * 3) :
    ∃ es' t' L', relayAll t es wanted = (es', t', false) ∧ L'.Perm L ∧ SetW w s.heap L' es' t' ∧ t'.mask = SetTable.sizeAbove wanted - 1 := by
  obtain ⟨z1, z2, z3⟩ := size_ok hw
  obtain ⟨t', order, L', e, hp, hsz, pm, em, R'⟩ := R.anew (f := t.finger) (mv := t.movedTo (SetTable.sizeAbove wanted - 1)) (ld := t.led) (pl := t.plain) z3 (by omega) R.led
  refine ⟨_, t', L', ?_, pm, R', em⟩
  have e' : t.relaid (es.map (·.1)) wanted = some (t', order) := e
  unfold relayAll
  rw [e']
  dsimp only
  have c : coversAll order es.size = true := by
    unfold coversAll
    exact List.isPerm_iff.mpr hp
  rw [c, R'.fits]
  rfl
theorem add_str (R : SetN w s.heap a L es ep t) {x : Str} {u : Tok} (hmk : t.mask < 4096) (htx : ∀ p ∈ L, ∃ y v, p.1 = Value.str y v) (few : L.length + 1 ≤ 200) {Q : Bool → Shared → Prop}
    (hQ : Added w a L (.str x u) (.text x) s Q) : wpAny (model P w) A (setAddHashed a (.str x u) ((NestedKey.text x).hash w)) Q E s := by
  obtain ⟨o, ho, hex, hd⟩ := R.ob
  have rm := R.room
  have keyT : ∀ p ∈ L, ∃ y v, p.1 = Value.str y v ∧ p.2 = .text y := fun p m => by
    obtain ⟨y, v, e⟩ := htx p m
    have q := (R.key p m).1
    rw [e] at q
    generalize p.2 = k at q
    cases q
    exact ⟨y, v, e, rfl⟩
  have ent : ∀ e ∈ es.toList, ∃ y v, e = ((NestedKey.text y).hash w, Value.str y v) ∧ (Value.str y v, NestedKey.text y) ∈ L := fun e m => by
    rw [R.rows] at m
    obtain ⟨p, hp, rfl⟩ := List.mem_map.mp m
    obtain ⟨y, v, e1, e2⟩ := keyT p hp
    refine ⟨y, v, by rw [e1, e2], ?_⟩
    obtain ⟨p1, p2⟩ := p
    simp only at e1 e2
    subst e1 e2
    exact hp
  have hel : ElemsOf (strKind P w) es.toList := fun e m => by
    obtain ⟨y, v, rfl, _⟩ := ent e m
    exact ⟨⟨y, isStr_self y v, rfl⟩, rfl⟩
  have sc : byScan (.str x u) es = true := byScan_of (knd := strKind P w) rfl (by rw [R.size]; unfold scanBound; omega) hel
  have mem : NestedKey.text x ∈ L.map (·.2) ↔ ∃ e ∈ es.toList, (strKind P w).is x e.2 = true := by
    constructor
    · intro m
      obtain ⟨p, hp, e⟩ := List.mem_map.mp m
      obtain ⟨y, v, e1, e2⟩ := keyT p hp
      rw [e2] at e
      cases e
      exact ⟨_, by rw [R.rows]; exact List.mem_map.mpr ⟨p, hp, rfl⟩, by show Value.isStrOf x p.1 = true; rw [e1]; exact isStr_self x v⟩
    · rintro ⟨e, m, q⟩
      obtain ⟨y, v, rfl, hp⟩ := ent e m
      have : y = x := by
        have q' : Value.isStrOf x (.str y v) = true := q
        simpa [Value.isStrOf] using q'
      subst this
      exact List.mem_map.mpr ⟨_, hp, rfl⟩
  unfold setAddHashed
  refine wpAny_holding ?_
  rw [show (100000 : Nat) = 99999 + 1 from rfl, setAddHashedIn_succ]
  refine wpAny_bind (wpAny_setState_of ho hd R.fits ?_)
  dsimp only
  refine wp_if_pos sc ?_
  have core : wpAny (model P w) A (setAddByScan a (.str x u) ((NestedKey.text x).hash w) es t) (fun r s' => ∃ b, r = some b ∧ Q b s') E s := by
    unfold setAddByScan
    refine wpAny_bind (wpAny_rule ?_)
    refine wpAny_bind (wpAny_setScan_of (knd := strKind P w) (k := x) (isStr_self x u) ho hd R.fits hel ?_)
    cases hr : List.findIdx? (fun e => (strKind P w).is x e.2) es.toList with
    | some j =>
      obtain ⟨hj, hpj, _⟩ := List.findIdx?_eq_some_iff_getElem.mp hr
      have hm : NestedKey.text x ∈ L.map (·.2) := mem.mpr ⟨_, List.getElem_mem hj, hpj⟩
      exact wpAny_pure ⟨false, rfl, hQ false s.heap L es ep t (Heap.SameBut.refl a s.heap) R hmk (fun _ => rfl) fun z => absurd hm z⟩
    | none =>
      have hm : NestedKey.text x ∉ L.map (·.2) := fun z => by
        obtain ⟨e, m, q⟩ := mem.mp z
        have := List.findIdx?_eq_none_iff.mp hr e m
        rw [q] at this
        cases this
      dsimp only
      try refine wpAny_bind (wpAny_pure ?_)
      obtain ⟨es1, t1, e1, lay⟩ := lay_n (s := s) R.w (x := .str x u) (.text x u) (by simp [NestedKey.depth]) hm few (by omega)
      rw [e1]
      dsimp only
      refine wpAny_bind (wpAny_pure (a := ()) ?_)
      have tail : ∀ (g : Bool → Sem Unit), g false = pure () → ∀ (t2 : SetTable) (pl : Bool), t2 = { t1 with plain := pl } → wpAny (model P w) A (storeSet a es1 t2 >>= fun _ =>
          if (!false && t2.tooFull) = true then g (relayAll t2 es1 (SetTable.grown es1.size)).2.2 >>= fun _ => storeSet a (relayAll t2 es1 (SetTable.grown es1.size)).1 (relayAll t2 es1 (SetTable.grown es1.size)).2.1 >>= fun _ => pure (some true)
          else pure (some true)) (fun r s' => ∃ b, r = some b ∧ Q b s') E s := fun g hg t2 pl e2 => by
        obtain ⟨L1, pm, R1, fl, mk⟩ := lay t2 pl e2
        obtain ⟨s1, s2, s3, s4⟩ := store_n ho hex hd R1
        have sz1 : es1.size = L.length + 1 := by rw [R1.size, pm.length_eq, List.length_cons]
        refine wpAny_bind (wpAny_storeSet_of ho hd ?_ (by rw [sz1, sizeLine_eq]; omega))
        by_cases hf : t2.tooFull = true
        · refine wp_if_pos (by simp [hf]) ?_
          have g4 : SetTable.grown es1.size = 4 * (L.length + 1) := by
            unfold SetTable.grown
            rw [sz1, if_neg (by omega), Nat.mul_comm]
          rw [g4]
          obtain ⟨z1, z2, z3⟩ := size_ok (n := 4 * (L.length + 1)) (by omega)
          obtain ⟨es3, t3, L3, e3, pm3, R3, mk3⟩ := relayAll_n (s := { s with heap := _ }) s4 (wanted := 4 * (L.length + 1)) (by omega) (by rw [pm.length_eq, List.length_cons]; omega)
          obtain ⟨s5, s6, s7, s8⟩ := store_n (s := { s with heap := s.heap.update a (Obj.putSet es1 t2) }) s2 s3 rfl R3
          rw [e3]
          dsimp only
          rw [hg]
          refine wpAny_bind (wpAny_pure ?_)
          refine wpAny_bind ?_
          refine wpAny_storeSet_of (s := { s with heap := s.heap.update a (Obj.putSet es1 t2) }) s2 rfl ?_ (by rw [R3.size, pm3.length_eq, pm.length_eq, List.length_cons, sizeLine_eq]; omega)
          refine wpAny_pure ⟨true, rfl, hQ true _ L3 es3 _ t3 (s1.trans s5) (s8.n ⟨_, s6, s7, rfl⟩ ?_) (by rw [mk3]; omega) (fun z => absurd z hm) fun _ => pm3.trans pm⟩
          rw [pm3.length_eq, pm.length_eq, List.length_cons, mk3]
          omega
        · refine wp_if_neg (by simp [hf]) ?_
          try refine wpAny_bind (wpAny_pure ?_)
          unfold SetTable.tooFull at hf
          rw [fl, decide_eq_true_eq] at hf
          exact wpAny_pure ⟨true, rfl, hQ true _ L1 _ _ t2 s1 (s4.n ⟨_, s2, s3, rfl⟩ (by rw [pm.length_eq, List.length_cons]; omega)) (by rw [mk]; exact hmk) (fun z => absurd z hm) fun _ => pm⟩
      have self : ∀ u : SetTable, u = { u with plain := u.plain } := fun u => rfl
      refine wp_ite (fun _ => ?_) fun _ => ?_
      · refine wpAny_bind (hash_nk 8 (.text x) _ (.text x u) fun b => ?_)
        cases b with
        | true =>
          simp only [if_true]
          exact tail _ rfl _ _ (self _)
        | false =>
          simp only [Bool.false_eq_true, if_false]
          exact tail _ rfl _ false rfl
      · refine wpAny_bind (wpAny_pure ?_)
        simp only [if_true]
        exact tail _ rfl _ _ (self _)
  refine wpAny_bind (wpAny_mono core (fun r s' h => ?_) fun _ _ h => h)
  obtain ⟨b, rfl, q⟩ := h
  exact wpAny_pure q
end
end SXQ

/-! Sets of texts and of nested tuples: set(xs). -/
namespace SXQ
open PySem PySem.SeqAt L2 DL PyProof.Rows
/-- a row that may be put into a set -/
structure Fit (h : Heap) (tx : Bool) (p : Value × NestedKey) : Prop where
  nk : Nk h p.2 p.1
  d8 : p.2.depth ≤ 8
  kd : Kd tx p.1
theorem Fit.keep {h h' : Heap} {tx : Bool} {p : Value × NestedKey} (F : Fit h tx p) (g : ∀ b u, h.get? b = some u → h'.get? b = some u) : Fit h' tx p := ⟨F.nk.keep fun b u e _ => g b u e, F.d8, F.kd⟩
/-- what of ks is in the set -/
structure Part (ks : Ent) (i : Nat) (L : Ent) : Prop where
  of : ∀ p ∈ L, p ∈ ks.take i
  has : ∀ p ∈ ks.take i, p.2 ∈ L.map (·.2)
theorem Part.zero (ks : Ent) : Part ks 0 [] := ⟨fun _ h => (by cases h), fun _ h => (by simp at h)⟩
theorem take_one {α : Type} {l : List α} {i : Nat} {x : α} (h : l[i]? = some x) : l.take (i + 1) = l.take i ++ [x] := by rw [List.take_add_one, h]; rfl
theorem Part.next {ks L L' : Ent} {i : Nat} {x : Value × NestedKey} (g : Part ks i L) (h : ks[i]? = some x) (c1 : x.2 ∈ L.map (·.2) → L' = L) (c2 : x.2 ∉ L.map (·.2) → L'.Perm (x :: L)) : Part ks (i + 1) L' := by
  by_cases m : x.2 ∈ L.map (·.2)
  · rw [c1 m]
    constructor
    · intro p hp
      rw [take_one h]
      exact List.mem_append_left _ (g.of p hp)
    · intro p hp
      rw [take_one h] at hp
      rcases List.mem_append.mp hp with z | z
      · exact g.has p z
      · rw [List.mem_singleton.mp z]; exact m
  · have pm := c2 m
    constructor
    · intro p hp
      rw [take_one h]
      rcases List.mem_cons.mp (pm.mem_iff.mp hp) with z | z
      · exact List.mem_append_right _ (by rw [z]; exact List.mem_singleton.mpr rfl)
      · exact List.mem_append_left _ (g.of p z)
    · intro p hp
      rw [(pm.map (·.2)).mem_iff, List.map_cons]
      rw [take_one h] at hp
      rcases List.mem_append.mp hp with z | z
      · exact List.mem_cons_of_mem _ (g.has p z)
      · rw [List.mem_singleton.mp z]; exact List.mem_cons_self
section
variable {P : Program} {w : World} {A : Around} {E : Value → Shared → Prop} {s : Shared} {a : Addr} {L : Ent} {es : Array (Int × Value)} {ep : Nat} {t : SetTable}
theorem add_n (R : SetN w s.heap a L es ep t) {tx : Bool} {p : Value × NestedKey} (F : Fit s.heap tx p) (hu : A.units + 8 < cLine) (hmk : t.mask < 4096) (hL : ∀ p ∈ L, Kd tx p.1) (few : L.length + 1 ≤ 200) {Q : Bool → Shared → Prop}
    (hQ : Added w a L p.1 p.2 s Q) : wpAny (model P w) A (setAddHashed a p.1 (p.2.hash w)) Q E s := by
  obtain ⟨v, k⟩ := p
  obtain ⟨nk, d8, kd⟩ := F
  simp only at nk d8 kd hQ ⊢
  cases tx with
  | true =>
    obtain ⟨x, u, rfl⟩ : ∃ x t, v = Value.str x t := kd
    cases nk
    exact add_str R hmk hL few hQ
  | false =>
    obtain ⟨b, rfl⟩ : ∃ b, v = Value.ref b := kd
    exact add_ref R nk d8 hu hmk hL few hQ
theorem SetN.keep {h h' : Heap} (R : SetN w h a L es ep t) (g : ∀ b u, h.get? b = some u → h'.get? b = some u) : SetN w h' a L es ep t := by
  obtain ⟨o, ho, r⟩ := R.ob
  exact ⟨⟨o, g a o ho, r⟩, R.rows, R.tab, R.nd, fun p m => ⟨(R.key p m).1.keep fun b u e _ => g b u e, (R.key p m).2⟩, R.led, R.room, R.few⟩
theorem new_n {h : Heap} {a : Addr} (ho : h.get? a = some { cls := .type "set", dict := none, data := .set #[] 0 (.fresh 0 0 (!w.params.followText "set-order")) }) : SetN w h a [] #[] 0 (.fresh 0 0 (!w.params.followText "set-order")) := by
  refine ⟨⟨_, ho, ⟨rfl, rfl, rfl⟩, rfl⟩, rfl, ⟨List.Pairwise.nil, rfl, rfl, ⟨3, rfl, by decide, by decide⟩, fun x hx => (by cases hx), fun i h j hi => (by simp at hi)⟩, List.nodup_nil, fun p hp => (by cases hp), ?_, show 0 * 5 < 7 * 3 by decide, by decide⟩
  show _ ∨ (!w.params.followText "set-order") = true
  cases w.params.followText "set-order" <;> simp
/-- the loop that fills a set -/
theorem fill_n {tx : Bool} {I : Addr} {fp wr : List Addr} {G : Array GenState → Array GenState → Prop} {n : Nat} {Pv : Nat → Value → Prop} {St : Nat → Shared → Prop} {R : Result → Shared → Prop}
    (W : WalksS P w A.in1 I fp wr G n Pv St) (S : Addr) (hSf : S ∉ fp) (ks : Ent) (hn : n = ks.length) (dom : List NestedKey) (hdom : dom.length < 200) (hin : ∀ p ∈ ks, p.2 ∈ dom) (hval : ∀ i v, Pv i v → ∃ p, ks[i]? = some p ∧ v = p.1)
    (h0 : Heap) (hk : ∀ p ∈ ks, Fit h0 tx p) (hS0 : h0.get? S = none) (hw0 : ∀ b ∈ wr, h0.get? b = none) (hu : A.in1.units + 8 < cLine) :
    ∀ (d i : Nat) (s : Shared), n - i = d → i ≤ n → St i s → (∀ b o, h0.get? b = some o → s.heap.get? b = some o) → (∃ L es ep t, SetN w s.heap S L es ep t ∧ t.mask < 4096 ∧ Part ks i L) →
      (∀ s' L es ep t, Moved (S :: wr) G s s' → SetN w s'.heap S L es ep t → t.mask < 4096 → Part ks n L → (∀ b o, h0.get? b = some o → s'.heap.get? b = some o) → R (.ok (.ret .none)) s') →
      codeAny (model P w) A (.builtin "set.update.loop" ⟨[.ref S, .ref I], []⟩) R s := by
  have nw : S ∉ wr := fun z => hSf (W.sub _ z)
  have more : ∀ b ∈ wr, b ∈ S :: wr := fun b z => List.mem_cons_of_mem _ z
  have mv : ∀ {s1 s2 : Shared} {L : Ent} {es : Array (Int × Value)} {ep : Nat} {t : SetTable} {i : Nat}, Moved wr G s1 s2 → (∀ b o, h0.get? b = some o → s1.heap.get? b = some o) → SetN w s1.heap S L es ep t → Part ks i L →
      (∀ b o, h0.get? b = some o → s2.heap.get? b = some o) ∧ SetN w s2.heap S L es ep t := fun {s1 s2 L es ep t i} hm k1 R1 g => by
    have k2 : ∀ b o, h0.get? b = some o → s2.heap.get? b = some o := fun b o e => hm.heap b o (fun z => by rw [hw0 b z] at e; cases e) (k1 b o e)
    refine ⟨k2, ?_⟩
    obtain ⟨o, ho, r⟩ := R1.ob
    exact ⟨⟨o, hm.heap S o nw ho, r⟩, R1.rows, R1.tab, R1.nd, fun p m => ⟨(hk p (List.mem_of_mem_take (g.of p m))).nk.keep fun b u e _ => k2 b u e, (R1.key p m).2⟩, R1.led, R1.room, R1.few⟩
  intro d
  induction d with
  | zero =>
    intro i s hd hi hst k1 ⟨L, es, ep, t, R1, mk, g⟩ hR
    obtain rfl : i = n := by omega
    refine codeAny_builtin PyProof.Rows.F.entry_set_update_loop ?_
    rw [Around.under_plainId PyProof.Rows.F.plain_set_update_loop _]
    refine wpAny_bind (m := pyNext (.ref I)) (W.done s _ _ hst fun s2 hm => ?_)
    obtain ⟨k2, R2⟩ := mv hm k1 R1 g
    exact wpAny_pure (hR s2 L es ep t (hm.mono more) R2 mk g k2)
  | succ d ih =>
    intro i s hd hi hst k1 ⟨L, es, ep, t, R1, mk, g⟩ hR
    have lt : i < n := by omega
    refine codeAny_builtin PyProof.Rows.F.entry_set_update_loop ?_
    rw [Around.under_plainId PyProof.Rows.F.plain_set_update_loop _]
    refine wpAny_bind (m := pyNext (.ref I)) (W.item i s _ _ lt hst fun v s2 hP hst2 hm => ?_)
    obtain ⟨p, hp, rfl⟩ := hval i v hP
    obtain ⟨k2, R2⟩ := mv hm k1 R1 g
    have pm := List.mem_of_getElem? hp
    have F2 : Fit s2.heap tx p := (hk p pm).keep k2
    have lim : L.length + 1 ≤ 200 := by
      have z := R1.nd.length_le_of_subset (l₂ := dom) fun x hx => by
        obtain ⟨q, hq, rfl⟩ := List.mem_map.mp hx
        exact hin q (List.mem_of_mem_take (g.of q hq))
      rw [List.length_map] at z
      omega
    refine wpAny_bind (m := holding [p.1] (setAdd S p.1)) (wpAny_holding ?_)
    unfold setAdd
    refine wpAny_holding ?_
    have d8 := F2.d8
    refine wpAny_bind (pyHash_key p.2 p.1 A.in1 s2 _ F2.nk.is (by omega) ?_)
    refine add_n (s := { s2 with toks := s2.toks + p.2.draws }) R2 F2 hu mk (fun q hq => (hk q (List.mem_of_mem_take (g.of q hq))).kd) lim fun b h' L' es' ep' t' sb R3 mk3 c1 c2 => ?_
    have k3 : ∀ b o, h0.get? b = some o → h'.get? b = some o := fun b o e => (sb.2 b fun z => by rw [z, hS0] at e; cases e).trans (k2 b o e)
    refine wpAny_pure ⟨plainId_quiet PyProof.Rows.F.plain_set_update_loop _, ih (i + 1) _ (by omega) lt (W.frame _ s2 _ _ hst2 (Nat.le_add_right _ _) fun b hb o e => ?_) k3 ⟨L', es', ep', t', R3, mk3, g.next hp c1 c2⟩ fun s3 L4 es4 ep4 t4 m4 R4 mk4 g4 k4 => ?_⟩
    · rw [sb.2 b fun z => hSf (z ▸ hb)]; exact e
    · refine hR s3 L4 es4 ep4 t4 (Moved.trans W.gtrans ((hm.mono more).then_heap (Nat.le_add_right _ _) fun b o hb e => ?_) m4) R4 mk4 g4 k4
      rw [sb.2 b fun z => hb (z ▸ List.mem_cons_self)]; exact e
end
end SXQ

/-! set(xs) of a list, of a tuple. -/
namespace SXQ
open PySem PySem.SeqAt L2 DL PyProof.Rows
/-- a new set -/
abbrev nobj (w : World) : Obj := { cls := .type "set", dict := none, data := .set #[] 0 (.fresh 0 0 (!w.params.followText "set-order")) }
section
variable {P : Program} {w : World} {A : Around} {E : Value → Shared → Prop} {s : Shared}
set_option maxHeartbeats 3200000 in
theorem set_by {l : Addr} {Z : Shared → Prop} {Q : Value → Shared → Prop}
    (hi : wpAny (model P w) A.in1.in1 (Builtin.«set.__init__» ⟨[.ref s.heap.objs.size, .ref l], []⟩) (fun r s2 => r = Fin.done (.ret .none) ∧ Z s2) E { s with heap := s.heap.push (nobj w) })
    (h : ∀ s2, Z s2 → Q (.ref s.heap.objs.size) s2) : wpAny (model P w) A (call (.type "set") [.ref l]) Q E s := by
  have C := PySem.F.called_set
  obtain ⟨c0, r0, cm⟩ := C.mro
  have c1 := C.made
  have c2 := C.sub
  have c3 := C.notType
  have c4 := C.canCreate
  have c5 := PySem.F.typeCall_set_1 (.ref l)
  refine wpAny_call (codeAny_of_tree (show wpAny _ _ (callAny (.type "set") _) _ _ _ from wpAny_pure ⟨Code.quiet_builtin _ (by decide +kernel), codeAny_builtin PySem.F.entry_type_call ?_⟩))
  rw [Around.under_plain (weight_type_call_type "set" [.ref l] []) rfl]
  repeat (any_goals (first | assumption | wp_step))
  refine codeAny_mono (code_set_led1 (.ref l) (E := E) (Q₁ := fun v z => v = .ref s.heap.objs.size ∧ z = { s with heap := s.heap.push (nobj w) }) ⟨rfl, rfl⟩) fun r z hr => ?_
  match r, hr with
  | .error _, hr => exact hr
  | .ok (.ret v), hr =>
    obtain ⟨rfl, rfl⟩ := hr
    have at0 : (s.heap.push (nobj w)).get? s.heap.objs.size = some (nobj w) := Heap.get?_push_size _ rfl
    have ty : Shared.TypeIs { s with heap := s.heap.push (nobj w) } (.ref s.heap.objs.size) "set" := ⟨_, at0, rfl⟩
    have i1 := C.init.lookup
    have i2 := C.init.bind (.ref s.heap.objs.size)
    repeat (any_goals (first | assumption | wp_step))
    refine codeAny_mono (codeAny_call_builtin (R := wants (fun v z => v = .none ∧ Z z) E) C.init.plain PySem.F.entry_set_init (check_set_init_1 ty ?_)) fun r z hr => ?_
    · exact wpAny_mono hi (fun r z hq => by obtain ⟨rfl, hz⟩ := hq; exact ⟨rfl, hz⟩) fun e z he => he
    · match r, hr with
      | .error _, hr => exact hr
      | .ok (.ret v), hr =>
        obtain ⟨rfl, hz⟩ := hr
        repeat (any_goals (first | assumption | wp_step))
        exact h _ hz
set_option maxHeartbeats 3200000 in
/-- set(xs), xs a list -/
theorem call_set_list {tx : Bool} {l : Addr} {items : Array Value} (ks : Ent) (dom : List NestedKey) (hdom : dom.length < 200) (hin : ∀ p ∈ ks, p.2 ∈ dom) {Q : Value → Shared → Prop} (hh : A.handled = none) (hl : s.heap.IsList l items) (hit : items.toList = ks.map (·.1))
    (hk : ∀ p ∈ ks, Fit s.heap tx p) (hu : A.units + 12 < cLine)
    (h : ∀ (h' : Heap) (tk : Nat) L es ep t, SetN w h' s.heap.objs.size L es ep t → t.mask < 4096 → Part ks ks.length L → (∀ b o, s.heap.get? b = some o → h'.get? b = some o) → Q (.ref s.heap.objs.size) { s with heap := h', toks := tk }) :
    wpAny (model P w) A (call (.type "set") [.ref l]) Q E s := by
  have sz : items.size = ks.length := by rw [← Array.length_toList, hit, List.length_map]
  refine set_by (Z := fun z => ∃ h' tk L es ep t, z = { s with heap := h', toks := tk } ∧ SetN w h' s.heap.objs.size L es ep t ∧ t.mask < 4096 ∧ Part ks ks.length L ∧ ∀ b o, s.heap.get? b = some o → h'.get? b = some o) ?_ fun z hz => ?_
  · obtain ⟨⟨oc, od, odt, os⟩, ho, hc, m, hd⟩ := id hl
    simp only at hc hd
    subst hc hd
    have ll : l < s.heap.objs.size := Heap.lt_size ho
    have ho2 : (s.heap.push (nobj w)).get? l = some ⟨.type "list", od, .seq items m, os⟩ := Heap.get?_push_of_some _ ho
    have hl2 : (s.heap.push (nobj w)).IsList l items := ⟨_, ho2, rfl, m, rfl⟩
    have f1 := PySem.F.sub_list_set
    have f2 := PySem.F.sub_list_frozenset
    have f3 : (Value.type "list" == Value.type "dict") = false := by decide
    have calm3 : A.in1.in1.in1.handled = none := by simp [hh]
    have lne : l ≠ (s.heap.push (nobj w)).objs.size := by
      rw [Heap.size_push]
      exact Nat.ne_of_lt (Nat.lt_succ_of_lt ll)
    have gone : ∀ b, s.heap.objs.size ≤ b → s.heap.get? b = none := fun b hb => by
      cases q : s.heap.get? b with
      | none => rfl
      | some o => exact absurd (Heap.lt_size q) (Nat.not_lt_of_le hb)
    unfold Builtin.«set.__init__» noKeywords Builtin.Frozenset.updateFrom
    generalize hPI : pyIter = PI
    wp_walk
    subst hPI
    refine wpAny_pyIter_list hl2 ?_
    refine wpAny_bind (wpAny_runValue ?_)
    refine fill_n (tx := tx) ((Walks.list calm3 _ l lne items).toS) s.heap.objs.size ?_ ks sz dom hdom hin (fun i v hv => ?_) s.heap hk (gone _ (Nat.le_refl _)) (fun b hb => gone b ?_) (by simp only [Around.in1_units]; omega) (items.size - 0) 0 _ (by omega) (Nat.zero_le _)
      ⟨⟨_, Heap.get?_push_size _ rfl, rfl, rfl⟩, hl2.push _⟩ (fun b o e => Heap.get?_push_of_some _ (Heap.get?_push_of_some _ e)) ⟨[], #[], 0, _, new_n (Heap.get?_push_of_some _ (Heap.get?_push_size _ rfl)), by show 7 < 4096; decide, Part.zero ks⟩ ?_
    · rw [Heap.size_push]
      simp only [List.mem_cons, List.not_mem_nil, or_false, not_or]
      exact ⟨Nat.ne_of_lt (Nat.lt_succ_self _), Nat.ne_of_gt ll⟩
    · have q : items.toList[i]? = some v := by rw [Array.getElem?_toList]; exact hv
      rw [hit, List.getElem?_map] at q
      obtain ⟨p, e1, e2⟩ := Option.map_eq_some_iff.mp q
      exact ⟨p, e1, e2.symm⟩
    · rw [List.mem_singleton.mp hb, Heap.size_push]
      omega
    · intro z L es ep t mv R mk g kp
      obtain ⟨h', g2, d2, tk2, os2⟩ := z
      obtain rfl : g2 = s.gens := mv.gens
      obtain rfl : d2 = s.drawn := mv.drawn
      obtain rfl : os2 = s.os := mv.os
      rw [sz] at g
      exact wpAny_pure (wpAny_pure ⟨rfl, h', tk2, L, es, ep, t, rfl, R, mk, g, kp⟩)
  · obtain ⟨h', tk, L, es, ep, t, rfl, R, mk, g, kp⟩ := hz
    exact h h' tk L es ep t R mk g kp

set_option maxHeartbeats 3200000 in
/-- set(xs), xs a tuple -/
theorem call_set_tuple {tx : Bool} {l : Addr} {items : Array Value} (ks : Ent) (dom : List NestedKey) (hdom : dom.length < 200) (hin : ∀ p ∈ ks, p.2 ∈ dom) {Q : Value → Shared → Prop} (hh : A.handled = none) (hl : s.heap.IsTuple l items) (hit : items.toList = ks.map (·.1))
    (hk : ∀ p ∈ ks, Fit s.heap tx p) (hu : A.units + 12 < cLine)
    (h : ∀ (h' : Heap) (tk : Nat) L es ep t, SetN w h' s.heap.objs.size L es ep t → t.mask < 4096 → Part ks ks.length L → (∀ b o, s.heap.get? b = some o → h'.get? b = some o) → Q (.ref s.heap.objs.size) { s with heap := h', toks := tk }) :
    wpAny (model P w) A (call (.type "set") [.ref l]) Q E s := by
  have sz : items.size = ks.length := by rw [← Array.length_toList, hit, List.length_map]
  refine set_by (Z := fun z => ∃ h' tk L es ep t, z = { s with heap := h', toks := tk } ∧ SetN w h' s.heap.objs.size L es ep t ∧ t.mask < 4096 ∧ Part ks ks.length L ∧ ∀ b o, s.heap.get? b = some o → h'.get? b = some o) ?_ fun z hz => ?_
  · obtain ⟨⟨oc, od, odt, os⟩, ho, hc, m, hd⟩ := id hl
    simp only at hc hd
    subst hc hd
    have ll : l < s.heap.objs.size := Heap.lt_size ho
    have ho2 : (s.heap.push (nobj w)).get? l = some ⟨.type "tuple", od, .seq items m, os⟩ := Heap.get?_push_of_some _ ho
    have hl2 : (s.heap.push (nobj w)).IsTuple l items := ⟨_, ho2, rfl, m, rfl⟩
    have f1 := PySem.F.sub_tuple_set
    have f2 := PySem.F.sub_tuple_frozenset
    have f3 : (Value.type "tuple" == Value.type "dict") = false := by decide
    have calm3 : A.in1.in1.in1.handled = none := by simp [hh]
    have lne : l ≠ (s.heap.push (nobj w)).objs.size := by
      rw [Heap.size_push]
      exact Nat.ne_of_lt (Nat.lt_succ_of_lt ll)
    have gone : ∀ b, s.heap.objs.size ≤ b → s.heap.get? b = none := fun b hb => by
      cases q : s.heap.get? b with
      | none => rfl
      | some o => exact absurd (Heap.lt_size q) (Nat.not_lt_of_le hb)
    unfold Builtin.«set.__init__» noKeywords Builtin.Frozenset.updateFrom
    generalize hPI : pyIter = PI
    wp_walk
    subst hPI
    refine wpAny_pyIter_tuple hl2 ?_
    refine wpAny_bind (wpAny_runValue ?_)
    refine fill_n (tx := tx) ((Walks.tuple calm3 _ l lne items).toS) s.heap.objs.size ?_ ks sz dom hdom hin (fun i v hv => ?_) s.heap hk (gone _ (Nat.le_refl _)) (fun b hb => gone b ?_) (by simp only [Around.in1_units]; omega) (items.size - 0) 0 _ (by omega) (Nat.zero_le _)
      ⟨⟨_, Heap.get?_push_size _ rfl, rfl, rfl⟩, hl2.push _⟩ (fun b o e => Heap.get?_push_of_some _ (Heap.get?_push_of_some _ e)) ⟨[], #[], 0, _, new_n (Heap.get?_push_of_some _ (Heap.get?_push_size _ rfl)), by show 7 < 4096; decide, Part.zero ks⟩ ?_
    · rw [Heap.size_push]
      simp only [List.mem_cons, List.not_mem_nil, or_false, not_or]
      exact ⟨Nat.ne_of_lt (Nat.lt_succ_self _), Nat.ne_of_gt ll⟩
    · have q : items.toList[i]? = some v := by rw [Array.getElem?_toList]; exact hv
      rw [hit, List.getElem?_map] at q
      obtain ⟨p, e1, e2⟩ := Option.map_eq_some_iff.mp q
      exact ⟨p, e1, e2.symm⟩
    · rw [List.mem_singleton.mp hb, Heap.size_push]
      omega
    · intro z L es ep t mv R mk g kp
      obtain ⟨h', g2, d2, tk2, os2⟩ := z
      obtain rfl : g2 = s.gens := mv.gens
      obtain rfl : d2 = s.drawn := mv.drawn
      obtain rfl : os2 = s.os := mv.os
      rw [sz] at g
      exact wpAny_pure (wpAny_pure ⟨rfl, h', tk2, L, es, ep, t, rfl, R, mk, g, kp⟩)
  · obtain ⟨h', tk, L, es, ep, t, rfl, R, mk, g, kp⟩ := hz
    exact h h' tk L es ep t R mk g kp
end
end SXQ

/-! set | set. -/
namespace SXQ
open PySem PySem.SeqAt L2 DL PyProof.Rows
theorem perm_map {α β : Type} {f : α → β} : ∀ {l : List β} {L : List α}, l.Perm (L.map f) → ∃ L' : List α, l = L'.map f ∧ L'.Perm L
  | [], L, h => by
    have : L.map f = [] := h.symm.eq_nil
    exact ⟨[], rfl, by rw [List.map_eq_nil_iff.mp this]⟩
  | x :: l, L, h => by
    obtain ⟨p, hp, rfl⟩ := List.mem_map.mp (h.mem_iff.mp List.mem_cons_self)
    obtain ⟨a, b, rfl⟩ := List.append_of_mem hp
    rw [List.map_append, List.map_cons] at h
    have h2 := (h.trans List.perm_middle).cons_inv
    rw [← List.map_append] at h2
    obtain ⟨L', e, pm⟩ := perm_map h2
    exact ⟨p :: L', by rw [e]; rfl, (pm.cons p).trans List.perm_middle.symm⟩
section
variable {P : Program} {w : World} {A : Around} {E : Value → Shared → Prop} {s : Shared}
theorem walk_n {a : Addr} {L : Ent} {es : Array (Int × Value)} {ep : Nat} {t : SetTable} (R : SetN w s.heap a L es ep t) {Q : Array (Int × Value) → Shared → Prop} (h : ∀ out d, out.toList.Perm es.toList → Q out { s with drawn := d }) : wpAny (model P w) A (setWalk a) Q E s := by
  obtain ⟨o, ho, hex, hd⟩ := R.ob
  unfold setWalk
  refine wpAny_bind (wpAny_setState_of ho hd R.fits ?_)
  dsimp only
  refine wpAny_bind (wpAny_byText ?_)
  refine wp_ite (fun ht => ?_) fun ht => ?_
  · refine wpAny_bind (wpAny_askSetting (wpAny_pure ?_))
    exact h _ s.drawn (pick_perm _ es)
  · try refine wpAny_bind (wpAny_pure ?_)
    refine wp_ite (fun _ => ?_) fun _ => ?_
    · refine wpAny_bind (drawOrder_at _ _ _ _ (by rw [Array.length_toList]; exact Nat.le_refl _) fun ys d pm => ?_)
      exact wpAny_pure (h _ d pm)
    · have hl : t.led = true := R.led.resolve_left ht
      refine wpAny_bind (wp_if_neg (c := (!t.led && decide (es.size > 1)) = true) (by simp [hl]) (wpAny_pure ?_))
      exact wpAny_pure (h es s.drawn (List.Perm.refl _))
/-- tuples have their own == -/
theorem loud_n {a r : Addr} {L : Ent} {es : Array (Int × Value)} {ep : Nat} {t : SetTable} (R : SetN w s.heap a L es ep t) (ht : ∀ p ∈ L, ∃ b, p.1 = Value.ref b) (big : 0 < L.length) {Q : Bool → Shared → Prop} (h : Q false s) : wpAny (model P w) A (setsQuiet [a, r]) Q E s := by
  obtain ⟨o, ho, hex, hd⟩ := R.ob
  obtain ⟨p, L1, rfl⟩ : ∃ p L1, L = p :: L1 := by
    cases L with
    | nil => simp at big
    | cons p L1 => exact ⟨p, L1, rfl⟩
  obtain ⟨b, hb⟩ := ht p List.mem_cons_self
  have nk := (R.key p List.mem_cons_self).1
  rw [hb] at nk
  generalize p.2 = kk at nk
  cases nk with
  | @tup _ ob vs m ks g1 g2 g3 g4 =>
    have el : es.toList = (p.2.hash w, .ref b) :: L1.map fun q => (q.2.hash w, q.1) := by rw [R.rows, List.map_cons, hb]
    unfold setsQuiet
    simp only [List.forIn_cons]
    unfold setEntries
    simp only [bind_assoc, pure_bind]
    refine wpAny_bind (wpAny_setState_of ho hd R.fits ?_)
    dsimp only
    rw [← Array.forIn_toList, el]
    simp only [List.forIn_cons, bind_assoc]
    refine wpAny_bind (wpAny_specialOf (T := "tuple") ⟨ob, g1, g2⟩ PySem.F.slot_tuple_eq.lookup ?_)
    have ne : (some (Value.builtin "tuple.__eq__") != some (Value.builtin "object.__eq__")) = true := by decide
    rw [ne]
    simp only [if_true, pure_bind]
    exact wpAny_pure h
/-- of tuples -/
theorem unseen_n {a r : Addr} {L : Ent} {es : Array (Int × Value)} {ep : Nat} {t : SetTable} (R : SetN w s.heap a L es ep t) (ht : ∀ p ∈ L, ∃ b, p.1 = Value.ref b) {Q : Array (Int × Value) → Shared → Prop} (h : ∀ out d, out.toList.Perm es.toList → Q out { s with drawn := d }) :
    wpAny (model P w) A (setWalkUnseen a [r] (some r)) Q E s := by
  obtain ⟨o, ho, hex, hd⟩ := R.ob
  unfold setWalkUnseen
  refine wpAny_bind (wpAny_setState_of ho hd R.fits ?_)
  dsimp only
  refine wpAny_bind (wpAny_byText ?_)
  refine wp_ite (fun _ => walk_n R h) fun hn => ?_
  have big : 1 < es.size := by
    have z : ¬ es.size ≤ 1 := fun z => hn (by simp [z])
    omega
  try refine wpAny_bind (wpAny_pure ?_)
  refine wpAny_bind (loud_n R ht (by rw [← R.size]; omega) ?_)
  exact walk_n R h
def Merged (w : World) (r : Addr) (Lr Lo : Ent) (s : Shared) (Q : Unit → Shared → Prop) : Prop :=
  ∀ h' d L' es' ep' t', Heap.SameBut r s.heap h' → SetN w h' r L' es' ep' t' → t'.mask < 4096 → (∀ p ∈ L', p ∈ Lr ∨ p ∈ Lo) → (∀ p, p ∈ Lr ∨ p ∈ Lo → p.2 ∈ L'.map (·.2)) → Q () { s with heap := h', drawn := d }
theorem roomFor_eq {t : SetTable} {hs : List Int} (T : Tab t hs) (n : Nat) : t.roomFor n = if (hs.length + n) * 5 ≥ t.mask * 3 then some ((hs.length + n) * 2) else none := by
  have f : t.fill = hs.length := by
    unfold SetTable.fill
    rw [T.nodead, T.many]
    rfl
  unfold SetTable.roomFor
  rw [f, T.many]
/-- room for more -/
theorem room_n {r : Addr} {L : Ent} {es : Array (Int × Value)} {ep : Nat} {t : SetTable} (R : SetN w s.heap r L es ep t) (mk : t.mask < 4096) {n : Nat} (hn : L.length + n ≤ 200) {Q : Unit → Shared → Prop}
    (h : ∀ h' L' es' ep' t', Heap.SameBut r s.heap h' → SetN w h' r L' es' ep' t' → t'.mask < 4096 → L'.Perm L → (L.length + n) * 5 < t'.mask * 3 → Q () { s with heap := h' }) : wpAny (model P w) A (setRoomFor r n) Q E s := by
  obtain ⟨o, ho, hex, hd⟩ := R.ob
  have rm := R.room
  unfold setRoomFor
  refine wpAny_bind (wpAny_setState_of ho hd R.fits ?_)
  dsimp only
  rw [roomFor_eq R.tab, List.length_map]
  by_cases c : (L.length + n) * 5 ≥ t.mask * 3
  · rw [if_pos c]
    dsimp only
    obtain ⟨z1, z2, z3⟩ := size_ok (n := (L.length + n) * 2) (by omega)
    exact relay_n ho hex hd R.w (by omega) (by omega) fun h' L' es' t' sb R' pm em => h h' L' es' _ t' sb R' (by rw [em]; omega) pm (by rw [em]; omega)
  · rw [if_neg c]
    exact wpAny_pure (h s.heap L es ep t (Heap.SameBut.refl r s.heap) R mk (List.Perm.refl _) (by omega))
theorem SetN.other {r o : Addr} {h h' : Heap} {L Lo : Ent} {es eo : Array (Int × Value)} {ep po : Nat} {t to : SetTable} (R : SetN w h r L es ep t) (Ro : SetN w h o Lo eo po to) (ne : o ≠ r) (sb : Heap.SameBut r h h') : SetN w h' o Lo eo po to := by
  obtain ⟨ob, ho, hex, hd⟩ := R.ob
  obtain ⟨oo, hoo, r1⟩ := Ro.ob
  have W := Ro.w.keep (keep_set ho hex sb)
  exact W.n ⟨oo, (sb.2 o ne).trans hoo, r1⟩ Ro.room
set_option maxHeartbeats 1000000 in
theorem merge_n {r o : Addr} {Lr Lo : Ent} {er eo : Array (Int × Value)} {pr po : Nat} {tr to : SetTable} (ne : o ≠ r) (Rr : SetN w s.heap r Lr er pr tr) (Ro : SetN w s.heap o Lo eo po to) (mkr : tr.mask < 4096) (mko : to.mask < 4096) (hu : A.units + 8 < cLine)
    (hkr : ∀ p ∈ Lr, ∃ b, p.1 = Value.ref b) (hko : ∀ p ∈ Lo, ∃ b, p.1 = Value.ref b) (few : Lr.length + Lo.length < 200) {each : Sem Unit} (heach : ∀ (z : Shared) (Q' : Unit → Shared → Prop), SetN w z.heap o Lo eo po to → Q' () z → wpAny (model P w) A each Q' E z)
    {Q : Unit → Shared → Prop} (hQ : Merged w r Lr Lo s Q) : wpAny (model P w) A (setMerge r o each) Q E s := by
  obtain ⟨oo, hoo, hexo, hdo⟩ := Ro.ob
  unfold setMerge
  refine wp_if_neg (by simpa using fun z : r = o => ne z.symm) ?_
  refine wpAny_bind (wpAny_setState_of hoo hdo Ro.fits ?_)
  dsimp only
  refine wp_ite (fun he => ?_) fun he => ?_
  · have l0 : Lo = [] := by
      have z := Ro.size
      have y : eo.size = 0 := by simpa [Array.isEmpty] using he
      rw [y] at z
      exact List.eq_nil_of_length_eq_zero z.symm
    subst l0
    exact wpAny_pure (hQ s.heap s.drawn Lr er pr tr (Heap.SameBut.refl r s.heap) Rr mkr (fun p m => .inl m) fun p m => List.mem_map.mpr ⟨p, m.resolve_right (fun z => by cases z), rfl⟩)
  · refine wpAny_bind (room_n Rr mkr (n := eo.size) (by rw [Ro.size]; omega) fun h1 L1 e1 p1 t1 sb1 R1 mk1 pm1 rm1 => ?_)
    rw [Ro.size] at rm1
    have Ro1 := Rr.other Ro ne sb1
    obtain ⟨o1, ho1, hex1, hd1⟩ := R1.ob
    obtain ⟨oo1, hoo1, hexo1, hdo1⟩ := Ro1.ob
    refine wpAny_bind (wpAny_setState_of (s := { s with heap := h1 }) ho1 hd1 R1.w.fits ?_)
    dsimp only
    have fillE : t1.fill = L1.length := by
      unfold SetTable.fill
      rw [R1.tab.nodead, R1.tab.many, List.length_map]
      rfl
    unfold SetTable.road
    by_cases c0 : L1.length = 0
    · have l0 : L1 = [] := List.eq_nil_of_length_eq_zero c0
      have lr0 : Lr = [] := by
        have := pm1.length_eq
        rw [c0] at this
        exact List.eq_nil_of_length_eq_zero this.symm
      subst l0 lr0
      have f0 : (t1.fill != 0) = false := by rw [fillE]; rfl
      rw [f0]
      simp only [Bool.false_eq_true, if_false]
      simp only [List.length_nil, Nat.zero_add] at rm1
      split
      · rename_i heq
        split at heq
        · rename_i cc
          have mkE : t1.mask = to.mask := by
            have := (Bool.and_eq_true_iff.mp cc).1
            simpa using this
          have W2 : SetW w h1 Lo eo { to with finger := t1.finger, led := t1.led && to.led, moves := t1.moves, plain := t1.plain && to.plain } :=
            ⟨Ro1.rows, Ro1.tab.alike rfl rfl rfl, Ro1.nd, Ro1.key, by
              rcases R1.led with z | z
              · exact .inl z
              · rcases Ro1.led with y | y
                · exact .inl y
                · exact .inr (by show (t1.led && to.led) = true; rw [z, y]; rfl), Ro1.w.fit, Ro1.few⟩
          obtain ⟨s1, s2, s3, s4⟩ := store_n (s := { s with heap := h1 }) ho1 hex1 hd1 W2
          refine wpAny_storeSet_of (s := { s with heap := h1 }) ho1 hd1 ?_ (by rw [Ro.size, sizeLine_eq]; omega)
          exact hQ _ s.drawn Lo _ _ _ (sb1.trans s1) (s4.n ⟨_, s2, s3, rfl⟩ (by show _ < to.mask * 3; exact Ro1.room)) mko (fun p m => .inr m) fun p m => List.mem_map.mpr ⟨p, m.resolve_left (fun z => by cases z), rfl⟩
        · cases heq
      · rename_i heq
        obtain ⟨t', order, L', e, hp, hsz, pm, em, R'⟩ := Ro1.w.anew (M := t1.mask) (f := t1.finger) (mv := t1.moves) (ld := t1.led && to.led) (pl := t1.plain && to.plain) R1.tab.msk (by omega) (by
          rcases R1.led with z | z
          · exact .inl z
          · rcases Ro1.led with y | y
            · exact .inl y
            · exact .inr (by rw [z, y]; rfl))
        rw [e]
        refine wpAny_bind (m := (do
          let es' := order.filterMap (eo[·]?)
          if es'.size != eo.size then unsupported "internal:set-table-lost-an-element"
          pure (es', t') : Sem (Array (Int × Value) × SetTable))) ?_
        refine wp_if_neg (by rw [hsz]; simp) ?_
        try refine wpAny_bind (wpAny_pure ?_)
        refine wpAny_pure ?_
        dsimp only
        obtain ⟨s1, s2, s3, s4⟩ := store_n (s := { s with heap := h1 }) ho1 hex1 hd1 R'
        refine wpAny_storeSet_of (s := { s with heap := h1 }) ho1 hd1 ?_ (by rw [hsz, Ro.size, sizeLine_eq]; omega)
        refine hQ _ s.drawn L' _ _ t' (sb1.trans s1) (s4.n ⟨_, s2, s3, rfl⟩ (by rw [pm.length_eq, em]; exact rm1)) (by rw [em]; exact mk1) (fun p m => .inr (pm.mem_iff.mp m)) fun p m => ?_
        rw [(pm.map (·.2)).mem_iff]
        exact List.mem_map.mpr ⟨p, m.resolve_left (fun z => by cases z), rfl⟩
      · rename_i heq
        split at heq <;> cases heq
    · have f0 : (t1.fill != 0) = true := by rw [fillE]; simpa using c0
      rw [f0]
      simp only [if_true]
      refine wpAny_bind (unseen_n (s := { s with heap := h1 }) Ro1 hko fun out d pm => ?_)
      rw [Ro.rows] at pm
      obtain ⟨Lp, eL, pmL⟩ := perm_map pm
      rw [← Array.forIn_toList, eL]
      refine wpAny_bind ?_
      refine wpAny_forIn_list _ (fun left u z => ∃ Lq h2 L2 e2 p2 t2, left = (Lq.map fun p => (p.2.hash w, p.1)) ∧ z = { s with heap := h2, drawn := d } ∧ Heap.SameBut r s.heap h2 ∧ SetN w h2 r L2 e2 p2 t2 ∧ t2.mask < 4096 ∧ (∀ p ∈ Lq, p ∈ Lo) ∧ (∀ p ∈ L2, p ∈ Lr ∨ p ∈ Lo) ∧ (∀ p, p ∈ Lr ∨ p ∈ Lo → p.2 ∈ L2.map (·.2) ∨ p ∈ Lq)) _ ?_ ?_ _ _
        ⟨Lp, h1, L1, e1, p1, t1, rfl, rfl, sb1, R1, mk1, fun p m => pmL.mem_iff.mp m, fun p m => .inl (pm1.mem_iff.mp m), fun p m => ?_⟩
      · rintro ⟨hh, x⟩ left u z ⟨Lq, h2, L2, e2, p2, t2, eq, rfl, sb2, R2, mk2, q1, q2, q3⟩
        obtain ⟨p, Lq, rfl⟩ : ∃ p r, Lq = p :: r := by
          cases Lq with
          | nil => cases eq
          | cons p r => exact ⟨p, r, rfl⟩
        rw [List.map_cons] at eq
        obtain ⟨e3, rfl⟩ := List.cons.inj eq
        obtain ⟨rfl, rfl⟩ := Prod.mk.inj e3
        have pm0 := q1 p List.mem_cons_self
        have Ro2 := Rr.other Ro ne sb2
        have kq : ∀ q ∈ L2, ∃ b, q.1 = Value.ref b := fun q m => (q2 q m).elim (hkr q) (hko q)
        obtain ⟨nk, d8⟩ := Ro2.key p pm0
        have lim : L2.length + 1 ≤ 200 := by
          have y := R2.nd.length_le_of_subset (l₂ := (Lr ++ Lo).map (·.2)) fun k hk => by
            obtain ⟨q, hq, rfl⟩ := List.mem_map.mp hk
            exact List.mem_map.mpr ⟨q, List.mem_append.mpr (q2 q hq), rfl⟩
          rw [List.length_map, List.length_map, List.length_append] at y
          omega
        refine wpAny_bind (wpAny_holding (add_n (s := { s with heap := h2, drawn := d }) (tx := false) R2 ⟨nk, d8, hko p pm0⟩ hu mk2 kq lim fun b h3 L3 e3 p3 t3 sb3 R3 mk3 c1 c2 => ?_))
        have sb4 : Heap.SameBut r s.heap h3 := sb2.trans sb3
        have Ro3 := Rr.other Ro ne sb4
        obtain ⟨oo3, hoo3, hexo3, hdo3⟩ := Ro3.ob
        refine wpAny_bind (heach _ _ Ro3 ?_)
        refine wpAny_bind (wpAny_setState_of (s := { s with heap := h3, drawn := d }) hoo3 hdo3 Ro3.w.fits ?_)
        refine wp_if_neg (by simp) ?_
        try refine wpAny_bind (wpAny_pure ?_)
        have old : ∀ q, q.2 ∈ L2.map (·.2) ∨ q = p → q.2 ∈ L3.map (·.2) := fun q hq => by
          by_cases c : p.2 ∈ L2.map (·.2)
          · rw [c1 c]
            rcases hq with y | rfl
            · exact y
            · exact c
          · rw [((c2 c).map (·.2)).mem_iff, List.map_cons]
            rcases hq with y | rfl
            · exact List.mem_cons_of_mem _ y
            · exact List.mem_cons_self
        refine wpAny_pure ⟨Lq, h3, L3, e3, p3, t3, rfl, rfl, sb4, R3, mk3, fun q m => q1 q (List.mem_cons_of_mem _ m), fun q m => ?_, fun q m => ?_⟩
        · by_cases c : p.2 ∈ L2.map (·.2)
          · rw [c1 c] at m
            exact q2 q m
          · rcases List.mem_cons.mp ((c2 c).mem_iff.mp m) with y | y
            · exact .inr (y ▸ pm0)
            · exact q2 q y
        · rcases q3 q m with y | y
          · exact .inl (old q (.inl y))
          · rcases List.mem_cons.mp y with y | y
            · exact .inl (old q (.inr y))
            · exact .inr y
      · rintro u z ⟨Lq, h2, L2, e2, p2, t2, eq, rfl, sb2, R2, mk2, q1, q2, q3⟩
        have l0 : Lq = [] := List.map_eq_nil_iff.mp eq.symm
        subst l0
        exact wpAny_pure <| hQ h2 d L2 e2 p2 t2 sb2 R2 mk2 q2 fun p m => (q3 p m).resolve_right fun z => by cases z
      · rcases m with m | m
        · exact .inl (List.mem_map.mpr ⟨p, pm1.mem_iff.mpr m, rfl⟩)
        · exact .inr (pmL.mem_iff.mpr m)
end
end SXQ

/-! set | set, sorted(set). -/
namespace SXQ
open PySem PySem.SeqAt L2 DL PyProof.Rows
theorem entry_or : entryFor table "set.__or__" = some Builtin.«frozenset.__or__» := entryFor_alias (id' := "frozenset.__or__") (by kernel_rfl) rfl (by decide +kernel) (by kernel_rfl)
section
variable {P : Program} {w : World} {A : Around} {E : Value → Shared → Prop} {s : Shared}
theorem any_set {a : Addr} (hT : s.TypeIs (.ref a) "set") {Q : Bool → Shared → Prop} (h : Q true s) : wpAny (model P w) A (Builtin.Frozenset.isAnySet (.ref a)) Q E s := by
  unfold Builtin.Frozenset.isAnySet
  refine wpAny_bind (wpAny_isInstance hT PySem.F.called_set.sub ?_)
  exact wpAny_pure h
theorem copy_n {a : Addr} {L : Ent} {es : Array (Int × Value)} {ep : Nat} {t : SetTable} (R : SetN w s.heap a L es ep t) (mk : t.mask < 4096) (hk : ∀ p ∈ L, ∃ b, p.1 = Value.ref b) (few : L.length < 200) (hu : A.units + 8 < cLine) {Q : Value → Shared → Prop}
    (h : ∀ h' d L' es' ep' t', (∀ b o, s.heap.get? b = some o → h'.get? b = some o) → h'.objs.size = s.heap.objs.size + 1 → SetN w h' s.heap.objs.size L' es' ep' t' → t'.mask < 4096 → (∀ p ∈ L', p ∈ L) → (∀ p ∈ L, p.2 ∈ L'.map (·.2)) → Q (.ref s.heap.objs.size) { s with heap := h', drawn := d }) :
    wpAny (model P w) A (Builtin.Frozenset.copyOf a) Q E s := by
  obtain ⟨o, ho, hex, hd⟩ := R.ob
  have lt : a < s.heap.objs.size := Heap.lt_size ho
  have hT : s.TypeIs (.ref a) "set" := ⟨o, ho, hex.1⟩
  unfold Builtin.Frozenset.copyOf Builtin.Frozenset.baseOf
  refine wpAny_bind (wpAny_bind (wpAny_isInstance hT PySem.F.called_set.sub (wpAny_pure ?_)))
  simp only [if_true]
  refine wpAny_bind (wpAny_newSet_raw fun led el => ?_)
  subst el
  have at0 : (s.heap.push (nobj w)).get? s.heap.objs.size = some (nobj w) := Heap.get?_push_size _ rfl
  have keep : ∀ b u, s.heap.get? b = some u → (s.heap.push (nobj w)).get? b = some u := fun b u e => Heap.get?_push_of_some _ e
  refine wpAny_bind (m := Builtin.Frozenset.addrOf (.ref s.heap.objs.size)) (wpAny_pure ?_)
  refine wpAny_bind (merge_n (s := { s with heap := s.heap.push (nobj w) }) (Nat.ne_of_lt lt) (new_n at0) (R.keep keep) (by show 7 < 4096; decide) mk hu (fun p m => by cases m) hk (by simpa using few) (fun z Q' _ q => wpAny_pure q) fun h' d L' es' ep' t' sb R' mk' m1 m2 => ?_)
  refine wpAny_pure (h h' d L' es' ep' t' (fun b u e => ?_) (by rw [sb.1, Heap.size_push]) R' mk' (fun p m => (m1 p m).resolve_left fun z => by cases z) fun p m => m2 p (.inr m))
  rw [sb.2 b fun z => by subst z; exact absurd (Heap.lt_size e) (Nat.lt_irrefl _)]
  exact keep b u e
set_option maxHeartbeats 1000000 in
theorem or_n {a b : Addr} {La Lb : Ent} {ea eb : Array (Int × Value)} {pa pb : Nat} {ta tb : SetTable} (ne : a ≠ b) (Ra : SetN w s.heap a La ea pa ta) (Rb : SetN w s.heap b Lb eb pb tb) (mka : ta.mask < 4096) (mkb : tb.mask < 4096) (hu : A.units + 12 < cLine)
    (hka : ∀ p ∈ La, ∃ c, p.1 = Value.ref c) (hkb : ∀ p ∈ Lb, ∃ c, p.1 = Value.ref c) (few : La.length + Lb.length < 200) {Q : Value → Shared → Prop}
    (h : ∀ h' d L es ep t, (∀ c o, s.heap.get? c = some o → h'.get? c = some o) → s.heap.objs.size ≤ h'.objs.size → SetN w h' s.heap.objs.size L es ep t → (∀ p ∈ L, p ∈ La ∨ p ∈ Lb) → (∀ p, p ∈ La ∨ p ∈ Lb → p.2 ∈ L.map (·.2)) → Q (.ref s.heap.objs.size) { s with heap := h', drawn := d }) :
    wpAny (model P w) A (binaryOp .BitOr (.ref a) (.ref b)) Q E s := by
  obtain ⟨oa, hoa, hexa, hda⟩ := Ra.ob
  obtain ⟨ob, hob, hexb, hdb⟩ := Rb.ob
  have hTa : s.TypeIs (.ref a) "set" := ⟨oa, hoa, hexa.1⟩
  have hTb : s.TypeIs (.ref b) "set" := ⟨ob, hob, hexb.1⟩
  refine wpAny_binaryOp_same hTa hTb PySem.F.fills_set_or PySem.F.slot_set_or (wpAny_call (codeAny_call_builtin PySem.F.slot_set_or.plain entry_or (PySem.F.slot_set_or.check _ _ _ _ _ _ _ _ hTa (PySem.F.args_set_or_2 _ _) ?_)))
  refine wpAny_bind (m := Builtin.Frozenset.slot1 "__or__" _) (wpAny_pure (a := (Value.ref a, Value.ref b)) ?_)
  dsimp only
  refine wpAny_bind (m := Builtin.Frozenset.isAnySet (.ref a) <&&> Builtin.Frozenset.isAnySet (.ref b)) ?_
  refine wpAny_bind (m := Builtin.Frozenset.isAnySet (.ref a)) (any_set hTa ?_)
  refine any_set hTb ?_
  simp only [Bool.not_true, Bool.false_eq_true, if_false]
  refine wpAny_bind (m := Builtin.Frozenset.addrOf (.ref a)) (wpAny_pure (a := a) ?_)
  refine wpAny_bind ?_
  refine wpAny_bind (m := Builtin.Frozenset.copyOf a) (copy_n Ra mka hka (by omega) (by simp only [Around.in1_units]; omega) fun h1 d1 L1 e1 p1 t1 k1 sz1 R1 mk1 m1 m2 => ?_)
  have neb : b ≠ s.heap.objs.size := Nat.ne_of_lt (Heap.lt_size hob)
  refine wp_if_pos (by simpa using fun z : b = a => ne z.symm) ?_
  have Rb1 : SetN w h1 b Lb eb pb tb := Rb.keep k1
  obtain ⟨ob1, hob1, hexb1, hdb1⟩ := Rb1.ob
  have lim : L1.length ≤ La.length := by
    have y := R1.nd.length_le_of_subset (l₂ := La.map (·.2)) fun k hk => by
      obtain ⟨q, hq, rfl⟩ := List.mem_map.mp hk
      exact List.mem_map.mpr ⟨q, m1 q hq, rfl⟩
    simpa using y
  have fin : ∀ h2 d2 L2 e2 p2 t2, Heap.SameBut s.heap.objs.size h1 h2 → SetN w h2 s.heap.objs.size L2 e2 p2 t2 → (∀ p ∈ L2, p ∈ L1 ∨ p ∈ Lb) → (∀ p, p ∈ L1 ∨ p ∈ Lb → p.2 ∈ L2.map (·.2)) → Q (.ref s.heap.objs.size) { s with heap := h2, drawn := d2 } := fun h2 d2 L2 e2 p2 t2 sb R2 q1 q2 => by
    refine h h2 d2 L2 e2 p2 t2 (fun c o e => ?_) (by rw [sb.1, sz1]; exact Nat.le_succ _) R2 (fun p m => (q1 p m).imp (m1 p) id) fun p m => ?_
    · rw [sb.2 c fun z => by subst z; exact absurd (Heap.lt_size e) (Nat.lt_irrefl _)]
      exact k1 c o e
    · rcases m with m | m
      · obtain ⟨q, hq, e⟩ := List.mem_map.mp (m2 p m)
        rw [← e]
        exact q2 q (.inl hq)
      · exact q2 p (.inr m)
  refine wpAny_bind (m := Builtin.Frozenset.addrOf (.ref s.heap.objs.size)) (wpAny_pure (a := s.heap.objs.size) ?_)
  refine wpAny_bind (wpAny_holding ?_)
  unfold Builtin.Frozenset.updateFrom
  refine wpAny_bind (any_set (s := { s with heap := h1, drawn := d1 }) ⟨ob1, hob1, hexb1.1⟩ ?_)
  simp only [if_true]
  refine wpAny_bind (m := Builtin.Frozenset.addrOf (.ref b)) (wpAny_pure (a := b) ?_)
  unfold Builtin.Frozenset.merge
  refine wpAny_bind (wpAny_setEpoch_of (s := { s with heap := h1, drawn := d1 }) hob1 hdb1 Rb1.w.fits ?_)
  refine merge_n (s := { s with heap := h1, drawn := d1 }) neb R1 Rb1 mk1 mkb (by simp only [Around.in1_units]; omega) (fun p m => hka p (m1 p m)) hkb (by omega) (fun z Q' Rz q => ?_) fun h2 d2 L2 e2 p2 t2 sb R2 mk2 q1 q2 => ?_
  · obtain ⟨oz, hoz, hexz, hdz⟩ := Rz.ob
    unfold Builtin.Frozenset.unchanged
    refine wpAny_bind (wpAny_setEpoch_of hoz hdz Rz.w.fits ?_)
    exact wp_if_neg (by simp) (wpAny_pure q)
  · exact wpAny_pure (wpAny_pure ⟨fun z => (by cases z), fin h2 d2 L2 e2 p2 t2 sb R2 q1 q2⟩)
end
end SXQ

/-! sorted(set(..)) over data. -/
namespace DL
open PySem PySem.Spec L2
variable [Tbs]
theorem ntk_inj {x y : NestedKey} (h : cmb x y = true) (e : ntk x = ntk y) : x = y := by
  cases hb : NestedKey.beq x y with
  | true => exact NestedKey.eq_of_beq x y hb
  | false =>
    have z := ntk_cut x y h hb [] [.inl 0]
    rw [e] at z
    rw [lx_pre] at z
    have a : lxT [] [.inl 0] = true := by decide
    have b : lxT (ntk y) (ntk y) = false := PyProof.Rows.lex_irrefl (O := PyProof.Rows.itemOrd) _
    rw [a, b] at z
    cases z
/-- each once (the last of those that are alike) -/
def hasD (acc : List D) (d : D) : Bool := acc.any fun y => NestedKey.beq (nk y) (nk d)
def ddp : List D → List D
  | [] => []
  | d :: ds => if hasD ds d = true then ddp ds else d :: ddp ds
theorem hasD_iff {ds : List D} {d : D} : hasD ds d = true ↔ nk d ∈ ds.map nk := by
  unfold hasD
  rw [List.any_eq_true, List.mem_map]
  constructor
  · rintro ⟨y, h, e⟩
    exact ⟨y, h, NestedKey.eq_of_beq _ _ e⟩
  · rintro ⟨y, h, e⟩
    exact ⟨y, h, by rw [e]; exact NestedKey.beq_self _⟩
theorem ddp_sub : ∀ {ds : List D} {d : D}, d ∈ ddp ds → d ∈ ds
  | x :: xs, d, h => by
    unfold ddp at h
    split at h
    · exact List.mem_cons_of_mem _ (ddp_sub h)
    · rcases List.mem_cons.mp h with rfl | h
      · exact List.mem_cons_self
      · exact List.mem_cons_of_mem _ (ddp_sub h)
theorem ddp_key : ∀ {ds : List D} {k : NestedKey}, k ∈ ds.map nk → k ∈ (ddp ds).map nk
  | x :: xs, k, h => by
    rw [List.map_cons] at h
    unfold ddp
    split
    · rename_i c
      rcases List.mem_cons.mp h with rfl | h
      · exact ddp_key (hasD_iff.mp c)
      · exact ddp_key h
    · rw [List.map_cons]
      rcases List.mem_cons.mp h with rfl | h
      · exact List.mem_cons_self
      · exact List.mem_cons_of_mem _ (ddp_key h)
theorem ddp_nodup : ∀ ds : List D, ((ddp ds).map nk).Nodup
  | [] => List.nodup_nil
  | x :: xs => by
    unfold ddp
    split
    · exact ddp_nodup xs
    · rename_i c
      rw [List.map_cons]
      refine List.nodup_cons.mpr ⟨fun z => c (hasD_iff.mpr ?_), ddp_nodup xs⟩
      obtain ⟨y, hy, e⟩ := List.mem_map.mp z
      exact List.mem_map.mpr ⟨y, ddp_sub hy, e⟩
theorem ddp_mem {ds : List D} (h : nkOks ds = true) {d : D} : d ∈ ddp ds ↔ d ∈ ds := by
  refine ⟨ddp_sub, fun m => ?_⟩
  obtain ⟨y, hy, e⟩ := List.mem_map.mp (ddp_key (List.mem_map.mpr ⟨d, m, rfl⟩))
  rw [nkOks_all, List.all_eq_true] at h
  rw [← nk_inj (h y (ddp_sub hy)) (h d m) e]
  exact hy
/-- sorted, each once -/
def srtD (ds : List D) : List D := (ddp ds).mergeSort (leD false)
theorem lef_iff {x y : D} : leD false x y = true ↔ lxT (ntk (nk y)) (ntk (nk x)) = false := by
  unfold leD PySem.W.sortLe
  simp only [cond_false, Bool.not_eq_true']
theorem lef_trans (a b c : D) (h1 : leD false a b = true) (h2 : leD false b c = true) : leD false a c = true := by
  rw [lef_iff] at *
  cases e : lxT (ntk (nk c)) (ntk (nk a)) with
  | false => rfl
  | true =>
    rcases (PyProof.Rows.listOrd PyProof.Rows.itemOrd).negTrans (ntk (nk c)) (ntk (nk b)) (ntk (nk a)) e with z | z
    · exact absurd (z.symm.trans h2) (by decide)
    · exact absurd (z.symm.trans h1) (by decide)
theorem lef_total (a b : D) : (leD false a b || leD false b a) = true := by
  rw [Bool.or_eq_true, lef_iff, lef_iff]
  cases e : lxT (ntk (nk b)) (ntk (nk a)) with
  | false => exact .inl rfl
  | true =>
    refine .inr ?_
    cases e2 : lxT (ntk (nk a)) (ntk (nk b)) with
    | false => rfl
    | true =>
      have z := (PyProof.Rows.listOrd PyProof.Rows.itemOrd).trans _ _ _ e e2
      exact absurd (z.symm.trans ((PyProof.Rows.listOrd PyProof.Rows.itemOrd).irrefl _)) (by decide)
theorem lef_anti {a b : D} (ha : nkOk a = true) (hb : nkOk b = true) (hc : cmb (nk a) (nk b) = true) (h1 : leD false a b = true) (h2 : leD false b a = true) : a = b := by
  rw [lef_iff] at *
  exact nk_inj ha hb (ntk_inj hc ((PyProof.Rows.listOrd PyProof.Rows.itemOrd).total _ _ h2 h1))
theorem srtD_sorted (ds : List D) : (srtD ds).Pairwise fun a b => leD false a b = true := List.pairwise_mergeSort lef_trans lef_total _
theorem srtD_mem {ds : List D} (h : nkOks ds = true) {d : D} : d ∈ srtD ds ↔ d ∈ ds := ((List.mergeSort_perm _ _).mem_iff).trans (ddp_mem h)
/-- another list of the same, each once -/
theorem srtD_eq {ds bs : List D} (h : nkOks ds = true) (hc : ∀ a ∈ ds, ∀ b ∈ ds, cmb (nk a) (nk b) = true) (nd : (bs.map nk).Nodup) (hm : ∀ d, d ∈ bs ↔ d ∈ ds) : bs.mergeSort (leD false) = srtD ds := by
  have hok : ∀ d ∈ ds, nkOk d = true := by rw [nkOks_all, List.all_eq_true] at h; exact h
  have nb : bs.Nodup := nodup_of_map nd
  have nd2 : (ddp ds).Nodup := nodup_of_map (ddp_nodup ds)
  have pm : bs.Perm (ddp ds) := (List.perm_ext_iff_of_nodup nb nd2).mpr fun d => (hm d).trans (ddp_mem h).symm
  refine List.Perm.eq_of_pairwise (le := fun a b => leD false a b = true) (fun a b ma mb h1 h2 => ?_) (List.pairwise_mergeSort lef_trans lef_total _) (srtD_sorted ds) ((List.mergeSort_perm _ _).trans (pm.trans (List.mergeSort_perm _ _).symm))
  have ma' : a ∈ ds := (hm a).mp ((List.mergeSort_perm _ _).mem_iff.mp ma)
  have mb' : b ∈ ds := (srtD_mem h).mp mb
  exact lef_anti (hok a ma') (hok b mb') (hc a ma' b mb') h1 h2
/-- what may be put into one set -/
def oneK (tx : Bool) : D → Bool
  | .str _ => tx
  | .tup _ => !tx
  | _ => false
def setOk (tx : Bool) (ds : List D) : Bool := nkOks ds && ds.all (fun d => decide ((nk d).depth ≤ 8) && oneK tx d) && decide ((ddp ds).length < 200)
section
variable {X : Cx}
theorem bs_of {K : PySem.W.Frag} {U : Hp} {ds : List D} : ∀ {L : SXQ.Ent}, (∀ p ∈ L, ∃ d ∈ ds, nk d = p.2 ∧ ∃ v, RelV v p.1 ∧ Rp K U v d) →
    ∃ bs : List D, bs.map nk = L.map (·.2) ∧ (∀ d ∈ bs, d ∈ ds) ∧ PySem.W.EachIs (fun u d => ∃ v, RelV v u ∧ Rp K U v d) (L.map (·.1)) bs
  | [], _ => ⟨[], rfl, fun d h => (by cases h), .nil⟩
  | p :: L, h => by
    obtain ⟨d, m, e, v⟩ := h p List.mem_cons_self
    obtain ⟨bs, h1, h2, h3⟩ := bs_of fun q hq => h q (List.mem_cons_of_mem _ hq)
    refine ⟨d :: bs, by rw [List.map_cons, List.map_cons, h1, e], fun x hx => ?_, .cons v h3⟩
    rcases List.mem_cons.mp hx with rfl | z
    · exact m
    · exact h2 x z
theorem nka_of {h : Heap} : ∀ {L : SXQ.Ent}, (∀ p ∈ L, Nk h p.2 p.1) → NkA h (L.map (·.2)) (L.map (·.1))
  | [], _ => .nil
  | p :: L, q => .cons (q p List.mem_cons_self) (nka_of fun r hr => q r (List.mem_cons_of_mem _ hr))
theorem sorted_d {pins : List (Addr × Obj)} {s : Shared} {σ : L2.St} {H U : Hp} {a : Addr} {L : SXQ.Ent} {es : Array (Int × Value)} {ep : Nat} {t : SetTable} {ds : List D} {Q : VK} (hc : X.calm = true) (hu : X.A.units + 64 < cLine) (I : Inv X pins σ H s) (R : SXQ.SetN X.w s.heap a L es ep t)
    (hL : ∀ p ∈ L, ∃ d ∈ ds, nk d = p.2 ∧ ∃ v, RelV v p.1 ∧ Rp X.K U v d) (hall : ∀ d ∈ ds, nk d ∈ L.map (·.2)) (hnk : nkOks ds = true) (ok : rowOk (ddp ds) = true)
    (q : ∀ ys p, RpAll X.K U ys (srtD ds) → H p = none → Q (.ref p) (upd H p (.lst ys))) :
    wpAny (model X.prog X.w) X.A (call (.builtin "sorted") [.ref a]) (EP X pins σ Q) X.xe s := by
  obtain ⟨o, ho, hex, hd⟩ := R.ob
  have few := R.few
  refine Calls.call_function_entry PyProof.Rows.kind_sorted PyProof.Rows.plain_sorted PyProof.Rows.entry_sorted (PyProof.Rows.args_sorted1 _) ?_
  unfold Builtin.«sorted»
  refine wpAny_bind (m := checkCount "sorted" 1 1 _) (wpAny_pure ?_)
  refine wpAny_bind (collect_set (A := X.A.in1) (I.ok.hd hc) ⟨o, ho, hex.1, hd⟩ R.w.fits (by rw [R.w.size]; unfold scanBound; omega) R.tab.up R.led fun s1 vs k1 hz g1 o1 pm => ?_)
  have e0 : es.toList.map (·.2) = L.map (·.1) := by rw [R.rows, List.map_map]; rfl
  rw [e0] at pm
  obtain ⟨L1, rfl, pm1⟩ := SXQ.perm_map pm
  obtain ⟨bs, b1, b2, b3⟩ := bs_of (L := L1) fun p m => hL p (pm1.mem_iff.mp m)
  obtain ⟨r1, r2, r3, r4⟩ := rowOk_row ok
  have keysIn : ∀ k ∈ L1.map (·.2), k ∈ nks (ddp ds) := fun k hk => by
    rw [← b1] at hk
    obtain ⟨d, hd', rfl⟩ := List.mem_map.mp hk
    rw [nks_map]
    exact ddp_key (List.mem_map.mpr ⟨d, b2 d hd', rfl⟩)
  have row1 : Row (L1.map (·.2)) := ⟨fun x hx y hy => r2.cmb x (keysIn x hx) y (keysIn y hy), by
    obtain ⟨c, c1, c2⟩ := r2.one
    exact ⟨c, c1, fun x hx => c2 x (keysIn x hx)⟩⟩
  have nk1 : ∀ p ∈ L1, Nk s1.heap p.2 p.1 := fun p m => (R.key p (pm1.mem_iff.mp m)).1.keep fun b u e _ => k1 b u e
  have hlen : (L1.map (·.1)).length ≤ sizeLine := by rw [List.length_map, pm1.length_eq, sizeLine_eq]; omega
  refine wpAny_bind (wpAny_newList ?_ hlen)
  have at1 : (s1.heap.push (PyProof.Rows.seqObj "list" (L1.map (·.1)).toArray 0)).get? s1.heap.objs.size = some (PyProof.Rows.seqObj "list" (L1.map (·.1)).toArray 0) := Heap.get?_push_size _ rfl
  have keepS : ∀ b u, s1.heap.get? b = some u → (PySem.W.sortingHeap (s1.heap.push (PyProof.Rows.seqObj "list" (L1.map (·.1)).toArray 0)) s1.heap.objs.size (L1.map (·.1))).get? b = some u := fun b u e => PySem.W.sortingHeap_old (Nat.ne_of_lt (Heap.lt_size e)) (Heap.get?_push_of_some _ e)
  have nkS := nka_of (h := PySem.W.sortingHeap (s1.heap.push (PyProof.Rows.seqObj "list" (L1.map (·.1)).toArray 0)) s1.heap.objs.size (L1.map (·.1))) fun p m => (nk1 p m).keep fun b u e _ => keepS b u e
  refine wpAny_bind (wpAny_holding (wpAny_call_entry PyProof.Rows.slot_list_sort ⟨_, at1, rfl⟩ PyProof.Rows.entry_list_sort (PySem.W.list_sort_vals (s := { s1 with heap := s1.heap.push (PyProof.Rows.seqObj "list" (L1.map (·.1)).toArray 0) }) at1
    (sorts_nk (s := { s1 with heap := PySem.W.sortingHeap (s1.heap.push (PyProof.Rows.seqObj "list" (L1.map (·.1)).toArray 0)) s1.heap.objs.size (L1.map (·.1)) }) nkS row1 fun k hk => ?_) hlen ?_) (PyProof.Rows.args_list_sort _)))
  · have := r3 k (keysIn k hk)
    simp only [Around.in1_units]
    omega
  · refine ⟨_, rfl, wpAny_pure ⟨_, rfl, ?_⟩⟩
    dsimp only
    have hok : ∀ d ∈ ds, nkOk d = true := by have z := hnk; rw [nkOks_all, List.all_eq_true] at z; exact z
    have hm : ∀ d, d ∈ bs ↔ d ∈ ds := fun d => ⟨b2 d, fun m => by
      have z := hall d m
      rw [(pm1.map (·.2)).mem_iff.symm, ← b1] at z
      obtain ⟨y, hy, e⟩ := List.mem_map.mp z
      rw [← nk_inj (hok y (b2 y hy)) (hok d m) e]
      exact hy⟩
    have hcm : ∀ x ∈ ds, ∀ y ∈ ds, cmb (nk x) (nk y) = true := fun x hx y hy => r2.cmb _ (by rw [nks_map]; exact ddp_key (List.mem_map.mpr ⟨x, hx, rfl⟩)) _ (by rw [nks_map]; exact ddp_key (List.mem_map.mpr ⟨y, hy, rfl⟩))
    have ndb : (bs.map nk).Nodup := by
      rw [b1]
      exact (pm1.map (·.2)).nodup_iff.mpr R.nd
    have esrt := srtD_eq hnk hcm ndb hm
    have ek : PySem.W.EachIs (fun u d => (nkKind (PySem.W.sortingHeap (s1.heap.push (PyProof.Rows.seqObj "list" (L1.map (·.1)).toArray 0)) s1.heap.objs.size (L1.map (·.1))) (L1.map (·.2))).keyOf u = some (ntk (nk d))) (L1.map (·.1)) bs :=
      each_key (by rw [nks_map, b1]; exact nkS) fun k hk => by rw [nks_map, b1] at hk; exact hk
    have ev := PySem.W.sortVals_each (rev := false) (κ := nkKind (PySem.W.sortingHeap (s1.heap.push (PyProof.Rows.seqObj "list" (L1.map (·.1)).toArray 0)) s1.heap.objs.size (L1.map (·.1))) (L1.map (·.2))) (fun d => ntk (nk d)) b3 ek
    have ev' : PySem.W.EachIs (fun u d => ∃ v, RelV v u ∧ Rp X.K U v d) _ (bs.mergeSort (leD false)) := ev
    rw [esrt] at ev'
    obtain ⟨ys, v1, v2⟩ := each_split ev'
    obtain ⟨c, atp⟩ := PyProof.Rows.sortedHeap_at (vs := L1.map (·.1)) (out := (PySem.W.sortVals (nkKind (PySem.W.sortingHeap (s1.heap.push (PyProof.Rows.seqObj "list" (L1.map (·.1)).toArray 0)) s1.heap.objs.size (L1.map (·.1))) (L1.map (·.2))) false (L1.map (·.1)) (L1.map (·.1))).toArray) at1
    have hy : ys.length ≤ sizeLine := by
      rw [v2.length, ← esrt, List.length_mergeSort, ← List.length_map nk, b1, List.length_map, pm1.length_eq, sizeLine_eq]
      omega
    have keepF : ∀ b u, s.heap.get? b = some u → (PyProof.Rows.sortedHeap (s1.heap.push (PyProof.Rows.seqObj "list" (L1.map (·.1)).toArray 0)) s1.heap.objs.size (L1.map (·.1)) (PySem.W.sortVals (nkKind (PySem.W.sortingHeap (s1.heap.push (PyProof.Rows.seqObj "list" (L1.map (·.1)).toArray 0)) s1.heap.objs.size (L1.map (·.1))) (L1.map (·.2))) false (L1.map (·.1)) (L1.map (·.1))).toArray).get? b = some u := fun b u e => by
      have lt := Heap.lt_size (k1 b u e)
      rw [PyProof.Rows.sortedHeap_old (Nat.ne_of_lt lt) (by rw [Heap.size_push]; exact Nat.lt_succ_of_lt lt)]
      exact Heap.get?_push_of_some _ (k1 b u e)
    have hn : H s1.heap.objs.size = none := I.hok.fresh hz
    generalize PyProof.Rows.sortedHeap (s1.heap.push (PyProof.Rows.seqObj "list" (L1.map (·.1)).toArray 0)) s1.heap.objs.size (L1.map (·.1)) (PySem.W.sortVals (nkKind (PySem.W.sortingHeap (s1.heap.push (PyProof.Rows.seqObj "list" (L1.map (·.1)).toArray 0)) s1.heap.objs.size (L1.map (·.1))) (L1.map (·.2))) false (L1.map (·.1)) (L1.map (·.1))).toArray = h9 at atp keepF
    exact ⟨.ref _, upd H s1.heap.objs.size (.lst ys), I.call' (s' := { s1 with heap := h9 }) (ch := []) o1 (Un.laid keepF hz hn) (I.hok.laid keepF hz ⟨hy, _, c, v1, atp⟩) (by rw [show ({ s1 with heap := h9 } : Shared).gens = s.gens from g1]; exact I.bare) (fun _ z => nomatch z), rfl, q ys _ v2 hn⟩
end
end DL

/-! sorted(set(..)), sorted(set(..) | set(..)): the rules. -/
namespace DL
open PySem PySem.Spec L2
variable [Tbs]
mutual
theorem nk_noL : ∀ {d : D}, nkOk d = true → noL d = true
  | .int _, _ => rfl
  | .str _, _ => rfl
  | .tup xs, h => by
    simp only [nkOk] at h
    simp only [noL]
    exact nks_noL h
  | .non, h => by simp [nkOk] at h
  | .bl _, h => by simp [nkOk] at h
  | .lst _, h => by simp [nkOk] at h
  | .scr _, h => by simp [nkOk] at h
  | .dct _, h => by simp [nkOk] at h
  | .fn _ _, h => by simp [nkOk] at h
theorem nks_noL : ∀ {ds : List D}, nkOks ds = true → noLs ds = true
  | [], _ => rfl
  | d :: ds, h => by
    simp only [nkOks, Bool.and_eq_true] at h
    simp only [noLs, nk_noL h.1, nks_noL h.2, Bool.and_self]
end
/-- the items of a list, a tuple -/
def seqD : D → Option (List D)
  | .lst xs => some xs
  | .tup xs => some xs
  | _ => none
theorem each_mem {α β : Type} {R : α → β → Prop} : ∀ {as : List α} {bs : List β}, PySem.W.EachIs R as bs → ∀ p ∈ as.zip bs, p.2 ∈ bs ∧ R p.1 p.2
  | _, _, .nil, p, h => by cases h
  | _, _, .cons r t, p, h => by
    rw [List.zip_cons_cons] at h
    rcases List.mem_cons.mp h with rfl | h
    · exact ⟨List.mem_cons_self, r⟩
    · exact ⟨List.mem_cons_of_mem _ (each_mem t p h).1, (each_mem t p h).2⟩
theorem zip_fst {α β : Type} : ∀ {as : List α} {bs : List β}, as.length = bs.length → (as.zip bs).map (·.1) = as
  | [], [], _ => rfl
  | a :: as, b :: bs, h => by rw [List.zip_cons_cons, List.map_cons, zip_fst (by simpa using h)]
theorem zip_snd {α β : Type} : ∀ {as : List α} {bs : List β}, as.length = bs.length → (as.zip bs).map (·.2) = bs
  | [], [], _ => rfl
  | a :: as, b :: bs, h => by rw [List.zip_cons_cons, List.map_cons, zip_snd (by simpa using h)]
theorem each_len {α β : Type} {R : α → β → Prop} : ∀ {as : List α} {bs : List β}, PySem.W.EachIs R as bs → as.length = bs.length
  | _, _, .nil => rfl
  | _, _, .cons _ t => by rw [List.length_cons, List.length_cons, each_len t]
section
variable {X : Cx} {a b : Expr} {f g : Ex} {al bl : List Nat}
/-- what a set of data is -/
structure SetD (X : Cx) (tx : Bool) (s : Shared) (W : Hp) (ds : List D) (c : Addr) (L : SXQ.Ent) (es : Array (Int × Value)) (ep : Nat) (t : SetTable) : Prop where
  n : SXQ.SetN X.w s.heap c L es ep t
  mk4 : t.mask < 4096
  of : ∀ p ∈ L, ∃ d ∈ ds, nk d = p.2 ∧ ∃ v, RelV v p.1 ∧ Rp X.K W v d
  all : ∀ d ∈ ds, nk d ∈ L.map (·.2)
  kd : ∀ p ∈ L, SXQ.Kd tx p.1
theorem eval_set {tx : Bool} {p2 q2 : Pos} (hc : X.calm = true) (hu : X.A.units + 64 < cLine) (hg2 : Gl X "set") (hm2 : X.mg "set" = none) (ha : DP X a f al) (na : starEach [a] X.env = (false, eval a X.env) :: starEach [] X.env)
    {pins : List (Addr × Obj)} {s : Shared} {σ : L2.St} {H : Hp} (I : Inv X pins σ H s) {ρ : Rho} {O : Addr → Bool} {W : Hp} {d : D} {ds : List D} (rs : RZ X.K ρ σ O W H) (hf : f ρ = some d) (hd : seqD d = some ds) (ok : setOk tx ds = true) {Z : Value → Shared → Prop}
    (h : ∀ s1 H1 W1 c L es ep t, Inv X pins σ H1 s1 → PZ W H W1 H1 → FpOk X pins H1 c → SetD X tx s1 W1 ds c L es ep t → Z (.ref c) s1) :
    wpAny (model X.prog X.w) X.A (eval (.Call (.Name "set" p2) [a] [] q2) X.env) Z X.xe s := by
  unfold setOk at ok
  simp only [Bool.and_eq_true, decide_eq_true_eq] at ok
  obtain ⟨⟨ok1, ok2⟩, ok3⟩ := ok
  refine PyProof.Rows.Call_ (ld_blt I hg2 hm2 PyProof.Rows.boot_set ?_)
  refine PyProof.Rows.callWith_type1 (PyProof.Rows.args_cons (thn (ha.run pins s σ H (fun x H1 => ∃ W1, PZ W H W1 H1 ∧ Rp X.K (vw ρ σ al W1 (tb H1)) x d) I ⟨ρ, O, W, d, rs, hf, fun v W1 H1 ps r => ⟨W1, ps, r⟩⟩) fun v s1 ⟨x, H1, I1, r1, W1, ps, rp⟩ => PyProof.Rows.args_nil ?_) na) na rfl
  have rs1 := rs.pstep ps
  have fresh : H1 s1.heap.objs.size = none := I1.hok.fresh (Nat.le_refl _)
  have core : ∀ (xs : List V) (its : List Value), Vals xs its → RpAll X.K (vw ρ σ al W1 (tb H1)) xs ds → ∃ ks : SXQ.Ent, its = ks.map (·.1) ∧ (∀ p ∈ ks, p.2 ∈ (ddp ds).map nk) ∧ (∀ p ∈ ks, SXQ.Fit s1.heap tx p) ∧ (∀ p ∈ ks, ∃ d ∈ ds, nk d = p.2 ∧ ∃ v, RelV v p.1 ∧ Rp X.K W1 v d) ∧ ∀ d ∈ ds, nk d ∈ ks.map (·.2) := fun xs its rv ra => by
    have ra1 : RpAll X.K W1 xs ds := rpAll_down rs1 (nks_noL ok1) ra
    have nka : NkA s1.heap (nks ds) its := rpAll_nk I1 ok1 (rpAll_mono (ps.sub.trans tb_le) ra1) rv
    have ej := each_join rv ra1
    have l1 := each_len ej
    refine ⟨its.zip (ds.map nk), (zip_fst (by rw [List.length_map]; exact l1)).symm, ?_, ?_, ?_, ?_⟩
    · intro p hp
      exact ddp_key (List.of_mem_zip hp).2
    · intro p hp
      rw [List.zip_map_right] at hp
      obtain ⟨⟨u, e⟩, hq, rfl⟩ := List.mem_map.mp hp
      obtain ⟨me, v0, rv0, rp0⟩ := each_mem ej _ hq
      simp only at me rv0 rp0
      have z := List.all_eq_true.mp ok2 e me
      simp only [Bool.and_eq_true, decide_eq_true_eq] at z
      have hok : nkOk e = true := by have y := ok1; rw [nkOks_all, List.all_eq_true] at y; exact y e me
      have nk1 := rp_nk I1 hok (rp_mono (ps.sub.trans tb_le) rp0) rv0
      refine ⟨nk1, z.1, ?_⟩
      have z2 := z.2
      cases e with
      | str x =>
        have : tx = true := z2
        subst this
        cases rp0
        obtain ⟨t, rfl⟩ := rv0
        exact ⟨x, t, rfl⟩
      | tup es =>
        have : tx = false := by simpa [oneK] using z2
        subst this
        obtain ⟨c, ys, rfl, _⟩ := rp_tup rp0
        exact ⟨c, rv0⟩
      | _ => simp [oneK] at z2
    · intro p hp
      rw [List.zip_map_right] at hp
      obtain ⟨⟨u, e⟩, hq, rfl⟩ := List.mem_map.mp hp
      obtain ⟨me, v0, rv0, rp0⟩ := each_mem ej _ hq
      exact ⟨e, me, rfl, v0, rv0, rp0⟩
    · intro e me
      rw [zip_snd (by rw [List.length_map]; exact l1)]
      exact List.mem_map.mpr ⟨e, me, rfl⟩
  have fin : ∀ (ks : SXQ.Ent), (∀ p ∈ ks, SXQ.Fit s1.heap tx p) → (∀ p ∈ ks, ∃ d ∈ ds, nk d = p.2 ∧ ∃ v, RelV v p.1 ∧ Rp X.K W1 v d) → (∀ d ∈ ds, nk d ∈ ks.map (·.2)) → ∀ (h' : Heap) (tk : Nat) L es ep t, SXQ.SetN X.w h' s1.heap.objs.size L es ep t → t.mask < 4096 → SXQ.Part ks ks.length L → (∀ b o, s1.heap.get? b = some o → h'.get? b = some o) → Z (.ref s1.heap.objs.size) { s1 with heap := h', toks := tk } := fun ks f1 k4 k5 h' tk L es ep t R mk g kp => by
    refine h { s1 with heap := h', toks := tk } H1 W1 _ L es ep t (I1.kept kp) ps (I1.fpOk (Nat.le_refl _) fresh) ⟨R, mk, fun p m => k4 p (by have z := g.of p m; rw [List.take_length] at z; exact z), fun e me => ?_, fun p m => (f1 p (by have z := g.of p m; rw [List.take_length] at z; exact z)).kd⟩
    obtain ⟨p, hp, e1⟩ := List.mem_map.mp (k5 e me)
    rw [← e1]
    exact g.has p (by rw [List.take_length]; exact hp)
  have dl : ((ddp ds).map nk).length < 200 := by rw [List.length_map]; exact ok3
  unfold seqD at hd
  split at hd
  · cases hd
    obtain ⟨c, xs, rfl, k, ra⟩ := rp_lst rp
    cases r1
    obtain ⟨its, rv, pl, hz⟩ := I1.list (a := c) (xs := xs) (.inl (.inl (vw_subT ps.sub _ _ k)))
    obtain ⟨ks, k1, k2, k3, k4, k5⟩ := core xs its rv ra
    exact SXQ.call_set_list (tx := tx) ks ((ddp ds).map nk) dl k2 (I1.ok.hd hc) pl.isList (by simpa using k1) k3 (by omega) (fin ks k3 k4 k5)
  · cases hd
    obtain ⟨c, xs, rfl, k, ra⟩ := rp_tup rp
    cases r1
    obtain ⟨its, rv, ⟨o, ho, hcl, n, hdt⟩, hz⟩ := I1.tuple (a := c) (xs := xs) (sqT_mono (vw_subT ps.sub) k)
    obtain ⟨ks, k1, k2, k3, k4, k5⟩ := core xs its rv ra
    exact SXQ.call_set_tuple (tx := tx) ks ((ddp ds).map nk) dl k2 (I1.ok.hd hc) ⟨o, ho, hcl, n, hdt⟩ (by simpa using k1) k3 (by omega) (fin ks k3 k4 k5)
  · cases hd
/-- sorted(set(x)) -/
def dSrtSet (d : D) : Option (List D) := (seqD d).bind fun ds => if ((setOk true ds || setOk false ds) && rowOk (ddp ds)) = true then some (srtD ds) else none
def nE (k : D → Option (List D)) (f : Ex) : Exs := fun ρ => (f ρ).bind k
theorem setOk_nk {tx : Bool} {ds : List D} (h : setOk tx ds = true) : nkOks ds = true := by
  unfold setOk at h
  simp only [Bool.and_eq_true] at h
  exact h.1.1
theorem dn_srtset {p p2 q2 pos : Pos} (hc : X.calm = true) (hu : X.A.units + 64 < cLine) (hg : Gl X "sorted") (hm : X.mg "sorted" = none) (hg2 : Gl X "set") (hm2 : X.mg "set" = none) (ha : DP X a f al) (na : starEach [a] X.env = (false, eval a X.env) :: starEach [] X.env := by rfl) :
    DN X (.Call (.Name "sorted" p) [.Call (.Name "set" p2) [a] [] q2] [] pos) (nE dSrtSet f) [] := by
  refine ⟨fun pins s σ H Q I ⟨ρ, O, W, ds', rs, e, q⟩ => ?_⟩
  obtain ⟨d, hf, e⟩ := opt_bind e
  obtain ⟨ds, hd, e⟩ := opt_bind e
  split at e
  · rename_i ok
    cases e
    simp only [Bool.and_eq_true, Bool.or_eq_true] at ok
    obtain ⟨tx, hok⟩ : ∃ tx, setOk tx ds = true := ok.1.elim (fun z => ⟨_, z⟩) fun z => ⟨_, z⟩
    refine PyProof.Rows.Call_ (ld_blt I hg hm PyProof.Rows.boot_sorted ?_)
    refine PyProof.Rows.callWith_builtin1 (PyProof.Rows.args_cons ?_ rfl) rfl rfl
    refine eval_set hc hu hg2 hm2 ha na I rs hf hd hok fun s1 H1 W1 c L es ep t I1 ps fp S => ?_
    refine PyProof.Rows.args_nil ?_
    refine sorted_d hc hu I1 S.n S.of S.all (setOk_nk hok) ok.2 fun ys p2 ry hp => ?_
    exact q p2 ys W1 _ (ps.trans (hid_step ps.sub hp)) (ps.free hp) (w_free ps.sub hp) upd_same (by rw [vw_nil]; exact ry)
  · cases e
/-- sorted(set(x) | set(y)) -/
def dSrtOr (x y : D) : Option (List D) := (seqD x).bind fun ds => (seqD y).bind fun es => if (setOk false ds && setOk false es && decide ((ddp ds).length + (ddp es).length < 200) && rowOk (ddp (ds ++ es))) = true then some (srtD (ds ++ es)) else none
def nE2 (k : D → D → Option (List D)) (f g : Ex) : Exs := fun ρ => (f ρ).bind fun x => (g ρ).bind fun y => k x y
theorem SetD.len {tx : Bool} {s : Shared} {W : Hp} {ds : List D} {c : Addr} {L : SXQ.Ent} {es : Array (Int × Value)} {ep : Nat} {t : SetTable} (S : SetD X tx s W ds c L es ep t) : L.length ≤ (ddp ds).length := by
  have z := S.n.nd.length_le_of_subset (l₂ := (ddp ds).map nk) fun k hk => by
    obtain ⟨p, hp, rfl⟩ := List.mem_map.mp hk
    obtain ⟨d, hd, e, _⟩ := S.of p hp
    rw [← e]
    exact ddp_key (List.mem_map.mpr ⟨d, hd, rfl⟩)
  simpa using z
theorem dn_srtor {p p2 q2 p3 q3 p4 pos : Pos} (hc : X.calm = true) (hu : X.A.units + 64 < cLine) (hg : Gl X "sorted") (hm : X.mg "sorted" = none) (hg2 : Gl X "set") (hm2 : X.mg "set" = none) (ha : DP X a f al) (hb : DP X b g bl)
    (na : starEach [a] X.env = (false, eval a X.env) :: starEach [] X.env := by rfl) (nb : starEach [b] X.env = (false, eval b X.env) :: starEach [] X.env := by rfl) :
    DN X (.Call (.Name "sorted" p) [.BinOp (.Call (.Name "set" p2) [a] [] q2) .BitOr (.Call (.Name "set" p3) [b] [] q3) p4] [] pos) (nE2 dSrtOr f g) [] := by
  refine ⟨fun pins s σ H Q I ⟨ρ, O, W, ds', rs, e, q⟩ => ?_⟩
  obtain ⟨x, hf, e⟩ := opt_bind e
  obtain ⟨y, hgy, e⟩ := opt_bind e
  obtain ⟨ds, hdx, e⟩ := opt_bind e
  obtain ⟨es, hdy, e⟩ := opt_bind e
  split at e
  · rename_i ok
    cases e
    simp only [Bool.and_eq_true, decide_eq_true_eq] at ok
    obtain ⟨⟨⟨ok1, ok2⟩, ok3⟩, ok4⟩ := ok
    refine PyProof.Rows.Call_ (ld_blt I hg hm PyProof.Rows.boot_sorted ?_)
    refine PyProof.Rows.callWith_builtin1 (PyProof.Rows.args_cons ?_ rfl) rfl rfl
    refine wpAny_BinOp ?_
    refine eval_set hc hu hg2 hm2 ha na I rs hf hdx ok1 fun s1 H1 W1 c1 L1 es1 ep1 t1 I1 ps1 fp1 S1 => ?_
    obtain ⟨o1, ho1, hex1, hd1⟩ := S1.n.ob
    have J1 := I1.pinned (fp := [c1]) (fun b hb' => by rw [List.mem_singleton.mp hb']; exact fp1) (fun b hb' => by rw [List.mem_singleton.mp hb']; exact ⟨o1, ho1, fun v z => by rw [hd1] at z; cases z⟩)
    refine eval_set hc hu hg2 hm2 hb nb J1 (rs.pstep ps1) hgy hdy ok2 fun s2 H2 W2 c2 L2 es2 ep2 t2 I2 ps2 fp2 S2 => ?_
    have pin1 : (c1, o1) ∈ X.pn ++ (pins ++ pinsAt [c1] s1.heap) := List.mem_append_right _ (List.mem_append_right _ (mem_pinsAt (List.mem_singleton.mpr rfl) ho1))
    have ne : c1 ≠ c2 := fp2.2.2.2.2.2 _ pin1
    have ok1n := setOk_nk ok1
    have S1' : SetD X false s2 W2 ds c1 L1 es1 ep1 t1 := by
      refine ⟨⟨⟨o1, (I2.pin _ pin1).1, hex1, hd1⟩, S1.n.rows, S1.n.tab, S1.n.nd, fun r hr => ⟨?_, (S1.n.key r hr).2⟩, S1.n.led, S1.n.room, S1.n.few⟩, S1.mk4, fun r hr => ?_, S1.all, S1.kd⟩
      · obtain ⟨d, hd, e, v, rv, rp⟩ := S1.of r hr
        rw [← e]
        exact rp_nk I2 (by rw [nkOks_all, List.all_eq_true] at ok1n; exact ok1n d hd) (rp_mono (ps2.sub.trans tb_le) (rp_mono ps2.le rp)) rv
      · obtain ⟨d, hd, e, v, rv, rp⟩ := S1.of r hr
        exact ⟨d, hd, e, v, rv, rp_mono ps2.le rp⟩
    have l1 := S1'.len
    have l2 := S2.len
    refine SXQ.or_n ne S1'.n S2.n S1'.mk4 S2.mk4 (by omega) S1'.kd S2.kd (by omega) fun h' dr L es3 ep3 t3 kp hsz R m1 m2 => ?_
    refine PyProof.Rows.args_nil ?_
    have I3 : Inv X pins σ H2 { s2 with heap := h', drawn := dr } := I2.unpinned.call' (ch := []) rfl (Un.kept kp) (I2.hok.kept kp) I2.bare (fun _ z => nomatch z)
    refine sorted_d (U := W2) hc hu I3 R (fun r hr => ?_) (fun d hd => ?_) ?_ ok4 fun ys p2 ry hp => ?_
    · rcases m1 r hr with z | z
      · obtain ⟨d, hd, w⟩ := S1'.of r z
        exact ⟨d, List.mem_append_left _ hd, w⟩
      · obtain ⟨d, hd, w⟩ := S2.of r z
        exact ⟨d, List.mem_append_right _ hd, w⟩
    · rcases List.mem_append.mp hd with z | z
      · obtain ⟨r, hr, e⟩ := List.mem_map.mp (S1'.all d z)
        rw [← e]
        exact m2 r (.inl hr)
      · obtain ⟨r, hr, e⟩ := List.mem_map.mp (S2.all d z)
        rw [← e]
        exact m2 r (.inr hr)
    · have y1 := ok1n
      have y2 := setOk_nk ok2
      rw [nkOks_all] at y1 y2 ⊢
      rw [List.all_append, y1, y2]
      rfl
    · have ps := ps1.trans ps2
      exact q p2 ys W2 _ (ps.trans (hid_step ps.sub hp)) (ps.free hp) (w_free ps.sub hp) upd_same (by rw [vw_nil]; exact ry)
  · cases e
end
end DL

/-! Trees as data. -/
namespace ST
open PySem L2 DL
inductive Tr where
  | close
  | rule (sd : Str) (s : Stm) (nm : Str) (ks : List Tr)
  | cut (s : Stm) (ks : List Tr)
mutual
def encT : Tr → D
  | .close => .tup [.str "close"]
  | .rule sd s nm ks => .tup [.str "rule", .str sd, enc s, .str nm, .tup (encTs ks)]
  | .cut s ks => .tup [.str "cut", enc s, .tup (encTs ks)]
def encTs : List Tr → List D
  | [] => []
  | t :: ts => encT t :: encTs ts
end
theorem encTs_map : ∀ ts : List Tr, encTs ts = ts.map encT
  | [] => rfl
  | t :: ts => by rw [encTs, encTs_map ts]; rfl
mutual
def hgt : Tr → Nat
  | .close => 1
  | .rule _ _ _ ks => hgts ks + 1
  | .cut _ ks => hgts ks + 1
def hgts : List Tr → Nat
  | [] => 0
  | t :: ts => max (hgt t) (hgts ts)
end
theorem hgts_le {t : Tr} : ∀ {ts : List Tr}, t ∈ ts → hgt t ≤ hgts ts
  | u :: ts, h => by
    show hgt t ≤ max (hgt u) (hgts ts)
    rcases List.mem_cons.mp h with rfl | h
    · omega
    · have := hgts_le h
      omega
mutual
theorem noL_encT : ∀ t : Tr, noL (encT t) = true
  | .close => by simp [encT, noL, noLs]
  | .rule _ s _ ks => by simp [encT, noL, noLs, noL_enc, noLs_encT ks]
  | .cut s ks => by simp [encT, noL, noLs, noL_enc, noLs_encT ks]
theorem noLs_encT : ∀ ts : List Tr, noLs (encTs ts) = true
  | [] => rfl
  | t :: ts => by simp [encTs, noLs, noL_encT t, noLs_encT ts]
end
theorem esc_encT {al : List Nat} {t : Tr} {ρ : Rho} : esc al (encT t) ρ = ρ := esc_noL (noL_encT t)
def kidsT : Tr → List Tr
  | .close => []
  | .rule _ _ _ ks => ks
  | .cut _ ks => ks
theorem kids_hgt : ∀ (t : Tr), hgt t = hgts (kidsT t) + 1
  | .close => rfl
  | .rule _ _ _ _ => rfl
  | .cut _ _ => rfl
/-- a key of the measure -/
abbrev K3 := Int × Int × Int
def encK (k : K3) : D := .tup [.int k.1, .int k.2.1, .int k.2.2]
def h2 : List Tr → Int
  | [a, b] => (hgt a : Int) + (hgt b : Int)
  | _ => 0
mutual
def keysT : Tr → List K3
  | .close => []
  | .rule _ _ _ ks => keysTs ks
  | .cut s ks => if (keysTs ks).isEmpty = true then [((sgn s : Int), 0, h2 ks)] else keysTs ks ++ [((sgn s : Int), 1, 0)]
def keysTs : List Tr → List K3
  | [] => []
  | t :: ts => keysT t ++ keysTs ts
end
mutual
/-- cuts have two kids, rules three at most, statements are not too deep -/
def okT : Tr → Prop
  | .close => True
  | .rule _ s _ ks => dep s ≤ 4 ∧ short s ∧ ks.length ≤ 3 ∧ okTs ks
  | .cut s ks => dep s ≤ 4 ∧ short s ∧ ks.length = 2 ∧ okTs ks
def okTs : List Tr → Prop
  | [] => True
  | t :: ts => okT t ∧ okTs ts
end
theorem okTs_mem {t : Tr} : ∀ {ts : List Tr}, okTs ts → t ∈ ts → okT t
  | u :: ts, h, m => by
    have h : okT u ∧ okTs ts := h
    rcases List.mem_cons.mp m with rfl | m
    · exact h.1
    · exact okTs_mem h.2 m
theorem okT_kids : ∀ {t : Tr}, okT t → okTs (kidsT t) ∧ (kidsT t).length ≤ 3
  | .close, _ => ⟨trivial, Nat.zero_le _⟩
  | .rule _ _ _ ks, h => by
    have h : _ ∧ _ ∧ ks.length ≤ 3 ∧ okTs ks := h
    exact ⟨h.2.2.2, h.2.2.1⟩
  | .cut _ ks, h => by
    have h : _ ∧ _ ∧ ks.length = 2 ∧ okTs ks := h
    exact ⟨h.2.2.2, by show ks.length ≤ 3; omega⟩
end ST

/-! Constants of the module. -/
namespace DL
open PySem PySem.Spec L2
variable [Tbs]
/-- the module's name x holds the data d -/
def GC (K : PySem.W.Frag) (mg : Str → Option Value) (x : Str) (d : D) : Prop := ∃ v u, mg x = some u ∧ RelV v u ∧ ∀ H, Rp K H v d
theorem GC.dp {X : Cx} {x : Str} {d : D} {pos : Pos} (c : GC X.K X.mg x d) (hg : Gl X x) (hd : (x == ("__debug__" : Str)) = false := by decide) : DP X (.Name x pos) (eC d) [] := by
  obtain ⟨v, u, h1, h2, h3⟩ := c
  exact dp_glob hg h1 h2 h3 hd
theorem gc_str {K : PySem.W.Frag} {h : Heap} {mg : Str → Option Value} {x z : Str} {t : Tok} (X : K.In h) (G : h.Ns mainGlobals mg) (e : PySem.W.nsIn K mainGlobals x = some (some (.str z t))) : GC K mg x (.str z) :=
  ⟨.str z, .str z t, PySem.W.mg_of X G e, ⟨t, rfl⟩, fun _ => .str z⟩
theorem gc_int {K : PySem.W.Frag} {h : Heap} {mg : Str → Option Value} {x : Str} {z : Int} {t : Tok} (X : K.In h) (G : h.Ns mainGlobals mg) (e : PySem.W.nsIn K mainGlobals x = some (some (.int z t))) : GC K mg x (.int z) :=
  ⟨.int z, .int z t, PySem.W.mg_of X G e, ⟨t, rfl⟩, fun _ => .int z⟩
end DL

/-! Walk rules and facts of sorted sets. -/
namespace DL
open PySem L2
section
variable {ρ : Rho} {f g : Ex}
theorem w_nE {k : D → Option (List D)} {Q : List D → Prop} (q : Wp (f ρ) fun x => Wp (k x) Q) : Wp (nE k f ρ) Q := w_bind q
theorem w_nE2 {k : D → D → Option (List D)} {Q : List D → Prop} (q : Wp (f ρ) fun x => Wp (g ρ) fun y => Wp (k x y) Q) : Wp (nE2 k f g ρ) Q := w_bind (q.mono fun _ z => w_bind z)
end
theorem w_srt {d : D} {ds : List D} {tx : Bool} {Q : List D → Prop} (e : seqD d = some ds) (h : setOk tx ds = true) (h2 : rowOk (ddp ds) = true) (q : Q (srtD ds)) : Wp (dSrtSet d) Q := by
  refine ⟨_, ?_, q⟩
  unfold dSrtSet
  rw [e, Option.bind_some]
  refine if_pos ?_
  cases tx <;> rw [h, h2] <;> simp
theorem w_srtor {x y : D} {ds es : List D} {Q : List D → Prop} (e1 : seqD x = some ds) (e2 : seqD y = some es) (h1 : setOk false ds = true) (h2 : setOk false es = true) (h3 : (ddp ds).length + (ddp es).length < 200) (h4 : rowOk (ddp (ds ++ es)) = true) (q : Q (srtD (ds ++ es))) : Wp (dSrtOr x y) Q := by
  refine ⟨_, ?_, q⟩
  unfold dSrtOr
  rw [e1, Option.bind_some, e2, Option.bind_some]
  refine if_pos ?_
  rw [h1, h2, h4, decide_eq_true h3]
  rfl
/-- keys of one kind that < tells apart -/
structure Cmp (P : D → Prop) : Prop where
  ok : ∀ d, P d → nkOk d = true
  cm : ∀ a b, P a → P b → cmb (nk a) (nk b) = true
  d8 : ∀ d, P d → (nk d).depth ≤ 8
  kd : ∃ c, c ≤ 4 ∧ ∀ d, P d → kd (nk d) = c
  tx : ∃ t, ∀ d, P d → oneK t d = true
theorem nkOks_of {ds : List D} (h : ∀ d ∈ ds, nkOk d = true) : nkOks ds = true := by rw [nkOks_all, List.all_eq_true]; exact h
theorem Cmp.row {P : D → Prop} (C : Cmp P) {ds : List D} (h : ∀ d ∈ ds, P d) (hl : ds.length ≤ 16777216) : rowOk ds = true := by
  obtain ⟨c, c4, ck⟩ := C.kd
  unfold rowOk
  rw [nks_map]
  simp only [Bool.and_eq_true, List.all_eq_true, decide_eq_true_eq, beq_iff_eq]
  refine ⟨⟨⟨⟨nkOks_of fun d m => C.ok d (h d m), ?_⟩, ?_⟩, ?_⟩, hl⟩
  · intro a ha b hb
    obtain ⟨x, hx, rfl⟩ := List.mem_map.mp ha
    obtain ⟨y, hy, rfl⟩ := List.mem_map.mp hb
    exact C.cm x y (h x hx) (h y hy)
  · intro a ha
    obtain ⟨x, hx, rfl⟩ := List.mem_map.mp ha
    refine ⟨by rw [ck x (h x hx)]; exact c4, fun b hb => ?_⟩
    obtain ⟨y, hy, rfl⟩ := List.mem_map.mp hb
    rw [ck x (h x hx), ck y (h y hy)]
  · intro a ha
    obtain ⟨x, hx, rfl⟩ := List.mem_map.mp ha
    have := C.d8 x (h x hx)
    omega
theorem Cmp.set {P : D → Prop} (C : Cmp P) {ds : List D} (h : ∀ d ∈ ds, P d) (hl : (ddp ds).length < 200) : ∃ t, setOk t ds = true := by
  obtain ⟨t, ht⟩ := C.tx
  refine ⟨t, ?_⟩
  unfold setOk
  simp only [Bool.and_eq_true, List.all_eq_true, decide_eq_true_eq]
  exact ⟨⟨nkOks_of fun d m => C.ok d (h d m), fun d m => ⟨C.d8 d (h d m), ht d (h d m)⟩⟩, hl⟩
theorem ddp_dom {ds dom : List D} (h : ∀ d ∈ ds, d ∈ dom) : (ddp ds).length ≤ dom.length :=
  (nodup_of_map (ddp_nodup ds)).length_le_of_subset fun d m => h d (ddp_sub m)
theorem ddp_len (ds : List D) : (ddp ds).length ≤ ds.length := ddp_dom fun _ m => m
theorem w_srtC {P : D → Prop} (C : Cmp P) {d : D} {ds dom : List D} {Q : List D → Prop} (e : seqD d = some ds) (h : ∀ d ∈ ds, P d) (hd : ∀ d ∈ ds, d ∈ dom) (hl : dom.length < 200) (q : Q (srtD ds)) : Wp (dSrtSet d) Q := by
  have z := ddp_dom hd
  obtain ⟨t, ht⟩ := C.set h (by omega)
  exact w_srt e ht (C.row (fun d m => h d (ddp_sub m)) (by omega)) q
/-- sorted: strictly rising, the same members -/
theorem lt_of_le {a b : D} (ha : nkOk a = true) (hb : nkOk b = true) (hc : cmb (nk a) (nk b) = true) (hne : a ≠ b) (h : leD false a b = true) : ltN (nk a) (nk b) = true := by
  cases e : ltN (nk a) (nk b) with
  | true => rfl
  | false => exact absurd (DL.lef_anti ha hb hc h (leD_false.mpr e)) hne
theorem Cmp.strict {P : D → Prop} (C : Cmp P) {ds : List D} (h : ∀ d ∈ ds, P d) : (srtD ds).Pairwise fun a b => ltN (nk a) (nk b) = true := by
  have hk : nkOks ds = true := nkOks_of fun d m => C.ok d (h d m)
  have nd : (srtD ds).Nodup := (List.mergeSort_perm _ _).nodup_iff.mpr (nodup_of_map (ddp_nodup ds))
  have hP : ∀ d ∈ srtD ds, P d := fun d m => h d ((srtD_mem hk).mp m)
  refine List.Pairwise.imp_of_mem (fun {a b} ma mb hab => ?_) ((srtD_sorted ds).and nd)
  exact lt_of_le (C.ok a (hP a ma)) (C.ok b (hP b mb)) (C.cm a b (hP a ma) (hP b mb)) hab.2 hab.1
theorem Cmp.mem {P : D → Prop} (C : Cmp P) {ds : List D} (h : ∀ d ∈ ds, P d) {d : D} : d ∈ srtD ds ↔ d ∈ ds := srtD_mem (nkOks_of fun d m => C.ok d (h d m))
theorem srtD_len (ds : List D) : (srtD ds).length ≤ ds.length := by
  unfold srtD
  rw [List.length_mergeSort]
  exact ddp_len ds
theorem srtD_dom {ds dom : List D} (h : ∀ d ∈ ds, d ∈ dom) : (srtD ds).length ≤ dom.length := by
  unfold srtD
  rw [List.length_mergeSort]
  exact ddp_dom h
/-- two rising lists of the same are the same -/
theorem Cmp.ext {P : D → Prop} (C : Cmp P) {as bs : List D} (ha : ∀ d ∈ as, P d) (h1 : as.Pairwise fun a b => ltN (nk a) (nk b) = true) (h2 : bs.Pairwise fun a b => ltN (nk a) (nk b) = true) (hm : ∀ d, d ∈ as ↔ d ∈ bs) : as = bs := by
  have hb : ∀ d ∈ bs, P d := fun d m => ha d ((hm d).mpr m)
  have irr : ∀ d : D, ltN (nk d) (nk d) = false := fun d => PyProof.Rows.lex_irrefl (O := PyProof.Rows.itemOrd) _
  have nd : ∀ l : List D, (l.Pairwise fun a b => ltN (nk a) (nk b) = true) → l.Nodup := fun l h => h.imp fun {a b} z e => by
    subst e
    rw [irr] at z
    cases z
  have pm : as.Perm bs := (List.perm_ext_iff_of_nodup (nd _ h1) (nd _ h2)).mpr hm
  refine List.Perm.eq_of_pairwise (le := fun a b => leD false a b = true) (fun a b ma mb x y => DL.lef_anti (C.ok a (ha a ma)) (C.ok b (hb b mb)) (C.cm a b (ha a ma) (hb b mb)) x y) ?_ ?_ pm
  · exact h1.imp fun {a b} z => by
      have t := DL.lef_total a b
      rw [Bool.or_eq_true] at t
      rcases t with t | t
      · exact t
      · rw [leD_false] at t
        rw [z] at t
        cases t
  · exact h2.imp fun {a b} z => by
      have t := DL.lef_total a b
      rw [Bool.or_eq_true] at t
      rcases t with t | t
      · exact t
      · rw [leD_false] at t
        rw [z] at t
        cases t
theorem Cmp.srt_ext {P : D → Prop} (C : Cmp P) {as bs : List D} (ha : ∀ d ∈ as, P d) (hm : ∀ d, d ∈ as ↔ d ∈ bs) : srtD as = srtD bs := by
  have hb : ∀ d ∈ bs, P d := fun d m => ha d ((hm d).mpr m)
  exact C.ext (fun d m => ha d ((C.mem ha).mp m)) (C.strict ha) (C.strict hb) fun d => (C.mem ha).trans ((hm d).trans (C.mem hb).symm)
/-- texts -/
theorem cmp_str : Cmp fun d => ∃ x, d = .str x where
  ok := fun d ⟨x, e⟩ => by subst e; rfl
  cm := fun a b ⟨x, e⟩ ⟨y, e'⟩ => by subst e e'; simp [nk, cmb]
  d8 := fun d ⟨x, e⟩ => by subst e; simp [nk, NestedKey.depth]
  kd := ⟨1, by decide, fun d ⟨x, e⟩ => by subst e; simp [nk, DL.kd]⟩
  tx := ⟨true, fun d ⟨x, e⟩ => by subst e; rfl⟩
/-! ### == -/
mutual
theorem deq_self : ∀ {d : D}, pl d = true → deq d d = true
  | .non, _ => by simp [deq]
  | .bl _, _ => by simp [deq]
  | .int _, _ => by simp [deq]
  | .str _, _ => by simp [deq]
  | .tup xs, h => by
    simp only [pl] at h
    simp only [deq]
    exact deqs_self h
  | .lst xs, h => by
    simp only [pl] at h
    simp only [deq]
    exact deqs_self h
  | .scr _, h => by simp [pl] at h
  | .dct _, h => by simp [pl] at h
  | .fn _ _, h => by simp [pl] at h
theorem deqs_self : ∀ {ds : List D}, pls ds = true → deqs ds ds = true
  | [], _ => by simp [deqs]
  | d :: ds, h => by
    simp only [pls, Bool.and_eq_true] at h
    simp only [deqs, deq_self h.1, deqs_self h.2, Bool.and_self]
end
mutual
theorem nk_pl : ∀ {d : D}, nkOk d = true → pl d = true
  | .int _, _ => rfl
  | .str _, _ => rfl
  | .tup xs, h => by
    simp only [nkOk] at h
    simp only [pl]
    exact nks_pl h
  | .non, h => by simp [nkOk] at h
  | .bl _, h => by simp [nkOk] at h
  | .lst _, h => by simp [nkOk] at h
  | .scr _, h => by simp [nkOk] at h
  | .dct _, h => by simp [nkOk] at h
  | .fn _ _, h => by simp [nkOk] at h
theorem nks_pl : ∀ {ds : List D}, nkOks ds = true → pls ds = true
  | [], _ => rfl
  | d :: ds, h => by
    simp only [nkOks, Bool.and_eq_true] at h
    simp only [pls, nk_pl h.1, nks_pl h.2, Bool.and_self]
end
mutual
/-- == of keys is that they are the same -/
theorem deq_nk : ∀ {x y : D}, nkOk x = true → nkOk y = true → deq x y = true → x = y
  | .int a, .int b, _, _, h => by simp [deq] at h; rw [h]
  | .str a, .str b, _, _, h => by simp [deq] at h; rw [h]
  | .tup xs, .tup ys, hx, hy, h => by
    simp only [nkOk] at hx hy
    simp only [deq] at h
    rw [deqs_nk hx hy h]
  | .int _, .str _, _, _, h => by simp [deq] at h
  | .int _, .tup _, _, _, h => by simp [deq] at h
  | .str _, .int _, _, _, h => by simp [deq] at h
  | .str _, .tup _, _, _, h => by simp [deq] at h
  | .tup _, .int _, _, _, h => by simp [deq] at h
  | .tup _, .str _, _, _, h => by simp [deq] at h
  | .non, _, h, _, _ => by simp [nkOk] at h
  | .bl _, _, h, _, _ => by simp [nkOk] at h
  | .lst _, _, h, _, _ => by simp [nkOk] at h
  | .scr _, _, h, _, _ => by simp [nkOk] at h
  | .dct _, _, h, _, _ => by simp [nkOk] at h
  | .fn _ _, _, h, _, _ => by simp [nkOk] at h
  | _, .non, _, h, _ => by simp [nkOk] at h
  | _, .bl _, _, h, _ => by simp [nkOk] at h
  | _, .lst _, _, h, _ => by simp [nkOk] at h
  | _, .scr _, _, h, _ => by simp [nkOk] at h
  | _, .dct _, _, h, _ => by simp [nkOk] at h
  | _, .fn _ _, _, h, _ => by simp [nkOk] at h
theorem deqs_nk : ∀ {xs ys : List D}, nkOks xs = true → nkOks ys = true → deqs xs ys = true → xs = ys
  | [], [], _, _, _ => rfl
  | [], _ :: _, _, _, h => by simp [deqs] at h
  | _ :: _, [], _, _, h => by simp [deqs] at h
  | x :: xs, y :: ys, hx, hy, h => by
    simp only [nkOks, Bool.and_eq_true] at hx hy
    simp only [deqs, Bool.and_eq_true] at h
    rw [deq_nk hx.1 hy.1 h.1, deqs_nk hx.2 hy.2 h.2]
end
theorem deq_iff {x y : D} (hx : nkOk x = true) (hy : nkOk y = true) : deq x y = true ↔ x = y := ⟨deq_nk hx hy, fun e => by subst e; exact deq_self (nk_pl hx)⟩
mutual
theorem dpt_nk : ∀ {d : D}, nkOk d = true → dpt d = (nk d).depth
  | .int _, _ => by simp [dpt, nk, NestedKey.depth]
  | .str _, _ => by simp [dpt, nk, NestedKey.depth]
  | .tup xs, h => by
    simp only [nkOk] at h
    simp only [dpt, nk, NestedKey.depth, dpts_nk h]
  | .non, h => by simp [nkOk] at h
  | .bl _, h => by simp [nkOk] at h
  | .lst _, h => by simp [nkOk] at h
  | .scr _, h => by simp [nkOk] at h
  | .dct _, h => by simp [nkOk] at h
  | .fn _ _, h => by simp [nkOk] at h
theorem dpts_nk : ∀ {ds : List D}, nkOks ds = true → dpts ds = NestedKey.depthAll (nks ds)
  | [], _ => by simp [dpts, nks, NestedKey.depthAll]
  | d :: ds, h => by
    simp only [nkOks, Bool.and_eq_true] at h
    simp only [dpts, nks, NestedKey.depthAll, dpt_nk h.1, dpts_nk h.2]
end
/-- x in ys, of keys -/
theorem in_keys {x : D} {ys : List D} (hx : nkOk x = true) (hd : dpt x ≤ 60) (hy : ∀ y ∈ ys, nkOk y = true) : ∃ b, dInB x ys = some b ∧ (b = true ↔ x ∈ ys) := by
  refine ⟨_, in_flat ?_, ?_⟩
  · rw [nk_pl hx, nks_pl (nkOks_of hy)]
    simp only [Bool.and_self, Bool.true_and, decide_eq_true_eq]
    omega
  · rw [List.any_eq_true]
    constructor
    · rintro ⟨y, m, e⟩
      rw [← deq_nk (hy y m) hx e]
      exact m
    · intro m
      exact ⟨x, m, deq_self (nk_pl hx)⟩
theorem w_inL {x : D} {ys : List D} {Q : D → Prop} (hx : nkOk x = true) (hd : dpt x ≤ 60) (hy : ∀ y ∈ ys, nkOk y = true) (q : ∀ b, (b = true ↔ x ∈ ys) → Q (.bl b)) : Wp (dIn x (.lst ys)) Q := by
  obtain ⟨b, e, h⟩ := in_keys hx hd hy
  exact w_in e (q b h)
theorem w_inT {x : D} {ys : List D} {Q : D → Prop} (hx : nkOk x = true) (hd : dpt x ≤ 60) (hy : ∀ y ∈ ys, nkOk y = true) (q : ∀ b, (b = true ↔ x ∈ ys) → Q (.bl b)) : Wp (dIn x (.tup ys)) Q := by
  obtain ⟨b, e, h⟩ := in_keys hx hd hy
  exact w_in e (q b h)
theorem w_niL {x : D} {ys : List D} {Q : D → Prop} (hx : nkOk x = true) (hd : dpt x ≤ 60) (hy : ∀ y ∈ ys, nkOk y = true) (q : ∀ b, (b = true ↔ x ∈ ys) → Q (.bl (!b))) : Wp (dNotIn x (.lst ys)) Q := by
  obtain ⟨b, e, h⟩ := in_keys hx hd hy
  exact w_notIn e (q b h)
theorem w_niT {x : D} {ys : List D} {Q : D → Prop} (hx : nkOk x = true) (hd : dpt x ≤ 60) (hy : ∀ y ∈ ys, nkOk y = true) (q : ∀ b, (b = true ↔ x ∈ ys) → Q (.bl (!b))) : Wp (dNotIn x (.tup ys)) Q := by
  obtain ⟨b, e, h⟩ := in_keys hx hd hy
  exact w_notIn e (q b h)
theorem eqG_nk {x y : D} (hx : nkOk x = true) (hy : nkOk y = true) (hd : min (dpt x) (dpt y) ≤ 60) : dEqG x y = some (deq x y) := by
  unfold dEqG
  rw [nk_pl hx, nk_pl hy]
  have hd' : min (dpt x) (dpt y) ≤ 160 := by omega
  simp [hd']
theorem eqB_nk {x y : D} (hx : nkOk x = true) (hy : nkOk y = true) (hd : min (dpt x) (dpt y) ≤ 60) : dEqB x y = some (deq x y) := by
  unfold dEqB
  split
  · simp [nkOk] at hx
  · exact eqG_nk hx hy hd
theorem w_eqK {x y : D} {Q : D → Prop} (hx : nkOk x = true) (hy : nkOk y = true) (hd : min (dpt x) (dpt y) ≤ 60) (q : ∀ b, (b = true ↔ x = y) → Q (.bl b)) : Wp (dEq x y) Q := w_eq (eqB_nk hx hy hd) (q _ (deq_iff hx hy))
theorem w_neK {x y : D} {Q : D → Prop} (hx : nkOk x = true) (hy : nkOk y = true) (hd : min (dpt x) (dpt y) ≤ 60) (q : ∀ b, (b = true ↔ x = y) → Q (.bl (!b))) : Wp (dNe x y) Q := w_ne (eqB_nk hx hy hd) (q _ (deq_iff hx hy))
/-! ### statements as keys -/
end DL
namespace ST
open PySem L2 DL
theorem nkOks_strs : ∀ ts : List Str, nkOks (ts.map D.str) = true
  | [] => rfl
  | t :: r => by rw [List.map_cons, nkOks, nkOks_strs r]; rfl
theorem nkOk_enc : ∀ a : Stm, nkOk (enc a) = true
  | .yn b => by simp [enc, nkOk, nkOks]
  | .word w ts => by simp [enc, nkOk, nkOks, nkOks_strs]
  | .un k a => by simp [enc, nkOk, nkOks, nkOk_enc a]
  | .bin k a b => by simp [enc, nkOk, nkOks, nkOk_enc a, nkOk_enc b]
theorem depthAll_strs : ∀ ts : List Str, NestedKey.depthAll (nks (ts.map D.str)) = 0
  | [] => rfl
  | t :: r => by simp [nks, nk, NestedKey.depthAll, NestedKey.depth, depthAll_strs r]
theorem depth_enc : ∀ a : Stm, (nk (enc a)).depth ≤ dep a + 2
  | .yn b => by simp [enc, nk, nks, NestedKey.depth, NestedKey.depthAll, dep]
  | .word w ts => by simp [enc, nk, nks, NestedKey.depth, NestedKey.depthAll, dep, depthAll_strs]
  | .un k a => by
    have := depth_enc a
    simp [enc, nk, nks, NestedKey.depth, NestedKey.depthAll, dep]
    omega
  | .bin k a b => by
    have := depth_enc a
    have := depth_enc b
    simp [enc, nk, nks, NestedKey.depth, NestedKey.depthAll, dep]
    omega
theorem cmbA_strs : ∀ xs ys : List Str, cmbA (nks (xs.map D.str)) (nks (ys.map D.str)) = true
  | [], _ => by simp [nks, cmbA]
  | _ :: _, [] => by simp [nks, cmbA]
  | x :: xs, y :: ys => by
    simp only [List.map_cons, nks, nk, cmbA, cmb]
    rw [cmbA_strs xs ys]
    simp
/-- two rows that begin with texts: they part there, or the rest is told -/
theorem cmbA_head {x y : Str} {xs ys : List NestedKey} (h : x = y → cmbA xs ys = true) : cmbA (.text x :: xs) (.text y :: ys) = true := by
  rw [cmbA]
  split
  · rename_i e
    have : x = y := by
      have := NestedKey.eq_of_beq _ _ e
      simpa using this
    exact h this
  · rfl
theorem cmbA_tup {x y : List NestedKey} {xs ys : List NestedKey} (h1 : cmb (.tup x) (.tup y) = true) (h2 : cmbA xs ys = true) : cmbA (.tup x :: xs) (.tup y :: ys) = true := by
  rw [cmbA]
  split
  · exact h2
  · exact h1
theorem cmbA_any {x y : NestedKey} {xs ys : List NestedKey} (h1 : cmb x y = true) (h2 : cmbA xs ys = true) : cmbA (x :: xs) (y :: ys) = true := by
  rw [cmbA]
  split
  · exact h2
  · exact h1
theorem nm_unb (k : U) (j : B2) : k.nm ≠ j.nm := by cases k <;> cases j <;> decide +kernel
theorem nm_uyn (k : U) (b : Bool) : k.nm ≠ ynm b := by cases k <;> cases b <;> decide +kernel
theorem nm_byn (k : B2) (b : Bool) : k.nm ≠ ynm b := by cases k <;> cases b <;> decide +kernel
theorem nm_uw (k : U) : k.nm ≠ "word" := by cases k <;> decide +kernel
theorem nm_bw (k : B2) : k.nm ≠ "word" := by cases k <;> decide +kernel
theorem nm_yw (b : Bool) : ynm b ≠ "word" := by cases b <;> decide +kernel
theorem cmb_enc : ∀ a b : Stm, cmb (nk (enc a)) (nk (enc b)) = true
  | .yn x, .yn y => by simp only [enc, nk, nks, cmb]; exact cmbA_head fun _ => by simp [cmbA]
  | .yn x, .word _ _ => by simp only [enc, nk, nks, cmb]; exact cmbA_head fun e => absurd e (nm_yw x)
  | .yn x, .un k _ => by simp only [enc, nk, nks, cmb]; exact cmbA_head fun e => absurd e.symm (nm_uyn k x)
  | .yn x, .bin k _ _ => by simp only [enc, nk, nks, cmb]; exact cmbA_head fun e => absurd e.symm (nm_byn k x)
  | .word _ _, .yn x => by simp only [enc, nk, nks, cmb]; exact cmbA_head fun e => absurd e.symm (nm_yw x)
  | .word w ts, .word v us => by
    simp only [enc, nk, nks, cmb]
    exact cmbA_head fun _ => cmbA_head fun _ => cmbA_tup (by rw [cmb]; exact cmbA_strs ts us) (by simp [cmbA])
  | .word _ _, .un k _ => by simp only [enc, nk, nks, cmb]; exact cmbA_head fun e => absurd e.symm (nm_uw k)
  | .word _ _, .bin k _ _ => by simp only [enc, nk, nks, cmb]; exact cmbA_head fun e => absurd e.symm (nm_bw k)
  | .un k _, .yn x => by simp only [enc, nk, nks, cmb]; exact cmbA_head fun e => absurd e (nm_uyn k x)
  | .un k _, .word _ _ => by simp only [enc, nk, nks, cmb]; exact cmbA_head fun e => absurd e (nm_uw k)
  | .un k a, .un j b => by
    have ih := cmb_enc a b
    simp only [enc, nk, nks, cmb]
    exact cmbA_head fun _ => cmbA_any ih (by simp [cmbA])
  | .un k _, .bin j _ _ => by simp only [enc, nk, nks, cmb]; exact cmbA_head fun e => absurd e (nm_unb k j)
  | .bin k _ _, .yn x => by simp only [enc, nk, nks, cmb]; exact cmbA_head fun e => absurd e (nm_byn k x)
  | .bin k _ _, .word _ _ => by simp only [enc, nk, nks, cmb]; exact cmbA_head fun e => absurd e (nm_bw k)
  | .bin j _ _, .un k _ => by simp only [enc, nk, nks, cmb]; exact cmbA_head fun e => absurd e.symm (nm_unb k j)
  | .bin k a b, .bin j c d => by
    have ih := cmb_enc a c
    have ih2 := cmb_enc b d
    simp only [enc, nk, nks, cmb]
    exact cmbA_head fun _ => cmbA_any ih (cmbA_any ih2 (by simp [cmbA]))
end ST

/-! The data layer: dict(d), walks over d.items(), == of data with dicts. -/
namespace DL
open PySem PySem.Spec L2
section
variable [Tbs]
variable {X : Cx} {a b c : Expr} {es : List Expr} {f g h : Ex} {fs : Exs} {al bl cl : List Nat} {pos p : Pos}
theorem Post.dct {K : PySem.W.Frag} {ρ : Rho} {σ : L2.St} {W H : Hp} {Q : VK} {ds : List (Key × D)} (q : Post K ρ σ al W H (.dct ds) Q) (s : Same W (tb H)) {vs : List (Key × V)} (h : RpKv K (vw ρ σ al W (tb H)) vs ds) {p : Addr} (n : H p = none) : Q (.ref p) (upd H p (.dK vs)) := by
  have st := upd_step s n (nt_dK (xs := vs))
  exact q _ _ _ st (.dct (.inl (vw_of p upd_same)) (rpKv_mono (vw_step st.toPStep) h))
/-- dict(d) -/
def dDict : List D → Option D
  | [.dct kvs] => some (.dct kvs)
  | _ => none
theorem dp_dictc (hg : Gl X "dict") (hm : X.mg "dict" = none) (ha : DA X (a :: es) fs al) (he : starEach (a :: es) X.env = (false, eval a X.env) :: starEach es X.env := by rfl) (hpl : (backTo pos (starEach es X.env)).any (·.1) = false := by rfl) :
    DP X (.Call (.Name "dict" p) (a :: es) [] pos) (eA dDict fs) al := by
  refine cb (pe_callTy call_dictD hg hm boot_dict' ha (he := he) (hpl := hpl)) fun ρ σ O W H vs ds d Q r e p q => ?_
  unfold dDict at e
  split at e
  · cases e
    obtain ⟨v, rfl, p1⟩ := rpAll1 p
    cases p1 with
    | dct h ra => exact ⟨_, _, rfl, rd_mono (vw_subT r.sub) h, fun p n => q.dct r.sub ra n⟩
  · cases e
/-! ### a dict that is read alone for a while -/
section
variable {K : PySem.W.Frag} {W : Hp} {d : Addr} {od : Obj} {xs : List (Key × V)}
theorem lock_ne {o : HO} {b : Addr} (hd : W d = some (.dK xs)) (e : W b = some o) (n : ∀ ys, o ≠ .dK ys) : upd W d (.frz od (.dK xs)) b = some o := by
  rw [upd_ne]
  · exact e
  · intro z
    subst z
    rw [hd] at e
    exact n xs (Option.some.inj e).symm
theorem unlock_ne {o : HO} {b : Addr} (hd : W d = some (.frz od (.dK xs))) (e : W b = some o) (n : ∀ oo ys, o ≠ .frz oo (.dK ys)) : upd W d (.dK xs) b = some o := by
  rw [upd_ne]
  · exact e
  · intro z
    subst z
    rw [hd] at e
    exact n od xs (Option.some.inj e).symm
mutual
theorem rp_lock (hd : W d = some (.dK xs)) : ∀ {v : V} {x : D}, Rp K W v x → Rp K (upd W d (.frz od (.dK xs))) v x
  | _, _, .non => .non
  | _, _, .bl b => .bl b
  | _, _, .int i => .int i
  | _, _, .str x => .str x
  | _, _, .tup h a => .tup (by
      rcases h with (h | ⟨o, h⟩) | h
      · exact .inl (.inl (lock_ne hd h fun _ z => nomatch z))
      · exact .inl (.inr ⟨o, lock_ne hd h fun _ z => nomatch z⟩)
      · exact .inr h) (rpAll_lock hd a)
  | _, _, .lst h a => .lst (lock_ne hd h fun _ z => nomatch z) (rpAll_lock hd a)
  | _, _, .scr h => .scr (by
      rcases h with ⟨o, h⟩ | h
      · exact .inl ⟨o, lock_ne hd h fun _ z => nomatch z⟩
      · exact .inr h)
  | _, _, @Rp.dct _ _ a' ys _ h a => .dct (by
      by_cases e : a' = d
      · subst e
        rcases h with h | ⟨o, h⟩
        · rw [hd] at h
          cases h
          exact .inr ⟨od, upd_same⟩
        · rw [hd] at h
          cases h
      · rcases h with h | ⟨o, h⟩
        · exact .inl (by rw [upd_ne e]; exact h)
        · exact .inr ⟨o, by rw [upd_ne e]; exact h⟩) (rpKv_lock hd a)
  | _, _, .fn h1 h2 h3 => .fn (lock_ne hd h1 fun _ z => nomatch z) (lock_ne hd h2 fun _ z => nomatch z) (h3.mono fun b φ e => lock_ne hd e fun _ z => nomatch z)
theorem rpAll_lock (hd : W d = some (.dK xs)) : ∀ {vs : List V} {ds : List D}, RpAll K W vs ds → RpAll K (upd W d (.frz od (.dK xs))) vs ds
  | _, _, .nil => .nil
  | _, _, .cons h t => .cons (rp_lock hd h) (rpAll_lock hd t)
theorem rpKv_lock (hd : W d = some (.dK xs)) : ∀ {vs : List (Key × V)} {ds : List (Key × D)}, RpKv K W vs ds → RpKv K (upd W d (.frz od (.dK xs))) vs ds
  | _, _, .nil => .nil
  | _, _, .cons h t => .cons (rp_lock hd h) (rpKv_lock hd t)
end
mutual
theorem rp_unlock (hd : W d = some (.frz od (.dK xs))) : ∀ {v : V} {x : D}, Rp K W v x → Rp K (upd W d (.dK xs)) v x
  | _, _, .non => .non
  | _, _, .bl b => .bl b
  | _, _, .int i => .int i
  | _, _, .str x => .str x
  | _, _, .tup h a => .tup (by
      rcases h with (h | ⟨o, h⟩) | h
      · exact .inl (.inl (unlock_ne hd h fun _ _ z => nomatch z))
      · exact .inl (.inr ⟨o, unlock_ne hd h fun _ _ z => nomatch z⟩)
      · exact .inr h) (rpAll_unlock hd a)
  | _, _, .lst h a => .lst (unlock_ne hd h fun _ _ z => nomatch z) (rpAll_unlock hd a)
  | _, _, .scr h => .scr (by
      rcases h with ⟨o, h⟩ | h
      · exact .inl ⟨o, unlock_ne hd h fun _ _ z => nomatch z⟩
      · exact .inr h)
  | _, _, @Rp.dct _ _ a' ys _ h a => .dct (by
      by_cases e : a' = d
      · subst e
        rcases h with h | ⟨o, h⟩
        · rw [hd] at h
          cases h
        · rw [hd] at h
          cases h
          exact .inl upd_same
      · rcases h with h | ⟨o, h⟩
        · exact .inl (by rw [upd_ne e]; exact h)
        · exact .inr ⟨o, by rw [upd_ne e]; exact h⟩) (rpKv_unlock hd a)
  | _, _, .fn h1 h2 h3 => .fn (unlock_ne hd h1 fun _ _ z => nomatch z) (unlock_ne hd h2 fun _ _ z => nomatch z) (h3.mono fun b φ e => unlock_ne hd e fun _ _ z => nomatch z)
theorem rpAll_unlock (hd : W d = some (.frz od (.dK xs))) : ∀ {vs : List V} {ds : List D}, RpAll K W vs ds → RpAll K (upd W d (.dK xs)) vs ds
  | _, _, .nil => .nil
  | _, _, .cons h t => .cons (rp_unlock hd h) (rpAll_unlock hd t)
theorem rpKv_unlock (hd : W d = some (.frz od (.dK xs))) : ∀ {vs : List (Key × V)} {ds : List (Key × D)}, RpKv K W vs ds → RpKv K (upd W d (.dK xs)) vs ds
  | _, _, .nil => .nil
  | _, _, .cons h t => .cons (rp_unlock hd h) (rpKv_unlock hd t)
end
theorem hoR_lock (hd : W d = some (.dK xs)) {o : HO} {x : D} (h : HoR K W o x) : HoR K (upd W d (.frz od (.dK xs))) o x := by
  cases h with
  | lst h => exact .lst (rpAll_lock hd h)
  | dK h => exact .dK (rpKv_lock hd h)
theorem hoR_unlock (hd : W d = some (.frz od (.dK xs))) {o : HO} {x : D} (h : HoR K W o x) : HoR K (upd W d (.dK xs)) o x := by
  cases h with
  | lst h => exact .lst (rpAll_unlock hd h)
  | dK h => exact .dK (rpKv_unlock hd h)
/-- another object in the place of one that is seen -/
theorem NS.swap {ρ : Rho} {σ : L2.St} {O : Addr → Bool} {H : Hp} {u o : HO} (n : NS K ρ σ O W H) (hd : W d = some o) (hr : ∀ {v : V} {x : D}, Rp K W v x → Rp K (upd W d u) v x) (hh : ∀ {o : HO} {x : D}, HoR K W o x → HoR K (upd W d u) o x) : NS K ρ σ O (upd W d u) (upd H d u) := by
  refine ⟨fun i xss e => ?_, n.one, fun i kvs e => ?_, n.oneK⟩
  rotate_left
  · obtain ⟨a, es, m⟩ := n.hasK i kvs e
    have ne : a ≠ d := fun z => by
      have := m.hid.2
      rw [z, hd] at this
      cases this
    refine ⟨a, es, m.slot, by rw [upd_ne ne]; exact m.at0, ⟨m.hid.1, by rw [upd_ne ne]; exact m.hid.2⟩, L2.Paired.mapP m.ents fun p e h => ⟨h.1, h.2.1, hr h.2.2.1, hr h.2.2.2⟩, m.apart⟩
  obtain ⟨a, bs, m⟩ := n.has i xss e
  have ne : ∀ b ∈ a :: bs, b ≠ d := fun b hb z => by
    have := (m.hid b hb).2.1
    rw [z, hd] at this
    cases this
  refine ⟨a, bs, m.slot, by rw [upd_ne (ne a List.mem_cons_self)]; exact m.at0, m.nd, fun b hb => ?_, m.len, fun j b xs e1 e2 => ?_, m.apart⟩
  · rw [upd_ne (ne b hb), upd_ne (ne b hb)]
    exact m.hid b hb
  · obtain ⟨us, h1, h2⟩ := m.each j b xs e1 e2
    rw [upd_ne (ne b (List.mem_cons_of_mem _ (List.mem_of_getElem? e1)))]
    cases hh (.lst h2) with
    | lst h3 => exact ⟨us, h1, h3⟩
theorem RS.swap {ρ : Rho} {σ : L2.St} {O : Addr → Bool} {H : Hp} {u o : HO} (r : RS K ρ σ O W H) (hd : W d = some o) (hr : ∀ {v : V} {x : D}, Rp K W v x → Rp K (upd W d u) v x) (hh : ∀ {o : HO} {x : D}, HoR K W o x → HoR K (upd W d u) o x) : RS K ρ σ O (upd W d u) (upd H d u) where
  len := r.len
  sub := fun b o e => by
    by_cases hb : b = d
    · subst hb; rw [upd_same] at e ⊢; exact e
    · rw [upd_ne hb] at e ⊢; exact r.sub b o e
  hid := fun b e => by
    obtain ⟨h1, h2⟩ := r.hid b e
    have hb : b ≠ d := fun z => by subst z; rw [hd] at h1; cases h1
    rw [upd_ne hb, upd_ne hb]
    exact ⟨h1, h2⟩
  vals := fun i x e => by
    obtain ⟨v, h1, h2⟩ := r.vals i x e
    exact ⟨v, h1, hr h2⟩
  ownsG := fun i x e => by
    obtain ⟨a, o', h1, h2, h3, h4⟩ := r.ownsG i x e
    have hb : a ≠ d := fun z => by subst z; have := (r.hid a h2).1; rw [hd] at this; cases this
    exact ⟨a, o', h1, h2, by rw [upd_ne hb]; exact h3, hh h4⟩
  apart := r.apart
end
theorem tt_swap {H : Hp} {d : Addr} {o u : HO} (e : H d = some o) (n1 : NT o) (n2 : ∀ φ, o ≠ .ext φ) (t : TZ H) : TZ (upd H d u) := fun p hp => by
  obtain ⟨ps, h1, h2, h3⟩ := t p hp
  refine ⟨ps, by rw [upd_ne (fun z => by rw [z, e] at h1; exact n1 ps (Option.some.inj h1))]; exact h1, h2, fun pos cv hc => ?_⟩
  obtain ⟨c, e1, e2⟩ := h3 pos cv hc
  have ne : c ≠ d := fun z => by
    rw [z, e] at e2
    unfold LamX.CodeO at e2
    exact n2 _ (Option.some.inj e2)
  exact ⟨c, e1, by rw [upd_ne ne]; exact e2⟩
theorem nt_frz {o : Obj} {u : HO} : NT (.frz o u) := fun _ z => nomatch z
/-- a key as data -/
def keyD : Key → D
  | .inl i => .int i
  | .inr x => .str x
def kvD (kv : Key × D) : D := .tup [keyD kv.1, kv.2]
theorem rp_keyD {K : PySem.W.Frag} {W : Hp} (k : Key) : Rp K W (kV k) (keyD k) := by
  cases k with
  | inl i => exact .int i
  | inr x => exact .str x
theorem RpKv.getV {K : PySem.W.Frag} {W : Hp} : ∀ {vs : List (Key × V)} {ds : List (Key × D)} {i : Nat} {k : Key} {v : V}, RpKv K W vs ds → vs[i]? = some (k, v) → ∃ d, ds[i]? = some (k, d) ∧ Rp K W v d
  | _, _, _, _, _, .nil, e => by simp at e
  | _, _, 0, _, _, .cons h _, e => by
    simp at e
    obtain ⟨rfl, rfl⟩ := e
    exact ⟨_, rfl, h⟩
  | _, _, i + 1, k, v, .cons _ t, e => by
    obtain ⟨d, h1, h2⟩ := RpKv.getV (i := i) (k := k) (v := v) t (by simpa using e)
    exact ⟨d, by simpa using h1, h2⟩
theorem its_items {K : PySem.W.Frag} {d : Addr} {od : Obj} {vs : List (Key × V)} {ds : List (Key × D)} {U W : Hp} (hu : U d = some (.frz od (.dK vs))) (ra : RpKv K W vs ds) : Its K (Iti d od vs) (ds.map kvD) U W := by
  refine ⟨fun H' => H' d = some (.frz od (.dK vs)), fun i H x H' => ∃ T k v, vs[i]? = some (k, v) ∧ x = .ref T ∧ H T = none ∧ H' = upd H T (.tup [kV k, v]), ⟨fun i H hi hg => ⟨hg, ?_⟩, fun H hg => ⟨hg, ?_⟩, fun i H x H' hi hg y => y⟩, fun H' s => s _ _ hu, fun i H1 x H2 hi y => ?_⟩
  · rw [List.length_map] at hi
    rw [rpKv_len ra]
    exact hi
  · rw [List.length_map, rpKv_len ra]
    exact Nat.le_refl _
  · obtain ⟨T, k, v, h1, rfl, hn, rfl⟩ := y
    obtain ⟨e, g1, g2⟩ := ra.getV h1
    refine ⟨.tup [keyD k, e], by rw [List.getElem?_map, g1]; rfl, fun W1 s1 s2 => ?_⟩
    have st := upd_step s2 hn (nt_tup (vs := [kV k, v]))
    exact ⟨_, st, .tup (.inl (.inl upd_same)) (.cons (rp_keyD k) (.cons (rp_mono (s1.trans st.le) g2) .nil))⟩
theorem forS_core {J : It} {g : D → Rho → Option Rho} {ts : List Nat} {B : Sx} {ρ : Rho} {σ : L2.St} {O : Addr → Bool} {W H : Hp} {E : Ends} {out : Out} {ds : List D} (rs : RZ X.K ρ σ O W H) (its : Its X.K J ds W W) (e : forS g B ds ρ = some out) (q : SPost X.K O W H E out) :
    ∃ W' : Nat → Nat → L2.St → Hp → Prop, (∃ m, W' 0 m σ H) ∧ ∀ i m σ H, W' i m σ H →
      (J.stop i H ∧ E.nx σ H) ∨ (J.go i H ∧ ∃ N : L2.St → Hp → Prop, (∀ σ' H', N σ' H' → ∃ m', m' < m ∧ W' (i + 1) m' σ' H') ∧ ∀ x H', J.yld i H x H' → tG X.K g ts x σ H' fun σ2 H2 => tS X.K B { E with nx := N, ct := N, bk := E.nx } σ2 H2) := by
  obtain ⟨G, Y, wk, hG, hY⟩ := its
  refine for_it wk (fun i σ' H' => ∃ ρ' O' W', SZ O W H O' W' H' ∧ RZ X.K ρ' σ' O' W' H' ∧ Same W W' ∧ forS g B (ds.drop i) ρ' = some out) ⟨ρ, O, W, .refl, rs, fun _ _ e => e, e⟩ (fun i σ' H' _ ⟨ρ', O', W', a1, a2, a3, a4⟩ => hG H' (a3.trans (a2.sub.trans tb_le))) (fun i x σ' H' H'' hi ⟨ρ', O', W', a1, a2, a3, a4⟩ y => ?_) (fun σ' H' ⟨ρ', O', W', a1, a2, a3, a4⟩ => ?_)
  · obtain ⟨d, hd, hW⟩ := hY i H' x H'' hi y
    obtain ⟨W'', st, rp⟩ := hW W' a3 a2.sub
    rw [List.drop_eq_getElem_cons hi] at a4
    have hdd : ds[i] = d := by
      rw [List.getElem?_eq_getElem hi] at hd
      exact Option.some.inj hd
    rw [hdd] at a4
    obtain ⟨ρ1, b1, b2⟩ := opt_bind a4
    obtain ⟨o, b3, b4⟩ := opt_bind b2
    refine ⟨ρ', O', W'', d, ρ1, a2.pstep st, rp, b1, fun σ1 r1 _ => ⟨ρ1, O', W'', o, r1, b3, ?_⟩⟩
    have base := a1.trans (st.s (O := O'))
    cases o with
    | nx ρ2 => exact fun σ2 O3 W3 H3 s3 r3 => ⟨ρ2, O3, W3, base.trans s3, r3, (a3.trans st.le).trans s3.le, b4⟩
    | ct ρ2 => exact fun σ2 O3 W3 H3 s3 r3 => ⟨ρ2, O3, W3, base.trans s3, r3, (a3.trans st.le).trans s3.le, b4⟩
    | brk ρ2 =>
      cases b4
      exact fun σ2 O3 W3 H3 s3 r3 => q σ2 O3 W3 H3 (base.trans s3) r3
    | ret d2 =>
      cases b4
      exact fun v O3 W3 H3 s3 sb r3 => q v O3 W3 H3 (base.trans s3) sb r3
  · rw [List.drop_length] at a4
    cases a4
    exact q σ' O' W' H' a1 a2
/-- for .. in x[j].items(): .. , x a name -/
def sItems (i : Nat) (j : Nat) (g : D → Rho → Option Rho) (B : Sx) : Sx := fun ρ => match ρ[i]? with
  | some (.val (.tup ds)) => match ds[j]? with
    | some (.dct kvs) => forS g B (kvs.map kvD) ρ
    | _ => none
  | _ => none
theorem ps_orS {st : Stmt} {t t' : TS} (h : PS X st t) (h' : PS X st t') : PS X st (fun E σ H => t E σ H ∨ t' E σ H) := ⟨fun pins s σ H D I q => q.elim (h.run pins s σ H D I) (h'.run pins s σ H D I)⟩
theorem ds_items {i j : Nat} {o : Expr} {elts : List Expr} {kk : Nat} {tpos p1 p2 p3 p4 : Pos} {tk} {body : List Stmt} {g : D → Rho → Option Rho} {ts : List Nat} {B : Sx} (hp : PassesOwn (model X.prog X.w) X.A X.env X.xe) (hc : X.calm = true) (ho : PE X o (tVar i)) (hg : DG X (.Tuple elts kk tpos) g ts) (hb : DSs X body B)
    (hix : PlainIx (.Constant (.int (j : Int)) tk p1) := by exact fun _ _ => rfl)
    (hbase : attributeBase (.Subscript o (.Constant (.int (j : Int)) tk p1) p2) "items" X.env (eval (.Subscript o (.Constant (.int (j : Int)) tk p1) p2) X.env) = eval (.Subscript o (.Constant (.int (j : Int)) tk p1) p2) X.env := by rfl) (hline : (p3.endLine == p4.line) = true := by rfl)
    (hs : ∀ x, foldedSetIterable (.Call (.Attribute (.Subscript o (.Constant (.int (j : Int)) tk p1) p2) "items" p3) [] [] p4) X.env x = pure x := by intro _; rfl) :
    DS X (.For (.Tuple elts kk tpos) (.Call (.Attribute (.Subscript o (.Constant (.int (j : Int)) tk p1) p2) "items" p3) [] [] p4) body [] pos) (sItems i j g B) := by
  have base := ps_for (pos := pos) hp hc (pi_items (elts := elts) (kk := kk) (tpos := tpos) (pe_ix (pos := p2) ix_seq ho (dp_int (X := X) (i := (j : Int)) (j := tk) (pos := p1)) hix) hbase hline) hg hb hs
  have core : ∀ {ρ : Rho} {σ : L2.St} {O : Addr → Bool} {W H : Hp} {E : Ends} {out : Out} {a d : Addr} {vs : List V} {od : Obj} {kvs : List (Key × V)} {kds : List (Key × D)}, RZ X.K ρ σ O W H → σ[i]? = some (some (.ref a)) → SqT X.K W a vs → vs[j]? = some (.ref d) → W d = some (.frz od (.dK kvs)) → RpKv X.K W kvs kds → forS g B (kds.map kvD) ρ = some out → SPost X.K O W H E out →
      tFor (iItems (tOp (rIx X.K) (tVar i) (tP X.K (eC (.int (j : Int))) []))) (tG X.K g ts) (tS X.K B) E σ H := by
    intro ρ σ O W H E out a d vs od kvs kds rs e1 e2 e3 e4 e5 e6 q
    refine ⟨.ref a, e1, ρ, O, W, _, rs, rfl, fun v1 W1 H1 s1 p1 => ?_⟩
    cases p1
    refine .inr (.inl ⟨a, vs, (j : Int), .ref d, rfl, rfl, sqT_mono (s1.le.trans (s1.sub.trans tb_le)) e2, atI_nat e3, ?_⟩)
    refine ⟨d, od, kvs, rfl, tb_le _ _ (s1.sub _ _ (s1.le _ _ e4)), ?_⟩
    exact forS_core (rs.pstep s1) (its_items (s1.le _ _ e4) (rpKv_mono s1.le e5)) e6 (q.step s1.s)
  refine ps_imp (ps_orS base (ps_lock base)) fun E σ H ⟨ρ, O, W, out, rs, e, q⟩ => ?_
  unfold sItems at e
  split at e
  · rename_i ds hq
    split at e
    · rename_i kds hj
      obtain ⟨v, h1, h2⟩ := rs.vals i _ hq
      obtain ⟨a, vs, rfl, k1, k2⟩ := rp_tup h2
      obtain ⟨u, g1, g2⟩ := k2.get hj
      cases g2 with
      | @dct d kvs _ hd ra =>
        rcases hd with hd | ⟨od, hd⟩
        · refine .inr ⟨d, .dK kvs, tb_le _ _ (rs.sub _ _ hd), trivial, fun od => ?_⟩
          have hH : H d = some (.dK kvs) := tb_le _ _ (rs.sub _ _ hd)
          have rs2 : RZ X.K ρ σ O (upd W d (.frz od (.dK kvs))) (upd H d (.frz od (.dK kvs))) := ⟨by rw [tb_upd nt_frz]; exact rs.toRS.swap hd (rp_lock hd) (hoR_lock hd), tt_swap hH nt_dK (fun _ z => nomatch z) rs.tz, by rw [tb_upd nt_frz]; exact rs.ns.swap hd (rp_lock hd) (hoR_lock hd)⟩
          refine core rs2 h1 ?_ g1 upd_same (rpKv_lock hd ra) e ?_
          · rcases k1 with (h | ⟨o', h⟩) | h
            · exact .inl (.inl (lock_ne hd h fun _ z => nomatch z))
            · exact .inl (.inr ⟨o', lock_ne hd h fun _ z => nomatch z⟩)
            · exact .inr h
          · have back : ∀ {O' : Addr → Bool} {W' H' : Hp}, SZ O (upd W d (.frz od (.dK kvs))) (upd H d (.frz od (.dK kvs))) O' W' H' → Same W' (tb H') → H' d = some (.frz od (.dK kvs)) ∧ W' d = some (.frz od (.dK kvs)) ∧ SZ O W H O' (upd W' d (.dK kvs)) (upd H' d (.dK kvs)) := by
              intro O' W' H' s sb
              have w' : W' d = some (.frz od (.dK kvs)) := s.le _ _ upd_same
              have h' : H' d = some (.frz od (.dK kvs)) := tb_le _ _ (sb _ _ w')
              have od0 : O d = false := by
                cases z : O d with
                | false => rfl
                | true => have := (rs.hid d z).1; rw [hd] at this; cases this
              refine ⟨h', w', ⟨⟨fun b o e => ?_, fun b o e z => ?_, fun b o e => ?_, fun b e => ?_⟩, fun t => tt_swap h' nt_frz (fun _ z => nomatch z) (s.tabs (tt_swap hH nt_dK (fun _ z => nomatch z) t))⟩⟩
              · by_cases hb : b = d
                · subst hb; rw [hd] at e; cases e; exact upd_same
                · rw [upd_ne hb]
                  exact s.le b o (by rw [upd_ne hb]; exact e)
              · rw [tb_upd nt_dK]
                by_cases hb : b = d
                · subst hb
                  rw [tb_of hH nt_dK] at e
                  cases e
                  exact upd_same
                · rw [upd_ne hb]
                  exact s.keep b o (by rw [tb_upd nt_frz, upd_ne hb]; exact e) z
              · by_cases hb : b = d
                · subst hb
                  rw [upd_same] at e
                  cases e
                  exact .inl hd
                · rw [upd_ne hb] at e
                  rcases s.new b o e with y | y | y
                  · rw [upd_ne hb] at y; exact .inl y
                  · rw [tb_upd nt_frz, upd_ne hb] at y; exact .inr (.inl y)
                  · exact .inr (.inr y)
              · rcases s.own b e with y | y
                · exact .inl y
                · by_cases hb : b = d
                  · subst hb
                    rw [tb_upd nt_frz, upd_same] at y
                    cases y
                  · rw [tb_upd nt_frz, upd_ne hb] at y; exact .inr y
            have bk2 : ∀ {ρ' : Rho} {σ' : L2.St} {O' : Addr → Bool} {W' H' : Hp}, RZ X.K ρ' σ' O' W' H' → H' d = some (.frz od (.dK kvs)) → W' d = some (.frz od (.dK kvs)) → RZ X.K ρ' σ' O' (upd W' d (.dK kvs)) (upd H' d (.dK kvs)) := fun r h' w' => ⟨by rw [tb_upd nt_dK]; exact r.toRS.swap w' (rp_unlock w') (hoR_unlock w'), tt_swap h' nt_frz (fun _ z => nomatch z) r.tz, by rw [tb_upd nt_dK]; exact r.ns.swap w' (rp_unlock w') (hoR_unlock w')⟩
            cases out with
            | nx ρ' =>
              intro σ' O' W' H' s' r'
              obtain ⟨y1, y2, y3⟩ := back s' r'.sub
              exact ⟨y1, q σ' O' _ _ y3 (bk2 r' y1 y2)⟩
            | brk ρ' =>
              intro σ' O' W' H' s' r'
              obtain ⟨y1, y2, y3⟩ := back s' r'.sub
              exact ⟨y1, q σ' O' _ _ y3 (bk2 r' y1 y2)⟩
            | ct ρ' =>
              intro σ' O' W' H' s' r'
              obtain ⟨y1, y2, y3⟩ := back s' r'.sub
              exact ⟨y1, q σ' O' _ _ y3 (bk2 r' y1 y2)⟩
            | ret d2 =>
              intro v O' W' H' s' sb r'
              obtain ⟨y1, y2, y3⟩ := back s' sb
              refine ⟨y1, q v O' _ _ y3 ?_ (rp_unlock y2 r')⟩
              intro b o e
              rw [tb_upd nt_dK]
              by_cases hb : b = d
              · subst hb; rw [upd_same] at e ⊢; exact e
              · rw [upd_ne hb] at e ⊢; exact sb b o e
        · exact .inl (core rs h1 k1 g1 hd ra e q)
    · cases e
  · cases e
/-! ### == of data with dicts: equal ones -/
inductive EqW : Nat → D → D → Prop
  | pl {n : Nat} {x : D} : pl x = true → dpt x ≤ n → EqW n x x
  | dct {n : Nat} {a b : List (Key × D)} : a.length = b.length → (∀ k v, (k, v) ∈ a → (valD b k).isSome = true) → (∀ k v y, (k, v) ∈ a → valD b k = some y → EqW n v y) → EqW (n + 1) (.dct a) (.dct b)
  | tup {n : Nat} {xs ys : List D} : xs.length = ys.length → (∀ (j : Nat) (x y : D), xs[j]? = some x → ys[j]? = some y → EqW n x y) → EqW (n + 1) (.tup xs) (.tup ys)
theorem kv_mem {K : PySem.W.Frag} {H : Hp} : ∀ {vs : List (Key × V)} {ds : List (Key × D)} {us : List (Key × Value)} {k : Key} {u : Value}, RpKv K H vs ds → KV vs us → (k, u) ∈ us → ∃ v d, (k, d) ∈ ds ∧ RelV v u ∧ Rp K H v d
  | _, _, _, _, _, .nil, r, m => by
    cases r
    cases m
  | _, _, _, k, u, .cons h t, r, m => by
    cases r with
    | cons r1 r2 =>
      rcases List.mem_cons.mp m with z | z
      · obtain ⟨q1, q2⟩ := r1
        subst z
        refine ⟨_, _, ?_, q2, h⟩
        have e : _ = k := q1
        subst e
        exact List.mem_cons_self
      · obtain ⟨v, d, h1, h2, h3⟩ := kv_mem t r2 z
        exact ⟨v, d, List.mem_cons_of_mem _ h1, h2, h3⟩
theorem eqW_tree {pins : List (Addr × Obj)} {σ : L2.St} {H : Hp} {s : Shared} (I : Inv X pins σ H s) {n : Nat} {x y : D} (h : EqW n x y) : ∀ (v u : V) (a b : Value), Rp X.K H v x → Rp X.K H u y → RelV v a → RelV u b → PySem.W.EqTree X.prog X.w s n a b true := by
  induction h with
  | @pl n x hp hd =>
    intro v u a b p1 p2 r1 r2
    refine .leaf fun A hu => ?_
    obtain ⟨as, k1⟩ := Dp.reads I _ _ _ (rp_dp hp p1) r1
    obtain ⟨bs, k2⟩ := Dp.reads I _ _ _ (rp_dp hp p2) r2
    have z := SeqAt.eqAt_plain (py x) (py x) A s a b as bs k1 k2 (py_plain x) (py_plain x) (by rw [py_depth]; omega)
    rw [py_eqv hp hp, deq_self hp] at z
    exact z
  | @dct n da db hl hs hv ih =>
    intro v u a b p1 p2 r1 r2
    cases p1 with
    | @dct a1 xs _ h1 k1 =>
      cases p2 with
      | @dct a2 ys _ h2 k2 =>
        cases r1; cases r2
        by_cases e : a1 = a2
        · subst e; exact .same
        · obtain ⟨_, z1, us, e1, d1⟩ := dk_rd I.hok h1
          obtain ⟨_, z2, ws, e2, d2⟩ := dk_rd I.hok h2
          have lu : us.length = ws.length := by rw [← e1.length, ← e2.length, rpKv_len k1, rpKv_len k2]; exact hl
          have at2 : ∀ (k : Key) (y' : Value), valueAt ws k = some y' → ∃ v' d', valD db k = some d' ∧ RelV v' y' ∧ Rp X.K H v' d' := by
            intro k y' ey
            have rr := e2.val k
            rw [ey] at rr
            rcases rpKv_val k k2 with ⟨q1, q2⟩ | ⟨v', d', q1, q2, q3⟩
            · rw [q1] at rr; cases rr
            · rw [q1] at rr
              exact ⟨v', d', q2, rr, q3⟩
          have t := PySem.W.EqTree.dicts (prog := X.prog) (w := X.w) (knd := mixKind X.prog X.w) (n := n) (e := fun _ => true) e z1 z2 d1 d2 (fun k v' y' m ey => by
            obtain ⟨v1, d1, m1, q1, q2⟩ := kv_mem k1 e1 m
            obtain ⟨v2, d2, m2, q3, q4⟩ := at2 k y' ey
            exact ih k d1 d2 m1 m2 _ _ _ _ q2 q4 q1 q3)
          have fin : (us.length == ws.length && us.all fun p => (valueAt ws p.1).isSome && true) = true := by
            rw [lu, beq_self_eq_true, Bool.true_and, List.all_eq_true]
            intro p hp
            obtain ⟨v1, d1, m1, _, _⟩ := kv_mem k1 e1 (k := p.1) (u := p.2) hp
            have q := hs p.1 d1 m1
            have rr := (e2.val p.1).isSome_eq
            rcases rpKv_val p.1 k2 with ⟨_, q2⟩ | ⟨v', d', q1, _, _⟩
            · rw [q2] at q; cases q
            · rw [← rr, q1]; rfl
          rw [fin] at t
          exact t
  | @tup n xs ys hl hj ih =>
    intro v u a b p1 p2 r1 r2
    obtain ⟨a1, us, rfl, s1, k1⟩ := rp_tup p1
    obtain ⟨a2, ws, rfl, s2, k2⟩ := rp_tup p2
    cases r1; cases r2
    by_cases e : a1 = a2
    · subst e; exact .same
    · obtain ⟨i1, e1, t1, _⟩ := I.tuple s1
      obtain ⟨i2, e2, t2, _⟩ := I.tuple s2
      have l1 : i1.length = xs.length := by rw [← e1.length, k1.length]
      have l2 : i2.length = ys.length := by rw [← e2.length, k2.length]
      have t := PySem.W.EqTree.tuples (prog := X.prog) (w := X.w) (n := n) (e := fun _ => true) e t1 t2 (fun j h1 h2 => by
        have h1 : j < i1.length := by simpa using h1
        have h2 : j < i2.length := by simpa using h2
        obtain ⟨x', g1, g2⟩ := k1.get (List.getElem?_eq_getElem (show j < xs.length by omega))
        obtain ⟨y', g3, g4⟩ := k2.get (List.getElem?_eq_getElem (show j < ys.length by omega))
        obtain ⟨z1, f1, f2⟩ := e1.get g1
        obtain ⟨z2, f3, f4⟩ := e2.get g3
        have f1' : i1[j] = z1 := by rw [List.getElem?_eq_getElem h1] at f1; exact Option.some.inj f1
        have f3' : i2[j] = z2 := by rw [List.getElem?_eq_getElem h2] at f3; exact Option.some.inj f3
        have := ih j _ _ (List.getElem?_eq_getElem (show j < xs.length by omega)) (List.getElem?_eq_getElem (show j < ys.length by omega)) _ _ _ _ g2 g4 f2 f4
        simpa [f1', f3'] using this)
      have fin : ((List.range (min i1.toArray.size i2.toArray.size)).all (fun _ => true) && i1.toArray.size == i2.toArray.size) = true := by
        rw [Bool.and_eq_true]
        refine ⟨List.all_eq_true.mpr fun _ _ => rfl, ?_⟩
        simp [l1, l2, hl]
      rw [fin] at t
      exact t
def rEqW (K : PySem.W.Frag) : R2 := fun x y H Q => ∃ n xs ys, Rp K H x (.tup xs) ∧ Rp K H y (.tup ys) ∧ EqW n (.tup xs) (.tup ys) ∧ n ≤ 60 ∧ Q (.bl true) H
theorem op_eqW (hu : X.A.units + 65 < cLine) : OpR X (compareOp .Eq) (rEqW X.K) := by
  intro pins s σ H x y v u Q I rx ry h
  obtain ⟨n, xs, ys, p1, p2, hw, hn, q⟩ := h
  cases hw with
  | pl hp hd =>
    obtain ⟨as, k1⟩ := Dp.reads I _ _ _ (rp_dp hp p1) rx
    obtain ⟨bs, k2⟩ := Dp.reads I _ _ _ (rp_dp hp p2) ry
    refine SeqAt.eq_plain k1 k2 (py_plain _) (py_plain _) (by rw [py_depth]; omega) ⟨.bl _, H, I, rfl, ?_⟩
    rw [py_eqv hp hp, deq_self hp]
    exact q
  | @tup m _ _ hl hj =>
    obtain ⟨a1, us, rfl, s1, k1⟩ := rp_tup p1
    obtain ⟨a2, ws, rfl, s2, k2⟩ := rp_tup p2
    cases rx; cases ry
    obtain ⟨i1, e1, t1, _⟩ := I.tuple s1
    obtain ⟨i2, e2, t2, _⟩ := I.tuple s2
    have l1 : i1.length = xs.length := by rw [← e1.length, k1.length]
    have l2 : i2.length = ys.length := by rw [← e2.length, k2.length]
    have fin : ((List.range (min i1.toArray.size i2.toArray.size)).all (fun _ => true) && i1.toArray.size == i2.toArray.size) = true := by
      rw [Bool.and_eq_true]
      refine ⟨List.all_eq_true.mpr fun _ _ => rfl, ?_⟩
      simp [l1, l2, hl]
    refine PySem.W.eq_tuplesT (n := m) (e := fun _ => true) t1 t2 (fun j h1 h2 => ?_) (by omega) ⟨.bl true, H, I, by rw [fin]; rfl, q⟩
    have h1 : j < i1.length := by simpa using h1
    have h2 : j < i2.length := by simpa using h2
    obtain ⟨x', g1, g2⟩ := k1.get (List.getElem?_eq_getElem (show j < xs.length by omega))
    obtain ⟨y', g3, g4⟩ := k2.get (List.getElem?_eq_getElem (show j < ys.length by omega))
    obtain ⟨z1, f1, f2⟩ := e1.get g1
    obtain ⟨z2, f3, f4⟩ := e2.get g3
    have f1' : i1[j] = z1 := by rw [List.getElem?_eq_getElem h1] at f1; exact Option.some.inj f1
    have f3' : i2[j] = z2 := by rw [List.getElem?_eq_getElem h2] at f3; exact Option.some.inj f3
    have := eqW_tree I (hj j _ _ (List.getElem?_eq_getElem (show j < xs.length by omega)) (List.getElem?_eq_getElem (show j < ys.length by omega))) _ _ _ _ g2 g4 f2 f4
    simpa [f1', f3'] using this
/-- two equal tuples, with dicts in them -/
noncomputable def dEqW (x y : D) : Option D := open Classical in if ∃ n xs ys, x = .tup xs ∧ y = .tup ys ∧ EqW n x y ∧ n ≤ 60 then some (.bl true) else none
theorem dc_eqW (hu : X.A.units + 65 < cLine) (ha : DP X a f al) (hb : DP X b g bl) : DC X .Eq a b (e2 dEqW f g) := by
  refine dc_mk (op_eqW hu) (fun ρ σ O W H v1 v2 x y d Q r e p1 p2 q => ?_) ha hb
  unfold dEqW at e
  split at e
  · rename_i hz
    cases e
    obtain ⟨n, xs, ys, rfl, rfl, hw, hn⟩ := hz
    exact ⟨n, xs, ys, rp_mono (vw_subT r.sub) p1, rp_mono (vw_subT r.sub) p2, hw, hn, q.here r.sub (.bl _)⟩
  · cases e
end
theorem w_eqW {x y : D} {n : Nat} {xs ys : List D} {Q : D → Prop} (h1 : x = .tup xs) (h2 : y = .tup ys) (h : EqW n x y) (hn : n ≤ 60) (q : Q (.bl true)) : Wp (dEqW x y) Q := ⟨.bl true, by unfold dEqW; exact if_pos ⟨n, xs, ys, h1, h2, h, hn⟩, q⟩
theorem w_dict {kvs : List (Key × D)} {Q : D → Prop} (q : Q (.dct kvs)) : Wp (dDict [.dct kvs]) Q := ⟨_, rfl, q⟩
theorem w_items {i j : Nat} {g : D → Rho → Option Rho} {B : Sx} {ρ : Rho} {ds : List D} {kvs : List (Key × D)} {Q : Out → Prop} (e1 : ρ[i]? = some (.val (.tup ds))) (e2 : ds[j]? = some (.dct kvs)) (q : Wp (forS g B (kvs.map kvD) ρ) Q) : Wp (sItems i j g B ρ) Q := by
  unfold sItems
  rw [e1]
  show Wp (match ds[j]? with
    | some (.dct kvs) => forS g B (kvs.map kvD) ρ
    | _ => none) Q
  rw [e2]
  exact q
end DL

namespace G
open PySem PySem.Spec L2 DL
def topS (i : Nat) : Stmt := PySem.Challenge.pw_cutless_k06_closing.main.body.getD i (.Pass ⟨0, 0, 0, 0⟩)
abbrev s_closes : Stmt := topS 1
abbrev N_closes : List Str := ["row", "side", "A"]
theorem sc_closes : FnScope N_closes ["row"] (defScope s_closes) := ⟨rfl, rfl, rfl, by decide +kernel, rfl, by decide +kernel, by decide +kernel⟩
abbrev s__law_cell : Stmt := topS 3
abbrev N__law_cell : List Str := ["_law_script", "_law_k", "_law_number"]
theorem sc__law_cell : FnScope N__law_cell ["_law_script", "_law_k"] (defScope s__law_cell) := ⟨rfl, rfl, rfl, by decide +kernel, rfl, by decide +kernel, by decide +kernel⟩
abbrev s__law_cells : Stmt := topS 4
abbrev N__law_cells : List Str := ["_law_script", "_law_least", "_law_many", "_law_k"]
theorem sc__law_cells : FnScope N__law_cells ["_law_script", "_law_least"] (defScope s__law_cells) := ⟨rfl, rfl, rfl, by decide +kernel, rfl, by decide +kernel, by decide +kernel⟩
abbrev s__law_letters : Stmt := topS 5
abbrev N__law_letters : List Str := ["_law_cell_here", "_law_first", "_law_later", "_law_text", "_law_k"]
theorem sc__law_letters : FnScope N__law_letters ["_law_cell_here", "_law_first", "_law_later"] (defScope s__law_letters) := ⟨rfl, rfl, rfl, by decide +kernel, rfl, by decide +kernel, by decide +kernel⟩
abbrev s__law_family : Stmt := topS 6
abbrev N__law_family : List Str := ["_law_cell_here", "_law_filler", "_law_size", "_law_at", "_law_sign"]
theorem sc__law_family : FnScope N__law_family ["_law_cell_here", "_law_filler"] (defScope s__law_family) := ⟨rfl, rfl, rfl, by decide +kernel, rfl, by decide +kernel, by decide +kernel⟩
abbrev s__law_wide : Stmt := topS 7
abbrev N__law_wide : List Str := ["_law_script", "_law_k"]
theorem sc__law_wide : FnScope N__law_wide ["_law_script", "_law_k"] (defScope s__law_wide) := ⟨rfl, rfl, rfl, by decide +kernel, rfl, by decide +kernel, by decide +kernel⟩
abbrev s__law_words : Stmt := topS 8
abbrev N__law_words : List Str := ["_law_script", "_law_letters_here", "_law_words_here", "_law_k", "_law_text"]
theorem sc__law_words : FnScope N__law_words ["_law_script"] (defScope s__law_words) := ⟨rfl, rfl, rfl, by decide +kernel, rfl, by decide +kernel, by decide +kernel⟩
abbrev s__law_names : Stmt := topS 9
abbrev N__law_names : List Str := ["_law_script", "_law_letters_here", "_law_k"]
theorem sc__law_names : FnScope N__law_names ["_law_script"] (defScope s__law_names) := ⟨rfl, rfl, rfl, by decide +kernel, rfl, by decide +kernel, by decide +kernel⟩
abbrev s__law_leaf : Stmt := topS 10
abbrev N__law_leaf : List Str := ["_law_cell_here", "_law_words_here", "_law_names_here", "_law_many", "_law_word", "_law_terms", "_law_k"]
theorem sc__law_leaf : FnScope N__law_leaf ["_law_cell_here", "_law_words_here", "_law_names_here"] (defScope s__law_leaf) := ⟨rfl, rfl, rfl, by decide +kernel, rfl, by decide +kernel, by decide +kernel⟩
abbrev s__law_bound : Stmt := topS 11
abbrev N__law_bound : List Str := ["_law_ka", "_law_name", "_law_deep", "_law_terms", "_law_k", "_law_inner", "_law_part"]
theorem sc__law_bound : FnScope N__law_bound ["_law_ka", "_law_name", "_law_deep"] (defScope s__law_bound) := ⟨rfl, rfl, rfl, by decide +kernel, rfl, by decide +kernel, by decide +kernel⟩
abbrev s__law_small : Stmt := topS 12
abbrev N__law_small : List Str := ["_law_cell_here", "_law_words_here", "_law_names_here", "_law_one", "_law_two", "_law_way"]
theorem sc__law_small : FnScope N__law_small ["_law_cell_here", "_law_words_here", "_law_names_here"] (defScope s__law_small) := ⟨rfl, rfl, rfl, by decide +kernel, rfl, by decide +kernel, by decide +kernel⟩
abbrev s__law_told : Stmt := topS 13
abbrev N__law_told : List Str := ["_law_row", "_law_due", "_law_found"]
theorem sc__law_told : FnScope N__law_told ["_law_row", "_law_due"] (defScope s__law_told) := ⟨rfl, rfl, rfl, by decide +kernel, rfl, by decide +kernel, by decide +kernel⟩
abbrev s_law : Stmt := topS 14
abbrev N_law : List Str := ["_law_script", "_law_words_here", "_law_names_here", "_law_sides", "_law_row", "_law_cell_here", "_law_ka", "_law_side", "_law_way"]
theorem sc_law : FnScope N_law ["_law_script"] (defScope s_law) := ⟨rfl, rfl, rfl, by decide +kernel, rfl, by decide +kernel, by decide +kernel⟩
abbrev j_closes : Nat := 0
abbrev j__law_cell : Nat := 1
abbrev j__law_cells : Nat := 2
abbrev j__law_letters : Nat := 3
abbrev j__law_family : Nat := 4
abbrev j__law_wide : Nat := 5
abbrev j__law_words : Nat := 6
abbrev j__law_names : Nat := 7
abbrev j__law_leaf : Nat := 8
abbrev j__law_bound : Nat := 9
abbrev j__law_small : Nat := 10
abbrev j__law_told : Nat := 11
abbrev j_law : Nat := 12
section
variable [Tbs]
structure Tx (P : Program) (w : World) (K : PySem.W.Frag) (mg : Str → Option Value) (base : Heap) (n : Nat) (φ : Nat → List D → Option D) : Prop where
  hT : Tbs.T = []
  hF : Tbs.F = NDat P w
  b_bool : mg "bool" = none
  b_int : mg "int" = none
  b_isinstance : mg "isinstance" = none
  b_len : mg "len" = none
  b_list : mg "list" = none
  b_max : mg "max" = none
  b_min : mg "min" = none
  b_range : mg "range" = none
  b_sorted : mg "sorted" = none
  b_str : mg "str" = none
  b_tuple : mg "tuple" = none
  c_closes : FOk P w K mg base n "closes" ["row"] (φ 0)
  c__law_cell : FOk P w K mg base n "_law_cell" ["_law_script", "_law_k"] (φ 1)
  c__law_cells : FOk P w K mg base n "_law_cells" ["_law_script", "_law_least"] (φ 2)
  c__law_letters : FOk P w K mg base n "_law_letters" ["_law_cell_here", "_law_first", "_law_later"] (φ 3)
  c__law_family : FOk P w K mg base n "_law_family" ["_law_cell_here", "_law_filler"] (φ 4)
  c__law_wide : FOk P w K mg base n "_law_wide" ["_law_script", "_law_k"] (φ 5)
  c__law_words : FOk P w K mg base n "_law_words" ["_law_script"] (φ 6)
  c__law_names : FOk P w K mg base n "_law_names" ["_law_script"] (φ 7)
  c__law_leaf : FOk P w K mg base n "_law_leaf" ["_law_cell_here", "_law_words_here", "_law_names_here"] (φ 8)
  c__law_bound : FOk P w K mg base n "_law_bound" ["_law_ka", "_law_name", "_law_deep"] (φ 9)
  c__law_small : FOk P w K mg base n "_law_small" ["_law_cell_here", "_law_words_here", "_law_names_here"] (φ 10)
  c__law_told : FOk P w K mg base n "_law_told" ["_law_row", "_law_due"] (φ 11)
  c_law : FOk P w K mg base n "law" ["_law_script"] (φ 12)
end
def B_closes (φ : Nat → List D → Option D) : Sx :=
      (sSeq (sFor [0] (iV 0) (gT 2 (gsC (gN 1) (gsC (gN 2) gsN))) (sSeq (sIf (tAn (tE (e2 dEq (eV 1) (eC (.str "right")))) (tE (e2 dEq (eV 2) (eA dTup (esC (eC (.str "yes")) esN))))) (sRet (eC (.bl true))) sNil)
      (sIf (tAn (tE (e2 dEq (eV 1) (eC (.str "left")))) (tOr' (tE (e2 dEq (eV 2) (eA dTup (esC (eC (.str "no")) esN)))) (tE (e2 dIn (eA dTup (esC (eC (.str "right")) (esC (eV 2) esN))) (eV 0))))) (sRet (eC (.bl true))) sNil)))
      (sRet (eC (.bl false))))
def B__law_cell (φ : Nat → List D → Option D) : Sx :=
      (sSeq (sIf (tE (e2 dLt (eV 1) (eA dLen (esC (eV 0) esN)))) (sRet (e2 dIx (eV 0) (eV 1))) sNil)
      (sSeq (sG (xP [1] (e2 dAdd (e2 dMul (eV 1) (eC (.int 7919))) (eC (.int 5)))) (gN 2))
      (sSeq (sIf (tE (e2 (dCmp pGt) (eA dLen (esC (eV 0) esN)) (eC (.int 0)))) (sG (xP [1] (e2 dAdd (e2 dMod (e2 dMul (e2 dIx (eV 0) (e2 dMod (e2 dMul (eV 1) (eC (.int 7))) (eA dLen (esC (eV 0) esN)))) (eC (.int 48271))) (eC (.int 2147483647))) (e2 dMul (eV 1) (eC (.int 104729))))) (gN 2)) sNil)
      (sRet (e2 dMod (e2 dMul (eV 2) (eV 2)) (eC (.int 2147483629)))))))
def B__law_cells (φ : Nat → List D → Option D) : Sx :=
      (sSeq (sG (xP [] (eA dMin2 (esC (eA dMax2 (esC (eA dLen (esC (eV 0) esN)) (esC (eV 1) esN))) (esC (eC (.int 63)) esN)))) (gN 2))
      (sRet (eL (lcG [3] (nL dRg1 (esC (eV 2) esN)) (gN 3) tY (e2 dMod (eA (fnL 2 (φ 1)) (esC (eV 0) (esC (eV 3) esN))) (e2 dPow (eC (.int 10)) (eC (.int 40))))))))
def B__law_letters (φ : Nat → List D → Option D) : Sx :=
      (sSeq (sG (xP [] (e2 dIx (eV 1) (e2 dMod (eV 0) (eA dLen (esC (eV 1) esN))))) (gN 3))
      (sSeq (sG (xP [] (e2 dDiv (eV 0) (eA dLen (esC (eV 1) esN)))) (gN 0))
      (sSeq (sFor [] (nL dRg1 (esC (e2 dMod (eV 0) (eC (.int 8))) esN)) (gN 4) (sSeq (sG (xP [3] (e2 dAdd (eV 3) (e2 dIx (eV 2) (e2 dMod (e2 dDiv (eV 0) (eC (.int 8))) (eA dLen (esC (eV 2) esN)))))) (gN 3))
      (sG (xP [] (e2 dDiv (eV 0) (eA dLen (esC (eV 2) esN)))) (gN 0))))
      (sRet (eV 3)))))
def B__law_family (φ : Nat → List D → Option D) : Sx :=
      (sSeq (sG (xP [] (e2 dAdd (eC (.int 2)) (e2 dMod (eV 0) (eC (.int 7))))) (gN 2))
      (sSeq (sG (xP [] (e2 dMod (e2 dDiv (eV 0) (eC (.int 7))) (eV 2))) (gN 3))
      (sRet (eL (lcG [4] (iE [] (eC (.str "bdgh"))) (gN 4) tY (e2 dAdd (e2 dAdd (e2 dMul (eV 1) (eV 3)) (eV 4)) (e2 dMul (eV 1) (e2 dSub (e2 dSub (eV 2) (eC (.int 1))) (eV 3)))))))))
def B__law_wide (φ : Nat → List D → Option D) : Sx :=
      (sRet (e2 dAdd (e2 dMul (e2 dMod (eA (fnL 2 (φ 1)) (esC (eV 0) (esC (eV 1) esN))) (e2 dPow (eC (.int 10)) (eC (.int 40)))) (eC (.int 1000003))) (e2 dMod (eA (fnL 2 (φ 1)) (esC (eV 0) (esC (e2 dAdd (eV 1) (eC (.int 20))) esN))) (e2 dPow (eC (.int 10)) (eC (.int 40))))))
def B__law_words (φ : Nat → List D → Option D) : Sx :=
      (sSeq (sG (xP [] (eC (.str "abcdefghijklmnopqrstuvwxyz"))) (gN 1))
      (sSeq (sIf (tE (e2 dEq (e2 dMod (eA (fnL 2 (φ 1)) (esC (eV 0) (esC (eC (.int 64)) esN))) (eC (.int 3))) (eC (.int 0)))) (sRet (eA (fnL 2 (φ 4)) (esC (e2 dDiv (eA (fnL 2 (φ 1)) (esC (eV 0) (esC (eC (.int 64)) esN))) (eC (.int 3))) (esC (eC (.str "q")) esN)))) sNil)
      (sSeq (sOwn 2 [] (lsG esN))
      (sSeq (sFor [] (nL dRg1 (esC (eC (.int 4)) esN)) (gN 3) (sSeq (sG (xP [0, 3, 1, 1] (eA (fnL 3 (φ 3)) (esC (eA (fnL 2 (φ 5)) (esC (eV 0) (esC (e2 dAdd (eC (.int 65)) (eV 3)) esN))) (esC (eV 1) (esC (eV 1) esN))))) (gN 4))
      (sSeq (sIf (tE (e2 dIn (eV 4) (eA dTup (esC (eC (.str "yes")) (esC (eC (.str "no")) (esC (eC (.str "not")) (esC (eC (.str "and")) (esC (eC (.str "or")) (esC (eC (.str "if")) (esC (eC (.str "all")) (esC (eC (.str "some")) esN))))))))))) (sG (xP [4] (e2 dAdd (eV 4) (eC (.str "x")))) (gN 4)) sNil)
      (sApp 2 (xP [4] (eV 4))))))
      (sRet (eV 2))))))
def B__law_names (φ : Nat → List D → Option D) : Sx :=
      (sSeq (sG (xP [] (eC (.str "abcdefghijklmnopqrstuvwxyz"))) (gN 1))
      (sSeq (sIf (tE (e2 dEq (e2 dMod (eA (fnL 2 (φ 1)) (esC (eV 0) (esC (eC (.int 69)) esN))) (eC (.int 4))) (eC (.int 0)))) (sRet (eL (lsG (esC (eC (.str "n0")) (esC (eC (.str "n1")) (esC (eC (.str "n2")) (esC (eC (.str "p")) esN))))))) sNil)
      (sSeq (sIf (tE (e2 dEq (e2 dMod (eA (fnL 2 (φ 1)) (esC (eV 0) (esC (eC (.int 69)) esN))) (eC (.int 4))) (eC (.int 1)))) (sRet (eA (fnL 2 (φ 4)) (esC (e2 dDiv (eA (fnL 2 (φ 1)) (esC (eV 0) (esC (eC (.int 69)) esN))) (eC (.int 4))) (esC (eC (.str "z")) esN)))) sNil)
      (sRet (eL (lcG [2] (nL dRg1 (esC (eC (.int 4)) esN)) (gN 2) tY (eA (fnL 3 (φ 3)) (esC (eA (fnL 2 (φ 5)) (esC (eV 0) (esC (e2 dAdd (eC (.int 70)) (eV 2)) esN))) (esC (eV 1) (esC (e2 dAdd (eV 1) (eC (.str "0123456789"))) esN))))))))))
def B__law_leaf (φ : Nat → List D → Option D) : Sx :=
      (sSeq (sIf (tE (e2 dEq (e2 dMod (eV 0) (eC (.int 7))) (eC (.int 0)))) (sRet (e2 dIx (eL (lsG (esC (eA dTup (esC (eC (.str "yes")) esN)) (esC (eA dTup (esC (eC (.str "no")) esN)) esN)))) (e2 dMod (e2 dDiv (eV 0) (eC (.int 7))) (eC (.int 2))))) sNil)
      (sSeq (sG (xP [] (e2 dMod (e2 dDiv (eV 0) (eC (.int 7))) (eC (.int 4)))) (gN 3))
      (sSeq (sG (xP [] (e2 dIx (eV 1) (e2 dMod (e2 dDiv (eV 0) (eC (.int 28))) (eC (.int 4))))) (gN 4))
      (sSeq (sOwn 5 [] (lsG esN))
      (sSeq (sFor [] (nL dRg1 (esC (eV 3) esN)) (gN 6) (sSeq (sG (xP [] (e2 dDiv (eV 0) (eC (.int 4)))) (gN 0))
      (sApp 5 (xP [] (e2 dIx (eV 2) (e2 dMod (e2 dDiv (eV 0) (eC (.int 28))) (eC (.int 4))))))))
      (sRet (eA dTup (esC (eC (.str "word")) (esC (eV 4) (esC (eA dTuple (esC (eV 5) esN)) esN))))))))))
def B__law_bound (φ : Nat → List D → Option D) : Sx :=
      (sSeq (sIf (tE (e2 dEq (e2 dIx (eV 0) (eC (.int 0))) (eC (.str "word")))) (sSeq (sOwn 3 [] (nL dList (esC (e2 dIx (eV 0) (eC (.int 2))) esN)))
      (sSeq (sFor [] (nL dRg1 (esC (eA dLen (esC (eV 3) esN)) esN)) (gN 4) (sIf (tE (e2 dEq (e2 dIx (eV 3) (eV 4)) (eV 1))) (sPut 3 (xP [] (eA dStr (esC (eV 2) esN))) (eV 4)) sNil))
      (sRet (eA dTup (esC (eC (.str "word")) (esC (e2 dIx (eV 0) (eC (.int 1))) (esC (eA dTuple (esC (eV 3) esN)) esN))))))) sNil)
      (sSeq (sG (xP [2] (e2 dAdd (eV 2) (eA dInt (esC (eOr (e2 dEq (e2 dIx (eV 0) (eC (.int 0))) (eC (.str "all"))) (e2 dEq (e2 dIx (eV 0) (eC (.int 0))) (eC (.str "some")))) esN)))) (gN 5))
      (sRet (e2 dAdd (eA dTup (esC (e2 dIx (eV 0) (eC (.int 0))) esN)) (eA dTuple (esC (eL (lcG [6] (iE [] (eSl (eV 0) (oS (eC (.int 1))) oN)) (gN 6) tY (eA (fnL 3 (φ 9)) (esC (eV 6) (esC (eV 1) (esC (eV 5) esN)))))) esN))))))
def B__law_small (φ : Nat → List D → Option D) : Sx :=
      (sSeq (sG (xP [1, 2] (eA (fnL 3 (φ 8)) (esC (e2 dDiv (eV 0) (eC (.int 8))) (esC (eV 1) (esC (eV 2) esN))))) (gN 3))
      (sSeq (sG (xP [1, 2] (eA (fnL 3 (φ 8)) (esC (e2 dDiv (e2 dMod (e2 dMul (eV 0) (eC (.int 48271))) (eC (.int 2147483647))) (eC (.int 3))) (esC (eV 1) (esC (eV 2) esN))))) (gN 4))
      (sSeq (sG (xP [] (e2 dMod (eV 0) (eC (.int 8)))) (gN 5))
      (sSeq (sIf (tE (e2 dLt (eV 5) (eC (.int 3)))) (sRet (eA dTup (esC (e2 dIx (eL (lsG (esC (eC (.str "and")) (esC (eC (.str "or")) (esC (eC (.str "if")) esN))))) (eV 5)) (esC (eV 3) (esC (eV 4) esN))))) sNil)
      (sSeq (sIf (tE (e2 dEq (eV 5) (eC (.int 3)))) (sRet (eA dTup (esC (eC (.str "not")) (esC (eV 3) esN)))) sNil)
      (sSeq (sIf (tE (e2 dEq (eV 5) (eC (.int 4)))) (sRet (eA dTup (esC (e2 dIx (eL (lsG (esC (eC (.str "all")) (esC (eC (.str "some")) esN)))) (e2 dMod (e2 dDiv (eV 0) (eC (.int 8))) (eC (.int 2)))) (esC (eA (fnL 3 (φ 9)) (esC (eV 3) (esC (e2 dIx (eV 2) (e2 dMod (e2 dDiv (eV 0) (eC (.int 16))) (eC (.int 4)))) (esC (eC (.int 0)) esN)))) esN)))) sNil)
      (sRet (eV 3))))))))
def B__law_told (φ : Nat → List D → Option D) : Sx :=
      (sSeq (sG (xP [] (eA (fnL 1 (φ 0)) (esC (eA dTuple (esC (eL (nL (dSorted false) (esC (eV 0) esN))) esN)) esN))) (gN 2))
      (sRet (eAn (e1 (isi .bool) (eV 2)) (e2 dEq (eV 2) (eV 1)))))
def B_law (φ : Nat → List D → Option D) : Sx :=
      (sSeq (sG (xP [0] (eA (fnL 1 (φ 6)) (esC (eV 0) esN))) (gN 1))
      (sSeq (sG (xP [0] (eA (fnL 1 (φ 7)) (esC (eV 0) esN))) (gN 2))
      (sSeq (sKdNew 3 [((eA dTup (esC (eC (.str "yes")) esN)), (eC (.str "left"))), ((eA dTup (esC (eC (.str "no")) esN)), (eC (.str "right")))])
      (sSeq (sOwn 4 [] (lsG esN))
      (sSeq (sFor [0] (iE [0] (eSl (eA (fnL 2 (φ 2)) (esC (eV 0) (esC (eC (.int 3)) esN))) oN (oS (eC (.int 37))))) (gN 5) (sSeq (sG (xP [1, 2] (eA (fnL 3 (φ 10)) (esC (e2 dMod (e2 dDiv (eV 5) (eC (.int 2))) (e2 dIx (eL (lsG (esC (eC (.int 60)) (esC (e2 dPow (eC (.int 10)) (eC (.int 40))) esN)))) (e2 dMod (eV 5) (eC (.int 2))))) (esC (eV 1) (esC (eV 2) esN))))) (gN 6))
      (sSeq (sKdSet 7 3 (eV 6) (e2 dIx (eL (lsG (esC (eC (.str "left")) (esC (eC (.str "right")) esN)))) (e2 dMod (e2 dDiv (eV 5) (eC (.int 2))) (eC (.int 2)))))
      (sIf (tE (e2 dNotIn (eA dTup (esC (eV 7) (esC (eV 6) esN))) (eV 4))) (sApp 4 (xP [7, 6] (eA dTup (esC (eV 7) (esC (eV 6) esN))))) sNil))))
      (sSeq (sIf (tOr' (tNo (tE (eA (fnL 2 (φ 11)) (esC (eV 4) (esC (eC (.bl false)) esN))))) (tNo (tE (eA (fnL 2 (φ 11)) (esC (eL (lsG esN)) (esC (eC (.bl false)) esN)))))) (sRet (eC (.bl false))) sNil)
      (sSeq (sForK 4 (gT 2 (gsC (gN 7) (gsC (gN 6) gsN))) (sIf (tNo (tE (eA (fnL 2 (φ 11)) (esC (eL (lsG (esC (eA dTup (esC (eV 7) (esC (eV 6) esN))) esN))) (esC (eC (.bl false)) esN))))) (sRet (eC (.bl false))) sNil))
      (sSeq (sG (xP [] (e2 dMod (eA (fnL 2 (φ 1)) (esC (eV 0) (esC (eC (.int 0)) esN))) (eC (.int 6)))) (gN 8))
      (sSeq (sG (xP [] (e2 dIx (eV 4) (e2 dMod (eA (fnL 2 (φ 1)) (esC (eV 0) (esC (eC (.int 1)) esN))) (eA dLen (esC (eV 4) esN))))) (gT 2 (gsC (gN 7) (gsC (gN 6) gsN))))
      (sSeq (sIf (tE (e2 dEq (eV 8) (eC (.int 3)))) (sApp 4 (xP [] (eA dTup (esC (eC (.str "right")) (esC (eA dTup (esC (eC (.str "yes")) esN)) esN))))) sNil)
      (sSeq (sIf (tE (e2 dEq (eV 8) (eC (.int 4)))) (sApp 4 (xP [] (eA dTup (esC (eC (.str "left")) (esC (eA dTup (esC (eC (.str "no")) esN)) esN))))) sNil)
      (sSeq (sIf (tE (e2 dEq (eV 8) (eC (.int 5)))) (sApp 4 (xP [6] (eA dTup (esC (e2 dIx (eL (lsG (esC (eC (.str "left")) (esC (eC (.str "right")) esN)))) (eA dInt (esC (e2 dEq (eV 7) (eC (.str "left"))) esN))) (esC (eV 6) esN))))) sNil)
      (sSeq (sIf (tNo (tE (eA (fnL 2 (φ 11)) (esC (eV 4) (esC (e2 (dCmp pGt) (eV 8) (eC (.int 2))) esN))))) (sRet (eC (.bl false))) sNil)
      (sRet (eAn (eA (fnL 2 (φ 11)) (esC (eL (lsG (esC (eA dTup (esC (eC (.str "left")) (esC (eV 6) esN))) (esC (eA dTup (esC (eC (.str "right")) (esC (eV 6) esN))) esN)))) (esC (eC (.bl true)) esN))) (eA (fnL 2 (φ 11)) (esC (eL (lsG (esC (eA dTup (esC (eC (.str "right")) (esC (eA dTup (esC (eC (.str "yes")) esN)) esN))) esN))) (esC (eC (.bl true)) esN))))))))))))))))))
section
variable [Tbs]
variable {P : Program} {w : World} {K : PySem.W.Frag} {mg : Str → Option Value} {base : Heap} {n : Nat} {φ : Nat → List D → Option D}
set_option maxHeartbeats 4000000 in
theorem d_closes (T : Tx P w K mg base n φ) {fa : Addr} (cdv : Value) (A : Around) (outer : List PySem.Env) (s : Shared) (H : Hp) (E : XK) (hr : Room n (A.deeper (PyProof.Rows.envOfC "closes" (defScope s_closes) s.heap.objs.size fa cdv))) :
    DSs (cxOf CX0 P w K mg base N_closes "closes" (defScope s_closes) fa cdv A outer s H E).nox (defBody s_closes) (B_closes φ) := by
  refine (dss_cons (ds_for PassesOwn.never rfl (di_var 0 (pv 0)) (dg_tup 2 (by rfl) (dgs_cons (dg_name (pg_name (i := 1) sc_closes.nd (by rfl) (Or.inl rfl))) (dgs_cons (dg_name (pg_name (i := 2) sc_closes.nd (by rfl) (Or.inl rfl))) dgs_nil))) (dss_cons (ds_if (dt_w (dw_and (dt_c (dc_eq (hu190 hr) (dp_var 1 (pv 1)) dp_str)) (dw_and1 (dt_c (dc_eq (hu190 hr) (dp_var 2 (pv 2)) (dp_tup (da_cons dp_str da_nil))))))) (dss_one (ds_ret dp_bl)) dss_nil)
      (dss_one (ds_if (dt_w (dw_and (dt_c (dc_eq (hu190 hr) (dp_var 1 (pv 1)) dp_str)) (dw_and1 (dt_w (dw_or (dt_c (dc_eq (hu190 hr) (dp_var 2 (pv 2)) (dp_tup (da_cons dp_str da_nil)))) (dw_or1 (dt_c (dc_in (hu65 hr) (dp_tup (da_cons dp_str (da_cons (dp_var 2 (pv 2)) da_nil))) (dp_var 0 (pv 0)))))))))) (dss_one (ds_ret dp_bl)) dss_nil))))
      (dss_one (ds_ret dp_bl)))
set_option maxHeartbeats 4000000 in
theorem d__law_cell (T : Tx P w K mg base n φ) {fa : Addr} (cdv : Value) (A : Around) (outer : List PySem.Env) (s : Shared) (H : Hp) (E : XK) (hr : Room n (A.deeper (PyProof.Rows.envOfC "_law_cell" (defScope s__law_cell) s.heap.objs.size fa cdv))) :
    DSs (cxOf CX0 P w K mg base N__law_cell "_law_cell" (defScope s__law_cell) fa cdv A outer s H E).nox (defBody s__law_cell) (B__law_cell φ) := by
  refine (dss_cons (ds_if (dt_c (dc_ltG (hu64 hr) (dp_var 1 (pv 1)) (dp_len (by rfl) T.b_len (da_cons (dp_var 0 (pv 0)) da_nil)))) (dss_one (ds_ret (dp_ixv 0 (pv 0) (dp_var 1 (pv 1)) (fun _ _ => rfl)))) dss_nil)
      (dss_cons (ds_set sc__law_cell.nd rfl (Or.inl rfl) (de_p (dp_add (dp_mul (dp_var 1 (pv 1)) dp_int) dp_int)))
      (dss_cons (ds_if (dt_c (dc_gt (dp_len (by rfl) T.b_len (da_cons (dp_var 0 (pv 0)) da_nil)) dp_int)) (dss_one (ds_set sc__law_cell.nd rfl (Or.inl rfl) (de_p (dp_add (dp_mod (dp_mul (dp_ixv 0 (pv 0) (dp_mod (dp_mul (dp_var 1 (pv 1)) dp_int) (dp_len (by rfl) T.b_len (da_cons (dp_var 0 (pv 0)) da_nil))) (fun _ _ => rfl)) dp_int) dp_int) (dp_mul (dp_var 1 (pv 1)) dp_int))))) dss_nil)
      (dss_one (ds_ret (dp_mod (dp_mul (dp_var 2 (pv 2)) (dp_var 2 (pv 2))) dp_int))))))
set_option maxHeartbeats 4000000 in
theorem d__law_cells (T : Tx P w K mg base n φ) {fa : Addr} (cdv : Value) (A : Around) (outer : List PySem.Env) (s : Shared) (H : Hp) (E : XK) (hr : Room n (A.deeper (PyProof.Rows.envOfC "_law_cells" (defScope s__law_cells) s.heap.objs.size fa cdv))) :
    DSs (cxOf CX0 P w K mg base N__law_cells "_law_cells" (defScope s__law_cells) fa cdv A outer s H E).nox (defBody s__law_cells) (B__law_cells φ) := by
  refine (dss_cons (ds_set sc__law_cells.nd rfl (Or.inl rfl) (de_p (dp_min2 (by rfl) (by rfl) T.b_min (da_cons (dp_max2 (by rfl) (by rfl) T.b_max (da_cons (dp_len (by rfl) T.b_len (da_cons (dp_var 0 (pv 0)) da_nil)) (da_cons (dp_var 1 (pv 1)) da_nil))) (da_cons dp_int da_nil)))))
      (dss_one (ds_ret (dp_n (dn_lc (bl := []) (own := [("_law_k", 3)]) (by rfl) sc__law_cells.nd (di_rg1 (by rfl) T.b_range (da_cons (dp_var 2 (pv 2)) da_nil)) (blkOk_by (own := [("_law_k", 3)]) (N := N__law_cells) (sc := defScope s__law_cells) (by decide +kernel)) (by intro _ _ _ _ _; exact (dg_name (pg_name (i := 3) sc__law_cells.nd (by rfl) (by exact Or.inl rfl)))) (by intro _ _ _ _ _; exact dts_nil) ?h1 gok_name (by decide))))))
  case h1 =>
    intro _ _ _ _ _
    exact (dp_mod (dp_call T.c__law_cell hr (by rfl) (da_cons (dp_var 0 (pv 0)) (da_cons (dp_var 3 (pv 3)) da_nil))) (dp_pow dp_int dp_int))
set_option maxHeartbeats 4000000 in
theorem d__law_letters (T : Tx P w K mg base n φ) {fa : Addr} (cdv : Value) (A : Around) (outer : List PySem.Env) (s : Shared) (H : Hp) (E : XK) (hr : Room n (A.deeper (PyProof.Rows.envOfC "_law_letters" (defScope s__law_letters) s.heap.objs.size fa cdv))) :
    DSs (cxOf CX0 P w K mg base N__law_letters "_law_letters" (defScope s__law_letters) fa cdv A outer s H E).nox (defBody s__law_letters) (B__law_letters φ) := by
  refine (dss_cons (ds_set sc__law_letters.nd rfl (Or.inl rfl) (de_p (dp_ixv 1 (pv 1) (dp_mod (dp_var 0 (pv 0)) (dp_len (by rfl) T.b_len (da_cons (dp_var 1 (pv 1)) da_nil))) (fun _ _ => rfl))))
      (dss_cons (ds_set sc__law_letters.nd rfl (Or.inl rfl) (de_p (dp_div (dp_var 0 (pv 0)) (dp_len (by rfl) T.b_len (da_cons (dp_var 1 (pv 1)) da_nil)))))
      (dss_cons (ds_for PassesOwn.never rfl (di_rg1 (by rfl) T.b_range (da_cons (dp_mod (dp_var 0 (pv 0)) dp_int) da_nil)) (dg_name (pg_name (i := 4) sc__law_letters.nd (by rfl) (Or.inl rfl))) (dss_cons (ds_set sc__law_letters.nd rfl (Or.inl rfl) (de_p (dp_add (dp_var 3 (pv 3)) (dp_ixv 2 (pv 2) (dp_mod (dp_div (dp_var 0 (pv 0)) dp_int) (dp_len (by rfl) T.b_len (da_cons (dp_var 2 (pv 2)) da_nil))) (fun _ _ => rfl)))))
      (dss_one (ds_set sc__law_letters.nd rfl (Or.inl rfl) (de_p (dp_div (dp_var 0 (pv 0)) (dp_len (by rfl) T.b_len (da_cons (dp_var 2 (pv 2)) da_nil))))))))
      (dss_one (ds_ret (dp_var 3 (pv 3)))))))
set_option maxHeartbeats 4000000 in
theorem d__law_family (T : Tx P w K mg base n φ) {fa : Addr} (cdv : Value) (A : Around) (outer : List PySem.Env) (s : Shared) (H : Hp) (E : XK) (hr : Room n (A.deeper (PyProof.Rows.envOfC "_law_family" (defScope s__law_family) s.heap.objs.size fa cdv))) :
    DSs (cxOf CX0 P w K mg base N__law_family "_law_family" (defScope s__law_family) fa cdv A outer s H E).nox (defBody s__law_family) (B__law_family φ) := by
  refine (dss_cons (ds_set sc__law_family.nd rfl (Or.inr rfl) (de_p (dp_add dp_int (dp_mod (dp_var 0 (pv 0)) dp_int))))
      (dss_cons (ds_set sc__law_family.nd rfl (Or.inr rfl) (de_p (dp_mod (dp_div (dp_var 0 (pv 0)) dp_int) (dp_var 2 (pv 2)))))
      (dss_one (ds_ret (dp_n (dn_lc (bl := [1, 3, 4, 1]) (own := [("_law_sign", 4)]) (by rfl) sc__law_family.nd (di_e dp_str) (blkOk_by (own := [("_law_sign", 4)]) (N := N__law_family) (sc := defScope s__law_family) (by decide +kernel)) (by intro _ _ _ _ _; exact (dg_name (pg_name (i := 4) sc__law_family.nd (by rfl) (by exact Or.inl rfl)))) (by intro _ _ _ _ _; exact dts_nil) ?h1 gok_name (by decide)))))))
  case h1 =>
    intro _ _ _ _ _
    exact (dp_add (dp_add (dp_mul (dp_var 1 (pv 1)) (dp_var 3 (pv 3))) (dp_var 4 (pv 4))) (dp_mul (dp_var 1 (pv 1)) (dp_sub (dp_sub (dp_var 2 (pv 2)) dp_int) (dp_var 3 (pv 3)))))
set_option maxHeartbeats 4000000 in
theorem d__law_wide (T : Tx P w K mg base n φ) {fa : Addr} (cdv : Value) (A : Around) (outer : List PySem.Env) (s : Shared) (H : Hp) (E : XK) (hr : Room n (A.deeper (PyProof.Rows.envOfC "_law_wide" (defScope s__law_wide) s.heap.objs.size fa cdv))) :
    DSs (cxOf CX0 P w K mg base N__law_wide "_law_wide" (defScope s__law_wide) fa cdv A outer s H E).nox (defBody s__law_wide) (B__law_wide φ) := by
  refine (dss_one (ds_ret (dp_add (dp_mul (dp_mod (dp_call T.c__law_cell hr (by rfl) (da_cons (dp_var 0 (pv 0)) (da_cons (dp_var 1 (pv 1)) da_nil))) (dp_pow dp_int dp_int)) dp_int) (dp_mod (dp_call T.c__law_cell hr (by rfl) (da_cons (dp_var 0 (pv 0)) (da_cons (dp_add (dp_var 1 (pv 1)) dp_int) da_nil))) (dp_pow dp_int dp_int)))))
set_option maxHeartbeats 4000000 in
theorem d__law_words (T : Tx P w K mg base n φ) {fa : Addr} (cdv : Value) (A : Around) (outer : List PySem.Env) (s : Shared) (H : Hp) (E : XK) (hr : Room n (A.deeper (PyProof.Rows.envOfC "_law_words" (defScope s__law_words) s.heap.objs.size fa cdv))) :
    DSs (cxOf CX0 P w K mg base N__law_words "_law_words" (defScope s__law_words) fa cdv A outer s H E).nox (defBody s__law_words) (B__law_words φ) := by
  refine (dss_cons (ds_set sc__law_words.nd rfl (Or.inl rfl) (de_p dp_str))
      (dss_cons (ds_if (dt_c (dc_eq (hu190 hr) (dp_mod (dp_call T.c__law_cell hr (by rfl) (da_cons (dp_var 0 (pv 0)) (da_cons dp_int da_nil))) dp_int) dp_int)) (dss_one (ds_ret (dp_call T.c__law_family hr (by rfl) (da_cons (dp_div (dp_call T.c__law_cell hr (by rfl) (da_cons (dp_var 0 (pv 0)) (da_cons dp_int da_nil))) dp_int) (da_cons dp_str da_nil))))) dss_nil)
      (dss_cons (ds_own sc__law_words.nd rfl (Or.inl rfl) (dn_lst da_nil))
      (dss_cons (ds_for PassesOwn.never rfl (di_rg1 (by rfl) T.b_range (da_cons dp_int da_nil)) (dg_name (pg_name (i := 3) sc__law_words.nd (by rfl) (Or.inl rfl))) (dss_cons (ds_set sc__law_words.nd rfl (Or.inl rfl) (de_p (dp_call T.c__law_letters hr (by rfl) (da_cons (dp_call T.c__law_wide hr (by rfl) (da_cons (dp_var 0 (pv 0)) (da_cons (dp_add dp_int (dp_var 3 (pv 3))) da_nil))) (da_cons (dp_var 1 (pv 1)) (da_cons (dp_var 1 (pv 1)) da_nil))))))
      (dss_cons (ds_if (dt_c (dc_in (hu65 hr) (dp_var 4 (pv 4)) (dp_tup (da_cons dp_str (da_cons dp_str (da_cons dp_str (da_cons dp_str (da_cons dp_str (da_cons dp_str (da_cons dp_str (da_cons dp_str da_nil))))))))))) (dss_one (ds_set sc__law_words.nd rfl (Or.inl rfl) (de_p (dp_add (dp_var 4 (pv 4)) dp_str)))) dss_nil)
      (dss_one (ds_app (pv 2) (de_p (dp_var 4 (pv 4))) (ko_p 2))))))
      (dss_one (ds_ret (dp_var 2 (pv 2))))))))
set_option maxHeartbeats 4000000 in
theorem d__law_names (T : Tx P w K mg base n φ) {fa : Addr} (cdv : Value) (A : Around) (outer : List PySem.Env) (s : Shared) (H : Hp) (E : XK) (hr : Room n (A.deeper (PyProof.Rows.envOfC "_law_names" (defScope s__law_names) s.heap.objs.size fa cdv))) :
    DSs (cxOf CX0 P w K mg base N__law_names "_law_names" (defScope s__law_names) fa cdv A outer s H E).nox (defBody s__law_names) (B__law_names φ) := by
  refine (dss_cons (ds_set sc__law_names.nd rfl (Or.inr rfl) (de_p dp_str))
      (dss_cons (ds_if (dt_c (dc_eq (hu190 hr) (dp_mod (dp_call T.c__law_cell hr (by rfl) (da_cons (dp_var 0 (pv 0)) (da_cons dp_int da_nil))) dp_int) dp_int)) (dss_one (ds_ret (dp_n (dn_lst (da_cons dp_str (da_cons dp_str (da_cons dp_str (da_cons dp_str da_nil)))))))) dss_nil)
      (dss_cons (ds_if (dt_c (dc_eq (hu190 hr) (dp_mod (dp_call T.c__law_cell hr (by rfl) (da_cons (dp_var 0 (pv 0)) (da_cons dp_int da_nil))) dp_int) dp_int)) (dss_one (ds_ret (dp_call T.c__law_family hr (by rfl) (da_cons (dp_div (dp_call T.c__law_cell hr (by rfl) (da_cons (dp_var 0 (pv 0)) (da_cons dp_int da_nil))) dp_int) (da_cons dp_str da_nil))))) dss_nil)
      (dss_one (ds_ret (dp_n (dn_lc (bl := [0, 2, 1, 1]) (own := [("_law_k", 2)]) (by rfl) sc__law_names.nd (di_rg1 (by rfl) T.b_range (da_cons dp_int da_nil)) (blkOk_by (own := [("_law_k", 2)]) (N := N__law_names) (sc := defScope s__law_names) (by decide +kernel)) (by intro _ _ _ _ _; exact (dg_name (pg_name (i := 2) sc__law_names.nd (by rfl) (by exact Or.inl rfl)))) (by intro _ _ _ _ _; exact dts_nil) ?h1 gok_name (by decide))))))))
  case h1 =>
    intro _ _ _ _ _
    exact (dp_call T.c__law_letters hr (by rfl) (da_cons (dp_call T.c__law_wide hr (by rfl) (da_cons (dp_var 0 (pv 0)) (da_cons (dp_add dp_int (dp_var 2 (pv 2))) da_nil))) (da_cons (dp_var 1 (pv 1)) (da_cons (dp_add (dp_var 1 (pv 1)) dp_str) da_nil))))
set_option maxHeartbeats 4000000 in
theorem d__law_leaf (T : Tx P w K mg base n φ) {fa : Addr} (cdv : Value) (A : Around) (outer : List PySem.Env) (s : Shared) (H : Hp) (E : XK) (hr : Room n (A.deeper (PyProof.Rows.envOfC "_law_leaf" (defScope s__law_leaf) s.heap.objs.size fa cdv))) :
    DSs (cxOf CX0 P w K mg base N__law_leaf "_law_leaf" (defScope s__law_leaf) fa cdv A outer s H E).nox (defBody s__law_leaf) (B__law_leaf φ) := by
  refine (dss_cons (ds_if (dt_c (dc_eq (hu190 hr) (dp_mod (dp_var 0 (pv 0)) dp_int) dp_int)) (dss_one (ds_ret (dp_ix (dp_n (dn_lst (da_cons (dp_tup (da_cons dp_str da_nil)) (da_cons (dp_tup (da_cons dp_str da_nil)) da_nil)))) (dp_mod (dp_div (dp_var 0 (pv 0)) dp_int) dp_int) (fun _ _ => rfl)))) dss_nil)
      (dss_cons (ds_set sc__law_leaf.nd rfl (Or.inl rfl) (de_p (dp_mod (dp_div (dp_var 0 (pv 0)) dp_int) dp_int)))
      (dss_cons (ds_set sc__law_leaf.nd rfl (Or.inl rfl) (de_p (dp_ixv 1 (pv 1) (dp_mod (dp_div (dp_var 0 (pv 0)) dp_int) dp_int) (fun _ _ => rfl))))
      (dss_cons (ds_own sc__law_leaf.nd rfl (Or.inl rfl) (dn_lst da_nil))
      (dss_cons (ds_for PassesOwn.never rfl (di_rg1 (by rfl) T.b_range (da_cons (dp_var 3 (pv 3)) da_nil)) (dg_name (pg_name (i := 6) sc__law_leaf.nd (by rfl) (Or.inl rfl))) (dss_cons (ds_set sc__law_leaf.nd rfl (Or.inl rfl) (de_p (dp_div (dp_var 0 (pv 0)) dp_int)))
      (dss_one (ds_app (pv 5) (de_p (dp_ixv 2 (pv 2) (dp_mod (dp_div (dp_var 0 (pv 0)) dp_int) dp_int) (fun _ _ => rfl))) (ko_p 5)))))
      (dss_one (ds_ret (dp_tup (da_cons dp_str (da_cons (dp_var 4 (pv 4)) (da_cons (dp_tuplec (by rfl) T.b_tuple (da_cons (dp_var 5 (pv 5)) da_nil)) da_nil)))))))))))
set_option maxHeartbeats 4000000 in
theorem d__law_bound (T : Tx P w K mg base n φ) {fa : Addr} (cdv : Value) (A : Around) (outer : List PySem.Env) (s : Shared) (H : Hp) (E : XK) (hr : Room n (A.deeper (PyProof.Rows.envOfC "_law_bound" (defScope s__law_bound) s.heap.objs.size fa cdv))) :
    DSs (cxOf CX0 P w K mg base N__law_bound "_law_bound" (defScope s__law_bound) fa cdv A outer s H E).nox (defBody s__law_bound) (B__law_bound φ) := by
  refine (dss_cons (ds_if (dt_c (dc_eq (hu190 hr) (dp_ixv 0 (pv 0) dp_int (fun _ _ => rfl)) dp_str)) (dss_cons (ds_own sc__law_bound.nd rfl (Or.inl rfl) (dn_listc (by rfl) T.b_list (da_cons (dp_ixv 0 (pv 0) dp_int (fun _ _ => rfl)) da_nil)))
      (dss_cons (ds_for PassesOwn.never rfl (di_rg1 (by rfl) T.b_range (da_cons (dp_len (by rfl) T.b_len (da_cons (dp_var 3 (pv 3)) da_nil)) da_nil)) (dg_name (pg_name (i := 4) sc__law_bound.nd (by rfl) (Or.inl rfl))) (dss_one (ds_if (dt_c (dc_eq (hu190 hr) (dp_ixv 3 (pv 3) (dp_var 4 (pv 4)) (fun _ _ => rfl)) (dp_var 1 (pv 1)))) (dss_one (ds_put (pv 3) (dp_var 4 (pv 4)) (de_p (dp_strc (by rfl) T.b_str (da_cons (dp_var 2 (pv 2)) da_nil))))) dss_nil)))
      (dss_one (ds_ret (dp_tup (da_cons dp_str (da_cons (dp_ixv 0 (pv 0) dp_int (fun _ _ => rfl)) (da_cons (dp_tuplec (by rfl) T.b_tuple (da_cons (dp_var 3 (pv 3)) da_nil)) da_nil)))))))) dss_nil)
      (dss_cons (ds_set sc__law_bound.nd rfl (Or.inr rfl) (de_p (dp_add (dp_var 2 (pv 2)) (dp_intc (by rfl) T.b_int (da_cons (dp_or (dp_c (dc_eq (hu190 hr) (dp_ixv 0 (pv 0) dp_int (fun _ _ => rfl)) dp_str)) (dp_one (dp_c (dc_eq (hu190 hr) (dp_ixv 0 (pv 0) dp_int (fun _ _ => rfl)) dp_str)))) da_nil)))))
      (dss_one (ds_ret (dp_add (dp_tup (da_cons (dp_ixv 0 (pv 0) dp_int (fun _ _ => rfl)) da_nil)) (dp_tuplec (by rfl) T.b_tuple (da_cons (dp_n (dn_lc (bl := [6, 1, 5]) (own := [("_law_part", 6)]) (by rfl) sc__law_bound.nd (di_e (dp_slv 0 (pv 0) (do_s dp_int) do_n)) (blkOk_by (own := [("_law_part", 6)]) (N := N__law_bound) (sc := defScope s__law_bound) (by decide +kernel)) (by intro _ _ _ _ _; exact (dg_name (pg_name (i := 6) sc__law_bound.nd (by rfl) (by exact Or.inl rfl)))) (by intro _ _ _ _ _; exact dts_nil) ?h1 gok_name (by decide))) da_nil)))))))
  case h1 =>
    intro _ _ _ _ _
    exact (dp_call T.c__law_bound hr (by rfl) (da_cons (dp_var 6 (pv 6)) (da_cons (dp_var 1 (pv 1)) (da_cons (dp_var 5 (pv 5)) da_nil))))
set_option maxHeartbeats 4000000 in
theorem d__law_small (T : Tx P w K mg base n φ) {fa : Addr} (cdv : Value) (A : Around) (outer : List PySem.Env) (s : Shared) (H : Hp) (E : XK) (hr : Room n (A.deeper (PyProof.Rows.envOfC "_law_small" (defScope s__law_small) s.heap.objs.size fa cdv))) :
    DSs (cxOf CX0 P w K mg base N__law_small "_law_small" (defScope s__law_small) fa cdv A outer s H E).nox (defBody s__law_small) (B__law_small φ) := by
  refine (dss_cons (ds_set sc__law_small.nd rfl (Or.inl rfl) (de_p (dp_call T.c__law_leaf hr (by rfl) (da_cons (dp_div (dp_var 0 (pv 0)) dp_int) (da_cons (dp_var 1 (pv 1)) (da_cons (dp_var 2 (pv 2)) da_nil))))))
      (dss_cons (ds_set sc__law_small.nd rfl (Or.inl rfl) (de_p (dp_call T.c__law_leaf hr (by rfl) (da_cons (dp_div (dp_mod (dp_mul (dp_var 0 (pv 0)) dp_int) dp_int) dp_int) (da_cons (dp_var 1 (pv 1)) (da_cons (dp_var 2 (pv 2)) da_nil))))))
      (dss_cons (ds_set sc__law_small.nd rfl (Or.inl rfl) (de_p (dp_mod (dp_var 0 (pv 0)) dp_int)))
      (dss_cons (ds_if (dt_c (dc_ltG (hu64 hr) (dp_var 5 (pv 5)) dp_int)) (dss_one (ds_ret (dp_tup (da_cons (dp_ix (dp_n (dn_lst (da_cons dp_str (da_cons dp_str (da_cons dp_str da_nil))))) (dp_var 5 (pv 5)) (fun _ _ => rfl)) (da_cons (dp_var 3 (pv 3)) (da_cons (dp_var 4 (pv 4)) da_nil)))))) dss_nil)
      (dss_cons (ds_if (dt_c (dc_eq (hu190 hr) (dp_var 5 (pv 5)) dp_int)) (dss_one (ds_ret (dp_tup (da_cons dp_str (da_cons (dp_var 3 (pv 3)) da_nil))))) dss_nil)
      (dss_cons (ds_if (dt_c (dc_eq (hu190 hr) (dp_var 5 (pv 5)) dp_int)) (dss_one (ds_ret (dp_tup (da_cons (dp_ix (dp_n (dn_lst (da_cons dp_str (da_cons dp_str da_nil)))) (dp_mod (dp_div (dp_var 0 (pv 0)) dp_int) dp_int) (fun _ _ => rfl)) (da_cons (dp_call T.c__law_bound hr (by rfl) (da_cons (dp_var 3 (pv 3)) (da_cons (dp_ixv 2 (pv 2) (dp_mod (dp_div (dp_var 0 (pv 0)) dp_int) dp_int) (fun _ _ => rfl)) (da_cons dp_int da_nil)))) da_nil))))) dss_nil)
      (dss_one (ds_ret (dp_var 3 (pv 3))))))))))
set_option maxHeartbeats 4000000 in
theorem d__law_told (T : Tx P w K mg base n φ) {fa : Addr} (cdv : Value) (A : Around) (outer : List PySem.Env) (s : Shared) (H : Hp) (E : XK) (hr : Room n (A.deeper (PyProof.Rows.envOfC "_law_told" (defScope s__law_told) s.heap.objs.size fa cdv))) :
    DSs (cxOf CX0 P w K mg base N__law_told "_law_told" (defScope s__law_told) fa cdv A outer s H E).nox (defBody s__law_told) (B__law_told φ) := by
  refine (dss_cons (ds_set sc__law_told.nd rfl (Or.inl rfl) (de_p (dp_call T.c_closes hr (by rfl) (da_cons (dp_tuplec (by rfl) T.b_tuple (da_cons (dp_n (dn_sortc (hu64 hr) (by rfl) T.b_sorted (da_cons (dp_var 0 (pv 0)) da_nil))) da_nil)) da_nil))))
      (dss_one (ds_ret (dp_and (dp_isi .bool (by rfl) T.b_isinstance (dp_var 2 (pv 2)) (pe_tyInt (by rfl) T.b_bool boot_bool')) (dp_one (dp_c (dc_eq (hu190 hr) (dp_var 2 (pv 2)) (dp_var 1 (pv 1)))))))))
set_option maxHeartbeats 4000000 in
theorem d_law (T : Tx P w K mg base n φ) {fa : Addr} (cdv : Value) (A : Around) (outer : List PySem.Env) (s : Shared) (H : Hp) (E : XK) (hr : Room n (A.deeper (PyProof.Rows.envOfC "law" (defScope s_law) s.heap.objs.size fa cdv))) :
    DSs (cxOf CX0 P w K mg base N_law "law" (defScope s_law) fa cdv A outer s H E).nox (defBody s_law) (B_law φ) := by
  refine (dss_cons (ds_set sc_law.nd rfl (Or.inl rfl) (de_p (dp_call T.c__law_words hr (by rfl) (da_cons (dp_var 0 (pv 0)) da_nil))))
      (dss_cons (ds_set sc_law.nd rfl (Or.inl rfl) (de_p (dp_call T.c__law_names hr (by rfl) (da_cons (dp_var 0 (pv 0)) da_nil))))
      (dss_cons (ds_kdnew (i := 3) T.hT T.hF (hu16 hr) sc_law.nd rfl (Or.inl rfl) (KvP.cons (dp_tup (da_cons dp_str da_nil)) dp_str (KvP.cons (dp_tup (da_cons dp_str da_nil)) dp_str KvP.nil)) rfl rfl (by decide) (by decide))
      (dss_cons (ds_own sc_law.nd rfl (Or.inl rfl) (dn_lst da_nil))
      (dss_cons (ds_for PassesOwn.never rfl (di_e (dp_sl (dp_call T.c__law_cells hr (by rfl) (da_cons (dp_var 0 (pv 0)) (da_cons dp_int da_nil))) do_n (do_s dp_int))) (dg_name (pg_name (i := 5) sc_law.nd (by rfl) (Or.inl rfl))) (dss_cons (ds_set sc_law.nd rfl (Or.inl rfl) (de_p (dp_call T.c__law_small hr (by rfl) (da_cons (dp_mod (dp_div (dp_var 5 (pv 5)) dp_int) (dp_ix (dp_n (dn_lst (da_cons dp_int (da_cons (dp_pow dp_int dp_int) da_nil)))) (dp_mod (dp_var 5 (pv 5)) dp_int) (fun _ _ => rfl))) (da_cons (dp_var 1 (pv 1)) (da_cons (dp_var 2 (pv 2)) da_nil))))))
      (dss_cons (ds_kdset (i := 3) (j := 7) T.hT T.hF (hu16 hr) sc_law.nd rfl (Or.inl rfl) (pv 3) (dp_var 6 (pv 6)) (dp_ix (dp_n (dn_lst (da_cons dp_str (da_cons dp_str da_nil)))) (dp_mod (dp_div (dp_var 5 (pv 5)) dp_int) dp_int) (fun _ _ => rfl)) ⟨rfl, rfl, rfl, rfl⟩)
      (dss_one (ds_if (dt_c (dc_notIn (hu65 hr) (dp_tup (da_cons (dp_var 7 (pv 7)) (da_cons (dp_var 6 (pv 6)) da_nil))) (dp_var 4 (pv 4)))) (dss_one (ds_app (pv 4) (de_p (dp_tup (da_cons (dp_var 7 (pv 7)) (da_cons (dp_var 6 (pv 6)) da_nil)))) (ko_p 4))) dss_nil)))))
      (dss_cons (ds_if (dt_w (dw_or (dt_no (dt_e (dp_call T.c__law_told hr (by rfl) (da_cons (dp_var 4 (pv 4)) (da_cons dp_bl da_nil))))) (dw_or1 (dt_no (dt_e (dp_call T.c__law_told hr (by rfl) (da_cons (dp_n (dn_lst da_nil)) (da_cons dp_bl da_nil)))))))) (dss_one (ds_ret dp_bl)) dss_nil)
      (dss_cons (ds_forK PassesOwn.never rfl (pv 4) (dg_tup 2 (by rfl) (dgs_cons (dg_name (pg_name (i := 7) sc_law.nd (by rfl) (Or.inl rfl))) (dgs_cons (dg_name (pg_name (i := 6) sc_law.nd (by rfl) (Or.inl rfl))) dgs_nil))) (dt_no (dt_e (dp_call T.c__law_told hr (by rfl) (da_cons (dp_n (dn_lst (da_cons (dp_tup (da_cons (dp_var 7 (pv 7)) (da_cons (dp_var 6 (pv 6)) da_nil))) da_nil))) (da_cons dp_bl da_nil))))) dp_bl)
      (dss_cons (ds_set sc_law.nd rfl (Or.inl rfl) (de_p (dp_mod (dp_call T.c__law_cell hr (by rfl) (da_cons (dp_var 0 (pv 0)) (da_cons dp_int da_nil))) dp_int)))
      (dss_cons (ds_asg (de_p (dp_ixv 4 (pv 4) (dp_mod (dp_call T.c__law_cell hr (by rfl) (da_cons (dp_var 0 (pv 0)) (da_cons dp_int da_nil))) (dp_len (by rfl) T.b_len (da_cons (dp_var 4 (pv 4)) da_nil))) (fun _ _ => rfl))) (dg_tup 2 (by rfl) (dgs_cons (dg_name (pg_name (i := 7) sc_law.nd (by rfl) (Or.inl rfl))) (dgs_cons (dg_name (pg_name (i := 6) sc_law.nd (by rfl) (Or.inl rfl))) dgs_nil))))
      (dss_cons (ds_if (dt_c (dc_eq (hu190 hr) (dp_var 8 (pv 8)) dp_int)) (dss_one (ds_app (pv 4) (de_p (dp_tup (da_cons dp_str (da_cons (dp_tup (da_cons dp_str da_nil)) da_nil)))) (ko_p 4))) dss_nil)
      (dss_cons (ds_if (dt_c (dc_eq (hu190 hr) (dp_var 8 (pv 8)) dp_int)) (dss_one (ds_app (pv 4) (de_p (dp_tup (da_cons dp_str (da_cons (dp_tup (da_cons dp_str da_nil)) da_nil)))) (ko_p 4))) dss_nil)
      (dss_cons (ds_if (dt_c (dc_eq (hu190 hr) (dp_var 8 (pv 8)) dp_int)) (dss_one (ds_app (pv 4) (de_p (dp_tup (da_cons (dp_ix (dp_n (dn_lst (da_cons dp_str (da_cons dp_str da_nil)))) (dp_intc (by rfl) T.b_int (da_cons (dp_c (dc_eq (hu190 hr) (dp_var 7 (pv 7)) dp_str)) da_nil)) (fun _ _ => rfl)) (da_cons (dp_var 6 (pv 6)) da_nil)))) (ko_p 4))) dss_nil)
      (dss_cons (ds_if (dt_no (dt_e (dp_call T.c__law_told hr (by rfl) (da_cons (dp_var 4 (pv 4)) (da_cons (dp_c (dc_gt (dp_var 8 (pv 8)) dp_int)) da_nil))))) (dss_one (ds_ret dp_bl)) dss_nil)
      (dss_one (ds_ret (dp_and (dp_call T.c__law_told hr (by rfl) (da_cons (dp_n (dn_lst (da_cons (dp_tup (da_cons dp_str (da_cons (dp_var 6 (pv 6)) da_nil))) (da_cons (dp_tup (da_cons dp_str (da_cons (dp_var 6 (pv 6)) da_nil))) da_nil)))) (da_cons dp_bl da_nil))) (dp_one (dp_call T.c__law_told hr (by rfl) (da_cons (dp_n (dn_lst (da_cons (dp_tup (da_cons dp_str (da_cons (dp_tup (da_cons dp_str da_nil)) da_nil))) da_nil))) (da_cons dp_bl da_nil))))))))))))))))))))
end
def bodies (φ : Nat → List D → Option D) : Nat → List D → Option D
  | 0 => runB 3 (B_closes φ)
  | 1 => runB 3 (B__law_cell φ)
  | 2 => runB 4 (B__law_cells φ)
  | 3 => runB 5 (B__law_letters φ)
  | 4 => runB 5 (B__law_family φ)
  | 5 => runB 2 (B__law_wide φ)
  | 6 => runB 5 (B__law_words φ)
  | 7 => runB 3 (B__law_names φ)
  | 8 => runB 7 (B__law_leaf φ)
  | 9 => runB 7 (B__law_bound φ)
  | 10 => runB 6 (B__law_small φ)
  | 11 => runB 3 (B__law_told φ)
  | 12 => runB 9 (B_law φ)
  | _ => fun _ => none
def Phi : Nat → Nat → List D → Option D
  | 0 => fun _ _ => none
  | n + 1 => bodies (Phi n)
theorem Phi_closes (n : Nat) (ds : List D) : Phi (n + 1) 0 ds = runB 3 (B_closes (Phi n)) ds := rfl
theorem Phi__law_cell (n : Nat) (ds : List D) : Phi (n + 1) 1 ds = runB 3 (B__law_cell (Phi n)) ds := rfl
theorem Phi__law_cells (n : Nat) (ds : List D) : Phi (n + 1) 2 ds = runB 4 (B__law_cells (Phi n)) ds := rfl
theorem Phi__law_letters (n : Nat) (ds : List D) : Phi (n + 1) 3 ds = runB 5 (B__law_letters (Phi n)) ds := rfl
theorem Phi__law_family (n : Nat) (ds : List D) : Phi (n + 1) 4 ds = runB 5 (B__law_family (Phi n)) ds := rfl
theorem Phi__law_wide (n : Nat) (ds : List D) : Phi (n + 1) 5 ds = runB 2 (B__law_wide (Phi n)) ds := rfl
theorem Phi__law_words (n : Nat) (ds : List D) : Phi (n + 1) 6 ds = runB 5 (B__law_words (Phi n)) ds := rfl
theorem Phi__law_names (n : Nat) (ds : List D) : Phi (n + 1) 7 ds = runB 3 (B__law_names (Phi n)) ds := rfl
theorem Phi__law_leaf (n : Nat) (ds : List D) : Phi (n + 1) 8 ds = runB 7 (B__law_leaf (Phi n)) ds := rfl
theorem Phi__law_bound (n : Nat) (ds : List D) : Phi (n + 1) 9 ds = runB 7 (B__law_bound (Phi n)) ds := rfl
theorem Phi__law_small (n : Nat) (ds : List D) : Phi (n + 1) 10 ds = runB 6 (B__law_small (Phi n)) ds := rfl
theorem Phi__law_told (n : Nat) (ds : List D) : Phi (n + 1) 11 ds = runB 3 (B__law_told (Phi n)) ds := rfl
theorem Phi_law (n : Nat) (ds : List D) : Phi (n + 1) 12 ds = runB 9 (B_law (Phi n)) ds := rfl
theorem R_closes {n : Nat} {x0 : D} {Q : D → Prop} (h : Wp (B_closes (Phi n) [.val x0, .no, .no]) (retQ Q)) : Wp (fnL 1 (Phi (n + 1) 0) [x0]) Q := w_fnL rfl (by rw [Phi_closes]; exact w_runB h)
theorem R__law_cell {n : Nat} {x0 x1 : D} {Q : D → Prop} (h : Wp (B__law_cell (Phi n) [.val x0, .val x1, .no]) (retQ Q)) : Wp (fnL 2 (Phi (n + 1) 1) [x0, x1]) Q := w_fnL rfl (by rw [Phi__law_cell]; exact w_runB h)
theorem R__law_cells {n : Nat} {x0 x1 : D} {Q : D → Prop} (h : Wp (B__law_cells (Phi n) [.val x0, .val x1, .no, .no]) (retQ Q)) : Wp (fnL 2 (Phi (n + 1) 2) [x0, x1]) Q := w_fnL rfl (by rw [Phi__law_cells]; exact w_runB h)
theorem R__law_letters {n : Nat} {x0 x1 x2 : D} {Q : D → Prop} (h : Wp (B__law_letters (Phi n) [.val x0, .val x1, .val x2, .no, .no]) (retQ Q)) : Wp (fnL 3 (Phi (n + 1) 3) [x0, x1, x2]) Q := w_fnL rfl (by rw [Phi__law_letters]; exact w_runB h)
theorem R__law_family {n : Nat} {x0 x1 : D} {Q : D → Prop} (h : Wp (B__law_family (Phi n) [.val x0, .val x1, .no, .no, .no]) (retQ Q)) : Wp (fnL 2 (Phi (n + 1) 4) [x0, x1]) Q := w_fnL rfl (by rw [Phi__law_family]; exact w_runB h)
theorem R__law_wide {n : Nat} {x0 x1 : D} {Q : D → Prop} (h : Wp (B__law_wide (Phi n) [.val x0, .val x1]) (retQ Q)) : Wp (fnL 2 (Phi (n + 1) 5) [x0, x1]) Q := w_fnL rfl (by rw [Phi__law_wide]; exact w_runB h)
theorem R__law_words {n : Nat} {x0 : D} {Q : D → Prop} (h : Wp (B__law_words (Phi n) [.val x0, .no, .no, .no, .no]) (retQ Q)) : Wp (fnL 1 (Phi (n + 1) 6) [x0]) Q := w_fnL rfl (by rw [Phi__law_words]; exact w_runB h)
theorem R__law_names {n : Nat} {x0 : D} {Q : D → Prop} (h : Wp (B__law_names (Phi n) [.val x0, .no, .no]) (retQ Q)) : Wp (fnL 1 (Phi (n + 1) 7) [x0]) Q := w_fnL rfl (by rw [Phi__law_names]; exact w_runB h)
theorem R__law_leaf {n : Nat} {x0 x1 x2 : D} {Q : D → Prop} (h : Wp (B__law_leaf (Phi n) [.val x0, .val x1, .val x2, .no, .no, .no, .no]) (retQ Q)) : Wp (fnL 3 (Phi (n + 1) 8) [x0, x1, x2]) Q := w_fnL rfl (by rw [Phi__law_leaf]; exact w_runB h)
theorem R__law_bound {n : Nat} {x0 x1 x2 : D} {Q : D → Prop} (h : Wp (B__law_bound (Phi n) [.val x0, .val x1, .val x2, .no, .no, .no, .no]) (retQ Q)) : Wp (fnL 3 (Phi (n + 1) 9) [x0, x1, x2]) Q := w_fnL rfl (by rw [Phi__law_bound]; exact w_runB h)
theorem R__law_small {n : Nat} {x0 x1 x2 : D} {Q : D → Prop} (h : Wp (B__law_small (Phi n) [.val x0, .val x1, .val x2, .no, .no, .no]) (retQ Q)) : Wp (fnL 3 (Phi (n + 1) 10) [x0, x1, x2]) Q := w_fnL rfl (by rw [Phi__law_small]; exact w_runB h)
theorem R__law_told {n : Nat} {x0 x1 : D} {Q : D → Prop} (h : Wp (B__law_told (Phi n) [.val x0, .val x1, .no]) (retQ Q)) : Wp (fnL 2 (Phi (n + 1) 11) [x0, x1]) Q := w_fnL rfl (by rw [Phi__law_told]; exact w_runB h)
theorem R_law {n : Nat} {x0 : D} {Q : D → Prop} (h : Wp (B_law (Phi n) [.val x0, .no, .no, .no, .no, .no, .no, .no, .no]) (retQ Q)) : Wp (fnL 1 (Phi (n + 1) 12) [x0]) Q := w_fnL rfl (by rw [Phi_law]; exact w_runB h)
section
variable [Tbs]
structure Top (K : PySem.W.Frag) (mg : Str → Option Value) : Prop where
  b_bool : mg "bool" = none
  b_int : mg "int" = none
  b_isinstance : mg "isinstance" = none
  b_len : mg "len" = none
  b_list : mg "list" = none
  b_max : mg "max" = none
  b_min : mg "min" = none
  b_range : mg "range" = none
  b_sorted : mg "sorted" = none
  b_str : mg "str" = none
  b_tuple : mg "tuple" = none
  f_closes : ∃ fa fd, mg "closes" = some (.ref fa) ∧ Fun K "closes" "closes" s_closes fa fd ∧ Binds K fd ["row"] []
  f__law_cell : ∃ fa fd, mg "_law_cell" = some (.ref fa) ∧ Fun K "_law_cell" "_law_cell" s__law_cell fa fd ∧ Binds K fd ["_law_script", "_law_k"] []
  f__law_cells : ∃ fa fd, mg "_law_cells" = some (.ref fa) ∧ Fun K "_law_cells" "_law_cells" s__law_cells fa fd ∧ Binds K fd ["_law_script", "_law_least"] []
  f__law_letters : ∃ fa fd, mg "_law_letters" = some (.ref fa) ∧ Fun K "_law_letters" "_law_letters" s__law_letters fa fd ∧ Binds K fd ["_law_cell_here", "_law_first", "_law_later"] []
  f__law_family : ∃ fa fd, mg "_law_family" = some (.ref fa) ∧ Fun K "_law_family" "_law_family" s__law_family fa fd ∧ Binds K fd ["_law_cell_here", "_law_filler"] []
  f__law_wide : ∃ fa fd, mg "_law_wide" = some (.ref fa) ∧ Fun K "_law_wide" "_law_wide" s__law_wide fa fd ∧ Binds K fd ["_law_script", "_law_k"] []
  f__law_words : ∃ fa fd, mg "_law_words" = some (.ref fa) ∧ Fun K "_law_words" "_law_words" s__law_words fa fd ∧ Binds K fd ["_law_script"] []
  f__law_names : ∃ fa fd, mg "_law_names" = some (.ref fa) ∧ Fun K "_law_names" "_law_names" s__law_names fa fd ∧ Binds K fd ["_law_script"] []
  f__law_leaf : ∃ fa fd, mg "_law_leaf" = some (.ref fa) ∧ Fun K "_law_leaf" "_law_leaf" s__law_leaf fa fd ∧ Binds K fd ["_law_cell_here", "_law_words_here", "_law_names_here"] []
  f__law_bound : ∃ fa fd, mg "_law_bound" = some (.ref fa) ∧ Fun K "_law_bound" "_law_bound" s__law_bound fa fd ∧ Binds K fd ["_law_ka", "_law_name", "_law_deep"] []
  f__law_small : ∃ fa fd, mg "_law_small" = some (.ref fa) ∧ Fun K "_law_small" "_law_small" s__law_small fa fd ∧ Binds K fd ["_law_cell_here", "_law_words_here", "_law_names_here"] []
  f__law_told : ∃ fa fd, mg "_law_told" = some (.ref fa) ∧ Fun K "_law_told" "_law_told" s__law_told fa fd ∧ Binds K fd ["_law_row", "_law_due"] []
  f_law : ∃ fa fd, mg "law" = some (.ref fa) ∧ Fun K "law" "law" s_law fa fd ∧ Binds K fd ["_law_script"] []
theorem Top.all {P : Program} {w : World} {K : PySem.W.Frag} {mg : Str → Option Value} {base : Heap} (t : Top K mg) (hT : Tbs.T = []) (hF : Tbs.F = NDat P w) : ∀ n, Tx P w K mg base n (Phi n)
  | 0 => {
      hT := hT
      hF := hF
      b_bool := t.b_bool
      b_int := t.b_int
      b_isinstance := t.b_isinstance
      b_len := t.b_len
      b_list := t.b_list
      b_max := t.b_max
      b_min := t.b_min
      b_range := t.b_range
      b_sorted := t.b_sorted
      b_str := t.b_str
      b_tuple := t.b_tuple
      c_closes := let ⟨_, _, h1, h2, h3⟩ := t.f_closes; fok_zero h2 h1 h3 fun _ => rfl
      c__law_cell := let ⟨_, _, h1, h2, h3⟩ := t.f__law_cell; fok_zero h2 h1 h3 fun _ => rfl
      c__law_cells := let ⟨_, _, h1, h2, h3⟩ := t.f__law_cells; fok_zero h2 h1 h3 fun _ => rfl
      c__law_letters := let ⟨_, _, h1, h2, h3⟩ := t.f__law_letters; fok_zero h2 h1 h3 fun _ => rfl
      c__law_family := let ⟨_, _, h1, h2, h3⟩ := t.f__law_family; fok_zero h2 h1 h3 fun _ => rfl
      c__law_wide := let ⟨_, _, h1, h2, h3⟩ := t.f__law_wide; fok_zero h2 h1 h3 fun _ => rfl
      c__law_words := let ⟨_, _, h1, h2, h3⟩ := t.f__law_words; fok_zero h2 h1 h3 fun _ => rfl
      c__law_names := let ⟨_, _, h1, h2, h3⟩ := t.f__law_names; fok_zero h2 h1 h3 fun _ => rfl
      c__law_leaf := let ⟨_, _, h1, h2, h3⟩ := t.f__law_leaf; fok_zero h2 h1 h3 fun _ => rfl
      c__law_bound := let ⟨_, _, h1, h2, h3⟩ := t.f__law_bound; fok_zero h2 h1 h3 fun _ => rfl
      c__law_small := let ⟨_, _, h1, h2, h3⟩ := t.f__law_small; fok_zero h2 h1 h3 fun _ => rfl
      c__law_told := let ⟨_, _, h1, h2, h3⟩ := t.f__law_told; fok_zero h2 h1 h3 fun _ => rfl
      c_law := let ⟨_, _, h1, h2, h3⟩ := t.f_law; fok_zero h2 h1 h3 fun _ => rfl
    }
  | n + 1 => {
      hT := hT
      hF := hF
      b_bool := t.b_bool
      b_int := t.b_int
      b_isinstance := t.b_isinstance
      b_len := t.b_len
      b_list := t.b_list
      b_max := t.b_max
      b_min := t.b_min
      b_range := t.b_range
      b_sorted := t.b_sorted
      b_str := t.b_str
      b_tuple := t.b_tuple
      c_closes := let ⟨_, _, h1, h2, h3⟩ := t.f_closes; fok_mk h2 h1 sc_closes h3 (d_closes (t.all hT hF n))
      c__law_cell := let ⟨_, _, h1, h2, h3⟩ := t.f__law_cell; fok_mk h2 h1 sc__law_cell h3 (d__law_cell (t.all hT hF n))
      c__law_cells := let ⟨_, _, h1, h2, h3⟩ := t.f__law_cells; fok_mk h2 h1 sc__law_cells h3 (d__law_cells (t.all hT hF n))
      c__law_letters := let ⟨_, _, h1, h2, h3⟩ := t.f__law_letters; fok_mk h2 h1 sc__law_letters h3 (d__law_letters (t.all hT hF n))
      c__law_family := let ⟨_, _, h1, h2, h3⟩ := t.f__law_family; fok_mk h2 h1 sc__law_family h3 (d__law_family (t.all hT hF n))
      c__law_wide := let ⟨_, _, h1, h2, h3⟩ := t.f__law_wide; fok_mk h2 h1 sc__law_wide h3 (d__law_wide (t.all hT hF n))
      c__law_words := let ⟨_, _, h1, h2, h3⟩ := t.f__law_words; fok_mk h2 h1 sc__law_words h3 (d__law_words (t.all hT hF n))
      c__law_names := let ⟨_, _, h1, h2, h3⟩ := t.f__law_names; fok_mk h2 h1 sc__law_names h3 (d__law_names (t.all hT hF n))
      c__law_leaf := let ⟨_, _, h1, h2, h3⟩ := t.f__law_leaf; fok_mk h2 h1 sc__law_leaf h3 (d__law_leaf (t.all hT hF n))
      c__law_bound := let ⟨_, _, h1, h2, h3⟩ := t.f__law_bound; fok_mk h2 h1 sc__law_bound h3 (d__law_bound (t.all hT hF n))
      c__law_small := let ⟨_, _, h1, h2, h3⟩ := t.f__law_small; fok_mk h2 h1 sc__law_small h3 (d__law_small (t.all hT hF n))
      c__law_told := let ⟨_, _, h1, h2, h3⟩ := t.f__law_told; fok_mk h2 h1 sc__law_told h3 (d__law_told (t.all hT hF n))
      c_law := let ⟨_, _, h1, h2, h3⟩ := t.f_law; fok_mk h2 h1 sc_law h3 (d_law (t.all hT hF n))
    }
section
variable {K : PySem.W.Frag} {h : Heap} {mg : Str → Option Value}
set_option maxHeartbeats 8000000 in
theorem mk_top {f0 : Addr} {od0 an0 : Option Addr} {sl0 : Array (Option Value)} {oc0 kV0 dc0 pm0 cd0 ct0 : Value}
    {f1 : Addr} {od1 an1 : Option Addr} {sl1 : Array (Option Value)} {oc1 kV1 dc1 pm1 cd1 ct1 : Value}
    {f2 : Addr} {od2 an2 : Option Addr} {sl2 : Array (Option Value)} {oc2 kV2 dc2 pm2 cd2 ct2 : Value}
    {f3 : Addr} {od3 an3 : Option Addr} {sl3 : Array (Option Value)} {oc3 kV3 dc3 pm3 cd3 ct3 : Value}
    {f4 : Addr} {od4 an4 : Option Addr} {sl4 : Array (Option Value)} {oc4 kV4 dc4 pm4 cd4 ct4 : Value}
    {f5 : Addr} {od5 an5 : Option Addr} {sl5 : Array (Option Value)} {oc5 kV5 dc5 pm5 cd5 ct5 : Value}
    {f6 : Addr} {od6 an6 : Option Addr} {sl6 : Array (Option Value)} {oc6 kV6 dc6 pm6 cd6 ct6 : Value}
    {f7 : Addr} {od7 an7 : Option Addr} {sl7 : Array (Option Value)} {oc7 kV7 dc7 pm7 cd7 ct7 : Value}
    {f8 : Addr} {od8 an8 : Option Addr} {sl8 : Array (Option Value)} {oc8 kV8 dc8 pm8 cd8 ct8 : Value}
    {f9 : Addr} {od9 an9 : Option Addr} {sl9 : Array (Option Value)} {oc9 kV9 dc9 pm9 cd9 ct9 : Value}
    {f10 : Addr} {od10 an10 : Option Addr} {sl10 : Array (Option Value)} {oc10 kV10 dc10 pm10 cd10 ct10 : Value}
    {f11 : Addr} {od11 an11 : Option Addr} {sl11 : Array (Option Value)} {oc11 kV11 dc11 pm11 cd11 ct11 : Value}
    {f12 : Addr} {od12 an12 : Option Addr} {sl12 : Array (Option Value)} {oc12 kV12 dc12 pm12 cd12 ct12 : Value} (X : K.In h) (G : h.Ns mainGlobals mg) (a0 : PySem.W.nsIn K mainGlobals "closes" = some (some (.ref f0))) (l0 : K.lookup f0 = some ⟨oc0, od0, .func (PySem.W.fnOf "closes" "closes" (defArgs s_closes) (defBody s_closes) (defScope s_closes) .none kV0 dc0 pm0 an0 cd0 ct0), sl0⟩) (c0 : PySem.W.codeIn K cd0 "closes" = true) (k0 : PySem.W.keepIn K (.ref f0) = true)
    (a1 : PySem.W.nsIn K mainGlobals "_law_cell" = some (some (.ref f1))) (l1 : K.lookup f1 = some ⟨oc1, od1, .func (PySem.W.fnOf "_law_cell" "_law_cell" (defArgs s__law_cell) (defBody s__law_cell) (defScope s__law_cell) .none kV1 dc1 pm1 an1 cd1 ct1), sl1⟩) (c1 : PySem.W.codeIn K cd1 "_law_cell" = true) (k1 : PySem.W.keepIn K (.ref f1) = true)
    (a2 : PySem.W.nsIn K mainGlobals "_law_cells" = some (some (.ref f2))) (l2 : K.lookup f2 = some ⟨oc2, od2, .func (PySem.W.fnOf "_law_cells" "_law_cells" (defArgs s__law_cells) (defBody s__law_cells) (defScope s__law_cells) .none kV2 dc2 pm2 an2 cd2 ct2), sl2⟩) (c2 : PySem.W.codeIn K cd2 "_law_cells" = true) (k2 : PySem.W.keepIn K (.ref f2) = true)
    (a3 : PySem.W.nsIn K mainGlobals "_law_letters" = some (some (.ref f3))) (l3 : K.lookup f3 = some ⟨oc3, od3, .func (PySem.W.fnOf "_law_letters" "_law_letters" (defArgs s__law_letters) (defBody s__law_letters) (defScope s__law_letters) .none kV3 dc3 pm3 an3 cd3 ct3), sl3⟩) (c3 : PySem.W.codeIn K cd3 "_law_letters" = true) (k3 : PySem.W.keepIn K (.ref f3) = true)
    (a4 : PySem.W.nsIn K mainGlobals "_law_family" = some (some (.ref f4))) (l4 : K.lookup f4 = some ⟨oc4, od4, .func (PySem.W.fnOf "_law_family" "_law_family" (defArgs s__law_family) (defBody s__law_family) (defScope s__law_family) .none kV4 dc4 pm4 an4 cd4 ct4), sl4⟩) (c4 : PySem.W.codeIn K cd4 "_law_family" = true) (k4 : PySem.W.keepIn K (.ref f4) = true)
    (a5 : PySem.W.nsIn K mainGlobals "_law_wide" = some (some (.ref f5))) (l5 : K.lookup f5 = some ⟨oc5, od5, .func (PySem.W.fnOf "_law_wide" "_law_wide" (defArgs s__law_wide) (defBody s__law_wide) (defScope s__law_wide) .none kV5 dc5 pm5 an5 cd5 ct5), sl5⟩) (c5 : PySem.W.codeIn K cd5 "_law_wide" = true) (k5 : PySem.W.keepIn K (.ref f5) = true)
    (a6 : PySem.W.nsIn K mainGlobals "_law_words" = some (some (.ref f6))) (l6 : K.lookup f6 = some ⟨oc6, od6, .func (PySem.W.fnOf "_law_words" "_law_words" (defArgs s__law_words) (defBody s__law_words) (defScope s__law_words) .none kV6 dc6 pm6 an6 cd6 ct6), sl6⟩) (c6 : PySem.W.codeIn K cd6 "_law_words" = true) (k6 : PySem.W.keepIn K (.ref f6) = true)
    (a7 : PySem.W.nsIn K mainGlobals "_law_names" = some (some (.ref f7))) (l7 : K.lookup f7 = some ⟨oc7, od7, .func (PySem.W.fnOf "_law_names" "_law_names" (defArgs s__law_names) (defBody s__law_names) (defScope s__law_names) .none kV7 dc7 pm7 an7 cd7 ct7), sl7⟩) (c7 : PySem.W.codeIn K cd7 "_law_names" = true) (k7 : PySem.W.keepIn K (.ref f7) = true)
    (a8 : PySem.W.nsIn K mainGlobals "_law_leaf" = some (some (.ref f8))) (l8 : K.lookup f8 = some ⟨oc8, od8, .func (PySem.W.fnOf "_law_leaf" "_law_leaf" (defArgs s__law_leaf) (defBody s__law_leaf) (defScope s__law_leaf) .none kV8 dc8 pm8 an8 cd8 ct8), sl8⟩) (c8 : PySem.W.codeIn K cd8 "_law_leaf" = true) (k8 : PySem.W.keepIn K (.ref f8) = true)
    (a9 : PySem.W.nsIn K mainGlobals "_law_bound" = some (some (.ref f9))) (l9 : K.lookup f9 = some ⟨oc9, od9, .func (PySem.W.fnOf "_law_bound" "_law_bound" (defArgs s__law_bound) (defBody s__law_bound) (defScope s__law_bound) .none kV9 dc9 pm9 an9 cd9 ct9), sl9⟩) (c9 : PySem.W.codeIn K cd9 "_law_bound" = true) (k9 : PySem.W.keepIn K (.ref f9) = true)
    (a10 : PySem.W.nsIn K mainGlobals "_law_small" = some (some (.ref f10))) (l10 : K.lookup f10 = some ⟨oc10, od10, .func (PySem.W.fnOf "_law_small" "_law_small" (defArgs s__law_small) (defBody s__law_small) (defScope s__law_small) .none kV10 dc10 pm10 an10 cd10 ct10), sl10⟩) (c10 : PySem.W.codeIn K cd10 "_law_small" = true) (k10 : PySem.W.keepIn K (.ref f10) = true)
    (a11 : PySem.W.nsIn K mainGlobals "_law_told" = some (some (.ref f11))) (l11 : K.lookup f11 = some ⟨oc11, od11, .func (PySem.W.fnOf "_law_told" "_law_told" (defArgs s__law_told) (defBody s__law_told) (defScope s__law_told) .none kV11 dc11 pm11 an11 cd11 ct11), sl11⟩) (c11 : PySem.W.codeIn K cd11 "_law_told" = true) (k11 : PySem.W.keepIn K (.ref f11) = true)
    (a12 : PySem.W.nsIn K mainGlobals "law" = some (some (.ref f12))) (l12 : K.lookup f12 = some ⟨oc12, od12, .func (PySem.W.fnOf "law" "law" (defArgs s_law) (defBody s_law) (defScope s_law) .none kV12 dc12 pm12 an12 cd12 ct12), sl12⟩) (c12 : PySem.W.codeIn K cd12 "law" = true) (k12 : PySem.W.keepIn K (.ref f12) = true)
    (z_bool : PySem.W.nsIn K mainGlobals "bool" = some none)
    (z_int : PySem.W.nsIn K mainGlobals "int" = some none)
    (z_isinstance : PySem.W.nsIn K mainGlobals "isinstance" = some none)
    (z_len : PySem.W.nsIn K mainGlobals "len" = some none)
    (z_list : PySem.W.nsIn K mainGlobals "list" = some none)
    (z_max : PySem.W.nsIn K mainGlobals "max" = some none)
    (z_min : PySem.W.nsIn K mainGlobals "min" = some none)
    (z_range : PySem.W.nsIn K mainGlobals "range" = some none)
    (z_sorted : PySem.W.nsIn K mainGlobals "sorted" = some none)
    (z_str : PySem.W.nsIn K mainGlobals "str" = some none)
    (z_tuple : PySem.W.nsIn K mainGlobals "tuple" = some none) : Top K mg where
  b_bool := PySem.W.mg_none_of X G z_bool
  b_int := PySem.W.mg_none_of X G z_int
  b_isinstance := PySem.W.mg_none_of X G z_isinstance
  b_len := PySem.W.mg_none_of X G z_len
  b_list := PySem.W.mg_none_of X G z_list
  b_max := PySem.W.mg_none_of X G z_max
  b_min := PySem.W.mg_none_of X G z_min
  b_range := PySem.W.mg_none_of X G z_range
  b_sorted := PySem.W.mg_none_of X G z_sorted
  b_str := PySem.W.mg_none_of X G z_str
  b_tuple := PySem.W.mg_none_of X G z_tuple
  f_closes := ⟨f0, _, PySem.W.mg_of X G a0, fun_mk l0 c0 k0, (fun_mk (st := s_closes) l0 c0 k0).binds fun _ _ _ _ _ _ us hl => match us, hl with | [_], _ => rfl⟩
  f__law_cell := ⟨f1, _, PySem.W.mg_of X G a1, fun_mk l1 c1 k1, (fun_mk (st := s__law_cell) l1 c1 k1).binds fun _ _ _ _ _ _ us hl => match us, hl with | [_, _], _ => rfl⟩
  f__law_cells := ⟨f2, _, PySem.W.mg_of X G a2, fun_mk l2 c2 k2, (fun_mk (st := s__law_cells) l2 c2 k2).binds fun _ _ _ _ _ _ us hl => match us, hl with | [_, _], _ => rfl⟩
  f__law_letters := ⟨f3, _, PySem.W.mg_of X G a3, fun_mk l3 c3 k3, (fun_mk (st := s__law_letters) l3 c3 k3).binds fun _ _ _ _ _ _ us hl => match us, hl with | [_, _, _], _ => rfl⟩
  f__law_family := ⟨f4, _, PySem.W.mg_of X G a4, fun_mk l4 c4 k4, (fun_mk (st := s__law_family) l4 c4 k4).binds fun _ _ _ _ _ _ us hl => match us, hl with | [_, _], _ => rfl⟩
  f__law_wide := ⟨f5, _, PySem.W.mg_of X G a5, fun_mk l5 c5 k5, (fun_mk (st := s__law_wide) l5 c5 k5).binds fun _ _ _ _ _ _ us hl => match us, hl with | [_, _], _ => rfl⟩
  f__law_words := ⟨f6, _, PySem.W.mg_of X G a6, fun_mk l6 c6 k6, (fun_mk (st := s__law_words) l6 c6 k6).binds fun _ _ _ _ _ _ us hl => match us, hl with | [_], _ => rfl⟩
  f__law_names := ⟨f7, _, PySem.W.mg_of X G a7, fun_mk l7 c7 k7, (fun_mk (st := s__law_names) l7 c7 k7).binds fun _ _ _ _ _ _ us hl => match us, hl with | [_], _ => rfl⟩
  f__law_leaf := ⟨f8, _, PySem.W.mg_of X G a8, fun_mk l8 c8 k8, (fun_mk (st := s__law_leaf) l8 c8 k8).binds fun _ _ _ _ _ _ us hl => match us, hl with | [_, _, _], _ => rfl⟩
  f__law_bound := ⟨f9, _, PySem.W.mg_of X G a9, fun_mk l9 c9 k9, (fun_mk (st := s__law_bound) l9 c9 k9).binds fun _ _ _ _ _ _ us hl => match us, hl with | [_, _, _], _ => rfl⟩
  f__law_small := ⟨f10, _, PySem.W.mg_of X G a10, fun_mk l10 c10 k10, (fun_mk (st := s__law_small) l10 c10 k10).binds fun _ _ _ _ _ _ us hl => match us, hl with | [_, _, _], _ => rfl⟩
  f__law_told := ⟨f11, _, PySem.W.mg_of X G a11, fun_mk l11 c11 k11, (fun_mk (st := s__law_told) l11 c11 k11).binds fun _ _ _ _ _ _ us hl => match us, hl with | [_, _], _ => rfl⟩
  f_law := ⟨f12, _, PySem.W.mg_of X G a12, fun_mk l12 c12 k12, (fun_mk (st := s_law) l12 c12 k12).binds fun _ _ _ _ _ _ us hl => match us, hl with | [_], _ => rfl⟩
end
theorem fin {P : Program} {w : World} {K : PySem.W.Frag} {h : Heap} {mg : Str → Option Value} {fa : Addr} (n : Nat) (hT : Tbs.T = []) (hF : Tbs.F = NDat P w) {f0 : Addr} {od0 an0 : Option Addr} {sl0 : Array (Option Value)} {oc0 kV0 dc0 pm0 cd0 ct0 : Value}
    {f1 : Addr} {od1 an1 : Option Addr} {sl1 : Array (Option Value)} {oc1 kV1 dc1 pm1 cd1 ct1 : Value}
    {f2 : Addr} {od2 an2 : Option Addr} {sl2 : Array (Option Value)} {oc2 kV2 dc2 pm2 cd2 ct2 : Value}
    {f3 : Addr} {od3 an3 : Option Addr} {sl3 : Array (Option Value)} {oc3 kV3 dc3 pm3 cd3 ct3 : Value}
    {f4 : Addr} {od4 an4 : Option Addr} {sl4 : Array (Option Value)} {oc4 kV4 dc4 pm4 cd4 ct4 : Value}
    {f5 : Addr} {od5 an5 : Option Addr} {sl5 : Array (Option Value)} {oc5 kV5 dc5 pm5 cd5 ct5 : Value}
    {f6 : Addr} {od6 an6 : Option Addr} {sl6 : Array (Option Value)} {oc6 kV6 dc6 pm6 cd6 ct6 : Value}
    {f7 : Addr} {od7 an7 : Option Addr} {sl7 : Array (Option Value)} {oc7 kV7 dc7 pm7 cd7 ct7 : Value}
    {f8 : Addr} {od8 an8 : Option Addr} {sl8 : Array (Option Value)} {oc8 kV8 dc8 pm8 cd8 ct8 : Value}
    {f9 : Addr} {od9 an9 : Option Addr} {sl9 : Array (Option Value)} {oc9 kV9 dc9 pm9 cd9 ct9 : Value}
    {f10 : Addr} {od10 an10 : Option Addr} {sl10 : Array (Option Value)} {oc10 kV10 dc10 pm10 cd10 ct10 : Value}
    {f11 : Addr} {od11 an11 : Option Addr} {sl11 : Array (Option Value)} {oc11 kV11 dc11 pm11 cd11 ct11 : Value}
    {f12 : Addr} {od12 an12 : Option Addr} {sl12 : Array (Option Value)} {oc12 kV12 dc12 pm12 cd12 ct12 : Value} (X : K.In h) (G : h.Ns mainGlobals mg) (hfa : mg "law" = some (.ref fa)) (a0 : PySem.W.nsIn K mainGlobals "closes" = some (some (.ref f0))) (l0 : K.lookup f0 = some ⟨oc0, od0, .func (PySem.W.fnOf "closes" "closes" (defArgs s_closes) (defBody s_closes) (defScope s_closes) .none kV0 dc0 pm0 an0 cd0 ct0), sl0⟩) (c0 : PySem.W.codeIn K cd0 "closes" = true) (k0 : PySem.W.keepIn K (.ref f0) = true)
    (a1 : PySem.W.nsIn K mainGlobals "_law_cell" = some (some (.ref f1))) (l1 : K.lookup f1 = some ⟨oc1, od1, .func (PySem.W.fnOf "_law_cell" "_law_cell" (defArgs s__law_cell) (defBody s__law_cell) (defScope s__law_cell) .none kV1 dc1 pm1 an1 cd1 ct1), sl1⟩) (c1 : PySem.W.codeIn K cd1 "_law_cell" = true) (k1 : PySem.W.keepIn K (.ref f1) = true)
    (a2 : PySem.W.nsIn K mainGlobals "_law_cells" = some (some (.ref f2))) (l2 : K.lookup f2 = some ⟨oc2, od2, .func (PySem.W.fnOf "_law_cells" "_law_cells" (defArgs s__law_cells) (defBody s__law_cells) (defScope s__law_cells) .none kV2 dc2 pm2 an2 cd2 ct2), sl2⟩) (c2 : PySem.W.codeIn K cd2 "_law_cells" = true) (k2 : PySem.W.keepIn K (.ref f2) = true)
    (a3 : PySem.W.nsIn K mainGlobals "_law_letters" = some (some (.ref f3))) (l3 : K.lookup f3 = some ⟨oc3, od3, .func (PySem.W.fnOf "_law_letters" "_law_letters" (defArgs s__law_letters) (defBody s__law_letters) (defScope s__law_letters) .none kV3 dc3 pm3 an3 cd3 ct3), sl3⟩) (c3 : PySem.W.codeIn K cd3 "_law_letters" = true) (k3 : PySem.W.keepIn K (.ref f3) = true)
    (a4 : PySem.W.nsIn K mainGlobals "_law_family" = some (some (.ref f4))) (l4 : K.lookup f4 = some ⟨oc4, od4, .func (PySem.W.fnOf "_law_family" "_law_family" (defArgs s__law_family) (defBody s__law_family) (defScope s__law_family) .none kV4 dc4 pm4 an4 cd4 ct4), sl4⟩) (c4 : PySem.W.codeIn K cd4 "_law_family" = true) (k4 : PySem.W.keepIn K (.ref f4) = true)
    (a5 : PySem.W.nsIn K mainGlobals "_law_wide" = some (some (.ref f5))) (l5 : K.lookup f5 = some ⟨oc5, od5, .func (PySem.W.fnOf "_law_wide" "_law_wide" (defArgs s__law_wide) (defBody s__law_wide) (defScope s__law_wide) .none kV5 dc5 pm5 an5 cd5 ct5), sl5⟩) (c5 : PySem.W.codeIn K cd5 "_law_wide" = true) (k5 : PySem.W.keepIn K (.ref f5) = true)
    (a6 : PySem.W.nsIn K mainGlobals "_law_words" = some (some (.ref f6))) (l6 : K.lookup f6 = some ⟨oc6, od6, .func (PySem.W.fnOf "_law_words" "_law_words" (defArgs s__law_words) (defBody s__law_words) (defScope s__law_words) .none kV6 dc6 pm6 an6 cd6 ct6), sl6⟩) (c6 : PySem.W.codeIn K cd6 "_law_words" = true) (k6 : PySem.W.keepIn K (.ref f6) = true)
    (a7 : PySem.W.nsIn K mainGlobals "_law_names" = some (some (.ref f7))) (l7 : K.lookup f7 = some ⟨oc7, od7, .func (PySem.W.fnOf "_law_names" "_law_names" (defArgs s__law_names) (defBody s__law_names) (defScope s__law_names) .none kV7 dc7 pm7 an7 cd7 ct7), sl7⟩) (c7 : PySem.W.codeIn K cd7 "_law_names" = true) (k7 : PySem.W.keepIn K (.ref f7) = true)
    (a8 : PySem.W.nsIn K mainGlobals "_law_leaf" = some (some (.ref f8))) (l8 : K.lookup f8 = some ⟨oc8, od8, .func (PySem.W.fnOf "_law_leaf" "_law_leaf" (defArgs s__law_leaf) (defBody s__law_leaf) (defScope s__law_leaf) .none kV8 dc8 pm8 an8 cd8 ct8), sl8⟩) (c8 : PySem.W.codeIn K cd8 "_law_leaf" = true) (k8 : PySem.W.keepIn K (.ref f8) = true)
    (a9 : PySem.W.nsIn K mainGlobals "_law_bound" = some (some (.ref f9))) (l9 : K.lookup f9 = some ⟨oc9, od9, .func (PySem.W.fnOf "_law_bound" "_law_bound" (defArgs s__law_bound) (defBody s__law_bound) (defScope s__law_bound) .none kV9 dc9 pm9 an9 cd9 ct9), sl9⟩) (c9 : PySem.W.codeIn K cd9 "_law_bound" = true) (k9 : PySem.W.keepIn K (.ref f9) = true)
    (a10 : PySem.W.nsIn K mainGlobals "_law_small" = some (some (.ref f10))) (l10 : K.lookup f10 = some ⟨oc10, od10, .func (PySem.W.fnOf "_law_small" "_law_small" (defArgs s__law_small) (defBody s__law_small) (defScope s__law_small) .none kV10 dc10 pm10 an10 cd10 ct10), sl10⟩) (c10 : PySem.W.codeIn K cd10 "_law_small" = true) (k10 : PySem.W.keepIn K (.ref f10) = true)
    (a11 : PySem.W.nsIn K mainGlobals "_law_told" = some (some (.ref f11))) (l11 : K.lookup f11 = some ⟨oc11, od11, .func (PySem.W.fnOf "_law_told" "_law_told" (defArgs s__law_told) (defBody s__law_told) (defScope s__law_told) .none kV11 dc11 pm11 an11 cd11 ct11), sl11⟩) (c11 : PySem.W.codeIn K cd11 "_law_told" = true) (k11 : PySem.W.keepIn K (.ref f11) = true)
    (a12 : PySem.W.nsIn K mainGlobals "law" = some (some (.ref f12))) (l12 : K.lookup f12 = some ⟨oc12, od12, .func (PySem.W.fnOf "law" "law" (defArgs s_law) (defBody s_law) (defScope s_law) .none kV12 dc12 pm12 an12 cd12 ct12), sl12⟩) (c12 : PySem.W.codeIn K cd12 "law" = true) (k12 : PySem.W.keepIn K (.ref f12) = true)
    (z_bool : PySem.W.nsIn K mainGlobals "bool" = some none)
    (z_int : PySem.W.nsIn K mainGlobals "int" = some none)
    (z_isinstance : PySem.W.nsIn K mainGlobals "isinstance" = some none)
    (z_len : PySem.W.nsIn K mainGlobals "len" = some none)
    (z_list : PySem.W.nsIn K mainGlobals "list" = some none)
    (z_max : PySem.W.nsIn K mainGlobals "max" = some none)
    (z_min : PySem.W.nsIn K mainGlobals "min" = some none)
    (z_range : PySem.W.nsIn K mainGlobals "range" = some none)
    (z_sorted : PySem.W.nsIn K mainGlobals "sorted" = some none)
    (z_str : PySem.W.nsIn K mainGlobals "str" = some none)
    (z_tuple : PySem.W.nsIn K mainGlobals "tuple" = some none) :
    ∃ fd : FuncData, (∀ (s : Shared) (v : Value), BindsTo s fd ⟨[v], []⟩ [("_law_script", v)]) ∧ ∀ base : Heap, K.In base → base.Ns mainGlobals mg → FnOk P w K mg base CX0 (n + 1) fa fd ["_law_script"] (spD K (Phi (n + 1) 12) 1) := by
  have t : Top K mg := mk_top X G a0 l0 c0 k0 a1 l1 c1 k1 a2 l2 c2 k2 a3 l3 c3 k3 a4 l4 c4 k4 a5 l5 c5 k5 a6 l6 c6 k6 a7 l7 c7 k7 a8 l8 c8 k8 a9 l9 c9 k9 a10 l10 c10 k10 a11 l11 c11 k11 a12 l12 c12 k12 z_bool z_int z_isinstance z_len z_list z_max z_min z_range z_sorted z_str z_tuple
  have e := hfa.symm.trans (PySem.W.mg_of X G a12)
  cases e
  exact ⟨_, fun s v => .of_eq rfl, fun base _ _ => fn_mk (fun_mk (st := s_law) l12 c12 k12) sc_law (d_law (t.all hT hF n))⟩
end
end G

/-! Names, words, places; the names and words of statements. -/
namespace ST
open PySem L2 DL
def low (c : Nat) : Bool := decide (97 ≤ c ∧ c ≤ 122)
def fgr (c : Nat) : Bool := decide (48 ≤ c ∧ c ≤ 57)
/-- begins with a figure -/
def isF (x : Str) : Bool := match x.cps.toList with
  | [] => false
  | c :: _ => fgr c
structure Nm (x : Str) : Prop where
  hd : ∃ c r, x.cps.toList = c :: r ∧ low c = true
  all : ∀ c ∈ x.cps.toList, low c = true ∨ fgr c = true
  len : x.length ≤ 9
structure Wd (x : Str) : Prop where
  ne : 1 ≤ x.length
  all : ∀ c ∈ x.cps.toList, low c = true
  len : x.length ≤ 9
theorem Nm.noF {x : Str} (h : Nm x) : isF x = false := by
  obtain ⟨c, r, e, hc⟩ := h.hd
  unfold isF
  rw [e]
  show fgr c = false
  unfold low at hc
  unfold fgr
  simp only [decide_eq_true_eq] at hc
  exact decide_eq_false (by omega)
theorem Nm.ne {x : Str} (h : Nm x) : x.cps.toList ≠ [] := by
  obtain ⟨c, r, e, _⟩ := h.hd
  rw [e]
  simp
theorem figs_eq : ("0123456789" : Str).cps.toList = [48, 49, 50, 51, 52, 53, 54, 55, 56, 57] := by decide +kernel
theorem fgr_iff {c : Nat} : c ∈ ("0123456789" : Str).cps.toList ↔ fgr c = true := by
  rw [figs_eq]
  unfold fgr
  simp only [List.mem_cons, List.not_mem_nil, or_false, decide_eq_true_eq]
  omega
def pn (d : Int) : Str := toString d
theorem pn_fig : ((List.range 64).all fun d => isF (pn (d : Nat)) && !(pn (d : Nat)).cps.toList.isEmpty) = true := by decide +kernel
theorem pn_inj0 : ((List.range 64).all fun d => (List.range 64).all fun e => decide (d = e) || !(pn (d : Nat) == pn (e : Nat))) = true := by decide +kernel
theorem pn_F {d : Int} (h0 : 0 ≤ d) (h1 : d < 64) : isF (pn d) = true := by
  obtain ⟨n, rfl⟩ := Int.eq_ofNat_of_zero_le h0
  have z := List.all_eq_true.mp pn_fig n (List.mem_range.mpr (by omega))
  exact (Bool.and_eq_true_iff.mp z).1
theorem pn_ne {d : Int} (h0 : 0 ≤ d) (h1 : d < 64) : (pn d).cps.toList ≠ [] := by
  obtain ⟨n, rfl⟩ := Int.eq_ofNat_of_zero_le h0
  have z := List.all_eq_true.mp pn_fig n (List.mem_range.mpr (by omega))
  have y := (Bool.and_eq_true_iff.mp z).2
  simpa using y
theorem pn_inj {d e : Int} (h0 : 0 ≤ d) (h1 : d < 64) (k0 : 0 ≤ e) (k1 : e < 64) (h : pn d = pn e) : d = e := by
  obtain ⟨n, rfl⟩ := Int.eq_ofNat_of_zero_le h0
  obtain ⟨m, rfl⟩ := Int.eq_ofNat_of_zero_le k0
  have z := List.all_eq_true.mp (List.all_eq_true.mp pn_inj0 n (List.mem_range.mpr (by omega))) m (List.mem_range.mpr (by omega))
  rcases Bool.or_eq_true_iff.mp z with y | y
  · have : n = m := by simpa using y
    subst this
    rfl
  · have h' : pn ((n : Nat) : Int) = pn ((m : Nat) : Int) := h
    rw [h'] at y
    simp at y
theorem nm_pn {x : Str} (h : Nm x) {d : Int} (h0 : 0 ≤ d) (h1 : d < 64) : x ≠ pn d := fun e => by
  have z := h.noF
  rw [e, pn_F h0 h1] at z
  cases z
/-- a term: a name or a place -/
def Tm (x : Str) : Prop := Nm x ∨ ∃ d : Int, 0 ≤ d ∧ d < 64 ∧ x = pn d
theorem Tm.ne {x : Str} (h : Tm x) : x.cps.toList ≠ [] := by
  rcases h with h | ⟨d, h0, h1, rfl⟩
  · exact h.ne
  · exact pn_ne h0 h1
theorem Tm.nm {x : Str} (h : Tm x) (f : isF x = false) : Nm x := by
  rcases h with h | ⟨d, h0, h1, rfl⟩
  · exact h
  · rw [pn_F h0 h1] at f
    cases f
/-- terms of a statement, words -/
def trm : Stm → List Str
  | .yn _ => []
  | .word _ ts => ts
  | .un _ a => trm a
  | .bin _ a b => trm a ++ trm b
def nms (a : Stm) : List Str := (trm a).filter fun t => !isF t
def lvs : Stm → List (Str × List Str)
  | .yn _ => []
  | .word w ts => [(w, ts)]
  | .un _ a => lvs a
  | .bin _ a b => lvs a ++ lvs b
def wds (a : Stm) : List (Str × Nat) := (lvs a).map fun p => (p.1, p.2.length)
def termsOk (a : Stm) : Prop := ∀ t ∈ trm a, Tm t
theorem lvs_trm : ∀ a : Stm, ((lvs a).map (·.2)).flatten = trm a
  | .yn _ => rfl
  | .word w ts => by simp [lvs, trm]
  | .un _ a => lvs_trm a
  | .bin _ a b => by simp [lvs, trm, lvs_trm a, lvs_trm b]
theorem lvs_len : ∀ a : Stm, (lvs a).length ≤ sgn a + 1
  | .yn _ => Nat.zero_le _
  | .word _ _ => Nat.le_refl _
  | .un _ a => Nat.le_succ_of_le (lvs_len a)
  | .bin _ a b => by
    have h1 := lvs_len a
    have h2 := lvs_len b
    show (lvs a ++ lvs b).length ≤ sgn a + sgn b + 1 + 1
    rw [List.length_append]
    omega
theorem trm_len : ∀ {a : Stm}, short a → (trm a).length ≤ 3 * (sgn a + 1)
  | .yn _, _ => Nat.zero_le _
  | .word _ _, h => h
  | .un _ a, h => by
    have := trm_len (a := a) h
    show (trm a).length ≤ 3 * (sgn a + 1 + 1)
    omega
  | .bin _ a b, h => by
    have h1 := trm_len (a := a) h.1
    have h2 := trm_len (a := b) h.2
    show (trm a ++ trm b).length ≤ 3 * (sgn a + sgn b + 1 + 1)
    rw [List.length_append]
    omega
theorem trm_bind (nm : Str) : ∀ (d : Int) (a : Stm) {t : Str}, 0 ≤ d → t ∈ trm (bindS nm d a) → (t ∈ trm a ∧ t ≠ nm) ∨ ∃ e, d ≤ e ∧ e ≤ d + dep a ∧ t = pn e
  | d, .yn _, t, _, h => by cases h
  | d, .word w ts, t, h0, h => by
    obtain ⟨u, hu, rfl⟩ := List.mem_map.mp (show t ∈ ts.map (putS nm d) from h)
    unfold putS
    split
    · exact .inr ⟨d, Int.le_refl _, by show d ≤ d + ((0 : Nat) : Int); omega, rfl⟩
    · rename_i z
      exact .inl ⟨hu, by simpa using z⟩
  | d, .un k a, t, h0, h => by
    have hk : 0 ≤ k.in1 ∧ k.in1 ≤ 1 := by cases k <;> decide
    have h := trm_bind nm (d + k.in1) a (by omega) (show t ∈ trm (bindS nm (d + k.in1) a) from h)
    rcases h with h | ⟨e, e1, e2, rfl⟩
    · exact .inl h
    · exact .inr ⟨e, by omega, by show e ≤ d + ((dep a + 1 : Nat) : Int); omega, rfl⟩
  | d, .bin k a b, t, h0, h => by
    have hm : ((max (dep a) (dep b) + 1 : Nat) : Int) ≥ dep a ∧ ((max (dep a) (dep b) + 1 : Nat) : Int) ≥ dep b := by omega
    rcases List.mem_append.mp (show t ∈ trm (bindS nm d a) ++ trm (bindS nm d b) from h) with h | h
    · rcases trm_bind nm d a h0 h with h | ⟨e, e1, e2, rfl⟩
      · exact .inl ⟨List.mem_append_left _ h.1, h.2⟩
      · exact .inr ⟨e, e1, by show e ≤ d + ((max (dep a) (dep b) + 1 : Nat) : Int); omega, rfl⟩
    · rcases trm_bind nm d b h0 h with h | ⟨e, e1, e2, rfl⟩
      · exact .inl ⟨List.mem_append_right _ h.1, h.2⟩
      · exact .inr ⟨e, e1, by show e ≤ d + ((max (dep a) (dep b) + 1 : Nat) : Int); omega, rfl⟩
theorem trm_bind2 (nm : Str) : ∀ (d : Int) (a : Stm) {t : Str}, t ∈ trm a → t ≠ nm → t ∈ trm (bindS nm d a)
  | d, .yn _, t, h, _ => by cases h
  | d, .word w ts, t, h, hne => by
    refine List.mem_map.mpr ⟨t, h, ?_⟩
    unfold putS
    rw [if_neg (by simpa using hne)]
  | d, .un k a, t, h, hne => trm_bind2 nm (d + k.in1) a h hne
  | d, .bin k a b, t, h, hne => by
    rcases List.mem_append.mp (show t ∈ trm a ++ trm b from h) with h | h
    · exact List.mem_append_left _ (trm_bind2 nm d a h hne)
    · exact List.mem_append_right _ (trm_bind2 nm d b h hne)
theorem dep_bind (nm : Str) : ∀ (d : Int) (a : Stm), dep (bindS nm d a) = dep a
  | _, .yn _ => rfl
  | _, .word _ _ => rfl
  | d, .un k a => congrArg (· + 1) (dep_bind nm _ a)
  | d, .bin k a b => by show max (dep (bindS nm d a)) (dep (bindS nm d b)) + 1 = _; rw [dep_bind nm d a, dep_bind nm d b]; rfl
theorem ok_bind {nm : Str} {a : Stm} (h : termsOk a) (hd : dep a < 64) : termsOk (bindS nm 0 a) := fun t ht => by
  rcases trm_bind nm 0 a (Int.le_refl _) ht with z | ⟨e, e1, e2, rfl⟩
  · exact h t z.1
  · exact .inr ⟨e, e1, by omega, rfl⟩
theorem nms_bind {nm : Str} (hn : Nm nm) {a : Stm} (hd : dep a < 64) {t : Str} : t ∈ nms (bindS nm 0 a) ↔ t ∈ nms a ∧ t ≠ nm := by
  unfold nms
  rw [List.mem_filter, List.mem_filter]
  constructor
  · rintro ⟨h1, h2⟩
    rcases trm_bind nm 0 a (Int.le_refl _) h1 with z | ⟨e, e1, e2, rfl⟩
    · exact ⟨⟨z.1, h2⟩, z.2⟩
    · rw [pn_F e1 (by omega)] at h2
      cases h2
  · rintro ⟨⟨h1, h2⟩, h3⟩
    exact ⟨trm_bind2 nm 0 a h1 h3, h2⟩
theorem lvs_bind (nm : Str) : ∀ (d : Int) (a : Stm), wds (bindS nm d a) = wds a
  | _, .yn _ => rfl
  | d, .word w ts => by simp [wds, lvs, bindS]
  | d, .un k a => lvs_bind nm _ a
  | d, .bin k a b => by
    show ((lvs (bindS nm d a) ++ lvs (bindS nm d b)).map fun p => (p.1, p.2.length)) = (lvs a ++ lvs b).map fun p => (p.1, p.2.length)
    rw [List.map_append, List.map_append]
    have h1 := lvs_bind nm d a
    have h2 := lvs_bind nm d b
    unfold wds at h1 h2
    rw [h1, h2]
theorem nms_app (a b : Stm) (k : B2) : nms (.bin k a b) = nms a ++ nms b := by simp [nms, trm]
theorem nms_un (a : Stm) (k : U) : nms (.un k a) = nms a := rfl
theorem wds_app (a b : Stm) (k : B2) : wds (.bin k a b) = wds a ++ wds b := by simp [wds, lvs]
/-- (w, n) as data -/
def encP (p : Str × Nat) : D := .tup [.str p.1, .int p.2]
theorem cmp_pair : Cmp fun d => ∃ p, d = encP p where
  ok := fun d ⟨p, e⟩ => by subst e; simp [encP, nkOk, nkOks]
  cm := fun a b ⟨x, e⟩ ⟨y, e'⟩ => by
    subst e e'
    simp only [encP, nk, nks, cmb]
    exact cmbA_head fun _ => cmbA_any (by simp [cmb]) (by simp [cmbA])
  d8 := fun d ⟨x, e⟩ => by subst e; simp [encP, nk, nks, NestedKey.depth, NestedKey.depthAll]
  kd := ⟨3, by decide, fun d ⟨x, e⟩ => by subst e; simp [encP, nk, nks, DL.kd]⟩
  tx := ⟨false, fun d ⟨x, e⟩ => by subst e; rfl⟩
end ST
namespace ST
open PySem L2 DL
/-- how many parts -/
def prt : Stm → Nat
  | .yn _ => 1
  | .word _ _ => 1
  | .un _ a => prt a + 1
  | .bin _ a b => prt a + prt b + 1
theorem sgn_prt : ∀ a : Stm, sgn a + 1 ≤ prt a
  | .yn _ => Nat.le_refl _
  | .word _ _ => Nat.le_refl _
  | .un _ a => Nat.succ_le_succ (sgn_prt a)
  | .bin _ a b => by
    have h1 := sgn_prt a
    have h2 := sgn_prt b
    show sgn a + sgn b + 1 + 1 ≤ prt a + prt b + 1
    omega
theorem prt_bind (nm : Str) : ∀ (d : Int) (a : Stm), prt (bindS nm d a) = prt a
  | _, .yn _ => rfl
  | _, .word _ _ => rfl
  | d, .un k a => congrArg (· + 1) (prt_bind nm _ a)
  | d, .bin k a b => by show prt (bindS nm d a) + prt (bindS nm d b) + 1 = _; rw [prt_bind nm d a, prt_bind nm d b]; rfl
theorem pn_len0 : ((List.range 64).all fun d => decide ((pn (d : Nat)).length ≤ 9)) = true := by decide +kernel
theorem pn_len {d : Int} (h0 : 0 ≤ d) (h1 : d < 64) : (pn d).length ≤ 9 := by
  obtain ⟨n, rfl⟩ := Int.eq_ofNat_of_zero_le h0
  have z := List.all_eq_true.mp pn_len0 n (List.mem_range.mpr (by omega))
  simpa using z
theorem Tm.len {x : Str} (h : Tm x) : x.length ≤ 9 := by
  rcases h with h | ⟨d, h0, h1, rfl⟩
  · exact h.len
  · exact pn_len h0 h1
end ST

local macro_rules | `(tactic| array_get_dec) => `(tactic| first | with_reducible refine DL.br_2 (fun _ => ?_) (fun _ => ?_) | fail)
local macro_rules | `(tactic| array_get_dec) => `(tactic| first | with_reducible refine DL.br_s (fun _ => ?_) (fun _ => ?_) | fail)
local macro_rules | `(tactic| array_get_dec) => `(tactic| first | with_reducible refine DL.br_e (fun _ => ?_) (fun _ => ?_) | fail)
local macro_rules | `(tactic| array_get_dec) => `(tactic| first | with_reducible refine DL.br_d (fun _ => ?_) (fun _ => ?_) | fail)
local macro_rules | `(tactic| array_get_dec) => `(tactic| first | with_reducible refine DL.br_n ?_ | fail)
local macro_rules | `(tactic| array_get_dec) => `(tactic| first | ((with_reducible apply DL.w_augL); exact rfl) | fail)
local macro_rules | `(tactic| array_get_dec) => `(tactic| first | ((with_reducible apply DL.w_augI); exact rfl) | fail)
local macro_rules | `(tactic| array_get_dec) => `(tactic| first | ((with_reducible apply DL.ex_app); (first | exact rfl | (simp only [DL.esc_nil, DL.esc_int, DL.esc_str, DL.esc_bl, DL.esc_non, List.set_cons_zero, List.set_cons_succ, DL.unown_nil, DL.unown_noO, DL.esc_noO, DL.noO_nil, DL.noO_cons, DL.isOwn_val, DL.isOwn_no, DL.isOwn_own, DL.isOwn_succ, Bool.not_false, Bool.and_self]; exact rfl))) | fail)
local macro_rules | `(tactic| array_get_dec) => `(tactic| first | ((with_reducible apply DL.an_own); exact rfl) | fail)
local macro_rules | `(tactic| array_get_dec) => `(tactic| first | with_reducible refine DL.w_addT1 (by simp) ?_ | fail)
local macro_rules | `(tactic| array_get_dec) => `(tactic| first | with_reducible refine DL.w_compC ?_ | fail)
local macro_rules | `(tactic| array_get_dec) => `(tactic| first | with_reducible refine DL.w_compN ?_ | fail)
local macro_rules | `(tactic| array_get_dec) => `(tactic| first | with_reducible refine DL.an_bigl (by decide) ?_ | fail)
local macro_rules | `(tactic| array_get_dec) => `(tactic| first | with_reducible refine DL.an_big (by decide) ?_ | fail)
local macro_rules | `(tactic| array_get_dec) => `(tactic| first | with_reducible refine DL.an_bigl8 ?_ | fail)
local macro_rules | `(tactic| array_get_dec) => `(tactic| first | with_reducible refine DL.an_big8 ?_ | fail)
local macro_rules | `(tactic| array_get_dec) => `(tactic| first | with_reducible refine DL.an_bigl7 ?_ | fail)
local macro_rules | `(tactic| array_get_dec) => `(tactic| first | with_reducible refine DL.an_big7 ?_ | fail)
local macro_rules | `(tactic| array_get_dec) => `(tactic| first | with_reducible refine DL.an_bigl6 ?_ | fail)
local macro_rules | `(tactic| array_get_dec) => `(tactic| first | with_reducible refine DL.an_big6 ?_ | fail)
local macro_rules | `(tactic| array_get_dec) => `(tactic| first | with_reducible refine DL.an_bigl5 ?_ | fail)
local macro_rules | `(tactic| array_get_dec) => `(tactic| first | with_reducible refine DL.an_big5 ?_ | fail)
local macro_rules | `(tactic| array_get_dec) => `(tactic| first | with_reducible refine DL.an_bigl4 ?_ | fail)
local macro_rules | `(tactic| array_get_dec) => `(tactic| first | with_reducible refine DL.an_big4 ?_ | fail)
local macro_rules | `(tactic| array_get_dec) => `(tactic| first | with_reducible refine DL.an_bigl3 ?_ | fail)
local macro_rules | `(tactic| array_get_dec) => `(tactic| first | with_reducible refine DL.an_big3 ?_ | fail)
local macro_rules | `(tactic| array_get_dec) => `(tactic| first | with_reducible refine DL.an_bigl2 ?_ | fail)
local macro_rules | `(tactic| array_get_dec) => `(tactic| first | with_reducible refine DL.an_big2 ?_ | fail)
local macro_rules | `(tactic| array_get_dec) => `(tactic| first | with_reducible refine DL.an_bigl1 ?_ | fail)
local macro_rules | `(tactic| array_get_dec) => `(tactic| first | with_reducible refine DL.an_big1 ?_ | fail)
local macro_rules | `(tactic| array_get_dec) => `(tactic| first | with_reducible refine DL.an_bigl0 ?_ | fail)
local macro_rules | `(tactic| array_get_dec) => `(tactic| first | with_reducible refine DL.an_big0 ?_ | fail)
local macro_rules | `(tactic| array_get_dec) => `(tactic| first | with_reducible refine DL.an_int ?_ | fail)
local macro_rules | `(tactic| array_get_dec) => `(tactic| first | with_reducible refine DL.ex_lst ?_ | fail)
local macro_rules | `(tactic| array_get_dec) => `(tactic| first | with_reducible refine DL.ex_bl ?_ | fail)
local macro_rules | `(tactic| array_get_dec) => `(tactic| first | with_reducible refine DL.ex_int ?_ | fail)
local macro_rules | `(tactic| array_get_dec) => `(tactic| first | with_reducible refine DL.w_mulI (DL.mulOk_l (by decide)) ?_ | fail)
local macro_rules | `(tactic| array_get_dec) => `(tactic| first | with_reducible refine DL.w_mulI (DL.mulOk_r (by decide)) ?_ | fail)
local macro_rules | `(tactic| array_get_dec) => `(tactic| first | with_reducible refine DL.w_while0 ?_ | fail)
local macro_rules | `(tactic| array_get_dec) => `(tactic| first | with_reducible refine DL.w_lcG ?_ | fail)
local macro_rules | `(tactic| array_get_dec) => `(tactic| first | with_reducible refine DL.w_itS ?_ | fail)
local macro_rules | `(tactic| array_get_dec) => `(tactic| first | with_reducible refine DL.w_itT ?_ | fail)
local macro_rules | `(tactic| array_get_dec) => `(tactic| first | with_reducible refine DL.w_itL ?_ | fail)
local macro_rules | `(tactic| array_get_dec) => `(tactic| first | with_reducible refine DL.w_iE ?_ | fail)
local macro_rules | `(tactic| array_get_dec) => `(tactic| first | with_reducible refine DL.w_iV ?_ | fail)
local macro_rules | `(tactic| array_get_dec) => `(tactic| first | ((with_reducible refine DL.w_sFor ?_); try simp only [DL.esc_nil, DL.esc_int, DL.esc_str, DL.esc_bl, DL.esc_non, List.set_cons_zero, List.set_cons_succ, DL.unown_nil, DL.unown_noO, DL.esc_noO, DL.noO_nil, DL.noO_cons, DL.isOwn_val, DL.isOwn_no, DL.isOwn_own, DL.isOwn_succ, Bool.not_false, Bool.and_self]) | fail)
local macro_rules | `(tactic| array_get_dec) => `(tactic| first | ((with_reducible refine DL.lq_nx ?_); try simp only [DL.esc_nil, DL.esc_int, DL.esc_str, DL.esc_bl, DL.esc_non, List.set_cons_zero, List.set_cons_succ, DL.unown_nil, DL.unown_noO, DL.esc_noO, DL.noO_nil, DL.noO_cons, DL.isOwn_val, DL.isOwn_no, DL.isOwn_own, DL.isOwn_succ, Bool.not_false, Bool.and_self]) | fail)
local macro_rules | `(tactic| array_get_dec) => `(tactic| first | with_reducible refine DL.lq_ret ?_ | fail)
local macro_rules | `(tactic| array_get_dec) => `(tactic| first | with_reducible refine DL.w_xA ?_ | fail)
local macro_rules | `(tactic| array_get_dec) => `(tactic| first | with_reducible refine DL.w_xsC ?_ | fail)
local macro_rules | `(tactic| array_get_dec) => `(tactic| first | with_reducible refine DL.w_xsN ?_ | fail)
local macro_rules | `(tactic| array_get_dec) => `(tactic| first | with_reducible refine DL.w_own ?_ | fail)
local macro_rules | `(tactic| array_get_dec) => `(tactic| first | with_reducible refine DL.w_pow (by decide) ?_ | fail)
local macro_rules | `(tactic| array_get_dec) => `(tactic| first | with_reducible refine DL.w_div (by decide) ?_ | fail)
local macro_rules | `(tactic| array_get_dec) => `(tactic| first | with_reducible refine DL.w_mod (by decide) ?_ | fail)
local macro_rules | `(tactic| array_get_dec) => `(tactic| first | with_reducible refine DL.w_sl3 ?_ | fail)
local macro_rules | `(tactic| array_get_dec) => `(tactic| first | with_reducible refine DL.w_sl2 ?_ | fail)
local macro_rules | `(tactic| array_get_dec) => `(tactic| first | with_reducible refine DL.w_sl1 ?_ | fail)
local macro_rules | `(tactic| array_get_dec) => `(tactic| first | with_reducible refine DL.w_eSl ?_ | fail)
local macro_rules | `(tactic| array_get_dec) => `(tactic| first | with_reducible refine DL.w_oS ?_ | fail)
local macro_rules | `(tactic| array_get_dec) => `(tactic| first | with_reducible refine DL.w_oN ?_ | fail)
local macro_rules | `(tactic| array_get_dec) => `(tactic| first | ((with_reducible apply DL.w_isi); exact rfl) | fail)
local macro_rules | `(tactic| array_get_dec) => `(tactic| first | with_reducible refine DL.w_min2P (fun r _ _ _ => ?_) | fail)
local macro_rules | `(tactic| array_get_dec) => `(tactic| first | with_reducible refine DL.w_max2P (fun r _ _ _ => ?_) | fail)
local macro_rules | `(tactic| array_get_dec) => `(tactic| first | with_reducible refine DL.w_listT ?_ | fail)
local macro_rules | `(tactic| array_get_dec) => `(tactic| first | with_reducible refine DL.w_listL ?_ | fail)
local macro_rules | `(tactic| array_get_dec) => `(tactic| first | with_reducible refine DL.w_tupleT ?_ | fail)
local macro_rules | `(tactic| array_get_dec) => `(tactic| first | with_reducible refine DL.w_tupleL ?_ | fail)
local macro_rules | `(tactic| array_get_dec) => `(tactic| first | with_reducible refine DL.w_intB ?_ | fail)
local macro_rules | `(tactic| array_get_dec) => `(tactic| first | ((with_reducible apply DL.w_intBf); (first | decide +kernel | exact rfl)) | fail)
local macro_rules | `(tactic| array_get_dec) => `(tactic| first | ((with_reducible apply DL.w_intBt); (first | decide +kernel | exact rfl)) | fail)
local macro_rules | `(tactic| array_get_dec) => `(tactic| first | with_reducible refine DL.w_intI ?_ | fail)
local macro_rules | `(tactic| array_get_dec) => `(tactic| first | with_reducible refine DL.w_lenR ?_ | fail)
local macro_rules | `(tactic| array_get_dec) => `(tactic| first | with_reducible refine DL.w_lenT ?_ | fail)
local macro_rules | `(tactic| array_get_dec) => `(tactic| first | with_reducible refine DL.w_lenL ?_ | fail)
local macro_rules | `(tactic| array_get_dec) => `(tactic| first | with_reducible refine DL.w_neS ?_ | fail)
local macro_rules | `(tactic| array_get_dec) => `(tactic| first | with_reducible refine DL.w_neI ?_ | fail)
local macro_rules | `(tactic| array_get_dec) => `(tactic| first | with_reducible refine DL.w_eqE ?_ | fail)
local macro_rules | `(tactic| array_get_dec) => `(tactic| first | with_reducible refine DL.w_neE ?_ | fail)
local macro_rules | `(tactic| array_get_dec) => `(tactic| first | with_reducible refine DL.w_eqB ?_ | fail)
local macro_rules | `(tactic| array_get_dec) => `(tactic| first | with_reducible refine DL.w_eqI ?_ | fail)
local macro_rules | `(tactic| array_get_dec) => `(tactic| first | with_reducible refine DL.w_gL5 ?_ | fail)
local macro_rules | `(tactic| array_get_dec) => `(tactic| first | with_reducible refine DL.w_gL3 ?_ | fail)
local macro_rules | `(tactic| array_get_dec) => `(tactic| first | with_reducible refine DL.w_gL2 ?_ | fail)
local macro_rules | `(tactic| array_get_dec) => `(tactic| first | with_reducible refine DL.w_slR ?_ | fail)
local macro_rules | `(tactic| array_get_dec) => `(tactic| first | with_reducible refine DL.w_slL ?_ | fail)
local macro_rules | `(tactic| array_get_dec) => `(tactic| first | with_reducible refine DL.w_cutL ?_ | fail)
local macro_rules | `(tactic| array_get_dec) => `(tactic| first | with_reducible refine DL.w_nSl ?_ | fail)
local macro_rules | `(tactic| array_get_dec) => `(tactic| first | with_reducible refine DL.w_ltI ?_ | fail)
local macro_rules | `(tactic| array_get_dec) => `(tactic| first | with_reducible refine DL.w_cmp ?_ | fail)
local macro_rules | `(tactic| array_get_dec) => `(tactic| first | with_reducible refine DL.w_not ?_ | fail)
local macro_rules | `(tactic| array_get_dec) => `(tactic| first | with_reducible refine DL.w_neg ?_ | fail)
local macro_rules | `(tactic| array_get_dec) => `(tactic| first | with_reducible refine DL.w_sub ?_ | fail)
local macro_rules | `(tactic| array_get_dec) => `(tactic| first | with_reducible refine DL.w_addI ?_ | fail)
local macro_rules | `(tactic| array_get_dec) => `(tactic| first | with_reducible refine DL.w_eIf ?_ | fail)
local macro_rules | `(tactic| array_get_dec) => `(tactic| first | with_reducible refine DL.w_eOr ?_ | fail)
local macro_rules | `(tactic| array_get_dec) => `(tactic| first | with_reducible refine DL.w_eAn ?_ | fail)
local macro_rules | `(tactic| array_get_dec) => `(tactic| first | with_reducible refine DL.w_tY ?_ | fail)
local macro_rules | `(tactic| array_get_dec) => `(tactic| first | with_reducible refine DL.w_tAn ?_ | fail)
local macro_rules | `(tactic| array_get_dec) => `(tactic| first | with_reducible refine DL.w_tNo ?_ | fail)
local macro_rules | `(tactic| array_get_dec) => `(tactic| first | with_reducible refine DL.w_tup (by decide) ?_ | fail)
local macro_rules | `(tactic| array_get_dec) => `(tactic| first | with_reducible refine DL.w_tup6 ?_ | fail)
local macro_rules | `(tactic| array_get_dec) => `(tactic| first | with_reducible refine DL.w_tup5 ?_ | fail)
local macro_rules | `(tactic| array_get_dec) => `(tactic| first | with_reducible refine DL.w_tup4 ?_ | fail)
local macro_rules | `(tactic| array_get_dec) => `(tactic| first | with_reducible refine DL.w_tup3 ?_ | fail)
local macro_rules | `(tactic| array_get_dec) => `(tactic| first | with_reducible refine DL.w_tup0 ?_ | fail)
local macro_rules | `(tactic| array_get_dec) => `(tactic| first | with_reducible refine DL.w_nL ?_ | fail)
local macro_rules | `(tactic| array_get_dec) => `(tactic| first | with_reducible refine DL.w_e1 ?_ | fail)
local macro_rules | `(tactic| array_get_dec) => `(tactic| first | with_reducible refine DL.w_gT (by rfl) ?_ | fail)
local macro_rules | `(tactic| array_get_dec) => `(tactic| first | with_reducible refine DL.w_gT3 ?_ | fail)
local macro_rules | `(tactic| array_get_dec) => `(tactic| first | with_reducible refine DL.w_gT2 ?_ | fail)
local macro_rules | `(tactic| array_get_dec) => `(tactic| first | with_reducible refine DL.w_gsC ?_ | fail)
local macro_rules | `(tactic| array_get_dec) => `(tactic| first | with_reducible refine DL.w_gsN ?_ | fail)
local macro_rules | `(tactic| array_get_dec) => `(tactic| first | with_reducible refine DL.w_app ?_ | fail)
local macro_rules | `(tactic| array_get_dec) => `(tactic| first | ((with_reducible apply DL.w_vo); exact rfl) | fail)
local macro_rules | `(tactic| array_get_dec) => `(tactic| first | with_reducible refine DL.w_tup1 ?_ | fail)
local macro_rules | `(tactic| array_get_dec) => `(tactic| first | with_reducible refine DL.w_tOr ?_ | fail)
local macro_rules | `(tactic| array_get_dec) => `(tactic| first | ((with_reducible apply DL.br_t); (first | decide +kernel | exact rfl)) | fail)
local macro_rules | `(tactic| array_get_dec) => `(tactic| first | ((with_reducible apply DL.br_f); (first | decide +kernel | exact rfl)) | fail)
local macro_rules | `(tactic| array_get_dec) => `(tactic| first | with_reducible refine DL.sq_ret ?_ | fail)
local macro_rules | `(tactic| array_get_dec) => `(tactic| first | with_reducible refine DL.w_lsG ?_ | fail)
local macro_rules | `(tactic| array_get_dec) => `(tactic| first | with_reducible refine DL.w_tup2 ?_ | fail)
local macro_rules | `(tactic| array_get_dec) => `(tactic| first | with_reducible refine DL.w_eL ?_ | fail)
local macro_rules | `(tactic| array_get_dec) => `(tactic| first | with_reducible refine DL.rq_ret ?_ | fail)
local macro_rules | `(tactic| array_get_dec) => `(tactic| first | with_reducible refine DL.w_ret ?_ | fail)
local macro_rules | `(tactic| array_get_dec) => `(tactic| first | ((with_reducible refine DL.sq_nx ?_); try simp only [DL.esc_nil, DL.esc_int, DL.esc_str, DL.esc_bl, DL.esc_non, List.set_cons_zero, List.set_cons_succ, DL.unown_nil, DL.unown_noO, DL.esc_noO, DL.noO_nil, DL.noO_cons, DL.isOwn_val, DL.isOwn_no, DL.isOwn_own, DL.isOwn_succ, Bool.not_false, Bool.and_self]) | fail)
local macro_rules | `(tactic| array_get_dec) => `(tactic| first | with_reducible refine DL.w_nil ?_ | fail)
local macro_rules | `(tactic| array_get_dec) => `(tactic| first | with_reducible refine DL.w_eqS ?_ | fail)
local macro_rules | `(tactic| array_get_dec) => `(tactic| first | with_reducible refine DL.w_sG ?_ | fail)
local macro_rules | `(tactic| array_get_dec) => `(tactic| first | with_reducible refine DL.w_xP ?_ | fail)
local macro_rules | `(tactic| array_get_dec) => `(tactic| first | with_reducible refine DL.w_sIf ?_ | fail)
local macro_rules | `(tactic| array_get_dec) => `(tactic| first | with_reducible refine DL.w_gN ?_ | fail)
local macro_rules | `(tactic| array_get_dec) => `(tactic| first | ((with_reducible apply DL.w_ixT); exact rfl) | fail)
local macro_rules | `(tactic| array_get_dec) => `(tactic| first | with_reducible refine DL.w_tE ?_ | fail)
local macro_rules | `(tactic| array_get_dec) => `(tactic| first | with_reducible refine DL.w_dB ?_ | fail)
local macro_rules | `(tactic| array_get_dec) => `(tactic| first | with_reducible refine DL.w_eA ?_ | fail)
local macro_rules | `(tactic| array_get_dec) => `(tactic| first | with_reducible refine DL.w_seq ?_ | fail)
local macro_rules | `(tactic| array_get_dec) => `(tactic| first | with_reducible refine DL.w_esN ?_ | fail)
local macro_rules | `(tactic| array_get_dec) => `(tactic| first | with_reducible refine DL.w_e2 ?_ | fail)
local macro_rules | `(tactic| array_get_dec) => `(tactic| first | with_reducible refine DL.w_c ?_ | fail)
local macro_rules | `(tactic| array_get_dec) => `(tactic| first | with_reducible refine DL.w_esC ?_ | fail)
local macro_rules | `(tactic| array_get_dec) => `(tactic| first | ((with_reducible apply DL.w_v); exact rfl) | fail)
local macro_rules | `(tactic| array_mem_dec) => `(tactic| first | with_reducible refine DL.br_2 (fun _ => ?_) (fun _ => ?_) | fail)
local macro_rules | `(tactic| array_mem_dec) => `(tactic| first | with_reducible refine DL.br_s (fun _ => ?_) (fun _ => ?_) | fail)
local macro_rules | `(tactic| array_mem_dec) => `(tactic| first | with_reducible refine DL.br_e (fun _ => ?_) (fun _ => ?_) | fail)
local macro_rules | `(tactic| array_mem_dec) => `(tactic| first | with_reducible refine DL.br_d (fun _ => ?_) (fun _ => ?_) | fail)
local macro_rules | `(tactic| array_mem_dec) => `(tactic| first | with_reducible refine DL.br_n ?_ | fail)
local macro_rules | `(tactic| array_mem_dec) => `(tactic| first | ((with_reducible apply DL.w_augL); exact rfl) | fail)
local macro_rules | `(tactic| array_mem_dec) => `(tactic| first | ((with_reducible apply DL.w_augI); exact rfl) | fail)
local macro_rules | `(tactic| array_mem_dec) => `(tactic| first | ((with_reducible apply DL.ex_app); (first | exact rfl | (simp only [DL.esc_nil, DL.esc_int, DL.esc_str, DL.esc_bl, DL.esc_non, List.set_cons_zero, List.set_cons_succ, DL.unown_nil, DL.unown_noO, DL.esc_noO, DL.noO_nil, DL.noO_cons, DL.isOwn_val, DL.isOwn_no, DL.isOwn_own, DL.isOwn_succ, Bool.not_false, Bool.and_self, ST.esc_enc]; exact rfl))) | fail)
local macro_rules | `(tactic| array_mem_dec) => `(tactic| first | ((with_reducible apply DL.an_own); exact rfl) | fail)
local macro_rules | `(tactic| array_mem_dec) => `(tactic| first | with_reducible refine DL.w_addT1 (by simp) ?_ | fail)
local macro_rules | `(tactic| array_mem_dec) => `(tactic| first | with_reducible refine DL.w_compC ?_ | fail)
local macro_rules | `(tactic| array_mem_dec) => `(tactic| first | with_reducible refine DL.w_compN ?_ | fail)
local macro_rules | `(tactic| array_mem_dec) => `(tactic| first | with_reducible refine DL.an_bigl (by decide) ?_ | fail)
local macro_rules | `(tactic| array_mem_dec) => `(tactic| first | with_reducible refine DL.an_big (by decide) ?_ | fail)
local macro_rules | `(tactic| array_mem_dec) => `(tactic| first | with_reducible refine DL.an_bigl8 ?_ | fail)
local macro_rules | `(tactic| array_mem_dec) => `(tactic| first | with_reducible refine DL.an_big8 ?_ | fail)
local macro_rules | `(tactic| array_mem_dec) => `(tactic| first | with_reducible refine DL.an_bigl7 ?_ | fail)
local macro_rules | `(tactic| array_mem_dec) => `(tactic| first | with_reducible refine DL.an_big7 ?_ | fail)
local macro_rules | `(tactic| array_mem_dec) => `(tactic| first | with_reducible refine DL.an_bigl6 ?_ | fail)
local macro_rules | `(tactic| array_mem_dec) => `(tactic| first | with_reducible refine DL.an_big6 ?_ | fail)
local macro_rules | `(tactic| array_mem_dec) => `(tactic| first | with_reducible refine DL.an_bigl5 ?_ | fail)
local macro_rules | `(tactic| array_mem_dec) => `(tactic| first | with_reducible refine DL.an_big5 ?_ | fail)
local macro_rules | `(tactic| array_mem_dec) => `(tactic| first | with_reducible refine DL.an_bigl4 ?_ | fail)
local macro_rules | `(tactic| array_mem_dec) => `(tactic| first | with_reducible refine DL.an_big4 ?_ | fail)
local macro_rules | `(tactic| array_mem_dec) => `(tactic| first | with_reducible refine DL.an_bigl3 ?_ | fail)
local macro_rules | `(tactic| array_mem_dec) => `(tactic| first | with_reducible refine DL.an_big3 ?_ | fail)
local macro_rules | `(tactic| array_mem_dec) => `(tactic| first | with_reducible refine DL.an_bigl2 ?_ | fail)
local macro_rules | `(tactic| array_mem_dec) => `(tactic| first | with_reducible refine DL.an_big2 ?_ | fail)
local macro_rules | `(tactic| array_mem_dec) => `(tactic| first | with_reducible refine DL.an_bigl1 ?_ | fail)
local macro_rules | `(tactic| array_mem_dec) => `(tactic| first | with_reducible refine DL.an_big1 ?_ | fail)
local macro_rules | `(tactic| array_mem_dec) => `(tactic| first | with_reducible refine DL.an_bigl0 ?_ | fail)
local macro_rules | `(tactic| array_mem_dec) => `(tactic| first | with_reducible refine DL.an_big0 ?_ | fail)
local macro_rules | `(tactic| array_mem_dec) => `(tactic| first | with_reducible refine DL.an_int ?_ | fail)
local macro_rules | `(tactic| array_mem_dec) => `(tactic| first | with_reducible refine DL.ex_lst ?_ | fail)
local macro_rules | `(tactic| array_mem_dec) => `(tactic| first | with_reducible refine DL.ex_bl ?_ | fail)
local macro_rules | `(tactic| array_mem_dec) => `(tactic| first | with_reducible refine DL.ex_int ?_ | fail)
local macro_rules | `(tactic| array_mem_dec) => `(tactic| first | with_reducible refine DL.w_mulI (DL.mulOk_l (by decide)) ?_ | fail)
local macro_rules | `(tactic| array_mem_dec) => `(tactic| first | with_reducible refine DL.w_mulI (DL.mulOk_r (by decide)) ?_ | fail)
local macro_rules | `(tactic| array_mem_dec) => `(tactic| first | with_reducible refine DL.w_while0 ?_ | fail)
local macro_rules | `(tactic| array_mem_dec) => `(tactic| first | with_reducible refine DL.w_lcG ?_ | fail)
local macro_rules | `(tactic| array_mem_dec) => `(tactic| first | with_reducible refine DL.w_itS ?_ | fail)
local macro_rules | `(tactic| array_mem_dec) => `(tactic| first | with_reducible refine DL.w_itT ?_ | fail)
local macro_rules | `(tactic| array_mem_dec) => `(tactic| first | with_reducible refine DL.w_itL ?_ | fail)
local macro_rules | `(tactic| array_mem_dec) => `(tactic| first | with_reducible refine DL.w_iE ?_ | fail)
local macro_rules | `(tactic| array_mem_dec) => `(tactic| first | with_reducible refine DL.w_iV ?_ | fail)
local macro_rules | `(tactic| array_mem_dec) => `(tactic| first | ((with_reducible refine DL.w_sFor ?_); try simp only [DL.esc_nil, DL.esc_int, DL.esc_str, DL.esc_bl, DL.esc_non, List.set_cons_zero, List.set_cons_succ, DL.unown_nil, DL.unown_noO, DL.esc_noO, DL.noO_nil, DL.noO_cons, DL.isOwn_val, DL.isOwn_no, DL.isOwn_own, DL.isOwn_succ, Bool.not_false, Bool.and_self, ST.esc_enc]) | fail)
local macro_rules | `(tactic| array_mem_dec) => `(tactic| first | ((with_reducible refine DL.lq_nx ?_); try simp only [DL.esc_nil, DL.esc_int, DL.esc_str, DL.esc_bl, DL.esc_non, List.set_cons_zero, List.set_cons_succ, DL.unown_nil, DL.unown_noO, DL.esc_noO, DL.noO_nil, DL.noO_cons, DL.isOwn_val, DL.isOwn_no, DL.isOwn_own, DL.isOwn_succ, Bool.not_false, Bool.and_self, ST.esc_enc]) | fail)
local macro_rules | `(tactic| array_mem_dec) => `(tactic| first | with_reducible refine DL.lq_ret ?_ | fail)
local macro_rules | `(tactic| array_mem_dec) => `(tactic| first | with_reducible refine DL.w_xA ?_ | fail)
local macro_rules | `(tactic| array_mem_dec) => `(tactic| first | with_reducible refine DL.w_xsC ?_ | fail)
local macro_rules | `(tactic| array_mem_dec) => `(tactic| first | with_reducible refine DL.w_xsN ?_ | fail)
local macro_rules | `(tactic| array_mem_dec) => `(tactic| first | with_reducible refine DL.w_own ?_ | fail)
local macro_rules | `(tactic| array_mem_dec) => `(tactic| first | with_reducible refine DL.w_pow (by decide) ?_ | fail)
local macro_rules | `(tactic| array_mem_dec) => `(tactic| first | with_reducible refine DL.w_div (by decide) ?_ | fail)
local macro_rules | `(tactic| array_mem_dec) => `(tactic| first | with_reducible refine DL.w_mod (by decide) ?_ | fail)
local macro_rules | `(tactic| array_mem_dec) => `(tactic| first | with_reducible refine DL.w_sl3 ?_ | fail)
local macro_rules | `(tactic| array_mem_dec) => `(tactic| first | with_reducible refine DL.w_sl2 ?_ | fail)
local macro_rules | `(tactic| array_mem_dec) => `(tactic| first | with_reducible refine DL.w_sl1 ?_ | fail)
local macro_rules | `(tactic| array_mem_dec) => `(tactic| first | with_reducible refine DL.w_eSl ?_ | fail)
local macro_rules | `(tactic| array_mem_dec) => `(tactic| first | with_reducible refine DL.w_oS ?_ | fail)
local macro_rules | `(tactic| array_mem_dec) => `(tactic| first | with_reducible refine DL.w_oN ?_ | fail)
local macro_rules | `(tactic| array_mem_dec) => `(tactic| first | ((with_reducible apply DL.w_isi); exact rfl) | fail)
local macro_rules | `(tactic| array_mem_dec) => `(tactic| first | with_reducible refine DL.w_min2P (fun r _ _ _ => ?_) | fail)
local macro_rules | `(tactic| array_mem_dec) => `(tactic| first | with_reducible refine DL.w_max2P (fun r _ _ _ => ?_) | fail)
local macro_rules | `(tactic| array_mem_dec) => `(tactic| first | with_reducible refine DL.w_listT ?_ | fail)
local macro_rules | `(tactic| array_mem_dec) => `(tactic| first | with_reducible refine DL.w_listL ?_ | fail)
local macro_rules | `(tactic| array_mem_dec) => `(tactic| first | with_reducible refine DL.w_tupleT ?_ | fail)
local macro_rules | `(tactic| array_mem_dec) => `(tactic| first | with_reducible refine DL.w_tupleL ?_ | fail)
local macro_rules | `(tactic| array_mem_dec) => `(tactic| first | with_reducible refine DL.w_intB ?_ | fail)
local macro_rules | `(tactic| array_mem_dec) => `(tactic| first | ((with_reducible apply DL.w_intBf); (first | decide +kernel | exact rfl)) | fail)
local macro_rules | `(tactic| array_mem_dec) => `(tactic| first | ((with_reducible apply DL.w_intBt); (first | decide +kernel | exact rfl)) | fail)
local macro_rules | `(tactic| array_mem_dec) => `(tactic| first | with_reducible refine DL.w_intI ?_ | fail)
local macro_rules | `(tactic| array_mem_dec) => `(tactic| first | with_reducible refine DL.w_lenR ?_ | fail)
local macro_rules | `(tactic| array_mem_dec) => `(tactic| first | with_reducible refine DL.w_lenT ?_ | fail)
local macro_rules | `(tactic| array_mem_dec) => `(tactic| first | with_reducible refine DL.w_lenL ?_ | fail)
local macro_rules | `(tactic| array_mem_dec) => `(tactic| first | with_reducible refine DL.w_neS ?_ | fail)
local macro_rules | `(tactic| array_mem_dec) => `(tactic| first | with_reducible refine DL.w_neI ?_ | fail)
local macro_rules | `(tactic| array_mem_dec) => `(tactic| first | with_reducible refine DL.w_eqE ?_ | fail)
local macro_rules | `(tactic| array_mem_dec) => `(tactic| first | with_reducible refine DL.w_neE ?_ | fail)
local macro_rules | `(tactic| array_mem_dec) => `(tactic| first | with_reducible refine DL.w_eqB ?_ | fail)
local macro_rules | `(tactic| array_mem_dec) => `(tactic| first | with_reducible refine DL.w_eqI ?_ | fail)
local macro_rules | `(tactic| array_mem_dec) => `(tactic| first | with_reducible refine DL.w_gL5 ?_ | fail)
local macro_rules | `(tactic| array_mem_dec) => `(tactic| first | with_reducible refine DL.w_gL3 ?_ | fail)
local macro_rules | `(tactic| array_mem_dec) => `(tactic| first | with_reducible refine DL.w_gL2 ?_ | fail)
local macro_rules | `(tactic| array_mem_dec) => `(tactic| first | with_reducible refine DL.w_slR ?_ | fail)
local macro_rules | `(tactic| array_mem_dec) => `(tactic| first | with_reducible refine DL.w_slL ?_ | fail)
local macro_rules | `(tactic| array_mem_dec) => `(tactic| first | with_reducible refine DL.w_cutL ?_ | fail)
local macro_rules | `(tactic| array_mem_dec) => `(tactic| first | with_reducible refine DL.w_nSl ?_ | fail)
local macro_rules | `(tactic| array_mem_dec) => `(tactic| first | with_reducible refine DL.w_ltI ?_ | fail)
local macro_rules | `(tactic| array_mem_dec) => `(tactic| first | with_reducible refine DL.w_cmp ?_ | fail)
local macro_rules | `(tactic| array_mem_dec) => `(tactic| first | with_reducible refine DL.w_not ?_ | fail)
local macro_rules | `(tactic| array_mem_dec) => `(tactic| first | with_reducible refine DL.w_neg ?_ | fail)
local macro_rules | `(tactic| array_mem_dec) => `(tactic| first | with_reducible refine DL.w_sub ?_ | fail)
local macro_rules | `(tactic| array_mem_dec) => `(tactic| first | with_reducible refine DL.w_addI ?_ | fail)
local macro_rules | `(tactic| array_mem_dec) => `(tactic| first | with_reducible refine DL.w_eIf ?_ | fail)
local macro_rules | `(tactic| array_mem_dec) => `(tactic| first | with_reducible refine DL.w_eOr ?_ | fail)
local macro_rules | `(tactic| array_mem_dec) => `(tactic| first | with_reducible refine DL.w_eAn ?_ | fail)
local macro_rules | `(tactic| array_mem_dec) => `(tactic| first | with_reducible refine DL.w_tY ?_ | fail)
local macro_rules | `(tactic| array_mem_dec) => `(tactic| first | with_reducible refine DL.w_tAn ?_ | fail)
local macro_rules | `(tactic| array_mem_dec) => `(tactic| first | with_reducible refine DL.w_tNo ?_ | fail)
local macro_rules | `(tactic| array_mem_dec) => `(tactic| first | with_reducible refine DL.w_tup (by decide) ?_ | fail)
local macro_rules | `(tactic| array_mem_dec) => `(tactic| first | with_reducible refine DL.w_tup6 ?_ | fail)
local macro_rules | `(tactic| array_mem_dec) => `(tactic| first | with_reducible refine DL.w_tup5 ?_ | fail)
local macro_rules | `(tactic| array_mem_dec) => `(tactic| first | with_reducible refine DL.w_tup4 ?_ | fail)
local macro_rules | `(tactic| array_mem_dec) => `(tactic| first | with_reducible refine DL.w_tup3 ?_ | fail)
local macro_rules | `(tactic| array_mem_dec) => `(tactic| first | with_reducible refine DL.w_tup0 ?_ | fail)
local macro_rules | `(tactic| array_mem_dec) => `(tactic| first | with_reducible refine DL.w_nL ?_ | fail)
local macro_rules | `(tactic| array_mem_dec) => `(tactic| first | with_reducible refine DL.w_e1 ?_ | fail)
local macro_rules | `(tactic| array_mem_dec) => `(tactic| first | with_reducible refine DL.w_gT (by rfl) ?_ | fail)
local macro_rules | `(tactic| array_mem_dec) => `(tactic| first | with_reducible refine DL.w_gT3 ?_ | fail)
local macro_rules | `(tactic| array_mem_dec) => `(tactic| first | with_reducible refine DL.w_gT2 ?_ | fail)
local macro_rules | `(tactic| array_mem_dec) => `(tactic| first | with_reducible refine DL.w_gsC ?_ | fail)
local macro_rules | `(tactic| array_mem_dec) => `(tactic| first | with_reducible refine DL.w_gsN ?_ | fail)
local macro_rules | `(tactic| array_mem_dec) => `(tactic| first | with_reducible refine DL.w_app ?_ | fail)
local macro_rules | `(tactic| array_mem_dec) => `(tactic| first | ((with_reducible apply DL.w_vo); exact rfl) | fail)
local macro_rules | `(tactic| array_mem_dec) => `(tactic| first | with_reducible refine DL.w_tup1 ?_ | fail)
local macro_rules | `(tactic| array_mem_dec) => `(tactic| first | with_reducible refine DL.w_tOr ?_ | fail)
local macro_rules | `(tactic| array_mem_dec) => `(tactic| first | ((with_reducible apply DL.br_t); (first | decide +kernel | exact rfl)) | fail)
local macro_rules | `(tactic| array_mem_dec) => `(tactic| first | ((with_reducible apply DL.br_f); (first | decide +kernel | exact rfl)) | fail)
local macro_rules | `(tactic| array_mem_dec) => `(tactic| first | with_reducible refine DL.sq_ret ?_ | fail)
local macro_rules | `(tactic| array_mem_dec) => `(tactic| first | with_reducible refine DL.w_lsG ?_ | fail)
local macro_rules | `(tactic| array_mem_dec) => `(tactic| first | with_reducible refine DL.w_tup2 ?_ | fail)
local macro_rules | `(tactic| array_mem_dec) => `(tactic| first | with_reducible refine DL.w_eL ?_ | fail)
local macro_rules | `(tactic| array_mem_dec) => `(tactic| first | with_reducible refine DL.rq_ret ?_ | fail)
local macro_rules | `(tactic| array_mem_dec) => `(tactic| first | with_reducible refine DL.w_ret ?_ | fail)
local macro_rules | `(tactic| array_mem_dec) => `(tactic| first | ((with_reducible refine DL.sq_nx ?_); try simp only [DL.esc_nil, DL.esc_int, DL.esc_str, DL.esc_bl, DL.esc_non, List.set_cons_zero, List.set_cons_succ, DL.unown_nil, DL.unown_noO, DL.esc_noO, DL.noO_nil, DL.noO_cons, DL.isOwn_val, DL.isOwn_no, DL.isOwn_own, DL.isOwn_succ, Bool.not_false, Bool.and_self, ST.esc_enc]) | fail)
local macro_rules | `(tactic| array_mem_dec) => `(tactic| first | with_reducible refine DL.w_nil ?_ | fail)
local macro_rules | `(tactic| array_mem_dec) => `(tactic| first | with_reducible refine DL.w_eqS ?_ | fail)
local macro_rules | `(tactic| array_mem_dec) => `(tactic| first | with_reducible refine DL.w_sG ?_ | fail)
local macro_rules | `(tactic| array_mem_dec) => `(tactic| first | with_reducible refine DL.w_xP ?_ | fail)
local macro_rules | `(tactic| array_mem_dec) => `(tactic| first | with_reducible refine DL.w_sIf ?_ | fail)
local macro_rules | `(tactic| array_mem_dec) => `(tactic| first | with_reducible refine DL.w_gN ?_ | fail)
local macro_rules | `(tactic| array_mem_dec) => `(tactic| first | ((with_reducible apply DL.w_ixT); exact rfl) | fail)
local macro_rules | `(tactic| array_mem_dec) => `(tactic| first | with_reducible refine DL.w_tE ?_ | fail)
local macro_rules | `(tactic| array_mem_dec) => `(tactic| first | with_reducible refine DL.w_dB ?_ | fail)
local macro_rules | `(tactic| array_mem_dec) => `(tactic| first | with_reducible refine DL.w_eA ?_ | fail)
local macro_rules | `(tactic| array_mem_dec) => `(tactic| first | with_reducible refine DL.w_seq ?_ | fail)
local macro_rules | `(tactic| array_mem_dec) => `(tactic| first | with_reducible refine DL.w_esN ?_ | fail)
local macro_rules | `(tactic| array_mem_dec) => `(tactic| first | with_reducible refine DL.w_e2 ?_ | fail)
local macro_rules | `(tactic| array_mem_dec) => `(tactic| first | with_reducible refine DL.w_c ?_ | fail)
local macro_rules | `(tactic| array_mem_dec) => `(tactic| first | with_reducible refine DL.w_esC ?_ | fail)
local macro_rules | `(tactic| array_mem_dec) => `(tactic| first | ((with_reducible apply DL.w_v); exact rfl) | fail)
local macro_rules | `(tactic| array_mem_dec) => `(tactic| first | with_reducible refine ST.w_eWord ?_ | fail)
local macro_rules | `(tactic| array_mem_dec) => `(tactic| first | with_reducible refine ST.w_eSome ?_ | fail)
local macro_rules | `(tactic| array_mem_dec) => `(tactic| first | with_reducible refine ST.w_eAll ?_ | fail)
local macro_rules | `(tactic| array_mem_dec) => `(tactic| first | with_reducible refine ST.w_eNot ?_ | fail)
local macro_rules | `(tactic| array_mem_dec) => `(tactic| first | with_reducible refine ST.w_eIf ?_ | fail)
local macro_rules | `(tactic| array_mem_dec) => `(tactic| first | with_reducible refine ST.w_eOr ?_ | fail)
local macro_rules | `(tactic| array_mem_dec) => `(tactic| first | with_reducible refine ST.w_eAnd ?_ | fail)
namespace G
open PySem L2 DL ST
theorem cell_ok {n : Nat} (hn : 1 ≤ n) (ns : List Int) (k : Int) (h0 : 0 ≤ k) (hk : k ≤ 1000) {Q : D → Prop} (q : ∀ c : Int, Q (.int c)) : Wp (fnL 2 (Phi n j__law_cell) [.scr ns, .int k]) Q := by
  obtain ⟨m, rfl⟩ : ∃ m, n = m + 1 := ⟨n - 1, by omega⟩
  apply R__law_cell
  unfold B__law_cell
  (repeat' (first | ((with_reducible apply w_v); exact rfl) | with_reducible refine w_esC ?_ | with_reducible refine w_c ?_ | with_reducible refine w_esN ?_ | with_reducible refine w_ixR' (by omega) (by omega) (fun c _ => ?_) | with_reducible refine w_modP (by omega) (fun r _ _ _ => ?_) | with_reducible refine w_mulI (mulOk_r (by omega)) ?_ | array_get_dec))
  all_goals exact q _
theorem ints_of {ds ys : List D} (h : All2 (fun _ y => ∃ c : Int, y = .int c ∧ 0 ≤ c) ds ys) : ∃ cs : List Int, ys = cs.map .int ∧ (∀ c ∈ cs, 0 ≤ c) ∧ cs.length = ds.length := by
  induction h with
  | nil => exact ⟨[], rfl, by simp, rfl⟩
  | cons r _ ih =>
    obtain ⟨c, rfl, hc⟩ := r
    obtain ⟨cs, rfl, h1, h2⟩ := ih
    exact ⟨c :: cs, rfl, fun x hx => (List.mem_cons.mp hx).elim (fun z => z ▸ hc) (h1 x), by simp [h2]⟩
theorem cells_ok {n : Nat} (hn : 2 ≤ n) (ns : List Int) (hl : ns.length ≤ 63) (least : Int) (h0 : 1 ≤ least) (h1 : least ≤ 63) {Q : D → Prop} (q : ∀ cs : List Int, (∀ c ∈ cs, 0 ≤ c) → least ≤ cs.length → cs.length ≤ 63 → Q (.lst (cs.map .int))) : Wp (fnL 2 (Phi n j__law_cells) [.scr ns, .int least]) Q := by
  obtain ⟨m, rfl⟩ : ∃ m, n = m + 1 := ⟨n - 1, by omega⟩
  apply R__law_cells
  unfold B__law_cells
  (repeat' (first | ((with_reducible apply w_v); exact rfl) | with_reducible refine w_esC ?_ | with_reducible refine w_c ?_ | with_reducible refine w_esN ?_ | with_reducible refine w_rg1 (by omega) ?_ | array_get_dec))
  refine ⟨by rw [rgD_len]; omega, w_compY (R := fun _ y => ∃ c : Int, y = .int c ∧ 0 ≤ c) (fun d hd => ?_) (fun ys hy => ?_)⟩
  · obtain ⟨i, rfl, hi1, hi2⟩ := rgD_mem hd
    (repeat' (first | ((with_reducible apply w_v); exact rfl) | with_reducible refine w_esC ?_ | with_reducible refine w_c ?_ | with_reducible refine w_esN ?_ | with_reducible refine cell_ok (by omega) ns _ (by omega) (by omega) (fun c => ?_) | array_get_dec))
    exact Int.emod_nonneg _ (by decide)
  · obtain ⟨cs, rfl, k1, k2⟩ := ints_of hy
    rw [rgD_len] at k2
    exact q cs k1 (by omega) (by omega)
/-- a text made of signs of two others, not empty, of at most n signs -/
def Made (x a b : Str) (n : Nat) : Prop := 1 ≤ x.length ∧ x.length ≤ n ∧ (∀ c ∈ x.cps.toList, c ∈ a.cps.toList ∨ c ∈ b.cps.toList) ∧ ∃ c r, x.cps.toList = c :: r ∧ c ∈ a.cps.toList
theorem len_app (x y : Str) : (x ++ y).length = x.length + y.length := by
  show (x.cps ++ y.cps).size = _
  rw [Array.size_append]; rfl
theorem cps_app (x y : Str) : (x ++ y).cps.toList = x.cps.toList ++ y.cps.toList := by
  show (x.cps ++ y.cps).toList = _
  rw [Array.toList_append]
theorem letters_ok {n : Nat} (hn : 1 ≤ n) (c : Int) (a b : Str) (ha : 0 < a.length ∧ a.length ≤ 1000) (hb : 0 < b.length ∧ b.length ≤ 1000) {Q : D → Prop} (q : ∀ x, Made x a b 8 → Q (.str x)) : Wp (fnL 3 (Phi n j__law_letters) [.int c, .str a, .str b]) Q := by
  obtain ⟨m, rfl⟩ : ∃ m, n = m + 1 := ⟨n - 1, by omega⟩
  apply R__law_letters
  unfold B__law_letters
  (repeat' (first | ((with_reducible apply w_v); exact rfl) | with_reducible refine w_esC ?_ | with_reducible refine w_c ?_ | with_reducible refine w_esN ?_ | with_reducible refine w_lenS (by omega) ?_ | with_reducible refine w_ixS' (by omega) (by omega) (by omega) (fun c _ => ?_) | with_reducible refine w_modP (by omega) (fun r _ _ _ => ?_) | with_reducible refine w_div (by omega) ?_ | with_reducible refine w_rg1 (by omega) ?_ | array_get_dec))
  rename_i c0 _ _ _
  refine w_forR (I := fun i ρ => ∃ c' x s, ρ = [Sl.val (.int c'), Sl.val (.str a), Sl.val (.str b), Sl.val (.str x), s] ∧ Made x a b (i + 1)) ⟨_, _, _, rfl, ?_⟩ (fun i ρ hi hI => ?_) (fun ρ hI => ?_)
  · exact ⟨Nat.le_refl _, Nat.le_refl _, fun z hz => by simp at hz; subst hz; exact .inl (by assumption), _, [], rfl, by assumption⟩
  · obtain ⟨c', x, s, rfl, h1, h2, h3, h4⟩ := hI
    (repeat' (first | ((with_reducible apply w_v); exact rfl) | with_reducible refine w_esC ?_ | with_reducible refine w_c ?_ | with_reducible refine w_esN ?_ | with_reducible refine w_lenS (by omega) ?_ | with_reducible refine w_ixS' (by omega) (by omega) (by omega) (fun c2 hc2 => ?_) | with_reducible refine w_modP (by omega) (fun r _ _ _ => ?_) | with_reducible refine w_div (by omega) ?_ | with_reducible refine w_addC (by omega) ?_ | array_get_dec))
    refine ⟨_, _, _, rfl, ?_, ?_, fun z hz => ?_, ?_⟩
    · rw [len_app]; show 1 ≤ _ + 1; omega
    · rw [len_app]; show _ + 1 ≤ _; omega
    · rw [cps_app] at hz
      rcases List.mem_append.mp hz with z1 | z1
      · exact h3 z z1
      · simp at z1; subst z1; exact .inr hc2
    · obtain ⟨c3, r3, e3, m3⟩ := h4
      exact ⟨c3, r3 ++ [c2], by rw [cps_app, e3]; rfl, m3⟩
  · obtain ⟨c', x, s, rfl, h1, h2, h3, h4⟩ := hI
    (repeat' (first | array_get_dec))
    exact q x ⟨h1, by omega, h3, h4⟩
theorem mul_len {f : Str} (hf : f.length = 1) {n : Int} (h0 : 0 ≤ n) : ((Txt.mul f n).length : Int) = n := by
  have key : ∀ (k : Nat) (acc : Array Nat), ((List.replicate k f.cps).foldl (· ++ ·) acc).size = acc.size + k := by
    intro k
    induction k with
    | zero => intro acc; rfl
    | succ k ih =>
      intro acc
      rw [List.replicate_succ, List.foldl_cons, ih, Array.size_append]
      have : f.cps.size = 1 := hf
      omega
  unfold Txt.mul
  split
  · show ((0 : Nat) : Int) = n
    omega
  · split
    · rename_i h1 h2
      simp [hf] at h2
      omega
    · show ((((List.replicate n.toNat f.cps).foldl (· ++ ·) #[]).size : Nat) : Int) = n
      rw [key]
      show ((0 + n.toNat : Nat) : Int) = n
      omega
theorem mul_mem {f : Str} {n : Int} {c : Nat} (h : c ∈ (Txt.mul f n).cps.toList) : c ∈ f.cps.toList := by
  have key : ∀ (k : Nat) (acc : Array Nat), c ∈ ((List.replicate k f.cps).foldl (· ++ ·) acc).toList → c ∈ acc.toList ∨ c ∈ f.cps.toList := by
    intro k
    induction k with
    | zero => intro acc z; exact .inl z
    | succ k ih =>
      intro acc z
      rw [List.replicate_succ, List.foldl_cons] at z
      rcases ih _ z with y | y
      · rw [Array.toList_append] at y
        exact List.mem_append.mp y
      · exact .inr y
  unfold Txt.mul at h
  split at h
  · have z : Str.empty.cps.toList = [] := rfl
    rw [z] at h
    cases h
  · split at h
    · first | exact h | (simp at h)
    · exact (key _ _ h).resolve_left (by simp)
def LowS (x : Str) : Prop := ∀ c ∈ x.cps.toList, low c = true
theorem wd_nm {x : Str} (h : Wd x) : Nm x := by
  refine ⟨?_, fun c hc => .inl (h.all c hc), h.len⟩
  have z : 1 ≤ x.cps.toList.length := h.ne
  cases e : x.cps.toList with
  | nil => rw [e] at z; simp at z
  | cons c r => exact ⟨c, r, rfl, h.all c (by rw [e]; exact List.mem_cons_self)⟩
theorem strs_of {P : Str → Prop} {ds ys : List D} (h : All2 (fun _ y => ∃ x : Str, y = .str x ∧ P x) ds ys) : ∃ ws : List Str, ys = ws.map .str ∧ (∀ w ∈ ws, P w) ∧ ws.length = ds.length := by
  induction h with
  | nil => exact ⟨[], rfl, by simp, rfl⟩
  | cons r _ ih =>
    obtain ⟨c, rfl, hc⟩ := r
    obtain ⟨cs, rfl, h1, h2⟩ := ih
    exact ⟨c :: cs, rfl, fun x hx => (List.mem_cons.mp hx).elim (fun z => z ▸ hc) (h1 x), by simp [h2]⟩
theorem family_ok {n : Nat} (hn : 1 ≤ n) (c : Int) (f : Str) (hf : f.length = 1) (hlow : LowS f) {Q : D → Prop} (q : ∀ ws : List Str, ws.length = 4 → (∀ w ∈ ws, Wd w) → Q (.lst (ws.map .str))) : Wp (fnL 2 (Phi n j__law_family) [.int c, .str f]) Q := by
  obtain ⟨m, rfl⟩ : ∃ m, n = m + 1 := ⟨n - 1, by omega⟩
  apply R__law_family
  unfold B__law_family
  (repeat' (first | ((with_reducible apply w_v); exact rfl) | with_reducible refine w_esC ?_ | with_reducible refine w_c ?_ | with_reducible refine w_esN ?_ | with_reducible refine w_modP (by omega) (fun r _ _ _ => ?_) | array_get_dec))
  rename_i r0 g1 g2 g3 g4 g5 g6
  refine w_compY (R := fun _ y => ∃ x : Str, y = .str x ∧ Wd x) (fun d hd => ?_) (fun ys hy => ?_)
  · obtain ⟨c, hc, rfl⟩ := List.mem_map.mp hd
    have lc : low c = true := by
      have z : (("bdgh" : Str).cps.toList.all low) = true := by decide +kernel
      exact List.all_eq_true.mp z c hc
    have e1 := mul_len hf (n := r) (by omega)
    have e2 := mul_len hf (n := 2 + r0 - 1 - r) (by omega)
    (repeat' (first | ((with_reducible apply w_v); exact rfl) | with_reducible refine w_esC ?_ | with_reducible refine w_c ?_ | with_reducible refine w_esN ?_ | with_reducible refine w_mulS (by omega) ?_ | with_reducible refine w_addC (by omega) ?_ | array_get_dec))
    refine w_addS ?_ ⟨_, rfl, ?_, fun z hz => ?_, ?_⟩
    · simp only [len_app]
      show _ + 1 + _ ≤ _
      omega
    · simp only [len_app]
      show 1 ≤ _ + 1 + _
      omega
    · rw [cps_app, cps_app] at hz
      rcases List.mem_append.mp hz with y | y
      · rcases List.mem_append.mp y with y | y
        · exact hlow z (mul_mem y)
        · have : z = c := by simpa using y
          subst this
          exact lc
      · exact hlow z (mul_mem y)
    · simp only [len_app]
      show _ + 1 + _ ≤ 9
      omega
  · obtain ⟨ws, rfl, k1, k2⟩ := strs_of hy
    exact q ws (by rw [k2]; decide +kernel) k1
theorem wide_ok {n : Nat} (hn : 2 ≤ n) (ns : List Int) (k : Int) (h0 : 0 ≤ k) (hk : k ≤ 500) {Q : D → Prop} (q : ∀ c : Int, Q (.int c)) : Wp (fnL 2 (Phi n j__law_wide) [.scr ns, .int k]) Q := by
  obtain ⟨m, rfl⟩ : ∃ m, n = m + 1 := ⟨n - 1, by omega⟩
  apply R__law_wide
  unfold B__law_wide
  (repeat' (first | ((with_reducible apply w_v); exact rfl) | with_reducible refine w_esC ?_ | with_reducible refine w_c ?_ | with_reducible refine w_esN ?_ | with_reducible refine cell_ok (by omega) ns _ (by omega) (by omega) (fun c => ?_) | array_get_dec))
  exact q _
theorem al_len : ("abcdefghijklmnopqrstuvwxyz" : Str).length = 26 := by decide +kernel
theorem al2_len : (("abcdefghijklmnopqrstuvwxyz" : Str) ++ ("0123456789" : Str)).length = 36 := by decide +kernel
theorem al_low : LowS "abcdefghijklmnopqrstuvwxyz" := by
  have z : (("abcdefghijklmnopqrstuvwxyz" : Str).cps.toList.all low) = true := by decide +kernel
  exact List.all_eq_true.mp z
theorem made_wd {x : Str} (h : Made x "abcdefghijklmnopqrstuvwxyz" "abcdefghijklmnopqrstuvwxyz" 8) : Wd x :=
  ⟨h.1, fun c hc => (h.2.2.1 c hc).elim (al_low c) (al_low c), Nat.le_succ_of_le h.2.1⟩
theorem made_nm {x : Str} (h : Made x "abcdefghijklmnopqrstuvwxyz" (("abcdefghijklmnopqrstuvwxyz" : Str) ++ ("0123456789" : Str)) 8) : Nm x := by
  obtain ⟨h1, h2, h3, c, r, e, hc⟩ := h
  refine ⟨⟨c, r, e, al_low c hc⟩, fun z hz => ?_, Nat.le_succ_of_le h2⟩
  rcases h3 z hz with y | y
  · exact .inl (al_low z y)
  · rw [cps_app] at y
    rcases List.mem_append.mp y with y | y
    · exact .inl (al_low z y)
    · exact .inr (fgr_iff.mp y)
theorem words_ok {n : Nat} (hn : 4 ≤ n) (ns : List Int) {Q : D → Prop} (q : ∀ ws : List Str, ws.length = 4 → (∀ w ∈ ws, Wd w) → Q (.lst (ws.map .str))) : Wp (fnL 1 (Phi n j__law_words) [.scr ns]) Q := by
  obtain ⟨m, rfl⟩ : ∃ m, n = m + 1 := ⟨n - 1, by omega⟩
  apply R__law_words
  unfold B__law_words
  (repeat' (first | ((with_reducible apply w_v); exact rfl) | with_reducible refine w_esC ?_ | with_reducible refine w_c ?_ | with_reducible refine w_esN ?_ | with_reducible refine cell_ok (by omega) ns _ (by omega) (by omega) (fun c => ?_) | with_reducible refine w_rg1 (by omega) ?_ | array_get_dec))
  · refine family_ok (by omega) _ _ (by decide +kernel) (by intro c hc; revert c hc; exact List.all_eq_true.mp (show (("q" : Str).cps.toList.all low) = true by decide +kernel)) fun ws h1 h2 => q ws h1 h2
  · refine w_forR (I := fun i ρ => ∃ (ws : List Str) (s3 s4 : Sl), ρ = [Sl.val (.scr ns), Sl.val (.str "abcdefghijklmnopqrstuvwxyz"), Sl.own (ws.map .str), s3, s4] ∧ ws.length = i ∧ ∀ w ∈ ws, Wd w) ⟨[], _, _, rfl, rfl, by simp⟩ (fun i ρ hi hI => ?_) (fun ρ hI => ?_)
    · obtain ⟨ws, s3, s4, rfl, h1, h2⟩ := hI
      (repeat' (first | ((with_reducible apply w_v); exact rfl) | with_reducible refine w_esC ?_ | with_reducible refine w_c ?_ | with_reducible refine w_esN ?_ | with_reducible refine wide_ok (by omega) ns _ (by omega) (by omega) (fun c => ?_) | with_reducible refine letters_ok (by omega) _ _ _ (by rw [al_len]; omega) (by rw [al_len]; omega) (fun x hx => ?_) | array_get_dec))
      have g0 := hx.2.1
      have hx := made_wd hx
      refine w_in (show dInO _ (.tup _) = _ from in_flat rfl) ?_
      (repeat' (first | array_get_dec))
      · refine w_addS (by show _ + 1 ≤ _; omega) ?_
        (repeat' (first | array_get_dec))
        · rw [List.length_map]; omega
        · refine ⟨ws ++ [x ++ "x"], _, _, by rw [List.map_append]; rfl, by simp [h1], fun w hw => ?_⟩
          rcases List.mem_append.mp hw with z | z
          · exact h2 w z
          · simp at z; subst z
            refine ⟨by rw [len_app]; show 1 ≤ _ + 1; omega, fun c hc => ?_, by rw [len_app]; show _ + 1 ≤ 9; omega⟩
            rw [cps_app] at hc
            rcases List.mem_append.mp hc with y | y
            · exact hx.all c y
            · exact List.all_eq_true.mp (show (("x" : Str).cps.toList.all low) = true by decide +kernel) c y
      · rw [List.length_map]; omega
      · refine ⟨ws ++ [x], _, _, by rw [List.map_append]; rfl, by simp [h1], fun w hw => ?_⟩
        rcases List.mem_append.mp hw with z | z
        · exact h2 w z
        · simp at z; subst z
          exact hx
    · obtain ⟨ws, s3, s4, rfl, h1, h2⟩ := hI
      (repeat' (first | array_get_dec))
      exact q ws h1 h2
theorem n4_nm : ∀ w ∈ (["n0", "n1", "n2", "p"] : List Str), Nm w := by
  intro w hw
  simp at hw
  rcases hw with rfl | rfl | rfl | rfl
  · exact ⟨⟨110, [48], by decide +kernel, by decide⟩, fun c hc => by have e : ("n0" : Str).cps.toList = [110, 48] := (by decide +kernel); rw [e] at hc; simp at hc; rcases hc with rfl | rfl <;> decide, by decide +kernel⟩
  · exact ⟨⟨110, [49], by decide +kernel, by decide⟩, fun c hc => by have e : ("n1" : Str).cps.toList = [110, 49] := (by decide +kernel); rw [e] at hc; simp at hc; rcases hc with rfl | rfl <;> decide, by decide +kernel⟩
  · exact ⟨⟨110, [50], by decide +kernel, by decide⟩, fun c hc => by have e : ("n2" : Str).cps.toList = [110, 50] := (by decide +kernel); rw [e] at hc; simp at hc; rcases hc with rfl | rfl <;> decide, by decide +kernel⟩
  · exact ⟨⟨112, [], by decide +kernel, by decide⟩, fun c hc => by have e : ("p" : Str).cps.toList = [112] := (by decide +kernel); rw [e] at hc; simp at hc; subst hc; decide, by decide +kernel⟩
theorem names_ok {n : Nat} (hn : 4 ≤ n) (ns : List Int) {Q : D → Prop} (q : ∀ vs : List Str, vs.length = 4 → (∀ w ∈ vs, Nm w) → Q (.lst (vs.map .str))) : Wp (fnL 1 (Phi n j__law_names) [.scr ns]) Q := by
  obtain ⟨m, rfl⟩ : ∃ m, n = m + 1 := ⟨n - 1, by omega⟩
  apply R__law_names
  unfold B__law_names
  (repeat' (first | ((with_reducible apply w_v); exact rfl) | with_reducible refine w_esC ?_ | with_reducible refine w_c ?_ | with_reducible refine w_esN ?_ | with_reducible refine cell_ok (by omega) ns _ (by omega) (by omega) (fun c => ?_) | with_reducible refine w_rg1 (by omega) ?_ | array_get_dec))
  · exact q ["n0", "n1", "n2", "p"] rfl n4_nm
  · exact family_ok (by omega) _ _ (by decide +kernel) (List.all_eq_true.mp (show (("z" : Str).cps.toList.all low) = true by decide +kernel)) fun ws h1 h2 => q ws h1 fun w hw => wd_nm (h2 w hw)
  · refine w_compY (R := fun _ y => ∃ x : Str, y = .str x ∧ Nm x) (fun d hd => ?_) (fun ys hy => ?_)
    · obtain ⟨i, rfl, hi1, hi2⟩ := rgD_mem hd
      (repeat' (first | ((with_reducible apply w_v); exact rfl) | with_reducible refine w_esC ?_ | with_reducible refine w_c ?_ | with_reducible refine w_esN ?_ | with_reducible refine wide_ok (by omega) ns _ (by omega) (by omega) (fun c => ?_) | with_reducible refine w_addS (by decide) ?_ | array_get_dec))
      exact letters_ok (by omega) _ _ _ (by rw [al_len]; omega) (by rw [al2_len]; omega) fun x hx => ⟨x, rfl, made_nm hx⟩
    · obtain ⟨ws, rfl, k1, k2⟩ := strs_of hy
      exact q ws (by rw [k2, rgD_len]; rfl) k1
/-- a leaf of these words and names -/
def Leaf (ws vs : List Str) : Stm → Prop
  | .yn _ => True
  | .word w ts => w ∈ ws ∧ (∀ t ∈ ts, t ∈ vs) ∧ ts.length ≤ 3
  | _ => False
theorem leaf_ok {n : Nat} (hn : 1 ≤ n) (c : Int) (ws vs : List Str) (hw : ws.length = 4) (hv : vs.length = 4) {Q : D → Prop} (q : ∀ A, Leaf ws vs A → Q (enc A)) : Wp (fnL 3 (Phi n j__law_leaf) [.int c, .lst (ws.map .str), .lst (vs.map .str)]) Q := by
  obtain ⟨m, rfl⟩ : ∃ m, n = m + 1 := ⟨n - 1, by omega⟩
  apply R__law_leaf
  unfold B__law_leaf
  (repeat' (first | ((with_reducible apply w_v); exact rfl) | with_reducible refine w_esC ?_ | with_reducible refine w_c ?_ | with_reducible refine w_esN ?_ | with_reducible refine w_ixM (by omega) (by omega) (fun w hw => ?_) | with_reducible refine w_rg1 (by omega) ?_ | array_get_dec))
  · refine w_ixL' (by omega) (by show _ < (2 : Int); omega) fun d hd => ?_
    simp at hd
    rcases hd with rfl | rfl
    · exact q (.yn true) trivial
    · exact q (.yn false) trivial
  · rename_i hww
    refine w_forR (I := fun i ρ => ∃ (c' : Int) (ts : List Str) (s6 : Sl), ρ = [Sl.val (.int c'), Sl.val (.lst (ws.map .str)), Sl.val (.lst (vs.map .str)), Sl.val (.int (c / 7 % 4)), Sl.val (.str w), Sl.own (ts.map .str), s6] ∧ ts.length = i ∧ ∀ t ∈ ts, t ∈ vs) ⟨_, [], _, rfl, rfl, by simp⟩ (fun i ρ hi hI => ?_) (fun ρ hI => ?_)
    · obtain ⟨c', ts, s6, rfl, h1, h2⟩ := hI
      (repeat' (first | ((with_reducible apply w_v); exact rfl) | with_reducible refine w_esC ?_ | with_reducible refine w_c ?_ | with_reducible refine w_esN ?_ | with_reducible refine w_ixM (by omega) (by omega) (fun t ht => ?_) | array_get_dec))
      · rw [List.length_map]; omega
      · refine ⟨_, ts ++ [t], _, by rw [List.map_append]; rfl, by simp [h1], fun z hz => ?_⟩
        rcases List.mem_append.mp hz with y | y
        · exact h2 z y
        · simp at y; subst y; assumption
    · obtain ⟨c', ts, s6, rfl, h1, h2⟩ := hI
      (repeat' (first | array_get_dec))
      exact q (.word w ts) ⟨by assumption, h2, by omega⟩
theorem leaf_short {ws vs : List Str} {A : Stm} (h : Leaf ws vs A) : short A ∧ sgn A = 0 ∧ dep A = 0 := by
  cases A with
  | yn _ => exact ⟨trivial, rfl, rfl⟩
  | word w ts => exact ⟨h.2.2, rfl, rfl⟩
  | un _ _ => cases h
  | bin _ _ _ => cases h
theorem leaf_terms {ws vs : List Str} {A : Stm} (h : Leaf ws vs A) (hv : ∀ v ∈ vs, Nm v) : ∀ t ∈ trm A, t ∈ vs ∧ Nm t := by
  cases A with
  | yn _ => intro t ht; cases ht
  | word w ts => exact fun t ht => ⟨h.2.1 t ht, hv t (h.2.1 t ht)⟩
  | un _ _ => cases h
  | bin _ _ _ => cases h
end G

namespace G
open PySem L2 DL ST
theorem bound_ok (nm : Str) : ∀ (A : Stm) {n : Nat} (d : Int), dep A + 1 ≤ n → 0 ≤ d → d + dep A ≤ 1000 → short A → ∀ {Q : D → Prop}, Q (enc (bindS nm d A)) → Wp (fnL 3 (Phi n j__law_bound) [enc A, .str nm, .int d]) Q
  | .yn b, n, d, hn, h0, h1, hs, Q, q => by
    obtain ⟨m, rfl⟩ : ∃ m, n = m + 1 := ⟨n - 1, by omega⟩
    apply R__law_bound
    unfold B__law_bound
    simp only [enc]
    cases b <;> simp only [ynm, if_true, if_false, Bool.false_eq_true] <;> (repeat' (first | array_get_dec))
    all_goals exact q
  | .word w ts, n, d, hn, h0, h1, hs, Q, q => by
    obtain ⟨m, rfl⟩ : ∃ m, n = m + 1 := ⟨n - 1, by omega⟩
    have hs : ts.length ≤ 3 := hs
    apply R__law_bound
    unfold B__law_bound
    simp only [enc]
    (repeat' (first | ((with_reducible apply w_v); exact rfl) | with_reducible refine w_esC ?_ | with_reducible refine w_c ?_ | with_reducible refine w_esN ?_ | with_reducible refine w_rg1 (by rw [List.length_map]; omega) ?_ | array_get_dec))
    rw [List.length_map]
    refine w_forR (I := fun i ρ => ∃ s4, ρ = [Sl.val (.tup [.str "word", .str w, .tup (ts.map .str)]), Sl.val (.str nm), Sl.val (.int d), Sl.own (((ts.take i).map (putS nm d) ++ ts.drop i).map .str), s4, Sl.no, Sl.no]) ⟨_, rfl⟩ (fun i ρ hi hI => ?_) (fun ρ hI => ?_)
    · obtain ⟨s4, rfl⟩ := hI
      have hi' : i < ts.length := by omega
      have lt : ((ts.take i).map (putS nm d)).length = i := by rw [List.length_map, List.length_take]; omega
      have g1 : (((ts.take i).map (putS nm d) ++ ts.drop i).map D.str)[i]? = some (.str ts[i]) := by
        rw [List.getElem?_map, List.getElem?_append_right (by omega), lt, Nat.sub_self, List.getElem?_drop, Nat.add_zero, List.getElem?_eq_getElem hi']
        rfl
      have at1 : atI (((ts.take i).map (putS nm d) ++ ts.drop i).map D.str) (0 + (i : Nat)) = some (.str ts[i]) := by
        rw [Int.zero_add]
        exact atI_nat g1
      have nxt : (((ts.take i).map (putS nm d) ++ ts.drop i).map D.str).set i (.str (putS nm d ts[i])) = ((ts.take (i + 1)).map (putS nm d) ++ ts.drop (i + 1)).map D.str := by
        have e : ts.take (i + 1) = ts.take i ++ [ts[i]] := by rw [List.take_add_one, List.getElem?_eq_getElem hi']; rfl
        rw [← List.map_set, List.set_append_right _ _ (by omega), lt, Nat.sub_self, List.drop_eq_getElem_cons hi', List.set_cons_zero, e, List.map_append (l₁ := ts.take i), List.append_assoc]
        rfl
      (repeat' (first | ((with_reducible apply w_v); exact rfl) | with_reducible refine w_esC ?_ | with_reducible refine w_c ?_ | with_reducible refine w_esN ?_ | with_reducible refine w_ixL at1 ?_ | with_reducible refine w_strI (by omega) ?_ | array_get_dec))
      · rename_i hp
        refine w_put ?_
        (repeat' (first | ((with_reducible apply w_v); exact rfl) | with_reducible refine w_esC ?_ | with_reducible refine w_c ?_ | with_reducible refine w_esN ?_ | with_reducible refine w_strI (by omega) ?_ | array_get_dec))
        refine ⟨_, _, i, rfl, rfl, ?_, ?_⟩
        · rw [List.length_map, List.length_append, lt, List.length_drop]
          unfold ixN
          rw [if_pos (by omega), if_pos (by omega)]
          congr 1
          omega
        · have e : putS nm d ts[i] = toString d := by unfold putS; rw [if_pos (by simpa using hp)]
          rw [e] at nxt
          refine ⟨Sl.val (.int (0 + (i : Nat))), ?_⟩
          simp only [esc_nil, List.set_cons_zero, List.set_cons_succ, nxt]
      · rename_i hp
        have e : putS nm d ts[i] = ts[i] := by unfold putS; rw [if_neg (by simpa using hp)]
        have e2 : (((ts.take i).map (putS nm d) ++ ts.drop i).map D.str).set i (.str ts[i]) = ((ts.take i).map (putS nm d) ++ ts.drop i).map D.str := by
          obtain ⟨h1, h2⟩ := List.getElem?_eq_some_iff.mp g1
          rw [← h2]
          exact List.set_getElem_self h1
        rw [e, e2] at nxt
        rw [nxt]
        exact ⟨_, rfl⟩
    · obtain ⟨s4, rfl⟩ := hI
      have e : (((ts.length : Int) - 0).toNat) = ts.length := by omega
      rw [e, List.take_length, List.drop_length, List.append_nil]
      (repeat' (first | array_get_dec))
      exact q
  | .un k a, n, d, hn, h0, h1, hs, Q, q => by
    obtain ⟨m, rfl⟩ : ∃ m, n = m + 1 := ⟨n - 1, by omega⟩
    have hn : dep a + 1 + 1 ≤ m + 1 := hn
    have h1 : d + ((dep a + 1 : Nat) : Int) ≤ 1000 := h1
    apply R__law_bound
    unfold B__law_bound
    simp only [enc]
    have ih := fun (d' : Int) (h : 0 ≤ d') (h' : d' ≤ d + 1) {Q : D → Prop} (q : Q (enc (bindS nm d' a))) => bound_ok nm a (n := m) d' (by omega) h (by omega) hs q
    cases k <;> simp only [U.nm] <;> (repeat' (first | ((with_reducible apply w_v); exact rfl) | with_reducible refine w_esC ?_ | with_reducible refine w_c ?_ | with_reducible refine w_esN ?_ | with_reducible refine ih _ (by omega) (by omega) ?_ | array_get_dec))
    all_goals exact q
  | .bin k a b, n, d, hn, h0, h1, hs, Q, q => by
    obtain ⟨m, rfl⟩ : ∃ m, n = m + 1 := ⟨n - 1, by omega⟩
    have hn : max (dep a) (dep b) + 1 + 1 ≤ m + 1 := hn
    have h1 : d + ((max (dep a) (dep b) + 1 : Nat) : Int) ≤ 1000 := h1
    apply R__law_bound
    unfold B__law_bound
    simp only [enc]
    have ih := fun (d' : Int) (h : d' = d + 0) {Q : D → Prop} (q : Q (enc (bindS nm d a))) => show Wp (fnL 3 (Phi m j__law_bound) [enc a, .str nm, .int d']) Q by
      rw [h, Int.add_zero]; exact bound_ok nm a (n := m) d (by omega) h0 (by omega) hs.1 q
    have ih2 := fun (d' : Int) (h : d' = d + 0) {Q : D → Prop} (q : Q (enc (bindS nm d b))) => show Wp (fnL 3 (Phi m j__law_bound) [enc b, .str nm, .int d']) Q by
      rw [h, Int.add_zero]; exact bound_ok nm b (n := m) d (by omega) h0 (by omega) hs.2 q
    cases k <;> simp only [B2.nm] <;> (repeat' (first | ((with_reducible apply w_v); exact rfl) | with_reducible refine w_esC ?_ | with_reducible refine w_c ?_ | with_reducible refine w_esN ?_ | with_reducible refine ih _ rfl ?_ | with_reducible refine ih2 _ rfl ?_ | array_get_dec))
    all_goals exact q
end G

/-! More walk rules. -/
namespace DL
open PySem L2
section
variable {ρ : Rho} {t : Te} {f : Ex}
/-- a comprehension with a test -/
theorem w_compT {α : Type} {g : D → Rho → Option Rho} (e k : α → D) (p : α → Bool) : ∀ {xs : List α} {Q : List D → Prop}, (∀ x ∈ xs, Wp (g (e x) ρ) fun ρ1 => Wp (t ρ1) fun b => b = p x ∧ (b = true → Wp (f ρ1) fun y => y = k x)) → Q ((xs.filter p).map k) → Wp (compS g t f ρ (xs.map e)) Q
  | [], Q, _, q => ⟨[], rfl, q⟩
  | x :: xs, Q, h, q => by
    obtain ⟨ρ1, e1, b, e2, hb, hf⟩ := h x List.mem_cons_self
    obtain ⟨ys, e3, hy⟩ := w_compT e k p (xs := xs) (Q := fun ys => ys = (xs.filter p).map k) (fun x' m => h x' (List.mem_cons_of_mem _ m)) rfl
    subst hy
    rw [List.map_cons, compS, e1, Option.bind_some, e2, Option.bind_some]
    subst hb
    cases hp : p x with
    | true =>
      obtain ⟨y, e4, rfl⟩ := hf hp
      rw [List.filter_cons_of_pos hp, List.map_cons] at q
      refine ⟨_, ?_, q⟩
      rw [if_pos rfl, e4, Option.bind_some, e3]
      rfl
    | false =>
      rw [List.filter_cons_of_neg (by rw [hp]; decide)] at q
      refine ⟨_, ?_, q⟩
      rw [if_neg (by decide), e3]
/-- the first sign of a text -/
theorem w_ix0 {x : Str} {c : Nat} {r : List Nat} {Q : D → Prop} (h : x.cps.toList = c :: r) (hl : x.length ≤ 16777216) (q : Q (.str ⟨#[c]⟩)) : Wp (dIx (.str x) (.int 0)) Q := w_ixS hl (by rw [h]; exact atI_nat (j := 0) (xs := c :: r) rfl) q
theorem w_inS {c : Nat} {z : Str} {Q : D → Prop} (q : Q (.bl (decide (c ∈ z.cps.toList)))) : Wp (dIn (.str ⟨#[c]⟩) (.str z)) Q := w_in rfl q
theorem w_niS {c : Nat} {z : Str} {Q : D → Prop} (q : Q (.bl (!decide (c ∈ z.cps.toList)))) : Wp (dNotIn (.str ⟨#[c]⟩) (.str z)) Q := w_notIn rfl q
end
end DL
namespace ST
open PySem L2 DL
theorem fig_dec (c : Nat) : decide (c ∈ ("0123456789" : Str).cps.toList) = fgr c := by
  cases e : fgr c with
  | true => exact decide_eq_true (fgr_iff.mpr e)
  | false => exact decide_eq_false fun z => by rw [fgr_iff.mp z] at e; cases e
/-- a name or one of the first ten places -/
def T9 (x : Str) : Prop := Nm x ∨ ∃ d : Int, 0 ≤ d ∧ d ≤ 9 ∧ x = pn d
theorem T9.tm {x : Str} (h : T9 x) : Tm x := by
  rcases h with h | ⟨d, h0, h1, rfl⟩
  · exact .inl h
  · exact .inr ⟨d, h0, by omega, rfl⟩
theorem found_no {z x : Str} {c : Nat} {r : List Nat} (h : x.cps.toList = c :: r) (hc : c ∉ z.cps.toList) : found z x = false := by
  cases e : found z x with
  | false => rfl
  | true =>
    exfalso
    obtain ⟨i, h1, h2⟩ := (PySem.StrLaws.found_iff z x).mp e
    have hx : 0 < x.length := by show 0 < x.cps.size; rw [← Array.length_toList, h]; simp
    rw [PySem.StrLaws.subAt_eq, beq_iff_eq, h] at h2
    have h3 : c ∈ (z.cps.toList.drop i).take x.length := by rw [h2]; exact List.mem_cons_self
    exact hc (List.mem_of_mem_drop (List.mem_of_mem_take h3))
theorem pn_one : ((List.range 10).all fun d => decide ((pn (d : Nat)).cps.toList = [48 + d])) = true := by decide +kernel
theorem pn_cps {d : Int} (h0 : 0 ≤ d) (h1 : d ≤ 9) : ∃ c, (pn d).cps.toList = [c] ∧ fgr c = true := by
  obtain ⟨n, rfl⟩ := Int.eq_ofNat_of_zero_le h0
  have z := List.all_eq_true.mp pn_one n (List.mem_range.mpr (by omega))
  refine ⟨48 + n, by simpa using z, ?_⟩
  unfold fgr
  exact decide_eq_true (by omega)
theorem inO_str (x z : Str) : dInO (.str x) (.str z) = match x.cps.toList with
    | [c] => some (decide (c ∈ z.cps.toList))
    | _ => some (found z x) := rfl
theorem niF {x : Str} (h : T9 x) : dInO (.str x) (.str "0123456789") = some (isF x) := by
  rw [inO_str]
  rcases h with h | ⟨d, h0, h1, rfl⟩
  · obtain ⟨c, r, e, hc⟩ := h.hd
    have hn : c ∉ ("0123456789" : Str).cps.toList := fun z => by
      have z := fgr_iff.mp z
      unfold fgr at z
      unfold low at hc
      simp only [decide_eq_true_eq] at z hc
      omega
    rw [h.noF]
    split
    · rename_i c' e'
      rw [e] at e'
      cases e'
      rw [decide_eq_false hn]
    · rw [found_no e hn]
  · obtain ⟨c, e, hc⟩ := pn_cps h0 h1
    have hF : isF (pn d) = true := pn_F h0 (by omega)
    rw [hF]
    split
    · rename_i c' e'
      rw [e] at e'
      cases e'
      rw [decide_eq_true (fgr_iff.mpr hc)]
    · rename_i hno
      exact absurd e (hno c)
theorem w_niF {x : Str} {Q : D → Prop} (h : T9 x) (q : Q (.bl (!isF x))) : Wp (dNotIn (.str x) (.str "0123456789")) Q := w_notIn (niF h) q
def encW (p : Str × List Str) : D := enc (.word p.1 p.2)
theorem noLs_encW : ∀ l : List (Str × List Str), noLs (l.map encW) = true
  | [] => rfl
  | p :: l => by rw [List.map_cons, noLs, noLs_encW l, show noL (encW p) = true from noL_enc _]; rfl
def sgl : Stm → Nat
  | .yn _ => 0
  | .word _ _ => 1
  | .un _ a => sgl a
  | .bin _ a b => sgl a + sgl b
end ST
namespace ST
open PySem L2 DL
/-- a signed statement -/
def sg (r : Str × Stm) : D := .tup [.str r.1, enc r.2]
theorem nkOk_sg (r : Str × Stm) : nkOk (sg r) = true := by simp [sg, nkOk, nkOks, nkOk_enc]
theorem noL_sg (r : Str × Stm) : noL (sg r) = true := nk_noL (nkOk_sg r)
theorem noLs_sg : ∀ l : List (Str × Stm), noLs (l.map sg) = true
  | [] => rfl
  | r :: l => by rw [List.map_cons, noLs, noL_sg, noLs_sg l]; rfl
theorem depth_sg (r : Str × Stm) : (nk (sg r)).depth ≤ dep r.2 + 3 := by
  have := depth_enc r.2
  simp [sg, nk, nks, NestedKey.depth, NestedKey.depthAll]
  omega
theorem cmp_sg : Cmp fun d => ∃ r : Str × Stm, d = sg r ∧ dep r.2 ≤ 5 where
  ok := fun d ⟨r, e, _⟩ => by subst e; exact nkOk_sg r
  cm := fun a b ⟨x, e, _⟩ ⟨y, e', _⟩ => by
    subst e e'
    simp only [sg, nk, nks, cmb]
    exact cmbA_head fun _ => cmbA_any (cmb_enc x.2 y.2) (by simp [cmbA])
  d8 := fun d ⟨r, e, h⟩ => by
    subst e
    have := depth_sg r
    omega
  kd := ⟨3, by decide, fun d ⟨x, e, _⟩ => by subst e; simp [sg, nk, nks, DL.kd]⟩
  tx := ⟨false, fun d ⟨x, e, _⟩ => by subst e; rfl⟩
theorem enc_inj {a b : Stm} (h : enc a = enc b) : a = b := by
  induction a generalizing b with
  | yn x =>
    cases b with
    | yn y =>
      simp only [enc, D.tup.injEq, List.cons.injEq, D.str.injEq, and_true] at h
      cases x <;> cases y <;> first | rfl | (exact absurd h (by decide +kernel))
    | word _ _ => simp [enc] at h
    | un _ _ => simp [enc] at h
    | bin _ _ _ => simp [enc] at h
  | word w ts =>
    cases b with
    | word v us =>
      simp only [enc, D.tup.injEq, List.cons.injEq, D.str.injEq, and_true, true_and] at h
      have : ts = us := by
        have z := h.2
        have inj : Function.Injective D.str := fun _ _ e => by injection e
        exact (List.map_inj_right (fun _ _ e => inj e)).mp z
      rw [h.1, this]
    | yn _ => simp [enc] at h
    | un _ _ => simp [enc] at h
    | bin j _ _ =>
      simp [enc] at h
      exact absurd h.1.symm (nm_bw j)
  | un k a ih =>
    cases b with
    | un j c =>
      simp only [enc, D.tup.injEq, List.cons.injEq, D.str.injEq, and_true] at h
      have hk : k = j := by
        have z := h.1
        cases k <;> cases j <;> first | rfl | (exact absurd z (by decide +kernel))
      rw [hk, ih h.2]
    | yn _ => simp [enc] at h
    | word _ _ => simp [enc] at h
    | bin _ _ _ => simp [enc] at h
  | bin k a c ih1 ih2 =>
    cases b with
    | bin j x y =>
      simp only [enc, D.tup.injEq, List.cons.injEq, D.str.injEq, and_true] at h
      have hk : k = j := by
        have z := h.1
        cases k <;> cases j <;> first | rfl | (exact absurd z (by decide +kernel))
      rw [hk, ih1 h.2.1, ih2 h.2.2]
    | yn _ => simp [enc] at h
    | word _ _ =>
      simp [enc] at h
      exact absurd h.1 (nm_bw k)
    | un _ _ => simp [enc] at h
theorem sg_inj {a b : Str × Stm} (h : sg a = sg b) : a = b := by
  simp only [sg, D.tup.injEq, List.cons.injEq, D.str.injEq, and_true] at h
  exact Prod.ext h.1 (enc_inj h.2)
end ST

namespace G
open PySem L2 DL ST
/-- a small statement of these words and names -/
structure Small (ws vs : List Str) (A : Stm) : Prop where
  sh : short A
  dp : dep A ≤ 1
  sz : sgn A ≤ 1
  t9 : ∀ t ∈ trm A, T9 t
  nv : ∀ t ∈ nms A, t ∈ vs
theorem small_leaf {ws vs : List Str} (hv : ∀ v ∈ vs, Nm v) {A : Stm} (h : Leaf ws vs A) : Small ws vs A := by
  obtain ⟨k1, k2, k3⟩ := leaf_short h
  have ht := leaf_terms h hv
  exact ⟨k1, by omega, by omega, fun t m => .inl (ht t m).2, fun t m => (ht t ((List.mem_filter.mp m).1)).1⟩
theorem small_not {ws vs : List Str} (hv : ∀ v ∈ vs, Nm v) {A : Stm} (h : Leaf ws vs A) : Small ws vs (.un .nt A) := by
  obtain ⟨k1, k2, k3⟩ := leaf_short h
  have z := small_leaf hv h
  exact ⟨z.sh, by show dep A + 1 ≤ 1; omega, by show sgn A + 1 ≤ 1; omega, z.t9, z.nv⟩
theorem small_bin {ws vs : List Str} (hv : ∀ v ∈ vs, Nm v) {A B : Stm} (k : B2) (h : Leaf ws vs A) (h' : Leaf ws vs B) : Small ws vs (.bin k A B) := by
  obtain ⟨k1, k2, k3⟩ := leaf_short h
  obtain ⟨j1, j2, j3⟩ := leaf_short h'
  have z := small_leaf hv h
  have y := small_leaf hv h'
  refine ⟨⟨z.sh, y.sh⟩, by show max (dep A) (dep B) + 1 ≤ 1; omega, by show sgn A + sgn B + 1 ≤ 1; omega, fun t m => ?_, fun t m => ?_⟩
  · rcases List.mem_append.mp (show t ∈ trm A ++ trm B from m) with m | m
    · exact z.t9 t m
    · exact y.t9 t m
  · rw [nms_app] at m
    rcases List.mem_append.mp m with m | m
    · exact z.nv t m
    · exact y.nv t m
theorem small_all {ws vs : List Str} (hv : ∀ v ∈ vs, Nm v) {A : Stm} (k : U) {nm : Str} (hn : Nm nm) (h : Leaf ws vs A) : Small ws vs (.un k (bindS nm 0 A)) := by
  obtain ⟨k1, k2, k3⟩ := leaf_short h
  have ht := leaf_terms h hv
  have z := small_leaf hv h
  refine ⟨short_bind nm 0 _ z.sh, by show dep (bindS nm 0 A) + 1 ≤ 1; rw [dep_bind]; omega, by show sgn (bindS nm 0 A) + 1 ≤ 1; rw [sgn_bind]; omega, fun t m => ?_, fun t m => z.nv t ((nms_bind hn (by omega)).mp m).1⟩
  rcases trm_bind nm 0 A (Int.le_refl _) m with y | ⟨e, e1, e2, rfl⟩
  · exact z.t9 t y.1
  · exact .inr ⟨e, e1, by omega, rfl⟩
set_option maxHeartbeats 1000000 in
theorem small_ok {n : Nat} (hn : 5 ≤ n) (c : Int) (ws vs : List Str) (hw : ws.length = 4) (hv : vs.length = 4) (hvn : ∀ v ∈ vs, Nm v) {Q : D → Prop} (q : ∀ A, Small ws vs A → Q (enc A)) : Wp (fnL 3 (Phi n j__law_small) [.int c, .lst (ws.map .str), .lst (vs.map .str)]) Q := by
  obtain ⟨m, rfl⟩ : ∃ m, n = m + 1 := ⟨n - 1, by omega⟩
  apply R__law_small
  unfold B__law_small
  (repeat' (first | ((with_reducible apply w_v); exact rfl) | with_reducible refine w_esC ?_ | with_reducible refine w_c ?_ | with_reducible refine w_esN ?_ | with_reducible refine leaf_ok (by omega) _ ws vs hw hv (fun A hA => ?_) | array_mem_dec))
  · rename_i B hB _
    refine w_ixL' (by omega) (by show _ < (3 : Int); omega) fun d hd => ?_
    simp at hd
    rcases hd with rfl | rfl | rfl
    · (repeat' (first | array_mem_dec))
      exact q _ (small_bin hvn .an hB hA)
    · (repeat' (first | array_mem_dec))
      exact q _ (small_bin hvn .or hB hA)
    · (repeat' (first | array_mem_dec))
      exact q _ (small_bin hvn .im hB hA)
  · rename_i B hB _ _
    exact q _ (small_not hvn hB)
  · rename_i B hB _ _ _
    obtain ⟨k1, k2, k3⟩ := leaf_short hB
    (repeat' (first | ((with_reducible apply w_v); exact rfl) | with_reducible refine w_esC ?_ | with_reducible refine w_c ?_ | with_reducible refine w_esN ?_ | with_reducible refine w_ixM (by omega) (by omega) (fun t ht => ?_) | with_reducible refine bound_ok t B 0 (by omega) (by omega) (by omega) k1 ?_ | array_mem_dec))
    refine w_ixL' (by omega) (by show _ < (2 : Int); omega) fun d hd => ?_
    simp at hd
    rcases hd with rfl | rfl
    · (repeat' (first | ((with_reducible apply w_v); exact rfl) | with_reducible refine w_esC ?_ | with_reducible refine w_c ?_ | with_reducible refine w_esN ?_ | with_reducible refine w_ixM (by omega) (by omega) (fun t ht => ?_) | with_reducible refine bound_ok t B 0 (by omega) (by omega) (by omega) k1 ?_ | array_mem_dec))
      exact q _ (small_all hvn .al (hvn _ (by assumption)) hB)
    · (repeat' (first | ((with_reducible apply w_v); exact rfl) | with_reducible refine w_esC ?_ | with_reducible refine w_c ?_ | with_reducible refine w_esN ?_ | with_reducible refine w_ixM (by omega) (by omega) (fun t ht => ?_) | with_reducible refine bound_ok t B 0 (by omega) (by omega) (by omega) k1 ?_ | array_mem_dec))
      exact q _ (small_all hvn .so (hvn _ (by assumption)) hB)
  · rename_i B hB _ _ _
    exact q _ (small_leaf hvn hB)
end G

/-! Walk rules for function values; terms turned. -/
namespace DL
open PySem L2
section
variable {ρ : Rho}
theorem w_callF {L : List Fsh} {n i : Nat} {φ : Nat → List D → Option D} {fs : Exs} {S : Fsh} {caps : List Str} {Q : D → Prop} (e : ρ[i]? = some (.val (.fn S caps))) (hS : S ∈ L) (q : Wp (fs ρ) fun ds => (ds.length = n ∧ ds.all isAt = true) ∧ Wp (φ S.k (ds ++ caps.map .str)) fun d => isAt d = true ∧ Q d) : Wp (eCF L n φ i fs ρ) Q := by
  refine w_bind (w_v e (w_bind (q.mono fun ds z => ?_)))
  obtain ⟨⟨z1, z2⟩, d, e1, e2, e3⟩ := z
  refine ⟨d, ?_, e3⟩
  have k : dCF L n φ (.fn S caps) ds = (φ S.k (ds ++ caps.map .str)).bind fun d => if isAt d = true then some d else none := if_pos ⟨hS, z1, z2⟩
  rw [k, e1, Option.bind_some, if_pos e2]
theorem w_sDR {S : Fsh} {js al1 al3 : List Nat} {i : Nat} {φ : List D → Option D} {f1 f3 : Ex} {caps : List Str} {Q : Out → Prop} (e : ρ[i]? = some .no) (hc : capsOf ρ js = some caps) (hn : (noO al1 ρ && noO al3 ρ) = true) (q : Wp (f1 ρ) fun d1 => Wp (f3 ρ) fun d3 => Wp (φ [d1, .fn S caps, d3]) fun d => noF d = true ∧ Q (.ret d)) : Wp (sDR S js i φ f1 f3 al1 al3 ρ) Q := by
  unfold sDR
  rw [e]
  refine w_bind (q.mono fun d1 z => w_bind (z.mono fun d3 z => ?_))
  rw [hc, Option.bind_some, if_pos hn]
  refine w_bind (z.mono fun d z => ?_)
  exact ⟨_, if_pos z.1, z.2⟩
theorem fnL_of {n : Nat} {φ : List D → Option D} {ds : List D} {Q : D → Prop} (h : ds.length = n) (k : Wp (fnL n φ ds) Q) : Wp (φ ds) Q := by
  unfold fnL at k
  rw [if_pos h] at k
  exact k
theorem fq_ret {g : D → Rho → Option Rho} {B : Sx} {ds : List D} {Q : Out → Prop} {d : D} (h : Q (.ret d)) : forQ g B ds Q (.ret d) := h
theorem w_in2 {x a b : Str} {Q : D → Prop} (q : Q (.bl (a == x || b == x))) : Wp (dIn (.str x) (.tup [.str a, .str b])) Q := by
  refine w_in (show dInO _ (.tup _) = _ from in_flat rfl) ?_
  simpa [deq] using q
theorem w_ni2 {x a b : Str} {Q : D → Prop} (q : Q (.bl (!(a == x || b == x)))) : Wp (dNotIn (.str x) (.tup [.str a, .str b])) Q := by
  refine w_notIn (show dInO _ (.tup _) = _ from in_flat rfl) ?_
  simpa [deq] using q
theorem w_in3 {x a b c : Str} {Q : D → Prop} (q : Q (.bl (a == x || b == x || c == x))) : Wp (dIn (.str x) (.tup [.str a, .str b, .str c])) Q := by
  refine w_in (show dInO _ (.tup _) = _ from in_flat rfl) ?_
  simpa [deq, Bool.or_assoc] using q
theorem w_ni3 {x a b c : Str} {Q : D → Prop} (q : Q (.bl (!(a == x || b == x || c == x)))) : Wp (dNotIn (.str x) (.tup [.str a, .str b, .str c])) Q := by
  refine w_notIn (show dInO _ (.tup _) = _ from in_flat rfl) ?_
  simpa [deq, Bool.or_assoc] using q
theorem pls_strs : ∀ ts : List Str, pls (ts.map D.str) = true
  | [] => by simp [pls]
  | t :: r => by
    rw [List.map_cons, pls, pls_strs r]
    simp [pl]
theorem in_strs {x : Str} {ts : List Str} : dInB (.str x) (ts.map .str) = some (decide (x ∈ ts)) := by
  refine (in_flat ?_).trans ?_
  · rw [pls_strs]
    simp [pl, dpt]
  · rw [List.any_map]
    congr 1
    rw [Bool.eq_iff_iff]
    simp only [List.any_eq_true, Function.comp, deq, beq_iff_eq, decide_eq_true_eq]
    exact ⟨fun ⟨y, h1, h2⟩ => h2 ▸ h1, fun h => ⟨x, h, rfl⟩⟩
theorem w_inTs {x : Str} {ts : List Str} {Q : D → Prop} (q : Q (.bl (decide (x ∈ ts)))) : Wp (dIn (.str x) (.tup (ts.map .str))) Q := w_in (show dInO _ (.tup _) = _ from in_strs) q
theorem w_inLs {x : Str} {ts : List Str} {Q : D → Prop} (q : Q (.bl (decide (x ∈ ts)))) : Wp (dIn (.str x) (.lst (ts.map .str))) Q := w_in (show dInO _ (.lst _) = _ from in_strs) q
theorem w_niTs {x : Str} {ts : List Str} {Q : D → Prop} (q : Q (.bl (!decide (x ∈ ts)))) : Wp (dNotIn (.str x) (.tup (ts.map .str))) Q := w_notIn (show dInO _ (.tup _) = _ from in_strs) q
theorem w_niLs {x : Str} {ts : List Str} {Q : D → Prop} (q : Q (.bl (!decide (x ∈ ts)))) : Wp (dNotIn (.str x) (.lst (ts.map .str))) Q := w_notIn (show dInO _ (.lst _) = _ from in_strs) q
/-- a comprehension over texts -/
theorem w_compS {f : Ex} {g : D → Rho → Option Rho} (k : Str → D) : ∀ {xs : List Str} {Q : List D → Prop}, (∀ x ∈ xs, Wp (g (.str x) ρ) fun ρ1 => Wp (f ρ1) fun y => y = k x) → Q (xs.map k) → Wp (compS g tY f ρ (xs.map .str)) Q
  | [], _, _, q => w_compN q
  | x :: xs, Q, h, q => w_compC ((h x List.mem_cons_self).mono fun ρ1 z => z.mono fun y e => by
      subst e
      exact w_compS k (xs := xs) (fun x' m => h x' (List.mem_cons_of_mem _ m)) q)
end
end DL
namespace ST
open PySem L2 DL
theorem noFs_strs : ∀ ts : List Str, noFs (ts.map D.str) = true
  | [] => by simp [noFs]
  | t :: r => by
    rw [List.map_cons, noFs, noFs_strs r]
    simp [noF]
theorem noF_enc : ∀ a : Stm, noF (enc a) = true
  | .yn b => by simp [enc, noF, noFs]
  | .word w ts => by simp [enc, noF, noFs, noFs_strs]
  | .un k a => by simp [enc, noF, noFs, noF_enc a]
  | .bin k a b => by simp [enc, noF, noFs, noF_enc a, noF_enc b]
/-- each term turned, told how deep it stands -/
def wt (τ : Str → Int → Str) : Int → Stm → Stm
  | _, .yn b => .yn b
  | d, .word w ts => .word w (ts.map fun t => τ t d)
  | d, .un k a => .un k (wt τ (d + k.in1) a)
  | d, .bin k a b => .bin k (wt τ d a) (wt τ d b)
def bndT (nm : Str) (t : Str) (d : Int) : Str := if t == nm then pn d else t
def insT (nm : Str) (t : Str) (d : Int) : Str := if t == pn d then nm else t
def renT (old new : Str) (t : Str) (_ : Int) : Str := if t == old then new else t
theorem bndT_pos {nm : Str} {d : Int} : bndT nm nm d = pn d := if_pos (by simp)
theorem bndT_neg {nm t : Str} {d : Int} (h : t ≠ nm) : bndT nm t d = t := if_neg (by simpa using h)
theorem insT_pos {nm : Str} {d : Int} : insT nm (pn d) d = nm := if_pos (by simp)
theorem insT_neg {nm t : Str} {d : Int} (h : t ≠ pn d) : insT nm t d = t := if_neg (by simpa using h)
theorem renT_pos {old new : Str} {d : Int} : renT old new old d = new := if_pos (by simp)
theorem renT_neg {old new t : Str} {d : Int} (h : t ≠ old) : renT old new t d = t := if_neg (by simpa using h)
theorem wt_bnd (nm : Str) : ∀ (d : Int) (a : Stm), wt (bndT nm) d a = bindS nm d a
  | _, .yn _ => rfl
  | d, .word w ts => rfl
  | d, .un k a => by show Stm.un k (wt _ _ a) = .un k (bindS nm _ a); rw [wt_bnd]
  | d, .bin k a b => by show Stm.bin k (wt _ d a) (wt _ d b) = .bin k (bindS nm d a) (bindS nm d b); rw [wt_bnd, wt_bnd]
abbrev insS (nm : Str) : Int → Stm → Stm := wt (insT nm)
abbrev renS (old new : Str) : Stm → Stm := wt (renT old new) 0
theorem sgn_wt (τ : Str → Int → Str) : ∀ (d : Int) (a : Stm), sgn (wt τ d a) = sgn a
  | _, .yn _ => rfl
  | _, .word _ _ => rfl
  | d, .un k a => congrArg (· + 1) (sgn_wt τ _ a)
  | d, .bin k a b => by show sgn (wt τ d a) + sgn (wt τ d b) + 1 = _; rw [sgn_wt τ d a, sgn_wt τ d b]; rfl
theorem dep_wt (τ : Str → Int → Str) : ∀ (d : Int) (a : Stm), dep (wt τ d a) = dep a
  | _, .yn _ => rfl
  | _, .word _ _ => rfl
  | d, .un k a => congrArg (· + 1) (dep_wt τ _ a)
  | d, .bin k a b => by show max (dep (wt τ d a)) (dep (wt τ d b)) + 1 = _; rw [dep_wt τ d a, dep_wt τ d b]; rfl
theorem prt_wt (τ : Str → Int → Str) : ∀ (d : Int) (a : Stm), prt (wt τ d a) = prt a
  | _, .yn _ => rfl
  | _, .word _ _ => rfl
  | d, .un k a => congrArg (· + 1) (prt_wt τ _ a)
  | d, .bin k a b => by show prt (wt τ d a) + prt (wt τ d b) + 1 = _; rw [prt_wt τ d a, prt_wt τ d b]; rfl
theorem short_wt (τ : Str → Int → Str) : ∀ (d : Int) (a : Stm), short a → short (wt τ d a)
  | _, .yn _, h => h
  | _, .word _ ts, h => by show (ts.map _).length ≤ 3; rw [List.length_map]; exact h
  | d, .un k a, h => short_wt τ _ a h
  | d, .bin k a b, h => ⟨short_wt τ d a h.1, short_wt τ d b h.2⟩
/-- terms by how deep they stand -/
def trmD : Int → Stm → List (Str × Int)
  | _, .yn _ => []
  | d, .word _ ts => ts.map fun t => (t, d)
  | d, .un k a => trmD (d + k.in1) a
  | d, .bin _ a b => trmD d a ++ trmD d b
theorem trmD_trm : ∀ (d : Int) (a : Stm), (trmD d a).map (·.1) = trm a
  | _, .yn _ => rfl
  | d, .word w ts => by
    show (ts.map fun t => (t, d)).map (·.1) = ts
    rw [List.map_map]
    exact List.map_id _
  | d, .un k a => trmD_trm _ a
  | d, .bin k a b => by simp [trmD, trm, trmD_trm d a, trmD_trm d b]
theorem trmD_wt (τ : Str → Int → Str) : ∀ (d : Int) (a : Stm), trmD d (wt τ d a) = (trmD d a).map fun p => (τ p.1 p.2, p.2)
  | _, .yn _ => rfl
  | d, .word w ts => by simp [trmD, wt]
  | d, .un k a => trmD_wt τ _ a
  | d, .bin k a b => by simp [trmD, wt, trmD_wt τ d a, trmD_wt τ d b]
theorem trmD_dep : ∀ (d : Int) (a : Stm) {p : Str × Int}, p ∈ trmD d a → d ≤ p.2 ∧ p.2 ≤ d + dep a
  | _, .yn _, p, h => by cases h
  | d, .word w ts, p, h => by
    obtain ⟨t, _, rfl⟩ := List.mem_map.mp (show p ∈ ts.map fun t => (t, d) from h)
    exact ⟨Int.le_refl _, by show d ≤ d + ((0 : Nat) : Int); omega⟩
  | d, .un k a, p, h => by
    have hk : 0 ≤ k.in1 ∧ k.in1 ≤ 1 := by cases k <;> decide
    have z := trmD_dep _ a (show p ∈ trmD (d + k.in1) a from h)
    refine ⟨by omega, ?_⟩
    show p.2 ≤ d + ((dep a + 1 : Nat) : Int)
    omega
  | d, .bin k a b, p, h => by
    have e : dep (.bin k a b) = max (dep a) (dep b) + 1 := rfl
    rcases List.mem_append.mp (show p ∈ trmD d a ++ trmD d b from h) with h | h
    · have z := trmD_dep d a h
      omega
    · have z := trmD_dep d b h
      omega
/-- two turnings that agree at each term -/
theorem wt_congr {τ υ : Str → Int → Str} : ∀ (d : Int) (a : Stm), (∀ p ∈ trmD d a, τ p.1 p.2 = υ p.1 p.2) → wt τ d a = wt υ d a
  | _, .yn _, _ => rfl
  | d, .word w ts, h => by
    show Stm.word w _ = .word w _
    rw [List.map_congr_left (f := fun t => τ t d) (g := fun t => υ t d) fun t m => h (t, d) (List.mem_map.mpr ⟨t, m, rfl⟩)]
  | d, .un k a, h => congrArg (Stm.un k) (wt_congr _ a h)
  | d, .bin k a b, h => by
    show Stm.bin k _ _ = .bin k _ _
    rw [wt_congr d a fun p m => h p (List.mem_append_left _ m), wt_congr d b fun p m => h p (List.mem_append_right _ m)]
theorem wt_id {τ : Str → Int → Str} : ∀ (d : Int) (a : Stm), (∀ p ∈ trmD d a, τ p.1 p.2 = p.1) → wt τ d a = a
  | _, .yn _, _ => rfl
  | d, .word w ts, h => by
    show Stm.word w (ts.map fun t => τ t d) = .word w ts
    rw [List.map_congr_left (f := fun t => τ t d) (g := id) fun t m => h (t, d) (List.mem_map.mpr ⟨t, m, rfl⟩), List.map_id]
  | d, .un k a, h => congrArg (Stm.un k) (wt_id _ a h)
  | d, .bin k a b, h => by
    show Stm.bin k _ _ = .bin k _ _
    rw [wt_id d a fun p m => h p (List.mem_append_left _ m), wt_id d b fun p m => h p (List.mem_append_right _ m)]
theorem wt_wt (τ υ : Str → Int → Str) : ∀ (d : Int) (a : Stm), wt τ d (wt υ d a) = wt (fun t e => τ (υ t e) e) d a
  | _, .yn _ => rfl
  | d, .word w ts => by simp [wt]
  | d, .un k a => congrArg (Stm.un k) (wt_wt τ υ _ a)
  | d, .bin k a b => by simp [wt, wt_wt τ υ d a, wt_wt τ υ d b]
/-- closed, d all and some around: names, and places within -/
def Wf (d : Int) (a : Stm) : Prop := ∀ p ∈ trmD d a, Nm p.1 ∨ ∃ e : Int, 0 ≤ e ∧ e < p.2 ∧ p.1 = pn e
/-- .. by the place, where d more stand around -/
theorem wf_shift : ∀ (c d : Int) (a : Stm) {p : Str × Int}, p ∈ trmD (d + c) a → (p.1, p.2 - c) ∈ trmD d a
  | _, _, .yn _, p, h => by cases h
  | c, d, .word w ts, p, h => by
    obtain ⟨t, m, rfl⟩ := List.mem_map.mp (show p ∈ ts.map fun t => (t, d + c) from h)
    exact List.mem_map.mpr ⟨t, m, by simp only [Prod.mk.injEq, true_and]; omega⟩
  | c, d, .un k a, p, h => by
    refine wf_shift c (d + k.in1) a ?_
    have h : p ∈ trmD (d + c + k.in1) a := h
    rw [show d + k.in1 + c = d + c + k.in1 by omega]
    exact h
  | c, d, .bin k a b, p, h => by
    rcases List.mem_append.mp (show p ∈ trmD (d + c) a ++ trmD (d + c) b from h) with h | h
    · exact List.mem_append_left _ (wf_shift c d a h)
    · exact List.mem_append_right _ (wf_shift c d b h)
theorem wf_bind {nm : Str} {a : Stm} (k : U) (hk : k ≠ .nt) (h : Wf 0 a) : Wf 0 (.un k (bindS nm 0 a)) := by
  have k1 : k.in1 = 1 := by cases k <;> first | exact absurd rfl hk | rfl
  intro p hp
  have hp : p ∈ trmD (0 + k.in1) (bindS nm 0 a) := hp
  rw [k1] at hp
  have hp := wf_shift 1 0 _ hp
  rw [← wt_bnd, trmD_wt] at hp
  obtain ⟨q, hq, e⟩ := List.mem_map.mp hp
  injection e with e1 e2
  have hd := (trmD_dep 0 a hq).1
  unfold bndT at e1
  split at e1
  · exact .inr ⟨q.2, hd, by omega, e1.symm⟩
  · rcases h q hq with z | ⟨e, z1, z2, z3⟩
    · exact .inl (by rw [← e1]; exact z)
    · exact .inr ⟨e, z1, by omega, by rw [← e1]; exact z3⟩
theorem wf_not {a : Stm} (h : Wf 0 a) : Wf 0 (.un .nt a) := h
theorem wf_bin {a b : Stm} (k : B2) (h : Wf 0 a) (h' : Wf 0 b) : Wf 0 (.bin k a b) := fun p hp => (List.mem_append.mp (show p ∈ trmD 0 a ++ trmD 0 b from hp)).elim (h p) (h' p)
theorem ren_d {old new : Str} : ∀ (d : Int) (a : Stm), wt (renT old new) d a = wt (renT old new) 0 a
  | _, .yn _ => rfl
  | _, .word w ts => rfl
  | d, .un k a => by
    show Stm.un k (wt _ (d + k.in1) a) = .un k (wt _ (0 + k.in1) a)
    rw [ren_d (d + k.in1) a, ren_d (0 + k.in1) a]
  | d, .bin k a b => by
    show Stm.bin k _ _ = .bin k _ _
    rw [ren_d d a, ren_d d b]
/-- put in again -/
theorem ins_bnd {nm new : Str} {a : Stm} (h : Wf 0 a) (hd : dep a < 64) : insS new 0 (bindS nm 0 a) = renS nm new a := by
  rw [← wt_bnd]
  refine (wt_wt _ _ _ _).trans (wt_congr _ _ fun p hp => ?_)
  have hp' := trmD_dep 0 a hp
  show insT new (bndT nm p.1 p.2) p.2 = renT nm new p.1 p.2
  by_cases e : p.1 = nm
  · rw [e, bndT_pos, insT_pos, renT_pos]
  · rw [bndT_neg e, renT_neg e]
    refine insT_neg ?_
    rcases h p hp with z | ⟨q, z1, z2, z3⟩
    · exact nm_pn z hp'.1 (by omega)
    · rw [z3]
      intro y
      have := pn_inj z1 (by omega) hp'.1 (by omega) y
      omega
theorem ins_wf {new : Str} {a : Stm} (h : Wf 0 a) (hd : dep a < 64) : insS new 0 a = a := by
  refine wt_id _ _ fun p hp => ?_
  have hp' := trmD_dep 0 a hp
  refine insT_neg ?_
  rcases h p hp with z | ⟨q, z1, z2, z3⟩
  · exact nm_pn z hp'.1 (by omega)
  · rw [z3]
    intro y
    have := pn_inj z1 (by omega) hp'.1 (by omega) y
    omega
theorem ren_same {nm : Str} {a : Stm} : renS nm nm a = a := wt_id _ _ fun p _ => by
  unfold renT
  split
  · rename_i e
    simp only [beq_iff_eq] at e
    exact e.symm
  · rfl
theorem mem_trm {a : Stm} {p : Str × Int} {d : Int} (h : p ∈ trmD d a) : p.1 ∈ trm a := by
  rw [← trmD_trm d a]
  exact List.mem_map.mpr ⟨p, h, rfl⟩
theorem trm_mem {a : Stm} {t : Str} (d : Int) (h : t ∈ trm a) : ∃ e, (t, e) ∈ trmD d a := by
  rw [← trmD_trm d a] at h
  obtain ⟨p, hp, rfl⟩ := List.mem_map.mp h
  exact ⟨p.2, hp⟩
theorem bnd_id {nm : Str} {a : Stm} (h : nm ∉ trm a) : bindS nm 0 a = a := by
  rw [← wt_bnd]
  refine wt_id _ _ fun p hp => ?_
  unfold bndT
  rw [if_neg]
  simp only [beq_iff_eq]
  exact fun e => h (e ▸ mem_trm hp)
theorem bnd_no {nm : Str} {a : Stm} (hn : Nm nm) (hd : dep a < 64) : nm ∉ trm (bindS nm 0 a) := fun h => by
  rcases trm_bind nm 0 a (Int.le_refl _) h with z | ⟨e, e1, e2, e3⟩
  · exact z.2 rfl
  · exact nm_pn hn e1 (by omega) e3
theorem bnd_ren {nm new : Str} {a : Stm} (h : new ∉ trm (bindS nm 0 a)) : bindS new 0 (renS nm new a) = bindS nm 0 a := by
  rw [← wt_bnd, ← wt_bnd]
  refine (wt_wt _ _ _ _).trans (wt_congr _ _ fun p hp => ?_)
  show bndT new (renT nm new p.1 p.2) p.2 = bndT nm p.1 p.2
  by_cases e : p.1 = nm
  · rw [e, renT_pos, bndT_pos, bndT_pos]
  · rw [renT_neg e, bndT_neg e]
    refine bndT_neg ?_
    exact fun y => h (y ▸ trm_bind2 nm 0 a (mem_trm hp) e)
end ST

/-! Equality of data of texts and tuples. -/
namespace DL
open PySem L2
mutual
/-- texts and tuples alone -/
def tx : D → Bool
  | .str _ => true
  | .tup xs => txs xs
  | _ => false
def txs : List D → Bool
  | [] => true
  | x :: xs => tx x && txs xs
end
mutual
theorem deq_tx : ∀ {x y : D}, tx x = true → tx y = true → (deq x y = true ↔ x = y)
  | .str a, .str b, _, _ => by simp [deq]
  | .tup xs, .tup ys, hx, hy => by
    have := deqs_tx (xs := xs) (ys := ys) (by simpa [tx] using hx) (by simpa [tx] using hy)
    simp [deq, this]
  | .str _, .tup _, _, _ => by simp [deq]
  | .tup _, .str _, _, _ => by simp [deq]
  | .non, _, h, _ => by simp [tx] at h
  | .bl _, _, h, _ => by simp [tx] at h
  | .int _, _, h, _ => by simp [tx] at h
  | .lst _, _, h, _ => by simp [tx] at h
  | .scr _, _, h, _ => by simp [tx] at h
  | .dct _, _, h, _ => by simp [tx] at h
  | .fn _ _, _, h, _ => by simp [tx] at h
  | .str _, .non, _, h => by simp [tx] at h
  | .str _, .bl _, _, h => by simp [tx] at h
  | .str _, .int _, _, h => by simp [tx] at h
  | .str _, .lst _, _, h => by simp [tx] at h
  | .str _, .scr _, _, h => by simp [tx] at h
  | .str _, .dct _, _, h => by simp [tx] at h
  | .str _, .fn _ _, _, h => by simp [tx] at h
  | .tup _, .non, _, h => by simp [tx] at h
  | .tup _, .bl _, _, h => by simp [tx] at h
  | .tup _, .int _, _, h => by simp [tx] at h
  | .tup _, .lst _, _, h => by simp [tx] at h
  | .tup _, .scr _, _, h => by simp [tx] at h
  | .tup _, .dct _, _, h => by simp [tx] at h
  | .tup _, .fn _ _, _, h => by simp [tx] at h
theorem deqs_tx : ∀ {xs ys : List D}, txs xs = true → txs ys = true → (deqs xs ys = true ↔ xs = ys)
  | [], [], _, _ => by simp [deqs]
  | [], _ :: _, _, _ => by simp [deqs]
  | _ :: _, [], _, _ => by simp [deqs]
  | x :: xs, y :: ys, hx, hy => by
    simp only [txs, Bool.and_eq_true] at hx hy
    have h1 := deq_tx hx.1 hy.1
    have h2 := deqs_tx hx.2 hy.2
    simp [deqs, h1, h2]
end
mutual
theorem pl_tx : ∀ {x : D}, tx x = true → pl x = true
  | .str _, _ => by simp [pl]
  | .tup xs, h => by
    have := pls_tx (xs := xs) (by simpa [tx] using h)
    simpa [pl] using this
  | .non, h => by simp [tx] at h
  | .bl _, h => by simp [tx] at h
  | .int _, h => by simp [tx] at h
  | .lst _, h => by simp [tx] at h
  | .scr _, h => by simp [tx] at h
  | .dct _, h => by simp [tx] at h
  | .fn _ _, h => by simp [tx] at h
theorem pls_tx : ∀ {xs : List D}, txs xs = true → pls xs = true
  | [], _ => by simp [pls]
  | x :: xs, h => by
    simp only [txs, Bool.and_eq_true] at h
    simp [pls, pl_tx h.1, pls_tx h.2]
end
mutual
theorem noL_tx : ∀ {x : D}, tx x = true → noL x = true
  | .str _, _ => by simp [noL]
  | .tup xs, h => by
    have := noLs_tx (xs := xs) (by simpa [tx] using h)
    simpa [noL] using this
  | .non, h => by simp [tx] at h
  | .bl _, h => by simp [tx] at h
  | .int _, h => by simp [tx] at h
  | .lst _, h => by simp [tx] at h
  | .scr _, h => by simp [tx] at h
  | .dct _, h => by simp [tx] at h
  | .fn _ _, h => by simp [tx] at h
theorem noLs_tx : ∀ {xs : List D}, txs xs = true → noLs xs = true
  | [], _ => by simp [noLs]
  | x :: xs, h => by
    simp only [txs, Bool.and_eq_true] at h
    simp [noLs, noL_tx h.1, noLs_tx h.2]
end
theorem txs_all : ∀ {xs : List D}, (∀ x ∈ xs, tx x = true) → txs xs = true
  | [], _ => by simp [txs]
  | x :: xs, h => by simp [txs, h x List.mem_cons_self, txs_all (xs := xs) fun y m => h y (List.mem_cons_of_mem _ m)]
theorem dpts_le {n : Nat} : ∀ {xs : List D}, (∀ x ∈ xs, dpt x ≤ n) → dpts xs ≤ n
  | [], _ => by simp [dpts]
  | x :: xs, h => by
    have h1 := h x List.mem_cons_self
    have h2 := dpts_le (n := n) (xs := xs) fun y m => h y (List.mem_cons_of_mem _ m)
    simp only [dpts]
    omega
theorem eqG_tx {x y : D} (hx : tx x = true) (hy : tx y = true) (h : dpt x ≤ 60 ∨ dpt y ≤ 60) : ∃ b, dEqB x y = some b ∧ (b = true ↔ x = y) := by
  have e : dEqB x y = dEqG x y := by
    unfold dEqB
    split
    · simp [tx] at hx
    · rfl
  refine ⟨deq x y, ?_, deq_tx hx hy⟩
  rw [e]
  refine if_pos ?_
  rw [pl_tx hx, pl_tx hy]
  simp only [Bool.and_self, Bool.true_and, decide_eq_true_eq]
  omega
theorem w_eqX {x y : D} {Q : D → Prop} (hx : tx x = true) (hy : tx y = true) (h : dpt x ≤ 60 ∨ dpt y ≤ 60) (q : ∀ b, (b = true ↔ x = y) → Q (.bl b)) : Wp (dEq x y) Q := by
  obtain ⟨b, e, hb⟩ := eqG_tx hx hy h
  exact ⟨.bl b, by unfold dEq; rw [e]; rfl, q b hb⟩
theorem w_neX {x y : D} {Q : D → Prop} (hx : tx x = true) (hy : tx y = true) (h : dpt x ≤ 60 ∨ dpt y ≤ 60) (q : ∀ b, (b = true ↔ x = y) → Q (.bl (!b))) : Wp (dNe x y) Q := by
  obtain ⟨b, e, hb⟩ := eqG_tx hx hy h
  exact ⟨.bl (!b), by unfold dNe; rw [e]; rfl, q b hb⟩
/-- x in ys, all of texts and tuples -/
theorem inB_tx {x : D} {ys : List D} (hx : tx x = true) (hy : txs ys = true) (h : dpt x ≤ 60 ∨ dpts ys ≤ 60) : ∃ b, dInB x ys = some b ∧ (b = true ↔ x ∈ ys) := by
  refine ⟨_, in_flat ?_, ?_⟩
  · rw [pl_tx hx, pls_tx hy]
    simp only [Bool.and_self, Bool.true_and, decide_eq_true_eq]
    omega
  · rw [List.any_eq_true]
    have key : ∀ zs : List D, txs zs = true → ∀ y ∈ zs, tx y = true := by
      intro zs
      induction zs with
      | nil => intro _ y m; cases m
      | cons z zs ih =>
        intro h y m
        simp only [txs, Bool.and_eq_true] at h
        rcases List.mem_cons.mp m with rfl | m
        · exact h.1
        · exact ih h.2 y m
    constructor
    · rintro ⟨y, m, e⟩
      rw [(deq_tx (key _ hy y m) hx).mp e] at m
      exact m
    · intro m
      exact ⟨x, m, (deq_tx hx hx).mpr rfl⟩
theorem w_inX {x : D} {ys : List D} {Q : D → Prop} (hx : tx x = true) (hy : txs ys = true) (h : dpt x ≤ 60 ∨ dpts ys ≤ 60) (q : ∀ b, (b = true ↔ x ∈ ys) → Q (.bl b)) (hn : ∀ z : Str, x ≠ .str z := by intro _ z; cases z) : Wp (dIn x (.tup ys)) Q := by
  obtain ⟨b, e, hb⟩ := inB_tx hx hy h
  exact w_in (show dInO _ (.tup _) = _ from e) (q b hb)
theorem w_inY {x : D} {ys : List D} {Q : D → Prop} (hx : tx x = true) (hy : txs ys = true) (h : dpt x ≤ 60 ∨ dpts ys ≤ 60) (q : ∀ b, (b = true ↔ x ∈ ys) → Q (.bl b)) : Wp (dIn x (.lst ys)) Q := by
  obtain ⟨b, e, hb⟩ := inB_tx hx hy h
  exact w_in (show dInO _ (.lst _) = _ from e) (q b hb)
theorem w_niX {x : D} {ys : List D} {Q : D → Prop} (hx : tx x = true) (hy : txs ys = true) (h : dpt x ≤ 60 ∨ dpts ys ≤ 60) (q : ∀ b, (b = true ↔ x ∈ ys) → Q (.bl (!b))) : Wp (dNotIn x (.tup ys)) Q := by
  obtain ⟨b, e, hb⟩ := inB_tx hx hy h
  exact w_notIn (show dInO _ (.tup _) = _ from e) (q b hb)
theorem w_niY {x : D} {ys : List D} {Q : D → Prop} (hx : tx x = true) (hy : txs ys = true) (h : dpt x ≤ 60 ∨ dpts ys ≤ 60) (q : ∀ b, (b = true ↔ x ∈ ys) → Q (.bl (!b))) : Wp (dNotIn x (.lst ys)) Q := by
  obtain ⟨b, e, hb⟩ := inB_tx hx hy h
  exact w_notIn (show dInO _ (.lst _) = _ from e) (q b hb)
end DL
namespace ST
open PySem L2 DL
theorem txs_strs : ∀ ts : List Str, txs (ts.map D.str) = true
  | [] => by simp [txs]
  | t :: r => by rw [List.map_cons, txs, txs_strs r]; simp [tx]
theorem tx_enc : ∀ a : Stm, tx (enc a) = true
  | .yn b => by simp [enc, tx, txs]
  | .word w ts => by simp [enc, tx, txs, txs_strs]
  | .un k a => by simp [enc, tx, txs, tx_enc a]
  | .bin k a b => by simp [enc, tx, txs, tx_enc a, tx_enc b]
theorem dpts_strs : ∀ ts : List Str, dpts (ts.map D.str) = 0
  | [] => by simp [dpts]
  | t :: r => by rw [List.map_cons, dpts, dpts_strs r]; simp [dpt]
theorem dpt_enc : ∀ a : Stm, dpt (enc a) ≤ dep a + 2
  | .yn b => by simp [enc, dpt, dpts]
  | .word w ts => by simp [enc, dpt, dpts, dpts_strs, dep]
  | .un k a => by
    have := dpt_enc a
    simp only [enc, dpt, dpts, dep]
    omega
  | .bin k a b => by
    have h1 := dpt_enc a
    have h2 := dpt_enc b
    simp only [enc, dpt, dpts, dep]
    omega
theorem strs_inj : ∀ {ts us : List Str}, ts.map D.str = us.map D.str → ts = us
  | [], [], _ => rfl
  | [], _ :: _, h => by simp at h
  | _ :: _, [], h => by simp at h
  | t :: ts, u :: us, h => by
    simp only [List.map_cons, List.cons.injEq, D.str.injEq] at h
    rw [h.1, strs_inj h.2]
theorem ynm_inj {a b : Bool} (h : ynm a = ynm b) : a = b := by
  cases a <;> cases b <;> first | rfl | exact absurd h (by decide +kernel)
theorem U.nm_inj {a b : U} (h : a.nm = b.nm) : a = b := by
  cases a <;> cases b <;> first | rfl | exact absurd h (by decide +kernel)
theorem B2.nm_inj {a b : B2} (h : a.nm = b.nm) : a = b := by
  cases a <;> cases b <;> first | rfl | exact absurd h (by decide +kernel)
theorem nm_word4 (k : B2) : k.nm ≠ "word" := by cases k <;> decide +kernel
theorem enc_iff {a b : Stm} : enc a = enc b ↔ a = b := ⟨enc_inj, fun h => by rw [h]⟩
noncomputable instance : DecidableEq Stm := fun a b => by
  induction a generalizing b with
  | yn x =>
    cases b with
    | yn y => exact if h : x = y then .isTrue (by rw [h]) else .isFalse (fun z => h (by cases z; rfl))
    | _ => exact .isFalse (fun z => by cases z)
  | word w ts =>
    cases b with
    | word v us => exact if h : w = v ∧ ts = us then .isTrue (by rw [h.1, h.2]) else .isFalse (fun z => h (by cases z; exact ⟨rfl, rfl⟩))
    | _ => exact .isFalse (fun z => by cases z)
  | un k a ih =>
    cases b with
    | un l b => exact match ih b with
      | .isTrue h => if h2 : k = l then .isTrue (by rw [h, h2]) else .isFalse (fun z => h2 (by cases z; rfl))
      | .isFalse h => .isFalse (fun z => h (by cases z; rfl))
    | _ => exact .isFalse (fun z => by cases z)
  | bin k a c ih1 ih2 =>
    cases b with
    | bin l b d => exact match ih1 b, ih2 d with
      | .isTrue h, .isTrue h' => if h2 : k = l then .isTrue (by rw [h, h', h2]) else .isFalse (fun z => h2 (by cases z; rfl))
      | .isFalse h, _ => .isFalse (fun z => h (by cases z; rfl))
      | _, .isFalse h => .isFalse (fun z => h (by cases z; rfl))
    | _ => exact .isFalse (fun z => by cases z)
theorem w_eqE' {a b : Stm} {Q : D → Prop} (h : dep a ≤ 58 ∨ dep b ≤ 58) (q : Q (.bl (decide (a = b)))) : Wp (dEq (enc a) (enc b)) Q := by
  have h1 := dpt_enc a
  have h2 := dpt_enc b
  refine w_eqX (tx_enc a) (tx_enc b) (by omega) fun x hx => ?_
  have : x = decide (a = b) := by
    rw [Bool.eq_iff_iff, hx, decide_eq_true_eq, enc_iff]
  rw [this]
  exact q
theorem w_neE' {a b : Stm} {Q : D → Prop} (h : dep a ≤ 58 ∨ dep b ≤ 58) (q : Q (.bl (!decide (a = b)))) : Wp (dNe (enc a) (enc b)) Q := by
  have h1 := dpt_enc a
  have h2 := dpt_enc b
  refine w_neX (tx_enc a) (tx_enc b) (by omega) fun x hx => ?_
  have : x = decide (a = b) := by
    rw [Bool.eq_iff_iff, hx, decide_eq_true_eq, enc_iff]
  rw [this]
  exact q
theorem w_eqS' {a : Stm} {Q : D → Prop} (h : dep a ≤ 58) (q : Q (.bl true)) : Wp (dEq (enc a) (enc a)) Q := w_eqE' (.inl h) (by rw [decide_eq_true rfl]; exact q)
theorem w_neS' {a : Stm} {Q : D → Prop} (h : dep a ≤ 58) (q : Q (.bl false)) : Wp (dNe (enc a) (enc a)) Q := w_neE' (.inl h) (by rw [decide_eq_true rfl]; exact q)
end ST

/-! Branches of signed statements. -/
namespace DL
open PySem L2
mutual
theorem deq_refl : ∀ {x : D}, pl x = true → deq x x = true
  | .non, _ => by simp [deq]
  | .bl _, _ => by simp [deq]
  | .int _, _ => by simp [deq]
  | .str _, _ => by simp [deq]
  | .tup xs, h => by
    have := deqs_refl (xs := xs) (by simpa [pl] using h)
    simpa [deq] using this
  | .lst xs, h => by
    have := deqs_refl (xs := xs) (by simpa [pl] using h)
    simpa [deq] using this
  | .scr _, h => by simp [pl] at h
  | .dct _, h => by simp [pl] at h
  | .fn _ _, h => by simp [pl] at h
theorem deqs_refl : ∀ {xs : List D}, pls xs = true → deqs xs xs = true
  | [], _ => by simp [deqs]
  | x :: xs, h => by
    simp only [pls, Bool.and_eq_true] at h
    simp [deqs, deq_refl h.1, deqs_refl h.2]
end
theorem eqB_refl {x : D} (h : pl x = true) (hd : dpt x ≤ 160) : dEqB x x = some true := by
  have g : dEqG x x = some true := by
    unfold dEqG
    rw [if_pos (by rw [h]; simpa using hd), deq_refl h]
  cases x with
  | lst xs =>
    cases xs with
    | nil => rfl
    | cons y ys => exact g
  | _ => exact g
theorem w_eqR {x : D} {Q : D → Prop} (h : pl x = true) (hd : dpt x ≤ 160) (q : Q (.bl true)) : Wp (dEq x x) Q := ⟨_, by unfold dEq; rw [eqB_refl h hd]; rfl, q⟩
theorem w_neR {x : D} {Q : D → Prop} (h : pl x = true) (hd : dpt x ≤ 160) (q : Q (.bl false)) : Wp (dNe x x) Q := ⟨_, by unfold dNe; rw [eqB_refl h hd]; rfl, q⟩
theorem w_neBB {b : Bool} {Q : D → Prop} (q : Q (.bl false)) : Wp (dNe (.bl b) (.bl b)) Q := w_neR (by simp [pl]) (by simp [dpt]) q
theorem w_rg11 {x : D} {Q : List D → Prop} (q : Q []) : Wp (dRg2 [.int 1, .int (([x] : List D).length : Nat)]) Q := w_rg2 (by show _ ∧ ((-(2 ^ 62) : Int) ≤ 1 ∧ (1 : Int) < 2 ^ 62); decide) q
theorem w_rg12 {x y : D} {Q : List D → Prop} (q : Q [.int 1]) : Wp (dRg2 [.int 1, .int (([x, y] : List D).length : Nat)]) Q := w_rg2 (by show _ ∧ ((-(2 ^ 62) : Int) ≤ 2 ∧ (2 : Int) < 2 ^ 62); decide) q
theorem w_rg13 {x y z : D} {Q : List D → Prop} (q : Q [.int 1, .int 2]) : Wp (dRg2 [.int 1, .int (([x, y, z] : List D).length : Nat)]) Q := w_rg2 (by show _ ∧ ((-(2 ^ 62) : Int) ≤ 3 ∧ (3 : Int) < 2 ^ 62); decide) q
theorem pls_map {α : Type} {k : α → D} (h : ∀ x, pl (k x) = true) : ∀ xs : List α, pls (xs.map k) = true
  | [] => by simp [pls]
  | x :: xs => by rw [List.map_cons, pls, h x, pls_map h xs]; rfl
theorem dpts_map {α : Type} {k : α → D} {n : Nat} : ∀ {xs : List α}, (∀ x ∈ xs, dpt (k x) ≤ n) → dpts (xs.map k) ≤ n
  | [], _ => by simp [dpts]
  | x :: xs, h => by
    have h1 := h x List.mem_cons_self
    have h2 := dpts_map (k := k) (n := n) (xs := xs) fun y m => h y (List.mem_cons_of_mem _ m)
    rw [List.map_cons]
    simp only [dpts]
    omega
theorem noLs_map {α : Type} {k : α → D} (h : ∀ x, noL (k x) = true) : ∀ xs : List α, noLs (xs.map k) = true
  | [] => by simp [noLs]
  | x :: xs => by rw [List.map_cons, noLs, h x, noLs_map h xs]; rfl
end DL
namespace ST
open PySem L2 DL
def oth (s : Str) : Str := if s == "left" then "right" else "left"
abbrev Sg := Str × Stm
/-- the branches -/
def prts (s : Str) : Stm → Str → List (List Sg)
  | .yn _, _ => []
  | .word _ _, _ => []
  | .un .nt a, _ => [[(oth s, a)]]
  | .un .al a, nm => [[(s, insS nm 0 a)]]
  | .un .so a, nm => [[(s, insS nm 0 a)]]
  | .bin .an a b, _ => if s == "left" then [[(s, a), (s, b)]] else [[(s, a)], [(s, b)]]
  | .bin .or a b, _ => if s == "left" then [[(s, a)], [(s, b)]] else [[(s, a), (s, b)]]
  | .bin .im a b, _ => if s == "left" then [[(oth s, a)], [(s, b)]] else [[(oth s, a), (s, b)]]
def encL (b : List Sg) : D := .lst (b.map sg)
def encB (bs : List (List Sg)) : D := .lst (bs.map encL)
theorem pl_enc (a : Stm) : pl (enc a) = true := pl_tx (tx_enc a)
theorem tx_sg (r : Sg) : tx (sg r) = true := by simp [sg, tx, txs, tx_enc]
theorem pl_sg (r : Sg) : pl (sg r) = true := pl_tx (tx_sg r)
theorem dpt_sg (r : Sg) : dpt (sg r) ≤ dep r.2 + 3 := by
  have := dpt_enc r.2
  simp only [sg, dpt, dpts]
  omega
theorem pl_encB (bs : List (List Sg)) : pl (encB bs) = true := by
  simp only [encB, pl]
  exact pls_map (fun b => by simp only [encL, pl]; exact pls_map pl_sg b) bs
theorem dpt_encB {n : Nat} {bs : List (List Sg)} (h : ∀ b ∈ bs, ∀ r ∈ b, dep r.2 ≤ n) : dpt (encB bs) ≤ n + 5 := by
  simp only [encB, dpt]
  have := dpts_map (k := encL) (n := n + 4) (xs := bs) fun b hb => by
    simp only [encL, dpt]
    have := dpts_map (k := sg) (n := n + 3) (xs := b) fun r hr => by
      have h1 := dpt_sg r
      have h2 := h b hb r hr
      omega
    omega
  omega
theorem prts_dep {s nm : Str} {A : Stm} : ∀ b ∈ prts s A nm, ∀ r ∈ b, dep r.2 + 1 ≤ dep A := by
  intro b hb r hr
  cases A with
  | yn _ => cases hb
  | word _ _ => cases hb
  | un k a =>
    cases k <;> (simp only [prts, List.mem_singleton] at hb; subst hb; simp only [List.mem_singleton] at hr; subst hr; simp [dep, dep_wt])
  | bin k a c =>
    cases k <;> simp only [prts] at hb <;> split at hb <;> simp only [List.mem_cons, List.not_mem_nil, or_false] at hb
    all_goals first
      | (subst hb; simp only [List.mem_cons, List.not_mem_nil, or_false] at hr; rcases hr with rfl | rfl <;> simp only [dep] <;> omega)
      | (rcases hb with rfl | rfl <;> simp only [List.mem_cons, List.not_mem_nil, or_false] at hr <;> subst hr <;> simp only [dep] <;> omega)
def own (s : Str) : Stm → Bool
  | .un .al _ => s == "right"
  | .un .so _ => s == "left"
  | _ => false
/-- the first text of a statement -/
def knd : Stm → Str
  | .yn b => ynm b
  | .word _ _ => "word"
  | .un k _ => k.nm
  | .bin k _ _ => k.nm
theorem enc_hd (A : Stm) : ∃ r, enc A = .tup (.str (knd A) :: r) := by
  cases A with
  | yn b => exact ⟨_, rfl⟩
  | word w ts => exact ⟨_, rfl⟩
  | un k a => exact ⟨_, rfl⟩
  | bin k a b => exact ⟨_, rfl⟩
theorem w_hd {A : Stm} {Q : D → Prop} (q : Q (.str (knd A))) : Wp (dIx (enc A) (.int 0)) Q := by
  obtain ⟨r, e⟩ := enc_hd A
  rw [e]
  exact w_ixT (atI_nat (j := 0) rfl) q
theorem own_knd (s : Str) (A : Stm) : own s A = ((s == "right" && knd A == "all") || (s == "left" && knd A == "some")) := by
  cases A with
  | yn b =>
    cases b
    · simp only [own, knd, ynm, if_false, Bool.false_eq_true]; rw [show (("no" : Str) == "all") = false by decide +kernel, show (("no" : Str) == "some") = false by decide +kernel]; simp
    · simp only [own, knd, ynm, if_true]; rw [show (("yes" : Str) == "all") = false by decide +kernel, show (("yes" : Str) == "some") = false by decide +kernel]; simp
  | word w ts => simp only [own, knd]; rw [show (("word" : Str) == "all") = false by decide +kernel, show (("word" : Str) == "some") = false by decide +kernel]; simp
  | un k a =>
    cases k
    · simp only [own, knd, U.nm]; rw [show (("not" : Str) == "all") = false by decide +kernel, show (("not" : Str) == "some") = false by decide +kernel]; simp
    · simp only [own, knd, U.nm]; rw [show (("all" : Str) == "all") = true by decide +kernel, show (("all" : Str) == "some") = false by decide +kernel]; simp
    · simp only [own, knd, U.nm]; rw [show (("some" : Str) == "all") = false by decide +kernel, show (("some" : Str) == "some") = true by decide +kernel]; simp
  | bin k a b =>
    cases k
    · simp only [own, knd, B2.nm]; rw [show (("and" : Str) == "all") = false by decide +kernel, show (("and" : Str) == "some") = false by decide +kernel]; simp
    · simp only [own, knd, B2.nm]; rw [show (("or" : Str) == "all") = false by decide +kernel, show (("or" : Str) == "some") = false by decide +kernel]; simp
    · simp only [own, knd, B2.nm]; rw [show (("if" : Str) == "all") = false by decide +kernel, show (("if" : Str) == "some") = false by decide +kernel]; simp
theorem w_inOwn {s : Str} {A : Stm} {Q : D → Prop} (q : Q (.bl (own s A))) : Wp (dIn (.tup [.str s, .str (knd A)]) (.tup [.tup [.str "right", .str "all"], .tup [.str "left", .str "some"]])) Q := by
  refine w_in (show dInO _ (.tup _) = _ from in_flat rfl) ?_
  have e : ([D.tup [.str "right", .str "all"], .tup [.str "left", .str "some"]].any fun y => deq y (.tup [.str s, .str (knd A)])) = own s A := by
    rw [own_knd]
    simp only [List.any_cons, List.any_nil, deq, deqs, Bool.and_true, Bool.or_false]
    rw [BEq.comm (a := ("right" : Str)), BEq.comm (a := ("all" : Str)), BEq.comm (a := ("left" : Str)), BEq.comm (a := ("some" : Str))]
  rw [e]
  exact q
end ST
namespace DL
open PySem L2
theorem cutG_mem {α : Type} {xs : List α} {lo hi : Option Int} {x : α} (h : x ∈ cutG xs lo hi) : x ∈ xs := List.mem_of_mem_drop (List.mem_of_mem_take h)
theorem cutG_len {α : Type} {xs : List α} {lo hi : Option Int} : (cutG xs lo hi).length ≤ xs.length := by
  unfold cutG
  rw [List.length_take, List.length_drop]
  omega
theorem cutG_map {α β : Type} (f : α → β) {xs : List α} {lo hi : Option Int} : cutG (xs.map f) lo hi = (cutG xs lo hi).map f := by
  unfold cutG
  simp only [List.length_map, List.map_take, List.map_drop]
theorem cutG_to {α : Type} {xs : List α} (k : Nat) : (cutG xs none (some (k : Int))).length ≤ k := by
  unfold cutG
  rw [List.length_take]
  have : HT.sIx xs.length xs.length (some (k : Int)) ≤ k := by
    unfold HT.sIx
    show (if (k : Int) < 0 then _ else min (k : Int).toNat _) ≤ k
    rw [if_neg (by omega)]
    omega
  omega
end DL

/-! Rows of signed statements as sets; when a tree fits. -/
namespace ST
open PySem L2 DL
/-- what is asked of a statement: these names -/
structure So (dom : List Str) (A : Stm) : Prop where
  sh : short A
  sz : sgn A ≤ 60
  dp : dep A ≤ 5
  tm : ∀ t ∈ trm A, T9 t
  nv : ∀ t ∈ nms A, t ∈ dom
theorem So.ok {dom : List Str} {A : Stm} (h : So dom A) : termsOk A := fun t ht => (h.tm t ht).tm
theorem so_un {dom : List Str} {k : U} {a : Stm} (h : So dom (.un k a)) : So dom a :=
  ⟨h.sh, by have : sgn a + 1 ≤ 60 := h.sz; omega, by have : dep a + 1 ≤ 5 := h.dp; omega, h.tm, h.nv⟩
theorem so_bin {dom : List Str} {k : B2} {a b : Stm} (h : So dom (.bin k a b)) : So dom a ∧ So dom b := by
  have h1 : sgn a + sgn b + 1 ≤ 60 := h.sz
  have h2 : max (dep a) (dep b) + 1 ≤ 5 := h.dp
  exact ⟨⟨h.sh.1, by omega, by omega, fun t m => h.tm t (List.mem_append_left _ m), fun t m => h.nv t (by rw [nms_app]; exact List.mem_append_left _ m)⟩,
    ⟨h.sh.2, by omega, by omega, fun t m => h.tm t (List.mem_append_right _ m), fun t m => h.nv t (by rw [nms_app]; exact List.mem_append_right _ m)⟩⟩
theorem trm_wt {τ : Str → Int → Str} {d : Int} {a : Stm} {t : Str} (h : t ∈ trm (wt τ d a)) : ∃ p ∈ trmD d a, t = τ p.1 p.2 := by
  obtain ⟨e, he⟩ := trm_mem d h
  rw [trmD_wt] at he
  obtain ⟨p, hp, z⟩ := List.mem_map.mp he
  injection z with z1 z2
  exact ⟨p, hp, z1.symm⟩
theorem trm_ins {nm : Str} {d : Int} {a : Stm} {t : Str} (h : t ∈ trm (insS nm d a)) : t ∈ trm a ∨ t = nm := by
  obtain ⟨p, hp, rfl⟩ := trm_wt h
  unfold insT
  split
  · exact .inr rfl
  · exact .inl (mem_trm hp)
theorem so_ins {dom : List Str} {a : Stm} {nm : Str} (h : So dom a) (hn : Nm nm) (hd : nm ∈ dom) : So dom (insS nm 0 a) := by
  refine ⟨short_wt _ _ _ h.sh, by rw [sgn_wt]; exact h.sz, by rw [dep_wt]; exact h.dp, fun t ht => ?_, fun t ht => ?_⟩
  · rcases trm_ins ht with z | rfl
    · exact h.tm t z
    · exact .inl hn
  · obtain ⟨h1, h2⟩ := List.mem_filter.mp ht
    rcases trm_ins h1 with z | rfl
    · exact h.nv t (List.mem_filter.mpr ⟨z, h2⟩)
    · exact hd
def quant : Stm → Bool
  | .un .al _ => true
  | .un .so _ => true
  | _ => false
theorem so_prts {dom : List Str} {A : Stm} {s nm : Str} (h : So dom A) (hn : quant A = true → Nm nm ∧ nm ∈ dom) : ∀ b ∈ prts s A nm, ∀ r ∈ b, So dom r.2 := by
  intro b hb r hr
  cases A with
  | yn _ => cases hb
  | word _ _ => cases hb
  | un k a =>
    have ha := so_un h
    cases k
    · simp only [prts, List.mem_singleton] at hb
      subst hb
      simp only [List.mem_singleton] at hr
      subst hr
      exact ha
    · simp only [prts, List.mem_singleton] at hb
      subst hb
      simp only [List.mem_singleton] at hr
      subst hr
      exact so_ins ha (hn rfl).1 (hn rfl).2
    · simp only [prts, List.mem_singleton] at hb
      subst hb
      simp only [List.mem_singleton] at hr
      subst hr
      exact so_ins ha (hn rfl).1 (hn rfl).2
  | bin k a c =>
    obtain ⟨h1, h2⟩ := so_bin h
    cases k <;> simp only [prts] at hb <;> split at hb <;> simp only [List.mem_cons, List.not_mem_nil, or_false] at hb
    all_goals first
      | (subst hb; simp only [List.mem_cons, List.not_mem_nil, or_false] at hr; rcases hr with rfl | rfl <;> assumption)
      | (rcases hb with rfl | rfl <;> simp only [List.mem_cons, List.not_mem_nil, or_false] at hr <;> subst hr <;> assumption)
theorem prts_two (s nm : Str) (A : Stm) : (prts s A nm).length ≤ 2 ∧ ∀ b ∈ prts s A nm, b.length ≤ 2 := by
  cases A with
  | yn _ => exact ⟨by simp [prts], fun b h => by cases h⟩
  | word _ _ => exact ⟨by simp [prts], fun b h => by cases h⟩
  | un k a => cases k <;> simp [prts]
  | bin k a b => cases k <;> simp only [prts] <;> split <;> simp
theorem prts_nm (s : Str) {A : Stm} (h : quant A = false) (nm nm' : Str) : prts s A nm = prts s A nm' := by
  cases A with
  | yn _ => rfl
  | word _ _ => rfl
  | un k a => cases k <;> first | rfl | cases h
  | bin k a b => cases k <;> rfl
/-- a row as a set -/
abbrev Rw := Sg → Prop
def Clo (R : Rw) : Prop := R ("right", .yn true) ∨ R ("left", .yn false) ∨ ∃ A, R ("left", A) ∧ R ("right", A)
def NmIn (R : Rw) (x : Str) : Prop := ∃ r, R r ∧ x ∈ nms r.2
def WellN (R : Rw) (s : Str) (A : Stm) (nm : Str) : Prop := if quant A = true then nm ≠ "" ∧ (own s A = true → ¬ NmIn R nm) else nm = ""
def addR (R : Rw) (b : List Sg) : Rw := fun r => R r ∨ r ∈ b
mutual
def Fit : Tr → Rw → Prop
  | .close, R => Clo R
  | .rule s A nm ks, R => R (s, A) ∧ WellN R s A nm ∧ prts s A nm ≠ [] ∧ (prts s A nm).length = ks.length ∧ Fits ks (prts s A nm) R
  | .cut A ks, R => ks.length = 2 ∧ Fits ks [[("right", A)], [("left", A)]] R
def Fits : List Tr → List (List Sg) → Rw → Prop
  | k :: ks, b :: bs, R => Fit k (addR R b) ∧ Fits ks bs R
  | _, _, _ => True
end
theorem fits_iff : ∀ (ks : List Tr) (bs : List (List Sg)) (R : Rw), Fits ks bs R ↔ ∀ p ∈ bs.zip ks, Fit p.2 (addR R p.1)
  | [], bs, R => by cases bs <;> simp [Fits]
  | k :: ks, [], R => by simp [Fits]
  | k :: ks, b :: bs, R => by simp [Fits, fits_iff ks bs R]
/-- the branches of a node -/
def brs : Tr → List (List Sg)
  | .close => []
  | .rule s A nm _ => prts s A nm
  | .cut A _ => [[("right", A)], [("left", A)]]
mutual
/-- what is asked of a tree -/
def TrOk (dom : List Str) : Tr → Prop
  | .close => True
  | .rule s A nm ks => So dom A ∧ (nm = "" ∨ (Nm nm ∧ nm ∈ dom)) ∧ ks.length ≤ 1000 ∧ TrOks dom ks
  | .cut A ks => So dom A ∧ ks.length ≤ 1000 ∧ TrOks dom ks
def TrOks (dom : List Str) : List Tr → Prop
  | [] => True
  | t :: ts => TrOk dom t ∧ TrOks dom ts
end
theorem trOks_mem {dom : List Str} {t : Tr} : ∀ {ts : List Tr}, TrOks dom ts → t ∈ ts → TrOk dom t
  | u :: ts, h, m => by
    have h : TrOk dom u ∧ TrOks dom ts := h
    rcases List.mem_cons.mp m with rfl | m
    · exact h.1
    · exact trOks_mem h.2 m
theorem nm_ne {x : Str} (h : Nm x) : x ≠ "" := fun e => by
  have := h.ne
  rw [e] at this
  exact this (by decide +kernel)
theorem seq_rows (us : List Sg) : seqD (.tup (us.map sg)) = some (us.map sg) ∧ seqD (.lst (us.map sg)) = some (us.map sg) := ⟨rfl, rfl⟩
/-- what sorted(set(..)) of a row comes to -/
theorem srt_row {us : List Sg} (h : ∀ r ∈ us, dep r.2 ≤ 5) : ∃ vs : List Sg, srtD (us.map sg) = vs.map sg ∧ (∀ r, r ∈ vs ↔ r ∈ us) ∧ vs.length ≤ us.length := by
  have hP : ∀ d ∈ us.map sg, ∃ r : Sg, d = sg r ∧ dep r.2 ≤ 5 := fun d m => by
    obtain ⟨r, hr, rfl⟩ := List.mem_map.mp m
    exact ⟨r, rfl, h r hr⟩
  have key : ∀ ds : List D, (∀ d ∈ ds, ∃ r : Sg, d = sg r) → ∃ vs : List Sg, ds = vs.map sg := by
    intro ds
    induction ds with
    | nil => exact fun _ => ⟨[], rfl⟩
    | cons d ds ih =>
      intro h
      obtain ⟨r, rfl⟩ := h d List.mem_cons_self
      obtain ⟨vs, rfl⟩ := ih fun d m => h d (List.mem_cons_of_mem _ m)
      exact ⟨r :: vs, rfl⟩
  obtain ⟨vs, hv⟩ := key (srtD (us.map sg)) fun d m => let ⟨r, e, _⟩ := hP d ((cmp_sg.mem hP).mp m); ⟨r, e⟩
  refine ⟨vs, hv, fun r => ?_, ?_⟩
  · have z := cmp_sg.mem hP (d := sg r)
    rw [hv] at z
    constructor
    · intro m
      obtain ⟨r', m', e⟩ := List.mem_map.mp (z.mp (List.mem_map.mpr ⟨r, m, rfl⟩))
      rw [← sg_inj e]
      exact m'
    · intro m
      obtain ⟨r', m', e⟩ := List.mem_map.mp (z.mpr (List.mem_map.mpr ⟨r, m, rfl⟩))
      rw [← sg_inj e]
      exact m'
  · have z := srtD_len (us.map sg)
    rw [hv, List.length_map, List.length_map] at z
    exact z
end ST
namespace ST
open PySem L2 DL
theorem setOk_row {us : List Sg} (h : ∀ r ∈ us, dep r.2 ≤ 5) (hl : us.length < 200) : setOk false (us.map sg) = true := by
  have hP : ∀ d ∈ us.map sg, ∃ r : Sg, d = sg r ∧ dep r.2 ≤ 5 := fun d m => by
    obtain ⟨r, hr, rfl⟩ := List.mem_map.mp m
    exact ⟨r, rfl, h r hr⟩
  have hd := ddp_len (us.map sg)
  rw [List.length_map] at hd
  unfold setOk
  simp only [Bool.and_eq_true, List.all_eq_true, decide_eq_true_eq]
  exact ⟨⟨nkOks_of fun d m => cmp_sg.ok d (hP d m), fun d m => ⟨cmp_sg.d8 d (hP d m), by obtain ⟨r, rfl, _⟩ := hP d m; rfl⟩⟩, by omega⟩
theorem w_or_row {x y : D} {us as : List Sg} {Q : List D → Prop} (e1 : seqD x = some (us.map sg)) (e2 : seqD y = some (as.map sg)) (h1 : ∀ r ∈ us, dep r.2 ≤ 5) (h2 : ∀ r ∈ as, dep r.2 ≤ 5) (hl : us.length + as.length < 200)
    (q : ∀ vs : List Sg, (∀ r, r ∈ vs ↔ r ∈ us ∨ r ∈ as) → vs.length ≤ us.length + as.length → srtD ((us ++ as).map sg) = vs.map sg → Q (vs.map sg)) : Wp (dSrtOr x y) Q := by
  have h3 : ∀ r ∈ us ++ as, dep r.2 ≤ 5 := fun r m => (List.mem_append.mp m).elim (h1 r) (h2 r)
  have hP : ∀ d ∈ (us ++ as).map sg, ∃ r : Sg, d = sg r ∧ dep r.2 ≤ 5 := fun d m => by
    obtain ⟨r, hr, rfl⟩ := List.mem_map.mp m
    exact ⟨r, rfl, h3 r hr⟩
  obtain ⟨vs, e3, e4, e5⟩ := srt_row h3
  have l1 := ddp_len (us.map sg)
  have l2 := ddp_len (as.map sg)
  have l3 := ddp_len ((us ++ as).map sg)
  simp only [List.length_map, List.length_append] at l1 l2 l3
  refine w_srtor e1 e2 (setOk_row h1 (by omega)) (setOk_row h2 (by omega)) (by omega) ?_ ?_
  · rw [← List.map_append]
    exact cmp_sg.row (fun d m => hP d (ddp_sub m)) (by omega)
  · rw [← List.map_append, e3]
    exact q vs (fun r => (e4 r).trans List.mem_append) (by rw [List.length_append] at e5; exact e5) e3
theorem w_set_row {x : D} {us : List Sg} {Q : List D → Prop} (e1 : seqD x = some (us.map sg)) (h1 : ∀ r ∈ us, dep r.2 ≤ 5) (hl : us.length < 200)
    (q : ∀ vs : List Sg, (∀ r, r ∈ vs ↔ r ∈ us) → vs.length ≤ us.length → srtD (us.map sg) = vs.map sg → Q (vs.map sg)) : Wp (dSrtSet x) Q := by
  have hP : ∀ d ∈ us.map sg, ∃ r : Sg, d = sg r ∧ dep r.2 ≤ 5 := fun d m => by
    obtain ⟨r, hr, rfl⟩ := List.mem_map.mp m
    exact ⟨r, rfl, h1 r hr⟩
  obtain ⟨vs, e3, e4, e5⟩ := srt_row h1
  refine w_srtC cmp_sg (dom := us.map sg) e1 hP (fun _ m => m) (by rw [List.length_map]; omega) ?_
  rw [e3]
  exact q vs e4 e5 e3
theorem txs_sg (us : List Sg) : txs (us.map sg) = true := txs_all fun d m => by
  obtain ⟨r, _, rfl⟩ := List.mem_map.mp m
  exact tx_sg r
/-- (s, A) in a row -/
theorem w_inRow {s : Str} {A : Stm} {us : List Sg} {Q : D → Prop} (h : dep A ≤ 50) (q : ∀ b, (b = true ↔ (s, A) ∈ us) → Q (.bl b)) : Wp (dIn (.tup [.str s, enc A]) (.tup (us.map sg))) Q := by
  have d1 := dpt_sg (s, A)
  obtain ⟨b, e, hb⟩ := inB_tx (x := sg (s, A)) (ys := us.map sg) (tx_sg _) (txs_sg us) (.inl (by have : dep (s, A).2 = dep A := rfl; omega))
  refine w_in (show dInO (sg (s, A)) (.tup _) = _ from e) (q b (hb.trans ?_))
  exact ⟨fun m => let ⟨r, h1, h2⟩ := List.mem_map.mp m; sg_inj h2 ▸ h1, fun m => List.mem_map.mpr ⟨_, m, rfl⟩⟩
theorem w_niRow {s : Str} {A : Stm} {us : List Sg} {Q : D → Prop} (h : dep A ≤ 50) (q : ∀ b, (b = true ↔ (s, A) ∈ us) → Q (.bl (!b))) : Wp (dNotIn (.tup [.str s, enc A]) (.tup (us.map sg))) Q := by
  have d1 := dpt_sg (s, A)
  obtain ⟨b, e, hb⟩ := inB_tx (x := sg (s, A)) (ys := us.map sg) (tx_sg _) (txs_sg us) (.inl (by have : dep (s, A).2 = dep A := rfl; omega))
  refine w_notIn (show dInO (sg (s, A)) (.tup _) = _ from e) (q b (hb.trans ?_))
  exact ⟨fun m => let ⟨r, h1, h2⟩ := List.mem_map.mp m; sg_inj h2 ▸ h1, fun m => List.mem_map.mpr ⟨_, m, rfl⟩⟩
/-- .. in a list -/
theorem w_inRowL {s : Str} {A : Stm} {us : List Sg} {Q : D → Prop} (h : dep A ≤ 50) (q : ∀ b, (b = true ↔ (s, A) ∈ us) → Q (.bl b)) : Wp (dIn (.tup [.str s, enc A]) (.lst (us.map sg))) Q := by
  have d1 := dpt_sg (s, A)
  obtain ⟨b, e, hb⟩ := inB_tx (x := sg (s, A)) (ys := us.map sg) (tx_sg _) (txs_sg us) (.inl (by have : dep (s, A).2 = dep A := rfl; omega))
  refine w_in (show dInO (sg (s, A)) (.lst _) = _ from e) (q b (hb.trans ?_))
  exact ⟨fun m => let ⟨r, h1, h2⟩ := List.mem_map.mp m; sg_inj h2 ▸ h1, fun m => List.mem_map.mpr ⟨_, m, rfl⟩⟩
theorem w_niRowL {s : Str} {A : Stm} {us : List Sg} {Q : D → Prop} (h : dep A ≤ 50) (q : ∀ b, (b = true ↔ (s, A) ∈ us) → Q (.bl (!b))) : Wp (dNotIn (.tup [.str s, enc A]) (.lst (us.map sg))) Q := by
  have d1 := dpt_sg (s, A)
  obtain ⟨b, e, hb⟩ := inB_tx (x := sg (s, A)) (ys := us.map sg) (tx_sg _) (txs_sg us) (.inl (by have : dep (s, A).2 = dep A := rfl; omega))
  refine w_notIn (show dInO (sg (s, A)) (.lst _) = _ from e) (q b (hb.trans ?_))
  exact ⟨fun m => let ⟨r, h1, h2⟩ := List.mem_map.mp m; sg_inj h2 ▸ h1, fun m => List.mem_map.mpr ⟨_, m, rfl⟩⟩
/-- A == ("yes",) -/
theorem w_eqYn {A : Stm} {c : Bool} {x : Str} {Q : D → Prop} (hx : ynm c = x) (h : dep A ≤ 50) (q : ∀ b, (b = true ↔ A = .yn c) → Q (.bl b)) : Wp (dEq (enc A) (.tup [.str x])) Q := by
  subst hx
  exact w_eqE' (b := .yn c) (.inl (by omega)) (q _ (by simp))
/-- when a row closes, by the statements ahead of one and behind -/
def CloAt (us : List Sg) (r : Sg) : Prop := (r.1 = "right" ∧ r.2 = .yn true) ∨ (r.1 = "left" ∧ (r.2 = .yn false ∨ (("right", r.2) : Sg) ∈ us))
theorem clo_iff (us : List Sg) : Clo (fun r => r ∈ us) ↔ ∃ r ∈ us, CloAt us r := by
  constructor
  · rintro (h | h | ⟨A, h1, h2⟩)
    · exact ⟨_, h, .inl ⟨rfl, rfl⟩⟩
    · exact ⟨_, h, .inr ⟨rfl, .inl rfl⟩⟩
    · exact ⟨_, h1, .inr ⟨rfl, .inr h2⟩⟩
  · rintro ⟨⟨s, A⟩, m, ⟨h1, h2⟩ | ⟨h1, h2 | h2⟩⟩
    · cases h1
      cases h2
      exact .inl m
    · cases h1
      cases h2
      exact .inr (.inl m)
    · cases h1
      exact .inr (.inr ⟨A, m, h2⟩)
end ST
namespace DL
open PySem L2
/-- the statement goes on, with slots such as P -/
def nxQ (P : Rho → Prop) : Out → Prop
  | .nx ρ => P ρ
  | _ => False
theorem nq_nx {P : Rho → Prop} {ρ : Rho} (h : P ρ) : nxQ P (.nx ρ) := h
theorem w_seqM {ρ : Rho} {F G : Sx} {Q : Out → Prop} (P : Rho → Prop) (h : Wp (F ρ) (nxQ P)) (k : ∀ ρ', P ρ' → Wp (G ρ') Q) : Wp (sSeq F G ρ) Q := by
  refine w_seq (h.mono fun o z => ?_)
  cases o with
  | nx ρ' => exact k ρ' z
  | ret d => cases z
  | brk ρ' => cases z
  | ct ρ' => cases z
end DL

namespace G
open PySem L2 DL ST
theorem closes_ok {n : Nat} (hn : 1 ≤ n) {us : List Sg} (h1 : ∀ r ∈ us, dep r.2 ≤ 50) {Q : D → Prop} (q : ∀ b, (b = true ↔ Clo (fun r => r ∈ us)) → Q (.bl b)) : Wp (fnL 1 (Phi n j_closes) [.tup (us.map sg)]) Q := by
  obtain ⟨m, rfl⟩ : ∃ m, n = m + 1 := ⟨n - 1, by omega⟩
  apply R_closes
  unfold B_closes
  (repeat' (first | array_get_dec))
  refine w_forA (I := fun ds ρ => ∃ (a b : List Sg) (s1 s2 : Sl), us = a ++ b ∧ ds = b.map sg ∧ (∀ r ∈ a, ¬ CloAt us r) ∧ ρ = [Sl.val (.tup (us.map sg)), s1, s2]) _ ⟨[], us, _, _, rfl, rfl, by simp, rfl⟩ (fun d ds ρ hI => ?_) (fun ρ hI => ?_)
  · obtain ⟨a, b, s1, s2, e1, e2, h2, rfl⟩ := hI
    obtain ⟨r, b, rfl⟩ : ∃ x r, b = x :: r := by
      cases b with
      | nil => cases e2
      | cons c r => exact ⟨c, r, rfl⟩
    obtain ⟨rfl, rfl⟩ := List.cons.inj e2
    have hr : r ∈ us := by rw [e1]; simp
    have hd := h1 r hr
    have yes : CloAt us r → Q (.bl true) := fun c => q true ⟨fun _ => (clo_iff us).mpr ⟨r, hr, c⟩, fun _ => rfl⟩
    have nxt : ¬ CloAt us r → ∃ (a b' : List Sg) (s1 s2 : Sl), us = a ++ b' ∧ b.map sg = b'.map sg ∧ (∀ r ∈ a, ¬ CloAt us r) ∧ [Sl.val (.tup (us.map sg)), Sl.val (.str r.1), Sl.val (enc r.2)] = [Sl.val (.tup (us.map sg)), s1, s2] := fun c => ⟨a ++ [r], b, _, _, by rw [e1]; simp, rfl, fun x m => (List.mem_append.mp m).elim (h2 x) fun z => by cases List.mem_singleton.mp z; exact c, rfl⟩
    simp only [sg]
    by_cases hs : r.1 = "right"
    · have k1 : ∀ {Q : D → Prop}, Q (.bl true) → Wp (dEq (.str r.1) (.str "right")) Q := fun {Q} q => w_eqS (by rw [show (r.1 == ("right" : Str)) = true by simpa using hs]; exact q)
      have k2 : ∀ {Q : D → Prop}, Q (.bl false) → Wp (dEq (.str r.1) (.str "left")) Q := fun {Q} q => w_eqS (by rw [hs, show (("right" : Str) == ("left" : Str)) = false by decide +kernel]; exact q)
      (repeat' (first | ((with_reducible apply w_v); exact rfl) | with_reducible refine w_esC ?_ | with_reducible refine w_c ?_ | with_reducible refine w_esN ?_ | with_reducible refine k1 ?_ | with_reducible refine k2 ?_ | with_reducible refine w_eqYn (c := true) rfl hd (fun b hb => ?_) | array_mem_dec))
      · rename_i h
        exact yes (.inl ⟨hs, hb.mp h⟩)
      · rename_i h
        exact nxt fun c => by
          rcases c with ⟨_, z⟩ | ⟨z, _⟩
          · rw [hb.mpr z] at h; cases h
          · rw [hs] at z; exact absurd z (by decide +kernel)
    · have k1 : ∀ {Q : D → Prop}, Q (.bl false) → Wp (dEq (.str r.1) (.str "right")) Q := fun {Q} q => w_eqS (by rw [show (r.1 == ("right" : Str)) = false by simpa using hs]; exact q)
      by_cases hl : r.1 = "left"
      · have k2 : ∀ {Q : D → Prop}, Q (.bl true) → Wp (dEq (.str r.1) (.str "left")) Q := fun {Q} q => w_eqS (by rw [show (r.1 == ("left" : Str)) = true by simpa using hl]; exact q)
        (repeat' (first | ((with_reducible apply w_v); exact rfl) | with_reducible refine w_esC ?_ | with_reducible refine w_c ?_ | with_reducible refine w_esN ?_ | with_reducible refine k1 ?_ | with_reducible refine k2 ?_ | with_reducible refine w_eqYn (c := false) rfl hd (fun b hb => ?_) | array_mem_dec))
        · rename_i h
          exact yes (.inr ⟨hl, .inl (hb.mp h)⟩)
        · rename_i hb h
          (repeat' (first | ((with_reducible apply w_v); exact rfl) | with_reducible refine w_esC ?_ | with_reducible refine w_c ?_ | with_reducible refine w_esN ?_ | with_reducible refine w_inRow hd (fun b2 hb2 => ?_) | array_get_dec))
          · rename_i h2
            exact yes (.inr ⟨hl, .inr (hb2.mp h2)⟩)
          · rename_i h2
            exact nxt fun c => by
              rcases c with ⟨z, _⟩ | ⟨_, z | z⟩
              · exact hs z
              · rw [hb.mpr z] at h; cases h
              · rw [hb2.mpr z] at h2; cases h2
      · have k2 : ∀ {Q : D → Prop}, Q (.bl false) → Wp (dEq (.str r.1) (.str "left")) Q := fun {Q} q => w_eqS (by rw [show (r.1 == ("left" : Str)) = false by simpa using hl]; exact q)
        (repeat' (first | ((with_reducible apply w_v); exact rfl) | with_reducible refine w_esC ?_ | with_reducible refine w_c ?_ | with_reducible refine w_esN ?_ | with_reducible refine k1 ?_ | with_reducible refine k2 ?_ | array_mem_dec))
        exact nxt fun c => c.elim (fun z => hs z.1) fun z => hl z.1
  · obtain ⟨a, b, s1, s2, e1, e2, h2, rfl⟩ := hI
    have hb : b = [] := List.map_eq_nil_iff.mp e2.symm
    subst hb
    rw [List.append_nil] at e1
    subst e1
    (repeat' (first | array_get_dec))
    exact q false ⟨fun z => (by cases z), fun z => by obtain ⟨r, m, c⟩ := (clo_iff us).mp z; exact absurd c (h2 r m)⟩
end G

namespace G
open PySem L2 DL ST
theorem clo_perm {us vs : List Sg} (h : ∀ r, r ∈ us ↔ r ∈ vs) : Clo (fun r => r ∈ us) ↔ Clo (fun r => r ∈ vs) := by
  have e : (fun r => r ∈ us) = fun r => r ∈ vs := funext fun r => propext (h r)
  rw [e]
theorem told_ok {n : Nat} (hn : 3 ≤ n) (us : List Sg) (hl : us.length ≤ 60) (hd : ∀ r ∈ us, dep r.2 ≤ 5) (b : Bool) (hb : b = true ↔ Clo (fun r => r ∈ us)) {Q : D → Prop} (q : Q (.bl true)) : Wp (fnL 2 (Phi n j__law_told) [.lst (us.map sg), .bl b]) Q := by
  obtain ⟨m, rfl⟩ : ∃ m, n = m + 1 := ⟨n - 1, by omega⟩
  have hP : ∀ d ∈ us.map sg, ∃ r : Str × Stm, d = sg r ∧ dep r.2 ≤ 5 := fun d m => by
    obtain ⟨r, hr, rfl⟩ := List.mem_map.mp m
    exact ⟨r, rfl, hd r hr⟩
  obtain ⟨rs, er, pr⟩ := SXQ.perm_map (List.mergeSort_perm (us.map sg) (leD false))
  have gs : ∀ {Q : List D → Prop}, Q (rs.map sg) → Wp (dSorted false [.lst (us.map sg)]) Q := fun q => w_sorted (cmp_sg.row hP (by rw [List.length_map]; omega)) (by rw [er]; exact q)
  have cl : ∀ {Q : D → Prop}, Q (.bl b) → Wp (fnL 1 (Phi m j_closes) [.tup (rs.map sg)]) Q := fun {Q} q => closes_ok (n := m) (by omega) (us := rs) (fun r m => Nat.le_trans (hd r (pr.mem_iff.mp m)) (by decide)) fun c hc => by
    have e : c = b := by
      exact Bool.eq_iff_iff.mpr (hc.trans ((clo_perm (us := rs) (vs := us) fun r => pr.mem_iff).trans hb.symm))
    rw [e]
    exact q
  have is : ∀ {Q : D → Prop}, Q (.bl true) → Wp (isi .bool (.bl b)) Q := fun q => ⟨_, rfl, q⟩
  have eq : ∀ {Q : D → Prop}, Q (.bl true) → Wp (dEq (.bl b) (.bl b)) Q := fun q => by cases b <;> exact ⟨_, rfl, q⟩
  apply R__law_told
  unfold B__law_told
  (repeat' (first | ((with_reducible apply w_v); exact rfl) | with_reducible refine w_esC ?_ | with_reducible refine w_c ?_ | with_reducible refine w_esN ?_ | with_reducible refine gs ?_ | with_reducible refine cl ?_ | with_reducible refine is ?_ | with_reducible refine eq ?_ | array_get_dec))
  exact q
/-! ### the sides -/
theorem nk_encs : ∀ {ds es : List Str}, nks (ds.map D.str) = nks (es.map D.str) → ds = es
  | [], [], _ => rfl
  | [], _ :: _, h => by simp [nks] at h
  | _ :: _, [], h => by simp [nks] at h
  | x :: ds, y :: es, h => by
    simp only [List.map_cons, nks, nk, List.cons.injEq, NestedKey.text.injEq] at h
    rw [h.1, nk_encs h.2]
end G

namespace G
open PySem L2 DL ST
/-- the dict tells each statement's side -/
structure Sides (kvs : List (D × D)) (us : List Sg) : Prop where
  y : kdGet kvs (enc (.yn true)) = some (.str "left")
  n : kdGet kvs (enc (.yn false)) = some (.str "right")
  row : ∀ r ∈ us, kdGet kvs (enc r.2) = some (.str r.1)
  lr : ∀ r ∈ us, r.1 = "left" ∨ r.1 = "right"
theorem lr_ne : ("left" : Str) ≠ "right" := by decide
theorem sides_sub {kvs : List (D × D)} {us vs : List Sg} (h : Sides kvs us) (s : ∀ r ∈ vs, r ∈ us) : Sides kvs vs := ⟨h.y, h.n, fun r m => h.row r (s r m), fun r m => h.lr r (s r m)⟩
theorem noClo_sides {kvs : List (D × D)} {us : List Sg} (h : Sides kvs us) : ¬ Clo (fun r => r ∈ us) := fun c => by
  rcases c with z | z | ⟨A, z1, z2⟩
  · have e := (h.row _ z).symm.trans h.y
    exact lr_ne (D.str.inj (Option.some.inj e)).symm
  · have e := (h.row _ z).symm.trans h.n
    exact lr_ne (D.str.inj (Option.some.inj e))
  · have e1 : kdGet kvs (enc A) = some (.str "left") := h.row ("left", A) z1
    have e2 : kdGet kvs (enc A) = some (.str "right") := h.row ("right", A) z2
    rw [e1] at e2
    exact lr_ne (D.str.inj (Option.some.inj e2))
theorem kdGet_app {kvs : List (D × D)} {k k' v d : D} (h : kdGet kvs k' = some d) : kdGet (kvs ++ [(k, v)]) k' = some d := by
  unfold kdGet at h ⊢
  obtain ⟨p, e, q⟩ := Option.map_eq_some_iff.mp h
  rw [List.find?_append, e]
  show some p.2 = some d
  rw [q]
theorem kdGet_new {kvs : List (D × D)} {k v : D} (h : kdGet kvs k = none) : kdGet (kvs ++ [(k, v)]) k = some v := by
  unfold kdGet at h ⊢
  have e := Option.map_eq_none_iff.mp h
  rw [List.find?_append, e]
  simp
theorem sides_app {kvs : List (D × D)} {us : List Sg} {k v : D} (h : Sides kvs us) : Sides (kvs ++ [(k, v)]) us := ⟨kdGet_app h.y, kdGet_app h.n, fun r m => kdGet_app (h.row r m), h.lr⟩
theorem sides_add {kvs : List (D × D)} {us : List Sg} {s : Str} {A : Stm} (h : Sides kvs us) (e : kdGet kvs (enc A) = some (.str s)) (l : s = "left" ∨ s = "right") : Sides kvs (us ++ [(s, A)]) := ⟨h.y, h.n, fun r m => by
  rcases List.mem_append.mp m with m | m
  · exact h.row r m
  · cases List.mem_singleton.mp m
    exact e, fun r m => by
  rcases List.mem_append.mp m with m | m
  · exact h.lr r m
  · cases List.mem_singleton.mp m
    exact l⟩
end G

namespace G
open PySem L2 DL ST
abbrev lv : Nat := 120
theorem cutG_map {α β : Type} (f : α → β) {xs : List α} {lo hi : Option Int} : cutG (xs.map f) lo hi = (cutG xs lo hi).map f := by
  unfold cutG
  rw [List.length_map, List.map_take, List.map_drop]
theorem kyOk_enc {A : Stm} (h : dep A ≤ 4) : kyOk (enc A) = true := by
  have h1 := nkOk_enc A
  have h2 := depth_enc A
  have h3 : ∃ ds, enc A = .tup ds := by cases A <;> exact ⟨_, rfl⟩
  obtain ⟨ds, e⟩ := h3
  rw [e] at h1 h2 ⊢
  show (nkOks ds && decide _) = true
  rw [Bool.and_eq_true]
  exact ⟨h1, decide_eq_true (by omega)⟩
/-- the dict's sides -/
def LR (kvs : List (D × D)) : Prop := ∀ p ∈ kvs, kyOk p.1 = true ∧ (p.2 = .str "left" ∨ p.2 = .str "right")
theorem lr_get {kvs : List (D × D)} (h : LR kvs) {k d : D} (e : kdGet kvs k = some d) : ∃ s : Str, d = .str s ∧ (s = "left" ∨ s = "right") := by
  unfold kdGet at e
  obtain ⟨p, e2, rfl⟩ := Option.map_eq_some_iff.mp e
  rcases (h p (List.mem_of_find?_eq_some e2)).2 with z | z
  · exact ⟨_, z, .inl rfl⟩
  · exact ⟨_, z, .inr rfl⟩
set_option maxHeartbeats 4000000 in
theorem law_true (ns : List Int) (hl : ns.length ≤ 63) : Phi (lv + 1) j_law [.scr ns] = some (.bl true) := by
  have key : Wp (fnL 1 (Phi (lv + 1) j_law) [.scr ns]) fun d => d = .bl true := by
    apply R_law
    unfold B_law
    (repeat' (first | ((with_reducible apply w_v); exact rfl) | with_reducible refine w_esC ?_ | with_reducible refine w_c ?_ | with_reducible refine w_esN ?_ | with_reducible refine words_ok (by decide) ns (fun ws hw hwd => ?_) | with_reducible refine names_ok (by decide) ns (fun vs hv hvn => ?_) | with_reducible refine cells_ok (by decide) ns hl 3 (by decide) (by decide) (fun cs _ hc1 _ => ?_) | with_reducible refine w_kdnew ?_ | with_reducible refine w_kv1 ?_ | with_reducible refine w_kv0 ?_ | with_reducible refine ⟨by decide, ?_⟩ | array_mem_dec))
    rw [cutG_map]
    have c37 : (cutG cs none (some 37)).length ≤ 37 ∧ 1 ≤ (cutG cs none (some 37)).length := by
      unfold cutG
      rw [List.length_take]
      have : HT.sIx cs.length cs.length (some 37) = min 37 cs.length := by
        unfold HT.sIx
        show (if (37 : Int) < 0 then _ else min (37 : Int).toNat _) = _
        rw [if_neg (by omega)]
        rfl
      rw [List.length_drop, this]
      have h0 : HT.sIx cs.length 0 none = 0 := rfl
      rw [h0]
      omega
    generalize cutG cs none (some 37) = cz at c37
    refine w_forA (I := fun ds ρ => ∃ (rows : List Sg) (rest : List Int) (kvs : List (D × D)) (s5 s6 s7 : Sl), ds = rest.map .int ∧ rows.length + rest.length ≤ 37 ∧ kvs.length + rest.length ≤ 39 ∧ 1 ≤ rows.length + rest.length ∧ (∀ r ∈ rows, Small ws vs r.2) ∧ Sides kvs rows ∧ LR kvs ∧ (1 ≤ rows.length → ∃ a b c, s5 = .val a ∧ s6 = .val b ∧ s7 = .val c) ∧ ρ = [Sl.val (.scr ns), Sl.val (.lst (ws.map .str)), Sl.val (.lst (vs.map .str)), Sl.kd kvs, Sl.own (rows.map sg), s5, s6, s7, Sl.no]) _ ⟨[], cz, _, _, _, _, rfl, by simpa using c37.1, by show 2 + _ ≤ 39; omega, by simpa using c37.2, by simp, ⟨rfl, rfl, by simp, by simp⟩, ?_, fun z => (by cases z), rfl⟩ (fun d ds ρ hI => ?_) (fun ρ hI => ?_)
    · intro p hp
      simp only [List.mem_cons, List.not_mem_nil, or_false] at hp
      rcases hp with rfl | rfl
      · exact ⟨by decide, .inl rfl⟩
      · exact ⟨by decide, .inr rfl⟩
    · obtain ⟨rows, rest, kvs, s5, s6, s7, e1, e2, e3, e4, h1, hS, hL, hv5, rfl⟩ := hI
      obtain ⟨c, rest, rfl⟩ : ∃ c r, rest = c :: r := by
        cases rest with
        | nil => cases e1
        | cons c r => exact ⟨c, r, rfl⟩
      obtain ⟨rfl, rfl⟩ := List.cons.inj e1
      simp only [List.length_cons] at e2 e3 e4
      have tl : ∀ (r : Str) (A : Stm), D.tup [.str r, enc A] = sg (r, A) := fun _ _ => rfl
      (repeat' (first | ((with_reducible apply w_v); exact rfl) | with_reducible refine w_esC ?_ | with_reducible refine w_c ?_ | with_reducible refine w_esN ?_ | with_reducible refine w_modP (by omega) (fun i hi0 hi1 _ => ?_) | array_mem_dec))
      refine w_ixL' hi0 (by show _ < (2 : Int); omega) fun md hmd => ?_
      have hmd : ∃ z : Int, 0 < z ∧ md = .int z := by
        simp at hmd
        rcases hmd with rfl | rfl
        · exact ⟨60, by decide, rfl⟩
        · exact ⟨10 ^ 40, by decide, rfl⟩
      obtain ⟨z, hz, rfl⟩ := hmd
      (repeat' (first | ((with_reducible apply w_v); exact rfl) | with_reducible refine w_esC ?_ | with_reducible refine w_c ?_ | with_reducible refine w_esN ?_ | with_reducible refine w_modP hz (fun i hi0 hi1 _ => ?_) | with_reducible refine small_ok (by decide) _ ws vs hw hv hvn (fun A hA => ?_) | with_reducible refine w_kdset ?_ | array_mem_dec))
      have dA := hA.dp
      have kA := kyOk_enc (A := A) (by omega)
      have ky : (kvs.all fun p => kyOk p.1) = true := List.all_eq_true.mpr fun p m => (hL p m).1
      refine w_ixL' (Int.emod_nonneg _ (by decide)) (by show _ < (2 : Int); omega) fun side hside => ?_
      have hside : ∃ s : Str, side = .str s ∧ (s = "left" ∨ s = "right") := by
        simp only [List.mem_cons, List.not_mem_nil, or_false] at hside
        rcases hside with rfl | rfl
        · exact ⟨_, rfl, .inl rfl⟩
        · exact ⟨_, rfl, .inr rfl⟩
      obtain ⟨sd, rfl, hsd⟩ := hside
      have nx : ∀ (s : Str) (kvs' : List (D × D)), (s = "left" ∨ s = "right") → Sides kvs' rows → LR kvs' → kdGet kvs' (enc A) = some (.str s) → kvs'.length ≤ kvs.length + 1 → ∀ {B : Out → Prop}, (∀ (rows' : List Sg) (s5 s6 s7 : D), rows'.length ≤ rows.length + 1 → 1 ≤ rows'.length → (∀ r ∈ rows', Small ws vs r.2) → Sides kvs' rows' → B (.nx [Sl.val (.scr ns), Sl.val (.lst (ws.map .str)), Sl.val (.lst (vs.map .str)), Sl.kd kvs', Sl.own (rows'.map sg), .val s5, .val s6, .val s7, Sl.no])) → seqQ (sIf (tE (DL.e2 dNotIn (eA dTup (esC (eV 7) (esC (eV 6) esN))) (eV 4))) (sApp 4 (xP [7, 6] (eA dTup (esC (eV 7) (esC (eV 6) esN))))) sNil) B (.nx [Sl.val (.scr ns), Sl.val (.lst (ws.map .str)), Sl.val (.lst (vs.map .str)), Sl.kd kvs', Sl.own (rows.map sg), Sl.val (.int c), Sl.val (enc A), Sl.val (.str s), Sl.no]) := fun s kvs' hs hS' hL' hg hk B q => by
        have d2 : (nk (sg (s, A))).depth ≤ dep A + 3 := depth_sg (s, A)
        have ni : ∀ {Q : D → Prop}, (∀ b, (b = true ↔ sg (s, A) ∈ rows.map sg) → Q (.bl (!b))) → Wp (dNotIn (D.tup [.str s, enc A]) (.lst (rows.map sg))) Q := fun q => w_niL (x := sg (s, A)) (nkOk_sg _) (by rw [dpt_nk (nkOk_sg _)]; omega) (fun y hy => by obtain ⟨r, _, rfl⟩ := List.mem_map.mp hy; exact nkOk_sg r) fun b hb => q _ hb
        show Wp _ _
        (repeat' (first | ((with_reducible apply w_v); exact rfl) | with_reducible refine w_esC ?_ | with_reducible refine w_c ?_ | with_reducible refine w_esN ?_ | with_reducible refine ni (fun b hb => ?_) | array_mem_dec))
        · rename_i hb2
          have hb3 : b = true := by revert hb2; cases b <;> simp
          have hm := hb.mp hb3
          exact q rows _ _ _ (by omega) (by have := List.length_pos_of_mem hm; rw [List.length_map] at this; omega) h1 hS'
        · rw [show (rows.map sg).length = rows.length from List.length_map ..]
          omega
        · have := q (rows ++ [(s, A)]) (.int c) (enc A) (.str s) (by rw [List.length_append, List.length_singleton]; omega) (by rw [List.length_append, List.length_singleton]; omega) (fun r hr => by
            rcases List.mem_append.mp hr with hr | hr
            · exact h1 r hr
            · cases List.mem_singleton.mp hr
              exact hA) (sides_add hS' hg hs)
          rw [List.map_append] at this
          exact this
      refine ⟨kvs, rfl, ?_, fun d hd => ?_, fun hn => ?_⟩
      · rw [ky, kA]
        simp only [Bool.true_and, Bool.and_eq_true, decide_eq_true_eq]
        exact ⟨⟨rfl, by omega⟩, by decide⟩
      · obtain ⟨s, rfl, hs⟩ := lr_get hL hd
        refine nx s kvs hs hS hL hd (by omega) ?_
        intro rows' s5 s6 s7 l1 l2 k1 k2
        exact ⟨rows', rest, kvs, _, _, _, rfl, by omega, by omega, by omega, k1, k2, hL, fun _ => ⟨s5, s6, s7, rfl, rfl, rfl⟩, rfl⟩
      · have hL2 : LR (kvs ++ [(enc A, .str sd)]) := by
          intro p hp
          rcases List.mem_append.mp hp with hp | hp
          · exact hL p hp
          · cases List.mem_singleton.mp hp
            refine ⟨kA, ?_⟩
            rcases hsd with rfl | rfl
            · exact .inl rfl
            · exact .inr rfl
        have l0 : (kvs ++ [(enc A, D.str sd)]).length = kvs.length + 1 := by simp
        refine nx sd (kvs ++ [(enc A, .str sd)]) hsd (sides_app hS) hL2 (kdGet_new hn) (by omega) ?_
        intro rows' s5 s6 s7 l1 l2 k1 k2
        exact ⟨rows', rest, kvs ++ [(enc A, .str sd)], _, _, _, rfl, by omega, by omega, by omega, k1, k2, hL2, fun _ => ⟨s5, s6, s7, rfl, rfl, rfl⟩, rfl⟩
    · obtain ⟨rows, rest, kvs, s5, s6, s7, e1, e2, e3, e4, h1, hS, hL, hv5, rfl⟩ := hI
      have hr : rest = [] := List.map_eq_nil_iff.mp e1.symm
      subst hr
      simp only [List.length_nil, Nat.add_zero] at e2 e3 e4
      obtain ⟨v5, v6, v7, rfl, rfl, rfl⟩ := hv5 e4
      have dR : ∀ r ∈ rows, dep r.2 ≤ 5 := fun r m => by have := (h1 r m).dp; omega
      have nR := noClo_sides hS
      have tR := fun {Q : D → Prop} (q : Q (.bl true)) => told_ok (n := lv) (by decide) rows (by omega) dR false (by simp [nR]) q
      have n0 : ¬ Clo (fun r : Sg => r ∈ ([] : List Sg)) := noClo_sides (kvs := kvs) (sides_sub hS (by simp))
      have t0 := fun {Q : D → Prop} (q : Q (.bl true)) => told_ok (n := lv) (by decide) [] (by decide) (by simp) false ⟨fun z => (by cases z), fun z => absurd z n0⟩ q
      have t0 : ∀ {Q : D → Prop}, Q (.bl true) → Wp (fnL 2 (Phi lv j__law_told) [.lst [], .bl false]) Q := fun q => t0 q
      (repeat' (first | ((with_reducible apply w_v); exact rfl) | with_reducible refine w_esC ?_ | with_reducible refine w_c ?_ | with_reducible refine w_esN ?_ | with_reducible refine tR ?_ | with_reducible refine t0 ?_ | with_reducible refine w_forK rfl ?_ | array_mem_dec))
      have t1 : ∀ r ∈ rows, ∀ {Q : D → Prop}, Q (.bl true) → Wp (fnL 2 (Phi lv j__law_told) [.lst [D.tup [.str r.1, enc r.2]], .bl false]) Q := fun r m {Q} q => by
        have nr : ¬ Clo (fun r' => r' ∈ [r]) := noClo_sides (kvs := kvs) (sides_sub hS fun r' m' => by rw [List.mem_singleton.mp m']; exact m)
        exact told_ok (n := lv) (by decide) [r] (show 1 ≤ 60 by decide) (fun r' m' => by rw [List.mem_singleton.mp m']; exact dR r m) false ⟨fun z => (by cases z), fun z => absurd z nr⟩ q
      refine w_forA (I := fun ds ρ => ∃ (b : List Sg) (s5 s6 s7 : D), ds = b.map sg ∧ (∀ r ∈ b, r ∈ rows) ∧ ρ = [Sl.val (.scr ns), Sl.val (.lst (ws.map .str)), Sl.val (.lst (vs.map .str)), Sl.kd kvs, Sl.own (rows.map sg), .val s5, .val s6, .val s7, Sl.no]) _ ⟨rows, _, _, _, rfl, fun _ h => h, rfl⟩ (fun d ds ρ hI => ?_) (fun ρ hI => ?_)
      · obtain ⟨b, s5, s6, s7, e1, hb, rfl⟩ := hI
        obtain ⟨r, b, rfl⟩ : ∃ u r, b = u :: r := by
          cases b with
          | nil => cases e1
          | cons u r => exact ⟨u, r, rfl⟩
        obtain ⟨rfl, rfl⟩ := List.cons.inj e1
        have hr := hb r List.mem_cons_self
        unfold sg
        (repeat' (first | ((with_reducible apply w_v); exact rfl) | with_reducible refine w_esC ?_ | with_reducible refine w_c ?_ | with_reducible refine w_esN ?_ | with_reducible refine t1 r hr ?_ | array_mem_dec))
        exact ⟨b, _, _, _, rfl, fun x m => hb x (List.mem_cons_of_mem _ m), rfl⟩
      · obtain ⟨b, s5, s6, s7, e1, hb, rfl⟩ := hI
        (repeat' (first | ((with_reducible apply w_v); exact rfl) | with_reducible refine w_esC ?_ | with_reducible refine w_c ?_ | with_reducible refine w_esN ?_ | with_reducible refine w_modP (by decide) (fun i hi0 hi1 _ => ?_) | with_reducible refine cell_ok (by decide) ns _ (by decide) (by decide) (fun c => ?_) | array_mem_dec))
        rw [show (rows.map sg).length = rows.length from List.length_map ..]
        refine w_modP (by omega) fun j hj0 hj1 _ => ?_
        refine w_ixM hj0 hj1 fun r hr => ?_
        rw [show sg r = D.tup [.str r.1, enc r.2] from rfl]
        have hl0 : (rows.map sg).length < 16777216 := by rw [List.length_map]; omega
        have dr := dR r hr
        have tA : ∀ (us : List Sg) (bb : Bool), us.length ≤ 60 → (∀ r ∈ us, dep r.2 ≤ 5) → (bb = true ↔ Clo (fun r => r ∈ us)) → ∀ {Q : D → Prop}, Q (.bl true) → Wp (fnL 2 (Phi lv j__law_told) [.lst (us.map sg), .bl bb]) Q := fun us bb h1 h2 h3 {Q} q => told_ok (n := lv) (by decide) us h1 h2 bb h3 q
        have c1 : Clo (fun r' : Sg => r' ∈ [(("left" : Str), r.2), ("right", r.2)]) := .inr (.inr ⟨r.2, by simp, by simp⟩)
        have c2 : Clo (fun r' : Sg => r' ∈ [(("right" : Str), Stm.yn true)]) := .inl (by simp)
        have e1' : ∀ {Q : D → Prop}, Q (.bl true) → Wp (fnL 2 (Phi lv j__law_told) [.lst [D.tup [.str "left", enc r.2], D.tup [.str "right", enc r.2]], .bl true]) Q := fun q => tA [("left", r.2), ("right", r.2)] true (show 2 ≤ 60 by decide) (fun x m => by
          simp only [List.mem_cons, List.not_mem_nil, or_false] at m
          rcases m with rfl | rfl <;> exact dr) ⟨fun _ => c1, fun _ => rfl⟩ q
        have e2' : ∀ {Q : D → Prop}, Q (.bl true) → Wp (fnL 2 (Phi lv j__law_told) [.lst [D.tup [.str "right", D.tup [.str "yes"]]], .bl true]) Q := fun q => tA [("right", Stm.yn true)] true (show 1 ≤ 60 by decide) (fun x m => by
          simp only [List.mem_cons, List.not_mem_nil, or_false] at m
          subst m
          decide) ⟨fun _ => c2, fun _ => rfl⟩ q
        have e3' : ∀ (u : Sg) (bb : Bool), dep u.2 ≤ 5 → Clo (fun r => r ∈ rows ++ [u]) → bb = true → ∀ {Q : D → Prop}, Q (.bl true) → Wp (fnL 2 (Phi lv j__law_told) [.lst (rows.map sg ++ [D.tup [.str u.1, enc u.2]]), .bl bb]) Q := fun u bb hu hc hb {Q} q => by
          have := tA (rows ++ [u]) bb (by rw [List.length_append, List.length_singleton]; omega) (fun x m => by
            rcases List.mem_append.mp m with m | m
            · exact dR x m
            · rw [List.mem_singleton.mp m]; exact hu) ⟨fun _ => hc, fun _ => hb⟩ q
          rw [List.map_append] at this
          exact this
        have r3 : ∀ {Q : D → Prop}, Q (.bl true) → Wp (fnL 2 (Phi lv j__law_told) [.lst (rows.map sg ++ [D.tup [.str "right", D.tup [.str "yes"]]]), .bl (pGt 3 2)]) Q := fun q => e3' ("right", .yn true) _ (by decide) (.inl (by simp)) (by decide) q
        have r4 : ∀ {Q : D → Prop}, Q (.bl true) → Wp (fnL 2 (Phi lv j__law_told) [.lst (rows.map sg ++ [D.tup [.str "left", D.tup [.str "no"]]]), .bl (pGt 4 2)]) Q := fun q => e3' ("left", .yn false) _ (by decide) (.inr (.inl (by simp))) (by decide) q
        have r0 : ∀ k : Int, k ≤ 2 → ∀ {Q : D → Prop}, Q (.bl true) → Wp (fnL 2 (Phi lv j__law_told) [.lst (rows.map sg), .bl (pGt k 2)]) Q := fun k hk {Q} q => tA rows _ (by omega) dR ⟨fun z => (by unfold pGt at z; simp at z; omega), fun z => absurd z nR⟩ q
        have hw6 : i = 3 ∨ i = 4 ∨ i = 5 ∨ i = 0 ∨ i = 1 ∨ i = 2 := by omega
        rcases hw6 with rfl | rfl | rfl | rfl | rfl | rfl
        · (repeat' (first | ((with_reducible apply w_v); exact rfl) | with_reducible refine w_esC ?_ | with_reducible refine w_c ?_ | with_reducible refine w_esN ?_ | with_reducible refine r3 ?_ | with_reducible refine e1' ?_ | with_reducible refine e2' ?_ | array_mem_dec))
          · exact hl0
          · rfl
        · (repeat' (first | ((with_reducible apply w_v); exact rfl) | with_reducible refine w_esC ?_ | with_reducible refine w_c ?_ | with_reducible refine w_esN ?_ | with_reducible refine r4 ?_ | with_reducible refine e1' ?_ | with_reducible refine e2' ?_ | array_mem_dec))
          · exact hl0
          · rfl
        · (repeat' (first | ((with_reducible apply w_v); exact rfl) | with_reducible refine w_esC ?_ | with_reducible refine w_c ?_ | with_reducible refine w_esN ?_ | with_reducible refine e1' ?_ | with_reducible refine e2' ?_ | array_mem_dec))
          have hlr := hS.lr r hr
          obtain ⟨s, A⟩ := r
          rcases hlr with hs | hs
          · have hs : s = "left" := hs
            subst hs
            have r5 : ∀ {Q : D → Prop}, Q (.bl true) → Wp (fnL 2 (Phi lv j__law_told) [.lst (rows.map sg ++ [D.tup [.str "right", enc A]]), .bl (pGt 5 2)]) Q := fun q => e3' ("right", A) _ dr (.inr (.inr ⟨A, List.mem_append_left _ hr, by simp⟩)) (by decide) q
            dsimp only
            rw [if_pos (show (("left" : Str) == "left") = true by decide)]
            (repeat' (first | ((with_reducible apply w_v); exact rfl) | with_reducible refine w_esC ?_ | with_reducible refine w_c ?_ | with_reducible refine w_esN ?_ | with_reducible refine w_ixL rfl ?_ | with_reducible refine r5 ?_ | with_reducible refine e1' ?_ | with_reducible refine e2' ?_ | array_mem_dec))
            · exact hl0
            · rfl
          · have hs : s = "right" := hs
            subst hs
            have r5 : ∀ {Q : D → Prop}, Q (.bl true) → Wp (fnL 2 (Phi lv j__law_told) [.lst (rows.map sg ++ [D.tup [.str "left", enc A]]), .bl (pGt 5 2)]) Q := fun q => e3' ("left", A) _ dr (.inr (.inr ⟨A, by simp, List.mem_append_left _ hr⟩)) (by decide) q
            dsimp only
            rw [if_neg (show ¬ (("right" : Str) == "left") = true by decide)]
            (repeat' (first | ((with_reducible apply w_v); exact rfl) | with_reducible refine w_esC ?_ | with_reducible refine w_c ?_ | with_reducible refine w_esN ?_ | with_reducible refine w_ixL rfl ?_ | with_reducible refine r5 ?_ | with_reducible refine e1' ?_ | with_reducible refine e2' ?_ | array_mem_dec))
            · exact hl0
            · rfl
        · (repeat' (first | ((with_reducible apply w_v); exact rfl) | with_reducible refine w_esC ?_ | with_reducible refine w_c ?_ | with_reducible refine w_esN ?_ | with_reducible refine r0 _ (by decide) ?_ | with_reducible refine e1' ?_ | with_reducible refine e2' ?_ | array_mem_dec))
          rfl
        · (repeat' (first | ((with_reducible apply w_v); exact rfl) | with_reducible refine w_esC ?_ | with_reducible refine w_c ?_ | with_reducible refine w_esN ?_ | with_reducible refine r0 _ (by decide) ?_ | with_reducible refine e1' ?_ | with_reducible refine e2' ?_ | array_mem_dec))
          rfl
        · (repeat' (first | ((with_reducible apply w_v); exact rfl) | with_reducible refine w_esC ?_ | with_reducible refine w_c ?_ | with_reducible refine w_esN ?_ | with_reducible refine r0 _ (by decide) ?_ | with_reducible refine e1' ?_ | with_reducible refine e2' ?_ | array_mem_dec))
          rfl
  obtain ⟨d, e, rfl⟩ := key
  exact e
end G

open PySem PySem.W PyProof.Rows
set_option maxHeartbeats 0 in
theorem PySem.Challenge.cw_cutless_k06_closing_holds : PySem.Challenge.rw_cutless_k06_closing.Holds := by
  w_on; o_law; k_head; (case hw => w_witness2)
  k_fill
  refine L2.walk_of (l := PySem.Challenge.rw_cutless_k06_closing) (n := 63) (k := G.lv + 1) (x := "_law_script") (CX := fun _ => L2.CX0) (sp := fun w => @DL.spD (DL.Tbs.mk [] (DL.NDat PySem.Challenge.rw_cutless_k06_closing.prog w)) _ (G.Phi (G.lv + 1) 12) 1) rfl (by decide) rfl ⟨rfl, by decide, by decide⟩ (fun w h Y => PySem.W.kIn_of Y) ?F (fun w H a ns hl ho hS => @DL.law_end (DL.Tbs.mk [] (DL.NDat PySem.Challenge.rw_cutless_k06_closing.prog w)) _ _ _ G.law_true H a ns hl ho hS (fun p hp => nomatch (show p ∈ ([] : List NdefX.NTab) from hp))) (fun _ _ _ _ _ h => h)
  case F =>
    intro w mg fa h KX hG hmg
    letI : DL.Tbs := DL.Tbs.mk [] (DL.NDat PySem.Challenge.rw_cutless_k06_closing.prog w)
    refine' G.fin G.lv rfl rfl KX hG hmg ?a0 ?l0 ?c0 ?k0 ?a1 ?l1 ?c1 ?k1 ?a2 ?l2 ?c2 ?k2 ?a3 ?l3 ?c3 ?k3 ?a4 ?l4 ?c4 ?k4 ?a5 ?l5 ?c5 ?k5 ?a6 ?l6 ?c6 ?k6 ?a7 ?l7 ?c7 ?k7 ?a8 ?l8 ?c8 ?k8 ?a9 ?l9 ?c9 ?k9 ?a10 ?l10 ?c10 ?k10 ?a11 ?l11 ?c11 ?k11 ?a12 ?l12 ?c12 ?k12 ?z_bool ?z_int ?z_isinstance ?z_len ?z_list ?z_max ?z_min ?z_range ?z_sorted ?z_str ?z_tuple
    (case a0 => k_is)
    (case l0 => k_is)
    (case c0 => k_is)
    (case k0 => k_is)
    (case a1 => k_is)
    (case l1 => k_is)
    (case c1 => k_is)
    (case k1 => k_is)
    (case a2 => k_is)
    (case l2 => k_is)
    (case c2 => k_is)
    (case k2 => k_is)
    (case a3 => k_is)
    (case l3 => k_is)
    (case c3 => k_is)
    (case k3 => k_is)
    (case a4 => k_is)
    (case l4 => k_is)
    (case c4 => k_is)
    (case k4 => k_is)
    (case a5 => k_is)
    (case l5 => k_is)
    (case c5 => k_is)
    (case k5 => k_is)
    (case a6 => k_is)
    (case l6 => k_is)
    (case c6 => k_is)
    (case k6 => k_is)
    (case a7 => k_is)
    (case l7 => k_is)
    (case c7 => k_is)
    (case k7 => k_is)
    (case a8 => k_is)
    (case l8 => k_is)
    (case c8 => k_is)
    (case k8 => k_is)
    (case a9 => k_is)
    (case l9 => k_is)
    (case c9 => k_is)
    (case k9 => k_is)
    (case a10 => k_is)
    (case l10 => k_is)
    (case c10 => k_is)
    (case k10 => k_is)
    (case a11 => k_is)
    (case l11 => k_is)
    (case c11 => k_is)
    (case k11 => k_is)
    (case a12 => k_is)
    (case l12 => k_is)
    (case c12 => k_is)
    (case k12 => k_is)
    (case z_bool => k_is)
    (case z_int => k_is)
    (case z_isinstance => k_is)
    (case z_len => k_is)
    (case z_list => k_is)
    (case z_max => k_is)
    (case z_min => k_is)
    (case z_range => k_is)
    (case z_sorted => k_is)
    (case z_str => k_is)
    (case z_tuple => k_is)

