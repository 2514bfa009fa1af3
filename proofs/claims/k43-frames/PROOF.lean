import PyProof.Rows.All
import Wide.All
import OpenK.AllK
import Wide.FinOn
import HandS.ForMost
import HandS.TupAny
import HandS.Conv
import HandS.IsInst
import HandS.StrMore
import HandS.Flow
import HandS.WideBits
import HandS.Wide
import HandS.SortKw
import KE.DataMinMax
import KE.GoesEnum
import PySem.Challenge.RW_roadsmeet_k43_frames_cut_anywhere
set_option Elab.async false
set_option linter.all false
set_option maxRecDepth 100000
set_option maxHeartbeats 4000000
/-! DL: defs over plain data. A def's body is read as a Lean function of its slots' data; what is made is frozen, a list that one slot alone holds may change. -/
namespace DL
open PySem PySem.Spec L2

abbrev Dt := PyData
abbrev Frg := PySem.W.Frag

/-! ### data stay data where more is tracked -/
theorem seqT {K : Frg} {H H' : Hp} {a : Addr} {xs : List V} (e : Same H H') (h : SqT K H a xs) : SqT K H' a xs := by
  rcases h with (h | ⟨o, h⟩) | h
  · exact .inl (.inl (e _ _ h))
  · exact .inl (.inr ⟨o, e _ _ h⟩)
  · exact .inr h
/-- a list that is read alone (the script) -/
abbrev roD (ds : List Dt) : Dt := .dict [(.list ds, .none)]
mutual
/-- a value that stands for a datum -/
inductive Dp (K : Frg) (F : Hp) : V → PyData → Prop
  | non : Dp K F .non .none
  | bl (b : Bool) : Dp K F (.bl b) (.bool b)
  | int (i : Int) : Dp K F (.int i) (.int i)
  | str (x : Str) : Dp K F (.str x) (.str x)
  | lst {a : Addr} {xs : List V} {ds : List PyData} : F a = some (.lst xs) → DpAll K F xs ds → Dp K F (.ref a) (.list ds)
  | tup {a : Addr} {xs : List V} {ds : List PyData} : SqT K F a xs → DpAll K F xs ds → Dp K F (.ref a) (.tuple ds)
  | ro {a : Addr} {xs : List V} {ds : List PyData} : SqL K F a xs → DpAll K F xs ds → Dp K F (.ref a) (roD ds)
inductive DpAll (K : Frg) (F : Hp) : List V → List PyData → Prop
  | nil : DpAll K F [] []
  | cons {v : V} {vs : List V} {d : PyData} {ds : List PyData} : Dp K F v d → DpAll K F vs ds → DpAll K F (v :: vs) (d :: ds)
end
mutual
theorem Dp.mono {K : Frg} {F F' : Hp} {v : V} {d : PyData} : Dp K F v d → Same F F' → Dp K F' v d
  | .non, _ => .non
  | .bl b, _ => .bl b
  | .int i, _ => .int i
  | .str x, _ => .str x
  | .lst hs ha, e => .lst (e _ _ hs) (DpAll.mono ha e)
  | .tup hs ha, e => .tup (seqT e hs) (DpAll.mono ha e)
  | .ro hs ha, e => .ro (e.seq hs) (DpAll.mono ha e)
theorem DpAll.mono {K : Frg} {F F' : Hp} {vs : List V} {ds : List PyData} : DpAll K F vs ds → Same F F' → DpAll K F' vs ds
  | .nil, _ => .nil
  | .cons h t, e => .cons (Dp.mono h e) (DpAll.mono t e)
end
mutual
theorem Dp.plain {K : Frg} {F : Hp} {v : V} {d : PyData} : Dp K F v d → PyData.canLay0 d = true → L2.Dp K F v d
  | .non, _ => .non
  | .bl b, _ => .bl b
  | .int i, _ => .int i
  | .str x, _ => .str x
  | .lst hs ha, c => .lst (SqL.of hs) (DpAll.plain ha c)
  | .tup hs ha, c => .tup hs (DpAll.plain ha c)
  | .ro hs ha, c => by cases c
theorem DpAll.plain {K : Frg} {F : Hp} {vs : List V} {ds : List PyData} : DpAll K F vs ds → PyData.canLayAll0 ds = true → L2.DpAll K F vs ds
  | .nil, _ => .nil
  | .cons h t, c => by
    have c' := Bool.and_eq_true_iff.mp (show (PyData.canLay0 _ && PyData.canLayAll0 _) = true from c)
    exact .cons (Dp.plain h c'.1) (DpAll.plain t c'.2)
end
section
variable {K : Frg} {F : Hp}
theorem dpLen : ∀ {vs : List V} {ds : List Dt}, DpAll K F vs ds → vs.length = ds.length
  | _, _, .nil => rfl
  | _, _, .cons _ t => by rw [List.length_cons, List.length_cons, dpLen t]
theorem dpGet : ∀ {vs : List V} {ds : List Dt} {i : Nat} {d : Dt}, DpAll K F vs ds → ds[i]? = some d → ∃ v, vs[i]? = some v ∧ Dp K F v d
  | _, _, _, _, .nil, e => by simp at e
  | _, _, 0, _, .cons h _, e => by simp at e; subst e; exact ⟨_, rfl, h⟩
  | _, _, i + 1, d, .cons _ t, e => by
    obtain ⟨v, h1, h2⟩ := dpGet (i := i) (d := d) t (by simpa using e)
    exact ⟨v, by simpa using h1, h2⟩
theorem dpGet' : ∀ {vs : List V} {ds : List Dt} {i : Nat} {v : V}, DpAll K F vs ds → vs[i]? = some v → ∃ d, ds[i]? = some d ∧ Dp K F v d
  | _, _, _, _, .nil, e => by simp at e
  | _, _, 0, _, .cons h _, e => by simp at e; subst e; exact ⟨_, rfl, h⟩
  | _, _, i + 1, d, .cons _ t, e => by
    obtain ⟨v, h1, h2⟩ := dpGet' (i := i) (v := d) t (by simpa using e)
    exact ⟨v, by simpa using h1, h2⟩
theorem dpApp : ∀ {vs ws : List V} {ds es : List Dt}, DpAll K F vs ds → DpAll K F ws es → DpAll K F (vs ++ ws) (ds ++ es)
  | _, _, _, _, .nil, h => h
  | _, _, _, _, .cons a t, h => .cons a (dpApp t h)
theorem dpTake : ∀ {vs : List V} {ds : List Dt} (n : Nat), DpAll K F vs ds → DpAll K F (vs.take n) (ds.take n)
  | _, _, 0, _ => .nil
  | _, _, _ + 1, .nil => .nil
  | _, _, n + 1, .cons a t => .cons a (dpTake n t)
theorem dpDrop : ∀ {vs : List V} {ds : List Dt} (n : Nat), DpAll K F vs ds → DpAll K F (vs.drop n) (ds.drop n)
  | _, _, 0, h => h
  | _, _, _ + 1, .nil => .nil
  | _, _, n + 1, .cons _ t => dpDrop n t
theorem dpSet {x : V} {d : Dt} (h : Dp K F x d) : ∀ {vs : List V} {ds : List Dt} (i : Nat), DpAll K F vs ds → DpAll K F (vs.set i x) (ds.set i d)
  | _, _, _, .nil => .nil
  | _, _, 0, .cons _ t => .cons h t
  | _, _, i + 1, .cons a t => .cons a (dpSet h i t)
theorem dpRep {vs : List V} {ds : List Dt} (h : DpAll K F vs ds) : ∀ n : Nat, DpAll K F (List.replicate n vs).flatten (List.replicate n ds).flatten
  | 0 => .nil
  | n + 1 => by
    rw [List.replicate_succ, List.replicate_succ, List.flatten_cons, List.flatten_cons]
    exact dpApp h (dpRep h n)
theorem dpInts : ∀ {vs : List V} {ns : List Int}, DpAll K F vs (ns.map PyData.int) → vs = ns.map V.int
  | _, [], h => by cases h; rfl
  | _, n :: ns, h => by
    cases h with
    | cons a t => cases a; rw [dpInts t]; rfl
theorem dpStrs : ∀ {vs : List V} {ns : List Str}, DpAll K F vs (ns.map PyData.str) → vs = ns.map V.str
  | _, [], h => by cases h; rfl
  | _, n :: ns, h => by
    cases h with
    | cons a t => cases a; rw [dpStrs t]; rfl
theorem dpBls : ∀ {vs : List V} {ns : List Bool}, DpAll K F vs (ns.map PyData.bool) → vs = ns.map V.bl
  | _, [], h => by cases h; rfl
  | _, n :: ns, h => by
    cases h with
    | cons a t => cases a; rw [dpBls t]; rfl
theorem dpOfInts : ∀ ns : List Int, DpAll K F (ns.map V.int) (ns.map PyData.int)
  | [] => .nil
  | n :: ns => .cons (.int n) (dpOfInts ns)
end

/-! ### slots, the slots' data, what is owned -/
inductive Sl where
  | un
  | dat (d : Dt)
  /-- a list that this slot alone holds -/
  | own (ds : List Dt)
  /-- .. that the caller gave for the time of the call -/
  | bor (ds : List Dt)
abbrev En := List Sl
def Sl.cell : Sl → Option (List Dt)
  | .own ds => some ds
  | .bor ds => some ds
  | _ => Option.none
def Sl.withCell : Sl → List Dt → Sl
  | .own _, ds => .own ds
  | .bor _, ds => .bor ds
  | s, _ => s
def Sl.free : Sl → Bool
  | .bor _ => false
  | _ => true
def Own (σ : St) (ρ : En) (p : Addr) : Prop := ∃ (i : Nat) (sl : Sl) (ds : List Dt), ρ[i]? = some sl ∧ sl.cell = some ds ∧ σ[i]? = some (some (V.ref p))

structure Rel (K : Frg) (F H : Hp) (σ : St) (ρ : En) : Prop where
  sub : Same F H
  len : σ.length = ρ.length
  dat : ∀ (i : Nat) (d : Dt), ρ[i]? = some (Sl.dat d) → ∃ v, σ[i]? = some (some v) ∧ Dp K F v d
  cell : ∀ (i : Nat) (sl : Sl) (ds : List Dt), ρ[i]? = some sl → sl.cell = some ds → ∃ p vs, σ[i]? = some (some (V.ref p)) ∧ F p = Option.none ∧ H p = some (.lst vs) ∧ DpAll K F vs ds
  inj : ∀ (i j : Nat) (sl sl' : Sl) (ds ds' : List Dt), ρ[i]? = some sl → sl.cell = some ds → ρ[j]? = some sl' → sl'.cell = some ds' → σ[i]? = σ[j]? → i = j

/-- from one place of a def's run to a later one -/
structure Go (K : Frg) (F H : Hp) (σ : St) (ρ : En) (F' H' : Hp) (σ' : St) (ρ' : En) : Prop where
  ext : Same F F'
  keep : ∀ p o, H p = some o → ¬ Own σ ρ p → H' p = some o ∧ (F p = Option.none → F' p = Option.none) ∧ ¬ Own σ' ρ' p
  stay : ∀ p, H' p = Option.none → H p = Option.none
  bor : ∀ (i : Nat) (ds : List Dt), ρ[i]? = some (Sl.bor ds) → (∃ ds' : List Dt, ρ'[i]? = some (Sl.bor ds')) ∧ σ'[i]? = σ[i]?
  rel : Rel K F' H' σ' ρ'
theorem Go.refl {K : Frg} {F H : Hp} {σ : St} {ρ : En} (r : Rel K F H σ ρ) : Go K F H σ ρ F H σ ρ :=
  ⟨Same.refl F, fun _ _ h n => ⟨h, id, n⟩, fun _ h => h, fun _ _ h => ⟨⟨_, h⟩, rfl⟩, r⟩
theorem Go.trans {K : Frg} {F H F1 H1 F2 H2 : Hp} {σ σ1 σ2 : St} {ρ ρ1 ρ2 : En} (a : Go K F H σ ρ F1 H1 σ1 ρ1) (b : Go K F1 H1 σ1 ρ1 F2 H2 σ2 ρ2) : Go K F H σ ρ F2 H2 σ2 ρ2 where
  ext := a.ext.trans b.ext
  keep := fun p o h n => by
    obtain ⟨h1, f1, n1⟩ := a.keep p o h n
    obtain ⟨h2, f2, n2⟩ := b.keep p o h1 n1
    exact ⟨h2, fun z => f2 (f1 z), n2⟩
  stay := fun p h => a.stay p (b.stay p h)
  bor := fun i ds h => by
    obtain ⟨⟨ds', h1⟩, e1⟩ := a.bor i ds h
    obtain ⟨h2, e2⟩ := b.bor i ds' h1
    exact ⟨h2, e2.trans e1⟩
  rel := b.rel

/-- new things alone -/
structure Grow (F H F' H' : Hp) : Prop where
  ext : Same F F'
  sub : Same F' H'
  keep : ∀ p o, H p = some o → H' p = some o ∧ (F p = Option.none → F' p = Option.none)
theorem Grow.refl {F H : Hp} (s : Same F H) : Grow F H F H := ⟨Same.refl F, s, fun _ _ h => ⟨h, id⟩⟩
theorem Grow.trans {F H F1 H1 F2 H2 : Hp} (a : Grow F H F1 H1) (b : Grow F1 H1 F2 H2) : Grow F H F2 H2 :=
  ⟨a.ext.trans b.ext, b.sub, fun p o h => let ⟨h1, f1⟩ := a.keep p o h; let ⟨h2, f2⟩ := b.keep p o h1; ⟨h2, fun z => f2 (f1 z)⟩⟩
theorem Grow.stay {F H F' H' : Hp} (g : Grow F H F' H') : ∀ p, H' p = Option.none → H p = Option.none := fun p h => by
  cases e : H p with
  | none => rfl
  | some o => rw [(g.keep p o e).1] at h; cases h
theorem Same.upd2 {F H : Hp} (s : Same F H) (p : Addr) (o : HO) : Same (upd F p o) (upd H p o) := fun b u e => by
  by_cases hb : b = p
  · subst hb; rw [upd_same] at e ⊢; exact e
  · rw [upd_ne hb] at e ⊢; exact s b u e
theorem Same.updNew {F : Hp} {p : Addr} (h : F p = Option.none) (o : HO) : Same F (upd F p o) := fun b u e => by
  rw [upd_ne (ne_of_none e h)]; exact e
/-- one new frozen thing -/
theorem Grow.new {F H : Hp} (s : Same F H) {p : Addr} (hp : H p = Option.none) (o : HO) : Grow F H (upd F p o) (upd H p o) :=
  ⟨Same.updNew (s.free hp) o, Same.upd2 s p o, fun b u e => by
    have hb : b ≠ p := ne_of_none e hp
    rw [upd_ne hb, upd_ne hb]; exact ⟨e, id⟩⟩
/-- one new thing that is not frozen -/
theorem Grow.newOwn {F H : Hp} (s : Same F H) {p : Addr} (hp : H p = Option.none) (o : HO) : Grow F H F (upd H p o) :=
  ⟨Same.refl F, fun b u e => by rw [upd_ne (ne_of_none (s b u e) hp)]; exact s b u e, fun b u e => by
    rw [upd_ne (ne_of_none e hp)]; exact ⟨e, id⟩⟩
section
variable {K : Frg} {F H F' H' : Hp} {σ : St} {ρ : En}
theorem Rel.ownAt (r : Rel K F H σ ρ) {p : Addr} (h : Own σ ρ p) : F p = Option.none ∧ ∃ vs, H p = some (.lst vs) := by
  obtain ⟨i, sl, ds, h1, h2, h3⟩ := h
  obtain ⟨q, vs, e, f, hq, _⟩ := r.cell i sl ds h1 h2
  rw [h3] at e
  injection e with e
  injection e with e
  injection e with e
  subst e
  exact ⟨f, vs, hq⟩
theorem Rel.notOwn (r : Rel K F H σ ρ) {p : Addr} (h : H p = Option.none) : ¬ Own σ ρ p := fun o => by
  obtain ⟨_, vs, e⟩ := r.ownAt o
  rw [h] at e; cases e
theorem Rel.grow (r : Rel K F H σ ρ) (g : Grow F H F' H') : Rel K F' H' σ ρ where
  sub := g.sub
  len := r.len
  dat := fun i d h => let ⟨v, e, q⟩ := r.dat i d h; ⟨v, e, q.mono g.ext⟩
  cell := fun i sl ds h1 h2 => by
    obtain ⟨p, vs, e, f, hp, q⟩ := r.cell i sl ds h1 h2
    obtain ⟨h', f'⟩ := g.keep p _ hp
    exact ⟨p, vs, e, f' f, h', q.mono g.ext⟩
  inj := r.inj
theorem Go.of_grow (r : Rel K F H σ ρ) (g : Grow F H F' H') : Go K F H σ ρ F' H' σ ρ :=
  ⟨g.ext, fun p o h n => let ⟨a, b⟩ := g.keep p o h; ⟨a, b, n⟩, g.stay, fun _ _ h => ⟨⟨_, h⟩, rfl⟩, r.grow g⟩
end
end DL

set_option Elab.async false
set_option linter.all false
set_option maxRecDepth 100000
set_option maxHeartbeats 4000000
namespace DL
open PySem PySem.Spec L2

/-! ### a family of contexts: a def's body wherever it is called, a comprehension's block in it -/
structure Fam (P : Program) (w : World) (K : Frg) (mg : Str → Option Value) (base : Heap) (k : Nat) where
  ι : Type
  X : ι → Cx
  prog : ∀ i, (X i).prog = P
  wd : ∀ i, (X i).w = w
  K : ∀ i, (X i).K = K
  mg : ∀ i, (X i).mg = mg
  base : ∀ i, (X i).base = base
  calm : ∀ i, (X i).calm = true
  room : ∀ i, Room k (X i).A

abbrev EF := En → Option (Dt × En)
abbrev TF := En → Option (Bool × En)
abbrev AF := En → Option (List Dt × En)
section
variable (K : Frg)
def RefE (t : TE) (f : EF) : Prop := ∀ (F H : Hp) (σ : St) (ρ : En) (d : Dt) (ρ' : En) (Q : VK), f ρ = some (d, ρ') → Rel K F H σ ρ → (∀ v F' H', Go K F H σ ρ F' H' σ ρ' → Dp K F' v d → Q v H') → t σ H Q
def RefT (t : TT) (f : TF) : Prop := ∀ (F H : Hp) (σ : St) (ρ : En) (b : Bool) (ρ' : En) (Q : Bool → Hp → Prop), f ρ = some (b, ρ') → Rel K F H σ ρ → (∀ F' H', Go K F H σ ρ F' H' σ ρ' → Q b H') → t σ H Q
def RefA (t : TA) (f : AF) : Prop := ∀ (F H : Hp) (σ : St) (ρ : En) (ds : List Dt) (ρ' : En) (Q : List V → Hp → Prop), f ρ = some (ds, ρ') → Rel K F H σ ρ → (∀ vs F' H', Go K F H σ ρ F' H' σ ρ' → DpAll K F' vs ds → Q vs H') → t σ H Q
/-- a list that nobody else holds yet -/
def RefO (t : TE) (f : AF) : Prop := ∀ (F H : Hp) (σ : St) (ρ : En) (ds : List Dt) (ρ' : En) (Q : VK), f ρ = some (ds, ρ') → Rel K F H σ ρ →
  (∀ p vs F' H', Go K F H σ ρ F' H' σ ρ' → H p = Option.none → F' p = Option.none → H' p = some (.lst vs) → DpAll K F' vs ds → ¬ Own σ ρ' p → Q (.ref p) H') → t σ H Q
end
section
variable {P : Program} {w : World} {K : Frg} {mg : Str → Option Value} {base : Heap} {k : Nat} (M : Fam P w K mg base k)
def DE (e : Expr) (f : EF) : Prop := ∃ t : TE, (∀ i, PE (M.X i) e t) ∧ RefE K t f
def DTe (e : Expr) (f : TF) : Prop := ∃ t : TT, (∀ i, PT (M.X i) e t) ∧ RefT K t f
def DW (e : Expr) (f : TF) : Prop := ∃ t : TT, (∀ i, PW (M.X i) e t) ∧ RefT K t f
def DA (es : List Expr) (f : AF) : Prop := ∃ t : TA, (∀ i, PA (M.X i) es t) ∧ RefA K t f
def DO (e : Expr) (f : AF) : Prop := ∃ t : TE, (∀ i, PE (M.X i) e t) ∧ RefO K t f
end

/-! ### the functions of slots' data -/
def eVar (i : Nat) : EF := fun ρ => match ρ[i]? with
  | some (.dat d) => some (d, ρ)
  | some (.own ds) => some (.list ds, ρ.set i (.dat (.list ds)))
  | _ => Option.none
def eC (d : Dt) : EF := fun ρ => some (d, ρ)
def eOp2 (g : Dt → Dt → Option Dt) (fa fb : EF) : EF := fun ρ => (fa ρ).bind fun p => (fb p.2).bind fun q => (g p.1 q.1).map fun c => (c, q.2)
def eOp1 (g : Dt → Option Dt) (fa : EF) : EF := fun ρ => (fa ρ).bind fun p => (g p.1).map fun c => (c, p.2)
def tOfB (d : Dt) (ρ : En) : Option (Bool × En) := match d with
  | .bool b => some (b, ρ)
  | _ => Option.none
def toT (fa : EF) : TF := fun ρ => (fa ρ).bind fun p => tOfB p.1 p.2
def eAnd (fa fb : EF) : EF := fun ρ => (fa ρ).bind fun p => match p.1 with
  | .bool true => fb p.2
  | .bool false => some (.bool false, p.2)
  | _ => Option.none
def eOr (fa fb : EF) : EF := fun ρ => (fa ρ).bind fun p => match p.1 with
  | .bool true => some (.bool true, p.2)
  | .bool false => fb p.2
  | _ => Option.none
def eNot (fa : EF) : EF := fun ρ => (fa ρ).bind fun p => match p.1 with
  | .bool b => some (.bool (!b), p.2)
  | _ => Option.none
def uAnd (fa fb : TF) : TF := fun ρ => (fa ρ).bind fun p => if p.1 = true then fb p.2 else some (false, p.2)
def uOr (fa fb : TF) : TF := fun ρ => (fa ρ).bind fun p => if p.1 = true then some (true, p.2) else fb p.2
def uNot (fa : TF) : TF := fun ρ => (fa ρ).bind fun p => some (!p.1, p.2)
def eIf (c : TF) (fa fb : EF) : EF := fun ρ => (c ρ).bind fun p => if p.1 = true then fa p.2 else fb p.2
def aNil : AF := fun ρ => some ([], ρ)
def aCons (fa : EF) (fr : AF) : AF := fun ρ => (fa ρ).bind fun p => (fr p.2).bind fun q => some (p.1 :: q.1, q.2)
def eCall (g : List Dt → Option Dt) (fa : AF) : EF := fun ρ => (fa ρ).bind fun p => (g p.1).map fun c => (c, p.2)
def oCall (g : List Dt → Option (List Dt)) (fa : AF) : AF := fun ρ => (fa ρ).bind fun p => (g p.1).map fun c => (c, p.2)
def eCallK (g : List Dt → Option Dt) (fa fk : AF) (h : List Dt → List Dt → List Dt) : EF := fun ρ => (fa ρ).bind fun p => (fk p.2).bind fun q => (g (h p.1 q.1)).map fun c => (c, q.2)
def eTup (fa : AF) : EF := fun ρ => (fa ρ).bind fun p => if p.1.length ≤ sizeLine then some (.tuple p.1, p.2) else Option.none
def oLst (fa : AF) : AF := fun ρ => (fa ρ).bind fun p => if p.1.length ≤ sizeLine then some p else Option.none
def eOfO (fa : AF) : EF := fun ρ => (fa ρ).bind fun p => some (.list p.1, p.2)

section
variable {K : Frg} {F H F' H' : Hp} {σ : St} {ρ ρ' : En}
theorem lookSet {ρ : En} {i j : Nat} {s : Sl} : (ρ.set i s)[j]? = if j = i then (if i < ρ.length then some s else Option.none) else ρ[j]? := by
  by_cases h : j = i
  · subst h
    rw [if_pos rfl]
    by_cases hl : j < ρ.length
    · rw [if_pos hl, List.getElem?_set_self hl]
    · rw [if_neg hl, List.getElem?_eq_none (by rw [List.length_set]; omega)]
  · rw [if_neg h, List.getElem?_set_ne (Ne.symm h)]
/-- an owned list is frozen where it stands -/
theorem Rel.freeze (r : Rel K F H σ ρ) {i : Nat} {ds : List Dt} (h : ρ[i]? = some (Sl.own ds)) :
    ∃ p F', σ[i]? = some (some (V.ref p)) ∧ Go K F H σ ρ F' H σ (ρ.set i (.dat (.list ds))) ∧ Dp K F' (.ref p) (.list ds) := by
  obtain ⟨p, vs, e, f, hp, q⟩ := r.cell i _ ds h rfl
  have ext : Same F (upd F p (.lst vs)) := Same.updNew f _
  have hd : Dp K (upd F p (.lst vs)) (.ref p) (.list ds) := .lst upd_same (q.mono ext)
  have hil : i < ρ.length := (List.getElem?_eq_some_iff.mp h).1
  refine ⟨p, upd F p (.lst vs), e, ⟨ext, fun b o hb n => ⟨hb, fun z => ?_, fun ⟨j, sl, es, h1, h2, h3⟩ => ?_⟩, fun _ z => z, fun j es h1 => ?_, ⟨fun b u hb => ?_, by rw [List.length_set]; exact r.len, fun j d h1 => ?_, fun j sl es h1 h2 => ?_, fun a b sl sl' es es' h1 h2 h3 h4 h5 => ?_⟩⟩, hd⟩
  · have hne : b ≠ p := fun z2 => n ⟨i, _, ds, h, rfl, by rw [z2]; exact e⟩
    rw [upd_ne hne]; exact z
  · rw [lookSet] at h1
    by_cases hj : j = i
    · rw [if_pos hj, if_pos hil] at h1
      injection h1 with h1; subst h1; cases h2
    · rw [if_neg hj] at h1
      exact n ⟨j, sl, es, h1, h2, h3⟩
  · have hj : j ≠ i := fun z => by rw [z, h] at h1; cases h1
    exact ⟨⟨es, by rw [lookSet, if_neg hj]; exact h1⟩, rfl⟩
  · by_cases hbp : b = p
    · subst hbp; rw [upd_same] at hb; rw [← hb]; exact hp
    · rw [upd_ne hbp] at hb; exact r.sub b u hb
  · rw [lookSet] at h1
    by_cases hj : j = i
    · rw [if_pos hj, if_pos hil] at h1
      injection h1 with h1; injection h1 with h1; subst h1
      exact ⟨.ref p, by rw [hj]; exact e, hd⟩
    · rw [if_neg hj] at h1
      obtain ⟨v, e1, q1⟩ := r.dat j d h1
      exact ⟨v, e1, q1.mono ext⟩
  · rw [lookSet] at h1
    by_cases hj : j = i
    · rw [if_pos hj, if_pos hil] at h1
      injection h1 with h1; subst h1; cases h2
    · rw [if_neg hj] at h1
      obtain ⟨p', vs', e1, f1, hp1, q1⟩ := r.cell j sl es h1 h2
      have hne : p' ≠ p := fun z => hj (r.inj j i sl _ es ds h1 h2 h rfl (by rw [e1, e, z]))
      exact ⟨p', vs', e1, by rw [upd_ne hne]; exact f1, hp1, q1.mono ext⟩
  · rw [lookSet] at h1 h3
    by_cases ha : a = i
    · rw [if_pos ha, if_pos hil] at h1
      injection h1 with h1; subst h1; cases h2
    · by_cases hb : b = i
      · rw [if_pos hb, if_pos hil] at h3
        injection h3 with h3; subst h3; cases h4
      · rw [if_neg ha] at h1
        rw [if_neg hb] at h3
        exact r.inj a b sl sl' es es' h1 h2 h3 h4 h5
/-- a list that nobody holds is frozen -/
theorem Rel.freezeNew (r : Rel K F' H' σ ρ') {p : Addr} {vs : List V} {ds : List Dt} (f : F' p = Option.none) (hp : H' p = some (.lst vs)) (q : DpAll K F' vs ds) (n : ¬ Own σ ρ' p) :
    Rel K (upd F' p (.lst vs)) H' σ ρ' ∧ Dp K (upd F' p (.lst vs)) (.ref p) (.list ds) := by
  have ext : Same F' (upd F' p (.lst vs)) := Same.updNew f _
  refine ⟨⟨fun b u hb => ?_, r.len, fun j d h1 => ?_, fun j sl es h1 h2 => ?_, r.inj⟩, .lst upd_same (q.mono ext)⟩
  · by_cases hbp : b = p
    · subst hbp; rw [upd_same] at hb; rw [← hb]; exact hp
    · rw [upd_ne hbp] at hb; exact r.sub b u hb
  · obtain ⟨v, e1, q1⟩ := r.dat j d h1
    exact ⟨v, e1, q1.mono ext⟩
  · obtain ⟨p', vs', e1, f1, hp1, q1⟩ := r.cell j sl es h1 h2
    have hne : p' ≠ p := fun z => n ⟨j, sl, es, h1, h2, by rw [← z]; exact e1⟩
    exact ⟨p', vs', e1, by rw [upd_ne hne]; exact f1, hp1, q1.mono ext⟩
theorem RefO.frz {t : TE} {f : AF} (h : RefO K t f) : RefE K t (eOfO f) := by
  intro F H σ ρ d ρ' Q hf r q
  obtain ⟨⟨ds, ρ1⟩, h1, h2⟩ := Option.bind_eq_some_iff.mp hf
  injection h2 with h2
  injection h2 with h3 h4
  subst h3; subst h4
  refine h F H σ ρ ds ρ1 Q h1 r fun p vs F' H' g hn f' hp qa n => ?_
  obtain ⟨r', hd⟩ := g.rel.freezeNew f' hp qa n
  refine q _ (upd F' p (.lst vs)) H' ⟨g.ext.trans (Same.updNew f' _), fun b o hb nb => ?_, g.stay, g.bor, r'⟩ hd
  obtain ⟨a1, a2, a3⟩ := g.keep b o hb nb
  exact ⟨a1, fun z => by rw [upd_ne (ne_of_none hb hn)]; exact a2 z, a3⟩
theorem RefE.test {t : TE} {f : EF} (h : RefE K t f) : RefT K (tTest t) (toT f) := by
  intro F H σ ρ b ρ' Q hf r q
  obtain ⟨⟨d, ρ1⟩, h1, h2⟩ := Option.bind_eq_some_iff.mp hf
  refine h F H σ ρ d ρ1 _ h1 r fun v F' H' g hd => ?_
  unfold tOfB at h2
  cases d <;> first | (cases h2; done) | skip
  rename_i c
  injection h2 with h2; injection h2 with h3 h4
  subst h3; subst h4
  cases hd
  exact ⟨_, rfl, q F' H' g⟩
end
section
variable {P : Program} {w : World} {K : Frg} {mg : Str → Option Value} {base : Heap} {k : Nat} {M : Fam P w K mg base k} {a b c e : Expr} {fa fb : EF} {pos : Pos} {es : List Expr}

/-! ### names, constants -/
theorem refVar {i : Nat} : RefE K (tVar i) (eVar i) := by
  intro F H σ ρ d ρ' Q hf r q
  unfold eVar at hf
  cases e : ρ[i]? with
  | none => rw [e] at hf; cases hf
  | some s =>
    rw [e] at hf
    cases s with
    | un => cases hf
    | bor ds => cases hf
    | dat d0 =>
      injection hf with hf; injection hf with h1 h2
      subst h1; subst h2
      obtain ⟨v, hv, hd⟩ := r.dat i d0 e
      exact ⟨v, hv, q v F H (Go.refl r) hd⟩
    | own ds =>
      injection hf with hf; injection hf with h1 h2
      subst h1; subst h2
      obtain ⟨p, F', hs, g, hd⟩ := r.freeze e
      exact ⟨_, hs, q _ F' H g hd⟩
theorem de_var (i : Nat) {x : Str} (hN : ∀ j, (M.X j).N[i]? = some x := by intro _; rfl) (hv : ∀ j, Vis (M.X j).env.scope x := by intro _; first | exact Or.inl rfl | exact Or.inr (Or.inl rfl) | exact Or.inr (Or.inr rfl))
    (hd : (x == ("__debug__" : Str)) = false := by decide) (hcd : (x == ("__classdict__" : Str)) = false := by decide) : DE M (.Name x pos) (eVar i) :=
  ⟨tVar i, fun j => pe_var (hN j) (hv j) hd hcd, refVar⟩
theorem refC {v : V} {d : Dt} (h : ∀ F, Dp K F v d) : RefE K (tC v) (eC d) := by
  intro F H σ ρ d' ρ' Q hf r q
  injection hf with hf; injection hf with h1 h2
  subst h1; subst h2
  exact q v F H (Go.refl r) (h F)
theorem de_int {i : Int} {j} : DE M (.Constant (.int i) j pos) (eC (.int i)) := ⟨_, fun _ => pe_int, refC fun _ => .int i⟩
theorem de_bl {i : Bool} {j} : DE M (.Constant (.bool i) j pos) (eC (.bool i)) := ⟨_, fun _ => pe_bl, refC fun _ => .bl i⟩
theorem de_non {j} : DE M (.Constant .none j pos) (eC .none) := ⟨_, fun _ => pe_non, refC fun _ => .non⟩
theorem de_str {i : Str} {j} : DE M (.Constant (.str i) j pos) (eC (.str i)) := ⟨_, fun _ => pe_str, refC fun _ => .str i⟩
/-- a module's constant -/
structure Glob (K : Frg) (mg : Str → Option Value) (x : Str) (d : Dt) : Prop where
  ex : ∃ u v, mg x = some u ∧ RelV v u ∧ ∀ F, Dp K F v d
theorem de_glob {x : Str} {d : Dt} (G : Glob K mg x d) (hg : ∀ j, Gl (M.X j) x := by intro _; rfl) (hd : (x == ("__debug__" : Str)) = false := by decide) : DE M (.Name x pos) (eC d) := by
  obtain ⟨u, v, h1, h2, h3⟩ := G.ex
  exact ⟨tC v, fun j => pe_glob (hg j) (by rw [M.mg j]; exact h1) h2 hd, refC h3⟩

/-! ### operators by their functions of data -/
def OpD (K : Frg) (r : R2) (g : Dt → Dt → Option Dt) : Prop := ∀ (F H : Hp) (x y : V) (d e c : Dt) (Q : VK), Same F H → Dp K F x d → Dp K F y e → g d e = some c → (∀ v F' H', Grow F H F' H' → Dp K F' v c → Q v H') → r x y H Q
def UnD (K : Frg) (r : V → Hp → VK → Prop) (g : Dt → Option Dt) : Prop := ∀ (F H : Hp) (x : V) (d c : Dt) (Q : VK), Same F H → Dp K F x d → g d = some c → (∀ v F' H', Grow F H F' H' → Dp K F' v c → Q v H') → r x H Q
def ClD (K : Frg) (r : List V → Hp → VK → Prop) (g : List Dt → Option Dt) : Prop := ∀ (F H : Hp) (xs : List V) (ds : List Dt) (c : Dt) (Q : VK), Same F H → DpAll K F xs ds → g ds = some c → (∀ v F' H', Grow F H F' H' → Dp K F' v c → Q v H') → r xs H Q
theorem refOp {r : R2} {g : Dt → Dt → Option Dt} (h : OpD K r g) {ta tb : TE} (ha : RefE K ta fa) (hb : RefE K tb fb) : RefE K (tOp r ta tb) (eOp2 g fa fb) := by
  intro F H σ ρ d ρ' Q hf rl q
  obtain ⟨⟨da, ρ1⟩, h1, hf⟩ := Option.bind_eq_some_iff.mp hf
  obtain ⟨⟨db, ρ2⟩, h2, hf⟩ := Option.bind_eq_some_iff.mp hf
  obtain ⟨c, h3, hf⟩ := Option.map_eq_some_iff.mp hf
  injection hf with e1 e2
  subst e1; subst e2
  refine ha F H σ ρ da ρ1 _ h1 rl fun v F1 H1 g1 hv => ?_
  refine hb F1 H1 σ ρ1 db ρ2 _ h2 g1.rel fun u F2 H2 g2 hu => ?_
  refine h F2 H2 v u da db c Q g2.rel.sub (hv.mono g2.ext) hu h3 fun x F3 H3 g3 hx => ?_
  exact q x F3 H3 ((g1.trans g2).trans (Go.of_grow g2.rel g3)) hx
theorem refUn {r : V → Hp → VK → Prop} {g : Dt → Option Dt} (h : UnD K r g) {ta : TE} (ha : RefE K ta fa) : RefE K (tUn r ta) (eOp1 g fa) := by
  intro F H σ ρ d ρ' Q hf rl q
  obtain ⟨⟨da, ρ1⟩, h1, hf⟩ := Option.bind_eq_some_iff.mp hf
  obtain ⟨c, h3, hf⟩ := Option.map_eq_some_iff.mp hf
  injection hf with e1 e2
  subst e1; subst e2
  refine ha F H σ ρ da ρ1 _ h1 rl fun v F1 H1 g1 hv => ?_
  refine h F1 H1 v da c Q g1.rel.sub hv h3 fun x F3 H3 g3 hx => ?_
  exact q x F3 H3 (g1.trans (Go.of_grow g1.rel g3)) hx
theorem refCl {r : List V → Hp → VK → Prop} {g : List Dt → Option Dt} {f : AF} (h : ClD K r g) {t : TA} (ha : RefA K t f) : RefE K (fun σ H Q => t σ H fun vs H1 => r vs H1 Q) (eCall g f) := by
  intro F H σ ρ d ρ' Q hf rl q
  obtain ⟨⟨da, ρ1⟩, h1, hf⟩ := Option.bind_eq_some_iff.mp hf
  obtain ⟨c, h3, hf⟩ := Option.map_eq_some_iff.mp hf
  injection hf with e1 e2
  subst e1; subst e2
  refine ha F H σ ρ da ρ1 _ h1 rl fun v F1 H1 g1 hv => ?_
  refine h F1 H1 v da c Q g1.rel.sub hv h3 fun x F3 H3 g3 hx => ?_
  exact q x F3 H3 (g1.trans (Go.of_grow g1.rel g3)) hx
/-- an operator over data: its rule at each context, its function -/
structure OpS (M : Fam P w K mg base k) (f : Value → Value → Sem Value) (g : Dt → Dt → Option Dt) : Prop where
  ex : ∃ r : R2, (∀ j, OpR (M.X j) f r) ∧ OpD K r g
theorem de_bin {op : Operator} {g : Dt → Dt → Option Dt} (o : OpS M (binaryOp op) g) (ha : DE M a fa) (hb : DE M b fb) : DE M (.BinOp a op b pos) (eOp2 g fa fb) := by
  obtain ⟨r, o1, o2⟩ := o.ex
  obtain ⟨ta, a1, a2⟩ := ha
  obtain ⟨tb, b1, b2⟩ := hb
  exact ⟨tOp r ta tb, fun j => pe_op (o1 j) (a1 j) (b1 j), refOp o2 a2 b2⟩
theorem de_cmp {op : CmpOp} {g : Dt → Dt → Option Dt} (o : OpS M (compareOp op) g) (ha : DE M a fa) (hb : DE M b fb) (hm : behindInMarks op b = false := by first | exact nomark _ | rfl) : DE M (.Compare a [op] [b] pos) (eOp2 g fa fb) := by
  obtain ⟨r, o1, o2⟩ := o.ex
  obtain ⟨ta, a1, a2⟩ := ha
  obtain ⟨tb, b1, b2⟩ := hb
  exact ⟨tOp r ta tb, fun j => pe_cmpR (o1 j) (a1 j) (b1 j) hm, refOp o2 a2 b2⟩
theorem dt_cmp {op : CmpOp} {g : Dt → Dt → Option Dt} (o : OpS M (compareOp op) g) (ha : DE M a fa) (hb : DE M b fb) (hm : behindInMarks op b = false := by first | exact nomark _ | rfl) : DTe M (.Compare a [op] [b] pos) (toT (eOp2 g fa fb)) := by
  obtain ⟨r, o1, o2⟩ := o.ex
  obtain ⟨ta, a1, a2⟩ := ha
  obtain ⟨tb, b1, b2⟩ := hb
  exact ⟨_, fun j => pt_cmpR (o1 j) (a1 j) (b1 j) hm, (refOp o2 a2 b2).test⟩
theorem dt_val (ha : DE M a fa) (he : ∀ j whole, isTrue a (M.X j).env whole = (do let v ← whole; standAt a.pos; holding [v] (truthy v)) := by intro _ _; rfl) : DTe M a (toT fa) := by
  obtain ⟨ta, a1, a2⟩ := ha
  exact ⟨_, fun j => pt_val (a1 j) (he j), a2.test⟩
structure UnS (M : Fam P w K mg base k) (f : Value → Sem Value) (g : Dt → Option Dt) : Prop where
  ex : ∃ r, (∀ j, UnR (M.X j) f r) ∧ UnD K r g
theorem de_un {op : UnaryOp} {g : Dt → Option Dt} (o : UnS M (unaryOp op) g) (ha : DE M a fa) : DE M (.UnaryOp op a pos) (eOp1 g fa) := by
  obtain ⟨r, o1, o2⟩ := o.ex
  obtain ⟨ta, a1, a2⟩ := ha
  exact ⟨tUn r ta, fun j => pe_un (o1 j) (a1 j), refUn o2 a2⟩
/-! ### x is None -/
def gIsN (d : Dt) : Dt := .bool (match d with | .none => true | _ => false)
def gNotN (d : Dt) : Dt := .bool (match d with | .none => false | _ => true)
def eIsN (fa : EF) : EF := fun ρ => (fa ρ).bind fun p => some (gIsN p.1, p.2)
def eNotN (fa : EF) : EF := fun ρ => (fa ρ).bind fun p => some (gNotN p.1, p.2)
theorem dp_non {F : Hp} {v : V} {d : Dt} (h : Dp K F v d) : decide (v = V.non) = (match d with | .none => true | _ => false) := by
  cases h <;> rfl
theorem de_isN {j pos'} (ha : DE M a fa) : DE M (.Compare a [.Is] [.Constant .none j pos'] pos) (eIsN fa) := by
  obtain ⟨ta, a1, a2⟩ := ha
  refine ⟨_, fun i => pe_cmp (pc_isN (a1 i)), fun F H σ ρ d ρ' Q hf r q => ?_⟩
  obtain ⟨⟨da, ρ1⟩, h1, hf⟩ := Option.bind_eq_some_iff.mp hf
  injection hf with hf; injection hf with e1 e2
  subst e1; subst e2
  refine a2 F H σ ρ da ρ1 _ h1 r fun v F1 H1 g1 hv => q _ F1 H1 g1 ?_
  rw [dp_non hv]
  cases hv <;> exact .bl _
theorem de_notN {j pos'} (ha : DE M a fa) : DE M (.Compare a [.IsNot] [.Constant .none j pos'] pos) (eNotN fa) := by
  obtain ⟨ta, a1, a2⟩ := ha
  refine ⟨_, fun i => pe_cmp (pc_notN (a1 i)), fun F H σ ρ d ρ' Q hf r q => ?_⟩
  obtain ⟨⟨da, ρ1⟩, h1, hf⟩ := Option.bind_eq_some_iff.mp hf
  injection hf with hf; injection hf with e1 e2
  subst e1; subst e2
  refine a2 F H σ ρ da ρ1 _ h1 r fun v F1 H1 g1 hv => q _ F1 H1 g1 ?_
  rw [dp_non hv]
  cases hv <;> exact .bl _
theorem refTB {t : TE} {f : EF} (h : RefE K t f) : RefT K (tB t) (toT f) := h.test
theorem dt_isN {j pos'} (ha : DE M a fa) : DTe M (.Compare a [.Is] [.Constant .none j pos'] pos) (toT (eIsN fa)) := by
  obtain ⟨t, h1, h2⟩ := ha
  have q : DE M (.Compare a [.Is] [.Constant .none j pos'] pos) (eIsN fa) := de_isN ⟨t, h1, h2⟩
  refine ⟨_, fun i => pt_cmp (pc_isN (h1 i)), RefE.test fun F H σ ρ d ρ' Q hf r q => ?_⟩
  obtain ⟨⟨da, ρ1⟩, h1, hf⟩ := Option.bind_eq_some_iff.mp hf
  injection hf with hf; injection hf with e1 e2
  subst e1; subst e2
  refine h2 F H σ ρ da ρ1 _ h1 r fun v F1 H1 g1 hv => q _ F1 H1 g1 ?_
  rw [dp_non hv]
  cases hv <;> exact .bl _
theorem dt_notN {j pos'} (ha : DE M a fa) : DTe M (.Compare a [.IsNot] [.Constant .none j pos'] pos) (toT (eNotN fa)) := by
  obtain ⟨t, h1, h2⟩ := ha
  refine ⟨_, fun i => pt_cmp (pc_notN (h1 i)), RefE.test fun F H σ ρ d ρ' Q hf r q => ?_⟩
  obtain ⟨⟨da, ρ1⟩, h1, hf⟩ := Option.bind_eq_some_iff.mp hf
  injection hf with hf; injection hf with e1 e2
  subst e1; subst e2
  refine h2 F H σ ρ da ρ1 _ h1 r fun v F1 H1 g1 hv => q _ F1 H1 g1 ?_
  rw [dp_non hv]
  cases hv <;> exact .bl _
/-! ### and, or, not, if -/
variable {rest : List Expr} {ua ub : TF}
theorem de_one {op} (h : DE M a fa) : DE M (.BoolOp op [a] pos) fa := let ⟨t, h1, h2⟩ := h; ⟨t, fun j => pe_one (h1 j), h2⟩
theorem de_and (ha : DE M a fa) (hb : DE M (.BoolOp .And (b :: rest) pos) fb) : DE M (.BoolOp .And (a :: b :: rest) pos) (eAnd fa fb) := by
  obtain ⟨ta, a1, a2⟩ := ha
  obtain ⟨tb, b1, b2⟩ := hb
  refine ⟨_, fun j => pe_and (a1 j) (b1 j), fun F H σ ρ d ρ' Q hf r q => ?_⟩
  obtain ⟨⟨da, ρ1⟩, h1, hf⟩ := Option.bind_eq_some_iff.mp hf
  refine a2 F H σ ρ da ρ1 _ h1 r fun v F1 H1 g1 hv => ?_
  cases hv <;> first | (cases hf; done) | skip
  rename_i c
  refine ⟨c, rfl, ?_⟩
  cases c with
  | true => exact iteT (b2 F1 H1 σ ρ1 d ρ' Q hf g1.rel fun u F2 H2 g2 hu => q u F2 H2 (g1.trans g2) hu)
  | false =>
    injection hf with hf; injection hf with e1 e2
    subst e1; subst e2
    exact iteF (q _ F1 H1 g1 (.bl false))
theorem de_or (ha : DE M a fa) (hb : DE M (.BoolOp .Or (b :: rest) pos) fb) : DE M (.BoolOp .Or (a :: b :: rest) pos) (eOr fa fb) := by
  obtain ⟨ta, a1, a2⟩ := ha
  obtain ⟨tb, b1, b2⟩ := hb
  refine ⟨_, fun j => pe_or (a1 j) (b1 j), fun F H σ ρ d ρ' Q hf r q => ?_⟩
  obtain ⟨⟨da, ρ1⟩, h1, hf⟩ := Option.bind_eq_some_iff.mp hf
  refine a2 F H σ ρ da ρ1 _ h1 r fun v F1 H1 g1 hv => ?_
  cases hv <;> first | (cases hf; done) | skip
  rename_i c
  refine ⟨c, rfl, ?_⟩
  cases c with
  | false => exact iteF (b2 F1 H1 σ ρ1 d ρ' Q hf g1.rel fun u F2 H2 g2 hu => q u F2 H2 (g1.trans g2) hu)
  | true =>
    injection hf with hf; injection hf with e1 e2
    subst e1; subst e2
    exact iteT (q _ F1 H1 g1 (.bl true))
theorem de_not (ha : DE M a fa) : DE M (.UnaryOp .Not a pos) (eNot fa) := by
  obtain ⟨ta, a1, a2⟩ := ha
  refine ⟨_, fun j => pe_not (a1 j), fun F H σ ρ d ρ' Q hf r q => ?_⟩
  obtain ⟨⟨da, ρ1⟩, h1, hf⟩ := Option.bind_eq_some_iff.mp hf
  refine a2 F H σ ρ da ρ1 _ h1 r fun v F1 H1 g1 hv => ?_
  cases hv <;> first | (cases hf; done) | skip
  rename_i c
  injection hf with hf; injection hf with e1 e2
  subst e1; subst e2
  exact ⟨c, rfl, q _ F1 H1 g1 (.bl _)⟩
theorem dw_and1 (ha : DTe M a ua) : DW M (.BoolOp .And [a] pos) ua := let ⟨t, h1, h2⟩ := ha; ⟨t, fun j => pw_and1 (h1 j), h2⟩
theorem dw_or1 (ha : DTe M a ua) : DW M (.BoolOp .Or [a] pos) ua := let ⟨t, h1, h2⟩ := ha; ⟨t, fun j => pw_or1 (h1 j), h2⟩
theorem dw_and (ha : DTe M a ua) (hb : DW M (.BoolOp .And (b :: rest) pos) ub) : DW M (.BoolOp .And (a :: b :: rest) pos) (uAnd ua ub) := by
  obtain ⟨ta, a1, a2⟩ := ha
  obtain ⟨tb, b1, b2⟩ := hb
  refine ⟨_, fun j => pw_and (a1 j) (b1 j), fun F H σ ρ c ρ' Q hf r q => ?_⟩
  obtain ⟨⟨ca, ρ1⟩, h1, hf⟩ := Option.bind_eq_some_iff.mp hf
  refine a2 F H σ ρ ca ρ1 _ h1 r fun F1 H1 g1 => ?_
  cases ca with
  | true => exact iteT (b2 F1 H1 σ ρ1 c ρ' Q hf g1.rel fun F2 H2 g2 => q F2 H2 (g1.trans g2))
  | false =>
    have hf' : some (false, ρ1) = some (c, ρ') := hf
    injection hf' with hf'; injection hf' with e1 e2
    subst e1; subst e2
    exact iteF (q F1 H1 g1)
theorem dw_or (ha : DTe M a ua) (hb : DW M (.BoolOp .Or (b :: rest) pos) ub) : DW M (.BoolOp .Or (a :: b :: rest) pos) (uOr ua ub) := by
  obtain ⟨ta, a1, a2⟩ := ha
  obtain ⟨tb, b1, b2⟩ := hb
  refine ⟨_, fun j => pw_or (a1 j) (b1 j), fun F H σ ρ c ρ' Q hf r q => ?_⟩
  obtain ⟨⟨ca, ρ1⟩, h1, hf⟩ := Option.bind_eq_some_iff.mp hf
  refine a2 F H σ ρ ca ρ1 _ h1 r fun F1 H1 g1 => ?_
  cases ca with
  | false => exact iteF (b2 F1 H1 σ ρ1 c ρ' Q hf g1.rel fun F2 H2 g2 => q F2 H2 (g1.trans g2))
  | true =>
    have hf' : some (true, ρ1) = some (c, ρ') := hf
    injection hf' with hf'; injection hf' with e1 e2
    subst e1; subst e2
    exact iteT (q F1 H1 g1)
theorem dt_of (h : DW M a ua) : DTe M a ua := let ⟨t, h1, h2⟩ := h; ⟨t, fun j => (h1 j).pt, h2⟩
theorem dt_not (ha : DTe M a ua) : DTe M (.UnaryOp .Not a pos) (uNot ua) := by
  obtain ⟨ta, a1, a2⟩ := ha
  refine ⟨_, fun j => pt_not (a1 j), fun F H σ ρ c ρ' Q hf r q => ?_⟩
  obtain ⟨⟨ca, ρ1⟩, h1, hf⟩ := Option.bind_eq_some_iff.mp hf
  injection hf with hf; injection hf with e1 e2
  subst e1; subst e2
  exact a2 F H σ ρ ca ρ1 _ h1 r fun F1 H1 g1 => q F1 H1 g1
theorem de_if {c : Expr} (hc : DTe M c ua) (ha : DE M a fa) (hb : DE M b fb) : DE M (.IfExp c a b pos) (eIf ua fa fb) := by
  obtain ⟨tc, c1, c2⟩ := hc
  obtain ⟨ta, a1, a2⟩ := ha
  obtain ⟨tb, b1, b2⟩ := hb
  refine ⟨_, fun j => pe_ifExp (c1 j) (a1 j) (b1 j), fun F H σ ρ d ρ' Q hf r q => ?_⟩
  obtain ⟨⟨ca, ρ1⟩, h1, hf⟩ := Option.bind_eq_some_iff.mp hf
  refine c2 F H σ ρ ca ρ1 _ h1 r fun F1 H1 g1 => ?_
  cases ca with
  | true => exact iteT (a2 F1 H1 σ ρ1 d ρ' Q hf g1.rel fun u F2 H2 g2 hu => q u F2 H2 (g1.trans g2) hu)
  | false => exact iteF (b2 F1 H1 σ ρ1 d ρ' Q hf g1.rel fun u F2 H2 g2 hu => q u F2 H2 (g1.trans g2) hu)
/-! ### arguments, displays -/
theorem da_nil : DA M [] aNil := ⟨tNil, fun _ => pa_nil, fun F H σ ρ ds ρ' Q hf r q => by
  injection hf with hf; injection hf with e1 e2
  subst e1; subst e2
  exact q [] F H (Go.refl r) .nil⟩
theorem refACons {ta : TE} {tr : TA} {fr : AF} (ha : RefE K ta fa) (hr : RefA K tr fr) : RefA K (tCons ta tr) (aCons fa fr) := by
  intro F H σ ρ ds ρ' Q hf r q
  obtain ⟨⟨da, ρ1⟩, h1, hf⟩ := Option.bind_eq_some_iff.mp hf
  obtain ⟨⟨dr, ρ2⟩, h2, hf⟩ := Option.bind_eq_some_iff.mp hf
  injection hf with hf; injection hf with e1 e2
  subst e1; subst e2
  refine ha F H σ ρ da ρ1 _ h1 r fun v F1 H1 g1 hv => ?_
  exact hr F1 H1 σ ρ1 dr ρ2 _ h2 g1.rel fun vs F2 H2 g2 hvs => q (v :: vs) F2 H2 (g1.trans g2) (.cons (hv.mono g2.ext) hvs)
theorem da_cons {fr : AF} (ha : DE M e fa) (hr : DA M es fr) (hs : ∀ j, starEach (e :: es) (M.X j).env = (false, eval e (M.X j).env) :: starEach es (M.X j).env := by intro _; rfl) : DA M (e :: es) (aCons fa fr) := by
  obtain ⟨ta, a1, a2⟩ := ha
  obtain ⟨tr, r1, r2⟩ := hr
  exact ⟨tCons ta tr, fun j => pa_cons (a1 j) (r1 j) (hs j), refACons a2 r2⟩
theorem de_tup {x1} {f : AF} (h : DA M es f) : DE M (.Tuple es x1 pos) (eTup f) := by
  obtain ⟨t, h1, h2⟩ := h
  refine ⟨_, fun j => pe_tup (h1 j), fun F H σ ρ d ρ' Q hf r q => ?_⟩
  obtain ⟨⟨ds, ρ1⟩, g1, hf⟩ := Option.bind_eq_some_iff.mp hf
  refine h2 F H σ ρ ds ρ1 _ g1 r fun vs F1 H1 g hv => ?_
  by_cases hl : ds.length ≤ sizeLine
  · rw [if_pos hl] at hf
    injection hf with hf; injection hf with e1 e2
    subst e1; subst e2
    refine ⟨by rw [dpLen hv]; exact hl, fun p hp => ?_⟩
    have gr : Grow F1 H1 (upd F1 p (.tup vs)) (upd H1 p (.tup vs)) := Grow.new g.rel.sub hp _
    exact q _ _ _ (g.trans (Go.of_grow g.rel gr)) (.tup (SqT.of upd_same) (hv.mono gr.ext))
  · rw [if_neg hl] at hf; cases hf
theorem do_lst {f : AF} (h : DA M es f) : DO M (.List es pos) (oLst f) := by
  obtain ⟨t, h1, h2⟩ := h
  refine ⟨_, fun j => pe_lst (h1 j), fun F H σ ρ d ρ' Q hf r q => ?_⟩
  obtain ⟨⟨ds, ρ1⟩, g1, hf⟩ := Option.bind_eq_some_iff.mp hf
  refine h2 F H σ ρ ds ρ1 _ g1 r fun vs F1 H1 g hv => ?_
  by_cases hl : ds.length ≤ sizeLine
  · rw [if_pos hl] at hf
    injection hf with hf; injection hf with e1 e2
    subst e1; subst e2
    refine ⟨by rw [dpLen hv]; exact hl, fun p hp => ?_⟩
    have gr : Grow F1 H1 F1 (upd H1 p (.lst vs)) := Grow.newOwn g.rel.sub hp _
    exact q p vs F1 _ (g.trans (Go.of_grow g.rel gr)) (g.stay p hp) (g.rel.sub.free hp) upd_same hv (g.rel.notOwn hp)
  · rw [if_neg hl] at hf; cases hf
theorem de_frz {f : AF} (h : DO M e f) : DE M e (eOfO f) := let ⟨t, h1, h2⟩ := h; ⟨t, h1, h2.frz⟩
end
end DL

set_option Elab.async false
set_option linter.all false
set_option maxRecDepth 100000
set_option maxHeartbeats 4000000
namespace DL
open PySem PySem.Spec L2

/-! ### statements -/
inductive Out where
  | nx (ρ : En)
  | ret (d : Dt) (ρ : En)
  | retO (ds : List Dt) (ρ : En)
  | bk (ρ : En)
  | ct (ρ : En)
abbrev SF := En → Option Out
/-- p stood ahead only as a list of an own slot -/
def Fresh (H : Hp) (σ : St) (ρ : En) (p : Addr) : Prop := H p = Option.none ∨ ∃ (i : Nat) (ds : List Dt), ρ[i]? = some (Sl.own ds) ∧ σ[i]? = some (some (V.ref p))
def Takes (K : Frg) (D : Ends) (F H : Hp) (σ : St) (ρ : En) : Out → Prop
  | .nx ρ' => ∀ F' H' σ', Go K F H σ ρ F' H' σ' ρ' → D.nx σ' H'
  | .ret d ρ' => ∀ v F' H' σ', Go K F H σ ρ F' H' σ' ρ' → Dp K F' v d → D.rt v H'
  | .retO ds ρ' => ∀ p vs F' H' σ', Go K F H σ ρ F' H' σ' ρ' → Fresh H σ ρ p → F' p = Option.none → H' p = some (.lst vs) → DpAll K F' vs ds → ¬ Own σ' ρ' p → D.rt (.ref p) H'
  | .bk ρ' => ∀ F' H' σ', Go K F H σ ρ F' H' σ' ρ' → D.bk σ' H'
  | .ct ρ' => ∀ F' H' σ', Go K F H σ ρ F' H' σ' ρ' → D.ct σ' H'
section
variable {K : Frg} {F H F1 H1 : Hp} {σ σ1 : St} {ρ ρ1 : En} {D : Ends}
theorem Fresh.back {p : Addr} (r : Rel K F H σ ρ) (g : Go K F H σ ρ F1 H1 σ1 ρ1) (f : Fresh H1 σ1 ρ1 p) : Fresh H σ ρ p := by
  rcases f with f | ⟨i, ds, h1, h2⟩
  · exact .inl (g.stay p f)
  · cases e : H p with
    | none => exact .inl e
    | some o =>
      refine .inr ?_
      by_cases ho : Own σ ρ p
      · obtain ⟨j, sl, es, k1, k2, k3⟩ := ho
        cases sl with
        | un => cases k2
        | dat _ => cases k2
        | own es' => exact ⟨j, es', k1, k3⟩
        | bor es' =>
          obtain ⟨⟨es2, k4⟩, k5⟩ := g.bor j es' k1
          have e1 : i = j := g.rel.inj i j _ _ ds es2 h1 rfl k4 rfl (by rw [h2, k5, k3])
          rw [e1, k4] at h1
          injection h1 with h1; cases h1
      · exact absurd ⟨i, _, ds, h1, rfl, h2⟩ (g.keep p o e ho).2.2
theorem Takes.later {o : Out} (r : Rel K F H σ ρ) (g : Go K F H σ ρ F1 H1 σ1 ρ1) (t : Takes K D F H σ ρ o) : Takes K D F1 H1 σ1 ρ1 o := by
  cases o with
  | nx ρ' => exact fun F' H' σ' g' => t F' H' σ' (g.trans g')
  | ret d ρ' => exact fun v F' H' σ' g' hd => t v F' H' σ' (g.trans g') hd
  | retO ds ρ' => exact fun p vs F' H' σ' g' f a b c d => t p vs F' H' σ' (g.trans g') (Fresh.back r g f) a b c d
  | bk ρ' => exact fun F' H' σ' g' => t F' H' σ' (g.trans g')
  | ct ρ' => exact fun F' H' σ' g' => t F' H' σ' (g.trans g')
end
def RefS (K : Frg) (t : TS) (f : SF) : Prop := ∀ (F H : Hp) (σ : St) (ρ : En) (o : Out) (D : Ends), f ρ = some o → Rel K F H σ ρ → Takes K D F H σ ρ o → t D σ H
section
variable {P : Program} {w : World} {K : Frg} {mg : Str → Option Value} {base : Heap} {k : Nat} (M : Fam P w K mg base k)
def DS (st : Stmt) (f : SF) : Prop := ∃ t : TS, (∀ i, PS (M.X i) st t) ∧ RefS K t f
def DSs (sts : List Stmt) (f : SF) : Prop := ∃ t : TS, (∀ i, PSs (M.X i) sts t) ∧ RefS K t f
end
/-! ### their functions -/
def sNil : SF := fun ρ => some (.nx ρ)
def sSeq (f g : SF) : SF := fun ρ => (f ρ).bind fun o => match o with
  | .nx ρ1 => g ρ1
  | o => some o
def putSl (i : Nat) (s : Sl) (ρ : En) : Option En := match ρ[i]? with
  | some (.bor _) => Option.none
  | some _ => some (ρ.set i s)
  | none => Option.none
def sSet (i : Nat) (f : EF) : SF := fun ρ => (f ρ).bind fun p => (putSl i (.dat p.1) p.2).map .nx
def sSetO (i : Nat) (f : AF) : SF := fun ρ => (f ρ).bind fun p => (putSl i (.own p.1) p.2).map .nx
def sRet (f : EF) : SF := fun ρ => (f ρ).map fun p => .ret p.1 p.2
def sRetO (f : AF) : SF := fun ρ => (f ρ).map fun p => .retO p.1 p.2
/-- an own slot's list is given out -/
def sRetOwn (i : Nat) : SF := fun ρ => match ρ[i]? with
  | some (.own ds) => some (.retO ds (ρ.set i .un))
  | _ => Option.none
def sRetN : SF := fun ρ => some (.ret .none ρ)
def sDrop (f : EF) : SF := fun ρ => (f ρ).map fun p => .nx p.2
def sIf (c : TF) (f g : SF) : SF := fun ρ => (c ρ).bind fun p => if p.1 = true then f p.2 else g p.2
def sNever : SF := fun _ => Option.none
def sBreak : SF := fun ρ => some (.bk ρ)
def sCont : SF := fun ρ => some (.ct ρ)
def sWhile (c : TF) (b : SF) : Nat → SF
  | 0, _ => Option.none
  | n + 1, ρ => (c ρ).bind fun p => if p.1 = true then (b p.2).bind fun o => match o with
      | .nx ρ2 => sWhile c b n ρ2
      | .ct ρ2 => sWhile c b n ρ2
      | .bk ρ2 => some (.nx ρ2)
      | o => some o
    else some (.nx p.2)
/-- the list that a slot holds, if it may change -/
def cellAt (ρ : En) (i : Nat) : Option (List Dt) := match ρ[i]? with
  | some s => s.cell
  | none => Option.none
def putCell (ρ : En) (i : Nat) (ds : List Dt) : En := match ρ[i]? with
  | some s => ρ.set i (s.withCell ds)
  | none => ρ
def sAppend (i : Nat) (f : EF) : SF := fun ρ => (cellAt ρ i).bind fun _ => (f ρ).bind fun p => (cellAt p.2 i).bind fun ds => if ds.length < sizeLine then some (.nx (putCell p.2 i (ds ++ [p.1]))) else Option.none
/-- x[j] of such a list -/
def eCellIx (i : Nat) (f : EF) : EF := fun ρ => (cellAt ρ i).bind fun _ => (f ρ).bind fun p => match p.1 with
  | .int j => (cellAt p.2 i).bind fun ds => (atI ds j).map fun d => (d, p.2)
  | _ => Option.none
def eCellLen (i : Nat) : EF := fun ρ => (cellAt ρ i).map fun ds => (.int (ds.length : Int), ρ)
/-- targets: the slot's function of the value -/
abbrev GF := Dt → En → Option En
def gNm (i : Nat) : GF := fun d ρ => putSl i (.dat d) ρ
def gTps : List GF → List Dt → En → Option En
  | [], [], ρ => some ρ
  | g :: gs, d :: ds, ρ => (g d ρ).bind fun ρ1 => gTps gs ds ρ1
  | _, _, _ => Option.none
def gTu (gs : List GF) : GF := fun d ρ => match d with
  | .tuple ds => gTps gs ds ρ
  | _ => Option.none
/-- x[j] = d of such a list -/
def gCell (i : Nat) (f : EF) : GF := fun d ρ => (cellAt ρ i).bind fun _ => (f ρ).bind fun p => match p.1 with
  | .int j => (cellAt p.2 i).bind fun ds => (ixN ds.length j).map fun n => putCell p.2 i (ds.set n d)
  | _ => Option.none
def sAsg (f : EF) (g : GF) : SF := fun ρ => (f ρ).bind fun p => (g p.1 p.2).map .nx
def sPar (i j : Nat) (f : AF) : SF := fun ρ => (f ρ).bind fun p => match p.1 with
  | [d, e] => (putSl i (.dat d) p.2).bind fun ρ1 => (putSl j (.dat e) ρ1).map .nx
  | _ => Option.none

section
variable {K : Frg} {F H : Hp} {σ : St} {ρ : En}
/-! ### stores to slots -/
theorem putSl_some {i : Nat} {s : Sl} {ρ ρ' : En} (h : putSl i s ρ = some ρ') : ρ' = ρ.set i s ∧ i < ρ.length ∧ ∀ ds : List Dt, ρ[i]? ≠ some (Sl.bor ds) := by
  unfold putSl at h
  cases e : ρ[i]? with
  | none => rw [e] at h; cases h
  | some t =>
    rw [e] at h
    have hl : i < ρ.length := (List.getElem?_eq_some_iff.mp e).1
    cases t with
    | bor ds => cases h
    | un => injection h with h; exact ⟨h.symm, hl, fun ds z => by injection z with z; cases z⟩
    | dat _ => injection h with h; exact ⟨h.symm, hl, fun ds z => by injection z with z; cases z⟩
    | own _ => injection h with h; exact ⟨h.symm, hl, fun ds z => by injection z with z; cases z⟩
theorem Rel.set (r : Rel K F H σ ρ) {i : Nat} {v : V} {d : Dt} (hd : Dp K F v d) (hl : i < ρ.length) (nb : ∀ ds : List Dt, ρ[i]? ≠ some (Sl.bor ds)) : Go K F H σ ρ F H (σ.set i (some v)) (ρ.set i (.dat d)) := by
  have hl' : i < σ.length := by rw [r.len]; exact hl
  have get : ∀ j, j ≠ i → (σ.set i (some v))[j]? = σ[j]? := fun j hj => List.getElem?_set_ne (Ne.symm hj)
  have off : ∀ {j : Nat} {sl : Sl} {ds : List Dt}, (ρ.set i (.dat d))[j]? = some sl → sl.cell = some ds → j ≠ i ∧ ρ[j]? = some sl := fun {j sl ds} h1 h2 => by
    rw [lookSet] at h1
    by_cases hj : j = i
    · rw [if_pos hj, if_pos hl] at h1
      injection h1 with h1; subst h1; cases h2
    · rw [if_neg hj] at h1; exact ⟨hj, h1⟩
  refine ⟨Same.refl F, fun p o h n => ⟨h, id, fun ⟨j, sl, es, h1, h2, h3⟩ => ?_⟩, fun _ h => h, fun j ds h => ?_, ⟨r.sub, by rw [List.length_set, List.length_set]; exact r.len, fun j d' h => ?_, fun j sl ds h1 h2 => ?_, fun a b sl sl' ds ds' h1 h2 h3 h4 h5 => ?_⟩⟩
  · obtain ⟨hj, h1⟩ := off h1 h2
    rw [get j hj] at h3
    exact n ⟨j, sl, es, h1, h2, h3⟩
  · have hj : j ≠ i := fun z => nb ds (z ▸ h)
    exact ⟨⟨ds, by rw [lookSet, if_neg hj]; exact h⟩, get j hj⟩
  · rw [lookSet] at h
    by_cases hj : j = i
    · rw [if_pos hj, if_pos hl] at h
      injection h with h; injection h with h; subst h
      exact ⟨v, by rw [hj, List.getElem?_set_self hl'], hd⟩
    · rw [if_neg hj] at h
      obtain ⟨u, e, q⟩ := r.dat j d' h
      exact ⟨u, by rw [get j hj]; exact e, q⟩
  · obtain ⟨hj, h1⟩ := off h1 h2
    obtain ⟨p, vs, e, f, hp, q⟩ := r.cell j sl ds h1 h2
    exact ⟨p, vs, by rw [get j hj]; exact e, f, hp, q⟩
  · obtain ⟨ha, h1⟩ := off h1 h2
    obtain ⟨hb, h3⟩ := off h3 h4
    rw [get a ha, get b hb] at h5
    exact r.inj a b sl sl' ds ds' h1 h2 h3 h4 h5
/-- a list that nobody holds comes to a slot -/
theorem Rel.setO (r : Rel K F H σ ρ) {i : Nat} {p : Addr} {vs : List V} {ds : List Dt} (f : F p = Option.none) (hp : H p = some (.lst vs)) (q : DpAll K F vs ds) (n : ¬ Own σ ρ p) (hl : i < ρ.length) : Rel K F H (σ.set i (some (.ref p))) (ρ.set i (.own ds)) := by
  have hl' : i < σ.length := by rw [r.len]; exact hl
  have get : ∀ j, j ≠ i → (σ.set i (some (V.ref p)))[j]? = σ[j]? := fun j hj => List.getElem?_set_ne (Ne.symm hj)
  have self : (σ.set i (some (V.ref p)))[i]? = some (some (V.ref p)) := List.getElem?_set_self hl'
  refine ⟨r.sub, by rw [List.length_set, List.length_set]; exact r.len, fun j d' h => ?_, fun j sl es h1 h2 => ?_, fun a b sl sl' es es' h1 h2 h3 h4 h5 => ?_⟩
  · rw [lookSet] at h
    by_cases hj : j = i
    · rw [if_pos hj, if_pos hl] at h; injection h with h; cases h
    · rw [if_neg hj] at h
      obtain ⟨u, e, q⟩ := r.dat j d' h
      exact ⟨u, by rw [get j hj]; exact e, q⟩
  · rw [lookSet] at h1
    by_cases hj : j = i
    · rw [if_pos hj, if_pos hl] at h1
      injection h1 with h1; subst h1
      injection h2 with h2; subst h2
      exact ⟨p, vs, by rw [hj]; exact self, f, hp, q⟩
    · rw [if_neg hj] at h1
      obtain ⟨p', vs', e, f', hp', q'⟩ := r.cell j sl es h1 h2
      exact ⟨p', vs', by rw [get j hj]; exact e, f', hp', q'⟩
  · rw [lookSet] at h1 h3
    by_cases ha : a = i
    · by_cases hb : b = i
      · rw [ha, hb]
      · rw [if_neg hb] at h3
        rw [ha, self, get b hb] at h5
        exact absurd ⟨b, sl', es', h3, h4, h5.symm⟩ n
    · rw [if_neg ha] at h1
      by_cases hb : b = i
      · rw [hb, self, get a ha] at h5
        exact absurd ⟨a, sl, es, h1, h2, h5⟩ n
      · rw [if_neg hb] at h3
        rw [get a ha, get b hb] at h5
        exact r.inj a b sl sl' es es' h1 h2 h3 h4 h5
theorem cellAt_some {i : Nat} {ds : List Dt} (h : cellAt ρ i = some ds) : ∃ sl : Sl, ρ[i]? = some sl ∧ sl.cell = some ds := by
  unfold cellAt at h
  cases e : ρ[i]? with
  | none => rw [e] at h; cases h
  | some s => rw [e] at h; exact ⟨s, rfl, h⟩
theorem withCell_cell {sl : Sl} {ds es : List Dt} (h : sl.cell = some ds) : (sl.withCell es).cell = some es := by
  cases sl <;> first | (cases h; done) | rfl
/-- a list that a slot alone holds is changed -/
theorem Rel.putCell (r : Rel K F H σ ρ) {i : Nat} {ds es : List Dt} {ws : List V} (h : cellAt ρ i = some ds) (q : DpAll K F ws es) :
    ∃ p vs, σ[i]? = some (some (V.ref p)) ∧ H p = some (.lst vs) ∧ DpAll K F vs ds ∧ Go K F H σ ρ F (upd H p (.lst ws)) σ (putCell ρ i es) := by
  obtain ⟨sl, h1, h2⟩ := cellAt_some h
  obtain ⟨p, vs, e, f, hp, qv⟩ := r.cell i sl ds h1 h2
  have hl : i < ρ.length := (List.getElem?_eq_some_iff.mp h1).1
  have ep : DL.putCell ρ i es = ρ.set i (sl.withCell es) := by unfold DL.putCell; rw [h1]
  have off : ∀ {j : Nat} {sl' : Sl} {fs : List Dt}, (DL.putCell ρ i es)[j]? = some sl' → sl'.cell = some fs → ∃ sl2 fs2, ρ[j]? = some sl2 ∧ sl2.cell = some fs2 ∧ (j ≠ i → sl2 = sl' ∧ fs2 = fs) ∧ (j = i → fs = es) := fun {j sl' fs} k1 k2 => by
    rw [ep, lookSet] at k1
    by_cases hj : j = i
    · rw [if_pos hj, if_pos hl] at k1
      injection k1 with k1; subst k1
      rw [withCell_cell h2] at k2
      injection k2 with k2
      exact ⟨sl, ds, by rw [hj]; exact h1, h2, fun z => absurd hj z, fun _ => k2.symm⟩
    · rw [if_neg hj] at k1
      exact ⟨sl', fs, k1, k2, fun _ => ⟨rfl, rfl⟩, fun z => absurd z hj⟩
  refine ⟨p, vs, e, hp, qv, ⟨Same.refl F, fun b o hb n => ?_, fun b hb => ?_, fun j fs hj => ?_, ⟨fun b u hb => ?_, by rw [ep, List.length_set]; exact r.len, fun j d hj => ?_, fun j sl' fs k1 k2 => ?_, fun a b sl1 sl2 fs gs k1 k2 k3 k4 k5 => ?_⟩⟩⟩
  · have hne : b ≠ p := fun z => n ⟨i, sl, ds, h1, h2, by rw [z]; exact e⟩
    refine ⟨by rw [upd_ne hne]; exact hb, id, fun ⟨j, sl', fs, k1, k2, k3⟩ => ?_⟩
    obtain ⟨sl2, fs2, k4, k5, _⟩ := off k1 k2
    exact n ⟨j, sl2, fs2, k4, k5, k3⟩
  · by_cases z : b = p
    · rw [z, upd_same] at hb; cases hb
    · rw [upd_ne z] at hb; exact hb
  · rw [ep]
    by_cases z : j = i
    · subst z
      rw [hj] at h1
      injection h1 with h1; subst h1
      exact ⟨⟨es, by rw [lookSet, if_pos rfl, if_pos hl]; rfl⟩, rfl⟩
    · exact ⟨⟨fs, by rw [lookSet, if_neg z]; exact hj⟩, rfl⟩
  · have hne : b ≠ p := fun z => by rw [z, f] at hb; cases hb
    rw [upd_ne hne]; exact r.sub b u hb
  · rw [ep, lookSet] at hj
    by_cases z : j = i
    · rw [if_pos z, if_pos hl] at hj
      injection hj with hj
      cases sl with
      | un => cases h2
      | dat _ => cases h2
      | own _ => cases hj
      | bor _ => cases hj
    · rw [if_neg z] at hj; exact r.dat j d hj
  · obtain ⟨sl2, fs2, k4, k5, k6, k7⟩ := off k1 k2
    obtain ⟨p', vs', e', f', hp', q'⟩ := r.cell j sl2 fs2 k4 k5
    by_cases z : j = i
    · have ee := k7 z
      subst ee
      have e3 : p' = p := by
        rw [z, e] at e'
        injection e' with e'; injection e' with e'; injection e' with e'
        exact e'.symm
      exact ⟨p, ws, by rw [z]; exact e, f, upd_same, q⟩
    · obtain ⟨rfl, rfl⟩ := k6 z
      have hne : p' ≠ p := fun y => z (r.inj j i _ sl _ ds k4 k5 h1 h2 (by rw [e', e, y]))
      exact ⟨p', vs', e', f', by rw [upd_ne hne]; exact hp', q'⟩
  · obtain ⟨s1, g1, a1, a2, _⟩ := off k1 k2
    obtain ⟨s2, g2, b1, b2, _⟩ := off k3 k4
    exact r.inj a b s1 s2 g1 g2 a1 a2 b1 b2 k5
end
section
variable {P : Program} {w : World} {K : Frg} {mg : Str → Option Value} {base : Heap} {k : Nat} {M : Fam P w K mg base k} {st : Stmt} {sts : List Stmt} {e : Expr} {fe : EF} {f g : SF} {pos : Pos}

/-! ### the rules -/
theorem dss_nil : DSs M [] sNil := ⟨tNext, fun _ => pss_nil, fun F H σ ρ o D hf r t => by
  injection hf with hf; subst hf
  exact t F H σ (Go.refl r)⟩
theorem refSeq {t u : TS} (ht : RefS K t f) (hu : RefS K u g) : RefS K (tSeq t u) (sSeq f g) := by
  intro F H σ ρ o D hf r tk
  obtain ⟨o1, h1, h2⟩ := Option.bind_eq_some_iff.mp hf
  refine ht F H σ ρ o1 _ h1 r ?_
  cases o1 with
  | nx ρ1 => exact fun F1 H1 σ1 g1 => hu F1 H1 σ1 ρ1 o D h2 g1.rel (tk.later r g1)
  | ret d ρ1 => injection h2 with h2; subst h2; exact tk
  | retO ds ρ1 => injection h2 with h2; subst h2; exact tk
  | bk ρ1 => injection h2 with h2; subst h2; exact tk
  | ct ρ1 => injection h2 with h2; subst h2; exact tk
theorem dss_cons (h1 : DS M st f) (h2 : DSs M sts g) : DSs M (st :: sts) (sSeq f g) := by
  obtain ⟨t, a1, a2⟩ := h1
  obtain ⟨u, b1, b2⟩ := h2
  exact ⟨_, fun j => pss_cons (a1 j) (b1 j), refSeq a2 b2⟩
theorem dss_one (h1 : DS M st f) : DSs M [st] f := let ⟨t, a1, a2⟩ := h1; ⟨t, fun j => pss_one (a1 j), a2⟩
/-- nothing that follows is reached -/
theorem dss_end (h1 : DS M st f) (hf : ∀ ρ ρ1, f ρ ≠ some (.nx ρ1)) : DSs M (st :: sts) f := by
  obtain ⟨t, a1, a2⟩ := h1
  refine ⟨_, fun j => pss_cons (a1 j) pss_never, fun F H σ ρ o D h r tk => a2 F H σ ρ o _ h r ?_⟩
  cases o with
  | nx ρ1 => exact absurd h (hf ρ ρ1)
  | ret d ρ1 => exact tk
  | retO ds ρ1 => exact tk
  | bk ρ1 => exact tk
  | ct ρ1 => exact tk
theorem ds_never : DS M st sNever := ⟨_, fun _ => ps_never, fun F H σ ρ o D h r tk => by cases h⟩
theorem dss_never : DSs M sts sNever := ⟨_, fun _ => pss_never, fun F H σ ρ o D h r tk => by cases h⟩
theorem ds_pass : DS M (.Pass pos) sNil := ⟨tNext, fun _ => ps_pass, fun F H σ ρ o D hf r t => by
  injection hf with hf; subst hf
  exact t F H σ (Go.refl r)⟩
theorem ds_break : DS M (.Break pos) sBreak := ⟨tBreak, fun _ => ps_break, fun F H σ ρ o D hf r t => by
  injection hf with hf; subst hf
  exact t F H σ (Go.refl r)⟩
theorem ds_continue : DS M (.Continue pos) sCont := ⟨tCont, fun _ => ps_continue, fun F H σ ρ o D hf r t => by
  injection hf with hf; subst hf
  exact t F H σ (Go.refl r)⟩
theorem ds_expr (he : DE M e fe) (hs : ∀ j, swapsWith e none pos.line (M.X j).env = pure false := by intro _; rfl) : DS M (.Expr e pos) (sDrop fe) := by
  obtain ⟨t, a1, a2⟩ := he
  refine ⟨_, fun j => ps_expr (a1 j) (hs j), fun F H σ ρ o D hf r tk => ?_⟩
  obtain ⟨⟨d, ρ1⟩, h1, h2⟩ := Option.map_eq_some_iff.mp hf
  subst h2
  exact a2 F H σ ρ d ρ1 _ h1 r fun v F1 H1 g1 hd => tk F1 H1 σ g1
theorem ds_ret (he : DE M e fe) : DS M (.Return (some e) pos) (sRet fe) := by
  obtain ⟨t, a1, a2⟩ := he
  refine ⟨_, fun j => ps_ret (a1 j), fun F H σ ρ o D hf r tk => ?_⟩
  obtain ⟨⟨d, ρ1⟩, h1, h2⟩ := Option.map_eq_some_iff.mp hf
  subst h2
  exact a2 F H σ ρ d ρ1 _ h1 r fun v F1 H1 g1 hd => tk v F1 H1 σ g1 hd
theorem ds_retO {fo : AF} (he : DO M e fo) : DS M (.Return (some e) pos) (sRetO fo) := by
  obtain ⟨t, a1, a2⟩ := he
  refine ⟨_, fun j => ps_ret (a1 j), fun F H σ ρ o D hf r tk => ?_⟩
  obtain ⟨⟨d, ρ1⟩, h1, h2⟩ := Option.map_eq_some_iff.mp hf
  subst h2
  exact a2 F H σ ρ d ρ1 _ h1 r fun p vs F1 H1 g1 hp f1 h1 q n => tk p vs F1 H1 σ g1 (.inl hp) f1 h1 q n
theorem ds_retN : DS M (.Return Option.none pos) sRetN := ⟨_, fun _ => ps_retN, fun F H σ ρ o D hf r tk => by
  injection hf with hf; subst hf
  exact tk _ F H σ (Go.refl r) .non⟩
theorem ds_if {c : Expr} {a b : List Stmt} {fc : TF} (hc : DTe M c fc) (ha : DSs M a f) (hb : DSs M b g) : DS M (.If c a b pos) (sIf fc f g) := by
  obtain ⟨t, a1, a2⟩ := hc
  obtain ⟨u, b1, b2⟩ := ha
  obtain ⟨v, c1, c2⟩ := hb
  refine ⟨_, fun j => ps_if (a1 j) (b1 j) (c1 j), fun F H σ ρ o D hf r tk => ?_⟩
  obtain ⟨⟨x, ρ1⟩, h1, h2⟩ := Option.bind_eq_some_iff.mp hf
  refine a2 F H σ ρ x ρ1 _ h1 r fun F1 H1 g1 => ?_
  cases x with
  | true => exact iteT (b2 F1 H1 σ ρ1 o D h2 g1.rel (tk.later r g1))
  | false => exact iteF (c2 F1 H1 σ ρ1 o D h2 g1.rel (tk.later r g1))
theorem ds_while (n : Nat) {c : Expr} {body : List Stmt} {fc : TF} (hc : DTe M c fc) (hb : DSs M body f) (hp : ∀ j, PassesOwn (model (M.X j).prog (M.X j).w) (M.X j).A (M.X j).env (M.X j).xe := by intro _; exact PassesOwn.never) : DS M (.While c body [] pos) (sWhile fc f n) := by
  obtain ⟨t, a1, a2⟩ := hc
  obtain ⟨u, b1, b2⟩ := hb
  refine ⟨_, fun j => ps_while (hp j) (a1 j) (b1 j), fun F H σ ρ o D hf r tk => ?_⟩
  refine ⟨fun m σ H => ∃ F ρ, sWhile fc f m ρ = some o ∧ Rel K F H σ ρ ∧ Takes K D F H σ ρ o, ⟨n, F, ρ, hf, r, tk⟩, fun m σ H ⟨F, ρ, hf, r, tk⟩ => ?_⟩
  cases m with
  | zero => cases hf
  | succ m =>
    obtain ⟨⟨x, ρ1⟩, h1, h2⟩ := Option.bind_eq_some_iff.mp hf
    refine a2 F H σ ρ x ρ1 _ h1 r fun F1 H1 g1 => ?_
    cases x with
    | false =>
      have h3 : some (Out.nx ρ1) = some o := h2
      injection h3 with h3; subst h3
      exact iteF (tk F1 H1 σ g1)
    | true =>
      refine iteT ⟨fun σ H => ∃ F ρ, sWhile fc f m ρ = some o ∧ Rel K F H σ ρ ∧ Takes K D F H σ ρ o, fun σ' H' q => ⟨m, Nat.lt_succ_self m, q⟩, ?_⟩
      obtain ⟨o2, h3, h4⟩ := Option.bind_eq_some_iff.mp (show (f ρ1).bind _ = some o from h2)
      refine b2 F1 H1 σ ρ1 o2 _ h3 g1.rel ?_
      cases o2 with
      | nx ρ2 => exact fun F2 H2 σ2 g2 => ⟨F2, ρ2, h4, g2.rel, (tk.later r g1).later g1.rel g2⟩
      | ct ρ2 => exact fun F2 H2 σ2 g2 => ⟨F2, ρ2, h4, g2.rel, (tk.later r g1).later g1.rel g2⟩
      | bk ρ2 =>
        injection h4 with h4; subst h4
        exact fun F2 H2 σ2 g2 => tk F2 H2 σ2 (g1.trans g2)
      | ret d ρ2 => injection h4 with h4; subst h4; exact tk.later r g1
      | retO d ρ2 => injection h4 with h4; subst h4; exact tk.later r g1
/-! ### targets -/
def RefG (K : Frg) (vs : List Nat) (t : TG) (g : GF) : Prop := ∀ (F H : Hp) (σ : St) (ρ : En) (v : V) (d : Dt) (ρ' : En) (Q : St → Hp → Prop), g d ρ = some ρ' → Rel K F H σ ρ → Dp K F v d →
  (∀ F' H' σ', Go K F H σ ρ F' H' σ' ρ' → wipe σ' vs = wipe σ vs → Q σ' H') → t v σ H Q
def RefGs (K : Frg) (vs : List Nat) (t : TGs) (gs : List GF) : Prop := ∀ (F H : Hp) (σ : St) (ρ : En) (xs : List V) (ds : List Dt) (ρ' : En) (Q : St → Hp → Prop), gTps gs ds ρ = some ρ' → Rel K F H σ ρ → DpAll K F xs ds →
  (∀ F' H' σ', Go K F H σ ρ F' H' σ' ρ' → wipe σ' vs = wipe σ vs → Q σ' H') → t xs σ H Q
variable (M) in
def DG (tg : Expr) (vs : List Nat) (g : GF) : Prop := ∃ t : TG, (∀ i, PG (M.X i) tg t) ∧ RefG K vs t g
variable (M) in
def DGs (tgs : List Expr) (vs : List Nat) (gs : List GF) : Prop := ∃ t : TGs, (∀ i, PGs (M.X i) tgs t) ∧ RefGs K vs t gs
theorem wipe_set {σ : St} {i : Nat} {x : Option V} : ∀ {vs : List Nat}, i ∈ vs → wipe (σ.set i x) vs = wipe σ vs := by
  intro vs h
  refine List.ext_getElem? fun j => ?_
  have hlen : (wipe (σ.set i x) vs).length = (wipe σ vs).length := by rw [wipe_length, wipe_length, List.length_set]
  by_cases hj : j ∈ vs
  · have wn : ∀ (τ : St) (us : List Nat), j ∈ us → (wipe τ us)[j]? = if j < τ.length then some Option.none else Option.none := by
      intro τ us
      induction us with
      | nil => intro z; cases z
      | cons u us ih =>
        intro z
        unfold wipe
        by_cases hu : j = u
        · subst hu
          by_cases hl : j < τ.length
          · rw [if_pos hl, List.getElem?_set_self (by rw [wipe_length]; exact hl)]
          · rw [if_neg hl, List.getElem?_eq_none (by rw [List.length_set, wipe_length]; omega)]
        · rw [List.getElem?_set_ne (Ne.symm hu)]
          rcases List.mem_cons.mp z with z | z
          · exact absurd z hu
          · exact ih z
    rw [wn _ _ hj, wn _ _ hj, List.length_set]
  · rw [wipe_out hj, wipe_out hj, List.getElem?_set_ne (fun z : i = j => hj (z ▸ h))]
theorem wipe_more {σ σ' : St} {us vs : List Nat} (hs : ∀ i ∈ us, i ∈ vs) (h : wipe σ' us = wipe σ us) : wipe σ' vs = wipe σ vs := by
  have hl : σ'.length = σ.length := by
    have := congrArg List.length h
    rw [wipe_length, wipe_length] at this
    exact this
  refine List.ext_getElem? fun j => ?_
  by_cases hj : j ∈ vs
  · have wn : ∀ (τ : St) (us : List Nat), j ∈ us → (wipe τ us)[j]? = if j < τ.length then some Option.none else Option.none := by
      intro τ us
      induction us with
      | nil => intro z; cases z
      | cons u us ih =>
        intro z
        unfold wipe
        by_cases hu : j = u
        · subst hu
          by_cases hl : j < τ.length
          · rw [if_pos hl, List.getElem?_set_self (by rw [wipe_length]; exact hl)]
          · rw [if_neg hl, List.getElem?_eq_none (by rw [List.length_set, wipe_length]; omega)]
        · rw [List.getElem?_set_ne (Ne.symm hu)]
          rcases List.mem_cons.mp z with z | z
          · exact absurd z hu
          · exact ih z
    rw [wn _ _ hj, wn _ _ hj, hl]
  · have e := congrArg (fun l => l[j]?) h
    rw [wipe_out hj, wipe_out hj]
    have hju : j ∉ us := fun z => hj (hs j z)
    rw [← wipe_out (σ := σ') hju, ← wipe_out (σ := σ) hju]
    exact e
theorem dg_name (i : Nat) {x : Str} (nd : ∀ j, (M.X j).N.Nodup) (hi : ∀ j, (M.X j).N[i]? = some x := by intro _; rfl) (hx : ∀ j, Loc (M.X j).env.scope x := by intro _; first | exact Or.inl rfl | exact Or.inr rfl)
    (hf : ∀ j, (M.X j).fn x = true ∨ (M.X j).env.scope.names.lookup x = some .local := by intro _; first | exact .inl rfl | exact .inr rfl) : DG M (.Name x pos) [i] (gNm i) := by
  refine ⟨gName i, fun j => pg_name (nd j) (hi j) (hx j) (hf j), fun F H σ ρ v d ρ' Q h r hd q => ?_⟩
  obtain ⟨rfl, hl, nb⟩ := putSl_some h
  exact q F H _ (r.set hd hl nb) (wipe_set (by simp))
theorem dgs_nil : DGs M [] [] [] := by
  refine ⟨gNil, fun _ => pgs_nil, fun F H σ ρ xs ds ρ' Q h r hd q => ?_⟩
  cases hd with
  | nil =>
    injection h with h; subst h
    exact ⟨rfl, q F H σ (Go.refl r) rfl⟩
  | cons _ _ => cases h
theorem dgs_cons {es : List Expr} {us vs : List Nat} {g : GF} {gs : List GF} (h1 : DG M e us g) (h2 : DGs M es vs gs)
    (hs : ∀ j, (assignEach (e :: es) (M.X j).env).map (·.2) = assign e (M.X j).env :: (assignEach es (M.X j).env).map (·.2) := by intro _; rfl) : DGs M (e :: es) (us ++ vs) (g :: gs) := by
  obtain ⟨t, a1, a2⟩ := h1
  obtain ⟨u, b1, b2⟩ := h2
  refine ⟨gCons t u, fun j => pgs_cons (a1 j) (b1 j) (hs j), fun F H σ ρ xs ds ρ' Q h r hd q => ?_⟩
  cases hd with
  | nil => cases h
  | cons hx hr =>
    obtain ⟨ρ1, k1, k2⟩ := Option.bind_eq_some_iff.mp h
    refine ⟨_, _, rfl, a2 F H σ ρ _ _ ρ1 _ k1 r hx fun F1 H1 σ1 g1 w1 => ?_⟩
    refine b2 F1 H1 σ1 ρ1 _ _ ρ' Q k2 g1.rel (hr.mono g1.ext) fun F2 H2 σ2 g2 w2 => q F2 H2 σ2 (g1.trans g2) ?_
    exact (wipe_more (fun i hi => List.mem_append_right _ hi) w2).trans (wipe_more (fun i hi => List.mem_append_left _ hi) w1)
theorem dg_tup {es : List Expr} {x1 : Nat} {vs : List Nat} {gs : List GF} (h : DGs M es vs gs) (hl : gs.length = es.length := by rfl)
    (hn : ∀ j, (assignEach es (M.X j).env).length = es.length := by intro _; rfl) (hst : ∀ j, (assignEach es (M.X j).env).findIdx? (·.1) = Option.none := by intro _; rfl) : DG M (.Tuple es x1 pos) vs (gTu gs) := by
  obtain ⟨t, a1, a2⟩ := h
  refine ⟨gTup K es.length t, fun j => by have z := pg_tup (pos := pos) (k := x1) (M.calm j) (a1 j) (hn j) (hst j); rw [M.K j] at z; exact z, fun F H σ ρ v d ρ' Q h r hd q => ?_⟩
  cases hd with
  | tup hs ha =>
    rename_i a xs ds
    refine ⟨a, xs, rfl, seqT r.sub hs, ?_, a2 F H σ ρ xs ds ρ' Q h r ha q⟩
    have len : ∀ (gs : List GF) (ds : List Dt) (ρ ρ' : En), gTps gs ds ρ = some ρ' → ds.length = gs.length := by
      intro gs
      induction gs with
      | nil => intro ds ρ ρ' z; cases ds with
        | nil => rfl
        | cons _ _ => cases z
      | cons g gs ih => intro ds ρ ρ' z; cases ds with
        | nil => cases z
        | cons d ds =>
          obtain ⟨ρ1, _, k2⟩ := Option.bind_eq_some_iff.mp z
          rw [List.length_cons, List.length_cons, ih ds ρ1 ρ' k2]
    rw [dpLen ha, len gs ds ρ ρ' h, hl]
  | non => cases h
  | bl _ => cases h
  | int _ => cases h
  | str _ => cases h
  | lst _ _ => cases h
  | ro _ _ => cases h
theorem ds_asg {tg : Expr} {vs : List Nat} {g : GF} (he : DE M e fe) (hg : DG M tg vs g) (hs : ∀ j, swapsWithSole [tg] e pos.line (M.X j).env = pure false := by intro _; rfl) (hw : ∀ j, swappedStores [tg] e (M.X j).env = pure Option.none := by intro _; rfl)
    (h1 : ∀ j, (assignEach [tg] (M.X j).env).map (·.2) = [assign tg (M.X j).env] := by intro _; rfl) : DS M (.Assign [tg] e pos) (sAsg fe g) := by
  obtain ⟨t, a1, a2⟩ := he
  obtain ⟨u, b1, b2⟩ := hg
  refine ⟨_, fun j => ps_asg (a1 j) (b1 j) (hs j) (hw j) (h1 j), fun F H σ ρ o D hf r tk => ?_⟩
  obtain ⟨⟨d, ρ1⟩, k1, k2⟩ := Option.bind_eq_some_iff.mp hf
  obtain ⟨ρ2, k3, k4⟩ := Option.map_eq_some_iff.mp k2
  subst k4
  refine a2 F H σ ρ d ρ1 _ k1 r fun v F1 H1 g1 hd => ?_
  exact b2 F1 H1 σ ρ1 v d ρ2 _ k3 g1.rel hd fun F2 H2 σ2 g2 _ => tk F2 H2 σ2 (g1.trans g2)
theorem ds_set (i : Nat) {x : Str} {pos' : Pos} (nd : ∀ j, (M.X j).N.Nodup) (he : DE M e fe) (hi : ∀ j, (M.X j).N[i]? = some x := by intro _; rfl) (hx : ∀ j, Loc (M.X j).env.scope x := by intro _; first | exact Or.inl rfl | exact Or.inr rfl)
    (hs : ∀ j, swapsWith e (some (.Name x pos')) pos.line (M.X j).env = pure false := by intro _; rfl) (hf : ∀ j, (M.X j).fn x = true ∨ (M.X j).env.scope.names.lookup x = some .local := by intro _; first | exact .inl rfl | exact .inr rfl) :
    DS M (.Assign [.Name x pos'] e pos) (sSet i fe) := by
  obtain ⟨t, a1, a2⟩ := he
  refine ⟨_, fun j => ps_set (nd j) (hi j) (hx j) (a1 j) (hs j) (hf j), fun F H σ ρ o D hf r tk => ?_⟩
  obtain ⟨⟨d, ρ1⟩, k1, k2⟩ := Option.bind_eq_some_iff.mp hf
  obtain ⟨ρ2, k3, k4⟩ := Option.map_eq_some_iff.mp k2
  subst k4
  refine a2 F H σ ρ d ρ1 _ k1 r fun v F1 H1 g1 hd => ?_
  obtain ⟨rfl, hl, nb⟩ := putSl_some k3
  exact tk F1 H1 _ (g1.trans (g1.rel.set hd hl nb))
theorem Go.setO {F H F1 H1 : Hp} {σ : St} {ρ ρ1 : En} {i : Nat} {p : Addr} {vs : List V} {ds : List Dt} (g1 : Go K F H σ ρ F1 H1 σ ρ1) (hp : H p = Option.none) (f1 : F1 p = Option.none) (h1 : H1 p = some (.lst vs)) (q : DpAll K F1 vs ds) (n : ¬ Own σ ρ1 p) (hl : i < ρ1.length)
    (nb : ∀ ds : List Dt, ρ1[i]? ≠ some (Sl.bor ds)) : Go K F H σ ρ F1 H1 (σ.set i (some (.ref p))) (ρ1.set i (.own ds)) := by
  refine ⟨g1.ext, fun b o hb nb' => ?_, g1.stay, fun j es hj => ?_, g1.rel.setO f1 h1 q n hl⟩
  · obtain ⟨a1, a2, a3⟩ := g1.keep b o hb nb'
    refine ⟨a1, a2, fun ⟨j, sl, es, k1, k2, k3⟩ => ?_⟩
    rw [lookSet] at k1
    by_cases hj : j = i
    · subst hj
      rw [List.getElem?_set_self (by rw [g1.rel.len]; exact hl)] at k3
      injection k3 with k3; injection k3 with k3; injection k3 with k3
      rw [k3, hb] at hp; cases hp
    · rw [if_neg hj] at k1
      rw [List.getElem?_set_ne (Ne.symm hj)] at k3
      exact a3 ⟨j, sl, es, k1, k2, k3⟩
  · obtain ⟨⟨es', k1⟩, k2⟩ := g1.bor j es hj
    have hji : j ≠ i := fun z => nb es' (z ▸ k1)
    exact ⟨⟨es', by rw [lookSet, if_neg hji]; exact k1⟩, by exact (List.getElem?_set_ne (Ne.symm hji)).trans k2⟩
theorem ds_setO (i : Nat) {x : Str} {pos' : Pos} {fo : AF} (nd : ∀ j, (M.X j).N.Nodup) (he : DO M e fo) (hi : ∀ j, (M.X j).N[i]? = some x := by intro _; rfl) (hx : ∀ j, Loc (M.X j).env.scope x := by intro _; first | exact Or.inl rfl | exact Or.inr rfl)
    (hs : ∀ j, swapsWith e (some (.Name x pos')) pos.line (M.X j).env = pure false := by intro _; rfl) (hf : ∀ j, (M.X j).fn x = true ∨ (M.X j).env.scope.names.lookup x = some .local := by intro _; first | exact .inl rfl | exact .inr rfl) :
    DS M (.Assign [.Name x pos'] e pos) (sSetO i fo) := by
  obtain ⟨t, a1, a2⟩ := he
  refine ⟨_, fun j => ps_set (nd j) (hi j) (hx j) (a1 j) (hs j) (hf j), fun F H σ ρ o D hf r tk => ?_⟩
  obtain ⟨⟨ds, ρ1⟩, k1, k2⟩ := Option.bind_eq_some_iff.mp hf
  obtain ⟨ρ2, k3, k4⟩ := Option.map_eq_some_iff.mp k2
  subst k4
  refine a2 F H σ ρ ds ρ1 _ k1 r fun p vs F1 H1 g1 hp f1 h1 q n => ?_
  obtain ⟨rfl, hl, nb⟩ := putSl_some k3
  exact tk F1 H1 _ (g1.setO hp f1 h1 q n hl nb)
theorem ds_par (i j : Nat) {x y : Str} {a b : Expr} {f : AF} {px py pt : Pos} {kt k2 pt2} (nd : ∀ l, (M.X l).N.Nodup) (hij : i ≠ j) (ha : DA M [a, b] f) (hi : ∀ l, (M.X l).N[i]? = some x := by intro _; rfl) (hj : ∀ l, (M.X l).N[j]? = some y := by intro _; rfl)
    (hx : ∀ l, (M.X l).env.scope.names.lookup x = some .local := by intro _; rfl) (hy : ∀ l, (M.X l).env.scope.names.lookup y = some .local := by intro _; rfl)
    (hw : ∀ l, swappedStores [.Tuple [.Name x px, .Name y py] kt pt] (.Tuple [a, b] k2 pt2) (M.X l).env = pure (some [x, y]) := by intro _; rfl)
    (hs : ∀ l, swapsWithSole [.Tuple [.Name x px, .Name y py] kt pt] (.Tuple [a, b] k2 pt2) pos.line (M.X l).env = pure false := by intro _; rfl) :
    DS M (.Assign [.Tuple [.Name x px, .Name y py] kt pt] (.Tuple [a, b] k2 pt2) pos) (sPar i j f) := by
  obtain ⟨t, a1, a2⟩ := ha
  refine ⟨_, fun l => ps_par (M.calm l) (nd l) (hi l) (hj l) hij (hx l) (hy l) (a1 l) (hw l) (hs l), fun F H σ ρ o D hf r tk => ?_⟩
  obtain ⟨⟨ds, ρ1⟩, k1, k2⟩ := Option.bind_eq_some_iff.mp hf
  refine a2 F H σ ρ ds ρ1 _ k1 r fun vs F1 H1 g1 hd => ?_
  cases hd with
  | nil => cases k2
  | cons h1 hd =>
    cases hd with
    | nil => cases k2
    | cons h2 hd =>
      cases hd with
      | cons _ _ => cases k2
      | nil =>
        obtain ⟨ρ2, k3, k2⟩ := Option.bind_eq_some_iff.mp k2
        obtain ⟨ρ3, k4, k5⟩ := Option.map_eq_some_iff.mp k2
        subst k5
        obtain ⟨rfl, hl, nb⟩ := putSl_some k3
        obtain ⟨rfl, hl2, nb2⟩ := putSl_some k4
        have g2 := g1.rel.set h1 hl nb
        exact ⟨_, _, rfl, tk F1 H1 _ ((g1.trans g2).trans (g2.rel.set h2 hl2 nb2))⟩
/-! ### lists that a slot alone holds -/
theorem refCellIx {i : Nat} {te : TE} (h : RefE K te fe) : RefE K (tOp (rIxL K) (tVar i) te) (eCellIx i fe) := by
  intro F H σ ρ d ρ' Q hf r q
  obtain ⟨ds0, k0, hf⟩ := Option.bind_eq_some_iff.mp hf
  obtain ⟨⟨di, ρ1⟩, k1, hf⟩ := Option.bind_eq_some_iff.mp hf
  obtain ⟨sl, c1, c2⟩ := cellAt_some k0
  obtain ⟨p, vs, e, f, hp, qv⟩ := r.cell i sl ds0 c1 c2
  refine ⟨_, e, h F H σ ρ di ρ1 _ k1 r fun v F1 H1 g1 hd => ?_⟩
  cases di <;> first | (cases hf; done) | skip
  rename_i z
  obtain ⟨ds, k2, hf⟩ := Option.bind_eq_some_iff.mp hf
  obtain ⟨d2, k3, k4⟩ := Option.map_eq_some_iff.mp hf
  injection k4 with e1 e2
  subst e1; subst e2
  cases hd
  obtain ⟨sl2, c3, c4⟩ := cellAt_some k2
  obtain ⟨p2, vs2, e2, f2, hp2, qv2⟩ := g1.rel.cell i sl2 ds c3 c4
  have ep : p2 = p := by
    rw [e] at e2
    injection e2 with e2; injection e2 with e2; injection e2 with e2
    exact e2.symm
  subst ep
  unfold atI at k3
  obtain ⟨n, k5, k6⟩ := Option.bind_eq_some_iff.mp k3
  obtain ⟨u, k7, hu⟩ := dpGet qv2 k6
  refine ⟨p2, vs2, z, u, rfl, rfl, SqL.of hp2, ?_, q u F1 H1 g1 hu⟩
  unfold atI
  rw [dpLen qv2, k5]
  exact k7
theorem de_cellIx (i : Nat) {x : Str} {b : Expr} {p : Pos} (hb : DE M b fe) (hN : ∀ j, (M.X j).N[i]? = some x := by intro _; rfl) (hv : ∀ j, Vis (M.X j).env.scope x := by intro _; first | exact Or.inl rfl | exact Or.inr (Or.inl rfl) | exact Or.inr (Or.inr rfl))
    (hd : (x == ("__debug__" : Str)) = false := by decide) (hcd : (x == ("__classdict__" : Str)) = false := by decide) (hs : PlainIx b := by exact fun _ _ => rfl) : DE M (.Subscript (.Name x p) b pos) (eCellIx i fe) := by
  obtain ⟨t, a1, a2⟩ := hb
  exact ⟨tOp (rIxL K) (tVar i) t, fun j => by have z := pe_ix (pos := pos) ix_list (pe_var (pos := p) (hN j) (hv j) hd hcd) (a1 j) hs; rw [M.K j] at z; exact z, refCellIx a2⟩
theorem dg_cell (i : Nat) {x : Str} {b : Expr} {p : Pos} (hb : DE M b fe) (hN : ∀ j, (M.X j).N[i]? = some x := by intro _; rfl) (hv : ∀ j, Vis (M.X j).env.scope x := by intro _; first | exact Or.inl rfl | exact Or.inr (Or.inl rfl) | exact Or.inr (Or.inr rfl))
    (ha : ∀ j v, assign (.Subscript (.Name x p) b pos) (M.X j).env v = (do
      let ov ← holding [v] (eval (.Name x p) (M.X j).env)
      let iv ← holding [v, ov] (eval b (M.X j).env)
      standAt pos
      holding [v, ov, iv] (setItem ov iv v)
      release [v, ov, iv] []) := by intro _ _; rfl)
    (hd : (x == ("__debug__" : Str)) = false := by decide) (hcd : (x == ("__classdict__" : Str)) = false := by decide) : DG M (.Subscript (.Name x p) b pos) [] (gCell i fe) := by
  obtain ⟨t, a1, a2⟩ := hb
  refine ⟨_, fun j => pg_sub (pe_var (hN j) (hv j) hd hcd) (a1 j) set_list (ha j), fun F H σ ρ v d ρ' Q hf r hdv q => ?_⟩
  obtain ⟨ds0, k0, hf⟩ := Option.bind_eq_some_iff.mp hf
  obtain ⟨⟨di, ρ1⟩, k1, hf⟩ := Option.bind_eq_some_iff.mp hf
  obtain ⟨sl, c1, c2⟩ := cellAt_some k0
  obtain ⟨p, vs, e, f, hp, qv⟩ := r.cell i sl ds0 c1 c2
  refine ⟨_, e, a2 F H σ ρ di ρ1 _ k1 r fun u F1 H1 g1 hu => ?_⟩
  cases di <;> first | (cases hf; done) | skip
  rename_i z
  obtain ⟨ds, k2, hf⟩ := Option.bind_eq_some_iff.mp hf
  obtain ⟨n, k3, k4⟩ := Option.map_eq_some_iff.mp hf
  subst k4
  cases hu
  obtain ⟨sl2, c3, c4⟩ := cellAt_some k2
  obtain ⟨p2, vs2, e2, f2, hp2, qv2⟩ := g1.rel.cell i sl2 ds c3 c4
  have ep : p2 = p := by
    rw [e] at e2
    injection e2 with e2; injection e2 with e2; injection e2 with e2
    exact e2.symm
  subst ep
  obtain ⟨p3, vs3, e3, hp3, qv3, g2⟩ := g1.rel.putCell k2 (dpSet (hdv.mono g1.ext) n qv2)
  have ep : p3 = p2 := by
    rw [e] at e3
    injection e3 with e3; injection e3 with e3; injection e3 with e3
    exact e3.symm
  subst ep
  exact ⟨p3, vs2, z, n, rfl, rfl, hp2, by rw [dpLen qv2]; exact k3, q F1 _ σ (g1.trans g2) rfl⟩
theorem ds_append (i : Nat) {x : Str} {p apos cpos : Pos} (hb : DE M e fe) (hN : ∀ j, (M.X j).N[i]? = some x := by intro _; rfl) (hv : ∀ j, Vis (M.X j).env.scope x := by intro _; first | exact Or.inl rfl | exact Or.inr (Or.inl rfl) | exact Or.inr (Or.inr rfl))
    (hd : (x == ("__debug__" : Str)) = false := by decide) (hcd : (x == ("__classdict__" : Str)) = false := by decide)
    (hsw : ∀ j, swapsWith (.Call (.Attribute (.Name x p) "append" apos) [e] [] cpos) none pos.line (M.X j).env = pure false := by intro _; rfl)
    (hbase : ∀ j, attributeBase (.Name x p) "append" (M.X j).env (eval (.Name x p) (M.X j).env) = eval (.Name x p) (M.X j).env := by intro _; rfl)
    (hfew : ∀ j, ((backTo cpos (starEach [e] (M.X j).env)).all (fun x => !x.1) && (backToKw cpos (keywordEach [] (M.X j).env)).all (fun x => x.1.isSome)
      && decide (([e] : List Expr).length + ([] : List Keyword).length + (if ([] : List Keyword).isEmpty then 0 else 1) < 30)) = true := by intro _; rfl)
    (hline : (apos.endLine == cpos.line) = true := by rfl) (hs : ∀ j, starEach [e] (M.X j).env = (false, eval e (M.X j).env) :: starEach [] (M.X j).env := by intro _; rfl) (hplain : ∀ j, (backTo cpos (starEach [] (M.X j).env)).any (·.1) = false := by intro _; rfl) :
    DS M (.Expr (.Call (.Attribute (.Name x p) "append" apos) [e] [] cpos) pos) (sAppend i fe) := by
  obtain ⟨t, a1, a2⟩ := hb
  refine ⟨tDrop (tBM K "list" rAppend (tVar i) (tCons t tNil)), fun j => ps_expr (by have z := pe_bm (apos := apos) (cpos := cpos) PySem.F.plainAttrs_list PySem.F.slot_list_append PySem.F.type_list_append mt_append (pe_var (pos := p) (hN j) (hv j) hd hcd) (pa_cons (a1 j) pa_nil (hs j)) (hbase j) (hfew j) hline (hs j) (hplain j); rw [M.K j] at z; exact z) (hsw j), fun F H σ ρ o D hf r tk => ?_⟩
  obtain ⟨ds0, k0, hf⟩ := Option.bind_eq_some_iff.mp hf
  obtain ⟨⟨d, ρ1⟩, k1, hf⟩ := Option.bind_eq_some_iff.mp hf
  obtain ⟨ds, k2, hf⟩ := Option.bind_eq_some_iff.mp hf
  obtain ⟨sl, c1, c2⟩ := cellAt_some k0
  obtain ⟨p, vs, e, f, hp, qv⟩ := r.cell i sl ds0 c1 c2
  refine ⟨_, e, .inl ⟨rfl, _, SqL.of hp⟩, a2 F H σ ρ d ρ1 _ k1 r fun u F1 H1 g1 hu => ?_⟩
  obtain ⟨sl2, c3, c4⟩ := cellAt_some k2
  obtain ⟨p2, vs2, e2, f2, hp2, qv2⟩ := g1.rel.cell i sl2 ds c3 c4
  have ep : p2 = p := by
    rw [e] at e2
    injection e2 with e2; injection e2 with e2; injection e2 with e2
    exact e2.symm
  subst ep
  obtain ⟨p3, vs3, e3, hp3, qv3, g2⟩ := g1.rel.putCell k2 (dpApp qv2 (DpAll.cons hu .nil))
  have ep : p3 = p2 := by
    rw [e] at e3
    injection e3 with e3; injection e3 with e3; injection e3 with e3
    exact e3.symm
  subst ep
  by_cases hl : ds.length < sizeLine
  · rw [if_pos hl] at hf
    injection hf with hf; subst hf
    exact ⟨p3, vs2, u, rfl, rfl, hp2, by rw [dpLen qv2]; exact hl, tk F1 _ σ (g1.trans g2)⟩
  · rw [if_neg hl] at hf; cases hf
end
end DL

set_option Elab.async false
set_option linter.all false
set_option maxRecDepth 100000
set_option maxHeartbeats 4000000
namespace DL
open PySem PySem.Spec L2
open PyProof.Rows (envOfC)

/-! ### what a def promises: its function of data -/
/-- from data to data -/
def spF (K : Frg) (g : List Dt → Option Dt) : Sp := fun vs H Q _ => ∃ F ds d, Same F H ∧ DpAll K F vs ds ∧ g ds = some d ∧ ∀ v F' H', Grow F H F' H' → Dp K F' v d → Q v H'
/-- from data to a new list that nobody else holds -/
def spO (K : Frg) (g : List Dt → Option (List Dt)) : Sp := fun vs H Q _ => ∃ F ds es, Same F H ∧ DpAll K F vs ds ∧ g ds = some es ∧ ∀ p ws F' H', Grow F H F' H' → H p = Option.none → F' p = Option.none → H' p = some (.lst ws) → DpAll K F' ws es → Q (.ref p) H'
/-- the first argument is a list that the caller alone holds; it is changed -/
def spB (K : Frg) (g : List Dt → List Dt → Option (Dt × List Dt)) : Sp := fun vs H Q _ => ∃ F a us ws l ds d l', vs = .ref a :: us ∧ Same F H ∧ F a = Option.none ∧ H a = some (.lst ws) ∧ DpAll K F ws l ∧ DpAll K F us ds ∧ g l ds = some (d, l') ∧
  ∀ v F' H' ws', Same F F' → Same F' H' → (∀ p o, p ≠ a → H p = some o → H' p = some o ∧ (F p = Option.none → F' p = Option.none)) → F' a = Option.none → H' a = some (.lst ws') → DpAll K F' ws' l' → Dp K F' v d → Q v H'
def padE (N : Nat) (l : En) : En := l ++ List.replicate (N - l.length) Sl.un
def runF (n N : Nat) (g : SF) : List Dt → Option Dt := fun ds => if ds.length = n then match g (padE N (ds.map .dat)) with
  | some (.ret d _) => some d
  | some (.nx _) => some .none
  | _ => Option.none else Option.none
def runO (n N : Nat) (g : SF) : List Dt → Option (List Dt) := fun ds => if ds.length = n then match g (padE N (ds.map .dat)) with
  | some (.retO es _) => some es
  | _ => Option.none else Option.none
def runB (n N : Nat) (g : SF) : List Dt → List Dt → Option (Dt × List Dt) := fun l ds => if ds.length + 1 = n then match g (padE N (.bor l :: ds.map .dat)) with
  | some (.ret d ρ) => (cellAt ρ 0).map fun l' => (d, l')
  | some (.nx ρ) => (cellAt ρ 0).map fun l' => (.none, l')
  | _ => Option.none else Option.none
theorem runF_len {n N : Nat} {g : SF} {ds : List Dt} {d : Dt} (h : runF n N g ds = some d) : ds.length = n := by
  unfold runF at h
  by_cases e : ds.length = n
  · exact e
  · rw [if_neg e] at h; cases h
theorem runO_len {n N : Nat} {g : SF} {ds es : List Dt} (h : runO n N g ds = some es) : ds.length = n := by
  unfold runO at h
  by_cases e : ds.length = n
  · exact e
  · rw [if_neg e] at h; cases h
theorem runB_len {n N : Nat} {g : SF} {l ds : List Dt} {d : Dt × List Dt} (h : runB n N g l ds = some d) : ds.length + 1 = n := by
  unfold runB at h
  by_cases e : ds.length + 1 = n
  · exact e
  · rw [if_neg e] at h; cases h

/-! ### a def's body -/
section
variable (P : Program) (w : World) (K : Frg) (mg : Str → Option Value) (base : Heap)
structure BodyIx (k : Nat) (qual : Str) (st : Stmt) (f : Addr) (cdv : Value) where
  A : Around
  outer : List PySem.Env
  s : Shared
  H : Hp
  E : XK
  r : Room k (A.deeper (envOfC qual (defScope st) s.heap.objs.size f cdv))
@[reducible] def famOf (k : Nat) (N : List Str) (qual : Str) (st : Stmt) (f : Addr) (cdv : Value) : Fam P w K mg base k where
  ι := BodyIx k qual st f cdv
  X := fun i => (cxOf CX0 P w K mg base N qual (defScope st) f cdv i.A i.outer i.s i.H i.E).nox
  prog := fun _ => rfl
  wd := fun _ => rfl
  K := fun _ => rfl
  mg := fun _ => rfl
  base := fun _ => rfl
  calm := fun _ => rfl
  room := fun i => i.r
end
section
variable {P : Program} {w : World} {K : Frg} {mg : Str → Option Value} {base : Heap}
theorem startRel {F H : Hp} {N : List Str} {vs : List V} {ds : List Dt} (hs : Same F H) (q : DpAll K F vs ds) (hl : ds.length ≤ N.length) : Rel K F H (L2.start N vs) (padE N.length (ds.map .dat)) := by
  have hv := dpLen q
  have one : ∀ (i : Nat) (sl : Sl), (padE N.length (ds.map Sl.dat))[i]? = some sl → (∃ d, ds[i]? = some d ∧ sl = .dat d) ∨ sl = .un := fun i sl h => by
    unfold padE at h
    by_cases hi : i < (ds.map Sl.dat).length
    · rw [List.getElem?_append_left hi, List.getElem?_map] at h
      cases e : ds[i]? with
      | none => rw [e] at h; cases h
      | some d => rw [e] at h; injection h with h; exact .inl ⟨d, rfl, h.symm⟩
    · rw [List.getElem?_append_right (by omega)] at h
      obtain ⟨h1, h2⟩ := List.getElem?_eq_some_iff.mp h
      rw [List.getElem_replicate] at h2
      exact .inr h2.symm
  have nocell : ∀ (i : Nat) (sl : Sl) (es : List Dt), (padE N.length (ds.map Sl.dat))[i]? = some sl → sl.cell = some es → False := fun i sl es h1 h2 => by
    rcases one i sl h1 with ⟨d, _, rfl⟩ | rfl <;> cases h2
  refine ⟨hs, ?_, fun i d h => ?_, fun i sl es h1 h2 => (nocell i sl es h1 h2).elim, fun i j sl sl' es es' h1 h2 => (nocell i sl es h1 h2).elim⟩
  · unfold L2.start padE
    rw [List.length_append, List.length_append, List.length_map, List.length_map, List.length_replicate, List.length_replicate, hv]
  · rcases one i _ h with ⟨d', h1, h2⟩ | h2
    · injection h2 with h2; subst h2
      obtain ⟨v, h3, h4⟩ := dpGet q h1
      refine ⟨v, ?_, h4⟩
      unfold L2.start
      have hi : i < vs.length := (List.getElem?_eq_some_iff.mp h3).1
      rw [List.getElem?_append_left (by rw [List.length_map]; exact hi), List.getElem?_map, h3]
      rfl
    · cases h2
theorem fnF {x qual : Str} {st : Stmt} {f : Addr} {fd : FuncData} {N ps : List Str} {k : Nat} {g : SF} (Fn : Fun K x qual st f fd) (S : FnScope N ps (defScope st)) (hN : ps.length ≤ N.length)
    (hb : ∀ cdv, DSs (famOf P w K mg base k N qual st f cdv) (defBody st) g) : FnOk P w K mg base CX0 (k + 1) f fd ps (spF K (runF ps.length N.length g)) := by
  refine Fn.ok S (fun vs H Q E h => ?_) (fun cdv A outer s H vs Q E hr h => ?_)
  · obtain ⟨F, ds, d, _, q, e, _⟩ := h
    rw [dpLen q]; exact runF_len e
  · obtain ⟨F, ds, d, hs, q, e, hQ⟩ := h
    obtain ⟨t, b1, b2⟩ := hb cdv
    refine ⟨t, b1 ⟨A, outer, s, H, E, hr⟩, ?_⟩
    have hl := runF_len e
    have r : Rel K F H (L2.start N vs) (padE N.length (ds.map .dat)) := startRel hs q (by rw [hl]; exact hN)
    unfold runF at e
    rw [if_pos hl] at e
    have gr : ∀ {F' H' : Hp} {σ' : St} {ρ' : En}, Go K F H (L2.start N vs) (padE N.length (ds.map .dat)) F' H' σ' ρ' → Grow F H F' H' := fun {F' H' σ' ρ'} go => ⟨go.ext, go.rel.sub, fun p o hp => by
      have no : ¬ Own (L2.start N vs) (padE N.length (ds.map Sl.dat)) p := fun z => by
        obtain ⟨i, sl, es, h1, h2, _⟩ := z
        unfold padE at h1
        by_cases hi : i < (ds.map Sl.dat).length
        · rw [List.getElem?_append_left hi, List.getElem?_map] at h1
          cases e : ds[i]? with
          | none => rw [e] at h1; cases h1
          | some d => rw [e] at h1; injection h1 with h1; subst h1; cases h2
        · rw [List.getElem?_append_right (by omega)] at h1
          obtain ⟨_, h1⟩ := List.getElem?_eq_some_iff.mp h1
          rw [List.getElem_replicate] at h1
          subst h1; cases h2
      exact ⟨(go.keep p o hp no).1, (go.keep p o hp no).2.1⟩⟩
    cases e0 : g (padE N.length (ds.map Sl.dat)) with
    | none => rw [e0] at e; cases e
    | some o =>
      rw [e0] at e
      refine b2 F H _ _ o _ e0 r ?_
      cases o with
      | nx ρ' => injection e with e; subst e; exact fun F' H' σ' go => hQ _ F' H' (gr go) .non
      | ret d' ρ' => injection e with e; subst e; exact fun v F' H' σ' go hd => hQ v F' H' (gr go) hd
      | retO _ _ => cases e
      | bk _ => cases e
      | ct _ => cases e
theorem fnO {x qual : Str} {st : Stmt} {f : Addr} {fd : FuncData} {N ps : List Str} {k : Nat} {g : SF} (Fn : Fun K x qual st f fd) (S : FnScope N ps (defScope st)) (hN : ps.length ≤ N.length)
    (hb : ∀ cdv, DSs (famOf P w K mg base k N qual st f cdv) (defBody st) g) : FnOk P w K mg base CX0 (k + 1) f fd ps (spO K (runO ps.length N.length g)) := by
  refine Fn.ok S (fun vs H Q E h => ?_) (fun cdv A outer s H vs Q E hr h => ?_)
  · obtain ⟨F, ds, d, _, q, e, _⟩ := h
    rw [dpLen q]; exact runO_len e
  · obtain ⟨F, ds, d, hs, q, e, hQ⟩ := h
    obtain ⟨t, b1, b2⟩ := hb cdv
    refine ⟨t, b1 ⟨A, outer, s, H, E, hr⟩, ?_⟩
    have hl := runO_len e
    have r : Rel K F H (L2.start N vs) (padE N.length (ds.map .dat)) := startRel hs q (by rw [hl]; exact hN)
    unfold runO at e
    rw [if_pos hl] at e
    have noc : ∀ (i : Nat) (sl : Sl) (es : List Dt), (padE N.length (ds.map Sl.dat))[i]? = some sl → sl.cell = some es → False := fun i sl es h1 h2 => by
        unfold padE at h1
        by_cases hi : i < (ds.map Sl.dat).length
        · rw [List.getElem?_append_left hi, List.getElem?_map] at h1
          cases e : ds[i]? with
          | none => rw [e] at h1; cases h1
          | some d => rw [e] at h1; injection h1 with h1; subst h1; cases h2
        · rw [List.getElem?_append_right (by omega)] at h1
          obtain ⟨_, h1⟩ := List.getElem?_eq_some_iff.mp h1
          rw [List.getElem_replicate] at h1
          subst h1; cases h2
    have gr : ∀ {F' H' : Hp} {σ' : St} {ρ' : En}, Go K F H (L2.start N vs) (padE N.length (ds.map .dat)) F' H' σ' ρ' → Grow F H F' H' := fun {F' H' σ' ρ'} go => ⟨go.ext, go.rel.sub, fun p o hp => by
      have no : ¬ Own (L2.start N vs) (padE N.length (ds.map Sl.dat)) p := fun z => by
        obtain ⟨i, sl, es, h1, h2, _⟩ := z
        exact noc i sl es h1 h2
      exact ⟨(go.keep p o hp no).1, (go.keep p o hp no).2.1⟩⟩
    cases e0 : g (padE N.length (ds.map Sl.dat)) with
    | none => rw [e0] at e; cases e
    | some o =>
      rw [e0] at e
      refine b2 F H _ _ o _ e0 r ?_
      cases o with
      | nx ρ' => cases e
      | ret d' ρ' => cases e
      | retO es ρ' =>
        injection e with e; subst e
        refine fun p ws F' H' σ' go fr f' hp qa n => hQ p ws F' H' (gr go) ?_ f' hp qa
        rcases fr with z | ⟨i, es', h1, h2⟩
        · exact z
        · exact (noc i _ es' h1 rfl).elim
      | bk _ => cases e
      | ct _ => cases e
theorem startRelB {F H : Hp} {N : List Str} {a : Addr} {ws us : List V} {l ds : List Dt} (hs : Same F H) (fa : F a = Option.none) (ha : H a = some (.lst ws)) (ql : DpAll K F ws l) (q : DpAll K F us ds) : Rel K F H (L2.start N (.ref a :: us)) (padE N.length (.bor l :: ds.map .dat)) := by
  have hv := dpLen q
  have one : ∀ (i : Nat) (sl : Sl), (padE N.length (.bor l :: ds.map Sl.dat))[i]? = some sl → (i = 0 ∧ sl = .bor l) ∨ (∃ j d, i = j + 1 ∧ ds[j]? = some d ∧ sl = .dat d) ∨ sl = .un := fun i sl h => by
    unfold padE at h
    cases i with
    | zero => injection h with h; exact .inl ⟨rfl, h.symm⟩
    | succ j =>
      by_cases hi : j + 1 < (Sl.bor l :: ds.map Sl.dat).length
      · rw [List.getElem?_append_left hi, List.getElem?_cons_succ, List.getElem?_map] at h
        cases e : ds[j]? with
        | none => rw [e] at h; cases h
        | some d => rw [e] at h; injection h with h; exact .inr (.inl ⟨j, d, rfl, e, h.symm⟩)
      · rw [List.getElem?_append_right (by omega)] at h
        obtain ⟨h1, h2⟩ := List.getElem?_eq_some_iff.mp h
        rw [List.getElem_replicate] at h2
        exact .inr (.inr h2.symm)
  have cell0 : ∀ (i : Nat) (sl : Sl) (es : List Dt), (padE N.length (.bor l :: ds.map Sl.dat))[i]? = some sl → sl.cell = some es → i = 0 ∧ es = l := fun i sl es h1 h2 => by
    rcases one i sl h1 with ⟨h3, rfl⟩ | ⟨j, d, _, _, rfl⟩ | rfl
    · injection h2 with h2; exact ⟨h3, h2.symm⟩
    · cases h2
    · cases h2
  refine ⟨hs, ?_, fun i d h => ?_, fun i sl es h1 h2 => ?_, fun i j sl sl' es es' h1 h2 h3 h4 _ => ?_⟩
  · unfold L2.start padE
    rw [List.length_append, List.length_append, List.length_map, List.length_cons, List.length_cons, List.length_map, List.length_replicate, List.length_replicate, hv]
  · rcases one i _ h with ⟨_, h2⟩ | ⟨j, d', rfl, h1, h2⟩ | h2
    · cases h2
    · injection h2 with h2; subst h2
      obtain ⟨v, h3, h4⟩ := dpGet q h1
      refine ⟨v, ?_, h4⟩
      unfold L2.start
      have hi : j < us.length := (List.getElem?_eq_some_iff.mp h3).1
      rw [List.getElem?_append_left (by rw [List.length_map, List.length_cons]; omega), List.getElem?_map, List.getElem?_cons_succ, h3]
      rfl
    · cases h2
  · obtain ⟨rfl, rfl⟩ := cell0 i sl es h1 h2
    exact ⟨a, ws, rfl, fa, ha, ql⟩
  · rw [(cell0 i sl es h1 h2).1, (cell0 j sl' es' h3 h4).1]
theorem fnB {x qual : Str} {st : Stmt} {f : Addr} {fd : FuncData} {N ps : List Str} {k : Nat} {g : SF} (Fn : Fun K x qual st f fd) (S : FnScope N ps (defScope st)) (hN : ps.length ≤ N.length)
    (hb : ∀ cdv, DSs (famOf P w K mg base k N qual st f cdv) (defBody st) g) : FnOk P w K mg base CX0 (k + 1) f fd ps (spB K (runB ps.length N.length g)) := by
  refine Fn.ok S (fun vs H Q E h => ?_) (fun cdv A outer s H vs Q E hr h => ?_)
  · obtain ⟨F, a, us, ws, l, ds, d, l', rfl, _, _, _, _, q, e, _⟩ := h
    rw [List.length_cons, dpLen q]; exact runB_len e
  · obtain ⟨F, a, us, ws, l, ds, d, l', rfl, hs, fa, ha, ql, q, e, hQ⟩ := h
    obtain ⟨t, b1, b2⟩ := hb cdv
    refine ⟨t, b1 ⟨A, outer, s, H, E, hr⟩, ?_⟩
    have hl := runB_len e
    have r : Rel K F H (L2.start N (.ref a :: us)) (padE N.length (.bor l :: ds.map .dat)) := startRelB hs fa ha ql q
    have h0 : (padE N.length (.bor l :: ds.map Sl.dat))[0]? = some (.bor l) := rfl
    unfold runB at e
    rw [if_pos hl] at e
    have fin : ∀ {v : V} {d0 : Dt} {F' H' : Hp} {σ' : St} {ρ' : En}, Go K F H (L2.start N (.ref a :: us)) (padE N.length (.bor l :: ds.map .dat)) F' H' σ' ρ' → Dp K F' v d0 → (cellAt ρ' 0).map (fun z => (d0, z)) = some (d, l') → Q v H' := fun {v d0 F' H' σ' ρ'} go hd hc => by
      obtain ⟨z, h1, h2⟩ := Option.map_eq_some_iff.mp hc
      injection h2 with h3 h4
      subst h3; subst h4
      obtain ⟨sl, c1, c2⟩ := cellAt_some h1
      obtain ⟨p, ws', e1, f1, hp, q1⟩ := go.rel.cell 0 sl z c1 c2
      have e2 := (go.bor 0 l h0).2
      have ea : p = a := by
        rw [e1] at e2
        have e3 : some (some (V.ref p)) = some (some (V.ref a)) := e2
        injection e3 with e3; injection e3 with e3; injection e3 with e3
      subst ea
      refine hQ v F' H' ws' go.ext go.rel.sub (fun b o hb hbo => ?_) f1 hp q1 hd
      have no : ¬ Own (L2.start N (.ref p :: us)) (padE N.length (.bor l :: ds.map Sl.dat)) b := fun z => by
        obtain ⟨i, sl', es, k1, k2, k3⟩ := z
        have i0 : i = 0 := by
          unfold padE at k1
          cases i with
          | zero => rfl
          | succ j =>
            by_cases hi : j + 1 < (Sl.bor l :: ds.map Sl.dat).length
            · rw [List.getElem?_append_left hi, List.getElem?_cons_succ, List.getElem?_map] at k1
              cases e : ds[j]? with
              | none => rw [e] at k1; cases k1
              | some d => rw [e] at k1; injection k1 with k1; subst k1; cases k2
            · rw [List.getElem?_append_right (by omega)] at k1
              obtain ⟨_, k1⟩ := List.getElem?_eq_some_iff.mp k1
              rw [List.getElem_replicate] at k1
              subst k1; cases k2
        subst i0
        have k4 : some (some (V.ref p)) = some (some (V.ref b)) := k3
        injection k4 with k4; injection k4 with k4; injection k4 with k4
        exact hb k4.symm
      exact ⟨(go.keep b o hbo no).1, (go.keep b o hbo no).2.1⟩
    cases e0 : g (padE N.length (.bor l :: ds.map Sl.dat)) with
    | none => rw [e0] at e; cases e
    | some o =>
      rw [e0] at e
      refine b2 F H _ _ o _ e0 r ?_
      cases o with
      | nx ρ' => exact fun F' H' σ' go => fin go .non e
      | ret d' ρ' => exact fun v F' H' σ' go hd => fin go hd e
      | retO _ _ => cases e
      | bk _ => cases e
      | ct _ => cases e
end

/-! ### a def that stands behind the top, with its promise -/
structure Def (P : Program) (w : World) (K : Frg) (mg : Str → Option Value) (base : Heap) (x : Str) (st : Stmt) (ps : List Str) (j : Nat) (sp : Sp) : Prop where
  ex : ∃ f fd, Fun K x x st f fd ∧ FnOk P w K mg base CX0 j f fd ps sp ∧ mg x = some (.ref f) ∧ Binds K fd ps []
def permL {α : Type} (π : List Nat) (l : List α) : List α := π.filterMap fun i => l[i]?
theorem dpPerm {K : Frg} {F : Hp} {vs : List V} {ds : List Dt} (q : DpAll K F vs ds) : ∀ π : List Nat, DpAll K F (permL π vs) (permL π ds)
  | [] => .nil
  | i :: π => by
    unfold permL
    cases e : ds[i]? with
    | none =>
      have e' : vs[i]? = Option.none := by
        cases e2 : vs[i]? with
        | none => rfl
        | some v => obtain ⟨d, h, _⟩ := dpGet' q e2; rw [e] at h; cases h
      rw [List.filterMap_cons, List.filterMap_cons, e, e']
      exact dpPerm q π
    | some d =>
      obtain ⟨v, h1, h2⟩ := dpGet q e
      rw [List.filterMap_cons, List.filterMap_cons, e, h1]
      exact .cons h2 (dpPerm q π)
theorem valsPerm {vs : List V} {us : List Value} (r : Vals vs us) : ∀ π : List Nat, Vals (permL π vs) (permL π us)
  | [] => .nil
  | i :: π => by
    unfold permL
    cases e : vs[i]? with
    | none => rw [List.filterMap_cons, List.filterMap_cons, e, r.none_of e]; exact valsPerm r π
    | some v =>
      obtain ⟨u, h1, h2⟩ := r.get e
      rw [List.filterMap_cons, List.filterMap_cons, e, h1]
      exact .cons h2 (valsPerm r π)
def gk {α : Type} (π : List Nat) (n m : Nat) (us ws : List α) : List α := if us.length = n ∧ ws.length = m then permL π (us ++ ws) else []
theorem kb_mk {K : Frg} {fd : FuncData} {ps ks : List Str} (π : List Nat) (n : Nat) (hps : ps.length ≠ 0) (h : ∀ (us ws : List Value), us.length = n → ws.length = ks.length → bindArgs fd ⟨us, ks.zip ws⟩ = pure (ps.zip (permL π (us ++ ws)))) :
    KBinds K fd ps ks (gk π n ks.length) (gk π n ks.length) where
  to := fun s us ws _ hl => by
    unfold gk at hl ⊢
    by_cases hc : us.length = n ∧ ws.length = ks.length
    · rw [if_pos hc]
      exact .of_eq (h us ws hc.1 hc.2)
    · rw [if_neg hc] at hl
      exact absurd hl.symm hps
  rel := fun {vs us zs ws} r q => by
    unfold gk
    rw [← r.length, ← q.length]
    by_cases hc : vs.length = n ∧ zs.length = ks.length
    · rw [if_pos hc, if_pos hc]; exact valsPerm (Vals.append r q) π
    · rw [if_neg hc, if_neg hc]; exact .nil
section
variable {P : Program} {w : World} {K : Frg} {mg : Str → Option Value} {base : Heap} {k j : Nat} {M : Fam P w K mg base k} {x : Str} {st : Stmt} {ps : List Str} {e : Expr} {es : List Expr} {fa : AF} {p pos : Pos}
theorem refCall {g : List Dt → Option Dt} {t : TA} (ha : RefA K t fa) : RefE K (tCall (spF K g) [] E0 t) (eCall g fa) := by
  intro F H σ ρ d ρ' Q hf r q
  obtain ⟨⟨ds, ρ1⟩, h1, hf⟩ := Option.bind_eq_some_iff.mp hf
  obtain ⟨c, h3, hf⟩ := Option.map_eq_some_iff.mp hf
  injection hf with e1 e2
  subst e1; subst e2
  refine ha F H σ ρ ds ρ1 _ h1 r fun vs F1 H1 g1 hv => ?_
  refine ⟨F1, ds, c, g1.rel.sub, by rw [List.append_nil]; exact hv, h3, fun v F2 H2 g2 hd => q v F2 H2 (g1.trans (Go.of_grow g1.rel g2)) hd⟩
theorem de_call {g : List Dt → Option Dt} (D : Def P w K mg base x st ps j (spF K g)) (ha : DA M (e :: es) fa) (hj : j ≤ k := by decide) (hg : ∀ i, Gl (M.X i) x := by intro _; rfl) (hdb : (x == ("__debug__" : Str)) = false := by decide)
    (he : ∀ i, starEach (e :: es) (M.X i).env = (false, eval e (M.X i).env) :: starEach es (M.X i).env := by intro _; rfl) (hpl : ∀ i, (backTo pos (starEach es (M.X i).env)).any (·.1) = false := by intro _; rfl) : DE M (.Call (.Name x p) (e :: es) [] pos) (eCall g fa) := by
  obtain ⟨f, fd, Fn, G, hm, b⟩ := D.ex
  obtain ⟨t, a1, a2⟩ := ha
  refine ⟨tCall (spF K g) [] E0 t, fun i => ?_, refCall a2⟩
  have G' : FnOk (M.X i).prog (M.X i).w (M.X i).K (M.X i).mg (M.X i).base CX0 j f fd ps (spF K g) := by rw [M.prog i, M.wd i, M.K i, M.mg i, M.base i]; exact G
  exact pe_call G' ((M.room i).mono hj) (hg i) (by rw [M.mg i]; exact hm) (by rw [M.K i]; exact Fn.kp) (by rw [M.K i]; exact b) .nil pass0 (a1 i) hdb (he i) (hpl i)
theorem de_call0 {g : List Dt → Option Dt} (D : Def P w K mg base x st ps j (spF K g)) (hj : j ≤ k := by decide) (hg : ∀ i, Gl (M.X i) x := by intro _; rfl) (hdb : (x == ("__debug__" : Str)) = false := by decide) : DE M (.Call (.Name x p) [] [] pos) (eCall g aNil) := by
  obtain ⟨f, fd, Fn, G, hm, b⟩ := D.ex
  obtain ⟨t, a1, a2⟩ := da_nil (M := M)
  have a2' : RefA K tNil aNil := fun F H σ ρ ds ρ' Q hf r q => by
    injection hf with hf; injection hf with e1 e2
    subst e1; subst e2
    exact q [] F H (Go.refl r) .nil
  refine ⟨tCall (spF K g) [] E0 tNil, fun i => ?_, refCall a2'⟩
  have G' : FnOk (M.X i).prog (M.X i).w (M.X i).K (M.X i).mg (M.X i).base CX0 j f fd ps (spF K g) := by rw [M.prog i, M.wd i, M.K i, M.mg i, M.base i]; exact G
  exact pe_call0 G' ((M.room i).mono hj) (hg i) (by rw [M.mg i]; exact hm) (by rw [M.K i]; exact Fn.kp) (by rw [M.K i]; exact b) .nil pass0 hdb
theorem do_call {g : List Dt → Option (List Dt)} (D : Def P w K mg base x st ps j (spO K g)) (ha : DA M (e :: es) fa) (hj : j ≤ k := by decide) (hg : ∀ i, Gl (M.X i) x := by intro _; rfl) (hdb : (x == ("__debug__" : Str)) = false := by decide)
    (he : ∀ i, starEach (e :: es) (M.X i).env = (false, eval e (M.X i).env) :: starEach es (M.X i).env := by intro _; rfl) (hpl : ∀ i, (backTo pos (starEach es (M.X i).env)).any (·.1) = false := by intro _; rfl) : DO M (.Call (.Name x p) (e :: es) [] pos) (oCall g fa) := by
  obtain ⟨f, fd, Fn, G, hm, b⟩ := D.ex
  obtain ⟨t, a1, a2⟩ := ha
  refine ⟨tCall (spO K g) [] E0 t, fun i => ?_, fun F H σ ρ es' ρ' Q hf r q => ?_⟩
  · have G' : FnOk (M.X i).prog (M.X i).w (M.X i).K (M.X i).mg (M.X i).base CX0 j f fd ps (spO K g) := by rw [M.prog i, M.wd i, M.K i, M.mg i, M.base i]; exact G
    exact pe_call G' ((M.room i).mono hj) (hg i) (by rw [M.mg i]; exact hm) (by rw [M.K i]; exact Fn.kp) (by rw [M.K i]; exact b) .nil pass0 (a1 i) hdb (he i) (hpl i)
  · obtain ⟨⟨ds, ρ1⟩, h1, hf⟩ := Option.bind_eq_some_iff.mp hf
    obtain ⟨c, h3, hf⟩ := Option.map_eq_some_iff.mp hf
    injection hf with e1 e2
    subst e1; subst e2
    refine a2 F H σ ρ ds ρ1 _ h1 r fun vs F1 H1 g1 hv => ?_
    refine ⟨F1, ds, c, g1.rel.sub, by rw [List.append_nil]; exact hv, h3, fun p ws F2 H2 g2 hp f2 h2 qa => ?_⟩
    exact q p ws F2 H2 (g1.trans (Go.of_grow g1.rel g2)) (g1.stay p hp) f2 h2 qa (g1.rel.notOwn hp)
/-- a list that a slot alone holds is lent to a def -/
def eCallB (g : List Dt → List Dt → Option (Dt × List Dt)) (i : Nat) (fa : AF) : EF := fun ρ => (cellAt ρ i).bind fun _ => (fa ρ).bind fun p => (cellAt p.2 i).bind fun l => (g l p.1).map fun r => (r.1, putCell p.2 i r.2)
theorem refCallB {g : List Dt → List Dt → Option (Dt × List Dt)} {i : Nat} {t : TA} (ha : RefA K t fa) : RefE K (tCall (spB K g) [] E0 (tCons (tVar i) t)) (eCallB g i fa) := by
  intro F H σ ρ d ρ' Q hf r q
  obtain ⟨ds0, k0, hf⟩ := Option.bind_eq_some_iff.mp hf
  obtain ⟨⟨ds, ρ1⟩, k1, hf⟩ := Option.bind_eq_some_iff.mp hf
  obtain ⟨l, k2, hf⟩ := Option.bind_eq_some_iff.mp hf
  obtain ⟨⟨c, l'⟩, k3, hf⟩ := Option.map_eq_some_iff.mp hf
  injection hf with e1 e2
  subst e1; subst e2
  obtain ⟨sl, c1, c2⟩ := cellAt_some k0
  obtain ⟨a, ws0, e, f, hp, qv⟩ := r.cell i sl ds0 c1 c2
  refine ⟨_, e, ha F H σ ρ ds ρ1 _ k1 r fun vs F1 H1 g1 hv => ?_⟩
  obtain ⟨sl2, c3, c4⟩ := cellAt_some k2
  obtain ⟨p2, ws, e2, f2, hp2, qv2⟩ := g1.rel.cell i sl2 l c3 c4
  have ep : p2 = a := by
    rw [e] at e2
    injection e2 with e2; injection e2 with e2; injection e2 with e2
    exact e2.symm
  subst ep
  refine ⟨F1, p2, vs, ws, l, ds, c, l', by rw [List.append_nil], g1.rel.sub, f2, hp2, qv2, hv, k3, fun v F2 H2 ws' x1 x2 keep x3 x4 x5 x6 => ?_⟩
  -- the heap behind the call: first all but the list, then the list
  have hl : i < ρ1.length := (List.getElem?_eq_some_iff.mp c3).1
  have ePut : putCell ρ1 i l' = ρ1.set i (sl2.withCell l') := by unfold putCell; rw [c3]
  have off : ∀ {j : Nat} {sl' : Sl} {fs : List Dt}, (putCell ρ1 i l')[j]? = some sl' → sl'.cell = some fs → (j = i ∧ fs = l' ∧ sl' = sl2.withCell l') ∨ (j ≠ i ∧ ρ1[j]? = some sl') := fun {j sl' fs} h1 h2 => by
    rw [ePut, lookSet] at h1
    by_cases hj : j = i
    · rw [if_pos hj, if_pos hl] at h1
      injection h1 with h1; subst h1
      rw [withCell_cell c4] at h2
      injection h2 with h2
      exact .inl ⟨hj, h2.symm, rfl⟩
    · rw [if_neg hj] at h1; exact .inr ⟨hj, h1⟩
  have ne : ∀ {j : Nat} {sl' : Sl} {fs : List Dt} {b : Addr}, j ≠ i → ρ1[j]? = some sl' → sl'.cell = some fs → σ[j]? = some (some (V.ref b)) → b ≠ p2 := fun {j sl' fs b} hj h1 h2 h3 z => hj (g1.rel.inj j i sl' sl2 fs l h1 h2 c3 c4 (by rw [h3, e2, z]))
  have g2 : Go K F1 H1 σ ρ1 F2 H2 σ (putCell ρ1 i l') := by
    refine ⟨x1, fun b o hb n => ?_, fun b hb => ?_, fun j fs hj => ?_, ⟨x2, by rw [ePut, List.length_set]; exact g1.rel.len, fun j d hj => ?_, fun j sl' fs h1 h2 => ?_, fun a b s1 s2 es1 es2 h1 h2 h3 h4 h5 => ?_⟩⟩
    · have hbp : b ≠ p2 := fun z => n ⟨i, sl2, l, c3, c4, by rw [z]; exact e2⟩
      obtain ⟨y1, y2⟩ := keep b o hbp hb
      refine ⟨y1, y2, fun ⟨j, sl', fs, h1, h2, h3⟩ => ?_⟩
      rcases off h1 h2 with ⟨rfl, _, _⟩ | ⟨hj, h1⟩
      · rw [e2] at h3; injection h3 with h3; injection h3 with h3; injection h3 with h3; exact hbp h3.symm
      · exact n ⟨j, sl', fs, h1, h2, h3⟩
    · cases y : H1 b with
      | none => rfl
      | some o =>
        by_cases z : b = p2
        · subst z; rw [x4] at hb; cases hb
        · rw [(keep b o z y).1] at hb; cases hb
    · rw [ePut]
      by_cases z : j = i
      · subst z
        rw [hj] at c3; injection c3 with c3; subst c3
        exact ⟨⟨l', by rw [lookSet, if_pos rfl, if_pos hl]; rfl⟩, rfl⟩
      · exact ⟨⟨fs, by rw [lookSet, if_neg z]; exact hj⟩, rfl⟩
    · rw [ePut, lookSet] at hj
      by_cases z : j = i
      · rw [if_pos z, if_pos hl] at hj
        injection hj with hj
        cases sl2 with
        | un => cases c4
        | dat _ => cases c4
        | own _ => cases hj
        | bor _ => cases hj
      · rw [if_neg z] at hj
        obtain ⟨u, y1, y2⟩ := g1.rel.dat j d hj
        exact ⟨u, y1, y2.mono x1⟩
    · rcases off h1 h2 with ⟨rfl, rfl, _⟩ | ⟨hj, h1⟩
      · exact ⟨p2, ws', e2, x3, x4, x5⟩
      · obtain ⟨b, vs', y1, y2, y3, y4⟩ := g1.rel.cell j sl' fs h1 h2
        have hbp := ne hj h1 h2 y1
        obtain ⟨z1, z2⟩ := keep b _ hbp y3
        exact ⟨b, vs', y1, z2 y2, z1, y4.mono x1⟩
    · rcases off h1 h2 with ⟨rfl, _, _⟩ | ⟨ha', h1⟩
      · rcases off h3 h4 with ⟨rfl, _, _⟩ | ⟨hb', h3⟩
        · rfl
        · exact g1.rel.inj _ _ sl2 s2 l es2 c3 c4 h3 h4 h5
      · rcases off h3 h4 with ⟨e3, _, _⟩ | ⟨hb', h3⟩
        · rw [e3] at h5 ⊢
          exact g1.rel.inj _ _ s1 sl2 es1 l h1 h2 c3 c4 h5
        · exact g1.rel.inj _ _ s1 s2 es1 es2 h1 h2 h3 h4 h5
  exact q v F2 H2 (g1.trans g2) x6
theorem de_callB (i : Nat) {y : Str} {py : Pos} {g : List Dt → List Dt → Option (Dt × List Dt)} (D : Def P w K mg base x st ps j (spB K g)) (ha : DA M es fa) (hj : j ≤ k := by decide) (hN : ∀ j, (M.X j).N[i]? = some y := by intro _; rfl)
    (hv : ∀ j, Vis (M.X j).env.scope y := by intro _; first | exact Or.inl rfl | exact Or.inr (Or.inl rfl) | exact Or.inr (Or.inr rfl)) (hd : (y == ("__debug__" : Str)) = false := by decide) (hcd : (y == ("__classdict__" : Str)) = false := by decide)
    (hg : ∀ i, Gl (M.X i) x := by intro _; rfl) (hdb : (x == ("__debug__" : Str)) = false := by decide)
    (he : ∀ i, starEach (.Name y py :: es) (M.X i).env = (false, eval (.Name y py) (M.X i).env) :: starEach es (M.X i).env := by intro _; rfl) (hpl : ∀ i, (backTo pos (starEach es (M.X i).env)).any (·.1) = false := by intro _; rfl) :
    DE M (.Call (.Name x p) (.Name y py :: es) [] pos) (eCallB g i fa) := by
  obtain ⟨f, fd, Fn, G, hm, b⟩ := D.ex
  obtain ⟨t, a1, a2⟩ := ha
  refine ⟨tCall (spB K g) [] E0 (tCons (tVar i) t), fun l => ?_, refCallB a2⟩
  have G' : FnOk (M.X l).prog (M.X l).w (M.X l).K (M.X l).mg (M.X l).base CX0 j f fd ps (spB K g) := by rw [M.prog l, M.wd l, M.K l, M.mg l, M.base l]; exact G
  exact pe_call G' ((M.room l).mono hj) (hg l) (by rw [M.mg l]; exact hm) (by rw [M.K l]; exact Fn.kp) (by rw [M.K l]; exact b) .nil pass0 (pa_cons (pe_var (hN l) (hv l) hd hcd) (a1 l) (he l)) hdb (he l) (hpl l)
/-! by keywords -/
variable (M) in
def DK (kws : List Keyword) (f : AF) : Prop := ∃ t : TA, (∀ i, PK (M.X i) kws t) ∧ RefA K t f
theorem dk_nil : DK M [] aNil := ⟨tNil, fun _ => pk_nil, fun F H σ ρ ds ρ' Q hf r q => by
  injection hf with hf; injection hf with e1 e2
  subst e1; subst e2
  exact q [] F H (Go.refl r) .nil⟩
theorem dk_cons {fe : EF} {kws : List Keyword} {fr : AF} {nm : Option Str} {kpos : Pos} (ha : DE M e fe) (hr : DK M kws fr) : DK M (⟨nm, e, kpos⟩ :: kws) (aCons fe fr) := by
  obtain ⟨ta, a1, a2⟩ := ha
  obtain ⟨tr, r1, r2⟩ := hr
  exact ⟨tCons ta tr, fun j => pk_cons (a1 j) (r1 j), refACons a2 r2⟩
theorem refCallK {g : List Dt → Option Dt} {fk : AF} {t tk : TA} {π : List Nat} {n m : Nat} (ha : RefA K t fa) (hk : RefA K tk fk) : RefE K (tCallK (spF K g) (gk π n m) E0 t tk) (eCallK g fa fk (gk π n m)) := by
  intro F H σ ρ d ρ' Q hf r q
  obtain ⟨⟨ds, ρ1⟩, h1, hf⟩ := Option.bind_eq_some_iff.mp hf
  obtain ⟨⟨es, ρ2⟩, h2, hf⟩ := Option.bind_eq_some_iff.mp hf
  obtain ⟨c, h3, hf⟩ := Option.map_eq_some_iff.mp hf
  injection hf with e1 e2
  subst e1; subst e2
  refine ha F H σ ρ ds ρ1 _ h1 r fun vs F1 H1 g1 hv => ?_
  refine hk F1 H1 σ ρ1 es ρ2 _ h2 g1.rel fun zs F2 H2 g2 hz => ?_
  refine ⟨F2, gk π n m ds es, c, g2.rel.sub, ?_, h3, fun v F3 H3 g3 hd => q v F3 H3 ((g1.trans g2).trans (Go.of_grow g2.rel g3)) hd⟩
  have hv' := hv.mono g2.ext
  unfold gk
  rw [dpLen hv', dpLen hz]
  by_cases hc : ds.length = n ∧ es.length = m
  · rw [if_pos hc, if_pos hc]; exact dpPerm (dpApp hv' hz) π
  · rw [if_neg hc, if_neg hc]; exact .nil
theorem de_callK (π : List Nat) {g : List Dt → Option Dt} {kws : List Keyword} {fk : AF} {ks : List Str} (D : Def P w K mg base x st ps j (spF K g)) (ha : DA M (e :: es) fa) (hkw : DK M kws fk)
    (hb : ∀ (kV doc pm : Value) (an : Option Addr) (cdv ct : Value) (us ws : List Value), us.length = (e :: es).length → ws.length = ks.length → bindArgs (PySem.W.fnOf x x (defArgs st) (defBody st) (defScope st) .none kV doc pm an cdv ct) ⟨us, ks.zip ws⟩ = pure (ps.zip (permL π (us ++ ws))))
    (hj : j ≤ k := by decide) (hps : ps.length ≠ 0 := by decide) (hall : ∀ i, (backToKw pos (keywordEach kws (M.X i).env)).all (·.1.isSome) = true := by intro _; rfl) (hks : ∀ i, (backToKw pos (keywordEach kws (M.X i).env)).filterMap (·.1) = ks := by intro _; rfl)
    (hg : ∀ i, Gl (M.X i) x := by intro _; rfl) (hdb : (x == ("__debug__" : Str)) = false := by decide) (he : ∀ i, starEach (e :: es) (M.X i).env = (false, eval e (M.X i).env) :: starEach es (M.X i).env := by intro _; rfl)
    (hpl : ∀ i, ((backTo pos (starEach (e :: es) (M.X i).env)).any (·.1) || (backToKw pos (keywordEach kws (M.X i).env)).any (·.1.isNone)) = false := by intro _; rfl) :
    DE M (.Call (.Name x p) (e :: es) kws pos) (eCallK g fa fk (gk π (e :: es).length ks.length)) := by
  obtain ⟨f, fd, Fn, G, hm, b⟩ := D.ex
  obtain ⟨t, a1, a2⟩ := ha
  obtain ⟨tk, b1, b2⟩ := hkw
  refine ⟨tCallK (spF K g) (gk π (e :: es).length ks.length) E0 t tk, fun i => ?_, refCallK a2 b2⟩
  have G' : FnOk (M.X i).prog (M.X i).w (M.X i).K (M.X i).mg (M.X i).base CX0 j f fd ps (spF K g) := by rw [M.prog i, M.wd i, M.K i, M.mg i, M.base i]; exact G
  have kb : KBinds (M.X i).K fd ps ks (gk π (e :: es).length ks.length) (gk π (e :: es).length ks.length) := by
    obtain ⟨oc, od, kV, doc, pm, an, cdv, ct, osl, rfl, lk, hcd⟩ := Fn.ex
    exact kb_mk π _ hps (hb kV doc pm an cdv ct)
  exact pe_callK G' ((M.room i).mono hj) (hg i) (by rw [M.mg i]; exact hm) (by rw [M.K i]; exact Fn.kp) kb pass0 (a1 i) (b1 i) (hall i) (hks i) hdb (he i) (hpl i)
theorem de_callK0 (π : List Nat) {g : List Dt → Option Dt} {kws : List Keyword} {fk : AF} {ks : List Str} (D : Def P w K mg base x st ps j (spF K g)) (hkw : DK M kws fk)
    (hb : ∀ (kV doc pm : Value) (an : Option Addr) (cdv ct : Value) (us ws : List Value), us.length = 0 → ws.length = ks.length → bindArgs (PySem.W.fnOf x x (defArgs st) (defBody st) (defScope st) .none kV doc pm an cdv ct) ⟨us, ks.zip ws⟩ = pure (ps.zip (permL π (us ++ ws))))
    (hj : j ≤ k := by decide) (hps : ps.length ≠ 0 := by decide) (hall : ∀ i, (backToKw pos (keywordEach kws (M.X i).env)).all (·.1.isSome) = true := by intro _; rfl) (hks : ∀ i, (backToKw pos (keywordEach kws (M.X i).env)).filterMap (·.1) = ks := by intro _; rfl)
    (hg : ∀ i, Gl (M.X i) x := by intro _; rfl) (hdb : (x == ("__debug__" : Str)) = false := by decide)
    (hpl : ∀ i, ((backTo pos (starEach [] (M.X i).env)).any (·.1) || (backToKw pos (keywordEach kws (M.X i).env)).any (·.1.isNone)) = false := by intro _; rfl) :
    DE M (.Call (.Name x p) [] kws pos) (eCallK g aNil fk (gk π 0 ks.length)) := by
  obtain ⟨f, fd, Fn, G, hm, b⟩ := D.ex
  obtain ⟨tk, b1, b2⟩ := hkw
  have a2 : RefA K tNil aNil := fun F H σ ρ ds ρ' Q hf r q => by
    injection hf with hf; injection hf with e1 e2
    subst e1; subst e2
    exact q [] F H (Go.refl r) .nil
  refine ⟨tCallK (spF K g) (gk π 0 ks.length) E0 tNil tk, fun i => ?_, refCallK a2 b2⟩
  have G' : FnOk (M.X i).prog (M.X i).w (M.X i).K (M.X i).mg (M.X i).base CX0 j f fd ps (spF K g) := by rw [M.prog i, M.wd i, M.K i, M.mg i, M.base i]; exact G
  have kb : KBinds (M.X i).K fd ps ks (gk π 0 ks.length) (gk π 0 ks.length) := by
    obtain ⟨oc, od, kV, doc, pm, an, cdv, ct, osl, rfl, lk, hcd⟩ := Fn.ex
    exact kb_mk π _ hps (hb kV doc pm an cdv ct)
  refine ⟨fun pins s σ H Q I h => ?_⟩
  refine PySem.wpAny_Call_Name_kw (ld_glob I (hg i) (by rw [M.mg i]; exact hm) ?_ hdb)
  refine PySem.W.callWith_KW0 (h₀ := (M.X i).base) I.ok.mod.kin (by rw [M.K i]; exact Fn.kp) (hall i) (thn ((b1 i).run pos pins s σ H _ I h) fun ws s2 ⟨zs, H2, I2, rz, q2⟩ => ⟨I2.kIn, ?_⟩) (hpl i)
  rw [hks i]
  exact run_fnk (us := []) (vs := []) G' ((M.room i).mono hj) kb pass0 I2 .nil rz q2
end
end DL

set_option Elab.async false
set_option linter.all false
set_option maxRecDepth 100000
set_option maxHeartbeats 4000000
namespace DL
open PySem PySem.Spec L2

/-! ### what is walked -/
structure WalkD (K : Frg) (F0 : Hp) (J : It) (ds : List Dt) : Prop where
  go : ∀ i H, Same F0 H → i < ds.length → J.go i H
  stop : ∀ H, Same F0 H → J.stop ds.length H
  yld : ∀ i H x H' F, Same F0 F → Same F H → i < ds.length → J.yld i H x H' → ∃ d F', ds[i]? = some d ∧ Grow F H F' H' ∧ Dp K F' x d
def RefI (K : Frg) (wi : TI) (f : AF) : Prop := ∀ (F H : Hp) (σ : St) (ρ : En) (ds : List Dt) (ρ' : En) (R : It → Hp → Prop), f ρ = some (ds, ρ') → Rel K F H σ ρ → (∀ J F' H', Go K F H σ ρ F' H' σ ρ' → WalkD K F' J ds → R J H') → wi σ H R
section
variable {P : Program} {w : World} {K : Frg} {mg : Str → Option Value} {base : Heap} {k : Nat} (M : Fam P w K mg base k)
def DI (tg iter : Expr) (f : AF) : Prop := ∃ wi : TI, (∀ i, PI (M.X i) tg iter wi) ∧ RefI K wi f
def DTs (ifs : List Expr) (f : TF) : Prop := ∃ t : TT, (∀ i, PTs (M.X i) ifs t) ∧ RefT K t f
end
def fLoop (g : GF) (b : SF) : List Dt → SF
  | [], ρ => some (.nx ρ)
  | d :: ds, ρ => (g d ρ).bind fun ρ1 => (b ρ1).bind fun o => match o with
    | .nx ρ2 => fLoop g b ds ρ2
    | .ct ρ2 => fLoop g b ds ρ2
    | .bk ρ2 => some (.nx ρ2)
    | o => some o
def sFor (fi : AF) (g : GF) (b : SF) : SF := fun ρ => (fi ρ).bind fun p => fLoop g b p.1 p.2
def wipeE (ρ : En) : List Nat → En
  | [] => ρ
  | v :: vs => (wipeE ρ vs).set v .un
def backE (ρ2 ρ1 : En) : List Nat → En
  | [] => ρ2
  | v :: vs => (backE ρ2 ρ1 vs).set v (ρ1.getD v .un)
def uTrue : TF := fun ρ => some (true, ρ)
def lcLoop (g : GF) (tt : TF) (te : EF) (vs : List Nat) : List Dt → AF
  | [], ρ => some ([], ρ)
  | d :: ds, ρ => (g d (wipeE ρ vs)).bind fun ρ1 => (tt ρ1).bind fun b => if b.1 = true then (te b.2).bind fun y => (lcLoop g tt te vs ds y.2).bind fun r => some (y.1 :: r.1, r.2) else lcLoop g tt te vs ds b.2
def oLc (fi : AF) (g : GF) (tt : TF) (te : EF) (vs : List Nat) : AF := fun ρ => (fi ρ).bind fun p => (lcLoop g tt te vs p.1 p.2).bind fun r => if r.1.length ≤ sizeLine then some (r.1, backE r.2 p.2 vs) else Option.none

section
variable {P : Program} {w : World} {K : Frg} {mg : Str → Option Value} {base : Heap} {k : Nat} {M : Fam P w K mg base k} {tg iter : Expr} {fi : AF} {pos : Pos}
theorem dropCons {α : Type} {l : List α} {i : Nat} {d : α} (h : l[i]? = some d) : l.drop i = d :: l.drop (i + 1) := by
  obtain ⟨h1, h2⟩ := List.getElem?_eq_some_iff.mp h
  rw [List.drop_eq_getElem_cons h1, h2]
theorem ds_for {body : List Stmt} {vs : List Nat} {g : GF} {fb : SF} (hi : DI M tg iter fi) (hg : DG M tg vs g) (hb : DSs M body fb) (hp : ∀ j, PassesOwn (model (M.X j).prog (M.X j).w) (M.X j).A (M.X j).env (M.X j).xe := by intro _; exact PassesOwn.never)
    (hs : ∀ j x, foldedSetIterable iter (M.X j).env x = pure x := by intro _ _; rfl) : DS M (.For tg iter body [] pos) (sFor fi g fb) := by
  obtain ⟨wi, a1, a2⟩ := hi
  obtain ⟨tg', b1, b2⟩ := hg
  obtain ⟨tb, c1, c2⟩ := hb
  refine ⟨_, fun j => ps_for (hp j) (M.calm j) (a1 j) (b1 j) (c1 j) (hs j), fun F H σ ρ o D hf r tk => ?_⟩
  obtain ⟨⟨ds, ρ1⟩, h1, h2⟩ := Option.bind_eq_some_iff.mp hf
  refine a2 F H σ ρ ds ρ1 _ h1 r fun J F1 H1 g1 wk => ?_
  refine ⟨fun i m σ H => ∃ F ρ, i + m = ds.length ∧ Same F1 F ∧ fLoop g fb (ds.drop i) ρ = some o ∧ Rel K F H σ ρ ∧ Takes K D F H σ ρ o, ⟨ds.length, F1, ρ1, by omega, Same.refl _, h2, g1.rel, tk.later r g1⟩, fun i m σ H ⟨F, ρ, e, hs1, hl, r1, tk1⟩ => ?_⟩
  by_cases hi : i < ds.length
  · refine .inr ⟨wk.go i H (hs1.trans r1.sub) hi, fun σ' H' => ∃ F ρ, Same F1 F ∧ fLoop g fb (ds.drop (i + 1)) ρ = some o ∧ Rel K F H' σ' ρ ∧ Takes K D F H' σ' ρ o, fun σ' H' ⟨F', ρ', z1, z2, z3, z4⟩ => ⟨m - 1, by omega, F', ρ', by omega, z1, z2, z3, z4⟩, fun x H' hy => ?_⟩
    obtain ⟨d, F', hd, gr, hx⟩ := wk.yld i H x H' F hs1 r1.sub hi hy
    have ga := Go.of_grow r1 gr
    rw [dropCons hd] at hl
    obtain ⟨ρ2, k1, k2⟩ := Option.bind_eq_some_iff.mp hl
    refine b2 F' H' σ ρ x d ρ2 _ k1 ga.rel hx fun F2 H2 σ2 g2 _ => ?_
    obtain ⟨o2, k3, k4⟩ := Option.bind_eq_some_iff.mp k2
    have gb := ga.trans g2
    refine c2 F2 H2 σ2 ρ2 o2 _ k3 g2.rel ?_
    have tk2 := tk1.later r1 gb
    have ex := hs1.trans gb.ext
    cases o2 with
    | nx ρ3 => exact fun F3 H3 σ3 g3 => ⟨F3, ρ3, ex.trans g3.ext, k4, g3.rel, tk2.later g2.rel g3⟩
    | ct ρ3 => exact fun F3 H3 σ3 g3 => ⟨F3, ρ3, ex.trans g3.ext, k4, g3.rel, tk2.later g2.rel g3⟩
    | bk ρ3 => injection k4 with k4; subst k4; exact fun F3 H3 σ3 g3 => tk2 F3 H3 σ3 g3
    | ret d ρ3 => injection k4 with k4; subst k4; exact tk2
    | retO d ρ3 => injection k4 with k4; subst k4; exact tk2
  · have ei : i = ds.length := by omega
    subst ei
    rw [List.drop_length] at hl
    injection hl with hl; subst hl
    exact .inl ⟨wk.stop H (hs1.trans r1.sub), tk1 F H σ (Go.refl r1)⟩
/-! ### comprehensions -/
theorem wipeE_len {ρ : En} : ∀ {vs : List Nat}, (wipeE ρ vs).length = ρ.length
  | [] => rfl
  | v :: vs => by unfold wipeE; rw [List.length_set]; exact wipeE_len
theorem wipeE_get {ρ : En} {i : Nat} : ∀ {vs : List Nat}, (wipeE ρ vs)[i]? = if i ∈ vs then (if i < ρ.length then some .un else Option.none) else ρ[i]?
  | [] => by simp [wipeE]
  | v :: vs => by
    unfold wipeE
    rw [lookSet, wipeE_len]
    by_cases h : i = v
    · subst h; simp
    · rw [if_neg h, wipeE_get]
      simp [h]
theorem wipe_get {σ : St} {i : Nat} : ∀ {vs : List Nat}, (wipe σ vs)[i]? = if i ∈ vs then (if i < σ.length then some Option.none else Option.none) else σ[i]?
  | [] => by simp [wipe]
  | v :: vs => by
    unfold wipe
    by_cases h : i = v
    · subst h
      by_cases hl : i < σ.length
      · rw [List.getElem?_set_self (by rw [wipe_length]; exact hl)]; simp [hl]
      · rw [List.getElem?_eq_none (by rw [List.length_set, wipe_length]; omega)]; simp [hl]
    · rw [List.getElem?_set_ne (Ne.symm h), wipe_get]
      simp [h]
theorem wipe_wipe {σ : St} {vs : List Nat} : wipe (wipe σ vs) vs = wipe σ vs := by
  refine List.ext_getElem? fun j => ?_
  rw [wipe_get, wipe_get, wipe_length]
  by_cases h : j ∈ vs
  · rw [if_pos h, if_pos h]
  · rw [if_neg h, if_neg h]
theorem wipeE_wipeE {ρ : En} {vs : List Nat} : wipeE (wipeE ρ vs) vs = wipeE ρ vs := by
  refine List.ext_getElem? fun j => ?_
  rw [wipeE_get, wipeE_get, wipeE_len]
  by_cases h : j ∈ vs
  · rw [if_pos h, if_pos h]
  · rw [if_neg h, if_neg h]
theorem backE_len {ρ2 ρ1 : En} : ∀ {vs : List Nat}, (backE ρ2 ρ1 vs).length = ρ2.length
  | [] => rfl
  | v :: vs => by unfold backE; rw [List.length_set]; exact backE_len
theorem backE_get {ρ2 ρ1 : En} {i : Nat} : ∀ {vs : List Nat}, (backE ρ2 ρ1 vs)[i]? = if i ∈ vs then (if i < ρ2.length then some (ρ1.getD i .un) else Option.none) else ρ2[i]?
  | [] => by simp [backE]
  | v :: vs => by
    unfold backE
    rw [lookSet, backE_len]
    by_cases h : i = v
    · subst h; simp
    · rw [if_neg h, backE_get]
      simp [h]
section
variable {F H F' H' : Hp} {σ σ' : St} {ρ ρ' : En} {vs : List Nat}
theorem wipeE_cell {i : Nat} {sl : Sl} {ds : List Dt} (h1 : (wipeE ρ vs)[i]? = some sl) (h2 : sl.cell = some ds) : i ∉ vs ∧ ρ[i]? = some sl := by
  rw [wipeE_get] at h1
  by_cases h : i ∈ vs
  · rw [if_pos h] at h1
    by_cases hl : i < ρ.length
    · rw [if_pos hl] at h1; injection h1 with h1; subst h1; cases h2
    · rw [if_neg hl] at h1; cases h1
  · rw [if_neg h] at h1; exact ⟨h, h1⟩
theorem own_wipe {p : Addr} (h : Own (wipe σ vs) (wipeE ρ vs) p) : ∃ (i : Nat) (sl : Sl) (ds : List Dt), i ∉ vs ∧ ρ[i]? = some sl ∧ sl.cell = some ds ∧ σ[i]? = some (some (V.ref p)) := by
  obtain ⟨i, sl, ds, h1, h2, h3⟩ := h
  obtain ⟨hn, h1⟩ := wipeE_cell h1 h2
  rw [wipe_get, if_neg hn] at h3
  exact ⟨i, sl, ds, hn, h1, h2, h3⟩
theorem Rel.wipe (r : Rel K F H σ ρ) (vs : List Nat) : Rel K F H (L2.wipe σ vs) (wipeE ρ vs) where
  sub := r.sub
  len := by rw [wipe_length, wipeE_len]; exact r.len
  dat := fun i d h => by
    rw [wipeE_get] at h
    by_cases hv : i ∈ vs
    · rw [if_pos hv] at h
      by_cases hl : i < ρ.length
      · rw [if_pos hl] at h; injection h with h; cases h
      · rw [if_neg hl] at h; cases h
    · rw [if_neg hv] at h
      obtain ⟨v, e, q⟩ := r.dat i d h
      exact ⟨v, by rw [wipe_get, if_neg hv]; exact e, q⟩
  cell := fun i sl ds h1 h2 => by
    obtain ⟨hv, h1⟩ := wipeE_cell h1 h2
    obtain ⟨p, ws, e, q⟩ := r.cell i sl ds h1 h2
    exact ⟨p, ws, by rw [wipe_get, if_neg hv]; exact e, q⟩
  inj := fun i j sl sl' ds ds' h1 h2 h3 h4 h5 => by
    obtain ⟨hv, h1⟩ := wipeE_cell h1 h2
    obtain ⟨hv', h3⟩ := wipeE_cell h3 h4
    rw [wipe_get, if_neg hv, wipe_get, if_neg hv'] at h5
    exact r.inj i j sl sl' ds ds' h1 h2 h3 h4 h5
/-- at a turn's end the comprehension's names are forgotten -/
theorem Go.wipe {τ : St} {θ : En} (g : Go K F H τ θ F' H' σ' ρ') (vs : List Nat) (nb : ∀ i ds, i ∈ vs → θ[i]? ≠ some (Sl.bor ds)) : Go K F H τ θ F' H' (L2.wipe σ' vs) (wipeE ρ' vs) where
  ext := g.ext
  keep := fun p o hp n => by
    obtain ⟨a, b, c⟩ := g.keep p o hp n
    refine ⟨a, b, fun z => c ?_⟩
    obtain ⟨i, sl, ds, _, h1, h2, h3⟩ := own_wipe z
    exact ⟨i, sl, ds, h1, h2, h3⟩
  stay := g.stay
  bor := fun i ds h => by
    have hv : i ∉ vs := fun z => nb i ds z h
    obtain ⟨⟨ds', h1⟩, h2⟩ := g.bor i ds h
    exact ⟨⟨ds', by rw [wipeE_get, if_neg hv]; exact h1⟩, by rw [wipe_get, if_neg hv]; exact h2⟩
  rel := g.rel.wipe vs
/-- a thing that nobody of the frame holds, made since, is changed -/
theorem Go.other {τ : St} {θ : En} (g : Go K F H τ θ F' H' σ' ρ') {p : Addr} (hp : H p = Option.none) (f : F' p = Option.none) (n : ¬ Own σ' ρ' p) (o : HO) : Go K F H τ θ F' (upd H' p o) σ' ρ' where
  ext := g.ext
  keep := fun b u hb nb => by
    obtain ⟨a, b', c⟩ := g.keep b u hb nb
    exact ⟨by rw [upd_ne (ne_of_none hb hp)]; exact a, b', c⟩
  stay := fun b hb => by
    by_cases e : b = p
    · rw [e]; exact hp
    · rw [upd_ne e] at hb; exact g.stay b hb
  bor := g.bor
  rel := ⟨fun b u hb => by rw [upd_ne (ne_of_none hb f)]; exact g.rel.sub b u hb, g.rel.len, g.rel.dat, fun i sl ds h1 h2 => by
    obtain ⟨q, ws, e, f', hq, hd⟩ := g.rel.cell i sl ds h1 h2
    have ne : q ≠ p := fun z => n ⟨i, sl, ds, h1, h2, by rw [← z]; exact e⟩
    exact ⟨q, ws, e, f', by rw [upd_ne ne]; exact hq, hd⟩, g.rel.inj⟩
/-- behind a comprehension the names of the def are as they were -/
theorem Go.back {F1 H1 : Hp} {ρ1 : En} (g1 : Go K F H σ ρ F1 H1 σ ρ1) (g : Go K F1 H1 (L2.wipe σ vs) (wipeE ρ1 vs) F' H' (L2.wipe σ vs) (wipeE ρ' vs)) : Go K F H σ ρ F' H' σ (backE ρ' ρ1 vs) := by
  have len : ρ'.length = ρ1.length := by
    have := g.rel.len
    rw [wipe_length, wipeE_len] at this
    rw [← this, g1.rel.len]
  have at' : ∀ {i : Nat} {sl : Sl}, (backE ρ' ρ1 vs)[i]? = some sl → (i ∈ vs ∧ ρ1[i]? = some sl) ∨ (i ∉ vs ∧ ρ'[i]? = some sl) := fun {i sl} h => by
    rw [backE_get] at h
    by_cases hv : i ∈ vs
    · rw [if_pos hv] at h
      by_cases hl : i < ρ'.length
      · rw [if_pos hl] at h
        injection h with h
        have : i < ρ1.length := by omega
        refine .inl ⟨hv, ?_⟩
        rw [← h, List.getD_eq_getElem?_getD, List.getElem?_eq_getElem this]; rfl
      · rw [if_neg hl] at h; cases h
    · rw [if_neg hv] at h; exact .inr ⟨hv, h⟩
  have outE : ∀ {i : Nat} {sl : Sl}, i ∉ vs → ρ'[i]? = some sl → (wipeE ρ' vs)[i]? = some sl := fun hv h => by rw [wipeE_get, if_neg hv]; exact h
  have outS : ∀ {i : Nat}, i ∉ vs → (L2.wipe σ vs)[i]? = σ[i]? := fun hv => by rw [wipe_get, if_neg hv]
  -- an own slot outside at the end: its address was own outside at the start
  have was : ∀ {i : Nat} {sl : Sl} {ds : List Dt} {p : Addr}, i ∉ vs → ρ'[i]? = some sl → sl.cell = some ds → σ[i]? = some (some (V.ref p)) → (∃ o, H1 p = some o) → ∃ j sl' ds', j ∉ vs ∧ ρ1[j]? = some sl' ∧ sl'.cell = some ds' ∧ σ[j]? = some (some (V.ref p)) := fun {i sl ds p} hv h1 h2 h3 h4 => by
    obtain ⟨o, h4⟩ := h4
    by_cases ho : Own (L2.wipe σ vs) (wipeE ρ1 vs) p
    · exact own_wipe ho
    · exact absurd ⟨i, sl, ds, outE hv h1, h2, by rw [outS hv]; exact h3⟩ (g.keep p o h4 ho).2.2
  -- an own slot inside: its list stands as it was
  have inside : ∀ {i : Nat} {sl : Sl} {ds : List Dt}, i ∈ vs → ρ1[i]? = some sl → sl.cell = some ds → ∃ p ws, σ[i]? = some (some (V.ref p)) ∧ F' p = Option.none ∧ H1 p = some (.lst ws) ∧ H' p = some (.lst ws) ∧ DpAll K F' ws ds ∧ ¬ Own (L2.wipe σ vs) (wipeE ρ1 vs) p := fun {i sl ds} hv h1 h2 => by
    obtain ⟨p, ws, e, f, hp, q⟩ := g1.rel.cell i sl ds h1 h2
    have no : ¬ Own (L2.wipe σ vs) (wipeE ρ1 vs) p := fun z => by
      obtain ⟨j, sl', ds', hj, k1, k2, k3⟩ := own_wipe z
      have := g1.rel.inj i j sl sl' ds ds' h1 h2 k1 k2 (by rw [e, k3])
      exact hj (this ▸ hv)
    obtain ⟨a, b, _⟩ := g.keep p _ hp no
    exact ⟨p, ws, e, b f, hp, a, q.mono g.ext, no⟩
  have wasIn : ∀ {i : Nat} {sl : Sl} {ds : List Dt} {p : Addr}, i ∉ vs → ρ'[i]? = some sl → sl.cell = some ds → σ[i]? = some (some (V.ref p)) → ∀ {j : Nat} {sl' : Sl} {ds' : List Dt}, j ∈ vs → ρ1[j]? = some sl' → sl'.cell = some ds' → σ[j]? ≠ some (some (V.ref p)) := fun {i sl ds p} hv h1 h2 h3 {j sl' ds'} hj k1 k2 k3 => by
    obtain ⟨q, ws, e, f, hq, _, _, no⟩ := inside hj k1 k2
    rw [k3] at e
    injection e with e; injection e with e; injection e with e
    subst e
    obtain ⟨j', sl2, ds2, hj', m1, m2, m3⟩ := was hv h1 h2 h3 ⟨_, hq⟩
    exact no ⟨j', sl2, ds2, by rw [wipeE_get, if_neg hj']; exact m1, m2, by rw [outS hj']; exact m3⟩
  refine ⟨g1.ext.trans g.ext, fun p o hp n => ?_, fun p h => g1.stay p (g.stay p h), fun i ds h => ?_, ⟨g.rel.sub, by rw [backE_len, len]; exact g1.rel.len, fun i d h => ?_, fun i sl ds h1 h2 => ?_, fun i j sl sl' ds ds' h1 h2 h3 h4 h5 => ?_⟩⟩
  · obtain ⟨a1, a2, a3⟩ := g1.keep p o hp n
    have no : ¬ Own (L2.wipe σ vs) (wipeE ρ1 vs) p := fun z => by
      obtain ⟨j, sl', ds', _, k1, k2, k3⟩ := own_wipe z
      exact a3 ⟨j, sl', ds', k1, k2, k3⟩
    obtain ⟨b1, b2, b3⟩ := g.keep p o a1 no
    refine ⟨b1, fun z => b2 (a2 z), fun ⟨i, sl, ds, h1, h2, h3⟩ => ?_⟩
    rcases at' h1 with ⟨_, h1⟩ | ⟨hv, h1⟩
    · exact a3 ⟨i, sl, ds, h1, h2, h3⟩
    · exact b3 ⟨i, sl, ds, outE hv h1, h2, by rw [outS hv]; exact h3⟩
  · obtain ⟨⟨ds1, h1⟩, _⟩ := g1.bor i ds h
    refine ⟨?_, rfl⟩
    by_cases hv : i ∈ vs
    · refine ⟨ds1, ?_⟩
      have hl : i < ρ1.length := (List.getElem?_eq_some_iff.mp h1).1
      rw [backE_get, if_pos hv, if_pos (by omega), List.getD_eq_getElem?_getD, h1]; rfl
    · obtain ⟨⟨ds2, h2⟩, _⟩ := g.bor i ds1 (by rw [wipeE_get, if_neg hv]; exact h1)
      rw [wipeE_get, if_neg hv] at h2
      exact ⟨ds2, by rw [backE_get, if_neg hv]; exact h2⟩
  · rcases at' h with ⟨_, h⟩ | ⟨hv, h⟩
    · obtain ⟨v, e, q⟩ := g1.rel.dat i d h
      exact ⟨v, e, q.mono g.ext⟩
    · obtain ⟨v, e, q⟩ := g.rel.dat i d (outE hv h)
      exact ⟨v, by rw [outS hv] at e; exact e, q⟩
  · rcases at' h1 with ⟨hv, h1⟩ | ⟨hv, h1⟩
    · obtain ⟨p, ws, e, f, _, hp, q, _⟩ := inside hv h1 h2
      exact ⟨p, ws, e, f, hp, q⟩
    · obtain ⟨p, ws, e, q⟩ := g.rel.cell i sl ds (outE hv h1) h2
      exact ⟨p, ws, by rw [outS hv] at e; exact e, q⟩
  · rcases at' h1 with ⟨hv, h1⟩ | ⟨hv, h1⟩
    · rcases at' h3 with ⟨hv', h3⟩ | ⟨hv', h3⟩
      · exact g1.rel.inj i j sl sl' ds ds' h1 h2 h3 h4 h5
      · obtain ⟨p, ws, e, _⟩ := g.rel.cell j sl' ds' (outE hv' h3) h4
        rw [outS hv'] at e
        exact absurd (h5.trans e) (wasIn hv' h3 h4 e hv h1 h2)
    · rcases at' h3 with ⟨hv', h3⟩ | ⟨hv', h3⟩
      · obtain ⟨p, ws, e, _⟩ := g.rel.cell i sl ds (outE hv h1) h2
        rw [outS hv] at e
        exact absurd (h5.symm.trans e) (wasIn hv h1 h2 e hv' h3 h4)
      · exact g.rel.inj i j sl sl' ds ds' (outE hv h1) h2 (outE hv' h3) h4 (by rw [outS hv, outS hv']; exact h5)
end
theorem refLc {wi : TI} {g : TG} {tt : TT} {te : TE} {gg : GF} {ft : TF} {fe : EF} {vs : List Nat} (hi : RefI K wi fi) (hg : RefG K vs g gg) (ht : RefT K tt ft) (he : RefE K te fe) : RefO K (tLc wi g tt te vs) (oLc fi gg ft fe vs) := by
  intro F H σ ρ es ρ' Q hf r q
  obtain ⟨⟨ds, ρ1⟩, h1, hf⟩ := Option.bind_eq_some_iff.mp hf
  obtain ⟨⟨es', ρe⟩, h2, hf⟩ := Option.bind_eq_some_iff.mp hf
  have hsz : es'.length ≤ sizeLine := by
    by_cases hz : es'.length ≤ sizeLine
    · exact hz
    · rw [if_neg hz] at hf; cases hf
  rw [if_pos hsz] at hf
  injection hf with hf; injection hf with e1 e2
  subst e1; subst e2
  refine hi F H σ ρ ds ρ1 _ h1 r fun J F1 H1 g1 wk D hD => ?_
  have rw1 : Rel K F1 H1 (wipe σ vs) (wipeE ρ1 vs) := g1.rel.wipe vs
  have nb1 : ∀ i ds, i ∈ vs → (wipeE ρ1 vs)[i]? ≠ some (Sl.bor ds) := fun i ds hv z => by
    rw [wipeE_get, if_pos hv] at z
    by_cases hl : i < ρ1.length
    · rw [if_pos hl] at z; injection z with z; cases z
    · rw [if_neg hl] at z; cases z
  -- the invariant
  let Inv' : Nat → Hp → Prop := fun i H => ∃ F ρc acc vacc rest, Same F1 F ∧ Go K F1 H1 (wipe σ vs) (wipeE ρ1 vs) F H (wipe σ vs) (wipeE ρc vs) ∧ F D = Option.none ∧ H D = some (.lst vacc) ∧ DpAll K F vacc acc ∧ ¬ Own (wipe σ vs) (wipeE ρc vs) D ∧
    lcLoop gg ft fe vs (ds.drop i) ρc = some (rest, ρe) ∧ es' = acc ++ rest
  have go0 : Go K F1 H1 (wipe σ vs) (wipeE ρ1 vs) F1 (upd H1 D (.lst [])) (wipe σ vs) (wipeE ρ1 vs) := (Go.refl rw1).other hD (rw1.sub.free hD) (rw1.notOwn hD) _
  refine ⟨fun i m H => i + m = ds.length ∧ Inv' i H, ⟨ds.length, by omega, F1, ρ1, [], [], es', Same.refl _, go0, rw1.sub.free hD, upd_same, .nil, rw1.notOwn hD, h2, rfl⟩, fun i m H ⟨em, F, ρc, acc, vacc, rest, sF, go, fD, hDv, qa, nD, hl, ea⟩ => ?_⟩
  by_cases hi : i < ds.length
  · refine .inr ⟨wk.go i H (sF.trans go.rel.sub) hi, Inv' (i + 1), fun H' z => ⟨m - 1, by omega, by omega, z⟩, fun x H' hy => ?_⟩
    obtain ⟨d, F', hd, gr, hx⟩ := wk.yld i H x H' F sF go.rel.sub hi hy
    rw [dropCons hd] at hl
    obtain ⟨ρ2, k1, hl⟩ := Option.bind_eq_some_iff.mp hl
    obtain ⟨⟨b, ρ3⟩, k2, hl⟩ := Option.bind_eq_some_iff.mp hl
    have ga : Go K F H (wipe σ vs) (wipeE ρc vs) F' H' (wipe σ vs) (wipeE ρc vs) := Go.of_grow go.rel gr
    refine hg F' H' (wipe σ vs) (wipeE ρc vs) x d ρ2 _ k1 ga.rel hx fun F2 H2 σ2 g2 w2 => ⟨by rw [w2, wipe_wipe], ?_⟩
    refine ht F2 H2 σ2 ρ2 b ρ3 _ k2 g2.rel fun F3 H3 g3 => ?_
    have g13 := (ga.trans g2).trans g3
    obtain ⟨x1, x2, x3⟩ := g13.keep D _ hDv nD
    have w3 : wipe σ2 vs = wipe σ vs := by rw [w2, wipe_wipe]
    cases b with
    | false =>
      refine iteF ⟨F3, ρ3, acc, vacc, rest, sF.trans g13.ext, ?_, x2 fD, x1, qa.mono g13.ext, ?_, hl, ea⟩
      · have := (go.trans g13).wipe vs nb1
        rw [w3] at this
        exact this
      · intro z
        rw [← w3] at z
        obtain ⟨j, sl, es2, _, a1, a2, a3⟩ := own_wipe z
        exact x3 ⟨j, sl, es2, a1, a2, a3⟩
    | true =>
      obtain ⟨⟨y, ρ4⟩, k3, hl⟩ := Option.bind_eq_some_iff.mp (show (fe ρ3).bind _ = some (rest, ρe) from hl)
      obtain ⟨⟨r2, ρ5⟩, k4, hl⟩ := Option.bind_eq_some_iff.mp hl
      injection hl with hl; injection hl with e3 e4
      subst e3; subst e4
      refine iteT (he F3 H3 σ2 ρ3 y ρ4 _ k3 g3.rel fun vy F4 H4 g4 hvy => ?_)
      obtain ⟨y1, y2, y3⟩ := g4.keep D _ x1 x3
      have g14 := g13.trans g4
      have qa4 := qa.mono g14.ext
      have n4 : ¬ Own (wipe σ vs) (wipeE ρ4 vs) D := fun z => by
        rw [← w3] at z
        obtain ⟨j, sl, es2, _, a1, a2, a3⟩ := own_wipe z
        exact y3 ⟨j, sl, es2, a1, a2, a3⟩
      refine ⟨vacc, y1, ?_, F4, ρ4, acc ++ [y], vacc ++ [vy], r2, sF.trans g14.ext, ?_, y2 (x2 fD), upd_same, dpApp qa4 (.cons hvy .nil), n4, k4, by rw [ea, List.append_assoc]; rfl⟩
      · rw [dpLen qa]
        rw [ea, List.length_append, List.length_cons] at hsz
        exact Nat.lt_of_lt_of_le (by omega) hsz
      · have := (go.trans g14).wipe vs nb1
        rw [w3] at this
        exact this.other hD (y2 (x2 fD)) n4 _
  · have ei : i = ds.length := by omega
    subst ei
    rw [List.drop_length] at hl
    injection hl with hl; injection hl with e3 e4
    subst e3; subst e4
    rw [List.append_nil] at ea
    subst ea
    refine .inl ⟨wk.stop H (sF.trans go.rel.sub), ?_⟩
    have gb : Go K _ _ σ ρ F H σ (backE ρc ρ1 vs) := g1.back go
    refine q D vacc F H gb (g1.stay D hD) fD hDv qa fun z => ?_
    obtain ⟨j, sl, es2, a1, a2, a3⟩ := z
    have lenE : ρc.length = ρ1.length := by
      have := go.rel.len
      rw [wipe_length, wipeE_len] at this
      rw [← this, g1.rel.len]
    rw [backE_get] at a1
    by_cases hv : j ∈ vs
    · rw [if_pos hv] at a1
      by_cases hl : j < ρc.length
      · rw [if_pos hl] at a1
        injection a1 with a1
        have hl1 : j < ρ1.length := by omega
        have a4 : ρ1[j]? = some sl := by rw [← a1, List.getD_eq_getElem?_getD, List.getElem?_eq_getElem hl1]; rfl
        exact g1.rel.notOwn hD ⟨j, sl, es2, a4, a2, a3⟩
      · rw [if_neg hl] at a1; cases a1
    · rw [if_neg hv] at a1
      exact nD ⟨j, sl, es2, by rw [wipeE_get, if_neg hv]; exact a1, a2, by rw [wipe_get, if_neg hv]; exact a3⟩
/-- a comprehension's block, wherever -/
structure BlkIx (M : Fam P w K mg base k) where
  i : M.ι
  s : Shared
  H : Hp
  C : Addr
  cl : List (Str × Addr)
  fp : List Addr
@[reducible] def blkFam (M : Fam P w K mg base k) (scope : Scope) : Fam P w K mg base k where
  ι := BlkIx M
  X := fun b => (M.X b.i).blk b.s b.H scope (PySem.compEnvC scope b.cl b.C (M.X b.i).env) b.fp
  prog := fun b => M.prog b.i
  wd := fun b => M.wd b.i
  K := fun b => M.K b.i
  mg := fun b => M.mg b.i
  base := fun b => M.base b.i
  calm := fun b => M.calm b.i
  room := fun b => M.room b.i
theorem dts_nil : DTs M [] uTrue := ⟨tYes, fun _ => pts_nil, fun F H σ ρ b ρ' Q hf r q => by
  injection hf with hf; injection hf with e1 e2
  subst e1; subst e2
  exact q F H (Go.refl r)⟩
theorem dts_one {c : Expr} {f : TF} (h : DTe M c f) : DTs M [c] f := let ⟨t, a1, a2⟩ := h; ⟨t, fun j => pts_one (a1 j), a2⟩
theorem do_lc {elt : Expr} {ifs : List Expr} {scope : Scope} (own : List (Str × Nat)) {gg : GF} {ft : TF} {fe : EF} (nd : ∀ j, (M.X j).N.Nodup) (hi : DI M tg iter fi) (ok : ∀ j, BlkOk (M.X j).N (M.X j).env.scope scope own)
    (hg : DG (blkFam M scope) tg (own.map (·.2)) gg) (ht : DTs (blkFam M scope) ifs ft) (he : DE (blkFam M scope) elt fe) (hs : ∀ j x, foldedSetIterable iter (M.X j).env x = pure x := by intro _ _; rfl) :
    DO M (.ListComp elt [⟨tg, iter, ifs, 0⟩] scope pos) (oLc fi gg ft fe (own.map (·.2))) := by
  obtain ⟨wi, a1, a2⟩ := hi
  obtain ⟨g, b1, b2⟩ := hg
  obtain ⟨tt, c1, c2⟩ := ht
  obtain ⟨te, d1, d2⟩ := he
  exact ⟨_, fun j => pe_lc (M.calm j) (nd j) (a1 j) (ok j) (fun s H C cl fp => b1 ⟨j, s, H, C, cl, fp⟩) (fun s H C cl fp => c1 ⟨j, s, H, C, cl, fp⟩) (fun s H C cl fp => d1 ⟨j, s, H, C, cl, fp⟩) (hs j), refLc a2 b2 c2 d2⟩
theorem ds_setLc (i : Nat) {y : Str} {py spos : Pos} {elt : Expr} {ifs : List Expr} {scope : Scope} (own : List (Str × Nat)) {gg : GF} {ft : TF} {fe : EF} (nd : ∀ j, (M.X j).N.Nodup) (hi : DI M tg iter fi) (ok : ∀ j, BlkOk (M.X j).N (M.X j).env.scope scope own)
    (hg : DG (blkFam M scope) tg (own.map (·.2)) gg) (ht : DTs (blkFam M scope) ifs ft) (he : DE (blkFam M scope) elt fe) (hsw : ∀ j, swapsWith (.ListComp elt [⟨tg, iter, ifs, 0⟩] scope pos) (some (.Name y py)) spos.line (M.X j).env = pure true)
    (hy : ∀ j, (M.X j).N[i]? = some y := by intro _; rfl) (hyl : ∀ j, (M.X j).env.scope.names.lookup y = some .local := by intro _; rfl) (hs : ∀ j x, foldedSetIterable iter (M.X j).env x = pure x := by intro _ _; rfl) :
    DS M (.Assign [.Name y py] (.ListComp elt [⟨tg, iter, ifs, 0⟩] scope pos) spos) (sSetO i (oLc fi gg ft fe (own.map (·.2)))) := by
  obtain ⟨wi, a1, a2⟩ := hi
  obtain ⟨g, b1, b2⟩ := hg
  obtain ⟨tt, c1, c2⟩ := ht
  obtain ⟨te, d1, d2⟩ := he
  refine ⟨_, fun j => ps_setLc (M.calm j) (nd j) (hy j) (hyl j) (hsw j) (a1 j) (ok j) (fun s H C cl fp => b1 ⟨j, s, H, C, cl, fp⟩) (fun s H C cl fp => c1 ⟨j, s, H, C, cl, fp⟩) (fun s H C cl fp => d1 ⟨j, s, H, C, cl, fp⟩) (hs j), fun F H σ ρ o D hf r tk => ?_⟩
  obtain ⟨⟨ds, ρ1⟩, k1, k2⟩ := Option.bind_eq_some_iff.mp hf
  obtain ⟨ρ2, k3, k4⟩ := Option.map_eq_some_iff.mp k2
  subst k4
  refine refLc a2 b2 c2 d2 F H σ ρ ds ρ1 _ k1 r fun p vs F1 H1 g1 hp f1 h1 q n => ?_
  obtain ⟨rfl, hl, nb⟩ := putSl_some k3
  exact tk F1 H1 _ (g1.setO hp f1 h1 q n hl nb)
end
end DL

set_option Elab.async false
set_option linter.all false
set_option maxRecDepth 100000
set_option maxHeartbeats 4000000
namespace DL
open PySem PySem.Spec L2

/-! ### what is built in, by functions of data -/
def dAdd : Dt → Dt → Option Dt
  | .int i, .int j => some (.int (i + j))
  | .str a, .str b => if a.length + b.length ≤ sizeLine then some (.str (a ++ b)) else Option.none
  | .tuple a, .tuple b => if a.length + b.length ≤ sizeLine then some (.tuple (a ++ b)) else Option.none
  | .list a, .list b => if a.length + b.length ≤ sizeLine then some (.list (a ++ b)) else Option.none
  | _, _ => Option.none
def dSub : Dt → Dt → Option Dt
  | .int i, .int j => some (.int (i - j))
  | _, _ => Option.none
def dMul : Dt → Dt → Option Dt
  | .int i, .int j => if (-(2 ^ 64) < i ∧ i < 2 ^ 64) ∨ (-(2 ^ 64) < j ∧ j < 2 ^ 64) then some (.int (i * j)) else Option.none
  | _, _ => Option.none
def dMod : Dt → Dt → Option Dt
  | .int i, .int j => if j ≠ 0 then some (.int (i.fmod j)) else Option.none
  | _, _ => Option.none
def dDiv : Dt → Dt → Option Dt
  | .int i, .int j => if 0 < j ∧ j < 1073741824 then some (.int (i / j)) else Option.none
  | _, _ => Option.none
def dPow : Dt → Dt → Option Dt
  | .int i, .int j => if 0 ≤ j ∧ j ≤ 1000000 ∧ i.natAbs < 2 ^ 64 then some (.int (i ^ j.toNat)) else Option.none
  | _, _ => Option.none
def dNeg : Dt → Option Dt
  | .int i => some (.int (-i))
  | _ => Option.none
def dLt : Dt → Dt → Option Dt
  | .int i, .int j => some (.bool (decide (i < j)))
  | _, _ => Option.none
def dLe : Dt → Dt → Option Dt
  | .int i, .int j => some (.bool (decide (i ≤ j)))
  | _, _ => Option.none
def dGt : Dt → Dt → Option Dt
  | .int i, .int j => some (.bool (decide (j < i)))
  | _, _ => Option.none
def dGe : Dt → Dt → Option Dt
  | .int i, .int j => some (.bool (decide (j ≤ i)))
  | _, _ => Option.none
def vOf : Dt → Option V
  | .none => some .non
  | .bool b => some (.bl b)
  | .int i => some (.int i)
  | .str x => some (.str x)
  | _ => Option.none
def dEqS (d e : Dt) : Option Bool := match vOf d, vOf e with
  | some x, some y => if scal x y = true then some (decide (x = y)) else Option.none
  | _, _ => Option.none
def dEqB (d e : Dt) : Option Bool := match dEqS d e with
  | some b => some b
  | none => if SeqAt.shaped d = true ∧ SeqAt.shaped e = true then some (PyData.eqv d e) else Option.none
def dEq (d e : Dt) : Option Dt := (dEqB d e).map .bool
def dNe (d e : Dt) : Option Dt := (dEqB d e).map fun b => .bool (!b)
/-- one sign in a text -/
def dInB : Dt → Dt → Option Bool
  | .str a, .str z => match a.cps.toList with
    | [c] => some (decide (c ∈ z.cps.toList))
    | _ => Option.none
  | _, _ => Option.none
def dIn (d e : Dt) : Option Dt := (dInB d e).map .bool
def dNotIn (d e : Dt) : Option Dt := (dInB d e).map fun b => .bool (!b)
def vOfs : List Dt → Option (List V)
  | [] => some []
  | d :: ds => (vOf d).bind fun v => (vOfs ds).bind fun vs => some (v :: vs)
/-- x in a tuple, a list of plain things -/
def dInSB (d e : Dt) : Option Bool := (vOf d).bind fun x => match e with
  | .tuple ds => (vOfs ds).map fun vs => inV x vs
  | .list ds => (vOfs ds).map fun vs => inV x vs
  | _ => Option.none
def dInS (d e : Dt) : Option Dt := (dInSB d e).map .bool
def dNotInS (d e : Dt) : Option Dt := (dInSB d e).map fun b => .bool (!b)
def dLen1 : Dt → Option Dt
  | .str z => if z.length ≤ sizeLine then some (.int (z.length : Int)) else Option.none
  | .list ds => some (.int (ds.length : Int))
  | .tuple ds => some (.int (ds.length : Int))
  | .dict [(.list ds, .none)] => some (.int (ds.length : Int))
  | _ => Option.none
def dIx : Dt → Dt → Option Dt
  | .list ds, .int i => atI ds i
  | .tuple ds, .int i => atI ds i
  | .dict [(.list ds, .none)], .int i => atI ds i
  | .str z, .int i => if z.length ≤ sizeLine then (atI z.cps.toList i).map fun c => .str ⟨#[c]⟩ else Option.none
  | _, _ => Option.none
def dAbs : Dt → Option Dt
  | .int i => some (.int (if i < 0 then -i else i))
  | _ => Option.none
def dMax2 : Dt → Dt → Option Dt
  | .int i, .int j => some (.int (if j > i then j else i))
  | _, _ => Option.none
def dMin2 : Dt → Dt → Option Dt
  | .int i, .int j => some (.int (if j < i then j else i))
  | _, _ => Option.none
def dInt : Dt → Option Dt
  | .int i => some (.int i)
  | .bool k => some (.int (if k then 1 else 0))
  | .str a => if a.length ≤ 640 then (PySem.intText? a).map .int else Option.none
  | _ => Option.none
def dStr : Dt → Option Dt
  | .int i => if i.natAbs.log2 < 1920 then some (.str (toString i)) else Option.none
  | _ => Option.none
def dDivmod : Dt → Dt → Option Dt
  | .int i, .int j => if 0 < j ∧ j < 1073741824 then some (.tuple [.int (i / j), .int (i % j)]) else Option.none
  | _, _ => Option.none
def intsOf : List Dt → Option (List Int)
  | [] => some []
  | .int i :: r => (intsOf r).map (i :: ·)
  | _ :: _ => Option.none
def bolsOf : List Dt → Option (List Bool)
  | [] => some []
  | .bool i :: r => (bolsOf r).map (i :: ·)
  | _ :: _ => Option.none
def strsOf : List Dt → Option (List Str)
  | [] => some []
  | .str i :: r => (strsOf r).map (i :: ·)
  | _ :: _ => Option.none
def dSum : Dt → Option Dt
  | .list ds => (intsOf ds).map fun ns => .int ns.sum
  | _ => Option.none
def dAll : Dt → Option Dt
  | .list ds => (bolsOf ds).map fun bs => .bool (bs.all id)
  | _ => Option.none
def dAny : Dt → Option Dt
  | .list ds => (bolsOf ds).map fun bs => .bool (bs.any id)
  | _ => Option.none
def maxI : List Int → Int
  | [] => 0
  | [x] => x
  | x :: y :: r => max x (maxI (y :: r))
def minI : List Int → Int
  | [] => 0
  | [x] => x
  | x :: y :: r => min x (minI (y :: r))
def dMax : Dt → Option Dt
  | .list ds => (intsOf ds).bind fun ns => if ns.length = 0 then Option.none else some (.int (maxI ns))
  | _ => Option.none
def dMin : Dt → Option Dt
  | .list ds => (intsOf ds).bind fun ns => if ns.length = 0 then Option.none else some (.int (minI ns))
  | _ => Option.none
def dTuple : Dt → Option Dt
  | .list ds => some (.tuple ds)
  | .tuple ds => some (.tuple ds)
  | _ => Option.none
def dList : Dt → Option (List Dt)
  | .list ds => some ds
  | .tuple ds => some ds
  | _ => Option.none
def cutD (ds : List Dt) (lo hi : Option Int) : List Dt := (ds.drop (HT.sIx ds.length 0 lo)).take (HT.sIx ds.length ds.length hi - HT.sIx ds.length 0 lo)
def dSlice (d : Dt) (lo hi : Option Int) : Option Dt := match d with
  | .str z => if z.length ≤ sizeLine then some (.str (cutS z lo hi)) else Option.none
  | .tuple ds => some (.tuple (cutD ds lo hi))
  | .list ds => some (.list (cutD ds lo hi))
  | .dict [(.list ds, .none)] => some (.list (cutD ds lo hi))
  | _ => Option.none
def dIndexS : Dt → Dt → Option Dt
  | .str a, .str b => (PySem.Txt.index0 a b).map fun k => .int (k : Nat)
  | _, _ => Option.none
def dJoin : Dt → Dt → Option Dt
  | .str a, .list ds => (strsOf ds).bind fun ys => if (ys.map (·.length)).sum + ys.length * a.length ≤ 16777216 then some (.str (PySem.Txt.join a ys)) else Option.none
  | .str a, .tuple ds => (strsOf ds).bind fun ys => if (ys.map (·.length)).sum + ys.length * a.length ≤ 16777216 then some (.str (PySem.Txt.join a ys)) else Option.none
  | _, _ => Option.none
def dZfill : Dt → Dt → Option Dt
  | .str a, .int i => if PadOk i = true then some (.str (PySem.Txt.zfill a i)) else Option.none
  | _, _ => Option.none
def dLjust : Dt → Dt → Option Dt
  | .str a, .int i => if PadOk i = true then some (.str (PySem.Txt.ljust a i)) else Option.none
  | _, _ => Option.none
/-- isinstance(x, T), T a built-in class -/
def tyOfD : Dt → Option String
  | .none => some "NoneType"
  | .bool _ => some "bool"
  | .int _ => some "int"
  | .str _ => some "str"
  | .list _ => some "list"
  | .tuple _ => some "tuple"
  | _ => Option.none
def dIsi (T : String) (d : Dt) : Option Dt := (tyOfD d).bind fun t => (kitB t T).map .bool
def dItems : Dt → Option (List Dt)
  | .list ds => some ds
  | .tuple ds => some ds
  | .dict [(.list ds, .none)] => some ds
  | .str z => some (z.cps.toList.map fun c => .str ⟨#[c]⟩)
  | _ => Option.none

section
variable {K : Frg} {F H : Hp}
theorem intsOf_map : ∀ {ds : List Dt} {ns : List Int}, intsOf ds = some ns → ds = ns.map PyData.int
  | [], _, h => by injection h with h; subst h; rfl
  | .int i :: r, _, h => by
    obtain ⟨ns, h1, h2⟩ := Option.map_eq_some_iff.mp h
    subst h2
    rw [intsOf_map h1]; rfl
  | .none :: _, _, h => by cases h
  | .bool _ :: _, _, h => by cases h
  | .str _ :: _, _, h => by cases h
  | .list _ :: _, _, h => by cases h
  | .tuple _ :: _, _, h => by cases h
  | .dict _ :: _, _, h => by cases h
theorem bolsOf_map : ∀ {ds : List Dt} {ns : List Bool}, bolsOf ds = some ns → ds = ns.map PyData.bool
  | [], _, h => by injection h with h; subst h; rfl
  | .bool i :: r, _, h => by
    obtain ⟨ns, h1, h2⟩ := Option.map_eq_some_iff.mp h
    subst h2
    rw [bolsOf_map h1]; rfl
  | .none :: _, _, h => by cases h
  | .int _ :: _, _, h => by cases h
  | .str _ :: _, _, h => by cases h
  | .list _ :: _, _, h => by cases h
  | .tuple _ :: _, _, h => by cases h
  | .dict _ :: _, _, h => by cases h
theorem strsOf_map : ∀ {ds : List Dt} {ns : List Str}, strsOf ds = some ns → ds = ns.map PyData.str
  | [], _, h => by injection h with h; subst h; rfl
  | .str i :: r, _, h => by
    obtain ⟨ns, h1, h2⟩ := Option.map_eq_some_iff.mp h
    subst h2
    rw [strsOf_map h1]; rfl
  | .none :: _, _, h => by cases h
  | .bool _ :: _, _, h => by cases h
  | .int _ :: _, _, h => by cases h
  | .list _ :: _, _, h => by cases h
  | .tuple _ :: _, _, h => by cases h
  | .dict _ :: _, _, h => by cases h
theorem vOf_dp {d : Dt} {x v : V} (h : vOf d = some x) (q : Dp K F v d) : v = x := by
  cases q <;> first | (injection h) | (cases h)
theorem vOfs_dp : ∀ {ds : List Dt} {vs : List V} {xs : List V}, vOfs ds = some vs → DpAll K F xs ds → xs = vs
  | [], _, _, h, q => by cases q; injection h
  | d :: ds, _, _, h, q => by
    cases q with
    | cons q1 q2 =>
      obtain ⟨v, h1, h⟩ := Option.bind_eq_some_iff.mp h
      obtain ⟨vs, h2, h⟩ := Option.bind_eq_some_iff.mp h
      injection h with h; subst h
      rw [vOf_dp h1 q1, vOfs_dp h2 q2]
theorem vOf_flat {d : Dt} {x : V} (h : vOf d = some x) : flatV x = true := by
  cases d <;> first | (cases h; done) | (injection h with h; subst h; rfl)
theorem vOfs_flat : ∀ {ds : List Dt} {vs : List V}, vOfs ds = some vs → vs.all flatV = true
  | [], _, h => by injection h with h; subst h; rfl
  | d :: ds, _, h => by
    obtain ⟨v, h1, h⟩ := Option.bind_eq_some_iff.mp h
    obtain ⟨vs, h2, h⟩ := Option.bind_eq_some_iff.mp h
    injection h with h; subst h
    rw [List.all_cons, vOf_flat h1, vOfs_flat h2]; rfl
theorem rdSq {a : Addr} {xs : List V} (s : Same F H) (h : F a = some (.lst xs)) : SqL K H a xs := SqL.of (s _ _ h)
/-- no new thing -/
theorem Grow.same (s : Same F H) : Grow F H F H := Grow.refl s
end

section
variable {P : Program} {w : World} {K : Frg} {mg : Str → Option Value} {base : Heap} {k : Nat} {M : Fam P w K mg base k}
/-! ### operators -/
theorem addS : OpS M (binaryOp .Add) dAdd := by
  refine ⟨⟨fun x y H Q => ((rI0 (fun i j => .int (i + j)) x y H Q ∨ (∃ i j, x = .str i ∧ y = .str j ∧ i.length + j.length ≤ sizeLine ∧ Q (.str (i ++ j)) H)) ∨ rCatA K x y H Q) ∨ rCat x y H Q, fun j => ?_, ?_⟩⟩
  · have z := (((op_add (X := M.X j)).or op_add_str).or op_catA).or op_cat
    rw [M.K j] at z
    exact z
  · intro F H x y d e c Q s hx hy hg q
    cases hx with
    | int i => cases hy <;> first | (cases hg; done) | (injection hg with hg; subst hg; exact .inl (.inl (.inl ⟨_, _, rfl, rfl, q _ F H (Grow.refl s) (.int _)⟩)))
    | str i =>
      cases hy <;> first | (cases hg; done) | skip
      rename_i j
      have hg' : (if i.length + j.length ≤ sizeLine then some (PyData.str (i ++ j)) else Option.none) = some c := hg
      by_cases hl : i.length + j.length ≤ sizeLine
      · rw [if_pos hl] at hg'; injection hg' with hg'; subst hg'
        exact .inl (.inl (.inr ⟨_, _, rfl, rfl, hl, q _ F H (Grow.refl s) (.str _)⟩))
      · rw [if_neg hl] at hg'; cases hg'
    | tup h1 h2 =>
      rename_i a xs ds
      cases hy <;> first | (cases hg; done) | skip
      rename_i b ys es h3 h4
      have hg' : (if ds.length + es.length ≤ sizeLine then some (PyData.tuple (ds ++ es)) else Option.none) = some c := hg
      by_cases hl : ds.length + es.length ≤ sizeLine
      · rw [if_pos hl] at hg'; injection hg' with hg'; subst hg'
        refine .inl (.inr ⟨a, b, xs, ys, rfl, rfl, seqT s h1, seqT s h3, by rw [dpLen h2, dpLen h4]; exact hl, fun e => ?_, fun _ e => ?_, fun _ _ p hp => ?_⟩)
        · subst e
          cases h2
          exact q _ F H (Grow.refl s) (.tup h3 h4)
        · subst e
          cases h4
          exact q _ F H (Grow.refl s) (by rw [List.append_nil]; exact .tup h1 h2)
        · have gr := Grow.new s hp (.tup (xs ++ ys))
          exact q _ _ _ gr (.tup (SqT.of upd_same) (dpApp (h2.mono gr.ext) (h4.mono gr.ext)))
      · rw [if_neg hl] at hg'; cases hg'
    | lst h1 h2 =>
      rename_i a xs ds
      cases hy <;> first | (cases hg; done) | skip
      rename_i b ys es h3 h4
      have hg' : (if ds.length + es.length ≤ sizeLine then some (PyData.list (ds ++ es)) else Option.none) = some c := hg
      by_cases hl : ds.length + es.length ≤ sizeLine
      · rw [if_pos hl] at hg'; injection hg' with hg'; subst hg'
        refine .inr ⟨a, b, xs, ys, rfl, rfl, s _ _ h1, s _ _ h3, by rw [dpLen h2, dpLen h4]; exact hl, fun p hp => ?_⟩
        have gr := Grow.new s hp (.lst (xs ++ ys))
        exact q _ _ _ gr (.lst upd_same (dpApp (h2.mono gr.ext) (h4.mono gr.ext)))
      · rw [if_neg hl] at hg'; cases hg'
    | non => cases hg
    | bl _ => cases hg
    | ro _ _ => cases hg
/-- an operator on ints -/
theorem intS {f : Value → Value → Sem Value} {C : Int → Int → Prop} {g : Int → Int → V} {gd : Int → Int → Dt} {d : Dt → Dt → Option Dt} (o : ∀ j, OpR (M.X j) f (rI C g)) (hv : ∀ i j F, Dp K F (g i j) (gd i j))
    (hd : ∀ a b c, d a b = some c → ∃ i j, a = .int i ∧ b = .int j ∧ C i j ∧ c = gd i j) : OpS M f d := by
  refine ⟨⟨_, o, fun F H x y a b c Q s hx hy hg q => ?_⟩⟩
  obtain ⟨i, j, rfl, rfl, hc, rfl⟩ := hd a b c hg
  cases hx
  cases hy
  exact ⟨i, j, rfl, rfl, hc, q _ F H (Grow.refl s) (hv i j F)⟩
theorem intS0 {f : Value → Value → Sem Value} {g : Int → Int → V} {gd : Int → Int → Dt} {d : Dt → Dt → Option Dt} (o : ∀ j, OpR (M.X j) f (rI0 g)) (hv : ∀ i j F, Dp K F (g i j) (gd i j))
    (hd : ∀ a b c, d a b = some c → ∃ i j, a = .int i ∧ b = .int j ∧ c = gd i j) : OpS M f d := by
  refine ⟨⟨_, o, fun F H x y a b c Q s hx hy hg q => ?_⟩⟩
  obtain ⟨i, j, rfl, rfl, rfl⟩ := hd a b c hg
  cases hx
  cases hy
  exact ⟨i, j, rfl, rfl, q _ F H (Grow.refl s) (hv i j F)⟩
theorem subS : OpS M (binaryOp .Sub) dSub := intS0 (gd := fun i j => .int (i - j)) (fun _ => op_sub) (fun i j F => .int _) fun a b c h => by
  cases a <;> cases b <;> first | (cases h; done) | (injection h with h; exact ⟨_, _, rfl, rfl, h.symm⟩)
theorem mulS : OpS M (binaryOp .Mult) dMul := intS (gd := fun i j => .int (i * j)) (fun _ => op_mul) (fun i j F => .int _) fun a b c h => by
  cases a <;> cases b <;> first | (cases h; done) | skip
  rename_i i j
  have h' : (if (-(2 ^ 64) < i ∧ i < 2 ^ 64) ∨ (-(2 ^ 64) < j ∧ j < 2 ^ 64) then some (PyData.int (i * j)) else Option.none) = some c := h
  by_cases hc : (-(2 ^ 64) < i ∧ i < 2 ^ 64) ∨ (-(2 ^ 64) < j ∧ j < 2 ^ 64)
  · rw [if_pos hc] at h'; injection h' with h'; exact ⟨i, j, rfl, rfl, hc, h'.symm⟩
  · rw [if_neg hc] at h'; cases h'
theorem modS : OpS M (binaryOp .Mod) dMod := intS (gd := fun i j => .int (i.fmod j)) (fun _ => op_modN) (fun i j F => .int _) fun a b c h => by
  cases a <;> cases b <;> first | (cases h; done) | skip
  rename_i i j
  have h' : (if j ≠ 0 then some (PyData.int (i.fmod j)) else Option.none) = some c := h
  by_cases hc : j ≠ 0
  · rw [if_pos hc] at h'; injection h' with h'; exact ⟨i, j, rfl, rfl, hc, h'.symm⟩
  · rw [if_neg hc] at h'; cases h'
theorem divS : OpS M (binaryOp .FloorDiv) dDiv := intS (gd := fun i j => .int (i / j)) (fun _ => op_fdiv) (fun i j F => .int _) fun a b c h => by
  cases a <;> cases b <;> first | (cases h; done) | skip
  rename_i i j
  have h' : (if 0 < j ∧ j < 1073741824 then some (PyData.int (i / j)) else Option.none) = some c := h
  by_cases hc : 0 < j ∧ j < 1073741824
  · rw [if_pos hc] at h'; injection h' with h'; exact ⟨i, j, rfl, rfl, hc, h'.symm⟩
  · rw [if_neg hc] at h'; cases h'
theorem powS : OpS M (binaryOp .Pow) dPow := intS (gd := fun i j => .int (i ^ j.toNat)) (fun _ => op_pow) (fun i j F => .int _) fun a b c h => by
  cases a <;> cases b <;> first | (cases h; done) | skip
  rename_i i j
  have h' : (if 0 ≤ j ∧ j ≤ 1000000 ∧ i.natAbs < 2 ^ 64 then some (PyData.int (i ^ j.toNat)) else Option.none) = some c := h
  by_cases hc : 0 ≤ j ∧ j ≤ 1000000 ∧ i.natAbs < 2 ^ 64
  · rw [if_pos hc] at h'; injection h' with h'; exact ⟨i, j, rfl, rfl, hc, h'.symm⟩
  · rw [if_neg hc] at h'; cases h'
theorem ltS : OpS M (compareOp .Lt) dLt := intS0 (gd := fun i j => .bool (decide (i < j))) (fun _ => op_lt) (fun i j F => .bl _) fun a b c h => by
  cases a <;> cases b <;> first | (cases h; done) | (injection h with h; exact ⟨_, _, rfl, rfl, h.symm⟩)
theorem leS : OpS M (compareOp .LtE) dLe := intS0 (gd := fun i j => .bool (decide (i ≤ j))) (fun _ => op_le) (fun i j F => .bl _) fun a b c h => by
  cases a <;> cases b <;> first | (cases h; done) | (injection h with h; exact ⟨_, _, rfl, rfl, h.symm⟩)
theorem gtS : OpS M (compareOp .Gt) dGt := intS0 (gd := fun i j => .bool (decide (j < i))) (fun _ => op_gt) (fun i j F => .bl _) fun a b c h => by
  cases a <;> cases b <;> first | (cases h; done) | (injection h with h; exact ⟨_, _, rfl, rfl, h.symm⟩)
theorem geS : OpS M (compareOp .GtE) dGe := intS0 (gd := fun i j => .bool (decide (j ≤ i))) (fun _ => op_ge) (fun i j F => .bl _) fun a b c h => by
  cases a <;> cases b <;> first | (cases h; done) | (injection h with h; exact ⟨_, _, rfl, rfl, h.symm⟩)
theorem negS : UnS M (unaryOp .USub) dNeg := ⟨⟨_, fun _ => un_neg, fun F H x d c Q s hx hg q => by
  cases hx <;> first | (cases hg; done) | skip
  injection hg with hg; subst hg
  exact ⟨_, rfl, q _ F H (Grow.refl s) (.int _)⟩⟩⟩
theorem dEqS_dp {F : Hp} {x y : V} {d e : Dt} {b : Bool} (h : dEqS d e = some b) (hx : Dp K F x d) (hy : Dp K F y e) : scal x y = true ∧ b = decide (x = y) := by
  unfold dEqS at h
  cases e1 : vOf d with
  | none => rw [e1] at h; cases h
  | some u =>
    cases e2 : vOf e with
    | none => rw [e1, e2] at h; cases h
    | some v =>
      rw [e1, e2] at h
      have h' : (if scal u v = true then some (decide (u = v)) else Option.none) = some b := h
      by_cases hs : scal u v = true
      · rw [if_pos hs] at h'; injection h' with h'
        rw [vOf_dp e1 hx, vOf_dp e2 hy]
        exact ⟨hs, h'.symm⟩
      · rw [if_neg hs] at h'; cases h'
theorem eqBoth {F H : Hp} {x y : V} {d e : Dt} {b : Bool} (s : Same F H) (h : dEqB d e = some b) (hx : Dp K F x d) (hy : Dp K F y e) :
    (scal x y = true ∧ b = decide (x = y)) ∨ ∃ d e, L2.Dp K H x d ∧ L2.Dp K H y e ∧ SeqAt.shaped d = true ∧ SeqAt.shaped e = true ∧ b = PyData.eqv d e := by
  unfold dEqB at h
  cases e1 : dEqS d e with
  | some c =>
    rw [e1] at h; injection h with h; subst h
    exact .inl (dEqS_dp e1 hx hy)
  | none =>
    rw [e1] at h
    have h' : (if SeqAt.shaped d = true ∧ SeqAt.shaped e = true then some (PyData.eqv d e) else Option.none) = some b := h
    by_cases hs : SeqAt.shaped d = true ∧ SeqAt.shaped e = true
    · rw [if_pos hs] at h'; injection h' with h'
      exact .inr ⟨d, e, (hx.mono s).plain (SeqAt.canLay_of_shaped hs.1), (hy.mono s).plain (SeqAt.canLay_of_shaped hs.2), hs.1, hs.2, h'.symm⟩
    · rw [if_neg hs] at h'; cases h'
theorem eqS : OpS M (compareOp .Eq) dEq := by
  refine ⟨⟨fun x y H Q => rEq x y H Q ∨ rEqD K x y H Q, fun j => ?_, fun F H x y d e c Q s hx hy hg q => ?_⟩⟩
  · have z := (op_eq (X := M.X j)).or (op_eqD (M.room j).units)
    rw [M.K j] at z
    exact z
  · obtain ⟨b, hb, rfl⟩ := Option.map_eq_some_iff.mp hg
    rcases eqBoth s hb hx hy with ⟨h1, rfl⟩ | ⟨d', e', h1, h2, h3, h4, rfl⟩
    · exact .inl ⟨h1, q _ F H (Grow.refl s) (.bl _)⟩
    · exact .inr ⟨d', e', h1, h2, h3, h4, q _ F H (Grow.refl s) (.bl _)⟩
theorem neS : OpS M (compareOp .NotEq) dNe := by
  refine ⟨⟨fun x y H Q => rNe x y H Q ∨ rNeD K x y H Q, fun j => ?_, fun F H x y d e c Q s hx hy hg q => ?_⟩⟩
  · have z := (op_ne (X := M.X j)).or (op_neD (M.room j).units)
    rw [M.K j] at z
    exact z
  · obtain ⟨b, hb, rfl⟩ := Option.map_eq_some_iff.mp hg
    rcases eqBoth s hb hx hy with ⟨h1, rfl⟩ | ⟨d', e', h1, h2, h3, h4, rfl⟩
    · exact .inl ⟨h1, q _ F H (Grow.refl s) (.bl _)⟩
    · exact .inr ⟨d', e', h1, h2, h3, h4, q _ F H (Grow.refl s) (.bl _)⟩
theorem dIn_inv {d e : Dt} {b : Bool} (h : dInB d e = some b) : ∃ n z, d = .str ⟨#[n]⟩ ∧ e = .str z ∧ b = decide (n ∈ z.cps.toList) := by
  cases d <;> cases e <;> first | (cases h; done) | skip
  rename_i a z
  have h' : (match a.cps.toList with
    | [c] => some (decide (c ∈ z.cps.toList))
    | _ => Option.none) = some b := h
  cases e1 : a.cps.toList with
  | nil => rw [e1] at h'; cases h'
  | cons c r =>
    cases r with
    | cons _ _ => rw [e1] at h'; cases h'
    | nil =>
      rw [e1] at h'
      injection h' with h'
      refine ⟨c, z, ?_, rfl, h'.symm⟩
      congr 1
      cases a with
      | mk cps =>
        congr 1
        exact Array.toList_inj.mp e1
theorem inS : OpS M (compareOp .In) dIn := ⟨⟨_, fun _ => op_in_sign, fun F H x y d e c Q s hx hy hg q => by
  obtain ⟨b, hb, rfl⟩ := Option.map_eq_some_iff.mp hg
  obtain ⟨n, z, rfl, rfl, rfl⟩ := dIn_inv hb
  cases hx; cases hy
  exact ⟨n, z, rfl, rfl, q _ F H (Grow.refl s) (.bl _)⟩⟩⟩
theorem notInS : OpS M (compareOp .NotIn) dNotIn := ⟨⟨_, fun _ => op_notIn_sign, fun F H x y d e c Q s hx hy hg q => by
  obtain ⟨b, hb, rfl⟩ := Option.map_eq_some_iff.mp hg
  obtain ⟨n, z, rfl, rfl, rfl⟩ := dIn_inv hb
  cases hx; cases hy
  exact ⟨n, z, rfl, rfl, q _ F H (Grow.refl s) (.bl _)⟩⟩⟩
theorem inSeqB {F H : Hp} {x y : V} {d e : Dt} {b : Bool} (s : Same F H) (h : dInSB d e = some b) (hx : Dp K F x d) (hy : Dp K F y e) : ∃ p xs, y = .ref p ∧ (SqL K H p xs ∨ SqT K H p xs) ∧ flatV x = true ∧ xs.all flatV = true ∧ b = inV x xs := by
  obtain ⟨u, h1, h⟩ := Option.bind_eq_some_iff.mp h
  cases hy with
  | lst h2 h3 =>
    obtain ⟨vs, h4, h5⟩ := Option.map_eq_some_iff.mp h
    subst h5
    have e1 := vOf_dp h1 hx
    have e2 := vOfs_dp h4 h3
    subst e1; subst e2
    exact ⟨_, _, rfl, .inl (rdSq s h2), vOf_flat h1, vOfs_flat h4, rfl⟩
  | tup h2 h3 =>
    obtain ⟨vs, h4, h5⟩ := Option.map_eq_some_iff.mp h
    subst h5
    have e1 := vOf_dp h1 hx
    have e2 := vOfs_dp h4 h3
    subst e1; subst e2
    exact ⟨_, _, rfl, .inr (seqT s h2), vOf_flat h1, vOfs_flat h4, rfl⟩
  | non => cases h
  | bl _ => cases h
  | int _ => cases h
  | str _ => cases h
  | ro _ _ => cases h
theorem inSeqS : OpS M (compareOp .In) dInS := by
  refine ⟨⟨rIn K false, fun j => ?_, fun F H x y d e c Q s hx hy hg q => ?_⟩⟩
  · have z := op_in_seq (X := M.X j); rw [M.K j] at z; exact z
  · obtain ⟨b, hb, rfl⟩ := Option.map_eq_some_iff.mp hg
    obtain ⟨p, xs, h1, h2, h3, h4, rfl⟩ := inSeqB s hb hx hy
    exact ⟨p, xs, h1, h2, h3, h4, q _ F H (Grow.refl s) (.bl _)⟩
theorem notInSeqS : OpS M (compareOp .NotIn) dNotInS := by
  refine ⟨⟨rIn K true, fun j => ?_, fun F H x y d e c Q s hx hy hg q => ?_⟩⟩
  · have z := op_notIn_seq (X := M.X j); rw [M.K j] at z; exact z
  · obtain ⟨b, hb, rfl⟩ := Option.map_eq_some_iff.mp hg
    obtain ⟨p, xs, h1, h2, h3, h4, rfl⟩ := inSeqB s hb hx hy
    exact ⟨p, xs, h1, h2, h3, h4, q _ F H (Grow.refl s) (.bl _)⟩
end
end DL

set_option Elab.async false
set_option linter.all false
set_option maxRecDepth 100000
set_option maxHeartbeats 4000000
namespace DL
open PySem PySem.Spec L2

/-! ### calls of what is built in -/
def g1 (f : Dt → Option Dt) : List Dt → Option Dt
  | [a] => f a
  | _ => Option.none
def g2 (f : Dt → Dt → Option Dt) : List Dt → Option Dt
  | [a, b] => f a b
  | _ => Option.none
section
variable {P : Program} {w : World} {K : Frg} {mg : Str → Option Value} {base : Heap} {k : Nat} {M : Fam P w K mg base k} {x : Str} {p pos : Pos} {e a b c : Expr} {es : List Expr} {fa : AF} {fe fb : EF}
structure ClS (M : Fam P w K mg base k) (f : Value) (g : List Dt → Option Dt) : Prop where
  ex : ∃ r, (∀ j, CallR (M.X j) f r) ∧ ClD K r g
theorem de_blt {id : String} {g : List Dt → Option Dt} (c : ClS M (.builtin id) g) (hm : mg x = Option.none) (hv : bootBuiltins x = some (.builtin id)) (ha : DA M (e :: es) fa) (hg : ∀ j, Gl (M.X j) x := by intro _; rfl) (hn : x ≠ "__name__" := by decide) (hdb : (x == ("__debug__" : Str)) = false := by decide)
    (he : ∀ j, starEach (e :: es) (M.X j).env = (false, eval e (M.X j).env) :: starEach es (M.X j).env := by intro _; rfl) (hpl : ∀ j, (backTo pos (starEach es (M.X j).env)).any (·.1) = false := by intro _; rfl) : DE M (.Call (.Name x p) (e :: es) [] pos) (eCall g fa) := by
  obtain ⟨r, c1, c2⟩ := c.ex
  obtain ⟨t, a1, a2⟩ := ha
  exact ⟨tCB r t, fun j => pe_callB (c1 j) (hg j) (by rw [M.mg j]; exact hm) hv (a1 j) hn hdb (he j) (hpl j), refCl c2 a2⟩
theorem de_ty {id : String} {g : List Dt → Option Dt} (c : ClS M (.type id) g) (hm : mg x = Option.none) (hv : bootBuiltins x = some (.type id)) (ha : DA M (e :: es) fa) (hg : ∀ j, Gl (M.X j) x := by intro _; rfl) (hn : x ≠ "__name__" := by decide) (hdb : (x == ("__debug__" : Str)) = false := by decide)
    (he : ∀ j, starEach (e :: es) (M.X j).env = (false, eval e (M.X j).env) :: starEach es (M.X j).env := by intro _; rfl) (hpl : ∀ j, (backTo pos (starEach es (M.X j).env)).any (·.1) = false := by intro _; rfl) : DE M (.Call (.Name x p) (e :: es) [] pos) (eCall g fa) := by
  obtain ⟨r, c1, c2⟩ := c.ex
  obtain ⟨t, a1, a2⟩ := ha
  exact ⟨tCB r t, fun j => pe_callTy (c1 j) (hg j) (by rw [M.mg j]; exact hm) hv (a1 j) hn hdb (he j) (hpl j), refCl c2 a2⟩
theorem one_inv {K : Frg} {F : Hp} {f : Dt → Option Dt} {xs : List V} {ds : List Dt} {c : Dt} (h : g1 f ds = some c) (q : DpAll K F xs ds) : ∃ x d, xs = [x] ∧ ds = [d] ∧ Dp K F x d ∧ f d = some c := by
  cases q with
  | nil => cases h
  | cons h1 h2 =>
    cases h2 with
    | nil => exact ⟨_, _, rfl, rfl, h1, h⟩
    | cons _ _ => cases h
theorem two_inv {K : Frg} {F : Hp} {f : Dt → Dt → Option Dt} {xs : List V} {ds : List Dt} {c : Dt} (h : g2 f ds = some c) (q : DpAll K F xs ds) : ∃ x y d e, xs = [x, y] ∧ ds = [d, e] ∧ Dp K F x d ∧ Dp K F y e ∧ f d e = some c := by
  cases q with
  | nil => cases h
  | cons h1 h2 =>
    cases h2 with
    | nil => cases h
    | cons h2 h3 =>
      cases h3 with
      | nil => exact ⟨_, _, _, _, rfl, rfl, h1, h2, h⟩
      | cons _ _ => cases h
theorem len_inv {F H : Hp} {x : V} {d c : Dt} (s : Same F H) (hx : Dp K F x d) (h : dLen1 d = some c) : ∃ n : Nat, LenV K x H n ∧ c = .int n := by
  cases hx with
  | str z =>
    have h' : (if z.length ≤ sizeLine then some (PyData.int (z.length : Int)) else Option.none) = some c := h
    by_cases hl : z.length ≤ sizeLine
    · rw [if_pos hl] at h'; injection h' with h'
      exact ⟨z.length, ⟨hl, rfl⟩, h'.symm⟩
    · rw [if_neg hl] at h'; cases h'
  | lst h1 h2 => injection h with h; exact ⟨_, .inl ⟨_, rdSq s h1, rfl⟩, by rw [dpLen h2]; exact h.symm⟩
  | tup h1 h2 => injection h with h; exact ⟨_, .inr ⟨_, seqT s h1, rfl⟩, by rw [dpLen h2]; exact h.symm⟩
  | ro h1 h2 => injection h with h; exact ⟨_, .inl ⟨_, s.seq h1, rfl⟩, by rw [dpLen h2]; exact h.symm⟩
  | non => cases h
  | bl _ => cases h
  | int _ => cases h
theorem lenC : ClS M (.builtin "len") (g1 dLen1) := by
  refine ⟨⟨fun xs H Q => ∃ x n, xs = [x] ∧ LenV K x H n ∧ Q (.int n) H, fun j => ?_, fun F H xs ds c Q s hx hg q => ?_⟩⟩
  · have z := call_len (X := M.X j); rw [M.K j] at z; exact z
  · obtain ⟨x, d, rfl, rfl, h1, h2⟩ := one_inv hg hx
    obtain ⟨n, h3, rfl⟩ := len_inv s h1 h2
    exact ⟨x, n, rfl, h3, q _ F H (Grow.refl s) (.int _)⟩
theorem absC : ClS M (.builtin "abs") (g1 dAbs) := ⟨⟨_, fun _ => call_abs, fun F H xs ds c Q s hx hg q => by
  obtain ⟨x, d, rfl, rfl, h1, h2⟩ := one_inv hg hx
  cases h1 <;> first | (cases h2; done) | skip
  injection h2 with h2; subst h2
  exact ⟨_, rfl, q _ F H (Grow.refl s) (.int _)⟩⟩⟩
theorem max2C : ClS M (.builtin "max") (g2 dMax2) := ⟨⟨_, fun j => call_max2 (M.calm j), fun F H xs ds c Q s hx hg q => by
  obtain ⟨x, y, d, e, rfl, rfl, h1, h2, h3⟩ := two_inv hg hx
  cases h1 <;> cases h2 <;> first | (cases h3; done) | skip
  injection h3 with h3; subst h3
  exact ⟨_, _, rfl, q _ F H (Grow.refl s) (.int _)⟩⟩⟩
theorem min2C : ClS M (.builtin "min") (g2 dMin2) := ⟨⟨_, fun j => call_min2 (M.calm j), fun F H xs ds c Q s hx hg q => by
  obtain ⟨x, y, d, e, rfl, rfl, h1, h2, h3⟩ := two_inv hg hx
  cases h1 <;> cases h2 <;> first | (cases h3; done) | skip
  injection h3 with h3; subst h3
  exact ⟨_, _, rfl, q _ F H (Grow.refl s) (.int _)⟩⟩⟩
theorem intC : ClS M (.type "int") (g1 dInt) := ⟨⟨_, fun j => call_int1.or call_int_str, fun F H xs ds c Q s hx hg q => by
  obtain ⟨x, d, rfl, rfl, h1, h2⟩ := one_inv hg hx
  cases h1 with
  | int i => injection h2 with h2; subst h2; exact .inl (.inl ⟨i, rfl, q _ F H (Grow.refl s) (.int _)⟩)
  | bl b => injection h2 with h2; subst h2; exact .inl (.inr ⟨b, rfl, q _ F H (Grow.refl s) (.int _)⟩)
  | str z =>
    have h' : (if z.length ≤ 640 then (PySem.intText? z).map PyData.int else Option.none) = some c := h2
    by_cases hl : z.length ≤ 640
    · rw [if_pos hl] at h'
      obtain ⟨n, h3, rfl⟩ := Option.map_eq_some_iff.mp h'
      exact .inr ⟨z, n, rfl, h3, hl, q _ F H (Grow.refl s) (.int _)⟩
    · rw [if_neg hl] at h'; cases h'
  | non => cases h2
  | lst _ _ => cases h2
  | tup _ _ => cases h2
  | ro _ _ => cases h2⟩⟩
theorem strC : ClS M (.type "str") (g1 dStr) := ⟨⟨_, fun j => call_str_int, fun F H xs ds c Q s hx hg q => by
  obtain ⟨x, d, rfl, rfl, h1, h2⟩ := one_inv hg hx
  cases h1 <;> first | (cases h2; done) | skip
  rename_i i
  have h' : (if i.natAbs.log2 < 1920 then some (PyData.str (toString i)) else Option.none) = some c := h2
  by_cases hl : i.natAbs.log2 < 1920
  · rw [if_pos hl] at h'; injection h' with h'; subst h'
    exact ⟨i, rfl, hl, q _ F H (Grow.refl s) (.str _)⟩
  · rw [if_neg hl] at h'; cases h'⟩⟩
theorem divmodC : ClS M (.builtin "divmod") (g2 dDivmod) := ⟨⟨_, fun j => call_divmod, fun F H xs ds c Q s hx hg q => by
  obtain ⟨x, y, d, e, rfl, rfl, h1, h2, h3⟩ := two_inv hg hx
  cases h1 <;> cases h2 <;> first | (cases h3; done) | skip
  rename_i i j
  have h' : (if 0 < j ∧ j < 1073741824 then some (PyData.tuple [.int (i / j), .int (i % j)]) else Option.none) = some c := h3
  by_cases hl : 0 < j ∧ j < 1073741824
  · rw [if_pos hl] at h'; injection h' with h'; subst h'
    refine ⟨i, j, rfl, hl, fun p hp => ?_⟩
    exact q _ _ _ (Grow.new s hp _) (.tup (SqT.of upd_same) (.cons (.int _) (.cons (.int _) .nil)))
  · rw [if_neg hl] at h'; cases h'⟩⟩
theorem sumC : ClS M (.builtin "sum") (g1 dSum) := by
  refine ⟨⟨rSum K, fun j => ?_, fun F H xs ds c Q s hx hg q => ?_⟩⟩
  · have z := cr_sum (M.calm j); rw [M.K j] at z; exact z
  · obtain ⟨x, d, rfl, rfl, h1, h2⟩ := one_inv hg hx
    cases h1 <;> first | (cases h2; done) | skip
    rename_i l ys es h3 h4
    obtain ⟨ns, h5, rfl⟩ := Option.map_eq_some_iff.mp h2
    have e1 := intsOf_map h5
    subst e1
    have e2 := dpInts h4
    subst e2
    exact ⟨l, ns, rfl, rdSq s h3, q _ F H (Grow.refl s) (.int _)⟩
theorem allC : ClS M (.builtin "all") (g1 dAll) := by
  refine ⟨⟨rAll K, fun j => ?_, fun F H xs ds c Q s hx hg q => ?_⟩⟩
  · have z := cr_all (M.calm j); rw [M.K j] at z; exact z
  · obtain ⟨x, d, rfl, rfl, h1, h2⟩ := one_inv hg hx
    cases h1 <;> first | (cases h2; done) | skip
    rename_i l ys es h3 h4
    obtain ⟨ns, h5, rfl⟩ := Option.map_eq_some_iff.mp h2
    have e1 := bolsOf_map h5
    subst e1
    have e2 := dpBls h4
    subst e2
    exact ⟨l, ns, rfl, rdSq s h3, q _ F H (Grow.refl s) (.bl _)⟩
theorem anyC : ClS M (.builtin "any") (g1 dAny) := by
  refine ⟨⟨rAny K, fun j => ?_, fun F H xs ds c Q s hx hg q => ?_⟩⟩
  · have z := cr_any (M.calm j); rw [M.K j] at z; exact z
  · obtain ⟨x, d, rfl, rfl, h1, h2⟩ := one_inv hg hx
    cases h1 <;> first | (cases h2; done) | skip
    rename_i l ys es h3 h4
    obtain ⟨ns, h5, rfl⟩ := Option.map_eq_some_iff.mp h2
    have e1 := bolsOf_map h5
    subst e1
    have e2 := dpBls h4
    subst e2
    exact ⟨l, ns, rfl, rdSq s h3, q _ F H (Grow.refl s) (.bl _)⟩
theorem maxI_is : ∀ {ns : List Int} {m : Int}, m ∈ ns → (∀ y, y ∈ ns → y ≤ m) → maxI ns = m
  | [x], m, h, _ => by
    have : m = x := by simpa using h
    rw [this]; rfl
  | x :: y :: r, m, h, hm => by
    show max x (maxI (y :: r)) = m
    have le : ∀ ns : List Int, ns ≠ [] → maxI ns ∈ ns ∧ ∀ z ∈ ns, z ≤ maxI ns := by
      intro ns
      induction ns with
      | nil => intro z; exact absurd rfl z
      | cons a l ih =>
        intro _
        cases l with
        | nil => exact ⟨by simp [maxI], fun z hz => by simp at hz; rw [hz]; simp [maxI]⟩
        | cons b l =>
          obtain ⟨i1, i2⟩ := ih (by simp)
          have e : maxI (a :: b :: l) = max a (maxI (b :: l)) := rfl
          rw [e]
          refine ⟨?_, fun z hz => ?_⟩
          · rcases Int.le_total a (maxI (b :: l)) with h | h
            · rw [Int.max_eq_right h]; exact List.mem_cons_of_mem _ i1
            · rw [Int.max_eq_left h]; exact List.mem_cons_self
          · rcases List.mem_cons.mp hz with rfl | hz
            · omega
            · have := i2 z hz; omega
    obtain ⟨h1, h2⟩ := le (x :: y :: r) (by simp)
    have h3 := hm _ h1
    have h4 := h2 _ h
    have e : maxI (x :: y :: r) = max x (maxI (y :: r)) := rfl
    rw [e] at h3 h4
    omega
theorem maxC : ClS M (.builtin "max") (g1 dMax) := by
  refine ⟨⟨rMax K, fun j => ?_, fun F H xs ds c Q s hx hg q => ?_⟩⟩
  · have z := cr_max (M.calm j); rw [M.K j] at z; exact z
  · obtain ⟨x, d, rfl, rfl, h1, h2⟩ := one_inv hg hx
    cases h1 <;> first | (cases h2; done) | skip
    rename_i l ys es h3 h4
    obtain ⟨ns, h5, h6⟩ := Option.bind_eq_some_iff.mp h2
    have e1 := intsOf_map h5
    subst e1
    have e2 := dpInts h4
    subst e2
    by_cases hl : ns.length = 0
    · rw [if_pos hl] at h6; cases h6
    · rw [if_neg hl] at h6; injection h6 with h6; subst h6
      refine ⟨l, ns, rfl, rdSq s h3, by omega, fun m hm hle => ?_⟩
      rw [← maxI_is hm hle]
      exact q _ F H (Grow.refl s) (.int _)
theorem tupleC : ClS M (.type "tuple") (g1 dTuple) := by
  refine ⟨⟨fun xs H Q => ∃ p ys, xs = [.ref p] ∧ ((SqL K H p ys ∧ ∀ l, H l = none → Q (.ref l) (upd H l (.tup ys))) ∨ (SqT K H p ys ∧ Q (.ref p) H)), fun j => ?_, fun F H xs ds c Q s hx hg q => ?_⟩⟩
  · have z := call_tuple_of (X := M.X j); rw [M.K j] at z; exact z
  · obtain ⟨x, d, rfl, rfl, h1, h2⟩ := one_inv hg hx
    cases h1 <;> first | (cases h2; done) | skip
    · rename_i l ys es h3 h4
      injection h2 with h2; subst h2
      refine ⟨l, ys, rfl, .inl ⟨rdSq s h3, fun p hp => ?_⟩⟩
      have gr := Grow.new s hp (.tup ys)
      exact q _ _ _ gr (.tup (SqT.of upd_same) (h4.mono gr.ext))
    · rename_i l ys es h3 h4
      injection h2 with h2; subst h2
      exact ⟨l, ys, rfl, .inr ⟨seqT s h3, q _ F H (Grow.refl s) (.tup h3 h4)⟩⟩
/-- list(x): a new list -/
def oList (fe : EF) : AF := fun ρ => (fe ρ).bind fun p => (dList p.1).map fun c => (c, p.2)
theorem do_list (hm : mg x = Option.none) (hv : bootBuiltins x = some (.type "list")) (ha : DE M e fe) (hg : ∀ j, Gl (M.X j) x := by intro _; rfl) (hn : x ≠ "__name__" := by decide) (hdb : (x == ("__debug__" : Str)) = false := by decide)
    (he : ∀ j, starEach [e] (M.X j).env = (false, eval e (M.X j).env) :: starEach [] (M.X j).env := by intro _; rfl) (hpl : ∀ j, (backTo pos (starEach [] (M.X j).env)).any (·.1) = false := by intro _; rfl) : DO M (.Call (.Name x p) [e] [] pos) (oList fe) := by
  obtain ⟨t, a1, a2⟩ := ha
  refine ⟨tCB (fun xs H Q => ∃ p ys, xs = [.ref p] ∧ (SqL K H p ys ∨ SqT K H p ys) ∧ ∀ l, H l = none → Q (.ref l) (upd H l (.lst ys))) (tCons t tNil), fun j => ?_, fun F H σ ρ ds ρ' Q hf r q => ?_⟩
  · have z := call_list_of (X := M.X j); rw [M.K j] at z
    exact pe_callTy z (hg j) (by rw [M.mg j]; exact hm) hv (pa_cons (a1 j) pa_nil (he j)) hn hdb (he j) (hpl j)
  · obtain ⟨⟨d, ρ1⟩, h1, hf⟩ := Option.bind_eq_some_iff.mp hf
    obtain ⟨c, h2, hf⟩ := Option.map_eq_some_iff.mp hf
    injection hf with e1 e2
    subst e1; subst e2
    refine a2 F H σ ρ d ρ1 _ h1 r fun v F1 H1 g1 hd => ?_
    have fin : ∀ (a : Addr) (ys : List V) (es : List Dt), DpAll K F1 ys es → c = es → (SqL K H1 a ys ∨ SqT K H1 a ys) → v = .ref a → (∃ p ys, [v] = [V.ref p] ∧ (SqL K H1 p ys ∨ SqT K H1 p ys) ∧ ∀ l, H1 l = none → Q (.ref l) (upd H1 l (.lst ys))) := fun a ys es h3 h4 h5 h6 => by
      subst h4; subst h6
      refine ⟨a, ys, rfl, h5, fun p hp => ?_⟩
      exact q p ys F1 _ (g1.trans (Go.of_grow g1.rel (Grow.newOwn g1.rel.sub hp _))) (g1.stay p hp) (g1.rel.sub.free hp) upd_same h3 (g1.rel.notOwn hp)
    cases hd with
    | lst h3 h4 => injection h2 with h2; exact fin _ _ _ h4 h2.symm (.inl (rdSq g1.rel.sub h3)) rfl
    | tup h3 h4 => injection h2 with h2; exact fin _ _ _ h4 h2.symm (.inr (seqT g1.rel.sub h3)) rfl
    | non => cases h2
    | bl _ => cases h2
    | int _ => cases h2
    | str _ => cases h2
    | ro _ _ => cases h2
/-- list(range(n)), list(range(a, b)) -/
def rangeD (a b : Int) : List Dt := (List.range (b - a).toNat).map fun (i : Nat) => PyData.int (a + (i : Int))
def oListR1 (fe : EF) : AF := fun ρ => (fe ρ).bind fun p => match p.1 with
  | .int n => if n ≤ 16777216 ∧ 0 ≤ n then some (rangeD 0 n, p.2) else Option.none
  | _ => Option.none
theorem dpRange {F : Hp} (a b : Int) : DpAll K F (rgV a b) (rangeD a b) := by
  have z : ∀ n : Nat, DpAll K F ((List.range n).map fun (i : Nat) => V.int (a + (i : Int))) ((List.range n).map fun (i : Nat) => PyData.int (a + (i : Int))) := by
    intro n
    induction n with
    | zero => exact .nil
    | succ n ih => rw [List.range_succ, List.map_append, List.map_append]; exact dpApp ih (.cons (.int _) .nil)
  exact z _
theorem do_listR1 {p2 pos2 : Pos} (hm : mg "list" = Option.none) (hmr : mg "range" = Option.none) (ha : DE M e fe) (hg : ∀ j, Gl (M.X j) "list" := by intro _; rfl) (hgr : ∀ j, Gl (M.X j) "range" := by intro _; rfl)
    (he : ∀ j, starEach [.Call (.Name "range" p2) [e] [] pos2] (M.X j).env = (false, eval (.Call (.Name "range" p2) [e] [] pos2) (M.X j).env) :: starEach [] (M.X j).env := by intro _; rfl) (he2 : ∀ j, starEach [e] (M.X j).env = (false, eval e (M.X j).env) :: starEach [] (M.X j).env := by intro _; rfl) :
    DO M (.Call (.Name "list" p) [.Call (.Name "range" p2) [e] [] pos2] [] pos) (oListR1 fe) := by
  obtain ⟨t, a1, a2⟩ := ha
  refine ⟨_, fun j => pe_listRg (M.calm j) (hg j) (by rw [M.mg j]; exact hm) (prg_1 (hgr j) (by rw [M.mg j]; exact hmr) (a1 j) (he2 j)) (he j), fun F H σ ρ ds ρ' Q hf r q => ?_⟩
  obtain ⟨⟨d, ρ1⟩, h1, hf⟩ := Option.bind_eq_some_iff.mp hf
  refine a2 F H σ ρ d ρ1 _ h1 r fun v F1 H1 g1 hd => ?_
  cases hd <;> first | (cases hf; done) | skip
  rename_i n
  have hf' : (if n ≤ 16777216 ∧ 0 ≤ n then some (rangeD 0 n, ρ1) else Option.none) = some (ds, ρ') := hf
  by_cases hl : n ≤ 16777216 ∧ 0 ≤ n
  · rw [if_pos hl] at hf'; injection hf' with hf'; injection hf' with e1 e2
    subst e1; subst e2
    refine ⟨n, rfl, RgOk.of_le (Int.le_refl 0) hl.1 (by omega) hl.2, fun p hp => ?_⟩
    exact q p _ F1 _ (g1.trans (Go.of_grow g1.rel (Grow.newOwn g1.rel.sub hp _))) (g1.stay p hp) (g1.rel.sub.free hp) upd_same (dpRange 0 n) (g1.rel.notOwn hp)
  · rw [if_neg hl] at hf'; cases hf'
/-! isinstance -/
theorem tyX {F H : Hp} {v : V} {d : Dt} {t : String} (s : Same F H) (hd : Dp K F v d) (h : tyOfD d = some t) : TyX K H v (.type t) := by
  cases hd with
  | non => injection h with h; subst h; exact .base .non
  | bl b => injection h with h; subst h; exact .base (.bl b)
  | int b => injection h with h; subst h; exact .base (.int b)
  | str b => injection h with h; subst h; exact .base (.str b)
  | lst h1 h2 =>
    injection h with h; subst h
    exact .base (.lst (s _ _ h1))
  | tup h1 h2 =>
    injection h with h; subst h
    rcases seqT s h1 with (z | ⟨o, z⟩) | ⟨o, its, n, h3, h4, _⟩
    · exact .base (.tup z)
    · exact .fTuple z
    · exact .kTuple h3 h4
  | ro _ _ => cases h
theorem de_isi {T : String} {tx : Str} {tp : Pos} (hm : mg "isinstance" = Option.none) (hmt : mg tx = Option.none) (hvt : bootBuiltins tx = some (.type T)) (ha : DE M e fe) (hg : ∀ j, Gl (M.X j) "isinstance" := by intro _; rfl) (hgt : ∀ j, Gl (M.X j) tx := by intro _; rfl)
    (hnt : tx ≠ "__name__" := by decide) (hdt : (tx == ("__debug__" : Str)) = false := by decide)
    (he : ∀ j, starEach [e, .Name tx tp] (M.X j).env = (false, eval e (M.X j).env) :: starEach [.Name tx tp] (M.X j).env := by intro _; rfl) (he2 : ∀ j, starEach [.Name tx tp] (M.X j).env = (false, eval (.Name tx tp) (M.X j).env) :: starEach [] (M.X j).env := by intro _; rfl)
    (hpl : ∀ j, (backTo pos (starEach [.Name tx tp] (M.X j).env)).any (·.1) = false := by intro _; rfl) : DE M (.Call (.Name "isinstance" p) [e, .Name tx tp] [] pos) (eOp1 (dIsi T) fe) := by
  obtain ⟨t, a1, a2⟩ := ha
  refine ⟨tCB (rIsi K) (tCons t (tCons (tC (.ty T)) tNil)), fun j => ?_, fun F H σ ρ d ρ' Q hf r q => ?_⟩
  · have z := call_isi (X := M.X j); rw [M.K j] at z
    exact pe_callB z (hg j) (by rw [M.mg j]; exact hm) PyProof.Rows.boot_isinstance (pa_cons (a1 j) (pa_cons (pe_bltn (v := .ty T) (hgt j) (by rw [M.mg j]; exact hmt) hvt rfl hnt hdt) pa_nil (he2 j)) (he j)) (by decide) (by decide) (he j) (hpl j)
  · obtain ⟨⟨da, ρ1⟩, h1, hf⟩ := Option.bind_eq_some_iff.mp hf
    obtain ⟨c, h2, hf⟩ := Option.map_eq_some_iff.mp hf
    injection hf with e1 e2
    subst e1; subst e2
    refine a2 F H σ ρ da ρ1 _ h1 r fun v F1 H1 g1 hd => ?_
    obtain ⟨t, h3, h2⟩ := Option.bind_eq_some_iff.mp h2
    obtain ⟨b, h4, rfl⟩ := Option.map_eq_some_iff.mp h2
    exact ⟨v, .ty T, .type t, .type T, b, rfl, .ty T, tyX g1.rel.sub hd h3, kit_ty h4, q _ F1 H1 g1 (.bl b)⟩
/-! min(xs, default=None) of numbers -/
def dMinDef : Dt → Option Dt
  | .list ds => (intsOf ds).map fun ns => match ns with
    | [] => .none
    | n :: r => .int (r.foldl min n)
  | _ => Option.none
/-! ### methods of texts -/
structure MtD (M : Fam P w K mg base k) (id : String) (g : Dt → Dt → Option Dt) : Prop where
  ex : ∃ r : V → List V → Hp → VK → Prop, (∀ j, MtR (M.X j) id r) ∧ ∀ (F H : Hp) (x y : V) (d e c : Dt) (Q : VK), Same F H → Dp K F x d → Dp K F y e → g d e = some c → (∀ v F' H', Grow F H F' H' → Dp K F' v c → Q v H') → r x [y] H Q
def isStrD (d : Dt) : Bool := match d with
  | .str _ => true
  | _ => false
def eMt1 (g : Dt → Dt → Option Dt) (fa fb : EF) : EF := fun ρ => (fa ρ).bind fun p => if isStrD p.1 = true then (fb p.2).bind fun q => (g p.1 q.1).map fun c => (c, q.2) else Option.none
theorem de_mt1 {o : Expr} {fo : EF} {name : Str} {id : String} {g : Dt → Dt → Option Dt} {apos cpos : Pos} (slot : Slot "str" name id) (hty : typeOf (.builtin id) = pure (.type "method_descriptor")) (m : MtD M id g) (ho : DE M o fo) (ha : DE M e fe)
    (hbase : ∀ j, attributeBase o name (M.X j).env (eval o (M.X j).env) = eval o (M.X j).env := by intro _; rfl)
    (hfew : ∀ j, ((backTo cpos (starEach [e] (M.X j).env)).all (fun x => !x.1) && (backToKw cpos (keywordEach [] (M.X j).env)).all (fun x => x.1.isSome)
      && decide (([e] : List Expr).length + ([] : List Keyword).length + (if ([] : List Keyword).isEmpty then 0 else 1) < 30)) = true := by intro _; rfl)
    (hline : (apos.endLine == cpos.line) = true := by rfl) (hs : ∀ j, starEach [e] (M.X j).env = (false, eval e (M.X j).env) :: starEach [] (M.X j).env := by intro _; rfl) (hplain : ∀ j, (backTo cpos (starEach [] (M.X j).env)).any (·.1) = false := by intro _; rfl) :
    DE M (.Call (.Attribute o name apos) [e] [] cpos) (eMt1 g fo fe) := by
  obtain ⟨r, m1, m2⟩ := m.ex
  obtain ⟨to, o1, o2⟩ := ho
  obtain ⟨t, a1, a2⟩ := ha
  refine ⟨tBM K "str" r to (tCons t tNil), fun j => ?_, fun F H σ ρ d ρ' Q hf rl q => ?_⟩
  · have z := pe_bm (apos := apos) (cpos := cpos) PySem.F.plainAttrs_str slot hty (m1 j) (o1 j) (pa_cons (a1 j) pa_nil (hs j)) (hbase j) (hfew j) hline (hs j) (hplain j)
    rw [M.K j] at z; exact z
  · obtain ⟨⟨do', ρ1⟩, h1, hf⟩ := Option.bind_eq_some_iff.mp hf
    refine o2 F H σ ρ do' ρ1 _ h1 rl fun v F1 H1 g1 hv => ?_
    cases hv <;> first | (cases hf; done) | skip
    rename_i z
    obtain ⟨⟨de, ρ2⟩, h2, hf⟩ := Option.bind_eq_some_iff.mp (show (fe ρ1).bind _ = some (d, ρ') from hf)
    obtain ⟨c, h3, hf⟩ := Option.map_eq_some_iff.mp hf
    injection hf with e1 e2
    subst e1; subst e2
    refine ⟨rfl, a2 F1 H1 σ ρ1 de ρ2 _ h2 g1.rel fun u F2 H2 g2 hu => ?_⟩
    exact m2 F2 H2 _ u _ de c Q g2.rel.sub (.str z) hu h3 fun y F3 H3 g3 hy => q y F3 H3 ((g1.trans g2).trans (Go.of_grow g2.rel g3)) hy
theorem joinM : MtD M "str.join" dJoin := by
  refine ⟨⟨fun x xs H Q => ∃ a p, ∃ ys : List Str, x = .str a ∧ xs = [.ref p] ∧ (SqL K H p (ys.map V.str) ∨ SqT K H p (ys.map V.str)) ∧ (ys.map (·.length)).sum + ys.length * a.length ≤ 16777216 ∧ Q (.str (PySem.Txt.join a ys)) H, fun j => ?_, fun F H x y d e c Q s hx hy hg q => ?_⟩⟩
  · have z := mt_join (X := M.X j); rw [M.K j] at z; exact z
  · cases hx <;> first | (cases hg; done) | skip
    rename_i a
    have fin : ∀ (l : Addr) (ws : List V) (ds : List Dt), DpAll K F ws ds → (SqL K H l ws ∨ SqT K H l ws) → y = .ref l → ((strsOf ds).bind fun ys => if (ys.map (·.length)).sum + ys.length * a.length ≤ 16777216 then some (PyData.str (PySem.Txt.join a ys)) else Option.none) = some c →
        (∃ a' p, ∃ ys : List Str, V.str a = .str a' ∧ [y] = [.ref p] ∧ (SqL K H p (ys.map V.str) ∨ SqT K H p (ys.map V.str)) ∧ (ys.map (·.length)).sum + ys.length * a'.length ≤ 16777216 ∧ Q (.str (PySem.Txt.join a' ys)) H) := fun l ws ds h1 h2 h3 h4 => by
      obtain ⟨ys, h5, h6⟩ := Option.bind_eq_some_iff.mp h4
      have e1 := strsOf_map h5
      subst e1
      have e2 := dpStrs h1
      subst e2
      by_cases hl : (ys.map (·.length)).sum + ys.length * a.length ≤ 16777216
      · rw [if_pos hl] at h6; injection h6 with h6; subst h6
        exact ⟨a, l, ys, rfl, by rw [h3], h2, hl, q _ F H (Grow.refl s) (.str _)⟩
      · rw [if_neg hl] at h6; cases h6
    cases hy <;> first | (cases hg; done) | skip
    · rename_i h1 h2; exact fin _ _ _ h2 (.inl (rdSq s h1)) rfl hg
    · rename_i h1 h2; exact fin _ _ _ h2 (.inr (seqT s h1)) rfl hg
theorem zfillM : MtD M "str.zfill" dZfill := ⟨⟨_, fun _ => mt_zfill, fun F H x y d e c Q s hx hy hg q => by
  cases hx <;> cases hy <;> first | (cases hg; done) | skip
  rename_i a i
  have h' : (if PadOk i = true then some (PyData.str (PySem.Txt.zfill a i)) else Option.none) = some c := hg
  by_cases hl : PadOk i = true
  · rw [if_pos hl] at h'; injection h' with h'; subst h'
    exact ⟨a, i, rfl, rfl, hl, q _ F H (Grow.refl s) (.str _)⟩
  · rw [if_neg hl] at h'; cases h'⟩⟩
theorem takes_no {X : Cx} : L2.Takes X (fun _ _ _ _ => False) := fun u s' ⟨a, B, sI, pins, σ, H, cls, d, e, I, nb, up, sky, na, os, ag, w⟩ => w.elim
/-- s.index(t), t is there -/
theorem de_index {o : Expr} {fo : EF} {apos cpos : Pos} (ho : DE M o fo) (ha : DE M e fe)
    (hbase : ∀ j, attributeBase o "index" (M.X j).env (eval o (M.X j).env) = eval o (M.X j).env := by intro _; rfl)
    (hfew : ∀ j, ((backTo cpos (starEach [e] (M.X j).env)).all (fun x => !x.1) && (backToKw cpos (keywordEach [] (M.X j).env)).all (fun x => x.1.isSome)
      && decide (([e] : List Expr).length + ([] : List Keyword).length + (if ([] : List Keyword).isEmpty then 0 else 1) < 30)) = true := by intro _; rfl)
    (hline : (apos.endLine == cpos.line) = true := by rfl) (hs : ∀ j, starEach [e] (M.X j).env = (false, eval e (M.X j).env) :: starEach [] (M.X j).env := by intro _; rfl) (hplain : ∀ j, (backTo cpos (starEach [] (M.X j).env)).any (·.1) = false := by intro _; rfl) :
    DE M (.Call (.Attribute o "index" apos) [e] [] cpos) (eMt1 dIndexS fo fe) := by
  obtain ⟨to, o1, o2⟩ := ho
  obtain ⟨t, a1, a2⟩ := ha
  refine ⟨tBMS K "str" (rIndexX fun _ _ _ _ => False) to (tCons t tNil), fun j => ?_, fun F H σ ρ d ρ' Q hf rl q => ?_⟩
  · have z := pe_bmS (apos := apos) (cpos := cpos) PySem.F.plainAttrs_str PySem.F.slot_str_index PySem.F.type_str_index (mt_indexX (M.calm j) takes_no) (o1 j) (pa_cons (a1 j) pa_nil (hs j)) (hbase j) (hfew j) hline (hs j) (hplain j)
    rw [M.K j] at z; exact z
  · obtain ⟨⟨do', ρ1⟩, h1, hf⟩ := Option.bind_eq_some_iff.mp hf
    refine o2 F H σ ρ do' ρ1 _ h1 rl fun v F1 H1 g1 hv => ?_
    cases hv <;> first | (cases hf; done) | skip
    rename_i z
    obtain ⟨⟨de, ρ2⟩, h2, hf⟩ := Option.bind_eq_some_iff.mp (show (fe ρ1).bind _ = some (d, ρ') from hf)
    obtain ⟨c, h3, hf⟩ := Option.map_eq_some_iff.mp hf
    injection hf with e1 e2
    subst e1; subst e2
    refine ⟨rfl, a2 F1 H1 σ ρ1 de ρ2 _ h2 g1.rel fun u F2 H2 g2 hu => ?_⟩
    cases hu <;> first | (cases h3; done) | skip
    obtain ⟨k0, h4, h5⟩ := Option.map_eq_some_iff.mp h3
    subst h5
    refine ⟨z, _, rfl, rfl, fun k1 h6 => ?_, fun h6 => by rw [h4] at h6; cases h6⟩
    rw [h4] at h6; injection h6 with h6; subst h6
    exact q _ F2 H2 (g1.trans g2) (.int _)
/-! ### subscripts, slices -/
theorem atI_dp {F : Hp} {vs : List V} {ds : List Dt} {i : Int} {d : Dt} (q : DpAll K F vs ds) (h : atI ds i = some d) : ∃ v, atI vs i = some v ∧ Dp K F v d := by
  unfold atI at h
  obtain ⟨n, h1, h2⟩ := Option.bind_eq_some_iff.mp h
  obtain ⟨v, h3, h4⟩ := dpGet q h2
  exact ⟨v, by unfold atI; rw [dpLen q, h1]; exact h3, h4⟩
theorem ixD : OpD K (rIx K) dIx := by
  intro F H x y d e c Q s hx hy hg q
  cases hx with
  | lst h1 h2 =>
    cases hy <;> first | (cases hg; done) | skip
    rename_i i
    obtain ⟨v, h3, h4⟩ := atI_dp h2 hg
    exact .inl ⟨_, _, i, v, rfl, rfl, rdSq s h1, h3, q v F H (Grow.refl s) h4⟩
  | tup h1 h2 =>
    cases hy <;> first | (cases hg; done) | skip
    rename_i i
    obtain ⟨v, h3, h4⟩ := atI_dp h2 hg
    exact .inr (.inl ⟨_, _, i, v, rfl, rfl, seqT s h1, h3, q v F H (Grow.refl s) h4⟩)
  | ro h1 h2 =>
    cases hy <;> first | (cases hg; done) | skip
    rename_i i
    obtain ⟨v, h3, h4⟩ := atI_dp h2 hg
    exact .inl ⟨_, _, i, v, rfl, rfl, s.seq h1, h3, q v F H (Grow.refl s) h4⟩
  | str z =>
    cases hy <;> first | (cases hg; done) | skip
    rename_i i
    have h' : (if z.length ≤ sizeLine then (atI z.cps.toList i).map fun c => PyData.str ⟨#[c]⟩ else Option.none) = some c := hg
    by_cases hl : z.length ≤ sizeLine
    · rw [if_pos hl] at h'
      obtain ⟨n, h3, rfl⟩ := Option.map_eq_some_iff.mp h'
      exact .inr (.inr ⟨z, i, n, rfl, rfl, hl, h3, q _ F H (Grow.refl s) (.str _)⟩)
    · rw [if_neg hl] at h'; cases h'
  | non => cases hg
  | bl _ => cases hg
  | int _ => cases hg
theorem de_ix (ha : DE M a fe) (hb : DE M b fb) (hs : PlainIx b := by exact fun _ _ => rfl) : DE M (.Subscript a b pos) (eOp2 dIx fe fb) := by
  obtain ⟨ta, a1, a2⟩ := ha
  obtain ⟨tb, b1, b2⟩ := hb
  refine ⟨tOp (rIx K) ta tb, fun j => ?_, refOp ixD a2 b2⟩
  have z := pe_ix (pos := pos) ix_seq (a1 j) (b1 j) hs
  rw [M.K j] at z; exact z
abbrev OF := En → Option (Option Int × En)
def RefP (K : Frg) (t : TO) (f : OF) : Prop := ∀ (F H : Hp) (σ : St) (ρ : En) (o : Option Int) (ρ' : En) (Q : Option Int → Hp → Prop), f ρ = some (o, ρ') → Rel K F H σ ρ → (∀ F' H', Go K F H σ ρ F' H' σ ρ' → Q o H') → t σ H Q
variable (M) in
def DP (e : Option Expr) (f : OF) : Prop := ∃ t : TO, (∀ i, PO (M.X i) e t) ∧ RefP K t f
def pNone : OF := fun ρ => some (Option.none, ρ)
def pSome (f : EF) : OF := fun ρ => (f ρ).bind fun p => match p.1 with
  | .int i => some (some i, p.2)
  | _ => Option.none
theorem dp_none : DP M Option.none pNone := ⟨_, fun _ => po_none, fun F H σ ρ o ρ' Q hf r q => by
  injection hf with hf; injection hf with e1 e2
  subst e1; subst e2
  exact q F H (Go.refl r)⟩
theorem dp_some (h : DE M e fe) : DP M (some e) (pSome fe) := by
  obtain ⟨t, a1, a2⟩ := h
  refine ⟨_, fun j => po_some (a1 j), fun F H σ ρ o ρ' Q hf r q => ?_⟩
  obtain ⟨⟨d, ρ1⟩, h1, hf⟩ := Option.bind_eq_some_iff.mp hf
  refine a2 F H σ ρ d ρ1 _ h1 r fun v F1 H1 g1 hd => ?_
  cases hd <;> first | (cases hf; done) | skip
  injection hf with hf; injection hf with e1 e2
  subst e1; subst e2
  exact ⟨_, rfl, q F1 H1 g1⟩
def eSlice (fe : EF) (fl fh : OF) : EF := fun ρ => (fe ρ).bind fun p => (fl p.2).bind fun l => (fh l.2).bind fun h => (dSlice p.1 l.1 h.1).map fun c => (c, h.2)
theorem dpCut {F : Hp} {vs : List V} {ds : List Dt} {lo hi : Option Int} (q : DpAll K F vs ds) : DpAll K F (cutV vs lo hi) (cutD ds lo hi) := by
  unfold cutV cutD
  rw [dpLen q]
  exact dpTake _ (dpDrop _ q)
theorem cutWhole {α : Type} (ds : List α) {a b : Nat} (h : a = 0 ∧ b = ds.length) : (ds.drop a).take (b - a) = ds := by
  rw [h.1, h.2]; simp
theorem de_slice {lo hi : Option Expr} {fl fh : OF} {p2 : Pos} (he : DE M e fe) (hl : DP M lo fl) (hh : DP M hi fh) : DE M (.Subscript e (.Slice lo hi Option.none p2) pos) (eSlice fe fl fh) := by
  obtain ⟨te, a1, a2⟩ := he
  obtain ⟨tl, b1, b2⟩ := hl
  obtain ⟨th, c1, c2⟩ := hh
  refine ⟨tSl (fun x lo hi H Q => (rSlL K x lo hi H Q ∨ rSlA K x lo hi H Q) ∨ rSlS x lo hi H Q) te tl th, fun j => ?_, fun F H σ ρ d ρ' Q hf r q => ?_⟩
  · have z : SlR (M.X j) (fun x lo hi H Q => (rSlL (M.X j).K x lo hi H Q ∨ rSlA (M.X j).K x lo hi H Q) ∨ rSlS x lo hi H Q) := (sl_list.or sl_tupA).or sl_str
    rw [M.K j] at z
    exact pe_slice z (a1 j) (b1 j) (c1 j)
  · obtain ⟨⟨d0, ρ1⟩, h1, hf⟩ := Option.bind_eq_some_iff.mp hf
    obtain ⟨⟨l, ρ2⟩, h2, hf⟩ := Option.bind_eq_some_iff.mp hf
    obtain ⟨⟨u, ρ3⟩, h3, hf⟩ := Option.bind_eq_some_iff.mp hf
    obtain ⟨c, h4, hf⟩ := Option.map_eq_some_iff.mp hf
    injection hf with e1 e2
    subst e1; subst e2
    refine a2 F H σ ρ d0 ρ1 _ h1 r fun v F1 H1 g1 hv => ?_
    refine b2 F1 H1 σ ρ1 l ρ2 _ h2 g1.rel fun F2 H2 g2 => ?_
    refine c2 F2 H2 σ ρ2 u ρ3 _ h3 g2.rel fun F3 H3 g3 => ?_
    have gg := (g1.trans g2).trans g3
    have hv' := (hv.mono g2.ext).mono g3.ext
    have s := g3.rel.sub
    have qq : ∀ (v : V) (F' H' : Hp), Grow F3 H3 F' H' → Dp K F' v c → Q v H' := fun v F' H' gr hd => q v F' H' (gg.trans (Go.of_grow g3.rel gr)) hd
    cases hv' with
    | str z =>
      have h' : (if z.length ≤ sizeLine then some (PyData.str (cutS z l u)) else Option.none) = some c := h4
      by_cases hl : z.length ≤ sizeLine
      · rw [if_pos hl] at h'; injection h' with h'; subst h'
        exact .inr ⟨z, rfl, hl, qq _ F3 H3 (Grow.refl s) (.str _)⟩
      · rw [if_neg hl] at h'; cases h'
    | @lst a xs ds h5 h6 =>
      injection h4 with h4; subst h4
      refine .inl (.inl ⟨_, _, rfl, rdSq s h5, fun p hp => ?_⟩)
      have gr := Grow.new s hp (.lst (cutV xs l u))
      exact qq _ _ _ gr (.lst upd_same (dpCut (h6.mono gr.ext)))
    | @tup a xs ds h5 h6 =>
      injection h4 with h4; subst h4
      refine .inl (.inr ⟨_, _, rfl, seqT s h5, fun hw => ?_, fun _ p hp => ?_⟩)
      · have e : cutD ds l u = ds := by
          rw [dpLen h6] at hw
          exact cutWhole ds hw
        exact qq _ F3 H3 (Grow.refl s) (by rw [e]; exact .tup h5 h6)
      · have gr := Grow.new s hp (.tup (cutV xs l u))
        exact qq _ _ _ gr (.tup (SqT.of upd_same) (dpCut (h6.mono gr.ext)))
    | @ro a xs ds h5 h6 =>
      injection h4 with h4; subst h4
      refine .inl (.inl ⟨_, _, rfl, s.seq h5, fun p hp => ?_⟩)
      have gr := Grow.new s hp (.lst (cutV xs l u))
      exact qq _ _ _ gr (.lst upd_same (dpCut (h6.mono gr.ext)))
    | non => cases h4
    | bl _ => cases h4
    | int _ => cases h4
end
end DL

set_option Elab.async false
set_option linter.all false
set_option maxRecDepth 100000
set_option maxHeartbeats 4000000
namespace PySem
open Sem (wp)
theorem meets_enumerate_new1B {v : Value} {o : Obj} {H : Heap → Prop} (B : Begins v o H) :
    Meets (Builtin.«enumerate.__new__» ⟨[.type "enumerate", v], []⟩) (fun _ R s => H s.heap ∧
      R (.ok (.ret (.ref (s.heap.push o).objs.size))) { s with heap := (s.heap.push o).push { cls := .type "enumerate", data := .fields #[.none, .bool false, .ref s.heap.objs.size, rawInt 0, .none, .none] } }) :=
  .of_wp fun prog w A R s h => by
    obtain ⟨hp, g, d, tk, os⟩ := s; obtain ⟨h1, h⟩ := h
    have hsub := sub_enumerate
    have q1 : ∀ {A' : Around} {E : Value → Shared → Prop} {Q : Value → Shared → Prop}, Q (.ref hp.objs.size) ⟨hp.push o, g, d, tk, os⟩ → wpAny (model prog w) A' (pyIter v) Q E ⟨hp, g, d, tk, os⟩ :=
      fun q => B.iter prog w _ _ ⟨hp, g, d, tk, os⟩ _ h1 q
    wp_walk using q1
    refine wpAny_stack_any fun st => wpAny_pure ?_
    split
    · rename_i c _ _ _ _ _
      cases (c == Value.type "enumerate")
      · wp_walk using q1
        exact ⟨_, rfl, h⟩
      · wp_walk using q1
        exact ⟨_, rfl, h⟩
    · wp_walk using q1
      exact ⟨_, rfl, h⟩
section
variable {prog : Program} {w : World} {A : Around} {E : Value → Shared → Prop} {s : Shared}
theorem enum_begins1 {v : Value} {o : Obj} {H : Heap → Prop} {Q : Value → Shared → Prop} (B : Begins v o H) (h1 : H s.heap)
    (h : ∀ h', IsEnum h' (s.heap.objs.size + 1) s.heap.objs.size 0 .none → h'.get? s.heap.objs.size = some o → h'.objs.size = s.heap.objs.size + 2 →
      (∀ b o, s.heap.get? b = some o → h'.get? b = some o) → Q (.ref (s.heap.objs.size + 1)) { s with heap := h' }) :
    wpAny (model prog w) A (call (.type "enumerate") [v]) Q E s := by
  refine callType_new F.called_enumerate (by decide) (F.typeCall_enumerate_1 _) (F.newCall_enumerate_1 _) (fun obj => F.args_object_init_2 obj _) F.entry_enumerate_new
    (meets_enumerate_new1B B) ⟨h1, ?_⟩
  have hz : (s.heap.push o).objs.size = s.heap.objs.size + 1 := Heap.size_push ..
  show _ ∧ _
  rw [hz]
  have he : IsEnum ((s.heap.push o).push { cls := .type "enumerate", data := .fields #[.none, .bool false, .ref s.heap.objs.size, rawInt 0, .none, .none] }) (s.heap.objs.size + 1) s.heap.objs.size 0 .none := by
    have := Heap.get?_push_size (s.heap.push o) (o := { cls := .type "enumerate", data := .fields #[.none, .bool false, .ref s.heap.objs.size, rawInt 0, .none, .none] }) rfl
    rw [hz] at this; exact this
  refine ⟨⟨_, he, rfl⟩, h _ he (Heap.get?_push_of_some _ (Heap.get?_push_size _ B.free)) (by rw [Heap.size_push, hz]) fun b o x => Heap.get?_push_of_some _ (Heap.get?_push_of_some _ x)⟩
end
end PySem
namespace DL
open PySem PySem.Spec L2

/-! ### sources: lists, tuples, texts -/
inductive Src (K : Frg) (H : Hp) : Bool → V → List V → Prop
  | lst {a : Addr} {xs : List V} (h : SqL K H a xs) : Src K H true (.ref a) xs
  | tup {a : Addr} {xs : List V} (h : SqT K H a xs) : Src K H false (.ref a) xs
  | str (b : Bool) (z : Str) : Src K H b (.str z) (z.cps.toList.map fun c => V.str ⟨#[c]⟩)
theorem Src.same {K : Frg} {H H' : Hp} {b : Bool} {x : V} {xs : List V} (h : Src K H b x xs) (s : Same H H') : Src K H' b x xs := by
  cases h with
  | lst h => exact .lst (s.seq h)
  | tup h => exact .tup (seqT s h)
  | str b z => exact .str b z
theorem Src.of {K : Frg} {F : Hp} {x : V} {d : Dt} {ds : List Dt} (h : Dp K F x d) (e : dItems d = some ds) : ∃ b xs, Src K F b x xs ∧ DpAll K F xs ds := by
  cases h with
  | lst h1 h2 => injection e with e; subst e; exact ⟨true, _, .lst (SqL.of h1), h2⟩
  | ro h1 h2 => injection e with e; subst e; exact ⟨true, _, .lst h1, h2⟩
  | tup h1 h2 => injection e with e; subst e; exact ⟨false, _, .tup h1, h2⟩
  | str z =>
    injection e with e; subst e
    refine ⟨true, _, .str true z, ?_⟩
    have g : ∀ l : List Nat, DpAll K F (l.map fun c => V.str ⟨#[c]⟩) (l.map fun c => PyData.str ⟨#[c]⟩) := by
      intro l
      induction l with
      | nil => exact .nil
      | cons c l ih => exact .cons (.str _) ih
    exact g _
  | non => cases e
  | bl _ => cases e
  | int _ => cases e
section
variable {X : Cx} {pins : List (Addr × Obj)} {σ : St} {H : Hp} {s : Shared} {x : V} {b : Bool} {xs ys : List V}
theorem Src.inj (I : Inv X pins σ H s) (h : Src X.K H b x xs) (h' : Src X.K H b x ys) : xs = ys := by
  cases h with
  | lst h => cases h' with | lst h' => exact I.list_inj h h'
  | tup h => cases h' with | tup h' => exact I.tuple_inj h h'
  | str b z => cases h'; rfl
end
/-- an iterator of a source, as it stands in the heap -/
def itr (x : V) (t : Tok) (isL : Bool) (it : Addr) (i : Nat) (h : Heap) : Prop := match x with
  | .ref a => if isL = true then h.IsListIter it a i else h.IsTupleIter it a i
  | .str z => h.IsStrIter it (strIterType z) z t i
  | _ => False
theorem itr_l {a : Addr} {t : Tok} {it : Addr} {i : Nat} {h : Heap} : itr (.ref a) t true it i h = h.IsListIter it a i := by
  show (if true = true then h.IsListIter it a i else h.IsTupleIter it a i) = _
  rw [if_pos rfl]
theorem itr_t {a : Addr} {t : Tok} {it : Addr} {i : Nat} {h : Heap} : itr (.ref a) t false it i h = h.IsTupleIter it a i := by
  show (if false = true then h.IsListIter it a i else h.IsTupleIter it a i) = _
  rw [if_neg Bool.false_ne_true]
theorem itr_obj {x : V} {t : Tok} {b : Bool} {it : Addr} {i : Nat} {h : Heap} (q : itr x t b it i h) : ∃ o, h.get? it = some o ∧ (∀ v, o.data ≠ .cell v) ∧ ∃ vs c, o.cls = .type c ∧ o.data = .fields vs ∧ (["enumerate", "zip", "dict_itemiterator", "dict_reverseitemiterator", "odict_iterator", "itertools.zip_longest", "itertools.pairwise"].contains c = false) := by
  cases x with
  | ref a =>
    cases b with
    | true => rw [itr_l] at q; obtain ⟨o, h1, h2, h3⟩ := q; exact ⟨o, h1, (fun v z => by rw [h3] at z; cases z), _, _, h2, h3, by decide⟩
    | false => rw [itr_t] at q; obtain ⟨o, h1, h2, h3⟩ := q; exact ⟨o, h1, (fun v z => by rw [h3] at z; cases z), _, _, h2, h3, by decide⟩
  | str z =>
    obtain ⟨o, h1, h2, h3⟩ := (q : h.IsStrIter it (strIterType z) z t i)
    refine ⟨o, h1, (fun v z => by rw [h3] at z; cases z), _, _, h2, h3, ?_⟩
    unfold strIterType
    cases z.cps.all (· < 128) <;> decide
  | non => exact False.elim q
  | bl _ => exact False.elim q
  | int _ => exact False.elim q
  | byt _ => exact False.elim q
  | flt _ => exact False.elim q
  | ty _ => exact False.elim q

theorem itr_at {x : V} {t : Tok} {b : Bool} {it : Addr} {i : Nat} {h h' : Heap} (q : itr x t b it i h) (k : ∀ o, h.get? it = some o → h'.get? it = some o) : itr x t b it i h' := by
  cases x with
  | ref a =>
    cases b with
    | true => rw [itr_l] at q ⊢; exact q.at k
    | false => rw [itr_t] at q ⊢; exact q.at k
  | str z =>
    obtain ⟨o, h1, h2⟩ := (q : h.IsStrIter it (strIterType z) z t i)
    exact ⟨o, k o h1, h2⟩
  | non => exact False.elim q
  | bl _ => exact False.elim q
  | int _ => exact False.elim q
  | byt _ => exact False.elim q
  | flt _ => exact False.elim q
  | ty _ => exact False.elim q
/-- such an iterator draws the source's items -/
theorem itr_draws {X : Cx} {pins : List (Addr × Obj)} {σ : St} {H : Hp} {s : Shared} {x : V} {xs : List V} {t : Tok} {b : Bool} {it : Addr} {i : Nat} (hc : X.calm = true) (I : Inv X pins σ H s) (hs : Src X.K H b x xs) (q : itr x t b it i s.heap) :
    ∃ fp Pq St, Draws X.prog X.w X.A.in1 it fp xs.length Pq St ∧ St i s.heap ∧ (∀ c ∈ fp, c = it ∨ ∃ o T, s.heap.get? c = some o ∧ o.cls = .type T ∧ T ≠ "enumerate" ∧ T ≠ "zip") ∧ (∀ j u, Pq j u → ∃ v, xs[j]? = some v ∧ RelV v u) ∧ ∀ j h, St j h → itr x t b it j h := by
  have hh : X.A.in1.handled = Option.none := I.ok.hd hc
  obtain ⟨oi, hoi, _, vs, ci, hci, _⟩ := itr_obj q
  cases hs with
  | lst hl =>
    rename_i a
    rw [itr_l] at q
    obtain ⟨its, rv, p, _⟩ := I.list hl
    obtain ⟨o, h1, h2, h3⟩ := p.isList
    have hne : a ≠ it := fun z => by
      obtain ⟨o2, h4, h5, _⟩ := q
      rw [← z, h1] at h4; injection h4 with h4; subst h4
      rw [h2] at h5; injection h5 with h5; exact absurd h5 (by decide)
    have D := Draws.list (prog := X.prog) (w := X.w) (A := X.A.in1) hh it a hne its.toArray
    rw [List.size_toArray, ← rv.length] at D
    refine ⟨_, _, _, D, ⟨q, p.isList⟩, fun c hcm => ?_, fun j u hu => ?_, fun j h hst => ?_⟩
    · have e' : c = it ∨ c = a := by simpa using hcm
      rcases e' with z | z
      · exact .inl z
      · exact .inr ⟨o, "list", by rw [z]; exact h1, h2, by decide, by decide⟩
    · obtain ⟨v, z1, z2⟩ := vals_back rv (show its[j]? = some u by simpa using hu)
      exact ⟨v, z1, z2⟩
    · rw [itr_l]; exact hst.1
  | tup hl =>
    rename_i a
    rw [itr_t] at q
    obtain ⟨its, rv, p, _⟩ := I.tuple hl
    obtain ⟨o, h1, h2, n, h3⟩ := id p
    have hne : a ≠ it := fun z => by
      obtain ⟨o2, h4, h5, _⟩ := q
      rw [← z, h1] at h4; injection h4 with h4; subst h4
      rw [h2] at h5; injection h5 with h5; exact absurd h5 (by decide)
    have D := Draws.tuple (prog := X.prog) (w := X.w) (A := X.A.in1) hh it a hne its.toArray
    rw [List.size_toArray, ← rv.length] at D
    refine ⟨_, _, _, D, ⟨q, p⟩, fun c hcm => ?_, fun j u hu => ?_, fun j h hst => ?_⟩
    · have e' : c = it ∨ c = a := by simpa using hcm
      rcases e' with z | z
      · exact .inl z
      · exact .inr ⟨o, "tuple", by rw [z]; exact h1, h2, by decide, by decide⟩
    · obtain ⟨v, z1, z2⟩ := vals_back rv (show its[j]? = some u by simpa using hu)
      exact ⟨v, z1, z2⟩
    · rw [itr_t]; exact hst.1
  | str b z =>
    have D := Draws.text (prog := X.prog) (w := X.w) (A := X.A.in1) hh it z t
    rw [← Array.length_toList, ← List.length_map (fun c => V.str ⟨#[c]⟩)] at D
    refine ⟨_, _, _, D, q, fun c hcm => .inl (List.mem_singleton.mp hcm), fun j u hu => ?_, fun j h hst => hst⟩
    obtain ⟨c, tk, h1, rfl⟩ := hu
    exact ⟨.str ⟨#[c]⟩, by rw [List.getElem?_map, Array.getElem?_toList, h1]; rfl, ⟨tk, rfl⟩⟩
where
  vals_back {xs : List V} {us : List Value} (r : Vals xs us) {j : Nat} {u : Value} (h : us[j]? = some u) : ∃ v, xs[j]? = some v ∧ RelV v u := by
    cases e : xs[j]? with
    | none => rw [r.none_of e] at h; cases h
    | some v =>
      obtain ⟨u', h1, h2⟩ := r.get e
      rw [h] at h1; injection h1 with h1; subst h1
      exact ⟨v, rfl, h2⟩
end DL

set_option Elab.async false
set_option linter.all false
set_option maxRecDepth 100000
set_option maxHeartbeats 4000000
namespace DL
open PySem PySem.Spec L2

/-! ### enumerate(x), enumerate(x, k) over a list, a tuple, a text -/
def Ites (K : Frg) (b : Bool) (x : V) (k0 : Int) : It :=
  ⟨fun i H => ∃ (xs : List V) (v : V), Src K H b x xs ∧ xs[i]? = some v, fun i H v H' => ∃ T y, v = .ref T ∧ H T = Option.none ∧ H' = upd H T (.tup [.int (k0 + (i : Nat)), y]) ∧ ∀ xs, Src K H b x xs → xs[i]? = some y, fun i H => ∃ xs : List V, Src K H b x xs ∧ xs.length = i⟩
theorem turn_enumS {P : Program} {w : World} {K : Frg} {elts : List Expr} {kk : Nat} {tpos : Pos} (b : Bool) (x : V) (t : Tok) (k0 : Int) (e it : Addr) :
    Turn P w K (.Tuple elts kk tpos) (Ites K b x k0) [e, it] e (fun i h => (∃ old, IsEnum h e it (k0 + (i : Nat)) old) ∧ itr x t b it i h ∧ e ≠ it) where
  mem := by simp
  obj := fun i h st c hb => by
    obtain ⟨⟨old, he⟩, hq, _⟩ := st
    have e' : c = e ∨ c = it := by simpa using hb
    rcases e' with z | z
    · rw [z]; exact ⟨_, he, fun v q => nomatch q⟩
    · obtain ⟨o, ho, hd, _⟩ := itr_obj hq
      rw [z]; exact ⟨o, ho, hd⟩
  keep := fun i h h' st k => let ⟨⟨old, he⟩, hi, hne⟩ := st; ⟨⟨old, k e (by simp) _ he⟩, itr_at hi fun o q => k it (by simp) o q, hne⟩
  item := by
    intro X hP hw hK hc i pins s σ H E I hf st hg
    subst hP hw hK
    obtain ⟨⟨old, he⟩, hit, hne⟩ := st
    obtain ⟨xs, v, hq, hx⟩ := hg
    obtain ⟨fp, Pq, St, D, hSt, hfp, hPq, hback⟩ := itr_draws hc I hq hit
    have hel : e < s.heap.objs.size := Heap.lt_size he
    have hil : it < s.heap.objs.size := by obtain ⟨_, q, _⟩ := itr_obj hit; exact Heap.lt_size q
    have hef : e ∉ fp := fun z => by
      rcases hfp e z with y | ⟨o, T, h1, h2, h3, _⟩
      · exact hne y
      · rw [he] at h1; injection h1 with h1; subst h1
        injection h2 with h2; exact h3 h2.symm
    have hlt : i < xs.length := (List.getElem?_eq_some_iff.mp hx).1
    refine wpAny_pyNext_enum_itemC D he hSt hlt hne hef fun u h' tk hu ho hit' hT hsz hk => ?_
    refine ⟨_, rfl, wpAny_letOwnedTupleGo_enum (s := { s with heap := h', toks := tk + 1 }) ho fun h'' he' sb => ?_⟩
    obtain ⟨y, hy, ry⟩ := hPq i u hu
    have hT2 : h''.get? s.heap.objs.size = some { cls := .type "tuple", data := .seq #[.int (k0 + (i : Nat)) tk, u] } := (sb.2 _ (Nat.ne_of_gt hel)).trans hT
    have new : ObjOk X.prog X.w (upd H s.heap.objs.size (.tup [.int (k0 + (i : Nat)), y])) h'' s.heap.objs.size (.tup [.int (k0 + (i : Nat)), y]) :=
      ⟨by show 2 ≤ sizeLine; decide, [.int (k0 + (i : Nat)) tk, u], .cons ⟨_, rfl⟩ (.cons ry .nil), ⟨_, hT2, rfl, _, rfl⟩⟩
    have I1 : Inv X pins σ (upd H s.heap.objs.size (.tup [.int (k0 + (i : Nat)), y])) { s with heap := h'', toks := tk + 1 } :=
      I.turnedNew (ch := [e, it]) (fun b ob hb q => (sb.2 b (fun z => hb (by simp [z]))).trans (hk b ob (fun z => hb (by simp [z])) (fun z => hb (by simp [z])) q)) hf (Nat.le_refl _) new
    refine ⟨.ref s.heap.objs.size, _, I1, rfl, ⟨_, y, rfl, I.hok.fresh (Nat.le_refl _), rfl, fun ys hys => by rw [Src.inj I hys hq]; exact hy⟩, ⟨⟨u, ?_⟩, itr_at (hback _ _ hit') fun o q => (sb.2 it (Ne.symm hne)).trans q, hne⟩, fun b hb => ?_⟩
    · have e1 : k0 + ((i + 1 : Nat) : Int) = k0 + (i : Int) + 1 := by omega
      rw [e1]; exact he'
    · have hb' : b < s.heap.objs.size := by
        have e' : b = e ∨ b = it := by simpa using hb
        rcases e' with z | z
        · rw [z]; exact hel
        · rw [z]; exact hil
      rw [upd_ne (Nat.ne_of_lt hb')]
      exact (hf b hb).1
  done := by
    intro X hP hw hK hc i pins s σ H E I hf st hg
    subst hP hw hK
    obtain ⟨⟨old, he⟩, hit, hne⟩ := st
    obtain ⟨xs, hq, hx⟩ := hg
    obtain ⟨f0, f1, f2, f3, f4, f5⟩ := hf it (by simp)
    subst hx
    obtain ⟨fp, Pq, St, D, hSt, _⟩ := itr_draws hc I hq hit
    exact wpAny_pyNext_enum_endD D he hSt fun h' eb => ⟨rfl, I.turned (t' := s.toks) (fun b o hb q => eb b o hb q) f0 f1 f3 f4 f5⟩
  self := fun A i s Q E st h => let ⟨⟨_, he⟩, _⟩ := st; wpAny_pyIter_enum he h
/-- how iter(x) begins, for a source -/
theorem src_begins {X : Cx} {pins : List (Addr × Obj)} {σ : L2.St} {H : Hp} {s : Shared} {b : Bool} {x : V} {xs : List V} {u : Value} (I : Inv X pins σ H s) (hq : Src X.K H b x xs) (r : RelV x u) :
    ∃ o HH t, Begins u o HH ∧ HH s.heap ∧ ∀ (it : Addr) (h : Heap), h.get? it = some o → itr x t b it 0 h := by
  cases hq with
  | lst hl =>
    cases r
    obtain ⟨its, rv, p, _⟩ := I.list hl
    exact ⟨_, _, 0, begins_list _ its.toArray, p.isList, fun it h e => by rw [itr_l]; exact ⟨_, e, rfl, rfl⟩⟩
  | tup hl =>
    cases r
    obtain ⟨its, rv, p, _⟩ := I.tuple hl
    exact ⟨_, _, 0, begins_tuple _ its.toArray, p, fun it h e => by rw [itr_t]; exact ⟨_, e, rfl, rfl⟩⟩
  | str b z =>
    obtain ⟨t, rfl⟩ := r
    exact ⟨_, _, t, begins_text z t, trivial, fun it h e => ⟨_, e, rfl, rfl⟩⟩
def iEnumS (K : Frg) (ta : TA) : TI := fun σ H R => ta σ H fun vs H1 => ∃ b x xs k0, (vs = [x] ∧ k0 = 0 ∨ vs = [x, .int k0]) ∧ -(2 ^ 63) ≤ k0 ∧ k0 < 2 ^ 63 ∧ Src K H1 b x xs ∧ R (Ites K b x k0) H1
section
variable {X : Cx}
theorem enum_pie {elts : List Expr} {kk : Nat} {tpos : Pos} {pins : List (Addr × Obj)} {σ : L2.St} {H : Hp} {s : Shared} {b : Bool} {x : V} {t : Tok} {k0 : Int} {R : It → Hp → Prop} {o : Obj} {E : Value → Shared → Prop} (I : Inv X pins σ H s) (q : R (Ites X.K b x k0) H) (h' : Heap)
    (he : IsEnum h' (s.heap.objs.size + 1) s.heap.objs.size k0 .none) (ho : h'.get? s.heap.objs.size = some o) (hsz : h'.objs.size = s.heap.objs.size + 2) (hk : ∀ b o, s.heap.get? b = some o → h'.get? b = some o) (hi : ∀ (it : Addr) (h : Heap), h.get? it = some o → itr x t b it 0 h) :
    wpAny (model X.prog X.w) X.A (pyIter (.ref (s.heap.objs.size + 1))) (PIE X pins σ (.Tuple elts kk tpos) R) E { s with heap := h' } := by
  refine wpAny_pyIter_enum he ?_
  have I2 : Inv X pins σ H { s with heap := h' } := I.kept (t' := s.toks) hk
  refine ⟨s.heap.objs.size + 1, [s.heap.objs.size + 1, s.heap.objs.size], _, _, H, rfl, I2, turn_enumS b x t k0 (s.heap.objs.size + 1) s.heap.objs.size, ⟨⟨.none, by rw [show k0 + ((0 : Nat) : Int) = k0 by omega]; exact he⟩, hi _ _ ho, Nat.succ_ne_self _⟩, fun b hb => ?_, q⟩
  have e' : b = s.heap.objs.size + 1 ∨ b = s.heap.objs.size := by simpa using hb
  have hle : s.heap.objs.size ≤ b := by
    rcases e' with z | z
    · rw [z]; exact Nat.le_add_right _ _
    · rw [z]; exact Nat.le_refl _
  exact I.fpOk hle (I.hok.fresh hle)
theorem pi_enumS1 {e : Expr} {ta : TA} {p pos tpos : Pos} {elts : List Expr} {kk : Nat} (hg : Gl X "enumerate") (hm : X.mg "enumerate" = Option.none) (ha : PA X [e] ta) (hs : starEach [e] X.env = [(false, eval e X.env)] := by rfl) :
    PI X (.Tuple elts kk tpos) (.Call (.Name "enumerate" p) [e] [] pos) (fun σ H R => ta σ H fun vs H1 => ∃ b x xs, vs = [x] ∧ Src X.K H1 b x xs ∧ R (Ites X.K b x 0) H1) := by
  refine ⟨fun pins s σ H R I h => ?_⟩
  refine PyProof.Rows.Call_ (ld_blt I hg hm PyProof.Rows.boot_enumerate (PyProof.Rows.callWith_type1 (thn (ha.run pos pins s σ H _ I h) fun us s1 ⟨vs, H1, I1, r1, q1⟩ => ?_) hs rfl))
  obtain ⟨b, x, xs, ex, hq, q⟩ := q1
  subst ex
  obtain ⟨u, rfl, r⟩ := vals1 r1
  obtain ⟨o, HH, t, B, hH, hi⟩ := src_begins I1 hq r
  exact enum_begins1 B hH fun h' he ho hsz hk => enum_pie I1 q h' he ho hsz hk hi
theorem pi_enumS2 {e e2 : Expr} {ta : TA} {p pos tpos : Pos} {elts : List Expr} {kk : Nat} (hg : Gl X "enumerate") (hm : X.mg "enumerate" = Option.none) (ha : PA X [e, e2] ta) (hs : starEach [e, e2] X.env = (false, eval e X.env) :: starEach [e2] X.env := by rfl) (hpl : (backTo pos (starEach [e2] X.env)).any (·.1) = false := by rfl) :
    PI X (.Tuple elts kk tpos) (.Call (.Name "enumerate" p) [e, e2] [] pos) (fun σ H R => ta σ H fun vs H1 => ∃ b x xs k0, vs = [x, .int k0] ∧ -(2 ^ 63) ≤ k0 ∧ k0 < 2 ^ 63 ∧ Src X.K H1 b x xs ∧ R (Ites X.K b x k0) H1) := by
  refine ⟨fun pins s σ H R I h => ?_⟩
  refine PyProof.Rows.Call_ (ld_blt I hg hm PyProof.Rows.boot_enumerate (PyProof.Rows.callWith_type1 (thn (ha.run pos pins s σ H _ I h) fun us s1 ⟨vs, H1, I1, r1, q1⟩ => ?_) hs hpl))
  obtain ⟨b, x, xs, k0, ex, h0, h1, hq, q⟩ := q1
  subst ex
  obtain ⟨u, u2, rfl, r, r2⟩ := vals2 r1
  obtain ⟨tk, rfl⟩ := r2
  obtain ⟨o, HH, t, B, hH, hi⟩ := src_begins I1 hq r
  exact enum_begins B hH h0 h1 fun h' he ho hsz hk => enum_pie I1 q h' he ho hsz hk hi
/-- iter(x), whatever it is -/
def Itss (K : Frg) (b : Bool) (x : V) : It := match x with
  | .ref a => if b = true then Itl K a else Itt K a
  | .str z => Its z
  | _ => Itr 0 0
theorem pi_src {tg e : Expr} {te : TE} (he : PE X e te) : PI X tg e (fun σ H R => te σ H fun x H1 => ∃ b xs, Src X.K H1 b x xs ∧ R (Itss X.K b x) H1) := by
  refine ⟨fun pins s σ H R I h => ?_⟩
  refine thn (he.run pins s σ H _ I h) fun v s1 ⟨y, H1, I1, r1, b, xs, hq, q⟩ => ?_
  cases hq with
  | @lst a xs hl =>
    cases r1
    obtain ⟨its, _, p, _⟩ := I1.list hl
    exact wpAny_pyIter_list p.isList (pi_one (tk := s1.toks) I1 _ (turn_list a _) ⟨_, Heap.get?_push_size _ rfl, rfl, rfl⟩ (show R (Itl X.K a) H1 from q))
  | @tup a xs hl =>
    cases r1
    obtain ⟨its, _, p, _⟩ := I1.tuple hl
    exact wpAny_pyIter_tuple (show s1.heap.IsTuple a its.toArray from p) (pi_one (tk := s1.toks) I1 _ (turn_tuple a _) ⟨_, Heap.get?_push_size _ rfl, rfl, rfl⟩ (show R (Itt X.K a) H1 from q))
  | str b z =>
    obtain ⟨t, rfl⟩ := r1
    cases ha : z.cps.all (· < 128)
    · exact wpAny_pyIter_wide ha (pi_one (tk := s1.toks) I1 _ (turn_str _ z t "str_iterator" (.inr rfl)) ⟨_, Heap.get?_push_size _ rfl, rfl, rfl⟩ q)
    · exact wpAny_pyIter_ascii ha (pi_one (tk := s1.toks) I1 _ (turn_str _ z t "str_ascii_iterator" (.inl rfl)) ⟨_, Heap.get?_push_size _ rfl, rfl, rfl⟩ q)
end
section
variable {K : Frg} {F0 : Hp}
theorem walkSrc {b : Bool} {x : V} {xs : List V} {ds : List Dt} (h : Src K F0 b x xs) (q : DpAll K F0 xs ds) : WalkD K F0 (Itss K b x) ds := by
  have hl := dpLen q
  cases h with
  | @lst a xs h =>
    refine ⟨fun i H s hi => ⟨xs, xs[i]'(by omega), s.seq h, by simp [show i < xs.length by omega]⟩, fun H s => ⟨xs, s.seq h, by omega⟩, fun i H v H' F s1 s2 hi y => ?_⟩
    obtain ⟨rfl, y⟩ := y
    have e := y xs ((s1.trans s2).seq h)
    obtain ⟨d, h1, h2⟩ := dpGet' q e
    exact ⟨d, F, h1, Grow.refl s2, h2.mono s1⟩
  | @tup a xs h =>
    refine ⟨fun i H s hi => ⟨xs, xs[i]'(by omega), seqT s h, by simp [show i < xs.length by omega]⟩, fun H s => ⟨xs, seqT s h, by omega⟩, fun i H v H' F s1 s2 hi y => ?_⟩
    obtain ⟨rfl, y⟩ := y
    have e := y xs (seqT (s1.trans s2) h)
    obtain ⟨d, h1, h2⟩ := dpGet' q e
    exact ⟨d, F, h1, Grow.refl s2, h2.mono s1⟩
  | str b z =>
    have hz : z.cps.size = ds.length := by rw [← hl, List.length_map, Array.length_toList]
    refine ⟨fun i H s hi => by show i < z.cps.size; omega, fun H s => by show z.cps.size ≤ ds.length; omega, fun i H v H' F s1 s2 hi y => ?_⟩
    obtain ⟨rfl, c, y, rfl⟩ := y
    have e : (z.cps.toList.map fun c => V.str ⟨#[c]⟩)[i]? = some (V.str ⟨#[c]⟩) := by rw [List.getElem?_map, Array.getElem?_toList, y]; rfl
    obtain ⟨d, h1, h2⟩ := dpGet' q e
    exact ⟨d, F, h1, Grow.refl s2, h2.mono s1⟩
/-- pairs of a number and an item -/
def numbered (k0 : Int) : List Dt → List Dt
  | [] => []
  | d :: ds => .tuple [.int k0, d] :: numbered (k0 + 1) ds
theorem numbered_len : ∀ (ds : List Dt) (k0 : Int), (numbered k0 ds).length = ds.length
  | [], _ => rfl
  | d :: ds, k0 => by show (numbered (k0 + 1) ds).length + 1 = ds.length + 1; rw [numbered_len ds]
theorem numbered_get : ∀ (ds : List Dt) (k0 : Int) (i : Nat) (d : Dt), ds[i]? = some d → (numbered k0 ds)[i]? = some (.tuple [.int (k0 + (i : Nat)), d])
  | [], _, _, _, h => by simp at h
  | d :: ds, k0, 0, d', h => by
    have e : d = d' := by simpa using h
    subst e
    show some _ = some _
    rw [show k0 + ((0 : Nat) : Int) = k0 by omega]
  | d :: ds, k0, i + 1, d', h => by
    have := numbered_get ds (k0 + 1) i d' (by simpa using h)
    show (numbered (k0 + 1) ds)[i]? = _
    rw [this, show k0 + 1 + (i : Int) = k0 + ((i + 1 : Nat) : Int) by omega]
theorem walkEnum {b : Bool} {x : V} {xs : List V} {ds : List Dt} {k0 : Int} (h : Src K F0 b x xs) (q : DpAll K F0 xs ds) : WalkD K F0 (Ites K b x k0) (numbered k0 ds) := by
  have hl := dpLen q
  have hn := numbered_len ds k0
  refine ⟨fun i H s hi => ⟨xs, xs[i]'(by omega), h.same s, by simp [show i < xs.length by omega]⟩, fun H s => ⟨xs, h.same s, by omega⟩, fun i H v H' F s1 s2 hi y => ?_⟩
  obtain ⟨T, u, rfl, hT, rfl, y⟩ := y
  have e := y xs (h.same (s1.trans s2))
  obtain ⟨d, h1, h2⟩ := dpGet' q e
  have gr : Grow F H (upd F T (.tup [.int (k0 + (i : Nat)), u])) (upd H T (.tup [.int (k0 + (i : Nat)), u])) := Grow.new s2 hT _
  exact ⟨_, _, numbered_get ds k0 i d h1, gr, .tup (SqT.of upd_same) (.cons (.int _) (.cons ((h2.mono s1).mono gr.ext) .nil))⟩
theorem walkRange {lo : Int} {n : Nat} : WalkD K F0 (Itr lo n) ((List.range n).map fun (i : Nat) => PyData.int (lo + (i : Int))) := by
  have hl : ((List.range n).map fun (i : Nat) => PyData.int (lo + (i : Int))).length = n := by rw [List.length_map, List.length_range]
  refine ⟨fun i H s hi => by show i < n; omega, fun H s => by show n ≤ _; omega, fun i H v H' F s1 s2 hi y => ?_⟩
  obtain ⟨rfl, rfl⟩ := y
  refine ⟨_, F, ?_, Grow.refl s2, .int _⟩
  rw [List.getElem?_map, List.getElem?_range (by omega)]; rfl
theorem walkRangeC {lo c : Int} {n : Nat} : WalkD K F0 (Itc lo c n) ((List.range n).map fun (i : Nat) => PyData.int (lo + (i : Int) * c)) := by
  have hl : ((List.range n).map fun (i : Nat) => PyData.int (lo + (i : Int) * c)).length = n := by rw [List.length_map, List.length_range]
  refine ⟨fun i H s hi => by show i < n; omega, fun H s => by show n ≤ _; omega, fun i H v H' F s1 s2 hi y => ?_⟩
  obtain ⟨rfl, rfl⟩ := y
  refine ⟨_, F, ?_, Grow.refl s2, .int _⟩
  rw [List.getElem?_map, List.getElem?_range (by omega)]; rfl
end
/-! ### the rules for what is walked -/
def iSeq (fe : EF) : AF := fun ρ => (fe ρ).bind fun p => (dItems p.1).map fun ds => (ds, p.2)
def iEnum1 (fe : EF) : AF := fun ρ => (fe ρ).bind fun p => (dItems p.1).map fun ds => (numbered 0 ds, p.2)
def iEnum2 (fe fk : EF) : AF := fun ρ => (fe ρ).bind fun p => (fk p.2).bind fun q => match q.1 with
  | .int k0 => if -(2 ^ 63) ≤ k0 ∧ k0 < 2 ^ 63 then (dItems p.1).map fun ds => (numbered k0 ds, q.2) else Option.none
  | _ => Option.none
def iRange1 (fe : EF) : AF := fun ρ => (fe ρ).bind fun p => match p.1 with
  | .int n => if -(2 ^ 62) ≤ n ∧ n < 2 ^ 62 then some (rangeD 0 n, p.2) else Option.none
  | _ => Option.none
def iRange2 (fa fb : EF) : AF := fun ρ => (fa ρ).bind fun p => (fb p.2).bind fun q => match p.1, q.1 with
  | .int i, .int j => if -(2 ^ 62) ≤ i ∧ i < 2 ^ 62 ∧ -(2 ^ 62) ≤ j ∧ j < 2 ^ 62 then some (rangeD i j, q.2) else Option.none
  | _, _ => Option.none
section
variable {P : Program} {w : World} {K : Frg} {mg : Str → Option Value} {base : Heap} {k : Nat} {M : Fam P w K mg base k} {tg a b c e e2 : Expr} {fa fb fe fk : EF} {p pos tpos : Pos} {elts : List Expr} {kk : Nat}
theorem di_seq (he : DE M e fe) : DI M tg e (iSeq fe) := by
  obtain ⟨t, a1, a2⟩ := he
  refine ⟨fun σ H R => t σ H fun x H1 => ∃ b xs, Src K H1 b x xs ∧ R (Itss K b x) H1, fun j => ?_, fun F H σ ρ ds ρ' R hf r q => ?_⟩
  · have z := pi_src (tg := tg) (a1 j); rw [M.K j] at z; exact z
  · obtain ⟨⟨d, ρ1⟩, h1, hf⟩ := Option.bind_eq_some_iff.mp hf
    obtain ⟨es, h2, hf⟩ := Option.map_eq_some_iff.mp hf
    injection hf with e1 e2
    subst e1; subst e2
    refine a2 F H σ ρ d ρ1 _ h1 r fun v F1 H1 g1 hd => ?_
    obtain ⟨b, xs, h3, h4⟩ := Src.of hd h2
    exact ⟨b, xs, h3.same g1.rel.sub, q _ F1 H1 g1 (walkSrc h3 h4)⟩
theorem di_enum1 (hm : mg "enumerate" = Option.none) (he : DE M e fe) (hg : ∀ j, Gl (M.X j) "enumerate" := by intro _; rfl) (hs : ∀ j, starEach [e] (M.X j).env = [(false, eval e (M.X j).env)] := by intro _; rfl) :
    DI M (.Tuple elts kk tpos) (.Call (.Name "enumerate" p) [e] [] pos) (iEnum1 fe) := by
  obtain ⟨t, a1, a2⟩ := he
  refine ⟨fun σ H R => (tCons t tNil) σ H fun vs H1 => ∃ b x xs, vs = [x] ∧ Src K H1 b x xs ∧ R (Ites K b x 0) H1, fun j => ?_, fun F H σ ρ ds ρ' R hf r q => ?_⟩
  · have z := pi_enumS1 (p := p) (pos := pos) (tpos := tpos) (elts := elts) (kk := kk) (hg j) (by rw [M.mg j]; exact hm) (pa_cons (a1 j) pa_nil (hs j)) (hs j)
    rw [M.K j] at z; exact z
  · obtain ⟨⟨d, ρ1⟩, h1, hf⟩ := Option.bind_eq_some_iff.mp hf
    obtain ⟨es, h2, hf⟩ := Option.map_eq_some_iff.mp hf
    injection hf with e1 e2
    subst e1; subst e2
    refine a2 F H σ ρ d ρ1 _ h1 r fun v F1 H1 g1 hd => ?_
    obtain ⟨b, xs, h3, h4⟩ := Src.of hd h2
    exact ⟨b, v, xs, rfl, h3.same g1.rel.sub, q _ F1 H1 g1 (walkEnum h3 h4)⟩
theorem di_enum2 (hm : mg "enumerate" = Option.none) (he : DE M e fe) (hk : DE M e2 fk) (hg : ∀ j, Gl (M.X j) "enumerate" := by intro _; rfl) (hs : ∀ j, starEach [e, e2] (M.X j).env = (false, eval e (M.X j).env) :: starEach [e2] (M.X j).env := by intro _; rfl)
    (hs2 : ∀ j, starEach [e2] (M.X j).env = (false, eval e2 (M.X j).env) :: starEach [] (M.X j).env := by intro _; rfl) (hpl : ∀ j, (backTo pos (starEach [e2] (M.X j).env)).any (·.1) = false := by intro _; rfl) :
    DI M (.Tuple elts kk tpos) (.Call (.Name "enumerate" p) [e, e2] [] pos) (iEnum2 fe fk) := by
  obtain ⟨t, a1, a2⟩ := he
  obtain ⟨u, b1, b2⟩ := hk
  refine ⟨fun σ H R => (tCons t (tCons u tNil)) σ H fun vs H1 => ∃ b x xs k0, vs = [x, .int k0] ∧ -(2 ^ 63) ≤ k0 ∧ k0 < 2 ^ 63 ∧ Src K H1 b x xs ∧ R (Ites K b x k0) H1, fun j => ?_, fun F H σ ρ ds ρ' R hf r q => ?_⟩
  · have z := pi_enumS2 (p := p) (pos := pos) (tpos := tpos) (elts := elts) (kk := kk) (hg j) (by rw [M.mg j]; exact hm) (pa_cons (a1 j) (pa_cons (b1 j) pa_nil (hs2 j)) (hs j)) (hs j) (hpl j)
    rw [M.K j] at z; exact z
  · obtain ⟨⟨d, ρ1⟩, h1, hf⟩ := Option.bind_eq_some_iff.mp hf
    obtain ⟨⟨dk, ρ2⟩, h2, hf⟩ := Option.bind_eq_some_iff.mp hf
    refine a2 F H σ ρ d ρ1 _ h1 r fun v F1 H1 g1 hd => ?_
    refine b2 F1 H1 σ ρ1 dk ρ2 _ h2 g1.rel fun v2 F2 H2 g2 hd2 => ?_
    cases hd2 <;> first | (cases hf; done) | skip
    rename_i k0
    have hf' : (if -(2 ^ 63) ≤ k0 ∧ k0 < 2 ^ 63 then (dItems d).map fun ds => (numbered k0 ds, ρ2) else Option.none) = some (ds, ρ') := hf
    by_cases hb : -(2 ^ 63) ≤ k0 ∧ k0 < 2 ^ 63
    · rw [if_pos hb] at hf'
      obtain ⟨es, h3, hf'⟩ := Option.map_eq_some_iff.mp hf'
      injection hf' with e1 e2
      subst e1; subst e2
      obtain ⟨b, xs, h4, h5⟩ := Src.of (hd.mono g2.ext) h3
      exact ⟨b, v, xs, k0, rfl, hb.1, hb.2, h4.same g2.rel.sub, q _ F2 H2 (g1.trans g2) (walkEnum h4 h5)⟩
    · rw [if_neg hb] at hf'; cases hf'
theorem di_range1 (hm : mg "range" = Option.none) (he : DE M e fe) (hg : ∀ j, Gl (M.X j) "range" := by intro _; rfl) (hs : ∀ j, starEach [e] (M.X j).env = [(false, eval e (M.X j).env)] := by intro _; rfl) :
    DI M tg (.Call (.Name "range" p) [e] [] pos) (iRange1 fe) := by
  obtain ⟨t, a1, a2⟩ := he
  refine ⟨_, fun j => pi_range1 (hg j) (by rw [M.mg j]; exact hm) (pa_cons (a1 j) pa_nil (hs j)) (hs j), fun F H σ ρ ds ρ' R hf r q => ?_⟩
  obtain ⟨⟨d, ρ1⟩, h1, hf⟩ := Option.bind_eq_some_iff.mp hf
  refine a2 F H σ ρ d ρ1 _ h1 r fun v F1 H1 g1 hd => ?_
  cases hd <;> first | (cases hf; done) | skip
  rename_i n
  have hf' : (if -(2 ^ 62) ≤ n ∧ n < 2 ^ 62 then some (rangeD 0 n, ρ1) else Option.none) = some (ds, ρ') := hf
  by_cases hb : -(2 ^ 62) ≤ n ∧ n < 2 ^ 62
  · rw [if_pos hb] at hf'; injection hf' with hf'; injection hf' with e1 e2
    subst e1; subst e2
    refine ⟨n, rfl, hb.1, hb.2, q _ F1 H1 g1 ?_⟩
    have z := walkRange (K := K) (F0 := F1) (lo := 0) (n := n.toNat)
    unfold rangeD
    rw [show n - 0 = n by omega]
    exact z
  · rw [if_neg hb] at hf'; cases hf'
theorem di_range2 (hm : mg "range" = Option.none) (ha : DE M a fa) (hb : DE M b fb) (hg : ∀ j, Gl (M.X j) "range" := by intro _; rfl) (hs : ∀ j, starEach [a, b] (M.X j).env = [(false, eval a (M.X j).env), (false, eval b (M.X j).env)] := by intro _; rfl)
    (hs2 : ∀ j, starEach [b] (M.X j).env = [(false, eval b (M.X j).env)] := by intro _; rfl) : DI M tg (.Call (.Name "range" p) [a, b] [] pos) (iRange2 fa fb) := by
  obtain ⟨t, a1, a2⟩ := ha
  obtain ⟨u, b1, b2⟩ := hb
  refine ⟨_, fun j => pi_range2 (hg j) (by rw [M.mg j]; exact hm) (pa_cons (a1 j) (pa_cons (b1 j) pa_nil (hs2 j)) (by rw [hs j, hs2 j])) (hs j) (hs2 j), fun F H σ ρ ds ρ' R hf r q => ?_⟩
  obtain ⟨⟨d, ρ1⟩, h1, hf1⟩ := Option.bind_eq_some_iff.mp hf
  obtain ⟨⟨d2, ρ2⟩, h2, hf2⟩ := Option.bind_eq_some_iff.mp hf1
  clear hf hf1
  refine a2 F H σ ρ d ρ1 _ h1 r fun v F1 H1 g1 hd => ?_
  refine b2 F1 H1 σ ρ1 d2 ρ2 _ h2 g1.rel fun v2 F2 H2 g2 hd2 => ?_
  clear h1 h2
  cases hd <;> cases hd2 <;> first | (cases hf2; done) | skip
  rename_i i j
  have hf' : (if -(2 ^ 62) ≤ i ∧ i < 2 ^ 62 ∧ -(2 ^ 62) ≤ j ∧ j < 2 ^ 62 then some (rangeD i j, ρ2) else Option.none) = some (ds, ρ') := hf2
  by_cases hb : -(2 ^ 62) ≤ i ∧ i < 2 ^ 62 ∧ -(2 ^ 62) ≤ j ∧ j < 2 ^ 62
  · rw [if_pos hb] at hf'; injection hf' with hf'; injection hf' with e1 e2
    subst e1; subst e2
    exact ⟨i, j, rfl, hb, q _ F2 H2 (g1.trans g2) walkRange⟩
  · rw [if_neg hb] at hf'; cases hf'
end
end DL

set_option Elab.async false
set_option linter.all false
set_option maxRecDepth 100000
set_option maxHeartbeats 4000000
namespace DL
open PySem PySem.Spec L2

/-! ### a < b < c -/
def eChain (g g' : Dt → Dt → Option Dt) (fa fb fc : EF) : EF := fun ρ => (fa ρ).bind fun p => (fb p.2).bind fun q => (g p.1 q.1).bind fun r => match r with
  | .bool true => (fc q.2).bind fun s => (g' q.1 s.1).map fun c => (c, s.2)
  | .bool false => some (.bool false, q.2)
  | _ => Option.none
section
variable {P : Program} {w : World} {K : Frg} {mg : Str → Option Value} {base : Heap} {k : Nat} {M : Fam P w K mg base k} {x : Str} {p pos : Pos} {e a b c : Expr} {es : List Expr} {fe fa fb fc : EF}
theorem refChain {r r' : R2} {g g' : Dt → Dt → Option Dt} (h : OpD K r g) (h' : OpD K r' g') {ta tb tc : TE} (ha : RefE K ta fa) (hb : RefE K tb fb) (hc : RefE K tc fc) : RefE K (tChain r r' ta tb tc) (eChain g g' fa fb fc) := by
  intro F H σ ρ d ρ' Q hf rl q
  obtain ⟨⟨da, ρ1⟩, h1, hf1⟩ := Option.bind_eq_some_iff.mp hf
  obtain ⟨⟨db, ρ2⟩, h2, hf2⟩ := Option.bind_eq_some_iff.mp hf1
  obtain ⟨dr, h3, hf3⟩ := Option.bind_eq_some_iff.mp hf2
  clear hf hf1 hf2
  refine ha F H σ ρ da ρ1 _ h1 rl fun v F1 H1 g1 hv => ?_
  refine hb F1 H1 σ ρ1 db ρ2 _ h2 g1.rel fun u F2 H2 g2 hu => ?_
  refine h F2 H2 v u da db dr _ g2.rel.sub (hv.mono g2.ext) hu h3 fun x F3 H3 g3 hx => ?_
  have g3' := Go.of_grow g2.rel g3
  cases hx <;> first | (cases hf3; done) | skip
  rename_i bb
  refine ⟨bb, rfl, ?_⟩
  cases bb with
  | false =>
    injection hf3 with hf3; injection hf3 with e1 e2
    subst e1; subst e2
    exact iteF (q _ F3 H3 ((g1.trans g2).trans g3') (.bl false))
  | true =>
    obtain ⟨⟨dc, ρ3⟩, h4, hf4⟩ := Option.bind_eq_some_iff.mp (show (fc ρ2).bind _ = some (d, ρ') from hf3)
    obtain ⟨c, h5, hf5⟩ := Option.map_eq_some_iff.mp hf4
    injection hf5 with e1 e2
    subst e1; subst e2
    refine iteT (hc F3 H3 σ ρ2 dc ρ3 _ h4 g3'.rel fun y F4 H4 g4 hy => ?_)
    refine h' F4 H4 u y db dc c Q g4.rel.sub ((hu.mono g3.ext).mono g4.ext) hy h5 fun z F5 H5 g5 hz => ?_
    exact q z F5 H5 ((((g1.trans g2).trans g3').trans g4).trans (Go.of_grow g4.rel g5)) hz
theorem de_chain {op op' : CmpOp} {g g' : Dt → Dt → Option Dt} (o : OpS M (compareOp op) g) (o' : OpS M (compareOp op') g') (ha : DE M a fa) (hb : DE M b fb) (hc : DE M c fc) (hm : lastMarks [op, op'] [b, c] = false := by with_unfolding_all rfl) : DE M (.Compare a [op, op'] [b, c] pos) (eChain g g' fa fb fc) := by
  obtain ⟨r, o1, o2⟩ := o.ex
  obtain ⟨r', o3, o4⟩ := o'.ex
  obtain ⟨ta, a1, a2⟩ := ha
  obtain ⟨tb, b1, b2⟩ := hb
  obtain ⟨tc, c1, c2⟩ := hc
  exact ⟨_, fun j => pe_chain (o1 j) (o3 j) (a1 j) (b1 j) (c1 j) hm, refChain o2 o4 a2 b2 c2⟩
theorem dt_chain {op op' : CmpOp} {g g' : Dt → Dt → Option Dt} (o : OpS M (compareOp op) g) (o' : OpS M (compareOp op') g') (ha : DE M a fa) (hb : DE M b fb) (hc : DE M c fc) (hm : lastMarks [op, op'] [b, c] = false := by with_unfolding_all rfl) : DTe M (.Compare a [op, op'] [b, c] pos) (toT (eChain g g' fa fb fc)) := by
  obtain ⟨r, o1, o2⟩ := o.ex
  obtain ⟨r', o3, o4⟩ := o'.ex
  obtain ⟨ta, a1, a2⟩ := ha
  obtain ⟨tb, b1, b2⟩ := hb
  obtain ⟨tc, c1, c2⟩ := hc
  exact ⟨_, fun j => pt_chain (o1 j) (o3 j) (a1 j) (b1 j) (c1 j) hm, (refChain o2 o4 a2 b2 c2).test⟩
/-! ### x * n of a text, a list -/
def repS (z : Str) (n : Nat) : Str := ⟨((List.replicate n z.cps.toList).flatten).toArray⟩
def dRep : Dt → Dt → Option Dt
  | .str z, .int n => if 2 ≤ n ∧ n < 2 ^ 62 ∧ z.length ≠ 0 ∧ z.length * n.toNat ≤ sizeLine then some (.str (repS z n.toNat)) else Option.none
  | .list ds, .int n => if -(2 ^ 63) ≤ n ∧ n < 2 ^ 63 ∧ ds.length * n.toNat ≤ sizeLine then some (.list (List.replicate n.toNat ds).flatten) else Option.none
  | _, _ => Option.none
theorem fold_app (a : Array Nat) : ∀ (n : Nat) (acc : Array Nat), (List.replicate n a).foldl (· ++ ·) acc = acc ++ ((List.replicate n a.toList).flatten).toArray
  | 0, acc => by simp
  | n + 1, acc => by
    rw [List.replicate_succ, List.foldl_cons, fold_app a n, List.replicate_succ, List.flatten_cons]
    apply Array.toList_inj.mp
    simp
theorem op_repS {X : Cx} : OpR X (binaryOp .Mult) (fun x y H Q => ∃ z n, x = .str z ∧ y = .int n ∧ 2 ≤ n ∧ n < 2 ^ 62 ∧ z.length ≠ 0 ∧ z.length * n.toNat ≤ sizeLine ∧ Q (.str (repS z n.toNat)) H) := by
  intro pins s σ H x y v u Q I rx ry h
  obtain ⟨z, n, rfl, rfl, h0, h1, h2, h3, q⟩ := h
  obtain ⟨t, rfl⟩ := rx
  obtain ⟨t', rfl⟩ := ry
  have a1 : ¬ n < 1 := by omega
  have hz : sizeLine = 16777216 := by decide
  have a2 : (n == 1 || z.length == 0) = false := by
    have e1 : (n == 1) = false := beq_eq_false_iff_ne.mpr (by omega)
    have e2 : (z.length == 0) = false := beq_eq_false_iff_ne.mpr h2
    rw [e1, e2]; rfl
  refine PySem.P.mul_str ?_ (fun _ _ hh => ?_) (fun _ _ => ?_) ?_
  · rw [decide_eq_false (by omega : ¬ n < -(2 ^ 63 : Int)), decide_eq_false (by omega : ¬ n ≥ 2 ^ 63)]; rfl
  · have e1 : (n.toNat : Int) = n := Int.toNat_of_nonneg (by omega)
    have e2 : (z.length : Int) * n ≤ 16777216 := by
      have : ((z.length * n.toNat : Nat) : Int) ≤ 16777216 := by omega
      rw [Int.natCast_mul, e1] at this
      exact this
    have e3 : (z.length : Int) ≤ 16777216 := by
      have h4 : z.length * 1 ≤ z.length * n.toNat := Nat.mul_le_mul_left _ (by omega)
      omega
    have e4 : n ≤ 16777216 := by
      have h4 : 1 * n.toNat ≤ z.length * n.toNat := Nat.mul_le_mul_right _ (by omega)
      omega
    have e5 : (16777216 : Int) ≤ (2 ^ 63 - 1) / n := by
      refine (Int.le_ediv_iff_mul_le (by omega)).mpr ?_
      have : 16777216 * n ≤ 16777216 * 16777216 := Int.mul_le_mul_of_nonneg_left e4 (by omega)
      omega
    omega
  · unfold Builtin.Str.tooLong
    exact decide_eq_false (by omega)
  · rw [if_neg a1, if_neg (by rw [a2]; exact Bool.false_ne_true)]
    refine ⟨?_, ?_⟩
    · have := fold_app z.cps n.toNat #[]
      rw [this]
      rw [Array.empty_append]
      show ((List.replicate n.toNat z.cps.toList).flatten.toArray).size ≤ sizeLine
      rw [List.size_toArray, rep_len]
      have e : z.cps.toList.length = z.length := Array.length_toList
      rw [e, Nat.mul_comm]
      omega
    · have := fold_app z.cps n.toNat #[]
      rw [this, Array.empty_append]
      exact ⟨.str (repS z n.toNat), H, I.tok _, ⟨_, rfl⟩, q⟩
where
  rep_len {α : Type} {l : List α} {n : Nat} : (List.replicate n l).flatten.length = n * l.length := by
    induction n with
    | zero => simp
    | succ n ih => rw [List.replicate_succ, List.flatten_cons, List.length_append, ih, Nat.succ_mul, Nat.add_comm]
theorem repS_ : OpS M (binaryOp .Mult) dRep := by
  refine ⟨⟨fun x y H Q => (∃ z n, x = .str z ∧ y = .int n ∧ 2 ≤ n ∧ n < 2 ^ 62 ∧ z.length ≠ 0 ∧ z.length * n.toNat ≤ sizeLine ∧ Q (.str (repS z n.toNat)) H) ∨ rRep x y H Q, fun j => op_repS.or op_rep, fun F H x y d e c Q s hx hy hg q => ?_⟩⟩
  cases hx with
  | str z =>
    cases hy <;> first | (cases hg; done) | skip
    rename_i n
    have h' : (if 2 ≤ n ∧ n < 2 ^ 62 ∧ z.length ≠ 0 ∧ z.length * n.toNat ≤ sizeLine then some (PyData.str (repS z n.toNat)) else Option.none) = some c := hg
    by_cases hc : 2 ≤ n ∧ n < 2 ^ 62 ∧ z.length ≠ 0 ∧ z.length * n.toNat ≤ sizeLine
    · rw [if_pos hc] at h'; injection h' with h'; subst h'
      exact .inl ⟨z, n, rfl, rfl, hc.1, hc.2.1, hc.2.2.1, hc.2.2.2, q _ F H (Grow.refl s) (.str _)⟩
    · rw [if_neg hc] at h'; cases h'
  | @lst a xs ds h1 h2 =>
    cases hy <;> first | (cases hg; done) | skip
    rename_i n
    have h' : (if -(2 ^ 63) ≤ n ∧ n < 2 ^ 63 ∧ ds.length * n.toNat ≤ sizeLine then some (PyData.list (List.replicate n.toNat ds).flatten) else Option.none) = some c := hg
    by_cases hc : -(2 ^ 63) ≤ n ∧ n < 2 ^ 63 ∧ ds.length * n.toNat ≤ sizeLine
    · rw [if_pos hc] at h'; injection h' with h'; subst h'
      refine .inr ⟨a, n, xs, rfl, rfl, s _ _ h1, hc.1, hc.2.1, by rw [dpLen h2]; exact hc.2.2, fun p hp => ?_⟩
      have gr := Grow.new s hp (.lst (List.replicate n.toNat xs).flatten)
      exact q _ _ _ gr (.lst upd_same (dpRep (h2.mono gr.ext) _))
    · rw [if_neg hc] at h'; cases h'
  | non => cases hg
  | bl _ => cases hg
  | int _ => cases hg
  | tup _ _ => cases hg
  | ro _ _ => cases hg
/-! ### min(xs, default=None) -/
def rMinDef (K : Frg) : List V → List V → Hp → VK → Prop := fun xs zs H Q => ∃ a ns, xs = [V.ref a] ∧ zs = [V.non] ∧ SqL K H a (ns.map V.int) ∧ Q (match ns with | [] => V.non | n :: r => V.int (r.foldl min n)) H
theorem ints_reads {h : Heap} : ∀ {ns : List Int} {us : List Value}, PyProof.Rows.IntsAre us ns → ∃ as, ReadsAll h us (ns.map PyData.int) as
  | [], _, .nil => ⟨_, .nil⟩
  | n :: ns, _, .cons _ t r => by
    obtain ⟨as, q⟩ := ints_reads r
    exact ⟨_, .cons (.int n t) q⟩
theorem depth_ints : ∀ ns : List Int, PyData.depthAll (ns.map PyData.int) = 0
  | [] => rfl
  | n :: ns => by
    show max 0 (PyData.depthAll (ns.map PyData.int)) = 0
    rw [depth_ints ns]; rfl
theorem alike_ints (ns : List Int) : PySem.W.AlikeAll (ns.map PyData.int) := by
  refine ⟨fun x hx y hy => ?_, fun x hx => ?_⟩
  · obtain ⟨i, _, rfl⟩ := List.mem_map.mp hx
    obtain ⟨j, _, rfl⟩ := List.mem_map.mp hy
    rfl
  · obtain ⟨i, _, rfl⟩ := List.mem_map.mp hx
    exact fun z => by cases z
theorem cr_minDef {X : Cx} (hc : X.calm = true) (hu : X.A.units + 64 < cLine) : CallRK X (.builtin "min") [Str.ofString "default"] (rMinDef X.K) := by
  intro pins s σ H vs zs us ws Q I r rz h
  obtain ⟨a, ns, rfl, rfl, hs, q⟩ := h
  obtain rfl := Vals.ref1 r
  obtain ⟨w1, rfl, e1⟩ := vals1 rz
  obtain rfl : w1 = Value.none := e1
  obtain ⟨its, rv, p, _⟩ := I.list hs
  obtain ⟨as, hr⟩ := ints_reads (h := s.heap) (intsAre_of rv)
  refine PySem.W.min_list_default (I.ok.hd hc) p.isList hr (alike_ints ns) (by rw [depth_ints]; omega) (fun e h' tk hk => ?_) (fun y ys i v h' tk bs e hv hR hk => ?_)
  · have en : ns = [] := by cases ns with
      | nil => rfl
      | cons _ _ => cases e
    subst en
    exact ⟨.non, H, I.kept hk, rfl, q⟩
  · cases ns with
    | nil => cases e
    | cons n r =>
      injection e with e1 e2
      subst e1; subst e2
      rw [PySem.W.minD_ints] at hR
      cases hR with
      | int m t => exact ⟨.int (r.foldl min n), H, I.kept hk, ⟨t, rfl⟩, q⟩
theorem de_minDef (hm : mg "min" = Option.none) (ha : DE M e fe) (hg : ∀ j, Gl (M.X j) "min" := by intro _; rfl)
    (hs : ∀ i, starEach [e] (M.X i).env = (false, eval e (M.X i).env) :: starEach [] (M.X i).env := by intro _; rfl)
    (he : ∀ i, backTo pos (starEach [e] (M.X i).env) = (false, eval e (M.X i).env) :: backTo pos (starEach [] (M.X i).env) := by intro _; rfl) (hpl : ∀ i, (backTo pos (starEach [e] (M.X i).env)).any (·.1) = false := by intro _; rfl)
    {kws : List Keyword} (hk : DK M kws (aCons (eC .none) aNil))
    (hall : ∀ i, (backToKw pos (keywordEach kws (M.X i).env)).all (·.1.isSome) = true := by intro _; rfl) (hnone : ∀ i, (backToKw pos (keywordEach kws (M.X i).env)).any (·.1.isNone) = false := by intro _; rfl) (hks : ∀ i, (backToKw pos (keywordEach kws (M.X i).env)).filterMap (·.1) = [Str.ofString "default"] := by intro _; rfl) :
    DE M (.Call (.Name "min" p) [e] kws pos) (eOp1 dMinDef fe) := by
  obtain ⟨t, a1, a2⟩ := ha
  obtain ⟨tk, k1, k2⟩ := hk
  refine ⟨tCKw (rMinDef K) (tCons t tNil) tk, fun i => ?_, fun F H σ ρ d ρ' Q hf r q => ?_⟩
  · have z := cr_minDef (X := M.X i) (M.calm i) (M.room i).units
    rw [M.K i] at z
    exact pe_callBK z (hg i) (by rw [M.mg i]; exact hm) PyProof.Rows.boot_min (pa_cons (a1 i) pa_nil (hs i)) (k1 i) (by decide) (by decide) (he i) (hpl i) (hall i) (hnone i) (hks i)
  · obtain ⟨⟨da, ρ1⟩, h1, hf1⟩ := Option.bind_eq_some_iff.mp hf
    obtain ⟨c, h3, hf2⟩ := Option.map_eq_some_iff.mp hf1
    injection hf2 with e1 e2
    subst e1; subst e2
    clear hf hf1
    refine a2 F H σ ρ da ρ1 _ h1 r fun v F1 H1 g1 hv => ?_
    refine k2 F1 H1 σ ρ1 [.none] ρ1 _ rfl g1.rel fun vs F2 H2 g2 hvs => ?_
    have hv2 := hv.mono g2.ext
    clear hv h1
    cases hv2 <;> first | (cases h3; done) | skip
    rename_i l xs ds h4 h5
    obtain ⟨ns, h6, rfl⟩ := Option.map_eq_some_iff.mp h3
    have e1 := intsOf_map h6
    subst e1
    have e2 := dpInts h5
    subst e2
    cases hvs with
    | cons hn hr =>
      cases hn
      cases hr
      refine ⟨l, ns, rfl, rfl, rdSq g2.rel.sub h4, q _ F2 H2 (g1.trans g2) ?_⟩
      cases ns with
      | nil => exact .non
      | cons n r => exact .int _
end
end DL

set_option Elab.async false
set_option linter.all false
set_option maxRecDepth 100000
set_option maxHeartbeats 4000000
namespace DL
open PySem PySem.Spec L2

/-! ### joined operators, small rules -/
def dMulA : Dt → Dt → Option Dt
  | .int i, e => dMul (.int i) e
  | d, e => dRep d e
def dInA (d e : Dt) : Option Dt := match e with
  | .str z => dIn d (.str z)
  | e => dInS d e
def dNotInA (d e : Dt) : Option Dt := match e with
  | .str z => dNotIn d (.str z)
  | e => dNotInS d e
section
variable {P : Program} {w : World} {K : Frg} {mg : Str → Option Value} {base : Heap} {k : Nat} {M : Fam P w K mg base k} {x : Str} {p pos : Pos} {e a b c : Expr} {es : List Expr} {fe fa fb fc : EF}
theorem OpS.or {f : Value → Value → Sem Value} {g g1 g2 : Dt → Dt → Option Dt} (h1 : OpS M f g1) (h2 : OpS M f g2) (h : ∀ d e, g d e = g1 d e ∨ g d e = g2 d e) : OpS M f g := by
  obtain ⟨r1, a1, a2⟩ := h1.ex
  obtain ⟨r2, b1, b2⟩ := h2.ex
  refine ⟨⟨fun x y H Q => r1 x y H Q ∨ r2 x y H Q, fun j => (a1 j).or (b1 j), fun F H x y d e c Q s hx hy hg q => ?_⟩⟩
  rcases h d e with z | z
  · exact .inl (a2 F H x y d e c Q s hx hy (z ▸ hg) q)
  · exact .inr (b2 F H x y d e c Q s hx hy (z ▸ hg) q)
theorem mulA : OpS M (binaryOp .Mult) dMulA := mulS.or repS_ fun d e => by
  cases d <;> first | exact .inl rfl | exact .inr rfl
theorem inA : OpS M (compareOp .In) dInA := inS.or inSeqS fun d e => by
  cases e <;> first | exact .inl rfl | exact .inr rfl
theorem notInA : OpS M (compareOp .NotIn) dNotInA := notInS.or notInSeqS fun d e => by
  cases e <;> first | exact .inl rfl | exact .inr rfl
/-- len of a list that a slot alone holds -/
theorem de_cellLen (i : Nat) {y : Str} {py : Pos} (hm : mg "len" = Option.none) (hN : ∀ j, (M.X j).N[i]? = some y := by intro _; rfl) (hv : ∀ j, Vis (M.X j).env.scope y := by intro _; first | exact Or.inl rfl | exact Or.inr (Or.inl rfl) | exact Or.inr (Or.inr rfl))
    (hd : (y == ("__debug__" : Str)) = false := by decide) (hcd : (y == ("__classdict__" : Str)) = false := by decide) (hg : ∀ j, Gl (M.X j) "len" := by intro _; rfl)
    (he : ∀ j, starEach [.Name y py] (M.X j).env = (false, eval (.Name y py) (M.X j).env) :: starEach [] (M.X j).env := by intro _; rfl) (hpl : ∀ j, (backTo pos (starEach [] (M.X j).env)).any (·.1) = false := by intro _; rfl) :
    DE M (.Call (.Name "len" p) [.Name y py] [] pos) (eCellLen i) := by
  refine ⟨tCB (fun xs H Q => ∃ x n, xs = [x] ∧ LenV K x H n ∧ Q (.int n) H) (tCons (tVar i) tNil), fun j => ?_, fun F H σ ρ d ρ' Q hf r q => ?_⟩
  · have z := call_len (X := M.X j); rw [M.K j] at z
    exact pe_callB z (hg j) (by rw [M.mg j]; exact hm) PySem.boot_len (pa_cons (pe_var (hN j) (hv j) hd hcd) pa_nil (he j)) (by decide) (by decide) (he j) (hpl j)
  · obtain ⟨ds, h1, h2⟩ := Option.map_eq_some_iff.mp hf
    injection h2 with e1 e2
    subst e1; subst e2
    obtain ⟨sl, c1, c2⟩ := cellAt_some h1
    obtain ⟨a, vs, e, f, hp, qv⟩ := r.cell i sl ds c1 c2
    refine ⟨_, e, _, vs.length, rfl, .inl ⟨vs, SqL.of hp, rfl⟩, ?_⟩
    rw [dpLen qv]
    exact q _ F H (Go.refl r) (.int _)
/-- x, y = [..], e: the list alone in x -/
def sParO (i j : Nat) (fo : AF) (fb : EF) : SF := fun ρ => (fo ρ).bind fun p => (fb p.2).bind fun q => (putSl i (.own p.1) q.2).bind fun ρ1 => (putSl j (.dat q.1) ρ1).map .nx
theorem ds_parO (i j : Nat) {x y : Str} {fo : AF} {px py pt : Pos} {kt k2 pt2} (nd : ∀ l, (M.X l).N.Nodup) (hij : i ≠ j) (ha : DO M a fo) (hb : DE M b fb) (hi : ∀ l, (M.X l).N[i]? = some x := by intro _; rfl) (hj : ∀ l, (M.X l).N[j]? = some y := by intro _; rfl)
    (hx : ∀ l, (M.X l).env.scope.names.lookup x = some .local := by intro _; rfl) (hy : ∀ l, (M.X l).env.scope.names.lookup y = some .local := by intro _; rfl)
    (hw : ∀ l, swappedStores [.Tuple [.Name x px, .Name y py] kt pt] (.Tuple [a, b] k2 pt2) (M.X l).env = pure (some [x, y]) := by intro _; rfl)
    (hs : ∀ l, swapsWithSole [.Tuple [.Name x px, .Name y py] kt pt] (.Tuple [a, b] k2 pt2) pos.line (M.X l).env = pure false := by intro _; rfl)
    (he : ∀ l, starEach [a, b] (M.X l).env = (false, eval a (M.X l).env) :: starEach [b] (M.X l).env := by intro _; rfl) (he2 : ∀ l, starEach [b] (M.X l).env = (false, eval b (M.X l).env) :: starEach [] (M.X l).env := by intro _; rfl) :
    DS M (.Assign [.Tuple [.Name x px, .Name y py] kt pt] (.Tuple [a, b] k2 pt2) pos) (sParO i j fo fb) := by
  obtain ⟨t, a1, a2⟩ := ha
  obtain ⟨u, b1, b2⟩ := hb
  refine ⟨_, fun l => ps_par (M.calm l) (nd l) (hi l) (hj l) hij (hx l) (hy l) (pa_cons (a1 l) (pa_cons (b1 l) pa_nil (he2 l)) (he l)) (hw l) (hs l), fun F H σ ρ o D hf r tk => ?_⟩
  obtain ⟨⟨ds, ρ1⟩, k1, hf1⟩ := Option.bind_eq_some_iff.mp hf
  obtain ⟨⟨d, ρ2⟩, k2, hf2⟩ := Option.bind_eq_some_iff.mp hf1
  obtain ⟨ρ3, k3, hf3⟩ := Option.bind_eq_some_iff.mp hf2
  obtain ⟨ρ4, k4, hf4⟩ := Option.map_eq_some_iff.mp hf3
  subst hf4
  clear hf hf1 hf2 hf3
  refine a2 F H σ ρ ds ρ1 _ k1 r fun p vs F1 H1 g1 hp f1 h1 q n => ?_
  refine b2 F1 H1 σ ρ1 d ρ2 _ k2 g1.rel fun v F2 H2 g2 hd => ?_
  obtain ⟨x1, x2, x3⟩ := g2.keep p _ h1 n
  obtain ⟨rfl, hl, nb⟩ := putSl_some k3
  obtain ⟨rfl, hl2, nb2⟩ := putSl_some k4
  have g3 : Go K F H σ ρ F2 H2 (σ.set i (some (.ref p))) (ρ2.set i (.own ds)) := (g1.trans g2).setO hp (x2 f1) x1 (q.mono g2.ext) x3 hl nb
  exact ⟨_, _, rfl, tk F2 H2 _ (g3.trans (g3.rel.set hd hl2 nb2))⟩
/-- an own slot's list is given out -/
theorem ds_retOwn (i : Nat) {y : Str} {py : Pos} (hN : ∀ j, (M.X j).N[i]? = some y := by intro _; rfl) (hv : ∀ j, Vis (M.X j).env.scope y := by intro _; first | exact Or.inl rfl | exact Or.inr (Or.inl rfl) | exact Or.inr (Or.inr rfl))
    (hd : (y == ("__debug__" : Str)) = false := by decide) (hcd : (y == ("__classdict__" : Str)) = false := by decide) : DS M (.Return (some (.Name y py)) pos) (sRetOwn i) := by
  refine ⟨_, fun j => ps_ret (pe_var (hN j) (hv j) hd hcd), fun F H σ ρ o D hf r tk => ?_⟩
  unfold sRetOwn at hf
  cases e : ρ[i]? with
  | none => rw [e] at hf; cases hf
  | some s =>
    rw [e] at hf
    cases s with
    | un => cases hf
    | dat _ => cases hf
    | bor _ => cases hf
    | own ds =>
      injection hf with hf; subst hf
      obtain ⟨p, vs, hs, f, hp, q⟩ := r.cell i _ ds e rfl
      have hl : i < ρ.length := (List.getElem?_eq_some_iff.mp e).1
      have off : ∀ {j : Nat} {sl : Sl} {es : List Dt}, (ρ.set i .un)[j]? = some sl → sl.cell = some es → j ≠ i ∧ ρ[j]? = some sl := fun {j sl es} h1 h2 => by
        rw [lookSet] at h1
        by_cases hj : j = i
        · rw [if_pos hj, if_pos hl] at h1
          injection h1 with h1; subst h1; cases h2
        · rw [if_neg hj] at h1; exact ⟨hj, h1⟩
      refine ⟨_, hs, tk p vs F H σ ⟨Same.refl F, fun b o hb n => ⟨hb, id, fun ⟨j, sl, es, h1, h2, h3⟩ => ?_⟩, fun _ h => h, fun j es h => ?_, ⟨r.sub, by rw [List.length_set]; exact r.len, fun j d h => ?_, fun j sl es h1 h2 => ?_, fun j1 j2 sl sl' es es' h1 h2 h3 h4 h5 => ?_⟩⟩ (.inr ⟨i, ds, e, hs⟩) f hp q fun ⟨j, sl, es, h1, h2, h3⟩ => ?_⟩
      · obtain ⟨_, h1⟩ := off h1 h2
        exact n ⟨j, sl, es, h1, h2, h3⟩
      · have hj : j ≠ i := fun z => by rw [z, e] at h; cases h
        exact ⟨⟨es, by rw [lookSet, if_neg hj]; exact h⟩, rfl⟩
      · rw [lookSet] at h
        by_cases hj : j = i
        · rw [if_pos hj, if_pos hl] at h; injection h with h; cases h
        · rw [if_neg hj] at h; exact r.dat j d h
      · obtain ⟨_, h1⟩ := off h1 h2
        exact r.cell j sl es h1 h2
      · obtain ⟨_, h1⟩ := off h1 h2
        obtain ⟨_, h3⟩ := off h3 h4
        exact r.inj j1 j2 sl sl' es es' h1 h2 h3 h4 h5
      · obtain ⟨hj, h1⟩ := off h1 h2
        exact hj (r.inj j i sl _ es ds h1 h2 e rfl (by rw [h3, hs]))
end
/-! ### defs of the text -/
structure DefAt (K : Frg) (mg : Str → Option Value) (x : Str) (st : Stmt) (ps : List Str) : Prop where
  ex : ∃ f fd, Fun K x x st f fd ∧ mg x = some (.ref f) ∧ Binds K fd ps []
section
variable {P : Program} {w : World} {K : Frg} {mg : Str → Option Value} {base : Heap}
theorem mkF {x : Str} {st : Stmt} {N ps : List Str} {k : Nat} {g : SF} (A : DefAt K mg x st ps) (S : FnScope N ps (defScope st)) (hN : ps.length ≤ N.length) (hb : ∀ f cdv, DSs (famOf P w K mg base k N x st f cdv) (defBody st) g) :
    Def P w K mg base x st ps (k + 1) (spF K (runF ps.length N.length g)) := by
  obtain ⟨f, fd, Fn, hm, b⟩ := A.ex
  exact ⟨⟨f, fd, Fn, fnF Fn S hN (hb f), hm, b⟩⟩
theorem mkO {x : Str} {st : Stmt} {N ps : List Str} {k : Nat} {g : SF} (A : DefAt K mg x st ps) (S : FnScope N ps (defScope st)) (hN : ps.length ≤ N.length) (hb : ∀ f cdv, DSs (famOf P w K mg base k N x st f cdv) (defBody st) g) :
    Def P w K mg base x st ps (k + 1) (spO K (runO ps.length N.length g)) := by
  obtain ⟨f, fd, Fn, hm, b⟩ := A.ex
  exact ⟨⟨f, fd, Fn, fnO Fn S hN (hb f), hm, b⟩⟩
theorem mkB {x : Str} {st : Stmt} {N ps : List Str} {k : Nat} {g : SF} (A : DefAt K mg x st ps) (S : FnScope N ps (defScope st)) (hN : ps.length ≤ N.length) (hb : ∀ f cdv, DSs (famOf P w K mg base k N x st f cdv) (defBody st) g) :
    Def P w K mg base x st ps (k + 1) (spB K (runB ps.length N.length g)) := by
  obtain ⟨f, fd, Fn, hm, b⟩ := A.ex
  exact ⟨⟨f, fd, Fn, fnB Fn S hN (hb f), hm, b⟩⟩
/-- no call is allowed, nothing is promised -/
theorem mk0 {x : Str} {st : Stmt} {ps : List Str} (A : DefAt K mg x st ps) : Def P w K mg base x st ps 0 (spF K fun _ => Option.none) := by
  obtain ⟨f, fd, Fn, hm, b⟩ := A.ex
  have no : ∀ vs H Q E, ¬ spF K (fun _ => Option.none) vs H Q E := fun vs H Q E ⟨_, _, _, _, _, h, _⟩ => by cases h
  exact ⟨⟨f, fd, Fn, ⟨fun vs H Q E h => absurd h (no vs H Q E), fun A outer s H args us vs Q E _ _ _ _ h => absurd h (no vs H Q E)⟩, hm, b⟩⟩
theorem Def.up {x : Str} {st : Stmt} {ps : List Str} {j j' : Nat} {sp : Sp} (D : Def P w K mg base x st ps j sp) (h : j ≤ j') : Def P w K mg base x st ps j' sp := by
  obtain ⟨f, fd, Fn, G, hm, b⟩ := D.ex
  exact ⟨⟨f, fd, Fn, G.mono h, hm, b⟩⟩
end
theorem law_fd {P : Program} {w : World} {K : Frg} {mg : Str → Option Value} {st : Stmt} {k : Nat} {sp : Sp} {fa : Addr} (A : DefAt K mg "law" st ["script"]) (hfa : mg "law" = some (.ref fa))
    (hb : ∀ (kV doc pm : Value) (an : Option Addr) (cdv ct u : Value), bindArgs (PySem.W.fnOf "law" "law" (defArgs st) (defBody st) (defScope st) .none kV doc pm an cdv ct) ⟨[u], []⟩ = pure [(Str.ofString "script", u)])
    (D : ∀ base, Def P w K mg base "law" st ["script"] k sp) :
    ∃ fd : FuncData, (∀ (s : Shared) (v : Value), BindsTo s fd ⟨[v], []⟩ [("script", v)]) ∧ ∀ base : Heap, K.In base → base.Ns mainGlobals mg → FnOk P w K mg base CX0 k fa fd ["script"] sp := by
  obtain ⟨f, fd, Fn, hm, _⟩ := A.ex
  have e : f = fa := by rw [hm] at hfa; injection hfa with hfa; injection hfa
  subst e
  refine ⟨fd, fun s v => ?_, fun base _ _ => ?_⟩
  · obtain ⟨oc, od, kV, doc, pm, an, cdv, ct, osl, rfl, lk, hcd⟩ := Fn.ex
    exact .of_eq (hb kV doc pm an cdv ct v)
  · obtain ⟨f', fd', Fn', G, hm', _⟩ := (D base).ex
    have e : f' = f := by rw [hm] at hm'; injection hm' with hm'; injection hm' with hm'; exact hm'.symm
    subst e
    obtain ⟨_, _, _, _, _, _, _, _, _, _, l1, _⟩ := Fn.ex
    obtain ⟨_, _, _, _, _, _, _, _, _, _, l2, _⟩ := Fn'.ex
    rw [l1] at l2
    injection l2 with l2
    injection l2 with _ _ l2 _
    injection l2 with l2
    rw [l2]; exact G
theorem law_end {K : Frg} {g : List Dt → Option Dt} (hg : ∀ ns : List Int, ns.length ≤ 63 → g [roD (ns.map .int)] = some (.bool true)) (H : Hp) (a : Addr) (ns : List Int) (hl : ns.length ≤ 63) (hS : SqL K H a (ns.map V.int)) (E : XK) :
    spF K g [.ref a] H (fun v _ => v = .bl true) E :=
  ⟨H, _, _, Same.refl H, .cons (.ro hS (dpOfInts ns)) .nil, hg ns hl, fun v F' H' _ hd => by cases hd; rfl⟩
theorem glob_int {K : Frg} {mg : Str → Option Value} {x : Str} {i : Int} {t : Tok} (h : mg x = some (.int i t)) : Glob K mg x (.int i) := ⟨_, .int i, h, ⟨t, rfl⟩, fun _ => .int i⟩
theorem glob_str {K : Frg} {mg : Str → Option Value} {x : Str} {i : Str} {t : Tok} (h : mg x = some (.str i t)) : Glob K mg x (.str i) := ⟨_, .str i, h, ⟨t, rfl⟩, fun _ => .str i⟩
/-! the names of what is built in -/
theorem hb_len : bootBuiltins "len" = some (.builtin "len") := by decide +kernel
theorem hb_abs : bootBuiltins "abs" = some (.builtin "abs") := by decide +kernel
theorem hb_max : bootBuiltins "max" = some (.builtin "max") := by decide +kernel
theorem hb_min : bootBuiltins "min" = some (.builtin "min") := by decide +kernel
theorem hb_sum : bootBuiltins "sum" = some (.builtin "sum") := by decide +kernel
theorem hb_all : bootBuiltins "all" = some (.builtin "all") := by decide +kernel
theorem hb_any : bootBuiltins "any" = some (.builtin "any") := by decide +kernel
theorem hb_divmod : bootBuiltins "divmod" = some (.builtin "divmod") := by decide +kernel
theorem hb_int : bootBuiltins "int" = some (.type "int") := by decide +kernel
theorem hb_str : bootBuiltins "str" = some (.type "str") := by decide +kernel
theorem hb_bool : bootBuiltins "bool" = some (.type "bool") := by decide +kernel
theorem hb_tuple : bootBuiltins "tuple" = some (.type "tuple") := by decide +kernel
theorem hb_list : bootBuiltins "list" = some (.type "list") := by decide +kernel
theorem hb_dict : bootBuiltins "dict" = some (.type "dict") := by decide +kernel
end DL

set_option Elab.async false
set_option linter.all false
set_option maxRecDepth 100000
set_option maxHeartbeats 4000000
namespace DL
open PySem PySem.Spec L2

/-! ### texts by their codes -/
def S (l : List Nat) : Dt := .str ⟨l.toArray⟩
theorem S_inj {a b : List Nat} : S a = S b ↔ a = b := by
  refine ⟨fun h => ?_, fun h => by rw [h]⟩
  unfold S at h
  injection h with h
  injection h with h
  have := congrArg Array.toList h
  simpa using this
theorem szl : sizeLine = 16777216 := by decide
theorem S_of (z : Str) : PyData.str z = S z.cps.toList := by
  unfold S
  rw [Array.toArray_toList]
theorem S_len {l : List Nat} : Str.length ⟨l.toArray⟩ = l.length := by
  show l.toArray.size = _
  rw [List.size_toArray]
theorem S_cps {l : List Nat} : (⟨l.toArray⟩ : Str).cps.toList = l := rfl
section
variable {a b : List Nat}
theorem add_S (h : a.length + b.length ≤ 16777216) : dAdd (S a) (S b) = some (S (a ++ b)) := by
  show (if Str.length ⟨a.toArray⟩ + Str.length ⟨b.toArray⟩ ≤ sizeLine then some (PyData.str (⟨a.toArray⟩ ++ ⟨b.toArray⟩)) else Option.none) = _
  rw [S_len, S_len, szl, if_pos h]
  show some (PyData.str ⟨a.toArray ++ b.toArray⟩) = _
  rw [List.append_toArray]; rfl
theorem len_S (h : a.length ≤ 16777216) : dLen1 (S a) = some (.int (a.length : Int)) := by
  show (if Str.length ⟨a.toArray⟩ ≤ sizeLine then some (PyData.int ((Str.length ⟨a.toArray⟩ : Nat) : Int)) else Option.none) = _
  rw [S_len, szl, if_pos h]
theorem eq_S : dEq (S a) (S b) = some (.bool (decide (a = b))) := by
  show some (PyData.bool (decide (V.str ⟨a.toArray⟩ = V.str ⟨b.toArray⟩))) = _
  congr 2
  by_cases h : a = b
  · rw [h]; simp
  · rw [decide_eq_false h, decide_eq_false]
    intro z
    injection z with z
    exact h (S_inj.mp (congrArg PyData.str z))
theorem ne_S : dNe (S a) (S b) = some (.bool (!decide (a = b))) := by
  have h := eq_S (a := a) (b := b)
  unfold dEq at h
  obtain ⟨c, h1, h2⟩ := Option.map_eq_some_iff.mp h
  injection h2 with h2
  subst h2
  unfold dNe
  rw [h1]; rfl
theorem items_S : dItems (S a) = some (a.map fun c => S [c]) := rfl
theorem isStr_S : isStrD (S a) = true := rfl
theorem isi_S_str : dIsi "str" (S a) = some (.bool true) := rfl
theorem isi_S_int : dIsi "int" (S a) = some (.bool false) := rfl
theorem isi_S_tuple : dIsi "tuple" (S a) = some (.bool false) := rfl
theorem isi_S_list : dIsi "list" (S a) = some (.bool false) := rfl
theorem isi_S_bool : dIsi "bool" (S a) = some (.bool false) := rfl
theorem in_S {c : Nat} : dInA (S [c]) (S a) = some (.bool (decide (c ∈ a))) := rfl
theorem notIn_S {c : Nat} : dNotInA (S [c]) (S a) = some (.bool (!decide (c ∈ a))) := rfl
theorem atI_nn {α : Type} {l : List α} {n : Nat} {v : α} (h : l[n]? = some v) : atI l (n : Int) = some v := atI_nat h
theorem ix_S {n : Nat} {c : Nat} (h : a.length ≤ 16777216) (hc : a[n]? = some c) : dIx (S a) (.int (n : Int)) = some (S [c]) := by
  show (if Str.length ⟨a.toArray⟩ ≤ sizeLine then (atI (⟨a.toArray⟩ : Str).cps.toList (n : Int)).map fun c => PyData.str ⟨#[c]⟩ else Option.none) = _
  rw [S_len, szl, if_pos h, S_cps, atI_nn hc]; rfl
theorem cutS_S (lo hi : Option Int) : PyData.str (cutS ⟨a.toArray⟩ lo hi) = S ((a.drop (HT.sIx a.length 0 lo)).take (HT.sIx a.length a.length hi - HT.sIx a.length 0 lo)) := by
  have e : ∀ z : Str, cutS z lo hi = ⟨((z.cps.toList.drop (HT.sIx z.length 0 lo)).take (HT.sIx z.length z.length hi - HT.sIx z.length 0 lo)).toArray⟩ := fun z => rfl
  rw [e, S_len, S_cps]; rfl
end
end DL

set_option Elab.async false
set_option linter.all false
set_option maxRecDepth 100000
set_option maxHeartbeats 4000000
namespace DL
open PySem PySem.Spec L2

/-! ### cuts -/
section
variable {α : Type}
theorem cut_nat (l : List α) (p q : Nat) : (l.drop (HT.sIx l.length 0 (some (p : Int)))).take (HT.sIx l.length l.length (some (q : Int)) - HT.sIx l.length 0 (some (p : Int))) = (l.drop p).take (q - p) := by
  rw [HT.sIx_nat, HT.sIx_nat]
  by_cases h : p ≤ l.length
  · rw [Nat.min_eq_left h]
    apply List.take_eq_take_iff.mpr
    rw [List.length_drop]; omega
  · rw [List.drop_of_length_le (by omega : l.length ≤ min p l.length), List.drop_of_length_le (by omega : l.length ≤ p)]; simp
theorem cut_to (l : List α) (q : Nat) : (l.drop (HT.sIx l.length 0 none)).take (HT.sIx l.length l.length (some (q : Int)) - HT.sIx l.length 0 none) = l.take q := by
  rw [HT.sIx_nat, HT.sIx_none, List.drop_zero, Nat.sub_zero]
  apply List.take_eq_take_iff.mpr
  omega
theorem cut_from (l : List α) (p : Nat) : (l.drop (HT.sIx l.length 0 (some (p : Int)))).take (HT.sIx l.length l.length none - HT.sIx l.length 0 (some (p : Int))) = l.drop p := by
  rw [HT.sIx_nat, HT.sIx_none]
  by_cases h : p ≤ l.length
  · rw [Nat.min_eq_left h]
    apply List.take_of_length_le
    rw [List.length_drop]; omega
  · rw [List.drop_of_length_le (by omega : l.length ≤ min p l.length), List.drop_of_length_le (by omega : l.length ≤ p)]; simp
end
section
variable {a : List Nat}
theorem slice_S (h : a.length ≤ 16777216) (lo hi : Option Int) : dSlice (S a) lo hi = some (S ((a.drop (HT.sIx a.length 0 lo)).take (HT.sIx a.length a.length hi - HT.sIx a.length 0 lo))) := by
  rw [← cutS_S]
  show (if Str.length ⟨a.toArray⟩ ≤ sizeLine then _ else _) = _
  rw [S_len, szl, if_pos h]
theorem slice_nat (h : a.length ≤ 16777216) (p q : Nat) : dSlice (S a) (some (p : Int)) (some (q : Int)) = some (S ((a.drop p).take (q - p))) := by rw [slice_S h, cut_nat]
theorem slice_to (h : a.length ≤ 16777216) (q : Nat) : dSlice (S a) none (some (q : Int)) = some (S (a.take q)) := by rw [slice_S h, cut_to]
theorem slice_from (h : a.length ≤ 16777216) (p : Nat) : dSlice (S a) (some (p : Int)) none = some (S (a.drop p)) := by rw [slice_S h, cut_from]
theorem sliceT_to (ds : List Dt) (q : Nat) : dSlice (.tuple ds) none (some (q : Int)) = some (.tuple (ds.take q)) := by
  show some (PyData.tuple (cutD ds _ _)) = _
  unfold cutD; rw [cut_to]
theorem sliceL_to (ds : List Dt) (q : Nat) : dSlice (.list ds) none (some (q : Int)) = some (.list (ds.take q)) := by
  show some (PyData.list (cutD ds _ _)) = _
  unfold cutD; rw [cut_to]
theorem sliceL_from (ds : List Dt) (q : Nat) : dSlice (.list ds) (some (q : Int)) none = some (.list (ds.drop q)) := by
  show some (PyData.list (cutD ds _ _)) = _
  unfold cutD; rw [cut_from]
theorem sliceR_to (ds : List Dt) (q : Nat) : dSlice (roD ds) none (some (q : Int)) = some (.list (ds.take q)) := by
  show some (PyData.list (cutD ds _ _)) = _
  unfold cutD; rw [cut_to]
end
/-! ### slots put back -/
theorem q_wlen (ρ : En) : ∀ vs, (wipeE ρ vs).length = ρ.length
  | [] => rfl
  | v :: vs => by show ((wipeE ρ vs).set v .un).length = _; rw [List.length_set, q_wlen ρ vs]
theorem q_wget (ρ : En) (j : Nat) : ∀ vs, (wipeE ρ vs)[j]? = if j ∈ vs ∧ j < ρ.length then some .un else ρ[j]?
  | [] => by simp [wipeE]
  | v :: vs => by
    show ((wipeE ρ vs).set v .un)[j]? = _
    rw [List.getElem?_set, q_wlen, q_wget ρ j vs]
    by_cases h : v = j
    · subst h
      by_cases hl : v < ρ.length
      · simp [hl]
      · simp [hl]
    · rw [if_neg h]
      have : (j ∈ v :: vs) ↔ j ∈ vs := by simp [List.mem_cons]; exact fun z => absurd z.symm h
      simp only [this]
theorem q_blen (ρ2 ρ1 : En) : ∀ vs, (backE ρ2 ρ1 vs).length = ρ2.length
  | [] => rfl
  | v :: vs => by show ((backE ρ2 ρ1 vs).set v _).length = _; rw [List.length_set, q_blen ρ2 ρ1 vs]
theorem q_bget (ρ2 ρ1 : En) (j : Nat) : ∀ vs, (backE ρ2 ρ1 vs)[j]? = if j ∈ vs ∧ j < ρ2.length then some (ρ1.getD j .un) else ρ2[j]?
  | [] => by simp [backE]
  | v :: vs => by
    show ((backE ρ2 ρ1 vs).set v (ρ1.getD v .un))[j]? = _
    rw [List.getElem?_set, q_blen, q_bget ρ2 ρ1 j vs]
    by_cases h : v = j
    · subst h
      by_cases hl : v < ρ2.length
      · simp [hl]
      · simp [hl]
    · rw [if_neg h]
      have : (j ∈ v :: vs) ↔ j ∈ vs := by simp [List.mem_cons]; exact fun z => absurd z.symm h
      simp only [this]
theorem back_of {ρ2 ρ1 ρ0 : En} {vs : List Nat} (h : wipeE ρ2 vs = wipeE ρ0 vs) (hv : ∀ v ∈ vs, ρ1[v]? = ρ0[v]?) : backE ρ2 ρ1 vs = ρ0 := by
  have hl : ρ2.length = ρ0.length := by rw [← q_wlen ρ2 vs, h, q_wlen]
  apply List.ext_getElem?
  intro j
  rw [q_bget]
  by_cases hj : j ∈ vs
  · by_cases h2 : j < ρ2.length
    · rw [if_pos ⟨hj, h2⟩]
      have := hv j hj
      rw [List.getD_eq_getElem?_getD, this, List.getElem?_eq_getElem (by omega : j < ρ0.length)]; rfl
    · rw [if_neg (fun z => h2 z.2), List.getElem?_eq_none (by omega), List.getElem?_eq_none (by omega)]
  · rw [if_neg (fun z => hj z.1)]
    have := congrArg (fun l : En => l[j]?) h
    simp only [q_wget] at this
    rwa [if_neg (fun z => hj z.1), if_neg (fun z => hj z.1)] at this
/-! ### comprehensions -/
section
variable {α : Type} {g : GF} {tt : TF} {te : EF} {vs : List Nat} {f : α → Dt} {b : α → Bool} {y : α → Dt} {G : α → En} {fi : AF} {l : List α} {ρ : En}
theorem lc_fm {E : En} : ∀ (l : List α) (ρ : En), wipeE ρ vs = E → (∀ x ∈ l, g (f x) E = some (G x) ∧ wipeE (G x) vs = E ∧ tt (G x) = some (b x, G x) ∧ (b x = true → te (G x) = some (y x, G x))) →
    ∃ ρ', lcLoop g tt te vs (l.map f) ρ = some ((l.filter b).map y, ρ') ∧ wipeE ρ' vs = E
  | [], ρ, h, _ => ⟨ρ, rfl, h⟩
  | x :: l, ρ, h, hx => by
    obtain ⟨h1, h2, h3, h4⟩ := hx x List.mem_cons_self
    obtain ⟨ρ', i1, i2⟩ := lc_fm l (G x) h2 fun x' m => hx x' (List.mem_cons_of_mem _ m)
    refine ⟨ρ', ?_, i2⟩
    show ((g (f x) (wipeE ρ vs)).bind fun ρ1 => (tt ρ1).bind fun b => if b.1 = true then (te b.2).bind fun y => (lcLoop g tt te vs (l.map f) y.2).bind fun r => some (y.1 :: r.1, r.2) else lcLoop g tt te vs (l.map f) b.2) = _
    rw [h, h1, Option.bind_some, h3, Option.bind_some]
    by_cases hb : b x = true
    · rw [if_pos hb, h4 hb, Option.bind_some, i1, Option.bind_some, List.filter_cons_of_pos hb]; rfl
    · rw [if_neg hb, i1, List.filter_cons_of_neg hb]
theorem oLc_fm' {ρ1 : En} (h1 : fi ρ = some (l.map f, ρ1)) (h2 : ∀ x ∈ l, g (f x) (wipeE ρ1 vs) = some (G x) ∧ wipeE (G x) vs = wipeE ρ1 vs ∧ tt (G x) = some (b x, G x) ∧ (b x = true → te (G x) = some (y x, G x))) (h3 : l.length ≤ 16777216) :
    oLc fi g tt te vs ρ = some ((l.filter b).map y, ρ1) := by
  obtain ⟨ρ', i1, i2⟩ := lc_fm l ρ1 rfl h2
  unfold oLc
  rw [h1, Option.bind_some, i1, Option.bind_some, if_pos, back_of i2 fun _ _ => rfl]
  rw [List.length_map, szl]
  exact Nat.le_trans (List.length_filter_le b l) h3
theorem oLc_fm (h1 : fi ρ = some (l.map f, ρ)) (h2 : ∀ x ∈ l, g (f x) (wipeE ρ vs) = some (G x) ∧ wipeE (G x) vs = wipeE ρ vs ∧ tt (G x) = some (b x, G x) ∧ (b x = true → te (G x) = some (y x, G x))) (h3 : l.length ≤ 16777216) :
    oLc fi g tt te vs ρ = some ((l.filter b).map y, ρ) := oLc_fm' h1 h2 h3
theorem oLc_map (h1 : fi ρ = some (l.map f, ρ)) (h2 : ∀ x ∈ l, g (f x) (wipeE ρ vs) = some (G x) ∧ wipeE (G x) vs = wipeE ρ vs ∧ te (G x) = some (y x, G x)) (h3 : l.length ≤ 16777216) :
    oLc fi g uTrue te vs ρ = some (l.map y, ρ) := by
  have := oLc_fm (tt := uTrue) (b := fun _ => true) h1 (fun x m => ⟨(h2 x m).1, (h2 x m).2.1, rfl, fun _ => (h2 x m).2.2⟩) h3
  rwa [List.filter_eq_self.mpr (fun _ _ => rfl)] at this
/-- elements that lend the list of a slot -/
theorem lc_bor {E : List Dt → En} {Pw : List Dt → Prop} {Py : Dt → Prop} : ∀ (l : List α) (w : List Dt) (ρ : En), wipeE ρ vs = wipeE (E w) vs → Pw w →
    (∀ w x, Pw w → x ∈ l → ∃ ρ1 ρ2 y w', g (f x) (wipeE (E w) vs) = some ρ1 ∧ te ρ1 = some (y, ρ2) ∧ wipeE ρ2 vs = wipeE (E w') vs ∧ Pw w' ∧ Py y) →
    ∃ ys ρ' w', lcLoop g uTrue te vs (l.map f) ρ = some (ys, ρ') ∧ wipeE ρ' vs = wipeE (E w') vs ∧ Pw w' ∧ (∀ y ∈ ys, Py y) ∧ ys.length = l.length
  | [], w, ρ, h, hp, _ => ⟨[], ρ, w, rfl, h, hp, by simp, rfl⟩
  | x :: l, w, ρ, h, hp, hx => by
    obtain ⟨ρ1, ρ2, y, w', h1, h2, h3, h4, h5⟩ := hx w x hp (List.mem_cons_self (l := l))
    obtain ⟨ys, ρ', w2, i1, i2, i3, i4, i5⟩ := lc_bor (E := E) (Pw := Pw) (Py := Py) l w' ρ2 h3 h4 fun w x' m n => hx w x' m (List.mem_cons_of_mem _ n)
    refine ⟨y :: ys, ρ', w2, ?_, i2, i3, ?_, by simp [i5]⟩
    · show ((g (f x) (wipeE ρ vs)).bind fun ρ1 => (uTrue ρ1).bind fun b => if b.1 = true then (te b.2).bind fun y => (lcLoop g uTrue te vs (l.map f) y.2).bind fun r => some (y.1 :: r.1, r.2) else lcLoop g uTrue te vs (l.map f) b.2) = _
      rw [h, h1, Option.bind_some]
      show (if true = true then (te ρ1).bind fun y => (lcLoop g uTrue te vs (l.map f) y.2).bind fun r => some (y.1 :: r.1, r.2) else lcLoop g uTrue te vs (l.map f) ρ1) = _
      rw [if_pos rfl, h2, Option.bind_some, i1, Option.bind_some]
    · intro z hz
      rcases List.mem_cons.mp hz with rfl | hz
      · exact h5
      · exact i4 z hz
theorem oLc_bor {E : List Dt → En} {Pw : List Dt → Prop} {Py : Dt → Prop} {w : List Dt} (h1 : fi (E w) = some (l.map f, E w)) (hp : Pw w)
    (h2 : ∀ w x, Pw w → x ∈ l → ∃ ρ1 ρ2 y w', g (f x) (wipeE (E w) vs) = some ρ1 ∧ te ρ1 = some (y, ρ2) ∧ wipeE ρ2 vs = wipeE (E w') vs ∧ Pw w' ∧ Py y) (hv : ∀ w w', ∀ v ∈ vs, (E w)[v]? = (E w')[v]?) (h3 : l.length ≤ 16777216) :
    ∃ ys w', oLc fi g uTrue te vs (E w) = some (ys, E w') ∧ Pw w' ∧ (∀ y ∈ ys, Py y) ∧ ys.length = l.length := by
  obtain ⟨ys, ρ', w', i1, i2, i3, i4, i5⟩ := lc_bor (E := E) (Pw := Pw) (Py := Py) l w (E w) rfl hp h2
  refine ⟨ys, w', ?_, i3, i4, i5⟩
  unfold oLc
  rw [h1, Option.bind_some, i1, Option.bind_some, if_pos, back_of i2 (hv w w')]
  rw [i5, szl]; exact h3
end
theorem isStrD_str (z : Str) : isStrD (.str z) = true := rfl
theorem filter_none {α : Type} (l : List α) : l.filter (fun _ => false) = [] := List.filter_eq_nil_iff.mpr (by simp)
theorem gIsN_S {a : List Nat} : gIsN (S a) = .bool false := rfl
theorem gNotN_S {a : List Nat} : gNotN (S a) = .bool true := rfl
theorem gIsN_none : gIsN .none = .bool true := rfl
theorem gNotN_none : gNotN .none = .bool false := rfl
theorem gIsN_tup {x} : gIsN (.tuple x) = .bool false := rfl
theorem gNotN_tup {x} : gNotN (.tuple x) = .bool true := rfl
theorem gIsN_int {x} : gIsN (.int x) = .bool false := rfl
theorem gNotN_int {x} : gNotN (.int x) = .bool true := rfl
theorem gIsN_list {x} : gIsN (.list x) = .bool false := rfl
theorem gNotN_list {x} : gNotN (.list x) = .bool true := rfl
theorem gIsN_bool {x} : gIsN (.bool x) = .bool false := rfl
theorem gNotN_bool {x} : gNotN (.bool x) = .bool true := rfl
theorem gIsN_str {x} : gIsN (.str x) = .bool false := rfl
theorem gNotN_str {x} : gNotN (.str x) = .bool true := rfl
/-! ### slots that may be written -/
def Fr (x : Sl) : Prop := x = .un ∨ ∃ d, x = .dat d
theorem Fr.un : Fr .un := Or.inl rfl
theorem Fr.dat {d : Dt} : Fr (.dat d) := Or.inr ⟨d, rfl⟩
theorem put0_fr {x s : Sl} {r : En} (h : Fr x) : putSl 0 s (x :: r) = some (s :: r) := by
  rcases h with rfl | ⟨d, rfl⟩ <;> rfl
theorem put0_un {s : Sl} {r : En} : putSl 0 s (.un :: r) = some (s :: r) := rfl
theorem put0_dat {s : Sl} {d : Dt} {r : En} : putSl 0 s (.dat d :: r) = some (s :: r) := rfl
theorem put0_own {s : Sl} {d : List Dt} {r : En} : putSl 0 s (.own d :: r) = some (s :: r) := rfl
theorem put_succ {x s : Sl} {i : Nat} {r : En} : putSl (i + 1) s (x :: r) = (putSl i s r).map (x :: ·) := by
  unfold putSl
  rw [List.getElem?_cons_succ]
  cases r[i]? with
  | none => rfl
  | some z => cases z <;> rfl
theorem fLoop_nil {g : GF} {b : SF} {ρ : En} : fLoop g b [] ρ = some (.nx ρ) := rfl
theorem fLoop_cons {g : GF} {b : SF} {d : Dt} {ds : List Dt} {ρ : En} : fLoop g b (d :: ds) ρ = (g d ρ).bind fun ρ1 => (b ρ1).bind fun o => match o with
    | .nx ρ2 => fLoop g b ds ρ2
    | .ct ρ2 => fLoop g b ds ρ2
    | .bk ρ2 => some (.nx ρ2)
    | o => some o := rfl
/-! ### loops -/
theorem fLoop_inv {g : GF} {bd : SF} (P : List Dt → En → Prop) : ∀ (ds : List Dt) (ρ : En), P ds ρ → (∀ d ds ρ, P (d :: ds) ρ → ∃ ρ1 ρ2, g d ρ = some ρ1 ∧ bd ρ1 = some (.nx ρ2) ∧ P ds ρ2) → ∃ ρ', fLoop g bd ds ρ = some (.nx ρ') ∧ P [] ρ'
  | [], ρ, h, _ => ⟨ρ, rfl, h⟩
  | d :: ds, ρ, h, hs => by
    obtain ⟨ρ1, ρ2, h1, h2, h3⟩ := hs d ds ρ h
    obtain ⟨ρ', i1, i2⟩ := fLoop_inv P ds ρ2 h3 hs
    refine ⟨ρ', ?_, i2⟩
    show ((g d ρ).bind fun ρ1 => (bd ρ1).bind fun o => match o with
      | .nx ρ2 => fLoop g bd ds ρ2
      | .ct ρ2 => fLoop g bd ds ρ2
      | .bk ρ2 => some (.nx ρ2)
      | o => some o) = _
    rw [h1, Option.bind_some, h2, Option.bind_some]
    exact i1
/-! ### lists of one kind -/
section
variable {α : Type} {l : List α}
theorem intsOf_fm (k : α → Int) : ∀ l : List α, intsOf (l.map fun x => .int (k x)) = some (l.map k)
  | [] => rfl
  | x :: l => by show (intsOf (l.map fun x => .int (k x))).map _ = _; rw [intsOf_fm k l]; rfl
theorem bolsOf_fm (k : α → Bool) : ∀ l : List α, bolsOf (l.map fun x => .bool (k x)) = some (l.map k)
  | [] => rfl
  | x :: l => by show (bolsOf (l.map fun x => .bool (k x))).map _ = _; rw [bolsOf_fm k l]; rfl
theorem dSum_map (k : α → Int) : dSum (.list (l.map fun x => .int (k x))) = some (.int (l.map k).sum) := by
  show (intsOf _).map _ = _; rw [intsOf_fm]; rfl
theorem dAll_map (k : α → Bool) : dAll (.list (l.map fun x => .bool (k x))) = some (.bool (l.all k)) := by
  show (bolsOf _).map _ = _; rw [bolsOf_fm]
  show some (PyData.bool ((l.map k).all id)) = _
  rw [List.all_map]; rfl
theorem dAny_map (k : α → Bool) : dAny (.list (l.map fun x => .bool (k x))) = some (.bool (l.any k)) := by
  show (bolsOf _).map _ = _; rw [bolsOf_fm]
  show some (PyData.bool ((l.map k).any id)) = _
  rw [List.any_map]; rfl
theorem strsOf_fm (k : α → List Nat) : ∀ l : List α, strsOf (l.map fun x => S (k x)) = some (l.map fun x => (⟨(k x).toArray⟩ : Str))
  | [] => rfl
  | x :: l => by show (strsOf (l.map fun x => S (k x))).map _ = _; rw [strsOf_fm k l]; rfl
theorem glue_fold (ys : List (List Nat)) : ∀ acc : Array Nat, (ys.map fun x => (⟨x.toArray⟩ : Str)).foldl (fun acc (p : Str) => acc ++ (#[] : Array Nat) ++ p.cps) acc = acc ++ ys.flatten.toArray := by
  induction ys with
  | nil => intro acc; simp
  | cons y ys ih =>
    intro acc
    rw [List.map_cons, List.foldl_cons, ih]
    simp [Array.append_assoc]
end
theorem join_flat (ys : List (List Nat)) : PySem.Txt.join ⟨#[]⟩ (ys.map fun x => (⟨x.toArray⟩ : Str)) = ⟨ys.flatten.toArray⟩ := by
  unfold PySem.Txt.join
  cases ys with
  | nil => rfl
  | cons y ys =>
    rw [List.map_cons]
    show (⟨List.foldl (fun acc (p : Str) => acc ++ (#[] : Array Nat) ++ p.cps) y.toArray (ys.map fun x => (⟨x.toArray⟩ : Str))⟩ : Str) = _
    rw [glue_fold]
    simp
theorem dJoin_S {ys : List (List Nat)} (h : ys.flatten.length ≤ 16777216) : dJoin (S []) (.list (ys.map S)) = some (S ys.flatten) := by
  show (strsOf (ys.map fun x => S x)).bind _ = _
  rw [strsOf_fm, Option.bind_some, join_flat, if_pos]
  · rfl
  · rw [List.map_map]
    have : (ys.map (Str.length ∘ fun x => (⟨x.toArray⟩ : Str))) = ys.map List.length := List.map_congr_left fun x _ => S_len
    rw [this, ← List.length_flatten]
    show _ + _ * 0 ≤ _
    simpa using h
theorem numbered_nat : ∀ (k : Nat) (ds : List Dt), numbered (k : Int) ds = (ds.zipIdx k).map fun p => .tuple [.int (p.2 : Int), p.1]
  | _, [] => rfl
  | k, d :: ds => by
    show PyData.tuple [.int (k : Int), d] :: numbered ((k : Int) + 1) ds = _
    have e : (k : Int) + 1 = ((k + 1 : Nat) : Int) := by omega
    rw [e, numbered_nat (k + 1) ds]; rfl
theorem iEnum2_one {fe : EF} {ρ ρ1 : En} {d : Dt} {ds : List Dt} (h : fe ρ = some (d, ρ1)) (h2 : dItems d = some ds) : iEnum2 fe (eC (.int 1)) ρ = some ((ds.zipIdx 1).map fun p => .tuple [.int (p.2 : Int), p.1], ρ1) := by
  simp only [iEnum2, h, Option.bind_some, eC]
  rw [if_pos (by decide), h2]
  rw [← numbered_nat 1 ds]
  simp only [Option.map_some]
  rfl
theorem iEnum1_at {fe : EF} {ρ ρ1 : En} {d : Dt} {ds : List Dt} (h : fe ρ = some (d, ρ1)) (h2 : dItems d = some ds) : iEnum1 fe ρ = some ((ds.zipIdx 0).map fun p => .tuple [.int (p.2 : Int), p.1], ρ1) := by
  simp only [iEnum1, h, Option.bind_some, h2, Option.map_some]
  rw [← numbered_nat 0 ds]
  rfl
theorem range_zero (n : Nat) : rangeD 0 (n : Int) = (List.range n).map fun i : Nat => PyData.int (i : Int) := by
  unfold rangeD
  rw [Int.sub_zero, Int.toNat_natCast]
  apply List.map_congr_left
  intro i _
  rw [Int.zero_add]
end DL

set_option Elab.async false
set_option linter.all false
set_option maxRecDepth 100000
set_option maxHeartbeats 4000000
namespace Q43
open PySem PySem.Spec L2 DL
/-! ### the text -/
def topS (i : Nat) : Stmt := PySem.Challenge.pw_roadsmeet_k43_frames_cut_anywhere.main.body.getD i (.Pass ⟨0, 0, 0, 0⟩)
abbrev s__law_well : Stmt := topS 34
abbrev s_is_text_of : Stmt := topS 5
abbrev s_is_lined : Stmt := topS 10
abbrev s_check_line : Stmt := topS 13
abbrev s_check_of : Stmt := topS 20
abbrev s_check_number : Stmt := topS 29
abbrev s__law_same : Stmt := topS 37
abbrev s__law_take : Stmt := topS 35
abbrev s__law_three : Stmt := topS 39
abbrev s__law_check : Stmt := topS 38
abbrev s__law_frame : Stmt := topS 40
abbrev s__law_pick : Stmt := topS 36
abbrev s_first_wrong_text : Stmt := topS 19
abbrev s_check_texts : Stmt := topS 28
abbrev s_figures : Stmt := topS 21
abbrev s_frame_of : Stmt := topS 22
abbrev s_stream_by : Stmt := topS 25
abbrev s_stream_of : Stmt := topS 32
abbrev s_check_text : Stmt := topS 12
abbrev s_text_at : Stmt := topS 23
abbrev s_frames_by : Stmt := topS 24
abbrev s_frames_in : Stmt := topS 31
abbrev s__law_is_signs : Stmt := topS 41
abbrev s__law_frames_in : Stmt := topS 42
abbrev s_check_filled_line : Stmt := topS 27
abbrev s_frame : Stmt := topS 30
abbrev s__law_right : Stmt := topS 44
abbrev s__law_text : Stmt := topS 43
abbrev s_law : Stmt := topS 45
def c_DIGITS : Dt := .str "0123456789"
def c_DIGITS_OF_PART : Dt := .int 3
def c_HEAD : Dt := .int 6
def c_LONGEST_LINE : Dt := .int 200
def c_MODULUS : Dt := .int 997
def c_MOST_TEXTS : Dt := .int 60
def c_SIGNS : Dt := .str " (),-.0123456789<=>abcdefghijklmnopqrstuvwxyz"
def fuel : Nat := 20000
structure Txt (K : Frg) (mg : Str → Option Value) : Prop where
  a__law_well : DefAt K mg "_law_well" s__law_well ["script", "turn"]
  a_is_text_of : DefAt K mg "is_text_of" s_is_text_of ["value", "signs"]
  a_is_lined : DefAt K mg "is_lined" s_is_lined ["value"]
  a_check_line : DefAt K mg "check_line" s_check_line ["text"]
  a_check_of : DefAt K mg "check_of" s_check_of ["text"]
  a_check_number : DefAt K mg "check_number" s_check_number ["text"]
  a__law_same : DefAt K mg "_law_same" s__law_same ["told", "due"]
  a__law_take : DefAt K mg "_law_take" s__law_take ["well", "many"]
  a__law_three : DefAt K mg "_law_three" s__law_three ["number"]
  a__law_check : DefAt K mg "_law_check" s__law_check ["text"]
  a__law_frame : DefAt K mg "_law_frame" s__law_frame ["text"]
  a__law_pick : DefAt K mg "_law_pick" s__law_pick ["well", "some"]
  a_first_wrong_text : DefAt K mg "first_wrong_text" s_first_wrong_text ["value"]
  a_check_texts : DefAt K mg "check_texts" s_check_texts ["texts"]
  a_figures : DefAt K mg "figures" s_figures ["number", "many"]
  a_frame_of : DefAt K mg "frame_of" s_frame_of ["text"]
  a_stream_by : DefAt K mg "stream_by" s_stream_by ["texts"]
  a_stream_of : DefAt K mg "stream_of" s_stream_of ["texts"]
  a_check_text : DefAt K mg "check_text" s_check_text ["text"]
  a_text_at : DefAt K mg "text_at" s_text_at ["stream", "start"]
  a_frames_by : DefAt K mg "frames_by" s_frames_by ["stream"]
  a_frames_in : DefAt K mg "frames_in" s_frames_in ["stream"]
  a__law_is_signs : DefAt K mg "_law_is_signs" s__law_is_signs ["text"]
  a__law_frames_in : DefAt K mg "_law_frames_in" s__law_frames_in ["stream"]
  a_check_filled_line : DefAt K mg "check_filled_line" s_check_filled_line ["text"]
  a_frame : DefAt K mg "frame" s_frame ["text"]
  a__law_right : DefAt K mg "_law_right" s__law_right ["well", "texts"]
  a__law_text : DefAt K mg "_law_text" s__law_text ["well", "most"]
  a_law : DefAt K mg "law" s_law ["script"]
  z_abs : mg "abs" = Option.none
  z_all : mg "all" = Option.none
  z_bool : mg "bool" = Option.none
  z_divmod : mg "divmod" = Option.none
  z_enumerate : mg "enumerate" = Option.none
  z_int : mg "int" = Option.none
  z_isinstance : mg "isinstance" = Option.none
  z_len : mg "len" = Option.none
  z_list : mg "list" = Option.none
  z_max : mg "max" = Option.none
  z_min : mg "min" = Option.none
  z_range : mg "range" = Option.none
  z_str : mg "str" = Option.none
  z_sum : mg "sum" = Option.none
  z_tuple : mg "tuple" = Option.none
  c_DIGITS : Glob K mg "DIGITS" c_DIGITS
  c_DIGITS_OF_PART : Glob K mg "DIGITS_OF_PART" c_DIGITS_OF_PART
  c_HEAD : Glob K mg "HEAD" c_HEAD
  c_LONGEST_LINE : Glob K mg "LONGEST_LINE" c_LONGEST_LINE
  c_MODULUS : Glob K mg "MODULUS" c_MODULUS
  c_MOST_TEXTS : Glob K mg "MOST_TEXTS" c_MOST_TEXTS
  c_SIGNS : Glob K mg "SIGNS" c_SIGNS
section
variable {P : Program} {w : World} {K : Frg} {mg : Str → Option Value} {base : Heap}
/-! _law_well -/
abbrev n__law_well : List Str := ["script", "turn", "own", "stir", "cell"]
theorem sc__law_well : FnScope ["script", "turn", "own", "stir", "cell"] ["script", "turn"] (defScope s__law_well) := ⟨rfl, rfl, rfl, by decide +kernel, rfl, by decide +kernel, by decide +kernel⟩
def b__law_well : SF :=
  (sSeq (sSet 2 (eIf (toT (eOp2 dLt (eVar 1) (eCall (g1 dLen1) (aCons (eVar 0) aNil)))) (eCall (g1 dInt) (aCons (eOp2 dIx (eVar 0) (eVar 1)) aNil)) (eOp2 dAdd (eOp2 dAdd (eOp2 dMulA (eC (.int 9311)) (eVar 1)) (eOp2 dMod (eCall (g1 dInt) (aCons (eCall (g1 dSum) (aCons (eSlice (eVar 0) pNone (pSome (eC (.int 2)))) aNil)) aNil)) (eC (.int 1000003)))) (eC (.int 71)))))
  (sSeq (sSet 3 (eOp2 dAdd (eC (.int 50021)) (eOp2 dMulA (eC (.int 1013)) (eVar 1))))
  (sSeq (sFor (iSeq (eOp2 dAdd (eSlice (eVar 0) pNone (pSome (eC (.int 5)))) (eOfO (oLst (aCons (eVar 2) aNil))))) (gNm 4)
    (sSet 3 (eOp2 dMod (eCall (g1 dInt) (aCons (eOp2 dAdd (eOp2 dAdd (eOp2 dMulA (eVar 3) (eC (.int 45013))) (eOp2 dMod (eCall (g1 dInt) (aCons (eVar 4) aNil)) (eC (.int 2147483399)))) (eC (.int 37))) aNil)) (eC (.int 2147483563)))))
  (sRetO (oLst (aCons (eIf (uOr (toT (eOp2 dLt (eVar 2) (eC (.int 0)))) (toT (eOp2 dGe (eVar 2) (eOp2 dPow (eC (.int 10)) (eC (.int 17)))))) (eCall (g1 dAbs) (aCons (eVar 2) aNil)) (eC (.int 0))) (aCons (eVar 3) (aCons (eC (.int 0)) aNil))))))))
def r__law_well := runO 2 5 b__law_well
theorem d__law_well (T : Txt K mg) : Def P w K mg base "_law_well" s__law_well ["script", "turn"] 1 (spO K r__law_well) :=
  mkO (k := 0) T.a__law_well sc__law_well (by decide) fun f cdv =>
  (dss_cons (ds_set 2 (fun _ => sc__law_well.nd) (de_if (dt_cmp ltS (de_var 1) (de_blt lenC T.z_len hb_len (da_cons (de_var 0) da_nil))) (de_ty intC T.z_int hb_int (da_cons (de_ix (de_var 0) (de_var 1)) da_nil)) (de_bin addS (de_bin addS (de_bin mulA de_int (de_var 1)) (de_bin modS (de_ty intC T.z_int hb_int (da_cons (de_blt sumC T.z_sum hb_sum (da_cons (de_slice (de_var 0) dp_none (dp_some de_int)) da_nil)) da_nil)) de_int)) de_int)))
  (dss_cons (ds_set 3 (fun _ => sc__law_well.nd) (de_bin addS de_int (de_bin mulA de_int (de_var 1))))
  (dss_cons (ds_for (di_seq (de_bin addS (de_slice (de_var 0) dp_none (dp_some de_int)) (de_frz (do_lst (da_cons (de_var 2) da_nil))))) (dg_name 4 (fun _ => sc__law_well.nd))
    (dss_one (ds_set 3 (fun _ => sc__law_well.nd) (de_bin modS (de_ty intC T.z_int hb_int (da_cons (de_bin addS (de_bin addS (de_bin mulA (de_var 3) de_int) (de_bin modS (de_ty intC T.z_int hb_int (da_cons (de_var 4) da_nil)) de_int)) de_int) da_nil)) de_int))))
  (dss_one (ds_retO (do_lst (da_cons (de_if (dt_of (dw_or (dt_cmp ltS (de_var 2) de_int) (dw_or1 (dt_cmp geS (de_var 2) (de_bin powS de_int de_int))))) (de_blt absC T.z_abs hb_abs (da_cons (de_var 2) da_nil)) de_int) (da_cons (de_var 3) (da_cons de_int da_nil)))))))))
/-! is_text_of -/
abbrev n_is_text_of : List Str := ["value", "signs", "sign"]
theorem sc_is_text_of : FnScope ["value", "signs", "sign"] ["value", "signs"] (defScope s_is_text_of) := ⟨rfl, rfl, rfl, by decide +kernel, rfl, by decide +kernel, by decide +kernel⟩
def b_is_text_of : SF :=
  (sRet (eAnd (eOp1 (dIsi "str") (eVar 0)) (eCall (g1 dAll) (aCons (eOfO (oLc (iSeq (eVar 0)) (gNm 2) uTrue (eOp2 dInA (eVar 2) (eVar 1)) [2])) aNil))))
def r_is_text_of := runF 2 3 b_is_text_of
theorem d_is_text_of (T : Txt K mg) : Def P w K mg base "is_text_of" s_is_text_of ["value", "signs"] 1 (spF K r_is_text_of) :=
  mkF (k := 0) T.a_is_text_of sc_is_text_of (by decide) fun f cdv =>
  (dss_one (ds_ret (de_and (de_isi (T := "str") T.z_isinstance T.z_str hb_str (de_var 0)) (de_one (de_blt allC T.z_all hb_all (da_cons (de_frz (do_lc [("sign", 2)] (fun _ => sc_is_text_of.nd) (di_seq (de_var 0)) (fun _ => blkOk_by (N := n_is_text_of) (sc := defScope s_is_text_of) (by decide +kernel)) (dg_name 2 (fun _ => sc_is_text_of.nd)) dts_nil (de_cmp inA (de_var 2) (de_var 1)))) da_nil))))))
/-! is_lined -/
abbrev n_is_lined : List Str := ["value"]
theorem sc_is_lined : FnScope ["value"] ["value"] (defScope s_is_lined) := ⟨rfl, rfl, rfl, by decide +kernel, rfl, by decide +kernel, by decide +kernel⟩
def b_is_lined : SF :=
  (sRet (eAnd (eCall r_is_text_of (aCons (eVar 0) (aCons (eC c_SIGNS) aNil))) (eOp2 dLe (eCall (g1 dLen1) (aCons (eVar 0) aNil)) (eC c_LONGEST_LINE))))
def r_is_lined := runF 1 1 b_is_lined
theorem d_is_lined (T : Txt K mg) : Def P w K mg base "is_lined" s_is_lined ["value"] 2 (spF K r_is_lined) :=
  mkF (k := 1) T.a_is_lined sc_is_lined (by decide) fun f cdv =>
  (dss_one (ds_ret (de_and (de_call (d_is_text_of T) (da_cons (de_var 0) (da_cons (de_glob T.c_SIGNS) da_nil))) (de_one (de_cmp leS (de_blt lenC T.z_len hb_len (da_cons (de_var 0) da_nil)) (de_glob T.c_LONGEST_LINE))))))
/-! check_line -/
abbrev n_check_line : List Str := ["text"]
theorem sc_check_line : FnScope ["text"] ["text"] (defScope s_check_line) := ⟨rfl, rfl, rfl, by decide +kernel, rfl, by decide +kernel, by decide +kernel⟩
def b_check_line : SF :=
  (sIf (uNot (toT (eCall r_is_lined (aCons (eVar 0) aNil))))
    sNever
    sNil)
def r_check_line := runF 1 1 b_check_line
theorem d_check_line (T : Txt K mg) : Def P w K mg base "check_line" s_check_line ["text"] 3 (spF K r_check_line) :=
  mkF (k := 2) T.a_check_line sc_check_line (by decide) fun f cdv =>
  (dss_one (ds_if (dt_not (dt_val (de_call (d_is_lined T) (da_cons (de_var 0) da_nil))))
    (dss_one ds_never)
    dss_nil))
/-! check_of -/
abbrev n_check_of : List Str := ["text", "place", "sign"]
theorem sc_check_of : FnScope ["text", "place", "sign"] ["text"] (defScope s_check_of) := ⟨rfl, rfl, rfl, by decide +kernel, rfl, by decide +kernel, by decide +kernel⟩
def b_check_of : SF :=
  (sRet (eOp2 dMod (eCall (g1 dSum) (aCons (eOfO (oLc (iEnum2 (eVar 0) (eC (.int 1))) (gTu [(gNm 1), (gNm 2)]) uTrue (eOp2 dMulA (eVar 1) (eOp2 dAdd (eMt1 dIndexS (eC c_SIGNS) (eVar 2)) (eC (.int 1)))) [1, 2])) aNil)) (eC c_MODULUS)))
def r_check_of := runF 1 3 b_check_of
theorem d_check_of (T : Txt K mg) : Def P w K mg base "check_of" s_check_of ["text"] 1 (spF K r_check_of) :=
  mkF (k := 0) T.a_check_of sc_check_of (by decide) fun f cdv =>
  (dss_one (ds_ret (de_bin modS (de_blt sumC T.z_sum hb_sum (da_cons (de_frz (do_lc [("place", 1), ("sign", 2)] (fun _ => sc_check_of.nd) (di_enum2 T.z_enumerate (de_var 0) de_int) (fun _ => blkOk_by (N := n_check_of) (sc := defScope s_check_of) (by decide +kernel)) (dg_tup (dgs_cons (dg_name 1 (fun _ => sc_check_of.nd)) (dgs_cons (dg_name 2 (fun _ => sc_check_of.nd)) dgs_nil))) dts_nil (de_bin mulA (de_var 1) (de_bin addS (de_index (de_glob T.c_SIGNS) (de_var 2)) de_int)))) da_nil)) (de_glob T.c_MODULUS))))
/-! check_number -/
abbrev n_check_number : List Str := ["text"]
theorem sc_check_number : FnScope ["text"] ["text"] (defScope s_check_number) := ⟨rfl, rfl, rfl, by decide +kernel, rfl, by decide +kernel, by decide +kernel⟩
def b_check_number : SF :=
  (sSeq (sDrop (eCall r_check_line (aCons (eVar 0) aNil)))
  (sRet (eCall r_check_of (aCons (eVar 0) aNil))))
def r_check_number := runF 1 1 b_check_number
theorem d_check_number (T : Txt K mg) : Def P w K mg base "check_number" s_check_number ["text"] 4 (spF K r_check_number) :=
  mkF (k := 3) T.a_check_number sc_check_number (by decide) fun f cdv =>
  (dss_cons (ds_expr (de_call (d_check_line T) (da_cons (de_var 0) da_nil)))
  (dss_one (ds_ret (de_call (d_check_of T) (da_cons (de_var 0) da_nil)))))
/-! _law_same -/
abbrev n__law_same : List Str := ["told", "due", "at"]
theorem sc__law_same : FnScope ["told", "due", "at"] ["told", "due"] (defScope s__law_same) := ⟨rfl, rfl, rfl, by decide +kernel, rfl, by decide +kernel, by decide +kernel⟩
def b__law_same (rec : List Dt → Option Dt) : SF :=
  (sSeq (sIf (uOr (toT (eOp1 (dIsi "tuple") (eVar 1))) (toT (eOp1 (dIsi "list") (eVar 1))))
    (sSeq (sIf (uOr (toT (eOp2 dNe (eOp1 (dIsi "tuple") (eVar 0)) (eOp1 (dIsi "tuple") (eVar 1)))) (toT (eOp2 dNe (eOp1 (dIsi "list") (eVar 0)) (eOp1 (dIsi "list") (eVar 1)))))
        (sRet (eC (.bool false)))
        sNil)
      (sRet (eAnd (eOp2 dEq (eCall (g1 dLen1) (aCons (eVar 0) aNil)) (eCall (g1 dLen1) (aCons (eVar 1) aNil))) (eCall (g1 dAll) (aCons (eOfO (oLc (iRange1 (eCall (g1 dLen1) (aCons (eVar 1) aNil))) (gNm 2) uTrue (eCall rec (aCons (eOp2 dIx (eVar 0) (eVar 2)) (aCons (eOp2 dIx (eVar 1) (eVar 2)) aNil))) [2])) aNil)))))
    sNil)
  (sSeq (sIf (toT (eIsN (eVar 1)))
    (sRet (eIsN (eVar 0)))
    sNil)
  (sSeq (sIf (toT (eOp1 (dIsi "bool") (eVar 1)))
    (sRet (eAnd (eOp1 (dIsi "bool") (eVar 0)) (eOp2 dEq (eVar 0) (eVar 1))))
    sNil)
  (sSeq (sIf (toT (eOp1 (dIsi "int") (eVar 1)))
    (sRet (eAnd (eOp1 (dIsi "int") (eVar 0)) (eAnd (eNot (eOp1 (dIsi "bool") (eVar 0))) (eOp2 dEq (eVar 0) (eVar 1)))))
    sNil)
  (sRet (eAnd (eOp1 (dIsi "str") (eVar 0)) (eOp2 dEq (eVar 0) (eVar 1))))))))
def r__law_same : Nat → List Dt → Option Dt
  | 0 => fun _ => Option.none
  | n + 1 => runF 2 3 (b__law_same (r__law_same n))
theorem d__law_same (T : Txt K mg) : ∀ n : Nat, Def P w K mg base "_law_same" s__law_same ["told", "due"] (n + 0) (spF K (r__law_same n))
  | 0 => (mk0 T.a__law_same).up (Nat.zero_le _)
  | n + 1 => by
    have R := d__law_same T n
    exact mkF (k := n + 0) T.a__law_same sc__law_same (by decide) fun f cdv =>
  (dss_cons (ds_if (dt_of (dw_or (dt_val (de_isi (T := "tuple") T.z_isinstance T.z_tuple hb_tuple (de_var 1))) (dw_or1 (dt_val (de_isi (T := "list") T.z_isinstance T.z_list hb_list (de_var 1))))))
    (dss_cons (ds_if (dt_of (dw_or (dt_cmp neS (de_isi (T := "tuple") T.z_isinstance T.z_tuple hb_tuple (de_var 0)) (de_isi (T := "tuple") T.z_isinstance T.z_tuple hb_tuple (de_var 1))) (dw_or1 (dt_cmp neS (de_isi (T := "list") T.z_isinstance T.z_list hb_list (de_var 0)) (de_isi (T := "list") T.z_isinstance T.z_list hb_list (de_var 1))))))
        (dss_one (ds_ret de_bl))
        dss_nil)
      (dss_one (ds_ret (de_and (de_cmp eqS (de_blt lenC T.z_len hb_len (da_cons (de_var 0) da_nil)) (de_blt lenC T.z_len hb_len (da_cons (de_var 1) da_nil))) (de_one (de_blt allC T.z_all hb_all (da_cons (de_frz (do_lc [("at", 2)] (fun _ => sc__law_same.nd) (di_range1 T.z_range (de_blt lenC T.z_len hb_len (da_cons (de_var 1) da_nil))) (fun _ => blkOk_by (N := n__law_same) (sc := defScope s__law_same) (by decide +kernel)) (dg_name 2 (fun _ => sc__law_same.nd)) dts_nil (de_call (hj := by omega) R (da_cons (de_ix (de_var 0) (de_var 2)) (da_cons (de_ix (de_var 1) (de_var 2)) da_nil))))) da_nil)))))))
    dss_nil)
  (dss_cons (ds_if (dt_isN (de_var 1))
    (dss_one (ds_ret (de_isN (de_var 0))))
    dss_nil)
  (dss_cons (ds_if (dt_val (de_isi (T := "bool") T.z_isinstance T.z_bool hb_bool (de_var 1)))
    (dss_one (ds_ret (de_and (de_isi (T := "bool") T.z_isinstance T.z_bool hb_bool (de_var 0)) (de_one (de_cmp eqS (de_var 0) (de_var 1))))))
    dss_nil)
  (dss_cons (ds_if (dt_val (de_isi (T := "int") T.z_isinstance T.z_int hb_int (de_var 1)))
    (dss_one (ds_ret (de_and (de_isi (T := "int") T.z_isinstance T.z_int hb_int (de_var 0)) (de_and (de_not (de_isi (T := "bool") T.z_isinstance T.z_bool hb_bool (de_var 0))) (de_one (de_cmp eqS (de_var 0) (de_var 1)))))))
    dss_nil)
  (dss_one (ds_ret (de_and (de_isi (T := "str") T.z_isinstance T.z_str hb_str (de_var 0)) (de_one (de_cmp eqS (de_var 0) (de_var 1))))))))))
/-! _law_take -/
abbrev n__law_take : List Str := ["well", "many", "figure", "by"]
theorem sc__law_take : FnScope ["well", "many", "figure", "by"] ["well", "many"] (defScope s__law_take) := ⟨rfl, rfl, rfl, by decide +kernel, rfl, by decide +kernel, by decide +kernel⟩
def b__law_take : SF :=
  (sSeq (sIf (toT (eOp2 dGt (eCellIx 0 (eC (.int 0))) (eC (.int 0))))
    (sSeq (sAsg (eCall (g2 dDivmod) (aCons (eCellIx 0 (eC (.int 0))) (aCons (eVar 1) aNil))) (gTu [(gCell 0 (eC (.int 0))), (gNm 2)]))
      (sRet (eVar 2)))
    sNil)
  (sSeq (sAsg (eOp2 dAdd (eCellIx 0 (eC (.int 2))) (eC (.int 1))) (gCell 0 (eC (.int 2))))
  (sSeq (sSet 3 (eOp2 dAdd (eOp2 dMod (eCall (g1 dInt) (aCons (eCellIx 0 (eC (.int 1))) aNil)) (eC (.int 28657))) (eC (.int 40009))))
  (sSeq (sAsg (eOp2 dMod (eCall (g1 dInt) (aCons (eOp2 dAdd (eOp2 dAdd (eOp2 dMulA (eCellIx 0 (eC (.int 1))) (eVar 3)) (eOp2 dMulA (eC (.int 50023)) (eCellIx 0 (eC (.int 2))))) (eC (.int 17))) aNil)) (eC (.int 2147483563))) (gCell 0 (eC (.int 1))))
  (sRet (eOp2 dMod (eCall (g1 dInt) (aCons (eOp2 dDiv (eCellIx 0 (eC (.int 1))) (eC (.int 83))) aNil)) (eVar 1)))))))
def r__law_take := runB 2 4 b__law_take
theorem d__law_take (T : Txt K mg) : Def P w K mg base "_law_take" s__law_take ["well", "many"] 1 (spB K r__law_take) :=
  mkB (k := 0) T.a__law_take sc__law_take (by decide) fun f cdv =>
  (dss_cons (ds_if (dt_cmp gtS (de_cellIx 0 de_int) de_int)
    (dss_cons (ds_asg (de_blt divmodC T.z_divmod hb_divmod (da_cons (de_cellIx 0 de_int) (da_cons (de_var 1) da_nil))) (dg_tup (dgs_cons (dg_cell 0 de_int) (dgs_cons (dg_name 2 (fun _ => sc__law_take.nd)) dgs_nil))))
      (dss_one (ds_ret (de_var 2))))
    dss_nil)
  (dss_cons (ds_asg (de_bin addS (de_cellIx 0 de_int) de_int) (dg_cell 0 de_int))
  (dss_cons (ds_set 3 (fun _ => sc__law_take.nd) (de_bin addS (de_bin modS (de_ty intC T.z_int hb_int (da_cons (de_cellIx 0 de_int) da_nil)) de_int) de_int))
  (dss_cons (ds_asg (de_bin modS (de_ty intC T.z_int hb_int (da_cons (de_bin addS (de_bin addS (de_bin mulA (de_cellIx 0 de_int) (de_var 3)) (de_bin mulA de_int (de_cellIx 0 de_int))) de_int) da_nil)) de_int) (dg_cell 0 de_int))
  (dss_one (ds_ret (de_bin modS (de_ty intC T.z_int hb_int (da_cons (de_bin divS (de_cellIx 0 de_int) de_int) da_nil)) (de_var 1))))))))
/-! _law_three -/
abbrev n__law_three : List Str := ["number"]
theorem sc__law_three : FnScope ["number"] ["number"] (defScope s__law_three) := ⟨rfl, rfl, rfl, by decide +kernel, rfl, by decide +kernel, by decide +kernel⟩
def b__law_three : SF :=
  (sRet (eSlice (eOp2 dAdd (eC (.str "000")) (eCall (g1 dStr) (aCons (eVar 0) aNil))) (pSome (eOp1 dNeg (eC (.int 3)))) pNone))
def r__law_three := runF 1 1 b__law_three
theorem d__law_three (T : Txt K mg) : Def P w K mg base "_law_three" s__law_three ["number"] 1 (spF K r__law_three) :=
  mkF (k := 0) T.a__law_three sc__law_three (by decide) fun f cdv =>
  (dss_one (ds_ret (de_slice (de_bin addS de_str (de_ty strC T.z_str hb_str (da_cons (de_var 0) da_nil))) (dp_some (de_un negS de_int)) dp_none)))
/-! _law_check -/
abbrev n__law_check : List Str := ["text", "row", "total", "at"]
theorem sc__law_check : FnScope ["text", "row", "total", "at"] ["text"] (defScope s__law_check) := ⟨rfl, rfl, rfl, by decide +kernel, rfl, by decide +kernel, by decide +kernel⟩
def b__law_check : SF :=
  (sSeq (sAsg (eTup (aCons (eC (.str " (),-.0123456789<=>abcdefghijklmnopqrstuvwxyz")) (aCons (eC (.int 0)) aNil))) (gTu [(gNm 1), (gNm 2)]))
  (sSeq (sFor (iRange1 (eCall (g1 dLen1) (aCons (eVar 0) aNil))) (gNm 3)
    (sSet 2 (eOp2 dAdd (eVar 2) (eOp2 dMulA (eOp2 dAdd (eVar 3) (eC (.int 1))) (eOp2 dAdd (eMt1 dIndexS (eVar 1) (eOp2 dIx (eVar 0) (eVar 3))) (eC (.int 1)))))))
  (sRet (eOp2 dMod (eCall (g1 dInt) (aCons (eVar 2) aNil)) (eC (.int 997))))))
def r__law_check := runF 1 4 b__law_check
theorem d__law_check (T : Txt K mg) : Def P w K mg base "_law_check" s__law_check ["text"] 1 (spF K r__law_check) :=
  mkF (k := 0) T.a__law_check sc__law_check (by decide) fun f cdv =>
  (dss_cons (ds_asg (de_tup (da_cons de_str (da_cons de_int da_nil))) (dg_tup (dgs_cons (dg_name 1 (fun _ => sc__law_check.nd)) (dgs_cons (dg_name 2 (fun _ => sc__law_check.nd)) dgs_nil))))
  (dss_cons (ds_for (di_range1 T.z_range (de_blt lenC T.z_len hb_len (da_cons (de_var 0) da_nil))) (dg_name 3 (fun _ => sc__law_check.nd))
    (dss_one (ds_set 2 (fun _ => sc__law_check.nd) (de_bin addS (de_var 2) (de_bin mulA (de_bin addS (de_var 3) de_int) (de_bin addS (de_index (de_var 1) (de_ix (de_var 0) (de_var 3))) de_int))))))
  (dss_one (ds_ret (de_bin modS (de_ty intC T.z_int hb_int (da_cons (de_var 2) da_nil)) de_int)))))
/-! _law_frame -/
abbrev n__law_frame : List Str := ["text"]
theorem sc__law_frame : FnScope ["text"] ["text"] (defScope s__law_frame) := ⟨rfl, rfl, rfl, by decide +kernel, rfl, by decide +kernel, by decide +kernel⟩
def b__law_frame : SF :=
  (sRet (eOp2 dAdd (eOp2 dAdd (eCall r__law_three (aCons (eCall (g1 dLen1) (aCons (eVar 0) aNil)) aNil)) (eCall r__law_three (aCons (eCall r__law_check (aCons (eVar 0) aNil)) aNil))) (eVar 0)))
def r__law_frame := runF 1 1 b__law_frame
theorem d__law_frame (T : Txt K mg) : Def P w K mg base "_law_frame" s__law_frame ["text"] 2 (spF K r__law_frame) :=
  mkF (k := 1) T.a__law_frame sc__law_frame (by decide) fun f cdv =>
  (dss_one (ds_ret (de_bin addS (de_bin addS (de_call (d__law_three T) (da_cons (de_blt lenC T.z_len hb_len (da_cons (de_var 0) da_nil)) da_nil)) (de_call (d__law_three T) (da_cons (de_call (d__law_check T) (da_cons (de_var 0) da_nil)) da_nil))) (de_var 0))))
/-! _law_pick -/
abbrev n__law_pick : List Str := ["well", "some"]
theorem sc__law_pick : FnScope ["well", "some"] ["well", "some"] (defScope s__law_pick) := ⟨rfl, rfl, rfl, by decide +kernel, rfl, by decide +kernel, by decide +kernel⟩
def b__law_pick : SF :=
  (sRet (eOp2 dIx (eVar 1) (eCallB r__law_take 0 (aCons (eCall (g1 dLen1) (aCons (eVar 1) aNil)) aNil))))
def r__law_pick := runB 2 2 b__law_pick
theorem d__law_pick (T : Txt K mg) : Def P w K mg base "_law_pick" s__law_pick ["well", "some"] 2 (spB K r__law_pick) :=
  mkB (k := 1) T.a__law_pick sc__law_pick (by decide) fun f cdv =>
  (dss_one (ds_ret (de_ix (de_var 1) (de_callB 0 (d__law_take T) (da_cons (de_blt lenC T.z_len hb_len (da_cons (de_var 1) da_nil)) da_nil)))))
/-! first_wrong_text -/
abbrev n_first_wrong_text : List Str := ["value", "index", "text"]
theorem sc_first_wrong_text : FnScope ["value", "index", "text"] ["value"] (defScope s_first_wrong_text) := ⟨rfl, rfl, rfl, by decide +kernel, rfl, by decide +kernel, by decide +kernel⟩
def b_first_wrong_text : SF :=
  (sRet (eOp1 dMinDef (eOfO (oLc (iEnum1 (eVar 0)) (gTu [(gNm 1), (gNm 2)]) (uOr (uNot (toT (eCall r_is_lined (aCons (eVar 2) aNil)))) (toT (eOp2 dEq (eVar 2) (eC (.str ""))))) (eVar 1) [1, 2]))))
def r_first_wrong_text := runF 1 3 b_first_wrong_text
theorem d_first_wrong_text (T : Txt K mg) : Def P w K mg base "first_wrong_text" s_first_wrong_text ["value"] 3 (spF K r_first_wrong_text) :=
  mkF (k := 2) T.a_first_wrong_text sc_first_wrong_text (by decide) fun f cdv =>
  (dss_one (ds_ret (de_minDef (hk := dk_cons de_non dk_nil) T.z_min (de_frz (do_lc [("index", 1), ("text", 2)] (fun _ => sc_first_wrong_text.nd) (di_enum1 T.z_enumerate (de_var 0)) (fun _ => blkOk_by (N := n_first_wrong_text) (sc := defScope s_first_wrong_text) (by decide +kernel)) (dg_tup (dgs_cons (dg_name 1 (fun _ => sc_first_wrong_text.nd)) (dgs_cons (dg_name 2 (fun _ => sc_first_wrong_text.nd)) dgs_nil))) (dts_one (dt_of (dw_or (dt_not (dt_val (de_call (d_is_lined T) (da_cons (de_var 2) da_nil)))) (dw_or1 (dt_cmp eqS (de_var 2) de_str))))) (de_var 1))))))
/-! check_texts -/
abbrev n_check_texts : List Str := ["texts", "wrong"]
theorem sc_check_texts : FnScope ["texts", "wrong"] ["texts"] (defScope s_check_texts) := ⟨rfl, rfl, rfl, by decide +kernel, rfl, by decide +kernel, by decide +kernel⟩
def b_check_texts : SF :=
  (sSeq (sIf (uOr (uNot (toT (eOp1 (dIsi "tuple") (eVar 0)))) (toT (eOp2 dGt (eCall (g1 dLen1) (aCons (eVar 0) aNil)) (eC c_MOST_TEXTS))))
    sNever
    sNil)
  (sSeq (sSet 1 (eCall r_first_wrong_text (aCons (eVar 0) aNil)))
  (sIf (toT (eNotN (eVar 1)))
    sNever
    sNil)))
def r_check_texts := runF 1 2 b_check_texts
theorem d_check_texts (T : Txt K mg) : Def P w K mg base "check_texts" s_check_texts ["texts"] 4 (spF K r_check_texts) :=
  mkF (k := 3) T.a_check_texts sc_check_texts (by decide) fun f cdv =>
  (dss_cons (ds_if (dt_of (dw_or (dt_not (dt_val (de_isi (T := "tuple") T.z_isinstance T.z_tuple hb_tuple (de_var 0)))) (dw_or1 (dt_cmp gtS (de_blt lenC T.z_len hb_len (da_cons (de_var 0) da_nil)) (de_glob T.c_MOST_TEXTS)))))
    (dss_one ds_never)
    dss_nil)
  (dss_cons (ds_set 1 (fun _ => sc_check_texts.nd) (de_call (d_first_wrong_text T) (da_cons (de_var 0) da_nil)))
  (dss_one (ds_if (dt_notN (de_var 1))
    (dss_one ds_never)
    dss_nil))))
/-! figures -/
abbrev n_figures : List Str := ["number", "many"]
theorem sc_figures : FnScope ["number", "many"] ["number", "many"] (defScope s_figures) := ⟨rfl, rfl, rfl, by decide +kernel, rfl, by decide +kernel, by decide +kernel⟩
def b_figures : SF :=
  (sRet (eMt1 dZfill (eCall (g1 dStr) (aCons (eVar 0) aNil)) (eVar 1)))
def r_figures := runF 2 2 b_figures
theorem d_figures (T : Txt K mg) : Def P w K mg base "figures" s_figures ["number", "many"] 1 (spF K r_figures) :=
  mkF (k := 0) T.a_figures sc_figures (by decide) fun f cdv =>
  (dss_one (ds_ret (de_mt1 PySem.F.slot_str_zfill PySem.F.type_str_zfill zfillM (de_ty strC T.z_str hb_str (da_cons (de_var 0) da_nil)) (de_var 1))))
/-! frame_of -/
abbrev n_frame_of : List Str := ["text"]
theorem sc_frame_of : FnScope ["text"] ["text"] (defScope s_frame_of) := ⟨rfl, rfl, rfl, by decide +kernel, rfl, by decide +kernel, by decide +kernel⟩
def b_frame_of : SF :=
  (sRet (eOp2 dAdd (eOp2 dAdd (eCall r_figures (aCons (eCall (g1 dLen1) (aCons (eVar 0) aNil)) (aCons (eC c_DIGITS_OF_PART) aNil))) (eCall r_figures (aCons (eCall r_check_of (aCons (eVar 0) aNil)) (aCons (eC c_DIGITS_OF_PART) aNil)))) (eVar 0)))
def r_frame_of := runF 1 1 b_frame_of
theorem d_frame_of (T : Txt K mg) : Def P w K mg base "frame_of" s_frame_of ["text"] 2 (spF K r_frame_of) :=
  mkF (k := 1) T.a_frame_of sc_frame_of (by decide) fun f cdv =>
  (dss_one (ds_ret (de_bin addS (de_bin addS (de_call (d_figures T) (da_cons (de_blt lenC T.z_len hb_len (da_cons (de_var 0) da_nil)) (da_cons (de_glob T.c_DIGITS_OF_PART) da_nil))) (de_call (d_figures T) (da_cons (de_call (d_check_of T) (da_cons (de_var 0) da_nil)) (da_cons (de_glob T.c_DIGITS_OF_PART) da_nil)))) (de_var 0))))
/-! stream_by -/
abbrev n_stream_by : List Str := ["texts", "text"]
theorem sc_stream_by : FnScope ["texts", "text"] ["texts"] (defScope s_stream_by) := ⟨rfl, rfl, rfl, by decide +kernel, rfl, by decide +kernel, by decide +kernel⟩
def b_stream_by : SF :=
  (sRet (eMt1 dJoin (eC (.str "")) (eOfO (oLc (iSeq (eVar 0)) (gNm 1) uTrue (eCall r_frame_of (aCons (eVar 1) aNil)) [1]))))
def r_stream_by := runF 1 2 b_stream_by
theorem d_stream_by (T : Txt K mg) : Def P w K mg base "stream_by" s_stream_by ["texts"] 3 (spF K r_stream_by) :=
  mkF (k := 2) T.a_stream_by sc_stream_by (by decide) fun f cdv =>
  (dss_one (ds_ret (de_mt1 PySem.F.slot_str_join PySem.F.type_str_join joinM de_str (de_frz (do_lc [("text", 1)] (fun _ => sc_stream_by.nd) (di_seq (de_var 0)) (fun _ => blkOk_by (N := n_stream_by) (sc := defScope s_stream_by) (by decide +kernel)) (dg_name 1 (fun _ => sc_stream_by.nd)) dts_nil (de_call (d_frame_of T) (da_cons (de_var 1) da_nil)))))))
/-! stream_of -/
abbrev n_stream_of : List Str := ["texts"]
theorem sc_stream_of : FnScope ["texts"] ["texts"] (defScope s_stream_of) := ⟨rfl, rfl, rfl, by decide +kernel, rfl, by decide +kernel, by decide +kernel⟩
def b_stream_of : SF :=
  (sSeq (sDrop (eCall r_check_texts (aCons (eVar 0) aNil)))
  (sRet (eCall r_stream_by (aCons (eVar 0) aNil))))
def r_stream_of := runF 1 1 b_stream_of
theorem d_stream_of (T : Txt K mg) : Def P w K mg base "stream_of" s_stream_of ["texts"] 5 (spF K r_stream_of) :=
  mkF (k := 4) T.a_stream_of sc_stream_of (by decide) fun f cdv =>
  (dss_cons (ds_expr (de_call (d_check_texts T) (da_cons (de_var 0) da_nil)))
  (dss_one (ds_ret (de_call (d_stream_by T) (da_cons (de_var 0) da_nil)))))
/-! check_text -/
abbrev n_check_text : List Str := ["text"]
theorem sc_check_text : FnScope ["text"] ["text"] (defScope s_check_text) := ⟨rfl, rfl, rfl, by decide +kernel, rfl, by decide +kernel, by decide +kernel⟩
def b_check_text : SF :=
  (sIf (uNot (toT (eOp1 (dIsi "str") (eVar 0))))
    sNever
    sNil)
def r_check_text := runF 1 1 b_check_text
theorem d_check_text (T : Txt K mg) : Def P w K mg base "check_text" s_check_text ["text"] 1 (spF K r_check_text) :=
  mkF (k := 0) T.a_check_text sc_check_text (by decide) fun f cdv =>
  (dss_one (ds_if (dt_not (dt_val (de_isi (T := "str") T.z_isinstance T.z_str hb_str (de_var 0))))
    (dss_one ds_never)
    dss_nil))
/-! text_at -/
abbrev n_text_at : List Str := ["stream", "start", "head", "length", "check", "text"]
theorem sc_text_at : FnScope ["stream", "start", "head", "length", "check", "text"] ["stream", "start"] (defScope s_text_at) := ⟨rfl, rfl, rfl, by decide +kernel, rfl, by decide +kernel, by decide +kernel⟩
def b_text_at : SF :=
  (sSeq (sSet 2 (eSlice (eVar 0) (pSome (eVar 1)) (pSome (eOp2 dAdd (eVar 1) (eC c_HEAD)))))
  (sSeq (sIf (uOr (toT (eOp2 dLt (eCall (g1 dLen1) (aCons (eVar 2) aNil)) (eC c_HEAD))) (uNot (toT (eCall r_is_text_of (aCons (eVar 2) (aCons (eC c_DIGITS) aNil))))))
    (sRet (eC .none))
    sNil)
  (sSeq (sPar 3 4 (aCons (eCall (g1 dInt) (aCons (eSlice (eVar 2) pNone (pSome (eC c_DIGITS_OF_PART))) aNil)) (aCons (eCall (g1 dInt) (aCons (eSlice (eVar 2) (pSome (eC c_DIGITS_OF_PART)) pNone) aNil)) aNil)))
  (sSeq (sSet 5 (eSlice (eVar 0) (pSome (eOp2 dAdd (eVar 1) (eC c_HEAD))) (pSome (eOp2 dAdd (eOp2 dAdd (eVar 1) (eC c_HEAD)) (eVar 3)))))
  (sSeq (sIf (uOr (toT (eOp2 dEq (eVar 3) (eC (.int 0)))) (uOr (toT (eOp2 dLt (eCall (g1 dLen1) (aCons (eVar 5) aNil)) (eVar 3))) (uNot (toT (eCall r_is_text_of (aCons (eVar 5) (aCons (eC c_SIGNS) aNil)))))))
    (sRet (eC .none))
    sNil)
  (sRet (eIf (toT (eOp2 dEq (eCall r_check_of (aCons (eVar 5) aNil)) (eVar 4))) (eVar 5) (eC .none))))))))
def r_text_at := runF 2 6 b_text_at
theorem d_text_at (T : Txt K mg) : Def P w K mg base "text_at" s_text_at ["stream", "start"] 2 (spF K r_text_at) :=
  mkF (k := 1) T.a_text_at sc_text_at (by decide) fun f cdv =>
  (dss_cons (ds_set 2 (fun _ => sc_text_at.nd) (de_slice (de_var 0) (dp_some (de_var 1)) (dp_some (de_bin addS (de_var 1) (de_glob T.c_HEAD)))))
  (dss_cons (ds_if (dt_of (dw_or (dt_cmp ltS (de_blt lenC T.z_len hb_len (da_cons (de_var 2) da_nil)) (de_glob T.c_HEAD)) (dw_or1 (dt_not (dt_val (de_call (d_is_text_of T) (da_cons (de_var 2) (da_cons (de_glob T.c_DIGITS) da_nil))))))))
    (dss_one (ds_ret de_non))
    dss_nil)
  (dss_cons (ds_par 3 4 (fun _ => sc_text_at.nd) (by decide) (da_cons (de_ty intC T.z_int hb_int (da_cons (de_slice (de_var 2) dp_none (dp_some (de_glob T.c_DIGITS_OF_PART))) da_nil)) (da_cons (de_ty intC T.z_int hb_int (da_cons (de_slice (de_var 2) (dp_some (de_glob T.c_DIGITS_OF_PART)) dp_none) da_nil)) da_nil)))
  (dss_cons (ds_set 5 (fun _ => sc_text_at.nd) (de_slice (de_var 0) (dp_some (de_bin addS (de_var 1) (de_glob T.c_HEAD))) (dp_some (de_bin addS (de_bin addS (de_var 1) (de_glob T.c_HEAD)) (de_var 3)))))
  (dss_cons (ds_if (dt_of (dw_or (dt_cmp eqS (de_var 3) de_int) (dw_or (dt_cmp ltS (de_blt lenC T.z_len hb_len (da_cons (de_var 5) da_nil)) (de_var 3)) (dw_or1 (dt_not (dt_val (de_call (d_is_text_of T) (da_cons (de_var 5) (da_cons (de_glob T.c_SIGNS) da_nil)))))))))
    (dss_one (ds_ret de_non))
    dss_nil)
  (dss_one (ds_ret (de_if (dt_cmp eqS (de_call (d_check_of T) (da_cons (de_var 5) da_nil)) (de_var 4)) (de_var 5) de_non))))))))
/-! frames_by -/
abbrev n_frames_by : List Str := ["stream", "found", "end"]
theorem sc_frames_by : FnScope ["stream", "found", "end"] ["stream"] (defScope s_frames_by) := ⟨rfl, rfl, rfl, by decide +kernel, rfl, by decide +kernel, by decide +kernel⟩
def b_frames_by : SF :=
  (sSeq (sParO 1 2 (oLst aNil) (eC (.int 0)))
  (sSeq (sWhile (toT (eNotN (eCall r_text_at (aCons (eVar 0) (aCons (eVar 2) aNil)))))
    (sSeq (sAppend 1 (eCall r_text_at (aCons (eVar 0) (aCons (eVar 2) aNil))))
      (sSet 2 (eOp2 dAdd (eOp2 dAdd (eVar 2) (eC c_HEAD)) (eCall (g1 dLen1) (aCons (eCellIx 1 (eOp1 dNeg (eC (.int 1)))) aNil))))) fuel)
  (sRet (eTup (aCons (eVar 1) (aCons (eVar 2) aNil))))))
def r_frames_by := runF 1 3 b_frames_by
theorem d_frames_by (T : Txt K mg) : Def P w K mg base "frames_by" s_frames_by ["stream"] 3 (spF K r_frames_by) :=
  mkF (k := 2) T.a_frames_by sc_frames_by (by decide) fun f cdv =>
  (dss_cons (ds_parO 1 2 (fun _ => sc_frames_by.nd) (by decide) (do_lst da_nil) de_int)
  (dss_cons (ds_while fuel (dt_notN (de_call (d_text_at T) (da_cons (de_var 0) (da_cons (de_var 2) da_nil))))
    (dss_cons (ds_append 1 (de_call (d_text_at T) (da_cons (de_var 0) (da_cons (de_var 2) da_nil))))
      (dss_one (ds_set 2 (fun _ => sc_frames_by.nd) (de_bin addS (de_bin addS (de_var 2) (de_glob T.c_HEAD)) (de_blt lenC T.z_len hb_len (da_cons (de_cellIx 1 (de_un negS de_int)) da_nil)))))))
  (dss_one (ds_ret (de_tup (da_cons (de_var 1) (da_cons (de_var 2) da_nil)))))))
/-! frames_in -/
abbrev n_frames_in : List Str := ["stream", "texts", "end"]
theorem sc_frames_in : FnScope ["stream", "texts", "end"] ["stream"] (defScope s_frames_in) := ⟨rfl, rfl, rfl, by decide +kernel, rfl, by decide +kernel, by decide +kernel⟩
def b_frames_in : SF :=
  (sSeq (sDrop (eCall r_check_text (aCons (eVar 0) aNil)))
  (sSeq (sAsg (eCall r_frames_by (aCons (eVar 0) aNil)) (gTu [(gNm 1), (gNm 2)]))
  (sRet (eTup (aCons (eCall (g1 dTuple) (aCons (eVar 1) aNil)) (aCons (eVar 2) aNil))))))
def r_frames_in := runF 1 3 b_frames_in
theorem d_frames_in (T : Txt K mg) : Def P w K mg base "frames_in" s_frames_in ["stream"] 4 (spF K r_frames_in) :=
  mkF (k := 3) T.a_frames_in sc_frames_in (by decide) fun f cdv =>
  (dss_cons (ds_expr (de_call (d_check_text T) (da_cons (de_var 0) da_nil)))
  (dss_cons (ds_asg (de_call (d_frames_by T) (da_cons (de_var 0) da_nil)) (dg_tup (dgs_cons (dg_name 1 (fun _ => sc_frames_in.nd)) (dgs_cons (dg_name 2 (fun _ => sc_frames_in.nd)) dgs_nil))))
  (dss_one (ds_ret (de_tup (da_cons (de_ty tupleC T.z_tuple hb_tuple (da_cons (de_var 1) da_nil)) (da_cons (de_var 2) da_nil)))))))
/-! _law_is_signs -/
abbrev n__law_is_signs : List Str := ["text", "sign"]
theorem sc__law_is_signs : FnScope ["text", "sign"] ["text"] (defScope s__law_is_signs) := ⟨rfl, rfl, rfl, by decide +kernel, rfl, by decide +kernel, by decide +kernel⟩
def b__law_is_signs : SF :=
  (sRet (eOp2 dEq (eOfO (oLc (iSeq (eVar 0)) (gNm 1) (toT (eOp2 dNotInA (eVar 1) (eC (.str " (),-.0123456789<=>abcdefghijklmnopqrstuvwxyz")))) (eVar 1) [1])) (eOfO (oLst aNil))))
def r__law_is_signs := runF 1 2 b__law_is_signs
theorem d__law_is_signs (T : Txt K mg) : Def P w K mg base "_law_is_signs" s__law_is_signs ["text"] 1 (spF K r__law_is_signs) :=
  mkF (k := 0) T.a__law_is_signs sc__law_is_signs (by decide) fun f cdv =>
  (dss_one (ds_ret (de_cmp eqS (de_frz (do_lc [("sign", 1)] (fun _ => sc__law_is_signs.nd) (di_seq (de_var 0)) (fun _ => blkOk_by (N := n__law_is_signs) (sc := defScope s__law_is_signs) (by decide +kernel)) (dg_name 1 (fun _ => sc__law_is_signs.nd)) (dts_one (dt_cmp notInA (de_var 1) de_str)) (de_var 1))) (de_frz (do_lst da_nil)))))
/-! _law_frames_in -/
abbrev n__law_frames_in : List Str := ["stream", "texts", "end", "turn", "head", "sign", "size", "text"]
theorem sc__law_frames_in : FnScope ["stream", "texts", "end", "turn", "head", "sign", "size", "text"] ["stream"] (defScope s__law_frames_in) := ⟨rfl, rfl, rfl, by decide +kernel, rfl, by decide +kernel, by decide +kernel⟩
def b__law_frames_in : SF :=
  (sSeq (sAsg (eTup (aCons (eTup aNil) (aCons (eC (.int 0)) aNil))) (gTu [(gNm 1), (gNm 2)]))
  (sSeq (sFor (iRange1 (eCall (g1 dLen1) (aCons (eVar 0) aNil))) (gNm 3)
    (sSeq (sSet 4 (eSlice (eVar 0) (pSome (eVar 2)) (pSome (eOp2 dAdd (eVar 2) (eC (.int 6))))))
      (sSeq (sIf (uOr (toT (eOp2 dLt (eCall (g1 dLen1) (aCons (eVar 4) aNil)) (eC (.int 6)))) (toT (eOp2 dNe (eOfO (oLc (iSeq (eVar 4)) (gNm 5) (toT (eOp2 dNotInA (eVar 5) (eC (.str "0123456789")))) (eVar 5) [5])) (eOfO (oLst aNil)))))
        (sRet (eTup (aCons (eVar 1) (aCons (eVar 2) aNil))))
        sNil)
      (sSeq (sSet 6 (eCall (g1 dInt) (aCons (eSlice (eVar 4) pNone (pSome (eC (.int 3)))) aNil)))
      (sSeq (sSet 7 (eSlice (eVar 0) (pSome (eOp2 dAdd (eVar 2) (eC (.int 6)))) (pSome (eOp2 dAdd (eOp2 dAdd (eVar 2) (eC (.int 6))) (eVar 6)))))
      (sSeq (sIf (uOr (toT (eOp2 dEq (eVar 6) (eC (.int 0)))) (uOr (toT (eOp2 dLt (eCall (g1 dLen1) (aCons (eVar 7) aNil)) (eVar 6))) (uOr (uNot (toT (eCall r__law_is_signs (aCons (eVar 7) aNil)))) (toT (eOp2 dNe (eCall r__law_three (aCons (eCall r__law_check (aCons (eVar 7) aNil)) aNil)) (eSlice (eVar 4) (pSome (eC (.int 3))) pNone))))))
        (sRet (eTup (aCons (eVar 1) (aCons (eVar 2) aNil))))
        sNil)
      (sPar 1 2 (aCons (eOp2 dAdd (eVar 1) (eTup (aCons (eVar 7) aNil))) (aCons (eOp2 dAdd (eOp2 dAdd (eVar 2) (eC (.int 6))) (eVar 6)) aNil)))))))))
  (sRet (eTup (aCons (eVar 1) (aCons (eVar 2) aNil))))))
def r__law_frames_in := runF 1 8 b__law_frames_in
theorem d__law_frames_in (T : Txt K mg) : Def P w K mg base "_law_frames_in" s__law_frames_in ["stream"] 2 (spF K r__law_frames_in) :=
  mkF (k := 1) T.a__law_frames_in sc__law_frames_in (by decide) fun f cdv =>
  (dss_cons (ds_asg (de_tup (da_cons (de_tup da_nil) (da_cons de_int da_nil))) (dg_tup (dgs_cons (dg_name 1 (fun _ => sc__law_frames_in.nd)) (dgs_cons (dg_name 2 (fun _ => sc__law_frames_in.nd)) dgs_nil))))
  (dss_cons (ds_for (di_range1 T.z_range (de_blt lenC T.z_len hb_len (da_cons (de_var 0) da_nil))) (dg_name 3 (fun _ => sc__law_frames_in.nd))
    (dss_cons (ds_set 4 (fun _ => sc__law_frames_in.nd) (de_slice (de_var 0) (dp_some (de_var 2)) (dp_some (de_bin addS (de_var 2) de_int))))
      (dss_cons (ds_if (dt_of (dw_or (dt_cmp ltS (de_blt lenC T.z_len hb_len (da_cons (de_var 4) da_nil)) de_int) (dw_or1 (dt_cmp neS (de_frz (do_lc [("sign", 5)] (fun _ => sc__law_frames_in.nd) (di_seq (de_var 4)) (fun _ => blkOk_by (N := n__law_frames_in) (sc := defScope s__law_frames_in) (by decide +kernel)) (dg_name 5 (fun _ => sc__law_frames_in.nd)) (dts_one (dt_cmp notInA (de_var 5) de_str)) (de_var 5))) (de_frz (do_lst da_nil))))))
        (dss_one (ds_ret (de_tup (da_cons (de_var 1) (da_cons (de_var 2) da_nil)))))
        dss_nil)
      (dss_cons (ds_set 6 (fun _ => sc__law_frames_in.nd) (de_ty intC T.z_int hb_int (da_cons (de_slice (de_var 4) dp_none (dp_some de_int)) da_nil)))
      (dss_cons (ds_set 7 (fun _ => sc__law_frames_in.nd) (de_slice (de_var 0) (dp_some (de_bin addS (de_var 2) de_int)) (dp_some (de_bin addS (de_bin addS (de_var 2) de_int) (de_var 6)))))
      (dss_cons (ds_if (dt_of (dw_or (dt_cmp eqS (de_var 6) de_int) (dw_or (dt_cmp ltS (de_blt lenC T.z_len hb_len (da_cons (de_var 7) da_nil)) (de_var 6)) (dw_or (dt_not (dt_val (de_call (d__law_is_signs T) (da_cons (de_var 7) da_nil)))) (dw_or1 (dt_cmp neS (de_call (d__law_three T) (da_cons (de_call (d__law_check T) (da_cons (de_var 7) da_nil)) da_nil)) (de_slice (de_var 4) (dp_some de_int) dp_none)))))))
        (dss_one (ds_ret (de_tup (da_cons (de_var 1) (da_cons (de_var 2) da_nil)))))
        dss_nil)
      (dss_one (ds_par 1 2 (fun _ => sc__law_frames_in.nd) (by decide) (da_cons (de_bin addS (de_var 1) (de_tup (da_cons (de_var 7) da_nil))) (da_cons (de_bin addS (de_bin addS (de_var 2) de_int) (de_var 6)) da_nil))))))))))
  (dss_one (ds_ret (de_tup (da_cons (de_var 1) (da_cons (de_var 2) da_nil)))))))
/-! check_filled_line -/
abbrev n_check_filled_line : List Str := ["text"]
theorem sc_check_filled_line : FnScope ["text"] ["text"] (defScope s_check_filled_line) := ⟨rfl, rfl, rfl, by decide +kernel, rfl, by decide +kernel, by decide +kernel⟩
def b_check_filled_line : SF :=
  (sSeq (sDrop (eCall r_check_line (aCons (eVar 0) aNil)))
  (sIf (toT (eOp2 dEq (eVar 0) (eC (.str ""))))
    sNever
    sNil))
def r_check_filled_line := runF 1 1 b_check_filled_line
theorem d_check_filled_line (T : Txt K mg) : Def P w K mg base "check_filled_line" s_check_filled_line ["text"] 4 (spF K r_check_filled_line) :=
  mkF (k := 3) T.a_check_filled_line sc_check_filled_line (by decide) fun f cdv =>
  (dss_cons (ds_expr (de_call (d_check_line T) (da_cons (de_var 0) da_nil)))
  (dss_one (ds_if (dt_cmp eqS (de_var 0) de_str)
    (dss_one ds_never)
    dss_nil)))
/-! frame -/
abbrev n_frame : List Str := ["text"]
theorem sc_frame : FnScope ["text"] ["text"] (defScope s_frame) := ⟨rfl, rfl, rfl, by decide +kernel, rfl, by decide +kernel, by decide +kernel⟩
def b_frame : SF :=
  (sSeq (sDrop (eCall r_check_filled_line (aCons (eVar 0) aNil)))
  (sRet (eCall r_frame_of (aCons (eVar 0) aNil))))
def r_frame := runF 1 1 b_frame
theorem d_frame (T : Txt K mg) : Def P w K mg base "frame" s_frame ["text"] 5 (spF K r_frame) :=
  mkF (k := 4) T.a_frame sc_frame (by decide) fun f cdv =>
  (dss_cons (ds_expr (de_call (d_check_filled_line T) (da_cons (de_var 0) da_nil)))
  (dss_one (ds_ret (de_call (d_frame_of T) (da_cons (de_var 0) da_nil)))))
/-! _law_right -/
abbrev n__law_right : List Str := ["well", "texts", "stream", "text", "ends", "at", "turn", "many", "end", "tail", "bent"]
theorem sc__law_right : FnScope ["well", "texts", "stream", "text", "ends", "at", "turn", "many", "end", "tail", "bent"] ["well", "texts"] (defScope s__law_right) := ⟨rfl, rfl, rfl, by decide +kernel, rfl, by decide +kernel, by decide +kernel⟩
def b__law_right : SF :=
  (sSeq (sSet 2 (eMt1 dJoin (eC (.str "")) (eOfO (oLc (iSeq (eVar 1)) (gNm 3) uTrue (eCall r__law_frame (aCons (eVar 3) aNil)) [3]))))
  (sSeq (sIf (uNot (toT (eCall (r__law_same 8) (aCons (eOfO (oLst (aCons (eCall r_stream_of (aCons (eVar 1) aNil)) (aCons (eCallK r_stream_of aNil (aCons (eVar 1) aNil) (gk [0] 0 1)) (aCons (eCall r_frames_in (aCons (eVar 2) aNil)) (aCons (eCallK r_frames_in aNil (aCons (eVar 2) aNil) (gk [0] 0 1)) aNil)))))) (aCons (eOfO (oLst (aCons (eVar 2) (aCons (eVar 2) (aCons (eTup (aCons (eVar 1) (aCons (eCall (g1 dLen1) (aCons (eVar 2) aNil)) aNil))) (aCons (eTup (aCons (eVar 1) (aCons (eCall (g1 dLen1) (aCons (eVar 2) aNil)) aNil))) aNil)))))) aNil)))))
    (sRet (eC (.bool false)))
    sNil)
  (sSeq (sFor (iSeq (eVar 1)) (gNm 3)
    (sIf (uNot (toT (eCall (r__law_same 8) (aCons (eOfO (oLst (aCons (eCall r_check_number (aCons (eVar 3) aNil)) (aCons (eCall r_frame (aCons (eVar 3) aNil)) (aCons (eCallK r_check_number aNil (aCons (eVar 3) aNil) (gk [0] 0 1)) (aCons (eCallK r_frame aNil (aCons (eVar 3) aNil) (gk [0] 0 1)) aNil)))))) (aCons (eOp2 dMulA (eOfO (oLst (aCons (eCall r__law_check (aCons (eVar 3) aNil)) (aCons (eCall r__law_frame (aCons (eVar 3) aNil)) aNil)))) (eC (.int 2))) aNil)))))
        (sRet (eC (.bool false)))
        sNil))
  (sSeq (sSetO 4 (oLst (aCons (eC (.int 0)) aNil)))
  (sSeq (sFor (iSeq (eVar 1)) (gNm 3)
    (sAppend 4 (eOp2 dAdd (eOp2 dAdd (eCellIx 4 (eOp1 dNeg (eC (.int 1)))) (eC (.int 6))) (eCall (g1 dLen1) (aCons (eVar 3) aNil)))))
  (sSeq (sFor (iSeq (eIf (toT (eOp2 dLt (eCall (g1 dLen1) (aCons (eVar 2) aNil)) (eC (.int 200)))) (eOfO (oListR1 (eOp2 dAdd (eCall (g1 dLen1) (aCons (eVar 2) aNil)) (eC (.int 1))))) (eOfO (oLc (iRange1 (eC (.int 60))) (gNm 6) uTrue (eCallB r__law_take 0 (aCons (eCall (g1 dLen1) (aCons (eVar 2) aNil)) aNil)) [6])))) (gNm 5)
    (sSeq (sSet 7 (eCall (g1 dLen1) (aCons (eOfO (oLc (iSeq (eSlice (eVar 4) (pSome (eC (.int 1))) pNone)) (gNm 8) (toT (eOp2 dLe (eVar 8) (eVar 5))) (eVar 8) [8])) aNil)))
      (sFor (iSeq (eOfO (oLst (aCons (eC (.str "")) (aCons (eOp2 dMulA (eC (.str "~")) (eC (.int 9))) aNil))))) (gNm 9)
        (sIf (uNot (toT (eCall (r__law_same 8) (aCons (eCall r_frames_in (aCons (eOp2 dAdd (eSlice (eVar 2) pNone (pSome (eVar 5))) (eVar 9)) aNil)) (aCons (eTup (aCons (eSlice (eVar 1) pNone (pSome (eVar 7))) (aCons (eOp2 dIx (eVar 4) (eVar 7)) aNil))) aNil)))))
            (sRet (eC (.bool false)))
            sNil))))
  (sSeq (sFor (iRange1 (eC (.int 12))) (gNm 6)
    (sSeq (sSet 5 (eCallB r__law_take 0 (aCons (eCall (g2 dMax2) (aCons (eC (.int 1)) (aCons (eCall (g1 dLen1) (aCons (eVar 2) aNil)) aNil))) aNil)))
      (sSeq (sSet 10 (eOp2 dAdd (eOp2 dAdd (eOp2 dAdd (eSlice (eVar 2) pNone (pSome (eVar 5))) (eCallB r__law_pick 0 (aCons (eC (.str "0159 az~(")) aNil))) (eSlice (eVar 2) (pSome (eOp2 dAdd (eVar 5) (eC (.int 1)))) pNone)) (eCallB r__law_pick 0 (aCons (eOfO (oLst (aCons (eC (.str "")) (aCons (eC (.str "~")) (aCons (eC (.str "001020a")) (aCons (eC (.str "000000")) (aCons (eC (.str "001021a")) (aCons (eC (.str "999")) aNil)))))))) aNil))))
      (sIf (uNot (toT (eCall (r__law_same 8) (aCons (eCall r_frames_in (aCons (eVar 10) aNil)) (aCons (eCall r__law_frames_in (aCons (eVar 10) aNil)) aNil)))))
        (sRet (eC (.bool false)))
        sNil))))
  (sRet (eC (.bool true))))))))))
def r__law_right := runB 2 11 b__law_right
theorem d__law_right (T : Txt K mg) : Def P w K mg base "_law_right" s__law_right ["well", "texts"] 9 (spB K r__law_right) :=
  mkB (k := 8) T.a__law_right sc__law_right (by decide) fun f cdv =>
  (dss_cons (ds_set 2 (fun _ => sc__law_right.nd) (de_mt1 PySem.F.slot_str_join PySem.F.type_str_join joinM de_str (de_frz (do_lc [("text", 3)] (fun _ => sc__law_right.nd) (di_seq (de_var 1)) (fun _ => blkOk_by (N := n__law_right) (sc := defScope s__law_right) (by decide +kernel)) (dg_name 3 (fun _ => sc__law_right.nd)) dts_nil (de_call (d__law_frame T) (da_cons (de_var 3) da_nil))))))
  (dss_cons (ds_if (dt_not (dt_val (de_call (d__law_same T 8) (da_cons (de_frz (do_lst (da_cons (de_call (d_stream_of T) (da_cons (de_var 1) da_nil)) (da_cons (de_callK0 [0] (ks := ["texts"]) (d_stream_of T) (dk_cons (de_var 1) dk_nil) (fun _ _ _ _ _ _ us ws h1 h2 => match us, ws, h1, h2 with | [], [_], _, _ => rfl)) (da_cons (de_call (d_frames_in T) (da_cons (de_var 2) da_nil)) (da_cons (de_callK0 [0] (ks := ["stream"]) (d_frames_in T) (dk_cons (de_var 2) dk_nil) (fun _ _ _ _ _ _ us ws h1 h2 => match us, ws, h1, h2 with | [], [_], _, _ => rfl)) da_nil)))))) (da_cons (de_frz (do_lst (da_cons (de_var 2) (da_cons (de_var 2) (da_cons (de_tup (da_cons (de_var 1) (da_cons (de_blt lenC T.z_len hb_len (da_cons (de_var 2) da_nil)) da_nil))) (da_cons (de_tup (da_cons (de_var 1) (da_cons (de_blt lenC T.z_len hb_len (da_cons (de_var 2) da_nil)) da_nil))) da_nil)))))) da_nil)))))
    (dss_one (ds_ret de_bl))
    dss_nil)
  (dss_cons (ds_for (di_seq (de_var 1)) (dg_name 3 (fun _ => sc__law_right.nd))
    (dss_one (ds_if (dt_not (dt_val (de_call (d__law_same T 8) (da_cons (de_frz (do_lst (da_cons (de_call (d_check_number T) (da_cons (de_var 3) da_nil)) (da_cons (de_call (d_frame T) (da_cons (de_var 3) da_nil)) (da_cons (de_callK0 [0] (ks := ["text"]) (d_check_number T) (dk_cons (de_var 3) dk_nil) (fun _ _ _ _ _ _ us ws h1 h2 => match us, ws, h1, h2 with | [], [_], _, _ => rfl)) (da_cons (de_callK0 [0] (ks := ["text"]) (d_frame T) (dk_cons (de_var 3) dk_nil) (fun _ _ _ _ _ _ us ws h1 h2 => match us, ws, h1, h2 with | [], [_], _, _ => rfl)) da_nil)))))) (da_cons (de_bin mulA (de_frz (do_lst (da_cons (de_call (d__law_check T) (da_cons (de_var 3) da_nil)) (da_cons (de_call (d__law_frame T) (da_cons (de_var 3) da_nil)) da_nil)))) de_int) da_nil)))))
        (dss_one (ds_ret de_bl))
        dss_nil)))
  (dss_cons (ds_setO 4 (fun _ => sc__law_right.nd) (do_lst (da_cons de_int da_nil)))
  (dss_cons (ds_for (di_seq (de_var 1)) (dg_name 3 (fun _ => sc__law_right.nd))
    (dss_one (ds_append 4 (de_bin addS (de_bin addS (de_cellIx 4 (de_un negS de_int)) de_int) (de_blt lenC T.z_len hb_len (da_cons (de_var 3) da_nil))))))
  (dss_cons (ds_for (di_seq (de_if (dt_cmp ltS (de_blt lenC T.z_len hb_len (da_cons (de_var 2) da_nil)) de_int) (de_frz (do_listR1 T.z_list T.z_range (de_bin addS (de_blt lenC T.z_len hb_len (da_cons (de_var 2) da_nil)) de_int))) (de_frz (do_lc [("turn", 6)] (fun _ => sc__law_right.nd) (di_range1 T.z_range de_int) (fun _ => blkOk_by (N := n__law_right) (sc := defScope s__law_right) (by decide +kernel)) (dg_name 6 (fun _ => sc__law_right.nd)) dts_nil (de_callB 0 (d__law_take T) (da_cons (de_blt lenC T.z_len hb_len (da_cons (de_var 2) da_nil)) da_nil)))))) (dg_name 5 (fun _ => sc__law_right.nd))
    (dss_cons (ds_set 7 (fun _ => sc__law_right.nd) (de_blt lenC T.z_len hb_len (da_cons (de_frz (do_lc [("end", 8)] (fun _ => sc__law_right.nd) (di_seq (de_slice (de_var 4) (dp_some de_int) dp_none)) (fun _ => blkOk_by (N := n__law_right) (sc := defScope s__law_right) (by decide +kernel)) (dg_name 8 (fun _ => sc__law_right.nd)) (dts_one (dt_cmp leS (de_var 8) (de_var 5))) (de_var 8))) da_nil)))
      (dss_one (ds_for (di_seq (de_frz (do_lst (da_cons de_str (da_cons (de_bin mulA de_str de_int) da_nil))))) (dg_name 9 (fun _ => sc__law_right.nd))
        (dss_one (ds_if (dt_not (dt_val (de_call (d__law_same T 8) (da_cons (de_call (d_frames_in T) (da_cons (de_bin addS (de_slice (de_var 2) dp_none (dp_some (de_var 5))) (de_var 9)) da_nil)) (da_cons (de_tup (da_cons (de_slice (de_var 1) dp_none (dp_some (de_var 7))) (da_cons (de_ix (de_var 4) (de_var 7)) da_nil))) da_nil)))))
            (dss_one (ds_ret de_bl))
            dss_nil))))))
  (dss_cons (ds_for (di_range1 T.z_range de_int) (dg_name 6 (fun _ => sc__law_right.nd))
    (dss_cons (ds_set 5 (fun _ => sc__law_right.nd) (de_callB 0 (d__law_take T) (da_cons (de_blt max2C T.z_max hb_max (da_cons de_int (da_cons (de_blt lenC T.z_len hb_len (da_cons (de_var 2) da_nil)) da_nil))) da_nil)))
      (dss_cons (ds_set 10 (fun _ => sc__law_right.nd) (de_bin addS (de_bin addS (de_bin addS (de_slice (de_var 2) dp_none (dp_some (de_var 5))) (de_callB 0 (d__law_pick T) (da_cons de_str da_nil))) (de_slice (de_var 2) (dp_some (de_bin addS (de_var 5) de_int)) dp_none)) (de_callB 0 (d__law_pick T) (da_cons (de_frz (do_lst (da_cons de_str (da_cons de_str (da_cons de_str (da_cons de_str (da_cons de_str (da_cons de_str da_nil)))))))) da_nil))))
      (dss_one (ds_if (dt_not (dt_val (de_call (d__law_same T 8) (da_cons (de_call (d_frames_in T) (da_cons (de_var 10) da_nil)) (da_cons (de_call (d__law_frames_in T) (da_cons (de_var 10) da_nil)) da_nil)))))
        (dss_one (ds_ret de_bl))
        dss_nil)))))
  (dss_one (ds_ret de_bl)))))))))
/-! _law_text -/
abbrev n__law_text : List Str := ["well", "most", "manner", "many", "signs", "at"]
theorem sc__law_text : FnScope ["well", "most", "manner", "many", "signs", "at"] ["well", "most"] (defScope s__law_text) := ⟨rfl, rfl, rfl, by decide +kernel, rfl, by decide +kernel, by decide +kernel⟩
def b__law_text : SF :=
  (sSeq (sPar 2 3 (aCons (eCallB r__law_take 0 (aCons (eC (.int 4)) aNil)) (aCons (eOp2 dAdd (eC (.int 1)) (eCallB r__law_take 0 (aCons (eVar 1) aNil))) aNil)))
  (sSeq (sSet 4 (eOp2 dIx (eOfO (oLst (aCons (eC (.str " (),-.0123456789<=>abcdefghijklmnopqrstuvwxyz")) (aCons (eC (.str "0123456789")) (aCons (eC (.str "put cut (,)")) (aCons (eC (.str "zyx =")) aNil)))))) (eVar 2)))
  (sRet (eMt1 dJoin (eC (.str "")) (eOfO (oLc (iRange1 (eVar 3)) (gNm 5) uTrue (eCallB r__law_pick 0 (aCons (eVar 4) aNil)) [5]))))))
def r__law_text := runB 2 6 b__law_text
theorem d__law_text (T : Txt K mg) : Def P w K mg base "_law_text" s__law_text ["well", "most"] 3 (spB K r__law_text) :=
  mkB (k := 2) T.a__law_text sc__law_text (by decide) fun f cdv =>
  (dss_cons (ds_par 2 3 (fun _ => sc__law_text.nd) (by decide) (da_cons (de_callB 0 (d__law_take T) (da_cons de_int da_nil)) (da_cons (de_bin addS de_int (de_callB 0 (d__law_take T) (da_cons (de_var 1) da_nil))) da_nil)))
  (dss_cons (ds_set 4 (fun _ => sc__law_text.nd) (de_ix (de_frz (do_lst (da_cons de_str (da_cons de_str (da_cons de_str (da_cons de_str da_nil)))))) (de_var 2)))
  (dss_one (ds_ret (de_mt1 PySem.F.slot_str_join PySem.F.type_str_join joinM de_str (de_frz (do_lc [("at", 5)] (fun _ => sc__law_text.nd) (di_range1 T.z_range (de_var 3)) (fun _ => blkOk_by (N := n__law_text) (sc := defScope s__law_text) (by decide +kernel)) (dg_name 5 (fun _ => sc__law_text.nd)) dts_nil (de_callB 0 (d__law_pick T) (da_cons (de_var 4) da_nil)))))))))
/-! law -/
abbrev n_law : List Str := ["script", "turn", "well", "many", "most", "at"]
theorem sc_law : FnScope ["script", "turn", "well", "many", "most", "at"] ["script"] (defScope s_law) := ⟨rfl, rfl, rfl, by decide +kernel, rfl, by decide +kernel, by decide +kernel⟩
def b_law : SF :=
  (sSeq (sFor (iRange1 (eCall (g2 dMax2) (aCons (eC (.int 2)) (aCons (eCall (g2 dMin2) (aCons (eCall (g1 dLen1) (aCons (eVar 0) aNil)) (aCons (eC (.int 4)) aNil))) aNil)))) (gNm 1)
    (sSeq (sSetO 2 (oCall r__law_well (aCons (eVar 0) (aCons (eVar 1) aNil))))
      (sFor (iSeq (eOfO (oLst (aCons (eTup (aCons (eC (.int 0)) (aCons (eC (.int 1)) aNil))) (aCons (eTup (aCons (eC (.int 1)) (aCons (eC (.int 200)) aNil))) (aCons (eTup (aCons (eC (.int 2)) (aCons (eC (.int 20)) aNil))) (aCons (eTup (aCons (eC (.int 3)) (aCons (eC (.int 30)) aNil))) (aCons (eTup (aCons (eC (.int 5)) (aCons (eC (.int 6)) aNil))) (aCons (eTup (aCons (eC (.int 8)) (aCons (eC (.int 60)) aNil))) aNil))))))))) (gTu [(gNm 3), (gNm 4)])
        (sIf (uNot (toT (eCallB r__law_right 2 (aCons (eCall (g1 dTuple) (aCons (eOfO (oLc (iRange1 (eVar 3)) (gNm 5) uTrue (eCallB r__law_text 2 (aCons (eVar 4) aNil)) [5])) aNil)) aNil))))
            (sRet (eC (.bool false)))
            sNil))))
  (sRet (eOp2 dEq (eCall r_check_number (aCons (eC (.str "")) aNil)) (eC (.int 0)))))
def r_law := runF 1 6 b_law
theorem d_law (T : Txt K mg) : Def P w K mg base "law" s_law ["script"] 10 (spF K r_law) :=
  mkF (k := 9) T.a_law sc_law (by decide) fun f cdv =>
  (dss_cons (ds_for (di_range1 T.z_range (de_blt max2C T.z_max hb_max (da_cons de_int (da_cons (de_blt min2C T.z_min hb_min (da_cons (de_blt lenC T.z_len hb_len (da_cons (de_var 0) da_nil)) (da_cons de_int da_nil))) da_nil)))) (dg_name 1 (fun _ => sc_law.nd))
    (dss_cons (ds_setO 2 (fun _ => sc_law.nd) (do_call (d__law_well T) (da_cons (de_var 0) (da_cons (de_var 1) da_nil))))
      (dss_one (ds_for (di_seq (de_frz (do_lst (da_cons (de_tup (da_cons de_int (da_cons de_int da_nil))) (da_cons (de_tup (da_cons de_int (da_cons de_int da_nil))) (da_cons (de_tup (da_cons de_int (da_cons de_int da_nil))) (da_cons (de_tup (da_cons de_int (da_cons de_int da_nil))) (da_cons (de_tup (da_cons de_int (da_cons de_int da_nil))) (da_cons (de_tup (da_cons de_int (da_cons de_int da_nil))) da_nil))))))))) (dg_tup (dgs_cons (dg_name 3 (fun _ => sc_law.nd)) (dgs_cons (dg_name 4 (fun _ => sc_law.nd)) dgs_nil)))
        (dss_one (ds_if (dt_not (dt_val (de_callB 2 (d__law_right T) (da_cons (de_ty tupleC T.z_tuple hb_tuple (da_cons (de_frz (do_lc [("at", 5)] (fun _ => sc_law.nd) (di_range1 T.z_range (de_var 3)) (fun _ => blkOk_by (N := n_law) (sc := defScope s_law) (by decide +kernel)) (dg_name 5 (fun _ => sc_law.nd)) dts_nil (de_callB 2 (d__law_text T) (da_cons (de_var 4) da_nil)))) da_nil)) da_nil))))
            (dss_one (ds_ret de_bl))
            dss_nil))))))
  (dss_one (ds_ret (de_cmp eqS (de_call (d_check_number T) (da_cons de_str da_nil)) de_int))))
end
/-! ### what the top has written -/
theorem txt_mk {K : Frg} {h : Heap} {mg : Str → Option Value} (X : K.In h) (G : h.Ns mainGlobals mg)
    {f0 : Addr} {od0 an0 : Option Addr} {sl0 : Array (Option Value)} {oc0 kV0 dc0 pm0 cd0 ct0 : Value}
    {f1 : Addr} {od1 an1 : Option Addr} {sl1 : Array (Option Value)} {oc1 kV1 dc1 pm1 cd1 ct1 : Value}
    {f2 : Addr} {od2 an2 : Option Addr} {sl2 : Array (Option Value)} {oc2 kV2 dc2 pm2 cd2 ct2 : Value}
    {f3 : Addr} {od3 an3 : Option Addr} {sl3 : Array (Option Value)} {oc3 kV3 dc3 pm3 cd3 ct3 : Value}
    {f4 : Addr} {od4 an4 : Option Addr} {sl4 : Array (Option Value)} {oc4 kV4 dc4 pm4 cd4 ct4 : Value}
    {f5 : Addr} {od5 an5 : Option Addr} {sl5 : Array (Option Value)} {oc5 kV5 dc5 pm5 cd5 ct5 : Value}
    {f6 : Addr} {od6 an6 : Option Addr} {sl6 : Array (Option Value)} {oc6 kV6 dc6 pm6 cd6 ct6 : Value}
    {f7 : Addr} {od7 an7 : Option Addr} {sl7 : Array (Option Value)} {oc7 kV7 dc7 pm7 cd7 ct7 : Value}
    {f8 : Addr} {od8 an8 : Option Addr} {sl8 : Array (Option Value)} {oc8 kV8 dc8 pm8 cd8 ct8 : Value}
    {f9 : Addr} {od9 an9 : Option Addr} {sl9 : Array (Option Value)} {oc9 kV9 dc9 pm9 cd9 ct9 : Value}
    {f10 : Addr} {od10 an10 : Option Addr} {sl10 : Array (Option Value)} {oc10 kV10 dc10 pm10 cd10 ct10 : Value}
    {f11 : Addr} {od11 an11 : Option Addr} {sl11 : Array (Option Value)} {oc11 kV11 dc11 pm11 cd11 ct11 : Value}
    {f12 : Addr} {od12 an12 : Option Addr} {sl12 : Array (Option Value)} {oc12 kV12 dc12 pm12 cd12 ct12 : Value}
    {f13 : Addr} {od13 an13 : Option Addr} {sl13 : Array (Option Value)} {oc13 kV13 dc13 pm13 cd13 ct13 : Value}
    {f14 : Addr} {od14 an14 : Option Addr} {sl14 : Array (Option Value)} {oc14 kV14 dc14 pm14 cd14 ct14 : Value}
    {f15 : Addr} {od15 an15 : Option Addr} {sl15 : Array (Option Value)} {oc15 kV15 dc15 pm15 cd15 ct15 : Value}
    {f16 : Addr} {od16 an16 : Option Addr} {sl16 : Array (Option Value)} {oc16 kV16 dc16 pm16 cd16 ct16 : Value}
    {f17 : Addr} {od17 an17 : Option Addr} {sl17 : Array (Option Value)} {oc17 kV17 dc17 pm17 cd17 ct17 : Value}
    {f18 : Addr} {od18 an18 : Option Addr} {sl18 : Array (Option Value)} {oc18 kV18 dc18 pm18 cd18 ct18 : Value}
    {f19 : Addr} {od19 an19 : Option Addr} {sl19 : Array (Option Value)} {oc19 kV19 dc19 pm19 cd19 ct19 : Value}
    {f20 : Addr} {od20 an20 : Option Addr} {sl20 : Array (Option Value)} {oc20 kV20 dc20 pm20 cd20 ct20 : Value}
    {f21 : Addr} {od21 an21 : Option Addr} {sl21 : Array (Option Value)} {oc21 kV21 dc21 pm21 cd21 ct21 : Value}
    {f22 : Addr} {od22 an22 : Option Addr} {sl22 : Array (Option Value)} {oc22 kV22 dc22 pm22 cd22 ct22 : Value}
    {f23 : Addr} {od23 an23 : Option Addr} {sl23 : Array (Option Value)} {oc23 kV23 dc23 pm23 cd23 ct23 : Value}
    {f24 : Addr} {od24 an24 : Option Addr} {sl24 : Array (Option Value)} {oc24 kV24 dc24 pm24 cd24 ct24 : Value}
    {f25 : Addr} {od25 an25 : Option Addr} {sl25 : Array (Option Value)} {oc25 kV25 dc25 pm25 cd25 ct25 : Value}
    {f26 : Addr} {od26 an26 : Option Addr} {sl26 : Array (Option Value)} {oc26 kV26 dc26 pm26 cd26 ct26 : Value}
    {f27 : Addr} {od27 an27 : Option Addr} {sl27 : Array (Option Value)} {oc27 kV27 dc27 pm27 cd27 ct27 : Value}
    {f28 : Addr} {od28 an28 : Option Addr} {sl28 : Array (Option Value)} {oc28 kV28 dc28 pm28 cd28 ct28 : Value}
    {t_DIGITS : Tok}
    {t_DIGITS_OF_PART : Tok}
    {t_HEAD : Tok}
    {t_LONGEST_LINE : Tok}
    {t_MODULUS : Tok}
    {t_MOST_TEXTS : Tok}
    {t_SIGNS : Tok}
    (a0 : PySem.W.nsIn K mainGlobals "_law_well" = some (some (.ref f0))) (l0 : K.lookup f0 = some ⟨oc0, od0, .func (PySem.W.fnOf "_law_well" "_law_well" (defArgs s__law_well) (defBody s__law_well) (defScope s__law_well) .none kV0 dc0 pm0 an0 cd0 ct0), sl0⟩) (c0 : PySem.W.codeIn K cd0 "_law_well" = true) (k0 : PySem.W.keepIn K (.ref f0) = true)
    (a1 : PySem.W.nsIn K mainGlobals "is_text_of" = some (some (.ref f1))) (l1 : K.lookup f1 = some ⟨oc1, od1, .func (PySem.W.fnOf "is_text_of" "is_text_of" (defArgs s_is_text_of) (defBody s_is_text_of) (defScope s_is_text_of) .none kV1 dc1 pm1 an1 cd1 ct1), sl1⟩) (c1 : PySem.W.codeIn K cd1 "is_text_of" = true) (k1 : PySem.W.keepIn K (.ref f1) = true)
    (a2 : PySem.W.nsIn K mainGlobals "is_lined" = some (some (.ref f2))) (l2 : K.lookup f2 = some ⟨oc2, od2, .func (PySem.W.fnOf "is_lined" "is_lined" (defArgs s_is_lined) (defBody s_is_lined) (defScope s_is_lined) .none kV2 dc2 pm2 an2 cd2 ct2), sl2⟩) (c2 : PySem.W.codeIn K cd2 "is_lined" = true) (k2 : PySem.W.keepIn K (.ref f2) = true)
    (a3 : PySem.W.nsIn K mainGlobals "check_line" = some (some (.ref f3))) (l3 : K.lookup f3 = some ⟨oc3, od3, .func (PySem.W.fnOf "check_line" "check_line" (defArgs s_check_line) (defBody s_check_line) (defScope s_check_line) .none kV3 dc3 pm3 an3 cd3 ct3), sl3⟩) (c3 : PySem.W.codeIn K cd3 "check_line" = true) (k3 : PySem.W.keepIn K (.ref f3) = true)
    (a4 : PySem.W.nsIn K mainGlobals "check_of" = some (some (.ref f4))) (l4 : K.lookup f4 = some ⟨oc4, od4, .func (PySem.W.fnOf "check_of" "check_of" (defArgs s_check_of) (defBody s_check_of) (defScope s_check_of) .none kV4 dc4 pm4 an4 cd4 ct4), sl4⟩) (c4 : PySem.W.codeIn K cd4 "check_of" = true) (k4 : PySem.W.keepIn K (.ref f4) = true)
    (a5 : PySem.W.nsIn K mainGlobals "check_number" = some (some (.ref f5))) (l5 : K.lookup f5 = some ⟨oc5, od5, .func (PySem.W.fnOf "check_number" "check_number" (defArgs s_check_number) (defBody s_check_number) (defScope s_check_number) .none kV5 dc5 pm5 an5 cd5 ct5), sl5⟩) (c5 : PySem.W.codeIn K cd5 "check_number" = true) (k5 : PySem.W.keepIn K (.ref f5) = true)
    (a6 : PySem.W.nsIn K mainGlobals "_law_same" = some (some (.ref f6))) (l6 : K.lookup f6 = some ⟨oc6, od6, .func (PySem.W.fnOf "_law_same" "_law_same" (defArgs s__law_same) (defBody s__law_same) (defScope s__law_same) .none kV6 dc6 pm6 an6 cd6 ct6), sl6⟩) (c6 : PySem.W.codeIn K cd6 "_law_same" = true) (k6 : PySem.W.keepIn K (.ref f6) = true)
    (a7 : PySem.W.nsIn K mainGlobals "_law_take" = some (some (.ref f7))) (l7 : K.lookup f7 = some ⟨oc7, od7, .func (PySem.W.fnOf "_law_take" "_law_take" (defArgs s__law_take) (defBody s__law_take) (defScope s__law_take) .none kV7 dc7 pm7 an7 cd7 ct7), sl7⟩) (c7 : PySem.W.codeIn K cd7 "_law_take" = true) (k7 : PySem.W.keepIn K (.ref f7) = true)
    (a8 : PySem.W.nsIn K mainGlobals "_law_three" = some (some (.ref f8))) (l8 : K.lookup f8 = some ⟨oc8, od8, .func (PySem.W.fnOf "_law_three" "_law_three" (defArgs s__law_three) (defBody s__law_three) (defScope s__law_three) .none kV8 dc8 pm8 an8 cd8 ct8), sl8⟩) (c8 : PySem.W.codeIn K cd8 "_law_three" = true) (k8 : PySem.W.keepIn K (.ref f8) = true)
    (a9 : PySem.W.nsIn K mainGlobals "_law_check" = some (some (.ref f9))) (l9 : K.lookup f9 = some ⟨oc9, od9, .func (PySem.W.fnOf "_law_check" "_law_check" (defArgs s__law_check) (defBody s__law_check) (defScope s__law_check) .none kV9 dc9 pm9 an9 cd9 ct9), sl9⟩) (c9 : PySem.W.codeIn K cd9 "_law_check" = true) (k9 : PySem.W.keepIn K (.ref f9) = true)
    (a10 : PySem.W.nsIn K mainGlobals "_law_frame" = some (some (.ref f10))) (l10 : K.lookup f10 = some ⟨oc10, od10, .func (PySem.W.fnOf "_law_frame" "_law_frame" (defArgs s__law_frame) (defBody s__law_frame) (defScope s__law_frame) .none kV10 dc10 pm10 an10 cd10 ct10), sl10⟩) (c10 : PySem.W.codeIn K cd10 "_law_frame" = true) (k10 : PySem.W.keepIn K (.ref f10) = true)
    (a11 : PySem.W.nsIn K mainGlobals "_law_pick" = some (some (.ref f11))) (l11 : K.lookup f11 = some ⟨oc11, od11, .func (PySem.W.fnOf "_law_pick" "_law_pick" (defArgs s__law_pick) (defBody s__law_pick) (defScope s__law_pick) .none kV11 dc11 pm11 an11 cd11 ct11), sl11⟩) (c11 : PySem.W.codeIn K cd11 "_law_pick" = true) (k11 : PySem.W.keepIn K (.ref f11) = true)
    (a12 : PySem.W.nsIn K mainGlobals "first_wrong_text" = some (some (.ref f12))) (l12 : K.lookup f12 = some ⟨oc12, od12, .func (PySem.W.fnOf "first_wrong_text" "first_wrong_text" (defArgs s_first_wrong_text) (defBody s_first_wrong_text) (defScope s_first_wrong_text) .none kV12 dc12 pm12 an12 cd12 ct12), sl12⟩) (c12 : PySem.W.codeIn K cd12 "first_wrong_text" = true) (k12 : PySem.W.keepIn K (.ref f12) = true)
    (a13 : PySem.W.nsIn K mainGlobals "check_texts" = some (some (.ref f13))) (l13 : K.lookup f13 = some ⟨oc13, od13, .func (PySem.W.fnOf "check_texts" "check_texts" (defArgs s_check_texts) (defBody s_check_texts) (defScope s_check_texts) .none kV13 dc13 pm13 an13 cd13 ct13), sl13⟩) (c13 : PySem.W.codeIn K cd13 "check_texts" = true) (k13 : PySem.W.keepIn K (.ref f13) = true)
    (a14 : PySem.W.nsIn K mainGlobals "figures" = some (some (.ref f14))) (l14 : K.lookup f14 = some ⟨oc14, od14, .func (PySem.W.fnOf "figures" "figures" (defArgs s_figures) (defBody s_figures) (defScope s_figures) .none kV14 dc14 pm14 an14 cd14 ct14), sl14⟩) (c14 : PySem.W.codeIn K cd14 "figures" = true) (k14 : PySem.W.keepIn K (.ref f14) = true)
    (a15 : PySem.W.nsIn K mainGlobals "frame_of" = some (some (.ref f15))) (l15 : K.lookup f15 = some ⟨oc15, od15, .func (PySem.W.fnOf "frame_of" "frame_of" (defArgs s_frame_of) (defBody s_frame_of) (defScope s_frame_of) .none kV15 dc15 pm15 an15 cd15 ct15), sl15⟩) (c15 : PySem.W.codeIn K cd15 "frame_of" = true) (k15 : PySem.W.keepIn K (.ref f15) = true)
    (a16 : PySem.W.nsIn K mainGlobals "stream_by" = some (some (.ref f16))) (l16 : K.lookup f16 = some ⟨oc16, od16, .func (PySem.W.fnOf "stream_by" "stream_by" (defArgs s_stream_by) (defBody s_stream_by) (defScope s_stream_by) .none kV16 dc16 pm16 an16 cd16 ct16), sl16⟩) (c16 : PySem.W.codeIn K cd16 "stream_by" = true) (k16 : PySem.W.keepIn K (.ref f16) = true)
    (a17 : PySem.W.nsIn K mainGlobals "stream_of" = some (some (.ref f17))) (l17 : K.lookup f17 = some ⟨oc17, od17, .func (PySem.W.fnOf "stream_of" "stream_of" (defArgs s_stream_of) (defBody s_stream_of) (defScope s_stream_of) .none kV17 dc17 pm17 an17 cd17 ct17), sl17⟩) (c17 : PySem.W.codeIn K cd17 "stream_of" = true) (k17 : PySem.W.keepIn K (.ref f17) = true)
    (a18 : PySem.W.nsIn K mainGlobals "check_text" = some (some (.ref f18))) (l18 : K.lookup f18 = some ⟨oc18, od18, .func (PySem.W.fnOf "check_text" "check_text" (defArgs s_check_text) (defBody s_check_text) (defScope s_check_text) .none kV18 dc18 pm18 an18 cd18 ct18), sl18⟩) (c18 : PySem.W.codeIn K cd18 "check_text" = true) (k18 : PySem.W.keepIn K (.ref f18) = true)
    (a19 : PySem.W.nsIn K mainGlobals "text_at" = some (some (.ref f19))) (l19 : K.lookup f19 = some ⟨oc19, od19, .func (PySem.W.fnOf "text_at" "text_at" (defArgs s_text_at) (defBody s_text_at) (defScope s_text_at) .none kV19 dc19 pm19 an19 cd19 ct19), sl19⟩) (c19 : PySem.W.codeIn K cd19 "text_at" = true) (k19 : PySem.W.keepIn K (.ref f19) = true)
    (a20 : PySem.W.nsIn K mainGlobals "frames_by" = some (some (.ref f20))) (l20 : K.lookup f20 = some ⟨oc20, od20, .func (PySem.W.fnOf "frames_by" "frames_by" (defArgs s_frames_by) (defBody s_frames_by) (defScope s_frames_by) .none kV20 dc20 pm20 an20 cd20 ct20), sl20⟩) (c20 : PySem.W.codeIn K cd20 "frames_by" = true) (k20 : PySem.W.keepIn K (.ref f20) = true)
    (a21 : PySem.W.nsIn K mainGlobals "frames_in" = some (some (.ref f21))) (l21 : K.lookup f21 = some ⟨oc21, od21, .func (PySem.W.fnOf "frames_in" "frames_in" (defArgs s_frames_in) (defBody s_frames_in) (defScope s_frames_in) .none kV21 dc21 pm21 an21 cd21 ct21), sl21⟩) (c21 : PySem.W.codeIn K cd21 "frames_in" = true) (k21 : PySem.W.keepIn K (.ref f21) = true)
    (a22 : PySem.W.nsIn K mainGlobals "_law_is_signs" = some (some (.ref f22))) (l22 : K.lookup f22 = some ⟨oc22, od22, .func (PySem.W.fnOf "_law_is_signs" "_law_is_signs" (defArgs s__law_is_signs) (defBody s__law_is_signs) (defScope s__law_is_signs) .none kV22 dc22 pm22 an22 cd22 ct22), sl22⟩) (c22 : PySem.W.codeIn K cd22 "_law_is_signs" = true) (k22 : PySem.W.keepIn K (.ref f22) = true)
    (a23 : PySem.W.nsIn K mainGlobals "_law_frames_in" = some (some (.ref f23))) (l23 : K.lookup f23 = some ⟨oc23, od23, .func (PySem.W.fnOf "_law_frames_in" "_law_frames_in" (defArgs s__law_frames_in) (defBody s__law_frames_in) (defScope s__law_frames_in) .none kV23 dc23 pm23 an23 cd23 ct23), sl23⟩) (c23 : PySem.W.codeIn K cd23 "_law_frames_in" = true) (k23 : PySem.W.keepIn K (.ref f23) = true)
    (a24 : PySem.W.nsIn K mainGlobals "check_filled_line" = some (some (.ref f24))) (l24 : K.lookup f24 = some ⟨oc24, od24, .func (PySem.W.fnOf "check_filled_line" "check_filled_line" (defArgs s_check_filled_line) (defBody s_check_filled_line) (defScope s_check_filled_line) .none kV24 dc24 pm24 an24 cd24 ct24), sl24⟩) (c24 : PySem.W.codeIn K cd24 "check_filled_line" = true) (k24 : PySem.W.keepIn K (.ref f24) = true)
    (a25 : PySem.W.nsIn K mainGlobals "frame" = some (some (.ref f25))) (l25 : K.lookup f25 = some ⟨oc25, od25, .func (PySem.W.fnOf "frame" "frame" (defArgs s_frame) (defBody s_frame) (defScope s_frame) .none kV25 dc25 pm25 an25 cd25 ct25), sl25⟩) (c25 : PySem.W.codeIn K cd25 "frame" = true) (k25 : PySem.W.keepIn K (.ref f25) = true)
    (a26 : PySem.W.nsIn K mainGlobals "_law_right" = some (some (.ref f26))) (l26 : K.lookup f26 = some ⟨oc26, od26, .func (PySem.W.fnOf "_law_right" "_law_right" (defArgs s__law_right) (defBody s__law_right) (defScope s__law_right) .none kV26 dc26 pm26 an26 cd26 ct26), sl26⟩) (c26 : PySem.W.codeIn K cd26 "_law_right" = true) (k26 : PySem.W.keepIn K (.ref f26) = true)
    (a27 : PySem.W.nsIn K mainGlobals "_law_text" = some (some (.ref f27))) (l27 : K.lookup f27 = some ⟨oc27, od27, .func (PySem.W.fnOf "_law_text" "_law_text" (defArgs s__law_text) (defBody s__law_text) (defScope s__law_text) .none kV27 dc27 pm27 an27 cd27 ct27), sl27⟩) (c27 : PySem.W.codeIn K cd27 "_law_text" = true) (k27 : PySem.W.keepIn K (.ref f27) = true)
    (a28 : PySem.W.nsIn K mainGlobals "law" = some (some (.ref f28))) (l28 : K.lookup f28 = some ⟨oc28, od28, .func (PySem.W.fnOf "law" "law" (defArgs s_law) (defBody s_law) (defScope s_law) .none kV28 dc28 pm28 an28 cd28 ct28), sl28⟩) (c28 : PySem.W.codeIn K cd28 "law" = true) (k28 : PySem.W.keepIn K (.ref f28) = true)
    (z_abs : PySem.W.nsIn K mainGlobals "abs" = some Option.none)
    (z_all : PySem.W.nsIn K mainGlobals "all" = some Option.none)
    (z_bool : PySem.W.nsIn K mainGlobals "bool" = some Option.none)
    (z_divmod : PySem.W.nsIn K mainGlobals "divmod" = some Option.none)
    (z_enumerate : PySem.W.nsIn K mainGlobals "enumerate" = some Option.none)
    (z_int : PySem.W.nsIn K mainGlobals "int" = some Option.none)
    (z_isinstance : PySem.W.nsIn K mainGlobals "isinstance" = some Option.none)
    (z_len : PySem.W.nsIn K mainGlobals "len" = some Option.none)
    (z_list : PySem.W.nsIn K mainGlobals "list" = some Option.none)
    (z_max : PySem.W.nsIn K mainGlobals "max" = some Option.none)
    (z_min : PySem.W.nsIn K mainGlobals "min" = some Option.none)
    (z_range : PySem.W.nsIn K mainGlobals "range" = some Option.none)
    (z_str : PySem.W.nsIn K mainGlobals "str" = some Option.none)
    (z_sum : PySem.W.nsIn K mainGlobals "sum" = some Option.none)
    (z_tuple : PySem.W.nsIn K mainGlobals "tuple" = some Option.none)
    (c_DIGITS : PySem.W.nsIn K mainGlobals "DIGITS" = some (some (.str "0123456789" t_DIGITS)))
    (c_DIGITS_OF_PART : PySem.W.nsIn K mainGlobals "DIGITS_OF_PART" = some (some (.int 3 t_DIGITS_OF_PART)))
    (c_HEAD : PySem.W.nsIn K mainGlobals "HEAD" = some (some (.int 6 t_HEAD)))
    (c_LONGEST_LINE : PySem.W.nsIn K mainGlobals "LONGEST_LINE" = some (some (.int 200 t_LONGEST_LINE)))
    (c_MODULUS : PySem.W.nsIn K mainGlobals "MODULUS" = some (some (.int 997 t_MODULUS)))
    (c_MOST_TEXTS : PySem.W.nsIn K mainGlobals "MOST_TEXTS" = some (some (.int 60 t_MOST_TEXTS)))
    (c_SIGNS : PySem.W.nsIn K mainGlobals "SIGNS" = some (some (.str " (),-.0123456789<=>abcdefghijklmnopqrstuvwxyz" t_SIGNS))) : Txt K mg where
  a__law_well := ⟨⟨f0, _, fun_mk (st := s__law_well) l0 c0 k0, PySem.W.mg_of X G a0, (fun_mk (st := s__law_well) l0 c0 k0).binds (ps := ["script", "turn"]) fun _ _ _ _ _ _ us hl => match us, hl with | [_, _], _ => rfl⟩⟩
  a_is_text_of := ⟨⟨f1, _, fun_mk (st := s_is_text_of) l1 c1 k1, PySem.W.mg_of X G a1, (fun_mk (st := s_is_text_of) l1 c1 k1).binds (ps := ["value", "signs"]) fun _ _ _ _ _ _ us hl => match us, hl with | [_, _], _ => rfl⟩⟩
  a_is_lined := ⟨⟨f2, _, fun_mk (st := s_is_lined) l2 c2 k2, PySem.W.mg_of X G a2, (fun_mk (st := s_is_lined) l2 c2 k2).binds (ps := ["value"]) fun _ _ _ _ _ _ us hl => match us, hl with | [_], _ => rfl⟩⟩
  a_check_line := ⟨⟨f3, _, fun_mk (st := s_check_line) l3 c3 k3, PySem.W.mg_of X G a3, (fun_mk (st := s_check_line) l3 c3 k3).binds (ps := ["text"]) fun _ _ _ _ _ _ us hl => match us, hl with | [_], _ => rfl⟩⟩
  a_check_of := ⟨⟨f4, _, fun_mk (st := s_check_of) l4 c4 k4, PySem.W.mg_of X G a4, (fun_mk (st := s_check_of) l4 c4 k4).binds (ps := ["text"]) fun _ _ _ _ _ _ us hl => match us, hl with | [_], _ => rfl⟩⟩
  a_check_number := ⟨⟨f5, _, fun_mk (st := s_check_number) l5 c5 k5, PySem.W.mg_of X G a5, (fun_mk (st := s_check_number) l5 c5 k5).binds (ps := ["text"]) fun _ _ _ _ _ _ us hl => match us, hl with | [_], _ => rfl⟩⟩
  a__law_same := ⟨⟨f6, _, fun_mk (st := s__law_same) l6 c6 k6, PySem.W.mg_of X G a6, (fun_mk (st := s__law_same) l6 c6 k6).binds (ps := ["told", "due"]) fun _ _ _ _ _ _ us hl => match us, hl with | [_, _], _ => rfl⟩⟩
  a__law_take := ⟨⟨f7, _, fun_mk (st := s__law_take) l7 c7 k7, PySem.W.mg_of X G a7, (fun_mk (st := s__law_take) l7 c7 k7).binds (ps := ["well", "many"]) fun _ _ _ _ _ _ us hl => match us, hl with | [_, _], _ => rfl⟩⟩
  a__law_three := ⟨⟨f8, _, fun_mk (st := s__law_three) l8 c8 k8, PySem.W.mg_of X G a8, (fun_mk (st := s__law_three) l8 c8 k8).binds (ps := ["number"]) fun _ _ _ _ _ _ us hl => match us, hl with | [_], _ => rfl⟩⟩
  a__law_check := ⟨⟨f9, _, fun_mk (st := s__law_check) l9 c9 k9, PySem.W.mg_of X G a9, (fun_mk (st := s__law_check) l9 c9 k9).binds (ps := ["text"]) fun _ _ _ _ _ _ us hl => match us, hl with | [_], _ => rfl⟩⟩
  a__law_frame := ⟨⟨f10, _, fun_mk (st := s__law_frame) l10 c10 k10, PySem.W.mg_of X G a10, (fun_mk (st := s__law_frame) l10 c10 k10).binds (ps := ["text"]) fun _ _ _ _ _ _ us hl => match us, hl with | [_], _ => rfl⟩⟩
  a__law_pick := ⟨⟨f11, _, fun_mk (st := s__law_pick) l11 c11 k11, PySem.W.mg_of X G a11, (fun_mk (st := s__law_pick) l11 c11 k11).binds (ps := ["well", "some"]) fun _ _ _ _ _ _ us hl => match us, hl with | [_, _], _ => rfl⟩⟩
  a_first_wrong_text := ⟨⟨f12, _, fun_mk (st := s_first_wrong_text) l12 c12 k12, PySem.W.mg_of X G a12, (fun_mk (st := s_first_wrong_text) l12 c12 k12).binds (ps := ["value"]) fun _ _ _ _ _ _ us hl => match us, hl with | [_], _ => rfl⟩⟩
  a_check_texts := ⟨⟨f13, _, fun_mk (st := s_check_texts) l13 c13 k13, PySem.W.mg_of X G a13, (fun_mk (st := s_check_texts) l13 c13 k13).binds (ps := ["texts"]) fun _ _ _ _ _ _ us hl => match us, hl with | [_], _ => rfl⟩⟩
  a_figures := ⟨⟨f14, _, fun_mk (st := s_figures) l14 c14 k14, PySem.W.mg_of X G a14, (fun_mk (st := s_figures) l14 c14 k14).binds (ps := ["number", "many"]) fun _ _ _ _ _ _ us hl => match us, hl with | [_, _], _ => rfl⟩⟩
  a_frame_of := ⟨⟨f15, _, fun_mk (st := s_frame_of) l15 c15 k15, PySem.W.mg_of X G a15, (fun_mk (st := s_frame_of) l15 c15 k15).binds (ps := ["text"]) fun _ _ _ _ _ _ us hl => match us, hl with | [_], _ => rfl⟩⟩
  a_stream_by := ⟨⟨f16, _, fun_mk (st := s_stream_by) l16 c16 k16, PySem.W.mg_of X G a16, (fun_mk (st := s_stream_by) l16 c16 k16).binds (ps := ["texts"]) fun _ _ _ _ _ _ us hl => match us, hl with | [_], _ => rfl⟩⟩
  a_stream_of := ⟨⟨f17, _, fun_mk (st := s_stream_of) l17 c17 k17, PySem.W.mg_of X G a17, (fun_mk (st := s_stream_of) l17 c17 k17).binds (ps := ["texts"]) fun _ _ _ _ _ _ us hl => match us, hl with | [_], _ => rfl⟩⟩
  a_check_text := ⟨⟨f18, _, fun_mk (st := s_check_text) l18 c18 k18, PySem.W.mg_of X G a18, (fun_mk (st := s_check_text) l18 c18 k18).binds (ps := ["text"]) fun _ _ _ _ _ _ us hl => match us, hl with | [_], _ => rfl⟩⟩
  a_text_at := ⟨⟨f19, _, fun_mk (st := s_text_at) l19 c19 k19, PySem.W.mg_of X G a19, (fun_mk (st := s_text_at) l19 c19 k19).binds (ps := ["stream", "start"]) fun _ _ _ _ _ _ us hl => match us, hl with | [_, _], _ => rfl⟩⟩
  a_frames_by := ⟨⟨f20, _, fun_mk (st := s_frames_by) l20 c20 k20, PySem.W.mg_of X G a20, (fun_mk (st := s_frames_by) l20 c20 k20).binds (ps := ["stream"]) fun _ _ _ _ _ _ us hl => match us, hl with | [_], _ => rfl⟩⟩
  a_frames_in := ⟨⟨f21, _, fun_mk (st := s_frames_in) l21 c21 k21, PySem.W.mg_of X G a21, (fun_mk (st := s_frames_in) l21 c21 k21).binds (ps := ["stream"]) fun _ _ _ _ _ _ us hl => match us, hl with | [_], _ => rfl⟩⟩
  a__law_is_signs := ⟨⟨f22, _, fun_mk (st := s__law_is_signs) l22 c22 k22, PySem.W.mg_of X G a22, (fun_mk (st := s__law_is_signs) l22 c22 k22).binds (ps := ["text"]) fun _ _ _ _ _ _ us hl => match us, hl with | [_], _ => rfl⟩⟩
  a__law_frames_in := ⟨⟨f23, _, fun_mk (st := s__law_frames_in) l23 c23 k23, PySem.W.mg_of X G a23, (fun_mk (st := s__law_frames_in) l23 c23 k23).binds (ps := ["stream"]) fun _ _ _ _ _ _ us hl => match us, hl with | [_], _ => rfl⟩⟩
  a_check_filled_line := ⟨⟨f24, _, fun_mk (st := s_check_filled_line) l24 c24 k24, PySem.W.mg_of X G a24, (fun_mk (st := s_check_filled_line) l24 c24 k24).binds (ps := ["text"]) fun _ _ _ _ _ _ us hl => match us, hl with | [_], _ => rfl⟩⟩
  a_frame := ⟨⟨f25, _, fun_mk (st := s_frame) l25 c25 k25, PySem.W.mg_of X G a25, (fun_mk (st := s_frame) l25 c25 k25).binds (ps := ["text"]) fun _ _ _ _ _ _ us hl => match us, hl with | [_], _ => rfl⟩⟩
  a__law_right := ⟨⟨f26, _, fun_mk (st := s__law_right) l26 c26 k26, PySem.W.mg_of X G a26, (fun_mk (st := s__law_right) l26 c26 k26).binds (ps := ["well", "texts"]) fun _ _ _ _ _ _ us hl => match us, hl with | [_, _], _ => rfl⟩⟩
  a__law_text := ⟨⟨f27, _, fun_mk (st := s__law_text) l27 c27 k27, PySem.W.mg_of X G a27, (fun_mk (st := s__law_text) l27 c27 k27).binds (ps := ["well", "most"]) fun _ _ _ _ _ _ us hl => match us, hl with | [_, _], _ => rfl⟩⟩
  a_law := ⟨⟨f28, _, fun_mk (st := s_law) l28 c28 k28, PySem.W.mg_of X G a28, (fun_mk (st := s_law) l28 c28 k28).binds (ps := ["script"]) fun _ _ _ _ _ _ us hl => match us, hl with | [_], _ => rfl⟩⟩
  z_abs := PySem.W.mg_none_of X G z_abs
  z_all := PySem.W.mg_none_of X G z_all
  z_bool := PySem.W.mg_none_of X G z_bool
  z_divmod := PySem.W.mg_none_of X G z_divmod
  z_enumerate := PySem.W.mg_none_of X G z_enumerate
  z_int := PySem.W.mg_none_of X G z_int
  z_isinstance := PySem.W.mg_none_of X G z_isinstance
  z_len := PySem.W.mg_none_of X G z_len
  z_list := PySem.W.mg_none_of X G z_list
  z_max := PySem.W.mg_none_of X G z_max
  z_min := PySem.W.mg_none_of X G z_min
  z_range := PySem.W.mg_none_of X G z_range
  z_str := PySem.W.mg_none_of X G z_str
  z_sum := PySem.W.mg_none_of X G z_sum
  z_tuple := PySem.W.mg_none_of X G z_tuple
  c_DIGITS := glob_str (PySem.W.mg_of X G c_DIGITS)
  c_DIGITS_OF_PART := glob_int (PySem.W.mg_of X G c_DIGITS_OF_PART)
  c_HEAD := glob_int (PySem.W.mg_of X G c_HEAD)
  c_LONGEST_LINE := glob_int (PySem.W.mg_of X G c_LONGEST_LINE)
  c_MODULUS := glob_int (PySem.W.mg_of X G c_MODULUS)
  c_MOST_TEXTS := glob_int (PySem.W.mg_of X G c_MOST_TEXTS)
  c_SIGNS := glob_str (PySem.W.mg_of X G c_SIGNS)
theorem law_ok {P : Program} {w : World} {K : Frg} {mg : Str → Option Value} {fa : Addr} (T : Txt K mg) (hmg : mg "law" = some (.ref fa)) :
    ∃ fd : FuncData, (∀ (s : Shared) (v : Value), BindsTo s fd ⟨[v], []⟩ [("script", v)]) ∧ ∀ base : Heap, K.In base → base.Ns mainGlobals mg → FnOk P w K mg base CX0 10 fa fd ["script"] (spF K r_law) :=
  law_fd T.a_law hmg (fun _ _ _ _ _ _ _ => rfl) (fun base => d_law T)
end Q43

set_option Elab.async false
set_option linter.all false
set_option maxRecDepth 100000
set_option maxHeartbeats 4000000
namespace Q43
open PySem PySem.Spec L2 DL
def SG : List Nat := [32, 40, 41, 44, 45, 46, 48, 49, 50, 51, 52, 53, 54, 55, 56, 57, 60, 61, 62, 97, 98, 99, 100, 101, 102, 103, 104, 105, 106, 107, 108, 109, 110, 111, 112, 113, 114, 115, 116, 117, 118, 119, 120, 121, 122]
def DG10 : List Nat := [48, 49, 50, 51, 52, 53, 54, 55, 56, 57]
theorem SG_lit : PyData.str " (),-.0123456789<=>abcdefghijklmnopqrstuvwxyz" = S SG := rfl
theorem DG_lit : PyData.str "0123456789" = S DG10 := rfl
theorem e_lit : PyData.str "" = S [] := rfl
theorem SG_c : c_SIGNS = S SG := rfl
theorem DG_c : c_DIGITS = S DG10 := rfl
def pv (n : Nat) : List Nat := [48 + n / 100, 48 + n / 10 % 10, 48 + n % 10]
theorem pv_zfill : ∀ n < 1000, PySem.Txt.zfill (Str.ofString (toString ((n : Nat) : Int))) 3 = ⟨(pv n).toArray⟩ := by decide +kernel
theorem pv_int : ∀ n < 1000, PySem.intText? ⟨(pv n).toArray⟩ = some ((n : Nat) : Int) := by decide +kernel
theorem pv_three : ∀ n < 1000, cutS (Str.ofString "000" ++ Str.ofString (toString ((n : Nat) : Int))) (some (-3)) none = ⟨(pv n).toArray⟩ := by decide +kernel
theorem pv_log : ∀ n < 1000, ((n : Nat) : Int).natAbs.log2 < 1920 := by decide +kernel
theorem pv_len3 : ∀ n < 1000, (Str.ofString "000").length + (Str.ofString (toString ((n : Nat) : Int))).length ≤ 16777216 := by decide +kernel
theorem SG_ix : ∀ c ∈ SG, PySem.Txt.index0 ⟨SG.toArray⟩ ⟨#[c]⟩ = some (SG.idxOf c) := by decide +kernel
theorem ix_SG {c : Nat} (h : c ∈ SG) : dIndexS (S SG) (S [c]) = some (.int (SG.idxOf c : Nat)) := by
  show (PySem.Txt.index0 ⟨SG.toArray⟩ ⟨#[c]⟩).map _ = _
  rw [SG_ix c h]; rfl
theorem ix_lt : ∀ c ∈ SG, SG.idxOf c < 45 := by decide +kernel
/-! ### signs -/
theorem is_text_of_S {a g : List Nat} (h : a.length ≤ 16777216) : r_is_text_of [S a, S g] = some (.bool (a.all fun c => decide (c ∈ g))) := by
  have hc : oLc (iSeq (eVar 0)) (gNm 2) uTrue (eOp2 dInA (eVar 2) (eVar 1)) [2] [.dat (S a), .dat (S g), .un] = some (a.map (fun c => .bool (decide (c ∈ g))), [.dat (S a), .dat (S g), .un]) :=
    oLc_map (f := fun c => S [c]) (G := fun c => [.dat (S a), .dat (S g), .dat (S [c])]) rfl (fun c _ => ⟨rfl, rfl, rfl⟩) h
  unfold r_is_text_of b_is_text_of
  simp -implicitDefEqProofs only [eVar, eC, eOp2, eOp1, toT, tOfB, eAnd, eOr, eNot, uAnd, uOr, uNot, eIf, aNil, aCons, eCall, eCallK, eTup, oLst, eOfO, eIsN, eNotN, gIsN_S, gNotN_S, gIsN_none, gNotN_none, gIsN_tup, gNotN_tup, gIsN_int, gNotN_int, gIsN_list, gNotN_list, gIsN_bool, gNotN_bool, gIsN_str, gNotN_str, eChain, eCellIx, eCellLen, eSlice, pNone, pSome, eMt1, oList, oListR1, iSeq, iEnum1, iEnum2, iRange1, iRange2, gNm, gTu, gTps, gCell, sNil, sSeq, sSet, sSetO, sRet, sRetO, sRetOwn, sRetN, sDrop, sIf, sNever, sAppend, sAsg, sPar, sParO, sFor, put0_un, put0_dat, put0_own, put_succ, put0_fr, cellAt, putCell, Sl.cell, Sl.withCell, g1, g2, eCallB, oCall, gk, permL, runF, runO, runB, padE, Option.bind_some, Option.map_some, Option.bind_none, Option.map_none, List.getElem?_cons_zero, List.getElem?_cons_succ, List.set_cons_zero, List.set_cons_succ, List.length_cons, List.length_nil, List.map_cons, List.map_nil, List.replicate, List.cons_append, List.nil_append, List.filterMap_cons, List.filterMap_nil, isStr_S, isStrD_str, if_true, if_false, reduceIte, Bool.not_true, Bool.not_false, Nat.reduceAdd, Nat.reduceSub, Nat.zero_add, decide_eq_true_eq, Bool.false_eq_true, reduceCtorEq, Bool.true_eq_false, and_self, true_and, and_true, Int.reduceNeg, hc, isi_S_str, dAll_map]
def okS (a : List Nat) : Bool := a.all fun c => decide (c ∈ SG)
theorem is_text_SG {a : List Nat} (h : a.length ≤ 16777216) : r_is_text_of [S a, S SG] = some (.bool (okS a)) := is_text_of_S h
theorem is_lined_S {a : List Nat} (h : a.length ≤ 16777216) : r_is_lined [S a] = some (.bool (okS a && decide (a.length ≤ 200))) := by
  unfold r_is_lined b_is_lined
  cases hk : okS a
  · simp -implicitDefEqProofs only [eVar, eC, eOp2, eOp1, toT, tOfB, eAnd, eOr, eNot, uAnd, uOr, uNot, eIf, aNil, aCons, eCall, eCallK, eTup, oLst, eOfO, eIsN, eNotN, gIsN_S, gNotN_S, gIsN_none, gNotN_none, gIsN_tup, gNotN_tup, gIsN_int, gNotN_int, gIsN_list, gNotN_list, gIsN_bool, gNotN_bool, gIsN_str, gNotN_str, eChain, eCellIx, eCellLen, eSlice, pNone, pSome, eMt1, oList, oListR1, iSeq, iEnum1, iEnum2, iRange1, iRange2, gNm, gTu, gTps, gCell, sNil, sSeq, sSet, sSetO, sRet, sRetO, sRetOwn, sRetN, sDrop, sIf, sNever, sAppend, sAsg, sPar, sParO, sFor, put0_un, put0_dat, put0_own, put_succ, put0_fr, cellAt, putCell, Sl.cell, Sl.withCell, g1, g2, eCallB, oCall, gk, permL, runF, runO, runB, padE, Option.bind_some, Option.map_some, Option.bind_none, Option.map_none, List.getElem?_cons_zero, List.getElem?_cons_succ, List.set_cons_zero, List.set_cons_succ, List.length_cons, List.length_nil, List.map_cons, List.map_nil, List.replicate, List.cons_append, List.nil_append, List.filterMap_cons, List.filterMap_nil, isStr_S, isStrD_str, if_true, if_false, reduceIte, Bool.not_true, Bool.not_false, Nat.reduceAdd, Nat.reduceSub, Nat.zero_add, decide_eq_true_eq, Bool.false_eq_true, reduceCtorEq, Bool.true_eq_false, and_self, true_and, and_true, Int.reduceNeg, SG_c, is_text_SG h, hk, Bool.false_and]
  · simp -implicitDefEqProofs only [eVar, eC, eOp2, eOp1, toT, tOfB, eAnd, eOr, eNot, uAnd, uOr, uNot, eIf, aNil, aCons, eCall, eCallK, eTup, oLst, eOfO, eIsN, eNotN, gIsN_S, gNotN_S, gIsN_none, gNotN_none, gIsN_tup, gNotN_tup, gIsN_int, gNotN_int, gIsN_list, gNotN_list, gIsN_bool, gNotN_bool, gIsN_str, gNotN_str, eChain, eCellIx, eCellLen, eSlice, pNone, pSome, eMt1, oList, oListR1, iSeq, iEnum1, iEnum2, iRange1, iRange2, gNm, gTu, gTps, gCell, sNil, sSeq, sSet, sSetO, sRet, sRetO, sRetOwn, sRetN, sDrop, sIf, sNever, sAppend, sAsg, sPar, sParO, sFor, put0_un, put0_dat, put0_own, put_succ, put0_fr, cellAt, putCell, Sl.cell, Sl.withCell, g1, g2, eCallB, oCall, gk, permL, runF, runO, runB, padE, Option.bind_some, Option.map_some, Option.bind_none, Option.map_none, List.getElem?_cons_zero, List.getElem?_cons_succ, List.set_cons_zero, List.set_cons_succ, List.length_cons, List.length_nil, List.map_cons, List.map_nil, List.replicate, List.cons_append, List.nil_append, List.filterMap_cons, List.filterMap_nil, isStr_S, isStrD_str, if_true, if_false, reduceIte, Bool.not_true, Bool.not_false, Nat.reduceAdd, Nat.reduceSub, Nat.zero_add, decide_eq_true_eq, Bool.false_eq_true, reduceCtorEq, Bool.true_eq_false, and_self, true_and, and_true, Int.reduceNeg, SG_c, is_text_SG h, hk, len_S h, c_LONGEST_LINE, Bool.true_and, dLe]
    congr 2
    exact decide_eq_decide.mpr (by omega)
end Q43

set_option Elab.async false
set_option linter.all false
set_option maxRecDepth 100000
set_option maxHeartbeats 4000000
namespace Q43
open PySem PySem.Spec L2 DL
theorem mem_SG {a : List Nat} (h : okS a = true) {c : Nat} (hc : c ∈ a) : c ∈ SG := by
  have := List.all_eq_true.mp h c hc
  simpa using this
def cs : List Nat → Nat → Nat
  | [], _ => 0
  | c :: r, k => k * (SG.idxOf c + 1) + cs r (k + 1)
def chk (a : List Nat) : Nat := cs a 1 % 997
theorem chk_lt (a : List Nat) : chk a < 1000 := by have : chk a < 997 := Nat.mod_lt _ (by decide); omega
theorem cs_zip : ∀ (a : List Nat) (k : Nat), ((a.zipIdx k).map fun p => (((p.2 * (SG.idxOf p.1 + 1) : Nat)) : Int)).sum = (cs a k : Int)
  | [], _ => rfl
  | c :: r, k => by
    rw [List.zipIdx_cons, List.map_cons, List.sum_cons, cs_zip r (k + 1)]
    show ((k * (SG.idxOf c + 1) : Nat) : Int) + (cs r (k + 1) : Int) = (((k * (SG.idxOf c + 1) + cs r (k + 1)) : Nat) : Int)
    omega
theorem fmod997 (n : Nat) : ((n : Int)).fmod 997 = ((n % 997 : Nat) : Int) := by
  rw [Int.fmod_eq_emod_of_nonneg _ (by decide)]; rfl
theorem mul_nat (n m : Nat) (h : m < 1000000) : dMulA (.int (n : Int)) (.int (m : Int)) = some (.int ((n * m : Nat) : Int)) := by
  show dMul (.int (n : Int)) (.int (m : Int)) = _
  simp only [dMul]
  rw [if_pos (Or.inr ⟨by omega, by omega⟩)]
  rfl
theorem add_nat (n m : Nat) : dAdd (.int (n : Int)) (.int (m : Int)) = some (.int ((n + m : Nat) : Int)) := rfl
theorem add1_nat (n : Nat) : dAdd (.int (n : Int)) (.int 1) = some (.int ((n + 1 : Nat) : Int)) := rfl
theorem te_val {c : Nat} {d : Dt} {g : List Nat} (n k : Nat) (hk : k < 45) (h : dIndexS (S g) (S [c]) = some (.int (k : Nat))) :
    (eOp2 dMulA (eVar 1) (eOp2 dAdd (eMt1 dIndexS (eC (S g)) (eVar 2)) (eC (.int 1)))) [.dat d, .dat (.int (n : Int)), .dat (S [c])] = some (.int ((n * (k + 1) : Nat) : Int), [.dat d, .dat (.int (n : Int)), .dat (S [c])]) := by
  simp -implicitDefEqProofs only [eVar, eC, eOp2, eOp1, toT, tOfB, eAnd, eOr, eNot, uAnd, uOr, uNot, eIf, aNil, aCons, eCall, eCallK, eTup, oLst, eOfO, eIsN, eNotN, gIsN_S, gNotN_S, gIsN_none, gNotN_none, gIsN_tup, gNotN_tup, gIsN_int, gNotN_int, gIsN_list, gNotN_list, gIsN_bool, gNotN_bool, gIsN_str, gNotN_str, eChain, eCellIx, eCellLen, eSlice, pNone, pSome, eMt1, oList, oListR1, iSeq, iEnum1, iEnum2, iRange1, iRange2, gNm, gTu, gTps, gCell, sNil, sSeq, sSet, sSetO, sRet, sRetO, sRetOwn, sRetN, sDrop, sIf, sNever, sAppend, sAsg, sPar, sParO, sFor, put0_un, put0_dat, put0_own, put_succ, put0_fr, cellAt, putCell, Sl.cell, Sl.withCell, g1, g2, eCallB, oCall, gk, permL, runF, runO, runB, padE, Option.bind_some, Option.map_some, Option.bind_none, Option.map_none, List.getElem?_cons_zero, List.getElem?_cons_succ, List.set_cons_zero, List.set_cons_succ, List.length_cons, List.length_nil, List.map_cons, List.map_nil, List.replicate, List.cons_append, List.nil_append, List.filterMap_cons, List.filterMap_nil, isStr_S, isStrD_str, if_true, if_false, reduceIte, Bool.not_true, Bool.not_false, Nat.reduceAdd, Nat.reduceSub, Nat.zero_add, decide_eq_true_eq, Bool.false_eq_true, reduceCtorEq, Bool.true_eq_false, and_self, true_and, and_true, Int.reduceNeg, h, add1_nat, mul_nat n (k + 1) (show k + 1 < 1000000 by omega)]
theorem hc_check {a : List Nat} (h : a.length ≤ 16777216) (hs : okS a = true) : oLc (iEnum2 (eVar 0) (eC (.int 1))) (gTu [(gNm 1), (gNm 2)]) uTrue (eOp2 dMulA (eVar 1) (eOp2 dAdd (eMt1 dIndexS (eC (S SG)) (eVar 2)) (eC (.int 1)))) [1, 2] [.dat (S a), .un, .un] = some ((a.zipIdx 1).map (fun p => .int (((p.2 * (SG.idxOf p.1 + 1) : Nat)) : Int)), [.dat (S a), .un, .un]) := by
  apply oLc_map (l := a.zipIdx 1) (f := fun p => .tuple [.int p.2, S [p.1]]) (G := fun p => [.dat (S a), .dat (.int p.2), .dat (S [p.1])])
  · rw [iEnum2_one (d := S a) (ds := a.map fun c => S [c]) rfl rfl, List.zipIdx_map, List.map_map]; rfl
  · intro p hp
    refine ⟨rfl, rfl, ?_⟩
    have m : p.1 ∈ SG := mem_SG hs (List.fst_mem_of_mem_zipIdx hp)
    exact te_val p.2 _ (ix_lt _ m) (ix_SG m)
  · rw [List.length_zipIdx]; exact h
theorem fin_check (n : Nat) : dMod (.int (n : Int)) (.int 997) = some (.int ((n % 997 : Nat) : Int)) := by
  simp only [dMod]
  rw [if_pos (by decide), fmod997]
theorem check_of_S {a : List Nat} (h : a.length ≤ 16777216) (hs : okS a = true) : r_check_of [S a] = some (.int (chk a : Nat)) := by
  unfold r_check_of b_check_of c_MODULUS
  rw [SG_c]
  simp -implicitDefEqProofs only [eVar, eC, eOp2, eOp1, toT, tOfB, eAnd, eOr, eNot, uAnd, uOr, uNot, eIf, aNil, aCons, eCall, eCallK, eTup, oLst, eOfO, eIsN, eNotN, gIsN_S, gNotN_S, gIsN_none, gNotN_none, gIsN_tup, gNotN_tup, gIsN_int, gNotN_int, gIsN_list, gNotN_list, gIsN_bool, gNotN_bool, gIsN_str, gNotN_str, eChain, eCellIx, eCellLen, eSlice, pNone, pSome, eMt1, oList, oListR1, iSeq, iEnum1, iEnum2, iRange1, iRange2, gNm, gTu, gTps, gCell, sNil, sSeq, sSet, sSetO, sRet, sRetO, sRetOwn, sRetN, sDrop, sIf, sNever, sAppend, sAsg, sPar, sParO, sFor, put0_un, put0_dat, put0_own, put_succ, put0_fr, cellAt, putCell, Sl.cell, Sl.withCell, g1, g2, eCallB, oCall, gk, permL, runF, runO, runB, padE, Option.bind_some, Option.map_some, Option.bind_none, Option.map_none, List.getElem?_cons_zero, List.getElem?_cons_succ, List.set_cons_zero, List.set_cons_succ, List.length_cons, List.length_nil, List.map_cons, List.map_nil, List.replicate, List.cons_append, List.nil_append, List.filterMap_cons, List.filterMap_nil, isStr_S, isStrD_str, if_true, if_false, reduceIte, Bool.not_true, Bool.not_false, Nat.reduceAdd, Nat.reduceSub, Nat.zero_add, decide_eq_true_eq, Bool.false_eq_true, reduceCtorEq, Bool.true_eq_false, and_self, true_and, and_true, Int.reduceNeg, hc_check h hs, dSum_map, cs_zip, fin_check]
  rfl
theorem check_line_S {a : List Nat} (hs : okS a = true) (hl : a.length ≤ 200) : r_check_line [S a] = some .none := by
  unfold r_check_line b_check_line
  simp -implicitDefEqProofs only [eVar, eC, eOp2, eOp1, toT, tOfB, eAnd, eOr, eNot, uAnd, uOr, uNot, eIf, aNil, aCons, eCall, eCallK, eTup, oLst, eOfO, eIsN, eNotN, gIsN_S, gNotN_S, gIsN_none, gNotN_none, gIsN_tup, gNotN_tup, gIsN_int, gNotN_int, gIsN_list, gNotN_list, gIsN_bool, gNotN_bool, gIsN_str, gNotN_str, eChain, eCellIx, eCellLen, eSlice, pNone, pSome, eMt1, oList, oListR1, iSeq, iEnum1, iEnum2, iRange1, iRange2, gNm, gTu, gTps, gCell, sNil, sSeq, sSet, sSetO, sRet, sRetO, sRetOwn, sRetN, sDrop, sIf, sNever, sAppend, sAsg, sPar, sParO, sFor, put0_un, put0_dat, put0_own, put_succ, put0_fr, cellAt, putCell, Sl.cell, Sl.withCell, g1, g2, eCallB, oCall, gk, permL, runF, runO, runB, padE, Option.bind_some, Option.map_some, Option.bind_none, Option.map_none, List.getElem?_cons_zero, List.getElem?_cons_succ, List.set_cons_zero, List.set_cons_succ, List.length_cons, List.length_nil, List.map_cons, List.map_nil, List.replicate, List.cons_append, List.nil_append, List.filterMap_cons, List.filterMap_nil, isStr_S, isStrD_str, if_true, if_false, reduceIte, Bool.not_true, Bool.not_false, Nat.reduceAdd, Nat.reduceSub, Nat.zero_add, decide_eq_true_eq, Bool.false_eq_true, reduceCtorEq, Bool.true_eq_false, and_self, true_and, and_true, Int.reduceNeg, is_lined_S (show a.length ≤ 16777216 by omega), hs, hl, decide_true, Bool.and_self]
theorem check_number_S {a : List Nat} (hs : okS a = true) (hl : a.length ≤ 200) : r_check_number [S a] = some (.int (chk a : Nat)) := by
  unfold r_check_number b_check_number
  simp -implicitDefEqProofs only [eVar, eC, eOp2, eOp1, toT, tOfB, eAnd, eOr, eNot, uAnd, uOr, uNot, eIf, aNil, aCons, eCall, eCallK, eTup, oLst, eOfO, eIsN, eNotN, gIsN_S, gNotN_S, gIsN_none, gNotN_none, gIsN_tup, gNotN_tup, gIsN_int, gNotN_int, gIsN_list, gNotN_list, gIsN_bool, gNotN_bool, gIsN_str, gNotN_str, eChain, eCellIx, eCellLen, eSlice, pNone, pSome, eMt1, oList, oListR1, iSeq, iEnum1, iEnum2, iRange1, iRange2, gNm, gTu, gTps, gCell, sNil, sSeq, sSet, sSetO, sRet, sRetO, sRetOwn, sRetN, sDrop, sIf, sNever, sAppend, sAsg, sPar, sParO, sFor, put0_un, put0_dat, put0_own, put_succ, put0_fr, cellAt, putCell, Sl.cell, Sl.withCell, g1, g2, eCallB, oCall, gk, permL, runF, runO, runB, padE, Option.bind_some, Option.map_some, Option.bind_none, Option.map_none, List.getElem?_cons_zero, List.getElem?_cons_succ, List.set_cons_zero, List.set_cons_succ, List.length_cons, List.length_nil, List.map_cons, List.map_nil, List.replicate, List.cons_append, List.nil_append, List.filterMap_cons, List.filterMap_nil, isStr_S, isStrD_str, if_true, if_false, reduceIte, Bool.not_true, Bool.not_false, Nat.reduceAdd, Nat.reduceSub, Nat.zero_add, decide_eq_true_eq, Bool.false_eq_true, reduceCtorEq, Bool.true_eq_false, and_self, true_and, and_true, Int.reduceNeg, check_line_S hs hl, check_of_S (show a.length ≤ 16777216 by omega) hs]
theorem str_nat {n : Nat} (h : n < 1000) : dStr (.int (n : Int)) = some (.str (Str.ofString (toString (n : Int)))) := by
  simp only [dStr]
  rw [if_pos (pv_log n h)]
theorem zfill_nat {n : Nat} (h : n < 1000) : dZfill (.str (Str.ofString (toString (n : Int)))) (.int 3) = some (S (pv n)) := by
  show (if PadOk 3 = true then some (PyData.str (PySem.Txt.zfill (Str.ofString (toString (n : Int))) 3)) else none) = _
  rw [if_pos (by decide), pv_zfill n h]; rfl
theorem figures_S {n : Nat} (h : n < 1000) : r_figures [.int (n : Int), .int 3] = some (S (pv n)) := by
  unfold r_figures b_figures
  simp -implicitDefEqProofs only [eVar, eC, eOp2, eOp1, toT, tOfB, eAnd, eOr, eNot, uAnd, uOr, uNot, eIf, aNil, aCons, eCall, eCallK, eTup, oLst, eOfO, eIsN, eNotN, gIsN_S, gNotN_S, gIsN_none, gNotN_none, gIsN_tup, gNotN_tup, gIsN_int, gNotN_int, gIsN_list, gNotN_list, gIsN_bool, gNotN_bool, gIsN_str, gNotN_str, eChain, eCellIx, eCellLen, eSlice, pNone, pSome, eMt1, oList, oListR1, iSeq, iEnum1, iEnum2, iRange1, iRange2, gNm, gTu, gTps, gCell, sNil, sSeq, sSet, sSetO, sRet, sRetO, sRetOwn, sRetN, sDrop, sIf, sNever, sAppend, sAsg, sPar, sParO, sFor, put0_un, put0_dat, put0_own, put_succ, put0_fr, cellAt, putCell, Sl.cell, Sl.withCell, g1, g2, eCallB, oCall, gk, permL, runF, runO, runB, padE, Option.bind_some, Option.map_some, Option.bind_none, Option.map_none, List.getElem?_cons_zero, List.getElem?_cons_succ, List.set_cons_zero, List.set_cons_succ, List.length_cons, List.length_nil, List.map_cons, List.map_nil, List.replicate, List.cons_append, List.nil_append, List.filterMap_cons, List.filterMap_nil, isStr_S, isStrD_str, if_true, if_false, reduceIte, Bool.not_true, Bool.not_false, Nat.reduceAdd, Nat.reduceSub, Nat.zero_add, decide_eq_true_eq, Bool.false_eq_true, reduceCtorEq, Bool.true_eq_false, and_self, true_and, and_true, Int.reduceNeg, str_nat h, zfill_nat h]
theorem pv_len (n : Nat) : (pv n).length = 3 := rfl
def frm (a : List Nat) : List Nat := pv a.length ++ pv (chk a) ++ a
theorem frm_len (a : List Nat) : (frm a).length = 6 + a.length := by simp [frm, pv_len]; omega
theorem frame_of_S {a : List Nat} (hs : okS a = true) (hl : a.length ≤ 200) : r_frame_of [S a] = some (S (frm a)) := by
  unfold r_frame_of b_frame_of
  have h2 : a.length ≤ 16777216 := by omega
  simp -implicitDefEqProofs only [eVar, eC, eOp2, eOp1, toT, tOfB, eAnd, eOr, eNot, uAnd, uOr, uNot, eIf, aNil, aCons, eCall, eCallK, eTup, oLst, eOfO, eIsN, eNotN, gIsN_S, gNotN_S, gIsN_none, gNotN_none, gIsN_tup, gNotN_tup, gIsN_int, gNotN_int, gIsN_list, gNotN_list, gIsN_bool, gNotN_bool, gIsN_str, gNotN_str, eChain, eCellIx, eCellLen, eSlice, pNone, pSome, eMt1, oList, oListR1, iSeq, iEnum1, iEnum2, iRange1, iRange2, gNm, gTu, gTps, gCell, sNil, sSeq, sSet, sSetO, sRet, sRetO, sRetOwn, sRetN, sDrop, sIf, sNever, sAppend, sAsg, sPar, sParO, sFor, put0_un, put0_dat, put0_own, put_succ, put0_fr, cellAt, putCell, Sl.cell, Sl.withCell, g1, g2, eCallB, oCall, gk, permL, runF, runO, runB, padE, Option.bind_some, Option.map_some, Option.bind_none, Option.map_none, List.getElem?_cons_zero, List.getElem?_cons_succ, List.set_cons_zero, List.set_cons_succ, List.length_cons, List.length_nil, List.map_cons, List.map_nil, List.replicate, List.cons_append, List.nil_append, List.filterMap_cons, List.filterMap_nil, isStr_S, isStrD_str, if_true, if_false, reduceIte, Bool.not_true, Bool.not_false, Nat.reduceAdd, Nat.reduceSub, Nat.zero_add, decide_eq_true_eq, Bool.false_eq_true, reduceCtorEq, Bool.true_eq_false, and_self, true_and, and_true, Int.reduceNeg, len_S h2, c_DIGITS_OF_PART, figures_S (show a.length < 1000 by omega), check_of_S h2 hs, figures_S (chk_lt a), add_S (show (pv a.length).length + (pv (chk a)).length ≤ 16777216 by simp [pv_len]), add_S (show (pv a.length ++ pv (chk a)).length + a.length ≤ 16777216 by simp [pv_len]; omega)]
  rfl
/-- texts that may be framed -/
def GT (a : List Nat) : Prop := okS a = true ∧ a.length ≤ 200 ∧ a ≠ []
theorem check_filled_S {a : List Nat} (h : GT a) : r_check_filled_line [S a] = some .none := by
  unfold r_check_filled_line b_check_filled_line
  have e : dEq (S a) (.str "") = some (.bool false) := by
    rw [e_lit, eq_S, decide_eq_false h.2.2]
  simp -implicitDefEqProofs only [eVar, eC, eOp2, eOp1, toT, tOfB, eAnd, eOr, eNot, uAnd, uOr, uNot, eIf, aNil, aCons, eCall, eCallK, eTup, oLst, eOfO, eIsN, eNotN, gIsN_S, gNotN_S, gIsN_none, gNotN_none, gIsN_tup, gNotN_tup, gIsN_int, gNotN_int, gIsN_list, gNotN_list, gIsN_bool, gNotN_bool, gIsN_str, gNotN_str, eChain, eCellIx, eCellLen, eSlice, pNone, pSome, eMt1, oList, oListR1, iSeq, iEnum1, iEnum2, iRange1, iRange2, gNm, gTu, gTps, gCell, sNil, sSeq, sSet, sSetO, sRet, sRetO, sRetOwn, sRetN, sDrop, sIf, sNever, sAppend, sAsg, sPar, sParO, sFor, put0_un, put0_dat, put0_own, put_succ, put0_fr, cellAt, putCell, Sl.cell, Sl.withCell, g1, g2, eCallB, oCall, gk, permL, runF, runO, runB, padE, Option.bind_some, Option.map_some, Option.bind_none, Option.map_none, List.getElem?_cons_zero, List.getElem?_cons_succ, List.set_cons_zero, List.set_cons_succ, List.length_cons, List.length_nil, List.map_cons, List.map_nil, List.replicate, List.cons_append, List.nil_append, List.filterMap_cons, List.filterMap_nil, isStr_S, isStrD_str, if_true, if_false, reduceIte, Bool.not_true, Bool.not_false, Nat.reduceAdd, Nat.reduceSub, Nat.zero_add, decide_eq_true_eq, Bool.false_eq_true, reduceCtorEq, Bool.true_eq_false, and_self, true_and, and_true, Int.reduceNeg, check_line_S h.1 h.2.1, e]
theorem frame_S {a : List Nat} (h : GT a) : r_frame [S a] = some (S (frm a)) := by
  unfold r_frame b_frame
  simp -implicitDefEqProofs only [eVar, eC, eOp2, eOp1, toT, tOfB, eAnd, eOr, eNot, uAnd, uOr, uNot, eIf, aNil, aCons, eCall, eCallK, eTup, oLst, eOfO, eIsN, eNotN, gIsN_S, gNotN_S, gIsN_none, gNotN_none, gIsN_tup, gNotN_tup, gIsN_int, gNotN_int, gIsN_list, gNotN_list, gIsN_bool, gNotN_bool, gIsN_str, gNotN_str, eChain, eCellIx, eCellLen, eSlice, pNone, pSome, eMt1, oList, oListR1, iSeq, iEnum1, iEnum2, iRange1, iRange2, gNm, gTu, gTps, gCell, sNil, sSeq, sSet, sSetO, sRet, sRetO, sRetOwn, sRetN, sDrop, sIf, sNever, sAppend, sAsg, sPar, sParO, sFor, put0_un, put0_dat, put0_own, put_succ, put0_fr, cellAt, putCell, Sl.cell, Sl.withCell, g1, g2, eCallB, oCall, gk, permL, runF, runO, runB, padE, Option.bind_some, Option.map_some, Option.bind_none, Option.map_none, List.getElem?_cons_zero, List.getElem?_cons_succ, List.set_cons_zero, List.set_cons_succ, List.length_cons, List.length_nil, List.map_cons, List.map_nil, List.replicate, List.cons_append, List.nil_append, List.filterMap_cons, List.filterMap_nil, isStr_S, isStrD_str, if_true, if_false, reduceIte, Bool.not_true, Bool.not_false, Nat.reduceAdd, Nat.reduceSub, Nat.zero_add, decide_eq_true_eq, Bool.false_eq_true, reduceCtorEq, Bool.true_eq_false, and_self, true_and, and_true, Int.reduceNeg, check_filled_S h, frame_of_S h.1 h.2.1]
theorem first_wrong_S {ts : List (List Nat)} (h : ∀ t ∈ ts, GT t) (hl : ts.length ≤ 16777216) : r_first_wrong_text [.tuple (ts.map S)] = some .none := by
  have hc : oLc (iEnum1 (eVar 0)) (gTu [(gNm 1), (gNm 2)]) (uOr (uNot (toT (eCall r_is_lined (aCons (eVar 2) aNil)))) (toT (eOp2 dEq (eVar 2) (eC (.str ""))))) (eVar 1) [1, 2] [.dat (.tuple (ts.map S)), .un, .un] =
      some (((ts.zipIdx 0).filter (fun _ => false)).map (fun p => .int p.2), [.dat (.tuple (ts.map S)), .un, .un]) := by
    apply oLc_fm (l := ts.zipIdx 0) (f := fun p => .tuple [.int p.2, S p.1]) (G := fun p => [.dat (.tuple (ts.map S)), .dat (.int p.2), .dat (S p.1)])
    · show some (numbered ((0 : Nat) : Int) (ts.map S), _) = _
      rw [numbered_nat, List.zipIdx_map, List.map_map]; rfl
    · intro p hp
      have g := h p.1 (List.fst_mem_of_mem_zipIdx hp)
      have e : dEq (S p.1) (.str "") = some (.bool false) := by
        rw [e_lit, eq_S, decide_eq_false g.2.2]
      have g2 := g.2.1
      refine ⟨rfl, rfl, ?_, fun z => by cases z⟩
      simp -implicitDefEqProofs only [eVar, eC, eOp2, eOp1, toT, tOfB, eAnd, eOr, eNot, uAnd, uOr, uNot, eIf, aNil, aCons, eCall, eCallK, eTup, oLst, eOfO, eIsN, eNotN, gIsN_S, gNotN_S, gIsN_none, gNotN_none, gIsN_tup, gNotN_tup, gIsN_int, gNotN_int, gIsN_list, gNotN_list, gIsN_bool, gNotN_bool, gIsN_str, gNotN_str, eChain, eCellIx, eCellLen, eSlice, pNone, pSome, eMt1, oList, oListR1, iSeq, iEnum1, iEnum2, iRange1, iRange2, gNm, gTu, gTps, gCell, sNil, sSeq, sSet, sSetO, sRet, sRetO, sRetOwn, sRetN, sDrop, sIf, sNever, sAppend, sAsg, sPar, sParO, sFor, put0_un, put0_dat, put0_own, put_succ, put0_fr, cellAt, putCell, Sl.cell, Sl.withCell, g1, g2, eCallB, oCall, gk, permL, runF, runO, runB, padE, Option.bind_some, Option.map_some, Option.bind_none, Option.map_none, List.getElem?_cons_zero, List.getElem?_cons_succ, List.set_cons_zero, List.set_cons_succ, List.length_cons, List.length_nil, List.map_cons, List.map_nil, List.replicate, List.cons_append, List.nil_append, List.filterMap_cons, List.filterMap_nil, isStr_S, isStrD_str, if_true, if_false, reduceIte, Bool.not_true, Bool.not_false, Nat.reduceAdd, Nat.reduceSub, Nat.zero_add, decide_eq_true_eq, Bool.false_eq_true, reduceCtorEq, Bool.true_eq_false, and_self, true_and, and_true, Int.reduceNeg, is_lined_S (show p.1.length ≤ 16777216 by omega), g.1, g2, decide_true, Bool.and_self, e]
    · rw [List.length_zipIdx]; exact hl
  unfold r_first_wrong_text b_first_wrong_text
  simp -implicitDefEqProofs only [eVar, eC, eOp2, eOp1, toT, tOfB, eAnd, eOr, eNot, uAnd, uOr, uNot, eIf, aNil, aCons, eCall, eCallK, eTup, oLst, eOfO, eIsN, eNotN, gIsN_S, gNotN_S, gIsN_none, gNotN_none, gIsN_tup, gNotN_tup, gIsN_int, gNotN_int, gIsN_list, gNotN_list, gIsN_bool, gNotN_bool, gIsN_str, gNotN_str, eChain, eCellIx, eCellLen, eSlice, pNone, pSome, eMt1, oList, oListR1, iSeq, iEnum1, iEnum2, iRange1, iRange2, gNm, gTu, gTps, gCell, sNil, sSeq, sSet, sSetO, sRet, sRetO, sRetOwn, sRetN, sDrop, sIf, sNever, sAppend, sAsg, sPar, sParO, sFor, put0_un, put0_dat, put0_own, put_succ, put0_fr, cellAt, putCell, Sl.cell, Sl.withCell, g1, g2, eCallB, oCall, gk, permL, runF, runO, runB, padE, Option.bind_some, Option.map_some, Option.bind_none, Option.map_none, List.getElem?_cons_zero, List.getElem?_cons_succ, List.set_cons_zero, List.set_cons_succ, List.length_cons, List.length_nil, List.map_cons, List.map_nil, List.replicate, List.cons_append, List.nil_append, List.filterMap_cons, List.filterMap_nil, isStr_S, isStrD_str, if_true, if_false, reduceIte, Bool.not_true, Bool.not_false, Nat.reduceAdd, Nat.reduceSub, Nat.zero_add, decide_eq_true_eq, Bool.false_eq_true, reduceCtorEq, Bool.true_eq_false, and_self, true_and, and_true, Int.reduceNeg, hc, filter_none]
  rfl
theorem check_texts_S {ts : List (List Nat)} (h : ∀ t ∈ ts, GT t) (hl : ts.length ≤ 60) : r_check_texts [.tuple (ts.map S)] = some .none := by
  unfold r_check_texts b_check_texts
  have e : dIsi "tuple" (.tuple (ts.map S)) = some (.bool true) := rfl
  have e2 : dLen1 (.tuple (ts.map S)) = some (.int (ts.length : Int)) := by show some (PyData.int ((ts.map S).length : Int)) = _; rw [List.length_map]
  have e3 : dGt (.int (ts.length : Int)) c_MOST_TEXTS = some (.bool false) := by
    show some (PyData.bool (decide ((60 : Int) < (ts.length : Int)))) = _
    rw [decide_eq_false (by omega)]
  simp -implicitDefEqProofs only [eVar, eC, eOp2, eOp1, toT, tOfB, eAnd, eOr, eNot, uAnd, uOr, uNot, eIf, aNil, aCons, eCall, eCallK, eTup, oLst, eOfO, eIsN, eNotN, gIsN_S, gNotN_S, gIsN_none, gNotN_none, gIsN_tup, gNotN_tup, gIsN_int, gNotN_int, gIsN_list, gNotN_list, gIsN_bool, gNotN_bool, gIsN_str, gNotN_str, eChain, eCellIx, eCellLen, eSlice, pNone, pSome, eMt1, oList, oListR1, iSeq, iEnum1, iEnum2, iRange1, iRange2, gNm, gTu, gTps, gCell, sNil, sSeq, sSet, sSetO, sRet, sRetO, sRetOwn, sRetN, sDrop, sIf, sNever, sAppend, sAsg, sPar, sParO, sFor, put0_un, put0_dat, put0_own, put_succ, put0_fr, cellAt, putCell, Sl.cell, Sl.withCell, g1, g2, eCallB, oCall, gk, permL, runF, runO, runB, padE, Option.bind_some, Option.map_some, Option.bind_none, Option.map_none, List.getElem?_cons_zero, List.getElem?_cons_succ, List.set_cons_zero, List.set_cons_succ, List.length_cons, List.length_nil, List.map_cons, List.map_nil, List.replicate, List.cons_append, List.nil_append, List.filterMap_cons, List.filterMap_nil, isStr_S, isStrD_str, if_true, if_false, reduceIte, Bool.not_true, Bool.not_false, Nat.reduceAdd, Nat.reduceSub, Nat.zero_add, decide_eq_true_eq, Bool.false_eq_true, reduceCtorEq, Bool.true_eq_false, and_self, true_and, and_true, Int.reduceNeg, e, e2, e3, first_wrong_S h (show ts.length ≤ 16777216 by omega)]
theorem stream_len : ∀ {ts : List (List Nat)}, (∀ t ∈ ts, t.length ≤ 200) → ((ts.map frm).flatten).length ≤ ts.length * 206
  | [], _ => by simp
  | t :: ts, h => by
    have := stream_len (ts := ts) fun t m => h t (List.mem_cons_of_mem _ m)
    have h1 := h t List.mem_cons_self
    rw [List.map_cons, List.flatten_cons, List.length_append, frm_len, List.length_cons]
    omega
theorem stream_by_S {ts : List (List Nat)} (h : ∀ t ∈ ts, GT t) (hl : ts.length ≤ 60) : r_stream_by [.tuple (ts.map S)] = some (S (ts.map frm).flatten) := by
  have hc : oLc (iSeq (eVar 0)) (gNm 1) uTrue (eCall r_frame_of (aCons (eVar 1) aNil)) [1] [.dat (.tuple (ts.map S)), .un] = some (ts.map (fun t => S (frm t)), [.dat (.tuple (ts.map S)), .un]) := by
    apply oLc_map (l := ts) (f := S) (G := fun t => [.dat (.tuple (ts.map S)), .dat (S t)])
    · rfl
    · intro t ht
      refine ⟨rfl, rfl, ?_⟩
      simp -implicitDefEqProofs only [eVar, eC, eOp2, eOp1, toT, tOfB, eAnd, eOr, eNot, uAnd, uOr, uNot, eIf, aNil, aCons, eCall, eCallK, eTup, oLst, eOfO, eIsN, eNotN, gIsN_S, gNotN_S, gIsN_none, gNotN_none, gIsN_tup, gNotN_tup, gIsN_int, gNotN_int, gIsN_list, gNotN_list, gIsN_bool, gNotN_bool, gIsN_str, gNotN_str, eChain, eCellIx, eCellLen, eSlice, pNone, pSome, eMt1, oList, oListR1, iSeq, iEnum1, iEnum2, iRange1, iRange2, gNm, gTu, gTps, gCell, sNil, sSeq, sSet, sSetO, sRet, sRetO, sRetOwn, sRetN, sDrop, sIf, sNever, sAppend, sAsg, sPar, sParO, sFor, put0_un, put0_dat, put0_own, put_succ, put0_fr, cellAt, putCell, Sl.cell, Sl.withCell, g1, g2, eCallB, oCall, gk, permL, runF, runO, runB, padE, Option.bind_some, Option.map_some, Option.bind_none, Option.map_none, List.getElem?_cons_zero, List.getElem?_cons_succ, List.set_cons_zero, List.set_cons_succ, List.length_cons, List.length_nil, List.map_cons, List.map_nil, List.replicate, List.cons_append, List.nil_append, List.filterMap_cons, List.filterMap_nil, isStr_S, isStrD_str, if_true, if_false, reduceIte, Bool.not_true, Bool.not_false, Nat.reduceAdd, Nat.reduceSub, Nat.zero_add, decide_eq_true_eq, Bool.false_eq_true, reduceCtorEq, Bool.true_eq_false, and_self, true_and, and_true, Int.reduceNeg, frame_of_S (h t ht).1 (h t ht).2.1]
    · omega
  have hj := dJoin_S (ys := ts.map frm) (by have := stream_len fun t m => (h t m).2.1; omega)
  rw [List.map_map] at hj
  have hj' : dJoin (S []) (.list (ts.map fun t => S (frm t))) = some (S (ts.map frm).flatten) := hj
  have es : isStrD (S []) = true := rfl
  unfold r_stream_by b_stream_by
  simp -implicitDefEqProofs only [eVar, eC, eOp2, eOp1, toT, tOfB, eAnd, eOr, eNot, uAnd, uOr, uNot, eIf, aNil, aCons, eCall, eCallK, eTup, oLst, eOfO, eIsN, eNotN, gIsN_S, gNotN_S, gIsN_none, gNotN_none, gIsN_tup, gNotN_tup, gIsN_int, gNotN_int, gIsN_list, gNotN_list, gIsN_bool, gNotN_bool, gIsN_str, gNotN_str, eChain, eCellIx, eCellLen, eSlice, pNone, pSome, eMt1, oList, oListR1, iSeq, iEnum1, iEnum2, iRange1, iRange2, gNm, gTu, gTps, gCell, sNil, sSeq, sSet, sSetO, sRet, sRetO, sRetOwn, sRetN, sDrop, sIf, sNever, sAppend, sAsg, sPar, sParO, sFor, put0_un, put0_dat, put0_own, put_succ, put0_fr, cellAt, putCell, Sl.cell, Sl.withCell, g1, g2, eCallB, oCall, gk, permL, runF, runO, runB, padE, Option.bind_some, Option.map_some, Option.bind_none, Option.map_none, List.getElem?_cons_zero, List.getElem?_cons_succ, List.set_cons_zero, List.set_cons_succ, List.length_cons, List.length_nil, List.map_cons, List.map_nil, List.replicate, List.cons_append, List.nil_append, List.filterMap_cons, List.filterMap_nil, isStr_S, isStrD_str, if_true, if_false, reduceIte, Bool.not_true, Bool.not_false, Nat.reduceAdd, Nat.reduceSub, Nat.zero_add, decide_eq_true_eq, Bool.false_eq_true, reduceCtorEq, Bool.true_eq_false, and_self, true_and, and_true, Int.reduceNeg, hc, e_lit, es, hj']
theorem stream_of_S {ts : List (List Nat)} (h : ∀ t ∈ ts, GT t) (hl : ts.length ≤ 60) : r_stream_of [.tuple (ts.map S)] = some (S (ts.map frm).flatten) := by
  unfold r_stream_of b_stream_of
  simp -implicitDefEqProofs only [eVar, eC, eOp2, eOp1, toT, tOfB, eAnd, eOr, eNot, uAnd, uOr, uNot, eIf, aNil, aCons, eCall, eCallK, eTup, oLst, eOfO, eIsN, eNotN, gIsN_S, gNotN_S, gIsN_none, gNotN_none, gIsN_tup, gNotN_tup, gIsN_int, gNotN_int, gIsN_list, gNotN_list, gIsN_bool, gNotN_bool, gIsN_str, gNotN_str, eChain, eCellIx, eCellLen, eSlice, pNone, pSome, eMt1, oList, oListR1, iSeq, iEnum1, iEnum2, iRange1, iRange2, gNm, gTu, gTps, gCell, sNil, sSeq, sSet, sSetO, sRet, sRetO, sRetOwn, sRetN, sDrop, sIf, sNever, sAppend, sAsg, sPar, sParO, sFor, put0_un, put0_dat, put0_own, put_succ, put0_fr, cellAt, putCell, Sl.cell, Sl.withCell, g1, g2, eCallB, oCall, gk, permL, runF, runO, runB, padE, Option.bind_some, Option.map_some, Option.bind_none, Option.map_none, List.getElem?_cons_zero, List.getElem?_cons_succ, List.set_cons_zero, List.set_cons_succ, List.length_cons, List.length_nil, List.map_cons, List.map_nil, List.replicate, List.cons_append, List.nil_append, List.filterMap_cons, List.filterMap_nil, isStr_S, isStrD_str, if_true, if_false, reduceIte, Bool.not_true, Bool.not_false, Nat.reduceAdd, Nat.reduceSub, Nat.zero_add, decide_eq_true_eq, Bool.false_eq_true, reduceCtorEq, Bool.true_eq_false, and_self, true_and, and_true, Int.reduceNeg, check_texts_S h hl, stream_by_S h hl]
end Q43

set_option Elab.async false
set_option linter.all false
set_option maxRecDepth 100000
set_option maxHeartbeats 4000000
namespace Q43
open PySem PySem.Spec L2 DL
def okD (a : List Nat) : Bool := a.all fun c => decide (c ∈ DG10)
theorem is_text_DG {a : List Nat} (h : a.length ≤ 16777216) : r_is_text_of [S a, S DG10] = some (.bool (okD a)) := is_text_of_S h
def num3 (h : List Nat) : Nat := (h.getD 0 0 - 48) * 100 + (h.getD 1 0 - 48) * 10 + (h.getD 2 0 - 48)
theorem mem_DG {c : Nat} : c ∈ DG10 ↔ 48 ≤ c ∧ c ≤ 57 := by
  simp only [DG10, List.mem_cons, List.not_mem_nil, or_false]; omega
theorem num3_pv {h : List Nat} (h3 : h.length = 3) (hd : okD h = true) : num3 h < 1000 ∧ h = pv (num3 h) := by
  match h, h3 with
  | [x, y, z], _ =>
    have m : ∀ c ∈ [x, y, z], 48 ≤ c ∧ c ≤ 57 := fun c hc => mem_DG.mp (by simpa using List.all_eq_true.mp hd c hc)
    have mx := m x (by simp)
    have my := m y (by simp)
    have mz := m z (by simp)
    have e : num3 [x, y, z] = (x - 48) * 100 + (y - 48) * 10 + (z - 48) := rfl
    rw [e]
    refine ⟨by omega, ?_⟩
    unfold pv
    simp only [List.cons.injEq, and_true]
    omega
theorem pv_num3 {n : Nat} (h : n < 1000) : num3 (pv n) = n := by
  show (48 + n / 100 - 48) * 100 + (48 + n / 10 % 10 - 48) * 10 + (48 + n % 10 - 48) = n
  omega
theorem pv_okD {n : Nat} (h : n < 1000) : okD (pv n) = true := by
  apply List.all_eq_true.mpr
  intro c hc
  simp only [pv, List.mem_cons, List.not_mem_nil, or_false] at hc
  have : c ∈ DG10 := mem_DG.mpr (by omega)
  simpa using this
theorem pv_inj {n m : Nat} (hn : n < 1000) (hm : m < 1000) (h : pv n = pv m) : n = m := by
  rw [← pv_num3 hn, h, pv_num3 hm]
theorem okD_app {a b : List Nat} : okD (a ++ b) = (okD a && okD b) := by simp [okD, List.all_append]
theorem okS_app {a b : List Nat} : okS (a ++ b) = (okS a && okS b) := by simp [okS, List.all_append]
theorem int_S3 {h : List Nat} (h3 : h.length = 3) (hd : okD h = true) : dInt (S h) = some (.int (num3 h : Nat)) := by
  obtain ⟨h1, h2⟩ := num3_pv h3 hd
  show (if Str.length ⟨h.toArray⟩ ≤ 640 then (PySem.intText? ⟨h.toArray⟩).map PyData.int else none) = _
  rw [S_len, if_pos (by omega), h2, pv_int _ h1, pv_num3 h1]; rfl
def textAt (u : List Nat) : Option (List Nat) :=
  if (u.take 6).length < 6 then none else if okD (u.take 6) = false then none else
  if num3 ((u.take 6).take 3) = 0 then none else
  if ((u.drop 6).take (num3 ((u.take 6).take 3))).length < num3 ((u.take 6).take 3) then none else
  if okS ((u.drop 6).take (num3 ((u.take 6).take 3))) = false then none else
  if chk ((u.drop 6).take (num3 ((u.take 6).take 3))) = num3 ((u.take 6).drop 3) then some ((u.drop 6).take (num3 ((u.take 6).take 3))) else none
def toD : Option (List Nat) → Dt
  | none => .none
  | some t => S t
theorem lt_nat (n m : Nat) : dLt (.int (n : Int)) (.int (m : Int)) = some (.bool (decide (n < m))) := by
  show some (PyData.bool (decide ((n : Int) < (m : Int)))) = _
  congr 2; exact decide_eq_decide.mpr (by omega)
theorem lt_6 (n : Nat) : dLt (.int (n : Int)) (.int 6) = some (.bool (decide (n < 6))) := lt_nat n 6
theorem eq_nat (n m : Nat) : dEq (.int (n : Int)) (.int (m : Int)) = some (.bool (decide (n = m))) := by
  show some (PyData.bool (decide (V.int (n : Int) = V.int (m : Int)))) = _
  congr 2
  apply decide_eq_decide.mpr
  constructor
  · intro h; injection h with h; omega
  · intro h; rw [h]
theorem eq_0 (n : Nat) : dEq (.int (n : Int)) (.int 0) = some (.bool (decide (n = 0))) := eq_nat n 0
theorem slice_to3 {a : List Nat} (h : a.length ≤ 16777216) : dSlice (S a) none (some 3) = some (S (a.take 3)) := slice_to h 3
theorem slice_from3 {a : List Nat} (h : a.length ≤ 16777216) : dSlice (S a) (some 3) none = some (S (a.drop 3)) := slice_from h 3
theorem add6_nat (n : Nat) : dAdd (.int (n : Int)) (.int 6) = some (.int ((n + 6 : Nat) : Int)) := rfl
/-- what a head says -/
structure Head (u : List Nat) : Prop where
  l6 : (u.take 6).length = 6
  d6 : okD (u.take 6) = true
theorem Head.a3 {u : List Nat} (h : Head u) : ((u.take 6).take 3).length = 3 := by rw [List.length_take, h.l6]; rfl
theorem Head.b3 {u : List Nat} (h : Head u) : ((u.take 6).drop 3).length = 3 := by rw [List.length_drop, h.l6]
theorem Head.ad {u : List Nat} (h : Head u) : okD ((u.take 6).take 3) = true := by
  have := h.d6; rw [← List.take_append_drop 3 (u.take 6), okD_app, Bool.and_eq_true] at this; exact this.1
theorem Head.bd {u : List Nat} (h : Head u) : okD ((u.take 6).drop 3) = true := by
  have := h.d6; rw [← List.take_append_drop 3 (u.take 6), okD_app, Bool.and_eq_true] at this; exact this.2
theorem text_at_S {s : List Nat} (hs : s.length ≤ 10000) (p : Nat) : r_text_at [S s, .int (p : Int)] = some (toD (textAt (s.drop p))) := by
  have L : s.length ≤ 16777216 := by omega
  have e1 : dSlice (S s) (some (p : Int)) (some ((p + 6 : Nat) : Int)) = some (S ((s.drop p).take 6)) := by
    rw [slice_nat L, Nat.add_sub_cancel_left]
  have hl : ((s.drop p).take 6).length ≤ 16777216 := by rw [List.length_take]; omega
  have e2 : ∀ n : Nat, dSlice (S s) (some ((p + 6 : Nat) : Int)) (some ((p + 6 + n : Nat) : Int)) = some (S (((s.drop p).drop 6).take n)) := by
    intro n; rw [slice_nat L, Nat.add_sub_cancel_left, List.drop_drop]
  have hl2 : ∀ n : Nat, (((s.drop p).drop 6).take n).length ≤ 16777216 := by
    intro n; rw [List.length_take, List.length_drop, List.length_drop]; omega
  generalize hu : s.drop p = u at *
  unfold r_text_at b_text_at
  by_cases c1 : (u.take 6).length < 6
  · have et : textAt u = none := by unfold textAt; rw [if_pos c1]
    simp -implicitDefEqProofs only [eVar, eC, eOp2, eOp1, toT, tOfB, eAnd, eOr, eNot, uAnd, uOr, uNot, eIf, aNil, aCons, eCall, eCallK, eTup, oLst, eOfO, eIsN, eNotN, gIsN_S, gNotN_S, gIsN_none, gNotN_none, gIsN_tup, gNotN_tup, gIsN_int, gNotN_int, gIsN_list, gNotN_list, gIsN_bool, gNotN_bool, gIsN_str, gNotN_str, eChain, eCellIx, eCellLen, eSlice, pNone, pSome, eMt1, oList, oListR1, iSeq, iEnum1, iEnum2, iRange1, iRange2, gNm, gTu, gTps, gCell, sNil, sSeq, sSet, sSetO, sRet, sRetO, sRetOwn, sRetN, sDrop, sIf, sNever, sAppend, sAsg, sPar, sParO, sFor, put0_un, put0_dat, put0_own, put_succ, put0_fr, cellAt, putCell, Sl.cell, Sl.withCell, g1, g2, eCallB, oCall, gk, permL, runF, runO, runB, padE, Option.bind_some, Option.map_some, Option.bind_none, Option.map_none, List.getElem?_cons_zero, List.getElem?_cons_succ, List.set_cons_zero, List.set_cons_succ, List.length_cons, List.length_nil, List.map_cons, List.map_nil, List.replicate, List.cons_append, List.nil_append, List.filterMap_cons, List.filterMap_nil, isStr_S, isStrD_str, if_true, if_false, reduceIte, Bool.not_true, Bool.not_false, Nat.reduceAdd, Nat.reduceSub, Nat.zero_add, decide_eq_true_eq, Bool.false_eq_true, reduceCtorEq, Bool.true_eq_false, and_self, true_and, and_true, Int.reduceNeg, c_HEAD, add6_nat, e1, len_S hl, lt_6, c1, decide_true, et, toD]
  by_cases c2 : okD (u.take 6) = false
  · have et : textAt u = none := by unfold textAt; rw [if_neg c1, if_pos c2]
    simp -implicitDefEqProofs only [eVar, eC, eOp2, eOp1, toT, tOfB, eAnd, eOr, eNot, uAnd, uOr, uNot, eIf, aNil, aCons, eCall, eCallK, eTup, oLst, eOfO, eIsN, eNotN, gIsN_S, gNotN_S, gIsN_none, gNotN_none, gIsN_tup, gNotN_tup, gIsN_int, gNotN_int, gIsN_list, gNotN_list, gIsN_bool, gNotN_bool, gIsN_str, gNotN_str, eChain, eCellIx, eCellLen, eSlice, pNone, pSome, eMt1, oList, oListR1, iSeq, iEnum1, iEnum2, iRange1, iRange2, gNm, gTu, gTps, gCell, sNil, sSeq, sSet, sSetO, sRet, sRetO, sRetOwn, sRetN, sDrop, sIf, sNever, sAppend, sAsg, sPar, sParO, sFor, put0_un, put0_dat, put0_own, put_succ, put0_fr, cellAt, putCell, Sl.cell, Sl.withCell, g1, g2, eCallB, oCall, gk, permL, runF, runO, runB, padE, Option.bind_some, Option.map_some, Option.bind_none, Option.map_none, List.getElem?_cons_zero, List.getElem?_cons_succ, List.set_cons_zero, List.set_cons_succ, List.length_cons, List.length_nil, List.map_cons, List.map_nil, List.replicate, List.cons_append, List.nil_append, List.filterMap_cons, List.filterMap_nil, isStr_S, isStrD_str, if_true, if_false, reduceIte, Bool.not_true, Bool.not_false, Nat.reduceAdd, Nat.reduceSub, Nat.zero_add, decide_eq_true_eq, Bool.false_eq_true, reduceCtorEq, Bool.true_eq_false, and_self, true_and, and_true, Int.reduceNeg, c_HEAD, add6_nat, e1, len_S hl, lt_6, c1, decide_false, DG_c, is_text_DG hl, c2, et, toD]
  have c2' : okD (u.take 6) = true := by simpa using c2
  have hd : Head u := ⟨by rw [List.length_take] at c1 ⊢; omega, c2'⟩
  have i1 := int_S3 hd.a3 hd.ad
  have i2 := int_S3 hd.b3 hd.bd
  by_cases c3 : num3 ((u.take 6).take 3) = 0
  · have et : textAt u = none := by unfold textAt; rw [if_neg c1, if_neg c2, if_pos c3]
    simp -implicitDefEqProofs only [eVar, eC, eOp2, eOp1, toT, tOfB, eAnd, eOr, eNot, uAnd, uOr, uNot, eIf, aNil, aCons, eCall, eCallK, eTup, oLst, eOfO, eIsN, eNotN, gIsN_S, gNotN_S, gIsN_none, gNotN_none, gIsN_tup, gNotN_tup, gIsN_int, gNotN_int, gIsN_list, gNotN_list, gIsN_bool, gNotN_bool, gIsN_str, gNotN_str, eChain, eCellIx, eCellLen, eSlice, pNone, pSome, eMt1, oList, oListR1, iSeq, iEnum1, iEnum2, iRange1, iRange2, gNm, gTu, gTps, gCell, sNil, sSeq, sSet, sSetO, sRet, sRetO, sRetOwn, sRetN, sDrop, sIf, sNever, sAppend, sAsg, sPar, sParO, sFor, put0_un, put0_dat, put0_own, put_succ, put0_fr, cellAt, putCell, Sl.cell, Sl.withCell, g1, g2, eCallB, oCall, gk, permL, runF, runO, runB, padE, Option.bind_some, Option.map_some, Option.bind_none, Option.map_none, List.getElem?_cons_zero, List.getElem?_cons_succ, List.set_cons_zero, List.set_cons_succ, List.length_cons, List.length_nil, List.map_cons, List.map_nil, List.replicate, List.cons_append, List.nil_append, List.filterMap_cons, List.filterMap_nil, isStr_S, isStrD_str, if_true, if_false, reduceIte, Bool.not_true, Bool.not_false, Nat.reduceAdd, Nat.reduceSub, Nat.zero_add, decide_eq_true_eq, Bool.false_eq_true, reduceCtorEq, Bool.true_eq_false, and_self, true_and, and_true, Int.reduceNeg, c_HEAD, c_DIGITS_OF_PART, add6_nat, e1, len_S hl, lt_6, c1, decide_false, DG_c, is_text_DG hl, c2', slice_to3 hl, slice_from3 hl, i1, i2, add_nat, e2, eq_0, c3, decide_true, et, toD]
  by_cases c4 : ((u.drop 6).take (num3 ((u.take 6).take 3))).length < num3 ((u.take 6).take 3)
  · have et : textAt u = none := by unfold textAt; rw [if_neg c1, if_neg c2, if_neg c3, if_pos c4]
    simp -implicitDefEqProofs only [eVar, eC, eOp2, eOp1, toT, tOfB, eAnd, eOr, eNot, uAnd, uOr, uNot, eIf, aNil, aCons, eCall, eCallK, eTup, oLst, eOfO, eIsN, eNotN, gIsN_S, gNotN_S, gIsN_none, gNotN_none, gIsN_tup, gNotN_tup, gIsN_int, gNotN_int, gIsN_list, gNotN_list, gIsN_bool, gNotN_bool, gIsN_str, gNotN_str, eChain, eCellIx, eCellLen, eSlice, pNone, pSome, eMt1, oList, oListR1, iSeq, iEnum1, iEnum2, iRange1, iRange2, gNm, gTu, gTps, gCell, sNil, sSeq, sSet, sSetO, sRet, sRetO, sRetOwn, sRetN, sDrop, sIf, sNever, sAppend, sAsg, sPar, sParO, sFor, put0_un, put0_dat, put0_own, put_succ, put0_fr, cellAt, putCell, Sl.cell, Sl.withCell, g1, g2, eCallB, oCall, gk, permL, runF, runO, runB, padE, Option.bind_some, Option.map_some, Option.bind_none, Option.map_none, List.getElem?_cons_zero, List.getElem?_cons_succ, List.set_cons_zero, List.set_cons_succ, List.length_cons, List.length_nil, List.map_cons, List.map_nil, List.replicate, List.cons_append, List.nil_append, List.filterMap_cons, List.filterMap_nil, isStr_S, isStrD_str, if_true, if_false, reduceIte, Bool.not_true, Bool.not_false, Nat.reduceAdd, Nat.reduceSub, Nat.zero_add, decide_eq_true_eq, Bool.false_eq_true, reduceCtorEq, Bool.true_eq_false, and_self, true_and, and_true, Int.reduceNeg, c_HEAD, c_DIGITS_OF_PART, add6_nat, e1, len_S hl, lt_6, c1, decide_false, DG_c, is_text_DG hl, c2', slice_to3 hl, slice_from3 hl, i1, i2, add_nat, e2, eq_0, c3, len_S (hl2 _), lt_nat, c4, decide_true, et, toD]
  by_cases c5 : okS ((u.drop 6).take (num3 ((u.take 6).take 3))) = false
  · have et : textAt u = none := by unfold textAt; rw [if_neg c1, if_neg c2, if_neg c3, if_neg c4, if_pos c5]
    simp -implicitDefEqProofs only [eVar, eC, eOp2, eOp1, toT, tOfB, eAnd, eOr, eNot, uAnd, uOr, uNot, eIf, aNil, aCons, eCall, eCallK, eTup, oLst, eOfO, eIsN, eNotN, gIsN_S, gNotN_S, gIsN_none, gNotN_none, gIsN_tup, gNotN_tup, gIsN_int, gNotN_int, gIsN_list, gNotN_list, gIsN_bool, gNotN_bool, gIsN_str, gNotN_str, eChain, eCellIx, eCellLen, eSlice, pNone, pSome, eMt1, oList, oListR1, iSeq, iEnum1, iEnum2, iRange1, iRange2, gNm, gTu, gTps, gCell, sNil, sSeq, sSet, sSetO, sRet, sRetO, sRetOwn, sRetN, sDrop, sIf, sNever, sAppend, sAsg, sPar, sParO, sFor, put0_un, put0_dat, put0_own, put_succ, put0_fr, cellAt, putCell, Sl.cell, Sl.withCell, g1, g2, eCallB, oCall, gk, permL, runF, runO, runB, padE, Option.bind_some, Option.map_some, Option.bind_none, Option.map_none, List.getElem?_cons_zero, List.getElem?_cons_succ, List.set_cons_zero, List.set_cons_succ, List.length_cons, List.length_nil, List.map_cons, List.map_nil, List.replicate, List.cons_append, List.nil_append, List.filterMap_cons, List.filterMap_nil, isStr_S, isStrD_str, if_true, if_false, reduceIte, Bool.not_true, Bool.not_false, Nat.reduceAdd, Nat.reduceSub, Nat.zero_add, decide_eq_true_eq, Bool.false_eq_true, reduceCtorEq, Bool.true_eq_false, and_self, true_and, and_true, Int.reduceNeg, c_HEAD, c_DIGITS_OF_PART, add6_nat, e1, len_S hl, lt_6, c1, decide_false, DG_c, is_text_DG hl, c2', slice_to3 hl, slice_from3 hl, i1, i2, add_nat, e2, eq_0, c3, len_S (hl2 _), lt_nat, c4, SG_c, is_text_SG (hl2 _), c5, et, toD]
  have c5' : okS ((u.drop 6).take (num3 ((u.take 6).take 3))) = true := by simpa using c5
  have et : textAt u = if chk ((u.drop 6).take (num3 ((u.take 6).take 3))) = num3 ((u.take 6).drop 3) then some ((u.drop 6).take (num3 ((u.take 6).take 3))) else none := by
    unfold textAt; rw [if_neg c1, if_neg c2, if_neg c3, if_neg c4, if_neg c5]
  by_cases c6 : chk ((u.drop 6).take (num3 ((u.take 6).take 3))) = num3 ((u.take 6).drop 3)
  · rw [if_pos c6] at et
    simp -implicitDefEqProofs only [eVar, eC, eOp2, eOp1, toT, tOfB, eAnd, eOr, eNot, uAnd, uOr, uNot, eIf, aNil, aCons, eCall, eCallK, eTup, oLst, eOfO, eIsN, eNotN, gIsN_S, gNotN_S, gIsN_none, gNotN_none, gIsN_tup, gNotN_tup, gIsN_int, gNotN_int, gIsN_list, gNotN_list, gIsN_bool, gNotN_bool, gIsN_str, gNotN_str, eChain, eCellIx, eCellLen, eSlice, pNone, pSome, eMt1, oList, oListR1, iSeq, iEnum1, iEnum2, iRange1, iRange2, gNm, gTu, gTps, gCell, sNil, sSeq, sSet, sSetO, sRet, sRetO, sRetOwn, sRetN, sDrop, sIf, sNever, sAppend, sAsg, sPar, sParO, sFor, put0_un, put0_dat, put0_own, put_succ, put0_fr, cellAt, putCell, Sl.cell, Sl.withCell, g1, g2, eCallB, oCall, gk, permL, runF, runO, runB, padE, Option.bind_some, Option.map_some, Option.bind_none, Option.map_none, List.getElem?_cons_zero, List.getElem?_cons_succ, List.set_cons_zero, List.set_cons_succ, List.length_cons, List.length_nil, List.map_cons, List.map_nil, List.replicate, List.cons_append, List.nil_append, List.filterMap_cons, List.filterMap_nil, isStr_S, isStrD_str, if_true, if_false, reduceIte, Bool.not_true, Bool.not_false, Nat.reduceAdd, Nat.reduceSub, Nat.zero_add, decide_eq_true_eq, Bool.false_eq_true, reduceCtorEq, Bool.true_eq_false, and_self, true_and, and_true, Int.reduceNeg, c_HEAD, c_DIGITS_OF_PART, add6_nat, e1, len_S hl, lt_6, c1, decide_false, DG_c, is_text_DG hl, c2', slice_to3 hl, slice_from3 hl, i1, i2, add_nat, e2, eq_0, c3, len_S (hl2 _), lt_nat, c4, SG_c, is_text_SG (hl2 _), c5', check_of_S (hl2 _) c5', eq_nat, c6, decide_true, et, toD]
  · rw [if_neg c6] at et
    simp -implicitDefEqProofs only [eVar, eC, eOp2, eOp1, toT, tOfB, eAnd, eOr, eNot, uAnd, uOr, uNot, eIf, aNil, aCons, eCall, eCallK, eTup, oLst, eOfO, eIsN, eNotN, gIsN_S, gNotN_S, gIsN_none, gNotN_none, gIsN_tup, gNotN_tup, gIsN_int, gNotN_int, gIsN_list, gNotN_list, gIsN_bool, gNotN_bool, gIsN_str, gNotN_str, eChain, eCellIx, eCellLen, eSlice, pNone, pSome, eMt1, oList, oListR1, iSeq, iEnum1, iEnum2, iRange1, iRange2, gNm, gTu, gTps, gCell, sNil, sSeq, sSet, sSetO, sRet, sRetO, sRetOwn, sRetN, sDrop, sIf, sNever, sAppend, sAsg, sPar, sParO, sFor, put0_un, put0_dat, put0_own, put_succ, put0_fr, cellAt, putCell, Sl.cell, Sl.withCell, g1, g2, eCallB, oCall, gk, permL, runF, runO, runB, padE, Option.bind_some, Option.map_some, Option.bind_none, Option.map_none, List.getElem?_cons_zero, List.getElem?_cons_succ, List.set_cons_zero, List.set_cons_succ, List.length_cons, List.length_nil, List.map_cons, List.map_nil, List.replicate, List.cons_append, List.nil_append, List.filterMap_cons, List.filterMap_nil, isStr_S, isStrD_str, if_true, if_false, reduceIte, Bool.not_true, Bool.not_false, Nat.reduceAdd, Nat.reduceSub, Nat.zero_add, decide_eq_true_eq, Bool.false_eq_true, reduceCtorEq, Bool.true_eq_false, and_self, true_and, and_true, Int.reduceNeg, c_HEAD, c_DIGITS_OF_PART, add6_nat, e1, len_S hl, lt_6, c1, decide_false, DG_c, is_text_DG hl, c2', slice_to3 hl, slice_from3 hl, i1, i2, add_nat, e2, eq_0, c3, len_S (hl2 _), lt_nat, c4, SG_c, is_text_SG (hl2 _), c5', check_of_S (hl2 _) c5', eq_nat, c6, et, toD]
end Q43

set_option Elab.async false
set_option linter.all false
set_option maxRecDepth 100000
set_option maxHeartbeats 4000000
namespace Q43
open PySem PySem.Spec L2 DL
def frF : Nat → List Nat → List (List Nat) × Nat
  | 0, _ => ([], 0)
  | n + 1, u => match textAt u with
    | none => ([], 0)
    | some t => (t :: (frF n (u.drop (6 + t.length))).1, 6 + t.length + (frF n (u.drop (6 + t.length))).2)
theorem textAt_props {u t : List Nat} (h : textAt u = some t) : okS t = true ∧ t ≠ [] ∧ 6 + t.length ≤ u.length ∧ t.length < 1000 := by
  unfold textAt at h
  by_cases c1 : (u.take 6).length < 6
  · rw [if_pos c1] at h; cases h
  rw [if_neg c1] at h
  by_cases c2 : okD (u.take 6) = false
  · rw [if_pos c2] at h; cases h
  rw [if_neg c2] at h
  by_cases c3 : num3 ((u.take 6).take 3) = 0
  · rw [if_pos c3] at h; cases h
  rw [if_neg c3] at h
  by_cases c4 : ((u.drop 6).take (num3 ((u.take 6).take 3))).length < num3 ((u.take 6).take 3)
  · rw [if_pos c4] at h; cases h
  rw [if_neg c4] at h
  by_cases c5 : okS ((u.drop 6).take (num3 ((u.take 6).take 3))) = false
  · rw [if_pos c5] at h; cases h
  rw [if_neg c5] at h
  by_cases c6 : chk ((u.drop 6).take (num3 ((u.take 6).take 3))) = num3 ((u.take 6).drop 3)
  · rw [if_pos c6] at h
    injection h with h
    have c2' : okD (u.take 6) = true := by simpa using c2
    have hd : Head u := ⟨by rw [List.length_take] at c1 ⊢; omega, c2'⟩
    have hn := (num3_pv hd.a3 hd.ad).1
    subst h
    have c5' : okS ((u.drop 6).take (num3 ((u.take 6).take 3))) = true := by simpa using c5
    rw [List.length_take] at c1
    have hl : ((u.drop 6).take (num3 ((u.take 6).take 3))).length = min (num3 ((u.take 6).take 3)) (u.length - 6) := by rw [List.length_take, List.length_drop]
    refine ⟨c5', ?_, by omega, by omega⟩
    intro z
    have := congrArg List.length z
    rw [List.length_nil] at this
    omega
  · rw [if_neg c6] at h; cases h
/-- enough turns are enough -/
theorem frF_more : ∀ (n m : Nat) (u : List Nat), u.length ≤ n → u.length ≤ m → frF n u = frF m u
  | 0, 0, _, _, _ => rfl
  | 0, m + 1, u, h, _ => by
    have : u = [] := List.length_eq_zero_iff.mp (by omega)
    subst this; rfl
  | n + 1, 0, u, _, h => by
    have : u = [] := List.length_eq_zero_iff.mp (by omega)
    subst this; rfl
  | n + 1, m + 1, u, h1, h2 => by
    unfold frF
    cases ht : textAt u with
    | none => rfl
    | some t =>
      have p := textAt_props ht
      have hl : (u.drop (6 + t.length)).length ≤ u.length - 6 := by rw [List.length_drop]; omega
      have hu : 6 ≤ u.length := by omega
      simp only [frF_more n m (u.drop (6 + t.length)) (by omega) (by omega)]
theorem frF_len : ∀ (n : Nat) (u : List Nat), (frF n u).1.length ≤ n ∧ (frF n u).1.length ≤ u.length
  | 0, _ => by simp [frF]
  | n + 1, u => by
    unfold frF
    cases ht : textAt u with
    | none => simp
    | some t =>
      have p := textAt_props ht
      have i := frF_len n (u.drop (6 + t.length))
      rw [List.length_drop] at i
      simp only [List.length_cons]
      omega
theorem cell_last {ds : List Dt} {d : Dt} : atI (ds ++ [d]) (-1) = some d := by
  unfold atI
  have e : ixN (ds ++ [d]).length (-1) = some ds.length := by
    unfold ixN
    rw [if_neg (by omega)]
    rw [List.length_append, List.length_singleton]
    rw [if_pos (by omega)]
    congr 1
    omega
  rw [e, Option.bind_some, List.getElem?_append_right (Nat.le_refl _)]
  simp
theorem wh {s : List Nat} (hs : s.length ≤ 10000) : ∀ (f p : Nat) (acc : List (List Nat)), (s.drop p).length < f → acc.length + (s.drop p).length ≤ 10000 →
    sWhile (toT (eNotN (eCall r_text_at (aCons (eVar 0) (aCons (eVar 2) aNil)))))
      (sSeq (sAppend 1 (eCall r_text_at (aCons (eVar 0) (aCons (eVar 2) aNil))))
      (sSet 2 (eOp2 dAdd (eOp2 dAdd (eVar 2) (eC (.int 6))) (eCall (g1 dLen1) (aCons (eCellIx 1 (eOp1 dNeg (eC (.int 1)))) aNil))))) f
      [.dat (S s), .own (acc.map S), .dat (.int (p : Int))] =
    some (.nx [.dat (S s), .own ((acc ++ (frF f (s.drop p)).1).map S), .dat (.int ((p + (frF f (s.drop p)).2 : Nat) : Int))])
  | 0, p, acc, h, _ => by omega
  | f + 1, p, acc, h, h2 => by
    have ht := text_at_S hs p
    unfold sWhile frF
    cases hx : textAt (s.drop p) with
    | none =>
      rw [hx] at ht
      simp -implicitDefEqProofs only [eVar, eC, eOp2, eOp1, toT, tOfB, eAnd, eOr, eNot, uAnd, uOr, uNot, eIf, aNil, aCons, eCall, eCallK, eTup, oLst, eOfO, eIsN, eNotN, gIsN_S, gNotN_S, gIsN_none, gNotN_none, gIsN_tup, gNotN_tup, gIsN_int, gNotN_int, gIsN_list, gNotN_list, gIsN_bool, gNotN_bool, gIsN_str, gNotN_str, eChain, eCellIx, eCellLen, eSlice, pNone, pSome, eMt1, oList, oListR1, iSeq, iEnum1, iEnum2, iRange1, iRange2, gNm, gTu, gTps, gCell, sNil, sSeq, sSet, sSetO, sRet, sRetO, sRetOwn, sRetN, sDrop, sIf, sNever, sAppend, sAsg, sPar, sParO, sFor, put0_un, put0_dat, put0_own, put_succ, put0_fr, cellAt, putCell, Sl.cell, Sl.withCell, g1, g2, eCallB, oCall, gk, permL, runF, runO, runB, padE, Option.bind_some, Option.map_some, Option.bind_none, Option.map_none, List.getElem?_cons_zero, List.getElem?_cons_succ, List.set_cons_zero, List.set_cons_succ, List.length_cons, List.length_nil, List.map_cons, List.map_nil, List.replicate, List.cons_append, List.nil_append, List.filterMap_cons, List.filterMap_nil, isStr_S, isStrD_str, if_true, if_false, reduceIte, Bool.not_true, Bool.not_false, Nat.reduceAdd, Nat.reduceSub, Nat.zero_add, decide_eq_true_eq, Bool.false_eq_true, reduceCtorEq, Bool.true_eq_false, and_self, true_and, and_true, Int.reduceNeg, ht, toD, List.append_nil, Nat.add_zero]
    | some t =>
      rw [hx] at ht
      have pr := textAt_props hx
      have e1 : dLen1 (S t) = some (.int (t.length : Int)) := len_S (by omega)
      have e2 : dNeg (.int 1) = some (.int (-1)) := rfl
      have e3 : atI (acc.map S ++ [S t]) (-1) = some (S t) := cell_last
      have hd : s.drop (p + 6 + t.length) = (s.drop p).drop (6 + t.length) := by rw [List.drop_drop, Nat.add_assoc]
      have hl : (s.drop (p + 6 + t.length)).length = (s.drop p).length - (6 + t.length) := by rw [hd, List.length_drop]
      have ih := wh hs f (p + 6 + t.length) (acc ++ [t]) (by omega) (by rw [List.length_append, List.length_singleton]; omega)
      have e4 : (acc.map S).length < sizeLine := by rw [List.length_map, szl]; omega
      have e5 : (acc ++ [t]).map S = acc.map S ++ [S t] := by rw [List.map_append]; rfl
      rw [e5] at ih
      simp -implicitDefEqProofs only [eVar, eC, eOp2, eOp1, toT, tOfB, eAnd, eOr, eNot, uAnd, uOr, uNot, eIf, aNil, aCons, eCall, eCallK, eTup, oLst, eOfO, eIsN, eNotN, gIsN_S, gNotN_S, gIsN_none, gNotN_none, gIsN_tup, gNotN_tup, gIsN_int, gNotN_int, gIsN_list, gNotN_list, gIsN_bool, gNotN_bool, gIsN_str, gNotN_str, eChain, eCellIx, eCellLen, eSlice, pNone, pSome, eMt1, oList, oListR1, iSeq, iEnum1, iEnum2, iRange1, iRange2, gNm, gTu, gTps, gCell, sNil, sSeq, sSet, sSetO, sRet, sRetO, sRetOwn, sRetN, sDrop, sIf, sNever, sAppend, sAsg, sPar, sParO, sFor, put0_un, put0_dat, put0_own, put_succ, put0_fr, cellAt, putCell, Sl.cell, Sl.withCell, g1, g2, eCallB, oCall, gk, permL, runF, runO, runB, padE, Option.bind_some, Option.map_some, Option.bind_none, Option.map_none, List.getElem?_cons_zero, List.getElem?_cons_succ, List.set_cons_zero, List.set_cons_succ, List.length_cons, List.length_nil, List.map_cons, List.map_nil, List.replicate, List.cons_append, List.nil_append, List.filterMap_cons, List.filterMap_nil, isStr_S, isStrD_str, if_true, if_false, reduceIte, Bool.not_true, Bool.not_false, Nat.reduceAdd, Nat.reduceSub, Nat.zero_add, decide_eq_true_eq, Bool.false_eq_true, reduceCtorEq, Bool.true_eq_false, and_self, true_and, and_true, Int.reduceNeg, ht, toD, e4, add6_nat, e2, e3, e1, add_nat]
      rw [ih, hd, List.append_assoc, List.singleton_append]
      rw [show p + 6 + t.length + (frF f ((s.drop p).drop (6 + t.length))).2 = p + (6 + t.length + (frF f ((s.drop p).drop (6 + t.length))).2) by omega]
def frS (s : List Nat) : Dt := .tuple [.tuple ((frF s.length s).1.map S), .int (((frF s.length s).2 : Nat) : Int)]
theorem frames_by_S {s : List Nat} (hs : s.length ≤ 10000) : r_frames_by [S s] = some (.tuple [.list ((frF s.length s).1.map S), .int (((frF s.length s).2 : Nat) : Int)]) := by
  have h := wh hs 20000 0 [] (by rw [List.drop_zero]; omega) (by rw [List.drop_zero]; simp; omega)
  rw [List.drop_zero, frF_more 20000 s.length s (by omega) (Nat.le_refl _), List.nil_append, Nat.zero_add] at h
  unfold r_frames_by b_frames_by
  have hf : fuel = 20000 := rfl
  have h0 : ((0 : Nat) : Int) = 0 := rfl
  rw [h0, List.map_nil] at h
  unfold c_HEAD
  simp -implicitDefEqProofs only [eVar, eC, eOp2, eOp1, toT, tOfB, eAnd, eOr, eNot, uAnd, uOr, uNot, eIf, aNil, aCons, eCall, eCallK, eTup, oLst, eOfO, eIsN, eNotN, gIsN_S, gNotN_S, gIsN_none, gNotN_none, gIsN_tup, gNotN_tup, gIsN_int, gNotN_int, gIsN_list, gNotN_list, gIsN_bool, gNotN_bool, gIsN_str, gNotN_str, eChain, eCellIx, eCellLen, eSlice, pNone, pSome, eMt1, oList, oListR1, iSeq, iEnum1, iEnum2, iRange1, iRange2, gNm, gTu, gTps, gCell, sNil, sSeq, sSet, sSetO, sRet, sRetO, sRetOwn, sRetN, sDrop, sIf, sNever, sAppend, sAsg, sPar, sParO, sFor, put0_un, put0_dat, put0_own, put_succ, put0_fr, cellAt, putCell, Sl.cell, Sl.withCell, g1, g2, eCallB, oCall, gk, permL, runF, runO, runB, padE, Option.bind_some, Option.map_some, Option.bind_none, Option.map_none, List.getElem?_cons_zero, List.getElem?_cons_succ, List.set_cons_zero, List.set_cons_succ, List.length_cons, List.length_nil, List.map_cons, List.map_nil, List.replicate, List.cons_append, List.nil_append, List.filterMap_cons, List.filterMap_nil, isStr_S, isStrD_str, if_true, if_false, reduceIte, Bool.not_true, Bool.not_false, Nat.reduceAdd, Nat.reduceSub, Nat.zero_add, decide_eq_true_eq, Bool.false_eq_true, reduceCtorEq, Bool.true_eq_false, and_self, true_and, and_true, Int.reduceNeg, szl, hf, show (0 : Nat) ≤ 16777216 by decide, show (2 : Nat) ≤ 16777216 by decide, h]
theorem check_text_S {s : List Nat} : r_check_text [S s] = some .none := rfl
theorem frames_in_S {s : List Nat} (hs : s.length ≤ 10000) : r_frames_in [S s] = some (frS s) := by
  unfold r_frames_in b_frames_in
  simp -implicitDefEqProofs only [eVar, eC, eOp2, eOp1, toT, tOfB, eAnd, eOr, eNot, uAnd, uOr, uNot, eIf, aNil, aCons, eCall, eCallK, eTup, oLst, eOfO, eIsN, eNotN, gIsN_S, gNotN_S, gIsN_none, gNotN_none, gIsN_tup, gNotN_tup, gIsN_int, gNotN_int, gIsN_list, gNotN_list, gIsN_bool, gNotN_bool, gIsN_str, gNotN_str, eChain, eCellIx, eCellLen, eSlice, pNone, pSome, eMt1, oList, oListR1, iSeq, iEnum1, iEnum2, iRange1, iRange2, gNm, gTu, gTps, gCell, sNil, sSeq, sSet, sSetO, sRet, sRetO, sRetOwn, sRetN, sDrop, sIf, sNever, sAppend, sAsg, sPar, sParO, sFor, put0_un, put0_dat, put0_own, put_succ, put0_fr, cellAt, putCell, Sl.cell, Sl.withCell, g1, g2, eCallB, oCall, gk, permL, runF, runO, runB, padE, Option.bind_some, Option.map_some, Option.bind_none, Option.map_none, List.getElem?_cons_zero, List.getElem?_cons_succ, List.set_cons_zero, List.set_cons_succ, List.length_cons, List.length_nil, List.map_cons, List.map_nil, List.replicate, List.cons_append, List.nil_append, List.filterMap_cons, List.filterMap_nil, isStr_S, isStrD_str, if_true, if_false, reduceIte, Bool.not_true, Bool.not_false, Nat.reduceAdd, Nat.reduceSub, Nat.zero_add, decide_eq_true_eq, Bool.false_eq_true, reduceCtorEq, Bool.true_eq_false, and_self, true_and, and_true, Int.reduceNeg, check_text_S, frames_by_S hs, dTuple, szl, show (2 : Nat) ≤ 16777216 by decide, frS]
/-! ### the law's own words -/
theorem three_S {n : Nat} (h : n < 1000) : r__law_three [.int (n : Int)] = some (S (pv n)) := by
  have e1 : dAdd (.str "000") (.str (Str.ofString (toString (n : Int)))) = some (.str (Str.ofString "000" ++ Str.ofString (toString (n : Int)))) := by
    show (if _ then some (PyData.str (Str.ofString "000" ++ Str.ofString (toString (n : Int)))) else none) = _
    rw [if_pos (by rw [szl]; exact pv_len3 n h)]
  have e2 : dNeg (.int 3) = some (.int (-3)) := rfl
  have e3 : dSlice (.str (Str.ofString "000" ++ Str.ofString (toString (n : Int)))) (some (-3)) none = some (S (pv n)) := by
    show (if _ then some (PyData.str (cutS (Str.ofString "000" ++ Str.ofString (toString (n : Int))) (some (-3)) none)) else none) = _
    rw [pv_three n h, if_pos]
    · rfl
    · rw [szl]
      show (Array.size ((Str.ofString "000").cps ++ (Str.ofString (toString (n : Int))).cps)) ≤ _
      rw [Array.size_append]; exact pv_len3 n h
  unfold r__law_three b__law_three
  simp -implicitDefEqProofs only [eVar, eC, eOp2, eOp1, toT, tOfB, eAnd, eOr, eNot, uAnd, uOr, uNot, eIf, aNil, aCons, eCall, eCallK, eTup, oLst, eOfO, eIsN, eNotN, gIsN_S, gNotN_S, gIsN_none, gNotN_none, gIsN_tup, gNotN_tup, gIsN_int, gNotN_int, gIsN_list, gNotN_list, gIsN_bool, gNotN_bool, gIsN_str, gNotN_str, eChain, eCellIx, eCellLen, eSlice, pNone, pSome, eMt1, oList, oListR1, iSeq, iEnum1, iEnum2, iRange1, iRange2, gNm, gTu, gTps, gCell, sNil, sSeq, sSet, sSetO, sRet, sRetO, sRetOwn, sRetN, sDrop, sIf, sNever, sAppend, sAsg, sPar, sParO, sFor, put0_un, put0_dat, put0_own, put_succ, put0_fr, cellAt, putCell, Sl.cell, Sl.withCell, g1, g2, eCallB, oCall, gk, permL, runF, runO, runB, padE, Option.bind_some, Option.map_some, Option.bind_none, Option.map_none, List.getElem?_cons_zero, List.getElem?_cons_succ, List.set_cons_zero, List.set_cons_succ, List.length_cons, List.length_nil, List.map_cons, List.map_nil, List.replicate, List.cons_append, List.nil_append, List.filterMap_cons, List.filterMap_nil, isStr_S, isStrD_str, if_true, if_false, reduceIte, Bool.not_true, Bool.not_false, Nat.reduceAdd, Nat.reduceSub, Nat.zero_add, decide_eq_true_eq, Bool.false_eq_true, reduceCtorEq, Bool.true_eq_false, and_self, true_and, and_true, Int.reduceNeg, str_nat h, e1, e2, e3]
theorem mod997 (n : Nat) : dMod (.int (n : Int)) (.int 997) = some (.int ((n % 997 : Nat) : Int)) := fin_check n
theorem cs_cons (c : Nat) (r : List Nat) (k : Nat) : cs (c :: r) k = k * (SG.idxOf c + 1) + cs r (k + 1) := rfl
theorem cs_nil (k : Nat) : cs [] k = 0 := rfl
theorem law_check_S {a : List Nat} (h : a.length ≤ 10000) (hs : okS a = true) : r__law_check [S a] = some (.int (chk a : Nat)) := by
  have L : a.length ≤ 16777216 := by omega
  have loop := fLoop_inv (g := gNm 3) (bd := sSet 2 (eOp2 dAdd (eVar 2) (eOp2 dMulA (eOp2 dAdd (eVar 3) (eC (.int 1))) (eOp2 dAdd (eMt1 dIndexS (eVar 1) (eOp2 dIx (eVar 0) (eVar 3))) (eC (.int 1))))))
    (fun ds ρ => ∃ (k t : Nat) (x : Sl), ds = (List.range' k (a.length - k)).map (fun i : Nat => PyData.int (i : Int)) ∧ k ≤ a.length ∧ t + cs (a.drop k) (k + 1) = cs a 1 ∧ ρ = [.dat (S a), .dat (S SG), .dat (.int (t : Int)), x] ∧ (x = .un ∨ ∃ d, x = .dat d))
    (rangeD 0 (a.length : Int)) [.dat (S a), .dat (S SG), .dat (.int 0), .un]
    ⟨0, 0, .un, by rw [range_zero, List.range_eq_range']; rfl, by omega, by rw [List.drop_zero, Nat.zero_add], rfl, Or.inl rfl⟩ (by
      rintro d ds ρ ⟨k, t, x, h1, h2, h3, rfl, hx⟩
      by_cases hk : k = a.length
      · rw [hk, Nat.sub_self] at h1; cases h1
      have hk' : k < a.length := by omega
      have e : a.length - k = (a.length - (k + 1)) + 1 := by omega
      rw [e, List.range'_succ, List.map_cons] at h1
      injection h1 with h1 h1'
      subst h1
      have ec : a.drop k = a[k] :: a.drop (k + 1) := List.drop_eq_getElem_cons hk'
      rw [ec] at h3
      have m : a[k] ∈ SG := mem_SG hs (List.getElem_mem hk')
      have hl := ix_lt _ m
      have i1 : dIx (S a) (.int (k : Int)) = some (S [a[k]]) := ix_S L (List.getElem?_eq_getElem hk')
      have i2 := ix_SG m
      refine ⟨[.dat (S a), .dat (S SG), .dat (.int (t : Int)), .dat (.int (k : Int))], [.dat (S a), .dat (S SG), .dat (.int ((t + (k + 1) * (SG.idxOf a[k] + 1) : Nat) : Int)), .dat (.int (k : Int))], ?_, ?_, ?_⟩
      · rcases hx with rfl | ⟨d, rfl⟩ <;> rfl
      · simp -implicitDefEqProofs only [eVar, eC, eOp2, eOp1, toT, tOfB, eAnd, eOr, eNot, uAnd, uOr, uNot, eIf, aNil, aCons, eCall, eCallK, eTup, oLst, eOfO, eIsN, eNotN, gIsN_S, gNotN_S, gIsN_none, gNotN_none, gIsN_tup, gNotN_tup, gIsN_int, gNotN_int, gIsN_list, gNotN_list, gIsN_bool, gNotN_bool, gIsN_str, gNotN_str, eChain, eCellIx, eCellLen, eSlice, pNone, pSome, eMt1, oList, oListR1, iSeq, iEnum1, iEnum2, iRange1, iRange2, gNm, gTu, gTps, gCell, sNil, sSeq, sSet, sSetO, sRet, sRetO, sRetOwn, sRetN, sDrop, sIf, sNever, sAppend, sAsg, sPar, sParO, sFor, put0_un, put0_dat, put0_own, put_succ, put0_fr, cellAt, putCell, Sl.cell, Sl.withCell, g1, g2, eCallB, oCall, gk, permL, runF, runO, runB, padE, Option.bind_some, Option.map_some, Option.bind_none, Option.map_none, List.getElem?_cons_zero, List.getElem?_cons_succ, List.set_cons_zero, List.set_cons_succ, List.length_cons, List.length_nil, List.map_cons, List.map_nil, List.replicate, List.cons_append, List.nil_append, List.filterMap_cons, List.filterMap_nil, isStr_S, isStrD_str, if_true, if_false, reduceIte, Bool.not_true, Bool.not_false, Nat.reduceAdd, Nat.reduceSub, Nat.zero_add, decide_eq_true_eq, Bool.false_eq_true, reduceCtorEq, Bool.true_eq_false, and_self, true_and, and_true, Int.reduceNeg, i1, i2, add1_nat, mul_nat (k + 1) (SG.idxOf a[k] + 1) (show SG.idxOf a[k] + 1 < 1000000 by omega), add_nat]
      · refine ⟨k + 1, t + (k + 1) * (SG.idxOf a[k] + 1), _, h1', by omega, ?_, rfl, Or.inr ⟨_, rfl⟩⟩
        rw [cs_cons] at h3
        omega)
  obtain ⟨ρ', l1, k, t, x, l2, l3, l4, rfl, l6⟩ := loop
  have hk : k = a.length := by
    have := congrArg List.length l2
    simp only [List.length_nil, List.length_map, List.length_range'] at this
    omega
  rw [hk, List.drop_length] at l4
  have ht : t = cs a 1 := by rw [cs_nil] at l4; omega
  have hr : -(2 ^ 62) ≤ (a.length : Int) ∧ (a.length : Int) < 2 ^ 62 := by omega
  have e1 : dInt (.int (t : Int)) = some (.int (t : Int)) := rfl
  unfold r__law_check b__law_check
  simp -implicitDefEqProofs only [eVar, eC, eOp2, eOp1, toT, tOfB, eAnd, eOr, eNot, uAnd, uOr, uNot, eIf, aNil, aCons, eCall, eCallK, eTup, oLst, eOfO, eIsN, eNotN, gIsN_S, gNotN_S, gIsN_none, gNotN_none, gIsN_tup, gNotN_tup, gIsN_int, gNotN_int, gIsN_list, gNotN_list, gIsN_bool, gNotN_bool, gIsN_str, gNotN_str, eChain, eCellIx, eCellLen, eSlice, pNone, pSome, eMt1, oList, oListR1, iSeq, iEnum1, iEnum2, iRange1, iRange2, gNm, gTu, gTps, gCell, sNil, sSeq, sSet, sSetO, sRet, sRetO, sRetOwn, sRetN, sDrop, sIf, sNever, sAppend, sAsg, sPar, sParO, sFor, put0_un, put0_dat, put0_own, put_succ, put0_fr, cellAt, putCell, Sl.cell, Sl.withCell, g1, g2, eCallB, oCall, gk, permL, runF, runO, runB, padE, Option.bind_some, Option.map_some, Option.bind_none, Option.map_none, List.getElem?_cons_zero, List.getElem?_cons_succ, List.set_cons_zero, List.set_cons_succ, List.length_cons, List.length_nil, List.map_cons, List.map_nil, List.replicate, List.cons_append, List.nil_append, List.filterMap_cons, List.filterMap_nil, isStr_S, isStrD_str, if_true, if_false, reduceIte, Bool.not_true, Bool.not_false, Nat.reduceAdd, Nat.reduceSub, Nat.zero_add, decide_eq_true_eq, Bool.false_eq_true, reduceCtorEq, Bool.true_eq_false, and_self, true_and, and_true, Int.reduceNeg, SG_lit, szl, show (2 : Nat) ≤ 16777216 by decide, len_S L, hr, l1, e1, mod997]
  rw [ht]; rfl
theorem law_frame_S {a : List Nat} (hs : okS a = true) (hl : a.length ≤ 200) : r__law_frame [S a] = some (S (frm a)) := by
  unfold r__law_frame b__law_frame
  have h2 : a.length ≤ 16777216 := by omega
  simp -implicitDefEqProofs only [eVar, eC, eOp2, eOp1, toT, tOfB, eAnd, eOr, eNot, uAnd, uOr, uNot, eIf, aNil, aCons, eCall, eCallK, eTup, oLst, eOfO, eIsN, eNotN, gIsN_S, gNotN_S, gIsN_none, gNotN_none, gIsN_tup, gNotN_tup, gIsN_int, gNotN_int, gIsN_list, gNotN_list, gIsN_bool, gNotN_bool, gIsN_str, gNotN_str, eChain, eCellIx, eCellLen, eSlice, pNone, pSome, eMt1, oList, oListR1, iSeq, iEnum1, iEnum2, iRange1, iRange2, gNm, gTu, gTps, gCell, sNil, sSeq, sSet, sSetO, sRet, sRetO, sRetOwn, sRetN, sDrop, sIf, sNever, sAppend, sAsg, sPar, sParO, sFor, put0_un, put0_dat, put0_own, put_succ, put0_fr, cellAt, putCell, Sl.cell, Sl.withCell, g1, g2, eCallB, oCall, gk, permL, runF, runO, runB, padE, Option.bind_some, Option.map_some, Option.bind_none, Option.map_none, List.getElem?_cons_zero, List.getElem?_cons_succ, List.set_cons_zero, List.set_cons_succ, List.length_cons, List.length_nil, List.map_cons, List.map_nil, List.replicate, List.cons_append, List.nil_append, List.filterMap_cons, List.filterMap_nil, isStr_S, isStrD_str, if_true, if_false, reduceIte, Bool.not_true, Bool.not_false, Nat.reduceAdd, Nat.reduceSub, Nat.zero_add, decide_eq_true_eq, Bool.false_eq_true, reduceCtorEq, Bool.true_eq_false, and_self, true_and, and_true, Int.reduceNeg, len_S h2, three_S (show a.length < 1000 by omega), law_check_S (show a.length ≤ 10000 by omega) hs, three_S (chk_lt a), add_S (show (pv a.length).length + (pv (chk a)).length ≤ 16777216 by simp [pv_len]), add_S (show (pv a.length ++ pv (chk a)).length + a.length ≤ 16777216 by simp [pv_len]; omega)]
  rfl
end Q43

set_option Elab.async false
set_option linter.all false
set_option maxRecDepth 100000
set_option maxHeartbeats 8000000
namespace Q43
open PySem PySem.Spec L2 DL
def Low (s : List Nat) : Prop := ∀ c ∈ s, c < 1114112
theorem lay_sigs : ∀ {xs : List Nat}, Low xs → PyData.canLayAll0 (xs.map fun c => S [c]) = true
  | [], _ => rfl
  | x :: xs, h => by
    have h1 : PyData.canLay0 (S [x]) = true := by
      show ((⟨[x].toArray⟩ : Str).cps.all (· < 0x110000)) = true
      have := h x List.mem_cons_self
      simp [this]
    show (PyData.canLay0 (S [x]) && PyData.canLayAll0 (xs.map fun c => S [c])) = true
    rw [h1, lay_sigs (xs := xs) fun c m => h c (List.mem_cons_of_mem _ m)]; rfl
theorem dep_sigs : ∀ (xs : List Nat), PyData.depthAll (xs.map fun c => S [c]) = 0
  | [] => rfl
  | x :: xs => by
    show max (PyData.depth (S [x])) (PyData.depthAll (xs.map fun c => S [c])) = 0
    rw [dep_sigs xs]; rfl
theorem shaped_sigs {xs : List Nat} (h : Low xs) : SeqAt.shaped (.list (xs.map fun c => S [c])) = true := by
  show (PyData.canLayAll0 (xs.map fun c => S [c]) && decide (PyData.depthAll (xs.map fun c => S [c]) + 1 ≤ 64)) = true
  rw [lay_sigs h, dep_sigs]; rfl
theorem eqB_sigs {xs : List Nat} (h : Low xs) : dEqB (.list (xs.map fun c => S [c])) (.list []) = some (decide (xs = [])) := by
  have e : dEqS (.list (xs.map fun c => S [c])) (.list []) = none := rfl
  unfold dEqB
  rw [e]
  show (if SeqAt.shaped (.list (xs.map fun c => S [c])) = true ∧ SeqAt.shaped (.list []) = true then some (PyData.eqvAll (xs.map fun c => S [c]) []) else none) = _
  rw [if_pos ⟨shaped_sigs h, rfl⟩]
  cases xs with
  | nil => rfl
  | cons x xs => rfl
theorem eq_sigs {xs : List Nat} (h : Low xs) : dEq (.list (xs.map fun c => S [c])) (.list []) = some (.bool (decide (xs = []))) := by
  unfold dEq; rw [eqB_sigs h]; rfl
theorem ne_sigs {xs : List Nat} (h : Low xs) : dNe (.list (xs.map fun c => S [c])) (.list []) = some (.bool (!decide (xs = []))) := by
  unfold dNe; rw [eqB_sigs h]; rfl
theorem low_filter {xs : List Nat} {p : Nat → Bool} (h : Low xs) : Low (xs.filter p) := fun c m => h c (List.mem_filter.mp m).1
theorem sifted {a g : List Nat} : decide (a.filter (fun c => !decide (c ∈ g)) = []) = a.all fun c => decide (c ∈ g) := by
  rw [Bool.eq_iff_iff, decide_eq_true_iff, List.filter_eq_nil_iff, List.all_eq_true]
  simp
theorem is_signs_S {a : List Nat} (h : a.length ≤ 16777216) (hl : Low a) : r__law_is_signs [S a] = some (.bool (okS a)) := by
  have hc : oLc (iSeq (eVar 0)) (gNm 1) (toT (eOp2 dNotInA (eVar 1) (eC (S SG)))) (eVar 1) [1] [.dat (S a), .un] = some ((a.filter (fun c => !decide (c ∈ SG))).map (fun c => S [c]), [.dat (S a), .un]) :=
    oLc_fm (f := fun c => S [c]) (G := fun c => [.dat (S a), .dat (S [c])]) rfl (fun c _ => ⟨rfl, rfl, rfl, fun _ => rfl⟩) h
  have e := eq_sigs (low_filter (p := fun c => !decide (c ∈ SG)) hl)
  rw [sifted] at e
  unfold r__law_is_signs b__law_is_signs
  simp -implicitDefEqProofs only [eVar, eC, eOp2, eOp1, toT, tOfB, eAnd, eOr, eNot, uAnd, uOr, uNot, eIf, aNil, aCons, eCall, eCallK, eTup, oLst, eOfO, eIsN, eNotN, gIsN_S, gNotN_S, gIsN_none, gNotN_none, gIsN_tup, gNotN_tup, gIsN_int, gNotN_int, gIsN_list, gNotN_list, gIsN_bool, gNotN_bool, gIsN_str, gNotN_str, eChain, eCellIx, eCellLen, eSlice, pNone, pSome, eMt1, oList, oListR1, iSeq, iEnum1, iEnum2, iRange1, iRange2, gNm, gTu, gTps, gCell, sNil, sSeq, sSet, sSetO, sRet, sRetO, sRetOwn, sRetN, sDrop, sIf, sNever, sAppend, sAsg, sPar, sParO, sFor, put0_un, put0_dat, put0_own, put_succ, put0_fr, cellAt, putCell, Sl.cell, Sl.withCell, g1, g2, eCallB, oCall, gk, permL, runF, runO, runB, padE, Option.bind_some, Option.map_some, Option.bind_none, Option.map_none, List.getElem?_cons_zero, List.getElem?_cons_succ, List.set_cons_zero, List.set_cons_succ, List.length_cons, List.length_nil, List.map_cons, List.map_nil, List.replicate, List.cons_append, List.nil_append, List.filterMap_cons, List.filterMap_nil, isStr_S, isStrD_str, if_true, if_false, reduceIte, Bool.not_true, Bool.not_false, Nat.reduceAdd, Nat.reduceSub, Nat.zero_add, decide_eq_true_eq, Bool.false_eq_true, reduceCtorEq, Bool.true_eq_false, and_self, true_and, and_true, Int.reduceNeg, SG_lit, hc, szl, show (0 : Nat) ≤ 16777216 by decide, e, okS]
def lfb : SF :=
    (sSeq (sSet 4 (eSlice (eVar 0) (pSome (eVar 2)) (pSome (eOp2 dAdd (eVar 2) (eC (.int 6))))))
      (sSeq (sIf (uOr (toT (eOp2 dLt (eCall (g1 dLen1) (aCons (eVar 4) aNil)) (eC (.int 6)))) (toT (eOp2 dNe (eOfO (oLc (iSeq (eVar 4)) (gNm 5) (toT (eOp2 dNotInA (eVar 5) (eC (.str "0123456789")))) (eVar 5) [5])) (eOfO (oLst aNil)))))
        (sRet (eTup (aCons (eVar 1) (aCons (eVar 2) aNil))))
        sNil)
      (sSeq (sSet 6 (eCall (g1 dInt) (aCons (eSlice (eVar 4) pNone (pSome (eC (.int 3)))) aNil)))
      (sSeq (sSet 7 (eSlice (eVar 0) (pSome (eOp2 dAdd (eVar 2) (eC (.int 6)))) (pSome (eOp2 dAdd (eOp2 dAdd (eVar 2) (eC (.int 6))) (eVar 6)))))
      (sSeq (sIf (uOr (toT (eOp2 dEq (eVar 6) (eC (.int 0)))) (uOr (toT (eOp2 dLt (eCall (g1 dLen1) (aCons (eVar 7) aNil)) (eVar 6))) (uOr (uNot (toT (eCall r__law_is_signs (aCons (eVar 7) aNil)))) (toT (eOp2 dNe (eCall r__law_three (aCons (eCall r__law_check (aCons (eVar 7) aNil)) aNil)) (eSlice (eVar 4) (pSome (eC (.int 3))) pNone))))))
        (sRet (eTup (aCons (eVar 1) (aCons (eVar 2) aNil))))
        sNil)
      (sPar 1 2 (aCons (eOp2 dAdd (eVar 1) (eTup (aCons (eVar 7) aNil))) (aCons (eOp2 dAdd (eOp2 dAdd (eVar 2) (eC (.int 6))) (eVar 6)) aNil))))))))
def Ux (x4 x6 x7 : Sl) : Prop := (x4 = .un ∧ x6 = .un ∧ x7 = .un) ∨ ∃ a b c, x4 = .dat a ∧ x6 = .dat b ∧ x7 = .dat c
theorem ne_S3 {a b : List Nat} : dNe (S a) (S b) = some (.bool (!decide (a = b))) := ne_S
theorem lfb_step {s : List Nat} (hs : s.length ≤ 10000) (hl : Low s) (p : Nat) (acc : List Dt) (ha : acc.length ≤ 10000) (j : Dt) (x4 x6 x7 : Sl) (hx : Ux x4 x6 x7) :
    (textAt (s.drop p) = none ∧ ∃ ρ', lfb [.dat (S s), .dat (.tuple acc), .dat (.int (p : Int)), .dat j, x4, .un, x6, x7] = some (.ret (.tuple [.tuple acc, .int (p : Int)]) ρ')) ∨
    (∃ t a b c, textAt (s.drop p) = some t ∧ lfb [.dat (S s), .dat (.tuple acc), .dat (.int (p : Int)), .dat j, x4, .un, x6, x7] = some (.nx [.dat (S s), .dat (.tuple (acc ++ [S t])), .dat (.int ((p + 6 + t.length : Nat) : Int)), .dat j, .dat a, .un, .dat b, .dat c])) := by
  have L : s.length ≤ 16777216 := by omega
  have e1 : dSlice (S s) (some (p : Int)) (some ((p + 6 : Nat) : Int)) = some (S ((s.drop p).take 6)) := by
    rw [slice_nat L, Nat.add_sub_cancel_left]
  have hl1 : ((s.drop p).take 6).length ≤ 16777216 := by rw [List.length_take]; omega
  have e2 : ∀ n : Nat, dSlice (S s) (some ((p + 6 : Nat) : Int)) (some ((p + 6 + n : Nat) : Int)) = some (S (((s.drop p).drop 6).take n)) := by
    intro n; rw [slice_nat L, Nat.add_sub_cancel_left, List.drop_drop]
  have hl2 : ∀ n : Nat, (((s.drop p).drop 6).take n).length ≤ 10000 := by
    intro n; rw [List.length_take, List.length_drop, List.length_drop]; omega
  have hl3 : ∀ n : Nat, (((s.drop p).drop 6).take n).length ≤ 16777216 := fun n => by have := hl2 n; omega
  have w1 : Low ((s.drop p).take 6) := fun c m => hl c (List.mem_of_mem_drop (List.mem_of_mem_take m))
  have w2 : ∀ n, Low (((s.drop p).drop 6).take n) := fun n c m => hl c (List.mem_of_mem_drop (List.mem_of_mem_drop (List.mem_of_mem_take m)))
  generalize hu : s.drop p = u at *
  have hc : ∀ y6 y7 : Sl, oLc (iSeq (eVar 4)) (gNm 5) (toT (eOp2 dNotInA (eVar 5) (eC (S DG10)))) (eVar 5) [5] [.dat (S s), .dat (.tuple acc), .dat (.int (p : Int)), .dat j, .dat (S (u.take 6)), .un, y6, y7] = some (((u.take 6).filter (fun c => !decide (c ∈ DG10))).map (fun c => S [c]), [.dat (S s), .dat (.tuple acc), .dat (.int (p : Int)), .dat j, .dat (S (u.take 6)), .un, y6, y7]) := fun y6 y7 =>
    oLc_fm (f := fun c => S [c]) (G := fun c => [.dat (S s), .dat (.tuple acc), .dat (.int (p : Int)), .dat j, .dat (S (u.take 6)), .dat (S [c]), y6, y7]) rfl (fun c _ => ⟨rfl, rfl, rfl, fun _ => rfl⟩) hl1
  have en := ne_sigs (low_filter (p := fun c => !decide (c ∈ DG10)) w1)
  rw [sifted] at en
  change dNe _ _ = some (.bool (!okD (u.take 6))) at en
  have ea : ∀ t : List Nat, dAdd (.tuple acc) (.tuple [S t]) = some (.tuple (acc ++ [S t])) := fun t => by
    show (if acc.length + 1 ≤ sizeLine then some (PyData.tuple (acc ++ [S t])) else none) = _
    rw [szl, if_pos (by omega)]
  by_cases c1 : (u.take 6).length < 6
  · have et : textAt u = none := by unfold textAt; rw [if_pos c1]
    refine Or.inl ⟨et, ?_⟩
    unfold lfb
    rcases hx with ⟨rfl, rfl, rfl⟩ | ⟨a, b, c, rfl, rfl, rfl⟩ <;>
    simp -implicitDefEqProofs only [eVar, eC, eOp2, eOp1, toT, tOfB, eAnd, eOr, eNot, uAnd, uOr, uNot, eIf, aNil, aCons, eCall, eCallK, eTup, oLst, eOfO, eIsN, eNotN, gIsN_S, gNotN_S, gIsN_none, gNotN_none, gIsN_tup, gNotN_tup, gIsN_int, gNotN_int, gIsN_list, gNotN_list, gIsN_bool, gNotN_bool, gIsN_str, gNotN_str, eChain, eCellIx, eCellLen, eSlice, pNone, pSome, eMt1, oList, oListR1, iSeq, iEnum1, iEnum2, iRange1, iRange2, gNm, gTu, gTps, gCell, sNil, sSeq, sSet, sSetO, sRet, sRetO, sRetOwn, sRetN, sDrop, sIf, sNever, sAppend, sAsg, sPar, sParO, sFor, put0_un, put0_dat, put0_own, put_succ, put0_fr, cellAt, putCell, Sl.cell, Sl.withCell, g1, g2, eCallB, oCall, gk, permL, runF, runO, runB, padE, Option.bind_some, Option.map_some, Option.bind_none, Option.map_none, List.getElem?_cons_zero, List.getElem?_cons_succ, List.set_cons_zero, List.set_cons_succ, List.length_cons, List.length_nil, List.map_cons, List.map_nil, List.replicate, List.cons_append, List.nil_append, List.filterMap_cons, List.filterMap_nil, isStr_S, isStrD_str, if_true, if_false, reduceIte, Bool.not_true, Bool.not_false, Nat.reduceAdd, Nat.reduceSub, Nat.zero_add, decide_eq_true_eq, Bool.false_eq_true, reduceCtorEq, Bool.true_eq_false, and_self, true_and, and_true, Int.reduceNeg, add6_nat, e1, len_S hl1, lt_6, c1, decide_true, szl, show (2 : Nat) ≤ 16777216 by decide] <;> exact ⟨_, rfl⟩
  by_cases c2 : okD (u.take 6) = false
  · have et : textAt u = none := by unfold textAt; rw [if_neg c1, if_pos c2]
    refine Or.inl ⟨et, ?_⟩
    unfold lfb
    rcases hx with ⟨rfl, rfl, rfl⟩ | ⟨a, b, c, rfl, rfl, rfl⟩ <;>
    simp -implicitDefEqProofs only [eVar, eC, eOp2, eOp1, toT, tOfB, eAnd, eOr, eNot, uAnd, uOr, uNot, eIf, aNil, aCons, eCall, eCallK, eTup, oLst, eOfO, eIsN, eNotN, gIsN_S, gNotN_S, gIsN_none, gNotN_none, gIsN_tup, gNotN_tup, gIsN_int, gNotN_int, gIsN_list, gNotN_list, gIsN_bool, gNotN_bool, gIsN_str, gNotN_str, eChain, eCellIx, eCellLen, eSlice, pNone, pSome, eMt1, oList, oListR1, iSeq, iEnum1, iEnum2, iRange1, iRange2, gNm, gTu, gTps, gCell, sNil, sSeq, sSet, sSetO, sRet, sRetO, sRetOwn, sRetN, sDrop, sIf, sNever, sAppend, sAsg, sPar, sParO, sFor, put0_un, put0_dat, put0_own, put_succ, put0_fr, cellAt, putCell, Sl.cell, Sl.withCell, g1, g2, eCallB, oCall, gk, permL, runF, runO, runB, padE, Option.bind_some, Option.map_some, Option.bind_none, Option.map_none, List.getElem?_cons_zero, List.getElem?_cons_succ, List.set_cons_zero, List.set_cons_succ, List.length_cons, List.length_nil, List.map_cons, List.map_nil, List.replicate, List.cons_append, List.nil_append, List.filterMap_cons, List.filterMap_nil, isStr_S, isStrD_str, if_true, if_false, reduceIte, Bool.not_true, Bool.not_false, Nat.reduceAdd, Nat.reduceSub, Nat.zero_add, decide_eq_true_eq, Bool.false_eq_true, reduceCtorEq, Bool.true_eq_false, and_self, true_and, and_true, Int.reduceNeg, add6_nat, e1, len_S hl1, lt_6, c1, decide_false, DG_lit, hc, szl, show (2 : Nat) ≤ 16777216 by decide, show (0 : Nat) ≤ 16777216 by decide, en, c2] <;> exact ⟨_, rfl⟩
  have c2' : okD (u.take 6) = true := by simpa using c2
  have hd : Head u := ⟨by rw [List.length_take] at c1 ⊢; omega, c2'⟩
  have i1 := int_S3 hd.a3 hd.ad
  by_cases c3 : num3 ((u.take 6).take 3) = 0
  · have et : textAt u = none := by unfold textAt; rw [if_neg c1, if_neg c2, if_pos c3]
    refine Or.inl ⟨et, ?_⟩
    unfold lfb
    rcases hx with ⟨rfl, rfl, rfl⟩ | ⟨a, b, c, rfl, rfl, rfl⟩ <;>
    simp -implicitDefEqProofs only [eVar, eC, eOp2, eOp1, toT, tOfB, eAnd, eOr, eNot, uAnd, uOr, uNot, eIf, aNil, aCons, eCall, eCallK, eTup, oLst, eOfO, eIsN, eNotN, gIsN_S, gNotN_S, gIsN_none, gNotN_none, gIsN_tup, gNotN_tup, gIsN_int, gNotN_int, gIsN_list, gNotN_list, gIsN_bool, gNotN_bool, gIsN_str, gNotN_str, eChain, eCellIx, eCellLen, eSlice, pNone, pSome, eMt1, oList, oListR1, iSeq, iEnum1, iEnum2, iRange1, iRange2, gNm, gTu, gTps, gCell, sNil, sSeq, sSet, sSetO, sRet, sRetO, sRetOwn, sRetN, sDrop, sIf, sNever, sAppend, sAsg, sPar, sParO, sFor, put0_un, put0_dat, put0_own, put_succ, put0_fr, cellAt, putCell, Sl.cell, Sl.withCell, g1, g2, eCallB, oCall, gk, permL, runF, runO, runB, padE, Option.bind_some, Option.map_some, Option.bind_none, Option.map_none, List.getElem?_cons_zero, List.getElem?_cons_succ, List.set_cons_zero, List.set_cons_succ, List.length_cons, List.length_nil, List.map_cons, List.map_nil, List.replicate, List.cons_append, List.nil_append, List.filterMap_cons, List.filterMap_nil, isStr_S, isStrD_str, if_true, if_false, reduceIte, Bool.not_true, Bool.not_false, Nat.reduceAdd, Nat.reduceSub, Nat.zero_add, decide_eq_true_eq, Bool.false_eq_true, reduceCtorEq, Bool.true_eq_false, and_self, true_and, and_true, Int.reduceNeg, add6_nat, e1, len_S hl1, lt_6, c1, decide_false, DG_lit, hc, szl, show (2 : Nat) ≤ 16777216 by decide, show (0 : Nat) ≤ 16777216 by decide, en, c2', slice_to3 hl1, i1, add_nat, e2, eq_0, c3, decide_true] <;> exact ⟨_, rfl⟩
  by_cases c4 : ((u.drop 6).take (num3 ((u.take 6).take 3))).length < num3 ((u.take 6).take 3)
  · have et : textAt u = none := by unfold textAt; rw [if_neg c1, if_neg c2, if_neg c3, if_pos c4]
    refine Or.inl ⟨et, ?_⟩
    unfold lfb
    rcases hx with ⟨rfl, rfl, rfl⟩ | ⟨a, b, c, rfl, rfl, rfl⟩ <;>
    simp -implicitDefEqProofs only [eVar, eC, eOp2, eOp1, toT, tOfB, eAnd, eOr, eNot, uAnd, uOr, uNot, eIf, aNil, aCons, eCall, eCallK, eTup, oLst, eOfO, eIsN, eNotN, gIsN_S, gNotN_S, gIsN_none, gNotN_none, gIsN_tup, gNotN_tup, gIsN_int, gNotN_int, gIsN_list, gNotN_list, gIsN_bool, gNotN_bool, gIsN_str, gNotN_str, eChain, eCellIx, eCellLen, eSlice, pNone, pSome, eMt1, oList, oListR1, iSeq, iEnum1, iEnum2, iRange1, iRange2, gNm, gTu, gTps, gCell, sNil, sSeq, sSet, sSetO, sRet, sRetO, sRetOwn, sRetN, sDrop, sIf, sNever, sAppend, sAsg, sPar, sParO, sFor, put0_un, put0_dat, put0_own, put_succ, put0_fr, cellAt, putCell, Sl.cell, Sl.withCell, g1, g2, eCallB, oCall, gk, permL, runF, runO, runB, padE, Option.bind_some, Option.map_some, Option.bind_none, Option.map_none, List.getElem?_cons_zero, List.getElem?_cons_succ, List.set_cons_zero, List.set_cons_succ, List.length_cons, List.length_nil, List.map_cons, List.map_nil, List.replicate, List.cons_append, List.nil_append, List.filterMap_cons, List.filterMap_nil, isStr_S, isStrD_str, if_true, if_false, reduceIte, Bool.not_true, Bool.not_false, Nat.reduceAdd, Nat.reduceSub, Nat.zero_add, decide_eq_true_eq, Bool.false_eq_true, reduceCtorEq, Bool.true_eq_false, and_self, true_and, and_true, Int.reduceNeg, add6_nat, e1, len_S hl1, lt_6, c1, decide_false, DG_lit, hc, szl, show (2 : Nat) ≤ 16777216 by decide, show (0 : Nat) ≤ 16777216 by decide, en, c2', slice_to3 hl1, i1, add_nat, e2, eq_0, c3, len_S (hl3 _), lt_nat, c4, decide_true] <;> exact ⟨_, rfl⟩
  by_cases c5 : okS ((u.drop 6).take (num3 ((u.take 6).take 3))) = false
  · have et : textAt u = none := by unfold textAt; rw [if_neg c1, if_neg c2, if_neg c3, if_neg c4, if_pos c5]
    refine Or.inl ⟨et, ?_⟩
    unfold lfb
    rcases hx with ⟨rfl, rfl, rfl⟩ | ⟨a, b, c, rfl, rfl, rfl⟩ <;>
    simp -implicitDefEqProofs only [eVar, eC, eOp2, eOp1, toT, tOfB, eAnd, eOr, eNot, uAnd, uOr, uNot, eIf, aNil, aCons, eCall, eCallK, eTup, oLst, eOfO, eIsN, eNotN, gIsN_S, gNotN_S, gIsN_none, gNotN_none, gIsN_tup, gNotN_tup, gIsN_int, gNotN_int, gIsN_list, gNotN_list, gIsN_bool, gNotN_bool, gIsN_str, gNotN_str, eChain, eCellIx, eCellLen, eSlice, pNone, pSome, eMt1, oList, oListR1, iSeq, iEnum1, iEnum2, iRange1, iRange2, gNm, gTu, gTps, gCell, sNil, sSeq, sSet, sSetO, sRet, sRetO, sRetOwn, sRetN, sDrop, sIf, sNever, sAppend, sAsg, sPar, sParO, sFor, put0_un, put0_dat, put0_own, put_succ, put0_fr, cellAt, putCell, Sl.cell, Sl.withCell, g1, g2, eCallB, oCall, gk, permL, runF, runO, runB, padE, Option.bind_some, Option.map_some, Option.bind_none, Option.map_none, List.getElem?_cons_zero, List.getElem?_cons_succ, List.set_cons_zero, List.set_cons_succ, List.length_cons, List.length_nil, List.map_cons, List.map_nil, List.replicate, List.cons_append, List.nil_append, List.filterMap_cons, List.filterMap_nil, isStr_S, isStrD_str, if_true, if_false, reduceIte, Bool.not_true, Bool.not_false, Nat.reduceAdd, Nat.reduceSub, Nat.zero_add, decide_eq_true_eq, Bool.false_eq_true, reduceCtorEq, Bool.true_eq_false, and_self, true_and, and_true, Int.reduceNeg, add6_nat, e1, len_S hl1, lt_6, c1, decide_false, DG_lit, hc, szl, show (2 : Nat) ≤ 16777216 by decide, show (0 : Nat) ≤ 16777216 by decide, en, c2', slice_to3 hl1, i1, add_nat, e2, eq_0, c3, len_S (hl3 _), lt_nat, c4, is_signs_S (hl3 _) (w2 _), c5, decide_true] <;> exact ⟨_, rfl⟩
  have c5' : okS ((u.drop 6).take (num3 ((u.take 6).take 3))) = true := by simpa using c5
  have et : textAt u = if chk ((u.drop 6).take (num3 ((u.take 6).take 3))) = num3 ((u.take 6).drop 3) then some ((u.drop 6).take (num3 ((u.take 6).take 3))) else none := by
    unfold textAt; rw [if_neg c1, if_neg c2, if_neg c3, if_neg c4, if_neg c5]
  obtain ⟨b1, b2⟩ := num3_pv hd.b3 hd.bd
  have ez : decide (pv (chk ((u.drop 6).take (num3 ((u.take 6).take 3)))) = (u.take 6).drop 3) = decide (chk ((u.drop 6).take (num3 ((u.take 6).take 3))) = num3 ((u.take 6).drop 3)) := by
    apply decide_eq_decide.mpr
    constructor
    · intro h; exact pv_inj (chk_lt _) b1 (by rw [h]; exact b2)
    · intro h; rw [h]; exact b2.symm
  by_cases c6 : chk ((u.drop 6).take (num3 ((u.take 6).take 3))) = num3 ((u.take 6).drop 3)
  · rw [if_pos c6] at et
    refine Or.inr ⟨_, S (u.take 6), .int (num3 ((u.take 6).take 3) : Nat), S ((u.drop 6).take (num3 ((u.take 6).take 3))), et, ?_⟩
    have hlen : ((u.drop 6).take (num3 ((u.take 6).take 3))).length = num3 ((u.take 6).take 3) := by
      have := List.length_take_le (num3 ((u.take 6).take 3)) (u.drop 6); omega
    rw [hlen]
    unfold lfb
    rcases hx with ⟨rfl, rfl, rfl⟩ | ⟨a, b, c, rfl, rfl, rfl⟩ <;>
    simp -implicitDefEqProofs only [eVar, eC, eOp2, eOp1, toT, tOfB, eAnd, eOr, eNot, uAnd, uOr, uNot, eIf, aNil, aCons, eCall, eCallK, eTup, oLst, eOfO, eIsN, eNotN, gIsN_S, gNotN_S, gIsN_none, gNotN_none, gIsN_tup, gNotN_tup, gIsN_int, gNotN_int, gIsN_list, gNotN_list, gIsN_bool, gNotN_bool, gIsN_str, gNotN_str, eChain, eCellIx, eCellLen, eSlice, pNone, pSome, eMt1, oList, oListR1, iSeq, iEnum1, iEnum2, iRange1, iRange2, gNm, gTu, gTps, gCell, sNil, sSeq, sSet, sSetO, sRet, sRetO, sRetOwn, sRetN, sDrop, sIf, sNever, sAppend, sAsg, sPar, sParO, sFor, put0_un, put0_dat, put0_own, put_succ, put0_fr, cellAt, putCell, Sl.cell, Sl.withCell, g1, g2, eCallB, oCall, gk, permL, runF, runO, runB, padE, Option.bind_some, Option.map_some, Option.bind_none, Option.map_none, List.getElem?_cons_zero, List.getElem?_cons_succ, List.set_cons_zero, List.set_cons_succ, List.length_cons, List.length_nil, List.map_cons, List.map_nil, List.replicate, List.cons_append, List.nil_append, List.filterMap_cons, List.filterMap_nil, isStr_S, isStrD_str, if_true, if_false, reduceIte, Bool.not_true, Bool.not_false, Nat.reduceAdd, Nat.reduceSub, Nat.zero_add, decide_eq_true_eq, Bool.false_eq_true, reduceCtorEq, Bool.true_eq_false, and_self, true_and, and_true, Int.reduceNeg, add6_nat, e1, len_S hl1, lt_6, c1, decide_false, DG_lit, hc, szl, show (2 : Nat) ≤ 16777216 by decide, show (1 : Nat) ≤ 16777216 by decide, show (0 : Nat) ≤ 16777216 by decide, en, c2', slice_to3 hl1, slice_from3 hl1, i1, add_nat, e2, eq_0, c3, len_S (hl3 _), lt_nat, c4, is_signs_S (hl3 _) (w2 _), c5', law_check_S (hl2 _) c5', three_S (chk_lt _), ne_S3, ez, decide_eq_true c6, ea]
  · rw [if_neg c6] at et
    refine Or.inl ⟨et, ?_⟩
    unfold lfb
    rcases hx with ⟨rfl, rfl, rfl⟩ | ⟨a, b, c, rfl, rfl, rfl⟩ <;>
    simp -implicitDefEqProofs only [eVar, eC, eOp2, eOp1, toT, tOfB, eAnd, eOr, eNot, uAnd, uOr, uNot, eIf, aNil, aCons, eCall, eCallK, eTup, oLst, eOfO, eIsN, eNotN, gIsN_S, gNotN_S, gIsN_none, gNotN_none, gIsN_tup, gNotN_tup, gIsN_int, gNotN_int, gIsN_list, gNotN_list, gIsN_bool, gNotN_bool, gIsN_str, gNotN_str, eChain, eCellIx, eCellLen, eSlice, pNone, pSome, eMt1, oList, oListR1, iSeq, iEnum1, iEnum2, iRange1, iRange2, gNm, gTu, gTps, gCell, sNil, sSeq, sSet, sSetO, sRet, sRetO, sRetOwn, sRetN, sDrop, sIf, sNever, sAppend, sAsg, sPar, sParO, sFor, put0_un, put0_dat, put0_own, put_succ, put0_fr, cellAt, putCell, Sl.cell, Sl.withCell, g1, g2, eCallB, oCall, gk, permL, runF, runO, runB, padE, Option.bind_some, Option.map_some, Option.bind_none, Option.map_none, List.getElem?_cons_zero, List.getElem?_cons_succ, List.set_cons_zero, List.set_cons_succ, List.length_cons, List.length_nil, List.map_cons, List.map_nil, List.replicate, List.cons_append, List.nil_append, List.filterMap_cons, List.filterMap_nil, isStr_S, isStrD_str, if_true, if_false, reduceIte, Bool.not_true, Bool.not_false, Nat.reduceAdd, Nat.reduceSub, Nat.zero_add, decide_eq_true_eq, Bool.false_eq_true, reduceCtorEq, Bool.true_eq_false, and_self, true_and, and_true, Int.reduceNeg, add6_nat, e1, len_S hl1, lt_6, c1, decide_false, DG_lit, hc, szl, show (2 : Nat) ≤ 16777216 by decide, show (0 : Nat) ≤ 16777216 by decide, en, c2', slice_to3 hl1, slice_from3 hl1, i1, add_nat, e2, eq_0, c3, len_S (hl3 _), lt_nat, c4, is_signs_S (hl3 _) (w2 _), c5', law_check_S (hl2 _) c5', three_S (chk_lt _), ne_S3, ez, decide_eq_false c6] <;> exact ⟨_, rfl⟩
end Q43

set_option Elab.async false
set_option linter.all false
set_option maxRecDepth 100000
set_option maxHeartbeats 8000000
namespace Q43
open PySem PySem.Spec L2 DL
theorem lf_loop {s : List Nat} (hs : s.length ≤ 10000) (hl : Low s) : ∀ (ds : List Dt) (p : Nat) (acc : List (List Nat)) (x3 x4 x6 x7 : Sl), (x3 = .un ∨ ∃ d, x3 = .dat d) → Ux x4 x6 x7 → acc.length + ds.length ≤ 10000 →
    (∃ ρ', fLoop (gNm 3) lfb ds [.dat (S s), .dat (.tuple (acc.map S)), .dat (.int (p : Int)), x3, x4, .un, x6, x7] = some (.ret (.tuple [.tuple ((acc ++ (frF ds.length (s.drop p)).1).map S), .int ((p + (frF ds.length (s.drop p)).2 : Nat) : Int)]) ρ')) ∨
    (∃ y3 y4 y6 y7, fLoop (gNm 3) lfb ds [.dat (S s), .dat (.tuple (acc.map S)), .dat (.int (p : Int)), x3, x4, .un, x6, x7] = some (.nx [.dat (S s), .dat (.tuple ((acc ++ (frF ds.length (s.drop p)).1).map S)), .dat (.int ((p + (frF ds.length (s.drop p)).2 : Nat) : Int)), y3, y4, .un, y6, y7]))
  | [], p, acc, x3, x4, x6, x7, _, _, _ => Or.inr ⟨x3, x4, x6, x7, by
      show some (Out.nx _) = _
      simp only [List.length_nil, frF, List.append_nil, Nat.add_zero]⟩
  | d :: ds, p, acc, x3, x4, x6, x7, h3, hx, hb => by
    rw [List.length_cons] at hb
    have g3 : gNm 3 d [.dat (S s), .dat (.tuple (acc.map S)), .dat (.int (p : Int)), x3, x4, .un, x6, x7] = some [.dat (S s), .dat (.tuple (acc.map S)), .dat (.int (p : Int)), .dat d, x4, .un, x6, x7] := by
      rcases h3 with rfl | ⟨e, rfl⟩ <;> rfl
    have hd : fLoop (gNm 3) lfb (d :: ds) [.dat (S s), .dat (.tuple (acc.map S)), .dat (.int (p : Int)), x3, x4, .un, x6, x7] = (lfb [.dat (S s), .dat (.tuple (acc.map S)), .dat (.int (p : Int)), .dat d, x4, .un, x6, x7]).bind fun o => match o with
      | .nx ρ2 => fLoop (gNm 3) lfb ds ρ2
      | .ct ρ2 => fLoop (gNm 3) lfb ds ρ2
      | .bk ρ2 => some (.nx ρ2)
      | o => some o := by
      show (gNm 3 d _).bind _ = _
      rw [g3, Option.bind_some]
      rfl
    rw [hd, List.length_cons]
    rcases lfb_step hs hl p (acc.map S) (by rw [List.length_map]; omega) d x4 x6 x7 hx with ⟨ht, ρ', hr⟩ | ⟨t, a, b, c, ht, hr⟩
    · refine Or.inl ⟨ρ', ?_⟩
      rw [hr]
      show some (Out.ret _ _) = _
      simp only [frF, ht, List.append_nil, Nat.add_zero]
    · rw [hr, Option.bind_some]
      have e5 : acc.map S ++ [S t] = (acc ++ [t]).map S := by rw [List.map_append]; rfl
      have ih := lf_loop hs hl ds (p + 6 + t.length) (acc ++ [t]) (.dat d) (.dat a) (.dat b) (.dat c) (Or.inr ⟨_, rfl⟩) (Or.inr ⟨_, _, _, rfl, rfl, rfl⟩) (by rw [List.length_append, List.length_singleton]; omega)
      have hdr : s.drop (p + 6 + t.length) = (s.drop p).drop (6 + t.length) := by rw [List.drop_drop, Nat.add_assoc]
      have f1 : (frF (ds.length + 1) (s.drop p)).1 = t :: (frF ds.length ((s.drop p).drop (6 + t.length))).1 := by rw [frF, ht]
      have f2 : p + (frF (ds.length + 1) (s.drop p)).2 = p + 6 + t.length + (frF ds.length ((s.drop p).drop (6 + t.length))).2 := by rw [frF, ht]; show p + (6 + t.length + _) = _; omega
      rw [f1, f2, ← hdr]
      have e6 : acc ++ t :: (frF ds.length (s.drop (p + 6 + t.length))).1 = acc ++ [t] ++ (frF ds.length (s.drop (p + 6 + t.length))).1 := by rw [List.append_assoc]; rfl
      rw [e6, e5]
      exact ih
theorem range_len (n : Nat) : (rangeD 0 (n : Int)).length = n := by rw [range_zero]; simp
theorem law_frames_S {s : List Nat} (hs : s.length ≤ 10000) (hl : Low s) : r__law_frames_in [S s] = some (frS s) := by
  have L : s.length ≤ 16777216 := by omega
  have hr : -(2 ^ 62) ≤ (s.length : Int) ∧ (s.length : Int) < 2 ^ 62 := by omega
  have loop := lf_loop hs hl (rangeD 0 (s.length : Int)) 0 [] .un .un .un .un (Or.inl rfl) (Or.inl ⟨rfl, rfl, rfl⟩) (by rw [range_len]; simp; omega)
  have h0 : ((0 : Nat) : Int) = 0 := rfl
  rw [range_len, List.drop_zero, h0, List.map_nil, List.nil_append, Nat.zero_add] at loop
  have eb : b__law_frames_in = (sSeq (sAsg (eTup (aCons (eTup aNil) (aCons (eC (.int 0)) aNil))) (gTu [(gNm 1), (gNm 2)]))
    (sSeq (sFor (iRange1 (eCall (g1 dLen1) (aCons (eVar 0) aNil))) (gNm 3) lfb) (sRet (eTup (aCons (eVar 1) (aCons (eVar 2) aNil)))))) := rfl
  unfold r__law_frames_in
  rw [eb]
  rcases loop with ⟨ρ', h⟩ | ⟨y3, y4, y6, y7, h⟩
  · simp -implicitDefEqProofs only [eVar, eC, eOp2, eOp1, toT, tOfB, eAnd, eOr, eNot, uAnd, uOr, uNot, eIf, aNil, aCons, eCall, eCallK, eTup, oLst, eOfO, eIsN, eNotN, gIsN_S, gNotN_S, gIsN_none, gNotN_none, gIsN_tup, gNotN_tup, gIsN_int, gNotN_int, gIsN_list, gNotN_list, gIsN_bool, gNotN_bool, gIsN_str, gNotN_str, eChain, eCellIx, eCellLen, eSlice, pNone, pSome, eMt1, oList, oListR1, iSeq, iEnum1, iEnum2, iRange1, iRange2, gNm, gTu, gTps, gCell, sNil, sSeq, sSet, sSetO, sRet, sRetO, sRetOwn, sRetN, sDrop, sIf, sNever, sAppend, sAsg, sPar, sParO, sFor, put0_un, put0_dat, put0_own, put_succ, put0_fr, cellAt, putCell, Sl.cell, Sl.withCell, g1, g2, eCallB, oCall, gk, permL, runF, runO, runB, padE, Option.bind_some, Option.map_some, Option.bind_none, Option.map_none, List.getElem?_cons_zero, List.getElem?_cons_succ, List.set_cons_zero, List.set_cons_succ, List.length_cons, List.length_nil, List.map_cons, List.map_nil, List.replicate, List.cons_append, List.nil_append, List.filterMap_cons, List.filterMap_nil, isStr_S, isStrD_str, if_true, if_false, reduceIte, Bool.not_true, Bool.not_false, Nat.reduceAdd, Nat.reduceSub, Nat.zero_add, decide_eq_true_eq, Bool.false_eq_true, reduceCtorEq, Bool.true_eq_false, and_self, true_and, and_true, Int.reduceNeg, szl, show (0 : Nat) ≤ 16777216 by decide, show (2 : Nat) ≤ 16777216 by decide, len_S L, hr, h, frS]
  · simp -implicitDefEqProofs only [eVar, eC, eOp2, eOp1, toT, tOfB, eAnd, eOr, eNot, uAnd, uOr, uNot, eIf, aNil, aCons, eCall, eCallK, eTup, oLst, eOfO, eIsN, eNotN, gIsN_S, gNotN_S, gIsN_none, gNotN_none, gIsN_tup, gNotN_tup, gIsN_int, gNotN_int, gIsN_list, gNotN_list, gIsN_bool, gNotN_bool, gIsN_str, gNotN_str, eChain, eCellIx, eCellLen, eSlice, pNone, pSome, eMt1, oList, oListR1, iSeq, iEnum1, iEnum2, iRange1, iRange2, gNm, gTu, gTps, gCell, sNil, sSeq, sSet, sSetO, sRet, sRetO, sRetOwn, sRetN, sDrop, sIf, sNever, sAppend, sAsg, sPar, sParO, sFor, put0_un, put0_dat, put0_own, put_succ, put0_fr, cellAt, putCell, Sl.cell, Sl.withCell, g1, g2, eCallB, oCall, gk, permL, runF, runO, runB, padE, Option.bind_some, Option.map_some, Option.bind_none, Option.map_none, List.getElem?_cons_zero, List.getElem?_cons_succ, List.set_cons_zero, List.set_cons_succ, List.length_cons, List.length_nil, List.map_cons, List.map_nil, List.replicate, List.cons_append, List.nil_append, List.filterMap_cons, List.filterMap_nil, isStr_S, isStrD_str, if_true, if_false, reduceIte, Bool.not_true, Bool.not_false, Nat.reduceAdd, Nat.reduceSub, Nat.zero_add, decide_eq_true_eq, Bool.false_eq_true, reduceCtorEq, Bool.true_eq_false, and_self, true_and, and_true, Int.reduceNeg, szl, show (0 : Nat) ≤ 16777216 by decide, show (2 : Nat) ≤ 16777216 by decide, len_S L, hr, h, frS]
/-! ### alike -/
def Ok : Nat → Dt → Prop
  | 0, _ => False
  | n + 1, d => match d with
    | .none => True | .bool _ => True | .int _ => True | .str _ => True
    | .list ds => ds.length ≤ 10000 ∧ ∀ x ∈ ds, Ok n x
    | .tuple ds => ds.length ≤ 10000 ∧ ∀ x ∈ ds, Ok n x
    | .dict _ => False
theorem same_oLc {n : Nat} {ds : List Dt} {D : Dt} (hD : ∀ i : Nat, dIx D (.int (i : Int)) = atI ds (i : Int)) (hL : dLen1 D = some (.int (ds.length : Int))) (ih : ∀ x ∈ ds, r__law_same n [x, x] = some (.bool true)) (hz : ds.length ≤ 10000) :
    oLc (iRange1 (eCall (g1 dLen1) (aCons (eVar 1) aNil))) (gNm 2) uTrue (eCall (r__law_same n) (aCons (eOp2 dIx (eVar 0) (eVar 2)) (aCons (eOp2 dIx (eVar 1) (eVar 2)) aNil))) [2] [.dat D, .dat D, .un] = some ((List.range ds.length).map (fun _ => PyData.bool true), [.dat D, .dat D, .un]) := by
  apply oLc_map (f := fun i : Nat => PyData.int (i : Int)) (G := fun i => [.dat D, .dat D, .dat (.int (i : Int))])
  · have hr : -(2 ^ 62) ≤ (ds.length : Int) ∧ (ds.length : Int) < 2 ^ 62 := by omega
    simp -implicitDefEqProofs only [eVar, eC, eOp2, eOp1, toT, tOfB, eAnd, eOr, eNot, uAnd, uOr, uNot, eIf, aNil, aCons, eCall, eCallK, eTup, oLst, eOfO, eIsN, eNotN, gIsN_S, gNotN_S, gIsN_none, gNotN_none, gIsN_tup, gNotN_tup, gIsN_int, gNotN_int, gIsN_list, gNotN_list, gIsN_bool, gNotN_bool, gIsN_str, gNotN_str, eChain, eCellIx, eCellLen, eSlice, pNone, pSome, eMt1, oList, oListR1, iSeq, iEnum1, iEnum2, iRange1, iRange2, gNm, gTu, gTps, gCell, sNil, sSeq, sSet, sSetO, sRet, sRetO, sRetOwn, sRetN, sDrop, sIf, sNever, sAppend, sAsg, sPar, sParO, sFor, put0_un, put0_dat, put0_own, put_succ, put0_fr, cellAt, putCell, Sl.cell, Sl.withCell, g1, g2, eCallB, oCall, gk, permL, runF, runO, runB, padE, Option.bind_some, Option.map_some, Option.bind_none, Option.map_none, List.getElem?_cons_zero, List.getElem?_cons_succ, List.set_cons_zero, List.set_cons_succ, List.length_cons, List.length_nil, List.map_cons, List.map_nil, List.replicate, List.cons_append, List.nil_append, List.filterMap_cons, List.filterMap_nil, isStr_S, isStrD_str, if_true, if_false, reduceIte, Bool.not_true, Bool.not_false, Nat.reduceAdd, Nat.reduceSub, Nat.zero_add, decide_eq_true_eq, Bool.false_eq_true, reduceCtorEq, Bool.true_eq_false, and_self, true_and, and_true, Int.reduceNeg, hL, hr, range_zero]
  · intro i hi
    have hi : i < ds.length := List.mem_range.mp hi
    have e := hD i
    rw [atI_nat (List.getElem?_eq_getElem hi)] at e
    refine ⟨rfl, rfl, ?_⟩
    simp -implicitDefEqProofs only [eVar, eC, eOp2, eOp1, toT, tOfB, eAnd, eOr, eNot, uAnd, uOr, uNot, eIf, aNil, aCons, eCall, eCallK, eTup, oLst, eOfO, eIsN, eNotN, gIsN_S, gNotN_S, gIsN_none, gNotN_none, gIsN_tup, gNotN_tup, gIsN_int, gNotN_int, gIsN_list, gNotN_list, gIsN_bool, gNotN_bool, gIsN_str, gNotN_str, eChain, eCellIx, eCellLen, eSlice, pNone, pSome, eMt1, oList, oListR1, iSeq, iEnum1, iEnum2, iRange1, iRange2, gNm, gTu, gTps, gCell, sNil, sSeq, sSet, sSetO, sRet, sRetO, sRetOwn, sRetN, sDrop, sIf, sNever, sAppend, sAsg, sPar, sParO, sFor, put0_un, put0_dat, put0_own, put_succ, put0_fr, cellAt, putCell, Sl.cell, Sl.withCell, g1, g2, eCallB, oCall, gk, permL, runF, runO, runB, padE, Option.bind_some, Option.map_some, Option.bind_none, Option.map_none, List.getElem?_cons_zero, List.getElem?_cons_succ, List.set_cons_zero, List.set_cons_succ, List.length_cons, List.length_nil, List.map_cons, List.map_nil, List.replicate, List.cons_append, List.nil_append, List.filterMap_cons, List.filterMap_nil, isStr_S, isStrD_str, if_true, if_false, reduceIte, Bool.not_true, Bool.not_false, Nat.reduceAdd, Nat.reduceSub, Nat.zero_add, decide_eq_true_eq, Bool.false_eq_true, reduceCtorEq, Bool.true_eq_false, and_self, true_and, and_true, Int.reduceNeg, e, ih _ (List.getElem_mem hi)]
  · rw [List.length_range]; omega
theorem all_range (n : Nat) : dAll (.list ((List.range n).map fun _ => PyData.bool true)) = some (.bool true) := by
  rw [dAll_map]; simp
theorem same_refl : ∀ (n : Nat) (d : Dt), Ok n d → r__law_same n [d, d] = some (.bool true)
  | 0, _, h => h.elim
  | n + 1, .none, _ => rfl
  | n + 1, .bool b, _ => by cases b <;> rfl
  | n + 1, .int i, _ => by
    have e : dEq (.int i) (.int i) = some (.bool true) := by
      show some (PyData.bool (decide (V.int i = V.int i))) = _; rw [decide_eq_true rfl]
    have h1 : dIsi "tuple" (.int i) = some (.bool false) := rfl
    have h2 : dIsi "list" (.int i) = some (.bool false) := rfl
    have h3 : dIsi "bool" (.int i) = some (.bool false) := rfl
    have h4 : dIsi "int" (.int i) = some (.bool true) := rfl
    show runF 2 3 (b__law_same (r__law_same n)) [.int i, .int i] = _
    unfold b__law_same
    simp -implicitDefEqProofs only [eVar, eC, eOp2, eOp1, toT, tOfB, eAnd, eOr, eNot, uAnd, uOr, uNot, eIf, aNil, aCons, eCall, eCallK, eTup, oLst, eOfO, eIsN, eNotN, gIsN_S, gNotN_S, gIsN_none, gNotN_none, gIsN_tup, gNotN_tup, gIsN_int, gNotN_int, gIsN_list, gNotN_list, gIsN_bool, gNotN_bool, gIsN_str, gNotN_str, eChain, eCellIx, eCellLen, eSlice, pNone, pSome, eMt1, oList, oListR1, iSeq, iEnum1, iEnum2, iRange1, iRange2, gNm, gTu, gTps, gCell, sNil, sSeq, sSet, sSetO, sRet, sRetO, sRetOwn, sRetN, sDrop, sIf, sNever, sAppend, sAsg, sPar, sParO, sFor, put0_un, put0_dat, put0_own, put_succ, put0_fr, cellAt, putCell, Sl.cell, Sl.withCell, g1, g2, eCallB, oCall, gk, permL, runF, runO, runB, padE, Option.bind_some, Option.map_some, Option.bind_none, Option.map_none, List.getElem?_cons_zero, List.getElem?_cons_succ, List.set_cons_zero, List.set_cons_succ, List.length_cons, List.length_nil, List.map_cons, List.map_nil, List.replicate, List.cons_append, List.nil_append, List.filterMap_cons, List.filterMap_nil, isStr_S, isStrD_str, if_true, if_false, reduceIte, Bool.not_true, Bool.not_false, Nat.reduceAdd, Nat.reduceSub, Nat.zero_add, decide_eq_true_eq, Bool.false_eq_true, reduceCtorEq, Bool.true_eq_false, and_self, true_and, and_true, Int.reduceNeg, h1, h2, h3, h4, e]
  | n + 1, .str i, _ => by
    have e : dEq (.str i) (.str i) = some (.bool true) := by
      show some (PyData.bool (decide (V.str i = V.str i))) = _; rw [decide_eq_true rfl]
    have h1 : dIsi "tuple" (.str i) = some (.bool false) := rfl
    have h2 : dIsi "list" (.str i) = some (.bool false) := rfl
    have h3 : dIsi "bool" (.str i) = some (.bool false) := rfl
    have h4 : dIsi "int" (.str i) = some (.bool false) := rfl
    have h5 : dIsi "str" (.str i) = some (.bool true) := rfl
    show runF 2 3 (b__law_same (r__law_same n)) [.str i, .str i] = _
    unfold b__law_same
    simp -implicitDefEqProofs only [eVar, eC, eOp2, eOp1, toT, tOfB, eAnd, eOr, eNot, uAnd, uOr, uNot, eIf, aNil, aCons, eCall, eCallK, eTup, oLst, eOfO, eIsN, eNotN, gIsN_S, gNotN_S, gIsN_none, gNotN_none, gIsN_tup, gNotN_tup, gIsN_int, gNotN_int, gIsN_list, gNotN_list, gIsN_bool, gNotN_bool, gIsN_str, gNotN_str, eChain, eCellIx, eCellLen, eSlice, pNone, pSome, eMt1, oList, oListR1, iSeq, iEnum1, iEnum2, iRange1, iRange2, gNm, gTu, gTps, gCell, sNil, sSeq, sSet, sSetO, sRet, sRetO, sRetOwn, sRetN, sDrop, sIf, sNever, sAppend, sAsg, sPar, sParO, sFor, put0_un, put0_dat, put0_own, put_succ, put0_fr, cellAt, putCell, Sl.cell, Sl.withCell, g1, g2, eCallB, oCall, gk, permL, runF, runO, runB, padE, Option.bind_some, Option.map_some, Option.bind_none, Option.map_none, List.getElem?_cons_zero, List.getElem?_cons_succ, List.set_cons_zero, List.set_cons_succ, List.length_cons, List.length_nil, List.map_cons, List.map_nil, List.replicate, List.cons_append, List.nil_append, List.filterMap_cons, List.filterMap_nil, isStr_S, isStrD_str, if_true, if_false, reduceIte, Bool.not_true, Bool.not_false, Nat.reduceAdd, Nat.reduceSub, Nat.zero_add, decide_eq_true_eq, Bool.false_eq_true, reduceCtorEq, Bool.true_eq_false, and_self, true_and, and_true, Int.reduceNeg, h1, h2, h3, h4, h5, e]
  | n + 1, .list ds, h => by
    obtain ⟨hz, hx⟩ := h
    have hL : dLen1 (.list ds) = some (.int (ds.length : Int)) := rfl
    have hc := same_oLc (n := n) (ds := ds) (D := .list ds) (fun i => rfl) hL (fun x m => same_refl n x (hx x m)) hz
    have e : dEq (.int (ds.length : Int)) (.int (ds.length : Int)) = some (.bool true) := by rw [eq_nat, decide_eq_true rfl]
    have h1 : dIsi "tuple" (.list ds) = some (.bool false) := rfl
    have h2 : dIsi "list" (.list ds) = some (.bool true) := rfl
    have n1 : dNe (.bool true) (.bool true) = some (.bool false) := rfl
    have n2 : dNe (.bool false) (.bool false) = some (.bool false) := rfl
    show runF 2 3 (b__law_same (r__law_same n)) [.list ds, .list ds] = _
    unfold b__law_same
    simp -implicitDefEqProofs only [eVar, eC, eOp2, eOp1, toT, tOfB, eAnd, eOr, eNot, uAnd, uOr, uNot, eIf, aNil, aCons, eCall, eCallK, eTup, oLst, eOfO, eIsN, eNotN, gIsN_S, gNotN_S, gIsN_none, gNotN_none, gIsN_tup, gNotN_tup, gIsN_int, gNotN_int, gIsN_list, gNotN_list, gIsN_bool, gNotN_bool, gIsN_str, gNotN_str, eChain, eCellIx, eCellLen, eSlice, pNone, pSome, eMt1, oList, oListR1, iSeq, iEnum1, iEnum2, iRange1, iRange2, gNm, gTu, gTps, gCell, sNil, sSeq, sSet, sSetO, sRet, sRetO, sRetOwn, sRetN, sDrop, sIf, sNever, sAppend, sAsg, sPar, sParO, sFor, put0_un, put0_dat, put0_own, put_succ, put0_fr, cellAt, putCell, Sl.cell, Sl.withCell, g1, g2, eCallB, oCall, gk, permL, runF, runO, runB, padE, Option.bind_some, Option.map_some, Option.bind_none, Option.map_none, List.getElem?_cons_zero, List.getElem?_cons_succ, List.set_cons_zero, List.set_cons_succ, List.length_cons, List.length_nil, List.map_cons, List.map_nil, List.replicate, List.cons_append, List.nil_append, List.filterMap_cons, List.filterMap_nil, isStr_S, isStrD_str, if_true, if_false, reduceIte, Bool.not_true, Bool.not_false, Nat.reduceAdd, Nat.reduceSub, Nat.zero_add, decide_eq_true_eq, Bool.false_eq_true, reduceCtorEq, Bool.true_eq_false, and_self, true_and, and_true, Int.reduceNeg, h1, h2, n1, n2, hL, e, hc, all_range]
  | n + 1, .tuple ds, h => by
    obtain ⟨hz, hx⟩ := h
    have hL : dLen1 (.tuple ds) = some (.int (ds.length : Int)) := rfl
    have hc := same_oLc (n := n) (ds := ds) (D := .tuple ds) (fun i => rfl) hL (fun x m => same_refl n x (hx x m)) hz
    have e : dEq (.int (ds.length : Int)) (.int (ds.length : Int)) = some (.bool true) := by rw [eq_nat, decide_eq_true rfl]
    have h1 : dIsi "tuple" (.tuple ds) = some (.bool true) := rfl
    have h2 : dIsi "list" (.tuple ds) = some (.bool false) := rfl
    have n1 : dNe (.bool true) (.bool true) = some (.bool false) := rfl
    have n2 : dNe (.bool false) (.bool false) = some (.bool false) := rfl
    show runF 2 3 (b__law_same (r__law_same n)) [.tuple ds, .tuple ds] = _
    unfold b__law_same
    simp -implicitDefEqProofs only [eVar, eC, eOp2, eOp1, toT, tOfB, eAnd, eOr, eNot, uAnd, uOr, uNot, eIf, aNil, aCons, eCall, eCallK, eTup, oLst, eOfO, eIsN, eNotN, gIsN_S, gNotN_S, gIsN_none, gNotN_none, gIsN_tup, gNotN_tup, gIsN_int, gNotN_int, gIsN_list, gNotN_list, gIsN_bool, gNotN_bool, gIsN_str, gNotN_str, eChain, eCellIx, eCellLen, eSlice, pNone, pSome, eMt1, oList, oListR1, iSeq, iEnum1, iEnum2, iRange1, iRange2, gNm, gTu, gTps, gCell, sNil, sSeq, sSet, sSetO, sRet, sRetO, sRetOwn, sRetN, sDrop, sIf, sNever, sAppend, sAsg, sPar, sParO, sFor, put0_un, put0_dat, put0_own, put_succ, put0_fr, cellAt, putCell, Sl.cell, Sl.withCell, g1, g2, eCallB, oCall, gk, permL, runF, runO, runB, padE, Option.bind_some, Option.map_some, Option.bind_none, Option.map_none, List.getElem?_cons_zero, List.getElem?_cons_succ, List.set_cons_zero, List.set_cons_succ, List.length_cons, List.length_nil, List.map_cons, List.map_nil, List.replicate, List.cons_append, List.nil_append, List.filterMap_cons, List.filterMap_nil, isStr_S, isStrD_str, if_true, if_false, reduceIte, Bool.not_true, Bool.not_false, Nat.reduceAdd, Nat.reduceSub, Nat.zero_add, decide_eq_true_eq, Bool.false_eq_true, reduceCtorEq, Bool.true_eq_false, and_self, true_and, and_true, Int.reduceNeg, h1, h2, n1, n2, hL, e, hc, all_range]
  | n + 1, .dict _, h => h.elim
end Q43

set_option Elab.async false
set_option linter.all false
set_option maxRecDepth 100000
set_option maxHeartbeats 8000000
namespace Q43
open PySem PySem.Spec L2 DL
def WellOk (w : List Dt) : Prop := ∃ a b c : Nat, w = [.int (a : Int), .int (b : Int), .int (c : Int)] ∧ b < 2147483563
theorem mod_gen (n m : Nat) (h : 0 < m) : dMod (.int (n : Int)) (.int (m : Int)) = some (.int ((n % m : Nat) : Int)) := by
  simp only [dMod]
  rw [if_pos (by omega), Int.fmod_eq_emod_of_nonneg _ (by omega)]; rfl
theorem modI_gen (i : Int) (m : Nat) (h : 0 < m) : ∃ r : Nat, r < m ∧ dMod (.int i) (.int (m : Int)) = some (.int (r : Int)) := by
  have h1 : 0 ≤ i % (m : Int) := Int.emod_nonneg _ (by omega)
  have h2 : i % (m : Int) < (m : Int) := Int.emod_lt_of_pos _ (by omega)
  refine ⟨(i % (m : Int)).toNat, by omega, ?_⟩
  simp only [dMod]
  rw [if_pos (by omega), Int.fmod_eq_emod_of_nonneg _ (by omega), Int.toNat_of_nonneg h1]
theorem mod_28657 (n : Nat) : dMod (.int (n : Int)) (.int 28657) = some (.int ((n % 28657 : Nat) : Int)) := mod_gen n 28657 (by decide)
theorem mod_big (n : Nat) : dMod (.int (n : Int)) (.int 2147483563) = some (.int ((n % 2147483563 : Nat) : Int)) := mod_gen n 2147483563 (by decide)
theorem div_83 (n : Nat) : dDiv (.int (n : Int)) (.int 83) = some (.int ((n / 83 : Nat) : Int)) := by
  simp only [dDiv]
  rw [if_pos (by decide)]; rfl
theorem mul_l (n m : Nat) (h : n < 1000000) : dMulA (.int (n : Int)) (.int (m : Int)) = some (.int ((n * m : Nat) : Int)) := by
  show dMul (.int (n : Int)) (.int (m : Int)) = _
  simp only [dMul]
  rw [if_pos (Or.inl ⟨by omega, by omega⟩)]
  rfl
theorem mul_50023 (m : Nat) : dMulA (.int 50023) (.int (m : Int)) = some (.int ((50023 * m : Nat) : Int)) := mul_l 50023 m (by decide)
theorem add_17 (n : Nat) : dAdd (.int (n : Int)) (.int 17) = some (.int ((n + 17 : Nat) : Int)) := add_nat n 17
theorem add_40009 (n : Nat) : dAdd (.int (n : Int)) (.int 40009) = some (.int ((n + 40009 : Nat) : Int)) := add_nat n 40009
theorem int_int (n : Nat) : dInt (.int (n : Int)) = some (.int (n : Int)) := rfl
theorem gt_0 (n : Nat) : dGt (.int (n : Int)) (.int 0) = some (.bool (decide (0 < n))) := by
  show some (PyData.bool (decide ((0 : Int) < (n : Int)))) = _
  congr 2; exact decide_eq_decide.mpr (by omega)
theorem divmod_nat (n m : Nat) (h : 0 < m) (h2 : m < 1073741824) : dDivmod (.int (n : Int)) (.int (m : Int)) = some (.tuple [.int ((n / m : Nat) : Int), .int ((n % m : Nat) : Int)]) := by
  simp only [dDivmod]
  rw [if_pos ⟨by omega, by omega⟩]; rfl
theorem at3_0 {x y z : Dt} : atI [x, y, z] 0 = some x := rfl
theorem at3_1 {x y z : Dt} : atI [x, y, z] 1 = some y := rfl
theorem at3_2 {x y z : Dt} : atI [x, y, z] 2 = some z := rfl
theorem ix3_0 : ixN 3 0 = some 0 := rfl
theorem ix3_1 : ixN 3 1 = some 1 := rfl
theorem ix3_2 : ixN 3 2 = some 2 := rfl
theorem take_S {w : List Dt} (hw : WellOk w) {many : Nat} (h1 : 0 < many) (h2 : many < 1073741824) :
    ∃ (r : Nat) (w' : List Dt), r__law_take w [.int (many : Int)] = some (.int (r : Int), w') ∧ r < many ∧ WellOk w' := by
  obtain ⟨a, b, c, rfl, hb⟩ := hw
  by_cases ha : 0 < a
  · refine ⟨a % many, [.int ((a / many : Nat) : Int), .int (b : Int), .int (c : Int)], ?_, Nat.mod_lt _ h1, ⟨a / many, b, c, rfl, hb⟩⟩
    unfold r__law_take b__law_take
    simp -implicitDefEqProofs only [eVar, eC, eOp2, eOp1, toT, tOfB, eAnd, eOr, eNot, uAnd, uOr, uNot, eIf, aNil, aCons, eCall, eCallK, eTup, oLst, eOfO, eIsN, eNotN, gIsN_S, gNotN_S, gIsN_none, gNotN_none, gIsN_tup, gNotN_tup, gIsN_int, gNotN_int, gIsN_list, gNotN_list, gIsN_bool, gNotN_bool, gIsN_str, gNotN_str, eChain, eCellIx, eCellLen, eSlice, pNone, pSome, eMt1, oList, oListR1, iSeq, iEnum1, iEnum2, iRange1, iRange2, gNm, gTu, gTps, gCell, sNil, sSeq, sSet, sSetO, sRet, sRetO, sRetOwn, sRetN, sDrop, sIf, sNever, sAppend, sAsg, sPar, sParO, sFor, put0_un, put0_dat, put0_own, put_succ, put0_fr, cellAt, putCell, Sl.cell, Sl.withCell, g1, g2, eCallB, oCall, gk, permL, runF, runO, runB, padE, Option.bind_some, Option.map_some, Option.bind_none, Option.map_none, List.getElem?_cons_zero, List.getElem?_cons_succ, List.set_cons_zero, List.set_cons_succ, List.length_cons, List.length_nil, List.map_cons, List.map_nil, List.replicate, List.cons_append, List.nil_append, List.filterMap_cons, List.filterMap_nil, isStr_S, isStrD_str, if_true, if_false, reduceIte, Bool.not_true, Bool.not_false, Nat.reduceAdd, Nat.reduceSub, Nat.zero_add, decide_eq_true_eq, Bool.false_eq_true, reduceCtorEq, Bool.true_eq_false, and_self, true_and, and_true, Int.reduceNeg, at3_0, gt_0, ha, decide_true, divmod_nat a many h1 h2, ix3_0]
  · have hm := mod_28657 b
    have hb2 : b % 28657 + 40009 < 1000000 := by have := Nat.mod_lt b (show 0 < 28657 by decide); omega
    refine ⟨_, _, ?_, Nat.mod_lt (((b * (b % 28657 + 40009) + 50023 * (c + 1) + 17) % 2147483563) / 83) h1, ⟨a, (b * (b % 28657 + 40009) + 50023 * (c + 1) + 17) % 2147483563, c + 1, rfl, Nat.mod_lt _ (by decide)⟩⟩
    unfold r__law_take b__law_take
    simp -implicitDefEqProofs only [eVar, eC, eOp2, eOp1, toT, tOfB, eAnd, eOr, eNot, uAnd, uOr, uNot, eIf, aNil, aCons, eCall, eCallK, eTup, oLst, eOfO, eIsN, eNotN, gIsN_S, gNotN_S, gIsN_none, gNotN_none, gIsN_tup, gNotN_tup, gIsN_int, gNotN_int, gIsN_list, gNotN_list, gIsN_bool, gNotN_bool, gIsN_str, gNotN_str, eChain, eCellIx, eCellLen, eSlice, pNone, pSome, eMt1, oList, oListR1, iSeq, iEnum1, iEnum2, iRange1, iRange2, gNm, gTu, gTps, gCell, sNil, sSeq, sSet, sSetO, sRet, sRetO, sRetOwn, sRetN, sDrop, sIf, sNever, sAppend, sAsg, sPar, sParO, sFor, put0_un, put0_dat, put0_own, put_succ, put0_fr, cellAt, putCell, Sl.cell, Sl.withCell, g1, g2, eCallB, oCall, gk, permL, runF, runO, runB, padE, Option.bind_some, Option.map_some, Option.bind_none, Option.map_none, List.getElem?_cons_zero, List.getElem?_cons_succ, List.set_cons_zero, List.set_cons_succ, List.length_cons, List.length_nil, List.map_cons, List.map_nil, List.replicate, List.cons_append, List.nil_append, List.filterMap_cons, List.filterMap_nil, isStr_S, isStrD_str, if_true, if_false, reduceIte, Bool.not_true, Bool.not_false, Nat.reduceAdd, Nat.reduceSub, Nat.zero_add, decide_eq_true_eq, Bool.false_eq_true, reduceCtorEq, Bool.true_eq_false, and_self, true_and, and_true, Int.reduceNeg, at3_0, gt_0, ha, decide_false, at3_2, add1_nat, ix3_2, at3_1, int_int, mod_28657, add_40009, mul_nat b _ hb2, mul_50023, add_nat, add_17, mod_big, ix3_1, div_83, mod_gen _ many h1]
theorem pick_S {w : List Dt} (hw : WellOk w) {l : List Nat} (h1 : l ≠ []) (h2 : l.length ≤ 10000) :
    ∃ c ∈ l, ∃ w', r__law_pick w [S l] = some (S [c], w') ∧ WellOk w' := by
  have hl : 0 < l.length := List.length_pos_iff.mpr h1
  obtain ⟨r, w', e, hr, hw'⟩ := take_S hw hl (by omega)
  refine ⟨l[r], List.getElem_mem hr, w', ?_, hw'⟩
  have e2 : dLen1 (S l) = some (.int (l.length : Int)) := len_S (by omega)
  have e3 : dIx (S l) (.int (r : Int)) = some (S [l[r]]) := ix_S (by omega) (List.getElem?_eq_getElem hr)
  unfold r__law_pick b__law_pick
  simp -implicitDefEqProofs only [eVar, eC, eOp2, eOp1, toT, tOfB, eAnd, eOr, eNot, uAnd, uOr, uNot, eIf, aNil, aCons, eCall, eCallK, eTup, oLst, eOfO, eIsN, eNotN, gIsN_S, gNotN_S, gIsN_none, gNotN_none, gIsN_tup, gNotN_tup, gIsN_int, gNotN_int, gIsN_list, gNotN_list, gIsN_bool, gNotN_bool, gIsN_str, gNotN_str, eChain, eCellIx, eCellLen, eSlice, pNone, pSome, eMt1, oList, oListR1, iSeq, iEnum1, iEnum2, iRange1, iRange2, gNm, gTu, gTps, gCell, sNil, sSeq, sSet, sSetO, sRet, sRetO, sRetOwn, sRetN, sDrop, sIf, sNever, sAppend, sAsg, sPar, sParO, sFor, put0_un, put0_dat, put0_own, put_succ, put0_fr, cellAt, putCell, Sl.cell, Sl.withCell, g1, g2, eCallB, oCall, gk, permL, runF, runO, runB, padE, Option.bind_some, Option.map_some, Option.bind_none, Option.map_none, List.getElem?_cons_zero, List.getElem?_cons_succ, List.set_cons_zero, List.set_cons_succ, List.length_cons, List.length_nil, List.map_cons, List.map_nil, List.replicate, List.cons_append, List.nil_append, List.filterMap_cons, List.filterMap_nil, isStr_S, isStrD_str, if_true, if_false, reduceIte, Bool.not_true, Bool.not_false, Nat.reduceAdd, Nat.reduceSub, Nat.zero_add, decide_eq_true_eq, Bool.false_eq_true, reduceCtorEq, Bool.true_eq_false, and_self, true_and, and_true, Int.reduceNeg, e2, e, e3]
theorem pick_L {w : List Dt} (hw : WellOk w) {l : List Dt} (h1 : l ≠ []) (h2 : l.length ≤ 10000) :
    ∃ c ∈ l, ∃ w', r__law_pick w [.list l] = some (c, w') ∧ WellOk w' := by
  have hl : 0 < l.length := List.length_pos_iff.mpr h1
  obtain ⟨r, w', e, hr, hw'⟩ := take_S hw hl (by omega)
  refine ⟨l[r], List.getElem_mem hr, w', ?_, hw'⟩
  have e2 : dLen1 (.list l) = some (.int (l.length : Int)) := rfl
  have e3 : dIx (.list l) (.int (r : Int)) = some l[r] := atI_nat (List.getElem?_eq_getElem hr)
  unfold r__law_pick b__law_pick
  simp -implicitDefEqProofs only [eVar, eC, eOp2, eOp1, toT, tOfB, eAnd, eOr, eNot, uAnd, uOr, uNot, eIf, aNil, aCons, eCall, eCallK, eTup, oLst, eOfO, eIsN, eNotN, gIsN_S, gNotN_S, gIsN_none, gNotN_none, gIsN_tup, gNotN_tup, gIsN_int, gNotN_int, gIsN_list, gNotN_list, gIsN_bool, gNotN_bool, gIsN_str, gNotN_str, eChain, eCellIx, eCellLen, eSlice, pNone, pSome, eMt1, oList, oListR1, iSeq, iEnum1, iEnum2, iRange1, iRange2, gNm, gTu, gTps, gCell, sNil, sSeq, sSet, sSetO, sRet, sRetO, sRetOwn, sRetN, sDrop, sIf, sNever, sAppend, sAsg, sPar, sParO, sFor, put0_un, put0_dat, put0_own, put_succ, put0_fr, cellAt, putCell, Sl.cell, Sl.withCell, g1, g2, eCallB, oCall, gk, permL, runF, runO, runB, padE, Option.bind_some, Option.map_some, Option.bind_none, Option.map_none, List.getElem?_cons_zero, List.getElem?_cons_succ, List.set_cons_zero, List.set_cons_succ, List.length_cons, List.length_nil, List.map_cons, List.map_nil, List.replicate, List.cons_append, List.nil_append, List.filterMap_cons, List.filterMap_nil, isStr_S, isStrD_str, if_true, if_false, reduceIte, Bool.not_true, Bool.not_false, Nat.reduceAdd, Nat.reduceSub, Nat.zero_add, decide_eq_true_eq, Bool.false_eq_true, reduceCtorEq, Bool.true_eq_false, and_self, true_and, and_true, Int.reduceNeg, e2, e, e3]
/-! ### texts drawn -/
theorem all_ex {α β : Type} (f : α → β) (P : α → Prop) : ∀ {ys : List β}, (∀ y ∈ ys, ∃ c, P c ∧ y = f c) → ∃ cs : List α, ys = cs.map f ∧ ∀ c ∈ cs, P c
  | [], _ => ⟨[], rfl, by simp⟩
  | y :: ys, h => by
    obtain ⟨c, hc, rfl⟩ := h y List.mem_cons_self
    obtain ⟨cs, rfl, h2⟩ := all_ex f P (ys := ys) fun z m => h z (List.mem_cons_of_mem _ m)
    refine ⟨c :: cs, rfl, ?_⟩
    intro z hz
    rcases List.mem_cons.mp hz with rfl | hz
    · exact hc
    · exact h2 z hz
theorem flat_one : ∀ cs : List Nat, (cs.map fun c => [c]).flatten = cs
  | [] => rfl
  | c :: cs => by rw [List.map_cons, List.flatten_cons, flat_one cs]; rfl
def KT : List (List Nat) := [SG, DG10, [112, 117, 116, 32, 99, 117, 116, 32, 40, 44, 41], [122, 121, 120, 32, 61]]
theorem KT_ok : ∀ k ∈ KT, okS k = true ∧ k ≠ [] ∧ k.length ≤ 10000 := by decide
theorem text_S {w : List Dt} (hw : WellOk w) {most : Nat} (h1 : 0 < most) (h2 : most ≤ 200) :
    ∃ (t : List Nat) (w' : List Dt), r__law_text w [.int (most : Int)] = some (S t, w') ∧ GT t ∧ WellOk w' := by
  obtain ⟨r, w1, e1, hr, hw1⟩ := take_S hw (many := 4) (by decide) (by decide)
  obtain ⟨q, w2, e2, hq, hw2⟩ := take_S hw1 h1 (by omega)
  have e1' : r__law_take w [.int 4] = some (.int (r : Int), w1) := e1
  have hrl : r < KT.length := hr
  have e3 : dIx (.list [S SG, S DG10, .str "put cut (,)", .str "zyx ="]) (.int (r : Int)) = some (S KT[r]) := by
    have h : ([S SG, S DG10, .str "put cut (,)", .str "zyx ="] : List Dt)[r]? = some (S KT[r]) := by
      match r, hrl with
      | 0, _ => rfl
      | 1, _ => rfl
      | 2, _ => rfl
      | 3, _ => rfl
    exact atI_nat h
  obtain ⟨k1, k2, k3⟩ := KT_ok KT[r] (List.getElem_mem hrl)
  generalize KT[r] = kt at *
  have e4 : dAdd (.int 1) (.int (q : Int)) = some (.int ((1 + q : Nat) : Int)) := add_nat 1 q
  have hr62 : -(2 ^ 62) ≤ ((1 + q : Nat) : Int) ∧ ((1 + q : Nat) : Int) < 2 ^ 62 := by omega
  obtain ⟨ys, w3, c1, hw3, c3, c4⟩ := oLc_bor (fi := iRange1 (eVar 3)) (g := gNm 5) (te := eCallB r__law_pick 0 (aCons (eVar 4) aNil)) (vs := [5]) (f := fun i : Nat => PyData.int (i : Int)) (l := List.range (1 + q))
    (E := fun w => [.bor w, .dat (.int (most : Int)), .dat (.int (r : Int)), .dat (.int ((1 + q : Nat) : Int)), .dat (S kt), .un]) (Pw := WellOk) (Py := fun y => ∃ c, c ∈ kt ∧ y = S [c]) (w := w2)
    (by simp -implicitDefEqProofs only [eVar, eC, eOp2, eOp1, toT, tOfB, eAnd, eOr, eNot, uAnd, uOr, uNot, eIf, aNil, aCons, eCall, eCallK, eTup, oLst, eOfO, eIsN, eNotN, gIsN_S, gNotN_S, gIsN_none, gNotN_none, gIsN_tup, gNotN_tup, gIsN_int, gNotN_int, gIsN_list, gNotN_list, gIsN_bool, gNotN_bool, gIsN_str, gNotN_str, eChain, eCellIx, eCellLen, eSlice, pNone, pSome, eMt1, oList, oListR1, iSeq, iEnum1, iEnum2, iRange1, iRange2, gNm, gTu, gTps, gCell, sNil, sSeq, sSet, sSetO, sRet, sRetO, sRetOwn, sRetN, sDrop, sIf, sNever, sAppend, sAsg, sPar, sParO, sFor, put0_un, put0_dat, put0_own, put_succ, put0_fr, cellAt, putCell, Sl.cell, Sl.withCell, g1, g2, eCallB, oCall, gk, permL, runF, runO, runB, padE, Option.bind_some, Option.map_some, Option.bind_none, Option.map_none, List.getElem?_cons_zero, List.getElem?_cons_succ, List.set_cons_zero, List.set_cons_succ, List.length_cons, List.length_nil, List.map_cons, List.map_nil, List.replicate, List.cons_append, List.nil_append, List.filterMap_cons, List.filterMap_nil, isStr_S, isStrD_str, if_true, if_false, reduceIte, Bool.not_true, Bool.not_false, Nat.reduceAdd, Nat.reduceSub, Nat.zero_add, decide_eq_true_eq, Bool.false_eq_true, reduceCtorEq, Bool.true_eq_false, and_self, true_and, and_true, Int.reduceNeg, hr62, range_zero]) hw2
    (by
      intro w i hw hi
      obtain ⟨c, hc, w', e, hw'⟩ := pick_S hw k2 k3
      refine ⟨[.bor w, .dat (.int (most : Int)), .dat (.int (r : Int)), .dat (.int ((1 + q : Nat) : Int)), .dat (S kt), .dat (.int (i : Int))], [.bor w', .dat (.int (most : Int)), .dat (.int (r : Int)), .dat (.int ((1 + q : Nat) : Int)), .dat (S kt), .dat (.int (i : Int))], S [c], w', rfl, ?_, rfl, hw', c, hc, rfl⟩
      simp -implicitDefEqProofs only [eVar, eC, eOp2, eOp1, toT, tOfB, eAnd, eOr, eNot, uAnd, uOr, uNot, eIf, aNil, aCons, eCall, eCallK, eTup, oLst, eOfO, eIsN, eNotN, gIsN_S, gNotN_S, gIsN_none, gNotN_none, gIsN_tup, gNotN_tup, gIsN_int, gNotN_int, gIsN_list, gNotN_list, gIsN_bool, gNotN_bool, gIsN_str, gNotN_str, eChain, eCellIx, eCellLen, eSlice, pNone, pSome, eMt1, oList, oListR1, iSeq, iEnum1, iEnum2, iRange1, iRange2, gNm, gTu, gTps, gCell, sNil, sSeq, sSet, sSetO, sRet, sRetO, sRetOwn, sRetN, sDrop, sIf, sNever, sAppend, sAsg, sPar, sParO, sFor, put0_un, put0_dat, put0_own, put_succ, put0_fr, cellAt, putCell, Sl.cell, Sl.withCell, g1, g2, eCallB, oCall, gk, permL, runF, runO, runB, padE, Option.bind_some, Option.map_some, Option.bind_none, Option.map_none, List.getElem?_cons_zero, List.getElem?_cons_succ, List.set_cons_zero, List.set_cons_succ, List.length_cons, List.length_nil, List.map_cons, List.map_nil, List.replicate, List.cons_append, List.nil_append, List.filterMap_cons, List.filterMap_nil, isStr_S, isStrD_str, if_true, if_false, reduceIte, Bool.not_true, Bool.not_false, Nat.reduceAdd, Nat.reduceSub, Nat.zero_add, decide_eq_true_eq, Bool.false_eq_true, reduceCtorEq, Bool.true_eq_false, and_self, true_and, and_true, Int.reduceNeg, e])
    (by
      intro w w' v hv
      simp only [List.mem_singleton] at hv
      subst hv; rfl)
    (by rw [List.length_range]; omega)
  obtain ⟨cs, rfl, hcs⟩ := all_ex (fun c => S [c]) (fun c => c ∈ kt) c3
  rw [List.length_map, List.length_range] at c4
  refine ⟨cs, w3, ?_, ⟨?_, by omega, ?_⟩, hw3⟩
  · have hj := dJoin_S (ys := cs.map fun c => [c]) (by rw [flat_one]; omega)
    rw [flat_one, List.map_map] at hj
    have hj' : dJoin (S []) (.list (cs.map fun c => S [c])) = some (S cs) := hj
    unfold r__law_text b__law_text
    simp -implicitDefEqProofs only [eVar, eC, eOp2, eOp1, toT, tOfB, eAnd, eOr, eNot, uAnd, uOr, uNot, eIf, aNil, aCons, eCall, eCallK, eTup, oLst, eOfO, eIsN, eNotN, gIsN_S, gNotN_S, gIsN_none, gNotN_none, gIsN_tup, gNotN_tup, gIsN_int, gNotN_int, gIsN_list, gNotN_list, gIsN_bool, gNotN_bool, gIsN_str, gNotN_str, eChain, eCellIx, eCellLen, eSlice, pNone, pSome, eMt1, oList, oListR1, iSeq, iEnum1, iEnum2, iRange1, iRange2, gNm, gTu, gTps, gCell, sNil, sSeq, sSet, sSetO, sRet, sRetO, sRetOwn, sRetN, sDrop, sIf, sNever, sAppend, sAsg, sPar, sParO, sFor, put0_un, put0_dat, put0_own, put_succ, put0_fr, cellAt, putCell, Sl.cell, Sl.withCell, g1, g2, eCallB, oCall, gk, permL, runF, runO, runB, padE, Option.bind_some, Option.map_some, Option.bind_none, Option.map_none, List.getElem?_cons_zero, List.getElem?_cons_succ, List.set_cons_zero, List.set_cons_succ, List.length_cons, List.length_nil, List.map_cons, List.map_nil, List.replicate, List.cons_append, List.nil_append, List.filterMap_cons, List.filterMap_nil, isStr_S, isStrD_str, if_true, if_false, reduceIte, Bool.not_true, Bool.not_false, Nat.reduceAdd, Nat.reduceSub, Nat.zero_add, decide_eq_true_eq, Bool.false_eq_true, reduceCtorEq, Bool.true_eq_false, and_self, true_and, and_true, Int.reduceNeg, SG_lit, DG_lit, e_lit, e1', e2, e4, szl, show (4 : Nat) ≤ 16777216 by decide, e3, c1, hj']
  · apply List.all_eq_true.mpr
    intro c m
    have := List.all_eq_true.mp k1 c (hcs c m)
    exact this
  · intro z
    rw [z] at c4
    simp only [List.length_nil] at c4
    omega
end Q43

set_option Elab.async false
set_option linter.all false
set_option maxRecDepth 100000
set_option maxHeartbeats 8000000
namespace Q43
open PySem PySem.Spec L2 DL
/-! ### the well -/
theorem dSum_ints (l : List Int) : dSum (.list (l.map PyData.int)) = some (.int l.sum) := by
  have := dSum_map (l := l) (fun x => x)
  rwa [List.map_id'] at this
theorem mul_45013 (n : Nat) : dMulA (.int (n : Int)) (.int 45013) = some (.int ((n * 45013 : Nat) : Int)) := mul_nat n 45013 (by decide)
theorem mul_9311 (n : Nat) : dMulA (.int 9311) (.int (n : Int)) = some (.int ((9311 * n : Nat) : Int)) := mul_l 9311 n (by decide)
theorem mul_1013 (n : Nat) : dMulA (.int 1013) (.int (n : Int)) = some (.int ((1013 * n : Nat) : Int)) := mul_l 1013 n (by decide)
theorem add_37 (n : Nat) : dAdd (.int (n : Int)) (.int 37) = some (.int ((n + 37 : Nat) : Int)) := add_nat n 37
theorem add_71 (n : Nat) : dAdd (.int (n : Int)) (.int 71) = some (.int ((n + 71 : Nat) : Int)) := add_nat n 71
theorem add_50021 (n : Nat) : dAdd (.int 50021) (.int (n : Int)) = some (.int ((50021 + n : Nat) : Int)) := add_nat 50021 n
theorem intI (i : Int) : dInt (.int i) = some (.int i) := rfl
def ownE : EF := (eIf (toT (eOp2 dLt (eVar 1) (eCall (g1 dLen1) (aCons (eVar 0) aNil)))) (eCall (g1 dInt) (aCons (eOp2 dIx (eVar 0) (eVar 1)) aNil)) (eOp2 dAdd (eOp2 dAdd (eOp2 dMulA (eC (.int 9311)) (eVar 1)) (eOp2 dMod (eCall (g1 dInt) (aCons (eCall (g1 dSum) (aCons (eSlice (eVar 0) pNone (pSome (eC (.int 2)))) aNil)) aNil)) (eC (.int 1000003)))) (eC (.int 71))))
theorem well_S (ns : List Int) {turn : Nat} (ht : turn ≤ 10) : ∃ w, r__law_well [roD (ns.map PyData.int), .int (turn : Int)] = some w ∧ WellOk w := by
  have hL : dLen1 (roD (ns.map PyData.int)) = some (.int (ns.length : Int)) := by
    show some (PyData.int ((ns.map PyData.int).length : Int)) = _; rw [List.length_map]
  have s2 : dSlice (roD (ns.map PyData.int)) none (some 2) = some (.list ((ns.take 2).map PyData.int)) := by
    have := sliceR_to (ns.map PyData.int) 2
    rw [← List.map_take] at this; exact this
  have s5 : dSlice (roD (ns.map PyData.int)) none (some 5) = some (.list ((ns.take 5).map PyData.int)) := by
    have := sliceR_to (ns.map PyData.int) 5
    rw [← List.map_take] at this; exact this
  obtain ⟨own, hown⟩ : ∃ own : Int, ownE
      [.dat (roD (ns.map PyData.int)), .dat (.int (turn : Int)), .un, .un, .un] = some (.int own, [.dat (roD (ns.map PyData.int)), .dat (.int (turn : Int)), .un, .un, .un]) := by
    by_cases hlt : turn < ns.length
    · have e : dIx (roD (ns.map PyData.int)) (.int (turn : Int)) = some (.int ns[turn]) := by
        show atI (ns.map PyData.int) (turn : Int) = _
        apply atI_nat
        rw [List.getElem?_map, List.getElem?_eq_getElem hlt]; rfl
      refine ⟨ns[turn], ?_⟩
      unfold ownE
      simp -implicitDefEqProofs only [eVar, eC, eOp2, eOp1, toT, tOfB, eAnd, eOr, eNot, uAnd, uOr, uNot, eIf, aNil, aCons, eCall, eCallK, eTup, oLst, eOfO, eIsN, eNotN, gIsN_S, gNotN_S, gIsN_none, gNotN_none, gIsN_tup, gNotN_tup, gIsN_int, gNotN_int, gIsN_list, gNotN_list, gIsN_bool, gNotN_bool, gIsN_str, gNotN_str, eChain, eCellIx, eCellLen, eSlice, pNone, pSome, eMt1, oList, oListR1, iSeq, iEnum1, iEnum2, iRange1, iRange2, gNm, gTu, gTps, gCell, sNil, sSeq, sSet, sSetO, sRet, sRetO, sRetOwn, sRetN, sDrop, sIf, sNever, sAppend, sAsg, sPar, sParO, sFor, put0_un, put0_dat, put0_own, put_succ, put0_fr, cellAt, putCell, Sl.cell, Sl.withCell, g1, g2, eCallB, oCall, gk, permL, runF, runO, runB, padE, Option.bind_some, Option.map_some, Option.bind_none, Option.map_none, List.getElem?_cons_zero, List.getElem?_cons_succ, List.set_cons_zero, List.set_cons_succ, List.length_cons, List.length_nil, List.map_cons, List.map_nil, List.replicate, List.cons_append, List.nil_append, List.filterMap_cons, List.filterMap_nil, isStr_S, isStrD_str, if_true, if_false, reduceIte, Bool.not_true, Bool.not_false, Nat.reduceAdd, Nat.reduceSub, Nat.zero_add, decide_eq_true_eq, Bool.false_eq_true, reduceCtorEq, Bool.true_eq_false, and_self, true_and, and_true, Int.reduceNeg, hL, lt_nat, hlt, decide_true, e, intI]
    · obtain ⟨r, _, e⟩ := modI_gen (ns.take 2).sum 1000003 (by decide)
      have e' : dMod (.int (ns.take 2).sum) (.int 1000003) = some (.int (r : Int)) := e
      refine ⟨((9311 * turn + r + 71 : Nat) : Int), ?_⟩
      unfold ownE
      simp -implicitDefEqProofs only [eVar, eC, eOp2, eOp1, toT, tOfB, eAnd, eOr, eNot, uAnd, uOr, uNot, eIf, aNil, aCons, eCall, eCallK, eTup, oLst, eOfO, eIsN, eNotN, gIsN_S, gNotN_S, gIsN_none, gNotN_none, gIsN_tup, gNotN_tup, gIsN_int, gNotN_int, gIsN_list, gNotN_list, gIsN_bool, gNotN_bool, gIsN_str, gNotN_str, eChain, eCellIx, eCellLen, eSlice, pNone, pSome, eMt1, oList, oListR1, iSeq, iEnum1, iEnum2, iRange1, iRange2, gNm, gTu, gTps, gCell, sNil, sSeq, sSet, sSetO, sRet, sRetO, sRetOwn, sRetN, sDrop, sIf, sNever, sAppend, sAsg, sPar, sParO, sFor, put0_un, put0_dat, put0_own, put_succ, put0_fr, cellAt, putCell, Sl.cell, Sl.withCell, g1, g2, eCallB, oCall, gk, permL, runF, runO, runB, padE, Option.bind_some, Option.map_some, Option.bind_none, Option.map_none, List.getElem?_cons_zero, List.getElem?_cons_succ, List.set_cons_zero, List.set_cons_succ, List.length_cons, List.length_nil, List.map_cons, List.map_nil, List.replicate, List.cons_append, List.nil_append, List.filterMap_cons, List.filterMap_nil, isStr_S, isStrD_str, if_true, if_false, reduceIte, Bool.not_true, Bool.not_false, Nat.reduceAdd, Nat.reduceSub, Nat.zero_add, decide_eq_true_eq, Bool.false_eq_true, reduceCtorEq, Bool.true_eq_false, and_self, true_and, and_true, Int.reduceNeg, hL, lt_nat, hlt, decide_false, mul_9311, s2, dSum_ints, intI, e', add_nat, add_71]
  have eb : b__law_well = (sSeq (sSet 2 ownE)
  (sSeq (sSet 3 (eOp2 dAdd (eC (.int 50021)) (eOp2 dMulA (eC (.int 1013)) (eVar 1))))
  (sSeq (sFor (iSeq (eOp2 dAdd (eSlice (eVar 0) pNone (pSome (eC (.int 5)))) (eOfO (oLst (aCons (eVar 2) aNil))))) (gNm 4)
    (sSet 3 (eOp2 dMod (eCall (g1 dInt) (aCons (eOp2 dAdd (eOp2 dAdd (eOp2 dMulA (eVar 3) (eC (.int 45013))) (eOp2 dMod (eCall (g1 dInt) (aCons (eVar 4) aNil)) (eC (.int 2147483399)))) (eC (.int 37))) aNil)) (eC (.int 2147483563)))))
  (sRetO (oLst (aCons (eIf (uOr (toT (eOp2 dLt (eVar 2) (eC (.int 0)))) (toT (eOp2 dGe (eVar 2) (eOp2 dPow (eC (.int 10)) (eC (.int 17)))))) (eCall (g1 dAbs) (aCons (eVar 2) aNil)) (eC (.int 0))) (aCons (eVar 3) (aCons (eC (.int 0)) aNil)))))))) := rfl
  have cat : dAdd (.list ((ns.take 5).map PyData.int)) (.list [.int own]) = some (.list ((ns.take 5 ++ [own]).map PyData.int)) := by
    rw [List.map_append]
    show (if ((ns.take 5).map PyData.int).length + 1 ≤ sizeLine then some (PyData.list ((ns.take 5).map PyData.int ++ [.int own])) else none) = _
    rw [if_pos]
    · rfl
    · rw [szl, List.length_map, List.length_take]; omega
  have loop := fLoop_inv (g := gNm 4) (bd := sSet 3 (eOp2 dMod (eCall (g1 dInt) (aCons (eOp2 dAdd (eOp2 dAdd (eOp2 dMulA (eVar 3) (eC (.int 45013))) (eOp2 dMod (eCall (g1 dInt) (aCons (eVar 4) aNil)) (eC (.int 2147483399)))) (eC (.int 37))) aNil)) (eC (.int 2147483563))))
    (fun ds ρ => ∃ (is : List Int) (n : Nat) (x : Sl), ds = is.map PyData.int ∧ n < 2147483563 ∧ ρ = [.dat (roD (ns.map PyData.int)), .dat (.int (turn : Int)), .dat (.int own), .dat (.int (n : Int)), x] ∧ Fr x)
    ((ns.take 5 ++ [own]).map PyData.int) [.dat (roD (ns.map PyData.int)), .dat (.int (turn : Int)), .dat (.int own), .dat (.int ((50021 + 1013 * turn : Nat) : Int)), .un]
    ⟨_, _, .un, rfl, by omega, rfl, Fr.un⟩ (by
      rintro d ds ρ ⟨is, n, x, h1, h2, rfl, hx⟩
      cases is with
      | nil => cases h1
      | cons i is =>
        rw [List.map_cons] at h1
        injection h1 with h1 h1'
        subst h1
        obtain ⟨r, hr, e⟩ := modI_gen i 2147483399 (by decide)
        have e' : dMod (.int i) (.int 2147483399) = some (.int (r : Int)) := e
        refine ⟨[.dat (roD (ns.map PyData.int)), .dat (.int (turn : Int)), .dat (.int own), .dat (.int (n : Int)), .dat (.int i)], [.dat (roD (ns.map PyData.int)), .dat (.int (turn : Int)), .dat (.int own), .dat (.int ((((n * 45013 + r + 37) % 2147483563 : Nat)) : Int)), .dat (.int i)], ?_, ?_, is, _, _, h1', Nat.mod_lt _ (by decide), rfl, Fr.dat⟩
        · simp -implicitDefEqProofs only [eVar, eC, eOp2, eOp1, toT, tOfB, eAnd, eOr, eNot, uAnd, uOr, uNot, eIf, aNil, aCons, eCall, eCallK, eTup, oLst, eOfO, eIsN, eNotN, gIsN_S, gNotN_S, gIsN_none, gNotN_none, gIsN_tup, gNotN_tup, gIsN_int, gNotN_int, gIsN_list, gNotN_list, gIsN_bool, gNotN_bool, gIsN_str, gNotN_str, eChain, eCellIx, eCellLen, eSlice, pNone, pSome, eMt1, oList, oListR1, iSeq, iEnum1, iEnum2, iRange1, iRange2, gNm, gTu, gTps, gCell, sNil, sSeq, sSet, sSetO, sRet, sRetO, sRetOwn, sRetN, sDrop, sIf, sNever, sAppend, sAsg, sPar, sParO, sFor, put0_un, put0_dat, put0_own, put_succ, put0_fr, cellAt, putCell, Sl.cell, Sl.withCell, g1, g2, eCallB, oCall, gk, permL, runF, runO, runB, padE, Option.bind_some, Option.map_some, Option.bind_none, Option.map_none, List.getElem?_cons_zero, List.getElem?_cons_succ, List.set_cons_zero, List.set_cons_succ, List.length_cons, List.length_nil, List.map_cons, List.map_nil, List.replicate, List.cons_append, List.nil_append, List.filterMap_cons, List.filterMap_nil, isStr_S, isStrD_str, if_true, if_false, reduceIte, Bool.not_true, Bool.not_false, Nat.reduceAdd, Nat.reduceSub, Nat.zero_add, decide_eq_true_eq, Bool.false_eq_true, reduceCtorEq, Bool.true_eq_false, and_self, true_and, and_true, Int.reduceNeg, hx]
        · simp -implicitDefEqProofs only [eVar, eC, eOp2, eOp1, toT, tOfB, eAnd, eOr, eNot, uAnd, uOr, uNot, eIf, aNil, aCons, eCall, eCallK, eTup, oLst, eOfO, eIsN, eNotN, gIsN_S, gNotN_S, gIsN_none, gNotN_none, gIsN_tup, gNotN_tup, gIsN_int, gNotN_int, gIsN_list, gNotN_list, gIsN_bool, gNotN_bool, gIsN_str, gNotN_str, eChain, eCellIx, eCellLen, eSlice, pNone, pSome, eMt1, oList, oListR1, iSeq, iEnum1, iEnum2, iRange1, iRange2, gNm, gTu, gTps, gCell, sNil, sSeq, sSet, sSetO, sRet, sRetO, sRetOwn, sRetN, sDrop, sIf, sNever, sAppend, sAsg, sPar, sParO, sFor, put0_un, put0_dat, put0_own, put_succ, put0_fr, cellAt, putCell, Sl.cell, Sl.withCell, g1, g2, eCallB, oCall, gk, permL, runF, runO, runB, padE, Option.bind_some, Option.map_some, Option.bind_none, Option.map_none, List.getElem?_cons_zero, List.getElem?_cons_succ, List.set_cons_zero, List.set_cons_succ, List.length_cons, List.length_nil, List.map_cons, List.map_nil, List.replicate, List.cons_append, List.nil_append, List.filterMap_cons, List.filterMap_nil, isStr_S, isStrD_str, if_true, if_false, reduceIte, Bool.not_true, Bool.not_false, Nat.reduceAdd, Nat.reduceSub, Nat.zero_add, decide_eq_true_eq, Bool.false_eq_true, reduceCtorEq, Bool.true_eq_false, and_self, true_and, and_true, Int.reduceNeg, mul_45013, intI, e', add_nat, add_37, mod_big])
  obtain ⟨ρ', l1, is, n, x, l2, l3, rfl, l5⟩ := loop
  have p17 : dPow (.int 10) (.int 17) = some (.int (10 ^ 17)) := by
    simp only [dPow]
    rw [if_pos (by decide)]; rfl
  have h1 : dLt (.int own) (.int 0) = some (.bool (decide (own < 0))) := rfl
  have h2 : dGe (.int own) (.int (10 ^ 17)) = some (.bool (decide ((10 : Int) ^ 17 ≤ own))) := rfl
  have h3 : dAbs (.int own) = some (.int (own.natAbs : Int)) := by
    show some (PyData.int (if own < 0 then -own else own)) = _
    congr 2
    split <;> omega
  by_cases c1 : own < 0
  · refine ⟨_, ?_, own.natAbs, n, 0, rfl, l3⟩
    unfold r__law_well
    rw [eb]
    simp -implicitDefEqProofs only [eVar, eC, eOp2, eOp1, toT, tOfB, eAnd, eOr, eNot, uAnd, uOr, uNot, eIf, aNil, aCons, eCall, eCallK, eTup, oLst, eOfO, eIsN, eNotN, gIsN_S, gNotN_S, gIsN_none, gNotN_none, gIsN_tup, gNotN_tup, gIsN_int, gNotN_int, gIsN_list, gNotN_list, gIsN_bool, gNotN_bool, gIsN_str, gNotN_str, eChain, eCellIx, eCellLen, eSlice, pNone, pSome, eMt1, oList, oListR1, iSeq, iEnum1, iEnum2, iRange1, iRange2, gNm, gTu, gTps, gCell, sNil, sSeq, sSet, sSetO, sRet, sRetO, sRetOwn, sRetN, sDrop, sIf, sNever, sAppend, sAsg, sPar, sParO, sFor, put0_un, put0_dat, put0_own, put_succ, put0_fr, cellAt, putCell, Sl.cell, Sl.withCell, g1, g2, eCallB, oCall, gk, permL, runF, runO, runB, padE, Option.bind_some, Option.map_some, Option.bind_none, Option.map_none, List.getElem?_cons_zero, List.getElem?_cons_succ, List.set_cons_zero, List.set_cons_succ, List.length_cons, List.length_nil, List.map_cons, List.map_nil, List.replicate, List.cons_append, List.nil_append, List.filterMap_cons, List.filterMap_nil, isStr_S, isStrD_str, if_true, if_false, reduceIte, Bool.not_true, Bool.not_false, Nat.reduceAdd, Nat.reduceSub, Nat.zero_add, decide_eq_true_eq, Bool.false_eq_true, reduceCtorEq, Bool.true_eq_false, and_self, true_and, and_true, Int.reduceNeg, hown, mul_1013, add_50021, s5, szl, show (1 : Nat) ≤ 16777216 by decide, cat, dItems, l1, h1, c1, decide_true, h3, show (3 : Nat) ≤ 16777216 by decide]
    rfl
  by_cases c2 : (10 : Int) ^ 17 ≤ own
  · refine ⟨_, ?_, own.natAbs, n, 0, rfl, l3⟩
    unfold r__law_well
    rw [eb]
    simp -implicitDefEqProofs only [eVar, eC, eOp2, eOp1, toT, tOfB, eAnd, eOr, eNot, uAnd, uOr, uNot, eIf, aNil, aCons, eCall, eCallK, eTup, oLst, eOfO, eIsN, eNotN, gIsN_S, gNotN_S, gIsN_none, gNotN_none, gIsN_tup, gNotN_tup, gIsN_int, gNotN_int, gIsN_list, gNotN_list, gIsN_bool, gNotN_bool, gIsN_str, gNotN_str, eChain, eCellIx, eCellLen, eSlice, pNone, pSome, eMt1, oList, oListR1, iSeq, iEnum1, iEnum2, iRange1, iRange2, gNm, gTu, gTps, gCell, sNil, sSeq, sSet, sSetO, sRet, sRetO, sRetOwn, sRetN, sDrop, sIf, sNever, sAppend, sAsg, sPar, sParO, sFor, put0_un, put0_dat, put0_own, put_succ, put0_fr, cellAt, putCell, Sl.cell, Sl.withCell, g1, g2, eCallB, oCall, gk, permL, runF, runO, runB, padE, Option.bind_some, Option.map_some, Option.bind_none, Option.map_none, List.getElem?_cons_zero, List.getElem?_cons_succ, List.set_cons_zero, List.set_cons_succ, List.length_cons, List.length_nil, List.map_cons, List.map_nil, List.replicate, List.cons_append, List.nil_append, List.filterMap_cons, List.filterMap_nil, isStr_S, isStrD_str, if_true, if_false, reduceIte, Bool.not_true, Bool.not_false, Nat.reduceAdd, Nat.reduceSub, Nat.zero_add, decide_eq_true_eq, Bool.false_eq_true, reduceCtorEq, Bool.true_eq_false, and_self, true_and, and_true, Int.reduceNeg, hown, mul_1013, add_50021, s5, szl, show (1 : Nat) ≤ 16777216 by decide, cat, dItems, l1, h1, c1, decide_false, p17, h2, c2, decide_true, h3, show (3 : Nat) ≤ 16777216 by decide]
    rfl
  · refine ⟨_, ?_, 0, n, 0, rfl, l3⟩
    unfold r__law_well
    rw [eb]
    simp -implicitDefEqProofs only [eVar, eC, eOp2, eOp1, toT, tOfB, eAnd, eOr, eNot, uAnd, uOr, uNot, eIf, aNil, aCons, eCall, eCallK, eTup, oLst, eOfO, eIsN, eNotN, gIsN_S, gNotN_S, gIsN_none, gNotN_none, gIsN_tup, gNotN_tup, gIsN_int, gNotN_int, gIsN_list, gNotN_list, gIsN_bool, gNotN_bool, gIsN_str, gNotN_str, eChain, eCellIx, eCellLen, eSlice, pNone, pSome, eMt1, oList, oListR1, iSeq, iEnum1, iEnum2, iRange1, iRange2, gNm, gTu, gTps, gCell, sNil, sSeq, sSet, sSetO, sRet, sRetO, sRetOwn, sRetN, sDrop, sIf, sNever, sAppend, sAsg, sPar, sParO, sFor, put0_un, put0_dat, put0_own, put_succ, put0_fr, cellAt, putCell, Sl.cell, Sl.withCell, g1, g2, eCallB, oCall, gk, permL, runF, runO, runB, padE, Option.bind_some, Option.map_some, Option.bind_none, Option.map_none, List.getElem?_cons_zero, List.getElem?_cons_succ, List.set_cons_zero, List.set_cons_succ, List.length_cons, List.length_nil, List.map_cons, List.map_nil, List.replicate, List.cons_append, List.nil_append, List.filterMap_cons, List.filterMap_nil, isStr_S, isStrD_str, if_true, if_false, reduceIte, Bool.not_true, Bool.not_false, Nat.reduceAdd, Nat.reduceSub, Nat.zero_add, decide_eq_true_eq, Bool.false_eq_true, reduceCtorEq, Bool.true_eq_false, and_self, true_and, and_true, Int.reduceNeg, hown, mul_1013, add_50021, s5, szl, show (1 : Nat) ≤ 16777216 by decide, cat, dItems, l1, h1, c1, decide_false, p17, h2, c2, show (3 : Nat) ≤ 16777216 by decide]
    rfl
/-! ### frames cut -/
theorem frm_app {a r : List Nat} : (frm a ++ r).take 6 = pv a.length ++ pv (chk a) ∧ (frm a ++ r).drop 6 = a ++ r := by
  constructor <;> simp [frm, pv]
theorem head_frm {a : List Nat} (h : GT a) : okD (pv a.length ++ pv (chk a)) = true := by
  rw [okD_app, pv_okD (by have := h.2.1; omega), pv_okD (chk_lt a)]; rfl
theorem parse_frm {a r : List Nat} (h : GT a) : textAt (frm a ++ r) = some a := by
  obtain ⟨e1, e2⟩ := frm_app (a := a) (r := r)
  have hl := h.2.1
  have n1 : (pv a.length ++ pv (chk a)).take 3 = pv a.length := rfl
  have n2 : (pv a.length ++ pv (chk a)).drop 3 = pv (chk a) := rfl
  have hne : a.length ≠ 0 := fun z => h.2.2 (List.length_eq_zero_iff.mp z)
  unfold textAt
  rw [e1, e2, n1, n2, pv_num3 (show a.length < 1000 by omega), pv_num3 (chk_lt a), List.take_left]
  rw [if_neg (by simp [pv_len]), if_neg (by rw [head_frm h]; decide), if_neg hne, if_neg (by omega), if_neg (by rw [h.1]; decide), if_pos rfl]
theorem not_okD {u : List Nat} {c : Nat} (h : c ∈ u) (hc : c = 126) : okD u = false := by
  cases e : okD u with
  | false => rfl
  | true =>
    have := List.all_eq_true.mp e c h
    have := mem_DG.mp (by simpa using this)
    omega
theorem not_okS {u : List Nat} {c : Nat} (h : c ∈ u) (hc : c = 126) : okS u = false := by
  cases e : okS u with
  | false => rfl
  | true =>
    have := mem_SG e h
    subst hc
    exact absurd this (by decide)
def Tl (tl : List Nat) : Prop := tl = [] ∨ tl = List.replicate 9 126
theorem parse_tl {tl : List Nat} (h : Tl tl) : textAt tl = none := by
  rcases h with rfl | rfl <;> decide
theorem parse_cut {a tl : List Nat} (h : GT a) (ht : Tl tl) {n : Nat} (hn : n < 6 + a.length) : textAt ((frm a).take n ++ tl) = none := by
  have hl := h.2.1
  have hfl := frm_len a
  have htl : ((frm a).take n).length = n := by rw [List.length_take]; omega
  by_cases h6 : n < 6
  · rcases ht with rfl | rfl
    · unfold textAt
      rw [if_pos]
      rw [List.append_nil, List.length_take, htl]; omega
    · have m : (126 : Nat) ∈ ((frm a).take n ++ List.replicate 9 126).take 6 := by
        apply List.mem_of_getElem? (i := n)
        rw [List.getElem?_take_of_lt h6, List.getElem?_append_right (by omega), htl, Nat.sub_self]; rfl
      unfold textAt
      rw [not_okD m rfl]
      by_cases c1 : (((frm a).take n ++ List.replicate 9 126).take 6).length < 6
      · rw [if_pos c1]
      · rw [if_neg c1, if_pos rfl]
  · have e0 : (frm a).take n ++ tl = pv a.length ++ pv (chk a) ++ (a.take (n - 6) ++ tl) := by
      unfold frm
      rw [List.take_append, List.take_of_length_le (show (pv a.length ++ pv (chk a)).length ≤ n by simp [pv_len]; omega), List.append_assoc]
      simp [pv_len]
    have e1 : (pv a.length ++ pv (chk a) ++ (a.take (n - 6) ++ tl)).take 6 = pv a.length ++ pv (chk a) := by simp [pv]
    have e2 : (pv a.length ++ pv (chk a) ++ (a.take (n - 6) ++ tl)).drop 6 = a.take (n - 6) ++ tl := by simp [pv]
    have n1 : (pv a.length ++ pv (chk a)).take 3 = pv a.length := rfl
    have hne : a.length ≠ 0 := fun z => h.2.2 (List.length_eq_zero_iff.mp z)
    rw [e0]
    unfold textAt
    rw [e1, e2, n1, pv_num3 (show a.length < 1000 by omega)]
    rw [if_neg (by simp [pv_len]), if_neg (by rw [head_frm h]; decide), if_neg hne]
    have hal : (a.take (n - 6)).length = n - 6 := by rw [List.length_take]; omega
    by_cases c4 : ((a.take (n - 6) ++ tl).take a.length).length < a.length
    · rw [if_pos c4]
    rw [if_neg c4]
    rcases ht with rfl | rfl
    · rw [List.append_nil, List.length_take, hal] at c4
      omega
    · have m : (126 : Nat) ∈ ((a.take (n - 6) ++ List.replicate 9 126).take a.length) := by
        apply List.mem_of_getElem? (i := n - 6)
        rw [List.getElem?_take_of_lt (by omega), List.getElem?_append_right (by omega), hal, Nat.sub_self]; rfl
      rw [if_pos (not_okS m rfl)]
def strm (ts : List (List Nat)) : List Nat := (ts.map frm).flatten
def cnt : List (List Nat) → Nat → Nat
  | [], _ => 0
  | a :: ts, n => if 6 + a.length ≤ n then 1 + cnt ts (n - (6 + a.length)) else 0
def tot (ts : List (List Nat)) : Nat := (ts.map fun a => 6 + a.length).sum
theorem strm_cons (a : List Nat) (ts : List (List Nat)) : strm (a :: ts) = frm a ++ strm ts := rfl
theorem tot_cons (a : List Nat) (ts : List (List Nat)) : tot (a :: ts) = 6 + a.length + tot ts := by simp [tot]
theorem strm_len : ∀ ts, (strm ts).length = tot ts
  | [] => rfl
  | a :: ts => by rw [strm_cons, List.length_append, frm_len, strm_len ts, tot_cons]
theorem cnt_le : ∀ ts n, cnt ts n ≤ ts.length
  | [], _ => Nat.le_refl _
  | a :: ts, n => by
    unfold cnt
    have := cnt_le ts (n - (6 + a.length))
    rw [List.length_cons]
    split <;> omega
theorem cnt_all : ∀ ts, cnt ts (tot ts) = ts.length
  | [] => rfl
  | a :: ts => by
    unfold cnt
    rw [tot_cons, if_pos (by omega), Nat.add_sub_cancel_left, cnt_all ts, List.length_cons]; omega
theorem cut_parse {tl : List Nat} (ht : Tl tl) : ∀ (ts : List (List Nat)) (n f : Nat), (∀ t ∈ ts, GT t) → ((strm ts).take n ++ tl).length < f → frF f ((strm ts).take n ++ tl) = (ts.take (cnt ts n), tot (ts.take (cnt ts n)))
  | _, _, 0, _, h => by omega
  | [], n, f + 1, _, _ => by
    have e : (strm []).take n ++ tl = tl := by simp [strm]
    rw [e, frF, parse_tl ht]; rfl
  | a :: ts, n, f + 1, h, hf => by
    have ha := h a List.mem_cons_self
    by_cases hn : 6 + a.length ≤ n
    · have e : (strm (a :: ts)).take n ++ tl = frm a ++ ((strm ts).take (n - (6 + a.length)) ++ tl) := by
        rw [strm_cons, List.take_append, List.take_of_length_le (by rw [frm_len]; exact hn), frm_len, List.append_assoc]
      have hc : cnt (a :: ts) n = 1 + cnt ts (n - (6 + a.length)) := by rw [cnt, if_pos hn]
      have hd : (frm a ++ ((strm ts).take (n - (6 + a.length)) ++ tl)).drop (6 + a.length) = (strm ts).take (n - (6 + a.length)) ++ tl := List.drop_left' (frm_len a)
      rw [e] at hf ⊢
      rw [List.length_append, frm_len] at hf
      rw [frF, parse_frm ha]
      show (a :: (frF f _).1, 6 + a.length + (frF f _).2) = _
      rw [hd, cut_parse ht ts (n - (6 + a.length)) f (fun t m => h t (List.mem_cons_of_mem _ m)) (by omega), hc, Nat.add_comm 1, List.take_succ_cons, tot_cons]
    · have e : (strm (a :: ts)).take n ++ tl = (frm a).take n ++ tl := by
        rw [strm_cons, List.take_append, frm_len, show n - (6 + a.length) = 0 by omega, List.take_zero, List.append_nil]
      have hc : cnt (a :: ts) n = 0 := by rw [cnt, if_neg hn]
      rw [e, frF, parse_cut ha ht (by omega), hc]; rfl
theorem frS_cut {tl : List Nat} (ht : Tl tl) {ts : List (List Nat)} (h : ∀ t ∈ ts, GT t) (n : Nat) : frS ((strm ts).take n ++ tl) = .tuple [.tuple ((ts.take (cnt ts n)).map S), .int (tot (ts.take (cnt ts n)) : Nat)] := by
  unfold frS
  rw [frF_more _ (((strm ts).take n ++ tl).length + 1) _ (Nat.le_refl _) (by omega), cut_parse ht ts n _ h (by omega)]
theorem frS_whole {ts : List (List Nat)} (h : ∀ t ∈ ts, GT t) : frS (strm ts) = .tuple [.tuple (ts.map S), .int ((strm ts).length : Nat)] := by
  have e := frS_cut (tl := []) (Or.inl rfl) h (tot ts)
  rw [cnt_all, List.take_length, List.append_nil, List.take_of_length_le (by rw [strm_len]; omega)] at e
  rw [e, strm_len]
/-! ### ends -/
def en : Nat → List (List Nat) → List Nat
  | _, [] => []
  | b, a :: ts => (b + 6 + a.length) :: en (b + 6 + a.length) ts
theorem en_le : ∀ (ts : List (List Nat)) (b x : Nat), x ∈ en b ts → b ≤ x
  | [], _, _, h => by cases h
  | a :: ts, b, x, h => by
    rcases List.mem_cons.mp h with rfl | h
    · omega
    · have := en_le ts _ _ h; omega
theorem en_cnt : ∀ (ts : List (List Nat)) (b n : Nat), ((en b ts).filter fun e => decide (e ≤ b + n)).length = cnt ts n
  | [], _, _ => rfl
  | a :: ts, b, n => by
    unfold en cnt
    by_cases hn : 6 + a.length ≤ n
    · rw [if_pos hn, List.filter_cons_of_pos (by simp; omega), List.length_cons]
      have := en_cnt ts (b + 6 + a.length) (n - (6 + a.length))
      rw [show b + 6 + a.length + (n - (6 + a.length)) = b + n by omega] at this
      rw [this]; omega
    · rw [if_neg hn, List.filter_cons_of_neg (by simp; omega)]
      rw [List.filter_eq_nil_iff.mpr]
      · rfl
      · intro x hx
        have := en_le ts _ _ hx
        simp; omega
theorem en_at : ∀ (ts : List (List Nat)) (b k : Nat), k ≤ ts.length → (b :: en b ts)[k]? = some (b + tot (ts.take k))
  | ts, b, 0, _ => by simp [tot]
  | [], b, k + 1, h => by simp at h
  | a :: ts, b, k + 1, h => by
    rw [List.getElem?_cons_succ, List.take_succ_cons, tot_cons]
    show ((b + 6 + a.length) :: en (b + 6 + a.length) ts)[k]? = _
    rw [en_at ts (b + 6 + a.length) k (by simpa using h)]
    congr 1; omega
theorem en_len : ∀ (ts : List (List Nat)) (b : Nat), (en b ts).length = ts.length
  | [], _ => rfl
  | a :: ts, b => by unfold en; rw [List.length_cons, en_len ts, List.length_cons]
end Q43

set_option Elab.async false
set_option linter.all false
set_option maxRecDepth 100000
set_option maxHeartbeats 8000000
namespace Q43
open PySem PySem.Spec L2 DL
def rJ : EF := (eMt1 dJoin (eC (.str "")) (eOfO (oLc (iSeq (eVar 1)) (gNm 3) uTrue (eCall r__law_frame (aCons (eVar 3) aNil)) [3])))
def rC1 : SF := (sIf (uNot (toT (eCall (r__law_same 8) (aCons (eOfO (oLst (aCons (eCall r_stream_of (aCons (eVar 1) aNil)) (aCons (eCallK r_stream_of aNil (aCons (eVar 1) aNil) (gk [0] 0 1)) (aCons (eCall r_frames_in (aCons (eVar 2) aNil)) (aCons (eCallK r_frames_in aNil (aCons (eVar 2) aNil) (gk [0] 0 1)) aNil)))))) (aCons (eOfO (oLst (aCons (eVar 2) (aCons (eVar 2) (aCons (eTup (aCons (eVar 1) (aCons (eCall (g1 dLen1) (aCons (eVar 2) aNil)) aNil))) (aCons (eTup (aCons (eVar 1) (aCons (eCall (g1 dLen1) (aCons (eVar 2) aNil)) aNil))) aNil)))))) aNil))))) (sRet (eC (.bool false))) sNil)
def rb3 : SF := (sIf (uNot (toT (eCall (r__law_same 8) (aCons (eOfO (oLst (aCons (eCall r_check_number (aCons (eVar 3) aNil)) (aCons (eCall r_frame (aCons (eVar 3) aNil)) (aCons (eCallK r_check_number aNil (aCons (eVar 3) aNil) (gk [0] 0 1)) (aCons (eCallK r_frame aNil (aCons (eVar 3) aNil) (gk [0] 0 1)) aNil)))))) (aCons (eOp2 dMulA (eOfO (oLst (aCons (eCall r__law_check (aCons (eVar 3) aNil)) (aCons (eCall r__law_frame (aCons (eVar 3) aNil)) aNil)))) (eC (.int 2))) aNil))))) (sRet (eC (.bool false))) sNil)
def rb5 : SF := (sAppend 4 (eOp2 dAdd (eOp2 dAdd (eCellIx 4 (eOp1 dNeg (eC (.int 1)))) (eC (.int 6))) (eCall (g1 dLen1) (aCons (eVar 3) aNil))))
def rLat : AF := (iSeq (eIf (toT (eOp2 dLt (eCall (g1 dLen1) (aCons (eVar 2) aNil)) (eC (.int 200)))) (eOfO (oListR1 (eOp2 dAdd (eCall (g1 dLen1) (aCons (eVar 2) aNil)) (eC (.int 1))))) (eOfO (oLc (iRange1 (eC (.int 60))) (gNm 6) uTrue (eCallB r__law_take 0 (aCons (eCall (g1 dLen1) (aCons (eVar 2) aNil)) aNil)) [6]))))
def rb6 : SF := (sSeq (sSet 7 (eCall (g1 dLen1) (aCons (eOfO (oLc (iSeq (eSlice (eVar 4) (pSome (eC (.int 1))) pNone)) (gNm 8) (toT (eOp2 dLe (eVar 8) (eVar 5))) (eVar 8) [8])) aNil))) (sFor (iSeq (eOfO (oLst (aCons (eC (.str "")) (aCons (eOp2 dMulA (eC (.str "~")) (eC (.int 9))) aNil))))) (gNm 9) (sIf (uNot (toT (eCall (r__law_same 8) (aCons (eCall r_frames_in (aCons (eOp2 dAdd (eSlice (eVar 2) pNone (pSome (eVar 5))) (eVar 9)) aNil)) (aCons (eTup (aCons (eSlice (eVar 1) pNone (pSome (eVar 7))) (aCons (eOp2 dIx (eVar 4) (eVar 7)) aNil))) aNil))))) (sRet (eC (.bool false))) sNil)))
def rb7 : SF := (sSeq (sSet 5 (eCallB r__law_take 0 (aCons (eCall (g2 dMax2) (aCons (eC (.int 1)) (aCons (eCall (g1 dLen1) (aCons (eVar 2) aNil)) aNil))) aNil))) (sSeq (sSet 10 (eOp2 dAdd (eOp2 dAdd (eOp2 dAdd (eSlice (eVar 2) pNone (pSome (eVar 5))) (eCallB r__law_pick 0 (aCons (eC (.str "0159 az~(")) aNil))) (eSlice (eVar 2) (pSome (eOp2 dAdd (eVar 5) (eC (.int 1)))) pNone)) (eCallB r__law_pick 0 (aCons (eOfO (oLst (aCons (eC (.str "")) (aCons (eC (.str "~")) (aCons (eC (.str "001020a")) (aCons (eC (.str "000000")) (aCons (eC (.str "001021a")) (aCons (eC (.str "999")) aNil)))))))) aNil)))) (sIf (uNot (toT (eCall (r__law_same 8) (aCons (eCall r_frames_in (aCons (eVar 10) aNil)) (aCons (eCall r__law_frames_in (aCons (eVar 10) aNil)) aNil))))) (sRet (eC (.bool false))) sNil)))
theorem right_eq : b__law_right = (sSeq (sSet 2 rJ) (sSeq rC1 (sSeq (sFor (iSeq (eVar 1)) (gNm 3) rb3) (sSeq (sSetO 4 (oLst (aCons (eC (.int 0)) aNil))) (sSeq (sFor (iSeq (eVar 1)) (gNm 3) rb5) (sSeq (sFor rLat (gNm 5) rb6) (sSeq (sFor (iRange1 (eC (.int 12))) (gNm 6) rb7) (sRet (eC (.bool true)))))))))) := rfl
theorem seq_nx {f g : SF} {ρ ρ1 : En} (h : f ρ = some (.nx ρ1)) : sSeq f g ρ = g ρ1 := by
  unfold sSeq; rw [h]; rfl
def mI (n : Nat) : Dt := .int (n : Int)
theorem ok_S {n : Nat} {l : List Nat} : Ok (n + 1) (S l) := trivial
theorem ok_I {n : Nat} {i : Int} : Ok (n + 1) (.int i) := trivial
theorem ok_pair {n : Nat} {l : List (List Nat)} {i : Int} (h : l.length ≤ 10000) : Ok (n + 3) (.tuple [.tuple (l.map S), .int i]) := by
  refine ⟨by simp, ?_⟩
  intro x hx
  rcases List.mem_cons.mp hx with rfl | hx
  · refine ⟨by rw [List.length_map]; exact h, ?_⟩
    intro y hy
    obtain ⟨z, _, rfl⟩ := List.mem_map.mp hy
    exact trivial
  · rcases List.mem_cons.mp hx with rfl | hx
    · exact trivial
    · cases hx
theorem ok_list {n : Nat} {l : List Dt} (h : l.length ≤ 10000) (hx : ∀ x ∈ l, Ok n x) : Ok (n + 1) (.list l) := ⟨h, hx⟩
theorem frS_ok {n : Nat} {s : List Nat} (h : s.length ≤ 10000) : Ok (n + 3) (frS s) := ok_pair (by have := (frF_len s.length s).1; omega)
theorem Low_SG : Low SG := by unfold Low; decide
theorem okS_low {a : List Nat} (h : okS a = true) : Low a := fun c m => Low_SG c (mem_SG h m)
theorem pv_low {n : Nat} (h : n < 1000) : Low (pv n) := by
  intro c hc
  simp only [pv, List.mem_cons, List.not_mem_nil, or_false] at hc
  omega
theorem frm_low {a : List Nat} (h : GT a) : Low (frm a) := by
  intro c hc
  rcases List.mem_append.mp hc with hc | hc
  · rcases List.mem_append.mp hc with hc | hc
    · exact pv_low (by have := h.2.1; omega) c hc
    · exact pv_low (chk_lt a) c hc
  · exact okS_low h.1 c hc
theorem strm_low {ts : List (List Nat)} (h : ∀ t ∈ ts, GT t) : Low (strm ts) := by
  intro c hc
  obtain ⟨l, hl, hc⟩ := List.mem_flatten.mp hc
  obtain ⟨t, ht, rfl⟩ := List.mem_map.mp hl
  exact frm_low (h t ht) c hc
section
variable {ts : List (List Nat)} (hts : ∀ t ∈ ts, GT t) (hl : ts.length ≤ 30)
theorem strm_small (hts : ∀ t ∈ ts, GT t) (hl : ts.length ≤ 30) : (strm ts).length ≤ 6180 := by
  have := stream_len (ts := ts) fun t m => (hts t m).2.1
  have e : (strm ts).length = ((ts.map frm).flatten).length := rfl
  omega
theorem st1 (hts : ∀ t ∈ ts, GT t) (hl : ts.length ≤ 30) (w : List Dt) : sSet 2 rJ [.bor w, .dat (.tuple (ts.map S)), .un, .un, .un, .un, .un, .un, .un, .un, .un] = some (.nx [.bor w, .dat (.tuple (ts.map S)), .dat (S (strm ts)), .un, .un, .un, .un, .un, .un, .un, .un]) := by
  have hc : oLc (iSeq (eVar 1)) (gNm 3) uTrue (eCall r__law_frame (aCons (eVar 3) aNil)) [3] [.bor w, .dat (.tuple (ts.map S)), .un, .un, .un, .un, .un, .un, .un, .un, .un] = some (ts.map (fun t => S (frm t)), [.bor w, .dat (.tuple (ts.map S)), .un, .un, .un, .un, .un, .un, .un, .un, .un]) := by
    apply oLc_map (l := ts) (f := S) (G := fun t => [.bor w, .dat (.tuple (ts.map S)), .un, .dat (S t), .un, .un, .un, .un, .un, .un, .un])
    · rfl
    · intro t ht
      refine ⟨rfl, rfl, ?_⟩
      simp -implicitDefEqProofs only [eVar, eC, eOp2, eOp1, toT, tOfB, eAnd, eOr, eNot, uAnd, uOr, uNot, eIf, aNil, aCons, eCall, eCallK, eTup, oLst, eOfO, eIsN, eNotN, gIsN_S, gNotN_S, gIsN_none, gNotN_none, gIsN_tup, gNotN_tup, gIsN_int, gNotN_int, gIsN_list, gNotN_list, gIsN_bool, gNotN_bool, gIsN_str, gNotN_str, eChain, eCellIx, eCellLen, eSlice, pNone, pSome, eMt1, oList, oListR1, iSeq, iEnum1, iEnum2, iRange1, iRange2, gNm, gTu, gTps, gCell, sNil, sSeq, sSet, sSetO, sRet, sRetO, sRetOwn, sRetN, sDrop, sIf, sNever, sAppend, sAsg, sPar, sParO, sFor, put0_un, put0_dat, put0_own, put_succ, put0_fr, cellAt, putCell, Sl.cell, Sl.withCell, g1, g2, eCallB, oCall, gk, permL, runF, runO, runB, padE, Option.bind_some, Option.map_some, Option.bind_none, Option.map_none, List.getElem?_cons_zero, List.getElem?_cons_succ, List.set_cons_zero, List.set_cons_succ, List.length_cons, List.length_nil, List.map_cons, List.map_nil, List.replicate, List.cons_append, List.nil_append, List.filterMap_cons, List.filterMap_nil, isStr_S, isStrD_str, if_true, if_false, reduceIte, Bool.not_true, Bool.not_false, Nat.reduceAdd, Nat.reduceSub, Nat.zero_add, decide_eq_true_eq, Bool.false_eq_true, reduceCtorEq, Bool.true_eq_false, and_self, true_and, and_true, Int.reduceNeg, law_frame_S (hts t ht).1 (hts t ht).2.1]
    · omega
  have hj := dJoin_S (ys := ts.map frm) (by have := strm_small hts hl; unfold strm at this; omega)
  rw [List.map_map] at hj
  have hj' : dJoin (S []) (.list (ts.map fun t => S (frm t))) = some (S (strm ts)) := hj
  unfold rJ
  simp -implicitDefEqProofs only [eVar, eC, eOp2, eOp1, toT, tOfB, eAnd, eOr, eNot, uAnd, uOr, uNot, eIf, aNil, aCons, eCall, eCallK, eTup, oLst, eOfO, eIsN, eNotN, gIsN_S, gNotN_S, gIsN_none, gNotN_none, gIsN_tup, gNotN_tup, gIsN_int, gNotN_int, gIsN_list, gNotN_list, gIsN_bool, gNotN_bool, gIsN_str, gNotN_str, eChain, eCellIx, eCellLen, eSlice, pNone, pSome, eMt1, oList, oListR1, iSeq, iEnum1, iEnum2, iRange1, iRange2, gNm, gTu, gTps, gCell, sNil, sSeq, sSet, sSetO, sRet, sRetO, sRetOwn, sRetN, sDrop, sIf, sNever, sAppend, sAsg, sPar, sParO, sFor, put0_un, put0_dat, put0_own, put_succ, put0_fr, cellAt, putCell, Sl.cell, Sl.withCell, g1, g2, eCallB, oCall, gk, permL, runF, runO, runB, padE, Option.bind_some, Option.map_some, Option.bind_none, Option.map_none, List.getElem?_cons_zero, List.getElem?_cons_succ, List.set_cons_zero, List.set_cons_succ, List.length_cons, List.length_nil, List.map_cons, List.map_nil, List.replicate, List.cons_append, List.nil_append, List.filterMap_cons, List.filterMap_nil, isStr_S, isStrD_str, if_true, if_false, reduceIte, Bool.not_true, Bool.not_false, Nat.reduceAdd, Nat.reduceSub, Nat.zero_add, decide_eq_true_eq, Bool.false_eq_true, reduceCtorEq, Bool.true_eq_false, and_self, true_and, and_true, Int.reduceNeg, hc, e_lit, hj']
theorem st2 (hts : ∀ t ∈ ts, GT t) (hl : ts.length ≤ 30) (w : List Dt) : rC1 [.bor w, .dat (.tuple (ts.map S)), .dat (S (strm ts)), .un, .un, .un, .un, .un, .un, .un, .un] = some (.nx [.bor w, .dat (.tuple (ts.map S)), .dat (S (strm ts)), .un, .un, .un, .un, .un, .un, .un, .un]) := by
  have hsm := strm_small hts hl
  have e1 : r_stream_of [.tuple (ts.map S)] = some (S (strm ts)) := stream_of_S hts (by omega)
  have e2 : r_frames_in [S (strm ts)] = some (.tuple [.tuple (ts.map S), .int ((strm ts).length : Nat)]) := by
    rw [frames_in_S (by omega), frS_whole hts]
  have e3 : dLen1 (S (strm ts)) = some (.int ((strm ts).length : Int)) := len_S (by omega)
  have e4 : r__law_same 8 [.list [S (strm ts), S (strm ts), .tuple [.tuple (ts.map S), .int ((strm ts).length : Nat)], .tuple [.tuple (ts.map S), .int ((strm ts).length : Nat)]], .list [S (strm ts), S (strm ts), .tuple [.tuple (ts.map S), .int ((strm ts).length : Nat)], .tuple [.tuple (ts.map S), .int ((strm ts).length : Nat)]]] = some (.bool true) := by
    apply same_refl
    refine ok_list (by simp) ?_
    intro x hx
    simp only [List.mem_cons, List.not_mem_nil, or_false] at hx
    rcases hx with rfl | rfl | rfl | rfl
    · exact ok_S
    · exact ok_S
    · exact ok_pair (by omega)
    · exact ok_pair (by omega)
  unfold rC1
  simp -implicitDefEqProofs only [eVar, eC, eOp2, eOp1, toT, tOfB, eAnd, eOr, eNot, uAnd, uOr, uNot, eIf, aNil, aCons, eCall, eCallK, eTup, oLst, eOfO, eIsN, eNotN, gIsN_S, gNotN_S, gIsN_none, gNotN_none, gIsN_tup, gNotN_tup, gIsN_int, gNotN_int, gIsN_list, gNotN_list, gIsN_bool, gNotN_bool, gIsN_str, gNotN_str, eChain, eCellIx, eCellLen, eSlice, pNone, pSome, eMt1, oList, oListR1, iSeq, iEnum1, iEnum2, iRange1, iRange2, gNm, gTu, gTps, gCell, sNil, sSeq, sSet, sSetO, sRet, sRetO, sRetOwn, sRetN, sDrop, sIf, sNever, sAppend, sAsg, sPar, sParO, sFor, put0_un, put0_dat, put0_own, put_succ, put0_fr, cellAt, putCell, Sl.cell, Sl.withCell, g1, g2, eCallB, oCall, gk, permL, runF, runO, runB, padE, Option.bind_some, Option.map_some, Option.bind_none, Option.map_none, List.getElem?_cons_zero, List.getElem?_cons_succ, List.set_cons_zero, List.set_cons_succ, List.length_cons, List.length_nil, List.map_cons, List.map_nil, List.replicate, List.cons_append, List.nil_append, List.filterMap_cons, List.filterMap_nil, isStr_S, isStrD_str, if_true, if_false, reduceIte, Bool.not_true, Bool.not_false, Nat.reduceAdd, Nat.reduceSub, Nat.zero_add, decide_eq_true_eq, Bool.false_eq_true, reduceCtorEq, Bool.true_eq_false, and_self, true_and, and_true, Int.reduceNeg, e1, e2, e3, e4, szl, show (4 : Nat) ≤ 16777216 by decide, show (2 : Nat) ≤ 16777216 by decide]
theorem st3 (hts : ∀ t ∈ ts, GT t) (w : List Dt) : ∃ x3, Fr x3 ∧ sFor (iSeq (eVar 1)) (gNm 3) rb3 [.bor w, .dat (.tuple (ts.map S)), .dat (S (strm ts)), .un, .un, .un, .un, .un, .un, .un, .un] = some (.nx [.bor w, .dat (.tuple (ts.map S)), .dat (S (strm ts)), x3, .un, .un, .un, .un, .un, .un, .un]) := by
  have loop := fLoop_inv (g := gNm 3) (bd := rb3) (fun ds ρ => ∃ (rs : List (List Nat)) (x3 : Sl), ds = rs.map S ∧ (∀ t ∈ rs, GT t) ∧ ρ = [.bor w, .dat (.tuple (ts.map S)), .dat (S (strm ts)), x3, .un, .un, .un, .un, .un, .un, .un] ∧ Fr x3)
    (ts.map S) [.bor w, .dat (.tuple (ts.map S)), .dat (S (strm ts)), .un, .un, .un, .un, .un, .un, .un, .un] ⟨ts, .un, rfl, hts, rfl, Fr.un⟩ (by
      rintro d ds ρ ⟨rs, x3, h1, h2, rfl, hx⟩
      cases rs with
      | nil => cases h1
      | cons t rs =>
        rw [List.map_cons] at h1
        injection h1 with h1 h1'
        subst h1
        have g := h2 t List.mem_cons_self
        have hl := g.2.1
        refine ⟨[.bor w, .dat (.tuple (ts.map S)), .dat (S (strm ts)), .dat (S t), .un, .un, .un, .un, .un, .un, .un], [.bor w, .dat (.tuple (ts.map S)), .dat (S (strm ts)), .dat (S t), .un, .un, .un, .un, .un, .un, .un], by simp -implicitDefEqProofs only [eVar, eC, eOp2, eOp1, toT, tOfB, eAnd, eOr, eNot, uAnd, uOr, uNot, eIf, aNil, aCons, eCall, eCallK, eTup, oLst, eOfO, eIsN, eNotN, gIsN_S, gNotN_S, gIsN_none, gNotN_none, gIsN_tup, gNotN_tup, gIsN_int, gNotN_int, gIsN_list, gNotN_list, gIsN_bool, gNotN_bool, gIsN_str, gNotN_str, eChain, eCellIx, eCellLen, eSlice, pNone, pSome, eMt1, oList, oListR1, iSeq, iEnum1, iEnum2, iRange1, iRange2, gNm, gTu, gTps, gCell, sNil, sSeq, sSet, sSetO, sRet, sRetO, sRetOwn, sRetN, sDrop, sIf, sNever, sAppend, sAsg, sPar, sParO, sFor, put0_un, put0_dat, put0_own, put_succ, put0_fr, cellAt, putCell, Sl.cell, Sl.withCell, g1, g2, eCallB, oCall, gk, permL, runF, runO, runB, padE, Option.bind_some, Option.map_some, Option.bind_none, Option.map_none, List.getElem?_cons_zero, List.getElem?_cons_succ, List.set_cons_zero, List.set_cons_succ, List.length_cons, List.length_nil, List.map_cons, List.map_nil, List.replicate, List.cons_append, List.nil_append, List.filterMap_cons, List.filterMap_nil, isStr_S, isStrD_str, if_true, if_false, reduceIte, Bool.not_true, Bool.not_false, Nat.reduceAdd, Nat.reduceSub, Nat.zero_add, decide_eq_true_eq, Bool.false_eq_true, reduceCtorEq, Bool.true_eq_false, and_self, true_and, and_true, Int.reduceNeg, hx], ?_, rs, _, h1', fun t m => h2 t (List.mem_cons_of_mem _ m), rfl, Fr.dat⟩
        have e1 := check_number_S g.1 hl
        have e2 := frame_S g
        have e3 := law_check_S (show t.length ≤ 10000 by omega) g.1
        have e4 := law_frame_S g.1 hl
        have e5 : dMulA (.list [.int (chk t : Nat), S (frm t)]) (.int 2) = some (.list [.int (chk t : Nat), S (frm t), .int (chk t : Nat), S (frm t)]) := by
          show (if -(2 ^ 63) ≤ (2 : Int) ∧ (2 : Int) < 2 ^ 63 ∧ 2 * (2 : Int).toNat ≤ sizeLine then some (PyData.list (List.replicate (2 : Int).toNat [.int (chk t : Nat), S (frm t)]).flatten) else none) = _
          rw [if_pos (by rw [szl]; decide)]; rfl
        have e6 : r__law_same 8 [.list [.int (chk t : Nat), S (frm t), .int (chk t : Nat), S (frm t)], .list [.int (chk t : Nat), S (frm t), .int (chk t : Nat), S (frm t)]] = some (.bool true) := by
          apply same_refl
          refine ok_list (by simp) ?_
          intro x hx
          simp only [List.mem_cons, List.not_mem_nil, or_false] at hx
          rcases hx with rfl | rfl | rfl | rfl
          · exact ok_I
          · exact ok_S
          · exact ok_I
          · exact ok_S
        unfold rb3
        simp -implicitDefEqProofs only [eVar, eC, eOp2, eOp1, toT, tOfB, eAnd, eOr, eNot, uAnd, uOr, uNot, eIf, aNil, aCons, eCall, eCallK, eTup, oLst, eOfO, eIsN, eNotN, gIsN_S, gNotN_S, gIsN_none, gNotN_none, gIsN_tup, gNotN_tup, gIsN_int, gNotN_int, gIsN_list, gNotN_list, gIsN_bool, gNotN_bool, gIsN_str, gNotN_str, eChain, eCellIx, eCellLen, eSlice, pNone, pSome, eMt1, oList, oListR1, iSeq, iEnum1, iEnum2, iRange1, iRange2, gNm, gTu, gTps, gCell, sNil, sSeq, sSet, sSetO, sRet, sRetO, sRetOwn, sRetN, sDrop, sIf, sNever, sAppend, sAsg, sPar, sParO, sFor, put0_un, put0_dat, put0_own, put_succ, put0_fr, cellAt, putCell, Sl.cell, Sl.withCell, g1, g2, eCallB, oCall, gk, permL, runF, runO, runB, padE, Option.bind_some, Option.map_some, Option.bind_none, Option.map_none, List.getElem?_cons_zero, List.getElem?_cons_succ, List.set_cons_zero, List.set_cons_succ, List.length_cons, List.length_nil, List.map_cons, List.map_nil, List.replicate, List.cons_append, List.nil_append, List.filterMap_cons, List.filterMap_nil, isStr_S, isStrD_str, if_true, if_false, reduceIte, Bool.not_true, Bool.not_false, Nat.reduceAdd, Nat.reduceSub, Nat.zero_add, decide_eq_true_eq, Bool.false_eq_true, reduceCtorEq, Bool.true_eq_false, and_self, true_and, and_true, Int.reduceNeg, e1, e2, e3, e4, szl, show (4 : Nat) ≤ 16777216 by decide, show (2 : Nat) ≤ 16777216 by decide, e5, e6])
  obtain ⟨ρ', l1, rs, x3, _, _, rfl, hx⟩ := loop
  refine ⟨x3, hx, ?_⟩
  simp -implicitDefEqProofs only [eVar, eC, eOp2, eOp1, toT, tOfB, eAnd, eOr, eNot, uAnd, uOr, uNot, eIf, aNil, aCons, eCall, eCallK, eTup, oLst, eOfO, eIsN, eNotN, gIsN_S, gNotN_S, gIsN_none, gNotN_none, gIsN_tup, gNotN_tup, gIsN_int, gNotN_int, gIsN_list, gNotN_list, gIsN_bool, gNotN_bool, gIsN_str, gNotN_str, eChain, eCellIx, eCellLen, eSlice, pNone, pSome, eMt1, oList, oListR1, iSeq, iEnum1, iEnum2, iRange1, iRange2, gNm, gTu, gTps, gCell, sNil, sSeq, sSet, sSetO, sRet, sRetO, sRetOwn, sRetN, sDrop, sIf, sNever, sAppend, sAsg, sPar, sParO, sFor, put0_un, put0_dat, put0_own, put_succ, put0_fr, cellAt, putCell, Sl.cell, Sl.withCell, g1, g2, eCallB, oCall, gk, permL, runF, runO, runB, padE, Option.bind_some, Option.map_some, Option.bind_none, Option.map_none, List.getElem?_cons_zero, List.getElem?_cons_succ, List.set_cons_zero, List.set_cons_succ, List.length_cons, List.length_nil, List.map_cons, List.map_nil, List.replicate, List.cons_append, List.nil_append, List.filterMap_cons, List.filterMap_nil, isStr_S, isStrD_str, if_true, if_false, reduceIte, Bool.not_true, Bool.not_false, Nat.reduceAdd, Nat.reduceSub, Nat.zero_add, decide_eq_true_eq, Bool.false_eq_true, reduceCtorEq, Bool.true_eq_false, and_self, true_and, and_true, Int.reduceNeg, dItems, l1]
theorem st5 (hts : ∀ t ∈ ts, GT t) (hl : ts.length ≤ 30) (w : List Dt) {x3 : Sl} (hx : Fr x3) : ∃ y3, Fr y3 ∧ sFor (iSeq (eVar 1)) (gNm 3) rb5 [.bor w, .dat (.tuple (ts.map S)), .dat (S (strm ts)), x3, .own [.int 0], .un, .un, .un, .un, .un, .un] = some (.nx [.bor w, .dat (.tuple (ts.map S)), .dat (S (strm ts)), y3, .own ((0 :: en 0 ts).map mI), .un, .un, .un, .un, .un, .un]) := by
  have loop := fLoop_inv (g := gNm 3) (bd := rb5) (fun ds ρ => ∃ (rs : List (List Nat)) (L : List Nat) (b : Nat) (x3 : Sl), ds = rs.map S ∧ (∀ t ∈ rs, GT t) ∧ L ++ b :: en b rs = 0 :: en 0 ts ∧ ρ = [.bor w, .dat (.tuple (ts.map S)), .dat (S (strm ts)), x3, .own (L.map mI ++ [mI b]), .un, .un, .un, .un, .un, .un] ∧ Fr x3)
    (ts.map S) [.bor w, .dat (.tuple (ts.map S)), .dat (S (strm ts)), x3, .own [.int 0], .un, .un, .un, .un, .un, .un] ⟨ts, [], 0, x3, rfl, hts, rfl, rfl, hx⟩ (by
      rintro d ds ρ ⟨rs, L, b, x3, h1, h2, h3, rfl, hx⟩
      cases rs with
      | nil => cases h1
      | cons t rs =>
        rw [List.map_cons] at h1
        injection h1 with h1 h1'
        subst h1
        have g := h2 t List.mem_cons_self
        have hl2 := g.2.1
        have hL := congrArg List.length h3
        rw [List.length_append, List.length_cons, List.length_cons, en_len, en_len, List.length_cons] at hL
        have e1 : atI (L.map mI ++ [mI b]) (-1) = some (mI b) := cell_last
        have e2 : dNeg (.int 1) = some (.int (-1)) := rfl
        have e3 : dAdd (mI b) (.int 6) = some (.int ((b + 6 : Nat) : Int)) := rfl
        have e4 : dLen1 (S t) = some (.int (t.length : Int)) := len_S (by omega)
        have e5 : (L.map mI ++ [mI b]).length < 16777216 := by rw [List.length_append, List.length_map]; simp; omega
        refine ⟨[.bor w, .dat (.tuple (ts.map S)), .dat (S (strm ts)), .dat (S t), .own (L.map mI ++ [mI b]), .un, .un, .un, .un, .un, .un], [.bor w, .dat (.tuple (ts.map S)), .dat (S (strm ts)), .dat (S t), .own ((L ++ [b]).map mI ++ [mI (b + 6 + t.length)]), .un, .un, .un, .un, .un, .un], by simp -implicitDefEqProofs only [eVar, eC, eOp2, eOp1, toT, tOfB, eAnd, eOr, eNot, uAnd, uOr, uNot, eIf, aNil, aCons, eCall, eCallK, eTup, oLst, eOfO, eIsN, eNotN, gIsN_S, gNotN_S, gIsN_none, gNotN_none, gIsN_tup, gNotN_tup, gIsN_int, gNotN_int, gIsN_list, gNotN_list, gIsN_bool, gNotN_bool, gIsN_str, gNotN_str, eChain, eCellIx, eCellLen, eSlice, pNone, pSome, eMt1, oList, oListR1, iSeq, iEnum1, iEnum2, iRange1, iRange2, gNm, gTu, gTps, gCell, sNil, sSeq, sSet, sSetO, sRet, sRetO, sRetOwn, sRetN, sDrop, sIf, sNever, sAppend, sAsg, sPar, sParO, sFor, put0_un, put0_dat, put0_own, put_succ, put0_fr, cellAt, putCell, Sl.cell, Sl.withCell, g1, g2, eCallB, oCall, gk, permL, runF, runO, runB, padE, Option.bind_some, Option.map_some, Option.bind_none, Option.map_none, List.getElem?_cons_zero, List.getElem?_cons_succ, List.set_cons_zero, List.set_cons_succ, List.length_cons, List.length_nil, List.map_cons, List.map_nil, List.replicate, List.cons_append, List.nil_append, List.filterMap_cons, List.filterMap_nil, isStr_S, isStrD_str, if_true, if_false, reduceIte, Bool.not_true, Bool.not_false, Nat.reduceAdd, Nat.reduceSub, Nat.zero_add, decide_eq_true_eq, Bool.false_eq_true, reduceCtorEq, Bool.true_eq_false, and_self, true_and, and_true, Int.reduceNeg, hx], ?_, rs, L ++ [b], b + 6 + t.length, _, h1', fun t m => h2 t (List.mem_cons_of_mem _ m), ?_, rfl, Fr.dat⟩
        · have e6 : PyData.int ((b + 6 + t.length : Nat) : Int) = mI (b + 6 + t.length) := rfl
          have e7 : (L ++ [b]).map mI = L.map mI ++ [mI b] := by rw [List.map_append]; rfl
          rw [e7]
          unfold rb5
          simp -implicitDefEqProofs only [eVar, eC, eOp2, eOp1, toT, tOfB, eAnd, eOr, eNot, uAnd, uOr, uNot, eIf, aNil, aCons, eCall, eCallK, eTup, oLst, eOfO, eIsN, eNotN, gIsN_S, gNotN_S, gIsN_none, gNotN_none, gIsN_tup, gNotN_tup, gIsN_int, gNotN_int, gIsN_list, gNotN_list, gIsN_bool, gNotN_bool, gIsN_str, gNotN_str, eChain, eCellIx, eCellLen, eSlice, pNone, pSome, eMt1, oList, oListR1, iSeq, iEnum1, iEnum2, iRange1, iRange2, gNm, gTu, gTps, gCell, sNil, sSeq, sSet, sSetO, sRet, sRetO, sRetOwn, sRetN, sDrop, sIf, sNever, sAppend, sAsg, sPar, sParO, sFor, put0_un, put0_dat, put0_own, put_succ, put0_fr, cellAt, putCell, Sl.cell, Sl.withCell, g1, g2, eCallB, oCall, gk, permL, runF, runO, runB, padE, Option.bind_some, Option.map_some, Option.bind_none, Option.map_none, List.getElem?_cons_zero, List.getElem?_cons_succ, List.set_cons_zero, List.set_cons_succ, List.length_cons, List.length_nil, List.map_cons, List.map_nil, List.replicate, List.cons_append, List.nil_append, List.filterMap_cons, List.filterMap_nil, isStr_S, isStrD_str, if_true, if_false, reduceIte, Bool.not_true, Bool.not_false, Nat.reduceAdd, Nat.reduceSub, Nat.zero_add, decide_eq_true_eq, Bool.false_eq_true, reduceCtorEq, Bool.true_eq_false, and_self, true_and, and_true, Int.reduceNeg, e2, e1, e3, e4, add_nat, szl, e5, e6]
        · rw [List.append_assoc]
          exact h3)
  obtain ⟨ρ', l1, rs, L, b, x3', l2, _, l4, rfl, hx'⟩ := loop
  refine ⟨x3', hx', ?_⟩
  have : rs = [] := by
    cases rs with
    | nil => rfl
    | cons a b => cases l2
  subst this
  have e : (0 :: en 0 ts).map mI = L.map mI ++ [mI b] := by rw [← l4, List.map_append]; rfl
  rw [e]
  simp -implicitDefEqProofs only [eVar, eC, eOp2, eOp1, toT, tOfB, eAnd, eOr, eNot, uAnd, uOr, uNot, eIf, aNil, aCons, eCall, eCallK, eTup, oLst, eOfO, eIsN, eNotN, gIsN_S, gNotN_S, gIsN_none, gNotN_none, gIsN_tup, gNotN_tup, gIsN_int, gNotN_int, gIsN_list, gNotN_list, gIsN_bool, gNotN_bool, gIsN_str, gNotN_str, eChain, eCellIx, eCellLen, eSlice, pNone, pSome, eMt1, oList, oListR1, iSeq, iEnum1, iEnum2, iRange1, iRange2, gNm, gTu, gTps, gCell, sNil, sSeq, sSet, sSetO, sRet, sRetO, sRetOwn, sRetN, sDrop, sIf, sNever, sAppend, sAsg, sPar, sParO, sFor, put0_un, put0_dat, put0_own, put_succ, put0_fr, cellAt, putCell, Sl.cell, Sl.withCell, g1, g2, eCallB, oCall, gk, permL, runF, runO, runB, padE, Option.bind_some, Option.map_some, Option.bind_none, Option.map_none, List.getElem?_cons_zero, List.getElem?_cons_succ, List.set_cons_zero, List.set_cons_succ, List.length_cons, List.length_nil, List.map_cons, List.map_nil, List.replicate, List.cons_append, List.nil_append, List.filterMap_cons, List.filterMap_nil, isStr_S, isStrD_str, if_true, if_false, reduceIte, Bool.not_true, Bool.not_false, Nat.reduceAdd, Nat.reduceSub, Nat.zero_add, decide_eq_true_eq, Bool.false_eq_true, reduceCtorEq, Bool.true_eq_false, and_self, true_and, and_true, Int.reduceNeg, dItems, l1]
end
end Q43

set_option Elab.async false
set_option linter.all false
set_option maxRecDepth 100000
set_option maxHeartbeats 8000000
namespace Q43
open PySem PySem.Spec L2 DL
theorem le_nat (n m : Nat) : dLe (.int (n : Int)) (.int (m : Int)) = some (.bool (decide (n ≤ m))) := by
  show some (PyData.bool (decide ((n : Int) ≤ (m : Int)))) = _
  congr 2; exact decide_eq_decide.mpr (by omega)
theorem lt_200 (n : Nat) : dLt (.int (n : Int)) (.int 200) = some (.bool (decide (n < 200))) := lt_nat n 200
def EL (ts : List (List Nat)) : List Dt := (0 :: en 0 ts).map mI
section
variable {ts : List (List Nat)}
def Ends (ts : List (List Nat)) (x : Sl) : Prop := x = .own (EL ts) ∨ x = .dat (.list (EL ts))
theorem stAt (hts : ∀ t ∈ ts, GT t) (hl : ts.length ≤ 30) {w : List Dt} (hw : WellOk w) {x3 : Sl} : ∃ (ats : List Nat) (w' : List Dt), WellOk w' ∧ (∀ n ∈ ats, n ≤ 10000) ∧
    rLat [.bor w, .dat (.tuple (ts.map S)), .dat (S (strm ts)), x3, .own (EL ts), .un, .un, .un, .un, .un, .un] = some (ats.map mI, [.bor w', .dat (.tuple (ts.map S)), .dat (S (strm ts)), x3, .own (EL ts), .un, .un, .un, .un, .un, .un]) := by
  have hsm := strm_small hts hl
  have e1 : dLen1 (S (strm ts)) = some (.int ((strm ts).length : Int)) := len_S (by omega)
  by_cases c : (strm ts).length < 200
  · refine ⟨List.range ((strm ts).length + 1), w, hw, fun n hn => by have := List.mem_range.mp hn; omega, ?_⟩
    have e2 : (((strm ts).length + 1 : Nat) : Int) ≤ 16777216 ∧ (0 : Int) ≤ (((strm ts).length + 1 : Nat) : Int) := by omega
    unfold rLat
    simp -implicitDefEqProofs only [eVar, eC, eOp2, eOp1, toT, tOfB, eAnd, eOr, eNot, uAnd, uOr, uNot, eIf, aNil, aCons, eCall, eCallK, eTup, oLst, eOfO, eIsN, eNotN, gIsN_S, gNotN_S, gIsN_none, gNotN_none, gIsN_tup, gNotN_tup, gIsN_int, gNotN_int, gIsN_list, gNotN_list, gIsN_bool, gNotN_bool, gIsN_str, gNotN_str, eChain, eCellIx, eCellLen, eSlice, pNone, pSome, eMt1, oList, oListR1, iSeq, iEnum1, iEnum2, iRange1, iRange2, gNm, gTu, gTps, gCell, sNil, sSeq, sSet, sSetO, sRet, sRetO, sRetOwn, sRetN, sDrop, sIf, sNever, sAppend, sAsg, sPar, sParO, sFor, put0_un, put0_dat, put0_own, put_succ, put0_fr, cellAt, putCell, Sl.cell, Sl.withCell, g1, g2, eCallB, oCall, gk, permL, runF, runO, runB, padE, Option.bind_some, Option.map_some, Option.bind_none, Option.map_none, List.getElem?_cons_zero, List.getElem?_cons_succ, List.set_cons_zero, List.set_cons_succ, List.length_cons, List.length_nil, List.map_cons, List.map_nil, List.replicate, List.cons_append, List.nil_append, List.filterMap_cons, List.filterMap_nil, isStr_S, isStrD_str, if_true, if_false, reduceIte, Bool.not_true, Bool.not_false, Nat.reduceAdd, Nat.reduceSub, Nat.zero_add, decide_eq_true_eq, Bool.false_eq_true, reduceCtorEq, Bool.true_eq_false, and_self, true_and, and_true, Int.reduceNeg, e1, lt_200, c, decide_true, add1_nat, e2, range_zero, dItems]
    rfl
  · have hpos : 0 < (strm ts).length := by omega
    have hr62 : -(2 ^ 62) ≤ (60 : Int) ∧ (60 : Int) < 2 ^ 62 := by omega
    obtain ⟨ys, w3, c1, hw3, c3, c4⟩ := oLc_bor (fi := iRange1 (eC (.int 60))) (g := gNm 6) (te := eCallB r__law_take 0 (aCons (eCall (g1 dLen1) (aCons (eVar 2) aNil)) aNil)) (vs := [6]) (f := fun i : Nat => PyData.int (i : Int)) (l := List.range 60)
      (E := fun w => [.bor w, .dat (.tuple (ts.map S)), .dat (S (strm ts)), x3, .own (EL ts), .un, .un, .un, .un, .un, .un]) (Pw := WellOk) (Py := fun y => ∃ n, n < (strm ts).length ∧ y = mI n) (w := w)
      (by
        have := range_zero 60
        have e : rangeD 0 60 = (List.range 60).map fun i : Nat => PyData.int (i : Int) := this
        simp -implicitDefEqProofs only [eVar, eC, eOp2, eOp1, toT, tOfB, eAnd, eOr, eNot, uAnd, uOr, uNot, eIf, aNil, aCons, eCall, eCallK, eTup, oLst, eOfO, eIsN, eNotN, gIsN_S, gNotN_S, gIsN_none, gNotN_none, gIsN_tup, gNotN_tup, gIsN_int, gNotN_int, gIsN_list, gNotN_list, gIsN_bool, gNotN_bool, gIsN_str, gNotN_str, eChain, eCellIx, eCellLen, eSlice, pNone, pSome, eMt1, oList, oListR1, iSeq, iEnum1, iEnum2, iRange1, iRange2, gNm, gTu, gTps, gCell, sNil, sSeq, sSet, sSetO, sRet, sRetO, sRetOwn, sRetN, sDrop, sIf, sNever, sAppend, sAsg, sPar, sParO, sFor, put0_un, put0_dat, put0_own, put_succ, put0_fr, cellAt, putCell, Sl.cell, Sl.withCell, g1, g2, eCallB, oCall, gk, permL, runF, runO, runB, padE, Option.bind_some, Option.map_some, Option.bind_none, Option.map_none, List.getElem?_cons_zero, List.getElem?_cons_succ, List.set_cons_zero, List.set_cons_succ, List.length_cons, List.length_nil, List.map_cons, List.map_nil, List.replicate, List.cons_append, List.nil_append, List.filterMap_cons, List.filterMap_nil, isStr_S, isStrD_str, if_true, if_false, reduceIte, Bool.not_true, Bool.not_false, Nat.reduceAdd, Nat.reduceSub, Nat.zero_add, decide_eq_true_eq, Bool.false_eq_true, reduceCtorEq, Bool.true_eq_false, and_self, true_and, and_true, Int.reduceNeg, hr62, e]) hw
      (by
        intro w i hw hi
        obtain ⟨r, w', e, hr, hw'⟩ := take_S hw hpos (by omega)
        refine ⟨[.bor w, .dat (.tuple (ts.map S)), .dat (S (strm ts)), x3, .own (EL ts), .un, .dat (.int (i : Int)), .un, .un, .un, .un], [.bor w', .dat (.tuple (ts.map S)), .dat (S (strm ts)), x3, .own (EL ts), .un, .dat (.int (i : Int)), .un, .un, .un, .un], mI r, w', rfl, ?_, rfl, hw', r, hr, rfl⟩
        simp -implicitDefEqProofs only [eVar, eC, eOp2, eOp1, toT, tOfB, eAnd, eOr, eNot, uAnd, uOr, uNot, eIf, aNil, aCons, eCall, eCallK, eTup, oLst, eOfO, eIsN, eNotN, gIsN_S, gNotN_S, gIsN_none, gNotN_none, gIsN_tup, gNotN_tup, gIsN_int, gNotN_int, gIsN_list, gNotN_list, gIsN_bool, gNotN_bool, gIsN_str, gNotN_str, eChain, eCellIx, eCellLen, eSlice, pNone, pSome, eMt1, oList, oListR1, iSeq, iEnum1, iEnum2, iRange1, iRange2, gNm, gTu, gTps, gCell, sNil, sSeq, sSet, sSetO, sRet, sRetO, sRetOwn, sRetN, sDrop, sIf, sNever, sAppend, sAsg, sPar, sParO, sFor, put0_un, put0_dat, put0_own, put_succ, put0_fr, cellAt, putCell, Sl.cell, Sl.withCell, g1, g2, eCallB, oCall, gk, permL, runF, runO, runB, padE, Option.bind_some, Option.map_some, Option.bind_none, Option.map_none, List.getElem?_cons_zero, List.getElem?_cons_succ, List.set_cons_zero, List.set_cons_succ, List.length_cons, List.length_nil, List.map_cons, List.map_nil, List.replicate, List.cons_append, List.nil_append, List.filterMap_cons, List.filterMap_nil, isStr_S, isStrD_str, if_true, if_false, reduceIte, Bool.not_true, Bool.not_false, Nat.reduceAdd, Nat.reduceSub, Nat.zero_add, decide_eq_true_eq, Bool.false_eq_true, reduceCtorEq, Bool.true_eq_false, and_self, true_and, and_true, Int.reduceNeg, e1, e]
        rfl)
      (by
        intro w w' v hv
        simp only [List.mem_singleton] at hv
        subst hv; rfl)
      (by rw [List.length_range]; omega)
    obtain ⟨ats, rfl, h5⟩ := all_ex mI (fun n => n < (strm ts).length) c3
    refine ⟨ats, w3, hw3, fun n hn => by have := h5 n hn; omega, ?_⟩
    unfold rLat
    simp -implicitDefEqProofs only [eVar, eC, eOp2, eOp1, toT, tOfB, eAnd, eOr, eNot, uAnd, uOr, uNot, eIf, aNil, aCons, eCall, eCallK, eTup, oLst, eOfO, eIsN, eNotN, gIsN_S, gNotN_S, gIsN_none, gNotN_none, gIsN_tup, gNotN_tup, gIsN_int, gNotN_int, gIsN_list, gNotN_list, gIsN_bool, gNotN_bool, gIsN_str, gNotN_str, eChain, eCellIx, eCellLen, eSlice, pNone, pSome, eMt1, oList, oListR1, iSeq, iEnum1, iEnum2, iRange1, iRange2, gNm, gTu, gTps, gCell, sNil, sSeq, sSet, sSetO, sRet, sRetO, sRetOwn, sRetN, sDrop, sIf, sNever, sAppend, sAsg, sPar, sParO, sFor, put0_un, put0_dat, put0_own, put_succ, put0_fr, cellAt, putCell, Sl.cell, Sl.withCell, g1, g2, eCallB, oCall, gk, permL, runF, runO, runB, padE, Option.bind_some, Option.map_some, Option.bind_none, Option.map_none, List.getElem?_cons_zero, List.getElem?_cons_succ, List.set_cons_zero, List.set_cons_succ, List.length_cons, List.length_nil, List.map_cons, List.map_nil, List.replicate, List.cons_append, List.nil_append, List.filterMap_cons, List.filterMap_nil, isStr_S, isStrD_str, if_true, if_false, reduceIte, Bool.not_true, Bool.not_false, Nat.reduceAdd, Nat.reduceSub, Nat.zero_add, decide_eq_true_eq, Bool.false_eq_true, reduceCtorEq, Bool.true_eq_false, and_self, true_and, and_true, Int.reduceNeg, e1, lt_200, c, decide_false, c1, dItems]
theorem st6b (hts : ∀ t ∈ ts, GT t) (hl : ts.length ≤ 30) (w : List Dt) {x3 x4 x7 x9 : Sl} (h4 : Ends ts x4) (h7 : Fr x7) (h9 : Fr x9) {n : Nat} (hn : n ≤ 10000) :
    ∃ y7 y9, Fr y7 ∧ Fr y9 ∧ rb6 [.bor w, .dat (.tuple (ts.map S)), .dat (S (strm ts)), x3, x4, .dat (.int (n : Int)), .un, x7, .un, x9, .un] = some (.nx [.bor w, .dat (.tuple (ts.map S)), .dat (S (strm ts)), x3, .dat (.list (EL ts)), .dat (.int (n : Int)), .un, y7, .un, y9, .un]) := by
  have hsm := strm_small hts hl
  have hc : oLc (iSeq (eSlice (eVar 4) (pSome (eC (.int 1))) pNone)) (gNm 8) (toT (eOp2 dLe (eVar 8) (eVar 5))) (eVar 8) [8] [.bor w, .dat (.tuple (ts.map S)), .dat (S (strm ts)), x3, x4, .dat (.int (n : Int)), .un, x7, .un, x9, .un] =
      some (((en 0 ts).filter (fun e => decide (e ≤ 0 + n))).map mI, [.bor w, .dat (.tuple (ts.map S)), .dat (S (strm ts)), x3, .dat (.list (EL ts)), .dat (.int (n : Int)), .un, x7, .un, x9, .un]) := by
    apply oLc_fm' (l := en 0 ts) (f := mI) (G := fun e => [.bor w, .dat (.tuple (ts.map S)), .dat (S (strm ts)), x3, .dat (.list (EL ts)), .dat (.int (n : Int)), .un, x7, .dat (mI e), x9, .un])
    · have e1 : dSlice (.list (EL ts)) (some 1) none = some (.list ((en 0 ts).map mI)) := sliceL_from (EL ts) 1
      rcases h4 with rfl | rfl <;> simp -implicitDefEqProofs only [eVar, eC, eOp2, eOp1, toT, tOfB, eAnd, eOr, eNot, uAnd, uOr, uNot, eIf, aNil, aCons, eCall, eCallK, eTup, oLst, eOfO, eIsN, eNotN, gIsN_S, gNotN_S, gIsN_none, gNotN_none, gIsN_tup, gNotN_tup, gIsN_int, gNotN_int, gIsN_list, gNotN_list, gIsN_bool, gNotN_bool, gIsN_str, gNotN_str, eChain, eCellIx, eCellLen, eSlice, pNone, pSome, eMt1, oList, oListR1, iSeq, iEnum1, iEnum2, iRange1, iRange2, gNm, gTu, gTps, gCell, sNil, sSeq, sSet, sSetO, sRet, sRetO, sRetOwn, sRetN, sDrop, sIf, sNever, sAppend, sAsg, sPar, sParO, sFor, put0_un, put0_dat, put0_own, put_succ, put0_fr, cellAt, putCell, Sl.cell, Sl.withCell, g1, g2, eCallB, oCall, gk, permL, runF, runO, runB, padE, Option.bind_some, Option.map_some, Option.bind_none, Option.map_none, List.getElem?_cons_zero, List.getElem?_cons_succ, List.set_cons_zero, List.set_cons_succ, List.length_cons, List.length_nil, List.map_cons, List.map_nil, List.replicate, List.cons_append, List.nil_append, List.filterMap_cons, List.filterMap_nil, isStr_S, isStrD_str, if_true, if_false, reduceIte, Bool.not_true, Bool.not_false, Nat.reduceAdd, Nat.reduceSub, Nat.zero_add, decide_eq_true_eq, Bool.false_eq_true, reduceCtorEq, Bool.true_eq_false, and_self, true_and, and_true, Int.reduceNeg, e1, dItems]
    · intro e he
      refine ⟨rfl, rfl, ?_, fun _ => rfl⟩
      have : dLe (mI e) (.int (n : Int)) = some (.bool (decide (e ≤ 0 + n))) := by
        rw [Nat.zero_add]; exact le_nat e n
      simp -implicitDefEqProofs only [eVar, eC, eOp2, eOp1, toT, tOfB, eAnd, eOr, eNot, uAnd, uOr, uNot, eIf, aNil, aCons, eCall, eCallK, eTup, oLst, eOfO, eIsN, eNotN, gIsN_S, gNotN_S, gIsN_none, gNotN_none, gIsN_tup, gNotN_tup, gIsN_int, gNotN_int, gIsN_list, gNotN_list, gIsN_bool, gNotN_bool, gIsN_str, gNotN_str, eChain, eCellIx, eCellLen, eSlice, pNone, pSome, eMt1, oList, oListR1, iSeq, iEnum1, iEnum2, iRange1, iRange2, gNm, gTu, gTps, gCell, sNil, sSeq, sSet, sSetO, sRet, sRetO, sRetOwn, sRetN, sDrop, sIf, sNever, sAppend, sAsg, sPar, sParO, sFor, put0_un, put0_dat, put0_own, put_succ, put0_fr, cellAt, putCell, Sl.cell, Sl.withCell, g1, g2, eCallB, oCall, gk, permL, runF, runO, runB, padE, Option.bind_some, Option.map_some, Option.bind_none, Option.map_none, List.getElem?_cons_zero, List.getElem?_cons_succ, List.set_cons_zero, List.set_cons_succ, List.length_cons, List.length_nil, List.map_cons, List.map_nil, List.replicate, List.cons_append, List.nil_append, List.filterMap_cons, List.filterMap_nil, isStr_S, isStrD_str, if_true, if_false, reduceIte, Bool.not_true, Bool.not_false, Nat.reduceAdd, Nat.reduceSub, Nat.zero_add, decide_eq_true_eq, Bool.false_eq_true, reduceCtorEq, Bool.true_eq_false, and_self, true_and, and_true, Int.reduceNeg, this]
    · rw [en_len]; omega
  have e2 : dLen1 (.list (((en 0 ts).filter (fun e => decide (e ≤ 0 + n))).map mI)) = some (.int (cnt ts n : Nat)) := by
    show some (PyData.int ((((en 0 ts).filter (fun e => decide (e ≤ 0 + n))).map mI).length : Int)) = _
    rw [List.length_map, en_cnt]
  simp only [Nat.zero_add] at hc e2
  have hk := cnt_le ts n
  have e3 : dSlice (.tuple (ts.map S)) none (some (cnt ts n : Nat)) = some (.tuple ((ts.take (cnt ts n)).map S)) := by
    rw [sliceT_to, List.map_take]
  have e4 : dIx (.list (EL ts)) (.int (cnt ts n : Nat)) = some (.int (tot (ts.take (cnt ts n)) : Nat)) := by
    show atI ((0 :: en 0 ts).map mI) (cnt ts n : Nat) = _
    apply atI_nat
    rw [List.getElem?_map, en_at ts 0 (cnt ts n) hk, Nat.zero_add]; rfl
  have e5 : dSlice (S (strm ts)) none (some (n : Int)) = some (S ((strm ts).take n)) := slice_to (by omega) n
  have e6 : dMulA (.str "~") (.int 9) = some (S (List.replicate 9 126)) := by
    show dRep (.str "~") (.int 9) = _
    simp only [dRep]
    rw [if_pos (by rw [szl]; decide)]
    rfl
  have tk : ((strm ts).take n).length ≤ 10000 := by rw [List.length_take]; omega
  have tk2 : ((strm ts).take n).length ≤ 6180 := by rw [List.length_take]; omega
  have run : ∀ tl, Tl tl → ∃ o, dAdd (S ((strm ts).take n)) (S tl) = some (S ((strm ts).take n ++ tl)) ∧ r_frames_in [S ((strm ts).take n ++ tl)] = some (.tuple [.tuple ((ts.take (cnt ts n)).map S), .int (tot (ts.take (cnt ts n)) : Nat)]) ∧ o = () := by
    intro tl ht
    have hl3 : tl.length ≤ 9 := by rcases ht with rfl | rfl <;> simp
    refine ⟨(), add_S (by omega), ?_, rfl⟩
    rw [frames_in_S (by rw [List.length_append]; omega), frS_cut ht hts n]
  obtain ⟨_, a1, a2, _⟩ := run [] (Or.inl rfl)
  obtain ⟨_, b1, b2, _⟩ := run (List.replicate 9 126) (Or.inr rfl)
  have sm : r__law_same 8 [.tuple [.tuple ((ts.take (cnt ts n)).map S), .int (tot (ts.take (cnt ts n)) : Nat)], .tuple [.tuple ((ts.take (cnt ts n)).map S), .int (tot (ts.take (cnt ts n)) : Nat)]] = some (.bool true) := by
    apply same_refl
    exact ok_pair (by rw [List.length_take]; omega)
  generalize List.replicate 9 126 = tl9 at *
  refine ⟨.dat (.int (cnt ts n : Nat)), .dat (S tl9), Fr.dat, Fr.dat, ?_⟩
  unfold rb6
  simp -implicitDefEqProofs only [eVar, eC, eOp2, eOp1, toT, tOfB, eAnd, eOr, eNot, uAnd, uOr, uNot, eIf, aNil, aCons, eCall, eCallK, eTup, oLst, eOfO, eIsN, eNotN, gIsN_S, gNotN_S, gIsN_none, gNotN_none, gIsN_tup, gNotN_tup, gIsN_int, gNotN_int, gIsN_list, gNotN_list, gIsN_bool, gNotN_bool, gIsN_str, gNotN_str, eChain, eCellIx, eCellLen, eSlice, pNone, pSome, eMt1, oList, oListR1, iSeq, iEnum1, iEnum2, iRange1, iRange2, gNm, gTu, gTps, gCell, sNil, sSeq, sSet, sSetO, sRet, sRetO, sRetOwn, sRetN, sDrop, sIf, sNever, sAppend, sAsg, sPar, sParO, sFor, put0_un, put0_dat, put0_own, put_succ, put0_fr, cellAt, putCell, Sl.cell, Sl.withCell, g1, g2, eCallB, oCall, gk, permL, runF, runO, runB, padE, Option.bind_some, Option.map_some, Option.bind_none, Option.map_none, List.getElem?_cons_zero, List.getElem?_cons_succ, List.set_cons_zero, List.set_cons_succ, List.length_cons, List.length_nil, List.map_cons, List.map_nil, List.replicate, List.cons_append, List.nil_append, List.filterMap_cons, List.filterMap_nil, isStr_S, isStrD_str, if_true, if_false, reduceIte, Bool.not_true, Bool.not_false, Nat.reduceAdd, Nat.reduceSub, Nat.zero_add, decide_eq_true_eq, Bool.false_eq_true, reduceCtorEq, Bool.true_eq_false, and_self, true_and, and_true, Int.reduceNeg, hc, e2, h7, szl, show (2 : Nat) ≤ 16777216 by decide, e_lit, e6, dItems, fLoop_cons, fLoop_nil, h9, e5, a1, a2, e3, e4, sm, b1, b2]
theorem st6 (hts : ∀ t ∈ ts, GT t) (hl : ts.length ≤ 30) {w : List Dt} (hw : WellOk w) {x3 : Sl} : ∃ w' x4 x5 x7 x9, WellOk w' ∧ Fr x5 ∧ Fr x7 ∧ Fr x9 ∧
    sFor rLat (gNm 5) rb6 [.bor w, .dat (.tuple (ts.map S)), .dat (S (strm ts)), x3, .own (EL ts), .un, .un, .un, .un, .un, .un] = some (.nx [.bor w', .dat (.tuple (ts.map S)), .dat (S (strm ts)), x3, x4, x5, .un, x7, .un, x9, .un]) := by
  obtain ⟨ats, w', hw', hat, e⟩ := stAt hts hl hw (x3 := x3)
  have loop := fLoop_inv (g := gNm 5) (bd := rb6) (fun ds ρ => ∃ (as : List Nat) (x4 x5 x7 x9 : Sl), ds = as.map mI ∧ (∀ n ∈ as, n ≤ 10000) ∧ Ends ts x4 ∧ Fr x5 ∧ Fr x7 ∧ Fr x9 ∧ ρ = [.bor w', .dat (.tuple (ts.map S)), .dat (S (strm ts)), x3, x4, x5, .un, x7, .un, x9, .un])
    (ats.map mI) [.bor w', .dat (.tuple (ts.map S)), .dat (S (strm ts)), x3, .own (EL ts), .un, .un, .un, .un, .un, .un] ⟨ats, _, .un, .un, .un, rfl, hat, Or.inl rfl, Fr.un, Fr.un, Fr.un, rfl⟩ (by
      rintro d ds ρ ⟨as, x4, x5, x7, x9, h1, h2, h4, h5, h7, h9, rfl⟩
      cases as with
      | nil => cases h1
      | cons n as =>
        rw [List.map_cons] at h1
        injection h1 with h1 h1'
        subst h1
        obtain ⟨y7, y9, f7, f9, hb⟩ := st6b hts hl w' (x3 := x3) h4 h7 h9 (h2 n List.mem_cons_self)
        refine ⟨[.bor w', .dat (.tuple (ts.map S)), .dat (S (strm ts)), x3, x4, .dat (.int (n : Int)), .un, x7, .un, x9, .un], _, ?_, hb, as, _, _, _, _, h1', fun t m => h2 t (List.mem_cons_of_mem _ m), Or.inr rfl, Fr.dat, f7, f9, rfl⟩
        simp -implicitDefEqProofs only [eVar, eC, eOp2, eOp1, toT, tOfB, eAnd, eOr, eNot, uAnd, uOr, uNot, eIf, aNil, aCons, eCall, eCallK, eTup, oLst, eOfO, eIsN, eNotN, gIsN_S, gNotN_S, gIsN_none, gNotN_none, gIsN_tup, gNotN_tup, gIsN_int, gNotN_int, gIsN_list, gNotN_list, gIsN_bool, gNotN_bool, gIsN_str, gNotN_str, eChain, eCellIx, eCellLen, eSlice, pNone, pSome, eMt1, oList, oListR1, iSeq, iEnum1, iEnum2, iRange1, iRange2, gNm, gTu, gTps, gCell, sNil, sSeq, sSet, sSetO, sRet, sRetO, sRetOwn, sRetN, sDrop, sIf, sNever, sAppend, sAsg, sPar, sParO, sFor, put0_un, put0_dat, put0_own, put_succ, put0_fr, cellAt, putCell, Sl.cell, Sl.withCell, g1, g2, eCallB, oCall, gk, permL, runF, runO, runB, padE, Option.bind_some, Option.map_some, Option.bind_none, Option.map_none, List.getElem?_cons_zero, List.getElem?_cons_succ, List.set_cons_zero, List.set_cons_succ, List.length_cons, List.length_nil, List.map_cons, List.map_nil, List.replicate, List.cons_append, List.nil_append, List.filterMap_cons, List.filterMap_nil, isStr_S, isStrD_str, if_true, if_false, reduceIte, Bool.not_true, Bool.not_false, Nat.reduceAdd, Nat.reduceSub, Nat.zero_add, decide_eq_true_eq, Bool.false_eq_true, reduceCtorEq, Bool.true_eq_false, and_self, true_and, and_true, Int.reduceNeg, h5]
        rfl)
  obtain ⟨ρ', l1, as, x4, x5, x7, x9, _, _, _, h5, h7, h9, rfl⟩ := loop
  refine ⟨w', x4, x5, x7, x9, hw', h5, h7, h9, ?_⟩
  unfold sFor
  rw [e]
  exact l1
/-! ### bent streams -/
def QS : List Nat := [48, 49, 53, 57, 32, 97, 122, 126, 40]
def ZS : List (List Nat) := [[], [126], [48, 48, 49, 48, 50, 48, 97], [48, 48, 48, 48, 48, 48], [48, 48, 49, 48, 50, 49, 97], [57, 57, 57]]
theorem QS_lit : PyData.str "0159 az~(" = S QS := rfl
theorem ZS_lit : [PyData.str "", .str "~", .str "001020a", .str "000000", .str "001021a", .str "999"] = ZS.map S := rfl
theorem ZS_len : (ZS.map S).length = 6 := rfl
theorem ZS_ok : ∀ z ∈ ZS, z.length ≤ 7 ∧ ∀ c ∈ z, c < 1114112 := by decide
theorem QS_ok : ∀ c ∈ QS, c < 1114112 := by decide
theorem max1_nat (n : Nat) : dMax2 (.int 1) (.int (n : Int)) = some (.int ((max 1 n : Nat) : Int)) := by
  show some (PyData.int (if (n : Int) > 1 then (n : Int) else 1)) = _
  congr 2
  split <;> omega
theorem st7b (hts : ∀ t ∈ ts, GT t) (hl : ts.length ≤ 30) {w : List Dt} (hw : WellOk w) {x3 x4 x5 x6 x7 x8 x9 x10 : Sl} (h5 : Fr x5) (h10 : Fr x10) :
    ∃ w' y5 y10, WellOk w' ∧ Fr y5 ∧ Fr y10 ∧ rb7 [.bor w, .dat (.tuple (ts.map S)), .dat (S (strm ts)), x3, x4, x5, x6, x7, x8, x9, x10] = some (.nx [.bor w', .dat (.tuple (ts.map S)), .dat (S (strm ts)), x3, x4, y5, x6, x7, x8, x9, y10]) := by
  have hsm := strm_small hts hl
  have e1 : dLen1 (S (strm ts)) = some (.int ((strm ts).length : Int)) := len_S (by omega)
  obtain ⟨r, w1, t1, hr, hw1⟩ := take_S hw (many := max 1 (strm ts).length) (by omega) (by omega)
  obtain ⟨q, hq, w2, t2, hw2⟩ := pick_S hw1 (l := QS) (by decide) (by decide)
  obtain ⟨z', hz', w3, t3, hw3⟩ := pick_L hw2 (l := ZS.map S) (by decide) (by decide)
  obtain ⟨z, hz, rfl⟩ := List.mem_map.mp hz'
  obtain ⟨z1, z2⟩ := ZS_ok z hz
  have e2 : dSlice (S (strm ts)) none (some (r : Int)) = some (S ((strm ts).take r)) := slice_to (by omega) r
  have e3 : dSlice (S (strm ts)) (some ((r + 1 : Nat) : Int)) none = some (S ((strm ts).drop (r + 1))) := slice_from (by omega) (r + 1)
  have l1 : ((strm ts).take r).length ≤ 6180 := by rw [List.length_take]; omega
  have l2 : ((strm ts).drop (r + 1)).length ≤ 6180 := by rw [List.length_drop]; omega
  have a1 := add_S (a := (strm ts).take r) (b := [q]) (by simp; omega)
  have a2 := add_S (a := (strm ts).take r ++ [q]) (b := (strm ts).drop (r + 1)) (by rw [List.length_append]; simp; omega)
  have a3 := add_S (a := (strm ts).take r ++ [q] ++ (strm ts).drop (r + 1)) (b := z) (by rw [List.length_append, List.length_append]; simp; omega)
  have lb : ((strm ts).take r ++ [q] ++ (strm ts).drop (r + 1) ++ z).length ≤ 10000 := by rw [List.length_append, List.length_append, List.length_append]; simp; omega
  have lw : Low ((strm ts).take r ++ [q] ++ (strm ts).drop (r + 1) ++ z) := by
    intro c hc
    simp only [List.mem_append, List.mem_singleton] at hc
    rcases hc with ((hc | rfl) | hc) | hc
    · exact strm_low hts c (List.mem_of_mem_take hc)
    · exact QS_ok _ hq
    · exact strm_low hts c (List.mem_of_mem_drop hc)
    · exact z2 c hc
  generalize hb : (strm ts).take r ++ [q] ++ (strm ts).drop (r + 1) ++ z = bent at *
  have f1 := frames_in_S lb
  have f2 := law_frames_S lb lw
  have sm : r__law_same 8 [frS bent, frS bent] = some (.bool true) := same_refl 8 _ (frS_ok lb)
  refine ⟨w3, .dat (.int (r : Int)), .dat (S bent), hw3, Fr.dat, Fr.dat, ?_⟩
  unfold rb7
  simp -implicitDefEqProofs only [eVar, eC, eOp2, eOp1, toT, tOfB, eAnd, eOr, eNot, uAnd, uOr, uNot, eIf, aNil, aCons, eCall, eCallK, eTup, oLst, eOfO, eIsN, eNotN, gIsN_S, gNotN_S, gIsN_none, gNotN_none, gIsN_tup, gNotN_tup, gIsN_int, gNotN_int, gIsN_list, gNotN_list, gIsN_bool, gNotN_bool, gIsN_str, gNotN_str, eChain, eCellIx, eCellLen, eSlice, pNone, pSome, eMt1, oList, oListR1, iSeq, iEnum1, iEnum2, iRange1, iRange2, gNm, gTu, gTps, gCell, sNil, sSeq, sSet, sSetO, sRet, sRetO, sRetOwn, sRetN, sDrop, sIf, sNever, sAppend, sAsg, sPar, sParO, sFor, put0_un, put0_dat, put0_own, put_succ, put0_fr, cellAt, putCell, Sl.cell, Sl.withCell, g1, g2, eCallB, oCall, gk, permL, runF, runO, runB, padE, Option.bind_some, Option.map_some, Option.bind_none, Option.map_none, List.getElem?_cons_zero, List.getElem?_cons_succ, List.set_cons_zero, List.set_cons_succ, List.length_cons, List.length_nil, List.map_cons, List.map_nil, List.replicate, List.cons_append, List.nil_append, List.filterMap_cons, List.filterMap_nil, isStr_S, isStrD_str, if_true, if_false, reduceIte, Bool.not_true, Bool.not_false, Nat.reduceAdd, Nat.reduceSub, Nat.zero_add, decide_eq_true_eq, Bool.false_eq_true, reduceCtorEq, Bool.true_eq_false, and_self, true_and, and_true, Int.reduceNeg, e1, max1_nat, t1, h5, e2, QS_lit, t2, a1, add1_nat, e3, a2, szl, show (6 : Nat) ≤ 16777216 by decide, ZS_lit, ZS_len, t3, a3, h10, f1, f2, sm]
theorem st7 (hts : ∀ t ∈ ts, GT t) (hl : ts.length ≤ 30) {w : List Dt} (hw : WellOk w) {x3 x4 x5 x7 x8 x9 : Sl} (h5 : Fr x5) :
    ∃ w' y5 y6 y10, WellOk w' ∧ sFor (iRange1 (eC (.int 12))) (gNm 6) rb7 [.bor w, .dat (.tuple (ts.map S)), .dat (S (strm ts)), x3, x4, x5, .un, x7, x8, x9, .un] = some (.nx [.bor w', .dat (.tuple (ts.map S)), .dat (S (strm ts)), x3, x4, y5, y6, x7, x8, x9, y10]) := by
  have loop := fLoop_inv (g := gNm 6) (bd := rb7) (fun ds ρ => ∃ (w : List Dt) (x5 x6 x10 : Sl), WellOk w ∧ Fr x5 ∧ Fr x6 ∧ Fr x10 ∧ ρ = [.bor w, .dat (.tuple (ts.map S)), .dat (S (strm ts)), x3, x4, x5, x6, x7, x8, x9, x10])
    (rangeD 0 12) [.bor w, .dat (.tuple (ts.map S)), .dat (S (strm ts)), x3, x4, x5, .un, x7, x8, x9, .un] ⟨w, x5, .un, .un, hw, h5, Fr.un, Fr.un, rfl⟩ (by
      rintro d ds ρ ⟨w, x5, x6, x10, hw, h5, h6, h10, rfl⟩
      obtain ⟨w', y5, y10, hw', f5, f10, hb⟩ := st7b hts hl hw (x3 := x3) (x4 := x4) (x6 := .dat d) (x7 := x7) (x8 := x8) (x9 := x9) h5 h10
      refine ⟨[.bor w, .dat (.tuple (ts.map S)), .dat (S (strm ts)), x3, x4, x5, .dat d, x7, x8, x9, x10], _, ?_, hb, w', y5, _, y10, hw', f5, Fr.dat, f10, rfl⟩
      simp -implicitDefEqProofs only [eVar, eC, eOp2, eOp1, toT, tOfB, eAnd, eOr, eNot, uAnd, uOr, uNot, eIf, aNil, aCons, eCall, eCallK, eTup, oLst, eOfO, eIsN, eNotN, gIsN_S, gNotN_S, gIsN_none, gNotN_none, gIsN_tup, gNotN_tup, gIsN_int, gNotN_int, gIsN_list, gNotN_list, gIsN_bool, gNotN_bool, gIsN_str, gNotN_str, eChain, eCellIx, eCellLen, eSlice, pNone, pSome, eMt1, oList, oListR1, iSeq, iEnum1, iEnum2, iRange1, iRange2, gNm, gTu, gTps, gCell, sNil, sSeq, sSet, sSetO, sRet, sRetO, sRetOwn, sRetN, sDrop, sIf, sNever, sAppend, sAsg, sPar, sParO, sFor, put0_un, put0_dat, put0_own, put_succ, put0_fr, cellAt, putCell, Sl.cell, Sl.withCell, g1, g2, eCallB, oCall, gk, permL, runF, runO, runB, padE, Option.bind_some, Option.map_some, Option.bind_none, Option.map_none, List.getElem?_cons_zero, List.getElem?_cons_succ, List.set_cons_zero, List.set_cons_succ, List.length_cons, List.length_nil, List.map_cons, List.map_nil, List.replicate, List.cons_append, List.nil_append, List.filterMap_cons, List.filterMap_nil, isStr_S, isStrD_str, if_true, if_false, reduceIte, Bool.not_true, Bool.not_false, Nat.reduceAdd, Nat.reduceSub, Nat.zero_add, decide_eq_true_eq, Bool.false_eq_true, reduceCtorEq, Bool.true_eq_false, and_self, true_and, and_true, Int.reduceNeg, h6])
  obtain ⟨ρ', l1, w', y5, y6, y10, hw', _, _, _, rfl⟩ := loop
  refine ⟨w', y5, y6, y10, hw', ?_⟩
  have hr62 : -(2 ^ 62) ≤ (12 : Int) ∧ (12 : Int) < 2 ^ 62 := by omega
  simp -implicitDefEqProofs only [eVar, eC, eOp2, eOp1, toT, tOfB, eAnd, eOr, eNot, uAnd, uOr, uNot, eIf, aNil, aCons, eCall, eCallK, eTup, oLst, eOfO, eIsN, eNotN, gIsN_S, gNotN_S, gIsN_none, gNotN_none, gIsN_tup, gNotN_tup, gIsN_int, gNotN_int, gIsN_list, gNotN_list, gIsN_bool, gNotN_bool, gIsN_str, gNotN_str, eChain, eCellIx, eCellLen, eSlice, pNone, pSome, eMt1, oList, oListR1, iSeq, iEnum1, iEnum2, iRange1, iRange2, gNm, gTu, gTps, gCell, sNil, sSeq, sSet, sSetO, sRet, sRetO, sRetOwn, sRetN, sDrop, sIf, sNever, sAppend, sAsg, sPar, sParO, sFor, put0_un, put0_dat, put0_own, put_succ, put0_fr, cellAt, putCell, Sl.cell, Sl.withCell, g1, g2, eCallB, oCall, gk, permL, runF, runO, runB, padE, Option.bind_some, Option.map_some, Option.bind_none, Option.map_none, List.getElem?_cons_zero, List.getElem?_cons_succ, List.set_cons_zero, List.set_cons_succ, List.length_cons, List.length_nil, List.map_cons, List.map_nil, List.replicate, List.cons_append, List.nil_append, List.filterMap_cons, List.filterMap_nil, isStr_S, isStrD_str, if_true, if_false, reduceIte, Bool.not_true, Bool.not_false, Nat.reduceAdd, Nat.reduceSub, Nat.zero_add, decide_eq_true_eq, Bool.false_eq_true, reduceCtorEq, Bool.true_eq_false, and_self, true_and, and_true, Int.reduceNeg, hr62, l1]
theorem right_S (hts : ∀ t ∈ ts, GT t) (hl : ts.length ≤ 30) {w : List Dt} (hw : WellOk w) : ∃ w', r__law_right w [.tuple (ts.map S)] = some (.bool true, w') ∧ WellOk w' := by
  obtain ⟨x3, f3, s3⟩ := st3 hts w
  obtain ⟨y3, g3, s5⟩ := st5 hts hl w f3
  obtain ⟨w', x4, x5, x7, x9, hw', f5, f7, f9, s6⟩ := st6 hts hl hw (x3 := y3)
  obtain ⟨w2, y5, y6, y10, hw2, s7⟩ := st7 hts hl hw' (x3 := y3) (x4 := x4) (x7 := x7) (x8 := .un) (x9 := x9) f5
  change _ = some (Out.nx [.bor w, .dat (.tuple (ts.map S)), .dat (S (strm ts)), y3, .own (EL ts), .un, .un, .un, .un, .un, .un]) at s5
  refine ⟨w2, ?_, hw2⟩
  have s4 : sSetO 4 (oLst (aCons (eC (.int 0)) aNil)) [.bor w, .dat (.tuple (ts.map S)), .dat (S (strm ts)), x3, .un, .un, .un, .un, .un, .un, .un] = some (.nx [.bor w, .dat (.tuple (ts.map S)), .dat (S (strm ts)), x3, .own [.int 0], .un, .un, .un, .un, .un, .un]) := by
    simp -implicitDefEqProofs only [eVar, eC, eOp2, eOp1, toT, tOfB, eAnd, eOr, eNot, uAnd, uOr, uNot, eIf, aNil, aCons, eCall, eCallK, eTup, oLst, eOfO, eIsN, eNotN, gIsN_S, gNotN_S, gIsN_none, gNotN_none, gIsN_tup, gNotN_tup, gIsN_int, gNotN_int, gIsN_list, gNotN_list, gIsN_bool, gNotN_bool, gIsN_str, gNotN_str, eChain, eCellIx, eCellLen, eSlice, pNone, pSome, eMt1, oList, oListR1, iSeq, iEnum1, iEnum2, iRange1, iRange2, gNm, gTu, gTps, gCell, sNil, sSeq, sSet, sSetO, sRet, sRetO, sRetOwn, sRetN, sDrop, sIf, sNever, sAppend, sAsg, sPar, sParO, sFor, put0_un, put0_dat, put0_own, put_succ, put0_fr, cellAt, putCell, Sl.cell, Sl.withCell, g1, g2, eCallB, oCall, gk, permL, runF, runO, runB, padE, Option.bind_some, Option.map_some, Option.bind_none, Option.map_none, List.getElem?_cons_zero, List.getElem?_cons_succ, List.set_cons_zero, List.set_cons_succ, List.length_cons, List.length_nil, List.map_cons, List.map_nil, List.replicate, List.cons_append, List.nil_append, List.filterMap_cons, List.filterMap_nil, isStr_S, isStrD_str, if_true, if_false, reduceIte, Bool.not_true, Bool.not_false, Nat.reduceAdd, Nat.reduceSub, Nat.zero_add, decide_eq_true_eq, Bool.false_eq_true, reduceCtorEq, Bool.true_eq_false, and_self, true_and, and_true, Int.reduceNeg, szl, show (1 : Nat) ≤ 16777216 by decide]
  have fin : b__law_right [.bor w, .dat (.tuple (ts.map S)), .un, .un, .un, .un, .un, .un, .un, .un, .un] = some (.ret (.bool true) [.bor w2, .dat (.tuple (ts.map S)), .dat (S (strm ts)), y3, x4, y5, y6, x7, .un, x9, y10]) := by
    rw [right_eq, seq_nx (st1 hts hl w), seq_nx (st2 hts hl w), seq_nx s3, seq_nx s4, seq_nx s5, seq_nx s6, seq_nx s7]
    rfl
  unfold r__law_right
  simp only [runB, List.length_cons, List.length_nil, padE, List.map_cons, List.map_nil, List.replicate, List.cons_append, List.nil_append, Nat.zero_add, Nat.reduceAdd, Nat.reduceSub, if_true, fin]
  rfl
end
end Q43

set_option Elab.async false
set_option linter.all false
set_option maxRecDepth 100000
set_option maxHeartbeats 8000000
namespace Q43
open PySem PySem.Spec L2 DL
def lwb : SF :=
  (sSeq (sSetO 2 (oCall r__law_well (aCons (eVar 0) (aCons (eVar 1) aNil))))
      (sFor (iSeq (eOfO (oLst (aCons (eTup (aCons (eC (.int 0)) (aCons (eC (.int 1)) aNil))) (aCons (eTup (aCons (eC (.int 1)) (aCons (eC (.int 200)) aNil))) (aCons (eTup (aCons (eC (.int 2)) (aCons (eC (.int 20)) aNil))) (aCons (eTup (aCons (eC (.int 3)) (aCons (eC (.int 30)) aNil))) (aCons (eTup (aCons (eC (.int 5)) (aCons (eC (.int 6)) aNil))) (aCons (eTup (aCons (eC (.int 8)) (aCons (eC (.int 60)) aNil))) aNil))))))))) (gTu [(gNm 3), (gNm 4)])
        (sIf (uNot (toT (eCallB r__law_right 2 (aCons (eCall (g1 dTuple) (aCons (eOfO (oLc (iRange1 (eVar 3)) (gNm 5) uTrue (eCallB r__law_text 2 (aCons (eVar 4) aNil)) [5])) aNil)) aNil))))
            (sRet (eC (.bool false)))
            sNil)))
def lwi : SF :=
        (sIf (uNot (toT (eCallB r__law_right 2 (aCons (eCall (g1 dTuple) (aCons (eOfO (oLc (iRange1 (eVar 3)) (gNm 5) uTrue (eCallB r__law_text 2 (aCons (eVar 4) aNil)) [5])) aNil)) aNil))))
            (sRet (eC (.bool false)))
            sNil)
def PS : List (Nat × Nat) := [(0, 1), (1, 200), (2, 20), (3, 30), (5, 6), (8, 60)]
def pD (p : Nat × Nat) : Dt := .tuple [.int (p.1 : Int), .int (p.2 : Int)]
theorem PS_lit : [PyData.tuple [.int 0, .int 1], .tuple [.int 1, .int 200], .tuple [.int 2, .int 20], .tuple [.int 3, .int 30], .tuple [.int 5, .int 6], .tuple [.int 8, .int 60]] = PS.map pD := rfl
theorem PS_len : (PS.map pD).length = 6 := rfl
theorem PS_ok : ∀ p ∈ PS, p.1 ≤ 8 ∧ 0 < p.2 ∧ p.2 ≤ 200 := by decide
theorem lwi_S {D : Dt} {turn : Nat} {w : List Dt} (hw : WellOk w) {p : Nat × Nat} (hp : p.1 ≤ 8 ∧ 0 < p.2 ∧ p.2 ≤ 200) :
    ∃ w', WellOk w' ∧ lwi [.dat D, .dat (.int (turn : Int)), .own w, .dat (.int (p.1 : Int)), .dat (.int (p.2 : Int)), .un] = some (.nx [.dat D, .dat (.int (turn : Int)), .own w', .dat (.int (p.1 : Int)), .dat (.int (p.2 : Int)), .un]) := by
  obtain ⟨many, most⟩ := p
  simp only at hp ⊢
  have hr62 : -(2 ^ 62) ≤ (many : Int) ∧ (many : Int) < 2 ^ 62 := by omega
  obtain ⟨ys, w3, c1, hw3, c3, c4⟩ := oLc_bor (fi := iRange1 (eVar 3)) (g := gNm 5) (te := eCallB r__law_text 2 (aCons (eVar 4) aNil)) (vs := [5]) (f := fun i : Nat => PyData.int (i : Int)) (l := List.range many)
    (E := fun w => [.dat D, .dat (.int (turn : Int)), .own w, .dat (.int (many : Int)), .dat (.int (most : Int)), .un]) (Pw := WellOk) (Py := fun y => ∃ t, GT t ∧ y = S t) (w := w)
    (by simp -implicitDefEqProofs only [eVar, eC, eOp2, eOp1, toT, tOfB, eAnd, eOr, eNot, uAnd, uOr, uNot, eIf, aNil, aCons, eCall, eCallK, eTup, oLst, eOfO, eIsN, eNotN, gIsN_S, gNotN_S, gIsN_none, gNotN_none, gIsN_tup, gNotN_tup, gIsN_int, gNotN_int, gIsN_list, gNotN_list, gIsN_bool, gNotN_bool, gIsN_str, gNotN_str, eChain, eCellIx, eCellLen, eSlice, pNone, pSome, eMt1, oList, oListR1, iSeq, iEnum1, iEnum2, iRange1, iRange2, gNm, gTu, gTps, gCell, sNil, sSeq, sSet, sSetO, sRet, sRetO, sRetOwn, sRetN, sDrop, sIf, sNever, sAppend, sAsg, sPar, sParO, sFor, put0_un, put0_dat, put0_own, put_succ, put0_fr, cellAt, putCell, Sl.cell, Sl.withCell, g1, g2, eCallB, oCall, gk, permL, runF, runO, runB, padE, Option.bind_some, Option.map_some, Option.bind_none, Option.map_none, List.getElem?_cons_zero, List.getElem?_cons_succ, List.set_cons_zero, List.set_cons_succ, List.length_cons, List.length_nil, List.map_cons, List.map_nil, List.replicate, List.cons_append, List.nil_append, List.filterMap_cons, List.filterMap_nil, isStr_S, isStrD_str, if_true, if_false, reduceIte, Bool.not_true, Bool.not_false, Nat.reduceAdd, Nat.reduceSub, Nat.zero_add, decide_eq_true_eq, Bool.false_eq_true, reduceCtorEq, Bool.true_eq_false, and_self, true_and, and_true, Int.reduceNeg, hr62, range_zero]) hw
    (by
      intro w i hw hi
      obtain ⟨t, w', e, ht, hw'⟩ := text_S hw hp.2.1 hp.2.2
      refine ⟨[.dat D, .dat (.int (turn : Int)), .own w, .dat (.int (many : Int)), .dat (.int (most : Int)), .dat (.int (i : Int))], [.dat D, .dat (.int (turn : Int)), .own w', .dat (.int (many : Int)), .dat (.int (most : Int)), .dat (.int (i : Int))], S t, w', rfl, ?_, rfl, hw', t, ht, rfl⟩
      simp -implicitDefEqProofs only [eVar, eC, eOp2, eOp1, toT, tOfB, eAnd, eOr, eNot, uAnd, uOr, uNot, eIf, aNil, aCons, eCall, eCallK, eTup, oLst, eOfO, eIsN, eNotN, gIsN_S, gNotN_S, gIsN_none, gNotN_none, gIsN_tup, gNotN_tup, gIsN_int, gNotN_int, gIsN_list, gNotN_list, gIsN_bool, gNotN_bool, gIsN_str, gNotN_str, eChain, eCellIx, eCellLen, eSlice, pNone, pSome, eMt1, oList, oListR1, iSeq, iEnum1, iEnum2, iRange1, iRange2, gNm, gTu, gTps, gCell, sNil, sSeq, sSet, sSetO, sRet, sRetO, sRetOwn, sRetN, sDrop, sIf, sNever, sAppend, sAsg, sPar, sParO, sFor, put0_un, put0_dat, put0_own, put_succ, put0_fr, cellAt, putCell, Sl.cell, Sl.withCell, g1, g2, eCallB, oCall, gk, permL, runF, runO, runB, padE, Option.bind_some, Option.map_some, Option.bind_none, Option.map_none, List.getElem?_cons_zero, List.getElem?_cons_succ, List.set_cons_zero, List.set_cons_succ, List.length_cons, List.length_nil, List.map_cons, List.map_nil, List.replicate, List.cons_append, List.nil_append, List.filterMap_cons, List.filterMap_nil, isStr_S, isStrD_str, if_true, if_false, reduceIte, Bool.not_true, Bool.not_false, Nat.reduceAdd, Nat.reduceSub, Nat.zero_add, decide_eq_true_eq, Bool.false_eq_true, reduceCtorEq, Bool.true_eq_false, and_self, true_and, and_true, Int.reduceNeg, e])
    (by
      intro w w' v hv
      simp only [List.mem_singleton] at hv
      subst hv; rfl)
    (by rw [List.length_range]; omega)
  obtain ⟨ts, rfl, hts⟩ := all_ex S GT c3
  rw [List.length_map, List.length_range] at c4
  obtain ⟨w', e, hw'⟩ := right_S hts (by omega) hw3
  refine ⟨w', hw', ?_⟩
  unfold lwi
  simp -implicitDefEqProofs only [eVar, eC, eOp2, eOp1, toT, tOfB, eAnd, eOr, eNot, uAnd, uOr, uNot, eIf, aNil, aCons, eCall, eCallK, eTup, oLst, eOfO, eIsN, eNotN, gIsN_S, gNotN_S, gIsN_none, gNotN_none, gIsN_tup, gNotN_tup, gIsN_int, gNotN_int, gIsN_list, gNotN_list, gIsN_bool, gNotN_bool, gIsN_str, gNotN_str, eChain, eCellIx, eCellLen, eSlice, pNone, pSome, eMt1, oList, oListR1, iSeq, iEnum1, iEnum2, iRange1, iRange2, gNm, gTu, gTps, gCell, sNil, sSeq, sSet, sSetO, sRet, sRetO, sRetOwn, sRetN, sDrop, sIf, sNever, sAppend, sAsg, sPar, sParO, sFor, put0_un, put0_dat, put0_own, put_succ, put0_fr, cellAt, putCell, Sl.cell, Sl.withCell, g1, g2, eCallB, oCall, gk, permL, runF, runO, runB, padE, Option.bind_some, Option.map_some, Option.bind_none, Option.map_none, List.getElem?_cons_zero, List.getElem?_cons_succ, List.set_cons_zero, List.set_cons_succ, List.length_cons, List.length_nil, List.map_cons, List.map_nil, List.replicate, List.cons_append, List.nil_append, List.filterMap_cons, List.filterMap_nil, isStr_S, isStrD_str, if_true, if_false, reduceIte, Bool.not_true, Bool.not_false, Nat.reduceAdd, Nat.reduceSub, Nat.zero_add, decide_eq_true_eq, Bool.false_eq_true, reduceCtorEq, Bool.true_eq_false, and_self, true_and, and_true, Int.reduceNeg, c1, dTuple, e]
theorem law_true (ns : List Int) (h : ns.length ≤ 63) : r_law [roD (ns.map .int)] = some (.bool true) := by
  have hL : dLen1 (roD (ns.map PyData.int)) = some (.int (ns.length : Int)) := by
    show some (PyData.int ((ns.map PyData.int).length : Int)) = _; rw [List.length_map]
  obtain ⟨k, hk, hm⟩ : ∃ k : Nat, k ≤ 4 ∧ (∃ c, dMin2 (.int (ns.length : Int)) (.int 4) = some c ∧ dMax2 (.int 2) c = some (.int (k : Int))) := by
    by_cases h4 : ns.length ≤ 4
    · by_cases h2 : ns.length ≤ 2
      · refine ⟨2, by omega, .int (ns.length : Int), ?_, ?_⟩
        · show some (PyData.int (if (4 : Int) < (ns.length : Int) then 4 else (ns.length : Int))) = _
          rw [if_neg (by omega)]
        · show some (PyData.int (if (ns.length : Int) > 2 then (ns.length : Int) else 2)) = _
          rw [if_neg (by omega)]; rfl
      · refine ⟨ns.length, by omega, .int (ns.length : Int), ?_, ?_⟩
        · show some (PyData.int (if (4 : Int) < (ns.length : Int) then 4 else (ns.length : Int))) = _
          rw [if_neg (by omega)]
        · show some (PyData.int (if (ns.length : Int) > 2 then (ns.length : Int) else 2)) = _
          rw [if_pos (by omega)]
    · refine ⟨4, by omega, .int 4, ?_, rfl⟩
      show some (PyData.int (if (4 : Int) < (ns.length : Int) then 4 else (ns.length : Int))) = _
      rw [if_pos (by omega)]
  obtain ⟨c, hm1, hm2⟩ := hm
  have hr62 : -(2 ^ 62) ≤ (k : Int) ∧ (k : Int) < 2 ^ 62 := by omega
  have loop := fLoop_inv (g := gNm 1) (bd := lwb) (fun ds ρ => ∃ (is : List Nat) (x1 x2 x3 x4 : Sl), ds = is.map mI ∧ (∀ i ∈ is, i ≤ 10) ∧ Fr x1 ∧ (x2 = .un ∨ ∃ w, x2 = .own w) ∧ Fr x3 ∧ Fr x4 ∧ ρ = [.dat (roD (ns.map PyData.int)), x1, x2, x3, x4, .un])
    ((List.range k).map mI) [.dat (roD (ns.map PyData.int)), .un, .un, .un, .un, .un] ⟨_, .un, .un, .un, .un, rfl, fun i hi => by have := List.mem_range.mp hi; omega, Fr.un, Or.inl rfl, Fr.un, Fr.un, rfl⟩ (by
      rintro d ds ρ ⟨is, x1, x2, x3, x4, h1, hi, f1, f2, f3, f4, rfl⟩
      cases is with
      | nil => cases h1
      | cons turn is =>
        rw [List.map_cons] at h1
        injection h1 with h1 h1'
        subst h1
        obtain ⟨w, hw, hwo⟩ := well_S ns (hi turn List.mem_cons_self)
        have inner := fLoop_inv (g := gTu [(gNm 3), (gNm 4)]) (bd := lwi) (fun ds ρ => ∃ (ps : List (Nat × Nat)) (w : List Dt) (x3 x4 : Sl), ds = ps.map pD ∧ (∀ p ∈ ps, p.1 ≤ 8 ∧ 0 < p.2 ∧ p.2 ≤ 200) ∧ WellOk w ∧ Fr x3 ∧ Fr x4 ∧ ρ = [.dat (roD (ns.map PyData.int)), .dat (.int (turn : Int)), .own w, x3, x4, .un])
          (PS.map pD) [.dat (roD (ns.map PyData.int)), .dat (.int (turn : Int)), .own w, x3, x4, .un] ⟨PS, w, x3, x4, rfl, PS_ok, hwo, f3, f4, rfl⟩ (by
            rintro d ds ρ ⟨ps, w, x3, x4, h1, hp, hw, f3, f4, rfl⟩
            cases ps with
            | nil => cases h1
            | cons p ps =>
              rw [List.map_cons] at h1
              injection h1 with h1 h1'
              subst h1
              obtain ⟨w', hw', e⟩ := lwi_S (D := roD (ns.map PyData.int)) (turn := turn) hw (hp p List.mem_cons_self)
              refine ⟨_, _, ?_, e, ps, w', _, _, h1', fun q m => hp q (List.mem_cons_of_mem _ m), hw', Fr.dat, Fr.dat, rfl⟩
              simp -implicitDefEqProofs only [eVar, eC, eOp2, eOp1, toT, tOfB, eAnd, eOr, eNot, uAnd, uOr, uNot, eIf, aNil, aCons, eCall, eCallK, eTup, oLst, eOfO, eIsN, eNotN, gIsN_S, gNotN_S, gIsN_none, gNotN_none, gIsN_tup, gNotN_tup, gIsN_int, gNotN_int, gIsN_list, gNotN_list, gIsN_bool, gNotN_bool, gIsN_str, gNotN_str, eChain, eCellIx, eCellLen, eSlice, pNone, pSome, eMt1, oList, oListR1, iSeq, iEnum1, iEnum2, iRange1, iRange2, gNm, gTu, gTps, gCell, sNil, sSeq, sSet, sSetO, sRet, sRetO, sRetOwn, sRetN, sDrop, sIf, sNever, sAppend, sAsg, sPar, sParO, sFor, put0_un, put0_dat, put0_own, put_succ, put0_fr, cellAt, putCell, Sl.cell, Sl.withCell, g1, g2, eCallB, oCall, gk, permL, runF, runO, runB, padE, Option.bind_some, Option.map_some, Option.bind_none, Option.map_none, List.getElem?_cons_zero, List.getElem?_cons_succ, List.set_cons_zero, List.set_cons_succ, List.length_cons, List.length_nil, List.map_cons, List.map_nil, List.replicate, List.cons_append, List.nil_append, List.filterMap_cons, List.filterMap_nil, isStr_S, isStrD_str, if_true, if_false, reduceIte, Bool.not_true, Bool.not_false, Nat.reduceAdd, Nat.reduceSub, Nat.zero_add, decide_eq_true_eq, Bool.false_eq_true, reduceCtorEq, Bool.true_eq_false, and_self, true_and, and_true, Int.reduceNeg, pD, f3, f4])
        obtain ⟨ρ', l1, ps, w', y3, y4, _, _, hw', g3, g4, rfl⟩ := inner
        refine ⟨[.dat (roD (ns.map PyData.int)), .dat (mI turn), x2, x3, x4, .un], [.dat (roD (ns.map PyData.int)), .dat (.int (turn : Int)), .own w', y3, y4, .un], by simp -implicitDefEqProofs only [eVar, eC, eOp2, eOp1, toT, tOfB, eAnd, eOr, eNot, uAnd, uOr, uNot, eIf, aNil, aCons, eCall, eCallK, eTup, oLst, eOfO, eIsN, eNotN, gIsN_S, gNotN_S, gIsN_none, gNotN_none, gIsN_tup, gNotN_tup, gIsN_int, gNotN_int, gIsN_list, gNotN_list, gIsN_bool, gNotN_bool, gIsN_str, gNotN_str, eChain, eCellIx, eCellLen, eSlice, pNone, pSome, eMt1, oList, oListR1, iSeq, iEnum1, iEnum2, iRange1, iRange2, gNm, gTu, gTps, gCell, sNil, sSeq, sSet, sSetO, sRet, sRetO, sRetOwn, sRetN, sDrop, sIf, sNever, sAppend, sAsg, sPar, sParO, sFor, put0_un, put0_dat, put0_own, put_succ, put0_fr, cellAt, putCell, Sl.cell, Sl.withCell, g1, g2, eCallB, oCall, gk, permL, runF, runO, runB, padE, Option.bind_some, Option.map_some, Option.bind_none, Option.map_none, List.getElem?_cons_zero, List.getElem?_cons_succ, List.set_cons_zero, List.set_cons_succ, List.length_cons, List.length_nil, List.map_cons, List.map_nil, List.replicate, List.cons_append, List.nil_append, List.filterMap_cons, List.filterMap_nil, isStr_S, isStrD_str, if_true, if_false, reduceIte, Bool.not_true, Bool.not_false, Nat.reduceAdd, Nat.reduceSub, Nat.zero_add, decide_eq_true_eq, Bool.false_eq_true, reduceCtorEq, Bool.true_eq_false, and_self, true_and, and_true, Int.reduceNeg, f1], ?_, is, _, _, _, _, h1', fun q m => hi q (List.mem_cons_of_mem _ m), Fr.dat, Or.inr ⟨w', rfl⟩, g3, g4, rfl⟩
        have s1 : sSetO 2 (oCall r__law_well (aCons (eVar 0) (aCons (eVar 1) aNil))) [.dat (roD (ns.map PyData.int)), .dat (mI turn), x2, x3, x4, .un] = some (.nx [.dat (roD (ns.map PyData.int)), .dat (.int (turn : Int)), .own w, x3, x4, .un]) := by
          have hw2 : r__law_well [roD (ns.map PyData.int), mI turn] = some w := hw
          rcases f2 with rfl | ⟨w0, rfl⟩ <;> simp -implicitDefEqProofs only [eVar, eC, eOp2, eOp1, toT, tOfB, eAnd, eOr, eNot, uAnd, uOr, uNot, eIf, aNil, aCons, eCall, eCallK, eTup, oLst, eOfO, eIsN, eNotN, gIsN_S, gNotN_S, gIsN_none, gNotN_none, gIsN_tup, gNotN_tup, gIsN_int, gNotN_int, gIsN_list, gNotN_list, gIsN_bool, gNotN_bool, gIsN_str, gNotN_str, eChain, eCellIx, eCellLen, eSlice, pNone, pSome, eMt1, oList, oListR1, iSeq, iEnum1, iEnum2, iRange1, iRange2, gNm, gTu, gTps, gCell, sNil, sSeq, sSet, sSetO, sRet, sRetO, sRetOwn, sRetN, sDrop, sIf, sNever, sAppend, sAsg, sPar, sParO, sFor, put0_un, put0_dat, put0_own, put_succ, put0_fr, cellAt, putCell, Sl.cell, Sl.withCell, g1, g2, eCallB, oCall, gk, permL, runF, runO, runB, padE, Option.bind_some, Option.map_some, Option.bind_none, Option.map_none, List.getElem?_cons_zero, List.getElem?_cons_succ, List.set_cons_zero, List.set_cons_succ, List.length_cons, List.length_nil, List.map_cons, List.map_nil, List.replicate, List.cons_append, List.nil_append, List.filterMap_cons, List.filterMap_nil, isStr_S, isStrD_str, if_true, if_false, reduceIte, Bool.not_true, Bool.not_false, Nat.reduceAdd, Nat.reduceSub, Nat.zero_add, decide_eq_true_eq, Bool.false_eq_true, reduceCtorEq, Bool.true_eq_false, and_self, true_and, and_true, Int.reduceNeg, hw2] <;> rfl
        have eb : lwb = sSeq (sSetO 2 (oCall r__law_well (aCons (eVar 0) (aCons (eVar 1) aNil)))) (sFor (iSeq (eOfO (oLst (aCons (eTup (aCons (eC (.int 0)) (aCons (eC (.int 1)) aNil))) (aCons (eTup (aCons (eC (.int 1)) (aCons (eC (.int 200)) aNil))) (aCons (eTup (aCons (eC (.int 2)) (aCons (eC (.int 20)) aNil))) (aCons (eTup (aCons (eC (.int 3)) (aCons (eC (.int 30)) aNil))) (aCons (eTup (aCons (eC (.int 5)) (aCons (eC (.int 6)) aNil))) (aCons (eTup (aCons (eC (.int 8)) (aCons (eC (.int 60)) aNil))) aNil))))))))) (gTu [(gNm 3), (gNm 4)]) lwi) := rfl
        rw [eb, seq_nx s1]
        simp -implicitDefEqProofs only [eVar, eC, eOp2, eOp1, toT, tOfB, eAnd, eOr, eNot, uAnd, uOr, uNot, eIf, aNil, aCons, eCall, eCallK, eTup, oLst, eOfO, eIsN, eNotN, gIsN_S, gNotN_S, gIsN_none, gNotN_none, gIsN_tup, gNotN_tup, gIsN_int, gNotN_int, gIsN_list, gNotN_list, gIsN_bool, gNotN_bool, gIsN_str, gNotN_str, eChain, eCellIx, eCellLen, eSlice, pNone, pSome, eMt1, oList, oListR1, iSeq, iEnum1, iEnum2, iRange1, iRange2, gNm, gTu, gTps, gCell, sNil, sSeq, sSet, sSetO, sRet, sRetO, sRetOwn, sRetN, sDrop, sIf, sNever, sAppend, sAsg, sPar, sParO, sFor, put0_un, put0_dat, put0_own, put_succ, put0_fr, cellAt, putCell, Sl.cell, Sl.withCell, g1, g2, eCallB, oCall, gk, permL, runF, runO, runB, padE, Option.bind_some, Option.map_some, Option.bind_none, Option.map_none, List.getElem?_cons_zero, List.getElem?_cons_succ, List.set_cons_zero, List.set_cons_succ, List.length_cons, List.length_nil, List.map_cons, List.map_nil, List.replicate, List.cons_append, List.nil_append, List.filterMap_cons, List.filterMap_nil, isStr_S, isStrD_str, if_true, if_false, reduceIte, Bool.not_true, Bool.not_false, Nat.reduceAdd, Nat.reduceSub, Nat.zero_add, decide_eq_true_eq, Bool.false_eq_true, reduceCtorEq, Bool.true_eq_false, and_self, true_and, and_true, Int.reduceNeg, szl, show (2 : Nat) ≤ 16777216 by decide, show (6 : Nat) ≤ 16777216 by decide, PS_lit, PS_len, dItems, l1])
  obtain ⟨ρ', l1, is, x1, x2, x3, x4, _, _, _, _, _, _, rfl⟩ := loop
  have eb : b_law = sSeq (sFor (iRange1 (eCall (g2 dMax2) (aCons (eC (.int 2)) (aCons (eCall (g2 dMin2) (aCons (eCall (g1 dLen1) (aCons (eVar 0) aNil)) (aCons (eC (.int 4)) aNil))) aNil)))) (gNm 1) lwb) (sRet (eOp2 dEq (eCall r_check_number (aCons (eC (.str "")) aNil)) (eC (.int 0)))) := rfl
  have e0 : r_check_number [S []] = some (.int ((0 : Nat) : Int)) := check_number_S (a := []) rfl (by decide)
  have e1 := eq_0 0
  rw [decide_eq_true rfl] at e1
  have rz : rangeD 0 (k : Int) = (List.range k).map mI := range_zero k
  unfold r_law
  rw [eb]
  simp -implicitDefEqProofs only [eVar, eC, eOp2, eOp1, toT, tOfB, eAnd, eOr, eNot, uAnd, uOr, uNot, eIf, aNil, aCons, eCall, eCallK, eTup, oLst, eOfO, eIsN, eNotN, gIsN_S, gNotN_S, gIsN_none, gNotN_none, gIsN_tup, gNotN_tup, gIsN_int, gNotN_int, gIsN_list, gNotN_list, gIsN_bool, gNotN_bool, gIsN_str, gNotN_str, eChain, eCellIx, eCellLen, eSlice, pNone, pSome, eMt1, oList, oListR1, iSeq, iEnum1, iEnum2, iRange1, iRange2, gNm, gTu, gTps, gCell, sNil, sSeq, sSet, sSetO, sRet, sRetO, sRetOwn, sRetN, sDrop, sIf, sNever, sAppend, sAsg, sPar, sParO, sFor, put0_un, put0_dat, put0_own, put_succ, put0_fr, cellAt, putCell, Sl.cell, Sl.withCell, g1, g2, eCallB, oCall, gk, permL, runF, runO, runB, padE, Option.bind_some, Option.map_some, Option.bind_none, Option.map_none, List.getElem?_cons_zero, List.getElem?_cons_succ, List.set_cons_zero, List.set_cons_succ, List.length_cons, List.length_nil, List.map_cons, List.map_nil, List.replicate, List.cons_append, List.nil_append, List.filterMap_cons, List.filterMap_nil, isStr_S, isStrD_str, if_true, if_false, reduceIte, Bool.not_true, Bool.not_false, Nat.reduceAdd, Nat.reduceSub, Nat.zero_add, decide_eq_true_eq, Bool.false_eq_true, reduceCtorEq, Bool.true_eq_false, and_self, true_and, and_true, Int.reduceNeg, hL, hm1, hm2, hr62, rz, l1, e_lit, e0, e1]
end Q43

set_option Elab.async false
set_option linter.all false
set_option maxRecDepth 100000
open PySem PySem.W PyProof.Rows
set_option maxRecDepth 100000 in
set_option maxHeartbeats 0 in
theorem PySem.Challenge.cw_roadsmeet_k43_frames_cut_anywhere_holds : PySem.Challenge.rw_roadsmeet_k43_frames_cut_anywhere.Holds := by
  w_on; o_law; k_head; (case hw => w_witness2)
  k_fill
  refine L2.walk_of (l := PySem.Challenge.rw_roadsmeet_k43_frames_cut_anywhere) (n := 63) (k := 10) (x := "script") (CX := fun _ => L2.CX0) (sp := fun w => DL.spF _ Q43.r_law) rfl (by decide) rfl ⟨rfl, by decide, by decide⟩ (fun w h Y => PySem.W.kIn_of Y) ?F (fun _ H a ns hl _ hS => DL.law_end Q43.law_true H a ns hl hS _) (fun _ _ _ _ _ h => h)
  case F =>
    intro w mg fa h KX G hmg
    refine' Q43.law_ok (Q43.txt_mk KX G ?a0 ?l0 ?c0 ?k0 ?a1 ?l1 ?c1 ?k1 ?a2 ?l2 ?c2 ?k2 ?a3 ?l3 ?c3 ?k3 ?a4 ?l4 ?c4 ?k4 ?a5 ?l5 ?c5 ?k5 ?a6 ?l6 ?c6 ?k6 ?a7 ?l7 ?c7 ?k7 ?a8 ?l8 ?c8 ?k8 ?a9 ?l9 ?c9 ?k9 ?a10 ?l10 ?c10 ?k10 ?a11 ?l11 ?c11 ?k11 ?a12 ?l12 ?c12 ?k12 ?a13 ?l13 ?c13 ?k13 ?a14 ?l14 ?c14 ?k14 ?a15 ?l15 ?c15 ?k15 ?a16 ?l16 ?c16 ?k16 ?a17 ?l17 ?c17 ?k17 ?a18 ?l18 ?c18 ?k18 ?a19 ?l19 ?c19 ?k19 ?a20 ?l20 ?c20 ?k20 ?a21 ?l21 ?c21 ?k21 ?a22 ?l22 ?c22 ?k22 ?a23 ?l23 ?c23 ?k23 ?a24 ?l24 ?c24 ?k24 ?a25 ?l25 ?c25 ?k25 ?a26 ?l26 ?c26 ?k26 ?a27 ?l27 ?c27 ?k27 ?a28 ?l28 ?c28 ?k28 ?z_abs ?z_all ?z_bool ?z_divmod ?z_enumerate ?z_int ?z_isinstance ?z_len ?z_list ?z_max ?z_min ?z_range ?z_str ?z_sum ?z_tuple ?c_DIGITS ?c_DIGITS_OF_PART ?c_HEAD ?c_LONGEST_LINE ?c_MODULUS ?c_MOST_TEXTS ?c_SIGNS) hmg
    (case a0 => k_is); (case l0 => k_is); (case c0 => k_is); (case k0 => k_is); (case a1 => k_is); (case l1 => k_is)
    (case c1 => k_is); (case k1 => k_is); (case a2 => k_is); (case l2 => k_is); (case c2 => k_is); (case k2 => k_is)
    (case a3 => k_is); (case l3 => k_is); (case c3 => k_is); (case k3 => k_is); (case a4 => k_is); (case l4 => k_is)
    (case c4 => k_is); (case k4 => k_is); (case a5 => k_is); (case l5 => k_is); (case c5 => k_is); (case k5 => k_is)
    (case a6 => k_is); (case l6 => k_is); (case c6 => k_is); (case k6 => k_is); (case a7 => k_is); (case l7 => k_is)
    (case c7 => k_is); (case k7 => k_is); (case a8 => k_is); (case l8 => k_is); (case c8 => k_is); (case k8 => k_is)
    (case a9 => k_is); (case l9 => k_is); (case c9 => k_is); (case k9 => k_is); (case a10 => k_is); (case l10 => k_is)
    (case c10 => k_is); (case k10 => k_is); (case a11 => k_is); (case l11 => k_is); (case c11 => k_is); (case k11 => k_is)
    (case a12 => k_is); (case l12 => k_is); (case c12 => k_is); (case k12 => k_is); (case a13 => k_is); (case l13 => k_is)
    (case c13 => k_is); (case k13 => k_is); (case a14 => k_is); (case l14 => k_is); (case c14 => k_is); (case k14 => k_is)
    (case a15 => k_is); (case l15 => k_is); (case c15 => k_is); (case k15 => k_is); (case a16 => k_is); (case l16 => k_is)
    (case c16 => k_is); (case k16 => k_is); (case a17 => k_is); (case l17 => k_is); (case c17 => k_is); (case k17 => k_is)
    (case a18 => k_is); (case l18 => k_is); (case c18 => k_is); (case k18 => k_is); (case a19 => k_is); (case l19 => k_is)
    (case c19 => k_is); (case k19 => k_is); (case a20 => k_is); (case l20 => k_is); (case c20 => k_is); (case k20 => k_is)
    (case a21 => k_is); (case l21 => k_is); (case c21 => k_is); (case k21 => k_is); (case a22 => k_is); (case l22 => k_is)
    (case c22 => k_is); (case k22 => k_is); (case a23 => k_is); (case l23 => k_is); (case c23 => k_is); (case k23 => k_is)
    (case a24 => k_is); (case l24 => k_is); (case c24 => k_is); (case k24 => k_is); (case a25 => k_is); (case l25 => k_is)
    (case c25 => k_is); (case k25 => k_is); (case a26 => k_is); (case l26 => k_is); (case c26 => k_is); (case k26 => k_is)
    (case a27 => k_is); (case l27 => k_is); (case c27 => k_is); (case k27 => k_is); (case a28 => k_is); (case l28 => k_is)
    (case c28 => k_is); (case k28 => k_is); (case z_abs => k_is); (case z_all => k_is); (case z_bool => k_is); (case z_divmod => k_is)
    (case z_enumerate => k_is); (case z_int => k_is); (case z_isinstance => k_is); (case z_len => k_is); (case z_list => k_is); (case z_max => k_is)
    (case z_min => k_is); (case z_range => k_is); (case z_str => k_is); (case z_sum => k_is); (case z_tuple => k_is); (case c_DIGITS => k_is)
    (case c_DIGITS_OF_PART => k_is); (case c_HEAD => k_is); (case c_LONGEST_LINE => k_is); (case c_MODULUS => k_is); (case c_MOST_TEXTS => k_is); (case c_SIGNS => k_is)
