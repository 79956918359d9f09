import PyProof.Rows.All
import Wide.All
import OpenK.AllK
import Wide.FinOn
import HandS.ForMost
import HandS.Exc
import HandS.ExcOwn
import HandS.CallSlots
import HandS.IsInst
import HandS.Wide
import HandS.Defaults
import HandS.HeadHook2
import HandS.TupAny
import HandS.Deep
import HandS.Style
import HandS.Set
import HandS.Strs
import KE.KDictSum
import PyProof.Rows.SortShellAny
import HandS.Conv
import KE.KDictCopyH
import KE.KDictPairs
import HandS.ExcValue
import HandS.ExcIs
import HandS.TryOnly
import HandS.ListItems
import HandS.TupMul
import KE.KEqNest
import PyProof.NeKinds
import PySem.Challenge.RW_partworks_k25_refused_plans
import KE.KStateDown
import Lean
import HandS.More
import HandS.Words
import HandS.WordsExc
import HandS.Head0
import HandS.Head1
import HandS.Head2
import HandS.HeadEnd
import HandS.HeadHook1
set_option Elab.async false
set_option linter.all false
set_option maxRecDepth 100000
set_option maxHeartbeats 2000000
namespace DL
open PySem PySem.Spec L2

/-! ### data -/
inductive D where
  | non | bl (b : Bool) | int (i : Int) | str (x : Str)
  | tup (xs : List D) | lst (xs : List D) | dic (kvs : List (Key × D))
  | exc (c : Str)
  | ol
  | odd (ks : List D)

/-- a tuple that is one and no more (no attributes of its own) -/
def TupP (K : PySem.W.Frag) (H : Hp) (a : Addr) (xs : List V) : Prop :=
  (∃ o, H a = some (.frz o (.tup xs)) ∧ o.dict = none) ∨
    ∃ (o : Obj) (its : Array Value) (n : Nat), K.lookup a = some o ∧ o.cls = .type "tuple" ∧ o.dict = none ∧ o.data = .seq its n ∧ its.size ≤ sizeLine ∧ Vals xs its.toList
/-- a list laid fast, or one of the module -/
def LstP (K : PySem.W.Frag) (H : Hp) (a : Addr) (xs : List V) : Prop :=
  (∃ o, H a = some (.frz o (.lst xs))) ∨
    ∃ (o : Obj) (its : Array Value) (n : Nat), K.lookup a = some o ∧ o.cls = .type "list" ∧ o.dict = none ∧ o.data = .seq its n ∧ its.size ≤ sizeLine ∧ Vals xs its.toList
theorem LstP.sq {K : PySem.W.Frag} {H : Hp} {a : Addr} {xs : List V} (h : LstP K H a xs) : SqL K H a xs := by
  rcases h with ⟨o, h⟩ | h
  · exact .inl (.inr ⟨o, h⟩)
  · exact .inr h
theorem TupP.sq {K : PySem.W.Frag} {H : Hp} {a : Addr} {xs : List V} (h : TupP K H a xs) : SqT K H a xs := by
  rcases h with ⟨o, h, _⟩ | ⟨o, its, n, h1, h2, _, h3, h4, h5⟩
  · exact .inl (.inr ⟨o, h⟩)
  · exact .inr ⟨o, its, n, h1, h2, h3, h4, h5⟩

/-- an exception that was caught: its class -/
def ExA (cls : Value) (a : Addr) : HO := .ext fun h => ∃ (oe : Obj) (vs : Array Value), h.get? a = some oe ∧ Zc cls none oe ∧ oe.data = .fields vs
/-- an object as it is, to the last entry -/
def FixA (a : Addr) (o : Obj) : HO := .ext fun h => h.get? a = some o
/-- a dict with a key of another kind: its keys alone are told -/
def OddP (H : Hp) (a : Addr) (ks : List V) : Prop :=
  ∃ (o : Obj) (es : Array DictEntry) (ep : Nat), H a = some (FixA a o) ∧ o.ExactDict ∧ o.data = .dict es ep ∧ (a == sysModules) = false ∧ es.size ≤ sizeLine ∧ Vals ks (es.toList.map (·.key))
mutual
/-- v stands for the data d, all of it laid fast -/
inductive Dat (K : PySem.W.Frag) (H : Hp) : V → D → Prop where
  | non : Dat K H .non .non
  | bl {b} : Dat K H (.bl b) (.bl b)
  | int {i} : Dat K H (.int i) (.int i)
  | str {x} : Dat K H (.str x) (.str x)
  | tup {a vs xs} (h : TupP K H a vs) (r : DatL K H vs xs) : Dat K H (.ref a) (.tup xs)
  | lst {a vs xs} (h : LstP K H a vs) (r : DatL K H vs xs) : Dat K H (.ref a) (.lst xs)
  | dic {a o vs xs} (h : H a = some (.frz o (.dK vs))) (r : DatK K H vs xs) : Dat K H (.ref a) (.dic xs)
  | exc {a c} (h : H a = some (ExA (.ref (He.ga K c)) a)) : Dat K H (.ref a) (.exc c)
  | ol {a vs} (h : LstP K H a vs) : Dat K H (.ref a) .ol
  | odd {a vs xs} (h : OddP H a vs) (r : DatL K H vs xs) : Dat K H (.ref a) (.odd xs)
inductive DatL (K : PySem.W.Frag) (H : Hp) : List V → List D → Prop where
  | nil : DatL K H [] []
  | cons {v d vs ds} (h : Dat K H v d) (r : DatL K H vs ds) : DatL K H (v :: vs) (d :: ds)
inductive DatK (K : PySem.W.Frag) (H : Hp) : List (Key × V) → List (Key × D) → Prop where
  | nil : DatK K H [] []
  | cons {k v d vs ds} (h : Dat K H v d) (r : DatK K H vs ds) : DatK K H ((k, v) :: vs) ((k, d) :: ds)
end

/-- what never changes any more -/
def Imm : HO → Prop
  | .tup _ => True
  | .frz _ _ => True
  | .ext _ => True
  | _ => False
def Mono (H H' : Hp) : Prop := ∀ a o, H a = some o → Imm o → H' a = some o
theorem Mono.refl (H : Hp) : Mono H H := fun _ _ h _ => h
theorem Mono.trans {H H1 H2 : Hp} (x : Mono H H1) (y : Mono H1 H2) : Mono H H2 := fun a o h i => y a o (x a o h i) i
theorem Mono.upd {H : Hp} {p : Addr} {o : HO} (h : ∀ u, H p = some u → ¬ Imm u) : Mono H (upd H p o) := fun a u e i => by
  by_cases z : a = p
  · subst z; exact absurd i (h u e)
  · rw [upd_ne z]; exact e
theorem Mono.new {H : Hp} {p : Addr} {o : HO} (h : H p = none) : Mono H (L2.upd H p o) := Mono.upd fun u e => by rw [h] at e; cases e

theorem TupP.mono {K : PySem.W.Frag} {H H' : Hp} {a : Addr} {vs : List V} (m : Mono H H') (h : TupP K H a vs) : TupP K H' a vs := by
  rcases h with ⟨o, h, d⟩ | h
  · exact .inl ⟨o, m _ _ h True.intro, d⟩
  · exact .inr h

theorem LstP.mono {K : PySem.W.Frag} {H H' : Hp} {a : Addr} {vs : List V} (m : Mono H H') (h : LstP K H a vs) : LstP K H' a vs := by
  rcases h with ⟨o, h⟩ | h
  · exact .inl ⟨o, m _ _ h True.intro⟩
  · exact .inr h
theorem OddP.mono {H H' : Hp} {a : Addr} {vs : List V} (m : Mono H H') (h : OddP H a vs) : OddP H' a vs := by
  obtain ⟨o, es, ep, h, r⟩ := h
  exact ⟨o, es, ep, m _ _ h True.intro, r⟩
mutual
theorem Dat.mono {K : PySem.W.Frag} {H H' : Hp} (m : Mono H H') : ∀ {v : V} {d : D}, Dat K H v d → Dat K H' v d
  | _, _, .non => .non
  | _, _, .bl => .bl
  | _, _, .int => .int
  | _, _, .str => .str
  | _, _, .tup h r => .tup (TupP.mono m h) (DatL.mono m r)
  | _, _, .lst h r => .lst (LstP.mono m h) (DatL.mono m r)
  | _, _, .dic h r => .dic (m _ _ h True.intro) (DatK.mono m r)
  | _, _, .exc h => .exc (m _ _ h True.intro)
  | _, _, .ol h => .ol (LstP.mono m h)
  | _, _, .odd h r => .odd (h.mono m) (DatL.mono m r)
theorem DatL.mono {K : PySem.W.Frag} {H H' : Hp} (m : Mono H H') : ∀ {v : List V} {d : List D}, DatL K H v d → DatL K H' v d
  | _, _, .nil => .nil
  | _, _, .cons h r => .cons (Dat.mono m h) (DatL.mono m r)
theorem DatK.mono {K : PySem.W.Frag} {H H' : Hp} (m : Mono H H') : ∀ {v : List (Key × V)} {d : List (Key × D)}, DatK K H v d → DatK K H' v d
  | _, _, .nil => .nil
  | _, _, .cons h r => .cons (Dat.mono m h) (DatK.mono m r)
end

section
variable {K : PySem.W.Frag} {H : Hp}
theorem DatL.length : ∀ {vs : List V} {ds : List D}, DatL K H vs ds → vs.length = ds.length
  | _, _, .nil => rfl
  | _, _, .cons _ r => congrArg Nat.succ (DatL.length r)
theorem DatK.length : ∀ {vs : List (Key × V)} {ds : List (Key × D)}, DatK K H vs ds → vs.length = ds.length
  | _, _, .nil => rfl
  | _, _, .cons _ r => congrArg Nat.succ (DatK.length r)
theorem DatL.append : ∀ {vs ws : List V} {ds es : List D}, DatL K H vs ds → DatL K H ws es → DatL K H (vs ++ ws) (ds ++ es)
  | _, _, _, _, .nil, s => s
  | _, _, _, _, .cons h r, s => .cons h (DatL.append r s)
theorem DatL.get : ∀ {vs : List V} {ds : List D} {i : Nat} {d : D}, DatL K H vs ds → ds[i]? = some d → ∃ v, vs[i]? = some v ∧ Dat K H v d
  | _, _, _, _, .nil, e => by simp at e
  | _, _, 0, _, .cons h _, e => by simp at e; subst e; exact ⟨_, rfl, h⟩
  | _, _, i + 1, _, .cons _ r, e => by
    obtain ⟨v, h1, h2⟩ := DatL.get (i := i) r (by simpa using e)
    exact ⟨v, by simpa using h1, h2⟩
theorem DatL.get' : ∀ {vs : List V} {ds : List D} {i : Nat} {v : V}, DatL K H vs ds → vs[i]? = some v → ∃ d, ds[i]? = some d ∧ Dat K H v d
  | _, _, _, _, .nil, e => by simp at e
  | _, _, 0, _, .cons h _, e => by simp at e; subst e; exact ⟨_, rfl, h⟩
  | _, _, i + 1, _, .cons _ r, e => by
    obtain ⟨v, h1, h2⟩ := DatL.get' (i := i) r (by simpa using e)
    exact ⟨v, by simpa using h1, h2⟩
theorem DatL.take : ∀ {vs : List V} {ds : List D} (n : Nat), DatL K H vs ds → DatL K H (vs.take n) (ds.take n)
  | _, _, 0, _ => by simp only [List.take_zero]; exact .nil
  | _, _, _ + 1, .nil => .nil
  | _, _, n + 1, .cons h r => .cons h (DatL.take n r)
theorem DatL.drop : ∀ {vs : List V} {ds : List D} (n : Nat), DatL K H vs ds → DatL K H (vs.drop n) (ds.drop n)
  | _, _, 0, r => r
  | _, _, _ + 1, .nil => .nil
  | _, _, n + 1, .cons _ r => DatL.drop n r
theorem DatL.set {v : V} {d : D} (x : Dat K H v d) : ∀ {vs : List V} {ds : List D} (n : Nat), DatL K H vs ds → DatL K H (vs.set n v) (ds.set n d)
  | _, _, _, .nil => .nil
  | _, _, 0, .cons _ r => .cons x r
  | _, _, n + 1, .cons h r => .cons h (DatL.set x n r)
theorem DatL.dropLast : ∀ {vs : List V} {ds : List D}, DatL K H vs ds → DatL K H vs.dropLast ds.dropLast := fun {vs ds} r => by
  rw [List.dropLast_eq_take, List.dropLast_eq_take, r.length]
  exact r.take _
theorem DatL.replicate {v : V} {d : D} (x : Dat K H v d) : ∀ n : Nat, DatL K H (List.replicate n v) (List.replicate n d)
  | 0 => .nil
  | n + 1 => .cons x (DatL.replicate x n)
theorem DatL.ints : ∀ (ns : List Int), DatL K H (ns.map V.int) (ns.map D.int)
  | [] => .nil
  | _ :: ns => .cons .int (DatL.ints ns)
theorem DatL.strs : ∀ (ns : List Str), DatL K H (ns.map V.str) (ns.map D.str)
  | [] => .nil
  | _ :: ns => .cons .str (DatL.strs ns)
theorem DatL.ofStrs : ∀ {vs : List V} {ns : List Str}, DatL K H vs (ns.map D.str) → vs = ns.map V.str
  | _, [], .nil => rfl
  | _, _ :: ns, .cons .str r => by rw [DatL.ofStrs r]; rfl
theorem DatL.ofInts : ∀ {vs : List V} {ns : List Int}, DatL K H vs (ns.map D.int) → vs = ns.map V.int
  | _, [], .nil => rfl
  | _, _ :: ns, .cons .int r => by rw [DatL.ofInts r]; rfl
theorem DatL.ofBls : ∀ {vs : List V} {ns : List Bool}, DatL K H vs (ns.map D.bl) → vs = ns.map V.bl
  | _, [], .nil => rfl
  | _, _ :: ns, .cons .bl r => by rw [DatL.ofBls r]; rfl
end

/-! ### what a frame holds -/
/-- an object that the frame may change -/
inductive OD where
  | l (xs : List D)
  | d (kvs : List (Key × D))
/-- a slot: not told, data, an object of one's own (r: handed in by the caller, so it stays at its slot) -/
inductive AV where
  | un
  | fz (d : D)
  | ow (r : Bool) (o : OD)
abbrev Ev := List AV

def Own (K : PySem.W.Frag) (H : Hp) (p : Addr) : OD → Prop
  | .l xs => ∃ vs, H p = some (.lst vs) ∧ DatL K H vs xs
  | .d xs => ∃ vs, H p = some (.dK vs) ∧ DatK K H vs xs
def OD.dat : OD → D
  | .l xs => .lst xs
  | .d xs => .dic xs
theorem Own.there {K : PySem.W.Frag} {H : Hp} {p : Addr} {o : OD} (h : Own K H p o) : ∃ u, H p = some u ∧ ¬ Imm u ∧ Mut (some u) := by
  cases o with
  | l xs => obtain ⟨vs, e, _⟩ := h; exact ⟨_, e, fun z => z, True.intro⟩
  | d xs => obtain ⟨vs, e, _⟩ := h; exact ⟨_, e, fun z => z, True.intro⟩
theorem Own.keep {K : PySem.W.Frag} {H H' : Hp} {p : Addr} {o : OD} (h : Own K H p o) (m : Mono H H') (e : H' p = H p) : Own K H' p o := by
  cases o with
  | l xs => obtain ⟨vs, q, r⟩ := h; exact ⟨vs, e.trans q, r.mono m⟩
  | d xs => obtain ⟨vs, q, r⟩ := h; exact ⟨vs, e.trans q, r.mono m⟩
/-- the object is laid fast -/
theorem Own.frz {K : PySem.W.Frag} {H : Hp} {p : Addr} {o : OD} {od : Obj} {u : HO} (h : Own K H p o) (e : H p = some u) : Dat K (upd H p (.frz od u)) (V.ref p) o.dat := by
  have m : Mono H (upd H p (.frz od u)) := Mono.upd fun w q => by
    obtain ⟨z, q', n, _⟩ := h.there
    rw [q'] at q; cases q; exact n
  cases o with
  | l xs => obtain ⟨vs, q, r⟩ := h; rw [e] at q; cases q; exact .lst (.inl ⟨od, upd_same⟩) (r.mono m)
  | d xs => obtain ⟨vs, q, r⟩ := h; rw [e] at q; cases q; exact .dic (o := od) upd_same (r.mono m)

def SlotOk (K : PySem.W.Frag) (H : Hp) (x : Option (Option V)) : AV → Prop
  | .un => True
  | .fz d => ∃ v, x = some (some v) ∧ Dat K H v d
  | .ow _ o => ∃ p, x = some (some (V.ref p)) ∧ Own K H p o

/-- Fr: what belongs to others and stays; B: the slots of what was handed in to be changed, with its addresses -/
structure Rep (K : PySem.W.Frag) (Fr : Addr → Prop) (B : List (Nat × Addr)) (σ : St) (H : Hp) (ρ : Ev) : Prop where
  len : ρ.length = σ.length
  at_ : ∀ (i : Nat) (a : AV), ρ[i]? = some a → SlotOk K H σ[i]? a
  fr : ∀ (i : Nat) (p : Addr) (r : Bool) (o : OD), ρ[i]? = some (.ow r o) → σ[i]? = some (some (V.ref p)) → ¬ Fr p
  inj : ∀ (i j : Nat) (p : Addr) (r : Bool) (o : OD) (r' : Bool) (o' : OD), ρ[i]? = some (.ow r o) → ρ[j]? = some (.ow r' o') → σ[i]? = some (some (V.ref p)) → σ[j]? = some (some (V.ref p)) → i = j
  tr : ∀ b, Fr b → H b ≠ none
  rb : ∀ q ∈ B, σ[q.1]? = some (some (V.ref q.2)) ∧ ∃ o, ρ[q.1]? = some (.ow true o)
/-- the heap goes on: what is fast stays, what belongs to others stays -/
structure Step (Fr : Addr → Prop) (H H' : Hp) : Prop where
  mono : Mono H H'
  keep : ∀ b, Fr b → H' b = H b
theorem Step.refl {Fr : Addr → Prop} {H : Hp} : Step Fr H H := ⟨Mono.refl H, fun _ _ => rfl⟩
theorem Step.trans {Fr : Addr → Prop} {H H1 H2 : Hp} (x : Step Fr H H1) (y : Step Fr H1 H2) : Step Fr H H2 := ⟨x.mono.trans y.mono, fun b h => (y.keep b h).trans (x.keep b h)⟩
theorem Step.wide {Fr Fr' : Addr → Prop} {H H' : Hp} (x : Step Fr' H H') (h : ∀ b, Fr b → Fr' b) : Step Fr H H' := ⟨x.mono, fun b q => x.keep b (h b q)⟩
/-- an address that none of the slots, nor another, holds -/
def Fresh (Fr : Addr → Prop) (σ : St) (ρ : Ev) (p : Addr) : Prop := ¬ Fr p ∧ ∀ (i : Nat) (r : Bool) (o : OD), ρ[i]? = some (.ow r o) → σ[i]? ≠ some (some (V.ref p))

section
variable {K : PySem.W.Frag} {Fr : Addr → Prop} {B : List (Nat × Addr)} {σ : St} {H H' : Hp} {ρ : Ev} {p : Addr} {o : OD} {i : Nat} {r : Bool}
theorem Rep.own (R : Rep K Fr B σ H ρ) (h : ρ[i]? = some (.ow r o)) : ∃ p, σ[i]? = some (some (V.ref p)) ∧ Own K H p o := R.at_ i _ h
theorem Rep.lt (R : Rep K Fr B σ H ρ) {a : AV} (h : ρ[i]? = some a) : i < σ.length := by
  have := (List.getElem?_eq_some_iff.mp h).1
  rw [R.len] at this; exact this
/-- nothing that a slot holds has changed -/
theorem Rep.keep (R : Rep K Fr B σ H ρ) (m : Mono H H') (k : ∀ (i : Nat) (r : Bool) (o : OD) (p : Addr), ρ[i]? = some (.ow r o) → σ[i]? = some (some (V.ref p)) → H' p = H p) (t : ∀ b, Fr b → H' b = H b) : Rep K Fr B σ H' ρ := by
  refine ⟨R.len, fun i a h => ?_, R.fr, R.inj, fun b h => by rw [t b h]; exact R.tr b h, R.rb⟩
  have q := R.at_ i a h
  cases a with
  | un => exact True.intro
  | fz d => obtain ⟨v, e, x⟩ := q; exact ⟨v, e, x.mono m⟩
  | ow r o => obtain ⟨p, e, x⟩ := q; exact ⟨p, e, x.keep m (k i r o p h e)⟩
theorem Rep.fresh (R : Rep K Fr B σ H ρ) (h : H p = none) : Fresh Fr σ ρ p := ⟨fun z => R.tr p z h, fun i r o e z => by
  obtain ⟨q, e1, x⟩ := R.own e
  rw [e1] at z
  cases z
  obtain ⟨u, e2, _⟩ := x.there
  rw [h] at e2; cases e2⟩
/-- a new object, whatever it is -/
theorem Rep.new {u : HO} (R : Rep K Fr B σ H ρ) (h : H p = none) : Rep K Fr B σ (upd H p u) ρ := by
  have f := R.fresh h
  refine R.keep (Mono.new h) (fun i r o q e1 e2 => ?_) fun b hb => ?_
  · rw [upd_ne]; rintro rfl; exact f.2 i r o e1 e2
  · rw [upd_ne]; rintro rfl; exact f.1 hb
theorem Step.new {u : HO} (R : Rep K Fr B σ H ρ) (h : H p = none) : Step Fr H (upd H p u) := ⟨Mono.new h, fun b hb => by rw [upd_ne]; rintro rfl; exact R.tr b hb h⟩
/-- what belongs to nobody is changed -/
theorem Rep.other {u w : HO} (R : Rep K Fr B σ H ρ) (f : Fresh Fr σ ρ p) (e : H p = some w) (n : ¬ Imm w) : Rep K Fr B σ (upd H p u) ρ := by
  refine R.keep (Mono.upd fun z q => by rw [e] at q; cases q; exact n) (fun i r o q e1 e2 => ?_) fun b hb => ?_
  · rw [upd_ne]; rintro rfl; exact f.2 i r o e1 e2
  · rw [upd_ne]; rintro rfl; exact f.1 hb
theorem Step.other {u w : HO} (f : ¬ Fr p) (e : H p = some w) (n : ¬ Imm w) : Step Fr H (upd H p u) := ⟨Mono.upd fun z q => by rw [e] at q; cases q; exact n, fun b hb => by
  rw [upd_ne]; rintro rfl; exact f hb⟩
/-- a frame within which p belongs to another -/
theorem Rep.guard (R : Rep K Fr B σ H ρ) (f : Fresh Fr σ ρ p) (h : H p ≠ none) : Rep K (fun b => Fr b ∨ b = p) B σ H ρ :=
  ⟨R.len, R.at_, fun i q r o e1 e2 => fun z => z.elim (R.fr i q r o e1 e2) fun z => by subst z; exact f.2 i r o e1 e2, R.inj, fun b hb => hb.elim (R.tr b) fun z => by subst z; exact h, R.rb⟩
theorem Rep.unguard {Fr' : Addr → Prop} (R : Rep K Fr' B σ H ρ) (h : ∀ b, Fr b → Fr' b) : Rep K Fr B σ H ρ :=
  ⟨R.len, R.at_, fun i q r o e1 e2 z => R.fr i q r o e1 e2 (h q z), R.inj, fun b hb => R.tr b (h b hb), R.rb⟩

theorem get_set_ne {α : Type} {l : List α} {i j : Nat} {a : α} (h : i ≠ j) : (l.set i a)[j]? = l[j]? := List.getElem?_set_ne h
/-- the object of slot i is changed -/
theorem Rep.write {o' : OD} {u : HO} (R : Rep K Fr B σ H ρ) (e : ρ[i]? = some (.ow r o)) (ep : σ[i]? = some (some (V.ref p))) (w : Own K (upd H p u) p o') (m : ∀ z, H p = some z → ¬ Imm z) : Rep K Fr B σ (upd H p u) (ρ.set i (.ow r o')) := by
  have hi : i < ρ.length := (List.getElem?_eq_some_iff.mp e).1
  have mono : Mono H (upd H p u) := Mono.upd m
  have at' : ∀ {j : Nat} {a : AV}, (ρ.set i (.ow r o'))[j]? = some a → (j = i ∧ a = .ow r o') ∨ (j ≠ i ∧ ρ[j]? = some a) := fun {j a} q => by
    by_cases z : i = j
    · subst z
      rw [List.getElem?_set_self hi] at q
      exact .inl ⟨rfl, (Option.some.inj q).symm⟩
    · rw [get_set_ne z] at q; exact .inr ⟨Ne.symm z, q⟩
  have own' : ∀ {j : Nat} {r' : Bool} {q : OD}, (ρ.set i (.ow r o'))[j]? = some (.ow r' q) → ∃ q', ρ[j]? = some (.ow r' q') := fun {j r' q} h => by
    rcases at' h with ⟨rfl, h'⟩ | ⟨_, h'⟩
    · cases h'; exact ⟨o, e⟩
    · exact ⟨q, h'⟩
  refine ⟨by rw [List.length_set]; exact R.len, fun j a h => ?_, fun j q r' x h1 h2 => ?_, fun j k q r1 x1 r2 x2 h1 h2 h3 h4 => ?_, fun b hb => ?_, fun q hq => ?_⟩
  · rcases at' h with ⟨rfl, rfl⟩ | ⟨ne, h⟩
    · exact ⟨p, ep, w⟩
    · have q := R.at_ j a h
      cases a with
      | un => exact True.intro
      | fz d => obtain ⟨v, e', x⟩ := q; exact ⟨v, e', x.mono mono⟩
      | ow r2 o2 =>
        obtain ⟨p2, e2, x⟩ := q
        refine ⟨p2, e2, x.keep mono ?_⟩
        rw [upd_ne]; rintro rfl; exact ne (R.inj j i _ _ _ _ _ h e e2 ep)
  · obtain ⟨x', h'⟩ := own' h1; exact R.fr j q r' x' h' h2
  · obtain ⟨y1, g1⟩ := own' h1
    obtain ⟨y2, g2⟩ := own' h2
    exact R.inj j k q _ _ _ _ g1 g2 h3 h4
  · by_cases z : b = p
    · subst z; rw [upd_same]; exact nofun
    · rw [upd_ne z]; exact R.tr b hb
  · obtain ⟨h1, x, h2⟩ := R.rb q hq
    refine ⟨h1, ?_⟩
    by_cases z : i = q.1
    · rw [← z, List.getElem?_set_self hi]
      rw [← z] at h2; rw [e] at h2; cases h2
      exact ⟨o', rfl⟩
    · rw [get_set_ne z]; exact ⟨x, h2⟩
theorem Rep.notFr (R : Rep K Fr B σ H ρ) (e : ρ[i]? = some (.ow r o)) (ep : σ[i]? = some (some (V.ref p))) : ¬ Fr p := R.fr i p r o e ep
/-- slot i's object is laid fast -/
theorem Rep.freeze {od : Obj} {u : HO} (R : Rep K Fr B σ H ρ) (e : ρ[i]? = some (.ow false o)) (ep : σ[i]? = some (some (V.ref p))) (hp : H p = some u) : Rep K Fr B σ (upd H p (.frz od u)) (ρ.set i (.fz o.dat)) := by
  have hi : i < ρ.length := (List.getElem?_eq_some_iff.mp e).1
  obtain ⟨p', ep', ow⟩ := R.own e
  rw [ep] at ep'; cases ep'
  obtain ⟨u', hu', nu, _⟩ := ow.there
  rw [hp] at hu'; cases hu'
  have mono : Mono H (upd H p (.frz od u)) := Mono.upd fun z q => by rw [hp] at q; cases q; exact nu
  have at' : ∀ {j : Nat} {a : AV}, (ρ.set i (.fz o.dat))[j]? = some a → (j = i ∧ a = .fz o.dat) ∨ (j ≠ i ∧ ρ[j]? = some a) := fun {j a} q => by
    by_cases z : i = j
    · subst z
      rw [List.getElem?_set_self hi] at q
      exact .inl ⟨rfl, (Option.some.inj q).symm⟩
    · rw [get_set_ne z] at q; exact .inr ⟨Ne.symm z, q⟩
  have own' : ∀ {j : Nat} {r' : Bool} {q : OD}, (ρ.set i (.fz o.dat))[j]? = some (.ow r' q) → ρ[j]? = some (.ow r' q) := fun {j r' q} h => by
    rcases at' h with ⟨_, h'⟩ | ⟨_, h'⟩
    · cases h'
    · exact h'
  refine ⟨by rw [List.length_set]; exact R.len, fun j a h => ?_, fun j q r' x h1 h2 => R.fr j q r' x (own' h1) h2, fun j k q r1 x1 r2 x2 h1 h2 h3 h4 => R.inj j k q _ _ _ _ (own' h1) (own' h2) h3 h4, fun b hb => ?_, fun q hq => ?_⟩
  · rcases at' h with ⟨rfl, rfl⟩ | ⟨ne, h⟩
    · exact ⟨_, ep, ow.frz hp⟩
    · have q := R.at_ j a h
      cases a with
      | un => exact True.intro
      | fz d => obtain ⟨v, e', x⟩ := q; exact ⟨v, e', x.mono mono⟩
      | ow r2 o2 =>
        obtain ⟨p2, e2, x⟩ := q
        refine ⟨p2, e2, x.keep mono ?_⟩
        rw [upd_ne]; rintro rfl; exact ne (R.inj j i _ _ _ _ _ h e e2 ep)
  · by_cases z : b = p
    · subst z; rw [upd_same]; exact nofun
    · rw [upd_ne z]; exact R.tr b hb
  · obtain ⟨h1, x, h2⟩ := R.rb q hq
    refine ⟨h1, x, ?_⟩
    rw [get_set_ne]
    · exact h2
    · rintro rfl; rw [e] at h2; cases h2
/-- slot i is told anew -/
theorem Rep.put {a : AV} {v : V} (R : Rep K Fr B σ H ρ) (hi : i < ρ.length) (no : ∀ o, ρ[i]? ≠ some (.ow true o)) (s : SlotOk K H (some (some v)) a)
    (f : ∀ r o p, a = .ow r o → v = V.ref p → Fresh Fr σ ρ p) : Rep K Fr B (σ.set i (some v)) H (ρ.set i a) := by
  have hs : i < σ.length := by rw [← R.len]; exact hi
  have at' : ∀ {j : Nat} {b : AV}, (ρ.set i a)[j]? = some b → (j = i ∧ b = a) ∨ (j ≠ i ∧ ρ[j]? = some b) := fun {j b} q => by
    by_cases z : i = j
    · subst z
      rw [List.getElem?_set_self hi] at q
      exact .inl ⟨rfl, (Option.some.inj q).symm⟩
    · rw [get_set_ne z] at q; exact .inr ⟨Ne.symm z, q⟩
  have atσ : ∀ {j : Nat}, j ≠ i → (σ.set i (some v))[j]? = σ[j]? := fun {j} z => get_set_ne (Ne.symm z)
  have at0 : (σ.set i (some v))[i]? = some (some v) := List.getElem?_set_self hs
  refine ⟨by rw [List.length_set, List.length_set]; exact R.len, fun j b h => ?_, fun j q r' x h1 h2 => ?_, fun j k q r1 x1 r2 x2 h1 h2 h3 h4 => ?_, R.tr, fun q hq => ?_⟩
  · rcases at' h with ⟨rfl, rfl⟩ | ⟨ne, h⟩
    · rw [at0]; exact s
    · rw [atσ ne]; exact R.at_ j b h
  · rcases at' h1 with ⟨rfl, g1⟩ | ⟨ne, g1⟩
    · rw [at0] at h2
      exact (f r' x q g1.symm (Option.some.inj (Option.some.inj h2))).1
    · rw [atσ ne] at h2; exact R.fr j q r' x g1 h2
  · rcases at' h1 with ⟨rfl, g1⟩ | ⟨n1, g1⟩ <;> rcases at' h2 with ⟨e2, g2⟩ | ⟨n2, g2⟩
    · exact e2.symm
    · rw [at0] at h3
      rw [atσ n2] at h4
      exact absurd h4 ((f _ _ q g1.symm (Option.some.inj (Option.some.inj h3))).2 k _ _ g2)
    · subst e2
      rw [at0] at h4
      rw [atσ n1] at h3
      exact absurd h3 ((f _ _ q g2.symm (Option.some.inj (Option.some.inj h4))).2 j _ _ g1)
    · rw [atσ n1] at h3
      rw [atσ n2] at h4
      exact R.inj j k q _ _ _ _ g1 g2 h3 h4
  · obtain ⟨h1, x, h2⟩ := R.rb q hq
    have ne : q.1 ≠ i := fun z => by rw [z] at h2; exact no x h2
    rw [atσ ne, get_set_ne (Ne.symm ne)]
    exact ⟨h1, x, h2⟩
end
end DL
set_option Elab.async false
set_option linter.all false
set_option maxRecDepth 100000
set_option maxHeartbeats 2000000
namespace DL
open PySem PySem.Spec L2

inductive Out (α : Type) where
  | val (a : α) (ρ : Ev)
  | exc (c : Str) (ρ : Ev)
  | bad
def Out.bind {α β : Type} (m : Out α) (k : α → Ev → Out β) : Out β := match m with
  | .val a ρ => k a ρ
  | .exc c ρ => .exc c ρ
  | .bad => .bad
def Out.map {α β : Type} (f : α → β) (m : Out α) : Out β := match m with
  | .val a ρ => .val (f a) ρ
  | .exc c ρ => .exc c ρ
  | .bad => .bad
def ofO {α : Type} (o : Option α) (ρ : Ev) : Out α := match o with
  | some a => .val a ρ
  | none => .bad

/-- an operand: data, or what stands in a slot -/
inductive RV where
  | dat (d : D)
  | al (i : Nat)
def look (ρ : Ev) : RV → Option D
  | .dat d => some d
  | .al i => match ρ[i]? with
    | some (.ow _ o) => some o.dat
    | some (.fz d) => some d
    | _ => none
/-- v is to be read as d -/
inductive View (K : PySem.W.Frag) (H : Hp) : V → D → Prop where
  | dat {v d} (h : Dat K H v d) : View K H v d
  | own {p o} (h : Own K H p o) : View K H (.ref p) o.dat

abbrev Rel (α ν : Type) := α → Ev → ν → Hp → Prop
/-- what a reading is to show of its end, by what the function says -/
def Ok {α ν : Type} (K : PySem.W.Frag) (W : WX) (Fr : Addr → Prop) (B : List (Nat × Addr)) (σ : St) (rel : Rel α ν) (Q : ν → Hp → Prop) (H : Hp) : Out α → Prop
  | .val a ρ' => ∀ v H', Step Fr H H' → Rep K Fr B σ H' ρ' → rel a ρ' v H' → Q v H'
  | .exc c ρ' => ∀ H', Step Fr H H' → Rep K Fr B σ H' ρ' → W (.ref (He.ga K c)) none σ H'
  | .bad => False
section
variable {α β ν μ : Type} {K : PySem.W.Frag} {W : WX} {Fr : Addr → Prop} {B : List (Nat × Addr)} {σ : St} {rel : Rel α ν} {Q Q' : ν → Hp → Prop} {H H1 : Hp} {o : Out α}
theorem Ok.later (h : Ok K W Fr B σ rel Q H o) (st : Step Fr H H1) : Ok K W Fr B σ rel Q H1 o := by
  cases o with
  | val a ρ => exact fun v H' s R r => h v H' (st.trans s) R r
  | exc c ρ => exact fun H' s R => h H' (st.trans s) R
  | bad => exact h
theorem Ok.imp (h : Ok K W Fr B σ rel Q H o) (f : ∀ v H', Q v H' → Q' v H') : Ok K W Fr B σ rel Q' H o := by
  cases o with
  | val a ρ => exact fun v H' s R r => f v H' (h v H' s R r)
  | exc c ρ => exact h
  | bad => exact h
theorem Ok.bind {k : α → Ev → Out β} {rel' : Rel β μ} {Q2 : μ → Hp → Prop} (h : Ok K W Fr B σ rel' Q2 H (o.bind k))
    (f : ∀ v H1 a ρ1, Step Fr H H1 → Rep K Fr B σ H1 ρ1 → rel a ρ1 v H1 → Ok K W Fr B σ rel' Q2 H1 (k a ρ1) → Q v H1) : Ok K W Fr B σ rel Q H o := by
  cases o with
  | val a ρ => exact fun v H' s R r => f v H' a ρ s R r (Ok.later h s)
  | exc c ρ => exact h
  | bad => exact h
theorem Ok.map {g : α → β} {rel' : Rel β μ} {Q2 : μ → Hp → Prop} (h : Ok K W Fr B σ rel' Q2 H (o.map g))
    (f : ∀ v H1 a ρ1, Step Fr H H1 → Rep K Fr B σ H1 ρ1 → rel a ρ1 v H1 → Ok K W Fr B σ rel' Q2 H1 (.val (g a) ρ1) → Q v H1) : Ok K W Fr B σ rel Q H o := by
  cases o with
  | val a ρ => exact fun v H' s R r => f v H' a ρ s R r (Ok.later h s)
  | exc c ρ => exact h
  | bad => exact h
theorem Ok.one {a : β} {ρ : Ev} {rel' : Rel β μ} {Q2 : μ → Hp → Prop} {v : μ} (h : Ok K W Fr B σ rel' Q2 H (.val a ρ)) (st : Step Fr H H1) (R : Rep K Fr B σ H1 ρ) (r : rel' a ρ v H1) : Q2 v H1 := h v H1 st R r
end

def relE (K : PySem.W.Frag) : Rel D V := fun d _ v H => Dat K H v d
def relR (K : PySem.W.Frag) (σ : St) : Rel RV V := fun r ρ v H => match r with
  | .dat d => Dat K H v d
  | .al i => σ[i]? = some (some v) ∧ ∃ r o, ρ[i]? = some (.ow r o)
def relN (K : PySem.W.Frag) (Fr : Addr → Prop) (σ : St) : Rel OD V := fun o ρ v H => ∃ p, v = .ref p ∧ Own K H p o ∧ Fresh Fr σ ρ p
def relT : Rel Bool Bool := fun b _ v _ => v = b

/-- e gives data -/
structure DE (X : Cx) (W : WX) (e : Expr) (f : Ev → Out D) : Prop where
  ex : ∃ t, PE X e t ∧ ∀ (Fr : Addr → Prop) (B : List (Nat × Addr)) (σ : St) (H : Hp) (ρ : Ev) (Q : VK), Rep X.K Fr B σ H ρ → Ok X.K W Fr B σ (relE X.K) Q H (f ρ) → t σ H Q
/-- e gives an operand -/
structure DR (X : Cx) (W : WX) (e : Expr) (f : Ev → Out RV) : Prop where
  ex : ∃ t, PE X e t ∧ ∀ (Fr : Addr → Prop) (B : List (Nat × Addr)) (σ : St) (H : Hp) (ρ : Ev) (Q : VK), Rep X.K Fr B σ H ρ → Ok X.K W Fr B σ (relR X.K σ) Q H (f ρ) → t σ H Q
/-- e gives a new object -/
structure DN (X : Cx) (W : WX) (e : Expr) (f : Ev → Out OD) : Prop where
  ex : ∃ t, PE X e t ∧ ∀ (Fr : Addr → Prop) (B : List (Nat × Addr)) (σ : St) (H : Hp) (ρ : Ev) (Q : VK), Rep X.K Fr B σ H ρ → Ok X.K W Fr B σ (relN X.K Fr σ) Q H (f ρ) → t σ H Q
/-- e as a test -/
structure DT (X : Cx) (W : WX) (e : Expr) (f : Ev → Out Bool) : Prop where
  ex : ∃ t, PT X e t ∧ ∀ (Fr : Addr → Prop) (B : List (Nat × Addr)) (σ : St) (H : Hp) (ρ : Ev) (Q : Bool → Hp → Prop), Rep X.K Fr B σ H ρ → Ok X.K W Fr B σ relT Q H (f ρ) → t σ H Q
/-- .. among and, or -/
structure DW (X : Cx) (W : WX) (e : Expr) (f : Ev → Out Bool) : Prop where
  ex : ∃ t, PW X e t ∧ ∀ (Fr : Addr → Prop) (B : List (Nat × Addr)) (σ : St) (H : Hp) (ρ : Ev) (Q : Bool → Hp → Prop), Rep X.K Fr B σ H ρ → Ok X.K W Fr B σ relT Q H (f ρ) → t σ H Q
/-- arguments: operands -/
def relA (K : PySem.W.Frag) (σ : St) : Rel (List RV) (List V) := fun rs ρ vs H => Paired (fun r v => relR K σ r ρ v H) rs vs
def relL (K : PySem.W.Frag) : Rel (List D) (List V) := fun ds _ vs H => DatL K H vs ds
/-- arguments: data -/
structure DL_ (X : Cx) (W : WX) (es : List Expr) (f : Ev → Out (List D)) : Prop where
  ex : ∃ t, PA X es t ∧ ∀ (Fr : Addr → Prop) (B : List (Nat × Addr)) (σ : St) (H : Hp) (ρ : Ev) (Q : List V → Hp → Prop), Rep X.K Fr B σ H ρ → Ok X.K W Fr B σ (relL X.K) Q H (f ρ) → t σ H Q

section
variable {X : Cx} {W : WX} {K : PySem.W.Frag} {Fr : Addr → Prop} {B : List (Nat × Addr)} {σ : St} {H H1 H2 : Hp} {ρ ρ1 ρ2 : Ev} {v : V} {d : D}

theorem View.mono {H' : Hp} (h : View K H v d) (m : Mono H H') (k : ∀ p, v = .ref p → (∃ u, H p = some u ∧ ¬ Imm u) → H' p = H p) : View K H' v d := by
  cases h with
  | dat h => exact .dat (h.mono m)
  | own h =>
    obtain ⟨u, e, n, _⟩ := h.there
    exact .own (h.keep m (k _ rfl ⟨u, e, n⟩))
/-- an operand that was found before is still to be read -/
theorem view_later {a : RV} (r : relR K σ a ρ1 v H1) (st : Step Fr H1 H2) (R : Rep K Fr B σ H2 ρ2) (e : look ρ2 a = some d) : View K H2 v d := by
  cases a with
  | dat d' =>
    have e' : d' = d := Option.some.inj e
    subst e'
    exact .dat (Dat.mono st.mono r)
  | al i =>
    obtain ⟨h1, _⟩ := r
    unfold look at e
    dsimp only at e
    cases q : ρ2[i]? with
    | none => rw [q] at e; cases e
    | some av =>
      rw [q] at e
      have s := R.at_ i av q
      cases av with
      | un => cases e
      | fz d' =>
        have e' : d' = d := Option.some.inj e
        subst e'
        obtain ⟨w, e1, x⟩ := s
        rw [h1] at e1; cases e1
        exact .dat x
      | ow r o =>
        have e' : o.dat = d := Option.some.inj e
        subst e'
        obtain ⟨p, e1, x⟩ := s
        rw [h1] at e1; cases e1
        exact .own x
theorem view_now {a : RV} (r : relR K σ a ρ1 v H1) (R : Rep K Fr B σ H1 ρ1) (e : look ρ1 a = some d) : View K H1 v d := view_later r Step.refl R e

/-! ### from one judgement to another -/
theorem DE.dr {e : Expr} {f : Ev → Out D} (h : DE X W e f) : DR X W e (fun ρ => (f ρ).map RV.dat) := by
  obtain ⟨t, p, s⟩ := h.ex
  exact ⟨t, p, fun Fr B σ H ρ Q R k => s Fr B σ H ρ Q R (Ok.map k fun v H1 a ρ1 st R1 r k => k v H1 Step.refl R1 r)⟩
/-- an expression whose object is then laid fast -/
def tFrz (t : TE) : TE := fun σ H Q => t σ H fun v H1 => Q v H1 ∨ ∃ p u, H1 p = some u ∧ Mut (some u) ∧ ∀ od, Q v (upd H1 p (.frz od u))
theorem pe_frz {e : Expr} {t : TE} (h : PE X e t) : PE X e (tFrz t) := ⟨fun pins s σ H Q I k => by
  refine thn (h.run pins s σ H _ I k) fun v s1 ⟨x, H1, I1, r1, q1⟩ => ?_
  rcases q1 with q1 | ⟨p, u, hp, mu, q1⟩
  · exact ⟨x, H1, I1, r1, q1⟩
  · obtain ⟨od, I2⟩ := I1.lock hp mu
    exact ⟨x, _, I2, r1, q1 od⟩⟩
theorem DN.de {e : Expr} {f : Ev → Out OD} (h : DN X W e f) : DE X W e (fun ρ => (f ρ).map OD.dat) := by
  obtain ⟨t, p, s⟩ := h.ex
  refine ⟨tFrz t, pe_frz p, fun Fr B σ H ρ Q R k => s Fr B σ H ρ _ R (Ok.map k fun v H1 a ρ1 st R1 r k => ?_)⟩
  obtain ⟨p, rfl, ow, fr⟩ := r
  obtain ⟨u, hu, nu, mu⟩ := ow.there
  exact .inr ⟨p, u, hu, mu, fun od => k _ _ (Step.other fr.1 hu nu) (R1.other fr hu nu) (ow.frz hu)⟩
theorem DN.dr {e : Expr} {f : Ev → Out OD} (h : DN X W e f) : DR X W e (fun ρ => ((f ρ).map OD.dat).map RV.dat) := h.de.dr

/-! ### names -/
def varE (i : Nat) : Ev → Out D := fun ρ => match ρ[i]? with
  | some (.fz d) => .val d ρ
  | some (.ow false o) => .val o.dat (ρ.set i (.fz o.dat))
  | _ => .bad
def varR (i : Nat) : Ev → Out RV := fun ρ => match ρ[i]? with
  | some (.fz d) => .val (.dat d) ρ
  | some (.ow _ _) => .val (.al i) ρ
  | _ => .bad
theorem de_var {i : Nat} {e : Expr} (h : PE X e (tVar i)) : DE X W e (varE i) := by
  refine ⟨tFrz (tVar i), pe_frz h, fun Fr B σ H ρ Q R k => ?_⟩
  unfold varE at k
  cases q : ρ[i]? with
  | none => rw [q] at k; exact False.elim k
  | some a =>
    rw [q] at k
    have s := R.at_ i a q
    cases a with
    | un => exact False.elim k
    | fz d =>
      obtain ⟨v, e, x⟩ := s
      exact ⟨v, e, .inl (k v H Step.refl R x)⟩
    | ow r o =>
      cases r with
      | true => exact False.elim k
      | false =>
        obtain ⟨p, e, x⟩ := s
        obtain ⟨u, hu, nu, mu⟩ := x.there
        exact ⟨_, e, .inr ⟨p, u, hu, mu, fun od => k _ _ (Step.other (R.notFr q e) hu nu) (R.freeze q e hu) (x.frz hu)⟩⟩
theorem dr_var {i : Nat} {e : Expr} (h : PE X e (tVar i)) : DR X W e (varR i) := by
  refine ⟨tVar i, h, fun Fr B σ H ρ Q R k => ?_⟩
  unfold varR at k
  cases q : ρ[i]? with
  | none => rw [q] at k; exact False.elim k
  | some a =>
    rw [q] at k
    have s := R.at_ i a q
    cases a with
    | un => exact False.elim k
    | fz d =>
      obtain ⟨v, e, x⟩ := s
      exact ⟨v, e, k v H Step.refl R x⟩
    | ow r o =>
      obtain ⟨p, e, x⟩ := s
      exact ⟨_, e, k _ H Step.refl R ⟨e, r, o, q⟩⟩

/-! ### constants -/
def conE (d : D) : Ev → Out D := fun ρ => .val d ρ
theorem de_con {e : Expr} {v : V} {d : D} (h : PE X e (tC v)) (r : ∀ H, Dat X.K H v d) : DE X W e (conE d) := ⟨tC v, h, fun Fr B σ H ρ Q R k => k v H Step.refl R (r H)⟩
theorem de_int {i : Int} {j pos} : DE X W (.Constant (.int i) j pos) (conE (.int i)) := de_con pe_int fun _ => .int
theorem de_bl {b : Bool} {j pos} : DE X W (.Constant (.bool b) j pos) (conE (.bl b)) := de_con pe_bl fun _ => .bl
theorem de_str {x : Str} {j pos} : DE X W (.Constant (.str x) j pos) (conE (.str x)) := de_con pe_str fun _ => .str
theorem de_non {j pos} : DE X W (.Constant .none j pos) (conE .non) := de_con pe_non fun _ => .non
theorem de_gint {x : Str} {i : Int} {pos : Pos} (hm : ∃ t, X.mg x = some (.int i t)) (hg : Gl X x) (hd : (x == ("__debug__" : Str)) = false := by decide) : DE X W (.Name x pos) (conE (.int i)) := by
  obtain ⟨t, hm⟩ := hm
  exact de_con (v := .int i) (pe_glob hg hm ⟨t, rfl⟩ hd) fun _ => .int
theorem de_gstr {x z : Str} {pos : Pos} (hm : ∃ t, X.mg x = some (.str z t)) (hg : Gl X x) (hd : (x == ("__debug__" : Str)) = false := by decide) : DE X W (.Name x pos) (conE (.str z)) := by
  obtain ⟨t, hm⟩ := hm
  exact de_con (v := .str z) (pe_glob hg hm ⟨t, rfl⟩ hd) fun _ => .str
theorem de_gdat {x : Str} {a : Addr} {d : D} {pos : Pos} (hm : X.mg x = some (.ref a)) (r : ∀ H, Dat X.K H (.ref a) d) (hg : Gl X x) (hd : (x == ("__debug__" : Str)) = false := by decide) : DE X W (.Name x pos) (conE d) :=
  de_con (v := .ref a) (pe_glob hg hm rfl hd) r

/-! ### two operands, one operand -/
def onTwo (op : D → D → Option D) (ρ : Ev) : Option D → Option D → Out D
  | some x, some y => ofO (op x y) ρ
  | _, _ => .bad
def binF (op : D → D → Option D) (f g : Ev → Out RV) : Ev → Out D := fun ρ => (f ρ).bind fun a ρ1 => (g ρ1).bind fun b ρ2 => onTwo op ρ2 (look ρ2 a) (look ρ2 b)
/-- a two-place reading does op -/
structure BinOk (K : PySem.W.Frag) (r : R2) (op : D → D → Option D) : Prop where
  run : ∀ {Fr : Addr → Prop} {B : List (Nat × Addr)} {σ : St} {H : Hp} {ρ : Ev} {x y : V} {a b d : D} {Q : VK}, Rep K Fr B σ H ρ → View K H x a → View K H y b → op a b = some d →
  (∀ v H', Step Fr H H' → Rep K Fr B σ H' ρ → Dat K H' v d → Q v H') → r x y H Q
theorem sem_bin {r : R2} {op : D → D → Option D} (hb : BinOk X.K r op) {ta tb : TE} {f g : Ev → Out RV}
    (sa : ∀ (Fr : Addr → Prop) (B : List (Nat × Addr)) (σ : St) (H : Hp) (ρ : Ev) (Q : VK), Rep X.K Fr B σ H ρ → Ok X.K W Fr B σ (relR X.K σ) Q H (f ρ) → ta σ H Q)
    (sb : ∀ (Fr : Addr → Prop) (B : List (Nat × Addr)) (σ : St) (H : Hp) (ρ : Ev) (Q : VK), Rep X.K Fr B σ H ρ → Ok X.K W Fr B σ (relR X.K σ) Q H (g ρ) → tb σ H Q)
    (Fr : Addr → Prop) (B : List (Nat × Addr)) (σ : St) (H : Hp) (ρ : Ev) (Q : VK) (R : Rep X.K Fr B σ H ρ) (k : Ok X.K W Fr B σ (relE X.K) Q H (binF op f g ρ)) : tOp r ta tb σ H Q := by
  refine sa Fr B σ H ρ _ R (Ok.bind k fun v H1 a ρ1 st R1 r1 k => ?_)
  refine sb Fr B σ H1 ρ1 _ R1 (Ok.bind k fun w H2 b ρ2 st2 R2 r2 k => ?_)
  cases ea : look ρ2 a with
  | none => rw [ea] at k; exact False.elim k
  | some x =>
    cases eb : look ρ2 b with
    | none => rw [ea, eb] at k; exact False.elim k
    | some y =>
      rw [ea, eb] at k
      cases eo : op x y with
      | none =>
        replace k : Ok X.K W Fr B σ (relE X.K) Q H2 (ofO (op x y) ρ2) := k
        rw [eo] at k; exact False.elim k
      | some d =>
        replace k : Ok X.K W Fr B σ (relE X.K) Q H2 (ofO (op x y) ρ2) := k
        rw [eo] at k
        exact hb.run R2 (view_later r1 st2 R2 ea) (view_now r2 R2 eb) eo fun v H' s R r => k v H' s R r
theorem de_op {op : Operator} {r : R2} {o : D → D → Option D} {a b : Expr} {f g : Ev → Out RV} {pos : Pos} (ho : OpR X (binaryOp op) r) (hb : BinOk X.K r o) (ha : DR X W a f) (hb' : DR X W b g) : DE X W (.BinOp a op b pos) (binF o f g) := by
  obtain ⟨ta, pa, sa⟩ := ha.ex
  obtain ⟨tb, pb, sb⟩ := hb'.ex
  exact ⟨tOp r ta tb, pe_op ho pa pb, sem_bin hb sa sb⟩
/-- .. where a new object may come of it, laid fast at once -/
theorem OpR.frz {f : Value → Value → Sem Value} {r : R2} (h : OpR X f r) : OpR X f (fun x y H Q => r x y H fun v H1 => Q v H1 ∨ ∃ p u, H1 p = some u ∧ Mut (some u) ∧ ∀ od, Q v (upd H1 p (.frz od u))) := by
  intro pins s σ H x y v u Q I rx ry k
  refine thn (h pins s σ H x y v u _ I rx ry k) fun v s1 ⟨x, H1, I1, r1, q1⟩ => ?_
  rcases q1 with q1 | ⟨p, u, hp, mu, q1⟩
  · exact ⟨x, H1, I1, r1, q1⟩
  · obtain ⟨od, I2⟩ := I1.lock hp mu
    exact ⟨x, _, I2, r1, q1 od⟩
theorem OpR.or {f : Value → Value → Sem Value} {r r' : R2} (h : OpR X f r) (h' : OpR X f r') : OpR X f (fun x y H Q => r x y H Q ∨ r' x y H Q) := by
  intro pins s σ H x y v u Q I rx ry k
  rcases k with k | k
  · exact h pins s σ H x y v u Q I rx ry k
  · exact h' pins s σ H x y v u Q I rx ry k
/-- first one, else the other -/
def orO (p q : D → D → Option D) : D → D → Option D := fun a b => match p a b with
  | some d => some d
  | none => q a b
theorem BinOk.or {r r' : R2} {p q : D → D → Option D} (h : BinOk K r p) (h' : BinOk K r' q) : BinOk K (fun x y H Q => r x y H Q ∨ r' x y H Q) (orO p q) := by
  refine ⟨?_⟩
  intro Fr B σ H ρ x y a b d Q R va vb e k
  unfold orO at e
  cases z : p a b with
  | some d' => rw [z] at e; cases e; exact .inl (h.run R va vb z k)
  | none => rw [z] at e; exact .inr (h'.run R va vb e k)

theorem View.int {i : Int} (h : View K H v (.int i)) : v = .int i := by
  generalize e : D.int i = d at h
  cases h with
  | dat h => cases h <;> cases e; rfl
  | @own p o h => cases o <;> cases e
theorem View.str {i : Str} (h : View K H v (.str i)) : v = .str i := by
  generalize e : D.str i = d at h
  cases h with
  | dat h => cases h <;> cases e; rfl
  | @own p o h => cases o <;> cases e
theorem View.bl {i : Bool} (h : View K H v (.bl i)) : v = .bl i := by
  generalize e : D.bl i = d at h
  cases h with
  | dat h => cases h <;> cases e; rfl
  | @own p o h => cases o <;> cases e
theorem View.non (h : View K H v .non) : v = .non := by
  generalize e : D.non = d at h
  cases h with
  | dat h => cases h <;> cases e; rfl
  | @own p o h => cases o <;> cases e
theorem View.lst {xs : List D} (h : View K H v (.lst xs)) : ∃ a vs, v = .ref a ∧ SqL K H a vs ∧ DatL K H vs xs := by
  generalize e : D.lst xs = d at h
  cases h with
  | dat h =>
    cases h <;> cases e
    rename_i a vs h r
    exact ⟨a, vs, rfl, h.sq, r⟩
  | @own p o h =>
    cases o with
    | l ys => cases e; obtain ⟨vs, h, r⟩ := h; exact ⟨p, vs, rfl, .inl (.inl h), r⟩
    | d kvs => cases e
theorem View.tup {xs : List D} (h : View K H v (.tup xs)) : ∃ a vs, v = .ref a ∧ TupP K H a vs ∧ DatL K H vs xs := by
  generalize e : D.tup xs = d at h
  cases h with
  | dat h =>
    cases h <;> cases e
    rename_i a vs h r
    exact ⟨a, vs, rfl, h, r⟩
  | @own p o h => cases o <;> cases e
theorem View.odd {xs : List D} (h : View K H v (.odd xs)) : ∃ a vs, v = .ref a ∧ OddP H a vs ∧ DatL K H vs xs := by
  generalize e : D.odd xs = d at h
  cases h with
  | dat h =>
    cases h <;> cases e
    rename_i a vs h r
    exact ⟨a, vs, rfl, h, r⟩
  | @own p o h => cases o <;> cases e
theorem View.dic {xs : List (Key × D)} (h : View K H v (.dic xs)) : ∃ a vs, v = .ref a ∧ Rd H a (.dK vs) ∧ DatK K H vs xs := by
  generalize e : D.dic xs = d at h
  cases h with
  | dat h =>
    cases h <;> cases e
    rename_i a o vs h r
    exact ⟨a, vs, rfl, .inr ⟨o, h⟩, r⟩
  | @own p o h =>
    cases o with
    | l ys => cases e
    | d kvs => cases e; obtain ⟨vs, h, r⟩ := h; exact ⟨p, vs, rfl, .inl h, r⟩
end

/-! ### operators on data -/
def intO (g : Int → Int → Option D) : D → D → Option D
  | .int i, .int j => g i j
  | _, _ => none
def addI : D → D → Option D := intO fun i j => some (.int (i + j))
def subI : D → D → Option D := intO fun i j => some (.int (i - j))
def mulI : D → D → Option D := intO fun i j => if i.natAbs.log2 + j.natAbs.log2 < 1000000 then some (.int (i * j)) else none
def fdivI : D → D → Option D := intO fun i j => if 0 < j ∧ j.natAbs.log2 < 9000 then some (.int (i / j)) else none
def modI : D → D → Option D := intO fun i j => if 0 < j then some (.int (i % j)) else none
def powI : D → D → Option D := intO fun i j => if 0 ≤ j ∧ j ≤ 1000000 ∧ i.natAbs < 2 ^ 64 then some (.int (i ^ j.toNat)) else none
def cmpI (p : Int → Int → Bool) : D → D → Option D := intO fun i j => some (.bl (p i j))
def addS : D → D → Option D
  | .str x, .str y => if x.length + y.length ≤ sizeLine then some (.str (x ++ y)) else none
  | _, _ => none
def addL : D → D → Option D
  | .lst x, .lst y => if x.length + y.length ≤ sizeLine then some (.lst (x ++ y)) else none
  | _, _ => none
def addT : D → D → Option D
  | .tup x, .tup y => if x.length + y.length ≤ sizeLine then some (.tup (x ++ y)) else none
  | _, _ => none
theorem addS_inv {a b d : D} (h : addS a b = some d) : ∃ x y, a = .str x ∧ b = .str y ∧ x.length + y.length ≤ sizeLine ∧ d = .str (x ++ y) := by
  unfold addS at h
  split at h
  · split at h
    · cases h; exact ⟨_, _, rfl, rfl, by assumption, rfl⟩
    · cases h
  · cases h
theorem addL_inv {a b d : D} (h : addL a b = some d) : ∃ x y, a = .lst x ∧ b = .lst y ∧ x.length + y.length ≤ sizeLine ∧ d = .lst (x ++ y) := by
  unfold addL at h
  split at h
  · split at h
    · cases h; exact ⟨_, _, rfl, rfl, by assumption, rfl⟩
    · cases h
  · cases h
theorem addT_inv {a b d : D} (h : addT a b = some d) : ∃ x y, a = .tup x ∧ b = .tup y ∧ x.length + y.length ≤ sizeLine ∧ d = .tup (x ++ y) := by
  unfold addT at h
  split at h
  · split at h
    · cases h; exact ⟨_, _, rfl, rfl, by assumption, rfl⟩
    · cases h
  · cases h
def addO : D → D → Option D := orO addI (orO addS (orO addL addT))
section
variable {X : Cx} {W : WX} {K : PySem.W.Frag}
theorem int_cases {g : Int → Int → Option D} {a b d : D} (h : intO g a b = some d) : ∃ i j, a = .int i ∧ b = .int j ∧ g i j = some d := by
  cases a <;> cases b <;> first
    | exact ⟨_, _, rfl, rfl, h⟩
    | exact (nomatch h)
theorem bin_int0 {g : Int → Int → V} {g' : Int → Int → D} (h : ∀ i j H, Dat K H (g i j) (g' i j)) : BinOk K (rI0 g) (intO fun i j => some (g' i j)) := by
  refine ⟨?_⟩
  intro Fr B σ H ρ x y a b d Q R va vb e k
  obtain ⟨i, j, rfl, rfl, e⟩ := int_cases e
  cases e
  rw [va.int, vb.int]
  exact ⟨i, j, rfl, rfl, k _ H Step.refl R (h i j H)⟩
theorem bin_intC {C : Int → Int → Prop} {c : Int → Int → Prop} [∀ i j, Decidable (c i j)] {g : Int → Int → V} {g' : Int → Int → D} (hc : ∀ i j, c i j → C i j) (h : ∀ i j H, Dat K H (g i j) (g' i j)) : BinOk K (rI C g) (intO fun i j => if c i j then some (g' i j) else none) := by
  refine ⟨?_⟩
  intro Fr B σ H ρ x y a b d Q R va vb e k
  obtain ⟨i, j, rfl, rfl, e2⟩ := int_cases e
  by_cases hij : c i j
  · rw [if_pos hij] at e2
    cases e2
    rw [va.int, vb.int]
    exact ⟨i, j, rfl, rfl, hc i j hij, k _ H Step.refl R (h i j H)⟩
  · rw [if_neg hij] at e2
    cases e2
variable {a b : Expr} {f g : Ev → Out RV} {pos : Pos}
theorem de_sub (ha : DR X W a f) (hb : DR X W b g) : DE X W (.BinOp a .Sub b pos) (binF subI f g) := de_op op_sub (bin_int0 fun _ _ _ => .int) ha hb
theorem de_mul (ha : DR X W a f) (hb : DR X W b g) : DE X W (.BinOp a .Mult b pos) (binF mulI f g) := de_op op_mulW (bin_intC (fun _ _ h => h) fun _ _ _ => .int) ha hb
theorem de_fdiv (ha : DR X W a f) (hb : DR X W b g) : DE X W (.BinOp a .FloorDiv b pos) (binF fdivI f g) := de_op op_fdivW (bin_intC (fun _ _ h => h) fun _ _ _ => .int) ha hb
theorem de_mod (ha : DR X W a f) (hb : DR X W b g) : DE X W (.BinOp a .Mod b pos) (binF modI f g) := de_op op_mod (bin_intC (fun _ _ h => h) fun _ _ _ => .int) ha hb
theorem de_pow (ha : DR X W a f) (hb : DR X W b g) : DE X W (.BinOp a .Pow b pos) (binF powI f g) := de_op op_pow (bin_intC (fun _ _ h => h) fun _ _ _ => .int) ha hb
/-- xs + ys, to be read both -/
def rCatR (K : PySem.W.Frag) : R2 := fun x y H Q => ∃ l b xs zs, x = .ref l ∧ y = .ref b ∧ SqL K H l xs ∧ SqL K H b zs ∧ xs.length + zs.length ≤ sizeLine ∧ ∀ p, H p = none → Q (.ref p) (upd H p (.lst (xs ++ zs)))
theorem Inv.rdL {X : Cx} {pins : List (Addr × Obj)} {σ : St} {H : Hp} {s : Shared} {l : Addr} {xs : List V} (I : Inv X pins σ H s) (h : Rd H l (.lst xs)) : xs.length ≤ sizeLine ∧ ∃ (its : List Value) (n : Nat), Vals xs its ∧ s.heap.get? l = some { cls := .type "list", data := .seq its.toArray n } := by
  obtain ⟨z, its, n, r, e⟩ := h.ok I.hok
  exact ⟨z, its, n, r, e⟩
theorem op_catR : OpR X (binaryOp .Add) (rCatR X.K) := by
  intro pins s σ H x y v u Q I rx ry h
  obtain ⟨l, b, xs, zs, rfl, rfl, hx, hy, hz, q⟩ := h
  cases rx
  cases ry
  obtain ⟨i1, r1, p1, _⟩ := I.list hx
  obtain ⟨i2, r2, p2, _⟩ := I.list hy
  have l1 := r1.length
  have l2 := r2.length
  have q1 := p1.isList
  have q2 := p2.isList
  obtain ⟨⟨c1, d1, dt1, s1⟩, ho, hc, n, hd⟩ := id q1
  obtain ⟨⟨c2, d2, dt2, s2⟩, ho2, hc2, n2, hd2⟩ := id q2
  simp only at hc hd hc2 hd2
  subst hc hd hc2 hd2
  have ea : i1.toArray ++ i2.toArray = (i1 ++ i2).toArray := by simp
  refine PySem.concat_meets ⟨_, ho, rfl⟩ ⟨_, ho2, rfl⟩ PySem.noFill_list_add PySem.seq_list_add PySem.F.slot_list_add PySem.F.entry_list_add (PySem.F.args_list_add_2 _ _) (PyProof.Rows.list_addW l b i1.toArray i2.toArray n n2 d1 d2 s1 s2 (by simp only [List.size_toArray]; omega)) ⟨ho, ho2, ?_⟩
  rw [ea]
  exact ⟨.ref _, _, I.lnew (t' := s.toks) (r1.append r2) (by simp only [List.length_append]; omega), rfl, q _ I.fresh⟩
/-- a new tuple, known for one and no more -/
theorem Inv.tupP {X : Cx} {pins : List (Addr × Obj)} {σ : St} {H : Hp} {s : Shared} {ys : List V} {its : List Value} {tk : Nat} (I : Inv X pins σ H s) (r : Vals ys its) (hz : ys.length ≤ sizeLine) :
    Inv X pins σ (upd H s.heap.objs.size (.frz { cls := .type "tuple", data := .seq its.toArray } (.tup ys))) { s with heap := s.heap.push { cls := .type "tuple", data := .seq its.toArray }, toks := tk } :=
  I.laid (t' := tk) (fun b o e => Heap.get?_push_of_some _ e) (Nat.le_refl _) (show ObjOk X.prog X.w _ _ _ (.frz _ (.tup ys)) from ⟨Heap.get?_push_size _ rfl, hz, its, r, PyProof.Rows.IsTup.new _ _⟩)
/-- what is wanted of a new tuple -/
def rNewT (xs : List V) (H : Hp) (Q : VK) : Prop := ∀ p o, H p = none → o.dict = none → Q (.ref p) (upd H p (.frz o (.tup xs)))
def rCatP (K : PySem.W.Frag) : R2 := fun x y H Q => ∃ a b xs ys, x = .ref a ∧ y = .ref b ∧ SqT K H a xs ∧ SqT K H b ys ∧ xs.length + ys.length ≤ sizeLine ∧ (xs = [] → Q (.ref b) H) ∧ (xs ≠ [] → ys = [] → Q (.ref a) H) ∧ (xs ≠ [] → ys ≠ [] → rNewT (xs ++ ys) H Q)
theorem op_catP : OpR X (binaryOp .Add) (rCatP X.K) := by
  intro pins s σ H x y v u Q I rx ry h
  obtain ⟨a, b, xs, ys, rfl, rfl, ha, hb, hz, q0, q1, q2⟩ := h
  cases rx
  cases ry
  obtain ⟨i1, r1, p1, _⟩ := I.tuple ha
  obtain ⟨i2, r2, p2, _⟩ := I.tuple hb
  by_cases hx : xs = []
  · subst hx
    cases r1
    exact cat_tup0 p1 p2 ⟨.ref b, H, I, rfl, q0 rfl⟩
  · have l1 := r1.length
    have l2 := r2.length
    refine HT.cat_tup p1 p2 (fun e => hx (r1.nil_iff.mp e)) (fun e => ⟨.ref a, H, I, rfl, q1 hx (r2.nil_iff.mp e)⟩) (fun e => ?_) (by omega)
    exact ⟨.ref _, _, Inv.tupP (tk := s.toks) I (r1.append r2) (by rw [List.length_append]; omega), rfl, q2 hx (fun z => e (r2.nil_iff.mpr z)) _ _ I.fresh rfl⟩
theorem dat_tup_new {H : Hp} {p : Addr} {o : Obj} {vs : List V} {xs : List D} (hp : H p = none) (hd : o.dict = none) (r : DatL K H vs xs) : Dat K (upd H p (.frz o (.tup vs))) (.ref p) (.tup xs) := .tup (.inl ⟨o, upd_same, hd⟩) (r.mono (Mono.new hp))
/-- a new object, then laid fast -/
theorem new_frz {Fr : Addr → Prop} {B : List (Nat × Addr)} {σ : St} {H : Hp} {ρ : Ev} {Q : VK} {d : D} {p : Addr} {u : HO} (R : Rep K Fr B σ H ρ) (hp : H p = none) (mu : Mut (some u)) (nu : ¬ Imm u) (r : ∀ od, Dat K (upd H p (.frz od u)) (.ref p) d)
    (k : ∀ v H', Step Fr H H' → Rep K Fr B σ H' ρ → Dat K H' v d → Q v H') : Q (.ref p) (upd H p u) ∨ ∃ q w, upd H p u q = some w ∧ Mut (some w) ∧ ∀ od, Q (.ref p) (upd (upd H p u) q (.frz od w)) :=
  .inr ⟨p, u, upd_same, mu, fun od => by rw [upd_upd]; exact k _ _ (Step.new R hp) (R.new hp) (r od)⟩
theorem dat_lst_new {H : Hp} {p : Addr} {vs : List V} {xs : List D} (hp : H p = none) (r : DatL K H vs xs) (od : Obj) : Dat K (upd H p (.frz od (.lst vs))) (.ref p) (.lst xs) := .lst (.inl ⟨od, upd_same⟩) (r.mono (Mono.new hp))
theorem de_add (ha : DR X W a f) (hb : DR X W b g) : DE X W (.BinOp a .Add b pos) (binF addO f g) := by
  refine de_op (OpR.or op_add (OpR.or op_add_str (OpR.or (OpR.frz op_catR) op_catP))) (BinOk.or (bin_int0 fun _ _ _ => .int) (BinOk.or ⟨?_⟩ (BinOk.or ⟨?_⟩ ⟨?_⟩))) ha hb
  · intro Fr B σ H ρ x y a b d Q R va vb e k
    obtain ⟨x', y', rfl, rfl, hz, rfl⟩ := addS_inv e
    rw [va.str, vb.str]
    exact ⟨_, _, rfl, rfl, hz, k _ H Step.refl R .str⟩
  · intro Fr B σ H ρ x y a b d Q R va vb e k
    obtain ⟨x', y', rfl, rfl, hz, rfl⟩ := addL_inv e
    obtain ⟨l, xs, rfl, h1, r1⟩ := va.lst
    obtain ⟨m, ys, rfl, h2, r2⟩ := vb.lst
    exact ⟨l, m, xs, ys, rfl, rfl, h1, h2, by rw [r1.length, r2.length]; exact hz, fun p hp => new_frz R hp True.intro (fun z => z) (dat_lst_new hp (r1.append r2)) k⟩
  · intro Fr B σ H ρ x y a b d Q R va vb e k
    obtain ⟨xs', ys', rfl, rfl, hz, rfl⟩ := addT_inv e
    obtain ⟨l, xs, rfl, h1, r1⟩ := va.tup
    obtain ⟨m, ys, rfl, h2, r2⟩ := vb.tup
    refine ⟨l, m, xs, ys, rfl, rfl, h1.sq, h2.sq, by rw [r1.length, r2.length]; exact hz, fun z => ?_, fun _ z => ?_, fun _ _ p o hp hd => ?_⟩
    · subst z
      have z' : xs' = [] := by cases r1; rfl
      subst z'
      exact k _ H Step.refl R (.tup h2 r2)
    · subst z
      have z' : ys' = [] := by cases r2; rfl
      subst z'
      exact k _ H Step.refl R (.tup h1 (by rw [List.append_nil]; exact r1))
    · exact k _ _ (Step.new R hp) (R.new hp) (dat_tup_new hp hd (r1.append r2))
end
end DL
set_option Elab.async false
set_option linter.all false
set_option maxRecDepth 100000
set_option maxHeartbeats 2000000
namespace DL
open PySem PySem.Spec L2

/-! ### data as the library's data -/
mutual
def toPy : D → Option PyData
  | .non => some .none
  | .bl b => some (.bool b)
  | .int i => some (.int i)
  | .str x => some (.str x)
  | .tup xs => (toPyL xs).map .tuple
  | .lst xs => (toPyL xs).map .list
  | .dic _ => none
  | .exc _ => none
  | .ol => none
  | .odd _ => none
def toPyL : List D → Option (List PyData)
  | [] => some []
  | x :: xs => match toPy x, toPyL xs with
    | some a, some r => some (a :: r)
    | _, _ => none
end
section
variable {X : Cx} {W : WX} {K : PySem.W.Frag} {H : Hp} {v : V} {d : D}
theorem toPyL_cons {x : D} {xs : List D} {r : List PyData} (h : toPyL (x :: xs) = some r) : ∃ a s, toPy x = some a ∧ toPyL xs = some s ∧ r = a :: s := by
  unfold toPyL at h
  split at h
  · cases h; exact ⟨_, _, by assumption, by assumption, rfl⟩
  · cases h
mutual
theorem Dat.dp : ∀ {v : V} {d : D} {p : PyData}, Dat K H v d → toPy d = some p → Dp K H v p
  | _, _, _, .non, e => by unfold toPy at e; cases e; exact .non
  | _, _, _, .bl, e => by unfold toPy at e; cases e; exact .bl _
  | _, _, _, .int, e => by unfold toPy at e; cases e; exact .int _
  | _, _, _, .str, e => by unfold toPy at e; cases e; exact .str _
  | _, _, _, .tup (xs := xs) h r, e => by
    unfold toPy at e
    cases q : toPyL xs with
    | none => rw [q] at e; cases e
    | some ps => rw [q] at e; cases e; exact .tup h.sq (DatL.dp r q)
  | _, _, _, .lst (xs := xs) h r, e => by
    unfold toPy at e
    cases q : toPyL xs with
    | none => rw [q] at e; cases e
    | some ps => rw [q] at e; cases e; exact .lst h.sq (DatL.dp r q)
  | _, _, _, .dic h r, e => by unfold toPy at e; cases e
  | _, _, _, .exc h, e => by unfold toPy at e; cases e
  | _, _, _, .ol h, e => by unfold toPy at e; cases e
  | _, _, _, .odd h r, e => by unfold toPy at e; cases e
theorem DatL.dp : ∀ {v : List V} {d : List D} {p : List PyData}, DatL K H v d → toPyL d = some p → DpAll K H v p
  | _, _, _, .nil, e => by unfold toPyL at e; cases e; exact .nil
  | _, _, _, .cons h r, e => by
    obtain ⟨a, s, e1, e2, rfl⟩ := toPyL_cons e
    exact .cons (Dat.dp h e1) (DatL.dp r e2)
end
theorem View.dp {p : PyData} (h : View K H v d) (e : toPy d = some p) : Dp K H v p := by
  cases h with
  | dat h => exact h.dp e
  | @own q o h =>
    cases o with
    | l ys =>
      obtain ⟨vs, h, r⟩ := h
      have e' : (toPyL ys).map PyData.list = some p := e
      cases q : toPyL ys with
      | none => rw [q] at e'; cases e'
      | some ps => rw [q] at e'; cases e'; exact .lst (.inl (.inl h)) (r.dp q)
    | d kvs => cases e

/-! ### comparisons -/
theorem DE.cmp {op : CmpOp} {r : R2} {o : D → D → Option D} {a b : Expr} {f g : Ev → Out RV} {pos : Pos} (ho : OpR X (compareOp op) r) (hb : BinOk X.K r o) (ha : DR X W a f) (hb' : DR X W b g) (hm : behindInMarks op b = false) : DE X W (.Compare a [op] [b] pos) (binF o f g) := by
  obtain ⟨ta, pa, sa⟩ := ha.ex
  obtain ⟨tb, pb, sb⟩ := hb'.ex
  exact ⟨tOp r ta tb, pe_cmpR ho pa pb hm, sem_bin hb sa sb⟩
/-- a truth value as a test -/
def tstF (f : Ev → Out D) : Ev → Out Bool := fun ρ => (f ρ).bind fun d ρ1 => match d with
  | .bl b => .val b ρ1
  | _ => .bad
theorem Dat.bl_inv {b : Bool} (h : Dat K H v (.bl b)) : v = .bl b := by cases h; rfl
theorem Dat.int_inv {b : Int} (h : Dat K H v (.int b)) : v = .int b := by cases h; rfl
theorem Dat.str_inv {b : Str} (h : Dat K H v (.str b)) : v = .str b := by cases h; rfl
theorem Dat.non_inv (h : Dat K H v .non) : v = .non := by cases h; rfl
theorem sem_tst {t : TE} {f : Ev → Out D} (s : ∀ (Fr : Addr → Prop) (B : List (Nat × Addr)) (σ : St) (H : Hp) (ρ : Ev) (Q : VK), Rep X.K Fr B σ H ρ → Ok X.K W Fr B σ (relE X.K) Q H (f ρ) → t σ H Q)
    (Fr : Addr → Prop) (B : List (Nat × Addr)) (σ : St) (H : Hp) (ρ : Ev) (Q : Bool → Hp → Prop) (R : Rep X.K Fr B σ H ρ) (k : Ok X.K W Fr B σ relT Q H (tstF f ρ)) : tTest t σ H Q := by
  refine s Fr B σ H ρ _ R (Ok.bind k fun v H1 d ρ1 st R1 r k => ?_)
  cases d with
  | bl b => exact ⟨b, Dat.bl_inv r, k b H1 Step.refl R1 rfl⟩
  | _ => exact False.elim k
theorem DT.cmp {op : CmpOp} {r : R2} {o : D → D → Option D} {a b : Expr} {f g : Ev → Out RV} {pos : Pos} (ho : OpR X (compareOp op) r) (hb : BinOk X.K r o) (ha : DR X W a f) (hb' : DR X W b g) (hm : behindInMarks op b = false) : DT X W (.Compare a [op] [b] pos) (tstF (binF o f g)) := by
  obtain ⟨ta, pa, sa⟩ := ha.ex
  obtain ⟨tb, pb, sb⟩ := hb'.ex
  exact ⟨tTest (tOp r ta tb), pt_cmpR ho pa pb hm, sem_tst (sem_bin hb sa sb)⟩

def ltI : D → D → Option D := cmpI fun i j => decide (i < j)
def leI : D → D → Option D := cmpI fun i j => decide (i ≤ j)
def gtI : D → D → Option D := cmpI fun i j => decide (j < i)
def geI : D → D → Option D := cmpI fun i j => decide (j ≤ i)
theorem ok_lt : BinOk K (rI0 fun i j => .bl (decide (i < j))) ltI := bin_int0 (g' := fun i j => .bl (decide (i < j))) fun _ _ _ => .bl
theorem ok_le : BinOk K (rI0 fun i j => .bl (decide (i ≤ j))) leI := bin_int0 (g' := fun i j => .bl (decide (i ≤ j))) fun _ _ _ => .bl
theorem ok_gt : BinOk K (rI0 fun i j => .bl (decide (j < i))) gtI := bin_int0 (g' := fun i j => .bl (decide (j < i))) fun _ _ _ => .bl
theorem ok_ge : BinOk K (rI0 fun i j => .bl (decide (j ≤ i))) geI := bin_int0 (g' := fun i j => .bl (decide (j ≤ i))) fun _ _ _ => .bl

/-- == of what has no parts -/
def eqS : D → D → Option D
  | .non, .non => some (.bl true)
  | .non, .int _ => some (.bl false)
  | .int _, .non => some (.bl false)
  | .non, .bl _ => some (.bl false)
  | .bl _, .non => some (.bl false)
  | .non, .str _ => some (.bl false)
  | .str _, .non => some (.bl false)
  | .int i, .int j => some (.bl (decide (i = j)))
  | .bl i, .bl j => some (.bl (decide (i = j)))
  | .str i, .str j => some (.bl (decide (i = j)))
  | .int _, .str _ => some (.bl false)
  | .str _, .int _ => some (.bl false)
  | .bl _, .str _ => some (.bl false)
  | .str _, .bl _ => some (.bl false)
  | _, _ => none
def notO (p : D → D → Option D) : D → D → Option D := fun a b => match p a b with
  | some (.bl c) => some (.bl !c)
  | _ => none
/-- == of data without dicts -/
def eqP : D → D → Option D := fun a b => match toPy a, toPy b with
  | some x, some y => if SeqAt.shaped x = true ∧ SeqAt.shaped y = true then some (.bl (PyData.eqv x y)) else none
  | _, _ => none
def eqO : D → D → Option D := orO eqS eqP
def neO : D → D → Option D := orO (notO eqS) (notO eqP)
theorem eqS_inv {a b d : D} {x y : V} (h : eqS a b = some d) (va : View K H x a) (vb : View K H y b) : scal x y = true ∧ d = .bl (decide (x = y)) := by
  unfold eqS at h
  split at h <;> first
    | (cases h; done)
    | (cases h; rw [va.non, vb.non]; exact ⟨rfl, rfl⟩)
    | (cases h; rw [va.non, vb.int]; exact ⟨rfl, by simp⟩)
    | (cases h; rw [va.int, vb.non]; exact ⟨rfl, by simp⟩)
    | (cases h; rw [va.non, vb.bl]; exact ⟨rfl, by simp⟩)
    | (cases h; rw [va.bl, vb.non]; exact ⟨rfl, by simp⟩)
    | (cases h; rw [va.non, vb.str]; exact ⟨rfl, by simp⟩)
    | (cases h; rw [va.str, vb.non]; exact ⟨rfl, by simp⟩)
    | (cases h; rw [va.int, vb.int]; exact ⟨rfl, by simp⟩)
    | (cases h; rw [va.bl, vb.bl]; exact ⟨rfl, by simp⟩)
    | (cases h; rw [va.str, vb.str]; exact ⟨rfl, by simp⟩)
    | (cases h; rw [va.int, vb.str]; exact ⟨rfl, by simp⟩)
    | (cases h; rw [va.str, vb.int]; exact ⟨rfl, by simp⟩)
    | (cases h; rw [va.bl, vb.str]; exact ⟨rfl, by simp⟩)
    | (cases h; rw [va.str, vb.bl]; exact ⟨rfl, by simp⟩)
theorem ok_eqS : BinOk K rEq eqS := ⟨fun {Fr B σ H ρ x y a b d Q} R va vb e k => by
  obtain ⟨h1, rfl⟩ := eqS_inv e va vb
  exact ⟨h1, k _ H Step.refl R .bl⟩⟩
theorem notO_inv {p : D → D → Option D} {a b d : D} (h : notO p a b = some d) : ∃ c, p a b = some (.bl c) ∧ d = .bl !c := by
  unfold notO at h
  split at h
  · cases h; exact ⟨_, by assumption, rfl⟩
  · cases h
theorem ok_neS : BinOk K rNe (notO eqS) := ⟨fun {Fr B σ H ρ x y a b d Q} R va vb e k => by
  obtain ⟨c, e9, rfl⟩ := notO_inv e
  obtain ⟨h1, h2⟩ := eqS_inv e9 va vb
  cases h2
  exact ⟨h1, k _ H Step.refl R .bl⟩⟩
theorem eqP_inv {a b d : D} {x y : V} (h : eqP a b = some d) (va : View K H x a) (vb : View K H y b) : ∃ p q, Dp K H x p ∧ Dp K H y q ∧ SeqAt.shaped p = true ∧ SeqAt.shaped q = true ∧ d = .bl (PyData.eqv p q) := by
  unfold eqP at h
  split at h
  · split at h
    · rename_i e1 e2 h1
      cases h
      exact ⟨_, _, va.dp e1, vb.dp e2, h1.1, h1.2, rfl⟩
    · cases h
  · cases h
theorem ok_eqP : BinOk K (rEqD K) eqP := ⟨fun {Fr B σ H ρ x y a b d Q} R va vb e k => by
  obtain ⟨p, q, h1, h2, h3, h4, rfl⟩ := eqP_inv e va vb
  exact ⟨p, q, h1, h2, h3, h4, k _ H Step.refl R .bl⟩⟩
theorem ok_neP : BinOk K (rNeD K) (notO eqP) := ⟨fun {Fr B σ H ρ x y a b d Q} R va vb e k => by
  obtain ⟨c, e9, rfl⟩ := notO_inv e
  obtain ⟨p, q, h1, h2, h3, h4, h5⟩ := eqP_inv e9 va vb
  cases h5
  exact ⟨p, q, h1, h2, h3, h4, k _ H Step.refl R .bl⟩⟩

/-- is None -/
def isN : D → D → Option D := fun a b => match b with
  | .non => some (.bl (match a with
    | .non => true
    | _ => false))
  | _ => none
def isB : D → D → Option D
  | .bl a, .bl b => some (.bl (decide (a = b)))
  | _, _ => none
def isO : D → D → Option D := orO isN isB
def isnO : D → D → Option D := orO (notO isN) (notO isB)
theorem isN_inv {a b d : D} {x y : V} (h : isN a b = some d) (va : View K H x a) (vb : View K H y b) : y = .non ∧ d = .bl (decide (x = .non)) := by
  unfold isN at h
  split at h
  · refine ⟨vb.non, ?_⟩
    cases h
    cases va with
    | dat va => cases va <;> simp
    | @own p o va => cases o <;> simp [OD.dat]
  · cases h
theorem ok_isN : BinOk K (fun x y H Q => y = .non ∧ Q (.bl (decide (x = .non))) H) isN := ⟨fun {Fr B σ H ρ x y a b d Q} R va vb e k => by
  obtain ⟨h1, rfl⟩ := isN_inv e va vb
  exact ⟨h1, k _ H Step.refl R .bl⟩⟩
theorem ok_isnN : BinOk K (fun x y H Q => y = .non ∧ Q (.bl (!decide (x = .non))) H) (notO isN) := ⟨fun {Fr B σ H ρ x y a b d Q} R va vb e k => by
  obtain ⟨c, e9, rfl⟩ := notO_inv e
  obtain ⟨h1, h2⟩ := isN_inv e9 va vb
  cases h2
  exact ⟨h1, k _ H Step.refl R .bl⟩⟩
theorem isB_inv {a b d : D} {x y : V} (h : isB a b = some d) (va : View K H x a) (vb : View K H y b) : ∃ i j, x = .bl i ∧ y = .bl j ∧ d = .bl (decide (i = j)) := by
  unfold isB at h
  split at h
  · cases h; exact ⟨_, _, va.bl, vb.bl, rfl⟩
  · cases h
theorem ok_isB : BinOk K rIsB isB := ⟨fun {Fr B σ H ρ x y a b d Q} R va vb e k => by
  obtain ⟨i, j, rfl, rfl, rfl⟩ := isB_inv e va vb
  exact ⟨i, j, rfl, rfl, k _ H Step.refl R .bl⟩⟩
theorem ok_isnB : BinOk K rNotB (notO isB) := ⟨fun {Fr B σ H ρ x y a b d Q} R va vb e k => by
  obtain ⟨c, e9, rfl⟩ := notO_inv e
  obtain ⟨i, j, rfl, rfl, h⟩ := isB_inv e9 va vb
  cases h
  exact ⟨i, j, rfl, rfl, k _ H Step.refl R .bl⟩⟩

/-! ### in -/
def isFlat : D → Bool
  | .non => true
  | .bl _ => true
  | .int _ => true
  | .str _ => true
  | _ => false
/-- what a flat thing is -/
def flatOf : D → V
  | .bl b => .bl b
  | .int i => .int i
  | .str x => .str x
  | _ => .non
/-- x in xs, a list or a tuple of flat things -/
def inF : D → D → Option D := fun x y => match y with
  | .lst ys => if isFlat x = true ∧ ys.all isFlat = true then some (.bl (inV (flatOf x) (ys.map flatOf))) else none
  | .tup ys => if isFlat x = true ∧ ys.all isFlat = true then some (.bl (inV (flatOf x) (ys.map flatOf))) else none
  | _ => none
theorem Dat.flat (h : Dat K H v d) (f : isFlat d = true) : v = flatOf d ∧ flatV v = true := by
  cases h <;> first
    | exact ⟨rfl, rfl⟩
    | cases f
theorem View.flat (h : View K H v d) (f : isFlat d = true) : v = flatOf d ∧ flatV v = true := by
  cases h with
  | dat h => exact h.flat f
  | @own p o h => cases o <;> cases f
theorem DatL.flat : ∀ {vs : List V} {ds : List D}, DatL K H vs ds → ds.all isFlat = true → vs = ds.map flatOf ∧ vs.all flatV = true
  | _, _, .nil, _ => ⟨rfl, rfl⟩
  | _, _, .cons h r, f => by
    rw [List.all_cons, Bool.and_eq_true] at f
    obtain ⟨e1, e2⟩ := h.flat f.1
    obtain ⟨e3, e4⟩ := DatL.flat r f.2
    refine ⟨by rw [e1, e3]; rfl, ?_⟩
    rw [List.all_cons, e2, e4] <;> rfl
theorem inF_inv {a b d : D} {x y : V} (h : inF a b = some d) (va : View K H x a) (vb : View K H y b) : ∃ p xs, y = .ref p ∧ (SqL K H p xs ∨ SqT K H p xs) ∧ flatV x = true ∧ xs.all flatV = true ∧ d = .bl (inV x xs) := by
  unfold inF at h
  split at h
  · split at h
    · rename_i f
      cases h
      obtain ⟨p, vs, rfl, h1, r⟩ := vb.lst
      obtain ⟨e1, e2⟩ := va.flat f.1
      obtain ⟨e3, e4⟩ := r.flat f.2
      exact ⟨p, vs, rfl, .inl h1, e2, e4, by rw [e1, e3]⟩
    · cases h
  · split at h
    · rename_i f
      cases h
      obtain ⟨p, vs, rfl, h1, r⟩ := vb.tup
      obtain ⟨e1, e2⟩ := va.flat f.1
      obtain ⟨e3, e4⟩ := r.flat f.2
      exact ⟨p, vs, rfl, .inr h1.sq, e2, e4, by rw [e1, e3]⟩
    · cases h
  · cases h
theorem ok_inF : BinOk K (rIn K false) inF := ⟨fun {Fr B σ H ρ x y a b d Q} R va vb e k => by
  obtain ⟨p, xs, h1, h2, h3, h4, rfl⟩ := inF_inv e va vb
  exact ⟨p, xs, h1, h2, h3, h4, k _ H Step.refl R .bl⟩⟩
theorem ok_ninF : BinOk K (rIn K true) (notO inF) := ⟨fun {Fr B σ H ρ x y a b d Q} R va vb e k => by
  obtain ⟨c, e9, rfl⟩ := notO_inv e
  obtain ⟨p, xs, h1, h2, h3, h4, h5⟩ := inF_inv e9 va vb
  cases h5
  exact ⟨p, xs, h1, h2, h3, h4, k _ H Step.refl R .bl⟩⟩
/-- x in xs, a list of data without dicts -/
def inP : D → D → Option D := fun x y => match toPy x, y with
  | some a, .lst ys => (match toPyL ys with
    | some zs => if SeqAt.shaped a = true ∧ SeqAt.shaped (.list zs) = true then some (.bl (zs.any fun z => PyData.eqv z a)) else none
    | none => none)
  | _, _ => none
theorem inP_inv {a b d : D} {x y : V} (h : inP a b = some d) (va : View K H x a) (vb : View K H y b) : ∃ p qs, Dp K H x p ∧ Dp K H y (.list qs) ∧ SeqAt.shaped p = true ∧ SeqAt.shaped (.list qs) = true ∧ d = .bl (qs.any fun z => PyData.eqv z p) := by
  unfold inP at h
  split at h
  · split at h
    · split at h
      · rename_i e1 _ zs e2 f
        cases h
        exact ⟨_, _, va.dp e1, vb.dp (show (toPyL _).map PyData.list = _ by rw [e2]; rfl), f.1, f.2, rfl⟩
      · cases h
    · cases h
  · cases h
theorem ok_inP : BinOk K (rInD K) inP := ⟨fun {Fr B σ H ρ x y a b d Q} R va vb e k => by
  obtain ⟨p, q, h1, h2, h3, h4, rfl⟩ := inP_inv e va vb
  exact ⟨p, q, h1, h2, h3, h4, k _ H Step.refl R .bl⟩⟩
theorem ok_ninP : BinOk K (rNotInD K) (notO inP) := ⟨fun {Fr B σ H ρ x y a b d Q} R va vb e k => by
  obtain ⟨c, e9, rfl⟩ := notO_inv e
  obtain ⟨p, q, h1, h2, h3, h4, h5⟩ := inP_inv e9 va vb
  cases h5
  exact ⟨p, q, h1, h2, h3, h4, k _ H Step.refl R .bl⟩⟩
/-- c in s, c one sign -/
def inS : D → D → Option D
  | .str x, .str y => (match x.cps.toList with
    | [c] => some (.bl (decide (c ∈ y.cps.toList)))
    | _ => none)
  | _, _ => none
theorem inS_inv {a b d : D} {x y : V} (h : inS a b = some d) (va : View K H x a) (vb : View K H y b) : ∃ c z, x = .str ⟨#[c]⟩ ∧ y = .str z ∧ d = .bl (decide (c ∈ z.cps.toList)) := by
  unfold inS at h
  split at h
  · split at h
    · rename_i x' y' _ c e
      cases h
      refine ⟨c, y', ?_, vb.str, rfl⟩
      rw [va.str]
      obtain ⟨cps⟩ := x'
      have e' : cps = #[c] := by
        have := congrArg List.toArray e
        simpa using this
      rw [e']
    · cases h
  · cases h
theorem ok_inS : BinOk K (fun x y H Q => ∃ (c : Nat) (z : Str), x = .str ⟨#[c]⟩ ∧ y = .str z ∧ Q (.bl (decide (c ∈ z.cps.toList))) H) inS := ⟨fun {Fr B σ H ρ x y a b d Q} R va vb e k => by
  obtain ⟨c, z, h1, h2, rfl⟩ := inS_inv e va vb
  exact ⟨c, z, h1, h2, k _ H Step.refl R .bl⟩⟩
theorem ok_ninS : BinOk K (fun x y H Q => ∃ (c : Nat) (z : Str), x = .str ⟨#[c]⟩ ∧ y = .str z ∧ Q (.bl (!decide (c ∈ z.cps.toList))) H) (notO inS) := ⟨fun {Fr B σ H ρ x y a b d Q} R va vb e k => by
  obtain ⟨c, e9, rfl⟩ := notO_inv e
  obtain ⟨c, z, h1, h2, h3⟩ := inS_inv e9 va vb
  cases h3
  exact ⟨c, z, h1, h2, k _ H Step.refl R .bl⟩⟩
def inO : D → D → Option D := orO inF (orO inP inS)
def ninO : D → D → Option D := orO (notO inF) (orO (notO inP) (notO inS))

variable {a b c : Expr} {f g h : Ev → Out RV} {pos : Pos}
theorem de_lt (ha : DR X W a f) (hb : DR X W b g) : DE X W (.Compare a [.Lt] [b] pos) (binF ltI f g) := DE.cmp op_lt ok_lt ha hb (nomark b)
theorem de_le (ha : DR X W a f) (hb : DR X W b g) : DE X W (.Compare a [.LtE] [b] pos) (binF leI f g) := DE.cmp op_le ok_le ha hb (nomark b)
theorem de_gt (ha : DR X W a f) (hb : DR X W b g) : DE X W (.Compare a [.Gt] [b] pos) (binF gtI f g) := DE.cmp op_gt ok_gt ha hb (nomark b)
theorem de_ge (ha : DR X W a f) (hb : DR X W b g) : DE X W (.Compare a [.GtE] [b] pos) (binF geI f g) := DE.cmp op_ge ok_ge ha hb (nomark b)
theorem dt_lt (ha : DR X W a f) (hb : DR X W b g) : DT X W (.Compare a [.Lt] [b] pos) (tstF (binF ltI f g)) := DT.cmp op_lt ok_lt ha hb (nomark b)
theorem dt_le (ha : DR X W a f) (hb : DR X W b g) : DT X W (.Compare a [.LtE] [b] pos) (tstF (binF leI f g)) := DT.cmp op_le ok_le ha hb (nomark b)
theorem dt_gt (ha : DR X W a f) (hb : DR X W b g) : DT X W (.Compare a [.Gt] [b] pos) (tstF (binF gtI f g)) := DT.cmp op_gt ok_gt ha hb (nomark b)
theorem dt_ge (ha : DR X W a f) (hb : DR X W b g) : DT X W (.Compare a [.GtE] [b] pos) (tstF (binF geI f g)) := DT.cmp op_ge ok_ge ha hb (nomark b)
theorem de_eq (hu : X.A.units + 65 < cLine) (ha : DR X W a f) (hb : DR X W b g) : DE X W (.Compare a [.Eq] [b] pos) (binF eqO f g) := DE.cmp (OpR.or op_eq (op_eqD (Nat.lt_of_succ_lt hu))) (ok_eqS.or ok_eqP) ha hb (nomark b)
theorem de_ne (hu : X.A.units + 65 < cLine) (ha : DR X W a f) (hb : DR X W b g) : DE X W (.Compare a [.NotEq] [b] pos) (binF neO f g) := DE.cmp (OpR.or op_ne (op_neD (Nat.lt_of_succ_lt hu))) (ok_neS.or ok_neP) ha hb (nomark b)
theorem dt_eq (hu : X.A.units + 65 < cLine) (ha : DR X W a f) (hb : DR X W b g) : DT X W (.Compare a [.Eq] [b] pos) (tstF (binF eqO f g)) := DT.cmp (OpR.or op_eq (op_eqD (Nat.lt_of_succ_lt hu))) (ok_eqS.or ok_eqP) ha hb (nomark b)
theorem dt_ne (hu : X.A.units + 65 < cLine) (ha : DR X W a f) (hb : DR X W b g) : DT X W (.Compare a [.NotEq] [b] pos) (tstF (binF neO f g)) := DT.cmp (OpR.or op_ne (op_neD (Nat.lt_of_succ_lt hu))) (ok_neS.or ok_neP) ha hb (nomark b)
theorem de_is (ha : DR X W a f) (hb : DR X W b g) : DE X W (.Compare a [.Is] [b] pos) (binF isO f g) := DE.cmp (OpR.or op_isN op_isBl) (ok_isN.or ok_isB) ha hb (nomark b)
theorem de_isn (ha : DR X W a f) (hb : DR X W b g) : DE X W (.Compare a [.IsNot] [b] pos) (binF isnO f g) := DE.cmp (OpR.or op_notN op_notBl) (ok_isnN.or ok_isnB) ha hb (nomark b)
theorem dt_is (ha : DR X W a f) (hb : DR X W b g) : DT X W (.Compare a [.Is] [b] pos) (tstF (binF isO f g)) := DT.cmp (OpR.or op_isN op_isBl) (ok_isN.or ok_isB) ha hb (nomark b)
theorem dt_isn (ha : DR X W a f) (hb : DR X W b g) : DT X W (.Compare a [.IsNot] [b] pos) (tstF (binF isnO f g)) := DT.cmp (OpR.or op_notN op_notBl) (ok_isnN.or ok_isnB) ha hb (nomark b)
theorem de_in (hu : X.A.units + 65 < cLine) (ha : DR X W a f) (hb : DR X W b g) (hm : behindInMarks .In b = false) : DE X W (.Compare a [.In] [b] pos) (binF inO f g) := DE.cmp (OpR.or op_in_seq (OpR.or (op_inD hu) op_in_sign)) (ok_inF.or (ok_inP.or ok_inS)) ha hb hm
theorem de_nin (hu : X.A.units + 65 < cLine) (ha : DR X W a f) (hb : DR X W b g) (hm : behindInMarks .NotIn b = false) : DE X W (.Compare a [.NotIn] [b] pos) (binF ninO f g) := DE.cmp (OpR.or op_notIn_seq (OpR.or (op_notInD hu) op_notIn_sign)) (ok_ninF.or (ok_ninP.or ok_ninS)) ha hb hm
theorem dt_in (hu : X.A.units + 65 < cLine) (ha : DR X W a f) (hb : DR X W b g) (hm : behindInMarks .In b = false) : DT X W (.Compare a [.In] [b] pos) (tstF (binF inO f g)) := DT.cmp (OpR.or op_in_seq (OpR.or (op_inD hu) op_in_sign)) (ok_inF.or (ok_inP.or ok_inS)) ha hb hm
theorem dt_nin (hu : X.A.units + 65 < cLine) (ha : DR X W a f) (hb : DR X W b g) (hm : behindInMarks .NotIn b = false) : DT X W (.Compare a [.NotIn] [b] pos) (tstF (binF ninO f g)) := DT.cmp (OpR.or op_notIn_seq (OpR.or (op_notInD hu) op_notIn_sign)) (ok_ninF.or (ok_ninP.or ok_ninS)) ha hb hm

/-! ### chains -/
def chF (o o' : D → D → Option D) (f g h : Ev → Out RV) : Ev → Out D := fun ρ => (f ρ).bind fun a ρ1 => (g ρ1).bind fun b ρ2 => (onTwo o ρ2 (look ρ2 a) (look ρ2 b)).bind fun r ρ3 => match r with
  | .bl true => (h ρ3).bind fun c ρ4 => onTwo o' ρ4 (look ρ4 b) (look ρ4 c)
  | .bl false => .val (.bl false) ρ3
  | _ => .bad
theorem onTwo_ok {r : R2} {op : D → D → Option D} (hb : BinOk K r op) {Fr : Addr → Prop} {B : List (Nat × Addr)} {σ : St} {H1 H2 : Hp} {ρ1 ρ2 : Ev} {v w : V} {a b : RV} {Q Q2 : VK} (st : Step Fr H1 H2) (R2 : Rep K Fr B σ H2 ρ2)
    (r1 : relR K σ a ρ1 v H1) (r2 : relR K σ b ρ2 w H2) (k : Ok K W Fr B σ (relE K) Q2 H2 (onTwo op ρ2 (look ρ2 a) (look ρ2 b))) (q : ∀ u H3 d, onTwo op ρ2 (look ρ2 a) (look ρ2 b) = .val d ρ2 → Step Fr H2 H3 → Rep K Fr B σ H3 ρ2 → Dat K H3 u d → Q u H3) : r v w H2 Q := by
  cases ea : look ρ2 a with
  | none => rw [ea] at k; exact False.elim k
  | some x =>
    cases eb : look ρ2 b with
    | none => rw [ea, eb] at k; exact False.elim k
    | some y =>
      rw [ea, eb] at k q
      cases eo : op x y with
      | none =>
        replace k : Ok K W Fr B σ (relE K) Q2 H2 (ofO (op x y) ρ2) := k
        rw [eo] at k; exact False.elim k
      | some d =>
        refine hb.run R2 (view_later r1 st R2 ea) (view_now r2 R2 eb) eo fun u H3 s R3 dt => q u H3 d ?_ s R3 dt
        show ofO (op x y) ρ2 = .val d ρ2
        rw [eo] <;> rfl
theorem sem_chain {r r' : R2} {o o' : D → D → Option D} (hb : BinOk X.K r o) (hb' : BinOk X.K r' o') {ta tb tc : TE}
    (sa : ∀ (Fr : Addr → Prop) (B : List (Nat × Addr)) (σ : St) (H : Hp) (ρ : Ev) (Q : VK), Rep X.K Fr B σ H ρ → Ok X.K W Fr B σ (relR X.K σ) Q H (f ρ) → ta σ H Q)
    (sb : ∀ (Fr : Addr → Prop) (B : List (Nat × Addr)) (σ : St) (H : Hp) (ρ : Ev) (Q : VK), Rep X.K Fr B σ H ρ → Ok X.K W Fr B σ (relR X.K σ) Q H (g ρ) → tb σ H Q)
    (sc : ∀ (Fr : Addr → Prop) (B : List (Nat × Addr)) (σ : St) (H : Hp) (ρ : Ev) (Q : VK), Rep X.K Fr B σ H ρ → Ok X.K W Fr B σ (relR X.K σ) Q H (h ρ) → tc σ H Q)
    (Fr : Addr → Prop) (B : List (Nat × Addr)) (σ : St) (H : Hp) (ρ : Ev) (Q : VK) (R : Rep X.K Fr B σ H ρ) (k : Ok X.K W Fr B σ (relE X.K) Q H (chF o o' f g h ρ)) : tChain r r' ta tb tc σ H Q := by
  refine sa Fr B σ H ρ _ R (Ok.bind k fun v H1 a ρ1 st R1 r1 k => ?_)
  refine sb Fr B σ H1 ρ1 _ R1 (Ok.bind k fun w H2 b ρ2 st2 R2 r2 k => ?_)
  have k1 : Ok X.K W Fr B σ (relE X.K) (fun _ _ => True) H2 (onTwo o ρ2 (look ρ2 a) (look ρ2 b)) := Ok.bind k fun _ _ _ _ _ _ _ _ => True.intro
  refine onTwo_ok hb st2 R2 r1 r2 k1 fun u H3 d e s3 R3 dt => ?_
  rw [e] at k
  replace k := Ok.later k s3
  cases d with
  | bl z =>
    refine ⟨z, Dat.bl_inv dt, ?_⟩
    cases z with
    | true =>
      refine iteT (sc Fr B σ H3 ρ2 _ R3 (Ok.bind k fun x H4 c ρ4 st4 R4 r4 k => ?_))
      have r2' : relR X.K σ b ρ2 w H3 := by
        cases b with
        | dat d' => exact Dat.mono s3.mono r2
        | al i => exact r2
      refine onTwo_ok hb' st4 R4 r2' r4 k fun u' H5 d' e5 s5 R5 dt5 => ?_
      rw [e5] at k
      exact k u' H5 s5 R5 dt5
    | false => exact iteF (k (.bl false) H3 Step.refl R3 .bl)
  | _ => exact False.elim k
theorem de_chain {op op' : CmpOp} {r r' : R2} {o o' : D → D → Option D} (ho : OpR X (compareOp op) r) (ho' : OpR X (compareOp op') r') (hb : BinOk X.K r o) (hb' : BinOk X.K r' o') (ha : DR X W a f) (hb1 : DR X W b g) (hc : DR X W c h)
    (hm : lastMarks [op, op'] [b, c] = false := by with_unfolding_all rfl) : DE X W (.Compare a [op, op'] [b, c] pos) (chF o o' f g h) := by
  obtain ⟨ta, pa, sa⟩ := ha.ex
  obtain ⟨tb, pb, sb⟩ := hb1.ex
  obtain ⟨tc, pc, sc⟩ := hc.ex
  exact ⟨_, pe_chain ho ho' pa pb pc hm, sem_chain hb hb' sa sb sc⟩
theorem dt_chain {op op' : CmpOp} {r r' : R2} {o o' : D → D → Option D} (ho : OpR X (compareOp op) r) (ho' : OpR X (compareOp op') r') (hb : BinOk X.K r o) (hb' : BinOk X.K r' o') (ha : DR X W a f) (hb1 : DR X W b g) (hc : DR X W c h)
    (hm : lastMarks [op, op'] [b, c] = false := by with_unfolding_all rfl) : DT X W (.Compare a [op, op'] [b, c] pos) (tstF (chF o o' f g h)) := by
  obtain ⟨ta, pa, sa⟩ := ha.ex
  obtain ⟨tb, pb, sb⟩ := hb1.ex
  obtain ⟨tc, pc, sc⟩ := hc.ex
  exact ⟨_, pt_chain ho ho' pa pb pc hm, sem_tst (sem_chain hb hb' sa sb sc)⟩

/-! ### tests -/
def truD : D → Option Bool
  | .non => some false
  | .bl b => some b
  | .int i => some (i != 0)
  | .str x => if x.length ≤ sizeLine then some ((x.length : Int) != 0) else none
  | .lst xs => some !xs.isEmpty
  | .tup xs => some !xs.isEmpty
  | _ => none
/-- the truth of an operand: an own dict's too -/
def truR (ρ : Ev) : RV → Option Bool
  | .dat d => truD d
  | .al i => match ρ[i]? with
    | some (.ow _ (.l xs)) => some !xs.isEmpty
    | some (.ow _ (.d xs)) => some !xs.isEmpty
    | _ => none
def truF (f : Ev → Out RV) : Ev → Out Bool := fun ρ => (f ρ).bind fun r ρ1 => ofO (truR ρ1 r) ρ1
theorem DatL.isEmpty {vs : List V} {ds : List D} (r : DatL K H vs ds) : vs.isEmpty = ds.isEmpty := by cases r <;> rfl
theorem DatK.isEmpty {vs : List (Key × V)} {ds : List (Key × D)} (r : DatK K H vs ds) : vs.isEmpty = ds.isEmpty := by cases r <;> rfl
theorem tru_dat {k : Bool} (h : Dat K H v d) (e : truD d = some k) : TruV K v H k := by
  unfold truD at e
  split at e
  · cases e; rw [h.non_inv]; exact rfl
  · cases e; rw [h.bl_inv]; exact rfl
  · cases e; rw [h.int_inv]; exact rfl
  · split at e
    · cases e; rw [h.str_inv]; exact ⟨by assumption, rfl⟩
    · cases e
  · cases e
    cases h with
    | lst h r => exact .inl ⟨_, h.sq, by rw [r.isEmpty]⟩
  · cases e
    cases h with
    | tup h r => exact .inr (.inl ⟨_, h.sq, by rw [r.isEmpty]⟩)
  · cases e
theorem dt_tru (ha : DR X W a f) (he : ∀ whole, isTrue a X.env whole = (do let v ← whole; standAt a.pos; holding [v] (truthy v))) : DT X W a (truF f) := by
  obtain ⟨ta, pa, sa⟩ := ha.ex
  refine ⟨_, pt_truth pa he, fun Fr B σ H ρ Q R k => ?_⟩
  refine sa Fr B σ H ρ _ R (Ok.bind k fun v H1 r ρ1 st R1 r1 k => ?_)
  cases e : truR ρ1 r with
  | none => rw [e] at k; exact False.elim k
  | some z =>
    rw [e] at k
    refine ⟨z, ?_, k z H1 Step.refl R1 rfl⟩
    cases r with
    | dat d => exact tru_dat r1 e
    | al i =>
      obtain ⟨h1, rr, o, h2⟩ := r1
      have e' : (match ρ1[i]? with
        | some (AV.ow _ (OD.l xs)) => some !xs.isEmpty
        | some (AV.ow _ (OD.d xs)) => some !xs.isEmpty
        | _ => none) = some z := e
      rw [h2] at e'
      obtain ⟨p, h3, ow⟩ := R1.own h2
      rw [h1] at h3
      cases h3
      cases o with
      | l xs => cases e'; obtain ⟨vs, h4, r⟩ := ow; exact .inl ⟨vs, .inl (.inl h4), by rw [r.isEmpty]⟩
      | d xs => cases e'; obtain ⟨vs, h4, r⟩ := ow; exact .inr (.inr ⟨vs, h4, by rw [r.isEmpty]⟩)
/-- an expression that gives True or False, as a test -/
theorem dt_val {f : Ev → Out D} (ha : DE X W a f) (he : ∀ whole, isTrue a X.env whole = (do let v ← whole; standAt a.pos; holding [v] (truthy v))) : DT X W a (tstF f) := by
  obtain ⟨ta, pa, sa⟩ := ha.ex
  exact ⟨_, pt_val pa he, sem_tst sa⟩

variable {p q : Ev → Out Bool} {rest : List Expr}
theorem DW.dt (h : DW X W a p) : DT X W a p := by
  obtain ⟨t, w, s⟩ := h.ex
  exact ⟨t, w.pt, s⟩
def andF (p q : Ev → Out Bool) : Ev → Out Bool := fun ρ => (p ρ).bind fun b ρ1 => if b = true then q ρ1 else .val false ρ1
def orF (p q : Ev → Out Bool) : Ev → Out Bool := fun ρ => (p ρ).bind fun b ρ1 => if b = true then .val true ρ1 else q ρ1
def notF (p : Ev → Out Bool) : Ev → Out Bool := fun ρ => (p ρ).bind fun b ρ1 => .val (!b) ρ1
theorem dw_and1 (h : DT X W a p) : DW X W (.BoolOp .And [a] pos) p := by
  obtain ⟨t, w, s⟩ := h.ex
  exact ⟨t, pw_and1 w, s⟩
theorem dw_or1 (h : DT X W a p) : DW X W (.BoolOp .Or [a] pos) p := by
  obtain ⟨t, w, s⟩ := h.ex
  exact ⟨t, pw_or1 w, s⟩
theorem dw_and (h : DT X W a p) (h' : DW X W (.BoolOp .And (b :: rest) pos) q) : DW X W (.BoolOp .And (a :: b :: rest) pos) (andF p q) := by
  obtain ⟨t, w, s⟩ := h.ex
  obtain ⟨t', w', s'⟩ := h'.ex
  refine ⟨_, pw_and w w', fun Fr B σ H ρ Q R k => s Fr B σ H ρ _ R (Ok.bind k fun v H1 r ρ1 st R1 r1 k => ?_)⟩
  have e : v = r := r1
  subst e
  cases v with
  | true => exact iteT (s' Fr B σ H1 ρ1 _ R1 k)
  | false => exact iteF (k false H1 Step.refl R1 rfl)
theorem dw_or (h : DT X W a p) (h' : DW X W (.BoolOp .Or (b :: rest) pos) q) : DW X W (.BoolOp .Or (a :: b :: rest) pos) (orF p q) := by
  obtain ⟨t, w, s⟩ := h.ex
  obtain ⟨t', w', s'⟩ := h'.ex
  refine ⟨_, pw_or w w', fun Fr B σ H ρ Q R k => s Fr B σ H ρ _ R (Ok.bind k fun v H1 r ρ1 st R1 r1 k => ?_)⟩
  have e : v = r := r1
  subst e
  cases v with
  | false => exact iteF (s' Fr B σ H1 ρ1 _ R1 k)
  | true => exact iteT (k true H1 Step.refl R1 rfl)
theorem dt_not (h : DT X W a p) : DT X W (.UnaryOp .Not a pos) (notF p) := by
  obtain ⟨t, w, s⟩ := h.ex
  refine ⟨_, pt_not w, fun Fr B σ H ρ Q R k => s Fr B σ H ρ _ R (Ok.bind k fun v H1 r ρ1 st R1 r1 k => ?_)⟩
  have e : v = r := r1
  subst e
  exact k (!v) H1 Step.refl R1 rfl
/-- .. as values, all but the last one True or False -/
def andE (p q : Ev → Out D) : Ev → Out D := fun ρ => (p ρ).bind fun b ρ1 => match b with
  | .bl true => q ρ1
  | .bl false => .val (.bl false) ρ1
  | _ => .bad
def orE (p q : Ev → Out D) : Ev → Out D := fun ρ => (p ρ).bind fun b ρ1 => match b with
  | .bl false => q ρ1
  | .bl true => .val (.bl true) ρ1
  | _ => .bad
def notE (p : Ev → Out D) : Ev → Out D := fun ρ => (p ρ).bind fun b ρ1 => match b with
  | .bl b => .val (.bl (!b)) ρ1
  | _ => .bad
variable {u w : Ev → Out D}
theorem de_one {op} (h : DE X W a u) : DE X W (.BoolOp op [a] pos) u := by
  obtain ⟨t, w, s⟩ := h.ex
  exact ⟨t, pe_one w, s⟩
theorem de_and (h : DE X W a u) (h' : DE X W (.BoolOp .And (b :: rest) pos) w) : DE X W (.BoolOp .And (a :: b :: rest) pos) (andE u w) := by
  obtain ⟨t, e, s⟩ := h.ex
  obtain ⟨t', e', s'⟩ := h'.ex
  refine ⟨_, pe_and e e', fun Fr B σ H ρ Q R k => s Fr B σ H ρ _ R (Ok.bind k fun v H1 r ρ1 st R1 r1 k => ?_)⟩
  cases r with
  | bl z =>
    refine ⟨z, Dat.bl_inv r1, ?_⟩
    cases z with
    | true => exact iteT (s' Fr B σ H1 ρ1 _ R1 k)
    | false => exact iteF (k _ H1 Step.refl R1 .bl)
  | _ => exact False.elim k
theorem de_or (h : DE X W a u) (h' : DE X W (.BoolOp .Or (b :: rest) pos) w) : DE X W (.BoolOp .Or (a :: b :: rest) pos) (orE u w) := by
  obtain ⟨t, e, s⟩ := h.ex
  obtain ⟨t', e', s'⟩ := h'.ex
  refine ⟨_, pe_or e e', fun Fr B σ H ρ Q R k => s Fr B σ H ρ _ R (Ok.bind k fun v H1 r ρ1 st R1 r1 k => ?_)⟩
  cases r with
  | bl z =>
    refine ⟨z, Dat.bl_inv r1, ?_⟩
    cases z with
    | false => exact iteF (s' Fr B σ H1 ρ1 _ R1 k)
    | true => exact iteT (k _ H1 Step.refl R1 .bl)
  | _ => exact False.elim k
theorem de_not (h : DE X W a u) : DE X W (.UnaryOp .Not a pos) (notE u) := by
  obtain ⟨t, e, s⟩ := h.ex
  refine ⟨_, pe_not e, fun Fr B σ H ρ Q R k => s Fr B σ H ρ _ R (Ok.bind k fun v H1 r ρ1 st R1 r1 k => ?_)⟩
  cases r with
  | bl z => exact ⟨z, Dat.bl_inv r1, k _ H1 Step.refl R1 .bl⟩
  | _ => exact False.elim k
def ifE (p : Ev → Out Bool) (u w : Ev → Out D) : Ev → Out D := fun ρ => (p ρ).bind fun b ρ1 => if b = true then u ρ1 else w ρ1
theorem de_if (h : DT X W c p) (ha : DE X W a u) (hb : DE X W b w) : DE X W (.IfExp c a b pos) (ifE p u w) := by
  obtain ⟨t, e, s⟩ := h.ex
  obtain ⟨t1, e1, s1⟩ := ha.ex
  obtain ⟨t2, e2, s2⟩ := hb.ex
  refine ⟨_, pe_ifExp e e1 e2, fun Fr B σ H ρ Q R k => s Fr B σ H ρ _ R (Ok.bind k fun v H1 r ρ1 st R1 r1 k => ?_)⟩
  have z : v = r := r1
  subst z
  cases v with
  | true => exact iteT (s1 Fr B σ H1 ρ1 _ R1 k)
  | false => exact iteF (s2 Fr B σ H1 ρ1 _ R1 k)
/-- -a -/
def negE (u : Ev → Out D) : Ev → Out D := fun ρ => (u ρ).bind fun d ρ1 => match d with
  | .int i => .val (.int (-i)) ρ1
  | _ => .bad
theorem de_neg (h : DE X W a u) : DE X W (.UnaryOp .USub a pos) (negE u) := by
  obtain ⟨t, e, s⟩ := h.ex
  refine ⟨_, pe_un un_neg e, fun Fr B σ H ρ Q R k => s Fr B σ H ρ _ R (Ok.bind k fun v H1 r ρ1 st R1 r1 k => ?_)⟩
  cases r with
  | int i => exact ⟨i, Dat.int_inv r1, k _ H1 Step.refl R1 .int⟩
  | _ => exact False.elim k
end
end DL
set_option Elab.async false
set_option linter.all false
set_option maxRecDepth 100000
set_option maxHeartbeats 4000000
namespace DLS
open PySem PySem.Spec PyProof.Rows L2

def txt (e : Int × Value) : Str := match e.2 with
  | .str x _ => x
  | _ => Str.empty
def Tx (w : World) (e : Int × Value) : Prop := ∃ x t, e.2 = Value.str x t ∧ e.1 = hashStr w x
/-- the set of texts at a: those in L, each once; its table can be walked -/
def TSet (w : World) (h : Heap) (a : Addr) (L : List Str) : Prop :=
  ∃ o es ep t, h.get? a = some o ∧ o.ExactSet ∧ o.data = .set es ep t ∧ (∀ e ∈ es.toList, Tx w e) ∧ (es.toList.map txt).Nodup ∧ (∀ x, x ∈ L ↔ x ∈ es.toList.map txt) ∧
    es.size < scanBound ∧ t.fits es.size = true ∧ Ris t.place.toList ∧ (w.params.followText "set-order" = true ∨ t.led = true) ∧ es.size ≤ L.length
section
variable {P : Program} {w : World} {h h' : Heap} {a : Addr} {L : List Str}
theorem TSet.at (T : TSet w h a L) (k : ∀ o, h.get? a = some o → h'.get? a = some o) : TSet w h' a L := let ⟨o, es, ep, t, ho, r⟩ := T; ⟨o, es, ep, t, k o ho, r⟩
theorem tx_elems {l : List (Int × Value)} (g : ∀ e ∈ l, Tx w e) : ElemsOf (PySem.strKind P w) l := by
  intro e he
  obtain ⟨x, t, h1, h2⟩ := g e he
  refine ⟨⟨x, ?_, h2⟩, ?_⟩
  · rw [h1]; exact strKind_is P w x t
  · rw [h1] <;> rfl
theorem tx_is {e : Int × Value} (g : Tx w e) (x : Str) : (PySem.strKind P w).is x e.2 = true ↔ txt e = x := by
  obtain ⟨y, t, h1, _⟩ := g
  unfold txt
  rw [h1]
  constructor
  · intro q
    obtain ⟨u, e⟩ := Value.isStrOf_shape (x := x) (v := Value.str y t) q
    injection e
  · rintro rfl
    exact strKind_is P w _ _
theorem tx_mem {l : List (Int × Value)} (g : ∀ e ∈ l, Tx w e) (x : Str) : x ∈ l.map txt ↔ ∃ e ∈ l, (PySem.strKind P w).is x e.2 = true :=
  List.mem_map.trans ⟨fun ⟨e, he, q⟩ => ⟨e, he, (tx_is (g e he) x).2 q⟩, fun ⟨e, he, q⟩ => ⟨e, he, (tx_is (g e he) x).1 q⟩⟩
end
section
variable {P : Program} {w : World} {A : Around} {E : Value → Shared → Prop} {s : Shared} {a : Addr} {L : List Str}
theorem tset_tail {g : Bool → Sem Unit} (hg : ∀ (b : Bool) (s₁ : Shared) (Q' : Unit → Shared → Prop), Q' () s₁ → wpAny (model P w) A (g b) Q' E s₁)
    {o : Obj} {es : Array (Int × Value)} {ep : Nat} {t : SetTable} (ho : s.heap.get? a = some o) (hex : o.ExactSet) (hd : o.data = .set es ep t)
    {es1 : Array (Int × Value)} {t2 : SetTable} (g1 : ∀ e ∈ es1.toList, Tx w e) (nd1 : (es1.toList.map txt).Nodup) (m1 : ∀ x, x ∈ L ↔ x ∈ es1.toList.map txt) (ln : es1.size ≤ L.length)
    (hb1 : es1.size < scanBound) (hf2 : t2.fits es1.size = true) (hr : Ris t2.place.toList) (hl : w.params.followText "set-order" = true ∨ t2.led = true) {wd : Bool} {R : Option Bool → Shared → Prop}
    (hR : ∀ h', Heap.SameBut a s.heap h' → TSet w h' a L → R (some true) { s with heap := h' }) :
    wpAny (model P w) A (do
        storeSet a es1 t2
        if (!wd && t2.tooFull) = true then do
            g (relayAll t2 es1 (SetTable.grown es1.size)).2.2
            storeSet a (relayAll t2 es1 (SetTable.grown es1.size)).1 (relayAll t2 es1 (SetTable.grown es1.size)).2.1
            pure (some true)
          else pure (some true)) R E s := by
  refine wpAny_bind (wpAny_storeSet_of ho hd ?_ (fits_of_scanBound hb1))
  have at1 := store_at (es' := es1) (t' := t2) ho hd
  have b1 := Heap.SameBut.update s.heap a (Obj.putSet es1 t2)
  by_cases c : (!wd && t2.tooFull) = true
  · rw [if_pos c]
    have q1 := relayAll_perm t2 es1 (SetTable.grown es1.size)
    have q2 := relayAll_fits t2 es1 (SetTable.grown es1.size)
    have q3 := relayAll_ris t2 es1 (SetTable.grown es1.size)
    have q4 := relayAll_led t2 es1 (SetTable.grown es1.size)
    generalize relayAll t2 es1 (SetTable.grown es1.size) = Z at q1 q2 q3 q4 ⊢
    obtain ⟨es2, t3, gv⟩ := Z
    dsimp only at q1 q2 q3 q4 ⊢
    have sz : es2.size = es1.size := by
      have := q1.length_eq
      simpa using this
    have hb2 : es2.size < scanBound := by omega
    refine wpAny_bind (hg _ _ _ (wpAny_bind (wpAny_storeSet_of at1 rfl ?_ (fits_of_scanBound hb2))))
    refine wpAny_pure (hR _ (b1.trans (Heap.SameBut.update _ a _)) ⟨_, es2, _, t3, store_at (es' := es2) (t' := t3) at1 rfl, hex, rfl, fun e he => g1 e (q1.mem_iff.mp he), (q1.map txt).nodup_iff.mpr nd1,
      fun x => (m1 x).trans (q1.map txt).mem_iff.symm, hb2, ?_, q3, ?_, by omega⟩)
    · rw [sz]; rw [sz] at q2; exact q2
    · exact hl.imp id fun z => by rw [q4]; exact z
  · rw [if_neg c]
    exact wpAny_pure (hR _ b1 ⟨_, es1, _, t2, at1, hex, rfl, g1, nd1, m1, hb1, hf2, hr, hl, ln⟩)
theorem tset_add {x : Str} {tk : Tok} {Q : Bool → Shared → Prop} (T : TSet w s.heap a L) (room : L.length + 1 < scanBound)
    (hQ : ∀ b h', Heap.SameBut a s.heap h' → TSet w h' a (L ++ [x]) → Q b { s with heap := h' }) :
    wpAny (model P w) A (setAddHashed a (.str x tk) ((PySem.strKind P w).hash x)) Q E s := by
  obtain ⟨o, es, ep, t, ho, hex, hd, g, nd, hm, hb, hf, hr, hl, ln⟩ := T
  have ky : (PySem.strKind P w).is x (.str x tk) = true := strKind_is P w x tk
  have sc : (Value.str x tk).scannable = true := rfl
  have el : ElemsOf (PySem.strKind P w) es.toList := tx_elems g
  unfold setAddHashed setAddHashedIn
  refine wpAny_holding (wpAny_bind (wpAny_setState_of ho hd hf ?_))
  dsimp only
  rw [byScan_of sc hb el]
  simp only [↓reduceIte]
  unfold setAddByScan
  refine wpAny_bind (wpAny_bind (wpAny_rule (wpAny_bind (wpAny_setScan_of ky ho hd hf el ?_))))
  cases q : List.findIdx? (fun e => (PySem.strKind P w).is x e.2) es.toList with
  | some j =>
    dsimp only
    obtain ⟨hj, pj, _⟩ := List.findIdx?_eq_some_iff_getElem.mp q
    have hx : x ∈ es.toList.map txt := (tx_mem (P := P) g x).2 ⟨_, List.getElem_mem hj, pj⟩
    refine wpAny_pure (wpAny_pure (hQ _ s.heap (Heap.SameBut.refl a s.heap) ⟨o, es, ep, t, ho, hex, hd, g, nd, fun y => ?_, hb, hf, hr, hl, ?_⟩))
    · rw [List.mem_append, List.mem_singleton, hm y]
      exact ⟨fun z => z.elim id fun e => by rw [e]; exact hx, .inl⟩
    · rw [List.length_append]; omega
  | none =>
    dsimp only
    have hnx : x ∉ es.toList.map txt := fun z => by
      obtain ⟨e, he, p⟩ := (tx_mem (P := P) g x).1 z
      have c := List.findIdx?_eq_none_iff.mp q e he
      rw [p] at c; cases c
    have gw : ∀ (b : Bool) {s₁ : Shared} {Q' : Unit → Shared → Prop}, Q' () s₁ → wpAny (model P w) A (match b with | true => rule "set.scan.the-table-gave-way" | false => pure ()) Q' E s₁ :=
      fun b s₁ Q' k => by
        cases b
        · exact wpAny_pure k
        · exact wpAny_rule k
    have p1 := layNew_perm t es ((PySem.strKind P w).hash x) (.str x tk)
    have p2 := layNew_fits t es ((PySem.strKind P w).hash x) (.str x tk)
    have p3 := layNew_ris t es ((PySem.strKind P w).hash x) (.str x tk) hr
    have p4 := layNew_led t es ((PySem.strKind P w).hash x) (.str x tk)
    generalize layNew t es ((PySem.strKind P w).hash x) (.str x tk) = Z at p1 p2 p3 p4 ⊢
    obtain ⟨es1, t1, wd, gv⟩ := Z
    dsimp only at p1 p2 p3 p4 ⊢
    rw [Array.toList_push] at p1
    have pc : es1.toList.Perm (((PySem.strKind P w).hash x, Value.str x tk) :: es.toList) := p1.trans (List.perm_append_singleton _ _)
    have pk : (es1.toList.map txt).Perm (x :: es.toList.map txt) := pc.map txt
    have g1 : ∀ e ∈ es1.toList, Tx w e := fun e he => by
      rcases List.mem_cons.mp (pc.mem_iff.mp he) with z | z
      · rw [z]; exact ⟨x, tk, rfl, rfl⟩
      · exact g e z
    have nd1 : (es1.toList.map txt).Nodup := pk.nodup_iff.mpr (List.nodup_cons.mpr ⟨hnx, nd⟩)
    have m1 : ∀ y, y ∈ L ++ [x] ↔ y ∈ es1.toList.map txt := fun y => by
      rw [List.mem_append, List.mem_singleton, hm y, pk.mem_iff, List.mem_cons]
      exact Or.comm
    have sz : es1.size = es.size + 1 := by
      have := pc.length_eq
      simpa using this
    have hb1 : es1.size < scanBound := by omega
    have led1 : w.params.followText "set-order" = true ∨ t1.led = true := hl.imp id fun z => by rw [p4]; exact z
    have ln1 : es1.size ≤ (L ++ [x]).length := by rw [List.length_append]; show es1.size ≤ L.length + 1; omega
    refine wpAny_bind (gw _ ?_)
    split
    · refine wpAny_bind ?_
      rw [hashByValue_scannable 8 sc]
      refine wpAny_pure (tset_tail (L := L ++ [x]) ?_ ho hex hd g1 nd1 m1 ln1 hb1 ?_ ?_ ?_ ?_)
      · intro b s₁ Q' k
        cases b
        · exact wpAny_pure k
        · exact wpAny_rule k
      · split
        · exact p2
        · exact SetTable.fits_plain_off p2
      · split <;> exact p3
      · split <;> exact led1
      · intro h' sb r
        exact wpAny_pure (hQ _ h' sb r)
    · refine wpAny_bind (wpAny_pure ?_)
      simp only [↓reduceIte]
      refine tset_tail (L := L ++ [x]) ?_ ho hex hd g1 nd1 m1 ln1 hb1 p2 p3 led1 ?_
      · intro b s₁ Q' k
        cases b
        · exact wpAny_pure k
        · exact wpAny_rule k
      · intro h' sb r
        exact wpAny_pure (hQ _ h' sb r)
end

section
variable {prog : Program} {w : World} {A : Around} {R : Result → Shared → Prop} {I : Addr} {fp wr : List Addr} {G : Array GenState → Array GenState → Prop} {n : Nat} {P : Nat → Value → Prop} {St : Nat → Shared → Prop}
/-- a set takes what an iterator of texts gives -/
theorem tset_loop (W : WalksS prog w A.in1 I fp wr G n P St) (S : Addr) (hSf : S ∉ fp) (xs : List Str) (hsz : xs.length = n) (hn : n < scanBound) (hval : ∀ i v, P i v → ∃ t, v = .str (xs.getD i Str.empty) t) :
    ∀ (k i : Nat) (s : Shared), n - i = k → i ≤ n → St i s → TSet w s.heap S (xs.take i) → (∀ s', Moved (S :: wr) G s s' → TSet w s'.heap S xs → R (.ok (.ret .none)) s') →
      codeAny (model prog w) A (.builtin "set.update.loop" ⟨[.ref S, .ref I], []⟩) R s := by
  have hSw : S ∉ wr := fun h => hSf (W.sub _ h)
  have hsub : ∀ b ∈ wr, b ∈ S :: wr := fun b hb => List.mem_cons_of_mem _ hb
  intro k
  induction k with
  | zero =>
    intro i s hk hi hst hS hR
    have hin : i = n := by omega
    subst hin
    refine codeAny_builtin PyProof.Rows.F.entry_set_update_loop ?_
    rw [Around.under_plainId PyProof.Rows.F.plain_set_update_loop _]
    show wpAny _ A.in1 (pyNext (.ref I) >>= _) _ _ s
    refine wpAny_bind (W.done s _ _ hst fun s' hm => ?_)
    show wpAny _ A.in1 (ret Value.none) _ _ s'
    rw [← hsz, List.take_length] at hS
    exact wpAny_pure (hR s' (hm.mono hsub) (hS.at fun o ho => hm.heap S o hSw ho))
  | succ k ih =>
    intro i s hk hi hst hS hR
    have hlt : i < n := by omega
    refine codeAny_builtin PyProof.Rows.F.entry_set_update_loop ?_
    rw [Around.under_plainId PyProof.Rows.F.plain_set_update_loop _]
    show wpAny _ A.in1 (pyNext (.ref I) >>= _) _ _ s
    refine wpAny_bind (W.item i s _ _ hlt hst fun v s' hP hst' hm => ?_)
    obtain ⟨t, rfl⟩ := hval i v hP
    have hS' : TSet w s'.heap S (xs.take i) := hS.at fun o ho => hm.heap S o hSw ho
    show wpAny _ A.in1 (holding [Value.str (xs.getD i Str.empty) t] (setAdd S (.str (xs.getD i Str.empty) t)) >>= _) _ _ s'
    refine wpAny_bind (wpAny_holding ?_)
    unfold setAdd
    refine wpAny_holding (wpAny_bind ((PySem.strKind prog w).pyHash (k := xs.getD i Str.empty) (strKind_is _ _ _ _) ?_))
    refine tset_add (P := prog) (s := { s' with toks := s'.toks + 1 }) hS' (by rw [List.length_take]; omega) fun b h' hsb hS2 => ?_
    have hS3 : TSet w h' S (xs.take (i + 1)) := by
      have e : xs.take (i + 1) = xs.take i ++ [xs.getD i Str.empty] := by
        have hi' : i < xs.length := by omega
        rw [List.take_add_one, List.getElem?_eq_getElem hi', List.getD_eq_getElem?_getD, List.getElem?_eq_getElem hi'] <;> rfl
      rw [e]; exact hS2
    refine wpAny_pure ⟨plainId_quiet PyProof.Rows.F.plain_set_update_loop _, ih (i + 1) _ (by omega) hlt (W.frame _ s' _ _ hst' (Nat.le_succ _) fun b hb o e => ?_) hS3 fun s'' hm'' hS'' => ?_⟩
    · rw [hsb.2 b (fun h : b = S => hSf (by rw [← h]; exact hb))]; exact e
    · refine hR s'' (Moved.trans W.gtrans ((hm.mono hsub).then_heap (Nat.le_succ _) fun b o hb e => ?_) hm'') hS''
      rw [hsb.2 b (fun h : b = S => hb (by rw [h]; exact List.mem_cons_self))]; exact e
end
section
variable {prog : Program} {w : World} {A : Around} {E : Value → Shared → Prop} {s : Shared}
/-- set(..) makes an empty set first; whether its places are led is the world's -/
theorem code_set_new_at (a : Value) {Q₁ : Value → Shared → Prop}
    (h : Q₁ (.ref s.heap.objs.size) { s with heap := s.heap.push { cls := .type "set", dict := none, data := .set #[] 0 (.fresh 0 0 (!w.params.followText "set-order")) } }) :
    codeAny (model prog w) A (.call (.builtin "set.__new__") ⟨[.type "set", a], []⟩) (wants Q₁ E) s := by
  refine codeAny_of_tree ?_
  show wpAny _ A.in1 (do checkBuiltinCall "set.__new__" ⟨[.type "set", a], []⟩; again (.builtin "set.__new__" ⟨[.type "set", a], []⟩)) _ _ s
  refine wpAny_bind (wpAny_of_eq (F.newCall_set_1 a) (wpAny_pure ⟨plainId_quiet F.plain_set_new _, codeAny_builtin F.entry_set_new ?_⟩))
  rw [Around.under_plainId F.plain_set_new _]
  unfold Builtin.«set.__new__» Builtin.Frozenset.newClass
  have own := sub_set_self
  obtain ⟨hp, g, d, tk, os⟩ := s
  dsimp only
  wp_walk
  refine wpAny_askSetting (wpAny_pure ?_)
  dsimp only
  simp only [newObj]
  exact wpAny_bind (wpAny_alloc (wpAny_pure (wpAny_pure h)))
theorem tset_empty {h : Heap} (w : World) {hp : Heap} {a : Addr} {b : Bool} (e : hp.get? a = some { cls := .type "set", dict := none, data := .set #[] 0 (.fresh 0 0 b) }) (l : w.params.followText "set-order" = true ∨ b = true) : TSet w hp a [] :=
  ⟨_, #[], 0, _, e, ⟨rfl, rfl, rfl⟩, rfl, (fun e he => by simp at he), (by simp), (fun k => by simp), (by decide), (by rfl), List.Pairwise.nil, l, Nat.le_refl _⟩
theorem led_or (w : World) : w.params.followText "set-order" = true ∨ (!w.params.followText "set-order") = true := by
  cases w.params.followText "set-order"
  · exact .inr rfl
  · exact .inl rfl
/-- set(xs), xs a list of texts -/
theorem call_set_texts {l : Addr} {items : Array Value} {xs : List Str} {Q : Value → Shared → Prop} (hh : A.handled = none) (hl : s.heap.IsList l items) (hi : PyProof.Rows.StrsAre items.toList xs) (hn : xs.length < scanBound)
    (h : ∀ (h' : Heap) (tk : Nat), TSet w h' s.heap.objs.size xs → (∀ b o, b < s.heap.objs.size → s.heap.get? b = some o → h'.get? b = some o) → Q (.ref s.heap.objs.size) { s with heap := h', toks := tk }) :
    wpAny (model prog w) A (call (.type "set") [.ref l]) Q E s := by
  obtain ⟨c, tl, hmro⟩ := PySem.F.called_set.mro
  have f1 := PySem.F.called_set.made
  have f2 := PySem.F.called_set.sub
  refine wpAny_call (codeAny_of_tree ?_)
  show wpAny _ _ (callAny (.type "set") _) _ _ _
  refine wpAny_pure ⟨Code.quiet_builtin _ (by decide +kernel), codeAny_builtin PySem.F.entry_type_call ?_⟩
  rw [Around.under_plain (weight_type_call_type "set" [.ref l] []) rfl]
  have f3 := PySem.F.called_set.notType
  have f4 := PySem.F.called_set.canCreate
  have f5 := PySem.F.typeCall_set_1 (.ref l)
  repeat (any_goals (first | assumption | wp_step))
  refine codeAny_mono (code_set_new_at (.ref l) (E := E) (Q₁ := fun obj s₁ => obj = .ref s.heap.objs.size ∧ s₁ = { s with heap := s.heap.push { cls := .type "set", dict := none, data := .set #[] 0 (.fresh 0 0 (!w.params.followText "set-order")) } }) ⟨rfl, rfl⟩) fun r s₁ hr => ?_
  generalize hled : (!w.params.followText "set-order") = led at hr
  have hor : w.params.followText "set-order" = true ∨ led = true := hled ▸ led_or w
  cases r with
  | error e => exact hr
  | ok fl =>
    cases fl with
    | ret obj =>
      obtain ⟨rfl, rfl⟩ := hr
      have hS : (s.heap.push { cls := .type "set", dict := none, data := .set #[] 0 (.fresh 0 0 led) }).get? s.heap.objs.size = some { cls := .type "set", dict := none, data := .set #[] 0 (.fresh 0 0 led) } := Heap.get?_push_size _ rfl
      have hT : Shared.TypeIs { s with heap := s.heap.push { cls := .type "set", dict := none, data := .set #[] 0 (.fresh 0 0 led) } } (.ref s.heap.objs.size) "set" := ⟨_, hS, rfl⟩
      have f6 := PySem.F.called_set.init.lookup
      have f7 := PySem.F.called_set.init.bind (.ref s.heap.objs.size)
      repeat (any_goals (first | assumption | wp_step))
      refine codeAny_mono (codeAny_call_builtin (R := wants (fun r s₂ => r = .none ∧ ∃ h' tk, s₂ = { s with heap := h', toks := tk } ∧ TSet w h' s.heap.objs.size xs ∧
          (∀ b o, b < s.heap.objs.size → s.heap.get? b = some o → h'.get? b = some o)) E) PySem.F.called_set.init.plain PySem.F.entry_set_init (check_set_init_1 hT ?_)) fun r₂ s₂ hr₂ => ?_
      · obtain ⟨ol, hol, hcl, nl, hdl⟩ := hl
        obtain ⟨ocls, odict, odata, oslots⟩ := ol
        simp only at hcl hdl
        subst hcl; subst hdl
        have hol' : (s.heap.push { cls := .type "set", dict := none, data := .set #[] 0 (.fresh 0 0 led) }).get? l = some { cls := .type "list", dict := odict, data := .seq items nl, slots := oslots } := Heap.get?_push_of_some _ hol
        have g1 := PySem.F.sub_list_set
        have g2 := PySem.F.sub_list_frozenset
        have g3 : (Value.type "list" == Value.type "dict") = false := by decide
        have hl1 : (s.heap.push { cls := .type "set", dict := none, data := .set #[] 0 (.fresh 0 0 led) }).IsList l items := ⟨_, hol', rfl, nl, rfl⟩
        unfold Builtin.«set.__init__» noKeywords Builtin.Frozenset.updateFrom
        generalize hPI : pyIter = PI
        wp_walk
        subst hPI
        refine wpAny_pyIter_list hl1 ?_
        refine wpAny_bind (wpAny_runValue ?_)
        have hlS : l < s.heap.objs.size := Heap.lt_size hol
        have hh3 : A.in1.in1.in1.handled = none := by simp [hh]
        have ne1 : l ≠ (s.heap.push { cls := .type "set", dict := none, data := .set #[] 0 (.fresh 0 0 led) }).objs.size := by
          rw [Heap.size_push]; exact Nat.ne_of_lt (Nat.lt_succ_of_lt hlS)
        have nf : s.heap.objs.size ∉ [(s.heap.push { cls := .type "set", dict := none, data := .set #[] 0 (.fresh 0 0 led) }).objs.size, l] := by
          rw [Heap.size_push]; simp only [List.mem_cons, List.mem_singleton, List.not_mem_nil, or_false, not_or]
          exact ⟨Nat.ne_of_lt (Nat.lt_succ_self _), Nat.ne_of_gt hlS⟩
        have sz : xs.length = items.size := by rw [← StrsAre.len_eq hi, Array.length_toList]
        have vl : ∀ (i : Nat) (v : Value), items[i]? = some v → ∃ t, v = .str (xs.getD i Str.empty) t := fun i v hv => SS.strs_at hi i v (by rw [Array.getElem?_toList]; exact hv)
        refine tset_loop ((Walks.list hh3 _ l ne1 items).toS) s.heap.objs.size nf xs sz (by rw [← sz]; exact hn) vl (items.size - 0) 0 _ (by omega) (Nat.zero_le _) ⟨⟨_, Heap.get?_push_size _ rfl, rfl, rfl⟩, (hl1.push _)⟩ ?hS0 ?hR
        case hS0 =>
          rw [List.take_zero]
          exact tset_empty (h := s.heap) w (Heap.get?_push_of_some _ hS) hor
        case hR =>
          intro s' hm hS'
          obtain ⟨h', g', d', tk', os'⟩ := s'
          have eg : g' = s.gens := hm.gens
          have ed : d' = s.drawn := hm.drawn
          have eo : os' = s.os := hm.os
          subst eg; subst ed; subst eo
          show wpAny _ _ _ _ _ _
          refine wpAny_pure ?_
          show wpAny _ _ (ret Value.none) _ _ _
          refine wpAny_pure ⟨rfl, h', tk', rfl, hS', fun b o hb e => ?_⟩
          have hb1 : b ≠ s.heap.objs.size := Nat.ne_of_lt hb
          have hb2 : b ≠ (s.heap.push { cls := .type "set", dict := none, data := .set #[] 0 (.fresh 0 0 led) }).objs.size := by
            rw [Heap.size_push]; exact Nat.ne_of_lt (Nat.lt_succ_of_lt hb)
          exact hm.heap b o (by simp only [List.mem_cons, List.mem_singleton, List.not_mem_nil, or_false, not_or]; exact ⟨hb1, hb2⟩) (Heap.get?_push_of_some _ (Heap.get?_push_of_some _ e))
      · cases r₂ with
        | error e => exact hr₂
        | ok fl₂ =>
          cases fl₂ with
          | ret r =>
            obtain ⟨rfl, h', tk, rfl, hS', hk'⟩ := hr₂
            repeat (any_goals (first | assumption | wp_step))
            exact h _ _ hS' hk'
          | _ => exact hr₂.elim
    | _ => exact hr.elim
end
end DLS
set_option Elab.async false
set_option linter.all false
set_option maxRecDepth 100000
set_option maxHeartbeats 4000000
namespace DLS
open PySem PySem.Spec PyProof.Rows L2

/-! ### the order of texts -/
def leS (x y : Str) : Bool := decide (x.cps.toList ≤ y.cps.toList)
theorem leS_trans (a b c : Str) (h1 : leS a b = true) (h2 : leS b c = true) : leS a c = true := by
  unfold leS at *
  exact decide_eq_true (List.le_trans (of_decide_eq_true h1) (of_decide_eq_true h2))
theorem leS_total (a b : Str) : (leS a b || leS b a) = true := by
  unfold leS
  rcases List.le_total a.cps.toList b.cps.toList with h | h
  · rw [decide_eq_true h]; rfl
  · rw [decide_eq_true h, Bool.or_true]
theorem leS_antisymm {a b : Str} (h1 : leS a b = true) (h2 : leS b a = true) : a = b := by
  unfold leS at *
  have e := List.le_antisymm (of_decide_eq_true h1) (of_decide_eq_true h2)
  obtain ⟨x⟩ := a
  obtain ⟨y⟩ := b
  have e' : x = y := by simpa using congrArg List.toArray e
  rw [e']
theorem leS_refl (a : Str) : leS a a = true := by
  have := leS_total a a
  rwa [Bool.or_self] at this
def srt (xs : List Str) : List Str := xs.mergeSort leS
theorem srt_perm (xs : List Str) : (srt xs).Perm xs := List.mergeSort_perm xs leS
theorem srt_up (xs : List Str) : (srt xs).Pairwise (fun a b => leS a b = true) := List.pairwise_mergeSort leS_trans leS_total xs
theorem srt_unique {xs ys : List Str} (p : ys.Perm xs) (u : ys.Pairwise (fun a b => leS a b = true)) : ys = srt xs :=
  List.Perm.eq_of_pairwise (fun _ _ _ _ h1 h2 => leS_antisymm h1 h2) u (srt_up xs) (p.trans (srt_perm xs).symm)
theorem not_lt_leS {x p : Str} (h : (!ltCps x.cps.toList p.cps.toList) = true) : leS p x = true := by
  rw [ltCps_eq] at h
  unfold leS
  refine decide_eq_true ?_
  have h' : ¬ x.cps.toList < p.cps.toList := by simpa using h
  exact List.not_lt.mp h'
theorem rising_up : ∀ (r : List Str) (x : Str), risingS x r = true → (x :: r).Pairwise (fun a b => leS a b = true)
  | [], x, _ => by simp
  | y :: r, x, h => by
    unfold risingS at h
    rw [Bool.and_eq_true] at h
    have ih := rising_up r y h.2
    have h1 := not_lt_leS h.1
    refine List.pairwise_cons.mpr ⟨fun z hz => ?_, ih⟩
    rcases List.mem_cons.mp hz with e | hz
    · rw [e]; exact h1
    · exact leS_trans x y z h1 ((List.pairwise_cons.mp ih).1 z hz)
theorem sortedS_up {xs : List Str} (h : sortedS xs = true) : xs.Pairwise (fun a b => leS a b = true) := by
  cases xs with
  | nil => exact List.Pairwise.nil
  | cons x r => exact rising_up r x h
/-- each once, the last ones kept -/
def dd : List Str → List Str
  | [] => []
  | x :: r => if x ∈ r then dd r else x :: dd r
theorem dd_mem : ∀ (xs : List Str) (x : Str), x ∈ dd xs ↔ x ∈ xs
  | [], _ => Iff.rfl
  | y :: r, x => by
    unfold dd
    by_cases h : y ∈ r
    · rw [if_pos h, dd_mem r x, List.mem_cons]
      exact ⟨.inr, fun z => z.elim (fun e => by rw [e]; exact h) id⟩
    · rw [if_neg h, List.mem_cons, List.mem_cons, dd_mem r x]
theorem dd_nodup : ∀ xs : List Str, (dd xs).Nodup
  | [] => List.nodup_nil
  | y :: r => by
    unfold dd
    by_cases h : y ∈ r
    · rw [if_pos h]; exact dd_nodup r
    · rw [if_neg h]; exact List.nodup_cons.mpr ⟨fun z => h ((dd_mem r y).1 z), dd_nodup r⟩
def srtSet (xs : List Str) : List Str := srt (dd xs)
theorem srtSet_unique {xs ys : List Str} (nd : ys.Nodup) (m : ∀ x, x ∈ ys ↔ x ∈ xs) (u : ys.Pairwise (fun a b => leS a b = true)) : ys = srtSet xs :=
  srt_unique ((List.perm_ext_iff_of_nodup nd (dd_nodup xs)).mpr fun x => (m x).trans (dd_mem xs x).symm) u

section
variable {X : Cx}
/-- sorted(xs), xs a list or a tuple of texts -/
def rSortT (K : PySem.W.Frag) : List V → Hp → VK → Prop := fun vs H Q => ∃ (a : Addr) (xs : List Str), vs = [V.ref a] ∧ SqL K H a (xs.map V.str) ∧ ∀ p, H p = none → Q (.ref p) (upd H p (.lst ((srt xs).map V.str)))
theorem cr_sortT : CallR X (.builtin "sorted") (rSortT X.K) := by
  intro pins s σ H vs us Q I r h
  obtain ⟨a, xs, rfl, hs, q⟩ := h
  obtain ⟨its, rv, hl, hz⟩ := I.list hs
  rw [Vals.ref1 r]
  have hlen0 := rv.length
  refine PyProof.Rows.sorted_strsAny hl.isList rv.strs (by rw [← hlen0]; exact hz) fun out ys h1 h2 h3 => ?_
  have e := srt_unique h2 (sortedS_up h3)
  subst e
  obtain ⟨ep, he'⟩ := PyProof.Rows.sortedAll_at s.heap its out
  have hlen : ((srt xs).map V.str).length ≤ sizeLine := by rw [List.length_map, h2.length_eq]; rw [List.length_map] at hz; exact hz
  exact ⟨.ref _, upd H (s.heap.objs.size + 1) (.lst ((srt xs).map V.str)), I.laid (t' := s.toks) (fun _ _ => PyProof.Rows.sortedAll_old) (Nat.le_succ _) ⟨hlen, out.toList, ep, vals_of_strs h1, he'⟩, rfl, q _ (I.hok.fresh (Nat.le_succ _))⟩
end

section
variable {P : Program} {w : World} {A : Around} {E : Value → Shared → Prop} {s : Shared} {a : Addr} {L : List Str}
theorem texts_of (w : World) : ∀ (l : List Value), (∀ v ∈ l, ∃ x t, v = Value.str x t) → ∃ xs, StrsAre l xs ∧ xs.length = l.length
  | [], _ => ⟨[], .nil, rfl⟩
  | v :: l, h => by
    obtain ⟨x, t, rfl⟩ := h v List.mem_cons_self
    obtain ⟨xs, h1, h2⟩ := texts_of w l fun u hu => h u (List.mem_cons_of_mem _ hu)
    exact ⟨x :: xs, .cons x t h1, congrArg Nat.succ h2⟩
theorem strsAre_eq_map {w : World} : ∀ {l : List (Int × Value)}, (∀ e ∈ l, Tx w e) → StrsAre (l.map (·.2)) (l.map txt)
  | [], _ => .nil
  | e :: l, g => by
    obtain ⟨x, t, h1, _⟩ := g e List.mem_cons_self
    have e1 : txt e = x := by unfold txt; rw [h1]
    show StrsAre (e.2 :: l.map (·.2)) (txt e :: l.map txt)
    rw [h1, e1]
    exact .cons x t (strsAre_eq_map fun z hz => g z (List.mem_cons_of_mem _ hz))
theorem strsAre_inj : ∀ {l : List Value} {xs ys : List Str}, StrsAre l xs → StrsAre l ys → xs = ys
  | _, _, _, .nil, .nil => rfl
  | _, _, _, .cons x t h, .cons _ _ h' => by rw [strsAre_inj h h']
theorem strsAre_perm {l l' : List Value} (p : l.Perm l') : ∀ {xs : List Str}, StrsAre l xs → ∃ ys, StrsAre l' ys ∧ xs.Perm ys := by
  induction p with
  | nil => intro xs h; exact ⟨xs, h, List.Perm.refl _⟩
  | cons v _ ih =>
    intro xs h
    cases h with
    | cons x t h =>
      obtain ⟨ys, h1, h2⟩ := ih h
      exact ⟨x :: ys, .cons x t h1, h2.cons x⟩
  | swap v u l =>
    intro xs h
    cases h with
    | cons x t h =>
      cases h with
      | cons y u h => exact ⟨_, .cons y u (.cons x t h), List.Perm.swap _ _ _⟩
  | trans _ _ ih1 ih2 =>
    intro xs h
    obtain ⟨ys, h1, h2⟩ := ih1 h
    obtain ⟨zs, h3, h4⟩ := ih2 h1
    exact ⟨zs, h3, h2.trans h4⟩
/-- sorted(a set of texts) -/
theorem sorted_tset {Q : Value → Shared → Prop} (T : TSet w s.heap a L) (hh : A.handled = none)
    (hQ : ∀ s' p (out : Array Value) (c : Nat), (∀ b o, s.heap.get? b = some o → s'.heap.get? b = some o) → s'.gens = s.gens → s'.os = s.os → s.heap.objs.size ≤ p →
      s'.heap.get? p = some (seqObj "list" out c) → StrsAre out.toList (srtSet L) → Q (.ref p) s') :
    wpAny (model P w) A (call (.builtin "sorted") [.ref a]) Q E s := by
  obtain ⟨o, es, ep, t, ho, hex, hd, g, nd, hm, hb, hf, hr, hl, ln⟩ := T
  refine Calls.call_function_entry kind_sorted plain_sorted entry_sorted (args_sorted1 _) ?_
  unfold Builtin.«sorted»
  refine wpAny_bind (m := checkCount "sorted" 1 1 _) (wpAny_pure ?_)
  refine wpAny_bind (collect_set (A := A.in1) hh ⟨o, ho, hex.1, hd⟩ hf hb hr hl fun s1 vs k1 hz g1 o1 pm => ?_)
  obtain ⟨xs, hS, px⟩ := strsAre_perm pm.symm (strsAre_eq_map g)
  have hvl : vs.length = es.size := by rw [pm.length_eq, List.length_map, Array.length_toList]
  have hsl : vs.length ≤ sizeLine := by rw [hvl]; exact fits_of_scanBound hb
  refine wpAny_bind (wpAny_newList ?_ hsl)
  have hoL : (s1.heap.push (seqObj "list" vs.toArray 0)).get? s1.heap.objs.size = some (seqObj "list" vs.toArray 0) := Heap.get?_push_size _ rfl
  refine wpAny_bind (wpAny_holding (wpAny_call_entry slot_list_sort ⟨_, hoL, rfl⟩ entry_list_sort (list_sort_treeKAny strKind_oneLt hoL hS.keysOf (fun v₁ v₂ rest e => keyKind_strs (by rw [← e]; exact hS)) hsl fun st' a1 a2 => ?_) (args_list_sort _)))
  obtain ⟨ys, b1, b2, b3⟩ := sorted_out_str hS a1 a2
  refine ⟨_, rfl, ?_⟩
  obtain ⟨c, hc⟩ := sortedHeap_at (vs := vs) (out := (arrOf st').map (·.2)) hoL
  have py : ys.Perm (es.toList.map txt) := b2.trans px.symm
  have ey : ys = srtSet L := srtSet_unique (py.nodup_iff.mpr nd) (fun x => py.mem_iff.trans (hm x).symm) (sortedS_up b3)
  rw [ey] at b1
  refine wpAny_pure ⟨_, rfl, hQ _ s1.heap.objs.size _ c (fun b u e => ?_) g1 o1 hz hc b1⟩
  have q := k1 b u e
  have hlt := Heap.lt_size q
  show (sortedHeap (s1.heap.push (seqObj "list" vs.toArray 0)) s1.heap.objs.size vs _).get? b = some u
  rw [sortedHeap_old (Nat.ne_of_lt hlt) (by rw [size_push']; exact Nat.lt_succ_of_lt hlt)]
  exact Heap.get?_push_of_some _ q
end

section
variable {X : Cx} {a : Expr} {ta : TE}
/-- sorted(set(xs)), xs a list of texts -/
def tSortSet (K : PySem.W.Frag) (ta : TE) : TE := fun σ H Q => ta σ H fun x H1 => ∃ (l : Addr) (xs : List Str), x = .ref l ∧ SqL K H1 l (xs.map V.str) ∧ xs.length < 4000 ∧ ∀ p, H1 p = none → Q (.ref p) (upd H1 p (.lst ((srtSet xs).map V.str)))
theorem srtSet_length (xs : List Str) : (srtSet xs).length ≤ xs.length := by
  unfold srtSet
  rw [(srt_perm _).length_eq]
  induction xs with
  | nil => exact Nat.le_refl _
  | cons x r ih =>
    unfold dd
    by_cases h : x ∈ r
    · rw [if_pos h]; exact Nat.le_succ_of_le ih
    · rw [if_neg h]; exact Nat.succ_le_succ ih
theorem pe_sortSet {p p2 q pos : Pos} (hc : X.calm = true) (hg : Gl X "sorted") (hm : X.mg "sorted" = none) (hg2 : Gl X "set") (hm2 : X.mg "set" = none) (ha : PE X a ta)
    (na : starEach [a] X.env = (false, eval a X.env) :: starEach [] X.env := by rfl) : PE X (.Call (.Name "sorted" p) [.Call (.Name "set" p2) [a] [] q] [] pos) (tSortSet X.K ta) := by
  refine ⟨fun pins s σ H Q I h => ?_⟩
  refine wpAny_Call_Name_kw (ld_blt I hg hm boot_sorted ?_)
  refine PyProof.Rows.callWith_builtin1 (PyProof.Rows.args_cons ?_ rfl) rfl rfl
  refine wpAny_Call_Name_kw (ld_blt I hg2 hm2 boot_set ?_)
  refine PyProof.Rows.callWith_type1 (PyProof.Rows.args_cons (thn (ha.run pins s σ H _ I h) fun v s1 ⟨x, H1, I1, r1, q1⟩ => PyProof.Rows.args_nil ?_) na) na rfl
  obtain ⟨l, xs, rfl, hq, hn, q1⟩ := q1
  cases r1
  obtain ⟨its, r, pl, hz⟩ := I1.list hq
  refine call_set_texts (I1.ok.hd hc) pl.isList (by simpa using r.strs) (by unfold scanBound; omega) fun h' tk hT hk => ?_
  refine PyProof.Rows.args_nil ?_
  have I2 : Inv X pins σ H1 { s1 with heap := h', toks := tk } := I1.kept fun b o e => hk b o (Heap.lt_size e) e
  refine sorted_tset hT (I2.ok.hd hc) fun s' pp out c k g o hp hg hS => ?_
  have hn' : H1 pp = none := I2.hok.fresh hp
  have hlen : ((srtSet xs).map V.str).length ≤ sizeLine := by rw [List.length_map, sizeLine_eq]; have := srtSet_length xs; omega
  have J : Inv X pins σ (upd H1 pp (.lst ((srtSet xs).map V.str))) s' :=
    I2.call' (s' := s') (ch := []) o (Un.laid k hp hn') (I2.hok.laid k hp ⟨hlen, out.toList, c, vals_of_strs hS, hg⟩) (by rw [g]; exact I2.bare) (fun _ z => nomatch z)
  exact ⟨.ref pp, _, J, rfl, q1 pp hn'⟩
end
end DLS
set_option Elab.async false
set_option linter.all false
set_option maxRecDepth 100000
set_option maxHeartbeats 4000000
namespace DLS
open PySem PySem.Spec PyProof.Rows L2
section
variable {prog : Program} {w : World} {A : Around} {E : Value → Shared → Prop} {s : Shared} {T : String} {r d : Addr} {n : Nat} {Pv : Nat → Value → Prop} {OK : Heap → Prop}
/-- sorted of what gives texts -/
theorem sorted_src {Q : Value → Shared → Prop} {xs : List Str} (Ks : PySem.W.KdlSrc prog w T r d n Pv OK) (hh : A.handled = none) (hok : OK s.heap) (hn : n ≤ sizeLine) (hs : ∀ acc : Array Value, ItemsOf Pv acc n → StrsAre acc.toList xs)
    (hQ : ∀ (h' : Heap) (tk : Nat) s' (out : Array Value) (c : Nat), (∀ b o, s.heap.get? b = some o → h'.get? b = some o) → (∀ b o, h'.get? b = some o → s'.heap.get? b = some o) → s'.gens = s.gens → s'.os = s.os →
      s'.heap.get? h'.objs.size = some (seqObj "list" out c) → StrsAre out.toList (srt xs) → Q (.ref h'.objs.size) s') :
    wpAny (model prog w) A (call (.builtin "sorted") [.ref r]) Q E s := by
  refine Calls.call_function_entry kind_sorted plain_sorted entry_sorted (args_sorted1 _) ?_
  unfold Builtin.«sorted»
  refine wpAny_bind (m := checkCount "sorted" 1 1 _) (wpAny_pure ?_)
  refine wpAny_bind (PySem.W.kdu_collect (A := A.in1) Ks hh hok hn fun h' tk acc hk hacc => ?_)
  have hS := hs acc hacc
  have hsl : acc.toList.length ≤ sizeLine := by rw [Array.length_toList, hacc.1]; exact hn
  refine wpAny_bind (wpAny_newList ?_ hsl)
  have hoL : (h'.push (seqObj "list" acc.toList.toArray 0)).get? h'.objs.size = some (seqObj "list" acc.toList.toArray 0) := Heap.get?_push_size _ rfl
  refine wpAny_bind (wpAny_holding (wpAny_call_entry slot_list_sort ⟨_, hoL, rfl⟩ entry_list_sort (list_sort_treeKAny strKind_oneLt hoL hS.keysOf (fun v₁ v₂ rest e => keyKind_strs (by rw [← e]; exact hS)) hsl fun st' a1 a2 => ?_) (args_list_sort _)))
  obtain ⟨ys, b1, b2, b3⟩ := sorted_out_str hS a1 a2
  refine ⟨_, rfl, ?_⟩
  obtain ⟨c, hc⟩ := sortedHeap_at (vs := acc.toList) (out := (arrOf st').map (·.2)) hoL
  have ey : ys = srt xs := srt_unique b2 (sortedS_up b3)
  rw [ey] at b1
  refine wpAny_pure ⟨_, rfl, hQ h' tk _ _ c hk (fun b u e => ?_) rfl rfl hc b1⟩
  have hlt := Heap.lt_size e
  show (sortedHeap (h'.push (seqObj "list" acc.toList.toArray 0)) h'.objs.size acc.toList _).get? b = some u
  rw [sortedHeap_old (Nat.ne_of_lt hlt) (by rw [size_push']; exact Nat.lt_succ_of_lt hlt)]
  exact Heap.get?_push_of_some _ e
end
section
variable {X : Cx} {e : Expr} {te : TE} {p apos cpos pos : Pos}
/-- the keys of what is met, as values -/
theorem keys_rel {P : Program} {w : World} {kvs : List (Key × V)} {vs : List (Key × Value)} {acc : Array Value} (kv : KV kvs vs) (h : ItemsOf (fun i v => ∃ k x, vs[i]? = some (k, x) ∧ (mixKind P w).is k v = true) acc vs.length) : Vals (kvs.map fun q => kV q.1) acc.toList := by
  have lk : kvs.length = vs.length := Paired.length kv
  have el : acc.toList.length = acc.size := by simp
  refine vals_of_at (by rw [List.length_map, el, h.1, lk]) fun j x w' h1 h2 => ?_
  obtain ⟨k, y, hky, hi⟩ := h.2 j w' (by rw [← Array.getElem?_toList]; exact h2)
  have e1 : (kvs.map (·.1))[j]? = some k := by
    rw [KV.keys kv, List.getElem?_map, hky] <;> rfl
  have e2 : (kvs.map fun q => kV q.1)[j]? = some (kV k) := by
    have e3 : (kvs.map fun q => kV q.1) = (kvs.map (·.1)).map kV := by rw [List.map_map] <;> rfl
    rw [e3, List.getElem?_map, e1] <;> rfl
  rw [e2] at h1
  cases h1
  exact keyIs_rel hi
/-- d.keys() handed to a built-in f -/
theorem keys_view {f : Value} {pins : List (Addr × Obj)} {σ : L2.St} {H : Hp} {s : Shared} {Q : VK} {R : V → Hp → Prop} (he : PE X e te) (I : Inv X pins σ H s) (h : te σ H R)
    (hbase : attributeBase e "keys" X.env (eval e X.env) = eval e X.env) (hline : (apos.endLine == cpos.line) = true)
    (k : ∀ (v : V) (s1 : Shared) (H1 : Hp), R v H1 → Inv X pins σ H1 s1 → ∃ d kvs, v = .ref d ∧ Rd H1 d (.dK kvs) ∧ ∀ (vs : List (Key × Value)) (ep : Nat), KV kvs vs → kvs.length ≤ sizeLine → ∀ s2, Inv X pins σ H1 s2 → PySem.W.KdlKeysView s2.heap s1.heap.objs.size d → s2.heap.DictAt (mixKind X.prog X.w) d vs ep →
      wpAny (model X.prog X.w) X.A (call f [.ref s1.heap.objs.size]) (EP X pins σ Q) X.xe s2) :
    wpAny (model X.prog X.w) X.A (eval (.Call (.Attribute e "keys" apos) [] [] cpos) X.env) (fun v s' => wpAny (model X.prog X.w) X.A (call f [v]) (EP X pins σ Q) X.xe s') X.xe s := by
  refine wpAny_Call_method (T := "dict") (id := "dict.keys") hbase rfl hline F.plainAttrs_dict F.slot_dict_keys F.type_dict_keys (thn (he.run pins s σ H _ I h) fun u s1 ⟨x, H1, I1, rx, q⟩ => ?_)
  obtain ⟨d, kvs, ex, hd, q2⟩ := k x s1 H1 q I1
  subst ex
  obtain rfl : u = Value.ref d := rx
  obtain ⟨hz, hs0, vs, kv, hdo⟩ := dk_rd I1.hok hd
  obtain ⟨ep, hat⟩ := hdo.dictAt
  have I2 : Inv X pins σ H1 { s1 with heap := s1.heap.push { cls := .type "dict_keys", data := .fields #[.ref d] } } := I1.kept (t' := s1.toks) fun b ob q => Heap.get?_push_of_some _ q
  refine ⟨hdo.typeIs, hdo.mapOf.noDict, ?_⟩
  show wpAny _ _ (callWith cpos (.builtin "dict.keys") [.ref d] [] []) _ X.xe s1
  exact method_meetsIn F.slot_dict_keys F.entry_dict_keys rfl (PySem.evalArgs_none ⟨rfl, hdo.typeIs, F.args_dict_keys_1 _, _, PySem.W.kdl_meets_keys (mixKind X.prog X.w) d hs0, ⟨vs, hdo⟩, q2 vs ep kv hz _ I2 ⟨_, Heap.get?_push_size _ rfl, rfl, rfl⟩ (hat.push _)⟩)
/-- list(d.keys()) -/
def tListKeys (te : TE) : TE := fun σ H Q => te σ H fun x H1 => ∃ d kvs, x = .ref d ∧ Rd H1 d (.dK kvs) ∧ ∀ p, H1 p = none → Q (.ref p) (upd H1 p (.lst (kvs.map fun q => kV q.1)))
theorem pe_listKeys (hc : X.calm = true) (he : PE X e te) (hg : Gl X "list") (hm : X.mg "list" = none) (hbase : attributeBase e "keys" X.env (eval e X.env) = eval e X.env := by rfl) (hline : (apos.endLine == cpos.line) = true := by rfl)
    (hs : starEach [.Call (.Attribute e "keys" apos) [] [] cpos] X.env = (false, eval (.Call (.Attribute e "keys" apos) [] [] cpos) X.env) :: starEach [] X.env := by rfl) :
    PE X (.Call (.Name "list" p) [.Call (.Attribute e "keys" apos) [] [] cpos] [] pos) (tListKeys te) := by
  refine ⟨fun pins s σ H Q I hq => ?_⟩
  refine wpAny_Call_Name_kw (ld_blt I hg hm (show bootBuiltins "list" = some (.type "list") by decide +kernel) ?_)
  refine PyProof.Rows.callWith_type1 (PyProof.Rows.args_cons (thn (keys_view (f := .type "list") he I hq hbase hline fun v s1 H1 r I1 => ?_) fun v s' z => PyProof.Rows.args_nil z) hs) hs rfl
  obtain ⟨d, kvs, rfl, hd, q⟩ := r
  refine ⟨d, kvs, rfl, hd, fun vs ep kv hz s2 I2 hv hat => ?_⟩
  have lk : kvs.length = vs.length := Paired.length kv
  refine PySem.W.kdl_call (PySem.W.kdl_keys (knd := mixKind X.prog X.w) (kvs := vs) (ep := ep)) (I2.ok.hd hc) ⟨hv, hat⟩ (by rw [← lk]; exact hz) fun h' tk acc' c' hk hS hacc => ?_
  refine ⟨.ref s2.heap.objs.size, upd H1 s2.heap.objs.size (.lst (kvs.map fun q => kV q.1)), I2.laid hk (Nat.le_refl _) (show ObjOk X.prog X.w _ _ _ (.lst (kvs.map fun q => kV q.1)) from ⟨by rw [List.length_map]; exact hz, acc'.toList, c', keys_rel kv hacc, ?_⟩), rfl, q _ (I2.hok.fresh (Nat.le_refl _))⟩
  rw [Array.toArray_toList]
  exact hS
/-- sorted(d.keys()), texts -/
def tSortKeys (te : TE) : TE := fun σ H Q => te σ H fun x H1 => ∃ d kvs, x = .ref d ∧ Rd H1 d (.dK kvs) ∧ ∃ xs : List Str, (kvs.map fun q => kV q.1) = xs.map V.str ∧ ∀ p, H1 p = none → Q (.ref p) (upd H1 p (.lst ((srt xs).map V.str)))
theorem pe_sortKeys (hc : X.calm = true) (he : PE X e te) (hg : Gl X "sorted") (hm : X.mg "sorted" = none) (hbase : attributeBase e "keys" X.env (eval e X.env) = eval e X.env := by rfl) (hline : (apos.endLine == cpos.line) = true := by rfl)
    (hs : starEach [.Call (.Attribute e "keys" apos) [] [] cpos] X.env = (false, eval (.Call (.Attribute e "keys" apos) [] [] cpos) X.env) :: starEach [] X.env := by rfl) :
    PE X (.Call (.Name "sorted" p) [.Call (.Attribute e "keys" apos) [] [] cpos] [] pos) (tSortKeys te) := by
  refine ⟨fun pins s σ H Q I hq => ?_⟩
  refine wpAny_Call_Name_kw (ld_blt I hg hm boot_sorted ?_)
  refine PyProof.Rows.callWith_builtin1 (PyProof.Rows.args_cons (thn (keys_view (f := .builtin "sorted") he I hq hbase hline fun v s1 H1 r I1 => ?_) fun v s' z => PyProof.Rows.args_nil z) hs) hs rfl
  obtain ⟨d, kvs, rfl, hd, xs, ex, q⟩ := r
  refine ⟨d, kvs, rfl, hd, fun vs ep kv hz s2 I2 hv hat => ?_⟩
  have lk : kvs.length = vs.length := Paired.length kv
  have hx : xs.length = kvs.length := by
    have := congrArg List.length ex
    simpa using this.symm
  refine sorted_src (xs := xs) (PySem.W.kdl_keys (knd := mixKind X.prog X.w) (kvs := vs) (ep := ep)) (I2.ok.hd hc) ⟨hv, hat⟩ (by rw [← lk]; exact hz) (fun acc hacc => ?_) fun h' tk s' out c k1 k2 g o hg2 hS => ?_
  · have r := keys_rel kv hacc
    rw [ex] at r
    exact r.strs
  have I3 : Inv X pins σ H1 { s2 with heap := h', toks := tk } := I2.kept k1
  have hn' : H1 h'.objs.size = none := I3.hok.fresh (Nat.le_refl _)
  have hlen : ((srt xs).map V.str).length ≤ sizeLine := by rw [List.length_map, (srt_perm xs).length_eq, hx]; exact hz
  have J : Inv X pins σ (upd H1 h'.objs.size (.lst ((srt xs).map V.str))) s' :=
    I3.call' (s' := s') (ch := []) o (Un.laid k2 (Nat.le_refl _) hn') (I3.hok.laid k2 (Nat.le_refl _) ⟨hlen, out.toList, c, vals_of_strs hS, hg2⟩) (by rw [g]; exact I3.bare) (fun _ z => nomatch z)
  exact ⟨.ref _, _, J, rfl, q _ hn'⟩
end
end DLS
set_option Elab.async false
set_option linter.all false
set_option maxRecDepth 100000
set_option maxHeartbeats 2000000
namespace DL
open PySem PySem.Spec L2

section
variable {X : Cx} {W : WX} {K : PySem.W.Frag} {Fr : Addr → Prop} {B : List (Nat × Addr)} {σ : St} {H H1 H2 : Hp} {ρ ρ1 ρ2 : Ev} {v : V} {d : D} {Q : VK}
/-! ### a new object of one's own -/
theorem own_new {o : OD} {p : Addr} {u : HO} {Q : VK} (R : Rep K Fr B σ H ρ) (hp : H p = none) (ow : Own K (upd H p u) p o) (k : Ok K W Fr B σ (relN K Fr σ) Q H (.val o ρ)) : Q (.ref p) (upd H p u) :=
  k _ _ (Step.new R hp) (R.new hp) ⟨p, rfl, ow, R.fresh hp⟩
theorem own_lst {p : Addr} {vs : List V} {xs : List D} (hp : H p = none) (r : DatL K H vs xs) : Own K (upd H p (.lst vs)) p (.l xs) := ⟨vs, upd_same, r.mono (Mono.new hp)⟩
theorem own_dic {p : Addr} {vs : List (Key × V)} {xs : List (Key × D)} (hp : H p = none) (r : DatK K H vs xs) : Own K (upd H p (.dK vs)) p (.d xs) := ⟨vs, upd_same, r.mono (Mono.new hp)⟩

/-! ### argument lists, displays -/
def nilL : Ev → Out (List D) := fun ρ => .val [] ρ
def consL (f : Ev → Out D) (g : Ev → Out (List D)) : Ev → Out (List D) := fun ρ => (f ρ).bind fun d ρ1 => (g ρ1).bind fun ds ρ2 => .val (d :: ds) ρ2
theorem dl_nil : DL_ X W [] nilL := ⟨tNil, pa_nil, fun Fr B σ H ρ Q R k => k [] H Step.refl R .nil⟩
theorem dl_cons {e : Expr} {es : List Expr} {f : Ev → Out D} {g : Ev → Out (List D)} (ha : DE X W e f) (hr : DL_ X W es g) (hs : starEach (e :: es) X.env = (false, eval e X.env) :: starEach es X.env := by rfl) : DL_ X W (e :: es) (consL f g) := by
  obtain ⟨t, p, s⟩ := ha.ex
  obtain ⟨t', p', s'⟩ := hr.ex
  refine ⟨_, pa_cons p p' hs, fun Fr B σ H ρ Q R k => s Fr B σ H ρ _ R (Ok.bind k fun v H1 d ρ1 st R1 r1 k => s' Fr B σ H1 ρ1 _ R1 (Ok.bind k fun vs H2 ds ρ2 st2 R2 r2 k => ?_))⟩
  exact k _ H2 Step.refl R2 (.cons (Dat.mono st2.mono r1) r2)
def lstN (f : Ev → Out (List D)) : Ev → Out OD := fun ρ => (f ρ).bind fun ds ρ1 => if ds.length ≤ sizeLine then .val (.l ds) ρ1 else .bad
theorem dn_lst {es : List Expr} {f : Ev → Out (List D)} {pos : Pos} (h : DL_ X W es f) : DN X W (.List es pos) (lstN f) := by
  obtain ⟨t, p, s⟩ := h.ex
  refine ⟨_, pe_lst p, fun Fr B σ H ρ Q R k => s Fr B σ H ρ _ R (Ok.bind k fun vs H1 ds ρ1 st R1 r1 k => ?_)⟩
  by_cases hz : ds.length ≤ sizeLine
  · rw [if_pos hz] at k
    have r1' : DatL X.K H1 vs ds := r1
    exact ⟨by rw [r1'.length]; exact hz, fun p hp => own_new R1 hp (own_lst hp r1') k⟩
  · rw [if_neg hz] at k; exact False.elim k
def tupE (f : Ev → Out (List D)) : Ev → Out D := fun ρ => (f ρ).bind fun ds ρ1 => if ds.length ≤ sizeLine then .val (.tup ds) ρ1 else .bad
def tTupP (t : TA) : TE := fun σ H Q => t σ H fun xs H1 => xs.length ≤ sizeLine ∧ rNewT xs H1 Q
theorem pe_tupP {es : List Expr} {t : TA} {x1} {pos : Pos} (h : PA X es t) : PE X (.Tuple es x1 pos) (tTupP t) := by
  refine ⟨fun pins s σ H Q I hq => ?_⟩
  refine wpAny_Tuple_spliced (thn (h.run pos pins s σ H _ I hq) fun us s1 ⟨xs, H1, I1, r, z, q⟩ => ⟨by rw [← r.length]; exact z, ?_⟩)
  exact ⟨.ref s1.heap.objs.size, _, Inv.tupP (tk := s1.toks) I1 r z, rfl, q _ _ I1.fresh rfl⟩
theorem de_tup {es : List Expr} {f : Ev → Out (List D)} {x1} {pos : Pos} (h : DL_ X W es f) : DE X W (.Tuple es x1 pos) (tupE f) := by
  obtain ⟨t, p, s⟩ := h.ex
  refine ⟨_, pe_tupP p, fun Fr B σ H ρ Q R k => s Fr B σ H ρ _ R (Ok.bind k fun vs H1 ds ρ1 st R1 r1 k => ?_)⟩
  by_cases hz : ds.length ≤ sizeLine
  · rw [if_pos hz] at k
    have r1' : DatL X.K H1 vs ds := r1
    exact ⟨by rw [r1'.length]; exact hz, fun p o hp hd => k _ _ (Step.new R1 hp) (R1.new hp) (dat_tup_new hp hd r1')⟩
  · rw [if_neg hz] at k; exact False.elim k
/-- {} -/
def dicN0 : Ev → Out OD := fun ρ => .val (.d []) ρ
theorem dn_dic0 {pos : Pos} : DN X W (.Dict [] [] pos) dicN0 := ⟨_, pe_dnewK, fun Fr B σ H ρ Q R k p hp => own_new R hp (own_dic hp .nil) k⟩

/-! ### one operand -/
def onOne {α : Type} (op : D → Option α) (ρ : Ev) : Option D → Out α
  | some x => ofO (op x) ρ
  | none => .bad
def unF {α : Type} (op : D → Option α) (f : Ev → Out RV) : Ev → Out α := fun ρ => (f ρ).bind fun a ρ1 => onOne op ρ1 (look ρ1 a)
/-- a one-place reading gives op's datum -/
structure UnOk (K : PySem.W.Frag) (r : V → Hp → VK → Prop) (op : D → Option D) : Prop where
  run : ∀ {Fr : Addr → Prop} {B : List (Nat × Addr)} {σ : St} {H : Hp} {ρ : Ev} {x : V} {a d : D} {Q : VK}, Rep K Fr B σ H ρ → View K H x a → op a = some d → (∀ v H', Step Fr H H' → Rep K Fr B σ H' ρ → Dat K H' v d → Q v H') → r x H Q
/-- .. op's new object -/
structure UnNew (K : PySem.W.Frag) (r : V → Hp → VK → Prop) (op : D → Option OD) : Prop where
  run : ∀ {Fr : Addr → Prop} {B : List (Nat × Addr)} {σ : St} {H : Hp} {ρ : Ev} {x : V} {a : D} {o : OD} {Q : VK}, Rep K Fr B σ H ρ → View K H x a → op a = some o → (∀ v H', Step Fr H H' → Rep K Fr B σ H' ρ → relN K Fr σ o ρ v H' → Q v H') → r x H Q
theorem UnOk.or {r r' : V → Hp → VK → Prop} {p q : D → Option D} (h : UnOk K r p) (h' : UnOk K r' q) : UnOk K (fun x H Q => r x H Q ∨ r' x H Q) (fun a => (p a).orElse fun _ => q a) := ⟨fun {Fr B σ H ρ x a d Q} R va e k => by
  cases z : p a with
  | some d' => rw [z] at e; cases e; exact .inl (h.run R va z k)
  | none => rw [z] at e; exact .inr (h'.run R va e k)⟩
theorem UnNew.or {r r' : V → Hp → VK → Prop} {p q : D → Option OD} (h : UnNew K r p) (h' : UnNew K r' q) : UnNew K (fun x H Q => r x H Q ∨ r' x H Q) (fun a => (p a).orElse fun _ => q a) := ⟨fun {Fr B σ H ρ x a d Q} R va e k => by
  cases z : p a with
  | some d' => rw [z] at e; cases e; exact .inl (h.run R va z k)
  | none => rw [z] at e; exact .inr (h'.run R va e k)⟩
theorem onOne_inv {α ν : Type} {rel : Rel α ν} {op : D → Option α} {x : Option D} {Q : ν → Hp → Prop} (k : Ok K W Fr B σ rel Q H (onOne op ρ x)) : ∃ a d, x = some a ∧ op a = some d ∧ Ok K W Fr B σ rel Q H (.val d ρ) := by
  cases x with
  | none => exact False.elim k
  | some a =>
    cases e : op a with
    | none =>
      replace k : Ok K W Fr B σ rel Q H (ofO (op a) ρ) := k
      rw [e] at k; exact False.elim k
    | some d =>
      replace k : Ok K W Fr B σ rel Q H (ofO (op a) ρ) := k
      rw [e] at k; exact ⟨a, d, rfl, e, k⟩
/-- f(a), f built in: what its reading asks of the one value -/
def rOne (r : V → Hp → VK → Prop) : List V → Hp → VK → Prop := fun xs H Q => ∃ x, xs = [x] ∧ r x H Q
abbrev tOne (r : V → Hp → VK → Prop) (ta : TE) : TE := tCB (rOne r) (tCons ta tNil)
theorem sem_one {r : V → Hp → VK → Prop} {op : D → Option D} (hu : UnOk X.K r op) {ta : TE} {f : Ev → Out RV} (sa : ∀ (Fr : Addr → Prop) (B : List (Nat × Addr)) (σ : St) (H : Hp) (ρ : Ev) (Q : VK), Rep X.K Fr B σ H ρ → Ok X.K W Fr B σ (relR X.K σ) Q H (f ρ) → ta σ H Q)
    (Fr : Addr → Prop) (B : List (Nat × Addr)) (σ : St) (H : Hp) (ρ : Ev) (Q : VK) (R : Rep X.K Fr B σ H ρ) (k : Ok X.K W Fr B σ (relE X.K) Q H (unF op f ρ)) : tOne r ta σ H Q := by
  refine sa Fr B σ H ρ _ R (Ok.bind k fun v H1 a ρ1 st R1 r1 k => ?_)
  obtain ⟨x, d, e1, e2, k⟩ := onOne_inv k
  exact ⟨v, rfl, hu.run R1 (view_now r1 R1 e1) e2 k⟩
theorem sem_oneN {r : V → Hp → VK → Prop} {op : D → Option OD} (hu : UnNew X.K r op) {ta : TE} {f : Ev → Out RV} (sa : ∀ (Fr : Addr → Prop) (B : List (Nat × Addr)) (σ : St) (H : Hp) (ρ : Ev) (Q : VK), Rep X.K Fr B σ H ρ → Ok X.K W Fr B σ (relR X.K σ) Q H (f ρ) → ta σ H Q)
    (Fr : Addr → Prop) (B : List (Nat × Addr)) (σ : St) (H : Hp) (ρ : Ev) (Q : VK) (R : Rep X.K Fr B σ H ρ) (k : Ok X.K W Fr B σ (relN X.K Fr σ) Q H (unF op f ρ)) : tOne r ta σ H Q := by
  refine sa Fr B σ H ρ _ R (Ok.bind k fun v H1 a ρ1 st R1 r1 k => ?_)
  obtain ⟨x, d, e1, e2, k⟩ := onOne_inv k
  exact ⟨v, rfl, hu.run R1 (view_now r1 R1 e1) e2 k⟩
theorem CallR.imp {f : Value} {r r' : List V → Hp → VK → Prop} (h : CallR X f r) (i : ∀ xs H Q, r' xs H Q → r xs H Q) : CallR X f r' := fun pins s σ H xs us Q I rv q => h pins s σ H xs us Q I rv (i xs H Q q)
theorem CallR.or1 {f : Value} {r r' : V → Hp → VK → Prop} (h : CallR X f (rOne r)) (h' : CallR X f (rOne r')) : CallR X f (rOne fun x H Q => r x H Q ∨ r' x H Q) := by
  intro pins s σ H xs us Q I rv q
  obtain ⟨x, e, q⟩ := q
  rcases q with q | q
  · exact h pins s σ H xs us Q I rv ⟨x, e, q⟩
  · exact h' pins s σ H xs us Q I rv ⟨x, e, q⟩
section
variable {e : Expr} {f : Ev → Out RV} {x : Str} {p pos : Pos} {id T : String} {r : V → Hp → VK → Prop}
theorem de_callB {op : D → Option D} (hc : CallR X (.builtin id) (rOne r)) (hu : UnOk X.K r op) (hg : Gl X x) (hm : X.mg x = none) (hv : bootBuiltins x = some (.builtin id)) (ha : DR X W e f) (hn : x ≠ "__name__" := by decide) (hdb : (x == ("__debug__" : Str)) = false := by decide)
    (he : starEach [e] X.env = (false, eval e X.env) :: starEach [] X.env := by rfl) (hpl : (backTo pos (starEach [] X.env)).any (·.1) = false := by rfl) : DE X W (.Call (.Name x p) [e] [] pos) (unF op f) := by
  obtain ⟨t, pa, s⟩ := ha.ex
  exact ⟨_, pe_callB hc hg hm hv (pa_cons pa pa_nil he) hn hdb he hpl, sem_one hu s⟩
theorem dn_callB {op : D → Option OD} (hc : CallR X (.builtin id) (rOne r)) (hu : UnNew X.K r op) (hg : Gl X x) (hm : X.mg x = none) (hv : bootBuiltins x = some (.builtin id)) (ha : DR X W e f) (hn : x ≠ "__name__" := by decide) (hdb : (x == ("__debug__" : Str)) = false := by decide)
    (he : starEach [e] X.env = (false, eval e X.env) :: starEach [] X.env := by rfl) (hpl : (backTo pos (starEach [] X.env)).any (·.1) = false := by rfl) : DN X W (.Call (.Name x p) [e] [] pos) (unF op f) := by
  obtain ⟨t, pa, s⟩ := ha.ex
  exact ⟨_, pe_callB hc hg hm hv (pa_cons pa pa_nil he) hn hdb he hpl, sem_oneN hu s⟩
theorem de_callT {op : D → Option D} (hc : CallR X (.type T) (rOne r)) (hu : UnOk X.K r op) (hg : Gl X x) (hm : X.mg x = none) (hv : bootBuiltins x = some (.type T)) (ha : DR X W e f) (hn : x ≠ "__name__" := by decide) (hdb : (x == ("__debug__" : Str)) = false := by decide)
    (he : starEach [e] X.env = (false, eval e X.env) :: starEach [] X.env := by rfl) (hpl : (backTo pos (starEach [] X.env)).any (·.1) = false := by rfl) : DE X W (.Call (.Name x p) [e] [] pos) (unF op f) := by
  obtain ⟨t, pa, s⟩ := ha.ex
  exact ⟨_, pe_callTy hc hg hm hv (pa_cons pa pa_nil he) hn hdb he hpl, sem_one hu s⟩
theorem dn_callT {op : D → Option OD} (hc : CallR X (.type T) (rOne r)) (hu : UnNew X.K r op) (hg : Gl X x) (hm : X.mg x = none) (hv : bootBuiltins x = some (.type T)) (ha : DR X W e f) (hn : x ≠ "__name__" := by decide) (hdb : (x == ("__debug__" : Str)) = false := by decide)
    (he : starEach [e] X.env = (false, eval e X.env) :: starEach [] X.env := by rfl) (hpl : (backTo pos (starEach [] X.env)).any (·.1) = false := by rfl) : DN X W (.Call (.Name x p) [e] [] pos) (unF op f) := by
  obtain ⟨t, pa, s⟩ := ha.ex
  exact ⟨_, pe_callTy hc hg hm hv (pa_cons pa pa_nil he) hn hdb he hpl, sem_oneN hu s⟩
end

/-! ### len, all, any, abs, sum -/
def lenD : D → Option D
  | .lst xs => some (.int xs.length)
  | .tup xs => some (.int xs.length)
  | .str x => if x.length ≤ sizeLine then some (.int x.length) else none
  | .dic xs => some (.int xs.length)
  | .odd ks => some (.int ks.length)
  | _ => none
theorem len_odd {X : Cx} {pins : List (Addr × Obj)} {σ : St} {H : Hp} {s : Shared} {A : Around} {E : Value → Shared → Prop} {a : Addr} {ks : List V} {Q : Value → Shared → Prop} (I : Inv X pins σ H s) (h : OddP H a ks) (q : ∀ t s', Inv X pins σ H s' → Q (.int ks.length t) s') : wpAny (model X.prog X.w) A (call (.builtin "len") [.ref a]) Q E s := by
  obtain ⟨o, es, ep, ha, hc, hd, hm, hz, hk⟩ := h
  obtain ⟨hg, _⟩ := (show ObjOk X.prog X.w H s.heap a (FixA a o) from I.hok a _ ha)
  have hr : s.heap.DictRaw a es ep := ⟨o, hg, hc, hd⟩
  have hl : es.size = ks.length := by have := hk.length; simpa using this.symm
  rw [sizeLine_eq] at hz
  refine PyProof.Rows.call_len_slot (n := es.size) hr.typeIs PySem.F.slot_dict_len (fun Q' hq => PySem.call_len_raw hm hr hq) (by omega) (by omega) ?_
  rw [hl]
  exact q _ _ (I.tok _)
def rLenD (K : PySem.W.Frag) : V → Hp → VK → Prop := fun x H Q => (∃ p ks, x = .ref p ∧ OddP H p ks ∧ Q (.int ks.length) H) ∨ (∃ p ys, x = .ref p ∧ (SqL K H p ys ∨ SqT K H p ys) ∧ Q (.int ys.length) H) ∨ (∃ z, x = .str z ∧ z.length ≤ sizeLine ∧ Q (.int z.length) H) ∨ ∃ p kvs, x = .ref p ∧ Rd H p (.dK kvs) ∧ Q (.int kvs.length) H
theorem call_lenR : CallR X (.builtin "len") (rOne (rLenD X.K)) := by
  intro pins s σ H xs us Q I rv q
  obtain ⟨x, rfl, q⟩ := q
  rcases q with ⟨p, ks, rfl, h, q⟩ | ⟨p, ys, rfl, h, q⟩ | ⟨z, rfl, h, q⟩ | ⟨p, kvs, rfl, h, q⟩
  · obtain ⟨u, rfl, rx⟩ := Vals.one rv
    cases rx
    exact len_odd I h fun t s' I' => ⟨.int ks.length, H, I', ⟨t, rfl⟩, q⟩
  · exact call_len_seq pins s σ H _ us Q I rv ⟨p, ys, rfl, h, q⟩
  · exact call_len_str pins s σ H _ us Q I rv ⟨z, rfl, h, q⟩
  · obtain ⟨u, rfl, rx⟩ := Vals.one rv
    cases rx
    exact d_len I h fun t s' I' => ⟨.int kvs.length, H, I', ⟨t, rfl⟩, q⟩
theorem ok_len : UnOk K (rLenD K) lenD := ⟨fun {Fr B σ H ρ x a d Q} R va e k => by
  unfold lenD at e
  split at e
  · cases e
    obtain ⟨p, vs, rfl, h, r⟩ := va.lst
    exact .inr (.inl ⟨p, vs, rfl, .inl h, by rw [r.length]; exact k _ H Step.refl R .int⟩)
  · cases e
    obtain ⟨p, vs, rfl, h, r⟩ := va.tup
    exact .inr (.inl ⟨p, vs, rfl, .inr h.sq, by rw [r.length]; exact k _ H Step.refl R .int⟩)
  · split at e
    · cases e
      rw [va.str]
      exact .inr (.inr (.inl ⟨_, rfl, by assumption, k _ H Step.refl R .int⟩))
    · cases e
  · cases e
    obtain ⟨p, vs, rfl, h, r⟩ := va.dic
    exact .inr (.inr (.inr ⟨p, vs, rfl, h, by rw [r.length]; exact k _ H Step.refl R .int⟩))
  · cases e
    obtain ⟨p, vs, rfl, h, r⟩ := va.odd
    exact .inl ⟨p, vs, rfl, h, by rw [r.length]; exact k _ H Step.refl R .int⟩
  · cases e⟩
def toBls : List D → Option (List Bool)
  | [] => some []
  | .bl b :: r => (toBls r).map (b :: ·)
  | _ => none
def toInts : List D → Option (List Int)
  | [] => some []
  | .int b :: r => (toInts r).map (b :: ·)
  | _ => none
def toStrs : List D → Option (List Str)
  | [] => some []
  | .str b :: r => (toStrs r).map (b :: ·)
  | _ => none
theorem toBls_eq : ∀ {ds : List D} {bs : List Bool}, toBls ds = some bs → ds = bs.map D.bl
  | [], bs, h => by cases h; rfl
  | d :: ds, bs, h => by
    cases d <;> first | (cases h; done) | skip
    rename_i b
    have h' : (toBls ds).map (b :: ·) = some bs := h
    cases e : toBls ds with
    | none => rw [e] at h'; cases h'
    | some cs => rw [e] at h'; cases h'; rw [toBls_eq e]; rfl
theorem toInts_eq : ∀ {ds : List D} {bs : List Int}, toInts ds = some bs → ds = bs.map D.int
  | [], bs, h => by cases h; rfl
  | d :: ds, bs, h => by
    cases d <;> first | (cases h; done) | skip
    rename_i b
    have h' : (toInts ds).map (b :: ·) = some bs := h
    cases e : toInts ds with
    | none => rw [e] at h'; cases h'
    | some cs => rw [e] at h'; cases h'; rw [toInts_eq e]; rfl
theorem toStrs_eq : ∀ {ds : List D} {bs : List Str}, toStrs ds = some bs → ds = bs.map D.str
  | [], bs, h => by cases h; rfl
  | d :: ds, bs, h => by
    cases d <;> first | (cases h; done) | skip
    rename_i b
    have h' : (toStrs ds).map (b :: ·) = some bs := h
    cases e : toStrs ds with
    | none => rw [e] at h'; cases h'
    | some cs => rw [e] at h'; cases h'; rw [toStrs_eq e]; rfl
theorem toBls_map : ∀ bs : List Bool, toBls (bs.map D.bl) = some bs
  | [] => rfl
  | b :: r => by show (toBls (r.map D.bl)).map (b :: ·) = _; rw [toBls_map r]; rfl
theorem toInts_map : ∀ bs : List Int, toInts (bs.map D.int) = some bs
  | [] => rfl
  | b :: r => by show (toInts (r.map D.int)).map (b :: ·) = _; rw [toInts_map r]; rfl
theorem toStrs_map : ∀ bs : List Str, toStrs (bs.map D.str) = some bs
  | [] => rfl
  | b :: r => by show (toStrs (r.map D.str)).map (b :: ·) = _; rw [toStrs_map r]; rfl
def allD : D → Option D
  | .lst xs => (toBls xs).map fun bs => .bl (bs.all id)
  | _ => none
def anyD : D → Option D
  | .lst xs => (toBls xs).map fun bs => .bl (bs.any id)
  | _ => none
def rLB (K : PySem.W.Frag) (g : List Bool → Bool) : V → Hp → VK → Prop := fun x H Q => ∃ (a : Addr) (bs : List Bool), x = V.ref a ∧ SqL K H a (bs.map V.bl) ∧ Q (.bl (g bs)) H
theorem call_allR (hc : X.calm = true) : CallR X (.builtin "all") (rOne (rLB X.K fun bs => bs.all id)) := CallR.imp (cr_all hc) fun xs H Q ⟨x, e, a, bs, e2, h, q⟩ => ⟨a, bs, by rw [e, e2], h, q⟩
theorem call_anyR (hc : X.calm = true) : CallR X (.builtin "any") (rOne (rLB X.K fun bs => bs.any id)) := CallR.imp (cr_any hc) fun xs H Q ⟨x, e, a, bs, e2, h, q⟩ => ⟨a, bs, by rw [e, e2], h, q⟩
theorem ok_lb {g : List Bool → Bool} {op : D → Option D} (ho : ∀ a d, op a = some d → ∃ xs bs, a = .lst xs ∧ toBls xs = some bs ∧ d = .bl (g bs)) : UnOk K (rLB K g) op := ⟨fun {Fr B σ H ρ x a d Q} R va e k => by
  obtain ⟨xs, bs, rfl, e1, rfl⟩ := ho a d e
  rw [toBls_eq e1] at va
  obtain ⟨p, vs, rfl, h, r⟩ := va.lst
  rw [r.ofBls] at h
  exact ⟨p, bs, rfl, h, k _ H Step.refl R .bl⟩⟩
theorem ok_all : UnOk K (rLB K fun bs => bs.all id) allD := ok_lb fun a d e => by
  unfold allD at e
  split at e
  · rename_i xs
    cases q : toBls xs with
    | none => rw [q] at e; cases e
    | some bs => rw [q] at e; cases e; exact ⟨xs, bs, rfl, q, rfl⟩
  · cases e
theorem ok_any : UnOk K (rLB K fun bs => bs.any id) anyD := ok_lb fun a d e => by
  unfold anyD at e
  split at e
  · rename_i xs
    cases q : toBls xs with
    | none => rw [q] at e; cases e
    | some bs => rw [q] at e; cases e; exact ⟨xs, bs, rfl, q, rfl⟩
  · cases e
def sumD : D → Option D
  | .lst xs => (toInts xs).map fun bs => .int bs.sum
  | _ => none
def rSumD (K : PySem.W.Frag) : V → Hp → VK → Prop := fun x H Q => ∃ (a : Addr) (bs : List Int), x = V.ref a ∧ SqL K H a (bs.map V.int) ∧ Q (.int bs.sum) H
theorem call_sumR (hc : X.calm = true) : CallR X (.builtin "sum") (rOne (rSumD X.K)) := CallR.imp (cr_sum hc) fun xs H Q ⟨x, e, a, bs, e2, h, q⟩ => ⟨a, bs, by rw [e, e2], h, q⟩
theorem ok_sum : UnOk K (rSumD K) sumD := ⟨fun {Fr B σ H ρ x a d Q} R va e k => by
  unfold sumD at e
  split at e
  · rename_i xs
    cases q : toInts xs with
    | none => rw [q] at e; cases e
    | some bs =>
      rw [q] at e; cases e
      rw [toInts_eq q] at va
      obtain ⟨p, vs, rfl, h, r⟩ := va.lst
      rw [r.ofInts] at h
      exact ⟨p, bs, rfl, h, k _ H Step.refl R .int⟩
  · cases e⟩
def absD : D → Option D
  | .int n => some (.int (if n < 0 then -n else n))
  | _ => none

/-! ### sorted, list, tuple, dict -/
/-- texts, rising -/
def sortD : D → Option OD
  | .lst xs => (toStrs xs).map fun ss => .l ((DLS.srt ss).map D.str)
  | _ => none
def rSortD (K : PySem.W.Frag) : V → Hp → VK → Prop := fun x H Q => ∃ (a : Addr) (xs : List Str), x = V.ref a ∧ SqL K H a (xs.map V.str) ∧ ∀ p, H p = none → Q (.ref p) (upd H p (.lst ((DLS.srt xs).map V.str)))
theorem call_sortR : CallR X (.builtin "sorted") (rOne (rSortD X.K)) := CallR.imp DLS.cr_sortT fun xs H Q ⟨x, e, a, bs, e2, h, q⟩ => ⟨a, bs, by rw [e, e2], h, q⟩
theorem ok_sort : UnNew K (rSortD K) sortD := ⟨fun {Fr B σ H ρ x a d Q} R va e k => by
  unfold sortD at e
  split at e
  · rename_i xs
    cases q : toStrs xs with
    | none => rw [q] at e; cases e
    | some ss =>
      rw [q] at e; cases e
      rw [toStrs_eq q] at va
      obtain ⟨p, vs, rfl, h, r⟩ := va.lst
      rw [r.ofStrs] at h
      exact ⟨p, ss, rfl, h, fun p hp => k _ _ (Step.new R hp) (R.new hp) ⟨p, rfl, own_lst hp (DatL.strs _), R.fresh hp⟩⟩
  · cases e⟩
/-- sorted(set(xs)) -/
def sortSetD : D → Option OD
  | .lst xs => (toStrs xs).bind fun ss => if ss.length < 4000 then some (.l ((DLS.srtSet ss).map D.str)) else none
  | _ => none
theorem dn_sortSet {a : Expr} {f : Ev → Out RV} {p p2 q pos : Pos} (hc : X.calm = true) (hg : Gl X "sorted") (hm : X.mg "sorted" = none) (hg2 : Gl X "set") (hm2 : X.mg "set" = none) (ha : DR X W a f)
    (na : starEach [a] X.env = (false, eval a X.env) :: starEach [] X.env := by rfl) : DN X W (.Call (.Name "sorted" p) [.Call (.Name "set" p2) [a] [] q] [] pos) (unF sortSetD f) := by
  obtain ⟨t, pa, s⟩ := ha.ex
  refine ⟨_, DLS.pe_sortSet hc hg hm hg2 hm2 pa na, fun Fr B σ H ρ Q R k => s Fr B σ H ρ _ R (Ok.bind k fun v H1 b ρ1 st R1 r1 k => ?_)⟩
  obtain ⟨x, d, e1, e2, k⟩ := onOne_inv k
  have va := view_now r1 R1 e1
  unfold sortSetD at e2
  split at e2
  · rename_i xs
    cases q : toStrs xs with
    | none => rw [q] at e2; cases e2
    | some ss =>
      rw [q] at e2
      replace e2 : (if ss.length < 4000 then some (OD.l ((DLS.srtSet ss).map D.str)) else none) = some d := e2
      split at e2
      · cases e2
        rw [toStrs_eq q] at va
        obtain ⟨l, vs, rfl, h, r⟩ := va.lst
        rw [r.ofStrs] at h
        exact ⟨l, ss, rfl, h, by assumption, fun p hp => own_new R1 hp (own_lst hp (DatL.strs _)) k⟩
      · cases e2
  · cases e2
/-- list of a list or tuple -/
def listD : D → Option OD
  | .lst xs => some (.l xs)
  | .tup xs => some (.l xs)
  | _ => none
def rListOf (K : PySem.W.Frag) : V → Hp → VK → Prop := fun x H Q => ∃ p ys, x = V.ref p ∧ (SqL K H p ys ∨ SqT K H p ys) ∧ ∀ l, H l = none → Q (.ref l) (upd H l (.lst ys))
theorem call_listR : CallR X (.type "list") (rOne (rListOf X.K)) := CallR.imp call_list_of fun xs H Q ⟨x, e, a, bs, e2, h, q⟩ => ⟨a, bs, by rw [e, e2], h, q⟩
theorem ok_list : UnNew K (rListOf K) listD := ⟨fun {Fr B σ H ρ x a d Q} R va e k => by
  unfold listD at e
  split at e
  · cases e
    obtain ⟨p, vs, rfl, h, r⟩ := va.lst
    exact ⟨p, vs, rfl, .inl h, fun p hp => k _ _ (Step.new R hp) (R.new hp) ⟨p, rfl, own_lst hp r, R.fresh hp⟩⟩
  · cases e
    obtain ⟨p, vs, rfl, h, r⟩ := va.tup
    exact ⟨p, vs, rfl, .inr h.sq, fun p hp => k _ _ (Step.new R hp) (R.new hp) ⟨p, rfl, own_lst hp r, R.fresh hp⟩⟩
  · cases e⟩
/-- tuple of a list or tuple -/
def tupD : D → Option D
  | .lst xs => some (.tup xs)
  | .tup xs => some (.tup xs)
  | _ => none
def rTupOf (K : PySem.W.Frag) : V → Hp → VK → Prop := fun x H Q => ∃ p ys, x = V.ref p ∧ ((SqL K H p ys ∧ rNewT ys H Q) ∨ (SqT K H p ys ∧ Q (.ref p) H))
theorem call_tupR : CallR X (.type "tuple") (rOne (rTupOf X.K)) := by
  intro pins s σ H xs us Q I r h
  obtain ⟨x, rfl, p, ys, rfl, h⟩ := h
  obtain ⟨u, rfl, rx⟩ := Vals.one r
  cases rx
  rcases h with ⟨hq, q⟩ | ⟨hq, q⟩
  · obtain ⟨its, r', pl, hz⟩ := I.list hq
    have hlen := r'.length
    refine _root_.PySem.call_tuple_list pl.isList (fun h' kp => ?_) (by simp only [List.size_toArray] <;> omega)
    have I1 : L2.Inv X pins σ H { s with heap := h' } := I.kept (t' := s.toks) kp
    exact ⟨.ref h'.objs.size, _, Inv.tupP (tk := s.toks) I1 r' hz, rfl, q _ _ (I1.hok.fresh (Nat.le_refl _)) rfl⟩
  · exact call_tuple_of pins s σ H _ _ Q I r ⟨p, ys, rfl, .inr ⟨hq, q⟩⟩
theorem ok_tup : UnOk K (rTupOf K) tupD := ⟨fun {Fr B σ H ρ x a d Q} R va e k => by
  unfold tupD at e
  split at e
  · cases e
    obtain ⟨p, vs, rfl, h, r⟩ := va.lst
    exact ⟨p, vs, rfl, .inl ⟨h, fun p o hp hd => k _ _ (Step.new R hp) (R.new hp) (dat_tup_new hp hd r)⟩⟩
  · cases e
    obtain ⟨p, vs, rfl, h, r⟩ := va.tup
    exact ⟨p, vs, rfl, .inr ⟨h.sq, k _ H Step.refl R (.tup h r)⟩⟩
  · cases e⟩
end
end DL
set_option Elab.async false
set_option linter.all false
set_option maxRecDepth 100000
set_option maxHeartbeats 2000000
namespace DL
open PySem PySem.Spec L2

/-! ### readings said by what the function says -/
def canE (K : PySem.W.Frag) (W : WX) (f : Ev → Out D) : TE := fun σ H Q => ∃ Fr B ρ, Rep K Fr B σ H ρ ∧ Ok K W Fr B σ (relE K) Q H (f ρ)
def canR (K : PySem.W.Frag) (W : WX) (f : Ev → Out RV) : TE := fun σ H Q => ∃ Fr B ρ, Rep K Fr B σ H ρ ∧ Ok K W Fr B σ (relR K σ) Q H (f ρ)
def canN (K : PySem.W.Frag) (W : WX) (f : Ev → Out OD) : TE := fun σ H Q => ∃ Fr B ρ, Rep K Fr B σ H ρ ∧ Ok K W Fr B σ (relN K Fr σ) Q H (f ρ)
def canT (K : PySem.W.Frag) (W : WX) (f : Ev → Out Bool) : TT := fun σ H Q => ∃ Fr B ρ, Rep K Fr B σ H ρ ∧ Ok K W Fr B σ relT Q H (f ρ)
section
variable {X : Cx} {W : WX} {K : PySem.W.Frag}
theorem peImp {e : Expr} {t t' : TE} (h : PE X e t) (i : ∀ σ H Q, t' σ H Q → t σ H Q) : PE X e t' := ⟨fun pins s σ H Q I k => h.run pins s σ H Q I (i _ _ _ k)⟩
theorem peOr {e : Expr} {t t' : TE} (h : PE X e t) (h' : PE X e t') : PE X e (fun σ H Q => t σ H Q ∨ t' σ H Q) := ⟨fun pins s σ H Q I k => k.elim (h.run pins s σ H Q I) (h'.run pins s σ H Q I)⟩
theorem ptImp {e : Expr} {t t' : TT} (h : PT X e t) (i : ∀ σ H Q, t' σ H Q → t σ H Q) : PT X e t' := ⟨fun pins s σ H Q I k => h.run pins s σ H Q I (i _ _ _ k)⟩
theorem psImp {e : Stmt} {t t' : TS} (h : PS X e t) (i : ∀ σ H Q, t' σ H Q → t σ H Q) : PS X e t' := ⟨fun pins s σ H Q I k => h.run pins s σ H Q I (i _ _ _ k)⟩
theorem psOr {e : Stmt} {t t' : TS} (h : PS X e t) (h' : PS X e t') : PS X e (fun D σ H => t D σ H ∨ t' D σ H) := ⟨fun pins s σ H D I k => k.elim (h.run pins s σ H D I) (h'.run pins s σ H D I)⟩
theorem pssImp {e : List Stmt} {t t' : TS} (h : PSs X e t) (i : ∀ σ H Q, t' σ H Q → t σ H Q) : PSs X e t' := ⟨fun pins s σ H Q I k => h.run pins s σ H Q I (i _ _ _ k)⟩
theorem piImp {tg e : Expr} {t t' : TI} (h : PI X tg e t) (i : ∀ σ H R, t' σ H R → t σ H R) : PI X tg e t' := ⟨fun pins s σ H R I k => h.run pins s σ H R I (i _ _ _ k)⟩
theorem piOr {tg e : Expr} {t t' : TI} (h : PI X tg e t) (h' : PI X tg e t') : PI X tg e (fun σ H R => t σ H R ∨ t' σ H R) := ⟨fun pins s σ H R I k => k.elim (h.run pins s σ H R I) (h'.run pins s σ H R I)⟩
theorem pgImp {e : Expr} {t t' : TG} (h : PG X e t) (i : ∀ v σ H Q, t' v σ H Q → t v σ H Q) : PG X e t' := ⟨fun pins s σ H v u Q I r k => h.run pins s σ H v u Q I r (i _ _ _ _ k)⟩
theorem DE.can {e : Expr} {f : Ev → Out D} (h : DE X W e f) : PE X e (canE X.K W f) := by obtain ⟨t, p, s⟩ := h.ex; exact peImp p fun σ H Q ⟨Fr, B, ρ, R, k⟩ => s Fr B σ H ρ Q R k
theorem DR.can {e : Expr} {f : Ev → Out RV} (h : DR X W e f) : PE X e (canR X.K W f) := by obtain ⟨t, p, s⟩ := h.ex; exact peImp p fun σ H Q ⟨Fr, B, ρ, R, k⟩ => s Fr B σ H ρ Q R k
theorem DN.can {e : Expr} {f : Ev → Out OD} (h : DN X W e f) : PE X e (canN X.K W f) := by obtain ⟨t, p, s⟩ := h.ex; exact peImp p fun σ H Q ⟨Fr, B, ρ, R, k⟩ => s Fr B σ H ρ Q R k
theorem DT.can {e : Expr} {f : Ev → Out Bool} (h : DT X W e f) : PT X e (canT X.K W f) := by obtain ⟨t, p, s⟩ := h.ex; exact ptImp p fun σ H Q ⟨Fr, B, ρ, R, k⟩ => s Fr B σ H ρ Q R k
theorem DE.of {e : Expr} {f : Ev → Out D} (h : PE X e (canE X.K W f)) : DE X W e f := ⟨_, h, fun Fr B σ H ρ Q R k => ⟨Fr, B, ρ, R, k⟩⟩
theorem DN.of {e : Expr} {f : Ev → Out OD} (h : PE X e (canN X.K W f)) : DN X W e f := ⟨_, h, fun Fr B σ H ρ Q R k => ⟨Fr, B, ρ, R, k⟩⟩
end

/-! ### statements -/
inductive SOut where
  | nx (ρ : Ev)
  | rt (d : D) (ρ : Ev)
  | exc (c : Str) (ρ : Ev)
  | bad
def OkS (K : PySem.W.Frag) (W : WX) (Fr : Addr → Prop) (B : List (Nat × Addr)) (E : Ends) (H : Hp) : SOut → Prop
  | .nx ρ' => ∀ σ' H', Step Fr H H' → Rep K Fr B σ' H' ρ' → E.nx σ' H'
  | .rt d ρ' => ∀ v σ' H', Step Fr H H' → Rep K Fr B σ' H' ρ' → Dat K H' v d → E.rt v H'
  | .exc c ρ' => ∀ σ' H', Step Fr H H' → Rep K Fr B σ' H' ρ' → W (.ref (He.ga K c)) none σ' H'
  | .bad => False
def bindS {α : Type} (m : Out α) (k : α → Ev → SOut) : SOut := match m with
  | .val a ρ => k a ρ
  | .exc c ρ => .exc c ρ
  | .bad => .bad
def thenS (m : SOut) (g : Ev → SOut) : SOut := match m with
  | .nx ρ => g ρ
  | .rt d ρ => .rt d ρ
  | .exc c ρ => .exc c ρ
  | .bad => .bad
def seqS (f g : Ev → SOut) : Ev → SOut := fun ρ => thenS (f ρ) g
def canS (K : PySem.W.Frag) (W : WX) (f : Ev → SOut) : TS := fun E σ H => ∃ Fr B ρ, Rep K Fr B σ H ρ ∧ OkS K W Fr B E H (f ρ)
structure DS (X : Cx) (W : WX) (st : Stmt) (f : Ev → SOut) : Prop where
  can : PS X st (canS X.K W f)
structure DSs (X : Cx) (W : WX) (st : List Stmt) (f : Ev → SOut) : Prop where
  can : PSs X st (canS X.K W f)
section
variable {α ν : Type} {X : Cx} {W : WX} {K : PySem.W.Frag} {Fr : Addr → Prop} {B : List (Nat × Addr)} {E E' : Ends} {σ : St} {H H1 : Hp} {ρ : Ev}
theorem OkS.later {o : SOut} (h : OkS K W Fr B E H o) (st : Step Fr H H1) : OkS K W Fr B E H1 o := by
  cases o with
  | nx ρ => exact fun σ' H' s R => h σ' H' (st.trans s) R
  | rt d ρ => exact fun v σ' H' s R r => h v σ' H' (st.trans s) R r
  | exc c ρ => exact fun σ' H' s R => h σ' H' (st.trans s) R
  | bad => exact h
theorem OkS.bind {o : Out α} {k : α → Ev → SOut} {rel : Rel α ν} {Q : ν → Hp → Prop} (h : OkS K W Fr B E H (bindS o k))
    (f : ∀ v H1 a ρ1, Step Fr H H1 → Rep K Fr B σ H1 ρ1 → rel a ρ1 v H1 → OkS K W Fr B E H1 (k a ρ1) → Q v H1) : Ok K W Fr B σ rel Q H o := by
  cases o with
  | val a ρ => exact fun v H' s R r => f v H' a ρ s R r (OkS.later h s)
  | exc c ρ => exact fun H' s R => h σ H' s R
  | bad => exact h
/-- .. the rest of the suite -/
theorem OkS.then {o : SOut} {g : Ev → SOut} {N : St → Hp → Prop} (h : OkS K W Fr B E H (thenS o g)) (f : ∀ σ' H1 ρ1, Step Fr H H1 → Rep K Fr B σ' H1 ρ1 → OkS K W Fr B E H1 (g ρ1) → N σ' H1) (C : St → Hp → Prop) (Bk : St → Hp → Prop) : OkS K W Fr B { nx := N, rt := E.rt, bk := Bk, ct := C } H o := by
  cases o with
  | nx ρ => exact fun σ' H' s R => f σ' H' ρ s R (OkS.later h s)
  | rt d ρ => exact h
  | exc c ρ => exact h
  | bad => exact h
/-- only the ends that a suite reaches count -/
theorem OkS.ends {o : SOut} (h : OkS K W Fr B E H o) (h1 : ∀ σ H, E.nx σ H → E'.nx σ H) (h2 : ∀ v H, E.rt v H → E'.rt v H) : OkS K W Fr B E' H o := by
  cases o with
  | nx ρ => exact fun σ' H' s R => h1 _ _ (h σ' H' s R)
  | rt d ρ => exact fun v σ' H' s R r => h2 _ _ (h v σ' H' s R r)
  | exc c ρ => exact h
  | bad => exact h

theorem dss_nil : DSs X W [] .nx := ⟨pssImp pss_nil fun E σ H ⟨Fr, B, ρ, R, k⟩ => k σ H Step.refl R⟩
theorem dss_cons {st : Stmt} {rest : List Stmt} {f g : Ev → SOut} (h : DS X W st f) (hr : DSs X W rest g) : DSs X W (st :: rest) (seqS f g) :=
  ⟨pssImp (pss_cons h.can hr.can) fun E σ H ⟨Fr, B, ρ, R, k⟩ => ⟨Fr, B, ρ, R, OkS.then k (fun σ' H1 ρ1 s R1 k1 => ⟨Fr, B, ρ1, R1, k1⟩) E.ct E.bk⟩⟩
theorem ds_pass {pos : Pos} : DS X W (.Pass pos) .nx := ⟨psImp ps_pass fun E σ H ⟨Fr, B, ρ, R, k⟩ => k σ H Step.refl R⟩
theorem ds_doc {x j pos pos'} : DS X W (.Expr (.Constant (.str x) j pos) pos') .nx := ⟨psImp ps_doc fun E σ H ⟨Fr, B, ρ, R, k⟩ => k σ H Step.refl R⟩
theorem ds_never {st : Stmt} : DS X W st fun _ => .bad := ⟨psImp ps_never fun E σ H ⟨Fr, B, ρ, R, k⟩ => k⟩
def exprS (f : Ev → Out D) : Ev → SOut := fun ρ => bindS (f ρ) fun _ ρ1 => .nx ρ1
theorem ds_expr {e : Expr} {f : Ev → Out D} {pos : Pos} (h : DE X W e f) (hs : swapsWith e none pos.line X.env = pure false := by rfl) : DS X W (.Expr e pos) (exprS f) :=
  ⟨psImp (ps_expr h.can hs) fun E σ H ⟨Fr, B, ρ, R, k⟩ => ⟨Fr, B, ρ, R, OkS.bind k fun v H1 a ρ1 s R1 r k => k σ H1 Step.refl R1⟩⟩
def retS (f : Ev → Out D) : Ev → SOut := fun ρ => bindS (f ρ) fun d ρ1 => .rt d ρ1
theorem ds_ret {e : Expr} {f : Ev → Out D} {pos : Pos} (h : DE X W e f) : DS X W (.Return (some e) pos) (retS f) :=
  ⟨psImp (ps_ret h.can) fun E σ H ⟨Fr, B, ρ, R, k⟩ => ⟨Fr, B, ρ, R, OkS.bind k fun v H1 a ρ1 s R1 r k => k v σ H1 Step.refl R1 r⟩⟩
theorem ds_retN {pos : Pos} : DS X W (.Return none pos) (fun ρ => .rt .non ρ) := ⟨psImp ps_retN fun E σ H ⟨Fr, B, ρ, R, k⟩ => k .non σ H Step.refl R .non⟩
def ifS (c : Ev → Out Bool) (p q : Ev → SOut) : Ev → SOut := fun ρ => bindS (c ρ) fun b ρ1 => if b = true then p ρ1 else q ρ1
theorem ds_if {c : Expr} {a b : List Stmt} {fc : Ev → Out Bool} {p q : Ev → SOut} {pos : Pos} (hc : DT X W c fc) (ha : DSs X W a p) (hb : DSs X W b q) : DS X W (.If c a b pos) (ifS fc p q) :=
  ⟨psImp (ps_if hc.can ha.can hb.can) fun E σ H ⟨Fr, B, ρ, R, k⟩ => ⟨Fr, B, ρ, R, OkS.bind k fun v H1 c ρ1 s R1 r k => by
    have r : v = c := r
    subst r
    cases v with
    | true => exact ⟨Fr, B, ρ1, R1, k⟩
    | false => exact ⟨Fr, B, ρ1, R1, k⟩⟩⟩

/-! ### stores -/
/-- what may not be told anew: a slot of what was handed in, or none -/
def isRef (ρ : Ev) (i : Nat) : Bool := match ρ[i]? with
  | some (.ow true _) => true
  | none => true
  | _ => false
theorem isRef_no {i : Nat} (h : isRef ρ i = false) : i < ρ.length ∧ ∀ o, ρ[i]? ≠ some (.ow true o) := by
  unfold isRef at h
  cases e : ρ[i]? with
  | none => rw [e] at h; cases h
  | some a =>
    refine ⟨(List.getElem?_eq_some_iff.mp e).1, fun o z => ?_⟩
    have e' : a = .ow true o := Option.some.inj z
    subst e'
    rw [e] at h; cases h
def putS (i : Nat) (a : AV) (ρ : Ev) : SOut := if isRef ρ i = true then .bad else .nx (ρ.set i a)
def setS (i : Nat) (f : Ev → Out D) : Ev → SOut := fun ρ => bindS (f ρ) fun d ρ1 => putS i (.fz d) ρ1
def setN (i : Nat) (f : Ev → Out OD) : Ev → SOut := fun ρ => bindS (f ρ) fun d ρ1 => putS i (.ow false d) ρ1
theorem putS_ok {i : Nat} {a : AV} {v : V} (k : OkS K W Fr B E H (putS i a ρ)) (R : Rep K Fr B σ H ρ) (s : SlotOk K H (some (some v)) a)
    (f : ∀ r o p, a = .ow r o → v = V.ref p → Fresh Fr σ ρ p) : E.nx (σ.set i (some v)) H := by
  unfold putS at k
  cases h : isRef ρ i with
  | true => rw [h] at k; exact False.elim k
  | false =>
    rw [h] at k
    obtain ⟨h1, h2⟩ := isRef_no h
    exact k _ H Step.refl (R.put h1 h2 s f)
section
variable {i : Nat} {x : Str} {e : Expr} {pos pos' : Pos}
theorem ds_set {f : Ev → Out D} (hN : X.N.Nodup) (hi : X.N[i]? = some x) (hx : Loc X.env.scope x) (h : DE X W e f) (hf : X.fn x = true ∨ X.env.scope.names.lookup x = some .local := by first | exact .inl rfl | exact .inr rfl | assumption) (hs : swapsWith e (some (.Name x pos')) pos.line X.env = pure false := by rfl) :
    DS X W (.Assign [.Name x pos'] e pos) (setS i f) :=
  ⟨psImp (ps_set hN hi hx h.can hs hf) fun E σ H ⟨Fr, B, ρ, R, k⟩ => ⟨Fr, B, ρ, R, OkS.bind k fun v H1 d ρ1 s R1 r k => putS_ok k R1 ⟨v, rfl, r⟩ (fun _ _ _ z => nomatch z)⟩⟩
theorem ds_setN {f : Ev → Out OD} (hN : X.N.Nodup) (hi : X.N[i]? = some x) (hx : Loc X.env.scope x) (h : DN X W e f) (hf : X.fn x = true ∨ X.env.scope.names.lookup x = some .local := by first | exact .inl rfl | exact .inr rfl | assumption) (hs : swapsWith e (some (.Name x pos')) pos.line X.env = pure false := by rfl) :
    DS X W (.Assign [.Name x pos'] e pos) (setN i f) :=
  ⟨psImp (ps_set hN hi hx h.can hs hf) fun E σ H ⟨Fr, B, ρ, R, k⟩ => ⟨Fr, B, ρ, R, OkS.bind k fun v H1 d ρ1 s R1 r k => by
    obtain ⟨p, rfl, ow, fr⟩ := r
    exact putS_ok k R1 ⟨p, rfl, ow⟩ (fun _ _ _ z e => by cases z; cases e; exact fr)⟩⟩
end

/-! ### targets -/
inductive Tg where
  | nm (i : Nat)
  | tp (is : List Nat)
def setAll : List Nat → List D → Ev → Option Ev
  | [], [], ρ => some ρ
  | i :: is, d :: ds, ρ => if isRef ρ i = true then none else setAll is ds (ρ.set i (.fz d))
  | _, _, _ => none
def Tg.put : Tg → D → Ev → Option Ev
  | .nm i, d, ρ => if isRef ρ i = true then none else some (ρ.set i (.fz d))
  | .tp is, .tup ds, ρ => setAll is ds ρ
  | _, _, _ => none
def Tg.slots : Tg → List Nat
  | .nm i => [i]
  | .tp is => is
def canG (K : PySem.W.Frag) (g : Tg) : TG := fun v σ H Q => ∃ Fr B ρ d ρ', Rep K Fr B σ H ρ ∧ Dat K H v d ∧ g.put d ρ = some ρ' ∧ ∀ σ', Rep K Fr B σ' H ρ' → (∀ vs, (∀ i ∈ g.slots, i ∈ vs) → wipe σ' vs = wipe σ vs) → Q σ' H
def canGs (K : PySem.W.Frag) (is : List Nat) : TGs := fun v σ H Q => ∃ Fr B ρ ds ρ', Rep K Fr B σ H ρ ∧ DatL K H v ds ∧ setAll is ds ρ = some ρ' ∧ ∀ σ', Rep K Fr B σ' H ρ' → (∀ vs, (∀ i ∈ is, i ∈ vs) → wipe σ' vs = wipe σ vs) → Q σ' H
structure DG (X : Cx) (tg : Expr) (g : Tg) : Prop where
  can : PG X tg (canG X.K g)
structure DGs (X : Cx) (tg : List Expr) (g : List Nat) : Prop where
  can : PGs X tg (canGs X.K g)
theorem wipe_set {i : Nat} {a : Option V} : ∀ {vs : List Nat} {σ : St}, i ∈ vs → wipe (σ.set i a) vs = wipe σ vs
  | v :: vs, σ, h => by
    show (wipe (σ.set i a) vs).set v none = (wipe σ vs).set v none
    by_cases z : i ∈ vs
    · rw [wipe_set z]
    · have e : v = i := by
        cases h with
        | head => rfl
        | tail _ h => exact absurd h z
      subst e
      have out : ∀ (vs : List Nat) (τ : St), v ∉ vs → wipe (τ.set v a) vs = (wipe τ vs).set v a := by
        intro vs
        induction vs with
        | nil => intro τ _; rfl
        | cons w ws ih =>
          intro τ hv
          show (wipe (τ.set v a) ws).set w none = ((wipe τ ws).set w none).set v a
          rw [ih τ (fun q => hv (.tail _ q)), List.set_comm]
          rintro rfl
          exact hv (.head _)
      rw [out vs σ z, List.set_set]
section
variable {i : Nat} {x : Str} {pos : Pos}
theorem put_name {d : D} {v : V} (R : Rep K Fr B σ H ρ) (r : Dat K H v d) (h : isRef ρ i = false) : Rep K Fr B (σ.set i (some v)) H (ρ.set i (.fz d)) := by
  obtain ⟨h1, h2⟩ := isRef_no h
  exact R.put h1 h2 ⟨v, rfl, r⟩ (fun _ _ _ z => nomatch z)
theorem dg_name (hN : X.N.Nodup) (hi : X.N[i]? = some x) (hx : Loc X.env.scope x) (hf : X.fn x = true ∨ X.env.scope.names.lookup x = some .local := by first | exact .inl rfl | exact .inr rfl | assumption) : DG X (.Name x pos) (.nm i) := by
  refine ⟨pgImp (pg_name hN hi hx hf) fun v σ H Q ⟨Fr, B, ρ, d, ρ', R, r, e, q⟩ => ?_⟩
  replace e : (if isRef ρ i = true then none else some (ρ.set i (.fz d))) = some ρ' := e
  cases h : isRef ρ i with
  | true => rw [h] at e; cases e
  | false =>
    rw [h] at e; cases e
    exact q _ (put_name R r h) fun vs hv => wipe_set (hv i (.head _))
theorem dgs_nil : DGs X [] [] := ⟨⟨fun pins s σ H vs us Q I r ⟨Fr, B, ρ, ds, ρ', R, rd, e, q⟩ => pgs_nil.run pins s σ H vs us Q I r (by
  cases rd with
  | nil => cases e; exact ⟨rfl, q σ R fun _ _ => rfl⟩
  | cons => cases e)⟩⟩
theorem dgs_cons {es : List Expr} {is : List Nat} (hN : X.N.Nodup) (hi : X.N[i]? = some x) (hx : Loc X.env.scope x) (hr : DGs X es is) (hf : X.fn x = true ∨ X.env.scope.names.lookup x = some .local := by first | exact .inl rfl | exact .inr rfl | assumption)
    (hs : (assignEach (.Name x pos :: es) X.env).map (·.2) = assign (.Name x pos) X.env :: (assignEach es X.env).map (·.2) := by rfl) : DGs X (.Name x pos :: es) (i :: is) := by
  refine ⟨⟨fun pins s σ H vs us Q I r ⟨Fr, B, ρ, ds, ρ', R, rd, e, q⟩ => (pgs_cons (pg_name hN hi hx hf) hr.can hs).run pins s σ H vs us Q I r ?_⟩⟩
  cases rd with
  | nil => cases e
  | @cons v d vs ds hd hr =>
    unfold setAll at e
    cases h : isRef ρ i with
    | true => rw [h] at e; cases e
    | false =>
      rw [h] at e
      refine ⟨v, vs, rfl, Fr, B, _, ds, ρ', put_name R hd h, hr, e, fun σ' R' hw => q σ' R' fun ws hs => ?_⟩
      rw [hw ws (fun j hj => hs j (.tail _ hj)), wipe_set (hs i (.head _))]
theorem dg_tup {es : List Expr} {is : List Nat} {k : Nat} (hc : X.calm = true) (h : DGs X es is) (hn : (assignEach es X.env).length = is.length := by rfl) (hst : (assignEach es X.env).findIdx? (·.1) = none := by rfl) : DG X (.Tuple es k pos) (.tp is) := by
  refine ⟨pgImp (pg_tup hc h.can hn hst) fun v σ H Q ⟨Fr, B, ρ, d, ρ', R, r, e, q⟩ => ?_⟩
  cases r with
  | @tup a vs xs hv rv =>
    refine ⟨a, vs, rfl, hv.sq, ?_, Fr, B, ρ, xs, ρ', R, rv, e, q⟩
    have len : ∀ (is : List Nat) (ds : List D) (ρ ρ' : Ev), setAll is ds ρ = some ρ' → ds.length = is.length := by
      intro is
      induction is with
      | nil => intro ds ρ ρ' e; cases ds with | nil => rfl | cons => cases e
      | cons i is ih =>
        intro ds ρ ρ' e
        cases ds with
        | nil => cases e
        | cons d ds =>
          unfold setAll at e
          split at e
          · cases e
          · exact congrArg Nat.succ (ih ds _ _ e)
    rw [rv.length, len is xs ρ ρ' e]
  | _ => cases e
def tgS (g : Tg) (f : Ev → Out D) : Ev → SOut := fun ρ => bindS (f ρ) fun d ρ1 => match g.put d ρ1 with
  | some ρ2 => .nx ρ2
  | none => .bad
theorem ds_tgt {tg e : Expr} {g : Tg} {f : Ev → Out D} (hg : DG X tg g) (h : DE X W e f) (hs : swapsWithSole [tg] e pos.line X.env = pure false := by rfl) (hw : swappedStores [tg] e X.env = pure none := by rfl)
    (h1 : (assignEach [tg] X.env).map (·.2) = [assign tg X.env] := by rfl) : DS X W (.Assign [tg] e pos) (tgS g f) :=
  ⟨psImp (ps_asg h.can hg.can hs hw h1) fun E σ H ⟨Fr, B, ρ, R, k⟩ => ⟨Fr, B, ρ, R, OkS.bind k fun v H1 d ρ1 s R1 r k => by
    cases e : g.put d ρ1 with
    | none => rw [e] at k; exact False.elim k
    | some ρ2 =>
      rw [e] at k
      exact ⟨Fr, B, ρ1, d, ρ2, R1, r, e, fun σ' R' _ => k σ' H1 Step.refl R'⟩⟩⟩
/-- a, b = x, y -/
def parS (i j : Nat) (f : Ev → Out (List D)) : Ev → SOut := fun ρ => bindS (f ρ) fun ds ρ1 => match ds with
  | [a, b] => if isRef ρ1 i = true then .bad else if isRef ρ1 j = true then .bad else .nx ((ρ1.set i (.fz a)).set j (.fz b))
  | _ => .bad
theorem ds_par {j : Nat} {y : Str} {a b : Expr} {f : Ev → Out (List D)} {px py pt : Pos} {kt k2 pt2} (hc : X.calm = true) (hN : X.N.Nodup) (hi : X.N[i]? = some x) (hj : X.N[j]? = some y) (hij : i ≠ j)
    (hx : X.env.scope.names.lookup x = some .local) (hy : X.env.scope.names.lookup y = some .local) (h : DL_ X W [a, b] f)
    (hw : swappedStores [.Tuple [.Name x px, .Name y py] kt pt] (.Tuple [a, b] k2 pt2) X.env = pure (some [x, y]) := by rfl)
    (hs : swapsWithSole [.Tuple [.Name x px, .Name y py] kt pt] (.Tuple [a, b] k2 pt2) pos.line X.env = pure false := by rfl) : DS X W (.Assign [.Tuple [.Name x px, .Name y py] kt pt] (.Tuple [a, b] k2 pt2) pos) (parS i j f) := by
  obtain ⟨t, p, s⟩ := h.ex
  refine ⟨psImp (ps_par hc hN hi hj hij hx hy p hw hs) fun E σ H ⟨Fr, B, ρ, R, k⟩ => s Fr B σ H ρ _ R (OkS.bind k fun vs H1 ds ρ1 st R1 r k => ?_)⟩
  cases r with
  | nil => exact False.elim k
  | cons r1 r =>
    cases r with
    | nil => exact False.elim k
    | cons r2 r =>
      cases r with
      | cons => exact False.elim k
      | nil =>
        rename_i d1 _ d2
        refine ⟨_, _, rfl, ?_⟩
        replace k : OkS X.K W Fr B E H1 (if isRef ρ1 i = true then .bad else if isRef ρ1 j = true then .bad else .nx ((ρ1.set i (.fz d1)).set j (.fz d2))) := k
        cases h1 : isRef ρ1 i with
        | true => rw [h1] at k; exact False.elim k
        | false =>
          cases h2 : isRef ρ1 j with
          | true => rw [h1, h2] at k; exact False.elim k
          | false =>
            rw [h1, h2] at k
            refine k _ H1 Step.refl (put_name (put_name R1 r1 h1) r2 ?_)
            unfold isRef at h2 ⊢
            rw [List.getElem?_set_ne hij]
            exact h2
end

/-! ### loops -/
def whileS : Nat → (Ev → Out Bool) → (Ev → SOut) → Ev → SOut
  | 0, _, _ => fun _ => .bad
  | n + 1, c, b => fun ρ => bindS (c ρ) fun t ρ1 => if t = true then thenS (b ρ1) (whileS n c b) else .nx ρ1
theorem ds_while {c : Expr} {body : List Stmt} {fc : Ev → Out Bool} {fb : Ev → SOut} {pos : Pos} (n : Nat) (hp : PassesOwn (model X.prog X.w) X.A X.env X.xe) (hc : DT X W c fc) (hb : DSs X W body fb) : DS X W (.While c body [] pos) (whileS n fc fb) := by
  refine ⟨psImp (ps_while hp hc.can hb.can) fun E σ H ⟨Fr, B, ρ, R, k⟩ => ?_⟩
  refine ⟨fun m σ' H' => ∃ ρ', Rep X.K Fr B σ' H' ρ' ∧ Step Fr H H' ∧ OkS X.K W Fr B E H' (whileS m fc fb ρ'), ⟨n, ρ, R, Step.refl, k⟩, ?_⟩
  rintro m σ1 H1 ⟨ρ1, R1, s1, k1⟩
  cases m with
  | zero => exact False.elim k1
  | succ m =>
    refine ⟨Fr, B, ρ1, R1, OkS.bind k1 fun v H2 t ρ2 st R2 r k => ?_⟩
    have r : v = t := r
    subst r
    cases v with
    | false => exact k σ1 H2 Step.refl R2
    | true =>
      refine ⟨fun σ' H' => ∃ ρ', Rep X.K Fr B σ' H' ρ' ∧ Step Fr H H' ∧ OkS X.K W Fr B E H' (whileS m fc fb ρ'), fun σ' H' w => ⟨m, Nat.lt_succ_self m, w⟩, Fr, B, ρ2, R2, ?_⟩
      exact OkS.then k (fun σ' H3 ρ3 st3 R3 k3 => ⟨ρ3, R3, (s1.trans st).trans st3, k3⟩) _ _

structure Walks (K : PySem.W.Frag) (J : It) (H : Hp) (ds : List D) : Prop where
  go : ∀ H', Mono H H' → ∀ i, i < ds.length → J.go i H'
  yld : ∀ H', Mono H H' → ∀ i x H'', i < ds.length → J.yld i H' x H'' → H'' = H' ∧ ∃ d, ds[i]? = some d ∧ Dat K H' x d
  stop : ∀ H', Mono H H' → J.stop ds.length H'
theorem Walks.mono {J : It} {ds : List D} (h : Walks K J H ds) (m : Mono H H1) : Walks K J H1 ds := ⟨fun H' q => h.go H' (m.trans q), fun H' q => h.yld H' (m.trans q), fun H' q => h.stop H' (m.trans q)⟩
def relI (K : PySem.W.Frag) : Rel (List D) It := fun ds _ J H => Walks K J H ds
def canI (K : PySem.W.Frag) (W : WX) (f : Ev → Out (List D)) : TI := fun σ H R => ∃ Fr B ρ, Rep K Fr B σ H ρ ∧ Ok K W Fr B σ (relI K) R H (f ρ)
structure DI (X : Cx) (W : WX) (tg it : Expr) (f : Ev → Out (List D)) : Prop where
  can : PI X tg it (canI X.K W f)
def forS (g : Tg) (b : Ev → SOut) : List D → Ev → SOut
  | [], ρ => .nx ρ
  | d :: ds, ρ => match g.put d ρ with
    | some ρ1 => thenS (b ρ1) (forS g b ds)
    | none => .bad
def forF (it : Ev → Out (List D)) (g : Tg) (b : Ev → SOut) : Ev → SOut := fun ρ => bindS (it ρ) fun ds ρ1 => forS g b ds ρ1
theorem drop_cons {α : Type} {l : List α} {i : Nat} {d : α} (h : l[i]? = some d) : l.drop i = d :: l.drop (i + 1) := by
  obtain ⟨h1, h2⟩ := List.getElem?_eq_some_iff.mp h
  rw [List.drop_eq_getElem_cons h1, h2]
theorem ds_for {tg iter : Expr} {body : List Stmt} {it : Ev → Out (List D)} {g : Tg} {fb : Ev → SOut} {pos : Pos} (hp : PassesOwn (model X.prog X.w) X.A X.env X.xe) (hc : X.calm = true) (hi : DI X W tg iter it) (hg : DG X tg g) (hb : DSs X W body fb)
    (hs : ∀ x, foldedSetIterable iter X.env x = pure x := by intro _; rfl) : DS X W (.For tg iter body [] pos) (forF it g fb) := by
  refine ⟨psImp (ps_for hp hc hi.can hg.can hb.can hs) fun E σ H ⟨Fr, B, ρ, R, k⟩ => ⟨Fr, B, ρ, R, OkS.bind k fun J H1 ds ρ1 st R1 wk k => ?_⟩⟩
  have wk : Walks X.K J H1 ds := wk
  refine ⟨fun i m σ' H' => m = ds.length - i ∧ i ≤ ds.length ∧ ∃ ρ', Rep X.K Fr B σ' H' ρ' ∧ Step Fr H1 H' ∧ OkS X.K W Fr B E H' (forS g fb (ds.drop i) ρ'), ⟨ds.length, by simp, Nat.zero_le _, ρ1, R1, Step.refl, k⟩, ?_⟩
  rintro i m σ2 H2 ⟨rfl, hi, ρ2, R2, s2, k2⟩
  by_cases hlt : i < ds.length
  · obtain ⟨d, hd⟩ : ∃ d, ds[i]? = some d := ⟨_, List.getElem?_eq_getElem hlt⟩
    refine .inr ⟨wk.go H2 s2.mono i hlt, fun σ' H' => i + 1 ≤ ds.length ∧ ∃ ρ', Rep X.K Fr B σ' H' ρ' ∧ Step Fr H1 H' ∧ OkS X.K W Fr B E H' (forS g fb (ds.drop (i + 1)) ρ'), fun σ' H' w => ⟨ds.length - (i + 1), by omega, rfl, w⟩, fun x H' y => ?_⟩
    obtain ⟨rfl, d', hd', r⟩ := wk.yld H2 s2.mono i x H' hlt y
    rw [hd] at hd'; cases hd'
    rw [drop_cons hd] at k2
    unfold forS at k2
    cases e : g.put d ρ2 with
    | none => rw [e] at k2; exact False.elim k2
    | some ρ3 =>
      rw [e] at k2
      refine ⟨Fr, B, ρ2, d, ρ3, R2, r, e, fun σ' R' _ => ⟨Fr, B, ρ3, R', ?_⟩⟩
      exact OkS.then k2 (fun σ' H3 ρ4 st3 R3 k3 => ⟨hlt, ρ4, R3, s2.trans st3, k3⟩) _ _
  · have e : i = ds.length := by omega
    subst e
    refine .inl ⟨wk.stop H2 s2.mono, ?_⟩
    rw [List.drop_eq_nil_of_le (Nat.le_refl _)] at k2
    exact k2 σ2 H2 Step.refl R2
end
end DL
set_option Elab.async false
set_option linter.all false
set_option maxRecDepth 100000
set_option maxHeartbeats 2000000
namespace DL
open PySem PySem.Spec L2

/-! ### what is walked -/
def keyD : Key → D
  | .inl i => .int i
  | .inr s => .str s
def itD : D → Option (List D)
  | .lst xs => some xs
  | .tup xs => some xs
  | .str z => some (z.cps.toList.map fun c => .str ⟨#[c]⟩)
  | .dic kvs => some (kvs.map fun kv => keyD kv.1)
  | _ => none
def itF (f : Ev → Out D) : Ev → Out (List D) := fun ρ => (f ρ).bind fun d ρ1 => ofO (itD d) ρ1
section
variable {X : Cx} {W : WX} {K : PySem.W.Frag} {Fr : Addr → Prop} {B : List (Nat × Addr)} {E : Ends} {σ : St} {H H1 : Hp} {ρ ρ1 : Ev}
theorem dat_key {k : Key} : Dat K H (kV k) (keyD k) := by
  cases k with
  | inl i => exact .int
  | inr s => exact .str
theorem DatK.get : ∀ {vs : List (Key × V)} {ds : List (Key × D)} {i : Nat} {k : Key} {v : V}, DatK K H vs ds → vs[i]? = some (k, v) → ∃ d, ds[i]? = some (k, d) ∧ Dat K H v d
  | _, _, _, _, _, .nil, e => by simp at e
  | _, _, 0, _, _, .cons h _, e => by
    simp at e
    obtain ⟨rfl, rfl⟩ := e
    exact ⟨_, rfl, h⟩
  | _, _, i + 1, _, _, .cons _ r, e => by
    obtain ⟨d, h1, h2⟩ := DatK.get (i := i) r (by simpa using e)
    exact ⟨d, by simpa using h1, h2⟩
theorem walks_lst {a : Addr} {vs : List V} {ds : List D} (h : LstP K H a vs) (r : DatL K H vs ds) : Walks K (Itl K a) H ds := by
  refine ⟨fun H' m i hi => ?_, fun H' m i x H'' hi y => ?_, fun H' m => ⟨vs, (h.mono m).sq, by rw [r.length]; exact Nat.le_refl _⟩⟩
  · have hi' : i < vs.length := by rw [r.length]; exact hi
    exact ⟨vs, vs[i], (h.mono m).sq, List.getElem?_eq_getElem hi'⟩
  · obtain ⟨e, y⟩ := y
    obtain ⟨d, h1, h2⟩ := r.get' (y vs (h.mono m).sq)
    exact ⟨e, d, h1, h2.mono m⟩
theorem walks_tup {a : Addr} {vs : List V} {ds : List D} (h : TupP K H a vs) (r : DatL K H vs ds) : Walks K (Itt K a) H ds := by
  refine ⟨fun H' m i hi => ?_, fun H' m i x H'' hi y => ?_, fun H' m => ⟨vs, (h.mono m).sq, by rw [r.length]; exact Nat.le_refl _⟩⟩
  · have hi' : i < vs.length := by rw [r.length]; exact hi
    exact ⟨vs, vs[i], (h.mono m).sq, List.getElem?_eq_getElem hi'⟩
  · obtain ⟨e, y⟩ := y
    obtain ⟨d, h1, h2⟩ := r.get' (y vs (h.mono m).sq)
    exact ⟨e, d, h1, h2.mono m⟩
theorem walks_str {z : Str} : Walks K (Its z) H (z.cps.toList.map fun c => .str ⟨#[c]⟩) := by
  refine ⟨fun H' m i hi => (by simpa using hi : i < z.cps.size), fun H' m i x H'' hi y => ?_, fun H' m => by simp [Its]⟩
  obtain ⟨e, c, hc, rfl⟩ := y
  refine ⟨e, .str ⟨#[c]⟩, ?_, .str⟩
  rw [List.getElem?_map, Array.getElem?_toList, hc]; rfl
theorem walks_dic {a : Addr} {o : Obj} {vs : List (Key × V)} {ds : List (Key × D)} (h : H a = some (.frz o (.dK vs))) (r : DatK K H vs ds) : Walks K (Itk a o vs) H (ds.map fun kv => keyD kv.1) := by
  have hl := r.length
  refine ⟨fun H' m i hi => ⟨m _ _ h True.intro, by rw [hl]; simpa using hi⟩, fun H' m i x H'' hi y => ?_, fun H' m => ⟨m _ _ h True.intro, by rw [hl]; simp⟩⟩
  obtain ⟨e, k, v, hk, rfl⟩ := y
  obtain ⟨d, h1, _⟩ := r.get hk
  refine ⟨e, keyD k, ?_, dat_key⟩
  rw [List.getElem?_map, h1]; rfl
theorem di_seq {tg e : Expr} {f : Ev → Out D} (h : DE X W e f) : DI X W tg e (itF f) := by
  refine ⟨piImp (piOr (pi_list h.can) (piOr (pi_tup h.can) (piOr (pi_str h.can) (pi_keys h.can)))) fun σ H Q ⟨Fr, B, ρ, R, k⟩ => ?_⟩
  unfold itF at k
  cases e : f ρ with
  | bad => rw [e] at k; exact False.elim k
  | exc c ρ' => rw [e] at k; exact .inl ⟨Fr, B, ρ, R, by rw [e]; exact k⟩
  | val d ρ' =>
    rw [e] at k
    cases d with
    | lst xs => exact .inl ⟨Fr, B, ρ, R, by
        rw [e]; intro v H' st R' r
        cases (show Dat _ _ _ _ from r) with
        | lst h' r' => exact ⟨_, rfl, ⟨_, h'.sq⟩, k _ H' st R' (walks_lst h' r')⟩⟩
    | tup xs => exact .inr (.inl ⟨Fr, B, ρ, R, by
        rw [e]; intro v H' st R' r
        cases (show Dat _ _ _ _ from r) with
        | tup h' r' => exact ⟨_, rfl, ⟨_, h'.sq⟩, k _ H' st R' (walks_tup h' r')⟩⟩)
    | str z => exact .inr (.inr (.inl ⟨Fr, B, ρ, R, by
        rw [e]; intro v H' st R' r
        cases (show Dat _ _ _ _ from r) with
        | str => exact ⟨_, rfl, k _ H' st R' walks_str⟩⟩))
    | dic kvs => exact .inr (.inr (.inr ⟨Fr, B, ρ, R, by
        rw [e]; intro v H' st R' r
        cases (show Dat _ _ _ _ from r) with
        | dic h' r' => exact ⟨_, _, rfl, .inl ⟨_, h', k _ H' st R' (walks_dic h' r')⟩⟩⟩))
    | _ => exact False.elim k
/-- the keys of an odd dict -/
def Ito (d : Addr) (o : Obj) (ks : List V) : It := ⟨fun i H => H d = some (FixA d o) ∧ i < ks.length, fun i H x H' => H' = H ∧ ks[i]? = some x, fun i H => H d = some (FixA d o) ∧ ks.length ≤ i⟩
theorem vals_keys {ks : List V} {es : Array DictEntry} (hk : Vals ks (es.toList.map (·.key))) : es.size = ks.length := by have := hk.length; simpa using this.symm
theorem turn_odd {P : Program} {w : World} {K : PySem.W.Frag} {tg : Expr} {d : Addr} {o : Obj} {es : Array DictEntry} {ep : Nat} {ks : List V} (it : Addr) (hx : o.ExactDict) (hod : o.data = .dict es ep) (hk : Vals ks (es.toList.map (·.key))) : Turn P w K tg (Ito d o ks) [it] it (fun i h => h.IsKeyIter it d i es.size ep) where
  mem := by simp
  obj := fun i h st b hb => by
    have e : b = it := by simpa using hb
    subst e
    obtain ⟨oi, e, c, dd⟩ := st
    exact ⟨oi, e, fun v z => by rw [dd] at z; cases z⟩
  keep := fun i h h' st k => st.at fun oi e => k it (by simp) oi e
  item := by
    intro X hP hw hK hc i pins s σ H E I hf st hg
    subst hP hw hK
    obtain ⟨hd, hi⟩ := hg
    obtain ⟨f0, f1, f2, f3, f4, f5⟩ := hf it (by simp)
    obtain ⟨hgd, _⟩ := (show ObjOk X.prog X.w H s.heap d (FixA d o) from I.hok d _ hd)
    have hl := vals_keys hk
    have hi' : i < es.size := by omega
    obtain ⟨u, hu, ru⟩ := hk.get (List.getElem?_eq_getElem hi)
    refine PySem.wpAny_pyNext_keys_item_raw st ⟨o, hgd, hx, hod⟩ hi' fun h' st' sb => ?_
    have I1 : Inv X pins σ H { s with heap := h' } := I.turned (t' := s.toks) (fun b ob hb e => (sb.2 b hb).trans e) f0 f1 f3 f4 f5
    obtain ⟨oi, e, c, dd⟩ := id st'
    have eu : u = es[i].key := by
      rw [List.getElem?_map, Array.getElem?_toList, Array.getElem?_eq_getElem hi'] at hu
      exact (Option.some.inj hu).symm
    subst eu
    exact ⟨es[i].key, rfl, go_of (s := { s with heap := h' }) e c dd (by decide) ⟨ks[i], H, I1, ru, ⟨rfl, List.getElem?_eq_getElem hi⟩, st', fun b hb => (hf b hb).1⟩⟩
  done := by
    intro X hP hw hK hc i pins s σ H E I hf st hg
    subst hP hw hK
    obtain ⟨hd, hi⟩ := hg
    obtain ⟨f0, f1, f2, f3, f4, f5⟩ := hf it (by simp)
    obtain ⟨hgd, _⟩ := (show ObjOk X.prog X.w H s.heap d (FixA d o) from I.hok d _ hd)
    have hl := vals_keys hk
    exact next_key_end (I.ok.hd hc) st hgd hod rfl (by omega) fun h' eb => ⟨rfl, I.turned (t' := s.toks) (fun b ob hb e => eb b ob hb e) f0 f1 f3 f4 f5⟩
  self := fun A i s Q E st h => wpAny_pyIter_keyiter st h
def iKeys2 (td : TE) : TI := fun σ H R => td σ H fun x H1 => (∃ d o kvs, x = .ref d ∧ H1 d = some (.frz o (.dK kvs)) ∧ R (Itk d o kvs) H1) ∨
  ∃ (d : Addr) (o : Obj) (es : Array DictEntry) (ep : Nat) (ks : List V), x = .ref d ∧ H1 d = some (FixA d o) ∧ o.ExactDict ∧ o.data = .dict es ep ∧ (d == sysModules) = false ∧ Vals ks (es.toList.map (·.key)) ∧ R (Ito d o ks) H1
theorem pi_keys2 {tg e : Expr} {td : TE} {apos cpos : Pos} (he : PE X e td) (hbase : attributeBase e "keys" X.env (eval e X.env) = eval e X.env := by rfl) (hline : (apos.endLine == cpos.line) = true := by rfl) : PI X tg (.Call (.Attribute e "keys" apos) [] [] cpos) (iKeys2 td) := by
  refine ⟨fun pins s σ H R I h => ?_⟩
  refine wpAny_Call_method (T := "dict") (id := "dict.keys") hbase rfl hline PySem.F.plainAttrs_dict PySem.F.slot_dict_keys PySem.F.type_dict_keys (thn (he.run pins s σ H _ I h) fun u s1 ⟨x, H1, I1, rx, q⟩ => ?_)
  rcases q with ⟨d, o, kvs, ex, hd, q⟩ | ⟨d, o, es, ep, ks, ex, hd, hx, hod, hs, hk, q⟩
  · subst ex
    obtain rfl : u = Value.ref d := rx
    obtain ⟨hs, hgd, hx, es, ep, vs, hdt, hsz, kv, hm⟩ := I1.frzK hd
    have hl : kvs.length = vs.length := Paired.length kv
    refine ⟨hm.dictOf.typeIs, hm.dictOf.mapOf.noDict, ?_⟩
    have I2 : Inv X pins σ H1 { s1 with heap := s1.heap.push { cls := .type "dict_keys", data := .fields #[.ref d] } } := I1.kept (t' := s1.toks) fun b ob q => Heap.get?_push_of_some _ q
    have fin : wpAny (model X.prog X.w) X.A (pyIter (.ref s1.heap.objs.size)) (PIE X pins σ tg R) X.xe { s1 with heap := s1.heap.push { cls := .type "dict_keys", data := .fields #[.ref d] } } := by
      refine PySem.W.kdl_pyIter_keys (d := d) (knd := mixKind X.prog X.w) ⟨_, Heap.get?_push_size _ rfl, rfl, rfl⟩ (hm.push _) (pi_one (tk := s1.toks) I2 _ (turn_keys _ hdt) ⟨_, Heap.get?_push_size _ rfl, rfl, ?_⟩ q)
      rw [hl] <;> rfl
    show wpAny _ _ (callWith cpos (.builtin "dict.keys") [.ref d] [] []) _ X.xe s1
    exact method_meetsIn PySem.F.slot_dict_keys PySem.F.entry_dict_keys rfl (PySem.evalArgs_none ⟨rfl, hm.dictOf.typeIs, PySem.F.args_dict_keys_1 _, _, PySem.W.kdl_meets_keys (mixKind X.prog X.w) d hs, ⟨vs, hm.dictOf⟩, fin⟩)
  · subst ex
    obtain rfl : u = Value.ref d := rx
    obtain ⟨hgd, _⟩ := (show ObjOk X.prog X.w H1 s1.heap d (FixA d o) from I1.hok d _ hd)
    have hr : s1.heap.DictRaw d es ep := ⟨o, hgd, hx, hod⟩
    have hr2 : (s1.heap.push { cls := .type "dict_keys", data := .fields #[.ref d] }).DictRaw d es ep := hr.push _
    refine ⟨hr.typeIs, fun b q => ?_, ?_⟩
    · cases q; exact ⟨o, hgd, hx.2.1⟩
    have I2 : Inv X pins σ H1 { s1 with heap := s1.heap.push { cls := .type "dict_keys", data := .fields #[.ref d] } } := I1.kept (t' := s1.toks) fun b ob q => Heap.get?_push_of_some _ q
    have fin : wpAny (model X.prog X.w) X.A (pyIter (.ref s1.heap.objs.size)) (PIE X pins σ tg R) X.xe { s1 with heap := s1.heap.push { cls := .type "dict_keys", data := .fields #[.ref d] } } := by
      refine PySem.wpAny_pyIter_keys_raw (d := d) ⟨_, Heap.get?_push_size _ rfl, rfl, rfl⟩ hr2 (pi_one (tk := s1.toks) I2 _ (turn_odd _ hx hod hk) ⟨_, Heap.get?_push_size _ rfl, rfl, rfl⟩ q)
    show wpAny _ _ (callWith cpos (.builtin "dict.keys") [.ref d] [] []) _ X.xe s1
    exact method_meetsIn PySem.F.slot_dict_keys PySem.F.entry_dict_keys rfl (PySem.evalArgs_none ⟨rfl, hr.typeIs, PySem.F.args_dict_keys_1 _, _, PySem.meets_dict_keys_raw d hs, ⟨⟨es, ep, hr⟩, fin⟩⟩)
theorem walks_odd {a : Addr} {o : Obj} {vs : List V} {ds : List D} (h : H a = some (FixA a o)) (r : DatL K H vs ds) : Walks K (Ito a o vs) H ds := by
  have hl := r.length
  refine ⟨fun H' m i hi => ⟨m _ _ h True.intro, by rw [hl]; exact hi⟩, fun H' m i x H'' hi y => ?_, fun H' m => ⟨m _ _ h True.intro, by rw [hl]; exact Nat.le_refl _⟩⟩
  obtain ⟨e, hk⟩ := y
  obtain ⟨d, h1, h2⟩ := r.get' hk
  exact ⟨e, d, h1, h2.mono m⟩
def keysF (f : Ev → Out D) : Ev → Out (List D) := fun ρ => (f ρ).bind fun d ρ1 => match d with
  | .dic kvs => .val (kvs.map fun kv => keyD kv.1) ρ1
  | .odd ks => .val ks ρ1
  | _ => .bad
theorem di_keys {tg e : Expr} {f : Ev → Out D} {apos cpos : Pos} (h : DE X W e f) (hbase : attributeBase e "keys" X.env (eval e X.env) = eval e X.env := by rfl) (hline : (apos.endLine == cpos.line) = true := by rfl) : DI X W tg (.Call (.Attribute e "keys" apos) [] [] cpos) (keysF f) := by
  refine ⟨piImp (pi_keys2 h.can hbase hline) fun σ H Q ⟨Fr, B, ρ, R, k⟩ => ⟨Fr, B, ρ, R, Ok.bind k fun v H1 d ρ1 st R1 r k => ?_⟩⟩
  cases (show Dat _ _ _ _ from r) with
  | dic h' r' => exact .inl ⟨_, _, _, rfl, h', k _ H1 Step.refl R1 (walks_dic h' r')⟩
  | odd h' r' =>
    obtain ⟨o, es, ep, ha, hx, hod, hm, hz, hk⟩ := h'
    exact .inr ⟨_, o, es, ep, _, rfl, ha, hx, hod, hm, hk, k _ H1 Step.refl R1 (walks_odd ha r')⟩
  | _ => exact False.elim k
def rangeD (lo : Int) (n : Nat) : List D := (List.range n).map fun (i : Nat) => D.int (lo + (i : Int))
theorem walks_range {lo : Int} {n : Nat} : Walks K (Itr lo n) H (rangeD lo n) := by
  refine ⟨fun H' m i hi => (by simpa [rangeD] using hi : i < n), fun H' m i x H'' hi y => ?_, fun H' m => by simp [rangeD, Itr]⟩
  obtain ⟨e, rfl⟩ := y
  refine ⟨e, .int (lo + i), ?_, .int⟩
  have hi' : i < n := by simpa [rangeD] using hi
  simp [rangeD, hi']
def rng1F (f : Ev → Out (List D)) : Ev → Out (List D) := fun ρ => (f ρ).bind fun ds ρ1 => match ds with
  | [.int j] => if -(2 ^ 62) ≤ j ∧ j < 2 ^ 62 then .val (rangeD 0 j.toNat) ρ1 else .bad
  | _ => .bad
theorem di_range1 {tg a : Expr} {f : Ev → Out (List D)} {p pos : Pos} (hg : Gl X "range") (hm : X.mg "range" = none) (h : DL_ X W [a] f) (hs : starEach [a] X.env = [(false, eval a X.env)] := by rfl) : DI X W tg (.Call (.Name "range" p) [a] [] pos) (rng1F f) := by
  obtain ⟨t, pa, s⟩ := h.ex
  refine ⟨piImp (pi_range1 hg hm pa hs) fun σ H Q ⟨Fr, B, ρ, R, k⟩ => s Fr B σ H ρ _ R (Ok.bind k fun vs H1 ds ρ1 st R1 r k => ?_)⟩
  cases (show DatL _ _ _ _ from r) with
  | nil => exact False.elim k
  | cons h1 r1 =>
    cases r1 with
    | cons => cases h1 <;> exact False.elim k
    | nil =>
      cases h1 <;> try exact False.elim k
      rename_i j
      replace k : Ok X.K W Fr B σ (relI X.K) Q H1 (if -(2 ^ 62) ≤ j ∧ j < 2 ^ 62 then .val (rangeD 0 j.toNat) ρ1 else .bad) := k
      by_cases hj : -(2 ^ 62) ≤ j ∧ j < 2 ^ 62
      · rw [if_pos hj] at k
        exact ⟨j, rfl, hj.1, hj.2, k _ H1 Step.refl R1 walks_range⟩
      · rw [if_neg hj] at k; exact False.elim k
def rng2F (f : Ev → Out (List D)) : Ev → Out (List D) := fun ρ => (f ρ).bind fun ds ρ1 => match ds with
  | [.int i, .int j] => if -(2 ^ 62) ≤ i ∧ i < 2 ^ 62 ∧ -(2 ^ 62) ≤ j ∧ j < 2 ^ 62 then .val (rangeD i (j - i).toNat) ρ1 else .bad
  | _ => .bad
theorem di_range2 {tg a b : Expr} {f : Ev → Out (List D)} {p pos : Pos} (hg : Gl X "range") (hm : X.mg "range" = none) (h : DL_ X W [a, b] f) (hs : starEach [a, b] X.env = [(false, eval a X.env), (false, eval b X.env)] := by rfl) (hs2 : starEach [b] X.env = [(false, eval b X.env)] := by rfl) : DI X W tg (.Call (.Name "range" p) [a, b] [] pos) (rng2F f) := by
  obtain ⟨t, pa, s⟩ := h.ex
  refine ⟨piImp (pi_range2 hg hm pa hs hs2) fun σ H Q ⟨Fr, B, ρ, R, k⟩ => s Fr B σ H ρ _ R (Ok.bind k fun vs H1 ds ρ1 st R1 r k => ?_)⟩
  cases (show DatL _ _ _ _ from r) with
  | nil => exact False.elim k
  | cons h1 r1 =>
    cases r1 with
    | nil => cases h1 <;> exact False.elim k
    | cons h2 r2 =>
      cases r2 with
      | cons => cases h1 <;> cases h2 <;> exact False.elim k
      | nil =>
        cases h1 <;> try exact False.elim k
        cases h2 <;> try exact False.elim k
        rename_i i j
        replace k : Ok X.K W Fr B σ (relI X.K) Q H1 (if -(2 ^ 62) ≤ i ∧ i < 2 ^ 62 ∧ -(2 ^ 62) ≤ j ∧ j < 2 ^ 62 then .val (rangeD i (j - i).toNat) ρ1 else .bad) := k
        by_cases hj : -(2 ^ 62) ≤ i ∧ i < 2 ^ 62 ∧ -(2 ^ 62) ≤ j ∧ j < 2 ^ 62
        · rw [if_pos hj] at k
          exact ⟨i, j, rfl, hj, k _ H1 Step.refl R1 walks_range⟩
        · rw [if_neg hj] at k; exact False.elim k

/-! ### a block's own names -/
def wipeE (ρ : Ev) : List Nat → Ev
  | [] => ρ
  | v :: vs => (wipeE ρ vs).set v .un
def okW (ρ : Ev) (vs : List Nat) : Bool := vs.all fun i => !isRef ρ i
def keepA : Option AV → AV
  | some (.fz d) => .fz d
  | _ => .un
def restE (ρ1 ρ2 : Ev) : List Nat → Ev
  | [] => ρ2
  | v :: vs => (restE ρ1 ρ2 vs).set v (keepA ρ1[v]?)
theorem Rep.unset {i : Nat} (R : Rep K Fr B σ H ρ) (no : ∀ o, ρ[i]? ≠ some (.ow true o)) : Rep K Fr B (σ.set i none) H (ρ.set i .un) := by
  have at' : ∀ {j : Nat} {b : AV}, (ρ.set i .un)[j]? = some b → (j = i ∧ b = .un) ∨ (j ≠ i ∧ ρ[j]? = some b) := fun {j b} q => by
    by_cases z : i = j
    · subst z
      rw [List.getElem?_set_self' ] at q
      cases e : ρ[i]? with
      | none => rw [e] at q; cases q
      | some a => rw [e] at q; exact .inl ⟨rfl, (Option.some.inj q).symm⟩
    · rw [get_set_ne z] at q; exact .inr ⟨Ne.symm z, q⟩
  have atσ : ∀ {j : Nat}, j ≠ i → (σ.set i none)[j]? = σ[j]? := fun {j} z => get_set_ne (Ne.symm z)
  have own' : ∀ {j : Nat} {r' : Bool} {q : OD}, (ρ.set i .un)[j]? = some (.ow r' q) → j ≠ i ∧ ρ[j]? = some (.ow r' q) := fun {j r' q} h => by
    rcases at' h with ⟨_, h'⟩ | h'
    · cases h'
    · exact h'
  refine ⟨by rw [List.length_set, List.length_set]; exact R.len, fun j b h => ?_, fun j q r' x h1 h2 => ?_, fun j k q r1 x1 r2 x2 h1 h2 h3 h4 => ?_, R.tr, fun q hq => ?_⟩
  · rcases at' h with ⟨rfl, rfl⟩ | ⟨ne, h⟩
    · exact True.intro
    · rw [atσ ne]; exact R.at_ j b h
  · obtain ⟨n, g⟩ := own' h1
    rw [atσ n] at h2; exact R.fr j q r' x g h2
  · obtain ⟨n1, g1⟩ := own' h1
    obtain ⟨n2, g2⟩ := own' h2
    rw [atσ n1] at h3; rw [atσ n2] at h4
    exact R.inj j k q _ _ _ _ g1 g2 h3 h4
  · obtain ⟨h1, x, h2⟩ := R.rb q hq
    have ne : q.1 ≠ i := fun z => by rw [z] at h2; exact no x h2
    rw [atσ ne, get_set_ne (Ne.symm ne)]
    exact ⟨h1, x, h2⟩
theorem wipeE_ref : ∀ {vs : List Nat} {i : Nat} {o : OD}, (wipeE ρ vs)[i]? = some (.ow true o) → ρ[i]? = some (.ow true o)
  | [], _, _, h => h
  | v :: vs, i, o, h => by
    unfold wipeE at h
    by_cases z : v = i
    · subst z
      rw [List.getElem?_set_self'] at h
      cases e : (wipeE ρ vs)[v]? with
      | none => rw [e] at h; cases h
      | some a => rw [e] at h; cases h
    · rw [get_set_ne z] at h; exact wipeE_ref h
theorem Rep.wipe : ∀ {vs : List Nat}, Rep K Fr B σ H ρ → okW ρ vs = true → Rep K Fr B (L2.wipe σ vs) H (wipeE ρ vs)
  | [], R, _ => R
  | v :: vs, R, h => by
    unfold okW at h
    rw [List.all_cons, Bool.and_eq_true] at h
    have h1 : isRef ρ v = false := by simpa using h.1
    exact (Rep.wipe (vs := vs) R h.2).unset fun o e => (isRef_no h1).2 o (wipeE_ref e)
theorem restE_out {ρ2 : Ev} : ∀ {vs : List Nat} {j : Nat} {a : AV}, (restE ρ1 ρ2 vs)[j]? = some a → (j ∉ vs ∧ ρ2[j]? = some a) ∨ a = keepA ρ1[j]?
  | [], j, a, h => .inl ⟨by simp, h⟩
  | v :: vs, j, a, h => by
    unfold restE at h
    by_cases z : v = j
    · subst z
      rw [List.getElem?_set_self'] at h
      cases e : (restE ρ1 ρ2 vs)[v]? with
      | none => rw [e] at h; cases h
      | some b => rw [e] at h; exact .inr (Option.some.inj h).symm
    · rw [get_set_ne z] at h
      rcases restE_out h with ⟨h1, h2⟩ | h1
      · exact .inl ⟨by simp only [List.mem_cons, not_or]; exact ⟨fun e => z e.symm, h1⟩, h2⟩
      · exact .inr h1
theorem restE_in {ρ2 : Ev} : ∀ {vs : List Nat} {j : Nat}, j ∉ vs → (restE ρ1 ρ2 vs)[j]? = ρ2[j]?
  | [], _, _ => rfl
  | v :: vs, j, h => by
    unfold restE
    rw [get_set_ne (fun e => h (by rw [e]; exact .head _))]
    exact restE_in fun m => h (.tail _ m)
theorem restE_length {ρ2 : Ev} : ∀ vs : List Nat, (restE ρ1 ρ2 vs).length = ρ2.length
  | [] => rfl
  | v :: vs => by unfold restE; rw [List.length_set]; exact restE_length vs
/-- the frame behind a block -/
theorem Rep.unwipe {vs : List Nat} {H' : Hp} {ρ2 : Ev} (R : Rep K Fr B σ H ρ1) (m : Mono H H') (R2 : Rep K Fr B (L2.wipe σ vs) H' ρ2) : Rep K Fr B σ H' (restE ρ1 ρ2 vs) := by
  have own' : ∀ {j : Nat} {r : Bool} {o : OD}, (restE ρ1 ρ2 vs)[j]? = some (.ow r o) → j ∉ vs ∧ ρ2[j]? = some (.ow r o) := fun {j r o} h => by
    rcases restE_out h with h | h
    · exact h
    · exfalso
      cases e : ρ1[j]? with
      | none => rw [e] at h; cases h
      | some a => rw [e] at h; cases a <;> cases h
  refine ⟨by rw [restE_length, R2.len, wipe_length], fun j a h => ?_, fun j p r o h1 h2 => ?_, fun i j p r o r' o' h1 h2 h3 h4 => ?_, fun b hb => R2.tr b hb, fun q hq => ?_⟩
  · rcases restE_out h with ⟨h1, h2⟩ | rfl
    · have s := R2.at_ j a h2
      rw [wipe_out h1] at s; exact s
    · cases e : ρ1[j]? with
      | none => exact True.intro
      | some a =>
        cases a with
        | un => exact True.intro
        | ow => exact True.intro
        | fz d => obtain ⟨v, e1, x⟩ := R.at_ j _ e; exact ⟨v, e1, x.mono m⟩
  · obtain ⟨n, g⟩ := own' h1
    exact R2.fr j p r o g (by rw [wipe_out n]; exact h2)
  · obtain ⟨n1, g1⟩ := own' h1
    obtain ⟨n2, g2⟩ := own' h2
    exact R2.inj i j p _ _ _ _ g1 g2 (by rw [wipe_out n1]; exact h3) (by rw [wipe_out n2]; exact h4)
  · obtain ⟨h1, x, h2⟩ := R2.rb q hq
    obtain ⟨h3, n⟩ := wipe_some h1
    exact ⟨h3, x, by rw [restE_in n]; exact h2⟩
theorem wipe_wipe {vs : List Nat} : L2.wipe (L2.wipe σ vs) vs = L2.wipe σ vs := by
  apply List.ext_getElem?
  intro i
  by_cases h : i ∈ vs
  · have z : ∀ (vs : List Nat) (τ : St), i ∈ vs → (L2.wipe τ vs)[i]? = (if i < τ.length then some none else none) := by
      intro vs
      induction vs with
      | nil => intro τ h; cases h
      | cons v vs ih =>
        intro τ h
        unfold L2.wipe
        by_cases e : v = i
        · subst e
          by_cases hl : v < τ.length
          · rw [if_pos hl, List.getElem?_set_self (by rw [wipe_length]; exact hl)]
          · rw [if_neg hl, List.getElem?_eq_none (by rw [List.length_set, wipe_length]; omega)]
        · rw [get_set_ne e]
          cases h with
          | head => exact absurd rfl e
          | tail _ h => exact ih τ h
    rw [z vs _ h, z vs _ h, wipe_length]
  · rw [wipe_out h]

/-! ### comprehensions -/
def W0 : WX := fun _ _ _ _ => False
def lcLoop (g : Tg) (tt : Ev → Out Bool) (te : Ev → Out D) (vs : List Nat) : List D → Ev → List D → Out (List D)
  | [], ρ, acc => .val acc ρ
  | d :: ds, ρ, acc => match g.put d ρ with
    | none => .bad
    | some ρ1 => match tt ρ1 with
      | .val true ρ2 => match te ρ2 with
        | .val y ρ3 => if acc.length < sizeLine ∧ okW ρ3 vs = true then lcLoop g tt te vs ds (wipeE ρ3 vs) (acc ++ [y]) else .bad
        | _ => .bad
      | .val false ρ2 => if okW ρ2 vs = true then lcLoop g tt te vs ds (wipeE ρ2 vs) acc else .bad
      | _ => .bad
def lcF (it : Ev → Out (List D)) (g : Tg) (tt : Ev → Out Bool) (te : Ev → Out D) (vs : List Nat) : Ev → Out OD := fun ρ => (it ρ).bind fun ds ρ1 =>
  if okW ρ1 vs = true then (lcLoop g tt te vs ds (wipeE ρ1 vs) []).bind fun acc ρ2 => .val (.l acc) (restE ρ1 ρ2 vs) else .bad
structure DTs (X : Cx) (W : WX) (es : List Expr) (f : Ev → Out Bool) : Prop where
  can : PTs X es (canT X.K W f)
def yesF : Ev → Out Bool := fun ρ => .val true ρ
theorem dts_nil : DTs X W [] yesF := ⟨⟨fun pins s σ H Q I ⟨Fr, B, ρ, R, k⟩ => pts_nil.run pins s σ H Q I (k true H Step.refl R rfl)⟩⟩
theorem dts_one {c : Expr} {f : Ev → Out Bool} (h : DT X W c f) : DTs X W [c] f := ⟨pts_one h.can⟩
theorem Rep.mine {p : Addr} {u w : HO} (R : Rep K (fun b => Fr b ∨ b = p) B σ H ρ) (nf : ¬ Fr p) (e : H p = some w) (n : ¬ Imm w) : Rep K (fun b => Fr b ∨ b = p) B σ (upd H p u) ρ := by
  have f : Fresh Fr σ ρ p := ⟨nf, fun i r o e1 e2 => R.fr i p r o e1 e2 (.inr rfl)⟩
  have R1 : Rep K Fr B σ (upd H p u) ρ := (R.unguard fun b h => .inl h).other f e n
  exact R1.guard f (by rw [upd_same]; exact nofun)
theorem lc_sem {it : Ev → Out (List D)} {g : Tg} {tt : Ev → Out Bool} {te : Ev → Out D} {vs : List Nat} {Q : VK} (hsl : ∀ i ∈ g.slots, i ∈ vs) (h : canN K W (lcF it g tt te vs) σ H Q) : tLc (canI K W it) (canG K g) (canT K W0 tt) (canE K W0 te) vs σ H Q := by
  obtain ⟨Fr, B, ρ, R, k⟩ := h
  refine ⟨Fr, B, ρ, R, Ok.bind k fun J H1 ds ρ1 st R1 wk k => ?_⟩
  have wk : Walks K J H1 ds := wk
  intro D hD
  have nD : ¬ Fr D := fun z => R1.tr D z hD
  cases hw : okW ρ1 vs with
  | false => rw [if_neg (by rw [hw]; decide)] at k; exact False.elim k
  | true =>
    rw [if_pos hw] at k
    have base : Rep K (fun b => Fr b ∨ b = D) B (L2.wipe σ vs) (upd H1 D (.lst [])) (wipeE ρ1 vs) := by
      have Rw := R1.wipe hw
      exact (Rw.new (u := .lst []) hD).guard (Rw.fresh hD) (by rw [upd_same]; exact nofun)
    refine ⟨fun i m H' => m = ds.length - i ∧ i ≤ ds.length ∧ ∃ ρ' acc accV, Rep K (fun b => Fr b ∨ b = D) B (L2.wipe σ vs) H' ρ' ∧ Step Fr H1 H' ∧ H' D = some (.lst accV) ∧ DatL K H' accV acc ∧
      Ok K W Fr B σ (relN K Fr σ) Q H' ((lcLoop g tt te vs (ds.drop i) ρ' acc).bind fun acc ρ2 => .val (.l acc) (restE ρ1 ρ2 vs)), ⟨ds.length, by simp, Nat.zero_le _, _, [], [], base, Step.new R1 hD, upd_same, .nil, Ok.later k (Step.new R1 hD)⟩, ?_⟩
    rintro i m H2 ⟨rfl, hi, ρ2, acc, accV, R2, s2, hl2, ra, k2⟩
    by_cases hlt : i < ds.length
    · obtain ⟨d, hd⟩ : ∃ d, ds[i]? = some d := ⟨_, List.getElem?_eq_getElem hlt⟩
      refine .inr ⟨wk.go H2 s2.mono i hlt, fun H' => i + 1 ≤ ds.length ∧ ∃ ρ' acc accV, Rep K (fun b => Fr b ∨ b = D) B (L2.wipe σ vs) H' ρ' ∧ Step Fr H1 H' ∧ H' D = some (.lst accV) ∧ DatL K H' accV acc ∧
        Ok K W Fr B σ (relN K Fr σ) Q H' ((lcLoop g tt te vs (ds.drop (i + 1)) ρ' acc).bind fun acc ρ2 => .val (.l acc) (restE ρ1 ρ2 vs)), fun H' w => ⟨ds.length - (i + 1), by omega, rfl, w⟩, fun x H' y => ?_⟩
      obtain ⟨rfl, d', hd', r⟩ := wk.yld H2 s2.mono i x H' hlt y
      rw [hd] at hd'; cases hd'
      rw [drop_cons hd] at k2
      unfold lcLoop at k2
      cases e : g.put d ρ2 with
      | none => rw [e] at k2; exact False.elim k2
      | some ρ3 =>
        rw [e] at k2
        dsimp only at k2
        refine ⟨_, B, ρ2, d, ρ3, R2, r, e, fun σ2 R3 hwp => ⟨(hwp vs hsl).trans wipe_wipe, ?_⟩⟩
        have hwp' : L2.wipe σ2 vs = L2.wipe σ vs := (hwp vs hsl).trans wipe_wipe
        refine ⟨_, B, ρ3, R3, ?_⟩
        cases et : tt ρ3 with
        | bad => rw [et] at k2; exact False.elim k2
        | exc c ρ4 => rw [et] at k2; exact False.elim k2
        | val b ρ4 =>
          rw [et] at k2
          intro v H3 st3 R4 rv
          have rv : v = b := rv
          subst rv
          have s3 : Step Fr H1 H3 := s2.trans (st3.wide fun b h => .inl h)
          have hl3 : H3 D = some (.lst accV) := (st3.keep D (.inr rfl)).trans hl2
          cases v with
          | false =>
            dsimp only at k2
            cases hw4 : okW ρ4 vs with
            | false => rw [if_neg (by rw [hw4]; decide)] at k2; exact False.elim k2
            | true =>
              rw [if_pos hw4] at k2
              have R5 := R4.wipe hw4
              rw [hwp'] at R5
              exact ⟨hlt, _, acc, accV, R5, s3, hl3, ra.mono st3.mono, Ok.later k2 (st3.wide fun b h => .inl h)⟩
          | true =>
            dsimp only at k2
            refine ⟨_, B, ρ4, R4, ?_⟩
            cases ee : te ρ4 with
            | bad => rw [ee] at k2; exact False.elim k2
            | exc c ρ5 => rw [ee] at k2; exact False.elim k2
            | val y5 ρ5 =>
              rw [ee] at k2
              dsimp only at k2
              intro v H4 st4 R5 rv
              have rv : Dat K H4 v y5 := rv
              have s4 : Step Fr H1 H4 := s3.trans (st4.wide fun b h => .inl h)
              have hl4 : H4 D = some (.lst accV) := (st4.keep D (.inr rfl)).trans hl3
              by_cases hz : acc.length < sizeLine ∧ okW ρ5 vs = true
              · rw [if_pos hz] at k2
                have ra4 : DatL K H4 accV acc := (ra.mono st3.mono).mono st4.mono
                have s5 : Step Fr H4 (upd H4 D (.lst (accV ++ [v]))) := Step.other nD hl4 (fun z => z)
                have R6 := (R5.mine (u := .lst (accV ++ [v])) nD hl4 (fun z => z)).wipe hz.2
                rw [hwp'] at R6
                refine ⟨accV, hl4, by rw [ra.length]; exact hz.1, hlt, _, acc ++ [y5], accV ++ [v], R6, s4.trans s5, upd_same, ?_, Ok.later k2 (((st3.wide fun b h => .inl h).trans (st4.wide fun b h => .inl h)).trans s5)⟩
                exact (ra4.mono s5.mono).append (.cons (rv.mono s5.mono) .nil)
              · rw [if_neg hz] at k2; exact False.elim k2
    · have e : i = ds.length := by omega
      subst e
      refine .inl ⟨wk.stop H2 s2.mono, ?_⟩
      rw [List.drop_eq_nil_of_le (Nat.le_refl _)] at k2
      have R3 : Rep K Fr B σ H2 (restE ρ1 ρ2 vs) := R1.unwipe s2.mono (R2.unguard fun b h => .inl h)
      refine k2 (.ref D) H2 Step.refl R3 ⟨D, rfl, ⟨accV, hl2, ra⟩, nD, fun j r o e1 e2 => ?_⟩
      rcases restE_out e1 with ⟨n, e3⟩ | e3
      · exact R2.fr j D r o e3 (by rw [wipe_out n]; exact e2) (.inr rfl)
      · cases e4 : ρ1[j]? with
        | none => rw [e4] at e3; cases e3
        | some a => rw [e4] at e3; cases a <;> cases e3
theorem dn_lc {elt tg iter : Expr} {ifs : List Expr} {scope : Scope} {own : List (Str × Nat)} {pos : Pos} {it : Ev → Out (List D)} {g : Tg} {tt : Ev → Out Bool} {te : Ev → Out D} (hc : X.calm = true) (hN : X.N.Nodup) (hi : DI X W tg iter it) (ok : BlkOk X.N X.env.scope scope own)
    (hsl : ∀ i ∈ g.slots, i ∈ own.map (·.2))
    (hg : ∀ (s : Shared) (H : Hp) (C : Addr) (cl : List (Str × Addr)) (fp : List Addr), DG (X.blk s H scope (compEnvC scope cl C X.env) fp) tg g) (ht : ∀ (s : Shared) (H : Hp) (C : Addr) (cl : List (Str × Addr)) (fp : List Addr), DTs (X.blk s H scope (compEnvC scope cl C X.env) fp) W0 ifs tt)
    (he : ∀ (s : Shared) (H : Hp) (C : Addr) (cl : List (Str × Addr)) (fp : List Addr), DE (X.blk s H scope (compEnvC scope cl C X.env) fp) W0 elt te) (hs : ∀ x, foldedSetIterable iter X.env x = pure x := by intro _; rfl) :
    DN X W (.ListComp elt [⟨tg, iter, ifs, 0⟩] scope pos) (lcF it g tt te (own.map (·.2))) := by
  exact DN.of (peImp (pe_lc (g := canG X.K g) (tt := canT X.K W0 tt) (te := canE X.K W0 te) hc hN hi.can ok (fun s H C cl fp => (hg s H C cl fp).can) (fun s H C cl fp => (ht s H C cl fp).can) (fun s H C cl fp => (he s H C cl fp).can) hs) fun σ H Q h => lc_sem hsl h)
theorem ds_setLcN {elt tg iter : Expr} {ifs : List Expr} {scope : Scope} {own : List (Str × Nat)} {pos spos py : Pos} {i : Nat} {y : Str} {it : Ev → Out (List D)} {g : Tg} {tt : Ev → Out Bool} {te : Ev → Out D} (hc : X.calm = true) (hN : X.N.Nodup) (hy : X.N[i]? = some y) (hyl : X.env.scope.names.lookup y = some .local) (hsw : swapsWith (.ListComp elt [⟨tg, iter, ifs, 0⟩] scope pos) (some (.Name y py)) spos.line X.env = pure true) (hi : DI X W tg iter it) (ok : BlkOk X.N X.env.scope scope own)
    (hsl : ∀ i ∈ g.slots, i ∈ own.map (·.2))
    (hg : ∀ (s : Shared) (H : Hp) (C : Addr) (cl : List (Str × Addr)) (fp : List Addr), DG (X.blk s H scope (compEnvC scope cl C X.env) fp) tg g) (ht : ∀ (s : Shared) (H : Hp) (C : Addr) (cl : List (Str × Addr)) (fp : List Addr), DTs (X.blk s H scope (compEnvC scope cl C X.env) fp) W0 ifs tt)
    (he : ∀ (s : Shared) (H : Hp) (C : Addr) (cl : List (Str × Addr)) (fp : List Addr), DE (X.blk s H scope (compEnvC scope cl C X.env) fp) W0 elt te) (hs : ∀ x, foldedSetIterable iter X.env x = pure x := by intro _; rfl) :
    DS X W (.Assign [.Name y py] (.ListComp elt [⟨tg, iter, ifs, 0⟩] scope pos) spos) (setN i (lcF it g tt te (own.map (·.2)))) := by
  refine ⟨psImp (ps_setLc (g := canG X.K g) (tt := canT X.K W0 tt) (te := canE X.K W0 te) hc hN hy hyl hsw hi.can ok (fun s H C cl fp => (hg s H C cl fp).can) (fun s H C cl fp => (ht s H C cl fp).can) (fun s H C cl fp => (he s H C cl fp).can) hs) fun E σ H ⟨Fr, B, ρ, R, k⟩ => lc_sem hsl ⟨Fr, B, ρ, R, OkS.bind k fun v H1 d ρ1 st R1 r k => ?_⟩⟩
  obtain ⟨p, rfl, ow, fr⟩ := r
  exact putS_ok k R1 ⟨p, rfl, ow⟩ (fun _ _ _ z e => by cases z; cases e; exact fr)
end
end DL
set_option Elab.async false
set_option linter.all false
set_option maxRecDepth 100000
set_option maxHeartbeats 2000000
namespace DL
open PySem PySem.Spec L2

inductive FOut where
  | val (d : D) (as : List AV)
  | exc (c : Str) (as : List AV)
  | bad
/-- the objects that were handed in, as the call leaves them -/
def Left (K : PySem.W.Frag) (vs : List V) (as as' : List AV) (H' : Hp) : Prop := ∀ (i : Nat) (p : Addr) (o : OD), as[i]? = some (AV.ow true o) → vs[i]? = some (V.ref p) → ∃ o', as'[i]? = some (AV.ow true o') ∧ Own K H' p o'
/-- a def's promise, by what it does -/
def spF (K : PySem.W.Frag) (n : Nat) (F : List AV → FOut) : Sp := fun vs H Q E => ∃ as Fr B, vs.length = n ∧ Rep K Fr B (vs.map some) H as ∧ (∀ (i : Nat) (o : OD), as[i]? = some (AV.ow true o) → ∃ p, (i, p) ∈ B) ∧ match F as with
  | .val d as' => ∀ v H', Step Fr H H' → Dat K H' v d → Left K vs as as' H' → Q v H'
  | .exc c as' => ∀ H', Step Fr H H' → Left K vs as as' H' → E (.ref (He.ga K c)) none H'
  | .bad => False
def bodyF (n N : Nat) (b : Ev → SOut) : List AV → FOut := fun as => match b (as ++ List.replicate (N - n) .un) with
  | .nx ρ => .val .non (ρ.take n)
  | .rt d ρ => .val d (ρ.take n)
  | .exc c ρ => .exc c (ρ.take n)
  | .bad => .bad
/-- a def that is known -/
structure Kn (P : Program) (w : World) (K : PySem.W.Frag) (mg : Str → Option Value) (base : Heap) (k : Nat) (x : Str) (n : Nat) (F : List AV → FOut) : Prop where
  ex : ∃ f fd ps, FnOk P w K mg base (L2.CX P w) k f fd ps (spF K n F) ∧ mg x = some (.ref f) ∧ PySem.W.keepIn K (.ref f) = true ∧ Binds K fd ps []
theorem Kn.mono {P : Program} {w : World} {K : PySem.W.Frag} {mg : Str → Option Value} {base : Heap} {j k : Nat} {x : Str} {n : Nat} {F : List AV → FOut} (h : Kn P w K mg base j x n F) (hk : j ≤ k) : Kn P w K mg base k x n F := by
  obtain ⟨f, fd, ps, h1, h2⟩ := h.ex
  exact ⟨f, fd, ps, h1.mono hk, h2⟩
def Pas (X : Cx) (W : WX) : Prop := ∀ σ, PassesAt (L2.CX X.prog X.w) X σ (fun c d H' => W c d σ H')
theorem pas0 {X : Cx} : Pas X W0 := fun σ pins H s e s' I ⟨a, B, H', cls, d, _, _, _, _, _, _, _, z⟩ => False.elim z
theorem pas_of {X : Cx} {E : XK} (tk : Takes X fun c d _ H => E c d H) : Pas X fun c d _ H => E c d H := fun σ pins H s e s' I c => passes_call tk (fun _ _ _ _ h => h) pins σ H s e s' I c

section
variable {X : Cx} {W : WX} {K : PySem.W.Frag} {Fr : Addr → Prop} {B : List (Nat × Addr)} {σ : St} {H H' : Hp} {ρ : Ev}
theorem Rep.pad (R : Rep K Fr B σ H ρ) (m : Nat) : Rep K Fr B (σ ++ List.replicate m none) H (ρ ++ List.replicate m .un) := by
  have low : ∀ {i : Nat} {a : AV}, (ρ ++ List.replicate m .un)[i]? = some a → (i < ρ.length ∧ ρ[i]? = some a) ∨ a = .un := fun {i a} h => by
    by_cases z : i < ρ.length
    · rw [List.getElem?_append_left z] at h; exact .inl ⟨z, h⟩
    · rw [List.getElem?_append_right (by omega), List.getElem?_replicate] at h
      split at h
      · exact .inr (Option.some.inj h).symm
      · cases h
  have lowσ : ∀ {i : Nat}, i < ρ.length → (σ ++ List.replicate m none)[i]? = σ[i]? := fun {i} h => List.getElem?_append_left (by rw [← R.len]; exact h)
  refine ⟨by rw [List.length_append, List.length_append, R.len, List.length_replicate, List.length_replicate], fun i a h => ?_, fun i p r o h1 h2 => ?_, fun i j p r o r' o' h1 h2 h3 h4 => ?_, R.tr, fun q hq => ?_⟩
  · rcases low h with ⟨z, h⟩ | rfl
    · rw [lowσ z]; exact R.at_ i a h
    · exact True.intro
  · rcases low h1 with ⟨z, h⟩ | h
    · rw [lowσ z] at h2; exact R.fr i p r o h h2
    · cases h
  · rcases low h1 with ⟨z, g1⟩ | g1
    · rcases low h2 with ⟨z2, g2⟩ | g2
      · rw [lowσ z] at h3; rw [lowσ z2] at h4
        exact R.inj i j p r o r' o' g1 g2 h3 h4
      · cases g2
    · cases g1
  · obtain ⟨h1, o, h2⟩ := R.rb q hq
    have z : q.1 < ρ.length := (List.getElem?_eq_some_iff.mp h2).1
    exact ⟨by rw [lowσ z]; exact h1, o, by rw [List.getElem?_append_left z]; exact h2⟩
theorem start_eq {N : List Str} {vs : List V} : start N vs = vs.map some ++ List.replicate (N.length - vs.length) none := rfl
/-- slot i's object has been changed by another -/
theorem Rep.change {i : Nat} {r : Bool} {o o' : OD} {p : Addr} (R : Rep K Fr B σ H ρ) (e : ρ[i]? = some (.ow r o)) (ep : σ[i]? = some (some (V.ref p))) (w : Own K H' p o') (mono : Mono H H') (kp : ∀ b, b ≠ p → H b ≠ none → H' b = H b) : Rep K Fr B σ H' (ρ.set i (.ow r o')) := by
  have hi : i < ρ.length := (List.getElem?_eq_some_iff.mp e).1
  have at' : ∀ {j : Nat} {a : AV}, (ρ.set i (.ow r o'))[j]? = some a → (j = i ∧ a = .ow r o') ∨ (j ≠ i ∧ ρ[j]? = some a) := fun {j a} q => by
    by_cases z : i = j
    · subst z
      rw [List.getElem?_set_self hi] at q
      exact .inl ⟨rfl, (Option.some.inj q).symm⟩
    · rw [get_set_ne z] at q; exact .inr ⟨Ne.symm z, q⟩
  have own' : ∀ {j : Nat} {r' : Bool} {q : OD}, (ρ.set i (.ow r o'))[j]? = some (.ow r' q) → ∃ q', ρ[j]? = some (.ow r' q') := fun {j r' q} h => by
    rcases at' h with ⟨rfl, h'⟩ | ⟨_, h'⟩
    · cases h'; exact ⟨o, e⟩
    · exact ⟨q, h'⟩
  refine ⟨by rw [List.length_set]; exact R.len, fun j a h => ?_, fun j q r' x h1 h2 => ?_, fun j k q r1 x1 r2 x2 h1 h2 h3 h4 => ?_, fun b hb => ?_, fun q hq => ?_⟩
  · rcases at' h with ⟨rfl, rfl⟩ | ⟨ne, h⟩
    · exact ⟨p, ep, w⟩
    · have q := R.at_ j a h
      cases a with
      | un => exact True.intro
      | fz d => obtain ⟨v, e', x⟩ := q; exact ⟨v, e', x.mono mono⟩
      | ow r2 o2 =>
        obtain ⟨p2, e2, x⟩ := q
        obtain ⟨u, hu, _⟩ := x.there
        refine ⟨p2, e2, x.keep mono (kp p2 ?_ (by rw [hu]; exact nofun))⟩
        rintro rfl; exact ne (R.inj j i _ _ _ _ _ h e e2 ep)
  · obtain ⟨x', h'⟩ := own' h1; exact R.fr j q r' x' h' h2
  · obtain ⟨y1, g1⟩ := own' h1
    obtain ⟨y2, g2⟩ := own' h2
    exact R.inj j k q _ _ _ _ g1 g2 h3 h4
  · have hb' := R.tr b hb
    have z : b ≠ p := by rintro rfl; exact R.fr i b r o e ep hb
    rw [kp b z hb']; exact hb'
  · obtain ⟨h1, x, h2⟩ := R.rb q hq
    refine ⟨h1, ?_⟩
    by_cases z : i = q.1
    · rw [← z, List.getElem?_set_self hi]
      rw [← z] at h2; rw [e] at h2; cases h2
      exact ⟨o', rfl⟩
    · rw [get_set_ne z]; exact ⟨x, h2⟩

/-! ### arguments -/
inductive AR where
  | dt (d : D)
  | rf (i : Nat)
def relA1 (K : PySem.W.Frag) (σ : St) : AR → V → Hp → Prop
  | .dt d, v, H => Dat K H v d
  | .rf i, v, _ => σ[i]? = some (some v)
def relAs (K : PySem.W.Frag) (σ : St) : List AR → List V → Hp → Prop
  | [], [], _ => True
  | a :: as, v :: vs, H => relA1 K σ a v H ∧ relAs K σ as vs H
  | _, _, _ => False
def relAr (K : PySem.W.Frag) (σ : St) : Rel (List AR) (List V) := fun as _ vs H => relAs K σ as vs H
structure DA (X : Cx) (W : WX) (es : List Expr) (f : Ev → Out (List AR)) : Prop where
  ex : ∃ t, PA X es t ∧ ∀ (Fr : Addr → Prop) (B : List (Nat × Addr)) (σ : St) (H : Hp) (ρ : Ev) (Q : List V → Hp → Prop), Rep X.K Fr B σ H ρ → Ok X.K W Fr B σ (relAr X.K σ) Q H (f ρ) → t σ H Q
theorem relA1.mono {a : AR} {v : V} (m : Mono H H') (h : relA1 K σ a v H) : relA1 K σ a v H' := by
  cases a with
  | dt d => exact Dat.mono m h
  | rf i => exact h
def nilA : Ev → Out (List AR) := fun ρ => .val [] ρ
def datA (f : Ev → Out D) (g : Ev → Out (List AR)) : Ev → Out (List AR) := fun ρ => (f ρ).bind fun d ρ1 => (g ρ1).bind fun ds ρ2 => .val (.dt d :: ds) ρ2
def refA (i : Nat) (g : Ev → Out (List AR)) : Ev → Out (List AR) := fun ρ => match ρ[i]? with
  | some (.ow _ _) => (g ρ).bind fun ds ρ2 => .val (.rf i :: ds) ρ2
  | _ => .bad
theorem da_nil : DA X W [] nilA := ⟨tNil, pa_nil, fun Fr B σ H ρ Q R k => k [] H Step.refl R True.intro⟩
theorem da_dat {e : Expr} {es : List Expr} {f : Ev → Out D} {g : Ev → Out (List AR)} (ha : DE X W e f) (hr : DA X W es g) (hs : starEach (e :: es) X.env = (false, eval e X.env) :: starEach es X.env := by rfl) : DA X W (e :: es) (datA f g) := by
  obtain ⟨t, p, s⟩ := ha.ex
  obtain ⟨t', p', s'⟩ := hr.ex
  refine ⟨_, pa_cons p p' hs, fun Fr B σ H ρ Q R k => s Fr B σ H ρ _ R (Ok.bind k fun v H1 d ρ1 st R1 r1 k => s' Fr B σ H1 ρ1 _ R1 (Ok.bind k fun vs H2 ds ρ2 st2 R2 r2 k => ?_))⟩
  exact k _ H2 Step.refl R2 ⟨Dat.mono st2.mono r1, r2⟩
theorem da_ref {e : Expr} {es : List Expr} {i : Nat} {g : Ev → Out (List AR)} (ha : PE X e (tVar i)) (hr : DA X W es g) (hs : starEach (e :: es) X.env = (false, eval e X.env) :: starEach es X.env := by rfl) : DA X W (e :: es) (refA i g) := by
  obtain ⟨t', p', s'⟩ := hr.ex
  refine ⟨_, pa_cons ha p' hs, fun Fr B σ H ρ Q R k => ?_⟩
  unfold refA at k
  cases q : ρ[i]? with
  | none => rw [q] at k; exact False.elim k
  | some a =>
    rw [q] at k
    cases a with
    | un => exact False.elim k
    | fz d => exact False.elim k
    | ow r o =>
      obtain ⟨p, e, x⟩ := R.own q
      refine ⟨_, e, s' Fr B σ H ρ _ R (Ok.bind k fun vs H2 ds ρ2 st2 R2 r2 k => ?_)⟩
      exact k _ H2 Step.refl R2 ⟨e, r2⟩
def arA (o : OD) : AR → AV
  | .dt d => .fz d
  | .rf _ => .ow true o
def refsA : List AR → List Nat
  | [] => []
  | .dt _ :: as => refsA as
  | .rf i :: as => i :: refsA as
def posA : List AR → Nat
  | [] => 0
  | .dt _ :: as => posA as + 1
  | .rf _ :: _ => 0
def call1 (F : List AV → FOut) (as : List AR) (ρ : Ev) (i : Nat) : Out D := match ρ[i]? with
    | some (.ow r o) => match F (as.map (arA o)) with
      | .val d as' => match as'[posA as]? with
        | some (.ow true o') => .val d (ρ.set i (.ow r o'))
        | _ => .bad
      | .exc c as' => match as'[posA as]? with
        | some (.ow true o') => .exc c (ρ.set i (.ow r o'))
        | _ => .bad
      | .bad => .bad
    | _ => .bad
def callO (n : Nat) (F : List AV → FOut) (as : List AR) (ρ : Ev) : Out D := if as.length = n then
  match refsA as with
  | [] => match F (as.map (arA (.l []))) with
    | .val d _ => .val d ρ
    | .exc c _ => .exc c ρ
    | .bad => .bad
  | [i] => call1 F as ρ i
  | _ => .bad
  else .bad
def callF (n : Nat) (F : List AV → FOut) (f : Ev → Out (List AR)) : Ev → Out D := fun ρ => (f ρ).bind fun as ρ1 => callO n F as ρ1
theorem relAs.length : ∀ {as : List AR} {vs : List V}, relAs K σ as vs H → vs.length = as.length
  | [], [], _ => rfl
  | _ :: _, _ :: _, h => congrArg Nat.succ (relAs.length h.2)
  | [], _ :: _, h => False.elim h
  | _ :: _, [], h => False.elim h
theorem relAs.get : ∀ {as : List AR} {vs : List V} {i : Nat} {a : AR}, relAs K σ as vs H → as[i]? = some a → ∃ v, vs[i]? = some v ∧ relA1 K σ a v H
  | [], _, _, _, _, e => by simp at e
  | a :: as, v :: vs, 0, _, h, e => by simp at e; subst e; exact ⟨v, rfl, h.1⟩
  | a :: as, v :: vs, i + 1, _, h, e => by
    obtain ⟨v, h1, h2⟩ := relAs.get (i := i) h.2 (by simpa using e)
    exact ⟨v, by simpa using h1, h2⟩
  | _ :: _, [], _, _, h, _ => False.elim h
theorem refsA_nil : ∀ {as : List AR}, refsA as = [] → ∀ (j i : Nat), as[j]? ≠ some (AR.rf i)
  | [], _, _, _ => by simp
  | .dt d :: as, h, 0, i => by simp
  | .dt d :: as, h, j + 1, i => by simpa using refsA_nil (as := as) h j i
theorem refsA_one : ∀ {as : List AR} {i : Nat}, refsA as = [i] → as[posA as]? = some (AR.rf i) ∧ ∀ (j i' : Nat), as[j]? = some (AR.rf i') → j = posA as
  | .dt d :: as, i, h => by
    obtain ⟨h1, h2⟩ := refsA_one (as := as) h
    refine ⟨by simpa [posA] using h1, fun j i' e => ?_⟩
    cases j with
    | zero => simp at e
    | succ j => exact congrArg Nat.succ (h2 j i' (by simpa using e))
  | .rf k :: as, i, h => by
    cases h' : refsA as with
    | cons => unfold refsA at h; rw [h'] at h; cases h
    | nil =>
      unfold refsA at h; rw [h'] at h; cases h
      refine ⟨rfl, fun j i' e => ?_⟩
      cases j with
      | zero => rfl
      | succ j => exact absurd (by simpa using e) (refsA_nil h' j i')
theorem args_rep {as : List AR} {vs : List V} {ρ : Ev} {n : Nat} (R : Rep K Fr B σ H ρ) (ra : relAs K σ as vs H) (hr : refsA as = []) : Rep K (fun b => H b ≠ none) [] (vs.map some) H (as.map (arA (.l []))) := by
  have no : ∀ {i : Nat} {r : Bool} {o : OD}, (as.map (arA (.l [])))[i]? ≠ some (.ow r o) := fun {i r o} e => by
    rw [List.getElem?_map] at e
    cases q : as[i]? with
    | none => rw [q] at e; cases e
    | some a =>
      rw [q] at e
      cases a with
      | dt d => cases e
      | rf k => exact refsA_nil hr i k q
  refine ⟨by rw [List.length_map, List.length_map, ra.length], fun i a h => ?_, fun i p r o h => absurd h no, fun i j p r o r' o' h => absurd h no, fun b h => h, fun q hq => by cases hq⟩
  rw [List.getElem?_map] at h
  cases q : as[i]? with
  | none => rw [q] at h; cases h
  | some a0 =>
    rw [q] at h
    obtain ⟨v, h1, h2⟩ := ra.get q
    cases a0 with
    | rf k => exact absurd q (refsA_nil hr i k)
    | dt d => cases h; exact ⟨v, by rw [List.getElem?_map, h1]; rfl, h2⟩
theorem args_rep1 {as : List AR} {vs : List V} {ρ : Ev} {i : Nat} {r : Bool} {o : OD} {p : Addr} (R : Rep K Fr B σ H ρ) (ra : relAs K σ as vs H) (hr : refsA as = [i]) (e : ρ[i]? = some (.ow r o)) (ep : σ[i]? = some (some (V.ref p))) :
    Rep K (fun b => H b ≠ none ∧ b ≠ p) [(posA as, p)] (vs.map some) H (as.map (arA o)) ∧ vs[posA as]? = some (.ref p) := by
  obtain ⟨h1, h2⟩ := refsA_one hr
  obtain ⟨v0, g1, g2⟩ := ra.get h1
  have g2 : σ[i]? = some (some v0) := g2
  rw [ep] at g2; cases g2
  obtain ⟨p', ep', ow⟩ := R.own e
  rw [ep] at ep'; cases ep'
  have own' : ∀ {j : Nat} {r' : Bool} {o' : OD}, (as.map (arA o))[j]? = some (.ow r' o') → j = posA as := fun {j r' o'} z => by
    rw [List.getElem?_map] at z
    cases q : as[j]? with
    | none => rw [q] at z; cases z
    | some a =>
      rw [q] at z
      cases a with
      | dt d => cases z
      | rf k => exact h2 j k q
  have atp : (vs.map some)[posA as]? = some (some (V.ref p)) := by rw [List.getElem?_map, g1]; rfl
  refine ⟨⟨by rw [List.length_map, List.length_map, ra.length], fun j a h => ?_, fun j q r' o' z1 z2 => ?_, fun j k q r' o' r2 o2 z1 z2 _ _ => (own' z1).trans (own' z2).symm, fun b h => h.1, fun q hq => ?_⟩, g1⟩
  · rw [List.getElem?_map] at h
    cases q : as[j]? with
    | none => rw [q] at h; cases h
    | some a0 =>
      rw [q] at h
      obtain ⟨v, f1, f2⟩ := ra.get q
      cases a0 with
      | dt d => cases h; exact ⟨v, by rw [List.getElem?_map, f1]; rfl, f2⟩
      | rf k =>
        have ej := h2 j k q
        subst ej
        cases h
        exact ⟨p, atp, ow⟩
  · have ej := own' z1
    subst ej
    rw [atp] at z2; cases z2
    exact fun z => z.2 rfl
  · have e0 : q = (posA as, p) := by simpa using hq
    subst e0
    refine ⟨atp, o, ?_⟩
    rw [List.getElem?_map, h1]; rfl
theorem de_call {k n : Nat} {x : Str} {F : List AV → FOut} {e : Expr} {es : List Expr} {fa : Ev → Out (List AR)} {p pos : Pos} (kn : Kn X.prog X.w X.K X.mg X.base k x n F) (hr : Room k X.A) (pas : Pas X W) (hg : Gl X x) (ha : DA X W (e :: es) fa) (hdb : (x == ("__debug__" : Str)) = false := by decide)
    (he : starEach (e :: es) X.env = (false, eval e X.env) :: starEach es X.env := by rfl) (hpl : (backTo pos (starEach es X.env)).any (·.1) = false := by rfl) : DE X W (.Call (.Name x p) (e :: es) [] pos) (callF n F fa) := by
  obtain ⟨f, fd, ps, F1, hm, hk, hb⟩ := kn.ex
  obtain ⟨t, pa, s⟩ := ha.ex
  refine ⟨_, pe_callSD F1 hr hg hm hk hb .nil pas pa hdb he hpl, fun Fr B σ H ρ Q R k => s Fr B σ H ρ _ R (Ok.bind k fun vs H1 as ρ1 st R1 ra k => ?_)⟩
  have ra : relAs X.K σ as vs H1 := ra
  rw [List.append_nil]
  unfold callO at k
  by_cases hn : as.length = n
  · rw [if_pos hn] at k
    have hl : vs.length = n := ra.length.trans hn
    cases hrf : refsA as with
    | nil =>
      rw [hrf] at k
      have RA := args_rep (n := n) R1 ra hrf
      have kp : ∀ {H'' : Hp}, Step (fun b => H1 b ≠ none) H1 H'' → Rep X.K Fr B σ H'' ρ1 ∧ Step Fr H1 H'' := fun {H''} sp => ⟨R1.keep sp.mono (fun i r o q e1 e2 => sp.keep q (by
          obtain ⟨q', e3, ow⟩ := R1.own e1
          rw [e2] at e3; cases e3
          obtain ⟨u, hu, _⟩ := ow.there
          rw [hu]; exact nofun)) (fun b hb => sp.keep b (R1.tr b hb)), sp.wide fun b hb => R1.tr b hb⟩
      refine ⟨_, _, _, hl, RA, fun i o z => ?_, ?_⟩
      · rw [List.getElem?_map] at z
        cases q : as[i]? with
        | none => rw [q] at z; cases z
        | some a =>
          rw [q] at z
          cases a with
          | dt d => cases z
          | rf k => exact absurd q (refsA_nil hrf i k)
      · cases eF : F (as.map (arA (.l []))) with
        | val d as' => rw [eF] at k; exact fun v H'' sp r _ => k v H'' (kp sp).2 (kp sp).1 r
        | exc c as' => rw [eF] at k; exact fun H'' sp _ => k H'' (kp sp).2 (kp sp).1
        | bad => rw [eF] at k; exact k
    | cons i rest =>
      rw [hrf] at k
      cases rest with
      | cons => exact False.elim k
      | nil =>
        replace k : Ok X.K W Fr B σ (relE X.K) Q H1 (call1 F as ρ1 i) := k
        unfold call1 at k
        cases e1 : ρ1[i]? with
        | none => rw [e1] at k; exact False.elim k
        | some a =>
          rw [e1] at k
          cases a with
          | un => exact False.elim k
          | fz d => exact False.elim k
          | ow r o =>
            obtain ⟨q, ep, ow⟩ := R1.own e1
            obtain ⟨RA, hvq⟩ := args_rep1 R1 ra hrf e1 ep
            have hpos : (as.map (arA o))[posA as]? = some (.ow true o) := by rw [List.getElem?_map, (refsA_one hrf).1]; rfl
            have kp : ∀ {H'' : Hp} {o' : OD}, Step (fun b => H1 b ≠ none ∧ b ≠ q) H1 H'' → Own X.K H'' q o' → Rep X.K Fr B σ H'' (ρ1.set i (.ow r o')) ∧ Step Fr H1 H'' := fun {H'' o'} sp w' => ⟨R1.change e1 ep w' sp.mono (fun b n1 n2 => sp.keep b ⟨n2, n1⟩), sp.wide fun b hb => ⟨R1.tr b hb, by rintro rfl; exact R1.fr i b r o e1 ep hb⟩⟩
            refine ⟨_, _, _, hl, RA, fun j o2 z => ⟨q, ?_⟩, ?_⟩
            · have ej : j = posA as := by
                rw [List.getElem?_map] at z
                cases q : as[j]? with
                | none => rw [q] at z; cases z
                | some a =>
                  rw [q] at z
                  cases a with
                  | dt d => cases z
                  | rf k => exact (refsA_one hrf).2 j k q
              subst ej
              exact .head _
            · replace k : Ok X.K W Fr B σ (relE X.K) Q H1 (match F (as.map (arA o)) with
                | .val d as' => match as'[posA as]? with
                  | some (.ow true o') => .val d (ρ1.set i (.ow r o'))
                  | _ => .bad
                | .exc c as' => match as'[posA as]? with
                  | some (.ow true o') => .exc c (ρ1.set i (.ow r o'))
                  | _ => .bad
                | .bad => .bad) := k
              cases eF : F (as.map (arA o)) with
              | val d as' =>
                rw [eF] at k
                dsimp only at k ⊢
                intro v H'' sp r' lf
                obtain ⟨o', h1, h2⟩ := lf _ _ _ hpos hvq
                rw [h1] at k
                exact k v H'' (kp sp h2).2 (kp sp h2).1 r'
              | exc c as' =>
                rw [eF] at k
                dsimp only at k ⊢
                intro H'' sp lf
                obtain ⟨o', h1, h2⟩ := lf _ _ _ hpos hvq
                rw [h1] at k
                exact k H'' (kp sp h2).2 (kp sp h2).1
              | bad => rw [eF] at k; exact k
  · rw [if_neg hn] at k; exact False.elim k
end

/-! ### a def keeps its promise -/
section
variable {P : Program} {w : World} {K : PySem.W.Frag} {mg : Str → Option Value} {base : Heap} {k : Nat} {x qual : Str} {params : Arguments} {body : List Stmt} {scope : Scope} {kws : List (Str × V)} {f : Addr} {fd : FuncData} {N ps : List Str} {fb : Ev → SOut}
abbrev cxD (P : Program) (w : World) (K : PySem.W.Frag) (mg : Str → Option Value) (base : Heap) (N : List Str) (qual : Str) (scope : Scope) (f : Addr) (cd : Value) (A : Around) (outer : List Env) (s : Shared) (H : Hp) (E : XK) : Cx := cxOf (L2.CX P w) P w K mg base N qual scope f cd A outer s H E
theorem own_cx {cd : Value} {A : Around} {outer : List Env} {s : Shared} {H : Hp} {E : XK} : PassesOwn (model (cxD P w K mg base N qual scope f cd A outer s H E).prog (cxD P w K mg base N qual scope f cd A outer s H E).w) (cxD P w K mg base N qual scope f cd A outer s H E).A (cxD P w K mg base N qual scope f cd A outer s H E).env (cxD P w K mg base N qual scope f cd A outer s H E).xe := passes_of rfl
theorem takes_cx {cd : Value} {A : Around} {outer : List Env} {s : Shared} {H : Hp} {E : XK} : Takes (cxD P w K mg base N qual scope f cd A outer s H E) (fun c d _ H => E c d H) := takes_of rfl rfl rfl rfl
theorem pas_cx {cd : Value} {A : Around} {outer : List Env} {s : Shared} {H : Hp} {E : XK} : Pas (cxD P w K mg base N qual scope f cd A outer s H E) (fun c d _ H => E c d H) := pas_of takes_cx
theorem fn_ok (FD : FunD K x qual params body scope [] kws f fd) (S : FnScope N ps scope)
    (hbody : ∀ (cd : Value) (A : Around) (outer : List Env) (s : Shared) (H : Hp) (E : XK), Room k (A.deeper (PyProof.Rows.envOfC qual scope s.heap.objs.size f cd)) → DSs (cxD P w K mg base N qual scope f cd A outer s H E) (fun c d _ H => E c d H) body fb) :
    FnOk P w K mg base (L2.CX P w) (k + 1) f fd ps (spF K ps.length (bodyF ps.length N.length fb)) := by
  refine FD.ok S (fun vs H Q E h => ?_) fun cd A outer s H vs Q E hr h => ⟨_, (hbody cd A outer s H E hr).can, ?_⟩
  · obtain ⟨as, Fr, B, hl, _⟩ := h; exact hl
  · obtain ⟨as, Fr, B, hl, R, hB, q⟩ := h
    have la : as.length = ps.length := by rw [R.len, List.length_map]; exact hl
    have R1 := R.pad (N.length - ps.length)
    refine ⟨Fr, B, as ++ List.replicate (N.length - ps.length) .un, ?_, ?_⟩
    · rw [start_eq, hl]; exact R1
    · have left : ∀ {σ' : St} {H' : Hp} {ρ' : Ev}, Rep K Fr B σ' H' ρ' → Left K vs as (ρ'.take ps.length) H' := fun {σ' H' ρ'} R' i p o e1 e2 => by
        obtain ⟨p', hq⟩ := hB i o e1
        obtain ⟨h1, _⟩ := R.rb _ hq
        have h1 : (vs.map some)[i]? = some (some (V.ref p')) := h1
        rw [List.getElem?_map, e2] at h1; cases h1
        obtain ⟨h3, o', h4⟩ := R'.rb _ hq
        have h3 : σ'[i]? = some (some (V.ref p)) := h3
        have h4 : ρ'[i]? = some (.ow true o') := h4
        have hi : i < ps.length := by rw [← la]; exact (List.getElem?_eq_some_iff.mp e1).1
        refine ⟨o', by rw [List.getElem?_take, if_pos hi]; exact h4, ?_⟩
        obtain ⟨p2, h5, ow⟩ := R'.own h4
        rw [h3] at h5; cases h5; exact ow
      unfold bodyF at q
      show OkS K _ Fr B _ H (fb (as ++ List.replicate (N.length - ps.length) .un))
      cases e : fb (as ++ List.replicate (N.length - ps.length) .un) with
      | nx ρ => rw [e] at q; exact fun σ' H' st R' => q .non H' st .non (left R')
      | rt d ρ => rw [e] at q; exact fun v σ' H' st R' r => q v H' st r (left R')
      | exc c ρ => rw [e] at q; exact fun σ' H' st R' => q H' st (left R')
      | bad => rw [e] at q; exact q
theorem kn_of {n m : Nat} (FD : FunD K x qual params body scope [] kws f fd) (S : FnScope N ps scope) (hm : mg x = some (.ref f)) (hb : Binds K fd ps []) (hn : ps.length = n) (hN : N.length = m)
    (hbody : ∀ (cd : Value) (A : Around) (outer : List Env) (s : Shared) (H : Hp) (E : XK), Room k (A.deeper (PyProof.Rows.envOfC qual scope s.heap.objs.size f cd)) → DSs (cxD P w K mg base N qual scope f cd A outer s H E) (fun c d _ H => E c d H) body fb) :
    Kn P w K mg base (k + 1) x n (bodyF n m fb) := by
  subst hn hN
  exact ⟨f, fd, ps, fn_ok FD S hbody, hm, FD.kp, hb⟩
end
end DL
set_option Elab.async false
set_option linter.all false
set_option maxRecDepth 100000
set_option maxHeartbeats 2000000
namespace DL
open PySem PySem.Spec L2

/-! ### keys -/
def keyOf : D → Option Key
  | .int i => some (.inl i)
  | .str s => some (.inr s)
  | _ => none
def valD (kvs : List (Key × D)) (k : Key) : Option D := (kvs.find? fun kv => decide (kv.1 = k)).map (·.2)
def putD (kvs : List (Key × D)) (k : Key) (d : D) : List (Key × D) := if (kvs.any fun kv => decide (kv.1 = k)) = true then kvs.map (fun kv => if kv.1 = k then (kv.1, d) else kv) else kvs ++ [(k, d)]
def mergeD (kvs more : List (Key × D)) : List (Key × D) := more.foldl (fun acc kv => putD acc kv.1 kv.2) kvs
section
variable {X : Cx} {W : WX} {K : PySem.W.Frag} {Fr : Addr → Prop} {B : List (Nat × Addr)} {E : Ends} {σ : St} {H H1 : Hp} {ρ ρ1 : Ev} {v : V}
theorem View.key {d : D} {k : Key} (h : View K H v d) (e : keyOf d = some k) : v = kV k := by
  cases d <;> first | (cases e; done) | skip
  · cases e; exact h.int
  · cases e; exact h.str
theorem Dat.key {d : D} {k : Key} (h : Dat K H v d) (e : keyOf d = some k) : v = kV k := (View.dat h).key e
theorem DatK.val {k : Key} : ∀ {vs : List (Key × V)} {ds : List (Key × D)}, DatK K H vs ds → (∀ d, valD ds k = some d → ∃ v, valV vs k = some v ∧ Dat K H v d) ∧ (valD ds k = none → valV vs k = none)
  | _, _, .nil => ⟨fun d e => by simp [valD] at e, fun _ => rfl⟩
  | _, _, .cons (k := j) (v := v) (d := d0) (vs := vs) (ds := ds) h r => by
    obtain ⟨h1, h2⟩ := DatK.val (k := k) r
    by_cases z : j = k
    · have e1 : valD ((j, d0) :: ds) k = some d0 := by simp [valD, List.find?_cons, z]
      have e2 : valV ((j, v) :: vs) k = some v := valV_pos z
      rw [e1, e2]
      exact ⟨fun d e => by cases e; exact ⟨v, rfl, h⟩, fun e => by cases e⟩
    · have e1 : valD ((j, d0) :: ds) k = valD ds k := by simp [valD, List.find?_cons, z]
      have e2 : valV ((j, v) :: vs) k = valV vs k := valV_neg z
      rw [e1, e2]
      exact ⟨h1, h2⟩
theorem DatK.any (p : Key → Bool) : ∀ {vs : List (Key × V)} {ds : List (Key × D)}, DatK K H vs ds → (vs.any fun kv => p kv.1) = (ds.any fun kv => p kv.1)
  | _, _, .nil => rfl
  | _, _, .cons h r => by rw [List.any_cons, List.any_cons, DatK.any p r]
theorem DatK.mapv {k : Key} {d : D} (x : Dat K H v d) : ∀ {vs : List (Key × V)} {ds : List (Key × D)}, DatK K H vs ds → DatK K H (vs.map fun kv => if kv.1 = k then (kv.1, v) else kv) (ds.map fun kv => if kv.1 = k then (kv.1, d) else kv)
  | _, _, .nil => .nil
  | _, _, .cons (k := j) h r => by
    rw [List.map_cons, List.map_cons]
    by_cases z : j = k
    · rw [if_pos z, if_pos z]; exact .cons x (DatK.mapv x r)
    · rw [if_neg z, if_neg z]; exact .cons h (DatK.mapv x r)
theorem DatK.append : ∀ {vs vs' : List (Key × V)} {ds ds' : List (Key × D)}, DatK K H vs ds → DatK K H vs' ds' → DatK K H (vs ++ vs') (ds ++ ds')
  | _, _, _, _, .nil, s => s
  | _, _, _, _, .cons h r, s => .cons h (DatK.append r s)
theorem DatK.put {k : Key} {d : D} {vs : List (Key × V)} {ds : List (Key × D)} (r : DatK K H vs ds) (x : Dat K H v d) : DatK K H (putK vs k v) (putD ds k d) := by
  unfold putK putD
  rw [r.any fun j => decide (j = k)]
  split
  · exact r.mapv x
  · exact r.append (.cons x .nil)
theorem DatK.merge {more : List (Key × V)} {mored : List (Key × D)} (r : DatK K H more mored) : ∀ {vs : List (Key × V)} {ds : List (Key × D)}, DatK K H vs ds → DatK K H (mergeK vs more) (mergeD ds mored) := by
  induction more generalizing mored with
  | nil => intro vs ds h; cases r; exact h
  | cons p more ih =>
    intro vs ds h
    cases r with
    | cons x r => exact ih r (h.put x)

/-! ### a[i] -/
def ixS : D → D → Option D
  | .lst xs, .int i => atI xs i
  | .tup xs, .int i => atI xs i
  | .str z, .int i => if z.length ≤ sizeLine then (atI z.cps.toList i).map fun c => .str ⟨#[c]⟩ else none
  | _, _ => none
def ixD : D → D → Option D
  | .dic kvs, d => (keyOf d).bind (valD kvs)
  | _, _ => none
def ixO : D → D → Option D := orO ixS ixD
theorem DatL.atI {vs : List V} {ds : List D} {i : Int} {d : D} (r : DatL K H vs ds) (e : L2.atI ds i = some d) : ∃ v, L2.atI vs i = some v ∧ Dat K H v d := by
  unfold L2.atI at e ⊢
  rw [r.length]
  cases q : ixN ds.length i with
  | none => rw [q] at e; cases e
  | some j =>
    rw [q] at e
    exact r.get e
theorem ok_ixS : BinOk K (rIx K) ixS := ⟨fun {Fr B σ H ρ x y a b d Q} R va vb e k => by
  unfold ixS at e
  split at e
  · obtain ⟨p, vs, rfl, h, r⟩ := va.lst
    obtain ⟨v, h1, h2⟩ := r.atI e
    rw [vb.int]
    exact .inl ⟨p, vs, _, v, rfl, rfl, h, h1, k v H Step.refl R h2⟩
  · obtain ⟨p, vs, rfl, h, r⟩ := va.tup
    obtain ⟨v, h1, h2⟩ := r.atI e
    rw [vb.int]
    exact .inr (.inl ⟨p, vs, _, v, rfl, rfl, h.sq, h1, k v H Step.refl R h2⟩)
  · split at e
    · rename_i z i hz
      rw [va.str, vb.int]
      cases q : L2.atI z.cps.toList i with
      | none => rw [q] at e; cases e
      | some c => rw [q] at e; cases e; exact .inr (.inr ⟨z, i, c, rfl, rfl, hz, q, k _ H Step.refl R .str⟩)
    · cases e
  · cases e⟩
theorem binF_or {p q : D → D → Option D} {f g : Ev → Out RV} (ρ : Ev) : binF (orO p q) f g ρ = binF p f g ρ ∨ binF (orO p q) f g ρ = binF q f g ρ := by
  unfold binF
  cases f ρ with
  | bad => exact .inl rfl
  | exc => exact .inl rfl
  | val a ρ1 =>
    show (g ρ1).bind _ = (g ρ1).bind _ ∨ (g ρ1).bind _ = (g ρ1).bind _
    cases g ρ1 with
    | bad => exact .inl rfl
    | exc => exact .inl rfl
    | val b ρ2 =>
      show onTwo _ _ _ _ = onTwo _ _ _ _ ∨ onTwo _ _ _ _ = onTwo _ _ _ _
      cases look ρ2 a with
      | none => exact .inl rfl
      | some x =>
        cases look ρ2 b with
        | none => exact .inl rfl
        | some y =>
          show ofO (orO p q x y) ρ2 = ofO (p x y) ρ2 ∨ ofO (orO p q x y) ρ2 = ofO (q x y) ρ2
          unfold orO
          cases p x y with
          | some d => exact .inl rfl
          | none => exact .inr rfl
/-- two readings of one expression, for two operations -/
theorem de_or2 {e : Expr} {t t' : TE} {p q : D → D → Option D} {f g : Ev → Out RV} (h : PE X e t) (h' : PE X e t')
    (s : ∀ (Fr : Addr → Prop) (B : List (Nat × Addr)) (σ : St) (H : Hp) (ρ : Ev) (Q : VK), Rep X.K Fr B σ H ρ → Ok X.K W Fr B σ (relE X.K) Q H (binF p f g ρ) → t σ H Q)
    (s' : ∀ (Fr : Addr → Prop) (B : List (Nat × Addr)) (σ : St) (H : Hp) (ρ : Ev) (Q : VK), Rep X.K Fr B σ H ρ → Ok X.K W Fr B σ (relE X.K) Q H (binF q f g ρ) → t' σ H Q) : DE X W e (binF (orO p q) f g) := by
  refine ⟨_, peOr h h', fun Fr B σ H ρ Q R k => ?_⟩
  rcases binF_or (p := p) (q := q) (f := f) (g := g) ρ with e | e
  · rw [e] at k; exact .inl (s Fr B σ H ρ Q R k)
  · rw [e] at k; exact .inr (s' Fr B σ H ρ Q R k)
theorem onTwo_inv {op : D → D → Option D} {x y : Option D} {Q : VK} (k : Ok K W Fr B σ (relE K) Q H (onTwo op ρ x y)) : ∃ a b d, x = some a ∧ y = some b ∧ op a b = some d ∧ Ok K W Fr B σ (relE K) Q H (.val d ρ) := by
  cases x with
  | none => exact False.elim k
  | some a =>
    cases y with
    | none => exact False.elim k
    | some b =>
      replace k : Ok K W Fr B σ (relE K) Q H (ofO (op a b) ρ) := k
      cases e : op a b with
      | none => rw [e] at k; exact False.elim k
      | some d => rw [e] at k; exact ⟨a, b, d, rfl, rfl, e, k⟩
theorem ixD_inv {a b d : D} (h : ixD a b = some d) : ∃ kvs k, a = .dic kvs ∧ keyOf b = some k ∧ valD kvs k = some d := by
  unfold ixD at h
  split at h
  · cases q : keyOf b with
    | none => rw [q] at h; cases h
    | some k => rw [q] at h; exact ⟨_, k, rfl, rfl, h⟩
  · cases h
theorem de_ix {a b : Expr} {f g : Ev → Out RV} {pos : Pos} (hu : X.A.units + 65 < cLine) (ha : DR X W a f) (hb : DR X W b g) (hs : PlainIx b := by intro _ _; rfl) : DE X W (.Subscript a b pos) (binF ixO f g) := by
  obtain ⟨ta, pa, sa⟩ := ha.ex
  obtain ⟨tb, pb, sb⟩ := hb.ex
  refine de_or2 (pe_ix ix_seq pa pb hs) (pe_dget (by omega) pa pb hs) (sem_bin ok_ixS sa sb) fun Fr B σ H ρ Q R k => ?_
  refine sa Fr B σ H ρ _ R (Ok.bind k fun v H1 a ρ1 st R1 r1 k => sb Fr B σ H1 ρ1 _ R1 (Ok.bind k fun w H2 b ρ2 st2 R2 r2 k => ?_))
  obtain ⟨x, y, d, e1, e2, e3, k⟩ := onTwo_inv k
  obtain ⟨kvs, k', rfl, hk, hv⟩ := ixD_inv e3
  obtain ⟨p, vs, rfl, h, r⟩ := (view_later r1 st2 R2 e1).dic
  obtain ⟨u, h1, h2⟩ := (r.val (k := k')).1 d hv
  exact ⟨p, u, rfl, .inl ⟨vs, k', h, (view_now r2 R2 e2).key hk, h1.symm⟩, k u H2 Step.refl R2 h2⟩

/-! ### in, not in: dicts too -/
def inD : D → D → Option D := fun a b => match b with
  | .dic kvs => (keyOf a).map fun k => .bl (valD kvs k).isSome
  | _ => none
def ninD : D → D → Option D := notO inD
theorem inD_inv {a b d : D} (h : inD a b = some d) : ∃ kvs k, b = .dic kvs ∧ keyOf a = some k ∧ d = .bl (valD kvs k).isSome := by
  unfold inD at h
  split at h
  · cases q : keyOf a with
    | none => rw [q] at h; cases h
    | some k => rw [q] at h; cases h; exact ⟨_, k, rfl, rfl, rfl⟩
  · cases h
theorem DatK.has {k : Key} {vs : List (Key × V)} {ds : List (Key × D)} (r : DatK K H vs ds) : (valV vs k).isSome = (valD ds k).isSome := by
  obtain ⟨h1, h2⟩ := r.val (k := k)
  cases e : valD ds k with
  | none => rw [h2 e]; rfl
  | some d => obtain ⟨v, h, _⟩ := h1 d e; rw [h]; rfl
def inA : D → D → Option D := orO inO inD
def ninA : D → D → Option D := orO ninO ninD
section
variable {a b : Expr} {f g : Ev → Out RV} {pos : Pos}
theorem pe_inD (hu : X.A.units + 65 < cLine) {ta tb : TE} (pa : PE X a ta) (pb : PE X b tb) (hm : behindInMarks .In b = false) : PE X (.Compare a [.In] [b] pos) (tDIn ta tb) := pe_cmp (pc_din (by omega) pa pb) hm
theorem de_inA (hu : X.A.units + 65 < cLine) (ha : DR X W a f) (hb : DR X W b g) (hm : behindInMarks .In b = false := by rfl) : DE X W (.Compare a [.In] [b] pos) (binF inA f g) := by
  obtain ⟨ta, pa, sa⟩ := ha.ex
  obtain ⟨tb, pb, sb⟩ := hb.ex
  obtain ⟨t, p, s⟩ := (de_in (pos := pos) hu ha hb hm).ex
  refine de_or2 p (pe_cmp (pc_din (by omega) pa pb) hm) s fun Fr B σ H ρ Q R k => ?_
  refine sa Fr B σ H ρ _ R (Ok.bind k fun v H1 a ρ1 st R1 r1 k => sb Fr B σ H1 ρ1 _ R1 (Ok.bind k fun w H2 b ρ2 st2 R2 r2 k => ?_))
  obtain ⟨x, y, d, e1, e2, e3, k⟩ := onTwo_inv k
  obtain ⟨kvs, k', rfl, hk, rfl⟩ := inD_inv e3
  obtain ⟨p, vs, rfl, h, r⟩ := (view_now r2 R2 e2).dic
  exact ⟨p, _, rfl, .inl ⟨vs, k', h, (view_later r1 st2 R2 e1).key hk, rfl⟩, by rw [r.has]; exact k _ H2 Step.refl R2 .bl⟩
theorem de_ninA (hu : X.A.units + 65 < cLine) (ha : DR X W a f) (hb : DR X W b g) (hm : behindInMarks .NotIn b = false := by rfl) : DE X W (.Compare a [.NotIn] [b] pos) (binF ninA f g) := by
  obtain ⟨ta, pa, sa⟩ := ha.ex
  obtain ⟨tb, pb, sb⟩ := hb.ex
  obtain ⟨t, p, s⟩ := (de_nin (pos := pos) hu ha hb hm).ex
  refine de_or2 p (pe_cmp (pc_dnotin (by omega) pa pb) hm) s fun Fr B σ H ρ Q R k => ?_
  refine sa Fr B σ H ρ _ R (Ok.bind k fun v H1 a ρ1 st R1 r1 k => sb Fr B σ H1 ρ1 _ R1 (Ok.bind k fun w H2 b ρ2 st2 R2 r2 k => ?_))
  obtain ⟨x, y, d, e1, e2, e3, k⟩ := onTwo_inv k
  obtain ⟨c, e4, rfl⟩ := notO_inv e3
  obtain ⟨kvs, k', rfl, hk, e5⟩ := inD_inv e4
  cases e5
  obtain ⟨p, vs, rfl, h, r⟩ := (view_now r2 R2 e2).dic
  exact ⟨p, _, rfl, .inl ⟨vs, k', h, (view_later r1 st2 R2 e1).key hk, rfl⟩, by rw [r.has]; exact k _ H2 Step.refl R2 .bl⟩
theorem ptOr {e : Expr} {t t' : TT} (h : PT X e t) (h' : PT X e t') : PT X e (fun σ H Q => t σ H Q ∨ t' σ H Q) := ⟨fun pins s σ H Q I k => k.elim (h.run pins s σ H Q I) (h'.run pins s σ H Q I)⟩
theorem dt_or2 {e : Expr} {t t' : TT} {p q : D → D → Option D} (h : PT X e t) (h' : PT X e t')
    (s : ∀ (Fr : Addr → Prop) (B : List (Nat × Addr)) (σ : St) (H : Hp) (ρ : Ev) (Q : Bool → Hp → Prop), Rep X.K Fr B σ H ρ → Ok X.K W Fr B σ relT Q H (tstF (binF p f g) ρ) → t σ H Q)
    (s' : ∀ (Fr : Addr → Prop) (B : List (Nat × Addr)) (σ : St) (H : Hp) (ρ : Ev) (Q : Bool → Hp → Prop), Rep X.K Fr B σ H ρ → Ok X.K W Fr B σ relT Q H (tstF (binF q f g) ρ) → t' σ H Q) : DT X W e (tstF (binF (orO p q) f g)) := by
  refine ⟨_, ptOr h h', fun Fr B σ H ρ Q R k => ?_⟩
  unfold tstF at k
  rcases binF_or (p := p) (q := q) (f := f) (g := g) ρ with e | e
  · rw [e] at k; exact .inl (s Fr B σ H ρ Q R k)
  · rw [e] at k; exact .inr (s' Fr B σ H ρ Q R k)
theorem dt_inA (hu : X.A.units + 65 < cLine) (ha : DR X W a f) (hb : DR X W b g) (hm : behindInMarks .In b = false := by rfl) : DT X W (.Compare a [.In] [b] pos) (tstF (binF inA f g)) := by
  obtain ⟨ta, pa, sa⟩ := ha.ex
  obtain ⟨tb, pb, sb⟩ := hb.ex
  obtain ⟨t, p, s⟩ := (dt_in (pos := pos) hu ha hb hm).ex
  refine dt_or2 p (pt_cmp (pc_din (by omega) pa pb) hm) s (sem_tst fun Fr B σ H ρ Q R k => ?_)
  refine sa Fr B σ H ρ _ R (Ok.bind k fun v H1 a ρ1 st R1 r1 k => sb Fr B σ H1 ρ1 _ R1 (Ok.bind k fun w H2 b ρ2 st2 R2 r2 k => ?_))
  obtain ⟨x, y, d, e1, e2, e3, k⟩ := onTwo_inv k
  obtain ⟨kvs, k', rfl, hk, rfl⟩ := inD_inv e3
  obtain ⟨p, vs, rfl, h, r⟩ := (view_now r2 R2 e2).dic
  exact ⟨p, _, rfl, .inl ⟨vs, k', h, (view_later r1 st2 R2 e1).key hk, rfl⟩, by rw [r.has]; exact k _ H2 Step.refl R2 .bl⟩
theorem dt_ninA (hu : X.A.units + 65 < cLine) (ha : DR X W a f) (hb : DR X W b g) (hm : behindInMarks .NotIn b = false := by rfl) : DT X W (.Compare a [.NotIn] [b] pos) (tstF (binF ninA f g)) := by
  obtain ⟨ta, pa, sa⟩ := ha.ex
  obtain ⟨tb, pb, sb⟩ := hb.ex
  obtain ⟨t, p, s⟩ := (dt_nin (pos := pos) hu ha hb hm).ex
  refine dt_or2 p (pt_cmp (pc_dnotin (by omega) pa pb) hm) s (sem_tst fun Fr B σ H ρ Q R k => ?_)
  refine sa Fr B σ H ρ _ R (Ok.bind k fun v H1 a ρ1 st R1 r1 k => sb Fr B σ H1 ρ1 _ R1 (Ok.bind k fun w H2 b ρ2 st2 R2 r2 k => ?_))
  obtain ⟨x, y, d, e1, e2, e3, k⟩ := onTwo_inv k
  obtain ⟨c, e4, rfl⟩ := notO_inv e3
  obtain ⟨kvs, k', rfl, hk, e5⟩ := inD_inv e4
  cases e5
  obtain ⟨p, vs, rfl, h, r⟩ := (view_now r2 R2 e2).dic
  exact ⟨p, _, rfl, .inl ⟨vs, k', h, (view_later r1 st2 R2 e1).key hk, rfl⟩, by rw [r.has]; exact k _ H2 Step.refl R2 .bl⟩
end

/-! ### a[lo:hi] -/
structure DP (X : Cx) (W : WX) (e : Option Expr) (f : Ev → Out (Option Int)) : Prop where
  ex : ∃ t, PO X e t ∧ ∀ (Fr : Addr → Prop) (B : List (Nat × Addr)) (σ : St) (H : Hp) (ρ : Ev) (Q : Option Int → Hp → Prop), Rep X.K Fr B σ H ρ → Ok X.K W Fr B σ (fun o _ o' _ => o' = o) Q H (f ρ) → t σ H Q
def noPF : Ev → Out (Option Int) := fun ρ => .val none ρ
def partF (f : Ev → Out D) : Ev → Out (Option Int) := fun ρ => (f ρ).bind fun d ρ1 => match d with
  | .int i => .val (some i) ρ1
  | _ => .bad
theorem dp_none : DP X W none noPF := ⟨_, po_none, fun Fr B σ H ρ Q R k => k none H Step.refl R rfl⟩
theorem dp_some {e : Expr} {f : Ev → Out D} (h : DE X W e f) : DP X W (some e) (partF f) := by
  obtain ⟨t, p, s⟩ := h.ex
  refine ⟨_, po_some p, fun Fr B σ H ρ Q R k => s Fr B σ H ρ _ R (Ok.bind k fun v H1 d ρ1 st R1 r k => ?_)⟩
  cases (show Dat _ _ _ _ from r) <;> first | exact False.elim k | exact ⟨_, rfl, k _ H1 Step.refl R1 rfl⟩
def cutD (xs : List D) (lo hi : Option Int) : List D := (xs.drop (HT.sIx xs.length 0 lo)).take (HT.sIx xs.length xs.length hi - HT.sIx xs.length 0 lo)
def slO (d : D) (lo hi : Option Int) : Option D := match d with
  | .lst xs => some (.lst (cutD xs lo hi))
  | .str z => if z.length ≤ sizeLine then some (.str (cutS z lo hi)) else none
  | _ => none
def slF (f : Ev → Out D) (g h : Ev → Out (Option Int)) : Ev → Out D := fun ρ => (f ρ).bind fun d ρ1 => (g ρ1).bind fun lo ρ2 => (h ρ2).bind fun hi ρ3 => ofO (slO d lo hi) ρ3
theorem DatL.cut {vs : List V} {ds : List D} (r : DatL K H vs ds) (lo hi : Option Int) : DatL K H (cutV vs lo hi) (cutD ds lo hi) := by
  unfold cutV cutD
  rw [r.length]
  exact (r.drop _).take _
theorem de_slice {e : Expr} {lo hi : Option Expr} {f : Ev → Out D} {g h : Ev → Out (Option Int)} {p2 pos : Pos} (he : DE X W e f) (hl : DP X W lo g) (hh : DP X W hi h) : DE X W (.Subscript e (.Slice lo hi none p2) pos) (slF f g h) := by
  obtain ⟨te, pe, se⟩ := he.ex
  obtain ⟨tl, pl, sl⟩ := hl.ex
  obtain ⟨th, ph, sh⟩ := hh.ex
  refine ⟨_, pe_frz (pe_slice (SlR.or sl_list sl_str) pe pl ph), fun Fr B σ H ρ Q R k => se Fr B σ H ρ _ R (Ok.bind k fun v H1 d ρ1 st R1 r k => sl Fr B σ H1 ρ1 _ R1 (Ok.bind k fun lo H2 lo' ρ2 st2 R2 r2 k => sh Fr B σ H2 ρ2 _ R2 (Ok.bind k fun hi H3 hi' ρ3 st3 R3 r3 k => ?_)))⟩
  have r2 : lo = lo' := r2
  have r3 : hi = hi' := r3
  subst r2 r3
  have r4 : Dat X.K H3 v d := (Dat.mono st2.mono r).mono st3.mono
  unfold slO at k
  split at k
  · cases r4 with
    | lst h' r' => exact .inl ⟨_, _, rfl, h'.sq, fun p hp => new_frz R3 hp True.intro (fun z => z) (dat_lst_new hp (r'.cut lo hi)) k⟩
  · split at k
    · cases r4
      exact .inr ⟨_, rfl, by assumption, .inl (k _ H3 Step.refl R3 .str)⟩
    · exact False.elim k
  · exact False.elim k

/-! ### lists of one's own: append, pop, extend -/
def appE (i : Nat) (f : Ev → Out D) : Ev → Out D := fun ρ => match ρ[i]? with
  | some (.ow _ (.l _)) => (f ρ).bind fun d ρ1 => match ρ1[i]? with
    | some (.ow r (.l xs)) => if xs.length < sizeLine then .val .non (ρ1.set i (.ow r (.l (xs ++ [d])))) else .bad
    | _ => .bad
  | _ => .bad
theorem slot_l {i : Nat} {r : Bool} {xs : List D} (R : Rep K Fr B σ H ρ) (e : ρ[i]? = some (.ow r (.l xs))) : ∃ p vs, σ[i]? = some (some (V.ref p)) ∧ H p = some (.lst vs) ∧ DatL K H vs xs := by
  obtain ⟨p, h1, vs, h2, h3⟩ := R.own e
  exact ⟨p, vs, h1, h2, h3⟩
theorem slot_write {i : Nat} {r : Bool} {o o' : OD} {p : Addr} {u w : HO} (R : Rep K Fr B σ H ρ) (e : ρ[i]? = some (.ow r o)) (ep : σ[i]? = some (some (V.ref p))) (hp : H p = some w) (nw : ¬ Imm w) (h : Own K (upd H p u) p o') : Rep K Fr B σ (upd H p u) (ρ.set i (.ow r o')) ∧ Step Fr H (upd H p u) :=
  ⟨R.write e ep h fun z q => by rw [hp] at q; cases q; exact nw, Step.other (R.notFr e ep) hp nw⟩
theorem de_append {i : Nat} {o e : Expr} {f : Ev → Out D} {apos cpos : Pos} (ho : PE X o (tVar i)) (h : DE X W e f)
    (hbase : attributeBase o "append" X.env (eval o X.env) = eval o X.env := by rfl)
    (hfew : ((backTo cpos (starEach (e :: []) X.env)).all (fun x => !x.1) && (backToKw cpos (keywordEach [] X.env)).all (fun x => x.1.isSome)
      && decide ((e :: []).length + ([] : List Keyword).length + (if ([] : List Keyword).isEmpty then 0 else 1) < 30)) = true := by rfl)
    (hline : (apos.endLine == cpos.line) = true := by rfl) (hs : starEach (e :: []) X.env = (false, eval e X.env) :: starEach [] X.env := by rfl) (hplain : (backTo cpos (starEach [] X.env)).any (·.1) = false := by rfl) :
    DE X W (.Call (.Attribute o "append" apos) [e] [] cpos) (appE i f) := by
  obtain ⟨t, p, s⟩ := h.ex
  refine ⟨_, pe_bm PySem.F.plainAttrs_list PySem.F.slot_list_append PySem.F.type_list_append mt_append ho (pa_cons p pa_nil hs) hbase hfew hline hs hplain, fun Fr B σ H ρ Q R k => ?_⟩
  unfold appE at k
  split at k
  · rename_i r0 xs0 q0
    obtain ⟨p0, vs0, e0, h0, _⟩ := slot_l R q0
    refine ⟨_, e0, .inl ⟨rfl, vs0, .inl (.inl h0)⟩, s Fr B σ H ρ _ R (Ok.bind k fun v H1 d ρ1 st R1 r1 k => ?_)⟩
    split at k
    · rename_i r xs q
      obtain ⟨p1, vs, e1, h1, rd⟩ := slot_l R1 q
      rw [e0] at e1; cases e1
      split at k
      · rename_i hz
        have w : Own X.K (upd H1 p0 (.lst (vs ++ [v]))) p0 (.l (xs ++ [d])) := by
          have m : Mono H1 (upd H1 p0 (.lst (vs ++ [v]))) := Mono.upd fun z q => by rw [h1] at q; cases q; exact fun z => z
          exact ⟨_, upd_same, (rd.mono m).append (.cons (Dat.mono m r1) .nil)⟩
        obtain ⟨R2, s2⟩ := slot_write R1 q e0 h1 (fun z => z) w
        exact ⟨p0, vs, v, rfl, rfl, h1, by rw [rd.length]; exact hz, k .non _ s2 R2 .non⟩
      · exact False.elim k
    · exact False.elim k
  · exact False.elim k
def popE (i : Nat) : Ev → Out D := fun ρ => match ρ[i]? with
  | some (.ow r (.l xs)) => match xs[xs.length - 1]? with
    | some d => .val d (ρ.set i (.ow r (.l xs.dropLast)))
    | none => .bad
  | _ => .bad
theorem de_pop {i : Nat} {o : Expr} {apos cpos : Pos} (ho : PE X o (tVar i)) (hbase : attributeBase o "pop" X.env (eval o X.env) = eval o X.env := by rfl) (hline : (apos.endLine == cpos.line) = true := by rfl) :
    DE X W (.Call (.Attribute o "pop" apos) [] [] cpos) (popE i) := by
  refine ⟨_, pe_bm0 PySem.F.plainAttrs_list PySem.F.slot_list_pop PySem.F.type_list_pop mt_pop ho hbase hline, fun Fr B σ H ρ Q R k => ?_⟩
  unfold popE at k
  split at k
  · rename_i r xs q
    split at k
    · rename_i d hd
      obtain ⟨p, vs, e1, h1, rd⟩ := slot_l R q
      obtain ⟨v, hv, rv⟩ := rd.get hd
      have m : Mono H (upd H p (.lst vs.dropLast)) := Mono.upd fun z q => by rw [h1] at q; cases q; exact fun z => z
      obtain ⟨R2, s2⟩ := slot_write (o' := .l xs.dropLast) R q e1 h1 (fun z => z) ⟨_, upd_same, (rd.mono m).dropLast⟩
      exact ⟨_, e1, .inl ⟨rfl, vs, .inl (.inl h1)⟩, p, vs, v, rfl, rfl, h1, by rw [rd.length]; exact hv, k v _ s2 R2 (rv.mono m)⟩
    · exact False.elim k
  · exact False.elim k

/-! ### d[k] = v, xs[i] = v -/
def putAt (i : Nat) (fk fv : Ev → Out D) : Ev → SOut := fun ρ => bindS (fv ρ) fun d ρ1 => match ρ1[i]? with
  | some (.ow _ _) => bindS (fk ρ1) fun kd ρ2 => match ρ2[i]?, keyOf kd with
    | some (.ow r (.d kvs)), some k => if kvs.length < sizeLine then .nx (ρ2.set i (.ow r (.d (putD kvs k d)))) else .bad
    | _, _ => .bad
  | _ => .bad
theorem ds_put {i : Nat} {o e value : Expr} {fk fv : Ev → Out D} {pos pos' : Pos} (hu : X.A.units + 65 < cLine) (ho : PE X o (tVar i)) (hk : DE X W e fk) (hv : DE X W value fv) (hs : swapsWith value (some (.Subscript o e pos')) pos.line X.env = pure false := by rfl) :
    DS X W (.Assign [.Subscript o e pos'] value pos) (putAt i fk fv) := by
  refine ⟨psImp (ps_dput (by omega) ho hk.can hv.can hs) fun E σ H ⟨Fr, B, ρ, R, k⟩ => ⟨Fr, B, ρ, R, OkS.bind k fun v H1 d ρ1 st R1 r1 k => ?_⟩⟩
  split at k
  · rename_i r0 o0 q0
    obtain ⟨p, ep, _⟩ := R1.own q0
    refine ⟨_, ep, Fr, B, ρ1, R1, OkS.bind k fun kv H2 kd ρ2 st2 R2 r2 k => ?_⟩
    split at k
    · rename_i r kvs k' q ek
      obtain ⟨p2, ep2, vs, hp, rd⟩ := R2.own q
      rw [ep] at ep2; cases ep2
      split at k
      · rename_i hz
        have r1' : Dat X.K H2 v d := Dat.mono st2.mono r1
        have m : Mono H2 (upd H2 p (.dK (putK vs k' v))) := Mono.upd fun z q => by rw [hp] at q; cases q; exact fun z => z
        have w : Own X.K (upd H2 p (.dK (putK vs k' v))) p (.d (putD kvs k' d)) := ⟨_, upd_same, (rd.mono m).put (r1'.mono m)⟩
        obtain ⟨R3, s3⟩ := slot_write R2 q ep hp (fun z => z) w
        exact ⟨p, _, rfl, .inl ⟨vs, k', hp, Dat.key r2 ek, by rw [rd.length]; exact hz, rfl⟩, k σ _ s3 R3⟩
      · exact False.elim k
    · exact False.elim k
  · exact False.elim k

/-! ### dict(..) -/
def pairD : D → Option (Key × D)
  | .tup [k, v] => (keyOf k).map fun k => (k, v)
  | _ => none
def pairsD : List D → Option (List (Key × D))
  | [] => some []
  | d :: ds => match pairD d, pairsD ds with
    | some p, some ps => some (p :: ps)
    | _, _ => none
theorem pairD_inv {v : V} {d : D} {p : Key × D} (h : Dat K H v d) (e : pairD d = some p) : ∃ a w, v = .ref a ∧ TupP K H a [kV p.1, w] ∧ Dat K H w p.2 := by
  unfold pairD at e
  split at e
  · rename_i k x
    cases q : keyOf k with
    | none => rw [q] at e; cases e
    | some k' =>
      rw [q] at e; cases e
      cases h with
      | tup ht r =>
        cases r with
        | cons h1 r =>
          cases r with
          | cons h2 r =>
            cases r
            rw [h1.key q] at ht
            exact ⟨_, _, rfl, ht, h2⟩
  · cases e
theorem pairs_all : ∀ {vs : List V} {ds : List D} {ps : List (Key × D)}, DatL K H vs ds → pairsD ds = some ps → ∃ (as : List Addr) (kvs : List (Key × V)), vs = as.map V.ref ∧ Paired (fun p (kv : Key × V) => SqT K H p [kV kv.1, kv.2]) as kvs ∧ DatK K H kvs ps
  | _, _, _, .nil, e => by cases e; exact ⟨[], [], rfl, .nil, .nil⟩
  | _, _, _, .cons (d := d) (ds := ds) h r, e => by
    unfold pairsD at e
    cases q : pairD d with
    | none => rw [q] at e; cases e
    | some p =>
      cases q2 : pairsD ds with
      | none => rw [q, q2] at e; cases e
      | some ps =>
        rw [q, q2] at e; cases e
        obtain ⟨a, w, rfl, h1, h2⟩ := pairD_inv h q
        obtain ⟨as, kvs, rfl, h3, h4⟩ := pairs_all r q2
        exact ⟨a :: as, (p.1, w) :: kvs, rfl, .cons h1.sq h3, .cons h2 h4⟩
def dictD : D → Option OD
  | .lst xs => (pairsD xs).map fun ps => .d (mergeD [] ps)
  | .tup xs => (pairsD xs).map fun ps => .d (mergeD [] ps)
  | .dic kvs => some (.d kvs)
  | _ => none
def rDictO (K : PySem.W.Frag) : V → Hp → VK → Prop := fun x H Q =>
  (∃ (a : Addr) (ps : List Addr) (kvs : List (Key × V)), x = .ref a ∧ SqL K H a (ps.map V.ref) ∧ Paired (fun p (kv : Key × V) => SqT K H p [kV kv.1, kv.2]) ps kvs ∧ ∀ p, H p = none → Q (.ref p) (upd H p (.dK (mergeK [] kvs)))) ∨
  (∃ (a : Addr) (ps : List Addr) (kvs : List (Key × V)), x = .ref a ∧ TupP K H a (ps.map V.ref) ∧ Paired (fun p (kv : Key × V) => SqT K H p [kV kv.1, kv.2]) ps kvs ∧ ∀ p, H p = none → Q (.ref p) (upd H p (.dK (mergeK [] kvs)))) ∨
  ∃ a kvs, x = .ref a ∧ Rd H a (.dK kvs) ∧ ∀ p, H p = none → Q (.ref p) (upd H p (.dK kvs))
theorem plain_tup {pins : List (Addr × Obj)} {s : Shared} {a : Addr} {xs : List V} (I : Inv X pins σ H s) (h : TupP X.K H a xs) : ∃ its : List Value, Vals xs its ∧ PlainSeq "tuple" s.heap a its.toArray ∧ xs.length ≤ sizeLine := by
  rcases h with ⟨o, h, hd⟩ | ⟨o, its, n, h1, h2, h3, h4, h5, h6⟩
  · obtain ⟨ho, hz, its, r, p⟩ := (show ObjOk X.prog X.w H s.heap a (.frz o (.tup xs)) from I.hok a _ h)
    obtain ⟨o', e1, e2, n, e3⟩ := p
    rw [ho] at e1; cases e1
    exact ⟨its, r, ⟨o, n, ho, e2, hd, e3⟩, hz⟩
  · refine ⟨its.toList, h6, ⟨o, n, I.kIn a o h1, h2, h3, by simpa using h4⟩, ?_⟩
    have e := h6.length
    simp only [Array.length_toList] at e
    omega
theorem pairs_ofT {pins : List (Addr × Obj)} {s : Shared} (I : Inv X pins σ H s) : ∀ {ps : List Addr} {kvs : List (Key × V)}, Paired (fun p (kv : Key × V) => SqT X.K H p [kV kv.1, kv.2]) ps kvs →
    ∃ (prs : List (Key × Value)) (us : List (Value × Value)), KV kvs prs ∧ prs.length = ps.length ∧ us.length = ps.length ∧ ∀ (j : Nat) (u v : Value), us[j]? = some (u, v) → ∃ (k : Key) (b : Addr), prs[j]? = some (k, v) ∧ ps[j]? = some b ∧ PyProof.Rows.IsTup s.heap b #[u, v] ∧ keyIs k u = true
  | _, _, .nil => ⟨[], [], .nil, rfl, rfl, fun j u v e => by simp at e⟩
  | _, _, .cons (a := p) (b := kv) h t => by
    obtain ⟨prs, us, r, hl, hl2, hp⟩ := pairs_ofT I t
    obtain ⟨its, rv, ht, _⟩ := I.tuple h
    obtain ⟨u, y, ei, ru, ry⟩ := vals2 rv
    subst ei
    refine ⟨(kv.1, y) :: prs, (u, y) :: us, .cons ⟨rfl, ry⟩ r, by rw [List.length_cons, List.length_cons, hl], by rw [List.length_cons, List.length_cons, hl2], fun j u' v' e => ?_⟩
    cases j with
    | zero =>
      have e' : (u, y) = (u', v') := Option.some.inj e
      cases e'
      exact ⟨kv.1, p, rfl, rfl, ht, kV_is (P := X.prog) (w := X.w) ru⟩
    | succ j =>
      obtain ⟨k, b, e1, e2, e3⟩ := hp j u' v' (by simpa using e)
      exact ⟨k, b, by simpa using e1, by simpa using e2, e3⟩
theorem call_dictT (hcalm : X.calm = true) {pins : List (Addr × Obj)} {s : Shared} {a : Addr} {ps : List Addr} {kvs : List (Key × V)} {Q : VK} (I : Inv X pins σ H s) (hq : TupP X.K H a (ps.map V.ref)) (hp : Paired (fun p (kv : Key × V) => SqT X.K H p [kV kv.1, kv.2]) ps kvs)
    (q : ∀ p, H p = none → Q (.ref p) (upd H p (.dK (mergeK [] kvs)))) : wpAny (model X.prog X.w) X.A (call (.type "dict") [.ref a]) (EP X pins σ Q) X.xe s := by
  obtain ⟨its, rv, pl, hz⟩ := plain_tup I hq
  have ei := refs_at rv
  subst ei
  rw [List.length_map] at hz
  obtain ⟨prs, us, rel, hl, hl2, hpr⟩ := pairs_ofT I hp
  refine _root_.PySem.call_dict_pairs (knd := mixKind X.prog X.w) (kvs := prs) (PairArg.tuple a (ps.map Value.ref).toArray (fun j => ps.getD j 0) us) (I.ok.hd hcalm) ⟨pl, by simp [hl2], fun j u v e => ?_⟩ ⟨by rw [hl, hl2], fun j u v e => ?_⟩ (by rw [hl2]; exact hz) fun h' tk hd' k => ?_
  · obtain ⟨k, b, e1, e2, e3, e4⟩ := hpr j u v e
    refine ⟨by simp [e2], .inl ?_⟩
    have e5 : ps.getD j 0 = b := by simp [e2]
    show s.heap.IsTuple (ps.getD j 0) #[u, v]
    rw [e5]; exact e3
  · obtain ⟨k, b, e1, e2, e3, e4⟩ := hpr j u v e
    exact ⟨k, e1, e4⟩
  · have hm : (s.heap.objs.size == sysModules) = false := beq_eq_false_iff_ne.mpr (Nat.ne_of_gt I.big)
    have hlen : (mergeK [] kvs).length ≤ sizeLine := by
      refine Nat.le_trans (length_mergeK kvs []) ?_
      rw [List.length_nil, Nat.zero_add, rel.length, hl]
      exact hz
    exact ⟨.ref s.heap.objs.size, upd H s.heap.objs.size (.dK (mergeK [] kvs)), I.laid (t' := tk) (fun b o e => k b o (by simp) e) (Nat.le_refl _) (show ObjOk X.prog X.w _ _ _ (.dK (mergeK [] kvs)) from ⟨hlen, hm, PySem.merged [] prs, KV.merge rel .nil, hd'⟩), rfl, q _ (I.hok.fresh (Nat.le_refl _))⟩
theorem call_dictR (hc : X.calm = true) : CallR X (.type "dict") (rOne (rDictO X.K)) := by
  intro pins s σ H xs us Q I r h
  obtain ⟨x, rfl, h⟩ := h
  rcases h with ⟨a, ps, kvs, rfl, h1, h2, q⟩ | ⟨a, ps, kvs, rfl, h1, h2, q⟩ | ⟨a, kvs, rfl, h1, q⟩
  · exact call_dictP hc pins s σ H _ us Q I r ⟨a, ps, kvs, rfl, h1, h2, q⟩
  · obtain ⟨u, rfl, rx⟩ := Vals.one r
    cases rx
    exact call_dictT hc I h1 h2 q
  · obtain ⟨u, rfl, rx⟩ := Vals.one r
    cases rx
    exact d_copyOf I h1 fun p s' hp I' => ⟨.ref p, _, I', rfl, q p hp⟩
theorem ok_dict : UnNew K (rDictO K) dictD := ⟨fun {Fr B σ H ρ x a d Q} R va e k => by
  unfold dictD at e
  split at e
  · rename_i xs
    cases q : pairsD xs with
    | none => rw [q] at e; cases e
    | some ps =>
      rw [q] at e; cases e
      obtain ⟨p, vs, rfl, h, r⟩ := va.lst
      obtain ⟨as, kvs, rfl, h1, h2⟩ := pairs_all r q
      exact .inl ⟨p, as, kvs, rfl, h, h1, fun p hp => k _ _ (Step.new R hp) (R.new hp) ⟨p, rfl, own_dic hp (h2.merge .nil), R.fresh hp⟩⟩
  · rename_i xs
    cases q : pairsD xs with
    | none => rw [q] at e; cases e
    | some ps =>
      rw [q] at e; cases e
      obtain ⟨p, vs, rfl, h, r⟩ := va.tup
      obtain ⟨as, kvs, rfl, h1, h2⟩ := pairs_all r q
      exact .inr (.inl ⟨p, as, kvs, rfl, h, h1, fun p hp => k _ _ (Step.new R hp) (R.new hp) ⟨p, rfl, own_dic hp (h2.merge .nil), R.fresh hp⟩⟩)
  · cases e
    obtain ⟨p, vs, rfl, h, r⟩ := va.dic
    exact .inr (.inr ⟨p, vs, rfl, h, fun p hp => k _ _ (Step.new R hp) (R.new hp) ⟨p, rfl, own_dic hp r, R.fresh hp⟩⟩)
  · cases e⟩

/-! ### isinstance -/
/-- the type's name, as data says it -/
def tyD : D → Option String
  | .non => some "NoneType"
  | .bl _ => some "bool"
  | .int _ => some "int"
  | .str _ => some "str"
  | .tup _ => some "tuple"
  | .lst _ => some "list"
  | .dic _ => some "dict"
  | .exc _ => none
  | .ol => some "list"
  | .odd _ => none
def isiD (T : String) (d : D) : Option D := match d, tyD d with
  | .bl _, _ => some (.bl (T == "bool" || T == "int"))
  | .odd _, _ => some (.bl ("dict" == T))
  | _, some t => some (.bl (t == T))
  | _, none => none
end
end DL
set_option Elab.async false
set_option linter.all false
set_option maxRecDepth 100000
set_option maxHeartbeats 2000000
namespace DL
open PySem PySem.Spec L2
section
variable {X : Cx} {W : WX} {K : PySem.W.Frag} {Fr : Addr → Prop} {B : List (Nat × Addr)} {E : Ends} {σ : St} {H H1 : Hp} {ρ ρ1 : Ev} {v : V}

/-! ### isinstance -/
structure IsT (T : String) : Prop where
  ok : ∀ d t, tyD d = some t → ∃ b, kitB t T = some b ∧ isiD T d = some (.bl b)
  odd : kitB "dict" T = some ("dict" == T)
theorem isT_of {T : String} (h : ∀ t ∈ ["NoneType", "bool", "int", "str", "tuple", "list", "dict"], kitB t T = some (if t = "bool" then (T == "bool" || T == "int") else t == T)) : IsT T := ⟨fun d t e => by
  have g : ∀ (t : String), t ∈ ["NoneType", "bool", "int", "str", "tuple", "list", "dict"] → isiD T d = some (.bl (if t = "bool" then (T == "bool" || T == "int") else t == T)) → ∃ b, kitB t T = some b ∧ isiD T d = some (.bl b) := fun t ht e => ⟨_, h t ht, e⟩
  cases d <;> cases e <;> refine g _ (by decide) rfl, h "dict" (by decide)⟩
theorem isT_int : IsT "int" := isT_of (by decide +kernel)
theorem isT_bool : IsT "bool" := isT_of (by decide +kernel)
theorem isT_str : IsT "str" := isT_of (by decide +kernel)
theorem isT_tuple : IsT "tuple" := isT_of (by decide +kernel)
theorem isT_list : IsT "list" := isT_of (by decide +kernel)
theorem isT_dict : IsT "dict" := isT_of (by decide +kernel)
theorem View.ty {d : D} {t : String} (h : View K H v d) (e : tyD d = some t) : TyX K H v (.type t) := by
  cases h with
  | dat h =>
    cases h with
    | non => cases e; exact .base .non
    | bl => cases e; exact .base (.bl _)
    | int => cases e; exact .base (.int _)
    | str => cases e; exact .base (.str _)
    | tup h r =>
      cases e
      rcases h with ⟨o, h, _⟩ | ⟨o, its, n, h1, h2, _⟩
      · exact .fTuple h
      · exact .kTuple h1 h2
    | lst h r =>
      cases e
      rcases h with ⟨o, h⟩ | ⟨o, its, n, h1, h2, _⟩
      · exact .base (.frz h)
      · exact .kList h1 h2
    | dic h r => cases e; exact .fDict h
    | exc h => cases e
    | odd h r => cases e
    | ol h =>
      cases e
      rcases h with ⟨o, h⟩ | ⟨o, its, n, h1, h2, _⟩
      · exact .base (.frz h)
      · exact .kList h1 h2
  | @own p o h =>
    cases o with
    | l xs => cases e; obtain ⟨vs, h, _⟩ := h; exact .base (.lst h)
    | d xs => cases e; obtain ⟨vs, h, _⟩ := h; exact .base (.dK h)
theorem tyD_isi {T : String} {d d' : D} (e : isiD T d = some d') : (∃ t, tyD d = some t) ∨ ∃ ks, d = .odd ks := by
  cases d <;> first | exact .inl ⟨_, rfl⟩ | exact .inr ⟨_, rfl⟩ | (cases e; done)
/-- isinstance, of odd dicts too -/
def rIsiX (K : PySem.W.Frag) : List V → Hp → VK → Prop := fun xs H Q => rIsi K xs H Q ∨ ∃ (a : Addr) (o : Obj) (T : String) (b : Bool), xs = [.ref a, .ty T] ∧ H a = some (FixA a o) ∧ o.cls = .type "dict" ∧ PySem.W.kitOne K (.type "dict") (.type T) = some b ∧ Q (.bl b) H
theorem call_isiX : CallR X (.builtin "isinstance") (rIsiX X.K) := by
  intro pins s σ H xs us Q I r h
  rcases h with h | ⟨a, o, T, b, rfl, ha, hc, e, q⟩
  · exact call_isi pins s σ H _ us Q I r h
  · obtain ⟨u1, u2, rfl, r1, r2⟩ := vals2 r
    cases (show u1 = Value.ref a from r1)
    cases (show u2 = Value.type T from r2)
    obtain ⟨hg, _⟩ := (show ObjOk X.prog X.w H s.heap a (FixA a o) from I.hok a _ ha)
    exact PySem.W.kia_one PySem.W.kitx_dict I.kIn ⟨o, hg, hc⟩ e (fun z => nomatch z) fun tk => ⟨.bl b, H, I.tok tk, rfl, q⟩
def rIsiO (K : PySem.W.Frag) (T : String) : List V → Hp → VK → Prop := fun xs H Q => ∃ x, xs = [x, .ty T] ∧ ∃ (t : String) (b : Bool), TyX K H x (.type t) ∧ kitB t T = some b ∧ Q (.bl b) H
theorem de_isi {a : Expr} {T : String} {f : Ev → Out RV} {x : Str} {p p2 pos : Pos} (hT : IsT T) (hg : Gl X "isinstance") (hm : X.mg "isinstance" = none) (hg2 : Gl X x) (hm2 : X.mg x = none) (hv : bootBuiltins x = some (.type T)) (ha : DR X W a f) (hn : x ≠ "__name__" := by decide) (hdb : (x == ("__debug__" : Str)) = false := by decide)
    (he : starEach [a, .Name x p2] X.env = (false, eval a X.env) :: starEach [.Name x p2] X.env := by rfl) (he2 : starEach [.Name x p2] X.env = (false, eval (.Name x p2) X.env) :: starEach [] X.env := by rfl) (hpl : (backTo pos (starEach [.Name x p2] X.env)).any (·.1) = false := by rfl) :
    DE X W (.Call (.Name "isinstance" p) [a, .Name x p2] [] pos) (unF (isiD T) f) := by
  obtain ⟨t, pa, s⟩ := ha.ex
  have hb : PE X (.Name x p2) (tC (.ty T)) := pe_bltn hg2 hm2 hv rfl hn hdb
  refine ⟨_, pe_callB call_isiX hg hm (by decide +kernel) (pa_cons pa (pa_cons hb pa_nil he2) he) (by decide) (by decide) he hpl, fun Fr B σ H ρ Q R k => s Fr B σ H ρ _ R (Ok.bind k fun v H1 a ρ1 st R1 r1 k => ?_)⟩
  obtain ⟨d, d', e1, e2, k⟩ := onOne_inv k
  rcases tyD_isi e2 with ⟨ty, e3⟩ | ⟨ks, rfl⟩
  rotate_left
  · cases e2
    obtain ⟨a, ks', rfl, ho, _⟩ := (view_now r1 R1 e1).odd
    obtain ⟨o, es, ep, ha', hc, _⟩ := ho
    exact .inr ⟨a, o, T, _, rfl, ha', hc.1, kit_ty hT.odd, k _ H1 Step.refl R1 .bl⟩
  obtain ⟨b, e4, e5⟩ := hT.ok d ty e3
  rw [e2] at e5; cases e5
  exact .inl ⟨v, .ty T, .type ty, .type T, b, rfl, .ty T, (view_now r1 R1 e1).ty e3, kit_ty e4, k _ H1 Step.refl R1 .bl⟩

/-! ### keys -/
def lkD : D → Option OD
  | .dic kvs => some (.l (kvs.map fun kv => keyD kv.1))
  | _ => none
theorem DatK.keys : ∀ {vs : List (Key × V)} {ds : List (Key × D)}, DatK K H vs ds → DatL K H (vs.map fun q => kV q.1) (ds.map fun q => keyD q.1)
  | _, _, .nil => .nil
  | _, _, .cons _ r => .cons dat_key (DatK.keys r)
section
variable {e : Expr} {f : Ev → Out RV} {p apos cpos pos : Pos}
theorem dn_listKeys (hc : X.calm = true) (hg : Gl X "list") (hm : X.mg "list" = none) (he : DR X W e f) (hbase : attributeBase e "keys" X.env (eval e X.env) = eval e X.env := by rfl) (hline : (apos.endLine == cpos.line) = true := by rfl)
    (hs : starEach [.Call (.Attribute e "keys" apos) [] [] cpos] X.env = (false, eval (.Call (.Attribute e "keys" apos) [] [] cpos) X.env) :: starEach [] X.env := by rfl) : DN X W (.Call (.Name "list" p) [.Call (.Attribute e "keys" apos) [] [] cpos] [] pos) (unF lkD f) := by
  obtain ⟨t, pa, s⟩ := he.ex
  refine ⟨_, DLS.pe_listKeys hc pa hg hm hbase hline hs, fun Fr B σ H ρ Q R k => s Fr B σ H ρ _ R (Ok.bind k fun v H1 a ρ1 st R1 r1 k => ?_)⟩
  obtain ⟨d, o, e1, e2, k⟩ := onOne_inv k
  unfold lkD at e2
  split at e2
  · cases e2
    obtain ⟨q, vs, rfl, h, r⟩ := (view_now r1 R1 e1).dic
    exact ⟨q, vs, rfl, h, fun p hp => own_new R1 hp (own_lst hp r.keys) k⟩
  · cases e2
def txK : List (Key × D) → Option (List Str)
  | [] => some []
  | (.inr s, _) :: r => (txK r).map (s :: ·)
  | _ => none
def skD : D → Option OD
  | .dic kvs => (txK kvs).map fun ks => .l ((DLS.srt ks).map D.str)
  | _ => none
theorem txK_eq : ∀ {vs : List (Key × V)} {ds : List (Key × D)} {ks : List Str}, DatK K H vs ds → txK ds = some ks → (vs.map fun q => kV q.1) = ks.map V.str
  | _, _, _, .nil, e => by cases e; rfl
  | _, _, _, .cons (k := k) (ds := ds) h r, e => by
    cases k with
    | inl i => cases e
    | inr s =>
      have e' : (txK ds).map (s :: ·) = some _ := e
      cases q : txK ds with
      | none => rw [q] at e'; cases e'
      | some ks => rw [q] at e'; cases e'; rw [List.map_cons, List.map_cons, txK_eq r q]; rfl
theorem dn_sortKeys (hc : X.calm = true) (hg : Gl X "sorted") (hm : X.mg "sorted" = none) (he : DR X W e f) (hbase : attributeBase e "keys" X.env (eval e X.env) = eval e X.env := by rfl) (hline : (apos.endLine == cpos.line) = true := by rfl)
    (hs : starEach [.Call (.Attribute e "keys" apos) [] [] cpos] X.env = (false, eval (.Call (.Attribute e "keys" apos) [] [] cpos) X.env) :: starEach [] X.env := by rfl) : DN X W (.Call (.Name "sorted" p) [.Call (.Attribute e "keys" apos) [] [] cpos] [] pos) (unF skD f) := by
  obtain ⟨t, pa, s⟩ := he.ex
  refine ⟨_, DLS.pe_sortKeys hc pa hg hm hbase hline hs, fun Fr B σ H ρ Q R k => s Fr B σ H ρ _ R (Ok.bind k fun v H1 a ρ1 st R1 r1 k => ?_)⟩
  obtain ⟨d, o, e1, e2, k⟩ := onOne_inv k
  unfold skD at e2
  split at e2
  · rename_i kvs
    cases q : txK kvs with
    | none => rw [q] at e2; cases e2
    | some ks =>
      rw [q] at e2; cases e2
      obtain ⟨q', vs, rfl, h, r⟩ := (view_now r1 R1 e1).dic
      exact ⟨q', vs, rfl, h, ks, txK_eq r q, fun p hp => own_new R1 hp (own_lst hp (DatL.strs _)) k⟩
  · cases e2
end

/-! ### d.get(k), d.get(k, x) -/
def get1 : D → D → Option D := fun a b => match a with
  | .dic kvs => (keyOf b).map fun k => (valD kvs k).getD .non
  | _ => none
theorem look_dat {kvs : List (Key × D)} {a : RV} {ρ0 : Ev} (r : relR K σ a ρ0 v H) (R : Rep K Fr B σ H ρ) (e : look ρ a = some (.dic kvs)) : ∃ p vs, v = .ref p ∧ Rd H p (.dK vs) ∧ DatK K H vs kvs := (view_later r Step.refl R e).dic
def get1F (f : Ev → Out D) (g : Ev → Out D) : Ev → Out D := fun ρ => (f ρ).bind fun a ρ1 => match a with
  | .dic kvs => (g ρ1).bind fun b ρ2 => ofO ((keyOf b).map fun k => (valD kvs k).getD .non) ρ2
  | _ => .bad
def get2F (f : Ev → Out D) (g h : Ev → Out D) : Ev → Out D := fun ρ => (f ρ).bind fun a ρ1 => match a with
  | .dic kvs => (g ρ1).bind fun b ρ2 => (h ρ2).bind fun z ρ3 => ofO ((keyOf b).map fun k => (valD kvs k).getD z) ρ3
  | _ => .bad
theorem DatK.getD {k : Key} {z : V} {dz : D} {vs : List (Key × V)} {ds : List (Key × D)} (r : DatK K H vs ds) (x : Dat K H z dz) : Dat K H ((valV vs k).getD z) ((valD ds k).getD dz) := by
  obtain ⟨h1, h2⟩ := r.val (k := k)
  cases e : valD ds k with
  | none => rw [h2 e]; exact x
  | some d => obtain ⟨v, h, hd⟩ := h1 d e; rw [h]; exact hd
theorem de_get1 {o e : Expr} {f g : Ev → Out D} {apos cpos : Pos} (hu : X.A.units + 65 < cLine) (ho : DE X W o f) (he : DE X W e g) (m : M1 X o "get" apos e cpos := by exact ⟨rfl, rfl, rfl, rfl⟩) : DE X W (.Call (.Attribute o "get" apos) [e] [] cpos) (get1F f g) := by
  obtain ⟨t, pa, s⟩ := ho.ex
  obtain ⟨t', pa', s'⟩ := he.ex
  refine ⟨_, pe_dget1 (by omega) pa pa' m, fun Fr B σ H ρ Q R k => s Fr B σ H ρ _ R (Ok.bind k fun v H1 a ρ1 st R1 r1 k => ?_)⟩
  cases (show Dat _ _ _ _ from r1) with
  | @dic p o vs ds h r =>
    refine ⟨p, rfl, .inl ⟨vs, .inr ⟨o, h⟩⟩, s' Fr B σ H1 ρ1 _ R1 (Ok.bind k fun w H2 b ρ2 st2 R2 r2 k => ?_)⟩
    cases q : keyOf b with
    | none => rw [q] at k; exact False.elim k
    | some k' =>
      rw [q] at k
      refine ⟨_, .inl ⟨vs, k', .inr ⟨o, st2.mono _ _ h True.intro⟩, Dat.key r2 q, rfl⟩, k _ H2 Step.refl R2 ((r.mono st2.mono).getD .non)⟩
  | _ => exact False.elim k
theorem de_get2 {o e z : Expr} {f g h : Ev → Out D} {apos cpos : Pos} (hu : X.A.units + 65 < cLine) (ho : DE X W o f) (he : DE X W e g) (hz : DE X W z h) (m : M2 X o "get" apos e z cpos := by exact ⟨rfl, rfl, rfl, rfl⟩) : DE X W (.Call (.Attribute o "get" apos) [e, z] [] cpos) (get2F f g h) := by
  obtain ⟨t, pa, s⟩ := ho.ex
  obtain ⟨t', pa', s'⟩ := he.ex
  obtain ⟨t2, pa2, s2⟩ := hz.ex
  refine ⟨_, pe_dget2 (by omega) pa pa' pa2 m, fun Fr B σ H ρ Q R k => s Fr B σ H ρ _ R (Ok.bind k fun v H1 a ρ1 st R1 r1 k => ?_)⟩
  cases (show Dat _ _ _ _ from r1) with
  | @dic p o vs ds h r =>
    refine ⟨p, rfl, .inl ⟨vs, .inr ⟨o, h⟩⟩, s' Fr B σ H1 ρ1 _ R1 (Ok.bind k fun w H2 b ρ2 st2 R2 r2 k => s2 Fr B σ H2 ρ2 _ R2 (Ok.bind k fun y H3 dz ρ3 st3 R3 r3 k => ?_))⟩
    cases q : keyOf b with
    | none => rw [q] at k; exact False.elim k
    | some k' =>
      rw [q] at k
      have m3 := st2.mono.trans st3.mono
      exact ⟨_, .inl ⟨vs, k', .inr ⟨o, m3 _ _ h True.intro⟩, (Dat.mono st3.mono r2).key q, rfl⟩, k _ H3 Step.refl R3 ((r.mono m3).getD r3)⟩
  | _ => exact False.elim k

/-! ### texts -/
def joinO (a b : D) : Option D := match a, b with
  | .str s, .lst xs => (toStrs xs).bind fun ys => if (ys.map (·.length)).sum + ys.length * s.length ≤ 16777216 then some (.str (Txt.join s ys)) else none
  | _, _ => none
def joinF (f g : Ev → Out D) : Ev → Out D := fun ρ => (f ρ).bind fun a ρ1 => match a with
  | .str s => (g ρ1).bind fun b ρ2 => ofO (joinO (.str s) b) ρ2
  | _ => .bad
theorem de_join {o e : Expr} {f g : Ev → Out D} {apos pos : Pos} (ho : DE X W o f) (he : DE X W e g) (hs : starEach [e] X.env = [(false, eval e X.env)] := by rfl) (hbase : attributeBase o "join" X.env (eval o X.env) = eval o X.env := by rfl) (hline : (apos.endLine == pos.line) = true := by rfl) :
    DE X W (.Call (.Attribute o "join" apos) [e] [] pos) (joinF f g) := by
  obtain ⟨t, pa, s⟩ := ho.ex
  obtain ⟨t', pa', s'⟩ := he.ex
  refine ⟨_, pe_join pa pa' hs hbase hline, fun Fr B σ H ρ Q R k => s Fr B σ H ρ _ R (Ok.bind k fun v H1 a ρ1 st R1 r1 k => ?_)⟩
  cases (show Dat _ _ _ _ from r1) with
  | @str x =>
    refine ⟨⟨x, rfl⟩, s' Fr B σ H1 ρ1 _ R1 (Ok.bind k fun w H2 b ρ2 st2 R2 r2 k => ?_)⟩
    cases (show Dat _ _ _ _ from r2) with
    | @lst q vs xs h r =>
      replace k : Ok X.K W Fr B σ (relE X.K) Q H2 (ofO ((toStrs xs).bind fun ys => if (ys.map (·.length)).sum + ys.length * x.length ≤ 16777216 then some (D.str (Txt.join x ys)) else none) ρ2) := k
      cases e : toStrs xs with
      | none => rw [e] at k; exact False.elim k
      | some ys =>
        rw [e] at k
        rw [toStrs_eq e] at r
        rw [r.ofStrs] at h
        replace k : Ok X.K W Fr B σ (relE X.K) Q H2 (ofO (if (ys.map (·.length)).sum + ys.length * x.length ≤ 16777216 then some (D.str (Txt.join x ys)) else none) ρ2) := k
        split at k
        · rename_i hz
          exact ⟨x, q, ys, rfl, rfl, .inl h.sq, hz, k _ H2 Step.refl R2 .str⟩
        · exact False.elim k
    | _ => exact False.elim k
  | _ => exact False.elim k
/-- abs -/
theorem call_absR : CallR X (.builtin "abs") (rOne fun x H Q => ∃ i, x = .int i ∧ Q (.int (if i < 0 then -i else i)) H) := CallR.imp call_abs fun xs H Q ⟨x, e, i, e2, q⟩ => ⟨i, by rw [e, e2], q⟩
theorem ok_abs : UnOk K (fun x H Q => ∃ i, x = .int i ∧ Q (.int (if i < 0 then -i else i)) H) absD := ⟨fun {Fr B σ H ρ x a d Q} R va e k => by
  unfold absD at e
  split at e
  · cases e
    exact ⟨_, va.int, k _ H Step.refl R .int⟩
  · cases e⟩
end
end DL
set_option Elab.async false
set_option linter.all false
set_option maxRecDepth 100000
set_option maxHeartbeats 2000000
namespace DL
open PySem PySem.Spec L2
section
variable {X : Cx} {W : WX} {e : Expr} {f : Ev → Out RV} {x : Str} {p pos apos cpos : Pos} {i : Nat}
theorem pe_nm (hN : X.N[i]? = some x := by rfl) (hv : Vis X.env.scope x := by first | exact .inl rfl | exact .inr (.inl rfl) | exact .inr (.inr rfl)) (hd : (x == ("__debug__" : Str)) = false := by decide) (hcd : (x == ("__classdict__" : Str)) = false := by decide) : PE X (.Name x pos) (tVar i) := pe_var hN hv hd hcd
theorem de_nm (i : Nat) (hN : X.N[i]? = some x := by rfl) (hv : Vis X.env.scope x := by first | exact .inl rfl | exact .inr (.inl rfl) | exact .inr (.inr rfl)) (hd : (x == ("__debug__" : Str)) = false := by decide) (hcd : (x == ("__classdict__" : Str)) = false := by decide) : DE X W (.Name x pos) (varE i) := de_var (pe_var hN hv hd hcd)
theorem dr_nm (i : Nat) (hN : X.N[i]? = some x := by rfl) (hv : Vis X.env.scope x := by first | exact .inl rfl | exact .inr (.inl rfl) | exact .inr (.inr rfl)) (hd : (x == ("__debug__" : Str)) = false := by decide) (hcd : (x == ("__classdict__" : Str)) = false := by decide) : DR X W (.Name x pos) (varR i) := dr_var (pe_var hN hv hd hcd)
theorem da_nm {es : List Expr} {g : Ev → Out (List AR)} (i : Nat) (hr : DA X W es g) (hN : X.N[i]? = some x := by rfl) (hv : Vis X.env.scope x := by first | exact .inl rfl | exact .inr (.inl rfl) | exact .inr (.inr rfl)) (hd : (x == ("__debug__" : Str)) = false := by decide) (hcd : (x == ("__classdict__" : Str)) = false := by decide)
    (hs : starEach (.Name x pos :: es) X.env = (false, eval (.Name x pos) X.env) :: starEach es X.env := by rfl) : DA X W (.Name x pos :: es) (refA i g) := da_ref (pe_var hN hv hd hcd) hr hs
theorem de_len (hm : X.mg "len" = none) (ha : DR X W e f) (hg : Gl X "len" := by rfl) (he : starEach [e] X.env = (false, eval e X.env) :: starEach [] X.env := by rfl) (hpl : (backTo pos (starEach [] X.env)).any (·.1) = false := by rfl) : DE X W (.Call (.Name "len" p) [e] [] pos) (unF lenD f) := de_callB call_lenR ok_len hg hm (by decide +kernel) ha (by decide) (by decide) he hpl
theorem de_all (hc : X.calm = true) (hm : X.mg "all" = none) (ha : DR X W e f) (hg : Gl X "all" := by rfl) (he : starEach [e] X.env = (false, eval e X.env) :: starEach [] X.env := by rfl) (hpl : (backTo pos (starEach [] X.env)).any (·.1) = false := by rfl) : DE X W (.Call (.Name "all" p) [e] [] pos) (unF allD f) := de_callB (call_allR hc) ok_all hg hm (by decide +kernel) ha (by decide) (by decide) he hpl
theorem de_any (hc : X.calm = true) (hm : X.mg "any" = none) (ha : DR X W e f) (hg : Gl X "any" := by rfl) (he : starEach [e] X.env = (false, eval e X.env) :: starEach [] X.env := by rfl) (hpl : (backTo pos (starEach [] X.env)).any (·.1) = false := by rfl) : DE X W (.Call (.Name "any" p) [e] [] pos) (unF anyD f) := de_callB (call_anyR hc) ok_any hg hm (by decide +kernel) ha (by decide) (by decide) he hpl
theorem de_sum (hc : X.calm = true) (hm : X.mg "sum" = none) (ha : DR X W e f) (hg : Gl X "sum" := by rfl) (he : starEach [e] X.env = (false, eval e X.env) :: starEach [] X.env := by rfl) (hpl : (backTo pos (starEach [] X.env)).any (·.1) = false := by rfl) : DE X W (.Call (.Name "sum" p) [e] [] pos) (unF sumD f) := de_callB (call_sumR hc) ok_sum hg hm (by decide +kernel) ha (by decide) (by decide) he hpl
theorem de_abs (hm : X.mg "abs" = none) (ha : DR X W e f) (hg : Gl X "abs" := by rfl) (he : starEach [e] X.env = (false, eval e X.env) :: starEach [] X.env := by rfl) (hpl : (backTo pos (starEach [] X.env)).any (·.1) = false := by rfl) : DE X W (.Call (.Name "abs" p) [e] [] pos) (unF absD f) := de_callB call_absR ok_abs hg hm (by decide +kernel) ha (by decide) (by decide) he hpl
theorem de_tuple (hm : X.mg "tuple" = none) (ha : DR X W e f) (hg : Gl X "tuple" := by rfl) (he : starEach [e] X.env = (false, eval e X.env) :: starEach [] X.env := by rfl) (hpl : (backTo pos (starEach [] X.env)).any (·.1) = false := by rfl) : DE X W (.Call (.Name "tuple" p) [e] [] pos) (unF tupD f) := de_callT call_tupR ok_tup hg hm (by decide +kernel) ha (by decide) (by decide) he hpl
theorem dn_sorted (hm : X.mg "sorted" = none) (ha : DR X W e f) (hg : Gl X "sorted" := by rfl) (he : starEach [e] X.env = (false, eval e X.env) :: starEach [] X.env := by rfl) (hpl : (backTo pos (starEach [] X.env)).any (·.1) = false := by rfl) : DN X W (.Call (.Name "sorted" p) [e] [] pos) (unF sortD f) := dn_callB call_sortR ok_sort hg hm (by decide +kernel) ha (by decide) (by decide) he hpl
theorem dn_list (hm : X.mg "list" = none) (ha : DR X W e f) (hg : Gl X "list" := by rfl) (he : starEach [e] X.env = (false, eval e X.env) :: starEach [] X.env := by rfl) (hpl : (backTo pos (starEach [] X.env)).any (·.1) = false := by rfl) : DN X W (.Call (.Name "list" p) [e] [] pos) (unF listD f) := dn_callT call_listR ok_list hg hm (by decide +kernel) ha (by decide) (by decide) he hpl
theorem dn_dict (hc : X.calm = true) (hm : X.mg "dict" = none) (ha : DR X W e f) (hg : Gl X "dict" := by rfl) (he : starEach [e] X.env = (false, eval e X.env) :: starEach [] X.env := by rfl) (hpl : (backTo pos (starEach [] X.env)).any (·.1) = false := by rfl) : DN X W (.Call (.Name "dict" p) [e] [] pos) (unF dictD f) := dn_callT (call_dictR hc) ok_dict hg hm (by decide +kernel) ha (by decide) (by decide) he hpl
end

def nxS : Ev → SOut := fun ρ => .nx ρ
def badS : Ev → SOut := fun _ => .bad
def retN : Ev → SOut := fun ρ => .rt .non ρ
def datO (f : Ev → Out D) : Ev → Out RV := fun ρ => (f ρ).map RV.dat
def mapO {α β : Type} (g : α → β) (f : Ev → Out α) : Ev → Out β := fun ρ => (f ρ).map g
section
variable {X : Cx} {W : WX} {e : Expr}
theorem dr_of {f : Ev → Out D} (h : DE X W e f) : DR X W e (datO f) := h.dr
theorem de_of {f : Ev → Out OD} (h : DN X W e f) : DE X W e (mapO OD.dat f) := h.de
theorem drn_of {f : Ev → Out OD} (h : DN X W e f) : DR X W e (datO (mapO OD.dat f)) := h.dr
theorem dss_nl : DSs X W [] nxS := dss_nil
theorem ds_dc {x j pos pos'} : DS X W (.Expr (.Constant (.str x) j pos) pos') nxS := ds_doc
theorem ds_ps {pos} : DS X W (.Pass pos) nxS := ds_pass
theorem ds_nv {st : Stmt} : DS X W st badS := ds_never
theorem ds_rn {pos : Pos} : DS X W (.Return none pos) retN := ds_retN
/-! ### extend -/
def extE (i : Nat) (f : Ev → Out D) : Ev → Out D := fun ρ => match ρ[i]? with
  | some (.ow _ (.l _)) => (f ρ).bind fun d ρ1 => match d, ρ1[i]? with
    | .lst ys, some (.ow r (.l xs)) => if xs.length + ys.length ≤ sizeLine then .val .non (ρ1.set i (.ow r (.l (xs ++ ys)))) else .bad
    | _, _ => .bad
  | _ => .bad
theorem extendW {l b : Addr} {xs ys : Array Value} {n m : Nat} {db : Option Addr} {sb : Array (Option Value)} (hz : xs.size + ys.size ≤ sizeLine) :
    Meets (Builtin.«list.extend» ⟨[.ref l, .ref b], []⟩) (fun _ R s => s.heap.get? l = some { cls := .type "list", data := .seq xs n } ∧ s.heap.get? b = some { cls := .type "list", dict := db, data := .seq ys m, slots := sb } ∧
      R (.ok (.ret Value.none)) { s with heap := s.heap.update l (Obj.mapSeq fun x => x ++ ys), toks := s.toks }) :=
  .of_wp fun prog w A R s h => by
    obtain ⟨hp, g, d, tk, os⟩ := s
    obtain ⟨hl, hb, h⟩ := h
    have a1 := AutoSeq1.idx_int
    have a2 := AutoSeq1.sub_tuple_tuple
    have a3 := AutoSeq1.sub_list_list
    have a4 := AutoSeq1.sub_tuple_list
    have a5 := AutoSeq1.sub_list_tuple
    have hc0 : ¬(!xs.isEmpty && Builtin.List.listTooLong (xs.size + ys.size)) = true := by rw [notLongL hz, Bool.and_false]; exact Bool.false_ne_true
    have hc1 : xs.size ≤ sizeLine := by omega
    have h2 : (xs ++ ys).size ≤ sizeLine + 1 := by rw [Array.size_append]; omega
    wp_walk using (PySem.wpAny_updateSeq hl rfl (hz := hc1) (_hz' := h2)), AutoSeq1.wpAny_loadPart' hl, AutoSeq1.wpAny_loadPart' hb
    exact ⟨_, rfl, h⟩
def rExtR (K : PySem.W.Frag) : V → List V → Hp → VK → Prop := fun x vs H Q => ∃ l b xs zs, x = .ref l ∧ vs = [.ref b] ∧ H l = some (.lst xs) ∧ SqL K H b zs ∧ xs.length + zs.length ≤ sizeLine ∧ Q .non (upd H l (.lst (xs ++ zs)))
theorem mt_extR : MtR X "list.extend" (rExtR X.K) := by
  intro pins s σ H x vs v us Q I rx rv h
  obtain ⟨l, b, xs, zs, rfl, rfl, hH, hB, hz, q⟩ := h
  cases rx
  obtain ⟨u, rfl, ru⟩ := rv.one
  cases ru
  obtain ⟨z, its, n, r, hl, e⟩ := I.lstM hH
  obtain ⟨its2, r2, p2, _⟩ := I.list hB
  have hl2 := r2.length
  have q2 := p2.isList
  obtain ⟨⟨c2, d2, dt2, s2⟩, ho2, hc2, n2, hd2⟩ := id q2
  simp only at hc2 hd2
  subst hc2 hd2
  refine call_meets PySem.F.slot_list_extend ⟨_, e, rfl⟩ PySem.F.entry_list_extend (PySem.F.args_list_extend_2 _ _) (extendW (xs := its.toArray) (ys := its2.toArray) (n := n) (m := n2) (by simp only [List.size_toArray]; omega)) ⟨e, ho2, ?_⟩
  refine ⟨.non, _, I.lset (its' := its ++ its2) hH e (by simp) (r.append r2) ?_, rfl, q⟩
  rw [List.length_append]
  omega
theorem de_extend {W : WX} {i : Nat} {o e : Expr} {f : Ev → Out D} {apos cpos : Pos} (ho : PE X o (tVar i)) (h : DE X W e f)
    (hbase : attributeBase o "extend" X.env (eval o X.env) = eval o X.env := by rfl)
    (hfew : ((backTo cpos (starEach (e :: []) X.env)).all (fun x => !x.1) && (backToKw cpos (keywordEach [] X.env)).all (fun x => x.1.isSome)
      && decide ((e :: []).length + ([] : List Keyword).length + (if ([] : List Keyword).isEmpty then 0 else 1) < 30)) = true := by rfl)
    (hline : (apos.endLine == cpos.line) = true := by rfl) (hs : starEach (e :: []) X.env = (false, eval e X.env) :: starEach [] X.env := by rfl) (hplain : (backTo cpos (starEach [] X.env)).any (·.1) = false := by rfl) :
    DE X W (.Call (.Attribute o "extend" apos) [e] [] cpos) (extE i f) := by
  obtain ⟨t, p, s⟩ := h.ex
  refine ⟨_, pe_bm PySem.F.plainAttrs_list PySem.F.slot_list_extend PySem.F.type_list_extend mt_extR ho (pa_cons p pa_nil hs) hbase hfew hline hs hplain, fun Fr B σ H ρ Q R k => ?_⟩
  unfold extE at k
  split at k
  · rename_i r0 xs0 q0
    obtain ⟨p0, vs0, e0, h0, _⟩ := slot_l R q0
    refine ⟨_, e0, .inl ⟨rfl, vs0, .inl (.inl h0)⟩, s Fr B σ H ρ _ R (Ok.bind k fun v H1 d ρ1 st R1 r1 k => ?_)⟩
    split at k
    · rename_i ys r xs q
      obtain ⟨p1, vs, e1, h1, rd⟩ := slot_l R1 q
      rw [e0] at e1; cases e1
      split at k
      · rename_i hz
        cases (show Dat _ _ _ _ from r1) with
        | @lst b zs _ hb rz =>
          have m : Mono H1 (upd H1 p0 (.lst (vs ++ zs))) := Mono.upd fun z q => by rw [h1] at q; cases q; exact fun z => z
          have w : Own X.K (upd H1 p0 (.lst (vs ++ zs))) p0 (.l (xs ++ ys)) := ⟨_, upd_same, (rd.mono m).append (rz.mono m)⟩
          obtain ⟨R2, s2⟩ := slot_write R1 q e0 h1 (fun z => z) w
          exact ⟨p0, b, vs, zs, rfl, rfl, h1, hb.sq, by rw [rd.length, rz.length]; exact hz, k .non _ s2 R2 .non⟩
      · exact False.elim k
    · exact False.elim k
  · exact False.elim k
end

/-- the law's end -/
theorem sp_end {K : PySem.W.Frag} {H : Hp} {a : Addr} {ns : List Int} {F : List AV → FOut} (hO : Only H) (hS : SqL K H a (ns.map V.int)) (h : ∃ as', F [.fz (.lst (ns.map D.int))] = .val (.bl true) as') : spF K 1 F [.ref a] H (fun v _ => v = .bl true) fun _ _ _ => False := by
  obtain ⟨as', h⟩ := h
  have hd : Dat K H (.ref a) (.lst (ns.map D.int)) := by
    refine .lst ?_ (DatL.ints ns)
    rcases hS with (hS | ⟨o, hS⟩) | hS
    · rcases hO a with e | ⟨o, xs, e⟩
      · rw [hS] at e; cases e
      · rw [hS] at e; cases e
    · exact .inl ⟨o, hS⟩
    · exact .inr hS
  have no : ∀ {i : Nat} {r : Bool} {o : OD}, ([AV.fz (.lst (ns.map D.int))] : Ev)[i]? ≠ some (.ow r o) := fun {i r o} e => by
    cases i with
    | zero => cases e
    | succ i => simp at e
  refine ⟨[.fz (.lst (ns.map D.int))], fun b => H b ≠ none, [], rfl, ⟨rfl, fun i x e => ?_, fun i p r o e => absurd e no, fun i j p r o r' o' e => absurd e no, fun b z => z, fun q z => by cases z⟩, fun i o e => absurd e no, ?_⟩
  · cases i with
    | zero => cases e; exact ⟨_, rfl, hd⟩
    | succ i => simp at e
  · rw [h]
    intro v H' _ r _
    cases r; rfl
theorem fn_never {P : Program} {w : World} {K : PySem.W.Frag} {mg : Str → Option Value} {base : Heap} {k : Nat} {f : Addr} {fd : FuncData} {ps : List Str} {sp : Sp} {CX : CXT} (F : FnOk P w K mg base (L2.CX P w) k f fd ps sp) : FnOk P w K mg base CX k f fd ps (fun vs H Q _ => sp vs H Q fun _ _ _ => False) :=
  ⟨fun vs H Q E q => F.len vs H Q _ q, fun A outer s H args us vs Q E hr he hb hv hs => codeAny_mono (F.run A outer s H args us vs Q (fun _ _ _ => False) hr he hb hv hs) fun r s' hq => by
    cases r with
    | ok fl => cases fl <;> exact hq
    | error e => obtain ⟨_, _, _, _, _, _, _, _, _, _, _, _, z⟩ := hq; exact z.elim⟩
end DL
set_option Elab.async false
set_option linter.all false
set_option maxRecDepth 100000
set_option maxHeartbeats 4000000
namespace DL
open PySem PySem.Spec L2
section
variable {α β : Type} {ρ ρ1 : Ev} {f g : Ev → Out D} {fs : Ev → Out (List D)} {a b : Ev → SOut} {c : Ev → Out Bool} {i : Nat} {d x y : D} {r q : Ev → Out RV} {fn : Ev → Out OD}
@[simp] theorem e_seqS : seqS a b ρ = thenS (a ρ) b := rfl
@[simp] theorem e_then1 : thenS (.nx ρ) b = b ρ := rfl
@[simp] theorem e_then2 : thenS (.rt d ρ) b = .rt d ρ := rfl
@[simp] theorem e_then3 : thenS .bad b = .bad := rfl
@[simp] theorem e_bind1 {v : α} {k : α → Ev → SOut} : bindS (.val v ρ) k = k v ρ := rfl
@[simp] theorem e_bind2 {k : α → Ev → SOut} : bindS (.bad : Out α) k = .bad := rfl
@[simp] theorem e_ob1 {v : α} {k : α → Ev → Out β} : (Out.val v ρ).bind k = k v ρ := rfl
@[simp] theorem e_ob2 {k : α → Ev → Out β} : (Out.bad : Out α).bind k = .bad := rfl
@[simp] theorem e_om1 {v : α} {k : α → β} : (Out.val v ρ).map k = .val (k v) ρ := rfl
@[simp] theorem e_om2 {k : α → β} : (Out.bad : Out α).map k = .bad := rfl
@[simp] theorem e_setS : setS i f ρ = bindS (f ρ) fun d ρ1 => putS i (.fz d) ρ1 := rfl
@[simp] theorem e_setN : setN i fn ρ = bindS (fn ρ) fun d ρ1 => putS i (.ow false d) ρ1 := rfl
@[simp] theorem e_putS {u : AV} : putS i u ρ = if isRef ρ i = true then .bad else .nx (ρ.set i u) := rfl
@[simp] theorem e_isRef : isRef ρ i = (match ρ[i]? with | some (.ow true _) => true | none => true | _ => false) := rfl
@[simp] theorem e_exprS : exprS f ρ = bindS (f ρ) fun _ ρ1 => .nx ρ1 := rfl
@[simp] theorem e_retS : retS f ρ = bindS (f ρ) fun d ρ1 => .rt d ρ1 := rfl
@[simp] theorem e_ifS : ifS c a b ρ = bindS (c ρ) fun t ρ1 => if t = true then a ρ1 else b ρ1 := rfl
@[simp] theorem e_nxS : nxS ρ = .nx ρ := rfl
@[simp] theorem e_retN : retN ρ = .rt .non ρ := rfl
@[simp] theorem e_badS : badS ρ = .bad := rfl
@[simp] theorem e_varE : varE i ρ = (match ρ[i]? with | some (.fz d) => .val d ρ | some (.ow false o) => .val o.dat (ρ.set i (.fz o.dat)) | _ => .bad) := rfl
@[simp] theorem e_varR : varR i ρ = (match ρ[i]? with | some (.fz d) => .val (.dat d) ρ | some (.ow _ _) => .val (.al i) ρ | _ => .bad) := rfl
@[simp] theorem e_conE : conE d ρ = .val d ρ := rfl
@[simp] theorem e_datO : datO f ρ = (f ρ).map RV.dat := rfl
@[simp] theorem e_mapO {k : α → β} {m : Ev → Out α} : mapO k m ρ = (m ρ).map k := rfl
@[simp] theorem e_binF {op : D → D → Option D} : binF op r q ρ = (r ρ).bind fun a ρ1 => (q ρ1).bind fun b ρ2 => onTwo op ρ2 (look ρ2 a) (look ρ2 b) := rfl
@[simp] theorem e_onTwo {op : D → D → Option D} : onTwo op ρ (some x) (some y) = ofO (op x y) ρ := rfl
@[simp] theorem e_ofO1 {v : α} : ofO (some v) ρ = .val v ρ := rfl
@[simp] theorem e_ofO2 : ofO (none : Option α) ρ = .bad := rfl
@[simp] theorem e_look1 : look ρ (.dat d) = some d := rfl
@[simp] theorem e_look2 : look ρ (.al i) = (match ρ[i]? with | some (.ow _ o) => some o.dat | some (.fz d) => some d | _ => none) := rfl
@[simp] theorem e_unF {op : D → Option α} : unF op r ρ = (r ρ).bind fun a ρ1 => onOne op ρ1 (look ρ1 a) := rfl
@[simp] theorem e_onOne {op : D → Option α} : onOne op ρ (some x) = ofO (op x) ρ := rfl
@[simp] theorem e_nilL : nilL ρ = .val [] ρ := rfl
@[simp] theorem e_consL : consL f fs ρ = (f ρ).bind fun d ρ1 => (fs ρ1).bind fun ds ρ2 => .val (d :: ds) ρ2 := rfl
@[simp] theorem e_lstN : lstN fs ρ = (fs ρ).bind fun ds ρ1 => if ds.length ≤ sizeLine then .val (.l ds) ρ1 else .bad := rfl
@[simp] theorem e_tupE : tupE fs ρ = (fs ρ).bind fun ds ρ1 => if ds.length ≤ sizeLine then .val (.tup ds) ρ1 else .bad := rfl
@[simp] theorem e_dicN0 : dicN0 ρ = .val (.d []) ρ := rfl
@[simp] theorem e_tstF : tstF f ρ = (f ρ).bind fun d ρ1 => match d with | .bl b => .val b ρ1 | _ => .bad := rfl
@[simp] theorem e_truF : truF r ρ = (r ρ).bind fun r ρ1 => ofO (truR ρ1 r) ρ1 := rfl
@[simp] theorem e_nilA : nilA ρ = .val [] ρ := rfl
@[simp] theorem e_datA {ga : Ev → Out (List AR)} : datA f ga ρ = (f ρ).bind fun d ρ1 => (ga ρ1).bind fun ds ρ2 => .val (.dt d :: ds) ρ2 := rfl
@[simp] theorem e_refA {ga : Ev → Out (List AR)} : refA i ga ρ = (match ρ[i]? with | some (.ow _ _) => (ga ρ).bind fun ds ρ2 => .val (.rf i :: ds) ρ2 | _ => .bad) := rfl
@[simp] theorem e_callF {n : Nat} {F : List AV → FOut} {fa : Ev → Out (List AR)} : callF n F fa ρ = (fa ρ).bind fun as ρ1 => callO n F as ρ1 := rfl
@[simp] theorem e_callO {n : Nat} {F : List AV → FOut} {as : List AR} : callO n F as ρ = if as.length = n then
  (match refsA as with
  | [] => match F (as.map (arA (.l []))) with
    | .val d _ => .val d ρ
    | .exc c _ => .exc c ρ
    | .bad => .bad
  | [i] => call1 F as ρ i
  | _ => .bad) else .bad := rfl
@[simp] theorem e_refs1 : refsA [] = [] := rfl
@[simp] theorem e_refs2 {as : List AR} : refsA (.dt d :: as) = refsA as := rfl
@[simp] theorem e_refs3 {as : List AR} : refsA (.rf i :: as) = i :: refsA as := rfl
@[simp] theorem e_pos1 {as : List AR} : posA (.dt d :: as) = posA as + 1 := rfl
@[simp] theorem e_pos2 {as : List AR} : posA (.rf i :: as) = 0 := rfl
@[simp] theorem e_ar1 {o : OD} : arA o (.dt d) = .fz d := rfl
@[simp] theorem e_ar2 {o : OD} : arA o (.rf i) = .ow true o := rfl
@[simp] theorem e_call1 {F : List AV → FOut} {as : List AR} : call1 F as ρ i = (match ρ[i]? with
    | some (.ow r o) => (match F (as.map (arA o)) with
      | .val d as' => (match as'[posA as]? with
        | some (.ow true o') => .val d (ρ.set i (.ow r o'))
        | _ => .bad)
      | .exc c as' => (match as'[posA as]? with
        | some (.ow true o') => .exc c (ρ.set i (.ow r o'))
        | _ => .bad)
      | .bad => .bad)
    | _ => .bad) := rfl
@[simp] theorem e_body {n N : Nat} {as : List AV} : bodyF n N a as = (match a (as ++ List.replicate (N - n) .un) with
  | .nx ρ => .val .non (ρ.take n)
  | .rt d ρ => .val d (ρ.take n)
  | .exc c ρ => .exc c (ρ.take n)
  | .bad => .bad) := rfl
@[simp] theorem e_addI {i j : Int} : addI (.int i) (.int j) = some (.int (i + j)) := rfl
@[simp] theorem e_addO {i j : Int} : addO (.int i) (.int j) = some (.int (i + j)) := rfl
@[simp] theorem e_subI {i j : Int} : subI (.int i) (.int j) = some (.int (i - j)) := rfl
theorem e_mulI {i j : Int} : mulI (.int i) (.int j) = if i.natAbs.log2 + j.natAbs.log2 < 1000000 then some (.int (i * j)) else none := rfl
theorem e_fdivI {i j : Int} : fdivI (.int i) (.int j) = if 0 < j ∧ j.natAbs.log2 < 9000 then some (.int (i / j)) else none := rfl
theorem e_modI {i j : Int} : modI (.int i) (.int j) = if 0 < j then some (.int (i % j)) else none := rfl
theorem e_powI {i j : Int} : powI (.int i) (.int j) = if 0 ≤ j ∧ j ≤ 1000000 ∧ i.natAbs < 2 ^ 64 then some (.int (i ^ j.toNat)) else none := rfl
@[simp] theorem e_gtI {i j : Int} : gtI (.int i) (.int j) = some (.bl (decide (j < i))) := rfl
@[simp] theorem e_ltI {i j : Int} : ltI (.int i) (.int j) = some (.bl (decide (i < j))) := rfl
@[simp] theorem e_leI {i j : Int} : leI (.int i) (.int j) = some (.bl (decide (i ≤ j))) := rfl
@[simp] theorem e_geI {i j : Int} : geI (.int i) (.int j) = some (.bl (decide (j ≤ i))) := rfl
@[simp] theorem e_len1 {xs : List D} : lenD (.lst xs) = some (.int xs.length) := rfl
@[simp] theorem e_len2 {xs : List D} : lenD (.tup xs) = some (.int xs.length) := rfl
@[simp] theorem e_len4 {xs : List D} : lenD (.odd xs) = some (.int xs.length) := rfl
@[simp] theorem e_len3 {xs : List (Key × D)} : lenD (.dic xs) = some (.int xs.length) := rfl
@[simp] theorem e_ix1 {xs : List D} {i : Int} : ixO (.lst xs) (.int i) = atI xs i := by show (match atI xs i with | some d => some d | none => none) = atI xs i; cases atI xs i <;> rfl
@[simp] theorem e_ix2 {xs : List D} {i : Int} : ixO (.tup xs) (.int i) = atI xs i := by show (match atI xs i with | some d => some d | none => none) = atI xs i; cases atI xs i <;> rfl
@[simp] theorem e_ix3 {kvs : List (Key × D)} {s : Str} : ixO (.dic kvs) (.str s) = valD kvs (.inr s) := rfl
@[simp] theorem e_ix4 {z : Str} {i : Int} (h : z.length ≤ sizeLine) : ixO (.str z) (.int i) = (atI z.cps.toList i).map fun c => .str ⟨#[c]⟩ := by
  show (match (if z.length ≤ sizeLine then (atI z.cps.toList i).map fun c => D.str ⟨#[c]⟩ else none) with | some d => some d | none => none) = _
  rw [if_pos h]
  cases atI z.cps.toList i <;> rfl
@[simp] theorem e_noP : noPF ρ = .val none ρ := rfl
@[simp] theorem e_part : partF f ρ = (f ρ).bind fun d ρ1 => match d with | .int i => .val (some i) ρ1 | _ => .bad := rfl
@[simp] theorem e_slF {u w : Ev → Out (Option Int)} : slF f u w ρ = (f ρ).bind fun d ρ1 => (u ρ1).bind fun lo ρ2 => (w ρ2).bind fun hi ρ3 => ofO (slO d lo hi) ρ3 := rfl
@[simp] theorem e_appE : appE i f ρ = (match ρ[i]? with
  | some (.ow _ (.l _)) => (f ρ).bind fun d ρ1 => (match ρ1[i]? with
    | some (.ow r (.l xs)) => if xs.length < sizeLine then .val .non (ρ1.set i (.ow r (.l (xs ++ [d])))) else .bad
    | _ => .bad)
  | _ => .bad) := rfl
@[simp] theorem e_andE : andE f g ρ = (f ρ).bind fun b ρ1 => match b with | .bl true => g ρ1 | .bl false => .val (.bl false) ρ1 | _ => .bad := rfl
end
theorem atI_of {α : Type} {xs : List α} {k : Int} {v : α} (h0 : 0 ≤ k) (h : xs[k.toNat]? = some v) : atI xs k = some v := by
  obtain ⟨j, rfl⟩ : ∃ j : Nat, k = j := ⟨k.toNat, by omega⟩
  exact atI_nat (by simpa using h)
theorem log_small {i : Int} {k : Nat} (h : i.natAbs < 2 ^ k) (hk : k ≤ 400000) : i.natAbs.log2 ≤ 400000 := by
  by_cases z : i.natAbs = 0
  · rw [z]; decide
  · have := (Nat.log2_lt z).mpr h; omega
theorem mul_ok {i j : Int} (hi : i.natAbs < 2 ^ 256) (hj : j.natAbs < 2 ^ 256) : mulI (.int i) (.int j) = some (.int (i * j)) := by
  have h1 := log_small hi (by decide)
  have h2 := log_small hj (by decide)
  rw [e_mulI, if_pos (by omega)]
theorem fdiv_ok {i j : Int} (h0 : 0 < j) (hj : j.natAbs < 2 ^ 256) : fdivI (.int i) (.int j) = some (.int (i / j)) := by
  have h2 : j.natAbs.log2 < 256 := (Nat.log2_lt (by omega)).mpr hj
  rw [e_fdivI, if_pos ⟨h0, by omega⟩]
theorem mod_ok {i j : Int} (h0 : 0 < j) : modI (.int i) (.int j) = some (.int (i % j)) := by rw [e_modI, if_pos h0]
theorem pow_ok {i j : Int} (h0 : 0 ≤ j) (h1 : j ≤ 1000000) (h2 : i.natAbs < 2 ^ 64) : powI (.int i) (.int j) = some (.int (i ^ j.toNat)) := by rw [e_powI, if_pos ⟨h0, h1, h2⟩]
theorem mod_rng (a b : Int) (h : 0 < b) : 0 ≤ a % b ∧ a % b < b := ⟨Int.emod_nonneg a (by omega), Int.emod_lt_of_pos a h⟩
@[simp] theorem rep_snoc {α : Type} (n : Nat) (a : α) : List.replicate n a ++ [a] = List.replicate (n + 1) a := List.replicate_succ'.symm
@[simp] theorem e_dat1 {xs : List D} : (OD.l xs).dat = .lst xs := rfl
@[simp] theorem e_dat2 {xs : List (Key × D)} : (OD.d xs).dat = .dic xs := rfl
@[simp] theorem e_putG {i : Nat} {d : D} {ρ : Ev} : Tg.put (.nm i) d ρ = if isRef ρ i = true then none else some (ρ.set i (.fz d)) := rfl
@[simp] theorem e_putT {is : List Nat} {ds : List D} {ρ : Ev} : Tg.put (.tp is) (.tup ds) ρ = setAll is ds ρ := rfl
@[simp] theorem e_setA1 {ρ : Ev} : setAll [] [] ρ = some ρ := rfl
@[simp] theorem e_setA2 {i : Nat} {is : List Nat} {d : D} {ds : List D} {ρ : Ev} : setAll (i :: is) (d :: ds) ρ = if isRef ρ i = true then none else setAll is ds (ρ.set i (.fz d)) := rfl
@[simp] theorem e_wipe1 {ρ : Ev} : wipeE ρ [] = ρ := rfl
@[simp] theorem e_wipe2 {ρ : Ev} {v : Nat} {vs : List Nat} : wipeE ρ (v :: vs) = (wipeE ρ vs).set v .un := rfl
@[simp] theorem e_okW1 {ρ : Ev} : okW ρ [] = true := rfl
@[simp] theorem e_okW2 {ρ : Ev} {v : Nat} {vs : List Nat} : okW ρ (v :: vs) = (!isRef ρ v && okW ρ vs) := rfl
@[simp] theorem e_rest1 {ρ ρ2 : Ev} : restE ρ ρ2 [] = ρ2 := rfl
@[simp] theorem e_rest2 {ρ ρ2 : Ev} {v : Nat} {vs : List Nat} : restE ρ ρ2 (v :: vs) = (restE ρ ρ2 vs).set v (keepA ρ[v]?) := rfl
@[simp] theorem e_keep1 {d : D} : keepA (some (.fz d)) = .fz d := rfl
@[simp] theorem e_keep2 {r : Bool} {o : OD} : keepA (some (.ow r o)) = .un := rfl
@[simp] theorem e_keep3 : keepA (some .un) = .un := rfl
@[simp] theorem e_yes {ρ : Ev} : yesF ρ = .val true ρ := rfl
@[simp] theorem e_lcF {it : Ev → Out (List D)} {g : Tg} {tt : Ev → Out Bool} {te : Ev → Out D} {vs : List Nat} {ρ : Ev} : lcF it g tt te vs ρ = (it ρ).bind fun ds ρ1 =>
  if okW ρ1 vs = true then (lcLoop g tt te vs ds (wipeE ρ1 vs) []).bind fun acc ρ2 => .val (.l acc) (restE ρ1 ρ2 vs) else .bad := rfl
@[simp] theorem e_itF {f : Ev → Out D} {ρ : Ev} : itF f ρ = (f ρ).bind fun d ρ1 => ofO (itD d) ρ1 := rfl
@[simp] theorem e_itD1 {xs : List D} : itD (.lst xs) = some xs := rfl
@[simp] theorem e_itD2 {xs : List D} : itD (.tup xs) = some xs := rfl
@[simp] theorem e_keysF {f : Ev → Out D} {ρ : Ev} : keysF f ρ = (f ρ).bind fun d ρ1 => match d with | .dic kvs => .val (kvs.map fun kv => keyD kv.1) ρ1 | .odd ks => .val ks ρ1 | _ => .bad := rfl
@[simp] theorem e_rng1 {f : Ev → Out (List D)} {ρ : Ev} : rng1F f ρ = (f ρ).bind fun ds ρ1 => match ds with
  | [.int j] => if -(2 ^ 62) ≤ j ∧ j < 2 ^ 62 then .val (rangeD 0 j.toNat) ρ1 else .bad
  | _ => .bad := rfl
@[simp] theorem e_forF {it : Ev → Out (List D)} {g : Tg} {b : Ev → SOut} {ρ : Ev} : forF it g b ρ = bindS (it ρ) fun ds ρ1 => forS g b ds ρ1 := rfl
@[simp] theorem e_joinF {f g : Ev → Out D} {ρ : Ev} : joinF f g ρ = (f ρ).bind fun a ρ1 => match a with | .str s => (g ρ1).bind fun b ρ2 => ofO (joinO (.str s) b) ρ2 | _ => .bad := rfl
@[simp] theorem e_putAt {i : Nat} {fk fv : Ev → Out D} {ρ : Ev} : putAt i fk fv ρ = bindS (fv ρ) fun d ρ1 => match ρ1[i]? with
  | some (.ow _ _) => bindS (fk ρ1) fun kd ρ2 => match ρ2[i]?, keyOf kd with
    | some (.ow r (.d kvs)), some k => if kvs.length < sizeLine then .nx (ρ2.set i (.ow r (.d (putD kvs k d)))) else .bad
    | _, _ => .bad
  | _ => .bad := rfl
@[simp] theorem e_keyOf {z : Str} : keyOf (.str z) = some (.inr z) := rfl
@[simp] theorem e_tupD1 {xs : List D} : tupD (.lst xs) = some (.tup xs) := rfl
@[simp] theorem e_listD1 {xs : List D} : listD (.lst xs) = some (.l xs) := rfl
@[simp] theorem e_lkD {kvs : List (Key × D)} : lkD (.dic kvs) = some (.l (kvs.map fun kv => keyD kv.1)) := rfl
@[simp] theorem e_orE {f g : Ev → Out D} {ρ : Ev} : orE f g ρ = (f ρ).bind fun b ρ1 => match b with | .bl false => g ρ1 | .bl true => .val (.bl true) ρ1 | _ => .bad := rfl
@[simp] theorem e_notE {f : Ev → Out D} {ρ : Ev} : notE f ρ = (f ρ).bind fun b ρ1 => match b with | .bl c => .val (.bl !c) ρ1 | _ => .bad := rfl
@[simp] theorem e_andF {f g : Ev → Out Bool} {ρ : Ev} : andF f g ρ = (f ρ).bind fun b ρ1 => if b = true then g ρ1 else .val false ρ1 := rfl
@[simp] theorem e_orF {f g : Ev → Out Bool} {ρ : Ev} : orF f g ρ = (f ρ).bind fun b ρ1 => if b = true then .val true ρ1 else g ρ1 := rfl
@[simp] theorem e_notF {f : Ev → Out Bool} {ρ : Ev} : notF f ρ = (f ρ).bind fun b ρ1 => .val (!b) ρ1 := rfl

/-! ### comprehensions, loops of a settled kind -/
theorem lc_pure {g : Tg} {tt : Ev → Out Bool} {te : Ev → Out D} {vs : List Nat} {ρ : Ev} (p : D → Bool) (F : D → D) : ∀ (ds acc : List D), acc.length + ds.length ≤ sizeLine →
    (∀ d ∈ ds, ∃ ρ1, g.put d ρ = some ρ1 ∧ tt ρ1 = .val (p d) ρ1 ∧ (p d = true → te ρ1 = .val (F d) ρ1) ∧ okW ρ1 vs = true ∧ wipeE ρ1 vs = ρ) → lcLoop g tt te vs ds ρ acc = .val (acc ++ (ds.filter p).map F) ρ
  | [], acc, _, _ => by simp [lcLoop]
  | d :: ds, acc, hz, h => by
    obtain ⟨ρ1, h1, h2, h3, h4, h5⟩ := h d (.head _)
    have hz1 : acc.length < sizeLine := by rw [List.length_cons] at hz; omega
    unfold lcLoop
    rw [h1]
    dsimp only
    rw [h2]
    cases hp : p d with
    | false =>
      dsimp only
      rw [if_pos h4, h5, lc_pure p F ds acc (by rw [List.length_cons] at hz; omega) fun d hd => h d (.tail _ hd), List.filter_cons_of_neg (by rw [hp]; decide)]
    | true =>
      dsimp only
      rw [h3 hp]
      dsimp only
      rw [if_pos ⟨hz1, h4⟩, h5, lc_pure p F ds (acc ++ [F d]) (by rw [List.length_cons] at hz; rw [List.length_append, List.length_singleton]; omega) fun d hd => h d (.tail _ hd), List.filter_cons_of_pos hp]
      simp
theorem for_inv {g : Tg} {b : Ev → SOut} (I : Nat → Ev → Prop) : ∀ (ds : List D) (i : Nat) (ρ : Ev), I i ρ → (∀ j d ρ, ds[j]? = some d → I (i + j) ρ → ∃ ρ1 ρ2, g.put d ρ = some ρ1 ∧ b ρ1 = .nx ρ2 ∧ I (i + j + 1) ρ2) → ∃ ρ', forS g b ds ρ = .nx ρ' ∧ I (i + ds.length) ρ'
  | [], i, ρ, h, _ => ⟨ρ, rfl, h⟩
  | d :: ds, i, ρ, h, k => by
    obtain ⟨ρ1, ρ2, h1, h2, h3⟩ := k 0 d ρ rfl h
    obtain ⟨ρ', h4, h5⟩ := for_inv I ds (i + 1) ρ2 h3 fun j d ρ hd hI => by
      have := k (j + 1) d ρ (by simpa using hd) (by rw [show i + (j + 1) = i + 1 + j by omega]; exact hI)
      rw [show i + (j + 1) + 1 = i + 1 + j + 1 by omega] at this
      exact this
    refine ⟨ρ', ?_, by rw [List.length_cons, show i + (ds.length + 1) = i + 1 + ds.length by omega]; exact h5⟩
    unfold forS
    rw [h1]
    dsimp only
    rw [h2]
    exact h4
end DL
set_option Elab.async false
set_option linter.all false
set_option maxRecDepth 100000
set_option maxHeartbeats 4000000
namespace DL
open PySem PySem.Spec L2
section
variable {α : Type} {enc : α → D}
def kvsD (enc : α → D) (ps : List (Str × α)) : List (Key × D) := ps.map fun p => (.inr p.1, enc p.2)
def putA (ps : List (Str × α)) (z : Str) (a : α) : List (Str × α) := if z ∈ ps.map (·.1) then ps.map (fun p => if p.1 = z then (p.1, a) else p) else ps ++ [(z, a)]
theorem kvsD_length (ps : List (Str × α)) : (kvsD enc ps).length = ps.length := by simp [kvsD]
theorem any_kvs (ps : List (Str × α)) (z : Str) : ((kvsD enc ps).any fun kv => decide (kv.1 = .inr z)) = decide (z ∈ ps.map (·.1)) := by
  induction ps with
  | nil => rfl
  | cons p ps ih =>
    show (decide ((Sum.inr p.1 : Key) = .inr z) || (kvsD enc ps).any _) = _
    rw [ih]
    have e : decide ((Sum.inr p.1 : Key) = .inr z) = decide (z = p.1) := by
      by_cases h : z = p.1
      · subst h; simp
      · rw [decide_eq_false h, decide_eq_false (fun e => h (Sum.inr.inj e).symm)]
    rw [e, List.map_cons, ← Bool.decide_or]
    exact decide_eq_decide.mpr List.mem_cons.symm
theorem putD_kvs (ps : List (Str × α)) (z : Str) (a : α) : putD (kvsD enc ps) (.inr z) (enc a) = kvsD enc (putA ps z a) := by
  unfold putD putA
  rw [any_kvs]
  by_cases h : z ∈ ps.map (·.1)
  · rw [if_pos (decide_eq_true h), if_pos h]
    unfold kvsD
    rw [List.map_map, List.map_map]
    refine List.map_congr_left fun p _ => ?_
    by_cases e : p.1 = z
    · simp [e]
    · have e' : ¬ ((Sum.inr p.1 : Key) = .inr z) := fun q => e (Sum.inr.inj q)
      simp [e, e']
  · rw [if_neg (by rw [decide_eq_false h]; decide), if_neg h]
    simp [kvsD]
theorem putA_keys (ps : List (Str × α)) (z : Str) (a : α) : (putA ps z a).map (·.1) = if z ∈ ps.map (·.1) then ps.map (·.1) else ps.map (·.1) ++ [z] := by
  unfold putA
  split
  · rw [List.map_map]
    refine List.map_congr_left fun p _ => ?_
    by_cases e : p.1 = z <;> simp [e]
  · simp
theorem putA_nodup {ps : List (Str × α)} {z : Str} {a : α} (h : (ps.map (·.1)).Nodup) : ((putA ps z a).map (·.1)).Nodup := by
  rw [putA_keys]
  split
  · exact h
  · rename_i n
    exact List.nodup_append.mpr ⟨h, List.nodup_cons.mpr ⟨by simp, List.nodup_nil⟩, fun x hx y hy => by rintro rfl; rw [List.mem_singleton] at hy; subst hy; exact n hx⟩
theorem putA_mem {ps : List (Str × α)} {z : Str} {a : α} {p : Str × α} (h : p ∈ putA ps z a) : p = (z, a) ∨ p ∈ ps := by
  unfold putA at h
  split at h
  · obtain ⟨q, hq, rfl⟩ := List.mem_map.mp h
    by_cases e : q.1 = z
    · rw [if_pos e, e]; exact .inl rfl
    · rw [if_neg e]; exact .inr hq
  · rcases List.mem_append.mp h with h | h
    · exact .inr h
    · exact .inl (List.mem_singleton.mp h)
theorem putA_length (ps : List (Str × α)) (z : Str) (a : α) : (putA ps z a).length ≤ ps.length + 1 ∧ ps.length ≤ (putA ps z a).length ∧ 1 ≤ (putA ps z a).length := by
  unfold putA
  split
  · rename_i h
    rw [List.length_map]
    have : ps ≠ [] := by rintro rfl; cases h
    have := List.length_pos_iff.mpr this
    omega
  · rw [List.length_append, List.length_singleton]; omega
theorem valD_kvs {ps : List (Str × α)} {z : Str} {a : α} (nd : (ps.map (·.1)).Nodup) (h : (z, a) ∈ ps) : valD (kvsD enc ps) (.inr z) = some (enc a) := by
  induction ps with
  | nil => cases h
  | cons p ps ih =>
    rw [List.map_cons, List.nodup_cons] at nd
    by_cases e : p.1 = z
    · have : p = (z, a) := by
        cases h with
        | head => rfl
        | tail _ h => exact absurd (List.mem_map.mpr ⟨_, h, rfl⟩) (by rw [e] at nd; exact nd.1)
      subst this
      simp [valD, kvsD]
    · have e' : ¬ ((Sum.inr p.1 : Key) = .inr z) := fun q => e (Sum.inr.inj q)
      have h' : (z, a) ∈ ps := by
        cases h with
        | head => exact absurd rfl e
        | tail _ h => exact h
      have := ih nd.2 h'
      simp only [valD, kvsD, List.map_cons, List.find?_cons, decide_eq_false e'] at this ⊢
      exact this
theorem valD_none {ps : List (Str × α)} {z : Str} (h : z ∉ ps.map (·.1)) : valD (kvsD enc ps) (.inr z) = none := by
  induction ps with
  | nil => rfl
  | cons p ps ih =>
    rw [List.map_cons, List.mem_cons, not_or] at h
    have e' : ¬ ((Sum.inr p.1 : Key) = .inr z) := fun q => h.1 (Sum.inr.inj q).symm
    have := ih h.2
    simp only [valD, kvsD, List.map_cons, List.find?_cons, decide_eq_false e'] at this ⊢
    exact this
theorem txK_kvs (ps : List (Str × α)) : txK (kvsD enc ps) = some (ps.map (·.1)) := by
  induction ps with
  | nil => rfl
  | cons p ps ih =>
    show (txK (kvsD enc ps)).map (p.1 :: ·) = _
    rw [ih]; rfl
theorem skD_kvs (ps : List (Str × α)) : skD (.dic (kvsD enc ps)) = some (.l ((DLS.srt (ps.map (·.1))).map D.str)) := by
  show (txK (kvsD enc ps)).map _ = _
  rw [txK_kvs]; rfl
theorem keys_kvs (ps : List (Str × α)) : ((kvsD enc ps).map fun kv => keyD kv.1) = (ps.map (·.1)).map D.str := by
  unfold kvsD
  rw [List.map_map, List.map_map]; rfl
end
/-! ### texts -/
theorem toPyL_strs (xs : List Str) : toPyL (xs.map D.str) = some (xs.map PyData.str) := by
  induction xs with
  | nil => rw [List.map_nil, toPyL]; rfl
  | cons x xs ih => rw [List.map_cons, toPyL, toPy, ih]; rfl
theorem eqvAll_strs : ∀ xs ys : List Str, PyData.eqvAll (xs.map PyData.str) (ys.map PyData.str) = decide (xs = ys)
  | [], [] => by simp [PyData.eqvAll]
  | [], _ :: _ => by simp [PyData.eqvAll]
  | _ :: _, [] => by simp [PyData.eqvAll]
  | x :: xs, y :: ys => by
    rw [List.map_cons, List.map_cons, PyData.eqvAll, PyData.eqv, eqvAll_strs xs ys]
    by_cases h : x = y
    · subst h; simp
    · simp [h]
/-- a text that may be laid -/
def Plain (z : Str) : Prop := PyData.strOk z = true
theorem lay_strs (xs : List Str) (h : ∀ x ∈ xs, Plain x) : PyData.canLayAll0 (xs.map PyData.str) = true := by
  induction xs with
  | nil => simp [PyData.canLayAll0]
  | cons x xs ih =>
    rw [List.map_cons, PyData.canLayAll0, PyData.canLay0, ih fun y hy => h y (.tail _ hy), Bool.and_true]
    exact h x (.head _)
theorem depth_strs (xs : List Str) : PyData.depthAll (xs.map PyData.str) = 0 := by
  induction xs with
  | nil => simp [PyData.depthAll]
  | cons x xs ih => rw [List.map_cons, PyData.depthAll, PyData.depth, ih]; rfl
theorem shaped_strs (xs : List Str) (h : ∀ x ∈ xs, Plain x) : SeqAt.shaped (.list (xs.map PyData.str)) = true := by
  unfold SeqAt.shaped
  rw [PyData.canLay0, lay_strs xs h, PyData.depth, depth_strs]; rfl
theorem eq_strs (xs ys : List Str) (hx : ∀ x ∈ xs, Plain x) (hy : ∀ y ∈ ys, Plain y) : eqO (.lst (xs.map D.str)) (.lst (ys.map D.str)) = some (.bl (decide (xs = ys))) := by
  have h1 : toPy (.lst (xs.map D.str)) = some (.list (xs.map PyData.str)) := by rw [toPy, toPyL_strs]; rfl
  have h2 : toPy (.lst (ys.map D.str)) = some (.list (ys.map PyData.str)) := by rw [toPy, toPyL_strs]; rfl
  show (match toPy _, toPy _ with | some x, some y => (if SeqAt.shaped x = true ∧ SeqAt.shaped y = true then some (D.bl (PyData.eqv x y)) else none) | _, _ => none) = _
  rw [h1, h2]
  dsimp only
  rw [if_pos ⟨shaped_strs xs hx, shaped_strs ys hy⟩, PyData.eqv, eqvAll_strs]
theorem ne_strs (xs ys : List Str) (hx : ∀ x ∈ xs, Plain x) (hy : ∀ y ∈ ys, Plain y) : neO (.lst (xs.map D.str)) (.lst (ys.map D.str)) = some (.bl (!decide (xs = ys))) := by
  have h := eq_strs xs ys hx hy
  have h' : eqP (.lst (xs.map D.str)) (.lst (ys.map D.str)) = some (.bl (decide (xs = ys))) := h
  show (match eqP _ _ with | some (.bl c) => some (D.bl !c) | _ => none) = _
  rw [h']
theorem inV_strs (x : Str) (xs : List Str) : inV (.str x) ((xs.map D.str).map flatOf) = decide (x ∈ xs) := by
  unfold inV
  rw [List.map_map, List.any_map]
  induction xs with
  | nil => rfl
  | cons y ys ih =>
    rw [List.any_cons, ih]
    have e : (((fun y => eqV y (V.str x)) ∘ flatOf ∘ D.str) y) = decide (x = y) := by
      show (y == x) = _
      by_cases h : x = y
      · subst h; simp
      · rw [decide_eq_false h]; exact beq_eq_false_iff_ne.mpr (Ne.symm h)
    rw [e, ← Bool.decide_or]
    exact decide_eq_decide.mpr List.mem_cons.symm
theorem flat_strs (xs : List Str) : (xs.map D.str).all isFlat = true := by
  rw [List.all_map]; exact List.all_eq_true.mpr fun _ _ => rfl
theorem inF_strs (x : Str) (xs : List Str) : inF (.str x) (.lst (xs.map D.str)) = some (.bl (decide (x ∈ xs))) := by
  show (if isFlat (.str x) = true ∧ (xs.map D.str).all isFlat = true then some (D.bl (inV (.str x) ((xs.map D.str).map flatOf))) else none) = _
  rw [if_pos ⟨rfl, flat_strs xs⟩, inV_strs]
theorem orO1 {p q : D → D → Option D} {a b d : D} (h : p a b = some d) : orO p q a b = some d := by unfold orO; rw [h]
theorem orO2 {p q : D → D → Option D} {a b : D} (h : p a b = none) : orO p q a b = q a b := by unfold orO; rw [h]
theorem notO1 {p : D → D → Option D} {a b : D} {c : Bool} (h : p a b = some (.bl c)) : notO p a b = some (.bl !c) := by unfold notO; rw [h]
theorem notO2 {p : D → D → Option D} {a b : D} (h : p a b = none) : notO p a b = none := by unfold notO; rw [h]
theorem in_strs (x : Str) (xs : List Str) : inA (.str x) (.lst (xs.map D.str)) = some (.bl (decide (x ∈ xs))) := orO1 (orO1 (inF_strs x xs))
theorem nin_strs (x : Str) (xs : List Str) : ninA (.str x) (.lst (xs.map D.str)) = some (.bl (!decide (x ∈ xs))) := orO1 (orO1 (notO1 (inF_strs x xs)))
theorem has_kvs {α : Type} {enc : α → D} (ps : List (Str × α)) (z : Str) : (valD (kvsD enc ps) (.inr z)).isSome = decide (z ∈ ps.map (·.1)) := by
  induction ps with
  | nil => rfl
  | cons p ps ih =>
    by_cases e : p.1 = z
    · subst e; simp [valD, kvsD]
    · have e' : ¬ ((Sum.inr p.1 : Key) = .inr z) := fun q => e (Sum.inr.inj q)
      have e2 : valD (kvsD enc (p :: ps)) (.inr z) = valD (kvsD enc ps) (.inr z) := by simp only [valD, kvsD, List.map_cons, List.find?_cons, decide_eq_false e']
      rw [e2, ih]
      refine decide_eq_decide.mpr ?_
      rw [List.map_cons, List.mem_cons]
      exact ⟨.inr, fun h => h.elim (fun h => absurd h.symm e) id⟩
theorem inO_dic (x : Str) (kvs : List (Key × D)) : inO (.str x) (.dic kvs) = none := by
  refine (orO2 rfl).trans ((orO2 ?_).trans rfl)
  unfold inP
  rw [toPy]
theorem ninO_dic (x : Str) (kvs : List (Key × D)) : ninO (.str x) (.dic kvs) = none := by
  refine (orO2 (notO2 rfl)).trans ((orO2 (notO2 ?_)).trans rfl)
  unfold inP
  rw [toPy]
theorem in_kvs {α : Type} {enc : α → D} (x : Str) (ps : List (Str × α)) : inA (.str x) (.dic (kvsD enc ps)) = some (.bl (decide (x ∈ ps.map (·.1)))) := by
  rw [← has_kvs (enc := enc)]
  exact (orO2 (inO_dic x _)).trans rfl
theorem nin_kvs {α : Type} {enc : α → D} (x : Str) (ps : List (Str × α)) : ninA (.str x) (.dic (kvsD enc ps)) = some (.bl (!decide (x ∈ ps.map (·.1)))) := by
  rw [← has_kvs (enc := enc)]
  exact (orO2 (ninO_dic x _)).trans (notO1 rfl)
theorem sort_strs (xs : List Str) : sortD (.lst (xs.map D.str)) = some (.l ((DLS.srt xs).map D.str)) := by
  show (toStrs (xs.map D.str)).map _ = _
  rw [toStrs_map]; rfl
theorem sortSet_strs (xs : List Str) (h : xs.length < 4000) : sortSetD (.lst (xs.map D.str)) = some (.l ((DLS.srtSet xs).map D.str)) := by
  show (toStrs (xs.map D.str)).bind _ = _
  rw [toStrs_map]
  show (if xs.length < 4000 then _ else _) = _
  rw [if_pos h]
theorem add_strs (xs ys : List D) (h : xs.length + ys.length ≤ sizeLine) : addO (.lst xs) (.lst ys) = some (.lst (xs ++ ys)) := by
  refine (orO2 rfl).trans ((orO2 rfl).trans (orO1 ?_))
  show (if xs.length + ys.length ≤ sizeLine then _ else _) = _
  rw [if_pos h]
theorem add_tups (xs ys : List D) (h : xs.length + ys.length ≤ sizeLine) : addO (.tup xs) (.tup ys) = some (.tup (xs ++ ys)) := by
  refine (orO2 rfl).trans ((orO2 rfl).trans ((orO2 rfl).trans ?_))
  show (if xs.length + ys.length ≤ sizeLine then _ else _) = _
  rw [if_pos h]
theorem all_bls (bs : List Bool) : allD (.lst (bs.map D.bl)) = some (.bl (bs.all id)) := by
  show (toBls (bs.map D.bl)).map _ = _
  rw [toBls_map]; rfl
@[simp] theorem at0 {α : Type} {x : α} {xs : List α} : atI (x :: xs) 0 = some x := atI_of (by decide) rfl
@[simp] theorem at1 {α : Type} {x y : α} {xs : List α} : atI (x :: y :: xs) 1 = some y := atI_of (by decide) rfl
@[simp] theorem at2 {α : Type} {x y z : α} {xs : List α} : atI (x :: y :: z :: xs) 2 = some z := atI_of (by decide) rfl
@[simp] theorem at3 {α : Type} {x y z u : α} {xs : List α} : atI (x :: y :: z :: u :: xs) 3 = some u := atI_of (by decide) rfl
theorem get_of {α : Type} {enc : α → D} {ps : List (Str × α)} {z : Str} {a : α} (nd : (ps.map (·.1)).Nodup) (h : (z, a) ∈ ps) : ixO (.dic (kvsD enc ps)) (.str z) = some (enc a) := by rw [e_ix3]; exact valD_kvs nd h
@[simp] theorem e_chF {o o' : D → D → Option D} {f g h : Ev → Out RV} {ρ : Ev} : chF o o' f g h ρ = (f ρ).bind fun a ρ1 => (g ρ1).bind fun b ρ2 => (onTwo o ρ2 (look ρ2 a) (look ρ2 b)).bind fun r ρ3 => match r with
  | .bl true => (h ρ3).bind fun c ρ4 => onTwo o' ρ4 (look ρ4 b) (look ρ4 c)
  | .bl false => .val (.bl false) ρ3
  | _ => .bad := rfl
@[simp] theorem isi_int1 {i : Int} : isiD "int" (.int i) = some (.bl true) := rfl
@[simp] theorem isi_int2 {i : Int} : isiD "bool" (.int i) = some (.bl false) := rfl
@[simp] theorem isi_str1 {z : Str} : isiD "str" (.str z) = some (.bl true) := rfl
@[simp] theorem isi_tup1 {xs : List D} : isiD "tuple" (.tup xs) = some (.bl true) := rfl
@[simp] theorem isi_lst1 {xs : List D} : isiD "list" (.lst xs) = some (.bl true) := rfl
@[simp] theorem isi_odd1 {xs : List D} : isiD "dict" (.odd xs) = some (.bl true) := rfl
@[simp] theorem isi_dic1 {xs : List (Key × D)} : isiD "dict" (.dic xs) = some (.bl true) := rfl
@[simp] theorem eqI {i j : Int} : eqO (.int i) (.int j) = some (.bl (decide (i = j))) := rfl
@[simp] theorem neI {i j : Int} : neO (.int i) (.int j) = some (.bl (!decide (i = j))) := rfl
theorem in_sign {c : Nat} {z : Str} : inA (.str ⟨#[c]⟩) (.str z) = some (.bl (decide (c ∈ z.cps.toList))) := by
  refine orO1 ((orO2 rfl).trans ((orO2 ?_).trans rfl))
  unfold inP
  split
  · rename_i h; cases h
  · rfl
theorem len_str {z : Str} (h : z.length ≤ sizeLine) : lenD (.str z) = some (.int z.length) := by show (if z.length ≤ sizeLine then _ else _) = _; rw [if_pos h]
@[simp] theorem itS {z : Str} : itD (.str z) = some (z.cps.toList.map fun c => .str ⟨#[c]⟩) := rfl
theorem all_map {α : Type} {xs : List α} {f : α → D} (h : ∀ x ∈ xs, f x = .bl true) : allD (.lst (xs.map f)) = some (.bl true) := by
  have e : xs.map f = (xs.map fun _ => true).map D.bl := by
    rw [List.map_map]; exact List.map_congr_left h
  rw [e, all_bls]
  congr 2
  rw [List.all_map]; exact List.all_eq_true.mpr fun _ _ => rfl
end DL
set_option Elab.async false
set_option linter.all false
set_option maxRecDepth 100000
set_option maxHeartbeats 2000000
namespace DL
open PySem PySem.Spec L2
section
variable {X : Cx} {W : WX} {K : PySem.W.Frag} {Fr : Addr → Prop} {B : List (Nat × Addr)} {σ : St} {H H1 : Hp} {ρ ρ1 : Ev} {v : V}
/-- a tuple of the module -/
theorem de_gtup {x : Str} {d : D} {pos : Pos} (h : ∃ a, X.mg x = some (.ref a) ∧ ∀ H, Dat X.K H (.ref a) d) (hg : Gl X x) (hd : (x == ("__debug__" : Str)) = false := by decide) : DE X W (.Name x pos) (conE d) := by
  obtain ⟨a, hm, r⟩ := h
  exact de_gdat hm r hg hd
/-- [..] * n -/
def repN (f : Ev → Out OD) (g : Ev → Out D) : Ev → Out OD := fun ρ => (f ρ).bind fun o ρ1 => match o with
  | .l xs => (g ρ1).bind fun d ρ2 => match d with
    | .int k => if -(2 ^ 63) ≤ k ∧ k < 2 ^ 63 ∧ xs.length * k.toNat ≤ sizeLine then .val (.l (List.replicate k.toNat xs).flatten) ρ2 else .bad
    | _ => .bad
  | _ => .bad
theorem DatL.rep {vs : List V} {ds : List D} (r : DatL K H vs ds) : ∀ n : Nat, DatL K H (List.replicate n vs).flatten (List.replicate n ds).flatten
  | 0 => .nil
  | n + 1 => by
    rw [List.replicate_succ, List.replicate_succ, List.flatten_cons, List.flatten_cons]
    exact r.append (DatL.rep r n)
theorem dn_rep {a b : Expr} {f : Ev → Out OD} {g : Ev → Out D} {pos : Pos} (ha : DN X W a f) (hb : DE X W b g) : DN X W (.BinOp a .Mult b pos) (repN f g) := by
  obtain ⟨ta, pa, sa⟩ := ha.ex
  obtain ⟨tb, pb, sb⟩ := hb.ex
  refine ⟨_, pe_op op_rep pa pb, fun Fr B σ H ρ Q R k => sa Fr B σ H ρ _ R (Ok.bind k fun v H1 o ρ1 st R1 r1 k => ?_)⟩
  obtain ⟨l, rfl, ow, fr⟩ := r1
  cases o with
  | d kvs => exact False.elim k
  | l xs =>
    obtain ⟨vs, hl, rd⟩ := ow
    have R1' : Rep X.K (fun b => Fr b ∨ b = l) B σ H1 ρ1 := R1.guard fr (by rw [hl]; exact nofun)
    refine sb _ B σ H1 ρ1 _ R1' ?_
    replace k : Ok X.K W Fr B σ (relN X.K Fr σ) Q H1 ((g ρ1).bind fun d ρ2 => match d with
      | .int k => if -(2 ^ 63) ≤ k ∧ k < 2 ^ 63 ∧ xs.length * k.toNat ≤ sizeLine then .val (.l (List.replicate k.toNat xs).flatten) ρ2 else .bad
      | _ => .bad) := k
    cases eg : g ρ1 with
    | bad => rw [eg] at k; exact k
    | exc c ρ2 => rw [eg] at k; exact fun H' s R => k H' (s.wide fun b h => .inl h) (R.unguard fun b h => .inl h)
    | val d ρ2 =>
      rw [eg] at k
      intro w H2 st2 R2 r2
      have r2 : Dat X.K H2 w d := r2
      have hl2 : H2 l = some (.lst vs) := (st2.keep l (.inr rfl)).trans hl
      have R2' : Rep X.K Fr B σ H2 ρ2 := R2.unguard fun b h => .inl h
      cases r2 <;> try exact False.elim k
      rename_i n
      replace k : Ok X.K W Fr B σ (relN X.K Fr σ) Q H1 (if -(2 ^ 63) ≤ n ∧ n < 2 ^ 63 ∧ xs.length * n.toNat ≤ sizeLine then .val (.l (List.replicate n.toNat xs).flatten) ρ2 else .bad) := k
      split at k
      · rename_i hz
        refine ⟨l, n, vs, rfl, rfl, hl2, hz.1, hz.2.1, by rw [rd.length]; exact hz.2.2, fun p hp => ?_⟩
        exact k _ _ ((st2.wide fun b h => .inl h).trans (Step.new R2' hp)) (R2'.new hp) ⟨p, rfl, own_lst hp ((rd.mono st2.mono).rep _), R2'.fresh hp⟩
      · exact False.elim k
/-- int(an int), int(a bool) -/
def intD : D → Option D
  | .int i => some (.int i)
  | .bl b => some (.int (if b then 1 else 0))
  | _ => none
def rInt1 : V → Hp → VK → Prop := fun x H Q => (∃ i, x = .int i ∧ Q (.int i) H) ∨ ∃ k, x = .bl k ∧ Q (.int (if k then 1 else 0)) H
theorem call_intR : CallR X (.type "int") (rOne rInt1) := CallR.imp call_int1 fun xs H Q ⟨x, e, q⟩ => by
  rcases q with ⟨i, e2, q⟩ | ⟨i, e2, q⟩
  · exact .inl ⟨i, by rw [e, e2], q⟩
  · exact .inr ⟨i, by rw [e, e2], q⟩
theorem ok_int1 : UnOk K rInt1 intD := ⟨fun {Fr B σ H ρ x a d Q} R va e k => by
  unfold intD at e
  split at e
  · cases e; exact .inl ⟨_, va.int, k _ H Step.refl R .int⟩
  · cases e; exact .inr ⟨_, va.bl, k _ H Step.refl R .int⟩
  · cases e⟩
theorem de_int1 {e : Expr} {f : Ev → Out RV} {p pos : Pos} (hm : X.mg "int" = none) (ha : DR X W e f) (hg : Gl X "int" := by rfl) (he : starEach [e] X.env = (false, eval e X.env) :: starEach [] X.env := by rfl) (hpl : (backTo pos (starEach [] X.env)).any (·.1) = false := by rfl) : DE X W (.Call (.Name "int" p) [e] [] pos) (unF intD f) := de_callT call_intR ok_int1 hg hm (by decide +kernel) ha (by decide) (by decide) he hpl
/-- str(an int) -/
def strD : D → Option D
  | .int i => if i.natAbs.log2 < 1920 then some (.str (toString i)) else none
  | _ => none
def rStr1 : V → Hp → VK → Prop := fun x H Q => ∃ i, x = .int i ∧ i.natAbs.log2 < 1920 ∧ Q (.str (toString i)) H
theorem call_strR : CallR X (.type "str") (rOne rStr1) := CallR.imp call_str_int fun xs H Q ⟨x, e, i, e2, q⟩ => ⟨i, by rw [e, e2], q⟩
theorem ok_str1 : UnOk K rStr1 strD := ⟨fun {Fr B σ H ρ x a d Q} R va e k => by
  unfold strD at e
  split at e
  · split at e
    · cases e; exact ⟨_, va.int, by assumption, k _ H Step.refl R .str⟩
    · cases e
  · cases e⟩
theorem de_str1 {e : Expr} {f : Ev → Out RV} {p pos : Pos} (hm : X.mg "str" = none) (ha : DR X W e f) (hg : Gl X "str" := by rfl) (he : starEach [e] X.env = (false, eval e X.env) :: starEach [] X.env := by rfl) (hpl : (backTo pos (starEach [] X.env)).any (·.1) = false := by rfl) : DE X W (.Call (.Name "str" p) [e] [] pos) (unF strD f) := de_callT call_strR ok_str1 hg hm (by decide +kernel) ha (by decide) (by decide) he hpl
/-- a.split(b) -/
def splF (f g : Ev → Out D) : Ev → Out OD := fun ρ => (f ρ).bind fun a ρ1 => match a with
  | .str s => (g ρ1).bind fun b ρ2 => match b with
    | .str t => if (t.length == 0) = false ∧ s.length + 2 ≤ sizeLine then .val (.l ((Txt.split s t).map D.str)) ρ2 else .bad
    | _ => .bad
  | _ => .bad
theorem dn_split {o e : Expr} {f g : Ev → Out D} {apos pos : Pos} (ho : DE X W o f) (he : DE X W e g) (hs : starEach [e] X.env = [(false, eval e X.env)] := by rfl) (hbase : attributeBase o "split" X.env (eval o X.env) = eval o X.env := by rfl) (hline : (apos.endLine == pos.line) = true := by rfl) :
    DN X W (.Call (.Attribute o "split" apos) [e] [] pos) (splF f g) := by
  obtain ⟨t, pa, s⟩ := ho.ex
  obtain ⟨t', pa', s'⟩ := he.ex
  refine ⟨_, pe_split pa pa' hs hbase hline, fun Fr B σ H ρ Q R k => s Fr B σ H ρ _ R (Ok.bind k fun v H1 a ρ1 st R1 r1 k => ?_)⟩
  cases (show Dat _ _ _ _ from r1) with
  | @str x =>
    refine ⟨⟨x, rfl⟩, s' Fr B σ H1 ρ1 _ R1 (Ok.bind k fun w H2 b ρ2 st2 R2 r2 k => ?_)⟩
    cases (show Dat _ _ _ _ from r2) with
    | @str y =>
      replace k : Ok X.K W Fr B σ (relN X.K Fr σ) Q H2 (if (y.length == 0) = false ∧ x.length + 2 ≤ sizeLine then .val (.l ((Txt.split x y).map D.str)) ρ2 else .bad) := k
      split at k
      · rename_i hz
        exact ⟨x, y, rfl, rfl, hz.1, hz.2, fun p hp => own_new R2 hp (own_lst hp (DatL.strs _)) k⟩
      · exact False.elim k
    | _ => exact False.elim k
  | _ => exact False.elim k
end
end DL
set_option Elab.async false
set_option linter.all false
set_option maxRecDepth 100000
set_option maxHeartbeats 2000000
namespace DL
open PySem PySem.Spec L2
def tabOk (K : PySem.W.Frag) (t : Str × List He.Dv) : Bool := match K.lookup (He.ga K t.1) with
  | some ⟨.type c, none, .seq its _, _⟩ => decide (c = "tuple") && (decide (its.size ≤ sizeLine) && He.relAll (t.2.map (He.Dv.v K)) its.toList)
  | _ => false
theorem and_both {a b : Bool} (h : (a && b) = true) : a = true ∧ b = true := by simpa using h
theorem tabOk_tup {K : PySem.W.Frag} {t : Str × List He.Dv} (h : tabOk K t = true) (H : Hp) : TupP K H (He.ga K t.1) (t.2.map (He.Dv.v K)) := by
  unfold tabOk at h
  split at h
  · rename_i c its n sl q
    obtain ⟨h1, h2⟩ := and_both h
    obtain ⟨h3, h4⟩ := and_both h2
    exact .inr ⟨_, its, n, q, congrArg Value.type (of_decide_eq_true h1), rfl, rfl, of_decide_eq_true h3, He.relAll_ok h4⟩
  · cases h
def obsX (fa : List He.Fa) (fn : List He.DefD) (tb : List (Str × List He.Dv)) (K : PySem.W.Frag) : He.AlD := ((He.obsD fa fn K).1 && tb.all (tabOk K), (He.obsD fa fn K).2)
def SaysX (fa : List He.Fa) (fn : List He.DefD) (tb : List (Str × List He.Dv)) (K : PySem.W.Frag) : Prop := obsX fa fn tb K = He.valD fn
theorem SaysX.d {fa : List He.Fa} {fn : List He.DefD} {tb : List (Str × List He.Dv)} {K : PySem.W.Frag} (h : SaysX fa fn tb K) : He.SaysD fa fn K := by
  have h1 := congrArg Prod.fst h
  have h2 := congrArg Prod.snd h
  exact Prod.ext (and_both h1).1 h2
theorem SaysX.tab {fa : List He.Fa} {fn : List He.DefD} {tb : List (Str × List He.Dv)} {K : PySem.W.Frag} (h : SaysX fa fn tb K) (i : Nat) {t : Str × List He.Dv} (e : tb[i]? = some t := by rfl) : tabOk K t = true :=
  List.all_eq_true.mp (and_both (congrArg Prod.fst h)).2 t (List.mem_of_getElem? e)
def obsXG (n : Nat) (fa : List He.Fa) (fn : List He.DefD) (tb : List (Str × List He.Dv)) (g : Addr → Option Obj) : He.AlD := obsX fa fn tb (He.frG g (He.asD g n))
def hookX (n : Nat) (fa : List He.Fa) (fn : List He.DefD) (tb : List (Str × List He.Dv)) : PySem.W.Hook where
  α := He.AlD
  obs := fun s => obsXG n fa fn tb s.heap.get?
  val := fun _ => He.valD fn
  says := fun _ h => ∃ K : PySem.W.Frag, K.In h ∧ SaysX fa fn tb K
  of := fun _ _ e => ⟨_, He.frG_in, e⟩
  keeps := fun _ _ _ ⟨K, hK, c⟩ k => ⟨K, PySem.W.Frag.In.keeps hK k, c⟩
theorem obsXG_eq {n : Nat} {fa : List He.Fa} {fn : List He.DefD} {tb : List (Str × List He.Dv)} {g : Addr → Option Obj} {s : Shared} (h : ∀ a, g a = s.heap.get? a) : obsXG n fa fn tb g = (hookX n fa fn tb).obs s := by
  have e : g = s.heap.get? := funext h
  rw [e]; rfl
end DL
set_option Elab.async false
set_option linter.all false
set_option maxRecDepth 100000
set_option maxHeartbeats 2000000
namespace DL
open PySem PySem.Spec L2
section
variable {X : Cx} {pins : List (Addr × Obj)} {σ : St} {H : Hp} {s : Shared} {a : Addr} {cls : Value} {oe : Obj} {vs : Array Value}
/-- from now on it is known -/
theorem inv_track (I : Inv X pins σ H s) (hn : H a = none) (e : s.heap.get? a = some oe) (z : Zc cls none oe) (hd : oe.data = .fields vs) (h0 : X.s_0.heap.get? a = none) (nL : a ≠ X.env.locals) (nP : ∀ p ∈ X.pn ++ pins, p.1 ≠ a) : Inv X pins σ (upd H a (ExA cls a)) s := by
  have ne : ∀ {b : Addr} {u : HO}, H b = some u → b ≠ a := fun {b u} q w => by rw [w, hn] at q; cases q
  refine ⟨I.ok, I.os, I.bare, ⟨I.base.keep, I.base.slot, fun b o q n x => ?_, I.base.there, fun b xs q => ?_, fun b o u q => ?_, fun b ps q => ?_⟩, I.loc, I.cell, ?_, fun x c q => ?_, fun p hp => ?_, fun b u q => ?_, I.len⟩
  · have hb : b ≠ a := fun w => by rw [w, h0] at q; cases q
    rw [upd_ne hb]; exact I.base.free b o q n x
  · have := I.base.tups b xs q
    rw [upd_ne (ne this)]; exact this
  · have := I.base.frzs b o u q
    rw [upd_ne (ne this)]; exact this
  · obtain ⟨m, this⟩ := I.base.tbls b ps q
    exact ⟨m, by rw [upd_ne (ne this)]; exact this⟩
  · rw [upd_ne (Ne.symm nL)]; exact I.free
  · obtain ⟨v, o, hc, hcl⟩ := I.cell x c q
    have : c ≠ a := fun w => by
      subst w
      rw [e] at hc; cases hc
      rw [hd] at hcl
      first | cases hcl | (obtain ⟨h1, _⟩ := hcl; cases h1) | (obtain ⟨_, h1⟩ := hcl; cases h1)
    rw [upd_ne this]; exact I.freeC x c q
  · obtain ⟨h1, h2, h3⟩ := I.pin p hp
    exact ⟨h1, by rw [upd_ne (nP p hp)]; exact h2, h3⟩
  · by_cases hb : b = a
    · subst hb
      rw [upd_same] at q; cases q
      exact ⟨⟨oe, vs, e, z, hd⟩, ⟨oe, e⟩, fun h1 h2 ⟨o, v, g, r⟩ k => ⟨o, v, k o g, r⟩⟩
    · rw [upd_ne hb] at q
      exact (I.hok b u q).stay (fun c v _ g => g) (fun c g => by rw [upd_ne (ne g)]; exact g) fun c xs g => by rw [upd_ne (ne g)]; exact g
end
end DL
set_option Elab.async false
set_option linter.all false
set_option maxRecDepth 100000
set_option maxHeartbeats 2000000
namespace DL
open PySem PySem.Spec L2
/-! ### raise -/
def raiseS (c : Str) : Ev → SOut := fun ρ => .exc c ρ
/-- an error class of the module's own, without __init__ -/
structure ExcK (K : PySem.W.Frag) (mg : Str → Option Value) (x : Str) : Prop where
  xi : PySem.W.excIn K (He.ga K x) He.veBase "ValueError.__new__" = true
  kp : PySem.W.keepIn K (.ref (He.ga K x)) = true
  sb : PySem.W.subIn K (.ref (He.ga K x)) (.type "BaseException") = some true
  ty : PySem.W.typeIn K (.ref (He.ga K x)) = some (.type "type")
  mg : mg x = some (.ref (He.ga K x))
theorem excK_of {K : PySem.W.Frag} {h : Heap} {mg : Str → Option Value} {x : Str} (X : K.In h) (G : h.Ns mainGlobals mg) (c : (He.Fa.exc x).ok K = true) (c2 : (He.Fa.glo x).ok K = true) : ExcK K mg x := by
  obtain ⟨h1, h2, h3, h4⟩ := He.exc_ok c
  exact ⟨h1, h2, h3, h4, He.glo_ok X G c2⟩
theorem ds_raise {X : Cx} {W : WX} {x m : Str} {j : Nat} {p p2 pos pos' : Pos} (h : ExcK X.K X.mg x) (tk : Takes X W) (hc : X.calm = true := by rfl) (hg : Gl X x := by rfl) (hdb : (x == ("__debug__" : Str)) = false := by decide) :
    DS X W (.Raise (some (.Call (.Name x p) [.Constant (.str m) j p2] [] pos')) none pos) (raiseS x) :=
  ⟨psImp (ps_raise hc tk (pmk_own PySem.F.excBase_ValueError h.xi h.mg h.kp (raises_own h.sb h.ty) hg hdb)) fun E σ H ⟨Fr, B, ρ, R, k⟩ => k σ H Step.refl R⟩

/-! ### try: body, except x as n: y = n -/
def wKeep (K : PySem.W.Frag) (c : Value) (i : Nat) (ts : Addr → Value → Option Addr → TS) (Wout : WX) (D : Ends) : WX := fun cls d σ H =>
  ∃ b, PySem.W.exmOne K cls c = some b ∧ (b = true → d = none ∧ ∀ a, H a = none → ts a cls d { nx := fun σ' H' => H' a = none → D.nx (σ'.set i none) (upd H' a (ExA cls a)), rt := D.rt, bk := fun _ _ => False, ct := fun _ _ => False } (σ.set i (some (.ref a))) H) ∧
    (b = false → Wout cls d σ H)
section
variable {X : Cx} {x n : Str} {c : Value} {i : Nat} {body suite : List Stmt} {b₀ : Stmt} {np pos pos' : Pos} {tb : WX → TS} {ts : Addr → Value → Option Addr → TS} {Wout : WX}
theorem ps_try_keep (hex : X.ex = []) (hs : X.stack = X.env :: X.outer) (hf : X.env.frame = some X.env.locals) (hN : X.N.Nodup) (hi : X.N[i]? = some n) (hln : X.env.kindOf n = some .local) (hc : Names X x c) (tk : Takes X Wout)
    (hb : ∀ (W : WX) (pn : List (Addr × Obj)) (xe : Value → Shared → Prop), Takes (X.tr pn xe) W → PassesOwn (model X.prog X.w) X.A X.env xe → PSs (X.tr pn xe) body (tb W))
    (hsu : ∀ (a : Addr) (oe : Obj) (cls : Value) (d : Option Addr) (pn : List (Addr × Obj)), Zc cls d oe → (∃ vs, oe.data = .fields vs) → PSs (X.suite a ((a, oe) :: pn)) (b₀ :: suite) (ts a cls d)) :
    PS X (.Try body [.ExceptHandler (some (.Name x np)) (some n) (b₀ :: suite) pos'] [] [] pos) (fun D σ H => tb (wKeep X.K c i ts Wout D) D σ H) := by
  refine ⟨fun pins s σ H D I h => ?_⟩
  have ok := I.ok
  have hfr : X.A.frames = some (X.env :: X.outer) := by rw [ok.frames, hs]
  have hloc : Loc X.env.scope n := .inl hln
  refine wpAny_Try_except ?_
  refine wpAny_mono ((hb (wKeep X.K c i ts Wout D) (X.pn ++ pins) (fun e s₁ => wpAny (model X.prog X.w) X.A (noteFrame e X.env) (fun _ s₂ => wpAny (model X.prog X.w) X.A (setFlight e none) (fun _ s₃ =>
    wpAny (model X.prog X.w) X.A (handleBy e X.env [.ExceptHandler (some (.Name x np)) (some n) (b₀ :: suite) pos']) (SP X pins D) X.xe s₃) X.xe s₂) X.xe s₁) (fun u s' xx => ?_) PassesOwn.looking).run [] s σ H D (I.toTry _) h) (fun f s1 hsp => ?_) (fun e s1 he => he)
  · -- the catch
    obtain ⟨a, B, sI, pins', σ', H', cls, d, rfl, J', nb, up, sky, na, os, ag, b, hb1, hyes, hno⟩ := xx
    have J : Inv X pins σ' H' sI := J'.ofTry ok
    have sky' : Sky B (X.env :: X.outer) a (Zc cls d) X.env.locals s'.heap := by rw [← hs]; exact sky
    show wpAny (model X.prog X.w) X.A (noteFrame (.ref a) X.env) _ _ _
    refine Sky.land Zc.steady hfr hf sky' fun h3 fl3 up3 => ?_
    have J3 : Inv X pins σ' H' { s' with heap := h3 } := J.landed nb fl3.1 (up.trans up3) os ag
    obtain ⟨oe3, vs3, he3, hz3, hd3⟩ := fl3.there
    have notFr : ∀ {h : Heap} {o : Obj} {vs : Array Value}, h.FunFrames B (X.env :: X.outer) → h.get? a = some o → o.data = .fields vs → a ∉ frs (X.env :: X.outer) := fun {h o vs} ff e dd hm => by
      obtain ⟨_, o', e', hnf⟩ := ff.mem hm
      rw [e] at e'; cases e'
      exact hnf _ dd
    have nfr := notFr fl3.2.2.1 he3 hd3
    have nL : a ≠ X.env.locals := fun z => nfr (List.mem_filterMap.mpr ⟨X.env, List.mem_cons_self, by rw [hf, z]⟩)
    have nF : a ∉ X.fs := fun hm => by
      obtain ⟨e, he, q⟩ := List.mem_filterMap.mp hm
      exact nfr (List.mem_filterMap.mpr ⟨e, List.mem_cons_of_mem _ he, q⟩)
    have nstk : ∀ b, b ≠ X.env.locals → b ∉ X.fs → b ∉ frs X.stack := fun b h1 h2 hm => by
      rw [hs] at hm
      obtain ⟨e, he, q⟩ := List.mem_filterMap.mp hm
      rcases List.mem_cons.mp he with rfl | he
      · rw [hf] at q; exact h1 (Option.some.inj q).symm
      · exact h2 (List.mem_filterMap.mpr ⟨e, he, q⟩)
    have nBa : B.get? a = none := fl3.2.1
    have nsI : sI.heap.get? a = none := by
      cases q : sI.heap.get? a with
      | none => rfl
      | some o => rw [nb a o q (nstk a nL nF)] at nBa; cases nBa
    have n0 : X.s_0.heap.get? a = none := by
      cases q : X.s_0.heap.get? a with
      | none => rfl
      | some o =>
        obtain ⟨o', e1⟩ := J.base.there a o q (by rw [hex]; exact List.not_mem_nil)
        rw [nsI] at e1; cases e1
    have nP : ∀ p ∈ X.pn ++ pins, p.1 ≠ a := fun p hp z => by
      obtain ⟨h1, _⟩ := J.pin p hp
      rw [z, nsI] at h1; cases h1
    have S3 := J3.suite he3 hd3 na nL nF
    refine wpAny_handleBy_cons (codeAny_handlers_test ?_) (by intro q; cases q)
    have LT : PySem.W.Looks (model X.prog X.w) h3 (typeOf (.ref a)) cls := fun A Q E s k q => wpAny_typeOf_ref (k _ _ he3) (by rw [hz3.1]; exact q)
    have LM := PySem.W.exm_one (M := model X.prog X.w) (J3.kIn) LT hb1
    have test : ∀ {Q : Value → Shared → Prop} {E : Value → Shared → Prop}, Q c { s' with heap := h3 } → wpAny (model X.prog X.w) (X.A.mark (some (.ref a))) (eval (.Name x np) X.env) Q E { s' with heap := h3 } := fun {Q E} q => by
      obtain ⟨hg, hdbg, hm | ⟨hm, hv, hnn⟩⟩ := hc
      · exact ld_glob (X := X.suite a ((a, oe3) :: (X.pn ++ pins))) S3 hg hm q hdbg
      · exact ld_blt (X := X.suite a ((a, oe3) :: (X.pn ++ pins))) S3 hg hm hv q hnn hdbg
    refine test (LM.here ?_)
    cases b with
    | true =>
      obtain ⟨hd0, hyes⟩ := hyes rfl
      subst hd0
      refine codeAny_handlers_suite_as ?_
      refine HandSPX.lands_againZ fl3 fun h4 fl4 up4 => ?_
      have J4 : Inv X pins σ' H' { s' with heap := h4 } := J.landed nb fl4.1 ((up.trans up3).trans up4) os ag
      obtain ⟨oe4, vs4, he4, hz4, hd4⟩ := fl4.there
      have S4 := J4.suite he4 hd4 na nL nF
      refine store_ok (X := X.suite a ((a, oe4) :: (X.pn ++ pins))) (v := .ref a) S4 hN hi hloc rfl (fun s5 S5 => ?_) (.inr hln)
      refine wpAny_mono ((hsu a oe4 cls none (X.pn ++ pins) hz4 ⟨_, hd4⟩).run [] s5 _ H' _ S5 (hyes a na)) (fun f s6 hsp => ?_) (fun _ _ z => False.elim z)
      cases f with
      | next =>
        obtain ⟨σ6, H6, S6, q6⟩ := hsp
        obtain ⟨g1, g2, _⟩ := S6.pin (a, oe4) (List.mem_append.mpr (.inl List.mem_cons_self))
        have T6 : Inv X pins σ6 (upd H6 a (ExA cls a)) s6 := inv_track (S6.unsuite ok) g2 g1 hz4 hd4 n0 nL nP
        exact gone_ok T6 hN hi hln fun s7 J7 => ⟨_, _, J7, q6 g2⟩
      | brk =>
        obtain ⟨σ6, H6, S6, q6⟩ := hsp
        exact q6.elim
      | cont =>
        obtain ⟨σ6, H6, S6, q6⟩ := hsp
        exact q6.elim
      | ret u =>
        obtain ⟨v6, σ6, H6, S6, r6, q6⟩ := hsp
        exact gone_ok (S6.unsuite ok) hN hi hln fun s7 J7 => ⟨_, _, _, J7, r6, q6⟩
    | false =>
      show wpAny _ X.A (handleBy (.ref a) X.env []) _ _ _
      refine wpAny_handleBy_nil ?_
      obtain ⟨k1, k2, k3, oe, vs, T, oT, ts', he, hz, hd, h1, hr⟩ := id fl3
      unfold PySem.passOn
      refine wpAny_bind (wpAny_field he hd h1 ?_)
      rw [if_neg (show ¬ ((Value.ref T == Value.none) = true) from by simp)]
      have fin : wpAny (model X.prog X.w) X.A (setFlight (.ref a) X.env.frame) (fun _ s4 => wpAny (model X.prog X.w) X.A (throw (.ref a) : Sem Flow) (SP X pins D) X.xe s4) X.xe { s' with heap := h3 } := by
        rw [hf]
        refine HandSPX.setFlight_upZ fl3 fun h4 hh4 up4 => wpAny_throw (tk _ _ ?_)
        exact ⟨a, B, sI, pins, σ', H', cls, d, rfl, J, nb, (up.trans up3).trans up4, .inr (.inr (by rw [hs]; exact hh4)), na, os, ag, hno rfl⟩
      first
        | exact wpAny_bind (wpAny_pure (wpAny_bind fin))
        | exact wpAny_bind fin
  · cases f with
    | next =>
      obtain ⟨σ', H', J', q⟩ := hsp
      exact wpAny_execs_nil ⟨σ', H', J'.ofTry ok, q⟩
    | brk =>
      obtain ⟨σ', H', J', q⟩ := hsp
      exact ⟨σ', H', J'.ofTry ok, q⟩
    | cont =>
      obtain ⟨σ', H', J', q⟩ := hsp
      exact ⟨σ', H', J'.ofTry ok, q⟩
    | ret u =>
      obtain ⟨v, σ', H', J', r, q⟩ := hsp
      exact ⟨v, σ', H', J'.ofTry ok, r, q⟩
end
end DL
set_option Elab.async false
set_option linter.all false
set_option maxRecDepth 100000
set_option maxHeartbeats 2000000
namespace DL
open PySem PySem.Spec L2
/-- which errors the clause's class catches -/
def SubOk (K : PySem.W.Frag) (cv : Value) (sb : Str → Option Bool) : Prop := ∀ c b, sb c = some b → PySem.W.exmOne K (.ref (He.ga K c)) cv = some b
def tryK (sb : Str → Option Bool) (i j : Nat) (fb : Ev → SOut) : Ev → SOut := fun ρ => match fb ρ with
  | .exc c ρ1 => match sb c with
    | some true => if isRef ρ1 i = true then .bad else if isRef ρ1 j = true then .bad else .nx ((ρ1.set j (.fz (.exc c))).set i .un)
    | some false => .exc c ρ1
    | none => .bad
  | .nx ρ1 => .nx ρ1
  | .rt d ρ1 => .rt d ρ1
  | .bad => .bad
def tryO (sb : Str → Option Bool) (fb g : Ev → SOut) : Ev → SOut := fun ρ => match fb ρ with
  | .exc c ρ1 => match sb c with
    | some true => (match g ρ1 with
      | .exc _ _ => .bad
      | .nx ρ2 => .nx ρ2
      | .rt d ρ2 => .rt d ρ2
      | .bad => .bad)
    | some false => .exc c ρ1
    | none => .bad
  | .nx ρ1 => .nx ρ1
  | .rt d ρ1 => .rt d ρ1
  | .bad => .bad
section
variable {X : Cx} {W : WX} {K : PySem.W.Frag} {Fr : Addr → Prop} {B : List (Nat × Addr)} {E : Ends} {σ : St} {H H1 : Hp} {ρ ρ1 : Ev} {v : V}
theorem set_comm3 {α : Type} {l : List α} {i j : Nat} {a b c : α} (h : i ≠ j) : (((l.set i a).set j b).set i c) = (l.set j b).set i c := by
  rw [List.set_comm _ _ h, List.set_set]
/-- an error is kept in slot j, slot i is gone -/
theorem rep_kept {a : Addr} {c : Str} {i j : Nat} (R : Rep K Fr B σ H ρ) (ha : H a = none) (hi : isRef ρ i = false) (hj : isRef ρ j = false) (hij : i ≠ j) :
    Rep K Fr B (((σ.set i (some (.ref a))).set j (some (.ref a))).set i none) (upd H a (ExA (.ref (He.ga K c)) a)) ((ρ.set j (.fz (.exc c))).set i .un) := by
  have R1 : Rep K Fr B σ (upd H a (ExA (.ref (He.ga K c)) a)) ρ := R.new ha
  have dt : Dat K (upd H a (ExA (.ref (He.ga K c)) a)) (.ref a) (.exc c) := .exc upd_same
  have R2 := put_name R1 dt hi
  have hj2 : isRef (ρ.set i (.fz (.exc c))) j = false := by
    unfold isRef at *
    rw [List.getElem?_set_ne hij]; exact hj
  have R3 := put_name R2 dt hj2
  have R4 := R3.unset (i := i) (fun o z => by
    rw [List.getElem?_set_ne (Ne.symm hij)] at z
    have hlt : i < ρ.length := (isRef_no hi).1
    rw [List.getElem?_set_self hlt] at z
    cases z)
  rw [set_comm3 hij, set_comm3 hij] at R4
  rw [List.set_comm (i := i) (j := j) (a := some (V.ref a)) (b := some (V.ref a)) hij, List.set_set]
  exact R4
theorem ds_try_keep {x n y : Str} {cv : Value} {i j : Nat} {body : List Stmt} {np py pn pos pos' apos : Pos} {sb : Str → Option Bool} {fb : Ev → SOut}
    (hex : X.ex = []) (hs : X.stack = X.env :: X.outer) (hf : X.env.frame = some X.env.locals) (hN : X.N.Nodup) (hi : X.N[i]? = some n) (hln : X.env.kindOf n = some .local) (hj : X.N[j]? = some y) (hlj : Loc X.env.scope y) (hij : i ≠ j)
    (hc : Names X x cv) (tk : Takes X W) (hsb : SubOk X.K cv sb)
    (hb : ∀ (W : WX) (pn : List (Addr × Obj)) (xe : Value → Shared → Prop), Takes (X.tr pn xe) W → PassesOwn (model X.prog X.w) X.A X.env xe → DSs (X.tr pn xe) W body fb)
    (hsw : swapsWith (.Name n pn) (some (.Name y py)) apos.line X.env = pure false := by rfl)
    (hv : Vis X.env.scope n := by first | exact .inl rfl | exact .inr (.inl rfl) | exact .inr (.inr rfl)) (hd : (n == ("__debug__" : Str)) = false := by decide) (hcd : (n == ("__classdict__" : Str)) = false := by decide)
    (hfn : X.fn y = true ∨ X.env.scope.names.lookup y = some .local := by first | exact .inl rfl | exact .inr rfl) :
    DS X W (.Try body [.ExceptHandler (some (.Name x np)) (some n) [.Assign [.Name y py] (.Name n pn) apos] pos'] [] [] pos) (tryK sb i j fb) := by
  refine ⟨psImp (ps_try_keep (i := i) (ts := fun _ _ _ => tAsg (tVar i) (gName j)) (tb := fun W => canS X.K W fb) hex hs hf hN hi hln hc tk (fun W pn xe tk' pw => (hb W pn xe tk' pw).can) (fun a oe cls d pn hz hv' => ?_)) fun E σ H ⟨Fr, B, ρ, R, k⟩ => ⟨Fr, B, ρ, R, ?_⟩⟩
  · exact pssImp (pss_cons (ps_set (X := X.suite a ((a, oe) :: pn)) hN hj hlj (pe_var (X := X.suite a ((a, oe) :: pn)) hi hv hd hcd) hsw hfn) pss_nil) fun E σ H k => k
  · unfold tryK at k
    cases e : fb ρ with
    | nx ρ1 => rw [e] at k; exact k
    | rt d ρ1 => rw [e] at k; exact k
    | bad => rw [e] at k; exact k
    | exc c ρ1 =>
      rw [e] at k
      intro σ' H' st R'
      dsimp only at k
      cases e2 : sb c with
      | none => rw [e2] at k; exact k.elim
      | some b =>
        rw [e2] at k
        refine ⟨b, hsb c b e2, fun hbt => ⟨rfl, fun a ha => ?_⟩, fun hbf => ?_⟩
        · subst hbt
          dsimp only at k
          cases h1 : isRef ρ1 i with
          | true => rw [h1] at k; exact k.elim
          | false =>
            cases h2 : isRef ρ1 j with
            | true => rw [h1, h2] at k; exact k.elim
            | false =>
              rw [h1, h2] at k
              refine ⟨.ref a, ?_, ?_⟩
              · have hlt : i < σ'.length := by rw [← R'.len]; exact (isRef_no h1).1
                exact List.getElem?_set_self hlt
              · intro ha'
                exact k _ _ (st.trans (Step.new R' ha)) (rep_kept R' ha h1 h2 hij)
        · subst hbf
          exact k σ' H' st R'
theorem ds_try_only {x : Str} {cv : Value} {body suite : List Stmt} {b₀ : Stmt} {np pos pos' : Pos} {sb : Str → Option Bool} {fb g : Ev → SOut}
    (hs : X.stack = X.env :: X.outer) (hf : X.env.frame = some X.env.locals) (hc : Names X x cv) (tk : Takes X W) (hsb : SubOk X.K cv sb)
    (hb : ∀ (W : WX) (pn : List (Addr × Obj)) (xe : Value → Shared → Prop), Takes (X.tr pn xe) W → PassesOwn (model X.prog X.w) X.A X.env xe → DSs (X.tr pn xe) W body fb)
    (hsu : ∀ (a : Addr) (oe : Obj) (pn : List (Addr × Obj)), DSs (X.suite a ((a, oe) :: pn)) W0 (b₀ :: suite) g) :
    DS X W (.Try body [.ExceptHandler (some (.Name x np)) none (b₀ :: suite) pos'] [] [] pos) (tryO sb fb g) := by
  refine ⟨psImp (ps_try_only (ts := fun _ _ _ => canS X.K W0 g) (tb := fun W => canS X.K W fb) hs hf hc tk (fun W pn xe tk' pw => (hb W pn xe tk' pw).can) (fun a oe cls d pn hz hv' => (hsu a oe pn).can)) fun E σ H ⟨Fr, B, ρ, R, k⟩ => ⟨Fr, B, ρ, R, ?_⟩⟩
  unfold tryO at k
  cases e : fb ρ with
  | nx ρ1 => rw [e] at k; exact k
  | rt d ρ1 => rw [e] at k; exact k
  | bad => rw [e] at k; exact k
  | exc c ρ1 =>
    rw [e] at k
    intro σ' H' st R'
    dsimp only at k
    cases e2 : sb c with
    | none => rw [e2] at k; exact k.elim
    | some b =>
      rw [e2] at k
      refine ⟨b, hsb c b e2, fun hbt a ha => ?_, fun hbf => ?_⟩
      · subst hbt
        refine ⟨Fr, B, ρ1, R', ?_⟩
        dsimp only at k
        cases e3 : g ρ1 with
        | nx ρ2 => rw [e3] at k; exact OkS.later k st
        | rt d ρ2 => rw [e3] at k; exact OkS.later k st
        | exc c ρ2 => rw [e3] at k; exact k.elim
        | bad => rw [e3] at k; exact k.elim
      · subst hbf
        exact k σ' H' st R'
end
end DL
set_option Elab.async false
set_option linter.all false
set_option maxRecDepth 100000
set_option maxHeartbeats 2000000
namespace DL
open PySem PySem.Spec L2
section
variable {X : Cx} {W : WX} {K : PySem.W.Frag} {Fr : Addr → Prop} {B : List (Nat × Addr)} {E : Ends} {σ : St} {H H1 : Hp} {ρ ρ1 : Ev} {v : V}

/-! ### what is never reached -/
def badE {α : Type} : Ev → Out α := fun _ => .bad
theorem de_bad {e : Expr} : DE X W e badE := ⟨fun _ _ _ => False, ⟨fun _ _ _ _ _ _ k => k.elim⟩, fun _ _ _ _ _ _ _ k => k⟩
theorem dn_bad {e : Expr} : DN X W e badE := ⟨fun _ _ _ => False, ⟨fun _ _ _ _ _ _ k => k.elim⟩, fun _ _ _ _ _ _ _ k => k⟩
theorem pas_tk (tk : Takes X W) : Pas X W := fun σ => passAt tk σ

/-! ### isinstance(e, C) of a caught error -/
def isxD (sb : Str → Option Bool) : D → Option D
  | .exc c => (sb c).map D.bl
  | _ => none
structure KitOk (K : PySem.W.Frag) (cv : Value) (sb : Str → Option Bool) : Prop where
  ok : ∀ c b, sb c = some b → ExcC K (He.ga K c) ∧ PySem.W.kitOne K (.ref (He.ga K c)) cv = some b
def rIsX (K : PySem.W.Frag) (cw : V) (cv : Value) : List V → Hp → VK → Prop := fun xs H Q => ∃ (a D : Addr) (b : Bool), xs = [.ref a, cw] ∧ (∀ u, RelV cw u → u = cv) ∧ H a = some (ExA (.ref D) a) ∧ ExcC K D ∧ PySem.W.kitOne K (.ref D) cv = some b ∧ Q (.bl b) H
theorem call_isX {cw : V} {cv : Value} : CallR X (.builtin "isinstance") (rIsX X.K cw cv) := by
  intro pins s σ H xs us Q I r h
  obtain ⟨a, D, b, rfl, hcv, ha, C, e, q⟩ := h
  cases r with
  | cons rx rr =>
    cases rr with
    | cons rt rr =>
      cases rr
      cases rx
      have ec := hcv _ rt
      subst ec
      have J : ∃ oe, PySem.W.InstAt s.heap a oe D none := by
        obtain ⟨⟨oe, vs, hget, hz, hv⟩, _⟩ := (show ObjOk X.prog X.w H s.heap a (ExA (.ref D) a) from I.hok a _ ha)
        obtain ⟨oc, od, oda, osl⟩ := oe
        obtain ⟨h1, h2⟩ := hz
        dsimp only at h1 h2 hv
        subst h1 h2 hv
        exact ⟨_, hget, rfl, rfl, trivial⟩
      obtain ⟨oe, J⟩ := J
      exact PySem.W.kia_one (PySem.W.handS_kitx_exc C.hg C.hk C.hs C.hd C.ha C.hn C.ht C.hm) I.kIn J e (fun z => nomatch z) fun tk => ⟨.bl b, H, I.kept (t' := tk) fun _ _ z => z, rfl, q⟩
theorem View.exc {c : Str} (h : View K H v (.exc c)) : ∃ a, v = .ref a ∧ H a = some (ExA (.ref (He.ga K c)) a) := by
  generalize e : D.exc c = d at h
  cases h with
  | dat h => cases h <;> cases e; exact ⟨_, rfl, by assumption⟩
  | @own p o h => cases o <;> cases e
theorem de_isx {a cl : Expr} {cw : V} {cv : Value} {sb : Str → Option Bool} {f : Ev → Out RV} {p pos : Pos} (ks : KitOk X.K cv sb) (hcl : PE X cl (tC cw)) (hcv : ∀ u, RelV cw u → u = cv) (hm : X.mg "isinstance" = none) (ha : DR X W a f) (hg : Gl X "isinstance" := by rfl)
    (he : starEach [a, cl] X.env = (false, eval a X.env) :: starEach [cl] X.env := by rfl) (he2 : starEach [cl] X.env = (false, eval cl X.env) :: starEach [] X.env := by rfl) (hpl : (backTo pos (starEach [cl] X.env)).any (·.1) = false := by rfl) :
    DE X W (.Call (.Name "isinstance" p) [a, cl] [] pos) (unF (isxD sb) f) := by
  obtain ⟨t, pa, s⟩ := ha.ex
  refine ⟨_, pe_callB (call_isX (cw := cw) (cv := cv)) hg hm (by decide +kernel) (pa_cons pa (pa_cons hcl pa_nil he2) he) (by decide) (by decide) he hpl, fun Fr B σ H ρ Q R k => s Fr B σ H ρ _ R (Ok.bind k fun v H1 a ρ1 st R1 r1 k => ?_)⟩
  obtain ⟨d, d', e1, e2, k⟩ := onOne_inv k
  unfold isxD at e2
  split at e2
  · rename_i c
    cases e3 : sb c with
    | none => rw [e3] at e2; cases e2
    | some b =>
      rw [e3] at e2; cases e2
      obtain ⟨q, rfl, hq⟩ := (view_now r1 R1 e1).exc
      obtain ⟨k1, k2⟩ := ks.ok c b e3
      exact ⟨q, _, b, rfl, hcv, hq, k1, k2, k _ H1 Step.refl R1 .bl⟩
  · cases e2
/-- .. C a class of the module's, built in -/
theorem de_isxG {a : Expr} {C : Str} {sb : Str → Option Bool} {f : Ev → Out RV} {p p2 pos : Pos} (ks : KitOk X.K (.ref (He.ga X.K C)) sb) (hC : X.mg C = some (.ref (He.ga X.K C))) (hm : X.mg "isinstance" = none) (ha : DR X W a f) (hgC : Gl X C := by rfl) (hg : Gl X "isinstance" := by rfl) (hd : (C == ("__debug__" : Str)) = false := by decide)
    (he : starEach [a, .Name C p2] X.env = (false, eval a X.env) :: starEach [.Name C p2] X.env := by rfl) (he2 : starEach [.Name C p2] X.env = (false, eval (.Name C p2) X.env) :: starEach [] X.env := by rfl) (hpl : (backTo pos (starEach [.Name C p2] X.env)).any (·.1) = false := by rfl) :
    DE X W (.Call (.Name "isinstance" p) [a, .Name C p2] [] pos) (unF (isxD sb) f) :=
  de_isx ks (pe_glob (v := .ref (He.ga X.K C)) hgC hC rfl hd) (fun u r => by cases r; rfl) hm ha hg he he2 hpl
theorem de_isxB {a : Expr} {C : Str} {T : String} {sb : Str → Option Bool} {f : Ev → Out RV} {p p2 pos : Pos} (ks : KitOk X.K (.type T) sb) (hC : X.mg C = none) (hv : bootBuiltins C = some (.type T)) (hm : X.mg "isinstance" = none) (ha : DR X W a f) (hgC : Gl X C := by rfl) (hg : Gl X "isinstance" := by rfl) (hn : C ≠ "__name__" := by decide) (hd : (C == ("__debug__" : Str)) = false := by decide)
    (he : starEach [a, .Name C p2] X.env = (false, eval a X.env) :: starEach [.Name C p2] X.env := by rfl) (he2 : starEach [.Name C p2] X.env = (false, eval (.Name C p2) X.env) :: starEach [] X.env := by rfl) (hpl : (backTo pos (starEach [.Name C p2] X.env)).any (·.1) = false := by rfl) :
    DE X W (.Call (.Name "isinstance" p) [a, .Name C p2] [] pos) (unF (isxD sb) f) :=
  de_isx ks (pe_bltn (v := .ty T) hgC hC hv rfl hn hd) (fun u r => by cases r; rfl) hm ha hg he he2 hpl

/-! ### xs.index(y), xs.count(y), flat items -/
def rCntF (K : PySem.W.Frag) : V → List V → Hp → VK → Prop := fun x xs H Q => ∃ (a : Addr) (ys : List V) (y : V), x = V.ref a ∧ xs = [y] ∧ SqL K H a ys ∧ flatV y = true ∧ ys.all flatV = true ∧ Q (.int ((ys.countP fun z => eqV z y) : Nat)) H
theorem countP_eqU {y : V} {uy : Value} : ∀ {ys : List V} {us : List Value}, Vals ys us → ys.all flatV = true → us.countP (eqU y) = ys.countP fun z => eqV z y
  | _, _, .nil, _ => rfl
  | z :: ys, u :: us, .cons r t, f => by
    rw [List.all_cons, Bool.and_eq_true] at f
    rw [List.countP_cons, List.countP_cons, countP_eqU (uy := uy) t f.2, eqU_of r f.1]
theorem mt_countF : MtR X "list.count" (rCntF X.K) := by
  intro pins s σ H x xs v us Q I rx rxs h
  obtain ⟨a, ys, y, rfl, rfl, hs, fy, fys, q⟩ := h
  cases rx
  cases rxs with
  | cons ry rt =>
    rename_i uy ut
    cases rt
    obtain ⟨its, rv, ⟨⟨cls, dd, data, sl⟩, n, ho, hc, hdn, hd⟩, hlen⟩ := I.list hs
    simp only at hc hd
    subst hc hd
    refine call_meets PySem.F.slot_list_count ⟨_, ho, rfl⟩ PySem.F.entry_list_count (PySem.F.args_list_count_2 _ _)
      (SeqAt.list_countAt a its.toArray n dd sl uy (eqU y)) ⟨ho, fun u' hu' => mem_eqAt ry fy rv fys u' (by simpa using hu'), ?_⟩
    refine ⟨.int ((ys.countP fun z => eqV z y) : Nat), H, I.tok _, ⟨s.toks, ?_⟩, q⟩
    show Value.int ((its.toArray.toList.countP (eqU y) : Nat) : Int) s.toks = _
    rw [show its.toArray.toList = its by simp, countP_eqU (uy := uy) rv fys]
def cntD : D → D → Option D := fun x y => match x with
  | .lst ds => if isFlat y = true ∧ ds.all isFlat = true then some (.int ((((ds.map flatOf).countP fun z => eqV z (flatOf y)) : Nat) : Int)) else none
  | _ => none
def idxD : D → D → Option D := fun x y => match x with
  | .lst ds => if isFlat y = true ∧ ds.all isFlat = true then ((ds.map flatOf).findIdx? fun z => eqV z (flatOf y)).map fun j => .int ((j : Nat) : Int) else none
  | _ => none
def methF (op : D → D → Option D) (f : Ev → Out RV) (g : Ev → Out D) : Ev → Out D := fun ρ => (f ρ).bind fun a ρ1 => match look ρ1 a with
  | some (.lst _) => (g ρ1).bind fun b ρ2 => onTwo op ρ2 (look ρ2 a) (some b)
  | _ => .bad
theorem View.lstTy {xs : List D} (h : View K H v (.lst xs)) : tyV K "list" v H := by
  obtain ⟨a, vs, rfl, h, _⟩ := h.lst
  rcases h with (h | ⟨o, h⟩) | ⟨o, its, n, h1, h2, h3, h4, h5⟩
  · exact .inl ⟨rfl, vs, .inl (.inl h)⟩
  · exact .inl ⟨rfl, vs, .inl (.inr ⟨o, h⟩)⟩
  · exact .inl ⟨rfl, vs, .inr ⟨o, its, n, h1, h2, h3, h4, h5⟩⟩
section
variable {o e : Expr} {f : Ev → Out RV} {g : Ev → Out D} {apos cpos : Pos}
theorem de_methL {name : Str} {id : String} {r : V → List V → Hp → VK → Prop} {op : D → D → Option D} (slot : Slot "list" name id) (hty : typeOf (.builtin id) = pure (.type "method_descriptor")) (hm : MtR X id r)
    (hr : ∀ (H : Hp) (x : V) (dx : D) (y : V) (dy d : D) (Q : VK), View X.K H x dx → Dat X.K H y dy → op dx dy = some d → (∀ z, Dat X.K H z d → Q z H) → r x [y] H Q)
    (ho : DR X W o f) (he : DE X W e g)
    (hbase : attributeBase o name X.env (eval o X.env) = eval o X.env := by rfl)
    (hfew : ((backTo cpos (starEach (e :: []) X.env)).all (fun x => !x.1) && (backToKw cpos (keywordEach [] X.env)).all (fun x => x.1.isSome)
      && decide ((e :: []).length + ([] : List Keyword).length + (if ([] : List Keyword).isEmpty then 0 else 1) < 30)) = true := by rfl)
    (hline : (apos.endLine == cpos.line) = true := by rfl) (hs : starEach (e :: []) X.env = (false, eval e X.env) :: starEach [] X.env := by rfl) (hplain : (backTo cpos (starEach [] X.env)).any (·.1) = false := by rfl) :
    DE X W (.Call (.Attribute o name apos) [e] [] cpos) (methF op f g) := by
  obtain ⟨t, p, s⟩ := ho.ex
  obtain ⟨t', p', s'⟩ := he.ex
  refine ⟨_, pe_bm PySem.F.plainAttrs_list slot hty hm p (pa_cons p' pa_nil hs) hbase hfew hline hs hplain, fun Fr B σ H ρ Q R k => s Fr B σ H ρ _ R (Ok.bind k fun v H1 a ρ1 st R1 r1 k => ?_)⟩
  split at k
  · rename_i xs hx
    refine ⟨(view_now r1 R1 hx).lstTy, s' Fr B σ H1 ρ1 _ R1 (Ok.bind k fun w H2 b ρ2 st2 R2 r2 k => ?_)⟩
    obtain ⟨dx, dy, d, e1, e2, e3, k⟩ := onTwo_inv k
    cases e2
    exact hr H2 v dx w b d Q (view_later r1 st2 R2 e1) r2 e3 fun z hz => k z H2 Step.refl R2 hz
  · exact False.elim k
theorem flat_all {vs : List V} {ds : List D} (r : DatL K H vs ds) (f : ds.all isFlat = true) : vs = ds.map flatOf ∧ vs.all flatV = true := DatL.flat r f
theorem de_lcnt (ho : DR X W o f) (he : DE X W e g)
    (hbase : attributeBase o "count" X.env (eval o X.env) = eval o X.env := by rfl)
    (hfew : ((backTo cpos (starEach (e :: []) X.env)).all (fun x => !x.1) && (backToKw cpos (keywordEach [] X.env)).all (fun x => x.1.isSome)
      && decide ((e :: []).length + ([] : List Keyword).length + (if ([] : List Keyword).isEmpty then 0 else 1) < 30)) = true := by rfl)
    (hline : (apos.endLine == cpos.line) = true := by rfl) (hs : starEach (e :: []) X.env = (false, eval e X.env) :: starEach [] X.env := by rfl) (hplain : (backTo cpos (starEach [] X.env)).any (·.1) = false := by rfl) :
    DE X W (.Call (.Attribute o "count" apos) [e] [] cpos) (methF cntD f g) :=
  de_methL PySem.F.slot_list_count PySem.F.type_list_count mt_countF (fun H x dx y dy d Q vx vy e k => by
    unfold cntD at e
    split at e
    · split at e
      · rename_i h
        cases e
        obtain ⟨a, vs, rfl, hs, r⟩ := vx.lst
        obtain ⟨e1, e2⟩ := r.flat h.2
        obtain ⟨e3, e4⟩ := vy.flat h.1
        refine ⟨a, vs, y, rfl, rfl, hs, e4, e2, ?_⟩
        rw [e1, e3]
        exact k _ .int
      · cases e
    · cases e) ho he hbase hfew hline hs hplain
theorem de_lidx (ho : DR X W o f) (he : DE X W e g)
    (hbase : attributeBase o "index" X.env (eval o X.env) = eval o X.env := by rfl)
    (hfew : ((backTo cpos (starEach (e :: []) X.env)).all (fun x => !x.1) && (backToKw cpos (keywordEach [] X.env)).all (fun x => x.1.isSome)
      && decide ((e :: []).length + ([] : List Keyword).length + (if ([] : List Keyword).isEmpty then 0 else 1) < 30)) = true := by rfl)
    (hline : (apos.endLine == cpos.line) = true := by rfl) (hs : starEach (e :: []) X.env = (false, eval e X.env) :: starEach [] X.env := by rfl) (hplain : (backTo cpos (starEach [] X.env)).any (·.1) = false := by rfl) :
    DE X W (.Call (.Attribute o "index" apos) [e] [] cpos) (methF idxD f g) :=
  de_methL PySem.F.slot_list_index PySem.F.type_list_index mt_index (fun H x dx y dy d Q vx vy e k => by
    unfold idxD at e
    split at e
    · split at e
      · rename_i ds h
        obtain ⟨j, e5, e6⟩ := Option.map_eq_some_iff.mp e
        subst e6
        obtain ⟨a, vs, rfl, hs, r⟩ := vx.lst
        obtain ⟨e1, e2⟩ := r.flat h.2
        obtain ⟨e3, e4⟩ := vy.flat h.1
        rw [List.findIdx?_eq_some_iff_getElem] at e5
        obtain ⟨hj, h1, h2⟩ := e5
        refine ⟨a, vs, y, j, (ds.map flatOf)[j], rfl, rfl, hs, e4, e2, by rw [e1]; exact List.getElem?_eq_getElem hj, by rw [e3]; exact h1, fun m z' hm hz => ?_, k _ .int⟩
        rw [e1] at hz
        have hm' : m < (ds.map flatOf).length := by omega
        rw [List.getElem?_eq_getElem hm'] at hz
        cases hz
        have := h2 m hm
        rw [e3]
        simpa using this
      · cases e
    · cases e) ho he hbase hfew hline hs hplain
end

/-! ### xs + ys, a new list -/
def catN (f g : Ev → Out RV) : Ev → Out OD := fun ρ => (f ρ).bind fun a ρ1 => (g ρ1).bind fun b ρ2 => match look ρ2 a, look ρ2 b with
  | some (.lst x), some (.lst y) => if x.length + y.length ≤ sizeLine then .val (.l (x ++ y)) ρ2 else .bad
  | _, _ => .bad
theorem dn_cat {a b : Expr} {f g : Ev → Out RV} {pos : Pos} (ha : DR X W a f) (hb : DR X W b g) : DN X W (.BinOp a .Add b pos) (catN f g) := by
  obtain ⟨ta, pa, sa⟩ := ha.ex
  obtain ⟨tb, pb, sb⟩ := hb.ex
  refine ⟨_, pe_op op_catR pa pb, fun Fr B σ H ρ Q R k => sa Fr B σ H ρ _ R (Ok.bind k fun v H1 a ρ1 st R1 r1 k => sb Fr B σ H1 ρ1 _ R1 (Ok.bind k fun w H2 b ρ2 st2 R2 r2 k => ?_))⟩
  split at k
  · rename_i x y ea eb
    split at k
    · rename_i hz
      obtain ⟨l, xs, rfl, h1, d1⟩ := (view_later r1 st2 R2 ea).lst
      obtain ⟨m, ys, rfl, h2, d2⟩ := (view_now r2 R2 eb).lst
      exact ⟨l, m, xs, ys, rfl, rfl, h1, h2, by rw [d1.length, d2.length]; exact hz, fun p hp => own_new R2 hp (own_lst hp (d1.append d2)) k⟩
    · exact False.elim k
  · exact False.elim k

/-! ### d.pop(k) -/
def dropD (kvs : List (Key × D)) (k : Key) : List (Key × D) := kvs.filter fun kv => decide (kv.1 ≠ k)
theorem DatK.drop {k : Key} : ∀ {vs : List (Key × V)} {ds : List (Key × D)}, DatK K H vs ds → DatK K H (dropK vs k) (dropD ds k)
  | _, _, .nil => .nil
  | _, _, .cons (k := q) h r => by
    unfold dropK dropD
    by_cases e : q = k
    · rw [List.filter_cons_of_neg (by simpa using e), List.filter_cons_of_neg (by simpa using e)]; exact DatK.drop r
    · rw [List.filter_cons_of_pos (by simpa using e), List.filter_cons_of_pos (by simpa using e)]; exact .cons h (DatK.drop r)
def dpopE (i : Nat) (g : Ev → Out D) : Ev → Out D := fun ρ => match ρ[i]? with
  | some (.ow _ (.d _)) => (g ρ).bind fun b ρ1 => match ρ1[i]?, keyOf b with
    | some (.ow r (.d kvs)), some k => (match valD kvs k with
      | some d => .val d (ρ1.set i (.ow r (.d (dropD kvs k))))
      | none => .bad)
    | _, _ => .bad
  | _ => .bad
theorem slot_d {i : Nat} {r : Bool} {xs : List (Key × D)} (R : Rep K Fr B σ H ρ) (e : ρ[i]? = some (.ow r (.d xs))) : ∃ p vs, σ[i]? = some (some (V.ref p)) ∧ H p = some (.dK vs) ∧ DatK K H vs xs := by
  obtain ⟨p, e1, vs, h, d⟩ := R.own e
  exact ⟨p, vs, e1, h, d⟩
theorem de_dpop {i : Nat} {o e : Expr} {g : Ev → Out D} {apos cpos : Pos} (ho : PE X o (tVar i)) (he : DE X W e g) (m : M1 X o "pop" apos e cpos := by exact ⟨rfl, rfl, rfl, rfl⟩) : DE X W (.Call (.Attribute o "pop" apos) [e] [] cpos) (dpopE i g) := by
  obtain ⟨t, p, s⟩ := he.ex
  refine ⟨_, pe_dpop1 ho p m, fun Fr B σ H ρ Q R k => ?_⟩
  unfold dpopE at k
  split at k
  · rename_i r0 xs0 q0
    obtain ⟨p0, vs0, e0, h0, _⟩ := slot_d R q0
    refine ⟨_, e0, p0, rfl, .inl ⟨vs0, .inl h0⟩, s Fr B σ H ρ _ R (Ok.bind k fun v H1 b ρ1 st R1 r1 k => ?_)⟩
    split at k
    · rename_i r kvs k' q1 e1
      obtain ⟨p1, vs, e2, h1, rd⟩ := slot_d R1 q1
      rw [e0] at e2; cases e2
      cases e3 : valD kvs k' with
      | none => rw [e3] at k; exact False.elim k
      | some d =>
        rw [e3] at k
        obtain ⟨w, hw, dw⟩ := rd.val.1 d e3
        have m1 : Mono H1 (upd H1 p0 (.dK (dropK vs k'))) := Mono.upd fun z q => by rw [h1] at q; cases q; exact fun z => z
        obtain ⟨R2, s2⟩ := slot_write (o' := .d (dropD kvs k')) R1 q1 e0 h1 (fun z => z) ⟨_, upd_same, (rd.drop).mono m1⟩
        exact ⟨vs, k', w, h1, Dat.key r1 e1, hw, k w _ s2 R2 (dw.mono m1)⟩
    · exact False.elim k
  · exact False.elim k
end
end DL
set_option Elab.async false
set_option linter.all false
set_option maxRecDepth 100000
set_option maxHeartbeats 2000000
namespace DL
open PySem PySem.Spec L2
section
variable {X : Cx} {W : WX} {K : PySem.W.Frag} {Fr : Addr → Prop} {B : List (Nat × Addr)} {E : Ends} {σ : St} {H H1 : Hp} {ρ ρ1 : Ev} {v : V}
/-! ### a text times a number -/
def repS (x : Str) (n : Nat) : Str := if n = 1 then x else ⟨(List.replicate n x.cps).foldl (· ++ ·) #[]⟩
def mulS : D → D → Option D
  | .str x, .int n => if 1 ≤ n ∧ n ≤ 1000 ∧ 1 ≤ x.length ∧ x.length ≤ 1000 then some (.str (repS x n.toNat)) else none
  | _, _ => none
def rMulS : R2 := fun x y H Q => ∃ (z : Str) (n : Int), x = .str z ∧ y = .int n ∧ 1 ≤ n ∧ n ≤ 1000 ∧ 1 ≤ z.length ∧ z.length ≤ 1000 ∧ Q (.str (repS z n.toNat)) H
theorem op_mulS : OpR X (binaryOp .Mult) rMulS := by
  intro pins s σ H x y v u Q I rx ry h
  obtain ⟨z, n, rfl, rfl, h1, h2, h3, h4, q⟩ := h
  obtain ⟨t, rfl⟩ := rx
  obtain ⟨t', rfl⟩ := ry
  have e1 : decide (n < -(2 ^ 63 : Int)) = false := decide_eq_false (by omega)
  have e2 : decide (n ≥ 2 ^ 63) = false := decide_eq_false (by omega)
  have hq : (n == 1 || z.length == 0) = decide (n = 1) := by
    have h0 : (z.length == 0) = false := by rw [beq_eq_false_iff_ne]; omega
    rw [h0, Bool.or_false]
    by_cases e : n = 1
    · rw [decide_eq_true e, e]; rfl
    · rw [decide_eq_false e]; exact beq_eq_false_iff_ne.mpr e
  refine PySem.P.mul_str (by rw [e1, e2]; rfl) (fun _ _ => ?_) (fun _ _ => ?_) ?_
  · have : (1000 : Int) ≤ (2 ^ 63 - 1) / n := by
      rw [Int.le_ediv_iff_mul_le (by omega)]
      have : 1000 * n ≤ 1000 * 1000 := Int.mul_le_mul_of_nonneg_left h2 (by decide)
      omega
    omega
  · have : z.length * n.toNat ≤ 1000 * 1000 := Nat.mul_le_mul h4 (by omega)
    show decide (z.length * n.toNat > sizeLine) = false
    exact decide_eq_false (by rw [sizeLine_eq]; omega)
  · rw [if_neg (by omega), hq]
    by_cases e : n = 1
    · rw [if_pos (decide_eq_true e)]
      refine ⟨.str z, H, I, ⟨t, rfl⟩, ?_⟩
      have : repS z n.toNat = z := by unfold repS; rw [if_pos (by omega)]
      rw [this] at q; exact q
    · rw [decide_eq_false e, if_neg (by decide)]
      have : repS z n.toNat = ⟨(List.replicate n.toNat z.cps).foldl (· ++ ·) #[]⟩ := by unfold repS; rw [if_neg (by omega)]
      rw [this] at q
      have hl : (Str.mk ((List.replicate n.toNat z.cps).foldl (· ++ ·) #[])).cps.size ≤ 16777216 := by
        have : ∀ (k : Nat) (acc : Array Nat), ((List.replicate k z.cps).foldl (· ++ ·) acc).size = acc.size + k * z.cps.size := by
          intro k
          induction k with
          | zero => intro acc; simp
          | succ k ih => intro acc; rw [List.replicate_succ, List.foldl_cons, ih, Array.size_append, Nat.add_mul]; omega
        show ((List.replicate n.toNat z.cps).foldl (· ++ ·) #[]).size ≤ 16777216
        rw [this]
        have h5 : n.toNat * z.cps.size ≤ 1000 * 1000 := Nat.mul_le_mul (by omega) h4
        simp; omega
      exact ⟨by first | exact hl | (simp; exact hl) | (unfold Str.length; exact hl), .str _, H, I.tok _, ⟨s.toks, rfl⟩, q⟩
theorem de_mulX {a b : Expr} {f g : Ev → Out RV} {pos : Pos} (ha : DR X W a f) (hb : DR X W b g) : DE X W (.BinOp a .Mult b pos) (binF mulS f g) :=
  de_op op_mulS ⟨fun {Fr B σ H ρ x y a b d Q} R va vb e k => by
    unfold mulS at e
    split at e
    · split at e
      · rename_i h
        cases e
        exact ⟨_, _, va.str, vb.int, h.1, h.2.1, h.2.2.1, h.2.2.2, k _ H Step.refl R .str⟩
      · cases e
    · cases e⟩ ha hb

/-! ### int(text) -/
def intTD : D → Option D
  | .str a => if a.length ≤ 640 then (PySem.intText? a).map D.int else none
  | _ => none
def rIntT : V → Hp → VK → Prop := fun x H Q => ∃ a n, x = .str a ∧ PySem.intText? a = some n ∧ a.length ≤ 640 ∧ Q (.int n) H
theorem call_intT : CallR X (.type "int") (rOne rIntT) := CallR.imp call_int_str fun xs H Q ⟨x, e, a, n, e2, h1, h2, q⟩ => ⟨a, n, by rw [e, e2], h1, h2, q⟩
theorem ok_intT : UnOk K rIntT intTD := ⟨fun {Fr B σ H ρ x a d Q} R va e k => by
  unfold intTD at e
  split at e
  · split at e
    · rename_i h
      obtain ⟨n, h1, rfl⟩ := Option.map_eq_some_iff.mp e
      exact ⟨_, n, va.str, h1, h, k _ H Step.refl R .int⟩
    · cases e
  · cases e⟩
theorem de_intT {e : Expr} {f : Ev → Out RV} {p pos : Pos} (hm : X.mg "int" = none) (ha : DR X W e f) (hg : Gl X "int" := by rfl) (he : starEach [e] X.env = (false, eval e X.env) :: starEach [] X.env := by rfl) (hpl : (backTo pos (starEach [] X.env)).any (·.1) = false := by rfl) : DE X W (.Call (.Name "int" p) [e] [] pos) (unF intTD f) := de_callT call_intT ok_intT hg hm (by decide +kernel) ha (by decide) (by decide) he hpl

/-! ### a, b = a list -/
def lstG (is : List Nat) (f : Ev → Out D) : Ev → SOut := fun ρ => bindS (f ρ) fun d ρ1 => match d with
  | .lst ds => (match setAll is ds ρ1 with
    | some ρ2 => .nx ρ2
    | none => .bad)
  | _ => .bad
theorem setAll_len : ∀ (is : List Nat) (ds : List D) (ρ ρ' : Ev), setAll is ds ρ = some ρ' → ds.length = is.length := by
  intro is
  induction is with
  | nil => intro ds ρ ρ' e; cases ds with | nil => rfl | cons => cases e
  | cons i is ih =>
    intro ds ρ ρ' e
    cases ds with
    | nil => cases e
    | cons d ds =>
      unfold setAll at e
      split at e
      · cases e
      · exact congrArg Nat.succ (ih ds _ _ e)
theorem ds_lstG {es : List Expr} {is : List Nat} {k : Nat} {e : Expr} {f : Ev → Out D} {pos pos' : Pos} (hc : X.calm = true) (h : DGs X es is) (he : DE X W e f) (hn : (assignEach es X.env).length = is.length := by rfl) (hst : (assignEach es X.env).findIdx? (·.1) = none := by rfl)
    (hs : swapsWithSole [.Tuple es k pos'] e pos.line X.env = pure false := by rfl) (hw : swappedStores [.Tuple es k pos'] e X.env = pure none := by rfl)
    (h1 : (assignEach [.Tuple es k pos'] X.env).map (·.2) = [assign (.Tuple es k pos') X.env] := by rfl) : DS X W (.Assign [.Tuple es k pos'] e pos) (lstG is f) :=
  ⟨psImp (ps_asg he.can (pg_lst hc h.can hn hst) hs hw h1) fun E σ H ⟨Fr, B, ρ, R, k⟩ => ⟨Fr, B, ρ, R, OkS.bind k fun v H1 d ρ1 s R1 r k => by
    have r : Dat X.K H1 v d := r
    cases r with
    | @lst a vs xs hv rv =>
      dsimp only at k
      cases e : setAll is xs ρ1 with
      | none => rw [e] at k; exact k.elim
      | some ρ2 =>
        rw [e] at k
        exact ⟨a, vs, rfl, hv.sq, by rw [rv.length]; exact setAll_len is xs ρ1 ρ2 e, Fr, B, ρ1, xs, ρ2, R1, rv, e, fun σ' R' _ => k σ' H1 Step.refl R'⟩
    | _ => exact k.elim⟩⟩

/-! ### {k: v, ..} -/
def relP (K : PySem.W.Frag) : Rel (List (Key × D)) (List (V × V)) := fun kds _ ps H => ∃ kvs : List (Key × V), ps = kvs.map (fun kv => (kV kv.1, kv.2)) ∧ DatK K H kvs kds
structure DPs (X : Cx) (W : WX) (pos : Pos) (keys : List (Option Expr)) (values : List Expr) (f : Ev → Out (List (Key × D))) : Prop where
  ex : ∃ t, PPs X pos keys values t ∧ ∀ (Fr : Addr → Prop) (B : List (Nat × Addr)) (σ : St) (H : Hp) (ρ : Ev) (Q : List (V × V) → Hp → Prop), Rep X.K Fr B σ H ρ → Ok X.K W Fr B σ (relP X.K) Q H (f ρ) → tPairs t σ H Q
def nilP : Ev → Out (List (Key × D)) := fun ρ => .val [] ρ
def consP (fk fv : Ev → Out D) (g : Ev → Out (List (Key × D))) : Ev → Out (List (Key × D)) := fun ρ => (fk ρ).bind fun dk ρ1 => (fv ρ1).bind fun d ρ2 => (g ρ2).bind fun ds ρ3 => match keyOf dk with
  | some k => .val ((k, d) :: ds) ρ3
  | none => .bad
theorem dps_nil {pos : Pos} : DPs X W pos [] [] nilP := ⟨_, pps_nil, fun Fr B σ H ρ Q R k => k [] H Step.refl R ⟨[], rfl, .nil⟩⟩
theorem dps_cons {pos : Pos} {k v : Expr} {ks : List (Option Expr)} {vs : List Expr} {fk fv : Ev → Out D} {g : Ev → Out (List (Key × D))} (hk : DE X W k fk) (hv : DE X W v fv) (hr : DPs X W pos ks vs g) : DPs X W pos (some k :: ks) (v :: vs) (consP fk fv g) := by
  obtain ⟨t1, p1, s1⟩ := hk.ex
  obtain ⟨t2, p2, s2⟩ := hv.ex
  obtain ⟨t3, p3, s3⟩ := hr.ex
  refine ⟨_, pps_cons p1 p2 p3, fun Fr B σ H ρ Q R k => s1 Fr B σ H ρ _ R (Ok.bind k fun x H1 dk ρ1 st1 R1 r1 k => s2 Fr B σ H1 ρ1 _ R1 (Ok.bind k fun y H2 d ρ2 st2 R2 r2 k => s3 Fr B σ H2 ρ2 _ R2 (Ok.bind k fun ps H3 ds ρ3 st3 R3 r3 k => ?_)))⟩
  cases e : keyOf dk with
  | none => rw [e] at k; exact k.elim
  | some kk =>
    rw [e] at k
    obtain ⟨kvs, rfl, rd⟩ := r3
    have r1' : Dat X.K H1 x dk := r1
    have r2' : Dat X.K H2 y d := r2
    have ex : x = kV kk := r1'.key e
    exact k _ H3 Step.refl R3 ⟨(kk, y) :: kvs, by rw [ex]; rfl, .cons (r2'.mono st3.mono) rd⟩
def dicN (f : Ev → Out (List (Key × D))) : Ev → Out OD := fun ρ => (f ρ).bind fun kds ρ1 => if kds.length ≤ 15 then .val (.d (mergeD [] kds)) ρ1 else .bad
theorem dn_dic {pos : Pos} {keys : List (Option Expr)} {values : List Expr} {f : Ev → Out (List (Key × D))} (h : DPs X W pos keys values f) (hall : keys.all (·.isSome) = true := by rfl) (hl : keys.length = values.length := by rfl) (h0 : keys ≠ [] := by nofun) (h15 : keys.length ≤ 15 := by decide) :
    DN X W (.Dict keys values pos) (dicN f) := by
  obtain ⟨t, p, s⟩ := h.ex
  refine ⟨_, pe_disp p hall hl h0 h15, fun Fr B σ H ρ Q R k q hq => ?_⟩
  have fr := R.fresh hq
  have R1 : Rep X.K Fr B σ (upd H q (.dK [])) ρ := R.new hq
  have R2 : Rep X.K (fun b => Fr b ∨ b = q) B σ (upd H q (.dK [])) ρ := R1.guard fr (by rw [upd_same]; exact nofun)
  refine s _ B σ _ ρ _ R2 ?_
  unfold dicN at k
  cases e : f ρ with
  | bad => rw [e] at k; exact k
  | exc c ρ1 =>
    rw [e] at k
    exact fun H' st R' => k H' ((Step.new R hq).trans (st.wide fun b h => .inl h)) (R'.unguard fun b h => .inl h)
  | val kds ρ1 =>
    rw [e] at k
    intro ps H' st R' r
    obtain ⟨kvs, rfl, rd⟩ := r
    replace k : Ok X.K W Fr B σ (relN X.K Fr σ) Q H (if kds.length ≤ 15 then .val (.d (mergeD [] kds)) ρ1 else .bad) := k
    split at k
    · rename_i hz
      have hq' : H' q = some (.dK []) := (st.keep q (.inr rfl)).trans upd_same
      have fr' : Fresh Fr σ ρ1 q := ⟨fr.1, fun i r o h1 h2 => R'.fr i q r o h1 h2 (.inr rfl)⟩
      have R3 : Rep X.K Fr B σ H' ρ1 := R'.unguard fun b h => .inl h
      have R4 : Rep X.K Fr B σ (upd H' q (.dK (mergeK [] kvs))) ρ1 := R3.other fr' hq' (fun z => z)
      have m : Mono H' (upd H' q (.dK (mergeK [] kvs))) := Mono.upd fun z e => by rw [hq'] at e; cases e; exact fun z => z
      have st2 : Step Fr H (upd H' q (.dK (mergeK [] kvs))) := ((Step.new R hq).trans (st.wide fun b h => .inl h)).trans (Step.other fr.1 hq' (fun z => z))
      refine ⟨hq', kvs, rfl, by rw [rd.length]; exact hz, k _ _ st2 R4 ⟨q, rfl, ⟨_, upd_same, ?_⟩, fr'⟩⟩
      exact DatK.merge (rd.mono m) .nil
    · exact k.elim

/-! ### list(d.items()): a list, no more is told -/
section
open LiI PyProof.Rows
variable {e : Expr} {te : TE} {p apos cpos pos : Pos}
def rItemsR : V → Hp → VK → Prop := fun x H Q => ∃ (d : Addr) (kvs : List (Key × V)), x = .ref d ∧ Rd H d (.dK kvs) ∧
  ∀ (H' : Hp) (p : Addr) (ts : List Addr), (∀ b o, H b = some o → H' b = some o) → H p = none → (∀ t ∈ ts, H t = none) → p ∉ ts → H' p = some (.lst (ts.map V.ref)) → Q (.ref p) H'
theorem pe_itemsR (hc : X.calm = true) (he : PE X e te) (hg : Gl X "list") (hm : X.mg "list" = none) (hv : bootBuiltins "list" = some (.type "list")) (hbase : attributeBase e "items" X.env (eval e X.env) = eval e X.env := by rfl) (hline : (apos.endLine == cpos.line) = true := by rfl)
    (hs : starEach [.Call (.Attribute e "items" apos) [] [] cpos] X.env = (false, eval (.Call (.Attribute e "items" apos) [] [] cpos) X.env) :: starEach [] X.env := by rfl) :
    PE X (.Call (.Name "list" p) [.Call (.Attribute e "items" apos) [] [] cpos] [] pos) (fun σ H Q => te σ H fun x H1 => rItemsR x H1 Q) := by
  refine ⟨fun pins s σ H Q I hq => ?_⟩
  refine wpAny_Call_Name_kw (ld_blt I hg hm hv ?_)
  refine PyProof.Rows.callWith_type1 ?_ hs rfl
  rw [hs]
  show wpAny _ _ (spliced ((false, eval (.Call (.Attribute e "items" apos) [] [] cpos) X.env) :: backTo pos (starEach [] X.env))) _ _ s
  refine Calls.spliced_cons ?_
  refine wpAny_Call_method (T := "dict") (id := "dict.items") hbase rfl hline PySem.F.plainAttrs_dict PySem.F.slot_dict_items PySem.F.type_dict_items (thn (he.run pins s σ H _ I hq) fun u s1 ⟨x, H1, I1, rx, d, kvs, ex, hd, q⟩ => ?_)
  subst ex
  obtain rfl : u = Value.ref d := rx
  obtain ⟨hz, hs0, vs, kv, hdo⟩ := dk_rd I1.hok hd
  obtain ⟨ep, hat⟩ := hdo.dictAt
  have lk : kvs.length = vs.length := Paired.length kv
  have I2 : Inv X pins σ H1 { s1 with heap := s1.heap.push { cls := .type "dict_items", data := .fields #[.ref d] } } := I1.kept (t' := s1.toks) fun b ob q => Heap.get?_push_of_some _ q
  refine ⟨hdo.typeIs, hdo.mapOf.noDict, ?_⟩
  show wpAny _ _ (callWith cpos (.builtin "dict.items") [.ref d] [] []) _ X.xe s1
  refine method_meetsIn PySem.F.slot_dict_items PySem.F.entry_dict_items rfl (PySem.evalArgs_none ⟨rfl, hdo.typeIs, PySem.F.args_dict_items_1 _, _, meets_dict_items (mixKind X.prog X.w) d hs0, ⟨vs, hdo⟩, ?_⟩)
  refine Calls.spliced_nil ?_
  refine PySem.W.kdx_call (knd := mixKind X.prog X.w) (kvs := vs) (ep := ep) (I1.ok.hd hc) ⟨_, Heap.get?_push_size _ rfl, rfl, rfl⟩ (hat.push _) (by omega) fun h' tk acc c as hk hS hl hG hacc => ?_
  obtain ⟨H', k1, k2, k3, k4, k5, k6, J⟩ := items_laid (tk := tk) I2 hz kv hk hS hl hG hacc
  exact ⟨.ref _, H', J, rfl, q H' _ as k1 k2 k3 k4 k5⟩
def itmE (f : Ev → Out RV) : Ev → Out D := fun ρ => (f ρ).bind fun a ρ1 => match look ρ1 a with
  | some (.dic _) => .val .ol ρ1
  | _ => .bad
theorem de_items {f : Ev → Out RV} (hc : X.calm = true) (hm : X.mg "list" = none) (he : DR X W e f) (hg : Gl X "list" := by rfl) (hbase : attributeBase e "items" X.env (eval e X.env) = eval e X.env := by rfl) (hline : (apos.endLine == cpos.line) = true := by rfl)
    (hs : starEach [.Call (.Attribute e "items" apos) [] [] cpos] X.env = (false, eval (.Call (.Attribute e "items" apos) [] [] cpos) X.env) :: starEach [] X.env := by rfl) :
    DE X W (.Call (.Name "list" p) [.Call (.Attribute e "items" apos) [] [] cpos] [] pos) (itmE f) := by
  obtain ⟨t, pa, s⟩ := he.ex
  refine ⟨_, pe_frz (pe_itemsR hc pa hg hm (by decide +kernel) hbase hline hs), fun Fr B σ H ρ Q R k => s Fr B σ H ρ _ R (Ok.bind k fun v H1 a ρ1 st R1 r1 k => ?_)⟩
  split at k
  · rename_i kvs hx
    obtain ⟨d, vs, rfl, hd, _⟩ := (view_now r1 R1 hx).dic
    refine ⟨d, vs, rfl, hd, fun H' p ts k1 k2 k3 k4 k5 => .inr ⟨p, _, k5, True.intro, fun od => ?_⟩⟩
    have m : Mono H1 H' := fun b o e _ => k1 b o e
    have R2 : Rep X.K Fr B σ H' ρ1 := R1.keep m (fun i r o q e1 e2 => by
      obtain ⟨q', e3, ow⟩ := R1.own e1
      rw [e2] at e3; cases e3
      obtain ⟨u, hu, _⟩ := ow.there
      rw [hu, k1 _ _ hu]) (fun b hb => by
      cases e : H1 b with
      | none => exact absurd e (R1.tr b hb)
      | some o => exact k1 b o e)
    have fr := R1.fresh k2
    have st2 : Step Fr H1 H' := ⟨m, fun b hb => by
      cases e : H1 b with
      | none => exact absurd e (R1.tr b hb)
      | some o => exact k1 b o e⟩
    exact k _ _ (st2.trans (Step.other fr.1 k5 fun z => z)) (R2.other fr k5 fun z => z) (.ol (.inl ⟨od, upd_same⟩))
  · exact k.elim
end
end
end DL
set_option Elab.async false
set_option linter.all false
set_option maxRecDepth 100000
set_option maxHeartbeats 2000000
namespace DL
open PySem PySem.Spec L2
def nsOfY (g : Addr → Option Obj) (a : Addr) : List Addr := match g a with
  | some ⟨_, _, .cls cd, _⟩ => [cd.ns]
  | _ => []
def rfsY (g : Addr → Option Obj) (a : Addr) : List Addr := match g a with
  | some o => He.refsD o
  | none => []
/-- what the names reach: themselves, what they name, a class's methods and their code -/
def asY (g : Addr → Option Obj) (names : List Str) : List Addr :=
  let l1 := names.map (He.ga (He.frG g [mainGlobals]))
  let l3 := (l1.flatMap (nsOfY g)).flatMap (rfsY g)
  mainGlobals :: (l1 ++ (l1.flatMap (rfsY g) ++ (l3 ++ l3.flatMap (rfsY g))))
def obsY (fa : List He.Fa) (fn : List He.DefD) (tb : List (Str × List He.Dv)) (ck : List (PySem.W.Frag → Bool)) (K : PySem.W.Frag) : He.AlD := ((obsX fa fn tb K).1 && ck.all (fun c => c K), (obsX fa fn tb K).2)
def SaysY (fa : List He.Fa) (fn : List He.DefD) (tb : List (Str × List He.Dv)) (ck : List (PySem.W.Frag → Bool)) (K : PySem.W.Frag) : Prop := obsY fa fn tb ck K = He.valD fn
theorem SaysY.x {fa : List He.Fa} {fn : List He.DefD} {tb : List (Str × List He.Dv)} {ck : List (PySem.W.Frag → Bool)} {K : PySem.W.Frag} (h : SaysY fa fn tb ck K) : SaysX fa fn tb K := by
  have h1 := congrArg Prod.fst h
  have h2 := congrArg Prod.snd h
  exact Prod.ext (and_both h1).1 h2
theorem SaysY.ck {fa : List He.Fa} {fn : List He.DefD} {tb : List (Str × List He.Dv)} {ck : List (PySem.W.Frag → Bool)} {K : PySem.W.Frag} (h : SaysY fa fn tb ck K) (i : Nat) {c : PySem.W.Frag → Bool} (e : ck[i]? = some c := by rfl) : c K = true :=
  List.all_eq_true.mp (and_both (congrArg Prod.fst h)).2 c (List.mem_of_getElem? e)
def obsYG (nm : List Str) (fa : List He.Fa) (fn : List He.DefD) (tb : List (Str × List He.Dv)) (ck : List (PySem.W.Frag → Bool)) (g : Addr → Option Obj) : He.AlD := obsY fa fn tb ck (He.frG g (asY g nm))
def hookY (nm : List Str) (fa : List He.Fa) (fn : List He.DefD) (tb : List (Str × List He.Dv)) (ck : List (PySem.W.Frag → Bool)) : PySem.W.Hook where
  α := He.AlD
  obs := fun s => obsYG nm fa fn tb ck s.heap.get?
  val := fun _ => He.valD fn
  says := fun _ h => ∃ K : PySem.W.Frag, K.In h ∧ SaysY fa fn tb ck K
  of := fun _ _ e => ⟨_, He.frG_in, e⟩
  keeps := fun _ _ _ ⟨K, hK, c⟩ k => ⟨K, PySem.W.Frag.In.keeps hK k, c⟩
theorem obsYG_eq {nm : List Str} {fa : List He.Fa} {fn : List He.DefD} {tb : List (Str × List He.Dv)} {ck : List (PySem.W.Frag → Bool)} {g : Addr → Option Obj} {s : Shared} (h : ∀ a, g a = s.heap.get? a) : obsYG nm fa fn tb ck g = (hookY nm fa fn tb ck).obs s := by
  have e : g = s.heap.get? := funext h
  rw [e]; rfl
/-! ### what is asked of error classes -/
/-- C is an error class that may be raised, asked by isinstance; c: which of the classes it is one of -/
def excB (C : Str) (K : PySem.W.Frag) : Bool :=
  PySem.W.excIn K (He.ga K C) He.veBase "ValueError.__new__" && (PySem.W.keepIn K (.ref (He.ga K C)) && (decide (PySem.W.subIn K (.ref (He.ga K C)) (.type "BaseException") = some true) && (decide (PySem.W.typeIn K (.ref (He.ga K C)) = some (.type "type")) &&
  (decide (PySem.W.findIn K (.ref (He.ga K C)) "__getattribute__" = some (some (.builtin "BaseException.__getattribute__"))) && (decide (PySem.W.findIn K (.ref (He.ga K C)) "__getattr__" = some none) && (PySem.W.hasDictIn K (He.ga K C) &&
  (decide (PySem.W.findIn K (.ref (He.ga K C)) "__class__" = some (some (.builtin "object.__class__"))) && (decide (PySem.W.mroIn K (He.ga K C) (.type "object") = some true) &&
  (decide (PySem.W.kitOne K (.ref (He.ga K C)) (.type "ValueError") = some true) && eqN (PySem.W.nsIn K mainGlobals C) (He.ga K C))))))))))
where eqN (x : Option (Option Value)) (a : Addr) : Bool := decide (x = some (some (.ref a)))
/-- whether C is one of Y's -/
def isaB (C Y : Str) (b : Bool) (K : PySem.W.Frag) : Bool := decide (PySem.W.exmOne K (.ref (He.ga K C)) (.ref (He.ga K Y)) = some b) && decide (PySem.W.kitOne K (.ref (He.ga K C)) (.ref (He.ga K Y)) = some b)
def getB (K : PySem.W.Frag) : Bool := decide (PySem.W.specialIn K (.builtin "object.__class__") "__get__" = some (some (.builtin "getset_descriptor.__get__"))) && decide (PySem.W.takesIn K (.builtin "object.__class__") = some true)
theorem excB_K {C : Str} {K : PySem.W.Frag} {h : Heap} {mg : Str → Option Value} (c : excB C K = true) (X : K.In h) (G : h.Ns mainGlobals mg) : ExcK K mg C := by
  unfold excB at c
  simp only [Bool.and_eq_true, decide_eq_true_eq] at c
  obtain ⟨h1, h2, h3, h4, _, _, _, _, _, _, h5⟩ := c
  exact ⟨h1, h2, h3, h4, PySem.W.mg_of X G (of_decide_eq_true h5)⟩
theorem excB_C {C : Str} {K : PySem.W.Frag} (c : excB C K = true) (g : getB K = true) : ExcC K (He.ga K C) := by
  unfold excB at c
  unfold getB at g
  simp only [Bool.and_eq_true, decide_eq_true_eq] at c g
  obtain ⟨h1, h2, h3, h4, h5, h6, h7, h8, h9, _⟩ := c
  exact ⟨h5, h6, h3, h7, h8, g.1, g.2, h9⟩
theorem excB_V {C : Str} {K : PySem.W.Frag} (c : excB C K = true) : PySem.W.kitOne K (.ref (He.ga K C)) (.type "ValueError") = some true := by
  unfold excB at c
  simp only [Bool.and_eq_true, decide_eq_true_eq] at c
  exact c.2.2.2.2.2.2.2.2.2.1
theorem isaB_ok {C Y : Str} {b : Bool} {K : PySem.W.Frag} (c : isaB C Y b K = true) : PySem.W.exmOne K (.ref (He.ga K C)) (.ref (He.ga K Y)) = some b ∧ PySem.W.kitOne K (.ref (He.ga K C)) (.ref (He.ga K Y)) = some b := by
  unfold isaB at c
  simp only [Bool.and_eq_true, decide_eq_true_eq] at c
  exact c
end DL
namespace DL
open PySem PySem.Spec L2
/-! ### the program's error classes -/
def sbW (Y c : Str) : Option Bool := if c = "BadBook" ∨ c = "BadGoods" ∨ c = "BadRates" ∨ c = "BadPlan" ∨ c = "BadWorks" ∨ c = "Barred" ∨ c = "BadText" then some (Y == "WorkError" || Y == "ValueError" || Y == c) else none
def excL : List Str := ["BadBook", "BadGoods", "BadRates", "BadPlan", "BadWorks", "Barred", "BadText"]
theorem sbW_in {Y c : Str} {b : Bool} (h : sbW Y c = some b) : c ∈ excL ∧ b = (Y == "WorkError" || Y == "ValueError" || Y == c) := by
  unfold sbW at h
  split at h
  · rename_i q
    cases h
    refine ⟨?_, rfl⟩
    unfold excL
    simp only [List.mem_cons, List.not_mem_nil, or_false]
    exact q
  · cases h
/-- what the checks of the head say of all seven -/
structure AllX (K : PySem.W.Frag) : Prop where
  ex : ∀ c ∈ excL, excB c K = true
  ge : getB K = true
theorem sub_of {K : PySem.W.Frag} {Y : Str} (h : ∀ c ∈ excL, isaB c Y (Y == "WorkError" || Y == "ValueError" || Y == c) K = true) : SubOk K (.ref (He.ga K Y)) (sbW Y) := fun c b e => by
  obtain ⟨h1, rfl⟩ := sbW_in e
  exact (isaB_ok (h c h1)).1
theorem kit_of {K : PySem.W.Frag} {Y : Str} (A : AllX K) (h : ∀ c ∈ excL, isaB c Y (Y == "WorkError" || Y == "ValueError" || Y == c) K = true) : KitOk K (.ref (He.ga K Y)) (sbW Y) := ⟨fun c b e => by
  obtain ⟨h1, rfl⟩ := sbW_in e
  exact ⟨excB_C (A.ex c h1) A.ge, (isaB_ok (h c h1)).2⟩⟩
theorem kit_V {K : PySem.W.Frag} (A : AllX K) : KitOk K (.type "ValueError") (sbW "ValueError") := ⟨fun c b e => by
  obtain ⟨h1, rfl⟩ := sbW_in e
  refine ⟨excB_C (A.ex c h1) A.ge, ?_⟩
  rw [excB_V (A.ex c h1)]
  have : (("ValueError" : Str) == "WorkError") = false := by decide +kernel
  have : (("ValueError" : Str) == "ValueError") = true := by decide +kernel
  rw [this]
  simp⟩
theorem mem7 {p : Str → Prop} (h1 : p "BadBook") (h2 : p "BadGoods") (h3 : p "BadRates") (h4 : p "BadPlan") (h5 : p "BadWorks") (h6 : p "Barred") (h7 : p "BadText") : ∀ c ∈ excL, p c := by
  intro c hc
  unfold excL at hc
  simp only [List.mem_cons, List.not_mem_nil, or_false] at hc
  rcases hc with rfl | rfl | rfl | rfl | rfl | rfl | rfl <;> assumption
end DL
set_option Elab.async false
set_option linter.all false
set_option maxRecDepth 100000
set_option maxHeartbeats 4000000
namespace DL
open PySem PySem.Spec L2
mutual
/-- the same data, dicts in any order; at most n deep -/
def sameB : Nat → D → D → Bool
  | _, .non, .non => true
  | _, .bl a, .bl b => a == b
  | _, .int a, .int b => decide (a = b)
  | _, .str a, .str b => decide (a = b)
  | n + 1, .tup xs, .tup ys => sameL n xs ys
  | n + 1, .lst xs, .lst ys => sameL n xs ys
  | n + 1, .dic ks, .dic ls => decide (ks.length = ls.length) && sameK n ks ls
  | _, _, _ => false
def sameL : Nat → List D → List D → Bool
  | _, [], [] => true
  | n, x :: xs, y :: ys => sameB n x y && sameL n xs ys
  | _, _, _ => false
def sameK : Nat → List (Key × D) → List (Key × D) → Bool
  | _, [], _ => true
  | n, p :: ks, ls => (match valD ls p.1 with
    | some u => sameB n p.2 u
    | none => false) && sameK n ks ls
end
theorem sameL_at : ∀ {n : Nat} {xs ys : List D}, sameL n xs ys = true → xs.length = ys.length ∧ ∀ (j : Nat) (a b : D), xs[j]? = some a → ys[j]? = some b → sameB n a b = true
  | n, [], [], _ => ⟨rfl, fun j a b h => by simp at h⟩
  | n, [], _ :: _, h => by unfold sameL at h; cases h
  | n, _ :: _, [], h => by unfold sameL at h; cases h
  | n, x :: xs, y :: ys, h => by
    unfold sameL at h
    rw [Bool.and_eq_true] at h
    obtain ⟨h1, h2⟩ := sameL_at h.2
    refine ⟨by rw [List.length_cons, List.length_cons, h1], fun j a b ha hb => ?_⟩
    cases j with
    | zero => simp at ha hb; subst ha hb; exact h.1
    | succ j => exact h2 j a b (by simpa using ha) (by simpa using hb)
theorem sameK_at : ∀ {n : Nat} {ks ls : List (Key × D)}, sameK n ks ls = true → ∀ p ∈ ks, ∃ u, valD ls p.1 = some u ∧ sameB n p.2 u = true
  | n, [], ls, _, p, hp => by cases hp
  | n, q :: ks, ls, h, p, hp => by
    unfold sameK at h
    rw [Bool.and_eq_true] at h
    rcases List.mem_cons.mp hp with rfl | hp
    · have h1 := h.1
      cases e : valD ls p.1 with
      | none => rw [e] at h1; cases h1
      | some u => rw [e] at h1; exact ⟨u, rfl, h1⟩
    · exact sameK_at h.2 p hp
section
variable {X : Cx} {W : WX} {pins : List (Addr × Obj)} {σ : St} {H : Hp} {s : Shared}
theorem leaf_same {v y : Value} {n : Nat} (h : v = y ∨ (∃ i t t', v = .int i t ∧ y = .int i t') ∨ ∃ z t t', v = .str z t ∧ y = .str z t') : PySem.W.EqTree X.prog X.w s n v y true := by
  rcases h with rfl | ⟨i, t, t', rfl, rfl⟩ | ⟨z, t, t', rfl, rfl⟩
  · exact .same
  · refine .leaf fun A _ => ?_
    have := eqAt_V (A := A) (s := s) (y := V.int i) (x := V.int i) (u := .int i t) (v := .int i t') ⟨t, rfl⟩ ⟨t', rfl⟩ rfl rfl
    have e : eqV (V.int i) (V.int i) = true := by show (i == i) = true; exact beq_self_eq_true i
    rw [e] at this; exact this
  · refine .leaf fun A _ => ?_
    have := eqAt_V (A := A) (s := s) (y := V.str z) (x := V.str z) (u := .str z t) (v := .str z t') ⟨t, rfl⟩ ⟨t', rfl⟩ rfl rfl
    have e : eqV (V.str z) (V.str z) = true := by show (z == z) = true; exact beq_self_eq_true z
    rw [e] at this; exact this
theorem all_true (n : Nat) : (List.range n).all (fun _ => true) = true := by rw [List.all_eq_true]; exact fun _ _ => rfl
theorem DatK.at_ : ∀ {vs : List (Key × V)} {ds : List (Key × D)}, DatK X.K H vs ds → ∀ {k : Key} {v : V}, (k, v) ∈ vs → ∃ d, (k, d) ∈ ds ∧ Dat X.K H v d
  | _, _, .nil, _, _, h => by cases h
  | _, _, .cons hd r, k, v, h => by
    rcases List.mem_cons.mp h with e | h
    · cases e; exact ⟨_, .head _, hd⟩
    · obtain ⟨d, h1, h2⟩ := DatK.at_ r h; exact ⟨d, .tail _ h1, h2⟩
theorem KV.at_ {kvs : List (Key × V)} {vs : List (Key × Value)} (r : KV kvs vs) : ∀ {k : Key} {u : Value}, (k, u) ∈ vs → ∃ v, (k, v) ∈ kvs ∧ RelV v u := by
  intro k u h
  unfold KV at r
  induction r with
  | nil => cases h
  | @cons p q ps qs hd _ ih =>
    rcases List.mem_cons.mp h with e | h
    · obtain ⟨h1, h2⟩ := hd
      subst e
      have h1 : p.1 = k := h1
      exact ⟨p.2, by subst h1; exact .head _, h2⟩
    · obtain ⟨d, h1, h2⟩ := ih h; exact ⟨d, .tail _ h1, h2⟩
theorem seq_ok {n : Nat} {xs ys : List D} {vs ws : List V} {us zs : List Value} (ih : ∀ (a b : D) (x y : V) (u v : Value), sameB n a b = true → Dat X.K H x a → Dat X.K H y b → RelV x u → RelV y v → PySem.W.EqTree X.prog X.w s n u v true)
    (e : sameL n xs ys = true) (r : DatL X.K H vs xs) (r' : DatL X.K H ws ys) (q : Vals vs us) (q' : Vals ws zs) : us.toArray.size = zs.toArray.size ∧ ∀ j (h1 : j < us.toArray.size) (h2 : j < zs.toArray.size), PySem.W.EqTree X.prog X.w s n us.toArray[j] zs.toArray[j] true := by
  obtain ⟨hl, ha⟩ := sameL_at e
  have l1 := r.length
  have l2 := r'.length
  have l3 := q.length
  have l4 := q'.length
  refine ⟨by simp only [List.size_toArray]; omega, fun j h1 h2 => ?_⟩
  have h1' : j < us.length := by simpa using h1
  have h2' : j < zs.length := by simpa using h2
  have hx : xs[j]? = some xs[j] := List.getElem?_eq_getElem (by omega)
  have hy : ys[j]? = some ys[j] := List.getElem?_eq_getElem (by omega)
  obtain ⟨v, g1, g2⟩ := r.get hx
  obtain ⟨w, g3, g4⟩ := r'.get hy
  obtain ⟨u, g5, g6⟩ := q.get g1
  obtain ⟨z, g7, g8⟩ := q'.get g3
  have e1 : us.toArray[j] = u := by
    obtain ⟨_, h⟩ := List.getElem?_eq_some_iff.mp g5
    simpa using h
  have e2 : zs.toArray[j] = z := by
    obtain ⟨_, h⟩ := List.getElem?_eq_some_iff.mp g7
    simpa using h
  rw [e1, e2]
  exact ih _ _ v w u z (ha j _ _ hx hy) g2 g4 g6 g8
theorem tree_of (I : Inv X pins σ H s) : ∀ (n : Nat) (a b : D) (x y : V) (u v : Value), sameB n a b = true → View X.K H x a → View X.K H y b → RelV x u → RelV y v → PySem.W.EqTree X.prog X.w s n u v true := by
  intro n
  induction n with
  | zero =>
    intro a b x y u v e hx hy ru rv
    cases a <;> cases b <;> first
      | (unfold sameB at e; cases e; done)
      | skip
    · rw [hx.non] at ru; rw [hy.non] at rv; exact leaf_same (.inl (ru.trans rv.symm))
    · unfold sameB at e; have e := eq_of_beq e; subst e; rw [hx.bl] at ru; rw [hy.bl] at rv; exact leaf_same (.inl (ru.trans rv.symm))
    · unfold sameB at e; have e := of_decide_eq_true e; subst e; rw [hx.int] at ru; rw [hy.int] at rv
      obtain ⟨t, rfl⟩ := ru; obtain ⟨t', rfl⟩ := rv; exact leaf_same (.inr (.inl ⟨_, _, _, rfl, rfl⟩))
    · unfold sameB at e; have e := of_decide_eq_true e; subst e; rw [hx.str] at ru; rw [hy.str] at rv
      obtain ⟨t, rfl⟩ := ru; obtain ⟨t', rfl⟩ := rv; exact leaf_same (.inr (.inr ⟨_, _, _, rfl, rfl⟩))
  | succ n ih =>
    intro a b x y u v e hx hy ru rv
    have ihD : ∀ (a b : D) (x y : V) (u v : Value), sameB n a b = true → Dat X.K H x a → Dat X.K H y b → RelV x u → RelV y v → PySem.W.EqTree X.prog X.w s n u v true := fun a b x y u v e hx hy => ih a b x y u v e (.dat hx) (.dat hy)
    cases a <;> cases b <;> first
      | (unfold sameB at e; cases e; done)
      | skip
    · rw [hx.non] at ru; rw [hy.non] at rv; exact leaf_same (.inl (ru.trans rv.symm))
    · unfold sameB at e; have e := eq_of_beq e; subst e; rw [hx.bl] at ru; rw [hy.bl] at rv; exact leaf_same (.inl (ru.trans rv.symm))
    · unfold sameB at e; have e := of_decide_eq_true e; subst e; rw [hx.int] at ru; rw [hy.int] at rv
      obtain ⟨t, rfl⟩ := ru; obtain ⟨t', rfl⟩ := rv; exact leaf_same (.inr (.inl ⟨_, _, _, rfl, rfl⟩))
    · unfold sameB at e; have e := of_decide_eq_true e; subst e; rw [hx.str] at ru; rw [hy.str] at rv
      obtain ⟨t, rfl⟩ := ru; obtain ⟨t', rfl⟩ := rv; exact leaf_same (.inr (.inr ⟨_, _, _, rfl, rfl⟩))
    · rename_i xs ys
      have e : sameL n xs ys = true := by unfold sameB at e; exact e
      obtain ⟨p, vs, rfl, h1, r1⟩ := hx.tup
      obtain ⟨q, ws, rfl, h2, r2⟩ := hy.tup
      obtain rfl : u = .ref p := ru
      obtain rfl : v = .ref q := rv
      by_cases hpq : p = q
      · subst hpq; exact .same
      · obtain ⟨us, w1, p1, _⟩ := I.tuple h1.sq
        obtain ⟨zs, w2, p2, _⟩ := I.tuple h2.sq
        obtain ⟨k1, k2⟩ := seq_ok ihD e r1 r2 w1 w2
        have t := PySem.W.EqTree.tuples (e := fun _ => true) hpq (show s.heap.IsTuple p us.toArray from p1) (show s.heap.IsTuple q zs.toArray from p2) k2
        rw [all_true, k1, beq_self_eq_true] at t
        exact t
    · rename_i xs ys
      have e : sameL n xs ys = true := by unfold sameB at e; exact e
      obtain ⟨p, vs, rfl, h1, r1⟩ := hx.lst
      obtain ⟨q, ws, rfl, h2, r2⟩ := hy.lst
      obtain rfl : u = .ref p := ru
      obtain rfl : v = .ref q := rv
      by_cases hpq : p = q
      · subst hpq; exact .same
      · obtain ⟨us, w1, p1, _⟩ := I.list h1
        obtain ⟨zs, w2, p2, _⟩ := I.list h2
        obtain ⟨k1, k2⟩ := seq_ok ihD e r1 r2 w1 w2
        have t := PySem.W.EqTree.lists (e := fun _ => true) hpq p1.isList p2.isList k1 k2
        rw [all_true] at t
        exact t
    · rename_i ks ls
      unfold sameB at e
      rw [Bool.and_eq_true, decide_eq_true_eq] at e
      obtain ⟨p, vs, rfl, h1, r1⟩ := hx.dic
      obtain ⟨q, ws, rfl, h2, r2⟩ := hy.dic
      obtain rfl : u = .ref p := ru
      obtain rfl : v = .ref q := rv
      by_cases hpq : p = q
      · subst hpq; exact .same
      · obtain ⟨_, m1, us, w1, d1⟩ := dk_rd I.hok h1
        obtain ⟨_, m2, zs, w2, d2⟩ := dk_rd I.hok h2
        have l1 := r1.length
        have l2 := r2.length
        have l3 := w1.length
        have l4 := w2.length
        have look : ∀ k w', (k, w') ∈ us → ∃ y, valueAt zs k = some y ∧ PySem.W.EqTree X.prog X.w s n w' y true := fun k w' hm => by
          obtain ⟨v1, g1, g2⟩ := KV.at_ w1 hm
          obtain ⟨d, g3, g4⟩ := DatK.at_ r1 g1
          obtain ⟨u', g5, g6⟩ := sameK_at e.2 _ g3
          obtain ⟨v2, g7, g8⟩ := (r2.val (k := k)).1 u' g5
          have ro := KV.val w2 k
          rw [g7] at ro
          cases hz : valueAt zs k with
          | none => rw [hz] at ro; exact ro.elim
          | some y => rw [hz] at ro; exact ⟨y, rfl, ihD d u' v1 v2 w' y g6 g4 g8 g2 ro⟩
        have t := PySem.W.EqTree.dicts (e := fun _ => true) (n := n) hpq m1 m2 d1 d2 (fun k w' y hm hy => by
          obtain ⟨y', g1, g2⟩ := look k w' hm
          rw [hy] at g1; cases g1; exact g2)
        have e1 : (us.length == zs.length && us.all fun p => (valueAt zs p.1).isSome && true) = true := by
          rw [Bool.and_eq_true, List.all_eq_true]
          refine ⟨by rw [beq_iff_eq]; omega, fun p hp => ?_⟩
          obtain ⟨y', g1, _⟩ := look p.1 p.2 hp
          rw [g1]; rfl
        rw [e1] at t
        exact t

/-! ### the comparisons -/
theorem tuple_ne_same {prog : Program} {w : World} (l b : Addr) (xs ys : Array Value) (n m : Nat) (dd dd2 : Option Addr) (sl sl2 : Array (Option Value)) (hsz : xs.size = ys.size) :
    PySem.MeetsIn prog w (Builtin.«tuple.__ne__» ⟨[.ref l, .ref b], []⟩)
      (fun A R s => s.heap.get? l = some { cls := .type "tuple", dict := dd, data := .seq xs n, slots := sl } ∧ s.heap.get? b = some { cls := .type "tuple", dict := dd2, data := .seq ys m, slots := sl2 } ∧
        (∀ p ∈ xs.toList.zip ys.toList, SeqAt.EqIn prog w A.in1 s p.1 p.2 true) ∧ R (.ok (.ret (.bool false))) s) :=
  .of_wp fun A R s h => by
    obtain ⟨hp, g, d, tk, os⟩ := s
    obtain ⟨hl, hb, he, h⟩ := h
    have sub := AutoSeq1.sub_tuple_tuple
    wp_walk using AutoSeq1.wpAny_loadPart' hl, AutoSeq1.wpAny_loadPart' hb, wpAny_forIn_list _ (fun rest z s' => z.1 = none ∧ s' = ⟨hp, g, d, tk, os⟩ ∧ ∀ p ∈ rest, SeqAt.EqIn prog w A.in1 ⟨hp, g, d, tk, os⟩ p.1 p.2 true) _
    case turn =>
      rintro ⟨y, x⟩ rest z s' ⟨hz, rfl, hr⟩
      refine wpAny_bind (hr (y, x) (.head _) _ _ ?_)
      wp_walk
      exact ⟨rfl, rfl, fun p hp => hr p (.tail _ hp)⟩
    case fin =>
      rintro ⟨z1, z2⟩ s' ⟨hz, rfl, _⟩
      simp only at hz
      subst hz
      wp_walk
      exact ⟨_, rfl, by simpa [Builtin.Tuple.tupleCompareSizes, hsz] using h⟩
    case h => exact ⟨rfl, rfl, he⟩

theorem hits_of {prog : Program} {w : World} {A : Around} {s : Shared} {kb : List (Key × Value)} : ∀ (r : List (Key × Value)), (∀ k v, (k, v) ∈ r → ∃ y, valueAt kb k = some y ∧ SeqAt.EqIn prog w A s v y true) → PySem.W.KeqHitsIn prog w A s kb r true
  | [], _ => .nil
  | (k, v) :: r, h => by
    obtain ⟨y, h1, h2⟩ := h k v (.head _)
    exact .hit (e := true) (b := true) h1 h2 (hits_of r fun k v hm => h k v (.tail _ hm))
theorem dict_ne_same {prog : Program} {w : World} {A : Around} {E : Value → Shared → Prop} {s : Shared} {a b : Addr} {ka kb : List (Key × Value)} {Q : Value → Shared → Prop} (ha : (a == sysModules) = false) (hb : (b == sysModules) = false)
    (da : s.heap.DictOf (mixKind prog w) a ka) (db : s.heap.DictOf (mixKind prog w) b kb) (hu : A.units < cLine) (hl : ka.length = kb.length) (hits : PySem.W.KeqHitsIn prog w A.in1 s kb ka true) (h : Q (.bool false) s) :
    wpAny (model prog w) A (compareOp .NotEq (.ref a) (.ref b)) Q E s := by
  refine wpAny_richCompare_same_room (op := .NotEq) da.typeIs db.typeIs PySem.F.slot_dict_ne (wpAny_call_entry PySem.F.slot_dict_ne da.typeIs PySem.F.entry_dict_ne ?_ (PySem.F.args_dict_ne_2 _ _)) hu
  show wpAny _ _ (Builtin.Dict.dictSlotArgs "__ne__" ⟨[.ref a, .ref b], []⟩ >>= _) _ _ s
  refine wpAny_bind ?_
  unfold Builtin.Dict.dictSlotArgs
  refine wpAny_bind (wpAny_notOrdered_dict da.typeIs ?_)
  show wpAny _ _ (pure (Value.ref a, Value.ref b)) _ _ s
  refine wpAny_pure (wpAny_bind (wpAny_isInstance (T := "dict") db.typeIs PySem.F.sub_dict_dict ?_))
  simp only [Bool.not_true, Bool.false_eq_true, if_false]
  refine wpAny_bind (wpAny_pure (wpAny_bind (wpAny_pure (wpAny_bind (PySem.W.keq_samePairsIn ha hb da db (fun _ => hits) ?_)))))
  have e : (ka.length == kb.length && true) = true := by rw [hl, beq_self_eq_true]; rfl
  rw [e]
  exact wpAny_pure ⟨_, rfl, show Value.bool false ≠ Value.notImplemented ∧ Q (.bool false) s from ⟨(fun x => nomatch x), h⟩⟩
def isNest : D → Bool
  | .tup _ => true
  | .dic _ => true
  | _ => false
def rSame (K : PySem.W.Frag) (k : Bool) : R2 := fun x y H Q => ∃ a b : D, isNest a = true ∧ View K H x a ∧ View K H y b ∧ sameB 9 a b = true ∧ Q (.bl k) H
theorem dict_pre {n : Nat} {ks ls : List (Key × D)} {x y : V} {u v : Value} (I : Inv X pins σ H s) (e : sameB (n + 1) (.dic ks) (.dic ls) = true) (hx : View X.K H x (.dic ks)) (hy : View X.K H y (.dic ls)) (ru : RelV x u) (rv : RelV y v) :
    ∃ p q us zs, u = .ref p ∧ v = .ref q ∧ (p == sysModules) = false ∧ (q == sysModules) = false ∧ s.heap.DictOf (mixKind X.prog X.w) p us ∧ s.heap.DictOf (mixKind X.prog X.w) q zs ∧ us.length = zs.length ∧ ∀ k w', (k, w') ∈ us → ∃ y, valueAt zs k = some y ∧ PySem.W.EqTree X.prog X.w s n w' y true := by
  unfold sameB at e
  rw [Bool.and_eq_true, decide_eq_true_eq] at e
  obtain ⟨p, vs, rfl, h1, r1⟩ := hx.dic
  obtain ⟨q, ws, rfl, h2, r2⟩ := hy.dic
  obtain ⟨_, m1, us, w1, d1⟩ := dk_rd I.hok h1
  obtain ⟨_, m2, zs, w2, d2⟩ := dk_rd I.hok h2
  have l1 := r1.length
  have l2 := r2.length
  have l3 := w1.length
  have l4 := w2.length
  refine ⟨p, q, us, zs, ru, rv, m1, m2, d1, d2, by omega, fun k w' hm => ?_⟩
  obtain ⟨v1, g1, g2⟩ := KV.at_ w1 hm
  obtain ⟨d, g3, g4⟩ := DatK.at_ r1 g1
  obtain ⟨u', g5, g6⟩ := sameK_at e.2 _ g3
  obtain ⟨v2, g7, g8⟩ := (r2.val (k := k)).1 u' g5
  have ro := KV.val w2 k
  rw [g7] at ro
  cases hz : valueAt zs k with
  | none => rw [hz] at ro; exact ro.elim
  | some y => rw [hz] at ro; exact ⟨y, rfl, tree_of I n d u' v1 v2 w' y g6 (.dat g4) (.dat g8) g2 ro⟩
theorem tup_pre {n : Nat} {xs ys : List D} {x y : V} {u v : Value} (I : Inv X pins σ H s) (e : sameB (n + 1) (.tup xs) (.tup ys) = true) (hx : View X.K H x (.tup xs)) (hy : View X.K H y (.tup ys)) (ru : RelV x u) (rv : RelV y v) :
    ∃ p q us zs, u = .ref p ∧ v = .ref q ∧ s.heap.IsTuple p us ∧ s.heap.IsTuple q zs ∧ us.size = zs.size ∧ ∀ j (h1 : j < us.size) (h2 : j < zs.size), PySem.W.EqTree X.prog X.w s n us[j] zs[j] true := by
  have e : sameL n xs ys = true := by unfold sameB at e; exact e
  obtain ⟨p, vs, rfl, h1, r1⟩ := hx.tup
  obtain ⟨q, ws, rfl, h2, r2⟩ := hy.tup
  obtain ⟨us, w1, p1, _⟩ := I.tuple h1.sq
  obtain ⟨zs, w2, p2, _⟩ := I.tuple h2.sq
  obtain ⟨k1, k2⟩ := seq_ok (fun a b x y u v e hx hy => tree_of I n a b x y u v e (.dat hx) (.dat hy)) e r1 r2 w1 w2
  exact ⟨p, q, us.toArray, zs.toArray, ru, rv, p1, p2, k1, k2⟩
theorem op_eqN (hu : X.A.units + 65 < cLine) : OpR X (compareOp .Eq) (rSame X.K true) := by
  intro pins s σ H x y v u Q I rx ry h
  obtain ⟨a, b, hn, hx, hy, e, q⟩ := h
  cases a <;> first | (cases hn; done) | skip
  · cases b <;> first | (unfold sameB at e; cases e; done) | skip
    obtain ⟨p, r, us, zs, rfl, rfl, p1, p2, k1, k2⟩ := tup_pre I e hx hy rx ry
    have := PySem.W.eq_tuplesT (prog := X.prog) (w := X.w) (A := X.A) (E := X.xe) (e := fun _ => true) (Q := EP X pins σ Q) p1 p2 k2 (by omega) (by
      rw [all_true, k1, beq_self_eq_true]
      exact ⟨.bl true, H, I, rfl, q⟩)
    exact this
  · cases b <;> first | (unfold sameB at e; cases e; done) | skip
    obtain ⟨p, r, us, zs, rfl, rfl, m1, m2, d1, d2, hl, look⟩ := dict_pre I e hx hy rx ry
    refine PySem.W.eq_dictsT (e := fun _ => true) (n := 8) m1 m2 d1 d2 (fun k w' y hm hy => ?_) (by omega) ?_
    · obtain ⟨y', g1, g2⟩ := look k w' hm
      rw [hy] at g1; cases g1; exact g2
    · have e1 : (us.length == zs.length && us.all fun p => (valueAt zs p.1).isSome && true) = true := by
        rw [Bool.and_eq_true, List.all_eq_true]
        refine ⟨by rw [beq_iff_eq]; omega, fun p hp => ?_⟩
        obtain ⟨y', g1, _⟩ := look p.1 p.2 hp
        rw [g1]; rfl
      rw [e1]
      exact ⟨.bl true, H, I, rfl, q⟩
theorem op_neN (hu : X.A.units + 65 < cLine) : OpR X (compareOp .NotEq) (rSame X.K false) := by
  intro pins s σ H x y v u Q I rx ry h
  obtain ⟨a, b, hn, hx, hy, e, q⟩ := h
  cases a <;> first | (cases hn; done) | skip
  · cases b <;> first | (unfold sameB at e; cases e; done) | skip
    obtain ⟨p, r, us, zs, rfl, rfl, p1, p2, k1, k2⟩ := tup_pre I e hx hy rx ry
    obtain ⟨⟨c1, d1, t1, s1⟩, ho1, hc1, n1, hd1⟩ := id p1
    obtain ⟨⟨c2, d2, t2, s2⟩, ho2, hc2, n2, hd2⟩ := id p2
    simp only at hc1 hd1 hc2 hd2
    subst hc1 hd1 hc2 hd2
    refine wpAny_richCompare_same_room (T := "tuple") (op := .NotEq) ⟨_, ho1, rfl⟩ ⟨_, ho2, rfl⟩ PySem.F.slot_tuple_ne (call_meetsIn PySem.F.slot_tuple_ne ⟨_, ho1, rfl⟩ PySem.F.entry_tuple_ne (PySem.F.args_tuple_ne_2 _ _) (tuple_ne_same p r us zs n1 n2 d1 d2 s1 s2 k1)
      ⟨ho1, ho2, ?zs, show Value.bool false ≠ Value.notImplemented ∧ EP X pins σ Q (.bool false) s from ⟨(fun x => nomatch x), .bl false, H, I, rfl, q⟩⟩) (by omega)
    intro z hz
    obtain ⟨j, hj⟩ := List.mem_iff_getElem?.mp hz
    rw [List.getElem?_zip_eq_some] at hj
    obtain ⟨h1, h2⟩ := hj
    obtain ⟨b1, e1⟩ := List.getElem?_eq_some_iff.mp h1
    obtain ⟨b2, e2⟩ := List.getElem?_eq_some_iff.mp h2
    have := (k2 j (by simpa using b1) (by simpa using b2)).at X.A.in1 (by show X.A.units + 1 + 8 < cLine; omega)
    have f1 : us[j]'(by simpa using b1) = z.1 := by simpa using e1
    have f2 : zs[j]'(by simpa using b2) = z.2 := by simpa using e2
    rw [f1, f2] at this
    exact this
  · cases b <;> first | (unfold sameB at e; cases e; done) | skip
    obtain ⟨p, r, us, zs, rfl, rfl, m1, m2, d1, d2, hl, look⟩ := dict_pre I e hx hy rx ry
    exact dict_ne_same m1 m2 d1 d2 (by omega) hl (hits_of us fun k w' hm => by
      obtain ⟨y', g1, g2⟩ := look k w' hm
      exact ⟨y', g1, g2.at X.A.in1 (by show X.A.units + 1 + 8 < cLine; omega)⟩) ⟨.bl false, H, I, rfl, q⟩
def eqN : D → D → Option D := fun a b => if isNest a = true ∧ sameB 9 a b = true then some (.bl true) else none
def eqA : D → D → Option D := orO eqO eqN
def neA : D → D → Option D := orO neO (notO eqN)
variable {K : PySem.W.Frag}
theorem ok_eqN : BinOk K (rSame K true) eqN := ⟨fun {Fr B σ H ρ x y a b d Q} R va vb e k => by
  unfold eqN at e
  split at e
  · rename_i h; cases e; exact ⟨a, b, h.1, va, vb, h.2, k _ H Step.refl R .bl⟩
  · cases e⟩
theorem ok_neN : BinOk K (rSame K false) (notO eqN) := ⟨fun {Fr B σ H ρ x y a b d Q} R va vb e k => by
  obtain ⟨c, e9, rfl⟩ := notO_inv e
  unfold eqN at e9
  split at e9
  · rename_i h; cases e9; exact ⟨a, b, h.1, va, vb, h.2, k _ H Step.refl R .bl⟩
  · cases e9⟩
section
variable {a b : Expr} {f g : Ev → Out RV} {pos : Pos}
theorem de_eqA (hu : X.A.units + 65 < cLine) (ha : DR X W a f) (hb : DR X W b g) : DE X W (.Compare a [.Eq] [b] pos) (binF eqA f g) := DE.cmp (OpR.or (OpR.or op_eq (op_eqD (Nat.lt_of_succ_lt hu))) (op_eqN hu)) ((ok_eqS.or ok_eqP).or ok_eqN) ha hb (nomark b)
theorem de_neA (hu : X.A.units + 65 < cLine) (ha : DR X W a f) (hb : DR X W b g) : DE X W (.Compare a [.NotEq] [b] pos) (binF neA f g) := DE.cmp (OpR.or (OpR.or op_ne (op_neD (Nat.lt_of_succ_lt hu))) (op_neN hu)) ((ok_neS.or ok_neP).or ok_neN) ha hb (nomark b)
theorem dt_eqA (hu : X.A.units + 65 < cLine) (ha : DR X W a f) (hb : DR X W b g) : DT X W (.Compare a [.Eq] [b] pos) (tstF (binF eqA f g)) := DT.cmp (OpR.or (OpR.or op_eq (op_eqD (Nat.lt_of_succ_lt hu))) (op_eqN hu)) ((ok_eqS.or ok_eqP).or ok_eqN) ha hb (nomark b)
theorem dt_neA (hu : X.A.units + 65 < cLine) (ha : DR X W a f) (hb : DR X W b g) : DT X W (.Compare a [.NotEq] [b] pos) (tstF (binF neA f g)) := DT.cmp (OpR.or (OpR.or op_ne (op_neD (Nat.lt_of_succ_lt hu))) (op_neN hu)) ((ok_neS.or ok_neP).or ok_neN) ha hb (nomark b)
end
end
end DL
set_option Elab.async false
set_option linter.all false
set_option maxRecDepth 100000
set_option maxHeartbeats 4000000
namespace DL
open PySem PySem.Spec L2
def okIs : Option Key → Value → Bool
  | none, .none => true
  | none, _ => false
  | some k, v => keyIs k v
def okLeaf : Option Key → Leaf
  | none => .none
  | some (.inl i) => .num i
  | some (.inr x) => .text x
def okV : Option Key → V
  | none => .non
  | some k => kV k
theorem okIs_leaf : ∀ {k : Option Key} {v : Value}, okIs k v = true → Leaf.isOf (okLeaf k) v = true
  | none, v, h => by cases v <;> first | rfl | exact absurd h Bool.false_ne_true
  | some (.inl i), v, h => by
    rcases keyIs_shape (k := .inl i) (v := v) h with ⟨j, t, e, rfl⟩ | ⟨x, t, e, rfl⟩
    · cases e; exact decide_eq_true rfl
    · cases e
  | some (.inr x), v, h => h
theorem okLeaf_inj : ∀ {a b : Option Key}, okLeaf a = okLeaf b → a = b
  | none, none, _ => rfl
  | none, some (.inl _), e => nomatch e
  | none, some (.inr _), e => nomatch e
  | some (.inl _), none, e => nomatch e
  | some (.inr _), none, e => nomatch e
  | some (.inl _), some (.inl _), e => by cases e; rfl
  | some (.inr _), some (.inr _), e => by cases e; rfl
  | some (.inl _), some (.inr _), e => nomatch e
  | some (.inr _), some (.inl _), e => nomatch e
theorem okIs_val : ∀ {k : Option Key} {v : Value}, okIs k v = true → RelV (okV k) v
  | none, v, h => by cases v <;> first | rfl | exact absurd h Bool.false_ne_true
  | some k, v, h => relV_key h
def optKind (prog : Program) (w : World) : PySem.KeyKind prog w (Option Key) where
  is := okIs
  hash := fun k => (leafKind prog w).hash (okLeaf k)
  inj := fun v a b ha hb => okLeaf_inj ((leafKind prog w).inj v _ _ (okIs_leaf ha) (okIs_leaf hb))
  byValue := fun k v h => (leafKind prog w).byValue _ _ (okIs_leaf h)
  pyHash := fun hv h => (leafKind prog w).pyHash (okIs_leaf hv) h
  eqBool := fun {A E s a b u v Q} hu hv h => (leafKind prog w).eqBool (okIs_leaf hu) (okIs_leaf hv) (by
    have e : decide (okLeaf a = okLeaf b) = decide (a = b) := decide_eq_decide.mpr ⟨okLeaf_inj, fun z => by rw [z]⟩
    rw [e]; exact h)
  «strs» := fun k x t v h => by
    cases k with
    | none => exact absurd h Bool.false_ne_true
    | some k => exact (mixKind prog w).strs k x t v h
theorem opt_hash {prog : Program} {w : World} (k : Key) : (mixKind prog w).hash k = (optKind prog w).hash (some k) := by
  cases k with
  | inl i => show hashInt i = NestedKey.hash w (.num i); simp [NestedKey.hash]
  | inr x => show hashStr w x = NestedKey.hash w (.text x); simp [NestedKey.hash]
theorem pairs_opt {prog : Program} {w : World} {es : List DictEntry} {vs : List (Key × Value)} (h : Pairs (mixKind prog w) es vs) : Pairs (optKind prog w) es (vs.map fun p => (some p.1, p.2)) := by
  induction h with
  | nil => exact .nil
  | cons h1 h2 _ ih => exact .cons h1 h2 ih
theorem dict_opt {prog : Program} {w : World} {h : Heap} {a : Addr} {vs : List (Key × Value)} (d : h.DictOf (mixKind prog w) a vs) : h.DictOf (optKind prog w) a (vs.map fun p => (some p.1, p.2)) := by
  obtain ⟨o, es, ep, ho, hc, hd, hk, hp, nd⟩ := d
  refine ⟨o, es, ep, ho, hc, hd, fun e he => ?_, pairs_opt hp, ?_⟩
  · obtain ⟨k, k1, k2⟩ := hk e he
    exact ⟨some k, k1, k2.trans (opt_hash k)⟩
  · rw [List.map_map]
    have e : ((fun p : Option Key × Value => p.1) ∘ fun p : Key × Value => (some p.1, p.2)) = some ∘ fun p : Key × Value => p.1 := rfl
    rw [e, ← List.map_map]
    exact nd.map some fun x y n z => n (Option.some.inj z)
theorem keys_opt {prog : Program} {w : World} {es : List DictEntry} {vs : List (Option Key × Value)} (h : Pairs (optKind prog w) es vs) : Vals (vs.map fun p => okV p.1) (es.map (·.key)) := by
  induction h with
  | nil => exact .nil
  | cons h1 h2 _ ih => exact .cons (okIs_val h1) ih
theorem fix_new {P : Program} {w : World} {H : Hp} {h : Heap} {a : Addr} {o : Obj} (e : h.get? a = some o) : ObjOk P w H h a (FixA a o) := ⟨e, ⟨o, e⟩, fun h1 h2 p k => k _ p⟩
theorem kv_keys {kvs : List (Key × V)} {vs : List (Key × Value)} (rel : KV kvs vs) : (kvs.map fun q => kV q.1) = vs.map ((fun p : Option Key × Value => okV p.1) ∘ fun p : Key × Value => (some p.1, p.2)) := by
  induction rel with
  | nil => rfl
  | cons x _ ih => rw [List.map_cons, List.map_cons, ih, x.1]; rfl
section
variable {X : Cx} {W : WX} {K : PySem.W.Frag} {Fr : Addr → Prop} {B : List (Nat × Addr)} {σ : St} {H : Hp} {ρ : Ev} {pins : List (Addr × Obj)} {s : Shared}
/-- d[None] = v -/
theorem odd_put {A : Around} {E : Value → Shared → Prop} {Q : Unit → Shared → Prop} {a : Addr} {kvs : List (Key × V)} {r : Value} (I : Inv X pins σ H s) (e : H a = some (.dK kvs)) (l : kvs.length < sizeLine)
    (h : ∀ s' o es ep, Inv X pins σ (upd H a (FixA a o)) s' → o.ExactDict → o.data = .dict es ep → (a == sysModules) = false → es.size ≤ sizeLine → Vals ((kvs.map fun q => kV q.1) ++ [.non]) (es.toList.map (·.key)) → Q () s') :
    wpAny (model X.prog X.w) A (setItem (.ref a) .none r) Q E s := by
  obtain ⟨z, hd, vs, rel, dd⟩ := dk_of I.hok e
  have hl : kvs.length = vs.length := rel.length
  refine wpAny_setItem_pairs (knd := optKind X.prog X.w) (k := none) (kvs := vs.map fun p => (some p.1, p.2)) (hsz := by rw [List.length_map]; omega) rfl (dict_opt dd) fun h' dd' hs => ?_
  have st : stored (vs.map fun p : Key × Value => (some p.1, p.2)) none r = (vs.map fun p => (some p.1, p.2)) ++ [(none, r)] := by
    unfold stored
    rw [if_neg]
    rw [List.any_map]
    intro q
    obtain ⟨p, _, q⟩ := List.any_eq_true.mp q
    simp at q
  rw [st] at dd'
  obtain ⟨o, es, ep, ho, hc, hdt, hk, hp, nd⟩ := dd'
  have hv := keys_opt hp
  have hlen := hp.length
  rw [List.length_append, List.length_map, List.length_singleton, Array.length_toList] at hlen
  refine h _ o es ep (d_write I (by rw [e]; exact True.intro) hs ⟨o, ho⟩ (fix_new ho)) hc hdt hd (by omega) ?_
  rw [List.map_append, List.map_map] at hv
  rw [kv_keys rel]
  exact hv
theorem Rep.fast {u' u : HO} {dd : D} {i : Nat} {o : OD} {p : Addr} (R : Rep K Fr B σ H ρ) (e : ρ[i]? = some (.ow false o)) (ep : σ[i]? = some (some (V.ref p))) (hp : H p = some u) (x : Dat K (upd H p u') (.ref p) dd) : Rep K Fr B σ (upd H p u') (ρ.set i (.fz dd)) := by
  have hi : i < ρ.length := (List.getElem?_eq_some_iff.mp e).1
  obtain ⟨p', ep', ow⟩ := R.own e
  rw [ep] at ep'; cases ep'
  obtain ⟨u', hu', nu, _⟩ := ow.there
  rw [hp] at hu'; cases hu'
  have mono : Mono H (upd H p u') := Mono.upd fun z q => by rw [hp] at q; cases q; exact nu
  have at' : ∀ {j : Nat} {a : AV}, (ρ.set i (.fz dd))[j]? = some a → (j = i ∧ a = .fz dd) ∨ (j ≠ i ∧ ρ[j]? = some a) := fun {j a} q => by
    by_cases z : i = j
    · subst z
      rw [List.getElem?_set_self hi] at q
      exact .inl ⟨rfl, (Option.some.inj q).symm⟩
    · rw [get_set_ne z] at q; exact .inr ⟨Ne.symm z, q⟩
  have own' : ∀ {j : Nat} {r' : Bool} {q : OD}, (ρ.set i (.fz dd))[j]? = some (.ow r' q) → ρ[j]? = some (.ow r' q) := fun {j r' q} h => by
    rcases at' h with ⟨_, h'⟩ | ⟨_, h'⟩
    · cases h'
    · exact h'
  refine ⟨by rw [List.length_set]; exact R.len, fun j a h => ?_, fun j q r' x h1 h2 => R.fr j q r' x (own' h1) h2, fun j k q r1 x1 r2 x2 h1 h2 h3 h4 => R.inj j k q _ _ _ _ (own' h1) (own' h2) h3 h4, fun b hb => ?_, fun q hq => ?_⟩
  · rcases at' h with ⟨rfl, rfl⟩ | ⟨ne, h⟩
    · exact ⟨_, ep, x⟩
    · have q := R.at_ j a h
      cases a with
      | un => exact True.intro
      | fz d => obtain ⟨v, e', x⟩ := q; exact ⟨v, e', x.mono mono⟩
      | ow r2 o2 =>
        obtain ⟨p2, e2, x⟩ := q
        refine ⟨p2, e2, x.keep mono ?_⟩
        rw [upd_ne]; rintro rfl; exact ne (R.inj j i _ _ _ _ _ h e e2 ep)
  · by_cases z : b = p
    · subst z; rw [upd_same]; exact nofun
    · rw [upd_ne z]; exact R.tr b hb
  · obtain ⟨h1, x, h2⟩ := R.rb q hq
    refine ⟨h1, x, ?_⟩
    rw [get_set_ne]
    · exact h2
    · rintro rfl; rw [e] at h2; cases h2

/-! ### d[k] = v, None too -/
def sDPut2 (td ty tv : TE) : TS := fun D σ H => tv σ H fun v H1 => td σ H1 fun x H2 => ty σ H2 fun y H3 => (∃ a H4, x = .ref a ∧ DPut H3 a y v H4 ∧ D.nx σ H4) ∨
  ∃ a kvs, x = .ref a ∧ y = .non ∧ H3 a = some (.dK kvs) ∧ kvs.length < sizeLine ∧ ∀ o es ep, o.ExactDict → o.data = .dict es ep → (a == sysModules) = false → es.size ≤ sizeLine → Vals ((kvs.map fun q => kV q.1) ++ [.non]) (es.toList.map (·.key)) → D.nx σ (upd H3 a (FixA a o))
theorem ps_dput2 {o i value : Expr} {pos pos' : Pos} {td ty tv : TE} (hu : X.A.units + 1 < cLine) (ho : PE X o td) (hi : PE X i ty) (hv : PE X value tv) (hs : swapsWith value (some (.Subscript o i pos')) pos.line X.env = pure false) :
    PS X (.Assign [.Subscript o i pos'] value pos) (sDPut2 td ty tv) := by
  refine ⟨fun pins s σ H D I h => ?_⟩
  refine wpAny_Assign_Subscript (thn (hv.run pins s σ H _ I h) fun r s1 ⟨v, H1, I1, rv, q1⟩ => thn (ho.run pins s1 σ H1 _ I1 q1) fun u s2 ⟨x, H2, I2, rx, q2⟩ => thn (hi.run pins s2 σ H2 _ I2 q2) fun iv s3 ⟨y, H3, I3, ry, q3⟩ => ?_) hs
  rcases q3 with ⟨a, H4, ex, g, q3⟩ | ⟨a, kvs, ex, ey, e, l, q3⟩
  · subst ex
    obtain rfl : u = Value.ref a := rx
    exact d_setItem hu I3 g ry rv fun s4 I4 => ⟨σ, H4, I4, q3⟩
  · subst ex ey
    obtain rfl : u = Value.ref a := rx
    obtain rfl : iv = Value.none := ry
    exact odd_put I3 e l fun s4 ob es ep I4 hc hd hm hz hk => ⟨σ, _, I4, q3 ob es ep hc hd hm hz hk⟩
def putM (i : Nat) (fk fv : Ev → Out D) : Ev → SOut := fun ρ => bindS (fv ρ) fun d ρ1 => match ρ1[i]? with
  | some (.ow _ _) => bindS (fk ρ1) fun kd ρ2 => match keyOf kd with
    | some k => (match ρ2[i]? with
      | some (.ow r (.d kvs)) => if kvs.length < sizeLine then .nx (ρ2.set i (.ow r (.d (putD kvs k d)))) else .bad
      | _ => .bad)
    | none => (match kd, ρ2[i]? with
      | .non, some (.ow false (.d kvs)) => if kvs.length < sizeLine then .nx (ρ2.set i (.fz (.odd ((kvs.map fun q => keyD q.1) ++ [.non])))) else .bad
      | _, _ => .bad)
  | _ => .bad
theorem datK_keys : ∀ {vs : List (Key × V)} {xs : List (Key × D)}, DatK K H vs xs → DatL K H (vs.map fun q => kV q.1) (xs.map fun q => keyD q.1)
  | _, _, .nil => .nil
  | _, _, .cons _ r => .cons dat_key (datK_keys r)
theorem ds_putM {i : Nat} {o e value : Expr} {fk fv : Ev → Out D} {pos pos' : Pos} (hu : X.A.units + 65 < cLine) (ho : PE X o (tVar i)) (hk : DE X W e fk) (hv : DE X W value fv) (hs : swapsWith value (some (.Subscript o e pos')) pos.line X.env = pure false := by rfl) :
    DS X W (.Assign [.Subscript o e pos'] value pos) (putM i fk fv) := by
  refine ⟨psImp (ps_dput2 (by omega) ho hk.can hv.can hs) fun E σ H ⟨Fr, B, ρ, R, k⟩ => ⟨Fr, B, ρ, R, OkS.bind k fun v H1 d ρ1 st R1 r1 k => ?_⟩⟩
  split at k
  · rename_i r0 o0 q0
    obtain ⟨p, ep, _⟩ := R1.own q0
    refine ⟨_, ep, Fr, B, ρ1, R1, OkS.bind k fun kv H2 kd ρ2 st2 R2 r2 k => ?_⟩
    split at k
    · rename_i k' ek
      split at k
      · rename_i r kvs q
        obtain ⟨p2, ep2, vs, hp, rd⟩ := R2.own q
        rw [ep] at ep2; cases ep2
        split at k
        · rename_i hz
          have r1' : Dat X.K H2 v d := Dat.mono st2.mono r1
          have m : Mono H2 (upd H2 p (.dK (putK vs k' v))) := Mono.upd fun z q => by rw [hp] at q; cases q; exact fun z => z
          have w : Own X.K (upd H2 p (.dK (putK vs k' v))) p (.d (putD kvs k' d)) := ⟨_, upd_same, (rd.mono m).put (r1'.mono m)⟩
          obtain ⟨R3, s3⟩ := slot_write R2 q ep hp (fun z => z) w
          exact .inl ⟨p, _, rfl, .inl ⟨vs, k', hp, Dat.key r2 ek, by rw [rd.length]; exact hz, rfl⟩, k σ _ s3 R3⟩
        · exact False.elim k
      · exact False.elim k
    · split at k
      · rename_i kvs q _
        obtain ⟨p2, ep2, vs, hp, rd⟩ := R2.own q
        rw [ep] at ep2; cases ep2
        split at k
        · rename_i hz
          cases (show Dat _ _ _ _ from r2)
          refine .inr ⟨p, vs, rfl, rfl, hp, by rw [rd.length]; exact hz, fun ob es epo hc hd hm hsz hkv => ?_⟩
          have m : Mono H2 (upd H2 p (FixA p ob)) := Mono.upd fun z q => by rw [hp] at q; cases q; exact fun z => z
          have x : Dat X.K (upd H2 p (FixA p ob)) (.ref p) (.odd ((kvs.map fun q => keyD q.1) ++ [.non])) :=
            .odd ⟨ob, es, epo, upd_same, hc, hd, hm, hsz, hkv⟩ (((datK_keys rd).append (.cons .non .nil)).mono m)
          exact k σ _ (Step.other (R2.notFr q ep) hp fun z => z) (R2.fast q ep hp x)
        · exact False.elim k
      · exact False.elim k
  · exact False.elim k
end
end DL
set_option Elab.async false
set_option linter.all false
set_option maxRecDepth 100000
set_option maxHeartbeats 4000000
namespace DL
open PySem PySem.Spec L2
section
variable {X : Cx} {W : WX} {K : PySem.W.Frag} {Fr : Addr → Prop} {B : List (Nat × Addr)} {σ : St} {H : Hp} {ρ : Ev} {pins : List (Addr × Obj)} {s : Shared}
def rNone1 (K : PySem.W.Frag) : V → Hp → VK → Prop := fun x H Q => ∃ (a p : Addr) (w : V), x = .ref a ∧ SqL K H a [.ref p] ∧ SqT K H p [.non, w] ∧ ∀ q, H q = none → ∀ o es ep, o.ExactDict → o.data = .dict es ep → (q == sysModules) = false → es.size ≤ sizeLine → Vals [.non] (es.toList.map (·.key)) → Q (.ref q) (upd H q (FixA q o))
theorem call_dictX (hc : X.calm = true) : CallR X (.type "dict") (rOne fun x H Q => rDictO X.K x H Q ∨ rNone1 X.K x H Q) := by
  intro pins s σ H xs us Q I r h
  obtain ⟨x, rfl, h⟩ := h
  rcases h with h | ⟨a, p, v, rfl, hq, hp, q⟩
  · exact call_dictR hc pins s σ H _ us Q I r ⟨x, rfl, h⟩
  · obtain ⟨u, rfl, rx⟩ := Vals.one r
    cases rx
    obtain ⟨its, rv, pl, hz⟩ := I.list hq
    obtain ⟨u1, rfl, ru1⟩ := Vals.one rv
    cases ru1
    obtain ⟨its2, rv2, ht, _⟩ := I.tuple hp
    obtain ⟨k, y, rfl, rk, ry⟩ := vals2 rv2
    obtain rfl : k = Value.none := rk
    refine _root_.PySem.call_dict_pairs (knd := optKind X.prog X.w) (kvs := [(none, y)]) (PairArg.list a [Value.ref p].toArray (fun _ => p) [(Value.none, y)]) (I.ok.hd hc) ⟨pl, by simp, fun j u v e => ?_⟩ ⟨by simp, fun j u v e => ?_⟩ (by show 1 ≤ sizeLine; rw [sizeLine_eq]; decide) fun h' tk hd' k => ?_
    · cases j with
      | zero =>
        have e' : (Value.none, y) = (u, v) := Option.some.inj e
        cases e'
        exact ⟨by simp, .inl ht⟩
      | succ j => simp at e
    · cases j with
      | zero =>
        have e' : (Value.none, y) = (u, v) := Option.some.inj e
        cases e'
        exact ⟨none, rfl, rfl⟩
      | succ j => exact absurd e (by simp [PairRel])
    · have hm : (s.heap.objs.size == sysModules) = false := beq_eq_false_iff_ne.mpr (Nat.ne_of_gt I.big)
      obtain ⟨o, es, ep, ho, hx, hdt, hk, hpr, nd⟩ := hd'
      have hv := keys_opt hpr
      have hlen := hpr.length
      have e1 : merged ([] : List (Option Key × Value)) [(none, y)] = [(none, y)] := rfl
      rw [e1] at hv hlen
      refine ⟨.ref s.heap.objs.size, upd H s.heap.objs.size (FixA s.heap.objs.size o), I.laid (t' := tk) (fun b o e => k b o (by simp) e) (Nat.le_refl _) (fix_new ho), rfl, q _ (I.hok.fresh (Nat.le_refl _)) o es ep hx hdt hm ?_ hv⟩
      rw [Array.length_toList] at hlen
      rw [hlen, sizeLine_eq]; show 1 ≤ 16777216; decide
def dX (d : D) : Option D := match dictD d with
  | some o => some o.dat
  | none => match d with
    | .lst [.tup [.non, _]] => some (.odd [.non])
    | _ => none
def dictX (f : Ev → Out D) : Ev → Out D := fun ρ => (f ρ).bind fun d ρ1 => ofO (dX d) ρ1
theorem dat_dic_new {p : Addr} {vs : List (Key × V)} {xs : List (Key × D)} (hp : H p = none) (r : DatK K H vs xs) (od : Obj) : Dat K (upd H p (.frz od (.dK vs))) (.ref p) (.dic xs) := .dic (o := od) upd_same (r.mono (Mono.new hp))
theorem de_dictX {e : Expr} {f : Ev → Out D} {p pos : Pos} (hc : X.calm = true) (hm : X.mg "dict" = none) (h : DE X W e f) (hg : Gl X "dict" := by rfl)
    (he : starEach [e] X.env = (false, eval e X.env) :: starEach [] X.env := by rfl) (hpl : (backTo pos (starEach [] X.env)).any (·.1) = false := by rfl) : DE X W (.Call (.Name "dict" p) [e] [] pos) (dictX f) := by
  obtain ⟨t, pa, s⟩ := h.ex
  refine ⟨_, pe_frz (pe_callTy (call_dictX hc) hg hm (by decide +kernel) (pa_cons pa pa_nil he) (by decide) (by decide) he hpl), fun Fr B σ H ρ Q R k => s Fr B σ H ρ _ R (Ok.bind k fun v H1 d ρ1 st R1 r1 k => ?_)⟩
  replace r1 : Dat X.K H1 v d := r1
  refine ⟨v, rfl, ?_⟩
  unfold dX at k
  cases q : dictD d with
  | some o =>
    rw [q] at k
    refine .inl ?_
    unfold dictD at q
    split at q
    · rename_i xs
      cases q2 : pairsD xs with
      | none => rw [q2] at q; cases q
      | some ps =>
        rw [q2] at q; cases q
        cases r1 with
        | lst h' r' =>
          obtain ⟨as, kvs, rfl, h1, h2⟩ := pairs_all r' q2
          exact .inl ⟨_, as, kvs, rfl, h'.sq, h1, fun p hp => new_frz R1 hp True.intro (fun z => z) (dat_dic_new hp (h2.merge .nil)) k⟩
    · rename_i xs
      cases q2 : pairsD xs with
      | none => rw [q2] at q; cases q
      | some ps =>
        rw [q2] at q; cases q
        cases r1 with
        | tup h' r' =>
          obtain ⟨as, kvs, rfl, h1, h2⟩ := pairs_all r' q2
          exact .inr (.inl ⟨_, as, kvs, rfl, h', h1, fun p hp => new_frz R1 hp True.intro (fun z => z) (dat_dic_new hp (h2.merge .nil)) k⟩)
    · cases q
      cases r1 with
      | dic h' r' => exact .inr (.inr ⟨_, _, rfl, .inr ⟨_, h'⟩, fun p hp => new_frz R1 hp True.intro (fun z => z) (dat_dic_new hp r') k⟩)
    · cases q
  | none =>
    rw [q] at k
    refine .inr ?_
    dsimp only at k
    split at k
    · rename_i w
      cases r1 with
      | lst h' r' =>
        cases r' with
        | cons h1 r' =>
          cases r'
          cases h1 with
          | tup h2 r2 =>
            cases r2 with
            | cons h3 r2 =>
              cases h3
              cases r2 with
              | cons h4 r2 =>
                cases r2
                exact ⟨_, _, _, rfl, h'.sq, h2.sq, fun q hq o es ep hx hdt hm' hz hk => .inl (k _ _ (Step.new R1 hq) (R1.new hq) (.odd ⟨o, es, ep, upd_same, hx, hdt, hm', hz, hk⟩ (.cons .non .nil)))⟩
    · exact False.elim k
end
end DL
set_option Elab.async false
set_option linter.all false
set_option maxRecDepth 100000
set_option maxHeartbeats 4000000
namespace Wk
open PySem PySem.Spec L2 DL
def fuel : Nat := 1000000
/-! ### what each def does -/
/-- divisor: 0 one 1 other -/
def s_divisor : Ev → SOut := seqS (whileS fuel (truF (varR 1)) (seqS (parS 0 1 (consL (varE 1) (consL (binF modI (varR 0) (varR 1)) (nilL)))) (nxS))) (seqS (retS (unF absD (varR 0))) (nxS))
def F_divisor : List AV → FOut := bodyF 2 2 s_divisor
/-- is_less: 0 one 1 other -/
def s_is_less : Ev → SOut := seqS (retS (binF ltI (datO (binF mulI (datO (binF ixO (varR 0) (datO (conE (.int 0))))) (datO (binF ixO (varR 1) (datO (conE (.int 1))))))) (datO (binF mulI (datO (binF ixO (varR 1) (datO (conE (.int 0))))) (datO (binF ixO (varR 0) (datO (conE (.int 1))))))))) (nxS)
def F_is_less : List AV → FOut := bodyF 2 2 s_is_less
/-- whole: 0 number -/
def s_whole : Ev → SOut := seqS (retS (tupE (consL (varE 0) (consL (conE (.int 1)) (nilL))))) (nxS)
def F_whole : List AV → FOut := bodyF 1 1 s_whole
/-- upwards: 0 one -/
def s_upwards : Ev → SOut := seqS (retS (binF subI (datO (conE (.int 0))) (datO (binF fdivI (datO (binF subI (datO (conE (.int 0))) (datO (binF ixO (varR 0) (datO (conE (.int 0))))))) (datO (binF ixO (varR 0) (datO (conE (.int 1))))))))) (nxS)
def F_upwards : List AV → FOut := bodyF 1 1 s_upwards
/-- is_whole: 0 thing 1 low 2 most -/
def s_is_whole : Ev → SOut := seqS (retS (andE (unF (isiD "int") (varR 0)) (andE (notE (unF (isiD "bool") (varR 0))) (chF leI leI (varR 1) (varR 0) (varR 2))))) (nxS)
def F_is_whole : List AV → FOut := bodyF 3 3 s_is_whole
/-- is_word: 0 thing 1 sign -/
def s_is_word : Ev → SOut := seqS (retS (andE (unF (isiD "str") (varR 0)) (andE (chF leI leI (datO (conE (.int 1))) (datO (unF lenD (varR 0))) (datO (conE (.int 8)))) (unF allD (datO (mapO OD.dat (lcF (itF (varE 0)) (.nm 1) (yesF) (binF inA (varR 1) (datO (conE (.str "abcdefghijklmnopqrstuvwxyz")))) [1]))))))) (nxS)
def F_is_word : List AV → FOut := bodyF 1 2 s_is_word
/-- ways: 0 book -/
def s_ways : Ev → SOut := seqS (retS (mapO OD.dat (unF skD (varR 0)))) (nxS)
def F_ways : List AV → FOut := bodyF 1 1 s_ways
/-- all_goods: 0 book 1 found 2 name 3 word 4 many -/
def s_all_goods : Ev → SOut := seqS (setN 1 (dicN0)) (seqS (forF (keysF (varE 0)) (.nm 2) (seqS (forF (itF (binF addO (datO (binF ixO (datO (binF ixO (varR 0) (varR 2))) (datO (conE (.int 0))))) (datO (binF ixO (datO (binF ixO (varR 0) (varR 2))) (datO (conE (.int 1))))))) (.tp [3, 4]) (seqS (putAt 1 (varE 3) (conE (.bl true))) (nxS))) (nxS))) (seqS (retS (mapO OD.dat (unF skD (varR 1)))) (nxS)))
def F_all_goods : List AV → FOut := bodyF 1 5 s_all_goods
/-- net: 0 way 1 word -/
def s_net : Ev → SOut := seqS (retS (binF subI (datO (get2F (mapO OD.dat (unF dictD (datO (binF ixO (varR 0) (datO (conE (.int 1))))))) (varE 1) (conE (.int 0)))) (datO (get2F (mapO OD.dat (unF dictD (datO (binF ixO (varR 0) (datO (conE (.int 0))))))) (varE 1) (conE (.int 0)))))) (nxS)
def F_net : List AV → FOut := bodyF 2 2 s_net
/-- _law_cell: 0 _law_script 1 _law_k -/
def s_law_cell : Ev → SOut := seqS (ifS (truF (varR 0)) (seqS (retS (binF ixO (varR 0) (datO (binF modI (varR 1) (datO (unF lenD (varR 0))))))) (nxS)) (nxS)) (seqS (retS (conE (.int 0))) (nxS))
def F_law_cell : List AV → FOut := bodyF 2 2 s_law_cell
/-- _law_refusal: 0 _law_caught 1 _law_kinds -/
def s_law_refusal : Ev → SOut := seqS (ifS (tstF (binF isO (varR 0) (datO (conE .non)))) (seqS (retS (tupE (consL (conE (.str "ok")) (nilL)))) (nxS)) (nxS)) (seqS (setN 1 (lstN (consL (unF (isxD (sbW "BadBook")) (varR 0)) (consL (unF (isxD (sbW "BadGoods")) (varR 0)) (consL (unF (isxD (sbW "BadRates")) (varR 0)) (nilL)))))) (seqS (setN 1 (catN (varR 1) (datO (mapO OD.dat (lstN (consL (unF (isxD (sbW "BadPlan")) (varR 0)) (consL (unF (isxD (sbW "BadWorks")) (varR 0)) (consL (unF (isxD (sbW "Barred")) (varR 0)) (nilL))))))))) (seqS (exprS (appE 1 (unF (isxD (sbW "BadText")) (varR 0)))) (seqS (ifS (orF (tstF (binF neO (datO (methF cntD (varR 1) (conE (.bl true)))) (datO (conE (.int 1))))) (notF (tstF (unF (isxD (sbW "ValueError")) (varR 0))))) (seqS (retS (tupE (consL (conE (.str "wrong")) (nilL)))) (nxS)) (nxS)) (seqS (retS (tupE (consL (conE (.str "refused")) (consL (binF ixO (datO (mapO OD.dat (lstN (consL (conE (.str "book")) (consL (conE (.str "goods")) (consL (conE (.str "rates")) (consL (conE (.str "plan")) (consL (conE (.str "works")) (consL (conE (.str "barred")) (consL (conE (.str "text")) (nilL))))))))))) (datO (methF idxD (varR 1) (conE (.bl true))))) (nilL))))) (nxS))))))
def F_law_refusal : List AV → FOut := bodyF 1 2 s_law_refusal
/-- _law_goods: 0 _law_book_here 1 _law_found 2 _law_name 3 _law_word 4 _law_many -/
def s_law_goods : Ev → SOut := seqS (setS 1 (mapO OD.dat (lstN (nilL)))) (seqS (forF (itF (mapO OD.dat (unF lkD (varR 0)))) (.nm 2) (seqS (setS 1 (binF addO (varR 1) (datO (mapO OD.dat (lcF (itF (binF addO (datO (binF ixO (datO (binF ixO (varR 0) (varR 2))) (datO (conE (.int 0))))) (datO (binF ixO (datO (binF ixO (varR 0) (varR 2))) (datO (conE (.int 1))))))) (.tp [3, 4]) (yesF) (varE 3) [3, 4]))))) (nxS))) (seqS (retS (mapO OD.dat (unF sortSetD (varR 1)))) (nxS)))
def F_law_goods : List AV → FOut := bodyF 1 5 s_law_goods
/-- least: 0 top 1 under 2 both -/
def s_least : Ev → SOut := seqS (ifS (tstF (binF ltI (varR 1) (datO (conE (.int 0))))) (seqS (parS 0 1 (consL (binF subI (datO (conE (.int 0))) (varR 0)) (consL (binF subI (datO (conE (.int 0))) (varR 1)) (nilL)))) (nxS)) (nxS)) (seqS (setS 2 (callF 2 F_divisor (datA (varE 0) (datA (varE 1) (nilA))))) (seqS (retS (tupE (consL (binF fdivI (varR 0) (varR 2)) (consL (binF fdivI (varR 1) (varR 2)) (nilL))))) (nxS)))
def F_least : List AV → FOut := bodyF 2 3 s_least
/-- is_fraction: 0 thing 1 one -/
def s_is_fraction : Ev → SOut := seqS (ifS (orF (notF (tstF (unF (isiD "tuple") (varR 0)))) (tstF (binF neO (datO (unF lenD (varR 0))) (datO (conE (.int 2)))))) (seqS (retS (conE (.bl false))) (nxS)) (nxS)) (seqS (ifS (notF (tstF (unF allD (datO (mapO OD.dat (lcF (itF (varE 0)) (.nm 1) (yesF) (andE (unF (isiD "int") (varR 1)) (notE (unF (isiD "bool") (varR 1)))) [1])))))) (seqS (retS (conE (.bl false))) (nxS)) (nxS)) (seqS (retS (andE (chF leI leI (datO (conE (.int 0))) (datO (binF ixO (varR 0) (datO (conE (.int 0))))) (datO (conE (.int 1000000)))) (andE (chF leI leI (datO (conE (.int 1))) (datO (binF ixO (varR 0) (datO (conE (.int 1))))) (datO (conE (.int 1000)))) (binF eqO (datO (callF 2 F_divisor (datA (binF ixO (varR 0) (datO (conE (.int 0)))) (datA (binF ixO (varR 0) (datO (conE (.int 1)))) (nilA))))) (datO (conE (.int 1))))))) (nxS)))
def F_is_fraction : List AV → FOut := bodyF 1 2 s_is_fraction
/-- is_side: 0 thing 1 low 2 one 3 words -/
def s_is_side : Ev → SOut := seqS (ifS (orF (notF (tstF (unF (isiD "tuple") (varR 0)))) (notF (tstF (chF leI leI (varR 1) (datO (unF lenD (varR 0))) (datO (conE (.int 3))))))) (seqS (retS (conE (.bl false))) (nxS)) (nxS)) (seqS (ifS (notF (tstF (unF allD (datO (mapO OD.dat (lcF (itF (varE 0)) (.nm 2) (yesF) (andE (unF (isiD "tuple") (varR 2)) (binF eqO (datO (unF lenD (varR 2))) (datO (conE (.int 2))))) [2])))))) (seqS (retS (conE (.bl false))) (nxS)) (nxS)) (seqS (ifS (notF (tstF (unF allD (datO (mapO OD.dat (lcF (itF (varE 0)) (.nm 2) (yesF) (andE (callF 1 F_is_word (datA (binF ixO (varR 2) (datO (conE (.int 0)))) (nilA))) (callF 3 F_is_whole (datA (binF ixO (varR 2) (datO (conE (.int 1)))) (datA (conE (.int 1)) (datA (conE (.int 20)) (nilA)))))) [2])))))) (seqS (retS (conE (.bl false))) (nxS)) (nxS)) (seqS (setN 3 (lcF (itF (varE 0)) (.nm 2) (yesF) (binF ixO (varR 2) (datO (conE (.int 0)))) [2])) (seqS (retS (binF eqO (datO (mapO OD.dat (unF sortSetD (varR 3)))) (varR 3))) (nxS)))))
def F_is_side : List AV → FOut := bodyF 2 4 s_is_side
/-- look_raws: 0 raws 1 word -/
def s_look_raws : Ev → SOut := seqS (ifS (orF (notF (tstF (unF (isiD "list") (varR 0)))) (orF (tstF (binF gtI (datO (unF lenD (varR 0))) (datO (conE (.int 20))))) (notF (tstF (unF allD (datO (mapO OD.dat (lcF (itF (varE 0)) (.nm 1) (yesF) (callF 1 F_is_word (datA (varE 1) (nilA))) [1])))))))) (seqS (raiseS "BadGoods") (nxS)) (nxS)) (seqS (ifS (tstF (binF neO (datO (mapO OD.dat (unF sortSetD (varR 0)))) (varR 0))) (seqS (raiseS "BadGoods") (nxS)) (nxS)) (nxS))
def F_look_raws : List AV → FOut := bodyF 1 2 s_look_raws
/-- goods_asked: 0 book 1 raws 2 wants 3 word -/
def s_goods_asked : Ev → SOut := seqS (retS (mapO OD.dat (lcF (itF (mapO OD.dat (unF sortSetD (datO (binF addO (datO (callF 1 F_all_goods (datA (varE 0) (nilA)))) (datO (mapO OD.dat (unF lkD (varR 2))))))))) (.nm 3) (tstF (binF ninA (varR 3) (varR 1))) (varE 3) [3]))) (nxS)
def F_goods_asked : List AV → FOut := bodyF 3 4 s_goods_asked
/-- _law_mix: 0 _law_script 1 _law_k 2 _law_number -/
def s_law_mix : Ev → SOut := seqS (setS 2 (binF modI (datO (binF addO (datO (callF 2 F_law_cell (datA (varE 0) (datA (varE 1) (nilA))))) (datO (binF mulI (datO (conE (.int 104729))) (datO (binF addO (varR 1) (datO (conE (.int 1))))))))) (datO (conE (.int 4294967291))))) (seqS (setS 2 (binF modI (datO (binF powI (varR 2) (datO (conE (.int 5))))) (datO (conE (.int 4294967279))))) (seqS (retS (binF modI (datO (binF addO (datO (binF mulI (datO (binF fdivI (varR 2) (datO (conE (.int 64))))) (datO (conE (.int 69621))))) (varR 2))) (datO (conE (.int 4294967231))))) (nxS)))
def F_law_mix : List AV → FOut := bodyF 2 3 s_law_mix
/-- plus: 0 one 1 other -/
def s_plus : Ev → SOut := seqS (retS (callF 2 F_least (datA (binF addO (datO (binF mulI (datO (binF ixO (varR 0) (datO (conE (.int 0))))) (datO (binF ixO (varR 1) (datO (conE (.int 1))))))) (datO (binF mulI (datO (binF ixO (varR 1) (datO (conE (.int 0))))) (datO (binF ixO (varR 0) (datO (conE (.int 1)))))))) (datA (binF mulI (datO (binF ixO (varR 0) (datO (conE (.int 1))))) (datO (binF ixO (varR 1) (datO (conE (.int 1)))))) (nilA))))) (nxS)
def F_plus : List AV → FOut := bodyF 2 2 s_plus
/-- minus: 0 one 1 other -/
def s_minus : Ev → SOut := seqS (retS (callF 2 F_least (datA (binF subI (datO (binF mulI (datO (binF ixO (varR 0) (datO (conE (.int 0))))) (datO (binF ixO (varR 1) (datO (conE (.int 1))))))) (datO (binF mulI (datO (binF ixO (varR 1) (datO (conE (.int 0))))) (datO (binF ixO (varR 0) (datO (conE (.int 1)))))))) (datA (binF mulI (datO (binF ixO (varR 0) (datO (conE (.int 1))))) (datO (binF ixO (varR 1) (datO (conE (.int 1)))))) (nilA))))) (nxS)
def F_minus : List AV → FOut := bodyF 2 2 s_minus
/-- times: 0 one 1 other -/
def s_times : Ev → SOut := seqS (retS (callF 2 F_least (datA (binF mulI (datO (binF ixO (varR 0) (datO (conE (.int 0))))) (datO (binF ixO (varR 1) (datO (conE (.int 0)))))) (datA (binF mulI (datO (binF ixO (varR 0) (datO (conE (.int 1))))) (datO (binF ixO (varR 1) (datO (conE (.int 1)))))) (nilA))))) (nxS)
def F_times : List AV → FOut := bodyF 2 2 s_times
/-- over: 0 one 1 other -/
def s_over : Ev → SOut := seqS (retS (callF 2 F_least (datA (binF mulI (datO (binF ixO (varR 0) (datO (conE (.int 0))))) (datO (binF ixO (varR 1) (datO (conE (.int 1)))))) (datA (binF mulI (datO (binF ixO (varR 0) (datO (conE (.int 1))))) (datO (binF ixO (varR 1) (datO (conE (.int 0)))))) (nilA))))) (nxS)
def F_over : List AV → FOut := bodyF 2 2 s_over
/-- is_way: 0 thing -/
def s_is_way : Ev → SOut := seqS (ifS (orF (notF (tstF (unF (isiD "tuple") (varR 0)))) (orF (tstF (binF neO (datO (unF lenD (varR 0))) (datO (conE (.int 4))))) (orF (notF (tstF (callF 2 F_is_side (datA (binF ixO (varR 0) (datO (conE (.int 0)))) (datA (conE (.int 0)) (nilA)))))) (notF (tstF (callF 2 F_is_side (datA (binF ixO (varR 0) (datO (conE (.int 1)))) (datA (conE (.int 1)) (nilA))))))))) (seqS (retS (conE (.bl false))) (nxS)) (nxS)) (seqS (retS (andE (callF 3 F_is_whole (datA (binF ixO (varR 0) (datO (conE (.int 2)))) (datA (conE (.int 1)) (datA (conE (.int 20)) (nilA))))) (callF 3 F_is_whole (datA (binF ixO (varR 0) (datO (conE (.int 3)))) (datA (conE (.int 0)) (datA (conE (.int 50)) (nilA))))))) (nxS))
def F_is_way : List AV → FOut := bodyF 1 1 s_is_way
/-- look_wants: 0 wants 1 word -/
def s_look_wants : Ev → SOut := seqS (ifS (orF (notF (tstF (unF (isiD "dict") (varR 0)))) (tstF (binF gtI (datO (unF lenD (varR 0))) (datO (conE (.int 6)))))) (seqS (raiseS "BadRates") (nxS)) (nxS)) (seqS (ifS (notF (tstF (unF allD (datO (mapO OD.dat (lcF (keysF (varE 0)) (.nm 1) (yesF) (andE (callF 1 F_is_word (datA (varE 1) (nilA))) (callF 1 F_is_fraction (datA (binF ixO (varR 0) (varR 1)) (nilA)))) [1])))))) (seqS (raiseS "BadRates") (nxS)) (nxS)) (nxS))
def F_look_wants : List AV → FOut := bodyF 1 2 s_look_wants
/-- is_told: 0 thing 1 one -/
def s_is_told : Ev → SOut := seqS (ifS (orF (notF (tstF (unF (isiD "tuple") (varR 0)))) (tstF (binF neO (datO (unF lenD (varR 0))) (datO (conE (.int 2)))))) (seqS (retS (conE (.bl false))) (nxS)) (nxS)) (seqS (ifS (notF (tstF (unF allD (datO (mapO OD.dat (lcF (itF (varE 0)) (.nm 1) (yesF) (andE (unF (isiD "int") (varR 1)) (andE (notE (unF (isiD "bool") (varR 1))) (binF geI (varR 1) (datO (conE (.int 0)))))) [1])))))) (seqS (retS (conE (.bl false))) (nxS)) (nxS)) (seqS (retS (andE (binF gtI (datO (binF ixO (varR 0) (datO (conE (.int 1))))) (datO (conE (.int 0)))) (binF eqO (datO (callF 2 F_least (datA (binF ixO (varR 0) (datO (conE (.int 0)))) (datA (binF ixO (varR 0) (datO (conE (.int 1)))) (nilA))))) (varR 0)))) (nxS)))
def F_is_told : List AV → FOut := bodyF 1 2 s_is_told
/-- solved: 0 book 1 raws 2 wants 3 words 4 names 5 rows 6 name 7 word 8 table -/
def s_solved : Ev → SOut := seqS (setS 3 (callF 3 F_goods_asked (datA (varE 0) (datA (varE 1) (datA (varE 2) (nilA)))))) (seqS (setS 4 (callF 1 F_ways (datA (varE 0) (nilA)))) (seqS (setN 5 (lcF (itF (varE 3)) (.nm 7) (yesF) (mapO OD.dat (lcF (itF (varE 4)) (.nm 6) (yesF) (callF 1 F_whole (datA (callF 2 F_net (datA (binF ixO (varR 0) (varR 6)) (datA (varE 7) (nilA)))) (nilA))) [6])) [7])) (seqS (setS 8 (badE)) (seqS (retS (tupE (consL (varE 8) (consL (mapO OD.dat (badE)) (nilL))))) (nxS)))))
def F_solved : List AV → FOut := bodyF 3 9 s_solved
/-- _law_draw: 0 _law_script 1 _law_town 2 _law_many -/
def s_law_draw : Ev → SOut := seqS (exprS (appE 1 (conE (.int 0)))) (seqS (retS (binF modI (datO (binF fdivI (datO (callF 2 F_law_mix (datA (varE 0) (datA (unF lenD (varR 1)) (nilA))))) (datO (conE (.int 8))))) (varR 2))) (nxS))
def F_law_draw : List AV → FOut := bodyF 3 3 s_law_draw
/-- look_book: 0 book 1 name -/
def s_look_book : Ev → SOut := seqS (ifS (orF (notF (tstF (unF (isiD "dict") (varR 0)))) (notF (tstF (chF leI leI (datO (conE (.int 1))) (datO (unF lenD (varR 0))) (datO (conE (.int 6))))))) (seqS (raiseS "BadBook") (nxS)) (nxS)) (seqS (forF (keysF (varE 0)) (.nm 1) (seqS (ifS (orF (notF (tstF (callF 1 F_is_word (datA (varE 1) (nilA))))) (notF (tstF (callF 1 F_is_way (datA (binF ixO (varR 0) (varR 1)) (nilA)))))) (seqS (raiseS "BadBook") (nxS)) (nxS)) (nxS))) (nxS))
def F_look_book : List AV → FOut := bodyF 1 2 s_look_book
/-- look_plan: 0 book 1 plan 2 name -/
def s_look_plan : Ev → SOut := seqS (ifS (orF (notF (tstF (unF (isiD "dict") (varR 1)))) (notF (tstF (unF allD (datO (mapO OD.dat (lcF (keysF (varE 1)) (.nm 2) (yesF) (unF (isiD "str") (varR 2)) [2]))))))) (seqS (raiseS "BadPlan") (nxS)) (nxS)) (seqS (ifS (orF (tstF (binF neO (datO (mapO OD.dat (unF skD (varR 1)))) (datO (callF 1 F_ways (datA (varE 0) (nilA)))))) (notF (tstF (unF allD (datO (mapO OD.dat (lcF (keysF (varE 1)) (.nm 2) (yesF) (callF 1 F_is_told (datA (binF ixO (varR 1) (varR 2)) (nilA))) [2]))))))) (seqS (raiseS "BadPlan") (nxS)) (nxS)) (nxS))
def F_look_plan : List AV → FOut := bodyF 2 3 s_look_plan
/-- rate_of: 0 book 1 plan 2 word 3 found 4 name -/
def s_rate_of : Ev → SOut := seqS (setS 3 (conE (.tup [.int 0, .int 1]))) (seqS (forF (itF (callF 1 F_ways (datA (varE 0) (nilA)))) (.nm 4) (seqS (setS 3 (callF 2 F_plus (datA (varE 3) (datA (callF 2 F_times (datA (binF ixO (varR 1) (varR 4)) (datA (callF 1 F_whole (datA (callF 2 F_net (datA (binF ixO (varR 0) (varR 4)) (datA (varE 2) (nilA)))) (nilA))) (nilA)))) (nilA))))) (nxS))) (seqS (retS (varE 3)) (nxS)))
def F_rate_of : List AV → FOut := bodyF 3 5 s_rate_of
/-- power_of: 0 book 1 plan 2 found 3 name -/
def s_power_of : Ev → SOut := seqS (setS 2 (conE (.tup [.int 0, .int 1]))) (seqS (forF (itF (callF 1 F_ways (datA (varE 0) (nilA)))) (.nm 3) (seqS (setS 2 (callF 2 F_plus (datA (varE 2) (datA (callF 2 F_times (datA (binF ixO (varR 1) (varR 3)) (datA (callF 1 F_whole (datA (binF ixO (datO (binF ixO (varR 0) (varR 3))) (datO (conE (.int 3)))) (nilA))) (nilA)))) (nilA))))) (nxS))) (seqS (retS (varE 2)) (nxS)))
def F_power_of : List AV → FOut := bodyF 2 4 s_power_of
/-- row_less: 0 one 1 other 2 by 3 k -/
def s_row_less : Ev → SOut := seqS (ifS (tstF (binF eqO (datO (binF ixO (varR 2) (datO (conE (.int 0))))) (datO (conE (.int 0))))) (seqS (retS (varE 0)) (nxS)) (nxS)) (seqS (retS (mapO OD.dat (lcF (rng1F (consL (unF lenD (varR 0)) (nilL))) (.nm 3) (yesF) (callF 2 F_minus (datA (binF ixO (varR 0) (varR 3)) (datA (callF 2 F_times (datA (varE 2) (datA (binF ixO (varR 1) (varR 3)) (nilA)))) (nilA)))) [3]))) (nxS))
def F_row_less : List AV → FOut := bodyF 3 4 s_row_less
/-- worth_of: 0 prices 1 wants 2 found 3 word -/
def s_worth_of : Ev → SOut := seqS (setS 2 (conE (.tup [.int 0, .int 1]))) (seqS (forF (keysF (varE 1)) (.nm 3) (seqS (setS 2 (callF 2 F_plus (datA (varE 2) (datA (callF 2 F_times (datA (get2F (varE 0) (varE 3) (conE (.tup [.int 0, .int 1]))) (datA (binF ixO (varR 1) (varR 3)) (nilA)))) (nilA))))) (nxS))) (seqS (retS (varE 2)) (nxS)))
def F_worth_of : List AV → FOut := bodyF 2 4 s_worth_of
/-- gain_of: 0 way 1 prices 2 found 3 word -/
def s_gain_of : Ev → SOut := seqS (setS 2 (conE (.tup [.int 0, .int 1]))) (seqS (forF (keysF (varE 1)) (.nm 3) (seqS (setS 2 (callF 2 F_plus (datA (varE 2) (datA (callF 2 F_times (datA (binF ixO (varR 1) (varR 3)) (datA (callF 1 F_whole (datA (callF 2 F_net (datA (varE 0) (datA (varE 3) (nilA)))) (nilA))) (nilA)))) (nilA))))) (nxS))) (seqS (retS (varE 2)) (nxS)))
def F_gain_of : List AV → FOut := bodyF 2 4 s_gain_of
/-- _law_pick: 0 _law_script 1 _law_town 2 _law_some -/
def s_law_pick : Ev → SOut := seqS (retS (binF ixO (varR 2) (datO (callF 3 F_law_draw (datA (varE 0) (refA 1 (datA (unF lenD (varR 2)) (nilA)))))))) (nxS)
def F_law_pick : List AV → FOut := bodyF 3 3 s_law_pick
/-- _law_raws: 0 _law_script 1 _law_town 2 _law_book_here 3 _law_some 4 _law_word -/
def s_law_raws : Ev → SOut := seqS (setS 3 (binF addO (datO (mapO OD.dat (lstN (consL (conE (.str "coal")) (consL (conE (.str "ore")) (nilL)))))) (datO (mapO OD.dat (lcF (itF (callF 1 F_law_goods (datA (varE 2) (nilA)))) (.nm 4) (tstF (binF eqO (datO (callF 3 F_law_draw (datA (varE 0) (refA 1 (datA (conE (.int 4)) (nilA)))))) (datO (conE (.int 0))))) (varE 4) [4]))))) (seqS (retS (slF (mapO OD.dat (unF sortSetD (datO (slF (varE 3) (partF (callF 3 F_law_draw (datA (varE 0) (refA 1 (datA (conE (.int 3)) (nilA)))))) (noPF))))) (noPF) (partF (conE (.int 20))))) (nxS))
def F_law_raws : List AV → FOut := bodyF 3 5 s_law_raws
/-- look_all: 0 book 1 raws 2 wants -/
def s_look_all : Ev → SOut := seqS (exprS (callF 1 F_look_book (datA (varE 0) (nilA)))) (seqS (exprS (callF 1 F_look_raws (datA (varE 1) (nilA)))) (seqS (exprS (callF 1 F_look_wants (datA (varE 2) (nilA)))) (nxS)))
def F_look_all : List AV → FOut := bodyF 3 3 s_look_all
/-- rates: 0 book 1 plan 2 word -/
def s_rates : Ev → SOut := seqS (exprS (callF 1 F_look_book (datA (varE 0) (nilA)))) (seqS (exprS (callF 2 F_look_plan (datA (varE 0) (datA (varE 1) (nilA))))) (seqS (retS (mapO OD.dat (lcF (itF (callF 1 F_all_goods (datA (varE 0) (nilA)))) (.nm 2) (yesF) (tupE (consL (varE 2) (consL (callF 3 F_rate_of (datA (varE 0) (datA (varE 1) (datA (varE 2) (nilA))))) (nilL)))) [2]))) (nxS)))
def F_rates : List AV → FOut := bodyF 2 3 s_rates
/-- power: 0 book 1 plan -/
def s_power : Ev → SOut := seqS (exprS (callF 1 F_look_book (datA (varE 0) (nilA)))) (seqS (exprS (callF 2 F_look_plan (datA (varE 0) (datA (varE 1) (nilA))))) (seqS (retS (callF 2 F_power_of (datA (varE 0) (datA (varE 1) (nilA))))) (nxS)))
def F_power : List AV → FOut := bodyF 2 2 s_power
/-- does_meet: 0 book 1 raws 2 wants 3 plan 4 word -/
def s_does_meet : Ev → SOut := seqS (forF (itF (mapO OD.dat (unF sortSetD (datO (binF addO (datO (callF 1 F_all_goods (datA (varE 0) (nilA)))) (datO (mapO OD.dat (unF lkD (varR 2))))))))) (.nm 4) (seqS (ifS (andF (tstF (binF ninA (varR 4) (varR 1))) (tstF (callF 2 F_is_less (datA (callF 3 F_rate_of (datA (varE 0) (datA (varE 3) (datA (varE 4) (nilA))))) (datA (get2F (varE 2) (varE 4) (conE (.tup [.int 0, .int 1]))) (nilA)))))) (seqS (retS (conE (.bl false))) (nxS)) (nxS)) (nxS))) (seqS (retS (conE (.bl true))) (nxS))
def F_does_meet : List AV → FOut := bodyF 4 5 s_does_meet
/-- works: 0 book 1 plan 2 name -/
def s_works : Ev → SOut := seqS (exprS (callF 1 F_look_book (datA (varE 0) (nilA)))) (seqS (exprS (callF 2 F_look_plan (datA (varE 0) (datA (varE 1) (nilA))))) (seqS (retS (mapO OD.dat (unF dictD (datO (mapO OD.dat (lcF (itF (callF 1 F_ways (datA (varE 0) (nilA)))) (.nm 2) (yesF) (tupE (consL (varE 2) (consL (callF 1 F_upwards (datA (callF 2 F_times (datA (binF ixO (varR 1) (varR 2)) (datA (callF 1 F_whole (datA (binF ixO (datO (binF ixO (varR 0) (varR 2))) (datO (conE (.int 2)))) (nilA))) (nilA)))) (nilA))) (nilL)))) [2])))))) (nxS)))
def F_works : List AV → FOut := bodyF 2 3 s_works
/-- givers: 0 book 1 word 2 name -/
def s_givers : Ev → SOut := seqS (exprS (callF 1 F_look_book (datA (varE 0) (nilA)))) (seqS (ifS (notF (tstF (callF 1 F_is_word (datA (varE 1) (nilA))))) (seqS (raiseS "BadGoods") (nxS)) (nxS)) (seqS (retS (mapO OD.dat (lcF (itF (callF 1 F_ways (datA (varE 0) (nilA)))) (.nm 2) (tstF (binF inA (varR 1) (datO (mapO OD.dat (unF dictD (datO (binF ixO (datO (binF ixO (varR 0) (varR 2))) (datO (conE (.int 1)))))))))) (varE 2) [2]))) (nxS)))
def F_givers : List AV → FOut := bodyF 2 3 s_givers
/-- takers: 0 book 1 word 2 name -/
def s_takers : Ev → SOut := seqS (exprS (callF 1 F_look_book (datA (varE 0) (nilA)))) (seqS (ifS (notF (tstF (callF 1 F_is_word (datA (varE 1) (nilA))))) (seqS (raiseS "BadGoods") (nxS)) (nxS)) (seqS (retS (mapO OD.dat (lcF (itF (callF 1 F_ways (datA (varE 0) (nilA)))) (.nm 2) (tstF (binF inA (varR 1) (datO (mapO OD.dat (unF dictD (datO (binF ixO (datO (binF ixO (varR 0) (varR 2))) (datO (conE (.int 0)))))))))) (varE 2) [2]))) (nxS)))
def F_takers : List AV → FOut := bodyF 2 3 s_takers
/-- layers: 0 book 1 raws 2 found 3 known 4 new 5 name 6 word 7 many -/
def s_layers : Ev → SOut := seqS (exprS (callF 1 F_look_book (datA (varE 0) (nilA)))) (seqS (exprS (callF 1 F_look_raws (datA (varE 1) (nilA)))) (seqS (setN 2 (lstN (consL (mapO OD.dat (unF listD (varR 1))) (nilL)))) (seqS (setN 3 (unF listD (varR 1))) (seqS (whileS fuel (tstF (conE (.bl true))) (seqS (setN 4 (dicN0)) (seqS (forF (keysF (varE 0)) (.nm 5) (seqS (ifS (tstF (unF allD (datO (mapO OD.dat (lcF (itF (binF ixO (datO (binF ixO (varR 0) (varR 5))) (datO (conE (.int 0))))) (.tp [6, 7]) (yesF) (binF inA (varR 6) (varR 3)) [6, 7]))))) (seqS (forF (itF (binF ixO (datO (binF ixO (varR 0) (varR 5))) (datO (conE (.int 1))))) (.tp [6, 7]) (seqS (ifS (tstF (binF ninA (varR 6) (varR 3))) (seqS (putAt 4 (varE 6) (conE (.bl true))) (nxS)) (nxS)) (nxS))) (nxS)) (nxS)) (nxS))) (seqS (ifS (notF (truF (varR 4))) (seqS (retS (varE 2)) (nxS)) (nxS)) (seqS (exprS (appE 2 (mapO OD.dat (unF skD (varR 4))))) (seqS (exprS (extE 3 (binF ixO (varR 2) (datO (negE (conE (.int 1))))))) (nxS))))))) (nxS)))))
def F_layers : List AV → FOut := bodyF 2 8 s_layers
/-- _law_good: 0 _law_script 1 _law_town 2 _law_signs 3 _law_k -/
def s_law_good : Ev → SOut := seqS (setS 2 (conE (.str "abcdefghijklmnopqrstuvwxyz"))) (seqS (ifS (tstF (binF gtI (datO (callF 3 F_law_draw (datA (varE 0) (refA 1 (datA (conE (.int 15)) (nilA)))))) (datO (conE (.int 0))))) (seqS (retS (callF 3 F_law_pick (datA (varE 0) (refA 1 (datA (mapO OD.dat (lstN (consL (conE (.str "ore")) (consL (conE (.str "coal")) (consL (conE (.str "iron")) (consL (conE (.str "gear")) (consL (conE (.str "box")) (consL (conE (.str "oil")) (nilL))))))))) (nilA)))))) (nxS)) (nxS)) (seqS (retS (joinF (conE (.str "")) (mapO OD.dat (lcF (rng1F (consL (binF addO (datO (conE (.int 1))) (datO (callF 3 F_law_draw (datA (varE 0) (refA 1 (datA (conE (.int 8)) (nilA))))))) (nilL))) (.nm 3) (yesF) (callF 3 F_law_pick (datA (varE 0) (refA 1 (datA (varE 2) (nilA))))) [3])))) (nxS)))
def F_law_good : List AV → FOut := bodyF 2 4 s_law_good
/-- _law_rate: 0 _law_script 1 _law_town -/
def s_law_rate : Ev → SOut := seqS (retS (callF 3 F_law_pick (datA (varE 0) (refA 1 (datA (mapO OD.dat (lstN (consL (tupE (consL (conE (.int 0)) (consL (conE (.int 1)) (nilL)))) (consL (tupE (consL (conE (.int 1)) (consL (conE (.int 1)) (nilL)))) (consL (tupE (consL (conE (.int 1)) (consL (conE (.int 2)) (nilL)))) (consL (tupE (consL (conE (.int 7)) (consL (conE (.int 3)) (nilL)))) (consL (tupE (consL (conE (.int 3)) (consL (conE (.int 1)) (nilL)))) (consL (tupE (consL (conE (.int 1)) (consL (conE (.int 20)) (nilL)))) (consL (tupE (consL (conE (.int 5)) (consL (conE (.int 7)) (nilL)))) (consL (tupE (consL (conE (.int 1000000)) (consL (conE (.int 1)) (nilL)))) (consL (tupE (consL (conE (.int 1)) (consL (conE (.int 1000)) (nilL)))) (nilL)))))))))))) (nilA)))))) (nxS)
def F_law_rate : List AV → FOut := bodyF 2 2 s_law_rate
/-- _law_plan: 0 _law_script 1 _law_town 2 _law_book_here 3 _law_some 4 _law_name -/
def s_law_plan : Ev → SOut := seqS (setS 3 (mapO OD.dat (lstN (consL (tupE (consL (conE (.int 0)) (consL (conE (.int 1)) (nilL)))) (consL (tupE (consL (conE (.int 1)) (consL (conE (.int 1)) (nilL)))) (consL (tupE (consL (conE (.int 1)) (consL (conE (.int 2)) (nilL)))) (consL (tupE (consL (conE (.int 7)) (consL (conE (.int 3)) (nilL)))) (consL (tupE (consL (conE (.int 1)) (consL (conE (.int 20)) (nilL)))) (consL (tupE (consL (conE (.int 1000003)) (consL (conE (.int 7)) (nilL)))) (nilL)))))))))) (seqS (retS (mapO OD.dat (unF dictD (datO (mapO OD.dat (lcF (itF (mapO OD.dat (unF lkD (varR 2)))) (.nm 4) (yesF) (tupE (consL (varE 4) (consL (callF 3 F_law_pick (datA (varE 0) (refA 1 (datA (varE 3) (nilA))))) (nilL)))) [4])))))) (nxS))
def F_law_plan : List AV → FOut := bodyF 3 5 s_law_plan
/-- _law_bad_plan: 0 _law_script 1 _law_town 2 _law_book_here 3 _law_some 4 _law_name 5 _law_wrong 6 _law_more 7 _law_less -/
def s_law_bad_plan : Ev → SOut := seqS (setS 4 (callF 3 F_law_pick (datA (varE 0) (refA 1 (datA (mapO OD.dat (unF skD (varR 2))) (nilA)))))) (seqS (setN 5 (unF dictD (varR 3))) (seqS (putAt 5 (varE 4) (callF 3 F_law_pick (datA (varE 0) (refA 1 (datA (mapO OD.dat (lstN (consL (tupE (consL (conE (.int 2)) (consL (conE (.int 4)) (nilL)))) (consL (tupE (consL (binF subI (datO (conE (.int 0))) (datO (conE (.int 1)))) (consL (conE (.int 2)) (nilL)))) (consL (tupE (consL (conE (.int 1)) (consL (conE (.int 0)) (nilL)))) (consL (conE (.int 1)) (consL (conE .non) (consL (mapO OD.dat (lstN (consL (conE (.int 1)) (consL (conE (.int 2)) (nilL))))) (consL (tupE (consL (conE (.int 1)) (nilL))) (consL (tupE (consL (conE (.bl true)) (consL (conE (.int 1)) (nilL)))) (consL (tupE (consL (conE (.int 0)) (consL (conE (.int 2)) (nilL)))) (consL (conE (.str "1")) (nilL))))))))))))) (nilA)))))) (seqS (setN 6 (unF dictD (varR 3))) (seqS (putM 6 (callF 3 F_law_pick (datA (varE 0) (refA 1 (datA (mapO OD.dat (lstN (consL (conE (.str "none")) (consL (conE (.int 1)) (consL (conE .non) (nilL)))))) (nilA))))) (tupE (consL (conE (.int 1)) (consL (conE (.int 1)) (nilL))))) (seqS (setN 7 (unF dictD (varR 3))) (seqS (exprS (dpopE 7 (varE 4))) (seqS (retS (callF 3 F_law_pick (datA (varE 0) (refA 1 (datA (mapO OD.dat (lstN (consL (varE 5) (consL (varE 5) (consL (varE 6) (consL (varE 7) (consL (conE .non) (consL (itmE (varR 3)) (nilL))))))))) (nilA)))))) (nxS))))))))
def F_law_bad_plan : List AV → FOut := bodyF 4 8 s_law_bad_plan
/-- meets: 0 book 1 raws 2 wants 3 plan -/
def s_meets : Ev → SOut := seqS (exprS (callF 3 F_look_all (datA (varE 0) (datA (varE 1) (datA (varE 2) (nilA)))))) (seqS (exprS (callF 2 F_look_plan (datA (varE 0) (datA (varE 3) (nilA))))) (seqS (retS (callF 4 F_does_meet (datA (varE 0) (datA (varE 1) (datA (varE 2) (datA (varE 3) (nilA))))))) (nxS)))
def F_meets : List AV → FOut := bodyF 4 4 s_meets
/-- leavings: 0 book 1 raws 2 wants 3 plan 4 found 5 word 6 rate -/
def s_leavings : Ev → SOut := seqS (exprS (callF 3 F_look_all (datA (varE 0) (datA (varE 1) (datA (varE 2) (nilA)))))) (seqS (exprS (callF 2 F_look_plan (datA (varE 0) (datA (varE 3) (nilA))))) (seqS (setN 4 (lstN (nilL))) (seqS (forF (itF (callF 1 F_all_goods (datA (varE 0) (nilA)))) (.nm 5) (seqS (setS 6 (callF 3 F_rate_of (datA (varE 0) (datA (varE 3) (datA (varE 5) (nilA)))))) (seqS (ifS (andF (tstF (binF ninA (varR 5) (varR 1))) (tstF (callF 2 F_is_less (datA (get2F (varE 2) (varE 5) (conE (.tup [.int 0, .int 1]))) (datA (varE 6) (nilA)))))) (seqS (exprS (appE 4 (tupE (consL (varE 5) (consL (callF 2 F_plus (datA (varE 6) (datA (callF 2 F_times (datA (tupE (consL (negE (conE (.int 1))) (consL (conE (.int 1)) (nilL)))) (datA (get2F (varE 2) (varE 5) (conE (.tup [.int 0, .int 1]))) (nilA)))) (nilA)))) (nilL)))))) (nxS)) (nxS)) (nxS)))) (seqS (retS (varE 4)) (nxS)))))
def F_leavings : List AV → FOut := bodyF 4 7 s_leavings
/-- never: 0 book 1 raws 2 made 3 row 4 word -/
def s_never : Ev → SOut := seqS (setN 2 (dicN0)) (seqS (forF (itF (callF 2 F_layers (datA (varE 0) (datA (varE 1) (nilA))))) (.nm 3) (seqS (forF (itF (varE 3)) (.nm 4) (seqS (putAt 2 (varE 4) (conE (.bl true))) (nxS))) (nxS))) (seqS (retS (mapO OD.dat (lcF (itF (callF 1 F_all_goods (datA (varE 0) (nilA)))) (.nm 4) (tstF (binF ninA (varR 4) (varR 2))) (varE 4) [4]))) (nxS)))
def F_never : List AV → FOut := bodyF 2 5 s_never
/-- plan: 0 book 1 raws 2 wants 3 table 4 row 5 some 6 names 7 k -/
def s_plan : Ev → SOut := seqS (exprS (callF 3 F_look_all (datA (varE 0) (datA (varE 1) (datA (varE 2) (nilA)))))) (seqS (tgS (.tp [3, 4]) (callF 3 F_solved (datA (varE 0) (datA (varE 1) (datA (varE 2) (nilA)))))) (seqS (ifS (tstF (binF isnO (varR 4) (datO (conE .non)))) (seqS (raiseS "Barred") (nxS)) (nxS)) (seqS (setS 5 (mapO OD.dat (badE))) (seqS (setS 6 (callF 1 F_ways (datA (varE 0) (nilA)))) (seqS (retS (mapO OD.dat (unF dictD (datO (mapO OD.dat (lcF (rng1F (consL (unF lenD (varR 6)) (nilL))) (.nm 7) (yesF) (tupE (consL (binF ixO (varR 6) (varR 7)) (consL (binF ixO (varR 5) (varR 7)) (nilL)))) [7])))))) (nxS))))))
def F_plan : List AV → FOut := bodyF 3 8 s_plan
/-- least_power: 0 book 1 raws 2 wants 3 table 4 row 5 some 6 names 7 k -/
def s_least_power : Ev → SOut := seqS (exprS (callF 3 F_look_all (datA (varE 0) (datA (varE 1) (datA (varE 2) (nilA)))))) (seqS (tgS (.tp [3, 4]) (callF 3 F_solved (datA (varE 0) (datA (varE 1) (datA (varE 2) (nilA)))))) (seqS (ifS (tstF (binF isnO (varR 4) (datO (conE .non)))) (seqS (retS (conE .non)) (nxS)) (nxS)) (seqS (setS 5 (mapO OD.dat (badE))) (seqS (setS 6 (callF 1 F_ways (datA (varE 0) (nilA)))) (seqS (retS (callF 2 F_power_of (datA (varE 0) (datA (mapO OD.dat (unF dictD (datO (mapO OD.dat (lcF (rng1F (consL (unF lenD (varR 6)) (nilL))) (.nm 7) (yesF) (tupE (consL (binF ixO (varR 6) (varR 7)) (consL (binF ixO (varR 5) (varR 7)) (nilL)))) [7]))))) (nilA))))) (nxS))))))
def F_least_power : List AV → FOut := bodyF 3 8 s_least_power
/-- paper: 0 book 1 raws 2 wants 3 words 4 table 5 row 6 some 7 k -/
def s_paper : Ev → SOut := seqS (exprS (callF 3 F_look_all (datA (varE 0) (datA (varE 1) (datA (varE 2) (nilA)))))) (seqS (setS 3 (callF 3 F_goods_asked (datA (varE 0) (datA (varE 1) (datA (varE 2) (nilA)))))) (seqS (tgS (.tp [4, 5]) (callF 3 F_solved (datA (varE 0) (datA (varE 1) (datA (varE 2) (nilA)))))) (seqS (setS 6 (ifE (tstF (binF isO (varR 5) (datO (conE .non)))) (mapO OD.dat (badE)) (mapO OD.dat (badE)))) (seqS (retS (tupE (consL (ifE (tstF (binF isO (varR 5) (datO (conE .non)))) (conE (.str "prices")) (conE (.str "barred"))) (consL (mapO OD.dat (unF dictD (datO (mapO OD.dat (lcF (rng1F (consL (unF lenD (varR 3)) (nilL))) (.nm 7) (yesF) (tupE (consL (binF ixO (varR 3) (varR 7)) (consL (binF ixO (varR 6) (varR 7)) (nilL)))) [7]))))) (nilL))))) (nxS)))))
def F_paper : List AV → FOut := bodyF 3 8 s_paper
/-- _law_side: 0 _law_script 1 _law_town 2 _law_least_many 3 _law_found 4 _law_k 5 _law_word -/
def s_law_side : Ev → SOut := seqS (setN 3 (dicN0)) (seqS (forF (rng1F (consL (binF addO (varR 2) (datO (callF 3 F_law_draw (datA (varE 0) (refA 1 (datA (binF subI (datO (conE (.int 4))) (varR 2)) (nilA))))))) (nilL))) (.nm 4) (seqS (putAt 3 (callF 2 F_law_good (datA (varE 0) (refA 1 (nilA)))) (callF 3 F_law_pick (datA (varE 0) (refA 1 (datA (mapO OD.dat (lstN (consL (conE (.int 1)) (consL (conE (.int 1)) (consL (conE (.int 2)) (consL (conE (.int 3)) (consL (conE (.int 20)) (nilL)))))))) (nilA)))))) (nxS))) (seqS (retS (unF tupD (datO (mapO OD.dat (lcF (itF (mapO OD.dat (unF skD (varR 3)))) (.nm 5) (yesF) (tupE (consL (varE 5) (consL (binF ixO (varR 3) (varR 5)) (nilL)))) [5]))))) (nxS)))
def F_law_side : List AV → FOut := bodyF 3 6 s_law_side
/-- _law_wants: 0 _law_script 1 _law_town 2 _law_book_here 3 _law_found 4 _law_k 5 _law_word -/
def s_law_wants : Ev → SOut := seqS (setN 3 (dicN0)) (seqS (forF (rng1F (consL (callF 3 F_law_draw (datA (varE 0) (refA 1 (datA (callF 3 F_law_pick (datA (varE 0) (refA 1 (datA (mapO OD.dat (lstN (consL (conE (.int 4)) (consL (conE (.int 4)) (consL (conE (.int 7)) (nilL)))))) (nilA))))) (nilA))))) (nilL))) (.nm 4) (seqS (setS 5 (callF 3 F_law_pick (datA (varE 0) (refA 1 (datA (binF addO (datO (callF 1 F_law_goods (datA (varE 2) (nilA)))) (datO (mapO OD.dat (lstN (consL (callF 2 F_law_good (datA (varE 0) (refA 1 (nilA)))) (nilL)))))) (nilA)))))) (seqS (putAt 3 (varE 5) (callF 2 F_law_rate (datA (varE 0) (refA 1 (nilA))))) (nxS)))) (seqS (retS (varE 3)) (nxS)))
def F_law_wants : List AV → FOut := bodyF 3 6 s_law_wants
/-- _law_other: 0 _law_kind 1 _law_book_here 2 _law_plan_now 3 _law_word -/
def s_law_other : Ev → SOut := seqS (ifS (tstF (binF eqO (varR 0) (datO (conE (.int 0))))) (seqS (retS (callF 2 F_rates (datA (varE 1) (datA (varE 2) (nilA))))) (nxS)) (nxS)) (seqS (ifS (tstF (binF eqO (varR 0) (datO (conE (.int 1))))) (seqS (retS (callF 2 F_power (datA (varE 1) (datA (varE 2) (nilA))))) (nxS)) (nxS)) (seqS (ifS (tstF (binF eqO (varR 0) (datO (conE (.int 2))))) (seqS (retS (callF 2 F_works (datA (varE 1) (datA (varE 2) (nilA))))) (nxS)) (nxS)) (seqS (retS (ifE (tstF (binF eqO (varR 0) (datO (conE (.int 3))))) (callF 2 F_givers (datA (varE 1) (datA (varE 3) (nilA)))) (callF 2 F_takers (datA (varE 1) (datA (varE 3) (nilA)))))) (nxS))))
def F_law_other : List AV → FOut := bodyF 4 4 s_law_other
/-- shows: 0 book 1 raws 2 wants 3 thing 4 prices 5 word 6 good 7 name -/
def s_shows : Ev → SOut := seqS (exprS (callF 3 F_look_all (datA (varE 0) (datA (varE 1) (datA (varE 2) (nilA)))))) (seqS (ifS (orF (notF (tstF (unF (isiD "tuple") (varR 3)))) (orF (tstF (binF neO (datO (unF lenD (varR 3))) (datO (conE (.int 2))))) (notF (tstF (unF (isiD "dict") (datO (binF ixO (varR 3) (datO (conE (.int 1)))))))))) (seqS (retS (conE (.bl false))) (nxS)) (nxS)) (seqS (setS 4 (binF ixO (varR 3) (datO (conE (.int 1))))) (seqS (ifS (notF (tstF (unF allD (datO (mapO OD.dat (lcF (keysF (varE 4)) (.nm 5) (yesF) (andE (unF (isiD "str") (varR 5)) (callF 1 F_is_told (datA (binF ixO (varR 4) (varR 5)) (nilA)))) [5])))))) (seqS (retS (conE (.bl false))) (nxS)) (nxS)) (seqS (ifS (tstF (binF neO (datO (mapO OD.dat (unF skD (varR 4)))) (datO (callF 3 F_goods_asked (datA (varE 0) (datA (varE 1) (datA (varE 2) (nilA)))))))) (seqS (retS (conE (.bl false))) (nxS)) (nxS)) (seqS (ifS (tstF (binF eqO (datO (binF ixO (varR 3) (datO (conE (.int 0))))) (datO (conE (.str "barred"))))) (seqS (setS 6 (unF allD (datO (mapO OD.dat (lcF (itF (callF 1 F_ways (datA (varE 0) (nilA)))) (.nm 7) (yesF) (notE (callF 2 F_is_less (datA (conE (.tup [.int 0, .int 1])) (datA (callF 2 F_gain_of (datA (binF ixO (varR 0) (varR 7)) (datA (varE 4) (nilA)))) (nilA))))) [7]))))) (seqS (retS (andE (varE 6) (callF 2 F_is_less (datA (conE (.tup [.int 0, .int 1])) (datA (callF 2 F_worth_of (datA (varE 4) (datA (varE 2) (nilA)))) (nilA)))))) (nxS))) (nxS)) (seqS (ifS (orF (tstF (binF neO (datO (binF ixO (varR 3) (datO (conE (.int 0))))) (datO (conE (.str "prices"))))) (tstF (unF anyD (datO (mapO OD.dat (lcF (itF (callF 1 F_ways (datA (varE 0) (nilA)))) (.nm 7) (yesF) (callF 2 F_is_less (datA (callF 1 F_whole (datA (binF ixO (datO (binF ixO (varR 0) (varR 7))) (datO (conE (.int 3)))) (nilA))) (datA (callF 2 F_gain_of (datA (binF ixO (varR 0) (varR 7)) (datA (varE 4) (nilA)))) (nilA)))) [7])))))) (seqS (retS (conE (.bl false))) (nxS)) (nxS)) (seqS (retS (binF eqO (datO (callF 3 F_least_power (datA (varE 0) (datA (varE 1) (datA (varE 2) (nilA)))))) (datO (callF 2 F_worth_of (datA (varE 4) (datA (varE 2) (nilA))))))) (nxS))))))))
def F_shows : List AV → FOut := bodyF 4 8 s_shows
/-- is_least: 0 book 1 raws 2 wants 3 some -/
def s_is_least : Ev → SOut := seqS (exprS (callF 3 F_look_all (datA (varE 0) (datA (varE 1) (datA (varE 2) (nilA)))))) (seqS (exprS (callF 2 F_look_plan (datA (varE 0) (datA (varE 3) (nilA))))) (seqS (ifS (notF (tstF (callF 4 F_does_meet (datA (varE 0) (datA (varE 1) (datA (varE 2) (datA (varE 3) (nilA)))))))) (seqS (retS (conE (.bl false))) (nxS)) (nxS)) (seqS (retS (binF eqO (datO (callF 2 F_power_of (datA (varE 0) (datA (varE 3) (nilA))))) (datO (callF 3 F_least_power (datA (varE 0) (datA (varE 1) (datA (varE 2) (nilA)))))))) (nxS))))
def F_is_least : List AV → FOut := bodyF 4 4 s_is_least
/-- _law_book: 0 _law_script 1 _law_town 2 _law_most 3 _law_found 4 _law_names 5 _law_turn 6 _law_name 7 _law_ticks 8 _law_need -/
def s_law_book : Ev → SOut := seqS (setN 3 (dicN0)) (seqS (setS 4 (mapO OD.dat (lstN (consL (conE (.str "dig")) (consL (conE (.str "melt")) (consL (conE (.str "a")) (consL (conE (.str "press")) (consL (conE (.str "zz")) (consL (conE (.str "make")) (nilL)))))))))) (seqS (setS 5 (callF 3 F_law_draw (datA (varE 0) (refA 1 (datA (conE (.int 6)) (nilA)))))) (seqS (forF (itF (slF (binF addO (datO (slF (varE 4) (partF (varE 5)) (noPF))) (datO (slF (varE 4) (noPF) (partF (varE 5))))) (noPF) (partF (binF addO (datO (conE (.int 1))) (datO (callF 3 F_law_draw (datA (varE 0) (refA 1 (datA (varE 2) (nilA)))))))))) (.nm 6) (seqS (setS 7 (callF 3 F_law_pick (datA (varE 0) (refA 1 (datA (mapO OD.dat (lstN (consL (conE (.int 1)) (consL (conE (.int 1)) (consL (conE (.int 2)) (consL (conE (.int 5)) (consL (conE (.int 20)) (nilL)))))))) (nilA)))))) (seqS (setS 8 (callF 3 F_law_pick (datA (varE 0) (refA 1 (datA (mapO OD.dat (lstN (consL (conE (.int 0)) (consL (conE (.int 1)) (consL (conE (.int 2)) (consL (conE (.int 7)) (consL (conE (.int 50)) (nilL)))))))) (nilA)))))) (seqS (putAt 3 (varE 6) (tupE (consL (callF 3 F_law_side (datA (varE 0) (refA 1 (datA (conE (.int 0)) (nilA))))) (consL (callF 3 F_law_side (datA (varE 0) (refA 1 (datA (conE (.int 1)) (nilA))))) (consL (varE 7) (consL (varE 8) (nilL))))))) (nxS))))) (seqS (retS (varE 3)) (nxS)))))
def F_law_book : List AV → FOut := bodyF 3 9 s_law_book
/-- _law_heard: 0 _law_kind 1 _law_book_here 2 _law_plan_now 3 _law_word 4 _law_caught 5 _law_found 6 e -/
def s_law_heard : Ev → SOut := seqS (setS 4 (conE .non)) (seqS (setS 5 (conE .non)) (seqS (tryK (sbW "WorkError") 6 4 (seqS (setS 5 (callF 4 F_law_other (datA (varE 0) (datA (varE 1) (datA (varE 2) (datA (varE 3) (nilA))))))) (nxS))) (seqS (retS (ifE (tstF (binF isO (varR 4) (datO (conE .non)))) (tupE (consL (conE (.str "found")) (consL (varE 5) (nilL)))) (callF 1 F_law_refusal (datA (varE 4) (nilA))))) (nxS))))
def F_law_heard : List AV → FOut := bodyF 4 7 s_law_heard
/-- _law_one: 0 _law_kind 1 _law_some 2 _law_book_here 3 _law_raws_here 4 _law_wants_here 5 _law_plan_now -/
def s_law_one : Ev → SOut := seqS (lstG [2, 3, 4, 5] (varE 1)) (seqS (ifS (tstF (binF eqO (varR 0) (datO (conE (.int 0))))) (seqS (retS (callF 4 F_meets (datA (varE 2) (datA (varE 3) (datA (varE 4) (datA (varE 5) (nilA))))))) (nxS)) (nxS)) (seqS (ifS (tstF (binF eqO (varR 0) (datO (conE (.int 1))))) (seqS (retS (callF 4 F_leavings (datA (varE 2) (datA (varE 3) (datA (varE 4) (datA (varE 5) (nilA))))))) (nxS)) (nxS)) (seqS (ifS (tstF (binF eqO (varR 0) (datO (conE (.int 2))))) (seqS (retS (callF 4 F_is_least (datA (varE 2) (datA (varE 3) (datA (varE 4) (datA (varE 5) (nilA))))))) (nxS)) (nxS)) (seqS (ifS (tstF (binF eqO (varR 0) (datO (conE (.int 3))))) (seqS (retS (callF 3 F_least_power (datA (varE 2) (datA (varE 3) (datA (varE 4) (nilA)))))) (nxS)) (nxS)) (seqS (ifS (tstF (binF eqO (varR 0) (datO (conE (.int 4))))) (seqS (retS (callF 3 F_paper (datA (varE 2) (datA (varE 3) (datA (varE 4) (nilA)))))) (nxS)) (nxS)) (seqS (ifS (tstF (binF eqO (varR 0) (datO (conE (.int 5))))) (seqS (retS (callF 4 F_shows (datA (varE 2) (datA (varE 3) (datA (varE 4) (datA (conE .non) (nilA))))))) (nxS)) (nxS)) (seqS (ifS (tstF (binF eqO (varR 0) (datO (conE (.int 6))))) (seqS (retS (callF 3 F_plan (datA (varE 2) (datA (varE 3) (datA (varE 4) (nilA)))))) (nxS)) (nxS)) (seqS (retS (ifE (tstF (binF eqO (varR 0) (datO (conE (.int 7))))) (callF 2 F_layers (datA (varE 2) (datA (varE 3) (nilA)))) (callF 2 F_never (datA (varE 2) (datA (varE 3) (nilA)))))) (nxS)))))))))
def F_law_one : List AV → FOut := bodyF 2 6 s_law_one
/-- _law_told: 0 _law_kind 1 _law_some 2 _law_caught 3 _law_found 4 e -/
def s_law_told : Ev → SOut := seqS (setS 2 (conE .non)) (seqS (setS 3 (conE .non)) (seqS (tryK (sbW "WorkError") 4 2 (seqS (setS 3 (callF 2 F_law_one (datA (varE 0) (datA (varE 1) (nilA))))) (nxS))) (seqS (retS (ifE (tstF (binF isO (varR 2) (datO (conE .non)))) (tupE (consL (conE (.str "found")) (consL (varE 3) (nilL)))) (callF 1 F_law_refusal (datA (varE 2) (nilA))))) (nxS))))
def F_law_told : List AV → FOut := bodyF 2 5 s_law_told
/-- law: 0 _law_script 1 _law_town 2 _law_book_here 3 _law_raws_here 4 _law_wants_here 5 _law_some 6 _law_odd 7 _law_many 8 _law_k 9 _law_bad 10 _law_rates_now 11 _law_worse 12 _law_named 13 _law_seven 14 _law_word 15 _law_ill 16 _law_wrong 17 _law_kind -/
def s_law : Ev → SOut := seqS (setN 1 (lstN (nilL))) (seqS (setS 2 (callF 3 F_law_book (datA (varE 0) (refA 1 (datA (conE (.int 6)) (nilA)))))) (seqS (setS 3 (callF 3 F_law_raws (datA (varE 0) (refA 1 (datA (varE 2) (nilA)))))) (seqS (setS 4 (callF 3 F_law_wants (datA (varE 0) (refA 1 (datA (varE 2) (nilA)))))) (seqS (setS 5 (callF 3 F_law_plan (datA (varE 0) (refA 1 (datA (varE 2) (nilA)))))) (seqS (setS 6 (mapO OD.dat (lstN (consL (mapO OD.dat (lstN (consL (conE (.str "b")) (consL (conE (.str "a")) (nilL))))) (consL (mapO OD.dat (lstN (consL (conE (.str "a")) (consL (conE (.str "a")) (nilL))))) (consL (mapO OD.dat (lstN (consL (conE (.str "A")) (nilL)))) (consL (mapO OD.dat (lstN (consL (conE (.str "a")) (consL (conE .non) (nilL))))) (consL (tupE (consL (conE (.str "a")) (nilL))) (consL (conE .non) (consL (conE (.str "a")) (consL (mapO OD.dat (lstN (consL (conE (.str "")) (nilL)))) (consL (mapO OD.dat (lstN (consL (conE (.str "abcdefghi")) (nilL)))) (nilL))))))))))))) (seqS (setS 7 (binF addO (datO (mapO OD.dat (lcF (rng2F (consL (conE (.int 1)) (consL (conE (.int 9)) (nilL)))) (.nm 8) (yesF) (binF mulS (datO (conE (.str "a"))) (varR 8)) [8]))) (datO (mapO OD.dat (lcF (rng1F (consL (conE (.int 13)) (nilL))) (.nm 8) (yesF) (binF addO (datO (conE (.str "b"))) (datO (binF ixO (datO (conE (.str "abcdefghijklm"))) (varR 8)))) [8]))))) (seqS (setS 9 (callF 3 F_law_pick (datA (varE 0) (refA 1 (datA (binF addO (varR 6) (datO (mapO OD.dat (lstN (consL (varE 7) (nilL)))))) (nilA)))))) (seqS (setS 10 (mapO OD.dat (lstN (consL (tupE (consL (conE (.int 2)) (consL (conE (.int 4)) (nilL)))) (consL (tupE (consL (conE (.int 1000001)) (consL (conE (.int 1)) (nilL)))) (consL (tupE (consL (conE (.int 1)) (consL (conE (.int 1001)) (nilL)))) (consL (tupE (consL (binF subI (datO (conE (.int 0))) (datO (conE (.int 1)))) (consL (conE (.int 1)) (nilL)))) (consL (tupE (consL (conE (.int 1)) (consL (conE (.int 0)) (nilL)))) (consL (conE (.int 1)) (consL (conE .non) (consL (tupE (consL (conE (.bl true)) (consL (conE (.int 1)) (nilL)))) (consL (mapO OD.dat (lstN (consL (conE (.int 1)) (consL (conE (.int 1)) (nilL))))) (consL (tupE (consL (conE (.int 0)) (consL (conE (.int 2)) (nilL)))) (consL (tupE (consL (conE (.int 1)) (nilL))) (nilL))))))))))))))) (seqS (setS 11 (mapO OD.dat (unF dictD (datO (mapO OD.dat (lstN (consL (tupE (consL (conE (.str "gear")) (consL (callF 3 F_law_pick (datA (varE 0) (refA 1 (datA (varE 10) (nilA))))) (nilL)))) (nilL)))))))) (seqS (setS 12 (dictX (mapO OD.dat (lstN (consL (tupE (consL (callF 3 F_law_pick (datA (varE 0) (refA 1 (datA (mapO OD.dat (lstN (consL (conE (.str "")) (consL (conE (.str "A")) (consL (conE (.int 1)) (consL (conE .non) (consL (conE (.str "abcdefghi")) (nilL)))))))) (nilA))))) (consL (tupE (consL (conE (.int 1)) (consL (conE (.int 1)) (nilL)))) (nilL)))) (nilL)))))) (seqS (setS 13 (mapO OD.dat (unF dictD (datO (mapO OD.dat (lcF (itF (conE (.str "abcdefg"))) (.nm 14) (yesF) (tupE (consL (varE 14) (consL (tupE (consL (conE (.int 1)) (consL (conE (.int 1)) (nilL)))) (nilL)))) [14])))))) (seqS (setS 15 (callF 3 F_law_pick (datA (varE 0) (refA 1 (datA (mapO OD.dat (lstN (consL (varE 11) (consL (varE 11) (consL (varE 12) (consL (varE 13) (consL (conE .non) (consL (mapO OD.dat (lstN (consL (tupE (consL (conE (.str "gear")) (consL (tupE (consL (conE (.int 1)) (consL (conE (.int 1)) (nilL)))) (nilL)))) (nilL)))) (nilL))))))))) (nilA)))))) (seqS (setS 16 (callF 4 F_law_bad_plan (datA (varE 0) (refA 1 (datA (varE 2) (datA (varE 5) (nilA))))))) (seqS (ifS (tstF (binF neO (datO (mapO OD.dat (lcF (rng1F (consL (conE (.int 9)) (nilL))) (.nm 17) (yesF) (callF 2 F_law_told (datA (varE 17) (datA (mapO OD.dat (lstN (consL (varE 2) (consL (varE 9) (consL (varE 15) (consL (varE 16) (nilL))))))) (nilA)))) [17]))) (datO (mapO OD.dat (repN (lstN (consL (tupE (consL (conE (.str "refused")) (consL (conE (.str "goods")) (nilL)))) (nilL))) (conE (.int 9))))))) (seqS (retS (conE (.bl false))) (nxS)) (nxS)) (seqS (ifS (tstF (binF neO (datO (mapO OD.dat (lcF (rng1F (consL (conE (.int 7)) (nilL))) (.nm 17) (yesF) (callF 2 F_law_told (datA (varE 17) (datA (mapO OD.dat (lstN (consL (varE 2) (consL (varE 3) (consL (varE 15) (consL (varE 16) (nilL))))))) (nilA)))) [17]))) (datO (mapO OD.dat (repN (lstN (consL (tupE (consL (conE (.str "refused")) (consL (conE (.str "rates")) (nilL)))) (nilL))) (conE (.int 7))))))) (seqS (retS (conE (.bl false))) (nxS)) (nxS)) (seqS (ifS (tstF (binF neO (datO (mapO OD.dat (lcF (rng1F (consL (conE (.int 3)) (nilL))) (.nm 17) (yesF) (callF 2 F_law_told (datA (varE 17) (datA (mapO OD.dat (lstN (consL (varE 2) (consL (varE 3) (consL (varE 4) (consL (varE 16) (nilL))))))) (nilA)))) [17]))) (datO (mapO OD.dat (repN (lstN (consL (tupE (consL (conE (.str "refused")) (consL (conE (.str "plan")) (nilL)))) (nilL))) (conE (.int 3))))))) (seqS (retS (conE (.bl false))) (nxS)) (nxS)) (seqS (setS 14 (callF 3 F_law_pick (datA (varE 0) (refA 1 (datA (mapO OD.dat (lstN (consL (conE (.str "")) (consL (conE (.str "A")) (consL (conE (.str "abcdefghi")) (consL (conE .non) (consL (conE (.int 5)) (nilL)))))))) (nilA)))))) (seqS (ifS (tstF (binF neO (datO (mapO OD.dat (lcF (rng1F (consL (conE (.int 3)) (nilL))) (.nm 17) (yesF) (callF 4 F_law_heard (datA (varE 17) (datA (varE 2) (datA (varE 16) (datA (varE 14) (nilA)))))) [17]))) (datO (mapO OD.dat (repN (lstN (consL (tupE (consL (conE (.str "refused")) (consL (conE (.str "plan")) (nilL)))) (nilL))) (conE (.int 3))))))) (seqS (retS (conE (.bl false))) (nxS)) (nxS)) (seqS (retS (binF eqO (datO (mapO OD.dat (lcF (itF (tupE (consL (conE (.int 3)) (consL (conE (.int 4)) (nilL))))) (.nm 17) (yesF) (callF 4 F_law_heard (datA (varE 17) (datA (varE 2) (datA (varE 5) (datA (varE 14) (nilA)))))) [17]))) (datO (mapO OD.dat (repN (lstN (consL (tupE (consL (conE (.str "refused")) (consL (conE (.str "goods")) (nilL)))) (nilL))) (conE (.int 2))))))) (nxS))))))))))))))))))))
def F_law : List AV → FOut := bodyF 1 18 s_law
end Wk
set_option Elab.async false
set_option linter.all false
set_option maxRecDepth 100000
set_option maxHeartbeats 4000000
namespace Wk
open PySem PySem.Spec L2 DL
def top (i : Nat) : Stmt := PySem.Challenge.pw_partworks_k25_refused_plans.main.body.getD i (.Pass ⟨0, 0, 0, 0⟩)
structure G (K : PySem.W.Frag) (mg : Str → Option Value) : Prop where
  b_ValueError : mg "ValueError" = none
  b_abs : mg "abs" = none
  b_all : mg "all" = none
  b_any : mg "any" = none
  b_bool : mg "bool" = none
  b_dict : mg "dict" = none
  b_int : mg "int" = none
  b_isinstance : mg "isinstance" = none
  b_len : mg "len" = none
  b_list : mg "list" = none
  b_range : mg "range" = none
  b_set : mg "set" = none
  b_sorted : mg "sorted" = none
  b_str : mg "str" = none
  b_tuple : mg "tuple" = none
  c_MOST_MANY : ∃ t, mg "MOST_MANY" = some (.int 20 t)
  c_MOST_POWER : ∃ t, mg "MOST_POWER" = some (.int 50 t)
  c_MOST_RAWS : ∃ t, mg "MOST_RAWS" = some (.int 20 t)
  c_MOST_SIDES : ∃ t, mg "MOST_SIDES" = some (.int 3 t)
  c_MOST_TICKS : ∃ t, mg "MOST_TICKS" = some (.int 20 t)
  c_MOST_TOP : ∃ t, mg "MOST_TOP" = some (.int 1000000 t)
  c_MOST_UNDER : ∃ t, mg "MOST_UNDER" = some (.int 1000 t)
  c_MOST_WANTS : ∃ t, mg "MOST_WANTS" = some (.int 6 t)
  c_MOST_WAYS : ∃ t, mg "MOST_WAYS" = some (.int 6 t)
  c_NOUGHT_plans : ∃ a, mg "NOUGHT_plans" = some (.ref a) ∧ ∀ H, Dat K H (.ref a) (.tup [.int 0, .int 1])
  c_SMALL : ∃ t, mg "SMALL" = some (.str "abcdefghijklmnopqrstuvwxyz" t)
  f_divisor : ∃ f fd, FunD K "divisor" "divisor" (defArgs (top 12)) (defBody (top 12)) (defScope (top 12)) [] [] f fd ∧ mg "divisor" = some (.ref f)
  f_is_less : ∃ f fd, FunD K "is_less" "is_less" (defArgs (top 19)) (defBody (top 19)) (defScope (top 19)) [] [] f fd ∧ mg "is_less" = some (.ref f)
  f_whole : ∃ f fd, FunD K "whole" "whole" (defArgs (top 20)) (defBody (top 20)) (defScope (top 20)) [] [] f fd ∧ mg "whole" = some (.ref f)
  f_upwards : ∃ f fd, FunD K "upwards" "upwards" (defArgs (top 21)) (defBody (top 21)) (defScope (top 21)) [] [] f fd ∧ mg "upwards" = some (.ref f)
  f_is_whole : ∃ f fd, FunD K "is_whole" "is_whole" (defArgs (top 31)) (defBody (top 31)) (defScope (top 31)) [] [] f fd ∧ mg "is_whole" = some (.ref f)
  f_is_word : ∃ f fd, FunD K "is_word" "is_word" (defArgs (top 32)) (defBody (top 32)) (defScope (top 32)) [] [] f fd ∧ mg "is_word" = some (.ref f)
  f_ways : ∃ f fd, FunD K "ways" "ways" (defArgs (top 36)) (defBody (top 36)) (defScope (top 36)) [] [] f fd ∧ mg "ways" = some (.ref f)
  f_all_goods : ∃ f fd, FunD K "all_goods" "all_goods" (defArgs (top 37)) (defBody (top 37)) (defScope (top 37)) [] [] f fd ∧ mg "all_goods" = some (.ref f)
  f_net : ∃ f fd, FunD K "net" "net" (defArgs (top 38)) (defBody (top 38)) (defScope (top 38)) [] [] f fd ∧ mg "net" = some (.ref f)
  f_law_cell : ∃ f fd, FunD K "_law_cell" "_law_cell" (defArgs (top 74)) (defBody (top 74)) (defScope (top 74)) [] [] f fd ∧ mg "_law_cell" = some (.ref f)
  f_law_refusal : ∃ f fd, FunD K "_law_refusal" "_law_refusal" (defArgs (top 78)) (defBody (top 78)) (defScope (top 78)) [] [] f fd ∧ mg "_law_refusal" = some (.ref f)
  f_law_goods : ∃ f fd, FunD K "_law_goods" "_law_goods" (defArgs (top 82)) (defBody (top 82)) (defScope (top 82)) [] [] f fd ∧ mg "_law_goods" = some (.ref f)
  f_least : ∃ f fd, FunD K "least" "least" (defArgs (top 13)) (defBody (top 13)) (defScope (top 13)) [] [] f fd ∧ mg "least" = some (.ref f)
  f_is_fraction : ∃ f fd, FunD K "is_fraction" "is_fraction" (defArgs (top 14)) (defBody (top 14)) (defScope (top 14)) [] [] f fd ∧ mg "is_fraction" = some (.ref f)
  f_is_side : ∃ f fd, FunD K "is_side" "is_side" (defArgs (top 33)) (defBody (top 33)) (defScope (top 33)) [] [] f fd ∧ mg "is_side" = some (.ref f)
  f_look_raws : ∃ f fd, FunD K "look_raws" "look_raws" (defArgs (top 39)) (defBody (top 39)) (defScope (top 39)) [] [] f fd ∧ mg "look_raws" = some (.ref f)
  f_goods_asked : ∃ f fd, FunD K "goods_asked" "goods_asked" (defArgs (top 64)) (defBody (top 64)) (defScope (top 64)) [] [] f fd ∧ mg "goods_asked" = some (.ref f)
  f_law_mix : ∃ f fd, FunD K "_law_mix" "_law_mix" (defArgs (top 75)) (defBody (top 75)) (defScope (top 75)) [] [] f fd ∧ mg "_law_mix" = some (.ref f)
  f_plus : ∃ f fd, FunD K "plus" "plus" (defArgs (top 15)) (defBody (top 15)) (defScope (top 15)) [] [] f fd ∧ mg "plus" = some (.ref f)
  f_minus : ∃ f fd, FunD K "minus" "minus" (defArgs (top 16)) (defBody (top 16)) (defScope (top 16)) [] [] f fd ∧ mg "minus" = some (.ref f)
  f_times : ∃ f fd, FunD K "times" "times" (defArgs (top 17)) (defBody (top 17)) (defScope (top 17)) [] [] f fd ∧ mg "times" = some (.ref f)
  f_over : ∃ f fd, FunD K "over" "over" (defArgs (top 18)) (defBody (top 18)) (defScope (top 18)) [] [] f fd ∧ mg "over" = some (.ref f)
  f_is_way : ∃ f fd, FunD K "is_way" "is_way" (defArgs (top 34)) (defBody (top 34)) (defScope (top 34)) [] [] f fd ∧ mg "is_way" = some (.ref f)
  f_look_wants : ∃ f fd, FunD K "look_wants" "look_wants" (defArgs (top 40)) (defBody (top 40)) (defScope (top 40)) [] [] f fd ∧ mg "look_wants" = some (.ref f)
  f_is_told : ∃ f fd, FunD K "is_told" "is_told" (defArgs (top 44)) (defBody (top 44)) (defScope (top 44)) [] [] f fd ∧ mg "is_told" = some (.ref f)
  f_solved : ∃ f fd, FunD K "solved" "solved" (defArgs (top 65)) (defBody (top 65)) (defScope (top 65)) [] [] f fd ∧ mg "solved" = some (.ref f)
  f_law_draw : ∃ f fd, FunD K "_law_draw" "_law_draw" (defArgs (top 76)) (defBody (top 76)) (defScope (top 76)) [] [] f fd ∧ mg "_law_draw" = some (.ref f)
  f_look_book : ∃ f fd, FunD K "look_book" "look_book" (defArgs (top 35)) (defBody (top 35)) (defScope (top 35)) [] [] f fd ∧ mg "look_book" = some (.ref f)
  f_look_plan : ∃ f fd, FunD K "look_plan" "look_plan" (defArgs (top 45)) (defBody (top 45)) (defScope (top 45)) [] [] f fd ∧ mg "look_plan" = some (.ref f)
  f_rate_of : ∃ f fd, FunD K "rate_of" "rate_of" (defArgs (top 46)) (defBody (top 46)) (defScope (top 46)) [] [] f fd ∧ mg "rate_of" = some (.ref f)
  f_power_of : ∃ f fd, FunD K "power_of" "power_of" (defArgs (top 48)) (defBody (top 48)) (defScope (top 48)) [] [] f fd ∧ mg "power_of" = some (.ref f)
  f_row_less : ∃ f fd, FunD K "row_less" "row_less" (defArgs (top 62)) (defBody (top 62)) (defScope (top 62)) [] [] f fd ∧ mg "row_less" = some (.ref f)
  f_worth_of : ∃ f fd, FunD K "worth_of" "worth_of" (defArgs (top 69)) (defBody (top 69)) (defScope (top 69)) [] [] f fd ∧ mg "worth_of" = some (.ref f)
  f_gain_of : ∃ f fd, FunD K "gain_of" "gain_of" (defArgs (top 70)) (defBody (top 70)) (defScope (top 70)) [] [] f fd ∧ mg "gain_of" = some (.ref f)
  f_law_pick : ∃ f fd, FunD K "_law_pick" "_law_pick" (defArgs (top 77)) (defBody (top 77)) (defScope (top 77)) [] [] f fd ∧ mg "_law_pick" = some (.ref f)
  f_law_raws : ∃ f fd, FunD K "_law_raws" "_law_raws" (defArgs (top 83)) (defBody (top 83)) (defScope (top 83)) [] [] f fd ∧ mg "_law_raws" = some (.ref f)
  f_look_all : ∃ f fd, FunD K "look_all" "look_all" (defArgs (top 41)) (defBody (top 41)) (defScope (top 41)) [] [] f fd ∧ mg "look_all" = some (.ref f)
  f_rates : ∃ f fd, FunD K "rates" "rates" (defArgs (top 47)) (defBody (top 47)) (defScope (top 47)) [] [] f fd ∧ mg "rates" = some (.ref f)
  f_power : ∃ f fd, FunD K "power" "power" (defArgs (top 49)) (defBody (top 49)) (defScope (top 49)) [] [] f fd ∧ mg "power" = some (.ref f)
  f_does_meet : ∃ f fd, FunD K "does_meet" "does_meet" (defArgs (top 50)) (defBody (top 50)) (defScope (top 50)) [] [] f fd ∧ mg "does_meet" = some (.ref f)
  f_works : ∃ f fd, FunD K "works" "works" (defArgs (top 53)) (defBody (top 53)) (defScope (top 53)) [] [] f fd ∧ mg "works" = some (.ref f)
  f_givers : ∃ f fd, FunD K "givers" "givers" (defArgs (top 55)) (defBody (top 55)) (defScope (top 55)) [] [] f fd ∧ mg "givers" = some (.ref f)
  f_takers : ∃ f fd, FunD K "takers" "takers" (defArgs (top 56)) (defBody (top 56)) (defScope (top 56)) [] [] f fd ∧ mg "takers" = some (.ref f)
  f_layers : ∃ f fd, FunD K "layers" "layers" (defArgs (top 57)) (defBody (top 57)) (defScope (top 57)) [] [] f fd ∧ mg "layers" = some (.ref f)
  f_law_good : ∃ f fd, FunD K "_law_good" "_law_good" (defArgs (top 79)) (defBody (top 79)) (defScope (top 79)) [] [] f fd ∧ mg "_law_good" = some (.ref f)
  f_law_rate : ∃ f fd, FunD K "_law_rate" "_law_rate" (defArgs (top 84)) (defBody (top 84)) (defScope (top 84)) [] [] f fd ∧ mg "_law_rate" = some (.ref f)
  f_law_plan : ∃ f fd, FunD K "_law_plan" "_law_plan" (defArgs (top 86)) (defBody (top 86)) (defScope (top 86)) [] [] f fd ∧ mg "_law_plan" = some (.ref f)
  f_law_bad_plan : ∃ f fd, FunD K "_law_bad_plan" "_law_bad_plan" (defArgs (top 91)) (defBody (top 91)) (defScope (top 91)) [] [] f fd ∧ mg "_law_bad_plan" = some (.ref f)
  f_meets : ∃ f fd, FunD K "meets" "meets" (defArgs (top 51)) (defBody (top 51)) (defScope (top 51)) [] [] f fd ∧ mg "meets" = some (.ref f)
  f_leavings : ∃ f fd, FunD K "leavings" "leavings" (defArgs (top 52)) (defBody (top 52)) (defScope (top 52)) [] [] f fd ∧ mg "leavings" = some (.ref f)
  f_never : ∃ f fd, FunD K "never" "never" (defArgs (top 58)) (defBody (top 58)) (defScope (top 58)) [] [] f fd ∧ mg "never" = some (.ref f)
  f_plan : ∃ f fd, FunD K "plan" "plan" (defArgs (top 66)) (defBody (top 66)) (defScope (top 66)) [] [] f fd ∧ mg "plan" = some (.ref f)
  f_least_power : ∃ f fd, FunD K "least_power" "least_power" (defArgs (top 67)) (defBody (top 67)) (defScope (top 67)) [] [] f fd ∧ mg "least_power" = some (.ref f)
  f_paper : ∃ f fd, FunD K "paper" "paper" (defArgs (top 68)) (defBody (top 68)) (defScope (top 68)) [] [] f fd ∧ mg "paper" = some (.ref f)
  f_law_side : ∃ f fd, FunD K "_law_side" "_law_side" (defArgs (top 80)) (defBody (top 80)) (defScope (top 80)) [] [] f fd ∧ mg "_law_side" = some (.ref f)
  f_law_wants : ∃ f fd, FunD K "_law_wants" "_law_wants" (defArgs (top 85)) (defBody (top 85)) (defScope (top 85)) [] [] f fd ∧ mg "_law_wants" = some (.ref f)
  f_law_other : ∃ f fd, FunD K "_law_other" "_law_other" (defArgs (top 88)) (defBody (top 88)) (defScope (top 88)) [] [] f fd ∧ mg "_law_other" = some (.ref f)
  f_shows : ∃ f fd, FunD K "shows" "shows" (defArgs (top 71)) (defBody (top 71)) (defScope (top 71)) [] [] f fd ∧ mg "shows" = some (.ref f)
  f_is_least : ∃ f fd, FunD K "is_least" "is_least" (defArgs (top 72)) (defBody (top 72)) (defScope (top 72)) [] [] f fd ∧ mg "is_least" = some (.ref f)
  f_law_book : ∃ f fd, FunD K "_law_book" "_law_book" (defArgs (top 81)) (defBody (top 81)) (defScope (top 81)) [] [] f fd ∧ mg "_law_book" = some (.ref f)
  f_law_heard : ∃ f fd, FunD K "_law_heard" "_law_heard" (defArgs (top 90)) (defBody (top 90)) (defScope (top 90)) [] [] f fd ∧ mg "_law_heard" = some (.ref f)
  f_law_one : ∃ f fd, FunD K "_law_one" "_law_one" (defArgs (top 87)) (defBody (top 87)) (defScope (top 87)) [] [] f fd ∧ mg "_law_one" = some (.ref f)
  f_law_told : ∃ f fd, FunD K "_law_told" "_law_told" (defArgs (top 89)) (defBody (top 89)) (defScope (top 89)) [] [] f fd ∧ mg "_law_told" = some (.ref f)
  f_law : ∃ f fd, FunD K "law" "law" (defArgs (top 92)) (defBody (top 92)) (defScope (top 92)) [] [] f fd ∧ mg "law" = some (.ref f)
  x_BadBook : ExcK K mg "BadBook"
  x_BadGoods : ExcK K mg "BadGoods"
  x_BadPlan : ExcK K mg "BadPlan"
  x_BadRates : ExcK K mg "BadRates"
  x_Barred : ExcK K mg "Barred"
  k_BadBook : KitOk K (.ref (He.ga K "BadBook")) (sbW "BadBook")
  k_BadGoods : KitOk K (.ref (He.ga K "BadGoods")) (sbW "BadGoods")
  k_BadPlan : KitOk K (.ref (He.ga K "BadPlan")) (sbW "BadPlan")
  k_BadRates : KitOk K (.ref (He.ga K "BadRates")) (sbW "BadRates")
  k_BadText : KitOk K (.ref (He.ga K "BadText")) (sbW "BadText")
  k_BadWorks : KitOk K (.ref (He.ga K "BadWorks")) (sbW "BadWorks")
  k_Barred : KitOk K (.ref (He.ga K "Barred")) (sbW "Barred")
  k_ValueError : KitOk K (.type "ValueError") (sbW "ValueError")
  s_WorkError : SubOk K (.ref (He.ga K "WorkError")) (sbW "WorkError")
  n_BadBook : mg "BadBook" = some (.ref (He.ga K "BadBook"))
  n_BadGoods : mg "BadGoods" = some (.ref (He.ga K "BadGoods"))
  n_BadPlan : mg "BadPlan" = some (.ref (He.ga K "BadPlan"))
  n_BadRates : mg "BadRates" = some (.ref (He.ga K "BadRates"))
  n_BadText : mg "BadText" = some (.ref (He.ga K "BadText"))
  n_BadWorks : mg "BadWorks" = some (.ref (He.ga K "BadWorks"))
  n_Barred : mg "Barred" = some (.ref (He.ga K "Barred"))
  n_WorkError : mg "WorkError" = some (.ref (He.ga K "WorkError"))
section
variable {P : Program} {w : World} {K : PySem.W.Frag} {mg : Str → Option Value} {base : Heap}
theorem sc_divisor : FnScope ["one", "other"] ["one", "other"] (defScope (top 12)) := ⟨rfl, rfl, rfl, by decide +kernel, rfl, by decide +kernel, by decide +kernel⟩
theorem k_divisor (g : G K mg) : Kn P w K mg base 1 "divisor" 2 F_divisor := by
  obtain ⟨f, fd, FD, hm⟩ := g.f_divisor
  refine kn_of FD sc_divisor hm (FD.bindsN fun _ _ _ _ _ _ us hl => match us, hl with | [_, _], _ => rfl) rfl rfl fun cd A outer s H E hr => ?_
  have hu : (A.deeper (PyProof.Rows.envOfC "divisor" (defScope (top 12)) s.heap.objs.size f cd)).units + 65 < cLine := by have := hr.un; omega
  exact dss_cons (ds_while fuel own_cx (dt_tru (dr_nm 1) (by intro _; rfl)) (dss_cons (ds_par rfl sc_divisor.nd rfl rfl (by decide) rfl rfl (dl_cons (de_nm 1) (dl_cons (de_mod (dr_nm 0) (dr_nm 1)) (dl_nil)))) (dss_nl))) (dss_cons (ds_ret (de_abs g.b_abs (dr_nm 0))) (dss_nl))
theorem sc_is_less : FnScope ["one", "other"] ["one", "other"] (defScope (top 19)) := ⟨rfl, rfl, rfl, by decide +kernel, rfl, by decide +kernel, by decide +kernel⟩
theorem k_is_less (g : G K mg) : Kn P w K mg base 1 "is_less" 2 F_is_less := by
  obtain ⟨f, fd, FD, hm⟩ := g.f_is_less
  refine kn_of FD sc_is_less hm (FD.bindsN fun _ _ _ _ _ _ us hl => match us, hl with | [_, _], _ => rfl) rfl rfl fun cd A outer s H E hr => ?_
  have hu : (A.deeper (PyProof.Rows.envOfC "is_less" (defScope (top 19)) s.heap.objs.size f cd)).units + 65 < cLine := by have := hr.un; omega
  exact dss_cons (ds_ret (de_lt (dr_of (de_mul (dr_of (de_ix hu (dr_nm 0) (dr_of (de_int)))) (dr_of (de_ix hu (dr_nm 1) (dr_of (de_int)))))) (dr_of (de_mul (dr_of (de_ix hu (dr_nm 1) (dr_of (de_int)))) (dr_of (de_ix hu (dr_nm 0) (dr_of (de_int)))))))) (dss_nl)
theorem sc_whole : FnScope ["number"] ["number"] (defScope (top 20)) := ⟨rfl, rfl, rfl, by decide +kernel, rfl, by decide +kernel, by decide +kernel⟩
theorem k_whole (g : G K mg) : Kn P w K mg base 1 "whole" 1 F_whole := by
  obtain ⟨f, fd, FD, hm⟩ := g.f_whole
  refine kn_of FD sc_whole hm (FD.bindsN fun _ _ _ _ _ _ us hl => match us, hl with | [_], _ => rfl) rfl rfl fun cd A outer s H E hr => ?_
  have hu : (A.deeper (PyProof.Rows.envOfC "whole" (defScope (top 20)) s.heap.objs.size f cd)).units + 65 < cLine := by have := hr.un; omega
  exact dss_cons (ds_ret (de_tup (dl_cons (de_nm 0) (dl_cons (de_int) (dl_nil))))) (dss_nl)
theorem sc_upwards : FnScope ["one"] ["one"] (defScope (top 21)) := ⟨rfl, rfl, rfl, by decide +kernel, rfl, by decide +kernel, by decide +kernel⟩
theorem k_upwards (g : G K mg) : Kn P w K mg base 1 "upwards" 1 F_upwards := by
  obtain ⟨f, fd, FD, hm⟩ := g.f_upwards
  refine kn_of FD sc_upwards hm (FD.bindsN fun _ _ _ _ _ _ us hl => match us, hl with | [_], _ => rfl) rfl rfl fun cd A outer s H E hr => ?_
  have hu : (A.deeper (PyProof.Rows.envOfC "upwards" (defScope (top 21)) s.heap.objs.size f cd)).units + 65 < cLine := by have := hr.un; omega
  exact dss_cons (ds_ret (de_sub (dr_of (de_int)) (dr_of (de_fdiv (dr_of (de_sub (dr_of (de_int)) (dr_of (de_ix hu (dr_nm 0) (dr_of (de_int)))))) (dr_of (de_ix hu (dr_nm 0) (dr_of (de_int)))))))) (dss_nl)
theorem sc_is_whole : FnScope ["thing", "low", "most"] ["thing", "low", "most"] (defScope (top 31)) := ⟨rfl, rfl, rfl, by decide +kernel, rfl, by decide +kernel, by decide +kernel⟩
theorem k_is_whole (g : G K mg) : Kn P w K mg base 1 "is_whole" 3 F_is_whole := by
  obtain ⟨f, fd, FD, hm⟩ := g.f_is_whole
  refine kn_of FD sc_is_whole hm (FD.bindsN fun _ _ _ _ _ _ us hl => match us, hl with | [_, _, _], _ => rfl) rfl rfl fun cd A outer s H E hr => ?_
  have hu : (A.deeper (PyProof.Rows.envOfC "is_whole" (defScope (top 31)) s.heap.objs.size f cd)).units + 65 < cLine := by have := hr.un; omega
  exact dss_cons (ds_ret (de_and (de_isi isT_int rfl g.b_isinstance rfl g.b_int (by decide +kernel) (dr_nm 0)) (de_and (de_not (de_isi isT_bool rfl g.b_isinstance rfl g.b_bool (by decide +kernel) (dr_nm 0))) (de_one (de_chain op_le op_le ok_le ok_le (dr_nm 1) (dr_nm 0) (dr_nm 2)))))) (dss_nl)
theorem sc_is_word : FnScope ["thing", "sign"] ["thing"] (defScope (top 32)) := ⟨rfl, rfl, rfl, by decide +kernel, rfl, by decide +kernel, by decide +kernel⟩
theorem k_is_word (g : G K mg) : Kn P w K mg base 1 "is_word" 1 F_is_word := by
  obtain ⟨f, fd, FD, hm⟩ := g.f_is_word
  refine kn_of FD sc_is_word hm (FD.bindsN fun _ _ _ _ _ _ us hl => match us, hl with | [_], _ => rfl) rfl rfl fun cd A outer s H E hr => ?_
  have hu : (A.deeper (PyProof.Rows.envOfC "is_word" (defScope (top 32)) s.heap.objs.size f cd)).units + 65 < cLine := by have := hr.un; omega
  exact dss_cons (ds_ret (de_and (de_isi isT_str rfl g.b_isinstance rfl g.b_str (by decide +kernel) (dr_nm 0)) (de_and (de_chain op_le op_le ok_le ok_le (dr_of (de_int)) (dr_of (de_len g.b_len (dr_nm 0))) (dr_of (de_int))) (de_one (de_all rfl g.b_all (drn_of (dn_lc (own := [("sign", 1)]) rfl sc_is_word.nd (di_seq (de_nm 0)) (blkOk_by rfl) (by decide) (fun _ _ _ _ _ => dg_name sc_is_word.nd rfl (by first | exact .inl rfl | exact .inr rfl)) (fun _ _ _ _ _ => dts_nil) (fun _ _ _ _ _ => de_inA hu (dr_nm 1) (dr_of (de_gstr g.c_SMALL rfl)))))))))) (dss_nl)
theorem sc_ways : FnScope ["book"] ["book"] (defScope (top 36)) := ⟨rfl, rfl, rfl, by decide +kernel, rfl, by decide +kernel, by decide +kernel⟩
theorem k_ways (g : G K mg) : Kn P w K mg base 1 "ways" 1 F_ways := by
  obtain ⟨f, fd, FD, hm⟩ := g.f_ways
  refine kn_of FD sc_ways hm (FD.bindsN fun _ _ _ _ _ _ us hl => match us, hl with | [_], _ => rfl) rfl rfl fun cd A outer s H E hr => ?_
  have hu : (A.deeper (PyProof.Rows.envOfC "ways" (defScope (top 36)) s.heap.objs.size f cd)).units + 65 < cLine := by have := hr.un; omega
  exact dss_cons (ds_ret (de_of (dn_sortKeys rfl rfl g.b_sorted (dr_nm 0)))) (dss_nl)
theorem sc_all_goods : FnScope ["book", "found", "name", "word", "many"] ["book"] (defScope (top 37)) := ⟨rfl, rfl, rfl, by decide +kernel, rfl, by decide +kernel, by decide +kernel⟩
theorem k_all_goods (g : G K mg) : Kn P w K mg base 1 "all_goods" 1 F_all_goods := by
  obtain ⟨f, fd, FD, hm⟩ := g.f_all_goods
  refine kn_of FD sc_all_goods hm (FD.bindsN fun _ _ _ _ _ _ us hl => match us, hl with | [_], _ => rfl) rfl rfl fun cd A outer s H E hr => ?_
  have hu : (A.deeper (PyProof.Rows.envOfC "all_goods" (defScope (top 37)) s.heap.objs.size f cd)).units + 65 < cLine := by have := hr.un; omega
  exact dss_cons (ds_setN sc_all_goods.nd rfl (by first | exact .inl rfl | exact .inr rfl) (dn_dic0)) (dss_cons (ds_for own_cx rfl (di_keys (de_nm 0)) (dg_name sc_all_goods.nd rfl (by first | exact .inl rfl | exact .inr rfl)) (dss_cons (ds_for own_cx rfl (di_seq (de_add (dr_of (de_ix hu (dr_of (de_ix hu (dr_nm 0) (dr_nm 2))) (dr_of (de_int)))) (dr_of (de_ix hu (dr_of (de_ix hu (dr_nm 0) (dr_nm 2))) (dr_of (de_int)))))) (dg_tup rfl (dgs_cons sc_all_goods.nd rfl (by first | exact .inl rfl | exact .inr rfl) (dgs_cons sc_all_goods.nd rfl (by first | exact .inl rfl | exact .inr rfl) (dgs_nil)))) (dss_cons (ds_put (i := 1) hu (pe_nm) (de_nm 3) (de_bl)) (dss_nl))) (dss_nl))) (dss_cons (ds_ret (de_of (dn_sortKeys rfl rfl g.b_sorted (dr_nm 1)))) (dss_nl)))
theorem sc_net : FnScope ["way", "word"] ["way", "word"] (defScope (top 38)) := ⟨rfl, rfl, rfl, by decide +kernel, rfl, by decide +kernel, by decide +kernel⟩
theorem k_net (g : G K mg) : Kn P w K mg base 1 "net" 2 F_net := by
  obtain ⟨f, fd, FD, hm⟩ := g.f_net
  refine kn_of FD sc_net hm (FD.bindsN fun _ _ _ _ _ _ us hl => match us, hl with | [_, _], _ => rfl) rfl rfl fun cd A outer s H E hr => ?_
  have hu : (A.deeper (PyProof.Rows.envOfC "net" (defScope (top 38)) s.heap.objs.size f cd)).units + 65 < cLine := by have := hr.un; omega
  exact dss_cons (ds_ret (de_sub (dr_of (de_get2 hu (de_of (dn_dict rfl g.b_dict (dr_of (de_ix hu (dr_nm 0) (dr_of (de_int)))))) (de_nm 1) (de_int))) (dr_of (de_get2 hu (de_of (dn_dict rfl g.b_dict (dr_of (de_ix hu (dr_nm 0) (dr_of (de_int)))))) (de_nm 1) (de_int))))) (dss_nl)
theorem sc_law_cell : FnScope ["_law_script", "_law_k"] ["_law_script", "_law_k"] (defScope (top 74)) := ⟨rfl, rfl, rfl, by decide +kernel, rfl, by decide +kernel, by decide +kernel⟩
theorem k_law_cell (g : G K mg) : Kn P w K mg base 1 "_law_cell" 2 F_law_cell := by
  obtain ⟨f, fd, FD, hm⟩ := g.f_law_cell
  refine kn_of FD sc_law_cell hm (FD.bindsN fun _ _ _ _ _ _ us hl => match us, hl with | [_, _], _ => rfl) rfl rfl fun cd A outer s H E hr => ?_
  have hu : (A.deeper (PyProof.Rows.envOfC "_law_cell" (defScope (top 74)) s.heap.objs.size f cd)).units + 65 < cLine := by have := hr.un; omega
  exact dss_cons (ds_if (dt_tru (dr_nm 0) (by intro _; rfl)) (dss_cons (ds_ret (de_ix hu (dr_nm 0) (dr_of (de_mod (dr_nm 1) (dr_of (de_len g.b_len (dr_nm 0))))))) (dss_nl)) (dss_nl)) (dss_cons (ds_ret (de_int)) (dss_nl))
theorem sc_law_refusal : FnScope ["_law_caught", "_law_kinds"] ["_law_caught"] (defScope (top 78)) := ⟨rfl, rfl, rfl, by decide +kernel, rfl, by decide +kernel, by decide +kernel⟩
theorem k_law_refusal (g : G K mg) : Kn P w K mg base 1 "_law_refusal" 1 F_law_refusal := by
  obtain ⟨f, fd, FD, hm⟩ := g.f_law_refusal
  refine kn_of FD sc_law_refusal hm (FD.bindsN fun _ _ _ _ _ _ us hl => match us, hl with | [_], _ => rfl) rfl rfl fun cd A outer s H E hr => ?_
  have hu : (A.deeper (PyProof.Rows.envOfC "_law_refusal" (defScope (top 78)) s.heap.objs.size f cd)).units + 65 < cLine := by have := hr.un; omega
  exact dss_cons (ds_if (dt_is (dr_nm 0) (dr_of (de_non))) (dss_cons (ds_ret (de_tup (dl_cons (de_str) (dl_nil)))) (dss_nl)) (dss_nl)) (dss_cons (ds_setN sc_law_refusal.nd rfl (by first | exact .inl rfl | exact .inr rfl) (dn_lst (dl_cons (de_isxG g.k_BadBook g.n_BadBook g.b_isinstance (dr_nm 0)) (dl_cons (de_isxG g.k_BadGoods g.n_BadGoods g.b_isinstance (dr_nm 0)) (dl_cons (de_isxG g.k_BadRates g.n_BadRates g.b_isinstance (dr_nm 0)) (dl_nil)))))) (dss_cons (ds_setN sc_law_refusal.nd rfl (by first | exact .inl rfl | exact .inr rfl) (dn_cat (dr_nm 1) (drn_of (dn_lst (dl_cons (de_isxG g.k_BadPlan g.n_BadPlan g.b_isinstance (dr_nm 0)) (dl_cons (de_isxG g.k_BadWorks g.n_BadWorks g.b_isinstance (dr_nm 0)) (dl_cons (de_isxG g.k_Barred g.n_Barred g.b_isinstance (dr_nm 0)) (dl_nil)))))))) (dss_cons (ds_expr (de_append (i := 1) (pe_nm) (de_isxG g.k_BadText g.n_BadText g.b_isinstance (dr_nm 0)))) (dss_cons (ds_if (DW.dt (dw_or (dt_ne hu (dr_of (de_lcnt (dr_nm 1) (de_bl))) (dr_of (de_int))) (dw_or1 (dt_not (dt_val (de_isxB g.k_ValueError g.b_ValueError (by decide +kernel) g.b_isinstance (dr_nm 0)) (by intro _; rfl)))))) (dss_cons (ds_ret (de_tup (dl_cons (de_str) (dl_nil)))) (dss_nl)) (dss_nl)) (dss_cons (ds_ret (de_tup (dl_cons (de_str) (dl_cons (de_ix hu (drn_of (dn_lst (dl_cons (de_str) (dl_cons (de_str) (dl_cons (de_str) (dl_cons (de_str) (dl_cons (de_str) (dl_cons (de_str) (dl_cons (de_str) (dl_nil)))))))))) (dr_of (de_lidx (dr_nm 1) (de_bl)))) (dl_nil))))) (dss_nl))))))
theorem sc_law_goods : FnScope ["_law_book_here", "_law_found", "_law_name", "_law_word", "_law_many"] ["_law_book_here"] (defScope (top 82)) := ⟨rfl, rfl, rfl, by decide +kernel, rfl, by decide +kernel, by decide +kernel⟩
theorem k_law_goods (g : G K mg) : Kn P w K mg base 1 "_law_goods" 1 F_law_goods := by
  obtain ⟨f, fd, FD, hm⟩ := g.f_law_goods
  refine kn_of FD sc_law_goods hm (FD.bindsN fun _ _ _ _ _ _ us hl => match us, hl with | [_], _ => rfl) rfl rfl fun cd A outer s H E hr => ?_
  have hu : (A.deeper (PyProof.Rows.envOfC "_law_goods" (defScope (top 82)) s.heap.objs.size f cd)).units + 65 < cLine := by have := hr.un; omega
  exact dss_cons (ds_set sc_law_goods.nd rfl (by first | exact .inl rfl | exact .inr rfl) (de_of (dn_lst (dl_nil)))) (dss_cons (ds_for own_cx rfl (di_seq (de_of (dn_listKeys rfl rfl g.b_list (dr_nm 0)))) (dg_name sc_law_goods.nd rfl (by first | exact .inl rfl | exact .inr rfl)) (dss_cons (ds_set sc_law_goods.nd rfl (by first | exact .inl rfl | exact .inr rfl) (de_add (dr_nm 1) (drn_of (dn_lc (own := [("_law_word", 3), ("_law_many", 4)]) rfl sc_law_goods.nd (di_seq (de_add (dr_of (de_ix hu (dr_of (de_ix hu (dr_nm 0) (dr_nm 2))) (dr_of (de_int)))) (dr_of (de_ix hu (dr_of (de_ix hu (dr_nm 0) (dr_nm 2))) (dr_of (de_int)))))) (blkOk_by rfl) (by decide) (fun _ _ _ _ _ => dg_tup rfl (dgs_cons sc_law_goods.nd rfl (by first | exact .inl rfl | exact .inr rfl) (dgs_cons sc_law_goods.nd rfl (by first | exact .inl rfl | exact .inr rfl) (dgs_nil)))) (fun _ _ _ _ _ => dts_nil) (fun _ _ _ _ _ => de_nm 3))))) (dss_nl))) (dss_cons (ds_ret (de_of (dn_sortSet rfl rfl g.b_sorted rfl g.b_set (dr_nm 1)))) (dss_nl)))
theorem sc_least : FnScope ["top", "under", "both"] ["top", "under"] (defScope (top 13)) := ⟨rfl, rfl, rfl, by decide +kernel, rfl, by decide +kernel, by decide +kernel⟩
theorem k_least (g : G K mg) : Kn P w K mg base 2 "least" 2 F_least := by
  obtain ⟨f, fd, FD, hm⟩ := g.f_least
  have k_divisor : Kn P w K mg base 1 "divisor" 2 F_divisor := (k_divisor g).mono (by decide)
  refine kn_of FD sc_least hm (FD.bindsN fun _ _ _ _ _ _ us hl => match us, hl with | [_, _], _ => rfl) rfl rfl fun cd A outer s H E hr => ?_
  have hu : (A.deeper (PyProof.Rows.envOfC "least" (defScope (top 13)) s.heap.objs.size f cd)).units + 65 < cLine := by have := hr.un; omega
  exact dss_cons (ds_if (dt_lt (dr_nm 1) (dr_of (de_int))) (dss_cons (ds_par rfl sc_least.nd rfl rfl (by decide) rfl rfl (dl_cons (de_sub (dr_of (de_int)) (dr_nm 0)) (dl_cons (de_sub (dr_of (de_int)) (dr_nm 1)) (dl_nil)))) (dss_nl)) (dss_nl)) (dss_cons (ds_set sc_least.nd rfl (by first | exact .inl rfl | exact .inr rfl) (de_call k_divisor hr pas_cx rfl (da_dat (de_nm 0) (da_dat (de_nm 1) (da_nil))))) (dss_cons (ds_ret (de_tup (dl_cons (de_fdiv (dr_nm 0) (dr_nm 2)) (dl_cons (de_fdiv (dr_nm 1) (dr_nm 2)) (dl_nil))))) (dss_nl)))
theorem sc_is_fraction : FnScope ["thing", "one"] ["thing"] (defScope (top 14)) := ⟨rfl, rfl, rfl, by decide +kernel, rfl, by decide +kernel, by decide +kernel⟩
theorem k_is_fraction (g : G K mg) : Kn P w K mg base 2 "is_fraction" 1 F_is_fraction := by
  obtain ⟨f, fd, FD, hm⟩ := g.f_is_fraction
  have k_divisor : Kn P w K mg base 1 "divisor" 2 F_divisor := (k_divisor g).mono (by decide)
  refine kn_of FD sc_is_fraction hm (FD.bindsN fun _ _ _ _ _ _ us hl => match us, hl with | [_], _ => rfl) rfl rfl fun cd A outer s H E hr => ?_
  have hu : (A.deeper (PyProof.Rows.envOfC "is_fraction" (defScope (top 14)) s.heap.objs.size f cd)).units + 65 < cLine := by have := hr.un; omega
  exact dss_cons (ds_if (DW.dt (dw_or (dt_not (dt_val (de_isi isT_tuple rfl g.b_isinstance rfl g.b_tuple (by decide +kernel) (dr_nm 0)) (by intro _; rfl))) (dw_or1 (dt_ne hu (dr_of (de_len g.b_len (dr_nm 0))) (dr_of (de_int)))))) (dss_cons (ds_ret (de_bl)) (dss_nl)) (dss_nl)) (dss_cons (ds_if (dt_not (dt_val (de_all rfl g.b_all (drn_of (dn_lc (own := [("one", 1)]) rfl sc_is_fraction.nd (di_seq (de_nm 0)) (blkOk_by rfl) (by decide) (fun _ _ _ _ _ => dg_name sc_is_fraction.nd rfl (by first | exact .inl rfl | exact .inr rfl)) (fun _ _ _ _ _ => dts_nil) (fun _ _ _ _ _ => de_and (de_isi isT_int rfl g.b_isinstance rfl g.b_int (by decide +kernel) (dr_nm 1)) (de_one (de_not (de_isi isT_bool rfl g.b_isinstance rfl g.b_bool (by decide +kernel) (dr_nm 1)))))))) (by intro _; rfl))) (dss_cons (ds_ret (de_bl)) (dss_nl)) (dss_nl)) (dss_cons (ds_ret (de_and (de_chain op_le op_le ok_le ok_le (dr_of (de_int)) (dr_of (de_ix hu (dr_nm 0) (dr_of (de_int)))) (dr_of (de_gint g.c_MOST_TOP rfl))) (de_and (de_chain op_le op_le ok_le ok_le (dr_of (de_int)) (dr_of (de_ix hu (dr_nm 0) (dr_of (de_int)))) (dr_of (de_gint g.c_MOST_UNDER rfl))) (de_one (de_eq hu (dr_of (de_call k_divisor hr pas_cx rfl (da_dat (de_ix hu (dr_nm 0) (dr_of (de_int))) (da_dat (de_ix hu (dr_nm 0) (dr_of (de_int))) (da_nil))))) (dr_of (de_int))))))) (dss_nl)))
theorem sc_is_side : FnScope ["thing", "low", "one", "words"] ["thing", "low"] (defScope (top 33)) := ⟨rfl, rfl, rfl, by decide +kernel, rfl, by decide +kernel, by decide +kernel⟩
theorem k_is_side (g : G K mg) : Kn P w K mg base 2 "is_side" 2 F_is_side := by
  obtain ⟨f, fd, FD, hm⟩ := g.f_is_side
  have k_is_whole : Kn P w K mg base 1 "is_whole" 3 F_is_whole := (k_is_whole g).mono (by decide)
  have k_is_word : Kn P w K mg base 1 "is_word" 1 F_is_word := (k_is_word g).mono (by decide)
  refine kn_of FD sc_is_side hm (FD.bindsN fun _ _ _ _ _ _ us hl => match us, hl with | [_, _], _ => rfl) rfl rfl fun cd A outer s H E hr => ?_
  have hu : (A.deeper (PyProof.Rows.envOfC "is_side" (defScope (top 33)) s.heap.objs.size f cd)).units + 65 < cLine := by have := hr.un; omega
  exact dss_cons (ds_if (DW.dt (dw_or (dt_not (dt_val (de_isi isT_tuple rfl g.b_isinstance rfl g.b_tuple (by decide +kernel) (dr_nm 0)) (by intro _; rfl))) (dw_or1 (dt_not (dt_chain op_le op_le ok_le ok_le (dr_nm 1) (dr_of (de_len g.b_len (dr_nm 0))) (dr_of (de_gint g.c_MOST_SIDES rfl))))))) (dss_cons (ds_ret (de_bl)) (dss_nl)) (dss_nl)) (dss_cons (ds_if (dt_not (dt_val (de_all rfl g.b_all (drn_of (dn_lc (own := [("one", 2)]) rfl sc_is_side.nd (di_seq (de_nm 0)) (blkOk_by rfl) (by decide) (fun _ _ _ _ _ => dg_name sc_is_side.nd rfl (by first | exact .inl rfl | exact .inr rfl)) (fun _ _ _ _ _ => dts_nil) (fun _ _ _ _ _ => de_and (de_isi isT_tuple rfl g.b_isinstance rfl g.b_tuple (by decide +kernel) (dr_nm 2)) (de_one (de_eq hu (dr_of (de_len g.b_len (dr_nm 2))) (dr_of (de_int)))))))) (by intro _; rfl))) (dss_cons (ds_ret (de_bl)) (dss_nl)) (dss_nl)) (dss_cons (ds_if (dt_not (dt_val (de_all rfl g.b_all (drn_of (dn_lc (own := [("one", 2)]) rfl sc_is_side.nd (di_seq (de_nm 0)) (blkOk_by rfl) (by decide) (fun _ _ _ _ _ => dg_name sc_is_side.nd rfl (by first | exact .inl rfl | exact .inr rfl)) (fun _ _ _ _ _ => dts_nil) (fun _ _ _ _ _ => de_and (de_call k_is_word hr pas0 rfl (da_dat (de_ix hu (dr_nm 2) (dr_of (de_int))) (da_nil))) (de_one (de_call k_is_whole hr pas0 rfl (da_dat (de_ix hu (dr_nm 2) (dr_of (de_int))) (da_dat (de_int) (da_dat (de_gint g.c_MOST_MANY rfl) (da_nil)))))))))) (by intro _; rfl))) (dss_cons (ds_ret (de_bl)) (dss_nl)) (dss_nl)) (dss_cons (ds_setLcN (own := [("one", 2)]) rfl sc_is_side.nd rfl rfl (sw_true rfl rfl rfl rfl) (di_seq (de_nm 0)) (blkOk_by rfl) (by decide) (fun _ _ _ _ _ => dg_name sc_is_side.nd rfl (by first | exact .inl rfl | exact .inr rfl)) (fun _ _ _ _ _ => dts_nil) (fun _ _ _ _ _ => de_ix hu (dr_nm 2) (dr_of (de_int)))) (dss_cons (ds_ret (de_eq hu (drn_of (dn_sortSet rfl rfl g.b_sorted rfl g.b_set (dr_nm 3))) (dr_nm 3))) (dss_nl)))))
theorem sc_look_raws : FnScope ["raws", "word"] ["raws"] (defScope (top 39)) := ⟨rfl, rfl, rfl, by decide +kernel, rfl, by decide +kernel, by decide +kernel⟩
theorem k_look_raws (g : G K mg) : Kn P w K mg base 2 "look_raws" 1 F_look_raws := by
  obtain ⟨f, fd, FD, hm⟩ := g.f_look_raws
  have k_is_word : Kn P w K mg base 1 "is_word" 1 F_is_word := (k_is_word g).mono (by decide)
  refine kn_of FD sc_look_raws hm (FD.bindsN fun _ _ _ _ _ _ us hl => match us, hl with | [_], _ => rfl) rfl rfl fun cd A outer s H E hr => ?_
  have hu : (A.deeper (PyProof.Rows.envOfC "look_raws" (defScope (top 39)) s.heap.objs.size f cd)).units + 65 < cLine := by have := hr.un; omega
  exact dss_cons (ds_if (DW.dt (dw_or (dt_not (dt_val (de_isi isT_list rfl g.b_isinstance rfl g.b_list (by decide +kernel) (dr_nm 0)) (by intro _; rfl))) (dw_or (dt_gt (dr_of (de_len g.b_len (dr_nm 0))) (dr_of (de_gint g.c_MOST_RAWS rfl))) (dw_or1 (dt_not (dt_val (de_all rfl g.b_all (drn_of (dn_lc (own := [("word", 1)]) rfl sc_look_raws.nd (di_seq (de_nm 0)) (blkOk_by rfl) (by decide) (fun _ _ _ _ _ => dg_name sc_look_raws.nd rfl (by first | exact .inl rfl | exact .inr rfl)) (fun _ _ _ _ _ => dts_nil) (fun _ _ _ _ _ => de_call k_is_word hr pas0 rfl (da_dat (de_nm 1) (da_nil)))))) (by intro _; rfl))))))) (dss_cons (ds_raise g.x_BadGoods takes_cx) (dss_nl)) (dss_nl)) (dss_cons (ds_if (dt_ne hu (drn_of (dn_sortSet rfl rfl g.b_sorted rfl g.b_set (dr_nm 0))) (dr_nm 0)) (dss_cons (ds_raise g.x_BadGoods takes_cx) (dss_nl)) (dss_nl)) (dss_nl))
theorem sc_goods_asked : FnScope ["book", "raws", "wants", "word"] ["book", "raws", "wants"] (defScope (top 64)) := ⟨rfl, rfl, rfl, by decide +kernel, rfl, by decide +kernel, by decide +kernel⟩
theorem k_goods_asked (g : G K mg) : Kn P w K mg base 2 "goods_asked" 3 F_goods_asked := by
  obtain ⟨f, fd, FD, hm⟩ := g.f_goods_asked
  have k_all_goods : Kn P w K mg base 1 "all_goods" 1 F_all_goods := (k_all_goods g).mono (by decide)
  refine kn_of FD sc_goods_asked hm (FD.bindsN fun _ _ _ _ _ _ us hl => match us, hl with | [_, _, _], _ => rfl) rfl rfl fun cd A outer s H E hr => ?_
  have hu : (A.deeper (PyProof.Rows.envOfC "goods_asked" (defScope (top 64)) s.heap.objs.size f cd)).units + 65 < cLine := by have := hr.un; omega
  exact dss_cons (ds_ret (de_of (dn_lc (own := [("word", 3)]) rfl sc_goods_asked.nd (di_seq (de_of (dn_sortSet rfl rfl g.b_sorted rfl g.b_set (dr_of (de_add (dr_of (de_call k_all_goods hr pas_cx rfl (da_dat (de_nm 0) (da_nil)))) (drn_of (dn_listKeys rfl rfl g.b_list (dr_nm 2)))))))) (blkOk_by rfl) (by decide) (fun _ _ _ _ _ => dg_name sc_goods_asked.nd rfl (by first | exact .inl rfl | exact .inr rfl)) (fun _ _ _ _ _ => dts_one (dt_ninA hu (dr_nm 3) (dr_nm 1))) (fun _ _ _ _ _ => de_nm 3)))) (dss_nl)
theorem sc_law_mix : FnScope ["_law_script", "_law_k", "_law_number"] ["_law_script", "_law_k"] (defScope (top 75)) := ⟨rfl, rfl, rfl, by decide +kernel, rfl, by decide +kernel, by decide +kernel⟩
theorem k_law_mix (g : G K mg) : Kn P w K mg base 2 "_law_mix" 2 F_law_mix := by
  obtain ⟨f, fd, FD, hm⟩ := g.f_law_mix
  have k_law_cell : Kn P w K mg base 1 "_law_cell" 2 F_law_cell := (k_law_cell g).mono (by decide)
  refine kn_of FD sc_law_mix hm (FD.bindsN fun _ _ _ _ _ _ us hl => match us, hl with | [_, _], _ => rfl) rfl rfl fun cd A outer s H E hr => ?_
  have hu : (A.deeper (PyProof.Rows.envOfC "_law_mix" (defScope (top 75)) s.heap.objs.size f cd)).units + 65 < cLine := by have := hr.un; omega
  exact dss_cons (ds_set sc_law_mix.nd rfl (by first | exact .inl rfl | exact .inr rfl) (de_mod (dr_of (de_add (dr_of (de_call k_law_cell hr pas_cx rfl (da_dat (de_nm 0) (da_dat (de_nm 1) (da_nil))))) (dr_of (de_mul (dr_of (de_int)) (dr_of (de_add (dr_nm 1) (dr_of (de_int)))))))) (dr_of (de_int)))) (dss_cons (ds_set sc_law_mix.nd rfl (by first | exact .inl rfl | exact .inr rfl) (de_mod (dr_of (de_pow (dr_nm 2) (dr_of (de_int)))) (dr_of (de_int)))) (dss_cons (ds_ret (de_mod (dr_of (de_add (dr_of (de_mul (dr_of (de_fdiv (dr_nm 2) (dr_of (de_int)))) (dr_of (de_int)))) (dr_nm 2))) (dr_of (de_int)))) (dss_nl)))
theorem sc_plus : FnScope ["one", "other"] ["one", "other"] (defScope (top 15)) := ⟨rfl, rfl, rfl, by decide +kernel, rfl, by decide +kernel, by decide +kernel⟩
theorem k_plus (g : G K mg) : Kn P w K mg base 3 "plus" 2 F_plus := by
  obtain ⟨f, fd, FD, hm⟩ := g.f_plus
  have k_least : Kn P w K mg base 2 "least" 2 F_least := (k_least g).mono (by decide)
  refine kn_of FD sc_plus hm (FD.bindsN fun _ _ _ _ _ _ us hl => match us, hl with | [_, _], _ => rfl) rfl rfl fun cd A outer s H E hr => ?_
  have hu : (A.deeper (PyProof.Rows.envOfC "plus" (defScope (top 15)) s.heap.objs.size f cd)).units + 65 < cLine := by have := hr.un; omega
  exact dss_cons (ds_ret (de_call k_least hr pas_cx rfl (da_dat (de_add (dr_of (de_mul (dr_of (de_ix hu (dr_nm 0) (dr_of (de_int)))) (dr_of (de_ix hu (dr_nm 1) (dr_of (de_int)))))) (dr_of (de_mul (dr_of (de_ix hu (dr_nm 1) (dr_of (de_int)))) (dr_of (de_ix hu (dr_nm 0) (dr_of (de_int))))))) (da_dat (de_mul (dr_of (de_ix hu (dr_nm 0) (dr_of (de_int)))) (dr_of (de_ix hu (dr_nm 1) (dr_of (de_int))))) (da_nil))))) (dss_nl)
theorem sc_minus : FnScope ["one", "other"] ["one", "other"] (defScope (top 16)) := ⟨rfl, rfl, rfl, by decide +kernel, rfl, by decide +kernel, by decide +kernel⟩
theorem k_minus (g : G K mg) : Kn P w K mg base 3 "minus" 2 F_minus := by
  obtain ⟨f, fd, FD, hm⟩ := g.f_minus
  have k_least : Kn P w K mg base 2 "least" 2 F_least := (k_least g).mono (by decide)
  refine kn_of FD sc_minus hm (FD.bindsN fun _ _ _ _ _ _ us hl => match us, hl with | [_, _], _ => rfl) rfl rfl fun cd A outer s H E hr => ?_
  have hu : (A.deeper (PyProof.Rows.envOfC "minus" (defScope (top 16)) s.heap.objs.size f cd)).units + 65 < cLine := by have := hr.un; omega
  exact dss_cons (ds_ret (de_call k_least hr pas_cx rfl (da_dat (de_sub (dr_of (de_mul (dr_of (de_ix hu (dr_nm 0) (dr_of (de_int)))) (dr_of (de_ix hu (dr_nm 1) (dr_of (de_int)))))) (dr_of (de_mul (dr_of (de_ix hu (dr_nm 1) (dr_of (de_int)))) (dr_of (de_ix hu (dr_nm 0) (dr_of (de_int))))))) (da_dat (de_mul (dr_of (de_ix hu (dr_nm 0) (dr_of (de_int)))) (dr_of (de_ix hu (dr_nm 1) (dr_of (de_int))))) (da_nil))))) (dss_nl)
theorem sc_times : FnScope ["one", "other"] ["one", "other"] (defScope (top 17)) := ⟨rfl, rfl, rfl, by decide +kernel, rfl, by decide +kernel, by decide +kernel⟩
theorem k_times (g : G K mg) : Kn P w K mg base 3 "times" 2 F_times := by
  obtain ⟨f, fd, FD, hm⟩ := g.f_times
  have k_least : Kn P w K mg base 2 "least" 2 F_least := (k_least g).mono (by decide)
  refine kn_of FD sc_times hm (FD.bindsN fun _ _ _ _ _ _ us hl => match us, hl with | [_, _], _ => rfl) rfl rfl fun cd A outer s H E hr => ?_
  have hu : (A.deeper (PyProof.Rows.envOfC "times" (defScope (top 17)) s.heap.objs.size f cd)).units + 65 < cLine := by have := hr.un; omega
  exact dss_cons (ds_ret (de_call k_least hr pas_cx rfl (da_dat (de_mul (dr_of (de_ix hu (dr_nm 0) (dr_of (de_int)))) (dr_of (de_ix hu (dr_nm 1) (dr_of (de_int))))) (da_dat (de_mul (dr_of (de_ix hu (dr_nm 0) (dr_of (de_int)))) (dr_of (de_ix hu (dr_nm 1) (dr_of (de_int))))) (da_nil))))) (dss_nl)
theorem sc_over : FnScope ["one", "other"] ["one", "other"] (defScope (top 18)) := ⟨rfl, rfl, rfl, by decide +kernel, rfl, by decide +kernel, by decide +kernel⟩
theorem k_over (g : G K mg) : Kn P w K mg base 3 "over" 2 F_over := by
  obtain ⟨f, fd, FD, hm⟩ := g.f_over
  have k_least : Kn P w K mg base 2 "least" 2 F_least := (k_least g).mono (by decide)
  refine kn_of FD sc_over hm (FD.bindsN fun _ _ _ _ _ _ us hl => match us, hl with | [_, _], _ => rfl) rfl rfl fun cd A outer s H E hr => ?_
  have hu : (A.deeper (PyProof.Rows.envOfC "over" (defScope (top 18)) s.heap.objs.size f cd)).units + 65 < cLine := by have := hr.un; omega
  exact dss_cons (ds_ret (de_call k_least hr pas_cx rfl (da_dat (de_mul (dr_of (de_ix hu (dr_nm 0) (dr_of (de_int)))) (dr_of (de_ix hu (dr_nm 1) (dr_of (de_int))))) (da_dat (de_mul (dr_of (de_ix hu (dr_nm 0) (dr_of (de_int)))) (dr_of (de_ix hu (dr_nm 1) (dr_of (de_int))))) (da_nil))))) (dss_nl)
theorem sc_is_way : FnScope ["thing"] ["thing"] (defScope (top 34)) := ⟨rfl, rfl, rfl, by decide +kernel, rfl, by decide +kernel, by decide +kernel⟩
theorem k_is_way (g : G K mg) : Kn P w K mg base 3 "is_way" 1 F_is_way := by
  obtain ⟨f, fd, FD, hm⟩ := g.f_is_way
  have k_is_side : Kn P w K mg base 2 "is_side" 2 F_is_side := (k_is_side g).mono (by decide)
  have k_is_whole : Kn P w K mg base 2 "is_whole" 3 F_is_whole := (k_is_whole g).mono (by decide)
  refine kn_of FD sc_is_way hm (FD.bindsN fun _ _ _ _ _ _ us hl => match us, hl with | [_], _ => rfl) rfl rfl fun cd A outer s H E hr => ?_
  have hu : (A.deeper (PyProof.Rows.envOfC "is_way" (defScope (top 34)) s.heap.objs.size f cd)).units + 65 < cLine := by have := hr.un; omega
  exact dss_cons (ds_if (DW.dt (dw_or (dt_not (dt_val (de_isi isT_tuple rfl g.b_isinstance rfl g.b_tuple (by decide +kernel) (dr_nm 0)) (by intro _; rfl))) (dw_or (dt_ne hu (dr_of (de_len g.b_len (dr_nm 0))) (dr_of (de_int))) (dw_or (dt_not (dt_val (de_call k_is_side hr pas_cx rfl (da_dat (de_ix hu (dr_nm 0) (dr_of (de_int))) (da_dat (de_int) (da_nil)))) (by intro _; rfl))) (dw_or1 (dt_not (dt_val (de_call k_is_side hr pas_cx rfl (da_dat (de_ix hu (dr_nm 0) (dr_of (de_int))) (da_dat (de_int) (da_nil)))) (by intro _; rfl)))))))) (dss_cons (ds_ret (de_bl)) (dss_nl)) (dss_nl)) (dss_cons (ds_ret (de_and (de_call k_is_whole hr pas_cx rfl (da_dat (de_ix hu (dr_nm 0) (dr_of (de_int))) (da_dat (de_int) (da_dat (de_gint g.c_MOST_TICKS rfl) (da_nil))))) (de_one (de_call k_is_whole hr pas_cx rfl (da_dat (de_ix hu (dr_nm 0) (dr_of (de_int))) (da_dat (de_int) (da_dat (de_gint g.c_MOST_POWER rfl) (da_nil)))))))) (dss_nl))
theorem sc_look_wants : FnScope ["wants", "word"] ["wants"] (defScope (top 40)) := ⟨rfl, rfl, rfl, by decide +kernel, rfl, by decide +kernel, by decide +kernel⟩
theorem k_look_wants (g : G K mg) : Kn P w K mg base 3 "look_wants" 1 F_look_wants := by
  obtain ⟨f, fd, FD, hm⟩ := g.f_look_wants
  have k_is_fraction : Kn P w K mg base 2 "is_fraction" 1 F_is_fraction := (k_is_fraction g).mono (by decide)
  have k_is_word : Kn P w K mg base 2 "is_word" 1 F_is_word := (k_is_word g).mono (by decide)
  refine kn_of FD sc_look_wants hm (FD.bindsN fun _ _ _ _ _ _ us hl => match us, hl with | [_], _ => rfl) rfl rfl fun cd A outer s H E hr => ?_
  have hu : (A.deeper (PyProof.Rows.envOfC "look_wants" (defScope (top 40)) s.heap.objs.size f cd)).units + 65 < cLine := by have := hr.un; omega
  exact dss_cons (ds_if (DW.dt (dw_or (dt_not (dt_val (de_isi isT_dict rfl g.b_isinstance rfl g.b_dict (by decide +kernel) (dr_nm 0)) (by intro _; rfl))) (dw_or1 (dt_gt (dr_of (de_len g.b_len (dr_nm 0))) (dr_of (de_gint g.c_MOST_WANTS rfl)))))) (dss_cons (ds_raise g.x_BadRates takes_cx) (dss_nl)) (dss_nl)) (dss_cons (ds_if (dt_not (dt_val (de_all rfl g.b_all (drn_of (dn_lc (own := [("word", 1)]) rfl sc_look_wants.nd (di_keys (de_nm 0)) (blkOk_by rfl) (by decide) (fun _ _ _ _ _ => dg_name sc_look_wants.nd rfl (by first | exact .inl rfl | exact .inr rfl)) (fun _ _ _ _ _ => dts_nil) (fun _ _ _ _ _ => de_and (de_call k_is_word hr pas0 rfl (da_dat (de_nm 1) (da_nil))) (de_one (de_call k_is_fraction hr pas0 rfl (da_dat (de_ix hu (dr_nm 0) (dr_nm 1)) (da_nil)))))))) (by intro _; rfl))) (dss_cons (ds_raise g.x_BadRates takes_cx) (dss_nl)) (dss_nl)) (dss_nl))
theorem sc_is_told : FnScope ["thing", "one"] ["thing"] (defScope (top 44)) := ⟨rfl, rfl, rfl, by decide +kernel, rfl, by decide +kernel, by decide +kernel⟩
theorem k_is_told (g : G K mg) : Kn P w K mg base 3 "is_told" 1 F_is_told := by
  obtain ⟨f, fd, FD, hm⟩ := g.f_is_told
  have k_least : Kn P w K mg base 2 "least" 2 F_least := (k_least g).mono (by decide)
  refine kn_of FD sc_is_told hm (FD.bindsN fun _ _ _ _ _ _ us hl => match us, hl with | [_], _ => rfl) rfl rfl fun cd A outer s H E hr => ?_
  have hu : (A.deeper (PyProof.Rows.envOfC "is_told" (defScope (top 44)) s.heap.objs.size f cd)).units + 65 < cLine := by have := hr.un; omega
  exact dss_cons (ds_if (DW.dt (dw_or (dt_not (dt_val (de_isi isT_tuple rfl g.b_isinstance rfl g.b_tuple (by decide +kernel) (dr_nm 0)) (by intro _; rfl))) (dw_or1 (dt_ne hu (dr_of (de_len g.b_len (dr_nm 0))) (dr_of (de_int)))))) (dss_cons (ds_ret (de_bl)) (dss_nl)) (dss_nl)) (dss_cons (ds_if (dt_not (dt_val (de_all rfl g.b_all (drn_of (dn_lc (own := [("one", 1)]) rfl sc_is_told.nd (di_seq (de_nm 0)) (blkOk_by rfl) (by decide) (fun _ _ _ _ _ => dg_name sc_is_told.nd rfl (by first | exact .inl rfl | exact .inr rfl)) (fun _ _ _ _ _ => dts_nil) (fun _ _ _ _ _ => de_and (de_isi isT_int rfl g.b_isinstance rfl g.b_int (by decide +kernel) (dr_nm 1)) (de_and (de_not (de_isi isT_bool rfl g.b_isinstance rfl g.b_bool (by decide +kernel) (dr_nm 1))) (de_one (de_ge (dr_nm 1) (dr_of (de_int))))))))) (by intro _; rfl))) (dss_cons (ds_ret (de_bl)) (dss_nl)) (dss_nl)) (dss_cons (ds_ret (de_and (de_gt (dr_of (de_ix hu (dr_nm 0) (dr_of (de_int)))) (dr_of (de_int))) (de_one (de_eq hu (dr_of (de_call k_least hr pas_cx rfl (da_dat (de_ix hu (dr_nm 0) (dr_of (de_int))) (da_dat (de_ix hu (dr_nm 0) (dr_of (de_int))) (da_nil))))) (dr_nm 0))))) (dss_nl)))
theorem sc_solved : FnScope ["book", "raws", "wants", "words", "names", "rows", "name", "word", "table"] ["book", "raws", "wants"] (defScope (top 65)) := ⟨rfl, rfl, rfl, by decide +kernel, rfl, by decide +kernel, by decide +kernel⟩
theorem k_solved (g : G K mg) : Kn P w K mg base 3 "solved" 3 F_solved := by
  obtain ⟨f, fd, FD, hm⟩ := g.f_solved
  have k_goods_asked : Kn P w K mg base 2 "goods_asked" 3 F_goods_asked := (k_goods_asked g).mono (by decide)
  have k_net : Kn P w K mg base 2 "net" 2 F_net := (k_net g).mono (by decide)
  have k_ways : Kn P w K mg base 2 "ways" 1 F_ways := (k_ways g).mono (by decide)
  have k_whole : Kn P w K mg base 2 "whole" 1 F_whole := (k_whole g).mono (by decide)
  refine kn_of FD sc_solved hm (FD.bindsN fun _ _ _ _ _ _ us hl => match us, hl with | [_, _, _], _ => rfl) rfl rfl fun cd A outer s H E hr => ?_
  have hu : (A.deeper (PyProof.Rows.envOfC "solved" (defScope (top 65)) s.heap.objs.size f cd)).units + 65 < cLine := by have := hr.un; omega
  exact dss_cons (ds_set sc_solved.nd rfl (by first | exact .inl rfl | exact .inr rfl) (de_call k_goods_asked hr pas_cx rfl (da_dat (de_nm 0) (da_dat (de_nm 1) (da_dat (de_nm 2) (da_nil)))))) (dss_cons (ds_set sc_solved.nd rfl (by first | exact .inl rfl | exact .inr rfl) (de_call k_ways hr pas_cx rfl (da_dat (de_nm 0) (da_nil)))) (dss_cons (ds_setLcN (own := [("word", 7)]) rfl sc_solved.nd rfl rfl (sw_true rfl rfl rfl rfl) (di_seq (de_nm 3)) (blkOk_by rfl) (by decide) (fun _ _ _ _ _ => dg_name sc_solved.nd rfl (by first | exact .inl rfl | exact .inr rfl)) (fun _ _ _ _ _ => dts_nil) (fun _ _ _ _ _ => de_of (dn_lc (own := [("name", 6)]) rfl sc_solved.nd (di_seq (de_nm 4)) (blkOk_by rfl) (by decide) (fun _ _ _ _ _ => dg_name sc_solved.nd rfl (by first | exact .inl rfl | exact .inr rfl)) (fun _ _ _ _ _ => dts_nil) (fun _ _ _ _ _ => de_call k_whole hr pas0 rfl (da_dat (de_call k_net hr pas0 rfl (da_dat (de_ix hu (dr_nm 0) (dr_nm 6)) (da_dat (de_nm 7) (da_nil)))) (da_nil)))))) (dss_cons (ds_set sc_solved.nd rfl (by first | exact .inl rfl | exact .inr rfl) (de_bad)) (dss_cons (ds_ret (de_tup (dl_cons (de_nm 8) (dl_cons (de_of (dn_bad)) (dl_nil))))) (dss_nl)))))
theorem sc_law_draw : FnScope ["_law_script", "_law_town", "_law_many"] ["_law_script", "_law_town", "_law_many"] (defScope (top 76)) := ⟨rfl, rfl, rfl, by decide +kernel, rfl, by decide +kernel, by decide +kernel⟩
theorem k_law_draw (g : G K mg) : Kn P w K mg base 3 "_law_draw" 3 F_law_draw := by
  obtain ⟨f, fd, FD, hm⟩ := g.f_law_draw
  have k_law_mix : Kn P w K mg base 2 "_law_mix" 2 F_law_mix := (k_law_mix g).mono (by decide)
  refine kn_of FD sc_law_draw hm (FD.bindsN fun _ _ _ _ _ _ us hl => match us, hl with | [_, _, _], _ => rfl) rfl rfl fun cd A outer s H E hr => ?_
  have hu : (A.deeper (PyProof.Rows.envOfC "_law_draw" (defScope (top 76)) s.heap.objs.size f cd)).units + 65 < cLine := by have := hr.un; omega
  exact dss_cons (ds_expr (de_append (i := 1) (pe_nm) (de_int))) (dss_cons (ds_ret (de_mod (dr_of (de_fdiv (dr_of (de_call k_law_mix hr pas_cx rfl (da_dat (de_nm 0) (da_dat (de_len g.b_len (dr_nm 1)) (da_nil))))) (dr_of (de_int)))) (dr_nm 2))) (dss_nl))
theorem sc_look_book : FnScope ["book", "name"] ["book"] (defScope (top 35)) := ⟨rfl, rfl, rfl, by decide +kernel, rfl, by decide +kernel, by decide +kernel⟩
theorem k_look_book (g : G K mg) : Kn P w K mg base 4 "look_book" 1 F_look_book := by
  obtain ⟨f, fd, FD, hm⟩ := g.f_look_book
  have k_is_way : Kn P w K mg base 3 "is_way" 1 F_is_way := (k_is_way g).mono (by decide)
  have k_is_word : Kn P w K mg base 3 "is_word" 1 F_is_word := (k_is_word g).mono (by decide)
  refine kn_of FD sc_look_book hm (FD.bindsN fun _ _ _ _ _ _ us hl => match us, hl with | [_], _ => rfl) rfl rfl fun cd A outer s H E hr => ?_
  have hu : (A.deeper (PyProof.Rows.envOfC "look_book" (defScope (top 35)) s.heap.objs.size f cd)).units + 65 < cLine := by have := hr.un; omega
  exact dss_cons (ds_if (DW.dt (dw_or (dt_not (dt_val (de_isi isT_dict rfl g.b_isinstance rfl g.b_dict (by decide +kernel) (dr_nm 0)) (by intro _; rfl))) (dw_or1 (dt_not (dt_chain op_le op_le ok_le ok_le (dr_of (de_int)) (dr_of (de_len g.b_len (dr_nm 0))) (dr_of (de_gint g.c_MOST_WAYS rfl))))))) (dss_cons (ds_raise g.x_BadBook takes_cx) (dss_nl)) (dss_nl)) (dss_cons (ds_for own_cx rfl (di_keys (de_nm 0)) (dg_name sc_look_book.nd rfl (by first | exact .inl rfl | exact .inr rfl)) (dss_cons (ds_if (DW.dt (dw_or (dt_not (dt_val (de_call k_is_word hr pas_cx rfl (da_dat (de_nm 1) (da_nil))) (by intro _; rfl))) (dw_or1 (dt_not (dt_val (de_call k_is_way hr pas_cx rfl (da_dat (de_ix hu (dr_nm 0) (dr_nm 1)) (da_nil))) (by intro _; rfl)))))) (dss_cons (ds_raise g.x_BadBook takes_cx) (dss_nl)) (dss_nl)) (dss_nl))) (dss_nl))
theorem sc_look_plan : FnScope ["book", "plan", "name"] ["book", "plan"] (defScope (top 45)) := ⟨rfl, rfl, rfl, by decide +kernel, rfl, by decide +kernel, by decide +kernel⟩
theorem k_look_plan (g : G K mg) : Kn P w K mg base 4 "look_plan" 2 F_look_plan := by
  obtain ⟨f, fd, FD, hm⟩ := g.f_look_plan
  have k_is_told : Kn P w K mg base 3 "is_told" 1 F_is_told := (k_is_told g).mono (by decide)
  have k_ways : Kn P w K mg base 3 "ways" 1 F_ways := (k_ways g).mono (by decide)
  refine kn_of FD sc_look_plan hm (FD.bindsN fun _ _ _ _ _ _ us hl => match us, hl with | [_, _], _ => rfl) rfl rfl fun cd A outer s H E hr => ?_
  have hu : (A.deeper (PyProof.Rows.envOfC "look_plan" (defScope (top 45)) s.heap.objs.size f cd)).units + 65 < cLine := by have := hr.un; omega
  exact dss_cons (ds_if (DW.dt (dw_or (dt_not (dt_val (de_isi isT_dict rfl g.b_isinstance rfl g.b_dict (by decide +kernel) (dr_nm 1)) (by intro _; rfl))) (dw_or1 (dt_not (dt_val (de_all rfl g.b_all (drn_of (dn_lc (own := [("name", 2)]) rfl sc_look_plan.nd (di_keys (de_nm 1)) (blkOk_by rfl) (by decide) (fun _ _ _ _ _ => dg_name sc_look_plan.nd rfl (by first | exact .inl rfl | exact .inr rfl)) (fun _ _ _ _ _ => dts_nil) (fun _ _ _ _ _ => de_isi isT_str rfl g.b_isinstance rfl g.b_str (by decide +kernel) (dr_nm 2))))) (by intro _; rfl)))))) (dss_cons (ds_raise g.x_BadPlan takes_cx) (dss_nl)) (dss_nl)) (dss_cons (ds_if (DW.dt (dw_or (dt_ne hu (drn_of (dn_sortKeys rfl rfl g.b_sorted (dr_nm 1))) (dr_of (de_call k_ways hr pas_cx rfl (da_dat (de_nm 0) (da_nil))))) (dw_or1 (dt_not (dt_val (de_all rfl g.b_all (drn_of (dn_lc (own := [("name", 2)]) rfl sc_look_plan.nd (di_keys (de_nm 1)) (blkOk_by rfl) (by decide) (fun _ _ _ _ _ => dg_name sc_look_plan.nd rfl (by first | exact .inl rfl | exact .inr rfl)) (fun _ _ _ _ _ => dts_nil) (fun _ _ _ _ _ => de_call k_is_told hr pas0 rfl (da_dat (de_ix hu (dr_nm 1) (dr_nm 2)) (da_nil)))))) (by intro _; rfl)))))) (dss_cons (ds_raise g.x_BadPlan takes_cx) (dss_nl)) (dss_nl)) (dss_nl))
theorem sc_rate_of : FnScope ["book", "plan", "word", "found", "name"] ["book", "plan", "word"] (defScope (top 46)) := ⟨rfl, rfl, rfl, by decide +kernel, rfl, by decide +kernel, by decide +kernel⟩
theorem k_rate_of (g : G K mg) : Kn P w K mg base 4 "rate_of" 3 F_rate_of := by
  obtain ⟨f, fd, FD, hm⟩ := g.f_rate_of
  have k_net : Kn P w K mg base 3 "net" 2 F_net := (k_net g).mono (by decide)
  have k_plus : Kn P w K mg base 3 "plus" 2 F_plus := (k_plus g).mono (by decide)
  have k_times : Kn P w K mg base 3 "times" 2 F_times := (k_times g).mono (by decide)
  have k_ways : Kn P w K mg base 3 "ways" 1 F_ways := (k_ways g).mono (by decide)
  have k_whole : Kn P w K mg base 3 "whole" 1 F_whole := (k_whole g).mono (by decide)
  refine kn_of FD sc_rate_of hm (FD.bindsN fun _ _ _ _ _ _ us hl => match us, hl with | [_, _, _], _ => rfl) rfl rfl fun cd A outer s H E hr => ?_
  have hu : (A.deeper (PyProof.Rows.envOfC "rate_of" (defScope (top 46)) s.heap.objs.size f cd)).units + 65 < cLine := by have := hr.un; omega
  exact dss_cons (ds_set sc_rate_of.nd rfl (by first | exact .inl rfl | exact .inr rfl) (de_gtup g.c_NOUGHT_plans rfl)) (dss_cons (ds_for own_cx rfl (di_seq (de_call k_ways hr pas_cx rfl (da_dat (de_nm 0) (da_nil)))) (dg_name sc_rate_of.nd rfl (by first | exact .inl rfl | exact .inr rfl)) (dss_cons (ds_set sc_rate_of.nd rfl (by first | exact .inl rfl | exact .inr rfl) (de_call k_plus hr pas_cx rfl (da_dat (de_nm 3) (da_dat (de_call k_times hr pas_cx rfl (da_dat (de_ix hu (dr_nm 1) (dr_nm 4)) (da_dat (de_call k_whole hr pas_cx rfl (da_dat (de_call k_net hr pas_cx rfl (da_dat (de_ix hu (dr_nm 0) (dr_nm 4)) (da_dat (de_nm 2) (da_nil)))) (da_nil))) (da_nil)))) (da_nil))))) (dss_nl))) (dss_cons (ds_ret (de_nm 3)) (dss_nl)))
theorem sc_power_of : FnScope ["book", "plan", "found", "name"] ["book", "plan"] (defScope (top 48)) := ⟨rfl, rfl, rfl, by decide +kernel, rfl, by decide +kernel, by decide +kernel⟩
theorem k_power_of (g : G K mg) : Kn P w K mg base 4 "power_of" 2 F_power_of := by
  obtain ⟨f, fd, FD, hm⟩ := g.f_power_of
  have k_plus : Kn P w K mg base 3 "plus" 2 F_plus := (k_plus g).mono (by decide)
  have k_times : Kn P w K mg base 3 "times" 2 F_times := (k_times g).mono (by decide)
  have k_ways : Kn P w K mg base 3 "ways" 1 F_ways := (k_ways g).mono (by decide)
  have k_whole : Kn P w K mg base 3 "whole" 1 F_whole := (k_whole g).mono (by decide)
  refine kn_of FD sc_power_of hm (FD.bindsN fun _ _ _ _ _ _ us hl => match us, hl with | [_, _], _ => rfl) rfl rfl fun cd A outer s H E hr => ?_
  have hu : (A.deeper (PyProof.Rows.envOfC "power_of" (defScope (top 48)) s.heap.objs.size f cd)).units + 65 < cLine := by have := hr.un; omega
  exact dss_cons (ds_set sc_power_of.nd rfl (by first | exact .inl rfl | exact .inr rfl) (de_gtup g.c_NOUGHT_plans rfl)) (dss_cons (ds_for own_cx rfl (di_seq (de_call k_ways hr pas_cx rfl (da_dat (de_nm 0) (da_nil)))) (dg_name sc_power_of.nd rfl (by first | exact .inl rfl | exact .inr rfl)) (dss_cons (ds_set sc_power_of.nd rfl (by first | exact .inl rfl | exact .inr rfl) (de_call k_plus hr pas_cx rfl (da_dat (de_nm 2) (da_dat (de_call k_times hr pas_cx rfl (da_dat (de_ix hu (dr_nm 1) (dr_nm 3)) (da_dat (de_call k_whole hr pas_cx rfl (da_dat (de_ix hu (dr_of (de_ix hu (dr_nm 0) (dr_nm 3))) (dr_of (de_int))) (da_nil))) (da_nil)))) (da_nil))))) (dss_nl))) (dss_cons (ds_ret (de_nm 2)) (dss_nl)))
theorem sc_row_less : FnScope ["one", "other", "by", "k"] ["one", "other", "by"] (defScope (top 62)) := ⟨rfl, rfl, rfl, by decide +kernel, rfl, by decide +kernel, by decide +kernel⟩
theorem k_row_less (g : G K mg) : Kn P w K mg base 4 "row_less" 3 F_row_less := by
  obtain ⟨f, fd, FD, hm⟩ := g.f_row_less
  have k_minus : Kn P w K mg base 3 "minus" 2 F_minus := (k_minus g).mono (by decide)
  have k_times : Kn P w K mg base 3 "times" 2 F_times := (k_times g).mono (by decide)
  refine kn_of FD sc_row_less hm (FD.bindsN fun _ _ _ _ _ _ us hl => match us, hl with | [_, _, _], _ => rfl) rfl rfl fun cd A outer s H E hr => ?_
  have hu : (A.deeper (PyProof.Rows.envOfC "row_less" (defScope (top 62)) s.heap.objs.size f cd)).units + 65 < cLine := by have := hr.un; omega
  exact dss_cons (ds_if (dt_eq hu (dr_of (de_ix hu (dr_nm 2) (dr_of (de_int)))) (dr_of (de_int))) (dss_cons (ds_ret (de_nm 0)) (dss_nl)) (dss_nl)) (dss_cons (ds_ret (de_of (dn_lc (own := [("k", 3)]) rfl sc_row_less.nd (di_range1 rfl g.b_range (dl_cons (de_len g.b_len (dr_nm 0)) (dl_nil))) (blkOk_by rfl) (by decide) (fun _ _ _ _ _ => dg_name sc_row_less.nd rfl (by first | exact .inl rfl | exact .inr rfl)) (fun _ _ _ _ _ => dts_nil) (fun _ _ _ _ _ => de_call k_minus hr pas0 rfl (da_dat (de_ix hu (dr_nm 0) (dr_nm 3)) (da_dat (de_call k_times hr pas0 rfl (da_dat (de_nm 2) (da_dat (de_ix hu (dr_nm 1) (dr_nm 3)) (da_nil)))) (da_nil))))))) (dss_nl))
theorem sc_worth_of : FnScope ["prices", "wants", "found", "word"] ["prices", "wants"] (defScope (top 69)) := ⟨rfl, rfl, rfl, by decide +kernel, rfl, by decide +kernel, by decide +kernel⟩
theorem k_worth_of (g : G K mg) : Kn P w K mg base 4 "worth_of" 2 F_worth_of := by
  obtain ⟨f, fd, FD, hm⟩ := g.f_worth_of
  have k_plus : Kn P w K mg base 3 "plus" 2 F_plus := (k_plus g).mono (by decide)
  have k_times : Kn P w K mg base 3 "times" 2 F_times := (k_times g).mono (by decide)
  refine kn_of FD sc_worth_of hm (FD.bindsN fun _ _ _ _ _ _ us hl => match us, hl with | [_, _], _ => rfl) rfl rfl fun cd A outer s H E hr => ?_
  have hu : (A.deeper (PyProof.Rows.envOfC "worth_of" (defScope (top 69)) s.heap.objs.size f cd)).units + 65 < cLine := by have := hr.un; omega
  exact dss_cons (ds_set sc_worth_of.nd rfl (by first | exact .inl rfl | exact .inr rfl) (de_gtup g.c_NOUGHT_plans rfl)) (dss_cons (ds_for own_cx rfl (di_keys (de_nm 1)) (dg_name sc_worth_of.nd rfl (by first | exact .inl rfl | exact .inr rfl)) (dss_cons (ds_set sc_worth_of.nd rfl (by first | exact .inl rfl | exact .inr rfl) (de_call k_plus hr pas_cx rfl (da_dat (de_nm 2) (da_dat (de_call k_times hr pas_cx rfl (da_dat (de_get2 hu (de_nm 0) (de_nm 3) (de_gtup g.c_NOUGHT_plans rfl)) (da_dat (de_ix hu (dr_nm 1) (dr_nm 3)) (da_nil)))) (da_nil))))) (dss_nl))) (dss_cons (ds_ret (de_nm 2)) (dss_nl)))
theorem sc_gain_of : FnScope ["way", "prices", "found", "word"] ["way", "prices"] (defScope (top 70)) := ⟨rfl, rfl, rfl, by decide +kernel, rfl, by decide +kernel, by decide +kernel⟩
theorem k_gain_of (g : G K mg) : Kn P w K mg base 4 "gain_of" 2 F_gain_of := by
  obtain ⟨f, fd, FD, hm⟩ := g.f_gain_of
  have k_net : Kn P w K mg base 3 "net" 2 F_net := (k_net g).mono (by decide)
  have k_plus : Kn P w K mg base 3 "plus" 2 F_plus := (k_plus g).mono (by decide)
  have k_times : Kn P w K mg base 3 "times" 2 F_times := (k_times g).mono (by decide)
  have k_whole : Kn P w K mg base 3 "whole" 1 F_whole := (k_whole g).mono (by decide)
  refine kn_of FD sc_gain_of hm (FD.bindsN fun _ _ _ _ _ _ us hl => match us, hl with | [_, _], _ => rfl) rfl rfl fun cd A outer s H E hr => ?_
  have hu : (A.deeper (PyProof.Rows.envOfC "gain_of" (defScope (top 70)) s.heap.objs.size f cd)).units + 65 < cLine := by have := hr.un; omega
  exact dss_cons (ds_set sc_gain_of.nd rfl (by first | exact .inl rfl | exact .inr rfl) (de_gtup g.c_NOUGHT_plans rfl)) (dss_cons (ds_for own_cx rfl (di_keys (de_nm 1)) (dg_name sc_gain_of.nd rfl (by first | exact .inl rfl | exact .inr rfl)) (dss_cons (ds_set sc_gain_of.nd rfl (by first | exact .inl rfl | exact .inr rfl) (de_call k_plus hr pas_cx rfl (da_dat (de_nm 2) (da_dat (de_call k_times hr pas_cx rfl (da_dat (de_ix hu (dr_nm 1) (dr_nm 3)) (da_dat (de_call k_whole hr pas_cx rfl (da_dat (de_call k_net hr pas_cx rfl (da_dat (de_nm 0) (da_dat (de_nm 3) (da_nil)))) (da_nil))) (da_nil)))) (da_nil))))) (dss_nl))) (dss_cons (ds_ret (de_nm 2)) (dss_nl)))
theorem sc_law_pick : FnScope ["_law_script", "_law_town", "_law_some"] ["_law_script", "_law_town", "_law_some"] (defScope (top 77)) := ⟨rfl, rfl, rfl, by decide +kernel, rfl, by decide +kernel, by decide +kernel⟩
theorem k_law_pick (g : G K mg) : Kn P w K mg base 4 "_law_pick" 3 F_law_pick := by
  obtain ⟨f, fd, FD, hm⟩ := g.f_law_pick
  have k_law_draw : Kn P w K mg base 3 "_law_draw" 3 F_law_draw := (k_law_draw g).mono (by decide)
  refine kn_of FD sc_law_pick hm (FD.bindsN fun _ _ _ _ _ _ us hl => match us, hl with | [_, _, _], _ => rfl) rfl rfl fun cd A outer s H E hr => ?_
  have hu : (A.deeper (PyProof.Rows.envOfC "_law_pick" (defScope (top 77)) s.heap.objs.size f cd)).units + 65 < cLine := by have := hr.un; omega
  exact dss_cons (ds_ret (de_ix hu (dr_nm 2) (dr_of (de_call k_law_draw hr pas_cx rfl (da_dat (de_nm 0) (da_nm 1 (da_dat (de_len g.b_len (dr_nm 2)) (da_nil)))))))) (dss_nl)
theorem sc_law_raws : FnScope ["_law_script", "_law_town", "_law_book_here", "_law_some", "_law_word"] ["_law_script", "_law_town", "_law_book_here"] (defScope (top 83)) := ⟨rfl, rfl, rfl, by decide +kernel, rfl, by decide +kernel, by decide +kernel⟩
theorem k_law_raws (g : G K mg) : Kn P w K mg base 4 "_law_raws" 3 F_law_raws := by
  obtain ⟨f, fd, FD, hm⟩ := g.f_law_raws
  have k_law_draw : Kn P w K mg base 3 "_law_draw" 3 F_law_draw := (k_law_draw g).mono (by decide)
  have k_law_goods : Kn P w K mg base 3 "_law_goods" 1 F_law_goods := (k_law_goods g).mono (by decide)
  refine kn_of FD sc_law_raws hm (FD.bindsN fun _ _ _ _ _ _ us hl => match us, hl with | [_, _, _], _ => rfl) rfl rfl fun cd A outer s H E hr => ?_
  have hu : (A.deeper (PyProof.Rows.envOfC "_law_raws" (defScope (top 83)) s.heap.objs.size f cd)).units + 65 < cLine := by have := hr.un; omega
  exact dss_cons (ds_set sc_law_raws.nd rfl (by first | exact .inl rfl | exact .inr rfl) (de_add (drn_of (dn_lst (dl_cons (de_str) (dl_cons (de_str) (dl_nil))))) (drn_of (dn_lc (own := [("_law_word", 4)]) rfl sc_law_raws.nd (di_seq (de_call k_law_goods hr pas_cx rfl (da_dat (de_nm 2) (da_nil)))) (blkOk_by rfl) (by decide) (fun _ _ _ _ _ => dg_name sc_law_raws.nd rfl (by first | exact .inl rfl | exact .inr rfl)) (fun _ _ _ _ _ => dts_one (dt_eq hu (dr_of (de_call k_law_draw hr pas0 rfl (da_dat (de_nm 0) (da_nm 1 (da_dat (de_int) (da_nil)))))) (dr_of (de_int)))) (fun _ _ _ _ _ => de_nm 4))))) (dss_cons (ds_ret (de_slice (de_of (dn_sortSet rfl rfl g.b_sorted rfl g.b_set (dr_of (de_slice (de_nm 3) (dp_some (de_call k_law_draw hr pas_cx rfl (da_dat (de_nm 0) (da_nm 1 (da_dat (de_int) (da_nil)))))) (dp_none))))) (dp_none) (dp_some (de_int)))) (dss_nl))
theorem sc_look_all : FnScope ["book", "raws", "wants"] ["book", "raws", "wants"] (defScope (top 41)) := ⟨rfl, rfl, rfl, by decide +kernel, rfl, by decide +kernel, by decide +kernel⟩
theorem k_look_all (g : G K mg) : Kn P w K mg base 5 "look_all" 3 F_look_all := by
  obtain ⟨f, fd, FD, hm⟩ := g.f_look_all
  have k_look_book : Kn P w K mg base 4 "look_book" 1 F_look_book := (k_look_book g).mono (by decide)
  have k_look_raws : Kn P w K mg base 4 "look_raws" 1 F_look_raws := (k_look_raws g).mono (by decide)
  have k_look_wants : Kn P w K mg base 4 "look_wants" 1 F_look_wants := (k_look_wants g).mono (by decide)
  refine kn_of FD sc_look_all hm (FD.bindsN fun _ _ _ _ _ _ us hl => match us, hl with | [_, _, _], _ => rfl) rfl rfl fun cd A outer s H E hr => ?_
  have hu : (A.deeper (PyProof.Rows.envOfC "look_all" (defScope (top 41)) s.heap.objs.size f cd)).units + 65 < cLine := by have := hr.un; omega
  exact dss_cons (ds_expr (de_call k_look_book hr pas_cx rfl (da_dat (de_nm 0) (da_nil)))) (dss_cons (ds_expr (de_call k_look_raws hr pas_cx rfl (da_dat (de_nm 1) (da_nil)))) (dss_cons (ds_expr (de_call k_look_wants hr pas_cx rfl (da_dat (de_nm 2) (da_nil)))) (dss_nl)))
theorem sc_rates : FnScope ["book", "plan", "word"] ["book", "plan"] (defScope (top 47)) := ⟨rfl, rfl, rfl, by decide +kernel, rfl, by decide +kernel, by decide +kernel⟩
theorem k_rates (g : G K mg) : Kn P w K mg base 5 "rates" 2 F_rates := by
  obtain ⟨f, fd, FD, hm⟩ := g.f_rates
  have k_all_goods : Kn P w K mg base 4 "all_goods" 1 F_all_goods := (k_all_goods g).mono (by decide)
  have k_look_book : Kn P w K mg base 4 "look_book" 1 F_look_book := (k_look_book g).mono (by decide)
  have k_look_plan : Kn P w K mg base 4 "look_plan" 2 F_look_plan := (k_look_plan g).mono (by decide)
  have k_rate_of : Kn P w K mg base 4 "rate_of" 3 F_rate_of := (k_rate_of g).mono (by decide)
  refine kn_of FD sc_rates hm (FD.bindsN fun _ _ _ _ _ _ us hl => match us, hl with | [_, _], _ => rfl) rfl rfl fun cd A outer s H E hr => ?_
  have hu : (A.deeper (PyProof.Rows.envOfC "rates" (defScope (top 47)) s.heap.objs.size f cd)).units + 65 < cLine := by have := hr.un; omega
  exact dss_cons (ds_expr (de_call k_look_book hr pas_cx rfl (da_dat (de_nm 0) (da_nil)))) (dss_cons (ds_expr (de_call k_look_plan hr pas_cx rfl (da_dat (de_nm 0) (da_dat (de_nm 1) (da_nil))))) (dss_cons (ds_ret (de_of (dn_lc (own := [("word", 2)]) rfl sc_rates.nd (di_seq (de_call k_all_goods hr pas_cx rfl (da_dat (de_nm 0) (da_nil)))) (blkOk_by rfl) (by decide) (fun _ _ _ _ _ => dg_name sc_rates.nd rfl (by first | exact .inl rfl | exact .inr rfl)) (fun _ _ _ _ _ => dts_nil) (fun _ _ _ _ _ => de_tup (dl_cons (de_nm 2) (dl_cons (de_call k_rate_of hr pas0 rfl (da_dat (de_nm 0) (da_dat (de_nm 1) (da_dat (de_nm 2) (da_nil))))) (dl_nil))))))) (dss_nl)))
theorem sc_power : FnScope ["book", "plan"] ["book", "plan"] (defScope (top 49)) := ⟨rfl, rfl, rfl, by decide +kernel, rfl, by decide +kernel, by decide +kernel⟩
theorem k_power (g : G K mg) : Kn P w K mg base 5 "power" 2 F_power := by
  obtain ⟨f, fd, FD, hm⟩ := g.f_power
  have k_look_book : Kn P w K mg base 4 "look_book" 1 F_look_book := (k_look_book g).mono (by decide)
  have k_look_plan : Kn P w K mg base 4 "look_plan" 2 F_look_plan := (k_look_plan g).mono (by decide)
  have k_power_of : Kn P w K mg base 4 "power_of" 2 F_power_of := (k_power_of g).mono (by decide)
  refine kn_of FD sc_power hm (FD.bindsN fun _ _ _ _ _ _ us hl => match us, hl with | [_, _], _ => rfl) rfl rfl fun cd A outer s H E hr => ?_
  have hu : (A.deeper (PyProof.Rows.envOfC "power" (defScope (top 49)) s.heap.objs.size f cd)).units + 65 < cLine := by have := hr.un; omega
  exact dss_cons (ds_expr (de_call k_look_book hr pas_cx rfl (da_dat (de_nm 0) (da_nil)))) (dss_cons (ds_expr (de_call k_look_plan hr pas_cx rfl (da_dat (de_nm 0) (da_dat (de_nm 1) (da_nil))))) (dss_cons (ds_ret (de_call k_power_of hr pas_cx rfl (da_dat (de_nm 0) (da_dat (de_nm 1) (da_nil))))) (dss_nl)))
theorem sc_does_meet : FnScope ["book", "raws", "wants", "plan", "word"] ["book", "raws", "wants", "plan"] (defScope (top 50)) := ⟨rfl, rfl, rfl, by decide +kernel, rfl, by decide +kernel, by decide +kernel⟩
theorem k_does_meet (g : G K mg) : Kn P w K mg base 5 "does_meet" 4 F_does_meet := by
  obtain ⟨f, fd, FD, hm⟩ := g.f_does_meet
  have k_all_goods : Kn P w K mg base 4 "all_goods" 1 F_all_goods := (k_all_goods g).mono (by decide)
  have k_is_less : Kn P w K mg base 4 "is_less" 2 F_is_less := (k_is_less g).mono (by decide)
  have k_rate_of : Kn P w K mg base 4 "rate_of" 3 F_rate_of := (k_rate_of g).mono (by decide)
  refine kn_of FD sc_does_meet hm (FD.bindsN fun _ _ _ _ _ _ us hl => match us, hl with | [_, _, _, _], _ => rfl) rfl rfl fun cd A outer s H E hr => ?_
  have hu : (A.deeper (PyProof.Rows.envOfC "does_meet" (defScope (top 50)) s.heap.objs.size f cd)).units + 65 < cLine := by have := hr.un; omega
  exact dss_cons (ds_for own_cx rfl (di_seq (de_of (dn_sortSet rfl rfl g.b_sorted rfl g.b_set (dr_of (de_add (dr_of (de_call k_all_goods hr pas_cx rfl (da_dat (de_nm 0) (da_nil)))) (drn_of (dn_listKeys rfl rfl g.b_list (dr_nm 2)))))))) (dg_name sc_does_meet.nd rfl (by first | exact .inl rfl | exact .inr rfl)) (dss_cons (ds_if (DW.dt (dw_and (dt_ninA hu (dr_nm 4) (dr_nm 1)) (dw_and1 (dt_val (de_call k_is_less hr pas_cx rfl (da_dat (de_call k_rate_of hr pas_cx rfl (da_dat (de_nm 0) (da_dat (de_nm 3) (da_dat (de_nm 4) (da_nil))))) (da_dat (de_get2 hu (de_nm 2) (de_nm 4) (de_gtup g.c_NOUGHT_plans rfl)) (da_nil)))) (by intro _; rfl))))) (dss_cons (ds_ret (de_bl)) (dss_nl)) (dss_nl)) (dss_nl))) (dss_cons (ds_ret (de_bl)) (dss_nl))
theorem sc_works : FnScope ["book", "plan", "name"] ["book", "plan"] (defScope (top 53)) := ⟨rfl, rfl, rfl, by decide +kernel, rfl, by decide +kernel, by decide +kernel⟩
theorem k_works (g : G K mg) : Kn P w K mg base 5 "works" 2 F_works := by
  obtain ⟨f, fd, FD, hm⟩ := g.f_works
  have k_look_book : Kn P w K mg base 4 "look_book" 1 F_look_book := (k_look_book g).mono (by decide)
  have k_look_plan : Kn P w K mg base 4 "look_plan" 2 F_look_plan := (k_look_plan g).mono (by decide)
  have k_times : Kn P w K mg base 4 "times" 2 F_times := (k_times g).mono (by decide)
  have k_upwards : Kn P w K mg base 4 "upwards" 1 F_upwards := (k_upwards g).mono (by decide)
  have k_ways : Kn P w K mg base 4 "ways" 1 F_ways := (k_ways g).mono (by decide)
  have k_whole : Kn P w K mg base 4 "whole" 1 F_whole := (k_whole g).mono (by decide)
  refine kn_of FD sc_works hm (FD.bindsN fun _ _ _ _ _ _ us hl => match us, hl with | [_, _], _ => rfl) rfl rfl fun cd A outer s H E hr => ?_
  have hu : (A.deeper (PyProof.Rows.envOfC "works" (defScope (top 53)) s.heap.objs.size f cd)).units + 65 < cLine := by have := hr.un; omega
  exact dss_cons (ds_expr (de_call k_look_book hr pas_cx rfl (da_dat (de_nm 0) (da_nil)))) (dss_cons (ds_expr (de_call k_look_plan hr pas_cx rfl (da_dat (de_nm 0) (da_dat (de_nm 1) (da_nil))))) (dss_cons (ds_ret (de_of (dn_dict rfl g.b_dict (drn_of (dn_lc (own := [("name", 2)]) rfl sc_works.nd (di_seq (de_call k_ways hr pas_cx rfl (da_dat (de_nm 0) (da_nil)))) (blkOk_by rfl) (by decide) (fun _ _ _ _ _ => dg_name sc_works.nd rfl (by first | exact .inl rfl | exact .inr rfl)) (fun _ _ _ _ _ => dts_nil) (fun _ _ _ _ _ => de_tup (dl_cons (de_nm 2) (dl_cons (de_call k_upwards hr pas0 rfl (da_dat (de_call k_times hr pas0 rfl (da_dat (de_ix hu (dr_nm 1) (dr_nm 2)) (da_dat (de_call k_whole hr pas0 rfl (da_dat (de_ix hu (dr_of (de_ix hu (dr_nm 0) (dr_nm 2))) (dr_of (de_int))) (da_nil))) (da_nil)))) (da_nil))) (dl_nil))))))))) (dss_nl)))
theorem sc_givers : FnScope ["book", "word", "name"] ["book", "word"] (defScope (top 55)) := ⟨rfl, rfl, rfl, by decide +kernel, rfl, by decide +kernel, by decide +kernel⟩
theorem k_givers (g : G K mg) : Kn P w K mg base 5 "givers" 2 F_givers := by
  obtain ⟨f, fd, FD, hm⟩ := g.f_givers
  have k_is_word : Kn P w K mg base 4 "is_word" 1 F_is_word := (k_is_word g).mono (by decide)
  have k_look_book : Kn P w K mg base 4 "look_book" 1 F_look_book := (k_look_book g).mono (by decide)
  have k_ways : Kn P w K mg base 4 "ways" 1 F_ways := (k_ways g).mono (by decide)
  refine kn_of FD sc_givers hm (FD.bindsN fun _ _ _ _ _ _ us hl => match us, hl with | [_, _], _ => rfl) rfl rfl fun cd A outer s H E hr => ?_
  have hu : (A.deeper (PyProof.Rows.envOfC "givers" (defScope (top 55)) s.heap.objs.size f cd)).units + 65 < cLine := by have := hr.un; omega
  exact dss_cons (ds_expr (de_call k_look_book hr pas_cx rfl (da_dat (de_nm 0) (da_nil)))) (dss_cons (ds_if (dt_not (dt_val (de_call k_is_word hr pas_cx rfl (da_dat (de_nm 1) (da_nil))) (by intro _; rfl))) (dss_cons (ds_raise g.x_BadGoods takes_cx) (dss_nl)) (dss_nl)) (dss_cons (ds_ret (de_of (dn_lc (own := [("name", 2)]) rfl sc_givers.nd (di_seq (de_call k_ways hr pas_cx rfl (da_dat (de_nm 0) (da_nil)))) (blkOk_by rfl) (by decide) (fun _ _ _ _ _ => dg_name sc_givers.nd rfl (by first | exact .inl rfl | exact .inr rfl)) (fun _ _ _ _ _ => dts_one (dt_inA hu (dr_nm 1) (drn_of (dn_dict rfl g.b_dict (dr_of (de_ix hu (dr_of (de_ix hu (dr_nm 0) (dr_nm 2))) (dr_of (de_int)))))))) (fun _ _ _ _ _ => de_nm 2)))) (dss_nl)))
theorem sc_takers : FnScope ["book", "word", "name"] ["book", "word"] (defScope (top 56)) := ⟨rfl, rfl, rfl, by decide +kernel, rfl, by decide +kernel, by decide +kernel⟩
theorem k_takers (g : G K mg) : Kn P w K mg base 5 "takers" 2 F_takers := by
  obtain ⟨f, fd, FD, hm⟩ := g.f_takers
  have k_is_word : Kn P w K mg base 4 "is_word" 1 F_is_word := (k_is_word g).mono (by decide)
  have k_look_book : Kn P w K mg base 4 "look_book" 1 F_look_book := (k_look_book g).mono (by decide)
  have k_ways : Kn P w K mg base 4 "ways" 1 F_ways := (k_ways g).mono (by decide)
  refine kn_of FD sc_takers hm (FD.bindsN fun _ _ _ _ _ _ us hl => match us, hl with | [_, _], _ => rfl) rfl rfl fun cd A outer s H E hr => ?_
  have hu : (A.deeper (PyProof.Rows.envOfC "takers" (defScope (top 56)) s.heap.objs.size f cd)).units + 65 < cLine := by have := hr.un; omega
  exact dss_cons (ds_expr (de_call k_look_book hr pas_cx rfl (da_dat (de_nm 0) (da_nil)))) (dss_cons (ds_if (dt_not (dt_val (de_call k_is_word hr pas_cx rfl (da_dat (de_nm 1) (da_nil))) (by intro _; rfl))) (dss_cons (ds_raise g.x_BadGoods takes_cx) (dss_nl)) (dss_nl)) (dss_cons (ds_ret (de_of (dn_lc (own := [("name", 2)]) rfl sc_takers.nd (di_seq (de_call k_ways hr pas_cx rfl (da_dat (de_nm 0) (da_nil)))) (blkOk_by rfl) (by decide) (fun _ _ _ _ _ => dg_name sc_takers.nd rfl (by first | exact .inl rfl | exact .inr rfl)) (fun _ _ _ _ _ => dts_one (dt_inA hu (dr_nm 1) (drn_of (dn_dict rfl g.b_dict (dr_of (de_ix hu (dr_of (de_ix hu (dr_nm 0) (dr_nm 2))) (dr_of (de_int)))))))) (fun _ _ _ _ _ => de_nm 2)))) (dss_nl)))
theorem sc_layers : FnScope ["book", "raws", "found", "known", "new", "name", "word", "many"] ["book", "raws"] (defScope (top 57)) := ⟨rfl, rfl, rfl, by decide +kernel, rfl, by decide +kernel, by decide +kernel⟩
theorem k_layers (g : G K mg) : Kn P w K mg base 5 "layers" 2 F_layers := by
  obtain ⟨f, fd, FD, hm⟩ := g.f_layers
  have k_look_book : Kn P w K mg base 4 "look_book" 1 F_look_book := (k_look_book g).mono (by decide)
  have k_look_raws : Kn P w K mg base 4 "look_raws" 1 F_look_raws := (k_look_raws g).mono (by decide)
  refine kn_of FD sc_layers hm (FD.bindsN fun _ _ _ _ _ _ us hl => match us, hl with | [_, _], _ => rfl) rfl rfl fun cd A outer s H E hr => ?_
  have hu : (A.deeper (PyProof.Rows.envOfC "layers" (defScope (top 57)) s.heap.objs.size f cd)).units + 65 < cLine := by have := hr.un; omega
  exact dss_cons (ds_expr (de_call k_look_book hr pas_cx rfl (da_dat (de_nm 0) (da_nil)))) (dss_cons (ds_expr (de_call k_look_raws hr pas_cx rfl (da_dat (de_nm 1) (da_nil)))) (dss_cons (ds_setN sc_layers.nd rfl (by first | exact .inl rfl | exact .inr rfl) (dn_lst (dl_cons (de_of (dn_list g.b_list (dr_nm 1))) (dl_nil)))) (dss_cons (ds_setN sc_layers.nd rfl (by first | exact .inl rfl | exact .inr rfl) (dn_list g.b_list (dr_nm 1))) (dss_cons (ds_while fuel own_cx (dt_val (de_bl) (by intro _; rfl)) (dss_cons (ds_setN sc_layers.nd rfl (by first | exact .inl rfl | exact .inr rfl) (dn_dic0)) (dss_cons (ds_for own_cx rfl (di_keys (de_nm 0)) (dg_name sc_layers.nd rfl (by first | exact .inl rfl | exact .inr rfl)) (dss_cons (ds_if (dt_val (de_all rfl g.b_all (drn_of (dn_lc (own := [("word", 6), ("many", 7)]) rfl sc_layers.nd (di_seq (de_ix hu (dr_of (de_ix hu (dr_nm 0) (dr_nm 5))) (dr_of (de_int)))) (blkOk_by rfl) (by decide) (fun _ _ _ _ _ => dg_tup rfl (dgs_cons sc_layers.nd rfl (by first | exact .inl rfl | exact .inr rfl) (dgs_cons sc_layers.nd rfl (by first | exact .inl rfl | exact .inr rfl) (dgs_nil)))) (fun _ _ _ _ _ => dts_nil) (fun _ _ _ _ _ => de_inA hu (dr_nm 6) (dr_nm 3))))) (by intro _; rfl)) (dss_cons (ds_for own_cx rfl (di_seq (de_ix hu (dr_of (de_ix hu (dr_nm 0) (dr_nm 5))) (dr_of (de_int)))) (dg_tup rfl (dgs_cons sc_layers.nd rfl (by first | exact .inl rfl | exact .inr rfl) (dgs_cons sc_layers.nd rfl (by first | exact .inl rfl | exact .inr rfl) (dgs_nil)))) (dss_cons (ds_if (dt_ninA hu (dr_nm 6) (dr_nm 3)) (dss_cons (ds_put (i := 4) hu (pe_nm) (de_nm 6) (de_bl)) (dss_nl)) (dss_nl)) (dss_nl))) (dss_nl)) (dss_nl)) (dss_nl))) (dss_cons (ds_if (dt_not (dt_tru (dr_nm 4) (by intro _; rfl))) (dss_cons (ds_ret (de_nm 2)) (dss_nl)) (dss_nl)) (dss_cons (ds_expr (de_append (i := 2) (pe_nm) (de_of (dn_sortKeys rfl rfl g.b_sorted (dr_nm 4))))) (dss_cons (ds_expr (de_extend (i := 3) (pe_nm) (de_ix hu (dr_nm 2) (dr_of (de_neg (de_int)))))) (dss_nl))))))) (dss_nl)))))
theorem sc_law_good : FnScope ["_law_script", "_law_town", "_law_signs", "_law_k"] ["_law_script", "_law_town"] (defScope (top 79)) := ⟨rfl, rfl, rfl, by decide +kernel, rfl, by decide +kernel, by decide +kernel⟩
theorem k_law_good (g : G K mg) : Kn P w K mg base 5 "_law_good" 2 F_law_good := by
  obtain ⟨f, fd, FD, hm⟩ := g.f_law_good
  have k_law_draw : Kn P w K mg base 4 "_law_draw" 3 F_law_draw := (k_law_draw g).mono (by decide)
  have k_law_pick : Kn P w K mg base 4 "_law_pick" 3 F_law_pick := (k_law_pick g).mono (by decide)
  refine kn_of FD sc_law_good hm (FD.bindsN fun _ _ _ _ _ _ us hl => match us, hl with | [_, _], _ => rfl) rfl rfl fun cd A outer s H E hr => ?_
  have hu : (A.deeper (PyProof.Rows.envOfC "_law_good" (defScope (top 79)) s.heap.objs.size f cd)).units + 65 < cLine := by have := hr.un; omega
  exact dss_cons (ds_set sc_law_good.nd rfl (by first | exact .inl rfl | exact .inr rfl) (de_str)) (dss_cons (ds_if (dt_gt (dr_of (de_call k_law_draw hr pas_cx rfl (da_dat (de_nm 0) (da_nm 1 (da_dat (de_int) (da_nil)))))) (dr_of (de_int))) (dss_cons (ds_ret (de_call k_law_pick hr pas_cx rfl (da_dat (de_nm 0) (da_nm 1 (da_dat (de_of (dn_lst (dl_cons (de_str) (dl_cons (de_str) (dl_cons (de_str) (dl_cons (de_str) (dl_cons (de_str) (dl_cons (de_str) (dl_nil))))))))) (da_nil)))))) (dss_nl)) (dss_nl)) (dss_cons (ds_ret (de_join (de_str) (de_of (dn_lc (own := [("_law_k", 3)]) rfl sc_law_good.nd (di_range1 rfl g.b_range (dl_cons (de_add (dr_of (de_int)) (dr_of (de_call k_law_draw hr pas_cx rfl (da_dat (de_nm 0) (da_nm 1 (da_dat (de_int) (da_nil))))))) (dl_nil))) (blkOk_by rfl) (by decide) (fun _ _ _ _ _ => dg_name sc_law_good.nd rfl (by first | exact .inl rfl | exact .inr rfl)) (fun _ _ _ _ _ => dts_nil) (fun _ _ _ _ _ => de_call k_law_pick hr pas0 rfl (da_dat (de_nm 0) (da_nm 1 (da_dat (de_nm 2) (da_nil))))))))) (dss_nl)))
theorem sc_law_rate : FnScope ["_law_script", "_law_town"] ["_law_script", "_law_town"] (defScope (top 84)) := ⟨rfl, rfl, rfl, by decide +kernel, rfl, by decide +kernel, by decide +kernel⟩
theorem k_law_rate (g : G K mg) : Kn P w K mg base 5 "_law_rate" 2 F_law_rate := by
  obtain ⟨f, fd, FD, hm⟩ := g.f_law_rate
  have k_law_pick : Kn P w K mg base 4 "_law_pick" 3 F_law_pick := (k_law_pick g).mono (by decide)
  refine kn_of FD sc_law_rate hm (FD.bindsN fun _ _ _ _ _ _ us hl => match us, hl with | [_, _], _ => rfl) rfl rfl fun cd A outer s H E hr => ?_
  have hu : (A.deeper (PyProof.Rows.envOfC "_law_rate" (defScope (top 84)) s.heap.objs.size f cd)).units + 65 < cLine := by have := hr.un; omega
  exact dss_cons (ds_ret (de_call k_law_pick hr pas_cx rfl (da_dat (de_nm 0) (da_nm 1 (da_dat (de_of (dn_lst (dl_cons (de_tup (dl_cons (de_int) (dl_cons (de_int) (dl_nil)))) (dl_cons (de_tup (dl_cons (de_int) (dl_cons (de_int) (dl_nil)))) (dl_cons (de_tup (dl_cons (de_int) (dl_cons (de_int) (dl_nil)))) (dl_cons (de_tup (dl_cons (de_int) (dl_cons (de_int) (dl_nil)))) (dl_cons (de_tup (dl_cons (de_int) (dl_cons (de_int) (dl_nil)))) (dl_cons (de_tup (dl_cons (de_int) (dl_cons (de_int) (dl_nil)))) (dl_cons (de_tup (dl_cons (de_int) (dl_cons (de_int) (dl_nil)))) (dl_cons (de_tup (dl_cons (de_int) (dl_cons (de_int) (dl_nil)))) (dl_cons (de_tup (dl_cons (de_int) (dl_cons (de_int) (dl_nil)))) (dl_nil)))))))))))) (da_nil)))))) (dss_nl)
theorem sc_law_plan : FnScope ["_law_script", "_law_town", "_law_book_here", "_law_some", "_law_name"] ["_law_script", "_law_town", "_law_book_here"] (defScope (top 86)) := ⟨rfl, rfl, rfl, by decide +kernel, rfl, by decide +kernel, by decide +kernel⟩
theorem k_law_plan (g : G K mg) : Kn P w K mg base 5 "_law_plan" 3 F_law_plan := by
  obtain ⟨f, fd, FD, hm⟩ := g.f_law_plan
  have k_law_pick : Kn P w K mg base 4 "_law_pick" 3 F_law_pick := (k_law_pick g).mono (by decide)
  refine kn_of FD sc_law_plan hm (FD.bindsN fun _ _ _ _ _ _ us hl => match us, hl with | [_, _, _], _ => rfl) rfl rfl fun cd A outer s H E hr => ?_
  have hu : (A.deeper (PyProof.Rows.envOfC "_law_plan" (defScope (top 86)) s.heap.objs.size f cd)).units + 65 < cLine := by have := hr.un; omega
  exact dss_cons (ds_set sc_law_plan.nd rfl (by first | exact .inl rfl | exact .inr rfl) (de_of (dn_lst (dl_cons (de_tup (dl_cons (de_int) (dl_cons (de_int) (dl_nil)))) (dl_cons (de_tup (dl_cons (de_int) (dl_cons (de_int) (dl_nil)))) (dl_cons (de_tup (dl_cons (de_int) (dl_cons (de_int) (dl_nil)))) (dl_cons (de_tup (dl_cons (de_int) (dl_cons (de_int) (dl_nil)))) (dl_cons (de_tup (dl_cons (de_int) (dl_cons (de_int) (dl_nil)))) (dl_cons (de_tup (dl_cons (de_int) (dl_cons (de_int) (dl_nil)))) (dl_nil)))))))))) (dss_cons (ds_ret (de_of (dn_dict rfl g.b_dict (drn_of (dn_lc (own := [("_law_name", 4)]) rfl sc_law_plan.nd (di_seq (de_of (dn_listKeys rfl rfl g.b_list (dr_nm 2)))) (blkOk_by rfl) (by decide) (fun _ _ _ _ _ => dg_name sc_law_plan.nd rfl (by first | exact .inl rfl | exact .inr rfl)) (fun _ _ _ _ _ => dts_nil) (fun _ _ _ _ _ => de_tup (dl_cons (de_nm 4) (dl_cons (de_call k_law_pick hr pas0 rfl (da_dat (de_nm 0) (da_nm 1 (da_dat (de_nm 3) (da_nil))))) (dl_nil))))))))) (dss_nl))
theorem sc_law_bad_plan : FnScope ["_law_script", "_law_town", "_law_book_here", "_law_some", "_law_name", "_law_wrong", "_law_more", "_law_less"] ["_law_script", "_law_town", "_law_book_here", "_law_some"] (defScope (top 91)) := ⟨rfl, rfl, rfl, by decide +kernel, rfl, by decide +kernel, by decide +kernel⟩
theorem k_law_bad_plan (g : G K mg) : Kn P w K mg base 5 "_law_bad_plan" 4 F_law_bad_plan := by
  obtain ⟨f, fd, FD, hm⟩ := g.f_law_bad_plan
  have k_law_pick : Kn P w K mg base 4 "_law_pick" 3 F_law_pick := (k_law_pick g).mono (by decide)
  refine kn_of FD sc_law_bad_plan hm (FD.bindsN fun _ _ _ _ _ _ us hl => match us, hl with | [_, _, _, _], _ => rfl) rfl rfl fun cd A outer s H E hr => ?_
  have hu : (A.deeper (PyProof.Rows.envOfC "_law_bad_plan" (defScope (top 91)) s.heap.objs.size f cd)).units + 65 < cLine := by have := hr.un; omega
  exact dss_cons (ds_set sc_law_bad_plan.nd rfl (by first | exact .inl rfl | exact .inr rfl) (de_call k_law_pick hr pas_cx rfl (da_dat (de_nm 0) (da_nm 1 (da_dat (de_of (dn_sortKeys rfl rfl g.b_sorted (dr_nm 2))) (da_nil)))))) (dss_cons (ds_setN sc_law_bad_plan.nd rfl (by first | exact .inl rfl | exact .inr rfl) (dn_dict rfl g.b_dict (dr_nm 3))) (dss_cons (ds_put (i := 5) hu (pe_nm) (de_nm 4) (de_call k_law_pick hr pas_cx rfl (da_dat (de_nm 0) (da_nm 1 (da_dat (de_of (dn_lst (dl_cons (de_tup (dl_cons (de_int) (dl_cons (de_int) (dl_nil)))) (dl_cons (de_tup (dl_cons (de_sub (dr_of (de_int)) (dr_of (de_int))) (dl_cons (de_int) (dl_nil)))) (dl_cons (de_tup (dl_cons (de_int) (dl_cons (de_int) (dl_nil)))) (dl_cons (de_int) (dl_cons (de_non) (dl_cons (de_of (dn_lst (dl_cons (de_int) (dl_cons (de_int) (dl_nil))))) (dl_cons (de_tup (dl_cons (de_int) (dl_nil))) (dl_cons (de_tup (dl_cons (de_bl) (dl_cons (de_int) (dl_nil)))) (dl_cons (de_tup (dl_cons (de_int) (dl_cons (de_int) (dl_nil)))) (dl_cons (de_str) (dl_nil))))))))))))) (da_nil)))))) (dss_cons (ds_setN sc_law_bad_plan.nd rfl (by first | exact .inl rfl | exact .inr rfl) (dn_dict rfl g.b_dict (dr_nm 3))) (dss_cons (ds_putM (i := 6) hu (pe_nm) (de_call k_law_pick hr pas_cx rfl (da_dat (de_nm 0) (da_nm 1 (da_dat (de_of (dn_lst (dl_cons (de_str) (dl_cons (de_int) (dl_cons (de_non) (dl_nil)))))) (da_nil))))) (de_tup (dl_cons (de_int) (dl_cons (de_int) (dl_nil))))) (dss_cons (ds_setN sc_law_bad_plan.nd rfl (by first | exact .inl rfl | exact .inr rfl) (dn_dict rfl g.b_dict (dr_nm 3))) (dss_cons (ds_expr (de_dpop (i := 7) (pe_nm) (de_nm 4))) (dss_cons (ds_ret (de_call k_law_pick hr pas_cx rfl (da_dat (de_nm 0) (da_nm 1 (da_dat (de_of (dn_lst (dl_cons (de_nm 5) (dl_cons (de_nm 5) (dl_cons (de_nm 6) (dl_cons (de_nm 7) (dl_cons (de_non) (dl_cons (de_items rfl g.b_list (dr_nm 3)) (dl_nil))))))))) (da_nil)))))) (dss_nl))))))))
theorem sc_meets : FnScope ["book", "raws", "wants", "plan"] ["book", "raws", "wants", "plan"] (defScope (top 51)) := ⟨rfl, rfl, rfl, by decide +kernel, rfl, by decide +kernel, by decide +kernel⟩
theorem k_meets (g : G K mg) : Kn P w K mg base 6 "meets" 4 F_meets := by
  obtain ⟨f, fd, FD, hm⟩ := g.f_meets
  have k_does_meet : Kn P w K mg base 5 "does_meet" 4 F_does_meet := (k_does_meet g).mono (by decide)
  have k_look_all : Kn P w K mg base 5 "look_all" 3 F_look_all := (k_look_all g).mono (by decide)
  have k_look_plan : Kn P w K mg base 5 "look_plan" 2 F_look_plan := (k_look_plan g).mono (by decide)
  refine kn_of FD sc_meets hm (FD.bindsN fun _ _ _ _ _ _ us hl => match us, hl with | [_, _, _, _], _ => rfl) rfl rfl fun cd A outer s H E hr => ?_
  have hu : (A.deeper (PyProof.Rows.envOfC "meets" (defScope (top 51)) s.heap.objs.size f cd)).units + 65 < cLine := by have := hr.un; omega
  exact dss_cons (ds_expr (de_call k_look_all hr pas_cx rfl (da_dat (de_nm 0) (da_dat (de_nm 1) (da_dat (de_nm 2) (da_nil)))))) (dss_cons (ds_expr (de_call k_look_plan hr pas_cx rfl (da_dat (de_nm 0) (da_dat (de_nm 3) (da_nil))))) (dss_cons (ds_ret (de_call k_does_meet hr pas_cx rfl (da_dat (de_nm 0) (da_dat (de_nm 1) (da_dat (de_nm 2) (da_dat (de_nm 3) (da_nil))))))) (dss_nl)))
theorem sc_leavings : FnScope ["book", "raws", "wants", "plan", "found", "word", "rate"] ["book", "raws", "wants", "plan"] (defScope (top 52)) := ⟨rfl, rfl, rfl, by decide +kernel, rfl, by decide +kernel, by decide +kernel⟩
theorem k_leavings (g : G K mg) : Kn P w K mg base 6 "leavings" 4 F_leavings := by
  obtain ⟨f, fd, FD, hm⟩ := g.f_leavings
  have k_all_goods : Kn P w K mg base 5 "all_goods" 1 F_all_goods := (k_all_goods g).mono (by decide)
  have k_is_less : Kn P w K mg base 5 "is_less" 2 F_is_less := (k_is_less g).mono (by decide)
  have k_look_all : Kn P w K mg base 5 "look_all" 3 F_look_all := (k_look_all g).mono (by decide)
  have k_look_plan : Kn P w K mg base 5 "look_plan" 2 F_look_plan := (k_look_plan g).mono (by decide)
  have k_plus : Kn P w K mg base 5 "plus" 2 F_plus := (k_plus g).mono (by decide)
  have k_rate_of : Kn P w K mg base 5 "rate_of" 3 F_rate_of := (k_rate_of g).mono (by decide)
  have k_times : Kn P w K mg base 5 "times" 2 F_times := (k_times g).mono (by decide)
  refine kn_of FD sc_leavings hm (FD.bindsN fun _ _ _ _ _ _ us hl => match us, hl with | [_, _, _, _], _ => rfl) rfl rfl fun cd A outer s H E hr => ?_
  have hu : (A.deeper (PyProof.Rows.envOfC "leavings" (defScope (top 52)) s.heap.objs.size f cd)).units + 65 < cLine := by have := hr.un; omega
  exact dss_cons (ds_expr (de_call k_look_all hr pas_cx rfl (da_dat (de_nm 0) (da_dat (de_nm 1) (da_dat (de_nm 2) (da_nil)))))) (dss_cons (ds_expr (de_call k_look_plan hr pas_cx rfl (da_dat (de_nm 0) (da_dat (de_nm 3) (da_nil))))) (dss_cons (ds_setN sc_leavings.nd rfl (by first | exact .inl rfl | exact .inr rfl) (dn_lst (dl_nil))) (dss_cons (ds_for own_cx rfl (di_seq (de_call k_all_goods hr pas_cx rfl (da_dat (de_nm 0) (da_nil)))) (dg_name sc_leavings.nd rfl (by first | exact .inl rfl | exact .inr rfl)) (dss_cons (ds_set sc_leavings.nd rfl (by first | exact .inl rfl | exact .inr rfl) (de_call k_rate_of hr pas_cx rfl (da_dat (de_nm 0) (da_dat (de_nm 3) (da_dat (de_nm 5) (da_nil)))))) (dss_cons (ds_if (DW.dt (dw_and (dt_ninA hu (dr_nm 5) (dr_nm 1)) (dw_and1 (dt_val (de_call k_is_less hr pas_cx rfl (da_dat (de_get2 hu (de_nm 2) (de_nm 5) (de_gtup g.c_NOUGHT_plans rfl)) (da_dat (de_nm 6) (da_nil)))) (by intro _; rfl))))) (dss_cons (ds_expr (de_append (i := 4) (pe_nm) (de_tup (dl_cons (de_nm 5) (dl_cons (de_call k_plus hr pas_cx rfl (da_dat (de_nm 6) (da_dat (de_call k_times hr pas_cx rfl (da_dat (de_tup (dl_cons (de_neg (de_int)) (dl_cons (de_int) (dl_nil)))) (da_dat (de_get2 hu (de_nm 2) (de_nm 5) (de_gtup g.c_NOUGHT_plans rfl)) (da_nil)))) (da_nil)))) (dl_nil)))))) (dss_nl)) (dss_nl)) (dss_nl)))) (dss_cons (ds_ret (de_nm 4)) (dss_nl)))))
theorem sc_never : FnScope ["book", "raws", "made", "row", "word"] ["book", "raws"] (defScope (top 58)) := ⟨rfl, rfl, rfl, by decide +kernel, rfl, by decide +kernel, by decide +kernel⟩
theorem k_never (g : G K mg) : Kn P w K mg base 6 "never" 2 F_never := by
  obtain ⟨f, fd, FD, hm⟩ := g.f_never
  have k_all_goods : Kn P w K mg base 5 "all_goods" 1 F_all_goods := (k_all_goods g).mono (by decide)
  have k_layers : Kn P w K mg base 5 "layers" 2 F_layers := (k_layers g).mono (by decide)
  refine kn_of FD sc_never hm (FD.bindsN fun _ _ _ _ _ _ us hl => match us, hl with | [_, _], _ => rfl) rfl rfl fun cd A outer s H E hr => ?_
  have hu : (A.deeper (PyProof.Rows.envOfC "never" (defScope (top 58)) s.heap.objs.size f cd)).units + 65 < cLine := by have := hr.un; omega
  exact dss_cons (ds_setN sc_never.nd rfl (by first | exact .inl rfl | exact .inr rfl) (dn_dic0)) (dss_cons (ds_for own_cx rfl (di_seq (de_call k_layers hr pas_cx rfl (da_dat (de_nm 0) (da_dat (de_nm 1) (da_nil))))) (dg_name sc_never.nd rfl (by first | exact .inl rfl | exact .inr rfl)) (dss_cons (ds_for own_cx rfl (di_seq (de_nm 3)) (dg_name sc_never.nd rfl (by first | exact .inl rfl | exact .inr rfl)) (dss_cons (ds_put (i := 2) hu (pe_nm) (de_nm 4) (de_bl)) (dss_nl))) (dss_nl))) (dss_cons (ds_ret (de_of (dn_lc (own := [("word", 4)]) rfl sc_never.nd (di_seq (de_call k_all_goods hr pas_cx rfl (da_dat (de_nm 0) (da_nil)))) (blkOk_by rfl) (by decide) (fun _ _ _ _ _ => dg_name sc_never.nd rfl (by first | exact .inl rfl | exact .inr rfl)) (fun _ _ _ _ _ => dts_one (dt_ninA hu (dr_nm 4) (dr_nm 2))) (fun _ _ _ _ _ => de_nm 4)))) (dss_nl)))
theorem sc_plan : FnScope ["book", "raws", "wants", "table", "row", "some", "names", "k"] ["book", "raws", "wants"] (defScope (top 66)) := ⟨rfl, rfl, rfl, by decide +kernel, rfl, by decide +kernel, by decide +kernel⟩
theorem k_plan (g : G K mg) : Kn P w K mg base 6 "plan" 3 F_plan := by
  obtain ⟨f, fd, FD, hm⟩ := g.f_plan
  have k_look_all : Kn P w K mg base 5 "look_all" 3 F_look_all := (k_look_all g).mono (by decide)
  have k_solved : Kn P w K mg base 5 "solved" 3 F_solved := (k_solved g).mono (by decide)
  have k_ways : Kn P w K mg base 5 "ways" 1 F_ways := (k_ways g).mono (by decide)
  refine kn_of FD sc_plan hm (FD.bindsN fun _ _ _ _ _ _ us hl => match us, hl with | [_, _, _], _ => rfl) rfl rfl fun cd A outer s H E hr => ?_
  have hu : (A.deeper (PyProof.Rows.envOfC "plan" (defScope (top 66)) s.heap.objs.size f cd)).units + 65 < cLine := by have := hr.un; omega
  exact dss_cons (ds_expr (de_call k_look_all hr pas_cx rfl (da_dat (de_nm 0) (da_dat (de_nm 1) (da_dat (de_nm 2) (da_nil)))))) (dss_cons (ds_tgt (dg_tup rfl (dgs_cons sc_plan.nd rfl (by first | exact .inl rfl | exact .inr rfl) (dgs_cons sc_plan.nd rfl (by first | exact .inl rfl | exact .inr rfl) (dgs_nil)))) (de_call k_solved hr pas_cx rfl (da_dat (de_nm 0) (da_dat (de_nm 1) (da_dat (de_nm 2) (da_nil)))))) (dss_cons (ds_if (dt_isn (dr_nm 4) (dr_of (de_non))) (dss_cons (ds_raise g.x_Barred takes_cx) (dss_nl)) (dss_nl)) (dss_cons (ds_set sc_plan.nd rfl (by first | exact .inl rfl | exact .inr rfl) (de_of (dn_bad))) (dss_cons (ds_set sc_plan.nd rfl (by first | exact .inl rfl | exact .inr rfl) (de_call k_ways hr pas_cx rfl (da_dat (de_nm 0) (da_nil)))) (dss_cons (ds_ret (de_of (dn_dict rfl g.b_dict (drn_of (dn_lc (own := [("k", 7)]) rfl sc_plan.nd (di_range1 rfl g.b_range (dl_cons (de_len g.b_len (dr_nm 6)) (dl_nil))) (blkOk_by rfl) (by decide) (fun _ _ _ _ _ => dg_name sc_plan.nd rfl (by first | exact .inl rfl | exact .inr rfl)) (fun _ _ _ _ _ => dts_nil) (fun _ _ _ _ _ => de_tup (dl_cons (de_ix hu (dr_nm 6) (dr_nm 7)) (dl_cons (de_ix hu (dr_nm 5) (dr_nm 7)) (dl_nil))))))))) (dss_nl))))))
theorem sc_least_power : FnScope ["book", "raws", "wants", "table", "row", "some", "names", "k"] ["book", "raws", "wants"] (defScope (top 67)) := ⟨rfl, rfl, rfl, by decide +kernel, rfl, by decide +kernel, by decide +kernel⟩
theorem k_least_power (g : G K mg) : Kn P w K mg base 6 "least_power" 3 F_least_power := by
  obtain ⟨f, fd, FD, hm⟩ := g.f_least_power
  have k_look_all : Kn P w K mg base 5 "look_all" 3 F_look_all := (k_look_all g).mono (by decide)
  have k_power_of : Kn P w K mg base 5 "power_of" 2 F_power_of := (k_power_of g).mono (by decide)
  have k_solved : Kn P w K mg base 5 "solved" 3 F_solved := (k_solved g).mono (by decide)
  have k_ways : Kn P w K mg base 5 "ways" 1 F_ways := (k_ways g).mono (by decide)
  refine kn_of FD sc_least_power hm (FD.bindsN fun _ _ _ _ _ _ us hl => match us, hl with | [_, _, _], _ => rfl) rfl rfl fun cd A outer s H E hr => ?_
  have hu : (A.deeper (PyProof.Rows.envOfC "least_power" (defScope (top 67)) s.heap.objs.size f cd)).units + 65 < cLine := by have := hr.un; omega
  exact dss_cons (ds_expr (de_call k_look_all hr pas_cx rfl (da_dat (de_nm 0) (da_dat (de_nm 1) (da_dat (de_nm 2) (da_nil)))))) (dss_cons (ds_tgt (dg_tup rfl (dgs_cons sc_least_power.nd rfl (by first | exact .inl rfl | exact .inr rfl) (dgs_cons sc_least_power.nd rfl (by first | exact .inl rfl | exact .inr rfl) (dgs_nil)))) (de_call k_solved hr pas_cx rfl (da_dat (de_nm 0) (da_dat (de_nm 1) (da_dat (de_nm 2) (da_nil)))))) (dss_cons (ds_if (dt_isn (dr_nm 4) (dr_of (de_non))) (dss_cons (ds_ret (de_non)) (dss_nl)) (dss_nl)) (dss_cons (ds_set sc_least_power.nd rfl (by first | exact .inl rfl | exact .inr rfl) (de_of (dn_bad))) (dss_cons (ds_set sc_least_power.nd rfl (by first | exact .inl rfl | exact .inr rfl) (de_call k_ways hr pas_cx rfl (da_dat (de_nm 0) (da_nil)))) (dss_cons (ds_ret (de_call k_power_of hr pas_cx rfl (da_dat (de_nm 0) (da_dat (de_of (dn_dict rfl g.b_dict (drn_of (dn_lc (own := [("k", 7)]) rfl sc_least_power.nd (di_range1 rfl g.b_range (dl_cons (de_len g.b_len (dr_nm 6)) (dl_nil))) (blkOk_by rfl) (by decide) (fun _ _ _ _ _ => dg_name sc_least_power.nd rfl (by first | exact .inl rfl | exact .inr rfl)) (fun _ _ _ _ _ => dts_nil) (fun _ _ _ _ _ => de_tup (dl_cons (de_ix hu (dr_nm 6) (dr_nm 7)) (dl_cons (de_ix hu (dr_nm 5) (dr_nm 7)) (dl_nil)))))))) (da_nil))))) (dss_nl))))))
theorem sc_paper : FnScope ["book", "raws", "wants", "words", "table", "row", "some", "k"] ["book", "raws", "wants"] (defScope (top 68)) := ⟨rfl, rfl, rfl, by decide +kernel, rfl, by decide +kernel, by decide +kernel⟩
theorem k_paper (g : G K mg) : Kn P w K mg base 6 "paper" 3 F_paper := by
  obtain ⟨f, fd, FD, hm⟩ := g.f_paper
  have k_goods_asked : Kn P w K mg base 5 "goods_asked" 3 F_goods_asked := (k_goods_asked g).mono (by decide)
  have k_look_all : Kn P w K mg base 5 "look_all" 3 F_look_all := (k_look_all g).mono (by decide)
  have k_solved : Kn P w K mg base 5 "solved" 3 F_solved := (k_solved g).mono (by decide)
  refine kn_of FD sc_paper hm (FD.bindsN fun _ _ _ _ _ _ us hl => match us, hl with | [_, _, _], _ => rfl) rfl rfl fun cd A outer s H E hr => ?_
  have hu : (A.deeper (PyProof.Rows.envOfC "paper" (defScope (top 68)) s.heap.objs.size f cd)).units + 65 < cLine := by have := hr.un; omega
  exact dss_cons (ds_expr (de_call k_look_all hr pas_cx rfl (da_dat (de_nm 0) (da_dat (de_nm 1) (da_dat (de_nm 2) (da_nil)))))) (dss_cons (ds_set sc_paper.nd rfl (by first | exact .inl rfl | exact .inr rfl) (de_call k_goods_asked hr pas_cx rfl (da_dat (de_nm 0) (da_dat (de_nm 1) (da_dat (de_nm 2) (da_nil)))))) (dss_cons (ds_tgt (dg_tup rfl (dgs_cons sc_paper.nd rfl (by first | exact .inl rfl | exact .inr rfl) (dgs_cons sc_paper.nd rfl (by first | exact .inl rfl | exact .inr rfl) (dgs_nil)))) (de_call k_solved hr pas_cx rfl (da_dat (de_nm 0) (da_dat (de_nm 1) (da_dat (de_nm 2) (da_nil)))))) (dss_cons (ds_set sc_paper.nd rfl (by first | exact .inl rfl | exact .inr rfl) (de_if (dt_is (dr_nm 5) (dr_of (de_non))) (de_of (dn_bad)) (de_of (dn_bad)))) (dss_cons (ds_ret (de_tup (dl_cons (de_if (dt_is (dr_nm 5) (dr_of (de_non))) (de_str) (de_str)) (dl_cons (de_of (dn_dict rfl g.b_dict (drn_of (dn_lc (own := [("k", 7)]) rfl sc_paper.nd (di_range1 rfl g.b_range (dl_cons (de_len g.b_len (dr_nm 3)) (dl_nil))) (blkOk_by rfl) (by decide) (fun _ _ _ _ _ => dg_name sc_paper.nd rfl (by first | exact .inl rfl | exact .inr rfl)) (fun _ _ _ _ _ => dts_nil) (fun _ _ _ _ _ => de_tup (dl_cons (de_ix hu (dr_nm 3) (dr_nm 7)) (dl_cons (de_ix hu (dr_nm 6) (dr_nm 7)) (dl_nil)))))))) (dl_nil))))) (dss_nl)))))
theorem sc_law_side : FnScope ["_law_script", "_law_town", "_law_least_many", "_law_found", "_law_k", "_law_word"] ["_law_script", "_law_town", "_law_least_many"] (defScope (top 80)) := ⟨rfl, rfl, rfl, by decide +kernel, rfl, by decide +kernel, by decide +kernel⟩
theorem k_law_side (g : G K mg) : Kn P w K mg base 6 "_law_side" 3 F_law_side := by
  obtain ⟨f, fd, FD, hm⟩ := g.f_law_side
  have k_law_draw : Kn P w K mg base 5 "_law_draw" 3 F_law_draw := (k_law_draw g).mono (by decide)
  have k_law_good : Kn P w K mg base 5 "_law_good" 2 F_law_good := (k_law_good g).mono (by decide)
  have k_law_pick : Kn P w K mg base 5 "_law_pick" 3 F_law_pick := (k_law_pick g).mono (by decide)
  refine kn_of FD sc_law_side hm (FD.bindsN fun _ _ _ _ _ _ us hl => match us, hl with | [_, _, _], _ => rfl) rfl rfl fun cd A outer s H E hr => ?_
  have hu : (A.deeper (PyProof.Rows.envOfC "_law_side" (defScope (top 80)) s.heap.objs.size f cd)).units + 65 < cLine := by have := hr.un; omega
  exact dss_cons (ds_setN sc_law_side.nd rfl (by first | exact .inl rfl | exact .inr rfl) (dn_dic0)) (dss_cons (ds_for own_cx rfl (di_range1 rfl g.b_range (dl_cons (de_add (dr_nm 2) (dr_of (de_call k_law_draw hr pas_cx rfl (da_dat (de_nm 0) (da_nm 1 (da_dat (de_sub (dr_of (de_int)) (dr_nm 2)) (da_nil))))))) (dl_nil))) (dg_name sc_law_side.nd rfl (by first | exact .inl rfl | exact .inr rfl)) (dss_cons (ds_put (i := 3) hu (pe_nm) (de_call k_law_good hr pas_cx rfl (da_dat (de_nm 0) (da_nm 1 (da_nil)))) (de_call k_law_pick hr pas_cx rfl (da_dat (de_nm 0) (da_nm 1 (da_dat (de_of (dn_lst (dl_cons (de_int) (dl_cons (de_int) (dl_cons (de_int) (dl_cons (de_int) (dl_cons (de_int) (dl_nil)))))))) (da_nil)))))) (dss_nl))) (dss_cons (ds_ret (de_tuple g.b_tuple (drn_of (dn_lc (own := [("_law_word", 5)]) rfl sc_law_side.nd (di_seq (de_of (dn_sortKeys rfl rfl g.b_sorted (dr_nm 3)))) (blkOk_by rfl) (by decide) (fun _ _ _ _ _ => dg_name sc_law_side.nd rfl (by first | exact .inl rfl | exact .inr rfl)) (fun _ _ _ _ _ => dts_nil) (fun _ _ _ _ _ => de_tup (dl_cons (de_nm 5) (dl_cons (de_ix hu (dr_nm 3) (dr_nm 5)) (dl_nil)))))))) (dss_nl)))
theorem sc_law_wants : FnScope ["_law_script", "_law_town", "_law_book_here", "_law_found", "_law_k", "_law_word"] ["_law_script", "_law_town", "_law_book_here"] (defScope (top 85)) := ⟨rfl, rfl, rfl, by decide +kernel, rfl, by decide +kernel, by decide +kernel⟩
theorem k_law_wants (g : G K mg) : Kn P w K mg base 6 "_law_wants" 3 F_law_wants := by
  obtain ⟨f, fd, FD, hm⟩ := g.f_law_wants
  have k_law_draw : Kn P w K mg base 5 "_law_draw" 3 F_law_draw := (k_law_draw g).mono (by decide)
  have k_law_good : Kn P w K mg base 5 "_law_good" 2 F_law_good := (k_law_good g).mono (by decide)
  have k_law_goods : Kn P w K mg base 5 "_law_goods" 1 F_law_goods := (k_law_goods g).mono (by decide)
  have k_law_pick : Kn P w K mg base 5 "_law_pick" 3 F_law_pick := (k_law_pick g).mono (by decide)
  have k_law_rate : Kn P w K mg base 5 "_law_rate" 2 F_law_rate := (k_law_rate g).mono (by decide)
  refine kn_of FD sc_law_wants hm (FD.bindsN fun _ _ _ _ _ _ us hl => match us, hl with | [_, _, _], _ => rfl) rfl rfl fun cd A outer s H E hr => ?_
  have hu : (A.deeper (PyProof.Rows.envOfC "_law_wants" (defScope (top 85)) s.heap.objs.size f cd)).units + 65 < cLine := by have := hr.un; omega
  exact dss_cons (ds_setN sc_law_wants.nd rfl (by first | exact .inl rfl | exact .inr rfl) (dn_dic0)) (dss_cons (ds_for own_cx rfl (di_range1 rfl g.b_range (dl_cons (de_call k_law_draw hr pas_cx rfl (da_dat (de_nm 0) (da_nm 1 (da_dat (de_call k_law_pick hr pas_cx rfl (da_dat (de_nm 0) (da_nm 1 (da_dat (de_of (dn_lst (dl_cons (de_int) (dl_cons (de_int) (dl_cons (de_int) (dl_nil)))))) (da_nil))))) (da_nil))))) (dl_nil))) (dg_name sc_law_wants.nd rfl (by first | exact .inl rfl | exact .inr rfl)) (dss_cons (ds_set sc_law_wants.nd rfl (by first | exact .inl rfl | exact .inr rfl) (de_call k_law_pick hr pas_cx rfl (da_dat (de_nm 0) (da_nm 1 (da_dat (de_add (dr_of (de_call k_law_goods hr pas_cx rfl (da_dat (de_nm 2) (da_nil)))) (drn_of (dn_lst (dl_cons (de_call k_law_good hr pas_cx rfl (da_dat (de_nm 0) (da_nm 1 (da_nil)))) (dl_nil))))) (da_nil)))))) (dss_cons (ds_put (i := 3) hu (pe_nm) (de_nm 5) (de_call k_law_rate hr pas_cx rfl (da_dat (de_nm 0) (da_nm 1 (da_nil))))) (dss_nl)))) (dss_cons (ds_ret (de_nm 3)) (dss_nl)))
theorem sc_law_other : FnScope ["_law_kind", "_law_book_here", "_law_plan_now", "_law_word"] ["_law_kind", "_law_book_here", "_law_plan_now", "_law_word"] (defScope (top 88)) := ⟨rfl, rfl, rfl, by decide +kernel, rfl, by decide +kernel, by decide +kernel⟩
theorem k_law_other (g : G K mg) : Kn P w K mg base 6 "_law_other" 4 F_law_other := by
  obtain ⟨f, fd, FD, hm⟩ := g.f_law_other
  have k_givers : Kn P w K mg base 5 "givers" 2 F_givers := (k_givers g).mono (by decide)
  have k_power : Kn P w K mg base 5 "power" 2 F_power := (k_power g).mono (by decide)
  have k_rates : Kn P w K mg base 5 "rates" 2 F_rates := (k_rates g).mono (by decide)
  have k_takers : Kn P w K mg base 5 "takers" 2 F_takers := (k_takers g).mono (by decide)
  have k_works : Kn P w K mg base 5 "works" 2 F_works := (k_works g).mono (by decide)
  refine kn_of FD sc_law_other hm (FD.bindsN fun _ _ _ _ _ _ us hl => match us, hl with | [_, _, _, _], _ => rfl) rfl rfl fun cd A outer s H E hr => ?_
  have hu : (A.deeper (PyProof.Rows.envOfC "_law_other" (defScope (top 88)) s.heap.objs.size f cd)).units + 65 < cLine := by have := hr.un; omega
  exact dss_cons (ds_if (dt_eq hu (dr_nm 0) (dr_of (de_int))) (dss_cons (ds_ret (de_call k_rates hr pas_cx rfl (da_dat (de_nm 1) (da_dat (de_nm 2) (da_nil))))) (dss_nl)) (dss_nl)) (dss_cons (ds_if (dt_eq hu (dr_nm 0) (dr_of (de_int))) (dss_cons (ds_ret (de_call k_power hr pas_cx rfl (da_dat (de_nm 1) (da_dat (de_nm 2) (da_nil))))) (dss_nl)) (dss_nl)) (dss_cons (ds_if (dt_eq hu (dr_nm 0) (dr_of (de_int))) (dss_cons (ds_ret (de_call k_works hr pas_cx rfl (da_dat (de_nm 1) (da_dat (de_nm 2) (da_nil))))) (dss_nl)) (dss_nl)) (dss_cons (ds_ret (de_if (dt_eq hu (dr_nm 0) (dr_of (de_int))) (de_call k_givers hr pas_cx rfl (da_dat (de_nm 1) (da_dat (de_nm 3) (da_nil)))) (de_call k_takers hr pas_cx rfl (da_dat (de_nm 1) (da_dat (de_nm 3) (da_nil)))))) (dss_nl))))
theorem sc_shows : FnScope ["book", "raws", "wants", "thing", "prices", "word", "good", "name"] ["book", "raws", "wants", "thing"] (defScope (top 71)) := ⟨rfl, rfl, rfl, by decide +kernel, rfl, by decide +kernel, by decide +kernel⟩
theorem k_shows (g : G K mg) : Kn P w K mg base 7 "shows" 4 F_shows := by
  obtain ⟨f, fd, FD, hm⟩ := g.f_shows
  have k_gain_of : Kn P w K mg base 6 "gain_of" 2 F_gain_of := (k_gain_of g).mono (by decide)
  have k_goods_asked : Kn P w K mg base 6 "goods_asked" 3 F_goods_asked := (k_goods_asked g).mono (by decide)
  have k_is_less : Kn P w K mg base 6 "is_less" 2 F_is_less := (k_is_less g).mono (by decide)
  have k_is_told : Kn P w K mg base 6 "is_told" 1 F_is_told := (k_is_told g).mono (by decide)
  have k_least_power : Kn P w K mg base 6 "least_power" 3 F_least_power := (k_least_power g).mono (by decide)
  have k_look_all : Kn P w K mg base 6 "look_all" 3 F_look_all := (k_look_all g).mono (by decide)
  have k_ways : Kn P w K mg base 6 "ways" 1 F_ways := (k_ways g).mono (by decide)
  have k_whole : Kn P w K mg base 6 "whole" 1 F_whole := (k_whole g).mono (by decide)
  have k_worth_of : Kn P w K mg base 6 "worth_of" 2 F_worth_of := (k_worth_of g).mono (by decide)
  refine kn_of FD sc_shows hm (FD.bindsN fun _ _ _ _ _ _ us hl => match us, hl with | [_, _, _, _], _ => rfl) rfl rfl fun cd A outer s H E hr => ?_
  have hu : (A.deeper (PyProof.Rows.envOfC "shows" (defScope (top 71)) s.heap.objs.size f cd)).units + 65 < cLine := by have := hr.un; omega
  exact dss_cons (ds_expr (de_call k_look_all hr pas_cx rfl (da_dat (de_nm 0) (da_dat (de_nm 1) (da_dat (de_nm 2) (da_nil)))))) (dss_cons (ds_if (DW.dt (dw_or (dt_not (dt_val (de_isi isT_tuple rfl g.b_isinstance rfl g.b_tuple (by decide +kernel) (dr_nm 3)) (by intro _; rfl))) (dw_or (dt_ne hu (dr_of (de_len g.b_len (dr_nm 3))) (dr_of (de_int))) (dw_or1 (dt_not (dt_val (de_isi isT_dict rfl g.b_isinstance rfl g.b_dict (by decide +kernel) (dr_of (de_ix hu (dr_nm 3) (dr_of (de_int))))) (by intro _; rfl))))))) (dss_cons (ds_ret (de_bl)) (dss_nl)) (dss_nl)) (dss_cons (ds_set sc_shows.nd rfl (by first | exact .inl rfl | exact .inr rfl) (de_ix hu (dr_nm 3) (dr_of (de_int)))) (dss_cons (ds_if (dt_not (dt_val (de_all rfl g.b_all (drn_of (dn_lc (own := [("word", 5)]) rfl sc_shows.nd (di_keys (de_nm 4)) (blkOk_by rfl) (by decide) (fun _ _ _ _ _ => dg_name sc_shows.nd rfl (by first | exact .inl rfl | exact .inr rfl)) (fun _ _ _ _ _ => dts_nil) (fun _ _ _ _ _ => de_and (de_isi isT_str rfl g.b_isinstance rfl g.b_str (by decide +kernel) (dr_nm 5)) (de_one (de_call k_is_told hr pas0 rfl (da_dat (de_ix hu (dr_nm 4) (dr_nm 5)) (da_nil)))))))) (by intro _; rfl))) (dss_cons (ds_ret (de_bl)) (dss_nl)) (dss_nl)) (dss_cons (ds_if (dt_ne hu (drn_of (dn_sortKeys rfl rfl g.b_sorted (dr_nm 4))) (dr_of (de_call k_goods_asked hr pas_cx rfl (da_dat (de_nm 0) (da_dat (de_nm 1) (da_dat (de_nm 2) (da_nil))))))) (dss_cons (ds_ret (de_bl)) (dss_nl)) (dss_nl)) (dss_cons (ds_if (dt_eq hu (dr_of (de_ix hu (dr_nm 3) (dr_of (de_int)))) (dr_of (de_str))) (dss_cons (ds_set sc_shows.nd rfl (by first | exact .inl rfl | exact .inr rfl) (de_all rfl g.b_all (drn_of (dn_lc (own := [("name", 7)]) rfl sc_shows.nd (di_seq (de_call k_ways hr pas_cx rfl (da_dat (de_nm 0) (da_nil)))) (blkOk_by rfl) (by decide) (fun _ _ _ _ _ => dg_name sc_shows.nd rfl (by first | exact .inl rfl | exact .inr rfl)) (fun _ _ _ _ _ => dts_nil) (fun _ _ _ _ _ => de_not (de_call k_is_less hr pas0 rfl (da_dat (de_gtup g.c_NOUGHT_plans rfl) (da_dat (de_call k_gain_of hr pas0 rfl (da_dat (de_ix hu (dr_nm 0) (dr_nm 7)) (da_dat (de_nm 4) (da_nil)))) (da_nil))))))))) (dss_cons (ds_ret (de_and (de_nm 6) (de_one (de_call k_is_less hr pas_cx rfl (da_dat (de_gtup g.c_NOUGHT_plans rfl) (da_dat (de_call k_worth_of hr pas_cx rfl (da_dat (de_nm 4) (da_dat (de_nm 2) (da_nil)))) (da_nil))))))) (dss_nl))) (dss_nl)) (dss_cons (ds_if (DW.dt (dw_or (dt_ne hu (dr_of (de_ix hu (dr_nm 3) (dr_of (de_int)))) (dr_of (de_str))) (dw_or1 (dt_val (de_any rfl g.b_any (drn_of (dn_lc (own := [("name", 7)]) rfl sc_shows.nd (di_seq (de_call k_ways hr pas_cx rfl (da_dat (de_nm 0) (da_nil)))) (blkOk_by rfl) (by decide) (fun _ _ _ _ _ => dg_name sc_shows.nd rfl (by first | exact .inl rfl | exact .inr rfl)) (fun _ _ _ _ _ => dts_nil) (fun _ _ _ _ _ => de_call k_is_less hr pas0 rfl (da_dat (de_call k_whole hr pas0 rfl (da_dat (de_ix hu (dr_of (de_ix hu (dr_nm 0) (dr_nm 7))) (dr_of (de_int))) (da_nil))) (da_dat (de_call k_gain_of hr pas0 rfl (da_dat (de_ix hu (dr_nm 0) (dr_nm 7)) (da_dat (de_nm 4) (da_nil)))) (da_nil))))))) (by intro _; rfl))))) (dss_cons (ds_ret (de_bl)) (dss_nl)) (dss_nl)) (dss_cons (ds_ret (de_eq hu (dr_of (de_call k_least_power hr pas_cx rfl (da_dat (de_nm 0) (da_dat (de_nm 1) (da_dat (de_nm 2) (da_nil)))))) (dr_of (de_call k_worth_of hr pas_cx rfl (da_dat (de_nm 4) (da_dat (de_nm 2) (da_nil))))))) (dss_nl))))))))
theorem sc_is_least : FnScope ["book", "raws", "wants", "some"] ["book", "raws", "wants", "some"] (defScope (top 72)) := ⟨rfl, rfl, rfl, by decide +kernel, rfl, by decide +kernel, by decide +kernel⟩
theorem k_is_least (g : G K mg) : Kn P w K mg base 7 "is_least" 4 F_is_least := by
  obtain ⟨f, fd, FD, hm⟩ := g.f_is_least
  have k_does_meet : Kn P w K mg base 6 "does_meet" 4 F_does_meet := (k_does_meet g).mono (by decide)
  have k_least_power : Kn P w K mg base 6 "least_power" 3 F_least_power := (k_least_power g).mono (by decide)
  have k_look_all : Kn P w K mg base 6 "look_all" 3 F_look_all := (k_look_all g).mono (by decide)
  have k_look_plan : Kn P w K mg base 6 "look_plan" 2 F_look_plan := (k_look_plan g).mono (by decide)
  have k_power_of : Kn P w K mg base 6 "power_of" 2 F_power_of := (k_power_of g).mono (by decide)
  refine kn_of FD sc_is_least hm (FD.bindsN fun _ _ _ _ _ _ us hl => match us, hl with | [_, _, _, _], _ => rfl) rfl rfl fun cd A outer s H E hr => ?_
  have hu : (A.deeper (PyProof.Rows.envOfC "is_least" (defScope (top 72)) s.heap.objs.size f cd)).units + 65 < cLine := by have := hr.un; omega
  exact dss_cons (ds_expr (de_call k_look_all hr pas_cx rfl (da_dat (de_nm 0) (da_dat (de_nm 1) (da_dat (de_nm 2) (da_nil)))))) (dss_cons (ds_expr (de_call k_look_plan hr pas_cx rfl (da_dat (de_nm 0) (da_dat (de_nm 3) (da_nil))))) (dss_cons (ds_if (dt_not (dt_val (de_call k_does_meet hr pas_cx rfl (da_dat (de_nm 0) (da_dat (de_nm 1) (da_dat (de_nm 2) (da_dat (de_nm 3) (da_nil)))))) (by intro _; rfl))) (dss_cons (ds_ret (de_bl)) (dss_nl)) (dss_nl)) (dss_cons (ds_ret (de_eq hu (dr_of (de_call k_power_of hr pas_cx rfl (da_dat (de_nm 0) (da_dat (de_nm 3) (da_nil))))) (dr_of (de_call k_least_power hr pas_cx rfl (da_dat (de_nm 0) (da_dat (de_nm 1) (da_dat (de_nm 2) (da_nil)))))))) (dss_nl))))
theorem sc_law_book : FnScope ["_law_script", "_law_town", "_law_most", "_law_found", "_law_names", "_law_turn", "_law_name", "_law_ticks", "_law_need"] ["_law_script", "_law_town", "_law_most"] (defScope (top 81)) := ⟨rfl, rfl, rfl, by decide +kernel, rfl, by decide +kernel, by decide +kernel⟩
theorem k_law_book (g : G K mg) : Kn P w K mg base 7 "_law_book" 3 F_law_book := by
  obtain ⟨f, fd, FD, hm⟩ := g.f_law_book
  have k_law_draw : Kn P w K mg base 6 "_law_draw" 3 F_law_draw := (k_law_draw g).mono (by decide)
  have k_law_pick : Kn P w K mg base 6 "_law_pick" 3 F_law_pick := (k_law_pick g).mono (by decide)
  have k_law_side : Kn P w K mg base 6 "_law_side" 3 F_law_side := (k_law_side g).mono (by decide)
  refine kn_of FD sc_law_book hm (FD.bindsN fun _ _ _ _ _ _ us hl => match us, hl with | [_, _, _], _ => rfl) rfl rfl fun cd A outer s H E hr => ?_
  have hu : (A.deeper (PyProof.Rows.envOfC "_law_book" (defScope (top 81)) s.heap.objs.size f cd)).units + 65 < cLine := by have := hr.un; omega
  exact dss_cons (ds_setN sc_law_book.nd rfl (by first | exact .inl rfl | exact .inr rfl) (dn_dic0)) (dss_cons (ds_set sc_law_book.nd rfl (by first | exact .inl rfl | exact .inr rfl) (de_of (dn_lst (dl_cons (de_str) (dl_cons (de_str) (dl_cons (de_str) (dl_cons (de_str) (dl_cons (de_str) (dl_cons (de_str) (dl_nil)))))))))) (dss_cons (ds_set sc_law_book.nd rfl (by first | exact .inl rfl | exact .inr rfl) (de_call k_law_draw hr pas_cx rfl (da_dat (de_nm 0) (da_nm 1 (da_dat (de_int) (da_nil)))))) (dss_cons (ds_for own_cx rfl (di_seq (de_slice (de_add (dr_of (de_slice (de_nm 4) (dp_some (de_nm 5)) (dp_none))) (dr_of (de_slice (de_nm 4) (dp_none) (dp_some (de_nm 5))))) (dp_none) (dp_some (de_add (dr_of (de_int)) (dr_of (de_call k_law_draw hr pas_cx rfl (da_dat (de_nm 0) (da_nm 1 (da_dat (de_nm 2) (da_nil)))))))))) (dg_name sc_law_book.nd rfl (by first | exact .inl rfl | exact .inr rfl)) (dss_cons (ds_set sc_law_book.nd rfl (by first | exact .inl rfl | exact .inr rfl) (de_call k_law_pick hr pas_cx rfl (da_dat (de_nm 0) (da_nm 1 (da_dat (de_of (dn_lst (dl_cons (de_int) (dl_cons (de_int) (dl_cons (de_int) (dl_cons (de_int) (dl_cons (de_int) (dl_nil)))))))) (da_nil)))))) (dss_cons (ds_set sc_law_book.nd rfl (by first | exact .inl rfl | exact .inr rfl) (de_call k_law_pick hr pas_cx rfl (da_dat (de_nm 0) (da_nm 1 (da_dat (de_of (dn_lst (dl_cons (de_int) (dl_cons (de_int) (dl_cons (de_int) (dl_cons (de_int) (dl_cons (de_int) (dl_nil)))))))) (da_nil)))))) (dss_cons (ds_put (i := 3) hu (pe_nm) (de_nm 6) (de_tup (dl_cons (de_call k_law_side hr pas_cx rfl (da_dat (de_nm 0) (da_nm 1 (da_dat (de_int) (da_nil))))) (dl_cons (de_call k_law_side hr pas_cx rfl (da_dat (de_nm 0) (da_nm 1 (da_dat (de_int) (da_nil))))) (dl_cons (de_nm 7) (dl_cons (de_nm 8) (dl_nil))))))) (dss_nl))))) (dss_cons (ds_ret (de_nm 3)) (dss_nl)))))
theorem sc_law_heard : FnScope ["_law_kind", "_law_book_here", "_law_plan_now", "_law_word", "_law_caught", "_law_found", "e"] ["_law_kind", "_law_book_here", "_law_plan_now", "_law_word"] (defScope (top 90)) := ⟨rfl, rfl, rfl, by decide +kernel, rfl, by decide +kernel, by decide +kernel⟩
theorem k_law_heard (g : G K mg) : Kn P w K mg base 7 "_law_heard" 4 F_law_heard := by
  obtain ⟨f, fd, FD, hm⟩ := g.f_law_heard
  have k_law_other : Kn P w K mg base 6 "_law_other" 4 F_law_other := (k_law_other g).mono (by decide)
  have k_law_refusal : Kn P w K mg base 6 "_law_refusal" 1 F_law_refusal := (k_law_refusal g).mono (by decide)
  refine kn_of FD sc_law_heard hm (FD.bindsN fun _ _ _ _ _ _ us hl => match us, hl with | [_, _, _, _], _ => rfl) rfl rfl fun cd A outer s H E hr => ?_
  have hu : (A.deeper (PyProof.Rows.envOfC "_law_heard" (defScope (top 90)) s.heap.objs.size f cd)).units + 65 < cLine := by have := hr.un; omega
  exact dss_cons (ds_set sc_law_heard.nd rfl (by first | exact .inl rfl | exact .inr rfl) (de_non)) (dss_cons (ds_set sc_law_heard.nd rfl (by first | exact .inl rfl | exact .inr rfl) (de_non)) (dss_cons (ds_try_keep (i := 6) (j := 4) rfl rfl rfl sc_law_heard.nd rfl rfl rfl (by first | exact .inl rfl | exact .inr rfl) (by decide) ⟨rfl, by decide, .inl g.n_WorkError⟩ takes_cx g.s_WorkError (fun W pn xe tk pw => dss_cons (ds_set sc_law_heard.nd rfl (by first | exact .inl rfl | exact .inr rfl) (de_call k_law_other hr (pas_tk tk) rfl (da_dat (de_nm 0) (da_dat (de_nm 1) (da_dat (de_nm 2) (da_dat (de_nm 3) (da_nil))))))) (dss_nl))) (dss_cons (ds_ret (de_if (dt_is (dr_nm 4) (dr_of (de_non))) (de_tup (dl_cons (de_str) (dl_cons (de_nm 5) (dl_nil)))) (de_call k_law_refusal hr pas_cx rfl (da_dat (de_nm 4) (da_nil))))) (dss_nl))))
theorem sc_law_one : FnScope ["_law_kind", "_law_some", "_law_book_here", "_law_raws_here", "_law_wants_here", "_law_plan_now"] ["_law_kind", "_law_some"] (defScope (top 87)) := ⟨rfl, rfl, rfl, by decide +kernel, rfl, by decide +kernel, by decide +kernel⟩
theorem k_law_one (g : G K mg) : Kn P w K mg base 8 "_law_one" 2 F_law_one := by
  obtain ⟨f, fd, FD, hm⟩ := g.f_law_one
  have k_is_least : Kn P w K mg base 7 "is_least" 4 F_is_least := (k_is_least g).mono (by decide)
  have k_layers : Kn P w K mg base 7 "layers" 2 F_layers := (k_layers g).mono (by decide)
  have k_least_power : Kn P w K mg base 7 "least_power" 3 F_least_power := (k_least_power g).mono (by decide)
  have k_leavings : Kn P w K mg base 7 "leavings" 4 F_leavings := (k_leavings g).mono (by decide)
  have k_meets : Kn P w K mg base 7 "meets" 4 F_meets := (k_meets g).mono (by decide)
  have k_never : Kn P w K mg base 7 "never" 2 F_never := (k_never g).mono (by decide)
  have k_paper : Kn P w K mg base 7 "paper" 3 F_paper := (k_paper g).mono (by decide)
  have k_plan : Kn P w K mg base 7 "plan" 3 F_plan := (k_plan g).mono (by decide)
  have k_shows : Kn P w K mg base 7 "shows" 4 F_shows := (k_shows g).mono (by decide)
  refine kn_of FD sc_law_one hm (FD.bindsN fun _ _ _ _ _ _ us hl => match us, hl with | [_, _], _ => rfl) rfl rfl fun cd A outer s H E hr => ?_
  have hu : (A.deeper (PyProof.Rows.envOfC "_law_one" (defScope (top 87)) s.heap.objs.size f cd)).units + 65 < cLine := by have := hr.un; omega
  exact dss_cons (ds_lstG rfl (dgs_cons sc_law_one.nd rfl (by first | exact .inl rfl | exact .inr rfl) (dgs_cons sc_law_one.nd rfl (by first | exact .inl rfl | exact .inr rfl) (dgs_cons sc_law_one.nd rfl (by first | exact .inl rfl | exact .inr rfl) (dgs_cons sc_law_one.nd rfl (by first | exact .inl rfl | exact .inr rfl) (dgs_nil))))) (de_nm 1)) (dss_cons (ds_if (dt_eq hu (dr_nm 0) (dr_of (de_int))) (dss_cons (ds_ret (de_call k_meets hr pas_cx rfl (da_dat (de_nm 2) (da_dat (de_nm 3) (da_dat (de_nm 4) (da_dat (de_nm 5) (da_nil))))))) (dss_nl)) (dss_nl)) (dss_cons (ds_if (dt_eq hu (dr_nm 0) (dr_of (de_int))) (dss_cons (ds_ret (de_call k_leavings hr pas_cx rfl (da_dat (de_nm 2) (da_dat (de_nm 3) (da_dat (de_nm 4) (da_dat (de_nm 5) (da_nil))))))) (dss_nl)) (dss_nl)) (dss_cons (ds_if (dt_eq hu (dr_nm 0) (dr_of (de_int))) (dss_cons (ds_ret (de_call k_is_least hr pas_cx rfl (da_dat (de_nm 2) (da_dat (de_nm 3) (da_dat (de_nm 4) (da_dat (de_nm 5) (da_nil))))))) (dss_nl)) (dss_nl)) (dss_cons (ds_if (dt_eq hu (dr_nm 0) (dr_of (de_int))) (dss_cons (ds_ret (de_call k_least_power hr pas_cx rfl (da_dat (de_nm 2) (da_dat (de_nm 3) (da_dat (de_nm 4) (da_nil)))))) (dss_nl)) (dss_nl)) (dss_cons (ds_if (dt_eq hu (dr_nm 0) (dr_of (de_int))) (dss_cons (ds_ret (de_call k_paper hr pas_cx rfl (da_dat (de_nm 2) (da_dat (de_nm 3) (da_dat (de_nm 4) (da_nil)))))) (dss_nl)) (dss_nl)) (dss_cons (ds_if (dt_eq hu (dr_nm 0) (dr_of (de_int))) (dss_cons (ds_ret (de_call k_shows hr pas_cx rfl (da_dat (de_nm 2) (da_dat (de_nm 3) (da_dat (de_nm 4) (da_dat (de_non) (da_nil))))))) (dss_nl)) (dss_nl)) (dss_cons (ds_if (dt_eq hu (dr_nm 0) (dr_of (de_int))) (dss_cons (ds_ret (de_call k_plan hr pas_cx rfl (da_dat (de_nm 2) (da_dat (de_nm 3) (da_dat (de_nm 4) (da_nil)))))) (dss_nl)) (dss_nl)) (dss_cons (ds_ret (de_if (dt_eq hu (dr_nm 0) (dr_of (de_int))) (de_call k_layers hr pas_cx rfl (da_dat (de_nm 2) (da_dat (de_nm 3) (da_nil)))) (de_call k_never hr pas_cx rfl (da_dat (de_nm 2) (da_dat (de_nm 3) (da_nil)))))) (dss_nl)))))))))
theorem sc_law_told : FnScope ["_law_kind", "_law_some", "_law_caught", "_law_found", "e"] ["_law_kind", "_law_some"] (defScope (top 89)) := ⟨rfl, rfl, rfl, by decide +kernel, rfl, by decide +kernel, by decide +kernel⟩
theorem k_law_told (g : G K mg) : Kn P w K mg base 9 "_law_told" 2 F_law_told := by
  obtain ⟨f, fd, FD, hm⟩ := g.f_law_told
  have k_law_one : Kn P w K mg base 8 "_law_one" 2 F_law_one := (k_law_one g).mono (by decide)
  have k_law_refusal : Kn P w K mg base 8 "_law_refusal" 1 F_law_refusal := (k_law_refusal g).mono (by decide)
  refine kn_of FD sc_law_told hm (FD.bindsN fun _ _ _ _ _ _ us hl => match us, hl with | [_, _], _ => rfl) rfl rfl fun cd A outer s H E hr => ?_
  have hu : (A.deeper (PyProof.Rows.envOfC "_law_told" (defScope (top 89)) s.heap.objs.size f cd)).units + 65 < cLine := by have := hr.un; omega
  exact dss_cons (ds_set sc_law_told.nd rfl (by first | exact .inl rfl | exact .inr rfl) (de_non)) (dss_cons (ds_set sc_law_told.nd rfl (by first | exact .inl rfl | exact .inr rfl) (de_non)) (dss_cons (ds_try_keep (i := 4) (j := 2) rfl rfl rfl sc_law_told.nd rfl rfl rfl (by first | exact .inl rfl | exact .inr rfl) (by decide) ⟨rfl, by decide, .inl g.n_WorkError⟩ takes_cx g.s_WorkError (fun W pn xe tk pw => dss_cons (ds_set sc_law_told.nd rfl (by first | exact .inl rfl | exact .inr rfl) (de_call k_law_one hr (pas_tk tk) rfl (da_dat (de_nm 0) (da_dat (de_nm 1) (da_nil))))) (dss_nl))) (dss_cons (ds_ret (de_if (dt_is (dr_nm 2) (dr_of (de_non))) (de_tup (dl_cons (de_str) (dl_cons (de_nm 3) (dl_nil)))) (de_call k_law_refusal hr pas_cx rfl (da_dat (de_nm 2) (da_nil))))) (dss_nl))))
theorem sc_law : FnScope ["_law_script", "_law_town", "_law_book_here", "_law_raws_here", "_law_wants_here", "_law_some", "_law_odd", "_law_many", "_law_k", "_law_bad", "_law_rates_now", "_law_worse", "_law_named", "_law_seven", "_law_word", "_law_ill", "_law_wrong", "_law_kind"] ["_law_script"] (defScope (top 92)) := ⟨rfl, rfl, rfl, by decide +kernel, rfl, by decide +kernel, by decide +kernel⟩
theorem ok_law (g : G K mg) {f : Addr} {fd : FuncData} (FD : FunD K "law" "law" (defArgs (top 92)) (defBody (top 92)) (defScope (top 92)) [] [] f fd) : FnOk P w K mg base (L2.CX P w) 10 f fd ["_law_script"] (spF K 1 F_law) := by
  have k_law_bad_plan : Kn P w K mg base 9 "_law_bad_plan" 4 F_law_bad_plan := (k_law_bad_plan g).mono (by decide)
  have k_law_book : Kn P w K mg base 9 "_law_book" 3 F_law_book := (k_law_book g).mono (by decide)
  have k_law_heard : Kn P w K mg base 9 "_law_heard" 4 F_law_heard := (k_law_heard g).mono (by decide)
  have k_law_pick : Kn P w K mg base 9 "_law_pick" 3 F_law_pick := (k_law_pick g).mono (by decide)
  have k_law_plan : Kn P w K mg base 9 "_law_plan" 3 F_law_plan := (k_law_plan g).mono (by decide)
  have k_law_raws : Kn P w K mg base 9 "_law_raws" 3 F_law_raws := (k_law_raws g).mono (by decide)
  have k_law_told : Kn P w K mg base 9 "_law_told" 2 F_law_told := (k_law_told g).mono (by decide)
  have k_law_wants : Kn P w K mg base 9 "_law_wants" 3 F_law_wants := (k_law_wants g).mono (by decide)
  refine fn_ok (N := ["_law_script", "_law_town", "_law_book_here", "_law_raws_here", "_law_wants_here", "_law_some", "_law_odd", "_law_many", "_law_k", "_law_bad", "_law_rates_now", "_law_worse", "_law_named", "_law_seven", "_law_word", "_law_ill", "_law_wrong", "_law_kind"]) (ps := ["_law_script"]) FD sc_law fun cd A outer s H E hr => ?_
  have hu : (A.deeper (PyProof.Rows.envOfC "law" (defScope (top 92)) s.heap.objs.size f cd)).units + 65 < cLine := by have := hr.un; omega
  exact dss_cons (ds_setN sc_law.nd rfl (by first | exact .inl rfl | exact .inr rfl) (dn_lst (dl_nil))) (dss_cons (ds_set sc_law.nd rfl (by first | exact .inl rfl | exact .inr rfl) (de_call k_law_book hr pas_cx rfl (da_dat (de_nm 0) (da_nm 1 (da_dat (de_int) (da_nil)))))) (dss_cons (ds_set sc_law.nd rfl (by first | exact .inl rfl | exact .inr rfl) (de_call k_law_raws hr pas_cx rfl (da_dat (de_nm 0) (da_nm 1 (da_dat (de_nm 2) (da_nil)))))) (dss_cons (ds_set sc_law.nd rfl (by first | exact .inl rfl | exact .inr rfl) (de_call k_law_wants hr pas_cx rfl (da_dat (de_nm 0) (da_nm 1 (da_dat (de_nm 2) (da_nil)))))) (dss_cons (ds_set sc_law.nd rfl (by first | exact .inl rfl | exact .inr rfl) (de_call k_law_plan hr pas_cx rfl (da_dat (de_nm 0) (da_nm 1 (da_dat (de_nm 2) (da_nil)))))) (dss_cons (ds_set sc_law.nd rfl (by first | exact .inl rfl | exact .inr rfl) (de_of (dn_lst (dl_cons (de_of (dn_lst (dl_cons (de_str) (dl_cons (de_str) (dl_nil))))) (dl_cons (de_of (dn_lst (dl_cons (de_str) (dl_cons (de_str) (dl_nil))))) (dl_cons (de_of (dn_lst (dl_cons (de_str) (dl_nil)))) (dl_cons (de_of (dn_lst (dl_cons (de_str) (dl_cons (de_non) (dl_nil))))) (dl_cons (de_tup (dl_cons (de_str) (dl_nil))) (dl_cons (de_non) (dl_cons (de_str) (dl_cons (de_of (dn_lst (dl_cons (de_str) (dl_nil)))) (dl_cons (de_of (dn_lst (dl_cons (de_str) (dl_nil)))) (dl_nil))))))))))))) (dss_cons (ds_set sc_law.nd rfl (by first | exact .inl rfl | exact .inr rfl) (de_add (drn_of (dn_lc (own := [("_law_k", 8)]) rfl sc_law.nd (di_range2 rfl g.b_range (dl_cons (de_int) (dl_cons (de_int) (dl_nil)))) (blkOk_by rfl) (by decide) (fun _ _ _ _ _ => dg_name sc_law.nd rfl (by first | exact .inl rfl | exact .inr rfl)) (fun _ _ _ _ _ => dts_nil) (fun _ _ _ _ _ => de_mulX (dr_of (de_str)) (dr_nm 8)))) (drn_of (dn_lc (own := [("_law_k", 8)]) rfl sc_law.nd (di_range1 rfl g.b_range (dl_cons (de_int) (dl_nil))) (blkOk_by rfl) (by decide) (fun _ _ _ _ _ => dg_name sc_law.nd rfl (by first | exact .inl rfl | exact .inr rfl)) (fun _ _ _ _ _ => dts_nil) (fun _ _ _ _ _ => de_add (dr_of (de_str)) (dr_of (de_ix hu (dr_of (de_str)) (dr_nm 8)))))))) (dss_cons (ds_set sc_law.nd rfl (by first | exact .inl rfl | exact .inr rfl) (de_call k_law_pick hr pas_cx rfl (da_dat (de_nm 0) (da_nm 1 (da_dat (de_add (dr_nm 6) (drn_of (dn_lst (dl_cons (de_nm 7) (dl_nil))))) (da_nil)))))) (dss_cons (ds_set sc_law.nd rfl (by first | exact .inl rfl | exact .inr rfl) (de_of (dn_lst (dl_cons (de_tup (dl_cons (de_int) (dl_cons (de_int) (dl_nil)))) (dl_cons (de_tup (dl_cons (de_int) (dl_cons (de_int) (dl_nil)))) (dl_cons (de_tup (dl_cons (de_int) (dl_cons (de_int) (dl_nil)))) (dl_cons (de_tup (dl_cons (de_sub (dr_of (de_int)) (dr_of (de_int))) (dl_cons (de_int) (dl_nil)))) (dl_cons (de_tup (dl_cons (de_int) (dl_cons (de_int) (dl_nil)))) (dl_cons (de_int) (dl_cons (de_non) (dl_cons (de_tup (dl_cons (de_bl) (dl_cons (de_int) (dl_nil)))) (dl_cons (de_of (dn_lst (dl_cons (de_int) (dl_cons (de_int) (dl_nil))))) (dl_cons (de_tup (dl_cons (de_int) (dl_cons (de_int) (dl_nil)))) (dl_cons (de_tup (dl_cons (de_int) (dl_nil))) (dl_nil))))))))))))))) (dss_cons (ds_set sc_law.nd rfl (by first | exact .inl rfl | exact .inr rfl) (de_of (dn_dict rfl g.b_dict (drn_of (dn_lst (dl_cons (de_tup (dl_cons (de_str) (dl_cons (de_call k_law_pick hr pas_cx rfl (da_dat (de_nm 0) (da_nm 1 (da_dat (de_nm 10) (da_nil))))) (dl_nil)))) (dl_nil))))))) (dss_cons (ds_set sc_law.nd rfl (by first | exact .inl rfl | exact .inr rfl) (de_dictX rfl g.b_dict (de_of (dn_lst (dl_cons (de_tup (dl_cons (de_call k_law_pick hr pas_cx rfl (da_dat (de_nm 0) (da_nm 1 (da_dat (de_of (dn_lst (dl_cons (de_str) (dl_cons (de_str) (dl_cons (de_int) (dl_cons (de_non) (dl_cons (de_str) (dl_nil)))))))) (da_nil))))) (dl_cons (de_tup (dl_cons (de_int) (dl_cons (de_int) (dl_nil)))) (dl_nil)))) (dl_nil)))))) (dss_cons (ds_set sc_law.nd rfl (by first | exact .inl rfl | exact .inr rfl) (de_of (dn_dict rfl g.b_dict (drn_of (dn_lc (own := [("_law_word", 14)]) rfl sc_law.nd (di_seq (de_str)) (blkOk_by rfl) (by decide) (fun _ _ _ _ _ => dg_name sc_law.nd rfl (by first | exact .inl rfl | exact .inr rfl)) (fun _ _ _ _ _ => dts_nil) (fun _ _ _ _ _ => de_tup (dl_cons (de_nm 14) (dl_cons (de_tup (dl_cons (de_int) (dl_cons (de_int) (dl_nil)))) (dl_nil))))))))) (dss_cons (ds_set sc_law.nd rfl (by first | exact .inl rfl | exact .inr rfl) (de_call k_law_pick hr pas_cx rfl (da_dat (de_nm 0) (da_nm 1 (da_dat (de_of (dn_lst (dl_cons (de_nm 11) (dl_cons (de_nm 11) (dl_cons (de_nm 12) (dl_cons (de_nm 13) (dl_cons (de_non) (dl_cons (de_of (dn_lst (dl_cons (de_tup (dl_cons (de_str) (dl_cons (de_tup (dl_cons (de_int) (dl_cons (de_int) (dl_nil)))) (dl_nil)))) (dl_nil)))) (dl_nil))))))))) (da_nil)))))) (dss_cons (ds_set sc_law.nd rfl (by first | exact .inl rfl | exact .inr rfl) (de_call k_law_bad_plan hr pas_cx rfl (da_dat (de_nm 0) (da_nm 1 (da_dat (de_nm 2) (da_dat (de_nm 5) (da_nil))))))) (dss_cons (ds_if (dt_ne hu (drn_of (dn_lc (own := [("_law_kind", 17)]) rfl sc_law.nd (di_range1 rfl g.b_range (dl_cons (de_int) (dl_nil))) (blkOk_by rfl) (by decide) (fun _ _ _ _ _ => dg_name sc_law.nd rfl (by first | exact .inl rfl | exact .inr rfl)) (fun _ _ _ _ _ => dts_nil) (fun _ _ _ _ _ => de_call k_law_told hr pas0 rfl (da_dat (de_nm 17) (da_dat (de_of (dn_lst (dl_cons (de_nm 2) (dl_cons (de_nm 9) (dl_cons (de_nm 15) (dl_cons (de_nm 16) (dl_nil))))))) (da_nil)))))) (drn_of (dn_rep (dn_lst (dl_cons (de_tup (dl_cons (de_str) (dl_cons (de_str) (dl_nil)))) (dl_nil))) (de_int)))) (dss_cons (ds_ret (de_bl)) (dss_nl)) (dss_nl)) (dss_cons (ds_if (dt_ne hu (drn_of (dn_lc (own := [("_law_kind", 17)]) rfl sc_law.nd (di_range1 rfl g.b_range (dl_cons (de_int) (dl_nil))) (blkOk_by rfl) (by decide) (fun _ _ _ _ _ => dg_name sc_law.nd rfl (by first | exact .inl rfl | exact .inr rfl)) (fun _ _ _ _ _ => dts_nil) (fun _ _ _ _ _ => de_call k_law_told hr pas0 rfl (da_dat (de_nm 17) (da_dat (de_of (dn_lst (dl_cons (de_nm 2) (dl_cons (de_nm 3) (dl_cons (de_nm 15) (dl_cons (de_nm 16) (dl_nil))))))) (da_nil)))))) (drn_of (dn_rep (dn_lst (dl_cons (de_tup (dl_cons (de_str) (dl_cons (de_str) (dl_nil)))) (dl_nil))) (de_int)))) (dss_cons (ds_ret (de_bl)) (dss_nl)) (dss_nl)) (dss_cons (ds_if (dt_ne hu (drn_of (dn_lc (own := [("_law_kind", 17)]) rfl sc_law.nd (di_range1 rfl g.b_range (dl_cons (de_int) (dl_nil))) (blkOk_by rfl) (by decide) (fun _ _ _ _ _ => dg_name sc_law.nd rfl (by first | exact .inl rfl | exact .inr rfl)) (fun _ _ _ _ _ => dts_nil) (fun _ _ _ _ _ => de_call k_law_told hr pas0 rfl (da_dat (de_nm 17) (da_dat (de_of (dn_lst (dl_cons (de_nm 2) (dl_cons (de_nm 3) (dl_cons (de_nm 4) (dl_cons (de_nm 16) (dl_nil))))))) (da_nil)))))) (drn_of (dn_rep (dn_lst (dl_cons (de_tup (dl_cons (de_str) (dl_cons (de_str) (dl_nil)))) (dl_nil))) (de_int)))) (dss_cons (ds_ret (de_bl)) (dss_nl)) (dss_nl)) (dss_cons (ds_set sc_law.nd rfl (by first | exact .inl rfl | exact .inr rfl) (de_call k_law_pick hr pas_cx rfl (da_dat (de_nm 0) (da_nm 1 (da_dat (de_of (dn_lst (dl_cons (de_str) (dl_cons (de_str) (dl_cons (de_str) (dl_cons (de_non) (dl_cons (de_int) (dl_nil)))))))) (da_nil)))))) (dss_cons (ds_if (dt_ne hu (drn_of (dn_lc (own := [("_law_kind", 17)]) rfl sc_law.nd (di_range1 rfl g.b_range (dl_cons (de_int) (dl_nil))) (blkOk_by rfl) (by decide) (fun _ _ _ _ _ => dg_name sc_law.nd rfl (by first | exact .inl rfl | exact .inr rfl)) (fun _ _ _ _ _ => dts_nil) (fun _ _ _ _ _ => de_call k_law_heard hr pas0 rfl (da_dat (de_nm 17) (da_dat (de_nm 2) (da_dat (de_nm 16) (da_dat (de_nm 14) (da_nil)))))))) (drn_of (dn_rep (dn_lst (dl_cons (de_tup (dl_cons (de_str) (dl_cons (de_str) (dl_nil)))) (dl_nil))) (de_int)))) (dss_cons (ds_ret (de_bl)) (dss_nl)) (dss_nl)) (dss_cons (ds_ret (de_eq hu (drn_of (dn_lc (own := [("_law_kind", 17)]) rfl sc_law.nd (di_seq (de_tup (dl_cons (de_int) (dl_cons (de_int) (dl_nil))))) (blkOk_by rfl) (by decide) (fun _ _ _ _ _ => dg_name sc_law.nd rfl (by first | exact .inl rfl | exact .inr rfl)) (fun _ _ _ _ _ => dts_nil) (fun _ _ _ _ _ => de_call k_law_heard hr pas0 rfl (da_dat (de_nm 17) (da_dat (de_nm 2) (da_dat (de_nm 5) (da_dat (de_nm 14) (da_nil)))))))) (drn_of (dn_rep (dn_lst (dl_cons (de_tup (dl_cons (de_str) (dl_cons (de_str) (dl_nil)))) (dl_nil))) (de_int))))) (dss_nl))))))))))))))))))))
end
end Wk
set_option Elab.async false
set_option linter.all false
set_option maxRecDepth 100000
set_option maxHeartbeats 4000000
namespace Wk
open PySem PySem.Spec L2 DL
/-! ### what is drawn -/
abbrev intsD (ns : List Int) : D := .lst (ns.map D.int)
abbrev townA (n : Nat) : AV := .ow true (.l (List.replicate n (.int 0)))
theorem cell_ok (ns : List Int) (h : ns.length ≤ 63) (k : Int) : ∃ i as, F_law_cell [.fz (intsD ns), .fz (.int k)] = .val (.int i) as := by
  cases ns with
  | nil => simp [F_law_cell, s_law_cell, truR, truD]
  | cons x xs =>
    have hl : (0:Int) < ((xs.length : Int) + 1) := by omega
    have h0 := Int.emod_nonneg k (by omega : ((xs.length : Int) + 1) ≠ 0)
    have hlt : (k % ((xs.length : Int) + 1)).toNat < (x :: xs).length := by
      have := Int.emod_lt_of_pos k hl
      simp; omega
    have e : atI (D.int x :: List.map D.int xs) (k % ((xs.length : Int) + 1)) = some (.int ((x :: xs)[(k % ((xs.length : Int) + 1)).toNat])) := by
      rw [show (D.int x :: List.map D.int xs) = (x :: xs).map D.int from rfl]
      exact atI_of h0 (by rw [List.getElem?_map, List.getElem?_eq_getElem hlt]; rfl)
    simp [F_law_cell, s_law_cell, truR, truD, mod_ok hl, e]
theorem mix_ok (ns : List Int) (h : ns.length ≤ 63) (k : Nat) (hk : k < 2 ^ 30) : ∃ i as, F_law_mix [.fz (intsD ns), .fz (.int k)] = .val (.int i) as := by
  obtain ⟨c, as, hc⟩ := cell_ok ns h k
  have a1 : mulI (.int 104729) (.int ((k : Int) + 1)) = some (.int (104729 * ((k : Int) + 1))) := mul_ok (by decide) (by omega)
  have a2 : ∀ x : Int, modI (.int x) (.int 4294967291) = some (.int (x % 4294967291)) := fun x => mod_ok (by decide)
  obtain ⟨b0, b1⟩ := mod_rng (c + 104729 * ((k : Int) + 1)) 4294967291 (by decide)
  have a3 : powI (.int ((c + 104729 * ((k : Int) + 1)) % 4294967291)) (.int 5) = some (.int (((c + 104729 * ((k : Int) + 1)) % 4294967291) ^ 5)) := pow_ok (by decide) (by decide) (by omega)
  have a4 : ∀ x : Int, modI (.int x) (.int 4294967279) = some (.int (x % 4294967279)) := fun x => mod_ok (by decide)
  have a5 : ∀ x : Int, fdivI (.int x) (.int 64) = some (.int (x / 64)) := fun x => fdiv_ok (by decide) (by decide)
  have a6 : ∀ x : Int, modI (.int x) (.int 4294967231) = some (.int (x % 4294967231)) := fun x => mod_ok (by decide)
  have a7 : ∀ x : Int, mulI (.int (x % 4294967279 / 64)) (.int 69621) = some (.int (x % 4294967279 / 64 * 69621)) := fun x => by
    obtain ⟨c0, c1⟩ := mod_rng x 4294967279 (by decide)
    exact mul_ok (by omega) (by decide)
  simp [F_law_mix, s_law_mix, hc, a1, a2, a3, a4, a5, a6, a7]
theorem draw_ok (ns : List Int) (h : ns.length ≤ 63) (n : Nat) (hn : n < 1000000) (m : Int) (hm : 0 < m) : ∃ r, 0 ≤ r ∧ r < m ∧ F_law_draw [.fz (intsD ns), townA n, .fz (.int m)] = .val (.int r) [.fz (intsD ns), townA (n + 1), .fz (.int m)] := by
  obtain ⟨i, as, hi⟩ := mix_ok ns h (n + 1) (by omega)
  have hs : n < sizeLine := by rw [sizeLine_eq]; omega
  have a5 : ∀ x : Int, fdivI (.int x) (.int 8) = some (.int (x / 8)) := fun x => fdiv_ok (by decide) (by decide)
  have a6 : ∀ x : Int, modI (.int x) (.int m) = some (.int (x % m)) := fun x => mod_ok hm
  obtain ⟨c0, c1⟩ := mod_rng (i / 8) m hm
  refine ⟨i / 8 % m, c0, c1, ?_⟩
  have hi' : F_law_mix [.fz (intsD ns), .fz (.int ((n : Int) + 1))] = .val (.int i) as := hi
  simp [F_law_draw, s_law_draw, hs, hi', a5, a6]
theorem pickL_ok (ns : List Int) (h : ns.length ≤ 63) (n : Nat) (hn : n < 1000000) (xs : List D) (hx : xs ≠ []) : ∃ x, x ∈ xs ∧ F_law_pick [.fz (intsD ns), townA n, .fz (.lst xs)] = .val x [.fz (intsD ns), townA (n + 1), .fz (.lst xs)] := by
  have hl : (0 : Int) < xs.length := by have := List.length_pos_iff.mpr hx; omega
  obtain ⟨r, r0, r1, hr⟩ := draw_ok ns h n hn xs.length hl
  have hlt : r.toNat < xs.length := by omega
  refine ⟨xs[r.toNat], List.getElem_mem hlt, ?_⟩
  have e : atI xs r = some xs[r.toNat] := atI_of r0 (List.getElem?_eq_getElem hlt)
  simp [F_law_pick, s_law_pick, hr, e]
theorem pickS_ok (ns : List Int) (h : ns.length ≤ 63) (n : Nat) (hn : n < 1000000) (z : Str) (hx : 0 < z.length) (hz : z.length ≤ 1000) : ∃ c, c ∈ z.cps.toList ∧ F_law_pick [.fz (intsD ns), townA n, .fz (.str z)] = .val (.str ⟨#[c]⟩) [.fz (intsD ns), townA (n + 1), .fz (.str z)] := by
  have hz' : z.length ≤ sizeLine := by rw [sizeLine_eq]; omega
  have hl : (0 : Int) < z.length := by omega
  obtain ⟨r, r0, r1, hr⟩ := draw_ok ns h n hn z.length hl
  have hlt : r.toNat < z.cps.toList.length := by simp [Str.length] at r1 ⊢; omega
  refine ⟨z.cps.toList[r.toNat], List.getElem_mem hlt, ?_⟩
  have e : atI z.cps.toList r = some z.cps.toList[r.toNat] := atI_of r0 (List.getElem?_eq_getElem hlt)
  have e2 : lenD (.str z) = some (.int z.length) := by show (if z.length ≤ sizeLine then _ else _) = _; rw [if_pos hz']
  simp [F_law_pick, s_law_pick, hr, e, e2, hz']
end Wk
set_option Elab.async false
set_option linter.all false
set_option maxRecDepth 100000
set_option maxHeartbeats 4000000
namespace Wk
open PySem PySem.Spec L2 DL
abbrev small : Str := "abcdefghijklmnopqrstuvwxyz"
/-- a word of the document's -/
structure Wd (z : Str) : Prop where
  lo : 1 ≤ z.cps.toList.length
  hi : z.cps.toList.length ≤ 8
  ok : ∀ c ∈ z.cps.toList, c ∈ small.cps.toList
theorem small_rng : ∀ c ∈ small.cps.toList, c < 1000 := by decide +kernel
theorem Wd.plain {z : Str} (h : Wd z) : Plain z := by
  unfold Plain PyData.strOk
  rw [← Array.all_toList]
  refine List.all_eq_true.mpr fun c hc => decide_eq_true ?_
  have := small_rng c (h.ok c hc); omega
theorem joinL_nil : ∀ ps : List (List Nat), TL.joinL [] ps = ps.flatten
  | [] => rfl
  | [p] => by simp [TL.joinL]
  | p :: q :: r => by rw [TL.joinL, joinL_nil (q :: r)]; simp
theorem join_signs (ys : List Str) (h : ∀ y ∈ ys, ∃ c, y = ⟨#[c]⟩ ∧ c ∈ small.cps.toList) : (∀ c ∈ (Txt.join "" ys).cps.toList, c ∈ small.cps.toList) ∧ (Txt.join "" ys).cps.toList.length = ys.length := by
  have e : (Txt.join "" ys).cps.toList = (ys.map TL.tl).flatten := by
    rw [TL.join_eq]
    have := TL.tl_join "" ys
    rw [show TL.tl "" = [] by decide +kernel, joinL_nil] at this
    exact this
  rw [e]
  clear e
  induction ys with
  | nil => exact ⟨by simp, rfl⟩
  | cons y ys ih =>
    obtain ⟨h1, h2⟩ := ih fun z hz => h z (.tail _ hz)
    obtain ⟨c, rfl, hc⟩ := h y (.head _)
    have e2 : TL.tl ⟨#[c]⟩ = [c] := rfl
    rw [List.map_cons, List.flatten_cons, e2]
    refine ⟨fun d hd => ?_, by simp [h2]⟩
    rcases List.mem_append.mp hd with hd | hd
    · rw [List.mem_singleton] at hd; rw [hd]; exact hc
    · exact h1 d hd
theorem good_loop (ns : List Int) (h : ns.length ≤ 63) : ∀ (ds acc : List D) (n : Nat), n + ds.length < 1000000 → acc.length + ds.length ≤ sizeLine →
    ∃ ys : List Str, (∀ y ∈ ys, ∃ c, y = ⟨#[c]⟩ ∧ c ∈ small.cps.toList) ∧ ys.length = ds.length ∧
      lcLoop (.nm 3) yesF (callF 3 F_law_pick (datA (varE 0) (refA 1 (datA (varE 2) nilA)))) [3] ds [.fz (intsD ns), townA n, .fz (.str small), .un] acc = .val (acc ++ ys.map D.str) [.fz (intsD ns), townA (n + ds.length), .fz (.str small), .un]
  | [], acc, n, _, _ => ⟨[], by simp, rfl, by simp [lcLoop]⟩
  | d :: ds, acc, n, h1, h2 => by
    rw [List.length_cons] at h1 h2
    obtain ⟨c, hc, hp⟩ := pickS_ok ns h n (by omega) small (by decide +kernel) (by decide +kernel)
    obtain ⟨ys, g1, g2, g3⟩ := good_loop ns h ds (acc ++ [.str ⟨#[c]⟩]) (n + 1) (by omega) (by simp; omega)
    refine ⟨⟨#[c]⟩ :: ys, fun y hy => ?_, by simp [g2], ?_⟩
    · cases hy with
      | head => exact ⟨c, rfl, hc⟩
      | tail _ hy => exact g1 y hy
    · have hz : acc.length < sizeLine := by omega
      unfold lcLoop
      simp [hp, hz]
      rw [g3]
      simp [Nat.add_assoc, Nat.add_comm, Nat.add_left_comm]
theorem good_ok (ns : List Int) (h : ns.length ≤ 63) (n : Nat) (hn : n < 900000) : ∃ z n', Wd z ∧ n ≤ n' ∧ n' ≤ n + 12 ∧ F_law_good [.fz (intsD ns), townA n] = .val (.str z) [.fz (intsD ns), townA n'] := by
  obtain ⟨r, r0, r1, hr⟩ := draw_ok ns h n (by omega) 15 (by decide)
  by_cases hr0 : 0 < r
  · obtain ⟨x, hx, hp⟩ := pickL_ok ns h (n + 1) (by omega) [.str "ore", .str "coal", .str "iron", .str "gear", .str "box", .str "oil"] (by simp)
    have hz : 6 ≤ sizeLine := by rw [sizeLine_eq]; decide
    have : ∃ z, x = .str z ∧ Wd z := by
      simp only [List.mem_cons, List.not_mem_nil, or_false] at hx
      rcases hx with rfl | rfl | rfl | rfl | rfl | rfl <;> exact ⟨_, rfl, by decide +kernel, by decide +kernel, by decide +kernel⟩
    obtain ⟨z, rfl, wz⟩ := this
    refine ⟨z, n + 2, wz, by omega, by omega, ?_⟩
    simp [F_law_good, s_law_good, hr, hr0, hz, hp]
  · obtain ⟨m, m0, m1, hm⟩ := draw_ok ns h (n + 1) (by omega) 8 (by decide)
    have hz0 : (0 : Nat) + (rangeD 0 (1 + m).toNat).length ≤ sizeLine := by rw [sizeLine_eq]; simp [rangeD]; omega
    obtain ⟨ys, g1, g2, g3⟩ := good_loop ns h (rangeD 0 (1 + m).toNat) [] (n + 1 + 1) (by simp [rangeD]; omega) hz0
    obtain ⟨j1, j2⟩ := join_signs ys g1
    have hl : (rangeD 0 (1 + m).toNat).length = (1 + m).toNat := by simp [rangeD]
    have hy : ys.length = (1 + m).toNat := g2.trans hl
    refine ⟨Txt.join "" ys, n + 1 + 1 + (1 + m).toNat, ⟨by rw [j2]; omega, by rw [j2]; omega, j1⟩, by omega, by omega, ?_⟩
    have hm1 : -(2 ^ 62) ≤ 1 + m ∧ 1 + m < 2 ^ 62 := by omega
    rw [hl] at g3
    have hj : joinO (.str "") (.lst (ys.map D.str)) = some (.str (Txt.join "" ys)) := by
      show (toStrs (ys.map D.str)).bind _ = _
      rw [toStrs_map]
      show (if _ then _ else _) = _
      rw [if_pos]
      have : (ys.map (·.length)).sum = ys.length := by
        clear j1 j2 g2 g3 hy
        induction ys with
        | nil => rfl
        | cons y ys ih =>
          obtain ⟨c, rfl, _⟩ := g1 y (.head _)
          rw [List.map_cons, List.sum_cons, ih fun z hz => g1 z (.tail _ hz), List.length_cons]
          show 1 + _ = _; omega
      have e0 : ("" : Str).length = 0 := by decide +kernel
      rw [this, e0, hy]; omega
    have hm2 : -4611686018427387904 ≤ 1 + m ∧ 1 + m < 4611686018427387904 := by omega
    simp only [List.nil_append] at g3
    simp [F_law_good, s_law_good, hr, hr0, hm, hm2, g3, hj]
end Wk
set_option Elab.async false
set_option linter.all false
set_option maxRecDepth 100000
set_option maxHeartbeats 4000000
namespace Wk
open PySem PySem.Spec L2 DL
def sideD (ps : List (Str × Int)) : D := .tup (ps.map fun p => .tup [.str p.1, .int p.2])
structure Side (lo : Nat) (ps : List (Str × Int)) : Prop where
  lo : lo ≤ ps.length
  hi : ps.length ≤ 3
  nd : (ps.map (·.1)).Nodup
  up : DLS.srt (ps.map (·.1)) = ps.map (·.1)
  wd : ∀ p ∈ ps, Wd p.1
  rng : ∀ p ∈ ps, 1 ≤ p.2 ∧ p.2 ≤ 20
def findA {α : Type} (ps : List (Str × α)) (w : Str) : Option α := (ps.find? fun p => decide (p.1 = w)).map (·.2)
theorem findA_mem {α : Type} {ps : List (Str × α)} {w : Str} (h : w ∈ ps.map (·.1)) : ∃ a, findA ps w = some a ∧ (w, a) ∈ ps := by
  unfold findA
  cases e : ps.find? fun p => decide (p.1 = w) with
  | none =>
    obtain ⟨p, hp, rfl⟩ := List.mem_map.mp h
    have := List.find?_eq_none.mp e p hp
    simp at this
  | some p =>
    have h1 := List.mem_of_find?_eq_some e
    have h2 := List.find?_some e
    have h2 : p.1 = w := of_decide_eq_true h2
    exact ⟨p.2, rfl, by rw [← h2]; exact h1⟩
theorem srt_idem (xs : List Str) : DLS.srt (DLS.srt xs) = DLS.srt xs := (DLS.srt_unique (List.Perm.refl _) (DLS.srt_up xs)).symm
theorem side_ok (ns : List Int) (h : ns.length ≤ 63) (lo : Nat) (hlo : lo ≤ 1) (n : Nat) (hn : n < 800000) : ∃ ps n', Side lo ps ∧ n ≤ n' ∧ n' ≤ n + 100 ∧ F_law_side [.fz (intsD ns), townA n, .fz (.int lo)] = .val (sideD ps) [.fz (intsD ns), townA n', .fz (.int lo)] := by
  obtain ⟨r, r0, r1, hr⟩ := draw_ok ns h n (by omega) (4 - lo) (by omega)
  have hlen : (rangeD 0 ((lo : Int) + r).toNat).length = ((lo : Int) + r).toNat := by simp [rangeD]
  have hb : ((lo : Int) + r).toNat ≤ 3 ∧ lo ≤ ((lo : Int) + r).toNat := by omega
  have key := for_inv (g := .nm 4) (b := seqS (putAt 3 (callF 2 F_law_good (datA (varE 0) (refA 1 nilA))) (callF 3 F_law_pick (datA (varE 0) (refA 1 (datA (mapO OD.dat (lstN (consL (conE (.int 1)) (consL (conE (.int 1)) (consL (conE (.int 2)) (consL (conE (.int 3)) (consL (conE (.int 20)) nilL)))))) ) nilA))))) nxS)
    (fun j ρ => ∃ ps n' kk, ρ = [AV.fz (intsD ns), townA n', .fz (.int lo), .ow false (.d (kvsD D.int ps)), kk, .un] ∧ (kk = .un ∨ ∃ d, kk = .fz d) ∧ n + 1 ≤ n' ∧ n' ≤ n + 1 + 20 * j ∧ (ps.map (·.1)).Nodup ∧ (∀ p ∈ ps, Wd p.1 ∧ 1 ≤ p.2 ∧ p.2 ≤ 20) ∧ ps.length ≤ j ∧ (0 < j → 1 ≤ ps.length))
    (rangeD 0 ((lo : Int) + r).toNat) 0 [AV.fz (intsD ns), townA (n + 1), .fz (.int lo), .ow false (.d []), .un, .un] ⟨[], n + 1, .un, rfl, .inl rfl, by omega, by omega, by simp, by simp, by simp, by simp⟩ ?_
  · obtain ⟨ρ', hf, ps, n', kk, rfl, hkk, a1, a2, nd, al, l1, l2⟩ := key
    rw [hlen] at a2 l1 l2
    simp only [Nat.zero_add] at a2 l1 l2
    have ext : ∀ w ∈ DLS.srt (ps.map (·.1)), ∃ m, (w, m) ∈ ps ∧ valD (kvsD D.int ps) (.inr w) = some (.int m) := fun w hw => by
      obtain ⟨m, _, hm⟩ := findA_mem ((DLS.srt_perm _).mem_iff.mp hw)
      exact ⟨m, hm, valD_kvs nd hm⟩
    let V : Str → Int := fun w => (findA ps w).getD 0
    have hV : ∀ w ∈ DLS.srt (ps.map (·.1)), (w, V w) ∈ ps ∧ valD (kvsD D.int ps) (.inr w) = some (.int (V w)) := fun w hw => by
      obtain ⟨m, e, hm⟩ := findA_mem ((DLS.srt_perm _).mem_iff.mp hw)
      have : V w = m := by show (findA ps w).getD 0 = m; rw [e]; rfl
      rw [this]; exact ⟨hm, valD_kvs nd hm⟩
    have hls : (DLS.srt (ps.map (·.1))).length = ps.length := by rw [(DLS.srt_perm _).length_eq, List.length_map]
    have hm : ((DLS.srt (ps.map (·.1))).map fun w => (w, V w)).map (·.1) = DLS.srt (ps.map (·.1)) := by rw [List.map_map]; exact List.map_id _
    refine ⟨(DLS.srt (ps.map (·.1))).map fun w => (w, V w), n', ⟨by rw [List.length_map, hls]; omega, by rw [List.length_map, hls]; omega, ?_, ?_, ?_, ?_⟩, by omega, by omega, ?_⟩
    · rw [hm]; exact (DLS.srt_perm _).nodup_iff.mpr nd
    · rw [hm]; exact srt_idem _
    · intro p hp
      obtain ⟨w, hw, rfl⟩ := List.mem_map.mp hp
      exact (al _ (hV w hw).1).1
    · intro p hp
      obtain ⟨w, hw, rfl⟩ := List.mem_map.mp hp
      exact (al _ (hV w hw).1).2
    · have hz : (2 : Nat) ≤ sizeLine := by rw [sizeLine_eq]; decide
      have hlc := lc_pure (g := .nm 5) (tt := yesF) (te := tupE (consL (varE 5) (consL (binF ixO (varR 3) (varR 5)) nilL))) (vs := [5]) (ρ := [AV.fz (intsD ns), townA n', .fz (.int lo), .ow false (.d (kvsD D.int ps)), kk, .un]) (fun _ => true)
        (fun d => match d with | .str w => .tup [.str w, .int (V w)] | _ => .non) ((DLS.srt (ps.map (·.1))).map D.str) [] (by rw [List.length_nil, List.length_map, hls, sizeLine_eq]; omega) ?_
      · have hi : -4611686018427387904 ≤ (lo : Int) + r ∧ (lo : Int) + r < 4611686018427387904 := by omega
        have e1 : (4 : Int) - (lo : Int) = 4 - lo := rfl
        have hk : keepA (some AV.un) = .un := rfl
        rw [List.nil_append, List.filter_eq_self.mpr (fun _ _ => rfl), List.map_map] at hlc
        have fin : (((DLS.srt (ps.map (·.1))).map fun w => (w, V w)).map fun p => D.tup [.str p.1, .int p.2]) = (DLS.srt (ps.map (·.1))).map ((fun d => match d with | .str w => D.tup [.str w, .int (V w)] | _ => .non) ∘ D.str) := by
          rw [List.map_map]; rfl
        unfold sideD
        rw [fin]
        have hz0 : 5 ≤ sizeLine := by rw [sizeLine_eq]; decide
        rcases hkk with rfl | ⟨d, rfl⟩ <;> simp [F_law_side, s_law_side, hr, hi, hf, skD_kvs, hlc] 
      · intro d hd
        obtain ⟨w, hw, rfl⟩ := List.mem_map.mp hd
        have := (hV w hw).2
        rcases hkk with rfl | ⟨d, rfl⟩ <;> simp [this, hz]
  · rintro j d ρ hd ⟨ps, n', kk, rfl, hkk, a1, a2, nd, al, l1, l2⟩
    have hj : j < 4 := by
      have := (List.getElem?_eq_some_iff.mp hd).1
      rw [hlen] at this; omega
    obtain ⟨x, hx, hp⟩ := pickL_ok ns h n' (by omega) [.int 1, .int 1, .int 2, .int 3, .int 20] (by simp)
    have : ∃ m, x = .int m ∧ 1 ≤ m ∧ m ≤ 20 := by
      simp only [List.mem_cons, List.not_mem_nil, or_false] at hx
      rcases hx with rfl | rfl | rfl | rfl | rfl <;> exact ⟨_, rfl, by decide, by decide⟩
    obtain ⟨m, rfl, m1, m2⟩ := this
    obtain ⟨z, n2, wz, b1, b2, hg⟩ := good_ok ns h (n' + 1) (by omega)
    have hz0 : 5 ≤ sizeLine := by rw [sizeLine_eq]; decide
    have hz1 : (kvsD D.int ps).length < sizeLine := by rw [kvsD_length, sizeLine_eq]; omega
    obtain ⟨c1, c2, c3⟩ := putA_length ps z m
    refine ⟨[AV.fz (intsD ns), townA n', .fz (.int lo), .ow false (.d (kvsD D.int ps)), .fz d, .un], [AV.fz (intsD ns), townA n2, .fz (.int lo), .ow false (.d (kvsD D.int (putA ps z m))), .fz d, .un], ?_, ?_, putA ps z m, n2, .fz d, rfl, .inr ⟨d, rfl⟩, by omega, by omega, putA_nodup nd, fun p hp => ?_, by omega, fun _ => c3⟩
    · rcases hkk with rfl | ⟨d, rfl⟩ <;> simp
    · rw [← putD_kvs]
      simp [hz0, hp, hg, hz1]
    · rcases putA_mem hp with rfl | hp
      · exact ⟨wz, m1, m2⟩
      · exact al p hp
end Wk
set_option Elab.async false
set_option linter.all false
set_option maxRecDepth 100000
set_option maxHeartbeats 4000000
namespace Wk
open PySem PySem.Spec L2 DL
structure Way where
  need : List (Str × Int)
  give : List (Str × Int)
  ticks : Int
  power : Int
def wayD (w : Way) : D := .tup [sideD w.need, sideD w.give, .int w.ticks, .int w.power]
def bookD (b : List (Str × Way)) : D := .dic (kvsD wayD b)
structure GWay (w : Way) : Prop where
  need : Side 0 w.need
  give : Side 1 w.give
  ticks : 1 ≤ w.ticks ∧ w.ticks ≤ 20
  power : 0 ≤ w.power ∧ w.power ≤ 50
structure Book (b : List (Str × Way)) : Prop where
  lo : 1 ≤ b.length
  hi : b.length ≤ 6
  nd : (b.map (·.1)).Nodup
  wd : ∀ p ∈ b, Wd p.1
  way : ∀ p ∈ b, GWay p.2
def namesL : List Str := ["dig", "melt", "a", "press", "zz", "make"]
theorem names_eq : namesL.map D.str = [.str "dig", .str "melt", .str "a", .str "press", .str "zz", .str "make"] := rfl
theorem wd_names : ∀ z ∈ namesL, Wd z := by
  intro z hz
  simp only [namesL, List.mem_cons, List.not_mem_nil, or_false] at hz
  rcases hz with rfl | rfl | rfl | rfl | rfl | rfl <;> exact ⟨by decide +kernel, by decide +kernel, by decide +kernel⟩
theorem rot_ok (r : Int) (h0 : 0 ≤ r) (h1 : r < 6) : ∃ L1 L2 : List Str, slO (.lst (namesL.map D.str)) (some r) none = some (.lst (L1.map D.str)) ∧ slO (.lst (namesL.map D.str)) none (some r) = some (.lst (L2.map D.str)) ∧ (L1 ++ L2).Nodup ∧ (∀ z ∈ L1 ++ L2, z ∈ namesL) ∧ (L1 ++ L2).length = 6 := by
  have : r = 0 ∨ r = 1 ∨ r = 2 ∨ r = 3 ∨ r = 4 ∨ r = 5 := by omega
  rcases this with rfl | rfl | rfl | rfl | rfl | rfl
  · exact ⟨namesL.drop 0, namesL.take 0, rfl, rfl, by decide +kernel, by decide +kernel, rfl⟩
  · exact ⟨namesL.drop 1, namesL.take 1, rfl, rfl, by decide +kernel, by decide +kernel, rfl⟩
  · exact ⟨namesL.drop 2, namesL.take 2, rfl, rfl, by decide +kernel, by decide +kernel, rfl⟩
  · exact ⟨namesL.drop 3, namesL.take 3, rfl, rfl, by decide +kernel, by decide +kernel, rfl⟩
  · exact ⟨namesL.drop 4, namesL.take 4, rfl, rfl, by decide +kernel, by decide +kernel, rfl⟩
  · exact ⟨namesL.drop 5, namesL.take 5, rfl, rfl, by decide +kernel, by decide +kernel, rfl⟩
theorem cut_take (xs : List D) (k : Int) (h0 : 0 ≤ k) : cutD xs none (some k) = xs.take k.toNat := by
  unfold cutD
  have e1 : HT.sIx xs.length 0 none = 0 := rfl
  have e2 : HT.sIx xs.length xs.length (some k) = min k.toNat xs.length := by
    unfold HT.sIx
    simp
    omega
  rw [e1, e2, List.drop_zero, Nat.sub_zero]
  by_cases h : k.toNat ≤ xs.length
  · rw [Nat.min_eq_left h]
  · rw [Nat.min_eq_right (by omega), List.take_of_length_le (Nat.le_refl _), List.take_of_length_le (by omega)]
theorem putA_new {α : Type} {ps : List (Str × α)} {z : Str} {a : α} (h : z ∉ ps.map (·.1)) : putA ps z a = ps ++ [(z, a)] := by unfold putA; rw [if_neg h]
theorem book_ok2 (ns : List Int) (h : ns.length ≤ 63) (n : Nat) (hn : n < 700000) (most : Int) (hm0 : 1 ≤ most) (hm1 : most ≤ 6) : ∃ b n', Book b ∧ (∀ p ∈ b, p.1 ∈ namesL) ∧ n ≤ n' ∧ n' ≤ n + 2000 ∧ F_law_book [.fz (intsD ns), townA n, .fz (.int most)] = .val (bookD b) [.fz (intsD ns), townA n', .fz (.int most)] := by
  obtain ⟨r, r0, r1, hr⟩ := draw_ok ns h n (by omega) 6 (by decide)
  obtain ⟨m, m0, m1, hm⟩ := draw_ok ns h (n + 1) (by omega) most (by omega)
  obtain ⟨L1, L2, s1, s2, nd, wd, hl⟩ := rot_ok r r0 r1
  have hk : 1 ≤ (1 + m).toNat ∧ (1 + m).toNat ≤ 6 := by omega
  have hT : ((L1 ++ L2).take (1 + m).toNat).length = (1 + m).toNat := by rw [List.length_take, hl]; omega
  have ndT : ((L1 ++ L2).take (1 + m).toNat).Nodup := nd.sublist (List.take_sublist _ _)
  generalize hL : (L1 ++ L2).take (1 + m).toNat = L at hT ndT
  have inL : ∀ z ∈ L, z ∈ namesL := fun z hz => wd z (List.mem_of_mem_take (by rw [hL]; exact hz))
  have wdL : ∀ z ∈ L, Wd z := fun z hz => wd_names z (inL z hz)
  let body : Ev → SOut := seqS (setS 7 (callF 3 F_law_pick (datA (varE 0) (refA 1 (datA (mapO OD.dat (lstN (consL (conE (.int 1)) (consL (conE (.int 1)) (consL (conE (.int 2)) (consL (conE (.int 5)) (consL (conE (.int 20)) nilL)))))) ) nilA))))) (seqS (setS 8 (callF 3 F_law_pick (datA (varE 0) (refA 1 (datA (mapO OD.dat (lstN (consL (conE (.int 0)) (consL (conE (.int 1)) (consL (conE (.int 2)) (consL (conE (.int 7)) (consL (conE (.int 50)) nilL)))))) ) nilA))))) (seqS (putAt 3 (varE 6) (tupE (consL (callF 3 F_law_side (datA (varE 0) (refA 1 (datA (conE (.int 0)) nilA)))) (consL (callF 3 F_law_side (datA (varE 0) (refA 1 (datA (conE (.int 1)) nilA)))) (consL (varE 7) (consL (varE 8) nilL)))))) nxS))
  have key := for_inv (g := .nm 6) (b := body)
    (fun j ρ => ∃ b n' k6 k7 k8, ρ = [AV.fz (intsD ns), townA n', .fz (.int most), .ow false (.d (kvsD wayD b)), .fz (.lst (namesL.map D.str)), .fz (.int r), k6, k7, k8] ∧ (k6 = .un ∨ ∃ d, k6 = .fz d) ∧ (k7 = .un ∨ ∃ d, k7 = .fz d) ∧ (k8 = .un ∨ ∃ d, k8 = .fz d) ∧ n + 2 ≤ n' ∧ n' ≤ n + 2 + 300 * j ∧ b.map (·.1) = L.take j ∧ (∀ p ∈ b, GWay p.2))
    (L.map D.str) 0 [AV.fz (intsD ns), townA (n + 2), .fz (.int most), .ow false (.d []), .fz (.lst (namesL.map D.str)), .fz (.int r), .un, .un, .un] ⟨[], n + 2, .un, .un, .un, rfl, .inl rfl, .inl rfl, .inl rfl, by omega, by omega, rfl, by simp⟩ ?_
  · obtain ⟨ρ', hf, b, n', k6, k7, k8, rfl, h6, h7, h8, a1, a2, hb, hw⟩ := key
    simp only [Nat.zero_add, List.length_map, hT] at a2 hb
    rw [List.take_of_length_le (by omega)] at hb
    have hbl : b.length = (1 + m).toNat := by rw [← hT, ← hb, List.length_map]
    refine ⟨b, n', ⟨by omega, by omega, by rw [hb]; exact ndT, fun p hp => wdL _ (by rw [← hb]; exact List.mem_map.mpr ⟨p, hp, rfl⟩), hw⟩, fun p hp => inL _ (by rw [← hb]; exact List.mem_map.mpr ⟨p, hp, rfl⟩), by omega, by omega, ?_⟩
    have hz6 : 6 ≤ sizeLine := by rw [sizeLine_eq]; decide
    have s1' : slO (.lst [.str "dig", .str "melt", .str "a", .str "press", .str "zz", .str "make"]) (some r) none = some (.lst (L1.map D.str)) := s1
    have s2' : slO (.lst [.str "dig", .str "melt", .str "a", .str "press", .str "zz", .str "make"]) none (some r) = some (.lst (L2.map D.str)) := s2
    have s3 : addO (.lst (L1.map D.str)) (.lst (L2.map D.str)) = some (.lst ((L1 ++ L2).map D.str)) := by
      rw [add_strs _ _ (by rw [List.length_map, List.length_map, ← List.length_append, hl]; exact hz6), List.map_append]
    have s4 : slO (.lst ((L1 ++ L2).map D.str)) none (some (1 + m)) = some (.lst (L.map D.str)) := by
      show some (D.lst (cutD _ none (some (1 + m)))) = _
      rw [cut_take _ _ (by omega), ← List.map_take, hL]
    rw [List.map_append] at s3 s4
    have hf' : forS (.nm 6) body (L.map D.str) [AV.fz (intsD ns), townA (n + 1 + 1), .fz (.int most), .ow false (.d []), .fz (.lst [.str "dig", .str "melt", .str "a", .str "press", .str "zz", .str "make"]), .fz (.int r), .un, .un, .un] = _ := hf
    show bodyF 3 9 s_law_book _ = _
    simp only [body] at hf'
    simp [s_law_book, hz6, hr, s1', s2', s3, hm, s4, hf', bookD]
  · rintro j d ρ hd ⟨b, n', k6, k7, k8, rfl, h6, h7, h8, a1, a2, hb, hw⟩
    simp only [Nat.zero_add] at a2 hb ⊢
    have hj : j < L.length := by
      have := (List.getElem?_eq_some_iff.mp hd).1
      simpa using this
    have hj6 : j < 6 := by omega
    obtain ⟨z, hz, rfl⟩ : ∃ z, L[j]? = some z ∧ D.str z = d := by
      rw [List.getElem?_map] at hd
      cases e : L[j]? with
      | none => rw [e] at hd; cases hd
      | some z => rw [e] at hd; exact ⟨z, rfl, Option.some.inj hd⟩
    obtain ⟨x, hx, hp⟩ := pickL_ok ns h n' (by omega) [.int 1, .int 1, .int 2, .int 5, .int 20] (by simp)
    have : ∃ m, x = .int m ∧ 1 ≤ m ∧ m ≤ 20 := by
      simp only [List.mem_cons, List.not_mem_nil, or_false] at hx
      rcases hx with rfl | rfl | rfl | rfl | rfl <;> exact ⟨_, rfl, by decide, by decide⟩
    obtain ⟨t, rfl, t1, t2⟩ := this
    obtain ⟨x, hx, hp2⟩ := pickL_ok ns h (n' + 1) (by omega) [.int 0, .int 1, .int 2, .int 7, .int 50] (by simp)
    have : ∃ m, x = .int m ∧ 0 ≤ m ∧ m ≤ 50 := by
      simp only [List.mem_cons, List.not_mem_nil, or_false] at hx
      rcases hx with rfl | rfl | rfl | rfl | rfl <;> exact ⟨_, rfl, by decide, by decide⟩
    obtain ⟨q, rfl, q1, q2⟩ := this
    obtain ⟨sa, n3, ga, b1, b2, hsa⟩ := side_ok ns h 0 (by omega) (n' + 1 + 1) (by omega)
    obtain ⟨sb, n4, gb, c1, c2, hsb⟩ := side_ok ns h 1 (by omega) n3 (by omega)
    have hz0 : 5 ≤ sizeLine := by rw [sizeLine_eq]; decide
    have hz4 : 4 ≤ sizeLine := by rw [sizeLine_eq]; decide
    have hbl : b.length ≤ j := by have := congrArg List.length hb; rw [List.length_map, List.length_take] at this; omega
    have hz1 : (kvsD wayD b).length < sizeLine := by rw [kvsD_length, sizeLine_eq]; omega
    have hnew : z ∉ b.map (·.1) := by
      rw [hb]
      intro hm
      obtain ⟨i, hi, he⟩ := List.getElem_of_mem hm
      rw [List.length_take] at hi
      rw [List.getElem_take] at he
      obtain ⟨hj', hz'⟩ := List.getElem?_eq_some_iff.mp hz
      have := (List.getElem_inj ndT).mp (he.trans hz'.symm)
      omega
    have hsa' : F_law_side [.fz (intsD ns), townA (n' + 1 + 1), .fz (.int 0)] = .val (sideD sa) [.fz (intsD ns), townA n3, .fz (.int 0)] := hsa
    have hsb' : F_law_side [.fz (intsD ns), townA n3, .fz (.int 1)] = .val (sideD sb) [.fz (intsD ns), townA n4, .fz (.int 1)] := hsb
    refine ⟨[AV.fz (intsD ns), townA n', .fz (.int most), .ow false (.d (kvsD wayD b)), .fz (.lst (namesL.map D.str)), .fz (.int r), .fz (.str z), k7, k8], [AV.fz (intsD ns), townA n4, .fz (.int most), .ow false (.d (kvsD wayD (putA b z ⟨sa, sb, t, q⟩))), .fz (.lst (namesL.map D.str)), .fz (.int r), .fz (.str z), .fz (.int t), .fz (.int q)], ?_, ?_, putA b z ⟨sa, sb, t, q⟩, n4, _, _, _, rfl, .inr ⟨_, rfl⟩, .inr ⟨_, rfl⟩, .inr ⟨_, rfl⟩, by omega, by omega, ?_, fun p hp => ?_⟩
    · rcases h6 with rfl | ⟨_, rfl⟩ <;> simp
    · rw [← putD_kvs]
      rcases h7 with rfl | ⟨_, rfl⟩ <;> rcases h8 with rfl | ⟨_, rfl⟩ <;> simp [body, hz0, hz4, hp, hp2, hsa', hsb', hz1, wayD]
    · rw [putA_new hnew, List.map_append, hb, List.take_add_one, hz]; rfl
    · rcases putA_mem hp with rfl | hp
      · exact ⟨ga, gb, ⟨t1, t2⟩, ⟨q1, q2⟩⟩
      · exact hw p hp
theorem book_ok (ns : List Int) (h : ns.length ≤ 63) (n : Nat) (hn : n < 700000) (most : Int) (hm0 : 1 ≤ most) (hm1 : most ≤ 6) : ∃ b n', Book b ∧ n ≤ n' ∧ n' ≤ n + 2000 ∧ F_law_book [.fz (intsD ns), townA n, .fz (.int most)] = .val (bookD b) [.fz (intsD ns), townA n', .fz (.int most)] := by
  obtain ⟨b, n', h1, _, h2⟩ := book_ok2 ns h n hn most hm0 hm1
  exact ⟨b, n', h1, h2⟩
end Wk
set_option Elab.async false
set_option linter.all false
set_option maxRecDepth 100000
set_option maxHeartbeats 4000000
namespace Wk
open PySem PySem.Spec L2 DL
abbrev pD (p : Str × Int) : D := .tup [.str p.1, .int p.2]
theorem sideD_eq (s : List (Str × Int)) : sideD s = .tup (s.map pD) := rfl
/-- a way's goods, taken then given -/
def wordsW (w : Way) : List Str := (w.need ++ w.give).map (·.1)
def goodsL (b : List (Str × Way)) : List Str := (b.map fun p => wordsW p.2).flatten
def goodsB (b : List (Str × Way)) : List Str := DLS.srtSet (goodsL b)
theorem wordsW_len {w : Way} (h : GWay w) : (wordsW w).length ≤ 6 := by
  have := h.need.hi; have := h.give.hi
  simp [wordsW]; omega
theorem goodsL_len {b : List (Str × Way)} (h : ∀ p ∈ b, GWay p.2) : (goodsL b).length ≤ 6 * b.length := by
  induction b with
  | nil => simp [goodsL]
  | cons p b ih =>
    have h1 := ih fun q hq => h q (.tail _ hq)
    have h2 := wordsW_len (h p (.head _))
    simp only [goodsL, List.map_cons, List.flatten_cons, List.length_append, List.length_cons] at h1 ⊢
    omega
theorem goodsL_wd {b : List (Str × Way)} (h : ∀ p ∈ b, GWay p.2) : ∀ z ∈ goodsL b, Wd z := by
  intro z hz
  obtain ⟨l, hl, hz⟩ := List.mem_flatten.mp hz
  obtain ⟨p, hp, rfl⟩ := List.mem_map.mp hl
  obtain ⟨q, hq, rfl⟩ := List.mem_map.mp hz
  rcases List.mem_append.mp hq with hq | hq
  · exact (h p hp).need.wd q hq
  · exact (h p hp).give.wd q hq
theorem goodsB_mem {b : List (Str × Way)} {z : Str} : z ∈ goodsB b ↔ z ∈ goodsL b := by
  unfold goodsB DLS.srtSet
  rw [(DLS.srt_perm _).mem_iff, DLS.dd_mem]
theorem srtSet_nodup (xs : List Str) : (DLS.srtSet xs).Nodup := (DLS.srt_perm _).nodup_iff.mpr (DLS.dd_nodup xs)
theorem srtSet_mem {xs : List Str} {z : Str} : z ∈ DLS.srtSet xs ↔ z ∈ xs := by unfold DLS.srtSet; rw [(DLS.srt_perm _).mem_iff, DLS.dd_mem]
theorem srtSet_up (xs : List Str) : (DLS.srtSet xs).Pairwise (fun a b => DLS.leS a b = true) := DLS.srt_up _
theorem srtSet_fix {xs : List Str} (nd : xs.Nodup) (up : xs.Pairwise (fun a b => DLS.leS a b = true)) : DLS.srtSet xs = xs := (DLS.srtSet_unique nd (fun x => Iff.rfl) up).symm
theorem srtSet_eq {xs ys : List Str} (h : ∀ x, x ∈ xs ↔ x ∈ ys) : DLS.srtSet xs = DLS.srtSet ys := DLS.srtSet_unique (srtSet_nodup xs) (fun x => srtSet_mem.trans (h x)) (srtSet_up xs)
theorem srt_eq {xs ys : List Str} (nd : xs.Nodup) (h : ∀ x, x ∈ xs ↔ x ∈ ys) : DLS.srt xs = DLS.srtSet ys := DLS.srtSet_unique ((DLS.srt_perm xs).nodup_iff.mpr nd) (fun x => (DLS.srt_perm xs).mem_iff.trans (h x)) (DLS.srt_up xs)
theorem way_at {b : List (Str × Way)} (nd : (b.map (·.1)).Nodup) {z : Str} {w : Way} (h : (z, w) ∈ b) : ixO (.dic (kvsD wayD b)) (.str z) = some (wayD w) := get_of nd h
theorem itP (s : List (Str × Int)) : itD (sideD s) = some (s.map pD) := rfl
theorem add_sides (a b : List (Str × Int)) (h : a.length + b.length ≤ 1000) : addO (sideD a) (sideD b) = some (sideD (a ++ b)) := by
  rw [sideD_eq, sideD_eq, sideD_eq, add_tups _ _ (by rw [List.length_map, List.length_map, sizeLine_eq]; omega), List.map_append]
theorem need_len {w : Way} (h : GWay w) : w.need.length + w.give.length ≤ 6 := by have := h.need.hi; have := h.give.hi; omega
theorem at_of {b : List (Str × Way)} {j : Nat} {d : D} (hd : ((b.map (·.1)).map D.str)[j]? = some d) : ∃ z w, b[j]? = some (z, w) ∧ (z, w) ∈ b ∧ d = .str z := by
  rw [List.map_map, List.getElem?_map] at hd
  cases e : b[j]? with
  | none => rw [e] at hd; cases hd
  | some p => rw [e] at hd; exact ⟨p.1, p.2, rfl, List.mem_of_getElem? e, (Option.some.inj hd).symm⟩
theorem goodsL_take {b : List (Str × Way)} {j : Nat} {z : Str} {w : Way} (h : b[j]? = some (z, w)) : goodsL (b.take (j + 1)) = goodsL (b.take j) ++ wordsW w := by
  unfold goodsL
  rw [List.take_add_one, h, List.map_append, List.flatten_append]
  simp
theorem lgoods_ok {b : List (Str × Way)} (hb : Book b) : ∃ as, F_law_goods [.fz (bookD b)] = .val (.lst ((goodsB b).map D.str)) as := by
  have hlen := goodsL_len hb.way
  have hb6 := hb.hi
  let body : Ev → SOut := seqS (setS 1 (binF addO (varR 1) (datO (mapO OD.dat (lcF (itF (binF addO (datO (binF ixO (datO (binF ixO (varR 0) (varR 2))) (datO (conE (.int 0))))) (datO (binF ixO (datO (binF ixO (varR 0) (varR 2))) (datO (conE (.int 1))))))) (.tp [3, 4]) yesF (varE 3) [3, 4]))))) nxS
  have key := for_inv (g := .nm 2) (b := body) (fun j ρ => ∃ k2, ρ = [AV.fz (bookD b), .fz (.lst ((goodsL (b.take j)).map D.str)), k2, .un, .un] ∧ (k2 = .un ∨ ∃ d, k2 = .fz d))
    ((b.map (·.1)).map D.str) 0 [AV.fz (bookD b), .fz (.lst []), .un, .un, .un] ⟨.un, rfl, .inl rfl⟩ ?_
  · obtain ⟨ρ', hf, k2, rfl, hk⟩ := key
    simp only [Nat.zero_add, List.length_map, List.take_length] at hf
    have hz : 0 ≤ sizeLine := Nat.zero_le _
    have hss := sortSet_strs (goodsL b) (by omega)
    have hkk : lkD (bookD b) = some (.l ((b.map (·.1)).map D.str)) := by unfold bookD; rw [e_lkD, keys_kvs]
    simp only [body] at hf
    refine ⟨[.fz (bookD b)], ?_⟩
    show bodyF 1 5 s_law_goods _ = _
    simp [s_law_goods, hkk, hf, hss, goodsB, -List.map_map, -List.map_append]
  · rintro j d ρ hd ⟨k2, rfl, hk⟩
    obtain ⟨z, w, hj, hm, rfl⟩ := at_of hd
    have hwg : GWay w := hb.way _ hm
    simp only [Nat.zero_add]
    have hw := way_at hb.nd hm
    have ha := add_sides w.need w.give (by have := need_len hwg; omega)
    have h1 : (wordsW w).length ≤ 6 := wordsW_len hwg
    have h2 : (goodsL (b.take j)).length ≤ 36 := by
      have := goodsL_len (b := b.take j) fun p hp => hb.way p (List.mem_of_mem_take hp)
      have : (b.take j).length ≤ b.length := by rw [List.length_take]; omega
      omega
    have hlc := lc_pure (g := .tp [3, 4]) (tt := yesF) (te := varE 3) (vs := [3, 4]) (ρ := [AV.fz (bookD b), .fz (.lst ((goodsL (b.take j)).map D.str)), .fz (.str z), .un, .un]) (fun _ => true) (fun d => match d with | .tup (a :: _) => a | _ => .non) ((w.need ++ w.give).map pD) [] (by simp [sizeLine_eq]; have := need_len hwg; omega)
      (fun d hd => by
        obtain ⟨p, hp, rfl⟩ := List.mem_map.mp hd
        simp)
    rw [List.nil_append, List.filter_eq_self.mpr (fun _ _ => rfl), List.map_map] at hlc
    have fin : (w.need ++ w.give).map ((fun d => match d with | .tup (a :: _) => a | _ => .non) ∘ pD) = (wordsW w).map D.str := by
      unfold wordsW; rw [List.map_map]; rfl
    rw [fin] at hlc
    have had := add_strs ((goodsL (b.take j)).map D.str) ((wordsW w).map D.str) (by rw [List.length_map, List.length_map, sizeLine_eq]; omega)
    rw [← List.map_append, ← goodsL_take hj] at had
    refine ⟨[AV.fz (bookD b), .fz (.lst ((goodsL (b.take j)).map D.str)), .fz (.str z), .un, .un], [AV.fz (bookD b), .fz (.lst ((goodsL (b.take (j + 1))).map D.str)), .fz (.str z), .un, .un], ?_, ?_, .fz (.str z), rfl, .inr ⟨_, rfl⟩⟩
    · rcases hk with rfl | ⟨_, rfl⟩ <;> simp
    · have hw' : ixO (bookD b) (.str z) = some (wayD w) := hw
      simp [body, hw', wayD, ha, itP, hlc, had, -List.map_map, -List.map_append]
end Wk
set_option Elab.async false
set_option linter.all false
set_option maxRecDepth 100000
set_option maxHeartbeats 4000000
namespace Wk
open PySem PySem.Spec L2 DL
structure Raws (rs : List Str) : Prop where
  len : rs.length ≤ 20
  wd : ∀ z ∈ rs, Wd z
  fix : DLS.srtSet rs = rs
theorem cut_drop (xs : List D) (k : Int) (h0 : 0 ≤ k) : cutD xs (some k) none = xs.drop k.toNat := by
  unfold cutD
  have e1 : HT.sIx xs.length xs.length none = xs.length := rfl
  have e2 : HT.sIx xs.length 0 (some k) = min k.toNat xs.length := by
    show (if k < 0 then (k + (xs.length : Int)).toNat else min k.toNat xs.length) = _
    rw [if_neg (by omega)]
  rw [e1, e2]
  by_cases h : k.toNat ≤ xs.length
  · rw [Nat.min_eq_left h, List.take_of_length_le (by rw [List.length_drop]; omega)]
  · rw [Nat.min_eq_right (by omega), List.drop_of_length_le (Nat.le_refl _), List.drop_of_length_le (by omega)]; simp
theorem raws_loop (ns : List Int) (h : ns.length ≤ 63) (bk : D) : ∀ (ws : List Str) (acc : List D) (n : Nat), n + ws.length < 1000000 → acc.length + ws.length ≤ sizeLine →
    ∃ ys : List Str, (∀ y ∈ ys, y ∈ ws) ∧ ys.length ≤ ws.length ∧ lcLoop (.nm 4) (tstF (binF eqO (datO (callF 3 F_law_draw (datA (varE 0) (refA 1 (datA (conE (.int 4)) nilA))))) (datO (conE (.int 0))))) (varE 4) [4] (ws.map D.str) [.fz (intsD ns), townA n, .fz bk, .un, .un] acc =
      .val (acc ++ ys.map D.str) [.fz (intsD ns), townA (n + ws.length), .fz bk, .un, .un]
  | [], acc, n, _, _ => ⟨[], by simp, by simp, by simp [lcLoop]⟩
  | w :: ws, acc, n, h1, h2 => by
    rw [List.length_cons] at h1 h2
    obtain ⟨r, r0, r1, hr⟩ := draw_ok ns h n (by omega) 4 (by decide)
    have hz : acc.length < sizeLine := by omega
    by_cases hr0 : r = 0
    · obtain ⟨ys, g1, g2, g3⟩ := raws_loop ns h bk ws (acc ++ [.str w]) (n + 1) (by omega) (by simp; omega)
      refine ⟨w :: ys, fun y hy => ?_, by simp; omega, ?_⟩
      · cases hy with
        | head => exact .head _
        | tail _ hy => exact .tail _ (g1 y hy)
      · rw [List.map_cons]
        unfold lcLoop
        simp [hr, hr0, hz]
        rw [g3]
        simp [Nat.add_assoc, Nat.add_comm, Nat.add_left_comm]
    · obtain ⟨ys, g1, g2, g3⟩ := raws_loop ns h bk ws acc (n + 1) (by omega) (by omega)
      refine ⟨ys, fun y hy => .tail _ (g1 y hy), by simp; omega, ?_⟩
      rw [List.map_cons]
      unfold lcLoop
      simp [hr, hr0, hz]
      rw [g3]
      simp [Nat.add_assoc, Nat.add_comm, Nat.add_left_comm]
theorem take_fix {S : List Str} (h : DLS.srtSet S = S) (k : Nat) : DLS.srtSet (S.take k) = S.take k := by
  have nd : S.Nodup := by rw [← h]; exact srtSet_nodup S
  have up : S.Pairwise (fun a b => DLS.leS a b = true) := by rw [← h]; exact srtSet_up S
  exact srtSet_fix (nd.sublist (List.take_sublist _ _)) (up.sublist (List.take_sublist _ _))
theorem srtSet_idem (xs : List Str) : DLS.srtSet (DLS.srtSet xs) = DLS.srtSet xs := srtSet_fix (srtSet_nodup xs) (srtSet_up xs)
theorem srtSet_len (xs : List Str) : (DLS.srtSet xs).length ≤ xs.length := DLS.srtSet_length xs
def two : List Str := ["coal", "ore"]
theorem raws_ok (ns : List Int) (h : ns.length ≤ 63) (n : Nat) (hn : n < 700000) {b : List (Str × Way)} (hb : Book b) : ∃ rs n', Raws rs ∧ n ≤ n' ∧ n' ≤ n + 100 ∧ F_law_raws [.fz (intsD ns), townA n, .fz (bookD b)] = .val (.lst (rs.map D.str)) [.fz (intsD ns), townA n', .fz (bookD b)] := by
  obtain ⟨as, hg⟩ := lgoods_ok hb
  have hl1 := goodsL_len hb.way
  have hb6 := hb.hi
  have hl2 : (goodsB b).length ≤ 36 := by have := srtSet_len (goodsL b); unfold goodsB; omega
  obtain ⟨ys, g1, g2, g3⟩ := raws_loop ns h (bookD b) (goodsB b) [] n (by omega) (by rw [List.length_nil, sizeLine_eq]; omega)
  obtain ⟨r, r0, r1, hr⟩ := draw_ok ns h (n + (goodsB b).length) (by omega) 3 (by decide)
  have wy : ∀ y ∈ ys, Wd y := fun y hy => goodsL_wd hb.way y (goodsB_mem.mp (g1 y hy))
  have wc : Wd "coal" := ⟨by decide +kernel, by decide +kernel, by decide +kernel⟩
  have wo : Wd "ore" := ⟨by decide +kernel, by decide +kernel, by decide +kernel⟩
  let S := DLS.srtSet ((two ++ ys).drop r.toNat)
  have hS : S.length ≤ 38 := by
    refine Nat.le_trans (srtSet_len _) ?_
    rw [List.length_drop, List.length_append]; simp [two]; omega
  refine ⟨S.take 20, n + (goodsB b).length + 1, ⟨by rw [List.length_take]; omega, fun z hz => ?_, take_fix (srtSet_idem _) 20⟩, by omega, by omega, ?_⟩
  · have := List.mem_of_mem_drop (srtSet_mem.mp (List.mem_of_mem_take hz))
    rcases List.mem_append.mp this with hz | hz
    · simp only [two, List.mem_cons, List.not_mem_nil, or_false] at hz
      rcases hz with rfl | rfl
      · exact wc
      · exact wo
    · exact wy z hz
  · have hz2 : 2 ≤ sizeLine := by rw [sizeLine_eq]; decide
    have a1 : addO (.lst [.str "coal", .str "ore"]) (.lst (ys.map D.str)) = some (.lst ((two ++ ys).map D.str)) := by
      rw [List.map_append]; exact add_strs _ _ (by simp [sizeLine_eq]; omega)
    have a2 : slO (.lst ((two ++ ys).map D.str)) (some r) none = some (.lst (((two ++ ys).drop r.toNat).map D.str)) := by
      show some (D.lst (cutD _ (some r) none)) = _
      rw [cut_drop _ _ r0, ← List.map_drop]
    have a3 := sortSet_strs ((two ++ ys).drop r.toNat) (by rw [List.length_drop, List.length_append]; simp [two]; omega)
    have a4 : slO (.lst (S.map D.str)) none (some 20) = some (.lst ((S.take 20).map D.str)) := by
      show some (D.lst (cutD _ none (some 20))) = _
      rw [cut_take _ _ (by decide), ← List.map_take]; rfl
    have a3' : sortSetD (.lst (((two ++ ys).drop r.toNat).map D.str)) = some (.l (S.map D.str)) := a3
    rw [List.nil_append] at g3
    show bodyF 3 5 s_law_raws _ = _
    generalize S = S at a3' a4 ⊢
    generalize (two ++ ys) = Y at a1 a2 a3' ⊢
    simp [s_law_raws, hz2, hg, g3, a1, a2, hr, a3', a4, -List.map_drop, -List.map_take, -List.map_append]
end Wk
set_option Elab.async false
set_option linter.all false
set_option maxRecDepth 100000
set_option maxHeartbeats 4000000
namespace Wk
open PySem PySem.Spec L2 DL
theorem whole_ok {i lo hi : Int} (h1 : lo ≤ i) (h2 : i ≤ hi) : ∃ as, F_is_whole [.fz (.int i), .fz (.int lo), .fz (.int hi)] = .val (.bl true) as := by
  refine ⟨[.fz (.int i), .fz (.int lo), .fz (.int hi)], ?_⟩
  simp [F_is_whole, s_is_whole, h1, h2]
theorem word_ok {z : Str} (h : Wd z) : ∃ as, F_is_word [.fz (.str z)] = .val (.bl true) as := by
  refine ⟨[.fz (.str z)], ?_⟩
  have hl : z.length = z.cps.toList.length := by simp [Str.length]
  have h1 := h.lo
  have h2 := h.hi
  have hz : z.length ≤ sizeLine := by rw [sizeLine_eq]; omega
  have hlc := lc_pure (g := .nm 1) (tt := yesF) (te := binF inA (varR 1) (datO (conE (.str "abcdefghijklmnopqrstuvwxyz")))) (vs := [1]) (ρ := [.fz (.str z), .un]) (fun _ => true) (fun _ => .bl true) (z.cps.toList.map fun c => .str ⟨#[c]⟩) [] (by rw [List.length_nil, List.length_map, sizeLine_eq]; omega)
    (fun d hd => by
      obtain ⟨c, hc, rfl⟩ := List.mem_map.mp hd
      have hs := h.ok c hc
      have e : inA (.str ⟨#[c]⟩) (.str "abcdefghijklmnopqrstuvwxyz") = some (.bl true) := by rw [in_sign]; exact congrArg _ (congrArg _ (decide_eq_true hs))
      refine ⟨[.fz (.str z), .fz (.str ⟨#[c]⟩)], ?_⟩
      simp [e])
  rw [List.nil_append, List.filter_eq_self.mpr (fun _ _ => rfl), List.map_map] at hlc
  have ha : allD (.lst (z.cps.toList.map ((fun _ => D.bl true) ∘ fun c => D.str ⟨#[c]⟩))) = some (.bl true) := all_map fun _ _ => rfl
  have hr1 : (1 : Int) ≤ z.length := by omega
  have hr2 : (z.length : Int) ≤ 8 := by omega
  simp only [F_is_word, s_is_word]
  simp [len_str hz, hr1, hr2, hlc, ha, -List.map_map, -List.map_const_fun]
theorem side_true {lo : Nat} {s : List (Str × Int)} (h : Side lo s) : ∃ as, F_is_side [.fz (sideD s), .fz (.int lo)] = .val (.bl true) as := by
  have h1 := h.lo
  have h2 := h.hi
  have hz : s.length ≤ sizeLine := by rw [sizeLine_eq]; omega
  have l1 := lc_pure (g := .nm 2) (tt := yesF) (te := andE (unF (isiD "tuple") (varR 2)) (binF eqO (datO (unF lenD (varR 2))) (datO (conE (.int 2))))) (vs := [2]) (ρ := [.fz (sideD s), .fz (.int lo), .un, .un]) (fun _ => true) (fun _ => .bl true) (s.map pD) [] (by simpa using hz)
    (fun d hd => by
      obtain ⟨p, hp, rfl⟩ := List.mem_map.mp hd
      simp)
  have l2 := lc_pure (g := .nm 2) (tt := yesF) (te := andE (callF 1 F_is_word (datA (binF ixO (varR 2) (datO (conE (.int 0)))) nilA)) (callF 3 F_is_whole (datA (binF ixO (varR 2) (datO (conE (.int 1)))) (datA (conE (.int 1)) (datA (conE (.int 20)) nilA))))) (vs := [2]) (ρ := [.fz (sideD s), .fz (.int lo), .un, .un]) (fun _ => true) (fun _ => .bl true) (s.map pD) [] (by simpa using hz)
    (fun d hd => by
      obtain ⟨p, hp, rfl⟩ := List.mem_map.mp hd
      obtain ⟨as, hw⟩ := word_ok (h.wd p hp)
      obtain ⟨as2, hv⟩ := whole_ok (h.rng p hp).1 (h.rng p hp).2
      simp [hw, hv])
  have l3 := lc_pure (g := .nm 2) (tt := yesF) (te := binF ixO (varR 2) (datO (conE (.int 0)))) (vs := [2]) (ρ := [.fz (sideD s), .fz (.int lo), .un, .un]) (fun _ => true) (fun d => match d with | .tup (a :: _) => a | _ => .non) (s.map pD) [] (by simpa using hz)
    (fun d hd => by
      obtain ⟨p, hp, rfl⟩ := List.mem_map.mp hd
      simp)
  rw [List.nil_append, List.filter_eq_self.mpr (fun _ _ => rfl), List.map_map] at l1 l2 l3
  have e3 : s.map ((fun d => match d with | .tup (a :: _) => a | _ => D.non) ∘ pD) = (s.map (·.1)).map D.str := by rw [List.map_map]; rfl
  rw [e3] at l3
  have ha : allD (.lst (s.map ((fun _ => D.bl true) ∘ pD))) = some (.bl true) := all_map fun _ _ => rfl
  have hs := sortSet_strs (s.map (·.1)) (by rw [List.length_map]; omega)
  have hu : DLS.srtSet (s.map (·.1)) = s.map (·.1) := srtSet_fix h.nd (by rw [← h.up]; exact DLS.srt_up _)
  rw [hu] at hs
  have he := eq_strs (s.map (·.1)) (s.map (·.1)) (fun z hz => by obtain ⟨p, hp, rfl⟩ := List.mem_map.mp hz; exact (h.wd p hp).plain) (fun z hz => by obtain ⟨p, hp, rfl⟩ := List.mem_map.mp hz; exact (h.wd p hp).plain)
  have hr1 : (lo : Int) ≤ s.length := by omega
  have hr2 : (s.length : Int) ≤ 3 := by omega
  have it : itD (sideD s) = some (s.map pD) := rfl
  have li : lenD (sideD s) = some (.int s.length) := by rw [sideD_eq, e_len2, List.length_map]
  have ii : isiD "tuple" (sideD s) = some (.bl true) := rfl
  refine ⟨[.fz (sideD s), .fz (.int lo)], ?_⟩
  show bodyF 2 4 s_is_side _ = _
  generalize sideD s = S at l1 l2 l3 it li ii ⊢
  simp [s_is_side, ii, li, hr1, hr2, it, l1, l2, l3, ha, hs, he, -List.map_map, -List.map_const_fun]
theorem way_true {w : Way} (h : GWay w) : ∃ as, F_is_way [.fz (wayD w)] = .val (.bl true) as := by
  obtain ⟨a1, h1⟩ := side_true h.need
  obtain ⟨a2, h2⟩ := side_true h.give
  obtain ⟨a3, h3⟩ := whole_ok h.ticks.1 h.ticks.2
  obtain ⟨a4, h4⟩ := whole_ok h.power.1 h.power.2
  have h1' : F_is_side [.fz (sideD w.need), .fz (.int 0)] = .val (.bl true) a1 := h1
  have h2' : F_is_side [.fz (sideD w.give), .fz (.int 1)] = .val (.bl true) a2 := h2
  refine ⟨[.fz (wayD w)], ?_⟩
  simp [F_is_way, s_is_way, wayD, h1', h2', h3, h4]
theorem look_ok {b : List (Str × Way)} (hb : Book b) : ∃ as, F_look_book [.fz (bookD b)] = .val .non as := by
  have key := for_inv (g := .nm 1) (b := seqS (ifS (orF (notF (tstF (callF 1 F_is_word (datA (varE 1) nilA)))) (notF (tstF (callF 1 F_is_way (datA (binF ixO (varR 0) (varR 1)) nilA))))) (seqS (raiseS "BadBook") nxS) nxS) nxS) (fun j ρ => ∃ k1, ρ = [AV.fz (bookD b), k1] ∧ (k1 = .un ∨ ∃ d, k1 = .fz d))
    ((b.map (·.1)).map D.str) 0 [AV.fz (bookD b), .un] ⟨.un, rfl, .inl rfl⟩ ?_
  · obtain ⟨ρ', hf, k1, rfl, hk⟩ := key
    have h1 := hb.lo
    have h2 := hb.hi
    have hl : lenD (bookD b) = some (.int b.length) := by unfold bookD; rw [e_len3, kvsD_length]
    have hr1 : (1 : Int) ≤ b.length := by omega
    have hr2 : (b.length : Int) ≤ 6 := by omega
    have hi : isiD "dict" (bookD b) = some (.bl true) := rfl
    have hk : ((kvsD wayD b).map fun kv => keyD kv.1) = (b.map (·.1)).map D.str := keys_kvs b
    refine ⟨[.fz (bookD b)], ?_⟩
    show bodyF 1 2 s_look_book _ = _
    have hkf : keysF (varE 0) [AV.fz (bookD b), AV.un] = .val ((b.map (·.1)).map D.str) [AV.fz (bookD b), AV.un] := by
      show Out.val ((kvsD wayD b).map fun kv => keyD kv.1) _ = _
      rw [hk]
    simp [s_look_book, hi, hl, hr1, hr2, -e_keysF, -List.map_map]
    rw [hkf]
    simp [hf, -List.map_map]
  · rintro j d ρ hd ⟨k1, rfl, hk⟩
    obtain ⟨z, w, hj, hm, rfl⟩ := at_of hd
    obtain ⟨a1, h1⟩ := word_ok (hb.wd _ hm)
    obtain ⟨a2, h2⟩ := way_true (hb.way _ hm)
    have hw : ixO (bookD b) (.str z) = some (wayD w) := way_at hb.nd hm
    refine ⟨[AV.fz (bookD b), .fz (.str z)], [AV.fz (bookD b), .fz (.str z)], ?_, ?_, .fz (.str z), rfl, .inr ⟨_, rfl⟩⟩
    · rcases hk with rfl | ⟨_, rfl⟩ <;> simp
    · simp [h1, h2, hw]
end Wk
set_option Elab.async false
set_option linter.all false
set_option maxRecDepth 100000
set_option maxHeartbeats 4000000
namespace Wk
open PySem PySem.Spec L2 DL
def nmsB (b : List (Str × Way)) : List Str := DLS.srt (b.map (·.1))
theorem ways_ok (b : List (Str × Way)) : ∃ as, F_ways [.fz (bookD b)] = .val (.lst ((nmsB b).map D.str)) as := by
  refine ⟨[.fz (bookD b)], ?_⟩
  have h : skD (bookD b) = some (.l ((nmsB b).map D.str)) := skD_kvs b
  simp [F_ways, s_ways, h]
theorem putA_has {α : Type} {ps : List (Str × α)} {z x : Str} {a : α} : x ∈ (putA ps z a).map (·.1) ↔ x ∈ ps.map (·.1) ∨ x = z := by
  rw [putA_keys]
  split
  · rename_i h
    exact ⟨.inl, fun q => q.elim id fun q => q ▸ h⟩
  · rw [List.mem_append, List.mem_singleton]
abbrev tru : Unit → D := fun _ => .bl true
theorem allgoods_ok {b : List (Str × Way)} (hb : Book b) : ∃ as, F_all_goods [.fz (bookD b)] = .val (.lst ((goodsB b).map D.str)) as := by
  have hb6 := hb.hi
  let inner : Ev → SOut := seqS (putAt 1 (varE 3) (conE (.bl true))) nxS
  let body : Ev → SOut := seqS (forF (itF (binF addO (datO (binF ixO (datO (binF ixO (varR 0) (varR 2))) (datO (conE (.int 0))))) (datO (binF ixO (datO (binF ixO (varR 0) (varR 2))) (datO (conE (.int 1))))))) (.tp [3, 4]) inner) nxS
  have key := for_inv (g := .nm 2) (b := body) (fun j ρ => ∃ (ps : List (Str × Unit)) (k2 k3 k4 : AV), ρ = [AV.fz (bookD b), .ow false (.d (kvsD tru ps)), k2, k3, k4] ∧ (k2 = .un ∨ ∃ d, k2 = .fz d) ∧ (k3 = .un ∨ ∃ d, k3 = .fz d) ∧ (k4 = .un ∨ ∃ d, k4 = .fz d) ∧ (ps.map (·.1)).Nodup ∧ (∀ x, x ∈ ps.map (·.1) ↔ x ∈ goodsL (b.take j)) ∧ ps.length ≤ 6 * j)
    ((b.map (·.1)).map D.str) 0 [AV.fz (bookD b), .ow false (.d []), .un, .un, .un] ⟨[], .un, .un, .un, rfl, .inl rfl, .inl rfl, .inl rfl, by simp, by simp [goodsL], by simp⟩ ?_
  · obtain ⟨ρ', hf, ps, k2, k3, k4, rfl, h2, h3, h4, nd, mem, len⟩ := key
    simp only [Nat.zero_add, List.length_map, List.take_length] at hf mem len
    refine ⟨[.fz (bookD b)], ?_⟩
    have hkf : keysF (varE 0) [AV.fz (bookD b), .ow false (.d []), .un, .un, .un] = .val ((b.map (·.1)).map D.str) [AV.fz (bookD b), .ow false (.d []), .un, .un, .un] := by
      show Out.val ((kvsD wayD b).map fun kv => keyD kv.1) _ = _
      rw [keys_kvs]
    have hs : DLS.srt (ps.map (·.1)) = goodsB b := srt_eq nd mem
    have hk := skD_kvs (enc := tru) ps
    rw [hs] at hk
    simp only [body, inner] at hf
    simp [F_all_goods, s_all_goods, -e_keysF, -List.map_map]
    rw [hkf]
    simp [hf, hk, -List.map_map]
  · rintro j d ρ hd ⟨ps, k2, k3, k4, rfl, h2, h3, h4, nd, mem, len⟩
    obtain ⟨z, w, hj, hm, rfl⟩ := at_of hd
    simp only [Nat.zero_add] at mem len ⊢
    have hj6 : j < b.length := (List.getElem?_eq_some_iff.mp hj).1
    have hwg : GWay w := hb.way _ hm
    have hw : ixO (bookD b) (.str z) = some (wayD w) := way_at hb.nd hm
    have hwl := need_len hwg
    have ha := add_sides w.need w.give (by omega)
    have key2 := for_inv (g := .tp [3, 4]) (b := inner) (fun i ρ => ∃ (qs : List (Str × Unit)) (k3 k4 : AV), ρ = [AV.fz (bookD b), .ow false (.d (kvsD tru qs)), .fz (.str z), k3, k4] ∧ (k3 = .un ∨ ∃ d, k3 = .fz d) ∧ (k4 = .un ∨ ∃ d, k4 = .fz d) ∧ (qs.map (·.1)).Nodup ∧ (∀ x, x ∈ qs.map (·.1) ↔ x ∈ goodsL (b.take j) ∨ x ∈ ((w.need ++ w.give).take i).map (·.1)) ∧ qs.length ≤ 6 * j + i)
      ((w.need ++ w.give).map pD) 0 [AV.fz (bookD b), .ow false (.d (kvsD tru ps)), .fz (.str z), k3, k4] ⟨ps, k3, k4, rfl, h3, h4, nd, fun x => by rw [mem]; simp, by omega⟩ ?_
    · obtain ⟨ρ', hf, qs, k3', k4', rfl, g3, g4, nd', mem', len'⟩ := key2
      simp only [Nat.zero_add, List.length_map, List.take_length] at hf mem' len'
      refine ⟨[AV.fz (bookD b), .ow false (.d (kvsD tru ps)), .fz (.str z), k3, k4], [AV.fz (bookD b), .ow false (.d (kvsD tru qs)), .fz (.str z), k3', k4'], ?_, ?_, qs, .fz (.str z), k3', k4', rfl, .inr ⟨_, rfl⟩, g3, g4, nd', fun x => ?_, ?_⟩
      · rcases h2 with rfl | ⟨_, rfl⟩ <;> simp
      · simp only [inner] at hf
        simp [body, inner, hw, wayD, ha, itP, hf, -List.map_map, -List.map_append]
      · rw [mem', goodsL_take hj, List.mem_append]; rfl
      · rw [List.length_append] at len'; omega
    · rintro i d ρ hd ⟨qs, k3, k4, rfl, h3, h4, nd, mem, len⟩
      simp only [Nat.zero_add] at mem len ⊢
      have hi : i < (w.need ++ w.give).length := by have := (List.getElem?_eq_some_iff.mp hd).1; simpa using this
      rw [List.length_append] at hi
      rw [List.getElem?_map] at hd
      obtain ⟨p, hp, rfl⟩ : ∃ p, (w.need ++ w.give)[i]? = some p ∧ pD p = d := by
        cases e : (w.need ++ w.give)[i]? with
        | none => rw [e] at hd; cases hd
        | some p => rw [e] at hd; exact ⟨p, rfl, Option.some.inj hd⟩
      have hz1 : (kvsD tru qs).length < sizeLine := by rw [kvsD_length, sizeLine_eq]; omega
      have hl := putA_length qs p.1 ()
      refine ⟨[AV.fz (bookD b), .ow false (.d (kvsD tru qs)), .fz (.str z), .fz (.str p.1), .fz (.int p.2)], [AV.fz (bookD b), .ow false (.d (kvsD tru (putA qs p.1 ()))), .fz (.str z), .fz (.str p.1), .fz (.int p.2)], ?_, ?_, putA qs p.1 (), _, _, rfl, .inr ⟨_, rfl⟩, .inr ⟨_, rfl⟩, putA_nodup nd, fun x => ?_, by omega⟩
      · rcases h3 with rfl | ⟨_, rfl⟩ <;> rcases h4 with rfl | ⟨_, rfl⟩ <;> simp
      · rw [← putD_kvs]
        simp [inner, hz1]
      · rw [putA_has, mem, List.take_add_one, hp, List.map_append, List.mem_append]
        simp [or_assoc]
/-! ### who gives, who takes -/
theorem merge_kvs {α : Type} {enc : α → D} : ∀ (s acc : List (Str × α)), ((acc ++ s).map (·.1)).Nodup → mergeD (kvsD enc acc) (kvsD enc s) = kvsD enc (acc ++ s)
  | [], acc, _ => by simp [mergeD, kvsD]
  | p :: s, acc, nd => by
    have hn : p.1 ∉ acc.map (·.1) := by
      rw [List.map_append, List.map_cons] at nd
      have := (List.nodup_append.mp nd).2.2
      exact fun h => this _ h _ (.head _) rfl
    show mergeD (putD (kvsD enc acc) (.inr p.1) (enc p.2)) (kvsD enc s) = _
    rw [putD_kvs, putA_new hn, merge_kvs s (acc ++ [p]) (by rw [List.append_assoc]; exact nd), List.append_assoc]; rfl
theorem pairs_side : ∀ s : List (Str × Int), pairsD (s.map pD) = some (kvsD D.int s)
  | [] => rfl
  | p :: s => by
    rw [List.map_cons, pairsD, pairs_side s]; rfl
theorem dict_side {lo : Nat} {s : List (Str × Int)} (h : Side lo s) : dictD (sideD s) = some (.d (kvsD D.int s)) := by
  show (pairsD (s.map pD)).map _ = _
  rw [pairs_side]
  have := merge_kvs (enc := D.int) s [] h.nd
  rw [List.nil_append] at this
  exact congrArg (fun x => some (OD.d x)) this
def hasG (b : List (Str × Way)) (x z : Str) : Bool := match findA b z with
  | some w => decide (x ∈ w.give.map (·.1))
  | none => false
def hasN (b : List (Str × Way)) (x z : Str) : Bool := match findA b z with
  | some w => decide (x ∈ w.need.map (·.1))
  | none => false
theorem findA_of {α : Type} {ps : List (Str × α)} {z : Str} {a : α} (nd : (ps.map (·.1)).Nodup) (h : (z, a) ∈ ps) : findA ps z = some a := by
  obtain ⟨a', e, h'⟩ := findA_mem (List.mem_map.mpr ⟨_, h, rfl⟩)
  rw [e]
  congr 1
  induction ps with
  | nil => cases h
  | cons p ps ih =>
    rw [List.map_cons, List.nodup_cons] at nd
    cases h with
    | head =>
      cases h' with
      | head => rfl
      | tail _ h' => exact absurd (List.mem_map.mpr ⟨_, h', rfl⟩) nd.1
    | tail _ h =>
      cases h' with
      | head => exact absurd (List.mem_map.mpr ⟨_, h, rfl⟩) nd.1
      | tail _ h' =>
        by_cases e0 : p.1 = z
        · exact absurd (e0 ▸ List.mem_map.mpr ⟨_, h, rfl⟩) nd.1
        · refine ih nd.2 h ?_ h'
          unfold findA at e ⊢
          rw [List.find?_cons_of_neg (by simpa using e0)] at e
          exact e
theorem nms_way {b : List (Str × Way)} {z : Str} (h : z ∈ nmsB b) : ∃ w, (z, w) ∈ b := by
  have := (DLS.srt_perm _).mem_iff.mp h
  obtain ⟨p, hp, rfl⟩ := List.mem_map.mp this
  exact ⟨p.2, hp⟩
theorem nms_len (b : List (Str × Way)) : (nmsB b).length = b.length := by unfold nmsB; rw [(DLS.srt_perm _).length_eq, List.length_map]
def onS (f : Str → Bool) : D → Bool
  | .str z => f z
  | _ => false
theorem filter_onS (f : Str → Bool) (xs : List Str) : (xs.map D.str).filter (onS f) = (xs.filter f).map D.str := by
  induction xs with
  | nil => rfl
  | cons x xs ih =>
    rw [List.map_cons]
    by_cases h : f x = true
    · rw [List.filter_cons_of_pos (by exact h), List.filter_cons_of_pos h, List.map_cons, ih]
    · rw [List.filter_cons_of_neg (by exact h), List.filter_cons_of_neg h, ih]
end Wk
set_option Elab.async false
set_option linter.all false
set_option maxRecDepth 100000
set_option maxHeartbeats 4000000
namespace DL
open PySem PySem.Spec L2
theorem while_ind {c : Ev → Out Bool} {b : Ev → SOut} (I : Nat → Ev → Prop) (Dn : SOut → Prop)
    (k : ∀ m ρ, I m ρ → (∃ ρ1, c ρ = .val false ρ1 ∧ Dn (.nx ρ1)) ∨ (∃ ρ1, c ρ = .val true ρ1 ∧ ((∃ d ρ2, b ρ1 = .rt d ρ2 ∧ Dn (.rt d ρ2)) ∨ ∃ ρ2 m', b ρ1 = .nx ρ2 ∧ m' < m ∧ I m' ρ2))) : ∀ n m ρ, I m ρ → m < n → Dn (whileS n c b ρ)
  | 0, m, ρ, _, h => absurd h (Nat.not_lt_zero m)
  | n + 1, m, ρ, hI, h => by
    unfold whileS
    rcases k m ρ hI with ⟨ρ1, h1, h2⟩ | ⟨ρ1, h1, h2⟩
    · rw [h1]; exact h2
    · rw [h1]
      rcases h2 with ⟨d, ρ2, h3, h4⟩ | ⟨ρ2, m', h3, h4, h5⟩
      · show Dn (thenS (b ρ1) _)
        rw [h3]; exact h4
      · show Dn (thenS (b ρ1) _)
        rw [h3]
        exact while_ind I Dn k n m' ρ2 h5 (by omega)
end DL
namespace Wk
open PySem PySem.Spec L2 DL
/-! ### fractions -/
abbrev frq (q : Rat) : D := .tup [.int q.num, .int (q.den : Int)]
/-- how far Euclid still goes -/
def EuM (m : Nat) (a b : Int) : Prop := b = 0 ∨ (1 ≤ m ∧ ((b ≤ a ∧ a * b < 2 ^ m) ∨ b * b < 2 ^ (m - 1)))
theorem eu_step {m : Nat} {a b : Int} (h0 : 0 < b) (h : EuM m a b) : 1 ≤ m ∧ EuM (m - 1) b (a % b) := by
  rcases h with h | ⟨hm, h⟩
  · omega
  refine ⟨hm, ?_⟩
  have r0 := Int.emod_nonneg a (by omega : b ≠ 0)
  have r1 := Int.emod_lt_of_pos a h0
  by_cases z : a % b = 0
  · exact .inl z
  have rp : 0 < a % b := by omega
  have hb2 : b * (a % b) < 2 ^ (m - 1) := by
    rcases h with ⟨h1, h2⟩ | h
    · have d := Int.emod_add_mul_ediv a b
      have hq : 1 ≤ a / b := (Int.le_ediv_iff_mul_le h0).mpr (by omega)
      have hbq : b * 1 ≤ b * (a / b) := Int.mul_le_mul_of_nonneg_left hq (by omega)
      have h3 : a % b + a % b ≤ a := by omega
      have h4 : b * (a % b + a % b) ≤ b * a := Int.mul_le_mul_of_nonneg_left h3 (by omega)
      rw [Int.mul_add, Int.mul_comm b a] at h4
      have e : (2 : Int) ^ m = 2 * 2 ^ (m - 1) := by
        conv => lhs; rw [show m = (m - 1) + 1 by omega]
        rw [Int.pow_succ]; omega
      omega
    · have h4 : b * (a % b) ≤ b * b := Int.mul_le_mul_of_nonneg_left (by omega) (by omega)
      omega
  have h1m : 1 ≤ m - 1 := by
    by_cases q : m - 1 = 0
    · rw [q] at hb2
      have : 0 < b * (a % b) := Int.mul_pos h0 rp
      omega
    · omega
  exact .inr ⟨h1m, .inl ⟨by omega, hb2⟩⟩
theorem gcd_step {a b : Int} : Int.gcd b (a % b) = Int.gcd a b := by
  have h := Int.gcd_add_mul_left_right b (a % b) (a / b)
  rw [Int.emod_add_mul_ediv] at h
  rw [← h, Int.gcd_comm]
abbrev divB : Ev → SOut := seqS (parS 0 1 (consL (varE 1) (consL (binF modI (varR 0) (varR 1)) (nilL)))) (nxS)
theorem div_loop (m : Nat) (a b : Int) (hm : m < 1000000) (hb : 0 ≤ b) (h : EuM m a b) : ∃ g : Int, (g.natAbs = Int.gcd a b) ∧ whileS fuel (truF (varR 1)) divB [.fz (.int a), .fz (.int b)] = .nx [.fz (.int g), .fz (.int 0)] := by
  have key := while_ind (c := truF (varR 1)) (b := divB)
    (fun m ρ => ∃ c d : Int, ρ = [.fz (.int c), .fz (.int d)] ∧ 0 ≤ d ∧ EuM m c d ∧ Int.gcd c d = Int.gcd a b)
    (fun r => ∃ g : Int, (g.natAbs = Int.gcd a b) ∧ r = .nx [.fz (.int g), .fz (.int 0)])
    (by
      rintro m ρ ⟨c, d, rfl, hd, hE, hg⟩
      by_cases z : d = 0
      · subst z
        refine .inl ⟨_, ?_, c, ?_, rfl⟩
        · simp [truR, truD]
        · rw [← hg, Int.gcd_zero_right]
      · obtain ⟨h1, h2⟩ := eu_step (by omega) hE
        refine .inr ⟨[.fz (.int c), .fz (.int d)], ?_, .inr ⟨[.fz (.int d), .fz (.int (c % d))], m - 1, ?_, by omega, d, c % d, rfl, Int.emod_nonneg c z, h2, ?_⟩⟩
        · simp [truR, truD, z]
        · simp [divB, parS, mod_ok (show 0 < d by omega)]
        · rw [gcd_step, hg])
    fuel m [.fz (.int a), .fz (.int b)] ⟨a, b, rfl, hb, h, rfl⟩ hm
  obtain ⟨g, h1, h2⟩ := key
  exact ⟨g, h1, h2⟩
theorem eu_start {a b : Int} {k : Nat} (hb0 : 0 ≤ b) (hb : b < 2 ^ k) : EuM (2 * k + 1) a b := by
  refine .inr ⟨by omega, .inr ?_⟩
  rw [show 2 * k + 1 - 1 = k + k by omega, Int.pow_add]
  rcases Int.lt_or_eq_of_le hb0 with h | h
  · exact Int.mul_lt_mul hb (by omega) h (by omega)
  · rw [← h]; simp
    exact Int.mul_pos (Int.pow_pos (by decide)) (Int.pow_pos (by decide))
theorem divisor_ok (a b : Int) (hb0 : 0 ≤ b) (hb : b < 2 ^ 256) : ∃ as, F_divisor [.fz (.int a), .fz (.int b)] = .val (.int (Int.gcd a b)) as := by
  obtain ⟨g, hg, hw⟩ := div_loop (2 * 256 + 1) a b (by decide) hb0 (eu_start hb0 hb)
  have e : (if g < 0 then -g else g) = (Int.gcd a b : Int) := by rw [← hg]; split <;> omega
  have hA : absD (.int g) = some (.int (Int.gcd a b)) := by rw [← e]; rfl
  refine ⟨[.fz (.int g), .fz (.int 0)], ?_⟩
  unfold F_divisor s_divisor
  rw [e_body, e_seqS]
  rw [show ([.fz (.int a), .fz (.int b)] ++ List.replicate (2 - 2) AV.un : List AV) = [.fz (.int a), .fz (.int b)] from rfl]
  rw [show whileS fuel (truF (varR 1)) (seqS (parS 0 1 (consL (varE 1) (consL (binF modI (varR 0) (varR 1)) (nilL)))) (nxS)) [.fz (.int a), .fz (.int b)] = .nx [.fz (.int g), .fz (.int 0)] from hw]
  simp [hA]
/-- n / d in lowest terms -/
abbrev rq (n d : Int) : Rat := Rat.divInt n d
theorem rq_num {n d : Int} (h : 0 < d) : (rq n d).num = n / (Int.gcd n d : Int) := by
  rw [Rat.num_divInt, Int.sign_eq_one_of_pos h, Int.one_mul, Int.gcd_comm]
theorem rq_den {n d : Int} (h : 0 < d) : ((rq n d).den : Int) = d / (Int.gcd n d : Int) := by
  rw [Rat.den_divInt, if_neg (by omega), Int.natCast_ediv, Int.natAbs_of_nonneg (by omega), Int.gcd_comm]
theorem gcd_pos {n d : Int} (h : 0 < d) : (0 : Int) < Int.gcd n d := by
  have := Int.gcd_pos_iff.mpr (.inr (by omega : d ≠ 0) : n ≠ 0 ∨ d ≠ 0)
  omega
theorem gcd_le {n d : Int} (h : 0 < d) : (Int.gcd n d : Int) ≤ d := Int.le_of_dvd h (Int.gcd_dvd_right ..)
theorem least_ok (a b : Int) (h0 : 0 < b) (hb : b < 2 ^ 256) : ∃ as, F_least [.fz (.int a), .fz (.int b)] = .val (frq (rq a b)) as := by
  obtain ⟨as, h⟩ := divisor_ok a b (by omega) hb
  have g0 := gcd_pos (n := a) h0
  have g1 := gcd_le (n := a) h0
  have d1 : ∀ x : Int, fdivI (.int x) (.int (Int.gcd a b)) = some (.int (x / (Int.gcd a b : Int))) := fun x => fdiv_ok g0 (by omega)
  have hn : ¬ b < 0 := by omega
  refine ⟨[.fz (.int a), .fz (.int b)], ?_⟩
  simp [F_least, s_least, frq, rq_num h0, rq_den h0, h, d1, hn, sizeLine_eq]
theorem fwhole_ok (n : Int) : ∃ as, F_whole [.fz (.int n)] = .val (frq (n : Rat)) as := by
  refine ⟨[.fz (.int n)], ?_⟩
  simp [F_whole, s_whole, frq, sizeLine_eq]
/-- both parts below 2 ^ k -/
structure Sz (k : Nat) (q : Rat) : Prop where
  nu : q.num.natAbs < 2 ^ k
  de : q.den < 2 ^ k
theorem Sz.mono {k l : Nat} {q : Rat} (h : Sz k q) (hl : k ≤ l) : Sz l q := by
  have := Nat.pow_le_pow_right (n := 2) (by decide) hl
  exact ⟨by have := h.nu; omega, by have := h.de; omega⟩
theorem Sz.rq {k : Nat} {n d : Int} (h0 : 0 < d) (hn : n.natAbs < 2 ^ k) (hd : d.natAbs < 2 ^ k) : Sz k (rq n d) := by
  have g0 := gcd_pos (n := n) h0
  refine ⟨?_, ?_⟩
  · rw [rq_num h0, Int.natAbs_ediv_of_dvd (Int.gcd_dvd_left ..)]
    exact Nat.lt_of_le_of_lt (Nat.div_le_self ..) hn
  · have := rq_den (n := n) h0
    have h1 := Int.ediv_le_self (Int.gcd n d : Int) (Int.le_of_lt h0)
    omega
theorem mul_lt2 {x y : Int} {i j : Nat} (hx : x.natAbs < 2 ^ i) (hy : y.natAbs < 2 ^ j) : (x * y).natAbs < 2 ^ (i + j) := by
  rw [Int.natAbs_mul, Nat.pow_add]
  exact Nat.mul_lt_mul'' hx hy
theorem mul_eq (p q : Rat) : p * q = rq (p.num * q.num) ((p.den : Int) * q.den) := by
  conv => lhs; rw [← Rat.num_divInt_den p, ← Rat.num_divInt_den q]
  rw [Rat.divInt_mul_divInt]
theorem add_eq (p q : Rat) : p + q = rq (p.num * q.den + q.num * p.den) ((p.den : Int) * q.den) := by
  conv => lhs; rw [← Rat.num_divInt_den p, ← Rat.num_divInt_den q]
  rw [Rat.divInt_add_divInt _ _ (by have := p.den_pos; omega) (by have := q.den_pos; omega)]
theorem den_mul_pos (p q : Rat) : 0 < (p.den : Int) * q.den := Int.mul_pos (by have := p.den_pos; omega) (by have := q.den_pos; omega)
theorem Sz.mul {i j : Nat} {p q : Rat} (hp : Sz i p) (hq : Sz j q) : Sz (i + j) (p * q) := by
  rw [mul_eq]
  exact Sz.rq (den_mul_pos p q) (mul_lt2 hp.nu hq.nu) (mul_lt2 (by have := hp.de; omega) (by have := hq.de; omega))
theorem Sz.add {i j : Nat} {p q : Rat} (hp : Sz i p) (hq : Sz j q) : Sz (i + j + 1) (p + q) := by
  rw [add_eq]
  have h1 := mul_lt2 (x := p.num) (y := q.den) (i := i) (j := j) hp.nu (by have := hq.de; omega)
  have h2 := mul_lt2 (x := q.num) (y := p.den) (i := j) (j := i) hq.nu (by have := hp.de; omega)
  have h3 := mul_lt2 (x := p.den) (y := q.den) (i := i) (j := j) (by have := hp.de; omega) (by have := hq.de; omega)
  rw [Nat.add_comm j i] at h2
  have e : 2 ^ (i + j + 1) = 2 * 2 ^ (i + j) := by rw [Nat.pow_succ]; omega
  have t := Int.natAbs_add_le (p.num * q.den) (q.num * p.den)
  exact Sz.rq (den_mul_pos p q) (by omega) (by omega)
theorem times_ok {p q : Rat} (hp : Sz 120 p) (hq : Sz 120 q) : ∃ as, F_times [.fz (frq p), .fz (frq q)] = .val (frq (p * q)) as := by
  have hd := mul_lt2 (x := p.den) (y := q.den) (i := 120) (j := 120) (by have := hp.de; omega) (by have := hq.de; omega)
  obtain ⟨as, h⟩ := least_ok (p.num * q.num) ((p.den : Int) * q.den) (den_mul_pos p q) (by have := den_mul_pos p q; omega)
  have a1 : mulI (.int p.num) (.int q.num) = some (.int (p.num * q.num)) := mul_ok (by have := hp.nu; omega) (by have := hq.nu; omega)
  have a2 : mulI (.int (p.den : Int)) (.int (q.den : Int)) = some (.int ((p.den : Int) * q.den)) := mul_ok (by have := hp.de; omega) (by have := hq.de; omega)
  rw [mul_eq]
  refine ⟨[.fz (frq p), .fz (frq q)], ?_⟩
  simp [F_times, s_times, frq, a1, a2, h] 
theorem plus_ok {p q : Rat} (hp : Sz 120 p) (hq : Sz 120 q) : ∃ as, F_plus [.fz (frq p), .fz (frq q)] = .val (frq (p + q)) as := by
  have hd := mul_lt2 (x := p.den) (y := q.den) (i := 120) (j := 120) (by have := hp.de; omega) (by have := hq.de; omega)
  obtain ⟨as, h⟩ := least_ok (p.num * q.den + q.num * p.den) ((p.den : Int) * q.den) (den_mul_pos p q) (by have := den_mul_pos p q; omega)
  have a1 : mulI (.int p.num) (.int (q.den : Int)) = some (.int (p.num * q.den)) := mul_ok (by have := hp.nu; omega) (by have := hq.de; omega)
  have a3 : mulI (.int q.num) (.int (p.den : Int)) = some (.int (q.num * p.den)) := mul_ok (by have := hq.nu; omega) (by have := hp.de; omega)
  have a2 : mulI (.int (p.den : Int)) (.int (q.den : Int)) = some (.int ((p.den : Int) * q.den)) := mul_ok (by have := hp.de; omega) (by have := hq.de; omega)
  rw [add_eq]
  refine ⟨[.fz (frq p), .fz (frq q)], ?_⟩
  simp [F_plus, s_plus, frq, a1, a2, a3, h]
end Wk
set_option Elab.async false
set_option linter.all false
set_option maxRecDepth 100000
set_option maxHeartbeats 4000000
namespace Wk
open PySem PySem.Spec L2 DL
theorem absD_eq (a : Int) : absD (.int a) = some (.int (a.natAbs : Int)) := by
  show some (D.int (if a < 0 then -a else a)) = _
  congr 2; split <;> omega
abbrev ldivB : Ev → SOut := seqS (parS 2 3 (consL (varE 3) (consL (binF modI (varR 2) (varR 3)) (nilL)))) (nxS)
theorem ldiv_loop (m : Nat) (u v a b : Int) (w : AV) (hm : m < 1000000) (hb : 0 ≤ b) (ha : 0 ≤ a) (h : EuM m a b) : whileS fuel (tstF (binF gtI (varR 3) (datO (conE (.int 0))))) ldivB [.fz (.int u), .fz (.int v), .fz (.int a), .fz (.int b), w] = .nx [.fz (.int u), .fz (.int v), .fz (.int (Int.gcd a b)), .fz (.int 0), w] := by
  refine while_ind (c := tstF (binF gtI (varR 3) (datO (conE (.int 0))))) (b := ldivB)
    (fun m ρ => ∃ c d : Int, ρ = [.fz (.int u), .fz (.int v), .fz (.int c), .fz (.int d), w] ∧ 0 ≤ c ∧ 0 ≤ d ∧ EuM m c d ∧ Int.gcd c d = Int.gcd a b)
    (fun r => r = .nx [.fz (.int u), .fz (.int v), .fz (.int (Int.gcd a b)), .fz (.int 0), w])
    (by
      rintro m ρ ⟨c, d, rfl, hc, hd, hE, hg⟩
      by_cases z : d = 0
      · subst z
        refine .inl ⟨[.fz (.int u), .fz (.int v), .fz (.int c), .fz (.int 0), w], ?_, ?_⟩
        · simp
        · rw [← hg, Int.gcd_zero_right, Int.natAbs_of_nonneg hc]
      · obtain ⟨h1, h2⟩ := eu_step (by omega) hE
        have hd' : 0 < d := by omega
        refine .inr ⟨[.fz (.int u), .fz (.int v), .fz (.int c), .fz (.int d), w], ?_, .inr ⟨[.fz (.int u), .fz (.int v), .fz (.int d), .fz (.int (c % d)), w], m - 1, ?_, by omega, d, c % d, rfl, hd, Int.emod_nonneg c z, h2, ?_⟩⟩
        · simp [hd']
        · simp [ldivB, parS, mod_ok hd']
        · rw [gcd_step, hg])
    fuel m _ ⟨a, b, rfl, ha, hb, h, rfl⟩ hm
theorem less_ok {p q : Rat} (hp : Sz 120 p) (hq : Sz 120 q) : ∃ as, F_is_less [.fz (frq p), .fz (frq q)] = .val (.bl (decide (p < q))) as := by
  have a1 : mulI (.int p.num) (.int (q.den : Int)) = some (.int (p.num * q.den)) := mul_ok (by have := hp.nu; omega) (by have := hq.de; omega)
  have a3 : mulI (.int q.num) (.int (p.den : Int)) = some (.int (q.num * p.den)) := mul_ok (by have := hq.nu; omega) (by have := hp.de; omega)
  refine ⟨[.fz (frq p), .fz (frq q)], ?_⟩
  simp [F_is_less, s_is_less, frq, a1, a3, Rat.lt_iff]
end Wk
set_option Elab.async false
set_option linter.all false
set_option maxRecDepth 100000
set_option maxHeartbeats 4000000
namespace Wk
open PySem PySem.Spec L2 DL
/-- the parts below 2 ^ k and 2 ^ l -/
structure Sb (k l : Nat) (q : Rat) : Prop where
  nu : q.num.natAbs < 2 ^ k
  de : q.den < 2 ^ l
theorem Sb.mono {k l k' l' : Nat} {q : Rat} (h : Sb k l q) (hk : k ≤ k') (hl : l ≤ l') : Sb k' l' q :=
  ⟨Nat.lt_of_lt_of_le h.nu (Nat.pow_le_pow_right (by decide) hk), Nat.lt_of_lt_of_le h.de (Nat.pow_le_pow_right (by decide) hl)⟩
theorem Sb.sz {k l m : Nat} {q : Rat} (h : Sb k l q) (hk : k ≤ m) (hl : l ≤ m) : Sz m q := ⟨(h.mono hk hl).nu, (h.mono hk hl).de⟩
theorem Sb.rq {k l : Nat} {n d : Int} (h0 : 0 < d) (hn : n.natAbs < 2 ^ k) (hd : d.natAbs < 2 ^ l) : Sb k l (rq n d) := by
  have g0 := gcd_pos (n := n) h0
  refine ⟨?_, ?_⟩
  · rw [rq_num h0, Int.natAbs_ediv_of_dvd (Int.gcd_dvd_left ..)]
    exact Nat.lt_of_le_of_lt (Nat.div_le_self ..) hn
  · have := rq_den (n := n) h0
    have h1 := Int.ediv_le_self (Int.gcd n d : Int) (Int.le_of_lt h0)
    omega
theorem Sb.mul {k l k' l' : Nat} {p q : Rat} (hp : Sb k l p) (hq : Sb k' l' q) : Sb (k + k') (l + l') (p * q) := by
  rw [mul_eq]
  exact Sb.rq (den_mul_pos p q) (mul_lt2 hp.nu hq.nu) (mul_lt2 (by have := hp.de; omega) (by have := hq.de; omega))
theorem Sb.add {k l k' l' m : Nat} {p q : Rat} (hp : Sb k l p) (hq : Sb k' l' q) (h1 : k + l' ≤ m) (h2 : k' + l ≤ m) : Sb (m + 1) (l + l') (p + q) := by
  rw [add_eq]
  have e1 := mul_lt2 (x := p.num) (y := q.den) (i := k) (j := l') hp.nu (by have := hq.de; omega)
  have e2 := mul_lt2 (x := q.num) (y := p.den) (i := k') (j := l) hq.nu (by have := hp.de; omega)
  have e3 := mul_lt2 (x := p.den) (y := q.den) (i := l) (j := l') (by have := hp.de; omega) (by have := hq.de; omega)
  have f1 := Nat.pow_le_pow_right (n := 2) (by decide) h1
  have f2 := Nat.pow_le_pow_right (n := 2) (by decide) h2
  have e : 2 ^ (m + 1) = 2 * 2 ^ m := by rw [Nat.pow_succ]; omega
  have t := Int.natAbs_add_le (p.num * q.den) (q.num * p.den)
  exact Sb.rq (den_mul_pos p q) (by omega) (by omega)
theorem Sb.zero : Sb 1 1 0 := ⟨by decide, by decide⟩
theorem Sb.int {n : Int} {k : Nat} (h : n.natAbs < 2 ^ k) : Sb k 1 (n : Rat) := ⟨h, by show (1 : Nat) < 2 ^ 1; decide⟩
/-- the sum of a list -/
def sumQ : List Rat → Rat
  | [] => 0
  | q :: qs => q + sumQ qs
theorem sumQ_snoc : ∀ (qs : List Rat) (q : Rat), sumQ (qs ++ [q]) = sumQ qs + q
  | [], q => by show q + 0 = 0 + q; rw [Rat.add_comm]
  | x :: qs, q => by show x + sumQ (qs ++ [q]) = x + sumQ qs + q; rw [sumQ_snoc qs q, Rat.add_assoc]
theorem sumQ_perm {a b : List Rat} (h : a.Perm b) : sumQ a = sumQ b := by
  induction h with
  | nil => rfl
  | cons x _ ih => show x + _ = x + _; rw [ih]
  | swap x y l => show y + (x + sumQ l) = x + (y + sumQ l); rw [← Rat.add_assoc, ← Rat.add_assoc, Rat.add_comm y x]
  | trans _ _ i j => rw [i, j]
theorem sumQ_take (qs : List Rat) (j : Nat) (q : Rat) (h : qs[j]? = some q) : sumQ (qs.take (j + 1)) = sumQ (qs.take j) + q := by
  rw [List.take_add_one, h]; exact sumQ_snoc _ _
theorem Sb.sum {k l : Nat} {qs : List Rat} (h : ∀ q ∈ qs, Sb k l q) : ∀ j, j ≤ qs.length → Sb (k + l + 1 + (l + 1) * j) (l * j + 1) (sumQ (qs.take j))
  | 0, _ => Sb.zero.mono (by omega) (by omega)
  | j + 1, hj => by
    have hq : qs[j]? = some qs[j] := List.getElem?_eq_getElem (by omega)
    rw [sumQ_take qs j _ hq]
    have e : (l + 1) * (j + 1) = (l + 1) * j + (l + 1) := by rw [Nat.mul_add, Nat.mul_one]
    have e' : l * (j + 1) = l * j + l := by rw [Nat.mul_add, Nat.mul_one]
    have e'' : (l + 1) * j = l * j + j := by rw [Nat.add_mul, Nat.one_mul]
    have := (Sb.sum h j (by omega)).add (h _ (List.getElem_mem (by omega : j < qs.length))) (m := k + l + 1 + (l + 1) * j + l) (by omega) (by omega)
    exact this.mono (by omega) (by omega)
end Wk
set_option Elab.async false
set_option linter.all false
set_option maxRecDepth 100000
set_option maxHeartbeats 4000000
namespace Wk
open PySem PySem.Spec L2 DL
/-! ### what a way gives in all -/
def amt (s : List (Str × Int)) (x : Str) : Int := (findA s x).getD 0
def netW (w : Way) (x : Str) : Int := amt w.give x - amt w.need x
theorem get_kvs {lo : Nat} {s : List (Str × Int)} (h : Side lo s) (x : Str) : (valD (kvsD D.int s) (.inr x)).getD (.int 0) = .int (amt s x) := by
  by_cases m : x ∈ s.map (·.1)
  · obtain ⟨p, hp, rfl⟩ := List.mem_map.mp m
    rw [valD_kvs h.nd (a := p.2) hp]
    unfold amt
    rw [findA_of h.nd (a := p.2) hp]; rfl
  · rw [valD_none m]
    unfold amt
    have : findA s x = none := by
      unfold findA
      rw [Option.map_eq_none_iff, List.find?_eq_none]
      intro p hp e
      exact m (List.mem_map.mpr ⟨p, hp, by simpa using e⟩)
    rw [this]; rfl
theorem net_ok {w : Way} (hw : GWay w) (x : Str) : ∃ as, F_net [.fz (wayD w), .fz (.str x)] = .val (.int (netW w x)) as := by
  have h1 := dict_side hw.give
  have h2 := dict_side hw.need
  have g1 := get_kvs hw.give x
  have g2 := get_kvs hw.need x
  refine ⟨[.fz (wayD w), .fz (.str x)], ?_⟩
  simp [F_net, s_net, wayD, h1, h2, get2F, g1, g2, netW]
end Wk
set_option Elab.async false
set_option linter.all false
set_option maxRecDepth 100000
set_option maxHeartbeats 4000000
namespace Wk
open PySem PySem.Spec L2 DL
def onP (x : Str) : D → Bool
  | .tup [.str z, _] => decide (z = x)
  | _ => false
def sndD : D → D
  | .tup [_, n] => n
  | d => d
theorem pick_side : ∀ (s : List (Str × Int)) (x : Str), (s.map (·.1)).Nodup → ((s.map pD).filter (onP x)).map sndD = (match findA s x with | some n => [.int n] | none => [])
  | [], x, _ => rfl
  | p :: s, x, nd => by
    rw [List.map_cons, List.nodup_cons] at nd
    have ih := pick_side s x nd.2
    by_cases e : p.1 = x
    · have hn : findA s x = none := by
        unfold findA
        rw [Option.map_eq_none_iff, List.find?_eq_none]
        intro q hq e'
        exact nd.1 (List.mem_map.mpr ⟨q, hq, by rw [e]; simpa using e'⟩)
      have hf : findA (p :: s) x = some p.2 := by unfold findA; rw [List.find?_cons_of_pos (by simpa using e)]; rfl
      rw [hn] at ih
      rw [hf, List.map_cons, List.filter_cons_of_pos (by show decide (p.1 = x) = true; simpa using e), List.map_cons, ih]; rfl
    · have hf : findA (p :: s) x = findA s x := by unfold findA; rw [List.find?_cons_of_neg (by simpa using e)]
      rw [hf, List.map_cons, List.filter_cons_of_neg (by show ¬ decide (p.1 = x) = true; simpa using e), ih]
theorem sum_side {s : List (Str × Int)} (x : Str) (nd : (s.map (·.1)).Nodup) : sumD (.lst (((s.map pD).filter (onP x)).map sndD)) = some (.int (amt s x)) := by
  rw [pick_side s x nd]
  unfold amt
  cases findA s x with
  | none => rfl
  | some n => show some (D.int _) = some (D.int _); simp
end Wk
set_option Elab.async false
set_option linter.all false
set_option maxRecDepth 100000
set_option maxHeartbeats 4000000
namespace Wk
open PySem PySem.Spec L2 DL
theorem eqStr {a b : Str} : eqO (.str a) (.str b) = some (.bl (decide (a = b))) := rfl
theorem lc_side (s : List (Str × Int)) (hs : s.length ≤ 3) (x : Str) (a b : AV) (ha : ∃ d, a = .fz d) (hb : b = .un ∨ ∃ d, b = .fz d) : lcLoop (.tp [3, 4]) (tstF (binF eqO (varR 3) (varR 1))) (varE 4) [3, 4] (s.map pD) [a, .fz (.str x), b, .un, .un] [] = .val (((s.map pD).filter (onP x)).map sndD) [a, .fz (.str x), b, .un, .un] := by
  have h := lc_pure (g := .tp [3, 4]) (tt := tstF (binF eqO (varR 3) (varR 1))) (te := varE 4) (vs := [3, 4]) (ρ := [a, .fz (.str x), b, .un, .un]) (onP x) sndD (s.map pD) [] (by rw [List.length_nil, List.length_map, sizeLine_eq]; omega)
    (fun d hd => by
      obtain ⟨p, hp, rfl⟩ := List.mem_map.mp hd
      refine ⟨[a, .fz (.str x), b, .fz (.str p.1), .fz (.int p.2)], ?_⟩
      obtain ⟨d, rfl⟩ := ha
      rcases hb with rfl | ⟨e, rfl⟩ <;> simp [pD, onP, sndD, eqStr])
  rw [List.nil_append] at h
  exact h
end Wk
set_option Elab.async false
set_option linter.all false
set_option maxRecDepth 100000
set_option maxHeartbeats 4000000
namespace Wk
open PySem PySem.Spec L2 DL
abbrev planD (ps : List (Str × Rat)) : D := .dic (kvsD frq ps)
structure Plan (b : List (Str × Way)) (ps : List (Str × Rat)) (k l : Nat) : Prop where
  nm : (ps.map (·.1)).Perm (b.map (·.1))
  sb : ∀ p ∈ ps, Sb k l p.2
def pq (ps : List (Str × Rat)) (z : Str) : Rat := (findA ps z).getD 0
def netO (b : List (Str × Way)) (x z : Str) : Int := match findA b z with | some w => netW w x | none => 0
def term (b : List (Str × Way)) (ps : List (Str × Rat)) (x z : Str) : Rat := pq ps z * (netO b x z : Rat)
def rate (b : List (Str × Way)) (ps : List (Str × Rat)) (x : Str) : Rat := sumQ ((b.map (·.1)).map (term b ps x))
theorem rate_srt (b : List (Str × Way)) (ps : List (Str × Rat)) (x : Str) : sumQ ((nmsB b).map (term b ps x)) = rate b ps x := sumQ_perm ((DLS.srt_perm _).map _)
theorem amt_rng {lo : Nat} {s : List (Str × Int)} (h : Side lo s) (x : Str) : 0 ≤ amt s x ∧ amt s x ≤ 20 := by
  unfold amt
  by_cases m : x ∈ s.map (·.1)
  · obtain ⟨p, hp, rfl⟩ := List.mem_map.mp m
    rw [findA_of h.nd (a := p.2) hp]
    have := h.rng p hp
    show 0 ≤ p.2 ∧ p.2 ≤ 20
    omega
  · have : findA s x = none := by
      unfold findA
      rw [Option.map_eq_none_iff, List.find?_eq_none]
      intro p hp e
      exact m (List.mem_map.mpr ⟨p, hp, by simpa using e⟩)
    rw [this]; exact ⟨by decide, by decide⟩
theorem net_rng {w : Way} (hw : GWay w) (x : Str) : (netW w x).natAbs < 2 ^ 5 := by
  have := amt_rng hw.give x
  have := amt_rng hw.need x
  unfold netW; omega
theorem plan_at {b : List (Str × Way)} {ps : List (Str × Rat)} {k l : Nat} (hb : Book b) (hp : Plan b ps k l) {z : Str} {w : Way} (hm : (z, w) ∈ b) : ixO (planD ps) (.str z) = some (frq (pq ps z)) ∧ Sb k l (pq ps z) ∧ netO b x z = netW w x ∧ ixO (bookD b) (.str z) = some (wayD w) := by
  have nd : (ps.map (·.1)).Nodup := hp.nm.nodup_iff.mpr hb.nd
  have hz : z ∈ ps.map (·.1) := hp.nm.mem_iff.mpr (List.mem_map.mpr ⟨_, hm, rfl⟩)
  obtain ⟨p, hp1, rfl⟩ := List.mem_map.mp hz
  have e := findA_of nd (a := p.2) hp1
  refine ⟨?_, ?_, ?_, way_at hb.nd hm⟩
  · show valD (kvsD frq ps) (.inr p.1) = _
    rw [valD_kvs nd (a := p.2) hp1]; unfold pq; rw [e]; rfl
  · unfold pq; rw [e]; exact hp.sb p hp1
  · unfold netO; rw [findA_of hb.nd hm]
theorem term_sb {b : List (Str × Way)} {ps : List (Str × Rat)} {k l : Nat} (hb : Book b) (hp : Plan b ps k l) (x : Str) {z : Str} (hz : z ∈ b.map (·.1)) : Sb (k + 5) (l + 1) (term b ps x z) := by
  obtain ⟨q, hq, rfl⟩ := List.mem_map.mp hz
  obtain ⟨_, h2, h3, _⟩ := plan_at (x := x) hb hp (z := q.1) (w := q.2) hq
  unfold term
  rw [h3]
  exact h2.mul (Sb.int (net_rng (hb.way _ hq) x))
end Wk
set_option Elab.async false
set_option linter.all false
set_option maxRecDepth 100000
set_option maxHeartbeats 4000000
namespace Wk
open PySem PySem.Spec L2 DL
/-- .. of a name -/
def onQ (f : Str → D) : D → D
  | .str z => f z
  | d => d
end Wk
set_option Elab.async false
set_option linter.all false
set_option maxRecDepth 100000
set_option maxHeartbeats 4000000
namespace Wk
open PySem PySem.Spec L2 DL
theorem rate_ok {b : List (Str × Way)} {ps : List (Str × Rat)} {k l : Nat} (hb : Book b) (hp : Plan b ps k l) (hk : k + 7 * l + 30 ≤ 130) (x : Str) : ∃ as, F_rate_of [.fz (bookD b), .fz (planD ps), .fz (.str x)] = .val (frq (rate b ps x)) as := by
  have hb6 := hb.hi
  have hT : ∀ q ∈ (nmsB b).map (term b ps x), Sb (k + 5) (l + 1) q := by
    intro q hq
    obtain ⟨z, hz, rfl⟩ := List.mem_map.mp hq
    exact term_sb hb hp x ((DLS.srt_perm _).mem_iff.mp hz)
  obtain ⟨a0, hw0⟩ := ways_ok b
  have key := for_inv (g := .nm 4) (b := seqS (setS 3 (callF 2 F_plus (datA (varE 3) (datA (callF 2 F_times (datA (binF ixO (varR 1) (varR 4)) (datA (callF 1 F_whole (datA (callF 2 F_net (datA (binF ixO (varR 0) (varR 4)) (datA (varE 2) (nilA)))) (nilA))) (nilA)))) (nilA))))) (nxS)) (fun j ρ => ∃ a : AV, ρ = [.fz (bookD b), .fz (planD ps), .fz (.str x), .fz (frq (sumQ (((nmsB b).map (term b ps x)).take j))), a] ∧ (a = .un ∨ ∃ d, a = .fz d))
    ((nmsB b).map D.str) 0 [.fz (bookD b), .fz (planD ps), .fz (.str x), .fz (frq 0), .un] ⟨.un, rfl, .inl rfl⟩ (by
      rintro j d ρ hd ⟨a, rfl, ha⟩
      rw [List.getElem?_map] at hd
      cases hz : (nmsB b)[j]? with
      | none => rw [hz] at hd; cases hd
      | some z =>
        rw [hz] at hd
        cases hd
        have hj : j < (nmsB b).length := (List.getElem?_eq_some_iff.mp hz).1
        rw [nms_len] at hj
        obtain ⟨w, hm⟩ := nms_way (List.mem_of_getElem? hz)
        obtain ⟨h1, h2, h3, h4⟩ := plan_at (x := x) hb hp hm
        obtain ⟨a1, n1⟩ := net_ok (hb.way _ hm) x
        have nr := net_rng (hb.way _ hm) x
        obtain ⟨a2, n2⟩ := fwhole_ok (netW w x)
        obtain ⟨a3, n3⟩ := times_ok (h2.sz (m := 120) (by omega) (by omega)) ((Sb.int nr).sz (m := 120) (by omega) (by omega))
        have ht : term b ps x z = pq ps z * (netW w x : Rat) := by unfold term; rw [h3]
        rw [← ht] at n3
        have hq : ((nmsB b).map (term b ps x))[j]? = some (term b ps x z) := by rw [List.getElem?_map, hz]; rfl
        have e1 : (l + 1) * j ≤ (l + 1) * 6 := Nat.mul_le_mul_left _ (by omega)
        have e2 : (l + 1 + 1) * j ≤ (l + 1 + 1) * 6 := Nat.mul_le_mul_left _ (by omega)
        obtain ⟨a4, n4⟩ := plus_ok ((Sb.sum hT j (by rw [List.length_map, nms_len]; omega)).sz (m := 120) (by omega) (by omega)) ((hT _ (List.mem_of_getElem? hq)).sz (m := 120) (by omega) (by omega))
        rw [← sumQ_take _ j _ hq] at n4
        rw [Nat.zero_add]
        generalize ((nmsB b).map (term b ps x)) = T at n4 ⊢
        generalize bookD b = B at h4 ⊢
        generalize planD ps = P at h1 ⊢
        generalize frq (sumQ (T.take (j + 1))) = f1 at n4 ⊢
        generalize frq (sumQ (T.take j)) = f0 at n4 ⊢
        generalize frq (term b ps x z) = f2 at n3 n4
        generalize frq (pq ps z) = f3 at h1 n3
        generalize frq ((netW w x : Int) : Rat) = f4 at n2 n3
        refine ⟨[.fz B, .fz P, .fz (.str x), .fz f0, .fz (.str z)], [.fz B, .fz P, .fz (.str x), .fz f1, .fz (.str z)], ?_, ?_, .fz (.str z), rfl, .inr ⟨_, rfl⟩⟩
        · rcases ha with rfl | ⟨_, rfl⟩ <;> simp
        · simp [h1, h4, n1, n2, n3, n4])
  obtain ⟨ρ', h1, a, h2, _⟩ := key
  rw [Nat.zero_add, List.length_map, show (nmsB b).length = ((nmsB b).map (term b ps x)).length from (List.length_map ..).symm, List.take_length, rate_srt] at h2
  refine ⟨[.fz (bookD b), .fz (planD ps), .fz (.str x)], ?_⟩
  generalize bookD b = B at h1 h2 hw0 ⊢
  generalize planD ps = P at h1 h2 ⊢
  generalize frq (rate b ps x) = f at h2 ⊢
  generalize (nmsB b).map D.str = L at h1 hw0
  subst h2
  have h1' : forS (.nm 4) (seqS (setS 3 (callF 2 F_plus (datA (varE 3) (datA (callF 2 F_times (datA (binF ixO (varR 1) (varR 4)) (datA (callF 1 F_whole (datA (callF 2 F_net (datA (binF ixO (varR 0) (varR 4)) (datA (varE 2) (nilA)))) (nilA))) (nilA)))) (nilA))))) (nxS)) L [.fz B, .fz P, .fz (.str x), .fz (.tup [.int 0, .int 1]), .un] = _ := h1
  simp [F_rate_of, s_rate_of, hw0, h1']
end Wk
set_option Elab.async false
set_option linter.all false
set_option maxRecDepth 100000
set_option maxHeartbeats 4000000
namespace Wk
open PySem PySem.Spec L2 DL
def powO (b : List (Str × Way)) (z : Str) : Int := match findA b z with | some w => w.power | none => 0
def termP (b : List (Str × Way)) (ps : List (Str × Rat)) (z : Str) : Rat := pq ps z * (powO b z : Rat)
def powr (b : List (Str × Way)) (ps : List (Str × Rat)) : Rat := sumQ ((b.map (·.1)).map (termP b ps))
theorem powr_srt (b : List (Str × Way)) (ps : List (Str × Rat)) : sumQ ((nmsB b).map (termP b ps)) = powr b ps := sumQ_perm ((DLS.srt_perm _).map _)
theorem pow_rng {w : Way} (hw : GWay w) : w.power.natAbs < 2 ^ 6 := by have := hw.power; omega
theorem powO_at {b : List (Str × Way)} (hb : Book b) {z : Str} {w : Way} (hm : (z, w) ∈ b) : powO b z = w.power := by unfold powO; rw [findA_of hb.nd hm]
theorem termP_sb {b : List (Str × Way)} {ps : List (Str × Rat)} {k l : Nat} (hb : Book b) (hp : Plan b ps k l) {z : Str} (hz : z ∈ b.map (·.1)) : Sb (k + 6) (l + 1) (termP b ps z) := by
  obtain ⟨q, hq, rfl⟩ := List.mem_map.mp hz
  obtain ⟨_, h2, _, _⟩ := plan_at (x := q.1) hb hp (z := q.1) (w := q.2) hq
  unfold termP
  rw [powO_at hb hq]
  exact h2.mul (Sb.int (pow_rng (hb.way _ hq)))
theorem power_of_ok {b : List (Str × Way)} {ps : List (Str × Rat)} {k l : Nat} (hb : Book b) (hp : Plan b ps k l) (hk : k + 7 * l + 30 ≤ 130) : ∃ as, F_power_of [.fz (bookD b), .fz (planD ps)] = .val (frq (powr b ps)) as := by
  have hb6 := hb.hi
  have hT : ∀ q ∈ (nmsB b).map (termP b ps), Sb (k + 6) (l + 1) q := by
    intro q hq
    obtain ⟨z, hz, rfl⟩ := List.mem_map.mp hq
    exact termP_sb hb hp ((DLS.srt_perm _).mem_iff.mp hz)
  obtain ⟨a0, hw0⟩ := ways_ok b
  have key := for_inv (g := .nm 3) (b := seqS (setS 2 (callF 2 F_plus (datA (varE 2) (datA (callF 2 F_times (datA (binF ixO (varR 1) (varR 3)) (datA (callF 1 F_whole (datA (binF ixO (datO (binF ixO (varR 0) (varR 3))) (datO (conE (.int 3)))) (nilA))) (nilA)))) (nilA))))) (nxS)) (fun j ρ => ∃ a : AV, ρ = [.fz (bookD b), .fz (planD ps), .fz (frq (sumQ (((nmsB b).map (termP b ps)).take j))), a] ∧ (a = .un ∨ ∃ d, a = .fz d))
    ((nmsB b).map D.str) 0 [.fz (bookD b), .fz (planD ps), .fz (frq 0), .un] ⟨.un, rfl, .inl rfl⟩ (by
      rintro j d ρ hd ⟨a, rfl, ha⟩
      rw [List.getElem?_map] at hd
      cases hz : (nmsB b)[j]? with
      | none => rw [hz] at hd; cases hd
      | some z =>
        rw [hz] at hd
        cases hd
        have hj : j < (nmsB b).length := (List.getElem?_eq_some_iff.mp hz).1
        rw [nms_len] at hj
        obtain ⟨w, hm⟩ := nms_way (List.mem_of_getElem? hz)
        obtain ⟨h1, h2, h3, h4⟩ := plan_at (x := z) hb hp hm
        have n1 : ixO (wayD w) (.int 3) = some (.int w.power) := by simp [wayD]
        have nr := pow_rng (hb.way _ hm)
        obtain ⟨a2, n2⟩ := fwhole_ok (w.power)
        obtain ⟨a3, n3⟩ := times_ok (h2.sz (m := 120) (by omega) (by omega)) ((Sb.int nr).sz (m := 120) (by omega) (by omega))
        have ht : termP b ps z = pq ps z * (w.power : Rat) := by unfold termP; rw [powO_at hb hm]
        rw [← ht] at n3
        have hq : ((nmsB b).map (termP b ps))[j]? = some (termP b ps z) := by rw [List.getElem?_map, hz]; rfl
        have e1 : (l + 1) * j ≤ (l + 1) * 6 := Nat.mul_le_mul_left _ (by omega)
        have e2 : (l + 1 + 1) * j ≤ (l + 1 + 1) * 6 := Nat.mul_le_mul_left _ (by omega)
        obtain ⟨a4, n4⟩ := plus_ok ((Sb.sum hT j (by rw [List.length_map, nms_len]; omega)).sz (m := 120) (by omega) (by omega)) ((hT _ (List.mem_of_getElem? hq)).sz (m := 120) (by omega) (by omega))
        rw [← sumQ_take _ j _ hq] at n4
        rw [Nat.zero_add]
        generalize ((nmsB b).map (termP b ps)) = T at n4 ⊢
        generalize bookD b = B at h4 ⊢
        generalize planD ps = P at h1 ⊢
        generalize wayD w = W at h4 n1
        generalize frq (sumQ (T.take (j + 1))) = f1 at n4 ⊢
        generalize frq (sumQ (T.take j)) = f0 at n4 ⊢
        generalize frq (termP b ps z) = f2 at n3 n4
        generalize frq (pq ps z) = f3 at h1 n3
        generalize frq ((w.power : Int) : Rat) = f4 at n2 n3
        refine ⟨[.fz B, .fz P, .fz f0, .fz (.str z)], [.fz B, .fz P, .fz f1, .fz (.str z)], ?_, ?_, .fz (.str z), rfl, .inr ⟨_, rfl⟩⟩
        · rcases ha with rfl | ⟨_, rfl⟩ <;> simp
        · simp [h1, h4, n1, n2, n3, n4])
  obtain ⟨ρ', h1, a, h2, _⟩ := key
  rw [Nat.zero_add, List.length_map, show (nmsB b).length = ((nmsB b).map (termP b ps)).length from (List.length_map ..).symm, List.take_length, powr_srt] at h2
  refine ⟨[.fz (bookD b), .fz (planD ps)], ?_⟩
  generalize bookD b = B at h1 h2 hw0 ⊢
  generalize planD ps = P at h1 h2 ⊢
  generalize frq (powr b ps) = f at h2 ⊢
  generalize (nmsB b).map D.str = L at h1 hw0
  subst h2
  have h1' : forS (.nm 3) (seqS (setS 2 (callF 2 F_plus (datA (varE 2) (datA (callF 2 F_times (datA (binF ixO (varR 1) (varR 3)) (datA (callF 1 F_whole (datA (binF ixO (datO (binF ixO (varR 0) (varR 3))) (datO (conE (.int 3)))) (nilA))) (nilA)))) (nilA))))) (nxS)) L [.fz B, .fz P, .fz (.tup [.int 0, .int 1]), .un] = _ := h1
  simp [F_power_of, s_power_of, hw0, h1']
end Wk
set_option Elab.async false
set_option linter.all false
set_option maxRecDepth 100000
set_option maxHeartbeats 4000000
namespace DL
open PySem PySem.Spec L2
section
variable {α β : Type} {g : Tg} {tt : Ev → Out Bool} {te : Ev → Out D} {vs : List Nat} {ρ : Ev} {bd : Ev → SOut}
theorem lc_t (enc : α → D) (p : α → Bool) (F : α → D) : ∀ (xs : List α) (acc : List D), acc.length + xs.length ≤ sizeLine →
    (∀ x ∈ xs, ∃ ρ1, g.put (enc x) ρ = some ρ1 ∧ tt ρ1 = .val (p x) ρ1 ∧ (p x = true → te ρ1 = .val (F x) ρ1) ∧ okW ρ1 vs = true ∧ wipeE ρ1 vs = ρ) → lcLoop g tt te vs (xs.map enc) ρ acc = .val (acc ++ (xs.filter p).map F) ρ
  | [], acc, _, _ => by simp [lcLoop]
  | x :: xs, acc, hz, h => by
    obtain ⟨ρ1, h1, h2, h3, h4, h5⟩ := h x (.head _)
    rw [List.length_cons] at hz
    have hz' : acc.length < sizeLine := by omega
    rw [List.map_cons]
    unfold lcLoop
    rw [h1]
    dsimp only
    rw [h2]
    cases hp : p x with
    | false =>
      have ih := lc_t enc p F xs acc (by omega) fun y hy => h y (.tail _ hy)
      rw [List.filter_cons_of_neg (by rw [hp]; decide)]
      simp [h4, h5, ih]
    | true =>
      have ih := lc_t enc p F xs (acc ++ [F x]) (by rw [List.length_append, List.length_singleton]; omega) fun y hy => h y (.tail _ hy)
      rw [List.filter_cons_of_pos hp]
      simp [h3 hp, h4, h5, hz', ih]
theorem lc_m (enc : α → D) (F : α → D) (xs : List α) (hz : xs.length ≤ sizeLine)
    (h : ∀ x ∈ xs, ∃ ρ1, g.put (enc x) ρ = some ρ1 ∧ te ρ1 = .val (F x) ρ1 ∧ okW ρ1 vs = true ∧ wipeE ρ1 vs = ρ) : lcLoop g yesF te vs (xs.map enc) ρ [] = .val (xs.map F) ρ := by
  have := lc_t (tt := yesF) (te := te) enc (fun _ => true) F xs [] (by rw [List.length_nil]; omega) fun x hx => by
    obtain ⟨ρ1, h1, h2, h3, h4⟩ := h x hx
    exact ⟨ρ1, h1, rfl, fun _ => h2, h3, h4⟩
  rw [List.filter_eq_self.mpr (fun _ _ => rfl), List.nil_append] at this
  exact this
/-- what a loop's name may hold ahead of the loop -/
def Jk (a : AV) : Prop := a = .un ∨ ∃ d, a = .fz d
theorem Jk.un : Jk .un := .inl rfl
theorem Jk.fz {d : D} : Jk (.fz d) := .inr ⟨_, rfl⟩
/-- a loop that carries b -/
theorem for_v (enc : α → D) (E : β → AV → Ev) (step : β → α → β)
    (hp : ∀ b a x, Jk a → g.put (enc x) (E b a) = some (E b (.fz (enc x)))) : ∀ (P : Nat → β → Prop) (xs : List α) (b : β) (a : AV), Jk a → P 0 b →
    (∀ i b x, P i b → xs[i]? = some x → bd (E b (.fz (enc x))) = .nx (E (step b x) (.fz (enc x))) ∧ P (i + 1) (step b x)) → ∃ a', Jk a' ∧ forS g bd (xs.map enc) (E b a) = .nx (E (xs.foldl step b) a') ∧ P xs.length (xs.foldl step b)
  | P, [], b, a, ha, hb, _ => ⟨a, ha, rfl, hb⟩
  | P, x :: xs, b, a, ha, hb, k => by
    obtain ⟨h1, h2⟩ := k 0 b x hb rfl
    obtain ⟨a', g1, g2, g3⟩ := for_v enc E step hp (fun i => P (i + 1)) xs (step b x) (.fz (enc x)) .fz h2 fun i b y hb hy => k (i + 1) b y hb hy
    refine ⟨a', g1, ?_, g3⟩
    rw [List.map_cons]
    unfold forS
    rw [hp b a x ha]
    dsimp only
    rw [h1]
    exact g2
/-- .. of two names -/
theorem for_v2 (encA encB : α → D) (E : β → AV → AV → Ev) (step : β → α → β)
    (hp : ∀ b a c x, Jk a → Jk c → g.put (.tup [encA x, encB x]) (E b a c) = some (E b (.fz (encA x)) (.fz (encB x)))) : ∀ (P : Nat → β → Prop) (xs : List α) (b : β) (a c : AV), Jk a → Jk c → P 0 b →
    (∀ i b x, P i b → xs[i]? = some x → bd (E b (.fz (encA x)) (.fz (encB x))) = .nx (E (step b x) (.fz (encA x)) (.fz (encB x))) ∧ P (i + 1) (step b x)) → ∃ a' c', Jk a' ∧ Jk c' ∧ forS g bd (xs.map fun x => .tup [encA x, encB x]) (E b a c) = .nx (E (xs.foldl step b) a' c') ∧ P xs.length (xs.foldl step b)
  | P, [], b, a, c, ha, hc, hb, _ => ⟨a, c, ha, hc, rfl, hb⟩
  | P, x :: xs, b, a, c, ha, hc, hb, k => by
    obtain ⟨h1, h2⟩ := k 0 b x hb rfl
    obtain ⟨a', c', g1, g1', g2, g3⟩ := for_v2 encA encB E step hp (fun i => P (i + 1)) xs (step b x) (.fz (encA x)) (.fz (encB x)) .fz .fz h2 fun i b y hb hy => k (i + 1) b y hb hy
    refine ⟨a', c', g1, g1', ?_, g3⟩
    rw [List.map_cons]
    unfold forS
    rw [hp b a c x ha hc]
    dsimp only
    rw [h1]
    exact g2
/-- a loop that ends the def at the first of some kind -/
theorem for_x (enc : α → D) (E : β → AV → Ev) (step : β → α → β) (p : β → α → Bool) (R : β → α → D)
    (hp : ∀ b a x, Jk a → g.put (enc x) (E b a) = some (E b (.fz (enc x)))) : ∀ (P : Nat → β → Prop) (xs : List α) (b : β) (a : AV), Jk a → P 0 b →
    (∀ i b x, P i b → xs[i]? = some x → p b x = false → bd (E b (.fz (enc x))) = .nx (E (step b x) (.fz (enc x))) ∧ P (i + 1) (step b x)) →
    (∀ i b x, P i b → xs[i]? = some x → p b x = true → ∃ ρ', bd (E b (.fz (enc x))) = .rt (R b x) ρ') →
    (∃ (l r : List α) (x : α) (ρ' : Ev), xs = l ++ x :: r ∧ (∀ i y, l[i]? = some y → p ((l.take i).foldl step b) y = false) ∧ p (l.foldl step b) x = true ∧ forS g bd (xs.map enc) (E b a) = .rt (R (l.foldl step b) x) ρ') ∨
    ((∀ i y, xs[i]? = some y → p ((xs.take i).foldl step b) y = false) ∧ ∃ a', Jk a' ∧ forS g bd (xs.map enc) (E b a) = .nx (E (xs.foldl step b) a') ∧ P xs.length (xs.foldl step b))
  | P, [], b, a, ha, hb, _, _ => .inr ⟨fun i y h => by simp at h, a, ha, rfl, hb⟩
  | P, x :: xs, b, a, ha, hb, k, k2 => by
    cases hx : p b x with
    | true =>
      obtain ⟨ρ', h⟩ := k2 0 b x hb rfl hx
      refine .inl ⟨[], xs, x, ρ', rfl, fun i y h => by simp at h, hx, ?_⟩
      rw [List.map_cons]
      unfold forS
      rw [hp b a x ha]
      dsimp only
      rw [h]
      rfl
    | false =>
      obtain ⟨h1, h2⟩ := k 0 b x hb rfl hx
      have e : forS g bd ((x :: xs).map enc) (E b a) = forS g bd (xs.map enc) (E (step b x) (.fz (enc x))) := by
        rw [List.map_cons]
        conv => lhs; unfold forS
        rw [hp b a x ha]
        dsimp only
        rw [h1]
        rfl
      rw [e]
      rcases for_x enc E step p R hp (fun i => P (i + 1)) xs (step b x) (.fz (enc x)) .fz h2 (fun i b y hb hy => k (i + 1) b y hb hy) (fun i b y hb hy => k2 (i + 1) b y hb hy) with ⟨l, r, y, ρ', h3, h4, h5, h6⟩ | ⟨h3, a', h4, h5, h6⟩
      · refine .inl ⟨x :: l, r, y, ρ', by rw [h3]; rfl, fun i z h => ?_, h5, h6⟩
        cases i with
        | zero => simp at h; subst h; exact hx
        | succ i => exact h4 i z (by simpa using h)
      · refine .inr ⟨fun i z h => ?_, a', h4, h5, h6⟩
        cases i with
        | zero => simp at h; subst h; exact hx
        | succ i => exact h3 i z (by simpa using h)
/-- a list that grows by some -/
theorem foldl_snoc {γ δ : Type} (c : α → Bool) (f : α → γ) (h : α → δ) : ∀ (xs : List α) (acc : List γ) (o : δ), (xs.foldl (fun (b : List γ × δ) x => (if c x = true then b.1 ++ [f x] else b.1, h x)) (acc, o)).1 = acc ++ (xs.filter c).map f
  | [], acc, o => by simp
  | x :: xs, acc, o => by
    rw [List.foldl_cons, foldl_snoc c f h xs]
    cases e : c x with
    | true => rw [List.filter_cons_of_pos e]; simp
    | false => rw [List.filter_cons_of_neg (by rw [e]; decide)]; simp
end
/-- range(n) -/
theorem rng_nat {f : Ev → Out D} {ρ ρ1 : Ev} {n : Nat} (h : f ρ = .val (.int n) ρ1) (hn : n ≤ 1000000) : rng1F (consL f nilL) ρ = .val ((List.range n).map fun i : Nat => D.int (i : Int)) ρ1 := by
  have e : rangeD 0 ((n : Int)).toNat = (List.range n).map fun i : Nat => D.int (i : Int) := by
    unfold rangeD
    rw [show ((n : Int)).toNat = n by omega]
    refine List.map_congr_left fun i _ => ?_
    rw [Int.zero_add]
  have c : -(2 ^ 62) ≤ (n : Int) ∧ (n : Int) < 2 ^ 62 := ⟨by omega, by omega⟩
  have e2 : consL f nilL ρ = .val [.int n] ρ1 := by rw [e_consL, h]; rfl
  rw [e_rng1, e2, e_ob1]
  dsimp only
  rw [if_pos c, e]
/-- a loop's put at a name -/
theorem put_nm {i : Nat} {d : D} {ρ : Ev} (h : isRef ρ i = false) : Tg.put (.nm i) d ρ = some (ρ.set i (.fz d)) := by rw [e_putG, h]; rfl
theorem seq_step {a b : Ev → SOut} {ρ ρ1 : Ev} {o : SOut} (h : a ρ = .nx ρ1) (k : b ρ1 = o) : seqS a b ρ = o := by
  show thenS (a ρ) b = o
  rw [h]; exact k
theorem seq_stop {a b : Ev → SOut} {ρ ρ1 : Ev} {d : D} (h : a ρ = .rt d ρ1) : seqS a b ρ = .rt d ρ1 := by
  show thenS (a ρ) b = _
  rw [h]; rfl
theorem body_rt {n N : Nat} {f : Ev → SOut} {as ρ0 ρ : Ev} {d : D} (e : as ++ List.replicate (N - n) .un = ρ0) (h : f ρ0 = .rt d ρ) : bodyF n N f as = .val d (ρ.take n) := by
  unfold bodyF
  rw [e, h]
theorem body_nx {n N : Nat} {f : Ev → SOut} {as ρ0 ρ : Ev} (e : as ++ List.replicate (N - n) .un = ρ0) (h : f ρ0 = .nx ρ) : bodyF n N f as = .val .non (ρ.take n) := by
  unfold bodyF; rw [e, h]
theorem body_exc {n N : Nat} {f : Ev → SOut} {as ρ0 ρ : Ev} {c : Str} (e : as ++ List.replicate (N - n) .un = ρ0) (h : f ρ0 = .exc c ρ) : bodyF n N f as = .exc c (ρ.take n) := by
  unfold bodyF; rw [e, h]
theorem seq_exc {a b : Ev → SOut} {ρ ρ1 : Ev} {c : Str} (h : a ρ = .exc c ρ1) : seqS a b ρ = .exc c ρ1 := by
  unfold seqS; rw [h]; rfl
end DL
set_option Elab.async false
set_option linter.all false
set_option maxRecDepth 100000
set_option maxHeartbeats 4000000
namespace DL
open PySem PySem.Spec L2
section
variable {α β : Type} {ρ ρ1 : Ev} {c : Str} {b : Ev → SOut}
@[simp] theorem e_raiseS : raiseS c ρ = .exc c ρ := rfl
@[simp] theorem e_then4 : thenS (.exc c ρ) b = .exc c ρ := rfl
@[simp] theorem e_bind3 {k : α → Ev → SOut} : bindS (.exc c ρ : Out α) k = .exc c ρ := rfl
@[simp] theorem e_ob3 {k : α → Ev → Out β} : (Out.exc c ρ : Out α).bind k = .exc c ρ := rfl
@[simp] theorem e_om3 {k : α → β} : (Out.exc c ρ : Out α).map k = .exc c ρ := rfl
theorem tryK_nx {sb : Str → Option Bool} {i j : Nat} {fb : Ev → SOut} (h : fb ρ = .nx ρ1) : tryK sb i j fb ρ = .nx ρ1 := by unfold tryK; rw [h]
theorem tryK_rt {sb : Str → Option Bool} {i j : Nat} {fb : Ev → SOut} {d : D} (h : fb ρ = .rt d ρ1) : tryK sb i j fb ρ = .rt d ρ1 := by unfold tryK; rw [h]
theorem tryK_ex {sb : Str → Option Bool} {i j : Nat} {fb : Ev → SOut} (h : fb ρ = .exc c ρ1) (hs : sb c = some true) (hi : isRef ρ1 i = false) (hj : isRef ρ1 j = false) : tryK sb i j fb ρ = .nx ((ρ1.set j (.fz (.exc c))).set i .un) := by
  unfold tryK; rw [h]; dsimp only; rw [hs]; dsimp only; rw [hi, hj]; rfl
theorem tryO_nx {sb : Str → Option Bool} {fb g : Ev → SOut} (h : fb ρ = .nx ρ1) : tryO sb fb g ρ = .nx ρ1 := by unfold tryO; rw [h]
theorem tryO_ex {sb : Str → Option Bool} {fb g : Ev → SOut} {ρ2 : Ev} (h : fb ρ = .exc c ρ1) (hs : sb c = some true) (hg : g ρ1 = .nx ρ2) : tryO sb fb g ρ = .nx ρ2 := by
  unfold tryO; rw [h]; dsimp only; rw [hs]; dsimp only; rw [hg]
end
end DL
set_option Elab.async false
set_option linter.all false
set_option maxRecDepth 100000
set_option maxHeartbeats 4000000
namespace DL
open PySem PySem.Spec L2
mutual
/-- plain data: no dict, no truth, texts that may be laid; at most n deep -/
def Gd : Nat → D → Prop
  | _, .int _ => True
  | _, .non => True
  | _, .str z => PyData.strOk z = true
  | n + 1, .tup xs => GdL n xs
  | n + 1, .lst xs => GdL n xs
  | _, _ => False
def GdL : Nat → List D → Prop
  | _, [] => True
  | n, x :: xs => Gd n x ∧ GdL n xs
end
theorem GdL.of {n : Nat} : ∀ {xs : List D}, (∀ x ∈ xs, Gd n x) → GdL n xs
  | [], _ => by unfold GdL; trivial
  | x :: xs, h => by unfold GdL; exact ⟨h x (.head _), GdL.of fun y hy => h y (.tail _ hy)⟩
mutual
theorem Gd.py : ∀ {n : Nat} {d : D}, Gd n d → ∃ p, toPy d = some p ∧ p.canLay0 = true ∧ p.depth ≤ n
  | n, .int i, _ => ⟨.int i, by rw [toPy], by rw [PyData.canLay0], by rw [PyData.depth]; omega⟩
  | n, .non, _ => ⟨.none, by rw [toPy], by rw [PyData.canLay0], by rw [PyData.depth]; omega⟩
  | n, .str z, h => ⟨.str z, by rw [toPy], by rw [PyData.canLay0]; unfold Gd at h; exact h, by rw [PyData.depth]; omega⟩
  | n + 1, .tup xs, h => by
    unfold Gd at h
    obtain ⟨ps, h1, h2, h3⟩ := GdL.py h
    exact ⟨.tuple ps, by rw [toPy, h1]; rfl, by rw [PyData.canLay0]; exact h2, by rw [PyData.depth]; omega⟩
  | n + 1, .lst xs, h => by
    unfold Gd at h
    obtain ⟨ps, h1, h2, h3⟩ := GdL.py h
    exact ⟨.list ps, by rw [toPy, h1]; rfl, by rw [PyData.canLay0]; exact h2, by rw [PyData.depth]; omega⟩
  | 0, .tup xs, h => by unfold Gd at h; exact h.elim
  | 0, .lst xs, h => by unfold Gd at h; exact h.elim
  | _, .bl _, h => by unfold Gd at h; exact h.elim
  | _, .dic _, h => by unfold Gd at h; exact h.elim
  | _, .exc _, h => by unfold Gd at h; exact h.elim
  | _, .ol, h => by unfold Gd at h; exact h.elim
theorem GdL.py : ∀ {n : Nat} {xs : List D}, GdL n xs → ∃ ps, toPyL xs = some ps ∧ PyData.canLayAll0 ps = true ∧ PyData.depthAll ps ≤ n
  | n, [], _ => ⟨[], by rw [toPyL], by rw [PyData.canLayAll0], by rw [PyData.depthAll]; omega⟩
  | n, x :: xs, h => by
    unfold GdL at h
    obtain ⟨p, h1, h2, h3⟩ := Gd.py h.1
    obtain ⟨ps, h4, h5, h6⟩ := GdL.py h.2
    exact ⟨p :: ps, by rw [toPyL, h1, h4], by rw [PyData.canLayAll0, h2, h5]; rfl, by rw [PyData.depthAll]; omega⟩
end
mutual
theorem eqv_yes : ∀ {n : Nat} {d : D} {p : PyData}, Gd n d → toPy d = some p → PyData.eqv p p = true
  | _, .int i, p, _, e => by rw [toPy] at e; cases e; rw [PyData.eqv]; exact beq_self_eq_true _
  | _, .non, p, _, e => by rw [toPy] at e; cases e; rw [PyData.eqv]
  | _, .str z, p, _, e => by rw [toPy] at e; cases e; rw [PyData.eqv]; exact beq_self_eq_true _
  | n + 1, .tup xs, p, h, e => by
    unfold Gd at h
    obtain ⟨ps, h1, _⟩ := GdL.py h
    rw [toPy, h1] at e; cases e
    rw [PyData.eqv]; exact eqvAll_yes h h1
  | n + 1, .lst xs, p, h, e => by
    unfold Gd at h
    obtain ⟨ps, h1, _⟩ := GdL.py h
    rw [toPy, h1] at e; cases e
    rw [PyData.eqv]; exact eqvAll_yes h h1
  | 0, .tup xs, _, h, _ => by unfold Gd at h; exact h.elim
  | 0, .lst xs, _, h, _ => by unfold Gd at h; exact h.elim
  | _, .bl _, _, h, _ => by unfold Gd at h; exact h.elim
  | _, .dic _, _, h, _ => by unfold Gd at h; exact h.elim
  | _, .exc _, _, h, _ => by unfold Gd at h; exact h.elim
  | _, .ol, _, h, _ => by unfold Gd at h; exact h.elim
theorem eqvAll_yes : ∀ {n : Nat} {xs : List D} {ps : List PyData}, GdL n xs → toPyL xs = some ps → PyData.eqvAll ps ps = true
  | _, [], ps, _, e => by rw [toPyL] at e; cases e; rw [PyData.eqvAll]
  | n, x :: xs, ps, h, e => by
    unfold GdL at h
    obtain ⟨a, s, e1, e2, rfl⟩ := toPyL_cons e
    rw [PyData.eqvAll, eqv_yes h.1 e1, eqvAll_yes h.2 e2]; rfl
end
mutual
theorem eqv_same : ∀ {n m : Nat} {d d' : D} {p p' : PyData}, Gd n d → Gd m d' → toPy d = some p → toPy d' = some p' → PyData.eqv p p' = true → d = d'
  | n, m, d, d', p, p', h, h', e, e', q => by
    cases d with
    | bl b => unfold Gd at h; exact h.elim
    | dic b => unfold Gd at h; exact h.elim
    | exc b => unfold Gd at h; exact h.elim
    | ol => unfold Gd at h; exact h.elim
    | odd _ => unfold Gd at h; exact h.elim
    | int i =>
      rw [toPy] at e; cases e
      cases d' with
      | bl b => unfold Gd at h'; exact h'.elim
      | dic b => unfold Gd at h'; exact h'.elim
      | exc b => unfold Gd at h'; exact h'.elim
      | ol => unfold Gd at h'; exact h'.elim
      | odd _ => unfold Gd at h'; exact h'.elim
      | int j => rw [toPy] at e'; cases e'; rw [PyData.eqv] at q; rw [eq_of_beq q]
      | non => rw [toPy] at e'; cases e'; rw [PyData.eqv] at q; cases q
      | str z => rw [toPy] at e'; cases e'; rw [PyData.eqv] at q; cases q
      | tup xs => rw [toPy] at e'; obtain ⟨ps, _, rfl⟩ := Option.map_eq_some_iff.mp e'; rw [PyData.eqv] at q; cases q
      | lst xs => rw [toPy] at e'; obtain ⟨ps, _, rfl⟩ := Option.map_eq_some_iff.mp e'; rw [PyData.eqv] at q; cases q
    | non =>
      rw [toPy] at e; cases e
      cases d' with
      | bl b => unfold Gd at h'; exact h'.elim
      | dic b => unfold Gd at h'; exact h'.elim
      | exc b => unfold Gd at h'; exact h'.elim
      | ol => unfold Gd at h'; exact h'.elim
      | odd _ => unfold Gd at h'; exact h'.elim
      | int j => rw [toPy] at e'; cases e'; rw [PyData.eqv] at q; cases q
      | non => rfl
      | str z => rw [toPy] at e'; cases e'; rw [PyData.eqv] at q; cases q
      | tup xs => rw [toPy] at e'; obtain ⟨ps, _, rfl⟩ := Option.map_eq_some_iff.mp e'; rw [PyData.eqv] at q; cases q
      | lst xs => rw [toPy] at e'; obtain ⟨ps, _, rfl⟩ := Option.map_eq_some_iff.mp e'; rw [PyData.eqv] at q; cases q
    | str y =>
      rw [toPy] at e; cases e
      cases d' with
      | bl b => unfold Gd at h'; exact h'.elim
      | dic b => unfold Gd at h'; exact h'.elim
      | exc b => unfold Gd at h'; exact h'.elim
      | ol => unfold Gd at h'; exact h'.elim
      | odd _ => unfold Gd at h'; exact h'.elim
      | int j => rw [toPy] at e'; cases e'; rw [PyData.eqv] at q; cases q
      | non => rw [toPy] at e'; cases e'; rw [PyData.eqv] at q; cases q
      | str z => rw [toPy] at e'; cases e'; rw [PyData.eqv] at q; rw [eq_of_beq q]
      | tup xs => rw [toPy] at e'; obtain ⟨ps, _, rfl⟩ := Option.map_eq_some_iff.mp e'; rw [PyData.eqv] at q; cases q
      | lst xs => rw [toPy] at e'; obtain ⟨ps, _, rfl⟩ := Option.map_eq_some_iff.mp e'; rw [PyData.eqv] at q; cases q
    | tup xs =>
      cases n with
      | zero => unfold Gd at h; exact h.elim
      | succ n =>
      rw [toPy] at e; obtain ⟨ps, e1, rfl⟩ := Option.map_eq_some_iff.mp e
      cases d' with
      | bl b => unfold Gd at h'; exact h'.elim
      | dic b => unfold Gd at h'; exact h'.elim
      | exc b => unfold Gd at h'; exact h'.elim
      | ol => unfold Gd at h'; exact h'.elim
      | odd _ => unfold Gd at h'; exact h'.elim
      | int j => rw [toPy] at e'; cases e'; rw [PyData.eqv] at q; cases q
      | non => rw [toPy] at e'; cases e'; rw [PyData.eqv] at q; cases q
      | str z => rw [toPy] at e'; cases e'; rw [PyData.eqv] at q; cases q
      | tup ys =>
        cases m with
        | zero => unfold Gd at h'; exact h'.elim
        | succ m =>
        rw [toPy] at e'; obtain ⟨ps', e2, rfl⟩ := Option.map_eq_some_iff.mp e'
        rw [PyData.eqv] at q
        unfold Gd at h h'
        rw [eqvAll_same h h' e1 e2 q]
      | lst ys => rw [toPy] at e'; obtain ⟨ps', _, rfl⟩ := Option.map_eq_some_iff.mp e'; rw [PyData.eqv] at q; cases q
    | lst xs =>
      cases n with
      | zero => unfold Gd at h; exact h.elim
      | succ n =>
      rw [toPy] at e; obtain ⟨ps, e1, rfl⟩ := Option.map_eq_some_iff.mp e
      cases d' with
      | bl b => unfold Gd at h'; exact h'.elim
      | dic b => unfold Gd at h'; exact h'.elim
      | exc b => unfold Gd at h'; exact h'.elim
      | ol => unfold Gd at h'; exact h'.elim
      | odd _ => unfold Gd at h'; exact h'.elim
      | int j => rw [toPy] at e'; cases e'; rw [PyData.eqv] at q; cases q
      | non => rw [toPy] at e'; cases e'; rw [PyData.eqv] at q; cases q
      | str z => rw [toPy] at e'; cases e'; rw [PyData.eqv] at q; cases q
      | lst ys =>
        cases m with
        | zero => unfold Gd at h'; exact h'.elim
        | succ m =>
        rw [toPy] at e'; obtain ⟨ps', e2, rfl⟩ := Option.map_eq_some_iff.mp e'
        rw [PyData.eqv] at q
        unfold Gd at h h'
        rw [eqvAll_same h h' e1 e2 q]
      | tup ys => rw [toPy] at e'; obtain ⟨ps', _, rfl⟩ := Option.map_eq_some_iff.mp e'; rw [PyData.eqv] at q; cases q
theorem eqvAll_same : ∀ {n m : Nat} {xs ys : List D} {ps qs : List PyData}, GdL n xs → GdL m ys → toPyL xs = some ps → toPyL ys = some qs → PyData.eqvAll ps qs = true → xs = ys
  | _, _, [], [], _, _, _, _, _, _, _ => rfl
  | _, _, [], y :: ys, ps, qs, _, _, e, e', q => by
    obtain ⟨a, s, _, _, rfl⟩ := toPyL_cons e'
    rw [toPyL] at e; cases e
    rw [PyData.eqvAll] at q; cases q
  | _, _, x :: xs, [], ps, qs, _, _, e, e', q => by
    obtain ⟨a, s, _, _, rfl⟩ := toPyL_cons e
    rw [toPyL] at e'; cases e'
    rw [PyData.eqvAll] at q; cases q
  | n, m, x :: xs, y :: ys, ps, qs, h, h', e, e', q => by
    unfold GdL at h h'
    obtain ⟨a, s, e1, e2, rfl⟩ := toPyL_cons e
    obtain ⟨a', s', e3, e4, rfl⟩ := toPyL_cons e'
    rw [PyData.eqvAll, Bool.and_eq_true] at q
    rw [eqv_same h.1 h'.1 e1 e3 q.1, eqvAll_same h.2 h'.2 e2 e4 q.2]
end
theorem eqP_gd {n m : Nat} {a b : D} (ha : Gd n a) (hb : Gd m b) (hn : n ≤ 60) (hm : m ≤ 60) : ∃ k, eqP a b = some (.bl k) ∧ (k = true ↔ a = b) := by
  obtain ⟨p, h1, h2, h3⟩ := ha.py
  obtain ⟨q, g1, g2, g3⟩ := hb.py
  have s1 : SeqAt.shaped p = true := by unfold SeqAt.shaped; rw [h2, decide_eq_true (by omega)]; rfl
  have s2 : SeqAt.shaped q = true := by unfold SeqAt.shaped; rw [g2, decide_eq_true (by omega)]; rfl
  refine ⟨PyData.eqv p q, ?_, fun h => eqv_same ha hb h1 g1 h, fun h => ?_⟩
  · unfold eqP; rw [h1, g1]; dsimp only; rw [if_pos ⟨s1, s2⟩]
  · subst h; rw [h1] at g1; cases g1; exact eqv_yes ha h1
theorem eq_gd {n m : Nat} {a b : D} (ha : Gd n a) (hb : Gd m b) (hn : n ≤ 60) (hm : m ≤ 60) : ∃ k, eqO a b = some (.bl k) ∧ neO a b = some (.bl !k) ∧ (k = true ↔ a = b) := by
  obtain ⟨k, h, hk⟩ := eqP_gd ha hb hn hm
  cases e : eqS a b with
  | none =>
    refine ⟨k, (orO2 e).trans h, (orO2 (notO2 e)).trans (notO1 h), hk⟩
  | some d =>
    have : ∃ c, d = .bl c ∧ (c = true ↔ a = b) := by
      unfold eqS at e
      split at e <;> first
        | (cases e; done)
        | (cases e; exact ⟨_, rfl, by simp⟩)
    obtain ⟨c, rfl, hc⟩ := this
    exact ⟨c, orO1 e, orO1 (notO1 e), hc⟩
theorem eq_yes {n : Nat} {a : D} (ha : Gd n a) (hn : n ≤ 60) : eqO a a = some (.bl true) := by
  obtain ⟨k, h1, _, h2⟩ := eq_gd ha ha hn hn
  rw [h1, h2.mpr rfl]
theorem ne_yes {n : Nat} {a : D} (ha : Gd n a) (hn : n ≤ 60) : neO a a = some (.bl false) := by
  obtain ⟨k, _, h1, h2⟩ := eq_gd ha ha hn hn
  rw [h1, h2.mpr rfl]; rfl
theorem eq_dec {n m : Nat} {a b : D} (ha : Gd n a) (hb : Gd m b) (hn : n ≤ 60) (hm : m ≤ 60) {p : Prop} [Decidable p] (hp : a = b ↔ p) : eqO a b = some (.bl (decide p)) := by
  obtain ⟨k, h1, _, h2⟩ := eq_gd ha hb hn hm
  rw [h1]; congr 2
  rw [Bool.eq_iff_iff, h2, hp, decide_eq_true_iff]
theorem ne_dec {n m : Nat} {a b : D} (ha : Gd n a) (hb : Gd m b) (hn : n ≤ 60) (hm : m ≤ 60) {p : Prop} [Decidable p] (hp : a = b ↔ p) : neO a b = some (.bl (!decide p)) := by
  obtain ⟨k, _, h1, h2⟩ := eq_gd ha hb hn hm
  rw [h1]; congr 3
  rw [Bool.eq_iff_iff, h2, hp, decide_eq_true_iff]
/-! ### what is plain -/
theorem Gd.int {n : Nat} {i : Int} : Gd n (.int i) := by unfold Gd; trivial
theorem Gd.non {n : Nat} : Gd n .non := by unfold Gd; trivial
theorem Gd.str {n : Nat} {z : Str} (h : Plain z) : Gd n (.str z) := by unfold Gd; exact h
theorem Gd.tup {n : Nat} {xs : List D} (h : ∀ x ∈ xs, Gd n x) : Gd (n + 1) (.tup xs) := by unfold Gd; exact GdL.of h
theorem Gd.lst {n : Nat} {xs : List D} (h : ∀ x ∈ xs, Gd n x) : Gd (n + 1) (.lst xs) := by unfold Gd; exact GdL.of h
theorem Gd.two {n : Nat} {x y : D} (h : Gd n x) (h' : Gd n y) : Gd (n + 1) (.tup [x, y]) := Gd.tup fun z hz => by
  rcases List.mem_cons.mp hz with rfl | hz
  · exact h
  · rw [List.mem_singleton] at hz; subst hz; exact h'
end DL
set_option Elab.async false
set_option linter.all false
set_option maxRecDepth 100000
set_option maxHeartbeats 4000000
namespace Wk
open PySem PySem.Spec L2 DL
abbrev lstS (l : List Str) : D := .lst (l.map D.str)
theorem nodup_len : ∀ {l U : List Str}, l.Nodup → (∀ x ∈ l, x ∈ U) → l.length ≤ U.length
  | [], U, _, _ => Nat.zero_le _
  | a :: l, U, nd, h => by
    have h1 := h a (.head _)
    rw [List.nodup_cons] at nd
    have := nodup_len (l := l) (U := U.erase a) nd.2 fun x hx => (List.mem_erase_of_ne (by rintro rfl; exact nd.1 hx)).mpr (h x (.tail _ hx))
    rw [List.length_erase_of_mem h1] at this
    have := List.length_pos_of_mem h1
    rw [List.length_cons]; omega
theorem goodsB_len {b : List (Str × Way)} (hb : Book b) : (goodsB b).length ≤ 36 := by
  have h1 := srtSet_len (goodsL b)
  have h2 := goodsL_len hb.way
  have h3 := hb.hi
  unfold goodsB; omega
theorem goodsB_wd {b : List (Str × Way)} (hb : Book b) {z : Str} (h : z ∈ goodsB b) : Wd z := goodsL_wd hb.way z (goodsB_mem.mp h)
theorem sk_book (b : List (Str × Way)) : skD (bookD b) = some (.l ((nmsB b).map D.str)) := skD_kvs b
theorem putA_mem2 {α : Type} {ps : List (Str × α)} {z : Str} {a : α} {p : Str × α} (h : p ∈ putA ps z a) : p = (z, a) ∨ (p ∈ ps ∧ p.1 ≠ z) := by
  unfold putA at h
  split at h
  · obtain ⟨q, hq, rfl⟩ := List.mem_map.mp h
    by_cases e : q.1 = z
    · rw [if_pos e, e]; exact .inl rfl
    · rw [if_neg e]; exact .inr ⟨hq, e⟩
  · rename_i n
    rcases List.mem_append.mp h with h | h
    · exact .inr ⟨h, fun e => n (List.mem_map.mpr ⟨_, h, e⟩)⟩
    · exact .inl (List.mem_singleton.mp h)
theorem putA_keep {α : Type} {ps : List (Str × α)} {z : Str} {a : α} (h : z ∈ ps.map (·.1)) : (putA ps z a).map (·.1) = ps.map (·.1) := by rw [putA_keys, if_pos h]
theorem goodsB_nd (b : List (Str × Way)) : (goodsB b).Nodup := srtSet_nodup _
theorem srt_goods (b : List (Str × Way)) : DLS.srt (goodsB b) = goodsB b := srt_idem _
theorem take_new {L : List Str} (nd : L.Nodup) {j : Nat} {z : Str} (h : L[j]? = some z) : z ∉ L.take j := by
  intro hm
  obtain ⟨i, hi, he⟩ := List.getElem_of_mem hm
  rw [List.length_take] at hi
  rw [List.getElem_take] at he
  obtain ⟨hj', hz'⟩ := List.getElem?_eq_some_iff.mp h
  have := (List.getElem_inj nd).mp (he.trans hz'.symm)
  omega
theorem str_at {xs : List Str} {j : Nat} {d : D} (hd : (xs.map D.str)[j]? = some d) : ∃ z, xs[j]? = some z ∧ z ∈ xs ∧ d = .str z := by
  rw [List.getElem?_map] at hd
  cases e : xs[j]? with
  | none => rw [e] at hd; cases hd
  | some z => rw [e] at hd; exact ⟨z, rfl, List.mem_of_getElem? e, (Option.some.inj hd).symm⟩
theorem pair_at {xs : List (Str × Int)} {j : Nat} {d : D} (hd : (xs.map pD)[j]? = some d) : ∃ p, xs[j]? = some p ∧ p ∈ xs ∧ d = pD p := by
  rw [List.getElem?_map] at hd
  cases e : xs[j]? with
  | none => rw [e] at hd; cases hd
  | some z => rw [e] at hd; exact ⟨z, rfl, List.mem_of_getElem? e, (Option.some.inj hd).symm⟩
theorem pairs_kvs {α : Type} {enc : α → D} : ∀ s : List (Str × α), pairsD (s.map fun p => .tup [.str p.1, enc p.2]) = some (kvsD enc s)
  | [] => rfl
  | p :: s => by rw [List.map_cons, pairsD, pairs_kvs s]; rfl
theorem dict_kvs {α : Type} {enc : α → D} {s : List (Str × α)} (nd : (s.map (·.1)).Nodup) : dictD (.lst (s.map fun p => .tup [.str p.1, enc p.2])) = some (.d (kvsD enc s)) := by
  show (pairsD _).map _ = _
  rw [pairs_kvs]
  have := merge_kvs (enc := enc) s [] (by simpa using nd)
  rw [List.nil_append] at this
  exact congrArg (fun x => some (OD.d x)) this
theorem lraws_ok {rs : List Str} (h : Raws rs) : ∃ as, F_look_raws [.fz (lstS rs)] = .val .non as := by
  have hl := h.len
  have hs : sizeLine = 16777216 := sizeLine_eq
  have hlc := lc_pure (g := .nm 1) (tt := yesF) (te := callF 1 F_is_word (datA (varE 1) nilA)) (vs := [1]) (ρ := [.fz (lstS rs), .un]) (fun _ => true) (fun _ => .bl true) (rs.map D.str) [] (by simp; omega)
    (fun d hd => by
      obtain ⟨z, hz, rfl⟩ := List.mem_map.mp hd
      obtain ⟨as, hw⟩ := word_ok (h.wd z hz)
      refine ⟨[.fz (lstS rs), .fz (.str z)], ?_⟩
      simp [hw])
  rw [List.nil_append, List.filter_eq_self.mpr (fun _ _ => rfl), List.map_map] at hlc
  have ha : allD (.lst (rs.map ((fun _ => D.bl true) ∘ D.str))) = some (.bl true) := all_map fun _ _ => rfl
  have hss := sortSet_strs rs (by omega)
  rw [h.fix] at hss
  have hne := ne_strs rs rs (fun z hz => (h.wd z hz).plain) (fun z hz => (h.wd z hz).plain)
  have hgt : ¬ (20 : Int) < rs.length := by omega
  refine ⟨[.fz (lstS rs)], ?_⟩
  simp [F_look_raws, s_look_raws, hgt, hlc, ha, hss, hne, -List.map_map, -List.map_const_fun]
theorem nms_wd {b : List (Str × Way)} (hb : Book b) {z : Str} (h : z ∈ nmsB b) : Wd z := by
  obtain ⟨w, hm⟩ := nms_way h
  exact hb.wd _ hm
theorem pl_sub {xs ys : List Str} (h : ∀ y ∈ ys, Wd y) (s : ∀ x ∈ xs, x ∈ ys) : ∀ x ∈ xs, Plain x := fun x hx => (h x (s x hx)).plain
theorem names_nd {b : List (Str × Way)} (hb : Book b) : (nmsB b).Nodup := (DLS.srt_perm _).nodup_iff.mpr hb.nd
end Wk
set_option Elab.async false
set_option linter.all false
set_option maxRecDepth 100000
set_option maxHeartbeats 4000000
namespace Wk
open PySem PySem.Spec L2 DL
theorem frq_inj {p q : Rat} : frq p = frq q ↔ p = q := by
  constructor
  · intro h
    simp only [frq, D.tup.injEq, List.cons.injEq, D.int.injEq, and_true] at h
    obtain ⟨h1, h2⟩ := h
    exact Rat.ext h1 (by omega)
  · rintro rfl; rfl
theorem gd_frq (q : Rat) : Gd 1 (frq q) := Gd.two .int .int
theorem eq_frq (p q : Rat) : eqO (frq p) (frq q) = some (.bl (decide (p = q))) := eq_dec (gd_frq p) (gd_frq q) (by decide) (by decide) frq_inj
theorem ne_frq (p q : Rat) : neO (frq p) (frq q) = some (.bl (!decide (p = q))) := ne_dec (gd_frq p) (gd_frq q) (by decide) (by decide) frq_inj
theorem rq_self (q : Rat) : rq q.num q.den = q := Rat.num_divInt_den q
theorem told_ok {q : Rat} (h0 : 0 ≤ q) (hs : Sz 120 q) : ∃ as, F_is_told [.fz (frq q)] = .val (.bl true) as := by
  have hn : 0 ≤ q.num := Rat.num_nonneg.mpr h0
  have hd : (0 : Int) < q.den := by have := q.den_pos; omega
  obtain ⟨as, hl⟩ := least_ok q.num q.den hd (by have := hs.de; omega)
  rw [rq_self] at hl
  have he := eq_frq q q
  rw [decide_eq_true rfl] at he
  have ha : allD (.lst [.bl true, .bl true]) = some (.bl true) := rfl
  refine ⟨[.fz (frq q)], ?_⟩
  have hd0 : (0 : Int) ≤ q.den := by omega
  unfold frq at hl he ⊢
  clear hs
  generalize (q.den : Int) = m at *
  generalize q.num = n at *
  simp [F_is_told, s_is_told, lcLoop, hn, hd, hd0, hl, he, ha, sizeLine_eq]
structure PlanP (b : List (Str × Way)) (ps : List (Str × Rat)) (k l : Nat) : Prop extends Plan b ps k l where
  pos : ∀ p ∈ ps, 0 ≤ p.2
theorem srt_perm_eq {xs ys : List Str} (h : xs.Perm ys) : DLS.srt xs = DLS.srt ys := DLS.srt_unique ((DLS.srt_perm xs).trans h) (DLS.srt_up xs)
theorem plan_look {b : List (Str × Way)} {ps : List (Str × Rat)} {k l : Nat} (hb : Book b) (hp : PlanP b ps k l) (hk : k ≤ 120) (hl : l ≤ 120) : ∃ as, F_look_plan [.fz (bookD b), .fz (planD ps)] = .val .non as := by
  have hb6 := hb.hi
  have hlen : ps.length = b.length := by rw [← List.length_map (f := fun p : Str × Rat => p.1) (as := ps), ← List.length_map (f := fun p : Str × Way => p.1) (as := b), hp.nm.length_eq]
  have nd : (ps.map (·.1)).Nodup := hp.nm.nodup_iff.mpr hb.nd
  obtain ⟨a0, hw0⟩ := ways_ok b
  have l1 := lc_m (g := .nm 2) (te := unF (isiD "str") (varR 2)) (vs := [2]) (ρ := [.fz (bookD b), .fz (planD ps), .un]) D.str (fun _ => .bl true) (ps.map (·.1)) (by rw [List.length_map, sizeLine_eq]; omega)
    (fun x hx => ⟨[.fz (bookD b), .fz (planD ps), .fz (.str x)], by simp, by simp, by simp, by simp⟩)
  have l2 := lc_m (g := .nm 2) (te := callF 1 F_is_told (datA (binF ixO (varR 1) (varR 2)) (nilA))) (vs := [2]) (ρ := [.fz (bookD b), .fz (planD ps), .un]) D.str (fun _ => .bl true) (ps.map (·.1)) (by rw [List.length_map, sizeLine_eq]; omega)
    (fun x hx => by
      obtain ⟨p, hp1, rfl⟩ := List.mem_map.mp hx
      obtain ⟨a1, h1⟩ := told_ok (hp.pos p hp1) ((hp.sb p hp1).sz hk hl)
      have h2 : ixO (planD ps) (.str p.1) = some (frq p.2) := by show valD (kvsD frq ps) (.inr p.1) = _; exact valD_kvs nd (a := p.2) hp1
      refine ⟨[.fz (bookD b), .fz (planD ps), .fz (.str p.1)], by simp, ?_, by simp, by simp⟩
      generalize planD ps = P at h2 ⊢
      generalize frq p.2 = f at h1 h2
      simp [h2, h1])
  have e1 : ∀ xs : List Str, allD (.lst (xs.map fun _ => .bl true)) = some (.bl true) := fun xs => all_map fun _ _ => rfl
  have e2 := skD_kvs (enc := frq) ps
  have e3 : DLS.srt (ps.map (·.1)) = nmsB b := srt_perm_eq hp.nm
  rw [e3] at e2
  have e4 : neO (.lst ((nmsB b).map D.str)) (.lst ((nmsB b).map D.str)) = some (.bl false) := by
    have hpl : ∀ x ∈ nmsB b, Plain x := fun x hx => by
      obtain ⟨w, hm⟩ := nms_way hx
      exact (hb.wd _ hm).plain
    have := ne_strs (nmsB b) (nmsB b) hpl hpl
    rw [this, decide_eq_true rfl]; rfl
  have e5 : isiD "dict" (planD ps) = some (.bl true) := rfl
  have e6 : keysF (varE 1) [.fz (bookD b), .fz (planD ps), .un] = .val ((ps.map (·.1)).map D.str) [.fz (bookD b), .fz (planD ps), .un] := by
    simp [keys_kvs, -List.map_map]
  have e2' : skD (planD ps) = some (.l ((nmsB b).map D.str)) := e2
  refine ⟨[.fz (bookD b), .fz (planD ps)], ?_⟩
  generalize bookD b = B at *
  generalize planD ps = P at *
  generalize (ps.map (·.1)) = Z at *
  generalize (nmsB b).map D.str = N at *
  generalize Z.map D.str = ZD at *
  generalize hM : Z.map (fun _ => D.bl true) = M at *
  have e1' : allD (.lst M) = some (.bl true) := by rw [← hM]; exact e1 Z
  simp [F_look_plan, s_look_plan, e5, e6, l1, l2, e1', e2', e4, hw0, -e_keysF]
end Wk
set_option Elab.async false
set_option linter.all false
set_option maxRecDepth 100000
set_option maxHeartbeats 4000000
namespace Wk
open PySem PySem.Spec L2 DL
/-- a rate that may be handed in -/
structure Rt (q : Rat) : Prop where
  lo : 0 ≤ q.num
  hi : q.num ≤ 1000000
  den : q.den ≤ 1000
theorem Rt.sb {q : Rat} (h : Rt q) : Sb 20 10 q := ⟨by have := h.lo; have := h.hi; omega, by have := h.den; omega⟩
theorem fraction_ok {q : Rat} (h : Rt q) : ∃ as, F_is_fraction [.fz (frq q)] = .val (.bl true) as := by
  have h1 := h.lo
  have h2 := h.hi
  have h3 : (q.den : Int) ≤ 1000 := by have := h.den; omega
  have h4 : (1 : Int) ≤ q.den := by have := q.den_pos; omega
  obtain ⟨as, hl⟩ := divisor_ok q.num q.den (by omega) (by omega)
  have hg : Int.gcd q.num q.den = 1 := q.reduced
  rw [hg] at hl
  have ha : allD (.lst [.bl true, .bl true]) = some (.bl true) := rfl
  refine ⟨[.fz (frq q)], ?_⟩
  unfold frq
  clear hg h
  generalize (q.den : Int) = m at *
  generalize q.num = n at *
  simp [F_is_fraction, s_is_fraction, lcLoop, h1, h2, h3, h4, hl, ha, sizeLine_eq]
structure Wants (ws : List (Str × Rat)) : Prop where
  hi : ws.length ≤ 6
  nd : (ws.map (·.1)).Nodup
  wd : ∀ p ∈ ws, Wd p.1
  rt : ∀ p ∈ ws, Rt p.2
theorem Wants.nil : Wants [] := ⟨by decide, by simp, by simp, by simp⟩
theorem wants_look {ws : List (Str × Rat)} (h : Wants ws) : ∃ as, F_look_wants [.fz (planD ws)] = .val .non as := by
  have h6 := h.hi
  have l1 := lc_m (g := .nm 1) (te := andE (callF 1 F_is_word (datA (varE 1) (nilA))) (callF 1 F_is_fraction (datA (binF ixO (varR 0) (varR 1)) (nilA)))) (vs := [1]) (ρ := [.fz (planD ws), .un]) D.str (fun _ => .bl true) (ws.map (·.1)) (by rw [List.length_map, sizeLine_eq]; omega)
    (fun x hx => by
      obtain ⟨p, hp1, rfl⟩ := List.mem_map.mp hx
      obtain ⟨a1, h1⟩ := fraction_ok (h.rt p hp1)
      obtain ⟨a3, h3⟩ := word_ok (h.wd p hp1)
      have h2 : ixO (planD ws) (.str p.1) = some (frq p.2) := by show valD (kvsD frq ws) (.inr p.1) = _; exact valD_kvs h.nd (a := p.2) hp1
      refine ⟨[.fz (planD ws), .fz (.str p.1)], by simp, ?_, by simp, by simp⟩
      generalize planD ws = P at h2 ⊢
      generalize frq p.2 = f at h1 h2
      simp [h2, h1, h3])
  have e1 : ∀ xs : List Str, allD (.lst (xs.map fun _ => .bl true)) = some (.bl true) := fun xs => all_map fun _ _ => rfl
  have e5 : isiD "dict" (planD ws) = some (.bl true) := rfl
  have e7 : lenD (planD ws) = some (.int ws.length) := by show some (D.int _) = _; rw [kvsD_length]
  have e6 : keysF (varE 0) [.fz (planD ws), .un] = .val ((ws.map (·.1)).map D.str) [.fz (planD ws), .un] := by
    simp [keys_kvs, -List.map_map]
  have hl : ¬ ((6 : Int) < ws.length) := by omega
  refine ⟨[.fz (planD ws)], ?_⟩
  generalize planD ws = P at *
  generalize (ws.map (·.1)) = Z at *
  generalize Z.map D.str = ZD at *
  generalize hM : Z.map (fun _ => D.bl true) = M at *
  have e1' : allD (.lst M) = some (.bl true) := by rw [← hM]; exact e1 Z
  simp [F_look_wants, s_look_wants, e5, e6, e7, l1, e1', hl, -e_keysF]
theorem all_look {b : List (Str × Way)} {rs : List Str} {ws : List (Str × Rat)} (hb : Book b) (hr : Raws rs) (hw : Wants ws) : ∃ as, F_look_all [.fz (bookD b), .fz (lstS rs), .fz (planD ws)] = .val .non as := by
  obtain ⟨a1, h1⟩ := look_ok hb
  obtain ⟨a2, h2⟩ := lraws_ok hr
  obtain ⟨a3, h3⟩ := wants_look hw
  refine ⟨[.fz (bookD b), .fz (lstS rs), .fz (planD ws)], ?_⟩
  generalize bookD b = B at *
  generalize planD ws = P at *
  generalize lstS rs = R at *
  simp [F_look_all, s_look_all, h1, h2, h3]
/-- rates, as told -/
abbrev ratesD (xs : List (Str × Rat)) : D := .lst (xs.map fun p => .tup [.str p.1, frq p.2])
def ratesB (b : List (Str × Way)) (ps : List (Str × Rat)) : List (Str × Rat) := (goodsB b).map fun x => (x, rate b ps x)
theorem rates_ok {b : List (Str × Way)} {ps : List (Str × Rat)} {k l : Nat} (hb : Book b) (hp : PlanP b ps k l) (hk : k + 7 * l + 30 ≤ 130) : ∃ as, F_rates [.fz (bookD b), .fz (planD ps)] = .val (ratesD (ratesB b ps)) as := by
  obtain ⟨a1, h1⟩ := look_ok hb
  obtain ⟨a2, h2⟩ := plan_look hb hp (by omega) (by omega)
  obtain ⟨a3, h3⟩ := allgoods_ok hb
  have hz := goodsB_len hb
  have l1 := lc_m (g := .nm 2) (te := tupE (consL (varE 2) (consL (callF 3 F_rate_of (datA (varE 0) (datA (varE 1) (datA (varE 2) (nilA))))) (nilL)))) (vs := [2]) (ρ := [.fz (bookD b), .fz (planD ps), .un]) D.str (fun x => .tup [.str x, frq (rate b ps x)]) (goodsB b) (by rw [sizeLine_eq]; omega)
    (fun x hx => by
      obtain ⟨a4, h4⟩ := rate_ok hb hp.toPlan hk x
      refine ⟨[.fz (bookD b), .fz (planD ps), .fz (.str x)], by simp, ?_, by simp, by simp⟩
      generalize frq (rate b ps x) = f at h4 ⊢
      generalize planD ps = P at h4 ⊢
      generalize bookD b = B at h4 ⊢
      simp [h4, sizeLine_eq])
  refine ⟨[.fz (bookD b), .fz (planD ps)], ?_⟩
  have e : (ratesB b ps).map (fun p => D.tup [.str p.1, frq p.2]) = (goodsB b).map (fun x => D.tup [.str x, frq (rate b ps x)]) := by unfold ratesB; rw [List.map_map]; rfl
  unfold ratesD
  rw [e]
  generalize planD ps = P at *
  generalize bookD b = B at *
  generalize (goodsB b).map (fun x => D.tup [.str x, frq (rate b ps x)]) = M at *
  generalize (goodsB b).map D.str = N at *
  simp [F_rates, s_rates, h1, h2, h3, l1]
theorem power_ok {b : List (Str × Way)} {ps : List (Str × Rat)} {k l : Nat} (hb : Book b) (hp : PlanP b ps k l) (hk : k + 7 * l + 30 ≤ 130) : ∃ as, F_power [.fz (bookD b), .fz (planD ps)] = .val (frq (powr b ps)) as := by
  obtain ⟨a1, h1⟩ := look_ok hb
  obtain ⟨a2, h2⟩ := plan_look hb hp (by omega) (by omega)
  obtain ⟨a3, h3⟩ := power_of_ok hb hp.toPlan hk
  refine ⟨[.fz (bookD b), .fz (planD ps)], ?_⟩
  generalize planD ps = P at *
  generalize bookD b = B at *
  generalize frq (powr b ps) = f at *
  simp [F_power, s_power, h1, h2, h3]
end Wk
set_option Elab.async false
set_option linter.all false
set_option maxRecDepth 100000
set_option maxHeartbeats 4000000
namespace Wk
open PySem PySem.Spec L2 DL
def ceilQ (q : Rat) : Int := 0 - (0 - q.num) / (q.den : Int)
theorem upwards_ok {q : Rat} (hs : Sz 120 q) : ∃ as, F_upwards [.fz (frq q)] = .val (.int (ceilQ q)) as := by
  have h0 : (0 : Int) < q.den := by have := q.den_pos; omega
  have hd := fdiv_ok (i := 0 - q.num) h0 (by have := hs.de; omega)
  refine ⟨[.fz (frq q)], ?_⟩
  unfold frq ceilQ
  clear hs
  generalize (q.den : Int) = m at *
  generalize q.num = n at *
  have hd' : fdivI (.int (-n)) (.int m) = some (.int ((-n) / m)) := by rw [show (-n : Int) = 0 - n by omega]; exact hd
  simp [F_upwards, s_upwards, hd']
def tickO (b : List (Str × Way)) (z : Str) : Int := match findA b z with | some w => w.ticks | none => 0
theorem tickO_at {b : List (Str × Way)} (hb : Book b) {z : Str} {w : Way} (hm : (z, w) ∈ b) : tickO b z = w.ticks := by unfold tickO; rw [findA_of hb.nd hm]
def worksB (b : List (Str × Way)) (ps : List (Str × Rat)) : List (Str × Int) := (nmsB b).map fun z => (z, ceilQ (pq ps z * (tickO b z : Rat)))
theorem map_fst {α : Type} (xs : List Str) (f : Str → α) : (xs.map fun x => (x, f x)).map (·.1) = xs := by rw [List.map_map]; exact List.map_id _
theorem works_ok {b : List (Str × Way)} {ps : List (Str × Rat)} {k l : Nat} (hb : Book b) (hp : PlanP b ps k l) (hk : k + 7 * l + 30 ≤ 130) : ∃ as, F_works [.fz (bookD b), .fz (planD ps)] = .val (.dic (kvsD D.int (worksB b ps))) as := by
  obtain ⟨a1, h1⟩ := look_ok hb
  obtain ⟨a2, h2⟩ := plan_look hb hp (by omega) (by omega)
  obtain ⟨a3, h3⟩ := ways_ok b
  have hz : (nmsB b).length ≤ 6 := by rw [nms_len]; exact hb.hi
  have l1 := lc_m (g := .nm 2) (te := tupE (consL (varE 2) (consL (callF 1 F_upwards (datA (callF 2 F_times (datA (binF ixO (varR 1) (varR 2)) (datA (callF 1 F_whole (datA (binF ixO (datO (binF ixO (varR 0) (varR 2))) (datO (conE (.int 2)))) (nilA))) (nilA)))) (nilA))) (nilL)))) (vs := [2]) (ρ := [.fz (bookD b), .fz (planD ps), .un]) D.str (fun z => .tup [.str z, .int (ceilQ (pq ps z * (tickO b z : Rat)))]) (nmsB b) (by rw [sizeLine_eq]; omega)
    (fun z hz => by
      obtain ⟨w, hm⟩ := nms_way hz
      obtain ⟨g1, g2, g3, g4⟩ := plan_at (x := z) hb hp.toPlan hm
      have n1 : ixO (wayD w) (.int 2) = some (.int w.ticks) := by simp [wayD]
      have nr : w.ticks.natAbs < 2 ^ 6 := by have : 1 ≤ w.ticks ∧ w.ticks ≤ 20 := (hb.way _ hm).ticks; omega
      obtain ⟨a2, n2⟩ := fwhole_ok (w.ticks)
      have s1 := (Sb.int nr)
      obtain ⟨a3, n3⟩ := times_ok (g2.sz (m := 120) (by omega) (by omega)) (s1.sz (m := 120) (by omega) (by omega))
      obtain ⟨a4, n4⟩ := upwards_ok ((g2.mul s1).sz (m := 120) (by omega) (by omega))
      rw [tickO_at hb hm]
      refine ⟨[.fz (bookD b), .fz (planD ps), .fz (.str z)], by simp, ?_, by simp, by simp⟩
      generalize bookD b = B at *
      generalize planD ps = P at *
      generalize wayD w = W at *
      generalize frq (pq ps z) = f1 at *
      generalize frq ((w.ticks : Int) : Rat) = f2 at *
      generalize frq (pq ps z * (w.ticks : Rat)) = f3 at *
      generalize ceilQ (pq ps z * (w.ticks : Rat)) = c at *
      simp [g1, g4, n1, n2, n3, n4, sizeLine_eq])
  have hd := dict_kvs (enc := D.int) (s := worksB b ps) (by unfold worksB; rw [map_fst]; exact names_nd hb)
  have e : (worksB b ps).map (fun p => D.tup [.str p.1, .int p.2]) = (nmsB b).map (fun z => .tup [.str z, .int (ceilQ (pq ps z * (tickO b z : Rat)))]) := by unfold worksB; rw [List.map_map]; rfl
  rw [e] at hd
  refine ⟨[.fz (bookD b), .fz (planD ps)], ?_⟩
  generalize planD ps = P at *
  generalize bookD b = B at *
  generalize (nmsB b).map (fun z => D.tup [.str z, .int (ceilQ (pq ps z * (tickO b z : Rat)))]) = M at *
  generalize (nmsB b).map D.str = N at *
  generalize kvsD D.int (worksB b ps) = K at *
  simp [F_works, s_works, h1, h2, h3, l1, hd]
theorem rate_sb {b : List (Str × Way)} {ps : List (Str × Rat)} {k l : Nat} (hb : Book b) (hp : Plan b ps k l) (x : Str) : Sb (k + 7 * l + 20) (6 * l + 7) (rate b ps x) := by
  have hb6 := hb.hi
  have h := Sb.sum (k := k + 5) (l := l + 1) (qs := (b.map (·.1)).map (term b ps x)) (fun q hq => by
    obtain ⟨z, hz, rfl⟩ := List.mem_map.mp hq
    exact term_sb hb hp x hz) _ (Nat.le_refl _)
  rw [List.take_length, List.length_map, List.length_map] at h
  have e1 : (l + 1) * b.length ≤ (l + 1) * 6 := Nat.mul_le_mul_left _ hb6
  have e2 : (l + 1 + 1) * b.length ≤ (l + 1 + 1) * 6 := Nat.mul_le_mul_left _ hb6
  exact h.mono (by omega) (by omega)
theorem powr_sb {b : List (Str × Way)} {ps : List (Str × Rat)} {k l : Nat} (hb : Book b) (hp : Plan b ps k l) : Sb (k + 7 * l + 20) (6 * l + 7) (powr b ps) := by
  have hb6 := hb.hi
  have h := Sb.sum (k := k + 6) (l := l + 1) (qs := (b.map (·.1)).map (termP b ps)) (fun q hq => by
    obtain ⟨z, hz, rfl⟩ := List.mem_map.mp hq
    exact termP_sb hb hp hz) _ (Nat.le_refl _)
  rw [List.take_length, List.length_map, List.length_map] at h
  have e1 : (l + 1) * b.length ≤ (l + 1) * 6 := Nat.mul_le_mul_left _ hb6
  have e2 : (l + 1 + 1) * b.length ≤ (l + 1 + 1) * 6 := Nat.mul_le_mul_left _ hb6
  exact h.mono (by omega) (by omega)
/-- wants.get(x, (0, 1)) -/
theorem get_wants {ws : List (Str × Rat)} (nd : (ws.map (·.1)).Nodup) (x : Str) : (valD (kvsD frq ws) (.inr x)).getD (.tup [.int 0, .int 1]) = frq (pq ws x) := by
  by_cases m : x ∈ ws.map (·.1)
  · obtain ⟨p, hp, rfl⟩ := List.mem_map.mp m
    rw [valD_kvs nd (a := p.2) hp]
    unfold pq
    rw [findA_of nd (a := p.2) hp]; rfl
  · rw [valD_none m]
    unfold pq
    have : findA ws x = none := by
      unfold findA
      rw [Option.map_eq_none_iff, List.find?_eq_none]
      intro p hp e
      exact m (List.mem_map.mpr ⟨p, hp, by simpa using e⟩)
    rw [this]; rfl
theorem get_w {ws : List (Str × Rat)} {i j : Nat} {ρ : Ev} {x : Str} (nd : (ws.map (·.1)).Nodup) (h1 : ρ[i]? = some (.fz (planD ws))) (h2 : ρ[j]? = some (.fz (.str x))) : get2F (varE i) (varE j) (conE (.tup [.int 0, .int 1])) ρ = .val (frq (pq ws x)) ρ := by
  have g := get_wants nd x
  simp [get2F, h1, h2, g]
theorem get_w2 {ws : List (Str × Rat)} {i j : Nat} {ρ : Ev} {x : Str} (nd : (ws.map (·.1)).Nodup) (h1 : ρ[i]? = some (.fz (planD ws))) (h2 : ρ[j]? = some (.fz (.str x))) : get2F (varE i) (varE j) (tupE (consL (conE (.int 0)) (consL (conE (.int 1)) (nilL)))) ρ = .val (frq (pq ws x)) ρ := by
  have g := get_wants nd x
  simp [get2F, h1, h2, g, sizeLine_eq]
theorem pq_sb {ws : List (Str × Rat)} (h : Wants ws) (x : Str) : Sb 20 10 (pq ws x) := by
  by_cases m : x ∈ ws.map (·.1)
  · obtain ⟨p, hp, rfl⟩ := List.mem_map.mp m
    unfold pq
    rw [findA_of h.nd (a := p.2) hp]
    exact (h.rt p hp).sb
  · unfold pq
    have : findA ws x = none := by
      unfold findA
      rw [Option.map_eq_none_iff, List.find?_eq_none]
      intro p hp e
      exact m (List.mem_map.mpr ⟨p, hp, by simpa using e⟩)
    rw [this]; exact Sb.zero.mono (by decide) (by decide)
def askB (b : List (Str × Way)) (ws : List (Str × Rat)) : List Str := DLS.srtSet (goodsB b ++ ws.map (·.1))
theorem askB_len {b : List (Str × Way)} {ws : List (Str × Rat)} (hb : Book b) (hw : Wants ws) : (askB b ws).length ≤ 42 := by
  refine Nat.le_trans (srtSet_len _) ?_
  rw [List.length_append, List.length_map]
  have := goodsB_len hb
  have := hw.hi
  omega
theorem sort_ask {b : List (Str × Way)} {ws : List (Str × Rat)} (hb : Book b) (hw : Wants ws) : ∃ L, addO (.lst ((goodsB b).map D.str)) (.lst ((ws.map (·.1)).map D.str)) = some (.lst L) ∧ sortSetD (.lst L) = some (.l ((askB b ws).map D.str)) := by
  have h1 := goodsB_len hb
  have h2 := hw.hi
  refine ⟨_, add_strs _ _ (by simp [sizeLine_eq]; omega), ?_⟩
  rw [← List.map_append]
  exact sortSet_strs _ (by rw [List.length_append, List.length_map]; omega)
theorem lk_kvs {α : Type} {enc : α → D} (ps : List (Str × α)) : lkD (.dic (kvsD enc ps)) = some (.l ((ps.map (·.1)).map D.str)) := by
  show some (OD.l _) = _
  rw [keys_kvs]
/-- a good whose rate is too small -/
def shortB (b : List (Str × Way)) (rs : List Str) (ws : List (Str × Rat)) (ps : List (Str × Rat)) (x : Str) : Bool := !decide (x ∈ rs) && decide (rate b ps x < pq ws x)
def meetB (b : List (Str × Way)) (rs : List Str) (ws : List (Str × Rat)) (ps : List (Str × Rat)) : Bool := (askB b ws).all fun x => !shortB b rs ws ps x
theorem dmeet_ok {b : List (Str × Way)} {rs : List Str} {ws ps : List (Str × Rat)} {k l : Nat} (hb : Book b) (hw : Wants ws) (hp : Plan b ps k l) (hk : k + 7 * l + 20 ≤ 120) :
    ∃ as, F_does_meet [.fz (bookD b), .fz (lstS rs), .fz (planD ws), .fz (planD ps)] = .val (.bl (meetB b rs ws ps)) as := by
  obtain ⟨a3, h3⟩ := allgoods_ok hb
  obtain ⟨L, e1, e2⟩ := sort_ask hb hw
  have e3 : lkD (planD ws) = some (.l ((ws.map (·.1)).map D.str)) := lk_kvs (enc := frq) ws
  have body : ∀ x : Str, ∃ ρ', (seqS (ifS (andF (tstF (binF ninA (varR 4) (varR 1))) (tstF (callF 2 F_is_less (datA (callF 3 F_rate_of (datA (varE 0) (datA (varE 3) (datA (varE 4) (nilA))))) (datA (get2F (varE 2) (varE 4) (conE (.tup [.int 0, .int 1]))) (nilA)))))) (seqS (retS (conE (.bl false))) (nxS)) (nxS)) (nxS)) [.fz (bookD b), .fz (lstS rs), .fz (planD ws), .fz (planD ps), .fz (.str x)] = if shortB b rs ws ps x = true then .rt (.bl false) ρ' else .nx [.fz (bookD b), .fz (lstS rs), .fz (planD ws), .fz (planD ps), .fz (.str x)] := by
    intro x
    obtain ⟨a1, h1⟩ := rate_ok hb hp (by omega) x
    have n1 := nin_strs x rs
    have g1 : get2F (varE 2) (varE 4) (conE (.tup [.int 0, .int 1])) [.fz (bookD b), .fz (lstS rs), .fz (planD ws), .fz (planD ps), .fz (.str x)] = _ := get_w hw.nd rfl rfl
    have sl := rate_sb hb hp x
    obtain ⟨a2, h2⟩ := less_ok (sl.sz (m := 120) (by omega) (by omega)) ((pq_sb hw x).sz (m := 120) (by omega) (by omega))
    refine ⟨[.fz (bookD b), .fz (lstS rs), .fz (planD ws), .fz (planD ps), .fz (.str x)], ?_⟩
    unfold shortB
    have n1' : ninA (.str x) (lstS rs) = some (.bl (!decide (x ∈ rs))) := n1
    generalize bookD b = B at *
    generalize planD ps = P at *
    generalize lstS rs = R at *
    generalize hf : frq (rate b ps x) = f1 at *
    generalize hg : frq (pq ws x) = f2 at *
    generalize planD ws = U at *
    by_cases m : x ∈ rs
    · simp [n1', m]
    · by_cases c : rate b ps x < pq ws x
      · simp [n1', m, h1, g1, h2, c]
      · simp [n1', m, h1, g1, h2, c]
  have key := for_x D.str (fun (_ : Unit) a => [.fz (bookD b), .fz (lstS rs), .fz (planD ws), .fz (planD ps), a]) (fun _ _ => ()) (fun _ x => shortB b rs ws ps x) (fun _ _ => .bl false)
    (g := .nm 4) (fun _ a x ha => by rcases ha with rfl | ⟨d, rfl⟩ <;> simp) (fun _ _ => True) (askB b ws) () .un .un trivial
    (fun _ _ x _ hx hs => by
      obtain ⟨ρ', h⟩ := body x
      rw [hs, if_neg (by decide)] at h
      exact ⟨h, trivial⟩)
    (fun _ _ x _ hx hs => by
      obtain ⟨ρ', h⟩ := body x
      rw [hs, if_pos rfl] at h
      exact ⟨ρ', h⟩)
  have m1 : meetB b rs ws ps = true ∨ meetB b rs ws ps = false := by cases meetB b rs ws ps <;> simp
  rcases key with ⟨ll, rr, x, ρ', e, _, hx, hf⟩ | ⟨hal, a', ha', hf, _⟩
  · have hm : meetB b rs ws ps = false := by
      unfold meetB
      rw [List.all_eq_false]
      exact ⟨x, by rw [e]; simp, by rw [hx]; decide⟩
    refine ⟨ρ'.take 4, ?_⟩
    rw [hm]
    generalize (askB b ws).map D.str = M at *
    generalize (goodsB b).map D.str = N at *
    generalize bookD b = B at *
    generalize planD ps = P at *
    generalize planD ws = U at *
    generalize lstS rs = R at *
    generalize (ws.map (·.1)).map D.str = Z at *
    simp [F_does_meet, s_does_meet, h3, e1, e2, e3, hf]
  · have hm : meetB b rs ws ps = true := by
      unfold meetB
      rw [List.all_eq_true]
      intro x hx
      obtain ⟨i, hi⟩ := List.mem_iff_getElem?.mp hx
      have := hal i x hi
      rw [this]; rfl
    refine ⟨[.fz (bookD b), .fz (lstS rs), .fz (planD ws), .fz (planD ps)], ?_⟩
    rw [hm]
    generalize (askB b ws).map D.str = M at *
    generalize (goodsB b).map D.str = N at *
    generalize bookD b = B at *
    generalize planD ps = P at *
    generalize planD ws = U at *
    generalize lstS rs = R at *
    generalize (ws.map (·.1)).map D.str = Z at *
    simp [F_does_meet, s_does_meet, h3, e1, e2, e3, hf]
end Wk
set_option Elab.async false
set_option linter.all false
set_option maxRecDepth 100000
set_option maxHeartbeats 4000000
namespace Wk
open PySem PySem.Spec L2 DL
theorem meets_ok {b : List (Str × Way)} {rs : List Str} {ws ps : List (Str × Rat)} {k l : Nat} (hb : Book b) (hr : Raws rs) (hw : Wants ws) (hp : PlanP b ps k l) (hk : k + 7 * l + 20 ≤ 120) :
    ∃ as, F_meets [.fz (bookD b), .fz (lstS rs), .fz (planD ws), .fz (planD ps)] = .val (.bl (meetB b rs ws ps)) as := by
  obtain ⟨a1, h1⟩ := all_look hb hr hw
  obtain ⟨a2, h2⟩ := plan_look hb hp (by omega) (by omega)
  obtain ⟨a3, h3⟩ := dmeet_ok (rs := rs) hb hw hp.toPlan hk
  refine ⟨[.fz (bookD b), .fz (lstS rs), .fz (planD ws), .fz (planD ps)], ?_⟩
  generalize bookD b = B at *
  generalize planD ps = P at *
  generalize planD ws = U at *
  generalize lstS rs = R at *
  simp [F_meets, s_meets, h1, h2, h3]
def moreB (b : List (Str × Way)) (rs : List Str) (ws ps : List (Str × Rat)) (x : Str) : Bool := !decide (x ∈ rs) && decide (pq ws x < rate b ps x)
def leaveB (b : List (Str × Way)) (rs : List Str) (ws ps : List (Str × Rat)) : List (Str × Rat) := ((goodsB b).filter (moreB b rs ws ps)).map fun x => (x, rate b ps x + -1 * pq ws x)
abbrev rtD (p : Str × Rat) : D := .tup [.str p.1, frq p.2]
theorem filter_len {α : Type} (p : α → Bool) (xs : List α) : (xs.filter p).length ≤ xs.length := List.length_filter_le ..
theorem leavings_ok {b : List (Str × Way)} {rs : List Str} {ws ps : List (Str × Rat)} {k l : Nat} (hb : Book b) (hr : Raws rs) (hw : Wants ws) (hp : PlanP b ps k l) (hk : k + 7 * l + 20 ≤ 120) :
    ∃ as, F_leavings [.fz (bookD b), .fz (lstS rs), .fz (planD ws), .fz (planD ps)] = .val (ratesD (leaveB b rs ws ps)) as := by
  obtain ⟨a1, h1⟩ := all_look hb hr hw
  obtain ⟨a2, h2⟩ := plan_look hb hp (by omega) (by omega)
  obtain ⟨a3, h3⟩ := allgoods_ok hb
  have hgl := goodsB_len hb
  have key := for_v (g := .nm 5) (bd := seqS (setS 6 (callF 3 F_rate_of (datA (varE 0) (datA (varE 3) (datA (varE 5) (nilA)))))) (seqS (ifS (andF (tstF (binF ninA (varR 5) (varR 1))) (tstF (callF 2 F_is_less (datA (get2F (varE 2) (varE 5) (conE (.tup [.int 0, .int 1]))) (datA (varE 6) (nilA)))))) (seqS (exprS (appE 4 (tupE (consL (varE 5) (consL (callF 2 F_plus (datA (varE 6) (datA (callF 2 F_times (datA (tupE (consL (negE (conE (.int 1))) (consL (conE (.int 1)) (nilL)))) (datA (get2F (varE 2) (varE 5) (conE (.tup [.int 0, .int 1]))) (nilA)))) (nilA)))) (nilL)))))) (nxS)) (nxS)) (nxS)))
    D.str (fun (s : List D × AV) a => [.fz (bookD b), .fz (lstS rs), .fz (planD ws), .fz (planD ps), .ow false (.l s.1), a, s.2])
    (fun s x => (if moreB b rs ws ps x = true then s.1 ++ [rtD (x, rate b ps x + -1 * pq ws x)] else s.1, .fz (frq (rate b ps x))))
    (fun s a x ha => by rcases ha with rfl | ⟨d, rfl⟩ <;> simp)
    (fun i s => Jk s.2 ∧ s.1.length ≤ i ∧ i ≤ 36) (goodsB b) ([], .un) .un .un ⟨.un, by simp, by omega⟩ (by
      rintro i ⟨acc, j6⟩ x ⟨hj, hl, hi36⟩ hx
      replace hl : acc.length ≤ i := hl
      replace hj : Jk j6 := hj
      have hi : i < (goodsB b).length := (List.getElem?_eq_some_iff.mp hx).1
      obtain ⟨a1, h1⟩ := rate_ok hb hp.toPlan (by omega) x
      have n1 : ninA (.str x) (lstS rs) = some (.bl (!decide (x ∈ rs))) := nin_strs x rs
      have g1 : get2F (varE 2) (varE 5) (conE (.tup [.int 0, .int 1])) [.fz (bookD b), .fz (lstS rs), .fz (planD ws), .fz (planD ps), .ow false (.l acc), .fz (.str x), .fz (frq (rate b ps x))] = _ := get_w hw.nd rfl rfl
      have sl := rate_sb hb hp.toPlan x
      have sw := pq_sb hw x
      obtain ⟨a2, h2⟩ := less_ok (sw.sz (m := 120) (by omega) (by omega)) (sl.sz (m := 120) (by omega) (by omega))
      have sm : Sb 1 1 (-1 : Rat) := ⟨by decide, by decide⟩
      obtain ⟨a3, h3⟩ := times_ok (sm.sz (m := 120) (by omega) (by omega)) (sw.sz (m := 120) (by omega) (by omega))
      obtain ⟨a4, h4⟩ := plus_ok (sl.sz (m := 120) (by omega) (by omega)) ((sm.mul sw).sz (m := 120) (by omega) (by omega))
      have em : frq (-1 : Rat) = .tup [.int (-1), .int 1] := rfl
      rw [em] at h3
      have hz : acc.length < sizeLine := by rw [sizeLine_eq]; omega
      have hz2 : 2 ≤ sizeLine := by rw [sizeLine_eq]; decide
      refine ⟨?_, .fz, ?_, by omega⟩
      · unfold moreB rtD
        generalize bookD b = B at *
        generalize planD ps = P at *
        generalize lstS rs = R at *
        generalize planD ws = U at *
        generalize frq (rate b ps x + -1 * pq ws x) = f3 at *
        generalize frq (-1 * pq ws x) = f4 at *
        generalize hf : frq (rate b ps x) = f1 at *
        generalize hg : frq (pq ws x) = f2 at *
        by_cases m : x ∈ rs
        · rcases hj with hj | ⟨dj, hj⟩ <;> (subst hj; simp [h1, n1, m])
        · by_cases c : pq ws x < rate b ps x
          · rcases hj with hj | ⟨dj, hj⟩ <;> (subst hj; simp [h1, n1, m, g1, h2, h3, h4, c, negE, hz, hz2])
          · rcases hj with hj | ⟨dj, hj⟩ <;> (subst hj; simp [h1, n1, m, g1, h2, c])
      · show (if moreB b rs ws ps x = true then acc ++ [_] else acc).length ≤ i + 1
        have hl : acc.length ≤ i := hl
        split
        · rw [List.length_append, List.length_singleton]; omega
        · omega)
  obtain ⟨a', ha', hf, hj, _⟩ := key
  have hfold := foldl_snoc (moreB b rs ws ps) (fun x => rtD (x, rate b ps x + -1 * pq ws x)) (fun x => AV.fz (frq (rate b ps x))) (goodsB b) [] .un
  rw [List.nil_append] at hfold
  generalize (goodsB b).foldl _ (([] : List D), AV.un) = S at hf hj hfold
  obtain ⟨S1, S2⟩ := S
  dsimp only at hfold
  have e : ratesD (leaveB b rs ws ps) = .lst S1 := by unfold ratesD leaveB; rw [hfold, List.map_map]; rfl
  refine ⟨[.fz (bookD b), .fz (lstS rs), .fz (planD ws), .fz (planD ps)], ?_⟩
  rw [e]
  clear hfold e
  generalize bookD b = B at *
  generalize planD ps = P at *
  generalize planD ws = U at *
  generalize lstS rs = R at *
  generalize (goodsB b).map D.str = M at *
  dsimp only at hf
  simp [F_leavings, s_leavings, h1, h2, h3, hf]
end Wk
set_option Elab.async false
set_option linter.all false
set_option maxRecDepth 100000
set_option maxHeartbeats 4000000
namespace Wk
open PySem PySem.Spec L2 DL
/-! ### how refusals are told -/
theorem refuse_book : ∃ as, F_law_refusal [.fz (.exc "BadBook")] = .val (.tup [.str "refused", .str "book"]) as := ⟨_, rfl⟩
theorem refuse_goods : ∃ as, F_law_refusal [.fz (.exc "BadGoods")] = .val (.tup [.str "refused", .str "goods"]) as := ⟨_, rfl⟩
theorem refuse_rates : ∃ as, F_law_refusal [.fz (.exc "BadRates")] = .val (.tup [.str "refused", .str "rates"]) as := ⟨_, rfl⟩
theorem refuse_plan : ∃ as, F_law_refusal [.fz (.exc "BadPlan")] = .val (.tup [.str "refused", .str "plan"]) as := ⟨_, rfl⟩
theorem refuse_works : ∃ as, F_law_refusal [.fz (.exc "BadWorks")] = .val (.tup [.str "refused", .str "works"]) as := ⟨_, rfl⟩
theorem refuse_text : ∃ as, F_law_refusal [.fz (.exc "BadText")] = .val (.tup [.str "refused", .str "text"]) as := ⟨_, rfl⟩
/-! ### plans that are none -/
theorem lplan_nodict {B d : D} (h : isiD "dict" d = some (.bl false)) : ∃ as, F_look_plan [.fz B, .fz d] = .exc "BadPlan" as := by
  refine ⟨[.fz B, .fz d], ?_⟩
  simp [F_look_plan, s_look_plan, h]
theorem all_false {α : Type} {xs : List α} {f : α → Bool} (h : ∃ x ∈ xs, f x = false) : allD (.lst (xs.map fun x => .bl (f x))) = some (.bl false) := by
  have e : (xs.map fun x => D.bl (f x)) = (xs.map f).map D.bl := by rw [List.map_map]; rfl
  rw [e, all_bls]
  have : (xs.map f).all id = false := by
    rw [List.all_eq_false]
    obtain ⟨x, h1, h2⟩ := h
    exact ⟨false, List.mem_map.mpr ⟨x, h1, h2⟩, by simp⟩
  rw [this]
theorem all_bool {α : Type} {xs : List α} {f : α → Bool} : allD (.lst (xs.map fun x => .bl (f x))) = some (.bl (xs.all f)) := by
  have e : (xs.map fun x => D.bl (f x)) = (xs.map f).map D.bl := by rw [List.map_map]; rfl
  rw [e, all_bls]
  congr 2
  rw [List.all_map]; rfl
/-- one of its names is no text -/
theorem lplan_key {B : D} {kvs : List (Key × D)} (hz : kvs.length ≤ 1000) (h : ∃ p ∈ kvs, ∃ i, p.1 = .inl i) : ∃ as, F_look_plan [.fz B, .fz (.dic kvs)] = .exc "BadPlan" as := by
  let isS : Key × D → Bool := fun p => match p.1 with | .inl _ => false | .inr _ => true
  have l1 := lc_m (g := .nm 2) (te := unF (isiD "str") (varR 2)) (vs := [2]) (ρ := [.fz B, .fz (.dic kvs), .un]) (fun p : Key × D => keyD p.1) (fun p => .bl (isS p)) kvs (by rw [sizeLine_eq]; omega)
    (fun p hp => by
      refine ⟨[.fz B, .fz (.dic kvs), .fz (keyD p.1)], by simp, ?_, by simp, by simp⟩
      obtain ⟨k, d⟩ := p
      cases k <;> simp [keyD, isS] <;> rfl)
  have e1 : allD (.lst (kvs.map fun p => .bl (isS p))) = some (.bl false) := all_false (by
    obtain ⟨p, hp, i, hi⟩ := h
    exact ⟨p, hp, by show (match p.1 with | .inl _ => false | .inr _ => true) = false; rw [hi]⟩)
  have e6 : keysF (varE 1) [.fz B, .fz (.dic kvs), .un] = .val (kvs.map fun p => keyD p.1) [.fz B, .fz (.dic kvs), .un] := by simp
  have e5 : isiD "dict" (.dic kvs) = some (.bl true) := rfl
  refine ⟨[.fz B, .fz (.dic kvs)], ?_⟩
  generalize (kvs.map fun p => D.bl (isS p)) = M at *
  generalize (kvs.map fun p => keyD p.1) = N at *
  generalize D.dic kvs = P at *
  simp [F_look_plan, s_look_plan, e5, e6, l1, e1, -e_keysF]
/-- whether a name's part may stand -/
theorem plan_all {b : List (Str × Way)} (hb : Book b) {ps : List (Str × D)} (nd : (ps.map (·.1)).Nodup) (hz : ps.length ≤ 1000) (hpl : ∀ p ∈ ps, Plain p.1) (told : D → Bool) (ht : ∀ p ∈ ps, ∃ as, F_is_told [.fz p.2] = .val (.bl (told p.2)) as) :
    ∃ as, F_look_plan [.fz (bookD b), .fz (.dic (kvsD id ps))] = (if DLS.srt (ps.map (·.1)) = nmsB b then (if (ps.all fun p => told p.2) = true then .val .non as else .exc "BadPlan" as) else .exc "BadPlan" as) := by
  obtain ⟨a0, hw0⟩ := ways_ok b
  have l1 := lc_m (g := .nm 2) (te := unF (isiD "str") (varR 2)) (vs := [2]) (ρ := [.fz (bookD b), .fz (.dic (kvsD id ps)), .un]) (fun p : Str × D => D.str p.1) (fun _ => .bl true) ps (by rw [sizeLine_eq]; omega)
    (fun p hp => ⟨[.fz (bookD b), .fz (.dic (kvsD id ps)), .fz (.str p.1)], by simp, by simp, by simp, by simp⟩)
  have l2 := lc_m (g := .nm 2) (te := callF 1 F_is_told (datA (binF ixO (varR 1) (varR 2)) (nilA))) (vs := [2]) (ρ := [.fz (bookD b), .fz (.dic (kvsD id ps)), .un]) (fun p : Str × D => D.str p.1) (fun p => .bl (told p.2)) ps (by rw [sizeLine_eq]; omega)
    (fun p hp => by
      obtain ⟨a1, h1⟩ := ht p hp
      have h2 : ixO (.dic (kvsD id ps)) (.str p.1) = some p.2 := by rw [e_ix3]; exact valD_kvs (enc := id) nd (a := p.2) hp
      refine ⟨[.fz (bookD b), .fz (.dic (kvsD id ps)), .fz (.str p.1)], by simp, ?_, by simp, by simp⟩
      generalize D.dic (kvsD id ps) = P at *
      simp [h2, h1])
  have e1 : allD (.lst (ps.map fun _ => .bl true)) = some (.bl true) := all_map fun _ _ => rfl
  have e1' := all_bool (xs := ps) (f := fun p => told p.2)
  have e2 : skD (.dic (kvsD id ps)) = some (.l ((DLS.srt (ps.map (·.1))).map D.str)) := skD_kvs ps
  have hs : ∀ x ∈ DLS.srt (ps.map (·.1)), Plain x := fun x hx => by
    obtain ⟨p, hp, rfl⟩ := List.mem_map.mp ((DLS.srt_perm _).mem_iff.mp hx)
    exact hpl p hp
  have hn : ∀ x ∈ nmsB b, Plain x := fun x hx => by
    obtain ⟨w, hm⟩ := nms_way hx
    exact (hb.wd _ hm).plain
  have e4 := ne_strs (DLS.srt (ps.map (·.1))) (nmsB b) hs hn
  have e5 : isiD "dict" (.dic (kvsD id ps)) = some (.bl true) := rfl
  have e6 : keysF (varE 1) [.fz (bookD b), .fz (.dic (kvsD id ps)), .un] = .val (ps.map fun p => D.str p.1) [.fz (bookD b), .fz (.dic (kvsD id ps)), .un] := by
    have := keys_kvs (enc := id) ps
    simp [this]
  refine ⟨[.fz (bookD b), .fz (.dic (kvsD id ps))], ?_⟩
  generalize (ps.all fun p => told p.2) = t at *
  generalize (ps.map fun p => D.bl (told p.2)) = M2 at *
  generalize hM : (ps.map fun _ => D.bl true) = M1 at *
  generalize (ps.map fun p => D.str p.1) = N at *
  generalize DLS.srt (ps.map (·.1)) = SR at *
  generalize D.dic (kvsD id ps) = P at *
  generalize bookD b = B at *
  by_cases c : SR = nmsB b
  · subst c
    rw [decide_eq_true rfl] at e4
    rw [if_pos rfl]
    cases t
    · simp [F_look_plan, s_look_plan, e5, e6, l1, l2, e1, e1', e2, e4, hw0, -e_keysF]
    · simp [F_look_plan, s_look_plan, e5, e6, l1, l2, e1, e1', e2, e4, hw0, -e_keysF]
  · rw [decide_eq_false c] at e4
    rw [if_neg c]
    simp [F_look_plan, s_look_plan, e5, e6, l1, l2, e1, e1', e2, e4, hw0, -e_keysF]
end Wk
set_option Elab.async false
set_option linter.all false
set_option maxRecDepth 100000
set_option maxHeartbeats 4000000
namespace Wk
open PySem PySem.Spec L2 DL
theorem valD_of {kvs : List (Key × D)} (nd : (kvs.map (·.1)).Nodup) {p : Key × D} (h : p ∈ kvs) : valD kvs p.1 = some p.2 := by
  induction kvs with
  | nil => cases h
  | cons q kvs ih =>
    rw [List.map_cons, List.nodup_cons] at nd
    rcases List.mem_cons.mp h with rfl | h
    · simp [valD]
    · have ne : ¬ q.1 = p.1 := fun e => nd.1 (List.mem_map.mpr ⟨p, h, e.symm⟩)
      have := ih nd.2 h
      unfold valD at this ⊢
      rw [List.find?_cons, decide_eq_false ne]
      exact this
/-! ### wants that are none -/
theorem lwants_nodict {d : D} (h : isiD "dict" d = some (.bl false)) : ∃ as, F_look_wants [.fz d] = .exc "BadRates" as := by
  refine ⟨[.fz d], ?_⟩
  simp [F_look_wants, s_look_wants, h]
theorem keyD_key (k : Key) : keyOf (keyD k) = some k := by cases k <;> rfl
theorem lwants_bad {kvs : List (Key × D)} (nd : (kvs.map (·.1)).Nodup) (hz : kvs.length ≤ 1000) (wd : Key → Bool) (fr : D → Bool)
    (hw : ∀ p ∈ kvs, ∃ as, F_is_word [.fz (keyD p.1)] = .val (.bl (wd p.1)) as) (hf : ∀ p ∈ kvs, ∃ as, F_is_fraction [.fz p.2] = .val (.bl (fr p.2)) as) (hb : ∃ p ∈ kvs, (wd p.1 && fr p.2) = false) :
    ∃ as, F_look_wants [.fz (.dic kvs)] = .exc "BadRates" as := by
  have l1 := lc_m (g := .nm 1) (te := andE (callF 1 F_is_word (datA (varE 1) (nilA))) (callF 1 F_is_fraction (datA (binF ixO (varR 0) (varR 1)) (nilA)))) (vs := [1]) (ρ := [.fz (.dic kvs), .un]) (fun p : Key × D => keyD p.1) (fun p => .bl (wd p.1 && fr p.2)) kvs (by rw [sizeLine_eq]; omega)
    (fun p hp => by
      obtain ⟨a1, h1⟩ := hw p hp
      obtain ⟨a2, h2⟩ := hf p hp
      have h3 : ixO (.dic kvs) (keyD p.1) = some p.2 := by
        have := valD_of nd hp
        obtain ⟨k, d⟩ := p
        cases k <;> exact this
      refine ⟨[.fz (.dic kvs), .fz (keyD p.1)], by simp, ?_, by simp, by simp⟩
      generalize D.dic kvs = P at *
      generalize keyD p.1 = kd at *
      cases hwd : wd p.1 <;> rw [hwd] at h1 <;> simp [h1, h2, h3])
  have e1 := all_false hb
  have e6 : keysF (varE 0) [.fz (.dic kvs), .un] = .val (kvs.map fun p => keyD p.1) [.fz (.dic kvs), .un] := by simp
  have e5 : isiD "dict" (.dic kvs) = some (.bl true) := rfl
  have e7 : lenD (.dic kvs) = some (.int kvs.length) := rfl
  refine ⟨[.fz (.dic kvs)], ?_⟩
  generalize (kvs.map fun p => D.bl (wd p.1 && fr p.2)) = M at *
  generalize (kvs.map fun p => keyD p.1) = N at *
  generalize kvs.length = n at *
  generalize D.dic kvs = P at *
  by_cases c : (6 : Int) < n
  · simp [F_look_wants, s_look_wants, e5, e7, decide_eq_true c]
  · simp [F_look_wants, s_look_wants, e5, e6, e7, l1, e1, decide_eq_false c, -e_keysF]
theorem lwants_long {kvs : List (Key × D)} (h : 6 < kvs.length) : ∃ as, F_look_wants [.fz (.dic kvs)] = .exc "BadRates" as := by
  have e5 : isiD "dict" (.dic kvs) = some (.bl true) := rfl
  have e7 : lenD (.dic kvs) = some (.int kvs.length) := rfl
  have c : (6 : Int) < kvs.length := by omega
  refine ⟨[.fz (.dic kvs)], ?_⟩
  generalize kvs.length = n at *
  generalize D.dic kvs = P at *
  simp [F_look_wants, s_look_wants, e5, e7, decide_eq_true c]
/-! ### all at once -/
theorem lall_goods {b : List (Str × Way)} (hb : Book b) {R U : D} {a : List AV} (h : F_look_raws [.fz R] = .exc "BadGoods" a) : ∃ as, F_look_all [.fz (bookD b), .fz R, .fz U] = .exc "BadGoods" as := by
  obtain ⟨a1, h1⟩ := look_ok hb
  refine ⟨[.fz (bookD b), .fz R, .fz U], ?_⟩
  generalize bookD b = B at *
  simp [F_look_all, s_look_all, h, h1]
theorem lall_rates {b : List (Str × Way)} (hb : Book b) {R U : D} {a a2 : List AV} (h : F_look_raws [.fz R] = .val .non a) (h2 : F_look_wants [.fz U] = .exc "BadRates" a2) : ∃ as, F_look_all [.fz (bookD b), .fz R, .fz U] = .exc "BadRates" as := by
  obtain ⟨a1, h1⟩ := look_ok hb
  refine ⟨[.fz (bookD b), .fz R, .fz U], ?_⟩
  generalize bookD b = B at *
  simp [F_look_all, s_look_all, h, h1, h2]
/-- what is refused by look_all is refused by all that call it -/
theorem meets_exc {B R U P : D} {c : Str} {a : List AV} (h : F_look_all [.fz B, .fz R, .fz U] = .exc c a) : ∃ as, F_meets [.fz B, .fz R, .fz U, .fz P] = .exc c as := ⟨[.fz B, .fz R, .fz U, .fz P], by simp [F_meets, s_meets, h]⟩
theorem leavings_exc {B R U P : D} {c : Str} {a : List AV} (h : F_look_all [.fz B, .fz R, .fz U] = .exc c a) : ∃ as, F_leavings [.fz B, .fz R, .fz U, .fz P] = .exc c as := ⟨[.fz B, .fz R, .fz U, .fz P], by simp [F_leavings, s_leavings, h]⟩
theorem isleast_exc {B R U P : D} {c : Str} {a : List AV} (h : F_look_all [.fz B, .fz R, .fz U] = .exc c a) : ∃ as, F_is_least [.fz B, .fz R, .fz U, .fz P] = .exc c as := ⟨[.fz B, .fz R, .fz U, .fz P], by simp [F_is_least, s_is_least, h]⟩
theorem leastp_exc {B R U : D} {c : Str} {a : List AV} (h : F_look_all [.fz B, .fz R, .fz U] = .exc c a) : ∃ as, F_least_power [.fz B, .fz R, .fz U] = .exc c as := ⟨[.fz B, .fz R, .fz U], by simp [F_least_power, s_least_power, h]⟩
theorem meets_excP {B R U P : D} {c : Str} {a a2 : List AV} (h : F_look_all [.fz B, .fz R, .fz U] = .val .non a) (h2 : F_look_plan [.fz B, .fz P] = .exc c a2) : ∃ as, F_meets [.fz B, .fz R, .fz U, .fz P] = .exc c as := ⟨[.fz B, .fz R, .fz U, .fz P], by simp [F_meets, s_meets, h, h2]⟩
theorem leavings_excP {B R U P : D} {c : Str} {a a2 : List AV} (h : F_look_all [.fz B, .fz R, .fz U] = .val .non a) (h2 : F_look_plan [.fz B, .fz P] = .exc c a2) : ∃ as, F_leavings [.fz B, .fz R, .fz U, .fz P] = .exc c as := ⟨[.fz B, .fz R, .fz U, .fz P], by simp [F_leavings, s_leavings, h, h2]⟩
theorem isleast_excP {B R U P : D} {c : Str} {a a2 : List AV} (h : F_look_all [.fz B, .fz R, .fz U] = .val .non a) (h2 : F_look_plan [.fz B, .fz P] = .exc c a2) : ∃ as, F_is_least [.fz B, .fz R, .fz U, .fz P] = .exc c as := ⟨[.fz B, .fz R, .fz U, .fz P], by simp [F_is_least, s_is_least, h, h2]⟩
theorem rates_excP {b : List (Str × Way)} (hb : Book b) {P : D} {c : Str} {a2 : List AV} (h2 : F_look_plan [.fz (bookD b), .fz P] = .exc c a2) : (∃ as, F_rates [.fz (bookD b), .fz P] = .exc c as) ∧ (∃ as, F_power [.fz (bookD b), .fz P] = .exc c as) ∧ ∃ as, F_works [.fz (bookD b), .fz P] = .exc c as := by
  obtain ⟨a1, h1⟩ := look_ok hb
  generalize bookD b = B at *
  exact ⟨⟨[.fz B, .fz P], by simp [F_rates, s_rates, h1, h2]⟩, ⟨[.fz B, .fz P], by simp [F_power, s_power, h1, h2]⟩, ⟨[.fz B, .fz P], by simp [F_works, s_works, h1, h2]⟩⟩
/-- raw goods out of order, or twice -/
theorem lraws_turn {L : List Str} (hl : L.length ≤ 20) (hw : ∀ z ∈ L, Wd z) (hs : DLS.srtSet L ≠ L) : ∃ as, F_look_raws [.fz (lstS L)] = .exc "BadGoods" as := by
  have l1 := lc_m (g := .nm 1) (te := callF 1 F_is_word (datA (varE 1) (nilA))) (vs := [1]) (ρ := [.fz (lstS L), .un]) D.str (fun _ => .bl true) L (by rw [sizeLine_eq]; omega)
    (fun x hx => by
      obtain ⟨a1, h1⟩ := word_ok (hw x hx)
      refine ⟨[.fz (lstS L), .fz (.str x)], by simp, ?_, by simp, by simp⟩
      generalize lstS L = R at *
      simp [h1])
  have e1 : allD (.lst (L.map fun _ => .bl true)) = some (.bl true) := all_map fun _ _ => rfl
  have e2 : sortSetD (lstS L) = some (.l ((DLS.srtSet L).map D.str)) := sortSet_strs L (by omega)
  have e3 : neO (.lst ((DLS.srtSet L).map D.str)) (lstS L) = some (.bl true) := by
    have := ne_strs (DLS.srtSet L) L (fun x hx => (hw x (srtSet_mem.mp hx)).plain) (fun x hx => (hw x hx).plain)
    rw [decide_eq_false hs] at this
    exact this
  have e4 : isiD "list" (lstS L) = some (.bl true) := rfl
  have e5 : lenD (lstS L) = some (.int L.length) := by show some (D.int _) = _; rw [List.length_map]
  have e6 : itD (lstS L) = some (L.map D.str) := rfl
  have c : ¬ (20 : Int) < L.length := by omega
  refine ⟨[.fz (lstS L)], ?_⟩
  generalize (L.map fun _ => D.bl true) = M at *
  generalize (DLS.srtSet L).map D.str = N at *
  generalize L.map D.str = LD at *
  generalize L.length = n at *
  generalize lstS L = R at *
  simp [F_look_raws, s_look_raws, e1, e2, e3, e4, e5, e6, l1, decide_eq_false c]
end Wk
set_option Elab.async false
set_option linter.all false
set_option maxRecDepth 100000
set_option maxHeartbeats 4000000
/- k20: what is refused -/
namespace Wk
open PySem PySem.Spec L2 DL
def psD (ps : List (Str × Rat)) : List (Str × D) := ps.map fun p => (p.1, frq p.2)
theorem kvsD_psD (ps : List (Str × Rat)) : kvsD frq ps = kvsD id (psD ps) := by
  unfold kvsD psD
  rw [List.map_map]; rfl
theorem psD_keys (ps : List (Str × Rat)) : (psD ps).map (·.1) = ps.map (·.1) := by unfold psD; rw [List.map_map]; rfl
theorem putA_in {α : Type} (ps : List (Str × α)) (z : Str) (a : α) : (z, a) ∈ putA ps z a := by
  unfold putA
  split
  · rename_i h
    obtain ⟨p, hp, rfl⟩ := List.mem_map.mp h
    exact List.mem_map.mpr ⟨p, hp, by simp⟩
  · exact List.mem_append.mpr (.inr (.head _))
noncomputable def toldC (d : D) : Bool := @decide (∃ as, F_is_told [.fz d] = .val (.bl true) as) (Classical.propDecidable _)
theorem toldC_t {d : D} (h : ∃ as, F_is_told [.fz d] = .val (.bl true) as) : toldC d = true := by unfold toldC; exact @decide_eq_true _ (Classical.propDecidable _) h
theorem toldC_f {d : D} {a : List AV} (h : F_is_told [.fz d] = .val (.bl false) a) : toldC d = false := by
  unfold toldC
  refine @decide_eq_false _ (Classical.propDecidable _) ?_
  rintro ⟨as, h'⟩
  rw [h] at h'; cases h'
/-- parts of a plan that can't be -/
def badF : List D := [.tup [.int 2, .int 4], .tup [.int (-1), .int 2], .tup [.int 1, .int 0], .tup [.int 1], .non, .int 1, .tup [.bl true, .int 1], .tup [.int 0, .int 2], .lst [.int 1, .int 2]]
theorem badF_no : ∀ x ∈ badF, ∃ as, F_is_told [.fz x] = .val (.bl false) as := by
  intro x hx
  simp only [badF, List.mem_cons, List.not_mem_nil, or_false] at hx
  rcases hx with rfl | rfl | rfl | rfl | rfl | rfl | rfl | rfl | rfl <;> exact ⟨_, rfl⟩
theorem plan_told {b : List (Str × Way)} {ps : List (Str × Rat)} {k l : Nat} (hp : PlanP b ps k l) (hk : k ≤ 120) (hl : l ≤ 120) : ∀ p ∈ psD ps, ∃ as, F_is_told [.fz p.2] = .val (.bl true) as := fun p h => by
  obtain ⟨q, hq, rfl⟩ := List.mem_map.mp h
  exact told_ok (hp.pos q hq) ((hp.sb q hq).sz hk hl)
theorem names_plain {b : List (Str × Way)} (hb : Book b) {ps : List (Str × Rat)} {k l : Nat} (hp : Plan b ps k l) : ∀ p ∈ psD ps, Plain p.1 := fun p h => by
  obtain ⟨q, hq, rfl⟩ := List.mem_map.mp h
  have : q.1 ∈ b.map (·.1) := hp.nm.mem_iff.mp (List.mem_map.mpr ⟨q, hq, rfl⟩)
  obtain ⟨w, hw, e⟩ := List.mem_map.mp this
  show Plain q.1
  rw [← e]; exact (hb.wd w hw).plain
theorem bad_value {b : List (Str × Way)} (hb : Book b) {ps : List (Str × Rat)} {k l : Nat} (hp : PlanP b ps k l) (hk : k ≤ 120) (hl : l ≤ 120) {z : Str} (hz : z ∈ ps.map (·.1)) {x : D} (hx : ∃ as, F_is_told [.fz x] = .val (.bl false) as) :
    ∃ as, F_look_plan [.fz (bookD b), .fz (.dic (kvsD id (putA (psD ps) z x)))] = .exc "BadPlan" as := by
  obtain ⟨ax, hx⟩ := hx
  have hz' : z ∈ (psD ps).map (·.1) := by rw [psD_keys]; exact hz
  have hk1 := putA_keep (a := x) hz'
  have nd : ((putA (psD ps) z x).map (·.1)).Nodup := by rw [hk1, psD_keys]; exact hp.nm.nodup_iff.mpr hb.nd
  have hlen : (putA (psD ps) z x).length ≤ 1000 := by
    have := putA_length (psD ps) z x
    have h6 := hb.hi
    have e := hp.nm.length_eq
    rw [List.length_map, List.length_map] at e
    have e2 : (psD ps).length = ps.length := by unfold psD; rw [List.length_map]
    omega
  have hz1 : z ∈ b.map (·.1) := hp.nm.mem_iff.mp hz
  have pl : ∀ p ∈ putA (psD ps) z x, Plain p.1 := fun p h => by
    rcases putA_mem h with rfl | h
    · obtain ⟨w, hw, e⟩ := List.mem_map.mp hz1
      show Plain z
      rw [← e]; exact (hb.wd w hw).plain
    · exact names_plain hb hp.toPlan p h
  obtain ⟨as, h⟩ := plan_all hb nd hlen pl toldC (fun p h => by
    rcases putA_mem h with rfl | h
    · exact ⟨ax, by rw [toldC_f hx]; exact hx⟩
    · have := plan_told hp hk hl p h
      rw [toldC_t this]; exact this)
  have e : DLS.srt ((putA (psD ps) z x).map (·.1)) = nmsB b := by rw [hk1, psD_keys]; exact srt_perm_eq hp.nm
  have e2 : ((putA (psD ps) z x).all fun p => toldC p.2) = false := by
    rw [List.all_eq_false]
    exact ⟨(z, x), putA_in _ _ _, by show ¬ toldC x = true; rw [toldC_f hx]; decide⟩
  rw [if_pos e, e2, if_neg (by decide)] at h
  exact ⟨as, h⟩
/-- a plan of other names -/
theorem bad_names {b : List (Str × Way)} (hb : Book b) {qs : List (Str × D)} (nd : (qs.map (·.1)).Nodup) (hz : qs.length ≤ 1000) (pl : ∀ p ∈ qs, Plain p.1) (ht : ∀ p ∈ qs, ∃ as, F_is_told [.fz p.2] = .val (.bl true) as) (hl : qs.length ≠ b.length) :
    ∃ as, F_look_plan [.fz (bookD b), .fz (.dic (kvsD id qs))] = .exc "BadPlan" as := by
  obtain ⟨as, h⟩ := plan_all hb nd hz pl toldC (fun p h => by
    have := ht p h
    rw [toldC_t this]; exact this)
  rw [if_neg (fun e => hl (by
    have := congrArg List.length e
    rw [(DLS.srt_perm _).length_eq, nms_len, List.length_map] at this
    exact this))] at h
  exact ⟨as, h⟩
theorem drop_kvs {α : Type} {enc : α → D} (ps : List (Str × α)) (z : Str) : dropD (kvsD enc ps) (.inr z) = kvsD enc (ps.filter fun p => decide (p.1 ≠ z)) := by
  induction ps with
  | nil => rfl
  | cons p ps ih =>
    by_cases e : p.1 = z
    · have e1 : ¬ (decide (p.1 ≠ z)) = true := by simp [e]
      rw [List.filter_cons_of_neg (p := fun p : Str × α => decide (p.1 ≠ z)) e1]
      have : dropD (kvsD enc (p :: ps)) (.inr z) = dropD (kvsD enc ps) (.inr z) := by
        unfold dropD kvsD
        rw [List.map_cons, List.filter_cons_of_neg (by simp [e])]
      rw [this, ih]
    · have e1 : (decide (p.1 ≠ z)) = true := by simp [e]
      rw [List.filter_cons_of_pos (p := fun p : Str × α => decide (p.1 ≠ z)) e1]
      have : dropD (kvsD enc (p :: ps)) (.inr z) = (.inr p.1, enc p.2) :: dropD (kvsD enc ps) (.inr z) := by
        unfold dropD kvsD
        rw [List.map_cons, List.filter_cons_of_pos (by simpa using fun q => e q)]
      rw [this, ih]; rfl
theorem putD_int {α : Type} {enc : α → D} (ps : List (Str × α)) (i : Int) (d : D) : putD (kvsD enc ps) (.inl i) d = kvsD enc ps ++ [(.inl i, d)] := by
  unfold putD
  have : ((kvsD enc ps).any fun kv => decide (kv.1 = .inl i)) = false := by
    rw [List.any_eq_false]
    intro kv hkv
    obtain ⟨p, _, rfl⟩ := List.mem_map.mp hkv
    simp
  rw [this, if_neg (by decide)]
/-! ### wants that are none -/
noncomputable def fracC (d : D) : Bool := @decide (∃ as, F_is_fraction [.fz d] = .val (.bl true) as) (Classical.propDecidable _)
theorem fracC_t {d : D} (h : ∃ as, F_is_fraction [.fz d] = .val (.bl true) as) : fracC d = true := by unfold fracC; exact @decide_eq_true _ (Classical.propDecidable _) h
theorem fracC_f {d : D} {a : List AV} (h : F_is_fraction [.fz d] = .val (.bl false) a) : fracC d = false := by
  unfold fracC
  refine @decide_eq_false _ (Classical.propDecidable _) ?_
  rintro ⟨as, h'⟩
  rw [h] at h'; cases h'
noncomputable def wordC (k : Key) : Bool := @decide (∃ as, F_is_word [.fz (keyD k)] = .val (.bl true) as) (Classical.propDecidable _)
theorem wordC_t {k : Key} (h : ∃ as, F_is_word [.fz (keyD k)] = .val (.bl true) as) : wordC k = true := by unfold wordC; exact @decide_eq_true _ (Classical.propDecidable _) h
theorem wordC_f {k : Key} {a : List AV} (h : F_is_word [.fz (keyD k)] = .val (.bl false) a) : wordC k = false := by
  unfold wordC
  refine @decide_eq_false _ (Classical.propDecidable _) ?_
  rintro ⟨as, h'⟩
  rw [h] at h'; cases h'
def badR : List D := [.tup [.int 2, .int 4], .tup [.int (-1), .int 2], .tup [.int 1, .int 0], .tup [.int 1000001, .int 1], .tup [.int 1, .int 1001], .tup [.int 1], .non, .tup [.bl true, .int 1]]
theorem badR_no : ∀ x ∈ badR, ∃ as, F_is_fraction [.fz x] = .val (.bl false) as := by
  intro x hx
  simp only [badR, List.mem_cons, List.not_mem_nil, or_false] at hx
  rcases hx with rfl | rfl | rfl | rfl | rfl | rfl | rfl | rfl <;> exact ⟨_, rfl⟩
theorem wants_frac {ws : List (Str × Rat)} (hw : Wants ws) : ∀ p ∈ ws, ∃ as, F_is_fraction [.fz (frq p.2)] = .val (.bl true) as := fun p h => fraction_ok (hw.rt p h)
/-- a dict of wants with one more, told anew or another -/
theorem wants_more {ws : List (Str × Rat)} (hw : Wants ws) {k : Key} {x : D} (hk : (∃ as, F_is_word [.fz (keyD k)] = .val (.bl true) as) ∨ ∃ as, F_is_word [.fz (keyD k)] = .val (.bl false) as) (hx : (∃ as, F_is_fraction [.fz x] = .val (.bl true) as) ∨ ∃ as, F_is_fraction [.fz x] = .val (.bl false) as)
    (hb : (∃ as, F_is_word [.fz (keyD k)] = .val (.bl false) as) ∨ ∃ as, F_is_fraction [.fz x] = .val (.bl false) as) : ∃ as, F_look_wants [.fz (.dic (putD (kvsD frq ws) k x))] = .exc "BadRates" as := by
  have h6 := hw.hi
  have ndK : ((kvsD frq ws).map (·.1)).Nodup := by
    unfold kvsD
    rw [List.map_map]
    have : (ws.map ((fun x : Key × D => x.1) ∘ fun p : Str × Rat => ((Sum.inr p.1 : Key), frq p.2))) = (ws.map (·.1)).map Sum.inr := by rw [List.map_map]; rfl
    rw [this]
    exact List.Pairwise.map _ (fun a b h e => h (Sum.inr.inj e)) hw.nd
  have mem : ∀ p ∈ putD (kvsD frq ws) k x, p = (k, x) ∨ (p ∈ kvsD frq ws) := fun p hp => by
    unfold putD at hp
    split at hp
    · obtain ⟨q, hq, rfl⟩ := List.mem_map.mp hp
      by_cases e : q.1 = k
      · rw [if_pos e, e]; exact .inl rfl
      · rw [if_neg e]; exact .inr hq
    · rcases List.mem_append.mp hp with hp | hp
      · exact .inr hp
      · exact .inl (List.mem_singleton.mp hp)
  have keys : (putD (kvsD frq ws) k x).map (·.1) = (kvsD frq ws).map (·.1) ∨ (k ∉ (kvsD frq ws).map (·.1) ∧ (putD (kvsD frq ws) k x).map (·.1) = (kvsD frq ws).map (·.1) ++ [k]) := by
    unfold putD
    by_cases c : k ∈ (kvsD frq ws).map (·.1)
    · have : ((kvsD frq ws).any fun kv => decide (kv.1 = k)) = true := by
        rw [List.any_eq_true]
        obtain ⟨p, hp, e⟩ := List.mem_map.mp c
        exact ⟨p, hp, decide_eq_true e⟩
      rw [if_pos this, List.map_map]
      refine .inl (List.map_congr_left fun p _ => ?_)
      show (if p.1 = k then (p.1, x) else p).1 = p.1
      split <;> rfl
    · have : ((kvsD frq ws).any fun kv => decide (kv.1 = k)) = false := by
        rw [List.any_eq_false]
        intro p hp
        simp only [decide_eq_true_eq]
        exact fun e => c (List.mem_map.mpr ⟨p, hp, e⟩)
      rw [if_neg (by rw [this]; decide), List.map_append]
      exact .inr ⟨c, rfl⟩
  have nd : ((putD (kvsD frq ws) k x).map (·.1)).Nodup := by
    rcases keys with e | ⟨c, e⟩
    · rw [e]; exact ndK
    · rw [e]
      exact List.nodup_append.mpr ⟨ndK, List.nodup_cons.mpr ⟨by simp, List.nodup_nil⟩, fun a ha b hb => by rintro rfl; rw [List.mem_singleton] at hb; subst hb; exact c ha⟩
  have hin : (k, x) ∈ putD (kvsD frq ws) k x := by
    unfold putD
    split
    · rename_i c
      rw [List.any_eq_true] at c
      obtain ⟨p, hp, e⟩ := c
      refine List.mem_map.mpr ⟨p, hp, ?_⟩
      rw [if_pos (of_decide_eq_true e), of_decide_eq_true e]
    · exact List.mem_append.mpr (.inr (.head _))
  have hlen : (putD (kvsD frq ws) k x).length ≤ 1000 := by
    have e : (putD (kvsD frq ws) k x).length = ((putD (kvsD frq ws) k x).map (·.1)).length := (List.length_map ..).symm
    have e3 := kvsD_length (enc := frq) ws
    rw [e]
    rcases keys with e | ⟨c, e⟩
    · rw [e, List.length_map]; omega
    · rw [e, List.length_append, List.length_map]; simp; omega
  refine lwants_bad nd hlen wordC fracC (fun p hp => ?_) (fun p hp => ?_) ⟨(k, x), hin, ?_⟩
  · rcases mem p hp with rfl | hp
    · rcases hk with hk | ⟨a, hk⟩
      · show ∃ as, F_is_word [.fz (keyD k)] = _
        rw [wordC_t hk]; exact hk
      · show ∃ as, F_is_word [.fz (keyD k)] = _
        rw [wordC_f hk]; exact ⟨a, hk⟩
    · obtain ⟨q, hq, rfl⟩ := List.mem_map.mp hp
      have := word_ok (hw.wd q hq)
      show ∃ as, F_is_word [.fz (keyD (.inr q.1))] = _
      rw [wordC_t (k := .inr q.1) this]; exact this
  · rcases mem p hp with rfl | hp
    · rcases hx with hx | ⟨a, hx⟩
      · show ∃ as, F_is_fraction [.fz x] = _
        rw [fracC_t hx]; exact hx
      · show ∃ as, F_is_fraction [.fz x] = _
        rw [fracC_f hx]; exact ⟨a, hx⟩
    · obtain ⟨q, hq, rfl⟩ := List.mem_map.mp hp
      have := wants_frac hw q hq
      show ∃ as, F_is_fraction [.fz (frq q.2)] = _
      rw [fracC_t this]; exact this
  · rcases hb with ⟨a, hb⟩ | ⟨a, hb⟩
    · show (wordC k && fracC x) = false
      rw [wordC_f hb]; rfl
    · show (wordC k && fracC x) = false
      rw [fracC_f hb, Bool.and_false]
end Wk
set_option Elab.async false
set_option linter.all false
set_option maxRecDepth 100000
set_option maxHeartbeats 4000000
namespace Wk
open PySem PySem.Spec L2 DL
def rateL : List Rat := [0, 1, ⟨1, 2, by decide, by decide⟩, ⟨7, 3, by decide, by decide⟩, 3, ⟨1, 20, by decide, by decide⟩, ⟨5, 7, by decide, by decide⟩, 1000000, ⟨1, 1000, by decide, by decide⟩]
theorem rateL_ok : ∀ q ∈ rateL, Rt q := by
  intro q hq
  simp only [rateL, List.mem_cons, List.not_mem_nil, or_false] at hq
  rcases hq with rfl | rfl | rfl | rfl | rfl | rfl | rfl | rfl | rfl <;> exact ⟨by decide, by decide, by decide⟩
theorem lrate_draw (ns : List Int) (h : ns.length ≤ 63) (n : Nat) (hn : n < 900000) : ∃ q, Rt q ∧ F_law_rate [.fz (intsD ns), townA n] = .val (frq q) [.fz (intsD ns), townA (n + 1)] := by
  obtain ⟨x, hx, hp⟩ := pickL_ok ns h n (by omega) (rateL.map frq) (by simp [rateL])
  obtain ⟨q, hq, rfl⟩ := List.mem_map.mp hx
  have hz : 9 ≤ sizeLine := by rw [sizeLine_eq]; decide
  have hz2 : 2 ≤ sizeLine := by rw [sizeLine_eq]; decide
  refine ⟨q, rateL_ok q hq, ?_⟩
  have e : rateL.map frq = [.tup [.int 0, .int 1], .tup [.int 1, .int 1], .tup [.int 1, .int 2], .tup [.int 7, .int 3], .tup [.int 3, .int 1], .tup [.int 1, .int 20], .tup [.int 5, .int 7], .tup [.int 1000000, .int 1], .tup [.int 1, .int 1000]] := rfl
  rw [e] at hp
  generalize frq q = f at *
  simp [F_law_rate, s_law_rate, hz, hz2, hp]
theorem lwants_ok (ns : List Int) (h : ns.length ≤ 63) (n : Nat) (hn : n < 700000) {b : List (Str × Way)} (hb : Book b) : ∃ ws n', Wants ws ∧ n ≤ n' ∧ n' ≤ n + 1000 ∧ F_law_wants [.fz (intsD ns), townA n, .fz (bookD b)] = .val (planD ws) [.fz (intsD ns), townA n', .fz (bookD b)] := by
  obtain ⟨x, hx, hp⟩ := pickL_ok ns h n (by omega) [.int 4, .int 4, .int 7] (by simp)
  have : ∃ m : Int, x = .int m ∧ 0 < m ∧ m ≤ 7 := by
    simp only [List.mem_cons, List.not_mem_nil, or_false] at hx
    rcases hx with rfl | rfl | rfl <;> exact ⟨_, rfl, by decide, by decide⟩
  obtain ⟨m, rfl, m0, m1⟩ := this
  obtain ⟨r, r0, r1, hr⟩ := draw_ok ns h (n + 1) (by omega) m m0
  have hlen : (rangeD 0 r.toNat).length = r.toNat := by simp [rangeD]
  obtain ⟨ag, hg⟩ := lgoods_ok hb
  have hgl := goodsB_len hb
  have key := for_inv (g := .nm 4) (b := seqS (setS 5 (callF 3 F_law_pick (datA (varE 0) (refA 1 (datA (binF addO (datO (callF 1 F_law_goods (datA (varE 2) (nilA)))) (datO (mapO OD.dat (lstN (consL (callF 2 F_law_good (datA (varE 0) (refA 1 (nilA)))) (nilL)))))) (nilA)))))) (seqS (putAt 3 (varE 5) (callF 2 F_law_rate (datA (varE 0) (refA 1 (nilA))))) (nxS)))
    (fun j ρ => ∃ ws n' k4 k5, ρ = [AV.fz (intsD ns), townA n', .fz (bookD b), .ow false (.d (kvsD frq ws)), k4, k5] ∧ Jk k4 ∧ Jk k5 ∧ n + 2 ≤ n' ∧ n' ≤ n + 2 + 20 * j ∧ (ws.map (·.1)).Nodup ∧ (∀ p ∈ ws, Wd p.1 ∧ Rt p.2) ∧ ws.length ≤ j)
    (rangeD 0 r.toNat) 0 [AV.fz (intsD ns), townA (n + 2), .fz (bookD b), .ow false (.d []), .un, .un] ⟨[], n + 2, .un, .un, rfl, .un, .un, by omega, by omega, by simp, by simp, by simp⟩ ?_
  · obtain ⟨ρ', hf, ws, n', k4, k5, rfl, _, _, a1, a2, nd, al, l1⟩ := key
    rw [hlen] at a2 l1
    refine ⟨ws, n', ⟨by omega, nd, fun p hp => (al p hp).1, fun p hp => (al p hp).2⟩, by omega, by omega, ?_⟩
    have hz : 3 ≤ sizeLine := by rw [sizeLine_eq]; decide
    have hm2 : -4611686018427387904 ≤ r ∧ r < 4611686018427387904 := by omega
    show _ = FOut.val (.dic (kvsD frq ws)) _
    generalize bookD b = B at *
    generalize kvsD frq ws = K at *
    simp [F_law_wants, s_law_wants, hz, hp, hr, hm2, hf]
  · rintro j d ρ hd ⟨ws, n', k4, k5, rfl, hk4, hk5, a1, a2, nd, al, l1⟩
    have hj : j < 8 := by
      have := (List.getElem?_eq_some_iff.mp hd).1
      rw [hlen] at this; omega
    obtain ⟨z, n2, wz, b1, b2, hgd⟩ := good_ok ns h n' (by omega)
    have e1 : addO (.lst ((goodsB b).map D.str)) (.lst [.str z]) = some (.lst ((goodsB b ++ [z]).map D.str)) := by
      rw [List.map_append]; exact add_strs _ _ (by simp [sizeLine_eq]; omega)
    obtain ⟨x, hx, hpk⟩ := pickL_ok ns h n2 (by omega) ((goodsB b ++ [z]).map D.str) (by simp)
    obtain ⟨y, hy, rfl⟩ := List.mem_map.mp hx
    have wy : Wd y := by
      rcases List.mem_append.mp hy with hy | hy
      · exact goodsB_wd hb hy
      · rw [List.mem_singleton] at hy; subst hy; exact wz
    obtain ⟨q, hq, hrt⟩ := lrate_draw ns h (n2 + 1) (by omega)
    have hz1 : (kvsD frq ws).length < sizeLine := by rw [kvsD_length, sizeLine_eq]; omega
    have hz2 : 1 ≤ sizeLine := by rw [sizeLine_eq]; decide
    obtain ⟨c1, c2, c3⟩ := putA_length ws y q
    refine ⟨[AV.fz (intsD ns), townA n', .fz (bookD b), .ow false (.d (kvsD frq ws)), .fz d, k5], [AV.fz (intsD ns), townA (n2 + 1 + 1), .fz (bookD b), .ow false (.d (kvsD frq (putA ws y q))), .fz d, .fz (.str y)], ?_, ?_, putA ws y q, n2 + 1 + 1, .fz d, .fz (.str y), rfl, .fz, .fz, by omega, by omega, putA_nodup nd, fun p hp => ?_, by omega⟩
    · rcases hk4 with rfl | ⟨d, rfl⟩ <;> simp
    · rw [← putD_kvs]
      generalize bookD b = B at *
      generalize (goodsB b).map D.str = M at *
      generalize (goodsB b ++ [z]).map D.str = M2 at *
      generalize frq q = fq at *
      generalize kvsD frq ws = K at *
      rcases hk5 with rfl | ⟨d5, rfl⟩ <;> simp [hg, hgd, e1, hpk, hrt, hz1, hz2]
    · rcases putA_mem hp with rfl | hp
      · exact ⟨wy, hq⟩
      · exact al p hp
def planL : List Rat := [0, 1, ⟨1, 2, by decide, by decide⟩, ⟨7, 3, by decide, by decide⟩, ⟨1, 20, by decide, by decide⟩, ⟨1000003, 7, by decide, by decide⟩]
theorem planL_ok : ∀ q ∈ planL, Sb 20 5 q ∧ 0 ≤ q := by
  intro q hq
  simp only [planL, List.mem_cons, List.not_mem_nil, or_false] at hq
  rcases hq with rfl | rfl | rfl | rfl | rfl | rfl <;> exact ⟨⟨by decide, by decide⟩, by decide⟩
theorem plan_loop (ns : List Int) (h : ns.length ≤ 63) (bk : D) : ∀ (zs : List Str) (acc : List D) (n : Nat), n + zs.length < 1000000 → acc.length + zs.length ≤ sizeLine →
    ∃ ps : List (Str × Rat), ps.map (·.1) = zs ∧ (∀ p ∈ ps, Sb 20 5 p.2 ∧ 0 ≤ p.2) ∧ lcLoop (.nm 4) yesF (tupE (consL (varE 4) (consL (callF 3 F_law_pick (datA (varE 0) (refA 1 (datA (varE 3) (nilA))))) (nilL)))) [4] (zs.map D.str) [.fz (intsD ns), townA n, .fz bk, .fz (.lst (planL.map frq)), .un] acc =
      .val (acc ++ ps.map fun p => .tup [.str p.1, frq p.2]) [.fz (intsD ns), townA (n + zs.length), .fz bk, .fz (.lst (planL.map frq)), .un]
  | [], acc, n, _, _ => ⟨[], rfl, by simp, by simp [lcLoop]⟩
  | z :: zs, acc, n, h1, h2 => by
    rw [List.length_cons] at h1 h2
    obtain ⟨x, hx, hp⟩ := pickL_ok ns h n (by omega) (planL.map frq) (by simp [planL])
    obtain ⟨q, hq, rfl⟩ := List.mem_map.mp hx
    have hz : acc.length < sizeLine := by omega
    have hz2 : 2 ≤ sizeLine := by rw [sizeLine_eq]; decide
    obtain ⟨ps, g1, g2, g3⟩ := plan_loop ns h bk zs (acc ++ [.tup [.str z, frq q]]) (n + 1) (by omega) (by simp; omega)
    refine ⟨(z, q) :: ps, by rw [List.map_cons, g1], fun p hp => ?_, ?_⟩
    · cases hp with
      | head => exact planL_ok q hq
      | tail _ hp => exact g2 p hp
    · rw [List.map_cons]
      unfold lcLoop
      generalize planL.map frq = L at *
      rw [List.map_cons]
      dsimp only
      generalize frq q = f at *
      simp [hp, hz, hz2]
      rw [g3]
      simp [Nat.add_assoc, Nat.add_comm, Nat.add_left_comm]
theorem lplan_ok (ns : List Int) (h : ns.length ≤ 63) (n : Nat) (hn : n < 900000) {b : List (Str × Way)} (hb : Book b) : ∃ ps, PlanP b ps 20 5 ∧ F_law_plan [.fz (intsD ns), townA n, .fz (bookD b)] = .val (planD ps) [.fz (intsD ns), townA (n + b.length), .fz (bookD b)] := by
  have h6 := hb.hi
  obtain ⟨ps, g1, g2, g3⟩ := plan_loop ns h (bookD b) (b.map (·.1)) [] n (by rw [List.length_map]; omega) (by rw [List.length_nil, List.length_map, sizeLine_eq]; omega)
  refine ⟨ps, ⟨⟨g1 ▸ List.Perm.refl _, fun p hp => (g2 p hp).1⟩, fun p hp => (g2 p hp).2⟩, ?_⟩
  have hk : lkD (bookD b) = some (.l ((b.map (·.1)).map D.str)) := lk_kvs (enc := wayD) b
  have hz : 6 ≤ sizeLine := by rw [sizeLine_eq]; decide
  have hz2 : 2 ≤ sizeLine := by rw [sizeLine_eq]; decide
  have hd := dict_kvs (enc := frq) (s := ps) (by rw [g1]; exact hb.nd)
  have e : planL.map frq = [.tup [.int 0, .int 1], .tup [.int 1, .int 1], .tup [.int 1, .int 2], .tup [.int 7, .int 3], .tup [.int 1, .int 20], .tup [.int 1000003, .int 7]] := rfl
  rw [e, List.nil_append, List.length_map] at g3
  show _ = FOut.val (.dic (kvsD frq ps)) _
  generalize bookD b = B at *
  generalize (b.map (·.1)).map D.str = M at *
  generalize (ps.map fun p => D.tup [.str p.1, frq p.2]) = N at *
  generalize kvsD frq ps = K at *
  simp [F_law_plan, s_law_plan, hk, hz, hz2, hd, g3]
end Wk
set_option Elab.async false
set_option linter.all false
set_option maxRecDepth 100000
set_option maxHeartbeats 4000000
/- k25: what can't be raw goods, wants, parts of plans -/
namespace Wk
open PySem PySem.Spec L2 DL
def manyL : List D := [.str "a", .str "aa", .str "aaa", .str "aaaa", .str "aaaaa", .str "aaaaaa", .str "aaaaaaa", .str "aaaaaaaa", .str "ba", .str "bb", .str "bc", .str "bd", .str "be", .str "bf", .str "bg", .str "bh", .str "bi", .str "bj", .str "bk", .str "bl", .str "bm"]
def oddR : List D := [.lst [.str "b", .str "a"], .lst [.str "a", .str "a"], .lst [.str "A"], .lst [.str "a", .non], .tup [.str "a"], .non, .str "a", .lst [.str ""], .lst [.str "abcdefghi"]]
theorem raws_odd : ∀ x ∈ oddR ++ [.lst manyL], ∃ as, F_look_raws [.fz x] = .exc "BadGoods" as := by
  intro x hx
  simp only [oddR, List.mem_append, List.mem_cons, List.not_mem_nil, or_false] at hx
  rcases hx with (rfl | rfl | rfl | rfl | rfl | rfl | rfl | rfl | rfl) | rfl
  · exact lraws_turn (L := ["b", "a"]) (by decide) (fun z hz => by
      simp only [List.mem_cons, List.not_mem_nil, or_false] at hz
      rcases hz with rfl | rfl <;> exact ⟨by decide +kernel, by decide +kernel, by decide +kernel⟩) (fun e => by
      have := srtSet_up ["b", "a"]
      rw [e] at this
      rw [List.pairwise_cons] at this
      have := this.1 "a" (.head _)
      revert this; decide +kernel)
  · exact lraws_turn (L := ["a", "a"]) (by decide) (fun z hz => by
      simp only [List.mem_cons, List.not_mem_nil, or_false] at hz
      rcases hz with rfl | rfl <;> exact ⟨by decide +kernel, by decide +kernel, by decide +kernel⟩) (fun e => by
      have := srtSet_nodup ["a", "a"]
      rw [e] at this
      revert this; decide +kernel)
  all_goals exact ⟨_, rfl⟩
def t11 : D := .tup [.int 1, .int 1]
def ratesN : List D := [.tup [.int 2, .int 4], .tup [.int 1000001, .int 1], .tup [.int 1, .int 1001], .tup [.int (-1), .int 1], .tup [.int 1, .int 0], .int 1, .non, .tup [.bl true, .int 1], .lst [.int 1, .int 1], .tup [.int 0, .int 2], .tup [.int 1]]
theorem worse_no : ∀ x ∈ ratesN, ∃ as, F_look_wants [.fz (.dic [(.inr "gear", x)])] = .exc "BadRates" as := by
  intro x hx
  simp only [ratesN, List.mem_cons, List.not_mem_nil, or_false] at hx
  rcases hx with rfl | rfl | rfl | rfl | rfl | rfl | rfl | rfl | rfl | rfl | rfl <;> exact ⟨_, rfl⟩
def namedL : List D := [.str "", .str "A", .int 1, .non, .str "abcdefghi"]
theorem named_no : ∀ x ∈ namedL, ∃ y, dX (.lst [.tup [x, t11]]) = some y ∧ ∃ as, F_look_wants [.fz y] = .exc "BadRates" as := by
  intro x hx
  simp only [namedL, List.mem_cons, List.not_mem_nil, or_false] at hx
  rcases hx with rfl | rfl | rfl | rfl | rfl <;> exact ⟨_, rfl, _, rfl⟩
def badP : List D := [.tup [.int 2, .int 4], .tup [.int (-1), .int 2], .tup [.int 1, .int 0], .int 1, .non, .lst [.int 1, .int 2], .tup [.int 1], .tup [.bl true, .int 1], .tup [.int 0, .int 2], .str "1"]
theorem badP_no : ∀ x ∈ badP, ∃ as, F_is_told [.fz x] = .val (.bl false) as := by
  intro x hx
  simp only [badP, List.mem_cons, List.not_mem_nil, or_false] at hx
  rcases hx with rfl | rfl | rfl | rfl | rfl | rfl | rfl | rfl | rfl | rfl <;> exact ⟨_, rfl⟩
def wordsN : List D := [.str "", .str "A", .str "abcdefghi", .non, .int 5]
theorem words_no : ∀ x ∈ wordsN, ∃ as, F_is_word [.fz x] = .val (.bl false) as := by
  intro x hx
  simp only [wordsN, List.mem_cons, List.not_mem_nil, or_false] at hx
  rcases hx with rfl | rfl | rfl | rfl | rfl <;> exact ⟨_, rfl⟩
/-- what a look tells goes on -/
theorem paper_exc {B R U : D} {c : Str} {a : List AV} (h : F_look_all [.fz B, .fz R, .fz U] = .exc c a) : ∃ as, F_paper [.fz B, .fz R, .fz U] = .exc c as := ⟨[.fz B, .fz R, .fz U], by simp [F_paper, s_paper, h]⟩
theorem shows_exc {B R U P : D} {c : Str} {a : List AV} (h : F_look_all [.fz B, .fz R, .fz U] = .exc c a) : ∃ as, F_shows [.fz B, .fz R, .fz U, .fz P] = .exc c as := ⟨[.fz B, .fz R, .fz U, .fz P], by simp [F_shows, s_shows, h]⟩
theorem plan_exc {B R U : D} {c : Str} {a : List AV} (h : F_look_all [.fz B, .fz R, .fz U] = .exc c a) : ∃ as, F_plan [.fz B, .fz R, .fz U] = .exc c as := ⟨[.fz B, .fz R, .fz U], by simp [F_plan, s_plan, h]⟩
theorem layers_exc {B R : D} {c : Str} {a a2 : List AV} (h : F_look_book [.fz B] = .val .non a) (h2 : F_look_raws [.fz R] = .exc c a2) : ∃ as, F_layers [.fz B, .fz R] = .exc c as := ⟨[.fz B, .fz R], by simp [F_layers, s_layers, h, h2]⟩
theorem never_exc {B R : D} {c : Str} {a : List AV} (h : F_layers [.fz B, .fz R] = .exc c a) : ∃ as, F_never [.fz B, .fz R] = .exc c as := ⟨[.fz B, .fz R], by simp [F_never, s_never, h]⟩
theorem givers_exc {B z : D} {a a2 : List AV} (h : F_look_book [.fz B] = .val .non a) (h2 : F_is_word [.fz z] = .val (.bl false) a2) : ∃ as, F_givers [.fz B, .fz z] = .exc "BadGoods" as := ⟨[.fz B, .fz z], by simp [F_givers, s_givers, h, h2]⟩
theorem takers_exc {B z : D} {a a2 : List AV} (h : F_look_book [.fz B] = .val .non a) (h2 : F_is_word [.fz z] = .val (.bl false) a2) : ∃ as, F_takers [.fz B, .fz z] = .exc "BadGoods" as := ⟨[.fz B, .fz z], by simp [F_takers, s_takers, h, h2]⟩
end Wk
set_option Elab.async false
set_option linter.all false
set_option maxRecDepth 100000
set_option maxHeartbeats 4000000
/- k25: told, heard -/
namespace Wk
open PySem PySem.Spec L2 DL
theorem one0 {B R U P : D} {c : Str} {a : List AV} (h : F_meets [.fz B, .fz R, .fz U, .fz P] = .exc c a) : ∃ as, F_law_one [.fz (.int 0), .fz (.lst [B, R, U, P])] = .exc c as := ⟨[.fz (.int 0), .fz (.lst [B, R, U, P])], by simp [F_law_one, s_law_one, lstG, ifE, h]⟩
theorem one1 {B R U P : D} {c : Str} {a : List AV} (h : F_leavings [.fz B, .fz R, .fz U, .fz P] = .exc c a) : ∃ as, F_law_one [.fz (.int 1), .fz (.lst [B, R, U, P])] = .exc c as := ⟨[.fz (.int 1), .fz (.lst [B, R, U, P])], by simp [F_law_one, s_law_one, lstG, ifE, h]⟩
theorem one2 {B R U P : D} {c : Str} {a : List AV} (h : F_is_least [.fz B, .fz R, .fz U, .fz P] = .exc c a) : ∃ as, F_law_one [.fz (.int 2), .fz (.lst [B, R, U, P])] = .exc c as := ⟨[.fz (.int 2), .fz (.lst [B, R, U, P])], by simp [F_law_one, s_law_one, lstG, ifE, h]⟩
theorem one3 {B R U P : D} {c : Str} {a : List AV} (h : F_least_power [.fz B, .fz R, .fz U] = .exc c a) : ∃ as, F_law_one [.fz (.int 3), .fz (.lst [B, R, U, P])] = .exc c as := ⟨[.fz (.int 3), .fz (.lst [B, R, U, P])], by simp [F_law_one, s_law_one, lstG, ifE, h]⟩
theorem one4 {B R U P : D} {c : Str} {a : List AV} (h : F_paper [.fz B, .fz R, .fz U] = .exc c a) : ∃ as, F_law_one [.fz (.int 4), .fz (.lst [B, R, U, P])] = .exc c as := ⟨[.fz (.int 4), .fz (.lst [B, R, U, P])], by simp [F_law_one, s_law_one, lstG, ifE, h]⟩
theorem one5 {B R U P : D} {c : Str} {a : List AV} (h : F_shows [.fz B, .fz R, .fz U, .fz .non] = .exc c a) : ∃ as, F_law_one [.fz (.int 5), .fz (.lst [B, R, U, P])] = .exc c as := ⟨[.fz (.int 5), .fz (.lst [B, R, U, P])], by simp [F_law_one, s_law_one, lstG, ifE, h]⟩
theorem one6 {B R U P : D} {c : Str} {a : List AV} (h : F_plan [.fz B, .fz R, .fz U] = .exc c a) : ∃ as, F_law_one [.fz (.int 6), .fz (.lst [B, R, U, P])] = .exc c as := ⟨[.fz (.int 6), .fz (.lst [B, R, U, P])], by simp [F_law_one, s_law_one, lstG, ifE, h]⟩
theorem one7 {B R U P : D} {c : Str} {a : List AV} (h : F_layers [.fz B, .fz R] = .exc c a) : ∃ as, F_law_one [.fz (.int 7), .fz (.lst [B, R, U, P])] = .exc c as := ⟨[.fz (.int 7), .fz (.lst [B, R, U, P])], by simp [F_law_one, s_law_one, lstG, ifE, h]⟩
theorem one8 {B R U P : D} {c : Str} {a : List AV} (h : F_never [.fz B, .fz R] = .exc c a) : ∃ as, F_law_one [.fz (.int 8), .fz (.lst [B, R, U, P])] = .exc c as := ⟨[.fz (.int 8), .fz (.lst [B, R, U, P])], by simp [F_law_one, s_law_one, lstG, ifE, h]⟩
theorem oth0 {B P Z : D} {c : Str} {a : List AV} (h : F_rates [.fz B, .fz P] = .exc c a) : ∃ as, F_law_other [.fz (.int 0), .fz B, .fz P, .fz Z] = .exc c as := ⟨[.fz (.int 0), .fz B, .fz P, .fz Z], by simp [F_law_other, s_law_other, ifE, h]⟩
theorem oth1 {B P Z : D} {c : Str} {a : List AV} (h : F_power [.fz B, .fz P] = .exc c a) : ∃ as, F_law_other [.fz (.int 1), .fz B, .fz P, .fz Z] = .exc c as := ⟨[.fz (.int 1), .fz B, .fz P, .fz Z], by simp [F_law_other, s_law_other, ifE, h]⟩
theorem oth2 {B P Z : D} {c : Str} {a : List AV} (h : F_works [.fz B, .fz P] = .exc c a) : ∃ as, F_law_other [.fz (.int 2), .fz B, .fz P, .fz Z] = .exc c as := ⟨[.fz (.int 2), .fz B, .fz P, .fz Z], by simp [F_law_other, s_law_other, ifE, h]⟩
theorem oth3 {B P Z : D} {c : Str} {a : List AV} (h : F_givers [.fz B, .fz Z] = .exc c a) : ∃ as, F_law_other [.fz (.int 3), .fz B, .fz P, .fz Z] = .exc c as := ⟨[.fz (.int 3), .fz B, .fz P, .fz Z], by simp [F_law_other, s_law_other, ifE, h]⟩
theorem oth4 {B P Z : D} {c : Str} {a : List AV} (h : F_takers [.fz B, .fz Z] = .exc c a) : ∃ as, F_law_other [.fz (.int 4), .fz B, .fz P, .fz Z] = .exc c as := ⟨[.fz (.int 4), .fz B, .fz P, .fz Z], by simp [F_law_other, s_law_other, ifE, h]⟩
theorem told_exc25 {w : Int} {L : D} {c k : Str} {a : List AV} (hs : sbW "WorkError" c = some true) (hk : ∃ as, F_law_refusal [.fz (.exc c)] = .val (.tup [.str "refused", .str k]) as) (h1 : F_law_one [.fz (.int w), .fz L] = .exc c a) : ∃ as, F_law_told [.fz (.int w), .fz L] = .val (.tup [.str "refused", .str k]) as := by
  obtain ⟨as, hk⟩ := hk
  refine ⟨_, body_rt (ρ0 := [.fz (.int w), .fz L, .un, .un, .un]) (ρ := [.fz (.int w), .fz L, .fz (.exc c), .fz .non, .un]) rfl ?_⟩
  refine seq_step (ρ1 := [.fz (.int w), .fz L, .fz .non, .un, .un]) (by simp) ?_
  refine seq_step (ρ1 := [.fz (.int w), .fz L, .fz .non, .fz .non, .un]) (by simp) ?_
  refine seq_step (ρ1 := [.fz (.int w), .fz L, .fz (.exc c), .fz .non, .un]) (tryK_ex (c := c) (ρ1 := [.fz (.int w), .fz L, .fz .non, .fz .non, .un]) (by simp [h1]) hs rfl rfl) ?_
  have e : isO (.exc c) .non = some (.bl false) := rfl
  exact seq_stop (by simp [ifE, e, hk])
theorem heard_exc25 {w : Int} {B P Z : D} {c k : Str} {a : List AV} (hs : sbW "WorkError" c = some true) (hk : ∃ as, F_law_refusal [.fz (.exc c)] = .val (.tup [.str "refused", .str k]) as) (h1 : F_law_other [.fz (.int w), .fz B, .fz P, .fz Z] = .exc c a) : ∃ as, F_law_heard [.fz (.int w), .fz B, .fz P, .fz Z] = .val (.tup [.str "refused", .str k]) as := by
  obtain ⟨as, hk⟩ := hk
  refine ⟨_, body_rt (ρ0 := [.fz (.int w), .fz B, .fz P, .fz Z, .un, .un, .un]) (ρ := [.fz (.int w), .fz B, .fz P, .fz Z, .fz (.exc c), .fz .non, .un]) rfl ?_⟩
  refine seq_step (ρ1 := [.fz (.int w), .fz B, .fz P, .fz Z, .fz .non, .un, .un]) (by simp) ?_
  refine seq_step (ρ1 := [.fz (.int w), .fz B, .fz P, .fz Z, .fz .non, .fz .non, .un]) (by simp) ?_
  refine seq_step (ρ1 := [.fz (.int w), .fz B, .fz P, .fz Z, .fz (.exc c), .fz .non, .un]) (tryK_ex (c := c) (ρ1 := [.fz (.int w), .fz B, .fz P, .fz Z, .fz .non, .fz .non, .un]) (by simp [h1]) hs rfl rfl) ?_
  have e : isO (.exc c) .non = some (.bl false) := rfl
  exact seq_stop (by simp [ifE, e, hk])
end Wk
set_option Elab.async false
set_option linter.all false
set_option maxRecDepth 100000
set_option maxHeartbeats 400000
/- k25: what is no plan -/
namespace Wk
open PySem PySem.Spec L2 DL
theorem lplan_odd {B : D} {xs : List Str} (hz : xs.length ≤ 1000) : ∃ as, F_look_plan [.fz B, .fz (.odd (xs.map D.str ++ [.non]))] = .exc "BadPlan" as := by
  have ed : xs.map D.str ++ [.non] = (xs.map some ++ [none]).map fun o : Option Str => match o with | some z => D.str z | none => D.non := by
    rw [List.map_append, List.map_map]; rfl
  have l1 := lc_m (g := .nm 2) (te := unF (isiD "str") (varR 2)) (vs := [2]) (ρ := [.fz B, .fz (.odd (xs.map D.str ++ [.non])), .un]) (fun o : Option Str => match o with | some z => D.str z | none => D.non) (fun o => .bl o.isSome) (xs.map some ++ [none]) (by rw [List.length_append, List.length_map, List.length_singleton, sizeLine_eq]; omega)
    (fun o ho => by
      generalize xs.map D.str ++ [D.non] = N
      cases o with
      | none => exact ⟨[.fz B, .fz (.odd N), .fz .non], by simp, by simp; rfl, by simp, by simp⟩
      | some z => exact ⟨[.fz B, .fz (.odd N), .fz (.str z)], by simp, by simp, by simp, by simp⟩)
  rw [← ed] at l1
  have e1 : allD (.lst ((xs.map some ++ [none]).map fun o : Option Str => .bl o.isSome)) = some (.bl false) := all_false ⟨none, by simp, rfl⟩
  generalize ((xs.map some ++ [none]).map fun o : Option Str => D.bl o.isSome) = M at *
  generalize xs.map D.str ++ [D.non] = N at *
  refine ⟨[.fz B, .fz (.odd N)], ?_⟩
  simp [F_look_plan, s_look_plan, l1, e1]
theorem keyD_kvs {α : Type} {enc : α → D} (ps : List (Str × α)) : ((kvsD enc ps).map fun q => keyD q.1) = (ps.map (·.1)).map D.str := by
  have := lk_kvs (enc := enc) ps
  exact OD.l.inj (Option.some.inj this)
theorem bad_plan {b : List (Str × Way)} (hb : Book b) (nm : ∀ p ∈ b, p.1 ∈ namesL) {ps : List (Str × Rat)} (hp : PlanP b ps 20 5) (ns : List Int) (h : ns.length ≤ 63) (n : Nat) (hn : n < 700000) :
    ∃ x n', n' ≤ n + 10 ∧ F_law_bad_plan [.fz (intsD ns), townA n, .fz (bookD b), .fz (planD ps)] = .val x [.fz (intsD ns), townA n', .fz (bookD b), .fz (planD ps)] ∧ ∃ as, F_look_plan [.fz (bookD b), .fz x] = .exc "BadPlan" as := by
  have h6 := hb.hi
  have hplen : ps.length = b.length := by
    have e := hp.nm.length_eq
    rwa [List.length_map, List.length_map] at e
  have e2 : (psD ps).length = ps.length := by unfold psD; rw [List.length_map]
  have nd : (ps.map (·.1)).Nodup := hp.nm.nodup_iff.mpr hb.nd
  have hsk : skD (bookD b) = some (.l ((nmsB b).map D.str)) := sk_book b
  have hne : (nmsB b).map D.str ≠ [] := fun e => by
    have := congrArg List.length e
    rw [List.length_map, nms_len] at this
    have h1 := hb.lo
    rw [List.length_nil] at this
    omega
  obtain ⟨x1, hx1, hpk1⟩ := pickL_ok ns h n (by omega) ((nmsB b).map D.str) hne
  obtain ⟨z, hz, rfl⟩ := List.mem_map.mp hx1
  have hzp : z ∈ ps.map (·.1) := hp.nm.mem_iff.mpr ((DLS.srt_perm _).mem_iff.mp hz)
  obtain ⟨x2, hx2, hpk2⟩ := pickL_ok ns h (n + 1) (by omega) badP (by simp [badP])
  obtain ⟨x3, hx3, hpk3⟩ := pickL_ok ns h (n + 2) (by omega) [.str "none", .int 1, .non] (by simp)
  have hz1 : 1 ≤ sizeLine := by rw [sizeLine_eq]; decide
  have hz2 : 2 ≤ sizeLine := by rw [sizeLine_eq]; decide
  have hz3 : 3 ≤ sizeLine := by rw [sizeLine_eq]; decide
  have hz6 : 6 ≤ sizeLine := by rw [sizeLine_eq]; decide
  have hz10 : 10 ≤ sizeLine := by rw [sizeLine_eq]; decide
  have hd1 : dictD (planD ps) = some (.d (kvsD id (psD ps))) := by rw [← kvsD_psD]; rfl
  have hlt : (kvsD id (psD ps)).length < sizeLine := by rw [kvsD_length, sizeLine_eq]; omega
  have hpu1 : putD (kvsD id (psD ps)) (.inr z) x2 = kvsD id (putA (psD ps) z x2) := putD_kvs (enc := id) (psD ps) z x2
  have hzv : ∃ v, valD (kvsD id (psD ps)) (.inr z) = some v := by
    obtain ⟨q, hq, rfl⟩ := List.mem_map.mp hzp
    exact ⟨frq q.2, valD_kvs (enc := id) (by rw [psD_keys]; exact nd) (a := frq q.2) (List.mem_map.mpr ⟨q, hq, rfl⟩)⟩
  obtain ⟨zv, hzv⟩ := hzv
  have hdr : dropD (kvsD id (psD ps)) (.inr z) = kvsD id ((psD ps).filter fun p => decide (p.1 ≠ z)) := drop_kvs _ _
  have hks : ((kvsD id (psD ps)).map fun q => keyD q.1) = ((psD ps).map (·.1)).map D.str := keyD_kvs (enc := id) (psD ps)
  have hmod : ∃ as, F_look_plan [.fz (bookD b), .fz (.odd (((psD ps).map (·.1)).map D.str ++ [.non]))] = .exc "BadPlan" as := lplan_odd (by rw [List.length_map]; omega)
  have hmk : ∀ k3 : Key, k3 = .inr "none" ∨ k3 = .inl 1 → ∃ as, F_look_plan [.fz (bookD b), .fz (.dic (putD (kvsD id (psD ps)) k3 (.tup [.int 1, .int 1])))] = .exc "BadPlan" as := by
    have one : ∃ as, F_is_told [.fz (.tup [.int 1, .int 1])] = .val (.bl true) as := ⟨_, rfl⟩
    have more : ∀ w : Str, Plain w → w ∉ namesL → ∃ as, F_look_plan [.fz (bookD b), .fz (.dic (putD (kvsD id (psD ps)) (.inr w) (.tup [.int 1, .int 1])))] = .exc "BadPlan" as := fun w hw hwn => by
      have hnew : w ∉ (psD ps).map (·.1) := fun hm => by
        rw [psD_keys] at hm
        obtain ⟨q, hq, e⟩ := List.mem_map.mp (hp.nm.mem_iff.mp hm)
        exact hwn (by rw [← e]; exact nm q hq)
      have e : putD (kvsD id (psD ps)) (.inr w) (.tup [.int 1, .int 1]) = kvsD id (putA (psD ps) w (.tup [.int 1, .int 1])) := putD_kvs (enc := id) (psD ps) w (.tup [.int 1, .int 1])
      rw [e, putA_new hnew]
      refine bad_names hb ?_ ?_ ?_ ?_ ?_
      · rw [List.map_append, psD_keys]
        exact List.nodup_append.mpr ⟨nd, List.nodup_cons.mpr ⟨by simp, List.nodup_nil⟩, fun a ha c hc => by
          rintro rfl
          simp at hc
          subst hc
          exact hnew (by rw [psD_keys]; exact ha)⟩
      · rw [List.length_append, e2]; simp; omega
      · intro p hp'
        rcases List.mem_append.mp hp' with hp' | hp'
        · exact names_plain hb hp.toPlan p hp'
        · rw [List.mem_singleton] at hp'; subst hp'; exact hw
      · intro p hp'
        rcases List.mem_append.mp hp' with hp' | hp'
        · exact plan_told hp (by decide) (by decide) p hp'
        · rw [List.mem_singleton] at hp'; subst hp'; exact one
      · rw [List.length_append, e2]; simp; omega
    rintro k3 (rfl | rfl)
    · exact more "none" (show PyData.strOk _ = true by decide +kernel) (by decide +kernel)
    · rw [putD_int]
      refine lplan_key ?_ ⟨_, List.mem_append.mpr (.inr (.head _)), 1, rfl⟩
      rw [List.length_append, kvsD_length, e2]; simp; omega
  have hba := bad_value hb hp (by decide) (by decide) hzp (badP_no x2 hx2)
  have hle : ∃ as, F_look_plan [.fz (bookD b), .fz (.dic (kvsD id ((psD ps).filter fun p => decide (p.1 ≠ z))))] = .exc "BadPlan" as := by
    have hsub : ((psD ps).filter fun p => decide (p.1 ≠ z)).Sublist (psD ps) := List.filter_sublist
    have hll : ((psD ps).filter fun p => decide (p.1 ≠ z)).length < (psD ps).length := by
      obtain ⟨q, hq, e⟩ := List.mem_map.mp hzp
      rw [List.length_filter_lt_length_iff_exists]
      exact ⟨(q.1, frq q.2), List.mem_map.mpr ⟨q, hq, rfl⟩, by simp [e]⟩
    refine bad_names hb ((by rw [psD_keys]; exact nd : ((psD ps).map (·.1)).Nodup).sublist (hsub.map _)) (by omega) (fun p hp' => names_plain hb hp.toPlan p (hsub.subset hp')) (fun p hp' => plan_told hp (by decide) (by decide) p (hsub.subset hp')) (by omega)
  have hpk2' : F_law_pick [.fz (intsD ns), townA (n + 1), .fz (.lst [.tup [.int 2, .int 4], .tup [.int (-1), .int 2], .tup [.int 1, .int 0], .int 1, .non, .lst [.int 1, .int 2], .tup [.int 1], .tup [.bl true, .int 1], .tup [.int 0, .int 2], .str "1"])] = .val x2 [.fz (intsD ns), townA (n + 1 + 1), .fz (.lst badP)] := hpk2
  have pe : ∃ pk, planD ps = .dic pk := ⟨_, rfl⟩
  clear hsk hne hx1
  have hsk : skD (bookD b) = some (.l ((nmsB b).map D.str)) := sk_book b
  generalize hLS : ((psD ps).filter fun p => decide (p.1 ≠ z)) = LS at *
  generalize hPA : putA (psD ps) z x2 = PA at *
  generalize hNS : ((psD ps).map (·.1)).map D.str = NS at *
  generalize hK : kvsD id (psD ps) = KK at *
  generalize hKL : kvsD id LS = KL at *
  generalize hKA : kvsD id PA = KA at *
  have fin : ∀ MO : D, (∃ as, F_look_plan [.fz (bookD b), .fz MO] = .exc "BadPlan" as) → ∃ x4, (∃ as, F_look_plan [.fz (bookD b), .fz x4] = .exc "BadPlan" as) ∧ F_law_pick [.fz (intsD ns), townA (n + 3), .fz (.lst [.dic KA, .dic KA, MO, .dic KL, .non, .ol])] = .val x4 [.fz (intsD ns), townA (n + 4), .fz (.lst [.dic KA, .dic KA, MO, .dic KL, .non, .ol])] := fun MO hMO => by
    obtain ⟨x4, hx4, hpk4⟩ := pickL_ok ns h (n + 3) (by omega) [.dic KA, .dic KA, MO, .dic KL, .non, .ol] (by simp)
    refine ⟨x4, ?_, hpk4⟩
    simp only [List.mem_cons, List.not_mem_nil, or_false] at hx4
    rcases hx4 with rfl | rfl | rfl | rfl | rfl | rfl
    · exact hba
    · exact hba
    · exact hMO
    · exact hle
    · exact lplan_nodict rfl
    · exact lplan_nodict rfl
  clear hba hle
  simp only [List.mem_cons, List.not_mem_nil, or_false] at hx3
  rcases hx3 with rfl | rfl | rfl
  · obtain ⟨x4, hx4, hpk4⟩ := fin _ (hmk _ (.inl rfl))
    refine ⟨x4, n + 4, by omega, ?_, hx4⟩
    clear hx4 fin hmod hmk
    obtain ⟨pk, pe⟩ := pe
    generalize hB : bookD b = B at *
    generalize hS : intsD ns = S at *
    generalize hNM : (nmsB b).map D.str = NM at *
    rw [pe] at hd1 ⊢
    have kn : keyOf .non = none := rfl
    have kn1 : keyOf (.str "none") = some (.inr "none") := rfl
    have kn2 : keyOf (.int 1) = some (.inl 1) := rfl
    refine body_rt (ρ0 := [.fz S, townA (n), .fz B, .fz (.dic pk), .un, .un, .un, .un]) (ρ := [.fz S, townA (n + 4), .fz B, .fz (.dic pk), .fz (.str z), .fz (.dic KA), .fz (.dic (putD KK (.inr "none") (.tup [.int 1, .int 1]))), .fz (.dic KL)]) rfl ?_
    refine seq_step (ρ1 := [.fz S, townA (n + 1), .fz B, .fz (.dic pk), .fz (.str z), .un, .un, .un]) (by simp [hsk, hpk1]) ?_
    refine seq_step (ρ1 := [.fz S, townA (n + 1), .fz B, .fz (.dic pk), .fz (.str z), .ow false (.d KK), .un, .un]) (by simp [hd1]) ?_
    refine seq_step (ρ1 := [.fz S, townA (n + 2), .fz B, .fz (.dic pk), .fz (.str z), .ow false (.d KA), .un, .un]) (by simp [hz10, hz2, hz1, hpk2', hlt, hpu1]) ?_
    refine seq_step (ρ1 := [.fz S, townA (n + 2), .fz B, .fz (.dic pk), .fz (.str z), .ow false (.d KA), .ow false (.d KK), .un]) (by simp [hd1]) ?_
    refine seq_step (ρ1 := [.fz S, townA (n + 3), .fz B, .fz (.dic pk), .fz (.str z), .ow false (.d KA), .ow false (.d (putD KK (.inr "none") (.tup [.int 1, .int 1]))), .un]) (by simp [putM, hz3, hz2, hpk3, hlt, hks, kn, kn1, kn2]) ?_
    refine seq_step (ρ1 := [.fz S, townA (n + 3), .fz B, .fz (.dic pk), .fz (.str z), .ow false (.d KA), .ow false (.d (putD KK (.inr "none") (.tup [.int 1, .int 1]))), .ow false (.d KK)]) (by simp [hd1]) ?_
    refine seq_step (ρ1 := [.fz S, townA (n + 3), .fz B, .fz (.dic pk), .fz (.str z), .ow false (.d KA), .ow false (.d (putD KK (.inr "none") (.tup [.int 1, .int 1]))), .ow false (.d KL)]) (by simp only [e_exprS, dpopE, List.getElem?_cons_zero, List.getElem?_cons_succ, e_varE, e_ob1, e_keyOf, hzv, hdr, e_bind1]; rfl) ?_
    exact seq_stop (by simp [hz6, hpk4, itmE])
  · obtain ⟨x4, hx4, hpk4⟩ := fin _ (hmk _ (.inr rfl))
    refine ⟨x4, n + 4, by omega, ?_, hx4⟩
    clear hx4 fin hmod hmk
    obtain ⟨pk, pe⟩ := pe
    generalize hB : bookD b = B at *
    generalize hS : intsD ns = S at *
    generalize hNM : (nmsB b).map D.str = NM at *
    rw [pe] at hd1 ⊢
    have kn : keyOf .non = none := rfl
    have kn1 : keyOf (.str "none") = some (.inr "none") := rfl
    have kn2 : keyOf (.int 1) = some (.inl 1) := rfl
    refine body_rt (ρ0 := [.fz S, townA (n), .fz B, .fz (.dic pk), .un, .un, .un, .un]) (ρ := [.fz S, townA (n + 4), .fz B, .fz (.dic pk), .fz (.str z), .fz (.dic KA), .fz (.dic (putD KK (.inl 1) (.tup [.int 1, .int 1]))), .fz (.dic KL)]) rfl ?_
    refine seq_step (ρ1 := [.fz S, townA (n + 1), .fz B, .fz (.dic pk), .fz (.str z), .un, .un, .un]) (by simp [hsk, hpk1]) ?_
    refine seq_step (ρ1 := [.fz S, townA (n + 1), .fz B, .fz (.dic pk), .fz (.str z), .ow false (.d KK), .un, .un]) (by simp [hd1]) ?_
    refine seq_step (ρ1 := [.fz S, townA (n + 2), .fz B, .fz (.dic pk), .fz (.str z), .ow false (.d KA), .un, .un]) (by simp [hz10, hz2, hz1, hpk2', hlt, hpu1]) ?_
    refine seq_step (ρ1 := [.fz S, townA (n + 2), .fz B, .fz (.dic pk), .fz (.str z), .ow false (.d KA), .ow false (.d KK), .un]) (by simp [hd1]) ?_
    refine seq_step (ρ1 := [.fz S, townA (n + 3), .fz B, .fz (.dic pk), .fz (.str z), .ow false (.d KA), .ow false (.d (putD KK (.inl 1) (.tup [.int 1, .int 1]))), .un]) (by simp [putM, hz3, hz2, hpk3, hlt, hks, kn, kn1, kn2]) ?_
    refine seq_step (ρ1 := [.fz S, townA (n + 3), .fz B, .fz (.dic pk), .fz (.str z), .ow false (.d KA), .ow false (.d (putD KK (.inl 1) (.tup [.int 1, .int 1]))), .ow false (.d KK)]) (by simp [hd1]) ?_
    refine seq_step (ρ1 := [.fz S, townA (n + 3), .fz B, .fz (.dic pk), .fz (.str z), .ow false (.d KA), .ow false (.d (putD KK (.inl 1) (.tup [.int 1, .int 1]))), .ow false (.d KL)]) (by simp only [e_exprS, dpopE, List.getElem?_cons_zero, List.getElem?_cons_succ, e_varE, e_ob1, e_keyOf, hzv, hdr, e_bind1]; rfl) ?_
    exact seq_stop (by simp [hz6, hpk4, itmE])
  · obtain ⟨x4, hx4, hpk4⟩ := fin _ (hmod)
    refine ⟨x4, n + 4, by omega, ?_, hx4⟩
    clear hx4 fin hmod hmk
    obtain ⟨pk, pe⟩ := pe
    generalize hB : bookD b = B at *
    generalize hS : intsD ns = S at *
    generalize hNM : (nmsB b).map D.str = NM at *
    rw [pe] at hd1 ⊢
    have kn : keyOf .non = none := rfl
    have kn1 : keyOf (.str "none") = some (.inr "none") := rfl
    have kn2 : keyOf (.int 1) = some (.inl 1) := rfl
    refine body_rt (ρ0 := [.fz S, townA (n), .fz B, .fz (.dic pk), .un, .un, .un, .un]) (ρ := [.fz S, townA (n + 4), .fz B, .fz (.dic pk), .fz (.str z), .fz (.dic KA), .fz (.odd (NS ++ [.non])), .fz (.dic KL)]) rfl ?_
    refine seq_step (ρ1 := [.fz S, townA (n + 1), .fz B, .fz (.dic pk), .fz (.str z), .un, .un, .un]) (by simp [hsk, hpk1]) ?_
    refine seq_step (ρ1 := [.fz S, townA (n + 1), .fz B, .fz (.dic pk), .fz (.str z), .ow false (.d KK), .un, .un]) (by simp [hd1]) ?_
    refine seq_step (ρ1 := [.fz S, townA (n + 2), .fz B, .fz (.dic pk), .fz (.str z), .ow false (.d KA), .un, .un]) (by simp [hz10, hz2, hz1, hpk2', hlt, hpu1]) ?_
    refine seq_step (ρ1 := [.fz S, townA (n + 2), .fz B, .fz (.dic pk), .fz (.str z), .ow false (.d KA), .ow false (.d KK), .un]) (by simp [hd1]) ?_
    refine seq_step (ρ1 := [.fz S, townA (n + 3), .fz B, .fz (.dic pk), .fz (.str z), .ow false (.d KA), .fz (.odd (NS ++ [.non])), .un]) (by simp [putM, hz3, hz2, hpk3, hlt, hks, kn, kn1, kn2]) ?_
    refine seq_step (ρ1 := [.fz S, townA (n + 3), .fz B, .fz (.dic pk), .fz (.str z), .ow false (.d KA), .fz (.odd (NS ++ [.non])), .ow false (.d KK)]) (by simp [hd1]) ?_
    refine seq_step (ρ1 := [.fz S, townA (n + 3), .fz B, .fz (.dic pk), .fz (.str z), .ow false (.d KA), .fz (.odd (NS ++ [.non])), .ow false (.d KL)]) (by simp only [e_exprS, dpopE, List.getElem?_cons_zero, List.getElem?_cons_succ, e_varE, e_ob1, e_keyOf, hzv, hdr, e_bind1]; rfl) ?_
    exact seq_stop (by simp [hz6, hpk4, itmE])
end Wk
set_option Elab.async false
set_option linter.all false
set_option maxRecDepth 100000
set_option maxHeartbeats 400000
namespace Wk
open PySem PySem.Spec L2 DL
theorem fin_range (n : Nat) (hn : n ≤ 1000000) {ρ : Ev} : rng1F (consL (conE (.int (n : Int))) nilL) ρ = .val ((List.range n).map fun i : Nat => D.int (i : Int)) ρ := rng_nat (n := n) (by simp) hn
theorem gdR (k : Str) (hk : Plain k) (n : Nat) : Gd 3 (.lst (List.replicate n (.tup [.str "refused", .str k]))) := Gd.lst fun x hx => by
  rw [List.mem_replicate] at hx
  obtain ⟨_, rfl⟩ := hx
  exact Gd.two (n := 1) (Gd.str (show PyData.strOk _ = true by decide +kernel)) (Gd.str hk)
theorem rep_list {f : Ev → Out OD} {g : Ev → Out D} {ρ ρ1 ρ2 : Ev} {xs : List D} {k : Int} (h1 : f ρ = .val (.l xs) ρ1) (h2 : g ρ1 = .val (.int k) ρ2) (hk0 : 0 ≤ k) (hk : k ≤ 1000) (hx : xs.length ≤ 1000) : repN f g ρ = .val (.l (List.replicate k.toNat xs).flatten) ρ2 := by
  unfold repN
  rw [h1, e_ob1]
  dsimp only
  rw [h2, e_ob1]
  dsimp only
  have : xs.length * k.toNat ≤ 1000 * 1000 := Nat.mul_le_mul hx (by omega)
  rw [if_pos ⟨by omega, by omega, by rw [sizeLine_eq]; omega⟩]
theorem lc_bad (k : Str) (m : Nat) (hm : m ≤ 1000) (A0 A1 A6 A7 A10 A11 A12 A13 A14 : AV) (B R U P bd il wr : D) (ht : ∀ i : Nat, i < m → ∃ as, F_law_told [.fz (.int (i : Int)), .fz (.lst [B, bd, il, wr])] = .val (.tup [.str "refused", .str k]) as) : lcLoop (.nm 17) yesF (callF 2 F_law_told (datA (varE 17) (datA (mapO OD.dat (lstN (consL (varE 2) (consL (varE 9) (consL (varE 15) (consL (varE 16) (nilL))))))) (nilA)))) [17] ((List.range m).map fun i : Nat => D.int (i : Int)) [A0, A1, .fz B, .fz R, .fz U, .fz P, A6, A7, .un, .fz bd, A10, A11, A12, A13, A14, .fz il, .fz wr, .un] [] = .val ((List.range m).map fun _ => D.tup [.str "refused", .str k]) [A0, A1, .fz B, .fz R, .fz U, .fz P, A6, A7, .un, .fz bd, A10, A11, A12, A13, A14, .fz il, .fz wr, .un] := by
  refine lc_m (fun i : Nat => D.int (i : Int)) (fun _ => D.tup [.str "refused", .str k]) (List.range m) (by rw [List.length_range, sizeLine_eq]; omega) (fun i hi => ?_)
  obtain ⟨as, ht⟩ := ht i (List.mem_range.mp hi)
  have hz : 4 ≤ sizeLine := by rw [sizeLine_eq]; decide
  refine ⟨[A0, A1, .fz B, .fz R, .fz U, .fz P, A6, A7, .un, .fz bd, A10, A11, A12, A13, A14, .fz il, .fz wr, .fz (.int (i : Int))], by simp, ?_, by simp, by simp⟩
  simp [ht, hz]
theorem lc_ill (k : Str) (m : Nat) (hm : m ≤ 1000) (A0 A1 A6 A7 A10 A11 A12 A13 A14 : AV) (B R U P bd il wr : D) (ht : ∀ i : Nat, i < m → ∃ as, F_law_told [.fz (.int (i : Int)), .fz (.lst [B, R, il, wr])] = .val (.tup [.str "refused", .str k]) as) : lcLoop (.nm 17) yesF (callF 2 F_law_told (datA (varE 17) (datA (mapO OD.dat (lstN (consL (varE 2) (consL (varE 3) (consL (varE 15) (consL (varE 16) (nilL))))))) (nilA)))) [17] ((List.range m).map fun i : Nat => D.int (i : Int)) [A0, A1, .fz B, .fz R, .fz U, .fz P, A6, A7, .un, .fz bd, A10, A11, A12, A13, A14, .fz il, .fz wr, .un] [] = .val ((List.range m).map fun _ => D.tup [.str "refused", .str k]) [A0, A1, .fz B, .fz R, .fz U, .fz P, A6, A7, .un, .fz bd, A10, A11, A12, A13, A14, .fz il, .fz wr, .un] := by
  refine lc_m (fun i : Nat => D.int (i : Int)) (fun _ => D.tup [.str "refused", .str k]) (List.range m) (by rw [List.length_range, sizeLine_eq]; omega) (fun i hi => ?_)
  obtain ⟨as, ht⟩ := ht i (List.mem_range.mp hi)
  have hz : 4 ≤ sizeLine := by rw [sizeLine_eq]; decide
  refine ⟨[A0, A1, .fz B, .fz R, .fz U, .fz P, A6, A7, .un, .fz bd, A10, A11, A12, A13, A14, .fz il, .fz wr, .fz (.int (i : Int))], by simp, ?_, by simp, by simp⟩
  simp [ht, hz]
theorem lc_wrong (k : Str) (m : Nat) (hm : m ≤ 1000) (A0 A1 A6 A7 A10 A11 A12 A13 A14 : AV) (B R U P bd il wr : D) (ht : ∀ i : Nat, i < m → ∃ as, F_law_told [.fz (.int (i : Int)), .fz (.lst [B, R, U, wr])] = .val (.tup [.str "refused", .str k]) as) : lcLoop (.nm 17) yesF (callF 2 F_law_told (datA (varE 17) (datA (mapO OD.dat (lstN (consL (varE 2) (consL (varE 3) (consL (varE 4) (consL (varE 16) (nilL))))))) (nilA)))) [17] ((List.range m).map fun i : Nat => D.int (i : Int)) [A0, A1, .fz B, .fz R, .fz U, .fz P, A6, A7, .un, .fz bd, A10, A11, A12, A13, A14, .fz il, .fz wr, .un] [] = .val ((List.range m).map fun _ => D.tup [.str "refused", .str k]) [A0, A1, .fz B, .fz R, .fz U, .fz P, A6, A7, .un, .fz bd, A10, A11, A12, A13, A14, .fz il, .fz wr, .un] := by
  refine lc_m (fun i : Nat => D.int (i : Int)) (fun _ => D.tup [.str "refused", .str k]) (List.range m) (by rw [List.length_range, sizeLine_eq]; omega) (fun i hi => ?_)
  obtain ⟨as, ht⟩ := ht i (List.mem_range.mp hi)
  have hz : 4 ≤ sizeLine := by rw [sizeLine_eq]; decide
  refine ⟨[A0, A1, .fz B, .fz R, .fz U, .fz P, A6, A7, .un, .fz bd, A10, A11, A12, A13, A14, .fz il, .fz wr, .fz (.int (i : Int))], by simp, ?_, by simp, by simp⟩
  simp [ht, hz]
theorem lc_heard (k : Str) (m : Nat) (hm : m ≤ 1000) (A0 A1 A6 A7 A10 A11 A12 A13 : AV) (B R U P bd il wr wd : D) (ht : ∀ i : Nat, i < m → ∃ as, F_law_heard [.fz (.int (i : Int)), .fz B, .fz wr, .fz wd] = .val (.tup [.str "refused", .str k]) as) : lcLoop (.nm 17) yesF (callF 4 F_law_heard (datA (varE 17) (datA (varE 2) (datA (varE 16) (datA (varE 14) (nilA)))))) [17] ((List.range m).map fun i : Nat => D.int (i : Int)) [A0, A1, .fz B, .fz R, .fz U, .fz P, A6, A7, .un, .fz bd, A10, A11, A12, A13, .fz wd, .fz il, .fz wr, .un] [] = .val ((List.range m).map fun _ => D.tup [.str "refused", .str k]) [A0, A1, .fz B, .fz R, .fz U, .fz P, A6, A7, .un, .fz bd, A10, A11, A12, A13, .fz wd, .fz il, .fz wr, .un] := by
  refine lc_m (fun i : Nat => D.int (i : Int)) (fun _ => D.tup [.str "refused", .str k]) (List.range m) (by rw [List.length_range, sizeLine_eq]; omega) (fun i hi => ?_)
  obtain ⟨as, ht⟩ := ht i (List.mem_range.mp hi)
  refine ⟨[A0, A1, .fz B, .fz R, .fz U, .fz P, A6, A7, .un, .fz bd, A10, A11, A12, A13, .fz wd, .fz il, .fz wr, .fz (.int (i : Int))], by simp, ?_, by simp, by simp⟩
  simp [ht]
theorem lc_heard2 (k : Str) (A0 A1 A6 A7 A10 A11 A12 A13 : AV) (B R U P bd il wr wd : D) (ht : ∀ i ∈ [(3 : Int), 4], ∃ as, F_law_heard [.fz (.int i), .fz B, .fz P, .fz wd] = .val (.tup [.str "refused", .str k]) as) : lcLoop (.nm 17) yesF (callF 4 F_law_heard (datA (varE 17) (datA (varE 2) (datA (varE 5) (datA (varE 14) (nilA)))))) [17] [.int 3, .int 4] [A0, A1, .fz B, .fz R, .fz U, .fz P, A6, A7, .un, .fz bd, A10, A11, A12, A13, .fz wd, .fz il, .fz wr, .un] [] = .val [.tup [.str "refused", .str k], .tup [.str "refused", .str k]] [A0, A1, .fz B, .fz R, .fz U, .fz P, A6, A7, .un, .fz bd, A10, A11, A12, A13, .fz wd, .fz il, .fz wr, .un] := by
  refine lc_m D.int (fun _ => D.tup [.str "refused", .str k]) [3, 4] (by rw [sizeLine_eq]; decide) (fun i hi => ?_)
  obtain ⟨as, ht⟩ := ht i hi
  refine ⟨[A0, A1, .fz B, .fz R, .fz U, .fz P, A6, A7, .un, .fz bd, A10, A11, A12, A13, .fz wd, .fz il, .fz wr, .fz (.int i)], by simp, ?_, by simp, by simp⟩
  simp [ht]
def xs1 : List (Int × Str) := [(1, "a"), (2, "aa"), (3, "aaa"), (4, "aaaa"), (5, "aaaaa"), (6, "aaaaaa"), (7, "aaaaaaa"), (8, "aaaaaaaa")]
def xs2 : List (Int × Str × Str) := [(0, "a", "ba"), (1, "b", "bb"), (2, "c", "bc"), (3, "d", "bd"), (4, "e", "be"), (5, "f", "bf"), (6, "g", "bg"), (7, "h", "bh"), (8, "i", "bi"), (9, "j", "bj"), (10, "k", "bk"), (11, "l", "bl"), (12, "m", "bm")]
theorem xs1_ok : ∀ p ∈ xs1, mulS (.str "a") (.int p.1) = some (.str p.2) := by
  intro p hp
  simp only [xs1, List.mem_cons, List.not_mem_nil, or_false] at hp
  rcases hp with rfl | rfl | rfl | rfl | rfl | rfl | rfl | rfl <;> rfl
theorem xs2_ok : ∀ p ∈ xs2, ixO (.str "abcdefghijklm") (.int p.1) = some (.str p.2.1) ∧ addO (.str "b") (.str p.2.1) = some (.str p.2.2) := by
  intro p hp
  simp only [xs2, List.mem_cons, List.not_mem_nil, or_false] at hp
  rcases hp with rfl | rfl | rfl | rfl | rfl | rfl | rfl | rfl | rfl | rfl | rfl | rfl | rfl <;> exact ⟨rfl, rfl⟩
theorem step7 (A0 A1 A2 A3 A4 A5 A6 : AV) : (setS 7 (binF addO (datO (mapO OD.dat (lcF (rng2F (consL (conE (.int 1)) (consL (conE (.int 9)) (nilL)))) (.nm 8) (yesF) (binF mulS (datO (conE (.str "a"))) (varR 8)) [8]))) (datO (mapO OD.dat (lcF (rng1F (consL (conE (.int 13)) (nilL))) (.nm 8) (yesF) (binF addO (datO (conE (.str "b"))) (datO (binF ixO (datO (conE (.str "abcdefghijklm"))) (varR 8)))) [8]))))) [A0, A1, A2, A3, A4, A5, A6, .un, .un, .un, .un, .un, .un, .un, .un, .un, .un, .un] = .nx [A0, A1, A2, A3, A4, A5, A6, .fz (.lst manyL), .un, .un, .un, .un, .un, .un, .un, .un, .un, .un] := by
  have l1 : lcLoop (.nm 8) yesF (binF mulS (datO (conE (.str "a"))) (varR 8)) [8] (xs1.map fun p => D.int p.1) [A0, A1, A2, A3, A4, A5, A6, .un, .un, .un, .un, .un, .un, .un, .un, .un, .un, .un] [] = .val (xs1.map fun p => D.str p.2) [A0, A1, A2, A3, A4, A5, A6, .un, .un, .un, .un, .un, .un, .un, .un, .un, .un, .un] :=
    lc_m (fun p : Int × Str => D.int p.1) (fun p => D.str p.2) xs1 (by rw [sizeLine_eq]; decide) (fun p hp => by
      have := xs1_ok p hp
      exact ⟨[A0, A1, A2, A3, A4, A5, A6, .un, .fz (.int p.1), .un, .un, .un, .un, .un, .un, .un, .un, .un], by simp, by simp [this], by simp, by simp⟩)
  have l2 : lcLoop (.nm 8) yesF (binF addO (datO (conE (.str "b"))) (datO (binF ixO (datO (conE (.str "abcdefghijklm"))) (varR 8)))) [8] (xs2.map fun p => D.int p.1) [A0, A1, A2, A3, A4, A5, A6, .un, .un, .un, .un, .un, .un, .un, .un, .un, .un, .un] [] = .val (xs2.map fun p => D.str p.2.2) [A0, A1, A2, A3, A4, A5, A6, .un, .un, .un, .un, .un, .un, .un, .un, .un, .un, .un] :=
    lc_m (fun p : Int × Str × Str => D.int p.1) (fun p => D.str p.2.2) xs2 (by rw [sizeLine_eq]; decide) (fun p hp => by
      obtain ⟨h1, h2⟩ := xs2_ok p hp
      exact ⟨[A0, A1, A2, A3, A4, A5, A6, .un, .fz (.int p.1), .un, .un, .un, .un, .un, .un, .un, .un, .un], by simp, by simp [h1, h2], by simp, by simp⟩)
  have r1 : ∀ ρ : Ev, rng2F (consL (conE (.int 1)) (consL (conE (.int 9)) (nilL))) ρ = .val (xs1.map fun p => D.int p.1) ρ := fun ρ => rfl
  have r2 : ∀ ρ : Ev, rng1F (consL (conE (.int 13)) (nilL)) ρ = .val (xs2.map fun p => D.int p.1) ρ := fun ρ => rfl
  have ad : addO (.lst (xs1.map fun p => D.str p.2)) (.lst (xs2.map fun p => D.str p.2.2)) = some (.lst manyL) := add_strs _ _ (by rw [sizeLine_eq]; decide)
  generalize (xs1.map fun p => D.str p.2) = M1 at *
  generalize (xs2.map fun p => D.str p.2.2) = M2 at *
  generalize (xs1.map fun p => D.int p.1) = N1 at *
  generalize (xs2.map fun p => D.int p.1) = N2 at *
  generalize manyL = ML at *
  simp [r1, r2, l1, l2, ad, -e_rng1]
def sevenD : D := .dic (kvsD (fun _ : Unit => .tup [.int 1, .int 1]) [("a", ()), ("b", ()), ("c", ()), ("d", ()), ("e", ()), ("f", ()), ("g", ())])
theorem step13 (A0 A1 A2 A3 A4 A5 A6 A7 A9 A10 A11 A12 : AV) : (setS 13 (mapO OD.dat (unF dictD (datO (mapO OD.dat (lcF (itF (conE (.str "abcdefg"))) (.nm 14) (yesF) (tupE (consL (varE 14) (consL (tupE (consL (conE (.int 1)) (consL (conE (.int 1)) (nilL)))) (nilL)))) [14])))))) [A0, A1, A2, A3, A4, A5, A6, A7, .un, A9, A10, A11, A12, .un, .un, .un, .un, .un] = .nx [A0, A1, A2, A3, A4, A5, A6, A7, .un, A9, A10, A11, A12, .fz sevenD, .un, .un, .un, .un] := by
  have hz2 : 2 ≤ sizeLine := by rw [sizeLine_eq]; decide
  have seven : ("abcdefg" : Str).cps.toList.map (fun c => D.str ⟨#[c]⟩) = [("a" : Str), "b", "c", "d", "e", "f", "g"].map D.str := rfl
  have lc7 : lcLoop (.nm 14) yesF (tupE (consL (varE 14) (consL (tupE (consL (conE (.int 1)) (consL (conE (.int 1)) (nilL)))) (nilL)))) [14] (("abcdefg" : Str).cps.toList.map (fun c => D.str ⟨#[c]⟩)) [A0, A1, A2, A3, A4, A5, A6, A7, .un, A9, A10, A11, A12, .un, .un, .un, .un, .un] [] = .val ([("a" : Str), "b", "c", "d", "e", "f", "g"].map fun k => D.tup [.str k, .tup [.int 1, .int 1]]) [A0, A1, A2, A3, A4, A5, A6, A7, .un, A9, A10, A11, A12, .un, .un, .un, .un, .un] := by
    rw [seven]
    exact lc_m D.str (fun k => D.tup [.str k, .tup [.int 1, .int 1]]) [("a" : Str), "b", "c", "d", "e", "f", "g"] (by rw [sizeLine_eq]; decide) (fun x _ => ⟨[A0, A1, A2, A3, A4, A5, A6, A7, .un, A9, A10, A11, A12, .un, .fz (.str x), .un, .un, .un], by simp, by simp [hz2], by simp, by simp⟩)
  have dc7 : dictD (.lst ([("a" : Str), "b", "c", "d", "e", "f", "g"].map fun k => D.tup [.str k, .tup [.int 1, .int 1]])) = some (.d (kvsD (fun _ : Unit => .tup [.int 1, .int 1]) [("a", ()), ("b", ()), ("c", ()), ("d", ()), ("e", ()), ("f", ()), ("g", ())])) := dict_kvs (enc := fun _ : Unit => .tup [.int 1, .int 1]) (s := [("a", ()), ("b", ()), ("c", ()), ("d", ()), ("e", ()), ("f", ()), ("g", ())]) (by decide +kernel)
  unfold sevenD
  generalize (kvsD (fun _ : Unit => .tup [.int 1, .int 1]) [("a", ()), ("b", ()), ("c", ()), ("d", ()), ("e", ()), ("f", ()), ("g", ())]) = K7 at *
  generalize hSV : ("abcdefg" : Str).cps.toList.map (fun c => D.str ⟨#[c]⟩) = SV at lc7
  generalize hS7 : ([("a" : Str), "b", "c", "d", "e", "f", "g"].map fun k => D.tup [.str k, .tup [.int 1, .int 1]]) = S7 at lc7 dc7
  simp [hSV, lc7, dc7]
end Wk
set_option Elab.async false
set_option linter.all false
set_option maxRecDepth 100000
set_option maxHeartbeats 400000
namespace Wk
open PySem PySem.Spec L2 DL
abbrev ownT (n : Nat) : AV := .ow false (.l (List.replicate n (.int 0)))
theorem law_true (ns : List Int) (h : ns.length ≤ 63) : ∃ as', F_law [.fz (.lst (ns.map D.int))] = .val (.bl true) as' := by
  obtain ⟨b, n1, hb, hnm, _, hn1, hbook⟩ := book_ok2 ns h 0 (by omega) 6 (by decide) (by decide)
  obtain ⟨rs, n2, hr, _, hn2, hraws⟩ := raws_ok ns h n1 (by omega) hb
  obtain ⟨ws, n3, hw, _, hn3, hwants⟩ := lwants_ok ns h n2 (by omega) hb
  have h6 := hb.hi
  obtain ⟨ps, hp, hplan⟩ := lplan_ok ns h n3 (by omega) hb
  have hn4 : n3 + b.length ≤ 4000 := by omega
  generalize n3 + b.length = n4 at hplan hn4
  obtain ⟨bd, hbd, hpk1⟩ := pickL_ok ns h n4 (by omega) (oddR ++ [.lst manyL]) (by simp [oddR])
  obtain ⟨abd, hrb⟩ := raws_odd bd hbd
  obtain ⟨xw, hxw, hpk2⟩ := pickL_ok ns h (n4 + 1) (by omega) ratesN (by simp [ratesN])
  have hwo := worse_no xw hxw
  obtain ⟨xn, hxn, hpk3⟩ := pickL_ok ns h (n4 + 2) (by omega) namedL (by simp [namedL])
  obtain ⟨yn, hyn, hno⟩ := named_no xn hxn
  have hpk3' : F_law_pick [.fz (intsD ns), townA (n4 + 2), .fz (.lst [.str "", .str "A", .int 1, .non, .str "abcdefghi"])] = .val xn [.fz (intsD ns), townA (n4 + 2 + 1), .fz (.lst [.str "", .str "A", .int 1, .non, .str "abcdefghi"])] := hpk3
  clear hpk3
  have hpk3 := hpk3'
  have hyn' : dX (.lst [.tup [xn, .tup [.int 1, .int 1]]]) = some yn := hyn
  clear hyn
  have hyn := hyn'
  have hdw : dictD (.lst [.tup [.str "gear", xw]]) = some (.d [(.inr "gear", xw)]) := rfl
  have hlo : ∃ as, F_look_wants [.fz sevenD] = .exc "BadRates" as := lwants_long (by decide)
  generalize hSV : sevenD = SV at hlo
  obtain ⟨il, hil, hpk4⟩ := pickL_ok ns h (n4 + 3) (by omega) [.dic [(.inr "gear", xw)], .dic [(.inr "gear", xw)], yn, SV, .non, .lst [.tup [.str "gear", .tup [.int 1, .int 1]]]] (by simp)
  have hill : ∃ as, F_look_wants [.fz il] = .exc "BadRates" as := by
    simp only [List.mem_cons, List.not_mem_nil, or_false] at hil
    rcases hil with rfl | rfl | rfl | rfl | rfl | rfl
    · exact hwo
    · exact hwo
    · exact hno
    · exact hlo
    · exact lwants_nodict rfl
    · exact lwants_nodict rfl
  obtain ⟨ail, hill⟩ := hill
  obtain ⟨wr, n5, hn5, hwrong, awr, hwr⟩ := bad_plan hb hnm hp ns h (n4 + 4) (by omega)
  obtain ⟨wd, hwd, hpk5⟩ := pickL_ok ns h n5 (by omega) wordsN (by simp [wordsN])
  obtain ⟨awd, hword⟩ := words_no wd hwd
  have hpk5' : F_law_pick [.fz (intsD ns), townA n5, .fz (.lst [.str "", .str "A", .str "abcdefghi", .non, .int 5])] = .val wd [.fz (intsD ns), townA (n5 + 1), .fz (.lst [.str "", .str "A", .str "abcdefghi", .non, .int 5])] := hpk5
  clear hpk5
  have hpk5 := hpk5'
  -- the refusals
  have okg : sbW "WorkError" "BadGoods" = some true := by decide
  have okr : sbW "WorkError" "BadRates" = some true := by decide
  have okp : sbW "WorkError" "BadPlan" = some true := by decide
  obtain ⟨alb, hlb⟩ := look_ok hb
  obtain ⟨arr, hrr⟩ := lraws_ok hr
  obtain ⟨aall, hall⟩ := all_look hb hr hw
  obtain ⟨a1, q1⟩ := lall_goods (U := il) hb hrb
  obtain ⟨a2, q2⟩ := lall_rates (U := il) hb hrr hill
  have t9 : ∀ i : Nat, i < 9 → ∃ as, F_law_told [.fz (.int (i : Int)), .fz (.lst [bookD b, bd, il, wr])] = .val (.tup [.str "refused", .str "goods"]) as := fun i hi => by
    have : i = 0 ∨ i = 1 ∨ i = 2 ∨ i = 3 ∨ i = 4 ∨ i = 5 ∨ i = 6 ∨ i = 7 ∨ i = 8 := by omega
    rcases this with rfl | rfl | rfl | rfl | rfl | rfl | rfl | rfl | rfl
    · obtain ⟨x, y⟩ := meets_exc (P := wr) q1; obtain ⟨x2, y2⟩ := one0 y; exact told_exc25 okg refuse_goods y2
    · obtain ⟨x, y⟩ := leavings_exc (P := wr) q1; obtain ⟨x2, y2⟩ := one1 y; exact told_exc25 okg refuse_goods y2
    · obtain ⟨x, y⟩ := isleast_exc (P := wr) q1; obtain ⟨x2, y2⟩ := one2 y; exact told_exc25 okg refuse_goods y2
    · obtain ⟨x, y⟩ := leastp_exc q1; obtain ⟨x2, y2⟩ := one3 (P := wr) y; exact told_exc25 okg refuse_goods y2
    · obtain ⟨x, y⟩ := paper_exc q1; obtain ⟨x2, y2⟩ := one4 (P := wr) y; exact told_exc25 okg refuse_goods y2
    · obtain ⟨x, y⟩ := shows_exc (P := .non) q1; obtain ⟨x2, y2⟩ := one5 (P := wr) y; exact told_exc25 okg refuse_goods y2
    · obtain ⟨x, y⟩ := plan_exc q1; obtain ⟨x2, y2⟩ := one6 (P := wr) y; exact told_exc25 okg refuse_goods y2
    · obtain ⟨x, y⟩ := layers_exc hlb hrb; obtain ⟨x2, y2⟩ := one7 (U := il) (P := wr) y; exact told_exc25 okg refuse_goods y2
    · obtain ⟨x, y⟩ := layers_exc hlb hrb; obtain ⟨x3, y3⟩ := never_exc y; obtain ⟨x2, y2⟩ := one8 (U := il) (P := wr) y3; exact told_exc25 okg refuse_goods y2
  have t7 : ∀ i : Nat, i < 7 → ∃ as, F_law_told [.fz (.int (i : Int)), .fz (.lst [bookD b, lstS rs, il, wr])] = .val (.tup [.str "refused", .str "rates"]) as := fun i hi => by
    have : i = 0 ∨ i = 1 ∨ i = 2 ∨ i = 3 ∨ i = 4 ∨ i = 5 ∨ i = 6 := by omega
    rcases this with rfl | rfl | rfl | rfl | rfl | rfl | rfl
    · obtain ⟨x, y⟩ := meets_exc (P := wr) q2; obtain ⟨x2, y2⟩ := one0 y; exact told_exc25 okr refuse_rates y2
    · obtain ⟨x, y⟩ := leavings_exc (P := wr) q2; obtain ⟨x2, y2⟩ := one1 y; exact told_exc25 okr refuse_rates y2
    · obtain ⟨x, y⟩ := isleast_exc (P := wr) q2; obtain ⟨x2, y2⟩ := one2 y; exact told_exc25 okr refuse_rates y2
    · obtain ⟨x, y⟩ := leastp_exc q2; obtain ⟨x2, y2⟩ := one3 (P := wr) y; exact told_exc25 okr refuse_rates y2
    · obtain ⟨x, y⟩ := paper_exc q2; obtain ⟨x2, y2⟩ := one4 (P := wr) y; exact told_exc25 okr refuse_rates y2
    · obtain ⟨x, y⟩ := shows_exc (P := .non) q2; obtain ⟨x2, y2⟩ := one5 (P := wr) y; exact told_exc25 okr refuse_rates y2
    · obtain ⟨x, y⟩ := plan_exc q2; obtain ⟨x2, y2⟩ := one6 (P := wr) y; exact told_exc25 okr refuse_rates y2
  have t3 : ∀ i : Nat, i < 3 → ∃ as, F_law_told [.fz (.int (i : Int)), .fz (.lst [bookD b, lstS rs, planD ws, wr])] = .val (.tup [.str "refused", .str "plan"]) as := fun i hi => by
    have : i = 0 ∨ i = 1 ∨ i = 2 := by omega
    rcases this with rfl | rfl | rfl
    · obtain ⟨x, y⟩ := meets_excP hall hwr; obtain ⟨x2, y2⟩ := one0 y; exact told_exc25 okp refuse_plan y2
    · obtain ⟨x, y⟩ := leavings_excP hall hwr; obtain ⟨x2, y2⟩ := one1 y; exact told_exc25 okp refuse_plan y2
    · obtain ⟨x, y⟩ := isleast_excP hall hwr; obtain ⟨x2, y2⟩ := one2 y; exact told_exc25 okp refuse_plan y2
  obtain ⟨⟨ar1, r1⟩, ⟨ar2, r2⟩, ⟨ar3, r3⟩⟩ := rates_excP hb hwr
  have t3h : ∀ i : Nat, i < 3 → ∃ as, F_law_heard [.fz (.int (i : Int)), .fz (bookD b), .fz wr, .fz wd] = .val (.tup [.str "refused", .str "plan"]) as := fun i hi => by
    have : i = 0 ∨ i = 1 ∨ i = 2 := by omega
    rcases this with rfl | rfl | rfl
    · obtain ⟨x2, y2⟩ := oth0 (Z := wd) r1; exact heard_exc25 okp refuse_plan y2
    · obtain ⟨x2, y2⟩ := oth1 (Z := wd) r2; exact heard_exc25 okp refuse_plan y2
    · obtain ⟨x2, y2⟩ := oth2 (Z := wd) r3; exact heard_exc25 okp refuse_plan y2
  have t2h : ∀ i ∈ [(3 : Int), 4], ∃ as, F_law_heard [.fz (.int i), .fz (bookD b), .fz (planD ps), .fz wd] = .val (.tup [.str "refused", .str "goods"]) as := fun i hi => by
    simp only [List.mem_cons, List.not_mem_nil, or_false] at hi
    rcases hi with rfl | rfl
    · obtain ⟨x, y⟩ := givers_exc hlb hword; obtain ⟨x2, y2⟩ := oth3 (P := planD ps) y; exact heard_exc25 okg refuse_goods y2
    · obtain ⟨x, y⟩ := takers_exc hlb hword; obtain ⟨x2, y2⟩ := oth4 (P := planD ps) y; exact heard_exc25 okg refuse_goods y2
  have hz1 : 1 ≤ sizeLine := by rw [sizeLine_eq]; decide
  have hz2 : 2 ≤ sizeLine := by rw [sizeLine_eq]; decide
  have hz5 : 5 ≤ sizeLine := by rw [sizeLine_eq]; decide
  have hz6 : 6 ≤ sizeLine := by rw [sizeLine_eq]; decide
  have hz9 : 9 ≤ sizeLine := by rw [sizeLine_eq]; decide
  have hz11 : 11 ≤ sizeLine := by rw [sizeLine_eq]; decide
  have had : addO (.lst oddR) (.lst [.lst manyL]) = some (.lst (oddR ++ [.lst manyL])) := add_strs _ _ (by rw [sizeLine_eq]; decide)
  clear hbd hrb hxw hwo hxn hno hlo hil hill hwr hwd hword hlb hrr hall q1 q2 r1 r2 r3
  generalize hS : intsD ns = S at *
  generalize hB : bookD b = B at *
  generalize hR : lstS rs = R at *
  generalize hU : planD ws = U at *
  generalize hP : planD ps = P at *
  have c9 := lc_bad "goods" 9 (by decide) (.fz S) (ownT n5) (.fz (.lst oddR)) (.fz (.lst manyL)) (.fz (.lst ratesN)) (.fz (.dic [(.inr "gear", xw)])) (.fz yn) (.fz SV) .un B R U P bd il wr t9
  have c7 := lc_ill "rates" 7 (by decide) (.fz S) (ownT n5) (.fz (.lst oddR)) (.fz (.lst manyL)) (.fz (.lst ratesN)) (.fz (.dic [(.inr "gear", xw)])) (.fz yn) (.fz SV) .un B R U P bd il wr t7
  have c3 := lc_wrong "plan" 3 (by decide) (.fz S) (ownT n5) (.fz (.lst oddR)) (.fz (.lst manyL)) (.fz (.lst ratesN)) (.fz (.dic [(.inr "gear", xw)])) (.fz yn) (.fz SV) .un B R U P bd il wr t3
  have c3h := lc_heard "plan" 3 (by decide) (.fz S) (ownT (n5 + 1)) (.fz (.lst oddR)) (.fz (.lst manyL)) (.fz (.lst ratesN)) (.fz (.dic [(.inr "gear", xw)])) (.fz yn) (.fz SV) B R U P bd il wr wd t3h
  have c2h := lc_heard2 "goods" (.fz S) (ownT (n5 + 1)) (.fz (.lst oddR)) (.fz (.lst manyL)) (.fz (.lst ratesN)) (.fz (.dic [(.inr "gear", xw)])) (.fz yn) (.fz SV) B R U P bd il wr wd t2h
  have g9 : neO (.lst ((List.range 9).map fun _ => D.tup [.str "refused", .str "goods"])) (.lst (List.replicate 9 (.tup [.str "refused", .str "goods"]))) = some (.bl false) := ne_yes (gdR "goods" (show PyData.strOk _ = true by decide +kernel) 9) (by decide)
  have g7 : neO (.lst ((List.range 7).map fun _ => D.tup [.str "refused", .str "rates"])) (.lst (List.replicate 7 (.tup [.str "refused", .str "rates"]))) = some (.bl false) := ne_yes (gdR "rates" (show PyData.strOk _ = true by decide +kernel) 7) (by decide)
  have g3 : neO (.lst ((List.range 3).map fun _ => D.tup [.str "refused", .str "plan"])) (.lst (List.replicate 3 (.tup [.str "refused", .str "plan"]))) = some (.bl false) := ne_yes (gdR "plan" (show PyData.strOk _ = true by decide +kernel) 3) (by decide)
  have g2 : eqO (.lst [D.tup [.str "refused", .str "goods"], D.tup [.str "refused", .str "goods"]]) (.lst (List.replicate 2 (.tup [.str "refused", .str "goods"]))) = some (.bl true) := eq_yes (gdR "goods" (show PyData.strOk _ = true by decide +kernel) 2) (by decide)
  have hrp : ∀ (k : Str) (n : Int), 0 ≤ n → n ≤ 1000 → ∀ ρ : Ev, repN (lstN (consL (tupE (consL (conE (.str "refused")) (consL (conE (.str k)) (nilL)))) (nilL))) (conE (.int n)) ρ = .val (.l (List.replicate n.toNat (.tup [.str "refused", .str k]))) ρ := fun k n h0 h1 ρ => by
    rw [rep_list (xs := [.tup [.str "refused", .str k]]) (k := n) (ρ1 := ρ) (ρ2 := ρ) (by simp [hz1, hz2]) (by simp) h0 h1 (by simp)]
    congr 2
    generalize n.toNat = m
    induction m with
    | zero => rfl
    | succ m ih => rw [List.replicate_succ, List.flatten_cons, ih]; rfl
  have hr9 := hrp "goods" 9 (by decide) (by decide)
  have hr7 := hrp "rates" 7 (by decide) (by decide)
  have hr3 := hrp "plan" 3 (by decide) (by decide)
  have hr2 := hrp "goods" 2 (by decide) (by decide)
  have w9 : (9 : Int).toNat = 9 := rfl
  have w7 : (7 : Int).toNat = 7 := rfl
  have w3 : (3 : Int).toNat = 3 := rfl
  have w2 : (2 : Int).toNat = 2 := rfl
  rw [w9] at hr9; rw [w7] at hr7; rw [w3] at hr3; rw [w2] at hr2
  have rg9 : ∀ ρ : Ev, rng1F (consL (conE (.int 9)) nilL) ρ = .val ((List.range 9).map fun i : Nat => D.int (i : Int)) ρ := fun ρ => fin_range 9 (by decide)
  have rg7 : ∀ ρ : Ev, rng1F (consL (conE (.int 7)) nilL) ρ = .val ((List.range 7).map fun i : Nat => D.int (i : Int)) ρ := fun ρ => fin_range 7 (by decide)
  have rg3 : ∀ ρ : Ev, rng1F (consL (conE (.int 3)) nilL) ρ = .val ((List.range 3).map fun i : Nat => D.int (i : Int)) ρ := fun ρ => fin_range 3 (by decide)
  generalize ((List.range 9).map fun _ => D.tup [.str "refused", .str "goods"]) = M9 at *
  generalize ((List.range 7).map fun _ => D.tup [.str "refused", .str "rates"]) = M7 at *
  generalize ((List.range 3).map fun _ => D.tup [.str "refused", .str "plan"]) = M3 at *
  generalize ((List.range 9).map fun i : Nat => D.int (i : Int)) = L9 at *
  generalize ((List.range 7).map fun i : Nat => D.int (i : Int)) = L7 at *
  generalize ((List.range 3).map fun i : Nat => D.int (i : Int)) = L3 at *
  generalize List.replicate 9 (D.tup [.str "refused", .str "goods"]) = N9 at *
  generalize List.replicate 7 (D.tup [.str "refused", .str "rates"]) = N7 at *
  generalize List.replicate 3 (D.tup [.str "refused", .str "plan"]) = N3 at *
  generalize List.replicate 2 (D.tup [.str "refused", .str "goods"]) = N2 at *
  have hbook' : F_law_book [.fz S, .ow true (.l []), .fz (.int 6)] = .val B [.fz S, townA n1, .fz (.int 6)] := hbook
  have hraws' : F_law_raws [.fz S, townA n1, .fz B] = .val R [.fz S, townA n2, .fz B] := by rw [← hR]; exact hraws
  clear hbook hraws t9 t7 t3 t3h t2h hrp
  show ∃ as', F_law [.fz (intsD ns)] = _
  rw [hS]
  refine ⟨_, body_rt (ρ0 := [.fz S, .un, .un, .un, .un, .un, .un, .un, .un, .un, .un, .un, .un, .un, .un, .un, .un, .un]) (ρ := [.fz S, ownT (n5 + 1), .fz B, .fz R, .fz U, .fz P, .fz (.lst oddR), .fz (.lst manyL), .un, .fz bd, .fz (.lst ratesN), .fz (.dic [(.inr "gear", xw)]), .fz yn, .fz SV, .fz wd, .fz il, .fz wr, .un]) rfl ?_⟩
  refine seq_step (ρ1 := [.fz S, ownT 0, .un, .un, .un, .un, .un, .un, .un, .un, .un, .un, .un, .un, .un, .un, .un, .un]) (by simp) ?_
  refine seq_step (ρ1 := [.fz S, ownT n1, .fz B, .un, .un, .un, .un, .un, .un, .un, .un, .un, .un, .un, .un, .un, .un, .un]) (by simp [hbook']) ?_
  refine seq_step (ρ1 := [.fz S, ownT n2, .fz B, .fz R, .un, .un, .un, .un, .un, .un, .un, .un, .un, .un, .un, .un, .un, .un]) (by simp [hraws']) ?_
  refine seq_step (ρ1 := [.fz S, ownT n3, .fz B, .fz R, .fz U, .un, .un, .un, .un, .un, .un, .un, .un, .un, .un, .un, .un, .un]) (by simp [hwants]) ?_
  refine seq_step (ρ1 := [.fz S, ownT n4, .fz B, .fz R, .fz U, .fz P, .un, .un, .un, .un, .un, .un, .un, .un, .un, .un, .un, .un]) (by simp [hplan]) ?_
  refine seq_step (ρ1 := [.fz S, ownT n4, .fz B, .fz R, .fz U, .fz P, .fz (.lst oddR), .un, .un, .un, .un, .un, .un, .un, .un, .un, .un, .un]) (by simp [oddR, hz1, hz2, hz9]) ?_
  refine seq_step (ρ1 := [.fz S, ownT n4, .fz B, .fz R, .fz U, .fz P, .fz (.lst oddR), .fz (.lst manyL), .un, .un, .un, .un, .un, .un, .un, .un, .un, .un]) (step7 _ _ _ _ _ _ _) ?_
  refine seq_step (ρ1 := [.fz S, ownT (n4 + 1), .fz B, .fz R, .fz U, .fz P, .fz (.lst oddR), .fz (.lst manyL), .un, .fz bd, .un, .un, .un, .un, .un, .un, .un, .un]) (by simp [hz1, had, hpk1]) ?_
  refine seq_step (ρ1 := [.fz S, ownT (n4 + 1), .fz B, .fz R, .fz U, .fz P, .fz (.lst oddR), .fz (.lst manyL), .un, .fz bd, .fz (.lst ratesN), .un, .un, .un, .un, .un, .un, .un]) (by simp [ratesN, hz1, hz2, hz11]) ?_
  refine seq_step (ρ1 := [.fz S, ownT (n4 + 2), .fz B, .fz R, .fz U, .fz P, .fz (.lst oddR), .fz (.lst manyL), .un, .fz bd, .fz (.lst ratesN), .fz (.dic [(.inr "gear", xw)]), .un, .un, .un, .un, .un, .un]) (by simp [hz1, hz2, hpk2, hdw]) ?_
  refine seq_step (ρ1 := [.fz S, ownT (n4 + 3), .fz B, .fz R, .fz U, .fz P, .fz (.lst oddR), .fz (.lst manyL), .un, .fz bd, .fz (.lst ratesN), .fz (.dic [(.inr "gear", xw)]), .fz yn, .un, .un, .un, .un, .un]) (by simp [dictX, hz1, hz2, hz5, hpk3, hyn]) ?_
  refine seq_step (ρ1 := [.fz S, ownT (n4 + 3), .fz B, .fz R, .fz U, .fz P, .fz (.lst oddR), .fz (.lst manyL), .un, .fz bd, .fz (.lst ratesN), .fz (.dic [(.inr "gear", xw)]), .fz yn, .fz SV, .un, .un, .un, .un]) (by rw [← hSV]; exact step13 _ _ _ _ _ _ _ _ _ _ _ _) ?_
  refine seq_step (ρ1 := [.fz S, ownT (n4 + 4), .fz B, .fz R, .fz U, .fz P, .fz (.lst oddR), .fz (.lst manyL), .un, .fz bd, .fz (.lst ratesN), .fz (.dic [(.inr "gear", xw)]), .fz yn, .fz SV, .un, .fz il, .un, .un]) (by simp [hz1, hz2, hz6, hpk4]) ?_
  refine seq_step (ρ1 := [.fz S, ownT n5, .fz B, .fz R, .fz U, .fz P, .fz (.lst oddR), .fz (.lst manyL), .un, .fz bd, .fz (.lst ratesN), .fz (.dic [(.inr "gear", xw)]), .fz yn, .fz SV, .un, .fz il, .fz wr, .un]) (by simp [hwrong]) ?_
  refine seq_step (ρ1 := [.fz S, ownT n5, .fz B, .fz R, .fz U, .fz P, .fz (.lst oddR), .fz (.lst manyL), .un, .fz bd, .fz (.lst ratesN), .fz (.dic [(.inr "gear", xw)]), .fz yn, .fz SV, .un, .fz il, .fz wr, .un]) (by simp [c9, rg9, hr9, g9, -e_rng1]) ?_
  refine seq_step (ρ1 := [.fz S, ownT n5, .fz B, .fz R, .fz U, .fz P, .fz (.lst oddR), .fz (.lst manyL), .un, .fz bd, .fz (.lst ratesN), .fz (.dic [(.inr "gear", xw)]), .fz yn, .fz SV, .un, .fz il, .fz wr, .un]) (by simp [c7, rg7, hr7, g7, -e_rng1]) ?_
  refine seq_step (ρ1 := [.fz S, ownT n5, .fz B, .fz R, .fz U, .fz P, .fz (.lst oddR), .fz (.lst manyL), .un, .fz bd, .fz (.lst ratesN), .fz (.dic [(.inr "gear", xw)]), .fz yn, .fz SV, .un, .fz il, .fz wr, .un]) (by simp [c3, rg3, hr3, g3, -e_rng1]) ?_
  refine seq_step (ρ1 := [.fz S, ownT (n5 + 1), .fz B, .fz R, .fz U, .fz P, .fz (.lst oddR), .fz (.lst manyL), .un, .fz bd, .fz (.lst ratesN), .fz (.dic [(.inr "gear", xw)]), .fz yn, .fz SV, .fz wd, .fz il, .fz wr, .un]) (by simp [hz5, hpk5]) ?_
  refine seq_step (ρ1 := [.fz S, ownT (n5 + 1), .fz B, .fz R, .fz U, .fz P, .fz (.lst oddR), .fz (.lst manyL), .un, .fz bd, .fz (.lst ratesN), .fz (.dic [(.inr "gear", xw)]), .fz yn, .fz SV, .fz wd, .fz il, .fz wr, .un]) (by simp [c3h, rg3, hr3, g3, -e_rng1]) ?_
  exact seq_stop (by simp [hz2, c2h, hr2, g2])
end Wk
set_option Elab.async false
set_option linter.all false
set_option maxRecDepth 100000
set_option maxHeartbeats 0
namespace Hd
open PySem PySem.Spec PyProof.Rows L2
def d_0 : He.DefD := ⟨("divisor", none), "divisor", "divisor", defArgs (Wk.top 12), defBody (Wk.top 12), defScope (Wk.top 12), [], []⟩
def d_1 : He.DefD := ⟨("least", none), "least", "least", defArgs (Wk.top 13), defBody (Wk.top 13), defScope (Wk.top 13), [], []⟩
def d_2 : He.DefD := ⟨("is_fraction", none), "is_fraction", "is_fraction", defArgs (Wk.top 14), defBody (Wk.top 14), defScope (Wk.top 14), [], []⟩
def d_3 : He.DefD := ⟨("plus", none), "plus", "plus", defArgs (Wk.top 15), defBody (Wk.top 15), defScope (Wk.top 15), [], []⟩
def d_4 : He.DefD := ⟨("minus", none), "minus", "minus", defArgs (Wk.top 16), defBody (Wk.top 16), defScope (Wk.top 16), [], []⟩
def d_5 : He.DefD := ⟨("times", none), "times", "times", defArgs (Wk.top 17), defBody (Wk.top 17), defScope (Wk.top 17), [], []⟩
def d_6 : He.DefD := ⟨("over", none), "over", "over", defArgs (Wk.top 18), defBody (Wk.top 18), defScope (Wk.top 18), [], []⟩
def d_7 : He.DefD := ⟨("is_less", none), "is_less", "is_less", defArgs (Wk.top 19), defBody (Wk.top 19), defScope (Wk.top 19), [], []⟩
def d_8 : He.DefD := ⟨("whole", none), "whole", "whole", defArgs (Wk.top 20), defBody (Wk.top 20), defScope (Wk.top 20), [], []⟩
def d_9 : He.DefD := ⟨("upwards", none), "upwards", "upwards", defArgs (Wk.top 21), defBody (Wk.top 21), defScope (Wk.top 21), [], []⟩
def d_10 : He.DefD := ⟨("is_whole", none), "is_whole", "is_whole", defArgs (Wk.top 31), defBody (Wk.top 31), defScope (Wk.top 31), [], []⟩
def d_11 : He.DefD := ⟨("is_word", none), "is_word", "is_word", defArgs (Wk.top 32), defBody (Wk.top 32), defScope (Wk.top 32), [], []⟩
def d_12 : He.DefD := ⟨("is_side", none), "is_side", "is_side", defArgs (Wk.top 33), defBody (Wk.top 33), defScope (Wk.top 33), [], []⟩
def d_13 : He.DefD := ⟨("is_way", none), "is_way", "is_way", defArgs (Wk.top 34), defBody (Wk.top 34), defScope (Wk.top 34), [], []⟩
def d_14 : He.DefD := ⟨("look_book", none), "look_book", "look_book", defArgs (Wk.top 35), defBody (Wk.top 35), defScope (Wk.top 35), [], []⟩
def d_15 : He.DefD := ⟨("ways", none), "ways", "ways", defArgs (Wk.top 36), defBody (Wk.top 36), defScope (Wk.top 36), [], []⟩
def d_16 : He.DefD := ⟨("all_goods", none), "all_goods", "all_goods", defArgs (Wk.top 37), defBody (Wk.top 37), defScope (Wk.top 37), [], []⟩
def d_17 : He.DefD := ⟨("net", none), "net", "net", defArgs (Wk.top 38), defBody (Wk.top 38), defScope (Wk.top 38), [], []⟩
def d_18 : He.DefD := ⟨("look_raws", none), "look_raws", "look_raws", defArgs (Wk.top 39), defBody (Wk.top 39), defScope (Wk.top 39), [], []⟩
def d_19 : He.DefD := ⟨("look_wants", none), "look_wants", "look_wants", defArgs (Wk.top 40), defBody (Wk.top 40), defScope (Wk.top 40), [], []⟩
def d_20 : He.DefD := ⟨("look_all", none), "look_all", "look_all", defArgs (Wk.top 41), defBody (Wk.top 41), defScope (Wk.top 41), [], []⟩
def d_21 : He.DefD := ⟨("is_told", none), "is_told", "is_told", defArgs (Wk.top 44), defBody (Wk.top 44), defScope (Wk.top 44), [], []⟩
def d_22 : He.DefD := ⟨("look_plan", none), "look_plan", "look_plan", defArgs (Wk.top 45), defBody (Wk.top 45), defScope (Wk.top 45), [], []⟩
def d_23 : He.DefD := ⟨("rate_of", none), "rate_of", "rate_of", defArgs (Wk.top 46), defBody (Wk.top 46), defScope (Wk.top 46), [], []⟩
def d_24 : He.DefD := ⟨("rates", none), "rates", "rates", defArgs (Wk.top 47), defBody (Wk.top 47), defScope (Wk.top 47), [], []⟩
def d_25 : He.DefD := ⟨("power_of", none), "power_of", "power_of", defArgs (Wk.top 48), defBody (Wk.top 48), defScope (Wk.top 48), [], []⟩
def d_26 : He.DefD := ⟨("power", none), "power", "power", defArgs (Wk.top 49), defBody (Wk.top 49), defScope (Wk.top 49), [], []⟩
def d_27 : He.DefD := ⟨("does_meet", none), "does_meet", "does_meet", defArgs (Wk.top 50), defBody (Wk.top 50), defScope (Wk.top 50), [], []⟩
def d_28 : He.DefD := ⟨("meets", none), "meets", "meets", defArgs (Wk.top 51), defBody (Wk.top 51), defScope (Wk.top 51), [], []⟩
def d_29 : He.DefD := ⟨("leavings", none), "leavings", "leavings", defArgs (Wk.top 52), defBody (Wk.top 52), defScope (Wk.top 52), [], []⟩
def d_30 : He.DefD := ⟨("works", none), "works", "works", defArgs (Wk.top 53), defBody (Wk.top 53), defScope (Wk.top 53), [], []⟩
def d_31 : He.DefD := ⟨("givers", none), "givers", "givers", defArgs (Wk.top 55), defBody (Wk.top 55), defScope (Wk.top 55), [], []⟩
def d_32 : He.DefD := ⟨("takers", none), "takers", "takers", defArgs (Wk.top 56), defBody (Wk.top 56), defScope (Wk.top 56), [], []⟩
def d_33 : He.DefD := ⟨("layers", none), "layers", "layers", defArgs (Wk.top 57), defBody (Wk.top 57), defScope (Wk.top 57), [], []⟩
def d_34 : He.DefD := ⟨("never", none), "never", "never", defArgs (Wk.top 58), defBody (Wk.top 58), defScope (Wk.top 58), [], []⟩
def d_35 : He.DefD := ⟨("row_less", none), "row_less", "row_less", defArgs (Wk.top 62), defBody (Wk.top 62), defScope (Wk.top 62), [], []⟩
def d_36 : He.DefD := ⟨("goods_asked", none), "goods_asked", "goods_asked", defArgs (Wk.top 64), defBody (Wk.top 64), defScope (Wk.top 64), [], []⟩
def d_37 : He.DefD := ⟨("solved", none), "solved", "solved", defArgs (Wk.top 65), defBody (Wk.top 65), defScope (Wk.top 65), [], []⟩
def d_38 : He.DefD := ⟨("plan", none), "plan", "plan", defArgs (Wk.top 66), defBody (Wk.top 66), defScope (Wk.top 66), [], []⟩
def d_39 : He.DefD := ⟨("least_power", none), "least_power", "least_power", defArgs (Wk.top 67), defBody (Wk.top 67), defScope (Wk.top 67), [], []⟩
def d_40 : He.DefD := ⟨("paper", none), "paper", "paper", defArgs (Wk.top 68), defBody (Wk.top 68), defScope (Wk.top 68), [], []⟩
def d_41 : He.DefD := ⟨("worth_of", none), "worth_of", "worth_of", defArgs (Wk.top 69), defBody (Wk.top 69), defScope (Wk.top 69), [], []⟩
def d_42 : He.DefD := ⟨("gain_of", none), "gain_of", "gain_of", defArgs (Wk.top 70), defBody (Wk.top 70), defScope (Wk.top 70), [], []⟩
def d_43 : He.DefD := ⟨("shows", none), "shows", "shows", defArgs (Wk.top 71), defBody (Wk.top 71), defScope (Wk.top 71), [], []⟩
def d_44 : He.DefD := ⟨("is_least", none), "is_least", "is_least", defArgs (Wk.top 72), defBody (Wk.top 72), defScope (Wk.top 72), [], []⟩
def d_45 : He.DefD := ⟨("_law_cell", none), "_law_cell", "_law_cell", defArgs (Wk.top 74), defBody (Wk.top 74), defScope (Wk.top 74), [], []⟩
def d_46 : He.DefD := ⟨("_law_mix", none), "_law_mix", "_law_mix", defArgs (Wk.top 75), defBody (Wk.top 75), defScope (Wk.top 75), [], []⟩
def d_47 : He.DefD := ⟨("_law_draw", none), "_law_draw", "_law_draw", defArgs (Wk.top 76), defBody (Wk.top 76), defScope (Wk.top 76), [], []⟩
def d_48 : He.DefD := ⟨("_law_pick", none), "_law_pick", "_law_pick", defArgs (Wk.top 77), defBody (Wk.top 77), defScope (Wk.top 77), [], []⟩
def d_49 : He.DefD := ⟨("_law_refusal", none), "_law_refusal", "_law_refusal", defArgs (Wk.top 78), defBody (Wk.top 78), defScope (Wk.top 78), [], []⟩
def d_50 : He.DefD := ⟨("_law_good", none), "_law_good", "_law_good", defArgs (Wk.top 79), defBody (Wk.top 79), defScope (Wk.top 79), [], []⟩
def d_51 : He.DefD := ⟨("_law_side", none), "_law_side", "_law_side", defArgs (Wk.top 80), defBody (Wk.top 80), defScope (Wk.top 80), [], []⟩
def d_52 : He.DefD := ⟨("_law_book", none), "_law_book", "_law_book", defArgs (Wk.top 81), defBody (Wk.top 81), defScope (Wk.top 81), [], []⟩
def d_53 : He.DefD := ⟨("_law_goods", none), "_law_goods", "_law_goods", defArgs (Wk.top 82), defBody (Wk.top 82), defScope (Wk.top 82), [], []⟩
def d_54 : He.DefD := ⟨("_law_raws", none), "_law_raws", "_law_raws", defArgs (Wk.top 83), defBody (Wk.top 83), defScope (Wk.top 83), [], []⟩
def d_55 : He.DefD := ⟨("_law_rate", none), "_law_rate", "_law_rate", defArgs (Wk.top 84), defBody (Wk.top 84), defScope (Wk.top 84), [], []⟩
def d_56 : He.DefD := ⟨("_law_wants", none), "_law_wants", "_law_wants", defArgs (Wk.top 85), defBody (Wk.top 85), defScope (Wk.top 85), [], []⟩
def d_57 : He.DefD := ⟨("_law_plan", none), "_law_plan", "_law_plan", defArgs (Wk.top 86), defBody (Wk.top 86), defScope (Wk.top 86), [], []⟩
def d_58 : He.DefD := ⟨("_law_one", none), "_law_one", "_law_one", defArgs (Wk.top 87), defBody (Wk.top 87), defScope (Wk.top 87), [], []⟩
def d_59 : He.DefD := ⟨("_law_other", none), "_law_other", "_law_other", defArgs (Wk.top 88), defBody (Wk.top 88), defScope (Wk.top 88), [], []⟩
def d_60 : He.DefD := ⟨("_law_told", none), "_law_told", "_law_told", defArgs (Wk.top 89), defBody (Wk.top 89), defScope (Wk.top 89), [], []⟩
def d_61 : He.DefD := ⟨("_law_heard", none), "_law_heard", "_law_heard", defArgs (Wk.top 90), defBody (Wk.top 90), defScope (Wk.top 90), [], []⟩
def d_62 : He.DefD := ⟨("_law_bad_plan", none), "_law_bad_plan", "_law_bad_plan", defArgs (Wk.top 91), defBody (Wk.top 91), defScope (Wk.top 91), [], []⟩
def d_63 : He.DefD := ⟨("law", none), "law", "law", defArgs (Wk.top 92), defBody (Wk.top 92), defScope (Wk.top 92), [], []⟩
def fn_0 : List He.DefD := [d_0, d_1, d_2, d_3, d_4, d_5, d_6, d_7, d_8, d_9, d_10, d_11, d_12, d_13, d_14, d_15, d_16, d_17, d_18, d_19]
def fn_1 : List He.DefD := [d_20, d_21, d_22, d_23, d_24, d_25, d_26, d_27, d_28, d_29, d_30, d_31, d_32, d_33, d_34, d_35, d_36, d_37, d_38, d_39]
def fn_2 : List He.DefD := [d_40, d_41, d_42, d_43, d_44, d_45, d_46, d_47, d_48, d_49, d_50, d_51, d_52, d_53, d_54, d_55, d_56, d_57, d_58, d_59]
def fn_3 : List He.DefD := [d_60, d_61, d_62, d_63]
def fn : List He.DefD := fn_0 ++ fn_1 ++ fn_2 ++ fn_3
def fa_0 : List He.Fa := [.glo "divisor", .glo "least", .glo "is_fraction", .glo "plus", .glo "minus", .glo "times", .glo "over", .glo "is_less", .glo "whole", .glo "upwards", .glo "is_whole", .glo "is_word", .glo "is_side", .glo "is_way", .glo "look_book", .glo "ways", .glo "all_goods", .glo "net", .glo "look_raws", .glo "look_wants"]
def fa_1 : List He.Fa := [.glo "look_all", .glo "is_told", .glo "look_plan", .glo "rate_of", .glo "rates", .glo "power_of", .glo "power", .glo "does_meet", .glo "meets", .glo "leavings", .glo "works", .glo "givers", .glo "takers", .glo "layers", .glo "never", .glo "row_less", .glo "goods_asked", .glo "solved", .glo "plan", .glo "least_power"]
def fa_2 : List He.Fa := [.glo "paper", .glo "worth_of", .glo "gain_of", .glo "shows", .glo "is_least", .glo "_law_cell", .glo "_law_mix", .glo "_law_draw", .glo "_law_pick", .glo "_law_refusal", .glo "_law_good", .glo "_law_side", .glo "_law_book", .glo "_law_goods", .glo "_law_raws", .glo "_law_rate", .glo "_law_wants", .glo "_law_plan", .glo "_law_one", .glo "_law_other"]
def fa_3 : List He.Fa := [.glo "_law_told", .glo "_law_heard", .glo "_law_bad_plan", .glo "law", .free "ValueError", .free "abs", .free "all", .free "any", .free "bool", .free "dict", .free "int", .free "isinstance", .free "len", .free "list", .free "range", .free "set", .free "sorted", .free "str", .free "tuple", .int "MOST_MANY" (20)]
def fa_4 : List He.Fa := [.int "MOST_POWER" (50), .int "MOST_RAWS" (20), .int "MOST_SIDES" (3), .int "MOST_TICKS" (20), .int "MOST_TOP" (1000000), .int "MOST_UNDER" (1000), .int "MOST_WANTS" (6), .int "MOST_WAYS" (6), .str "SMALL" "abcdefghijklmnopqrstuvwxyz", .glo "NOUGHT_plans", .glo "WorkError"]
def fa : List He.Fa := fa_0 ++ fa_1 ++ fa_2 ++ fa_3 ++ fa_4
def names_0 : List PySem.Str := ["WorkError", "BadBook", "BadGoods", "BadRates", "BadPlan", "BadWorks", "Barred", "BadText", "MOST_TOP", "MOST_UNDER", "divisor", "least", "is_fraction", "plus", "minus", "times", "over", "is_less", "whole", "upwards"]
def names_1 : List PySem.Str := ["SMALL", "MOST_WAYS", "MOST_SIDES", "MOST_MANY", "MOST_TICKS", "MOST_POWER", "MOST_RAWS", "MOST_WANTS", "is_whole", "is_word", "is_side", "is_way", "look_book", "ways", "all_goods", "net", "look_raws", "look_wants", "look_all", "NOUGHT_plans"]
def names_2 : List PySem.Str := ["is_told", "look_plan", "rate_of", "rates", "power_of", "power", "does_meet", "meets", "leavings", "works", "givers", "takers", "layers", "never", "NOUGHT_table", "Table", "row_less", "goods_asked", "solved", "plan"]
def names_3 : List PySem.Str := ["least_power", "paper", "worth_of", "gain_of", "shows", "is_least", "_law_cell", "_law_mix", "_law_draw", "_law_pick", "_law_refusal", "_law_good", "_law_side", "_law_book", "_law_goods", "_law_raws", "_law_rate", "_law_wants", "_law_plan", "_law_one"]
def names_4 : List PySem.Str := ["_law_other", "_law_told", "_law_heard", "_law_bad_plan"]
def names : List PySem.Str := names_0 ++ names_1 ++ names_2 ++ names_3 ++ names_4
def tb_0 : List (PySem.Str × List He.Dv) := [("NOUGHT_plans", [.int (0), .int (1)])]
def tb : List (PySem.Str × List He.Dv) := tb_0
def ck_0 : List (PySem.W.Frag → Bool) := [DL.excB "BadBook", DL.excB "BadGoods", DL.excB "BadRates", DL.excB "BadPlan", DL.excB "BadWorks", DL.excB "Barred", DL.excB "BadText", DL.getB, DL.isaB "BadBook" "BadBook" (("BadBook" : PySem.Str) == "WorkError" || ("BadBook" : PySem.Str) == "ValueError" || ("BadBook" : PySem.Str) == "BadBook"), DL.isaB "BadGoods" "BadBook" (("BadBook" : PySem.Str) == "WorkError" || ("BadBook" : PySem.Str) == "ValueError" || ("BadBook" : PySem.Str) == "BadGoods"), DL.isaB "BadRates" "BadBook" (("BadBook" : PySem.Str) == "WorkError" || ("BadBook" : PySem.Str) == "ValueError" || ("BadBook" : PySem.Str) == "BadRates"), DL.isaB "BadPlan" "BadBook" (("BadBook" : PySem.Str) == "WorkError" || ("BadBook" : PySem.Str) == "ValueError" || ("BadBook" : PySem.Str) == "BadPlan"), DL.isaB "BadWorks" "BadBook" (("BadBook" : PySem.Str) == "WorkError" || ("BadBook" : PySem.Str) == "ValueError" || ("BadBook" : PySem.Str) == "BadWorks"), DL.isaB "Barred" "BadBook" (("BadBook" : PySem.Str) == "WorkError" || ("BadBook" : PySem.Str) == "ValueError" || ("BadBook" : PySem.Str) == "Barred"), DL.isaB "BadText" "BadBook" (("BadBook" : PySem.Str) == "WorkError" || ("BadBook" : PySem.Str) == "ValueError" || ("BadBook" : PySem.Str) == "BadText"), DL.isaB "BadBook" "BadGoods" (("BadGoods" : PySem.Str) == "WorkError" || ("BadGoods" : PySem.Str) == "ValueError" || ("BadGoods" : PySem.Str) == "BadBook"), DL.isaB "BadGoods" "BadGoods" (("BadGoods" : PySem.Str) == "WorkError" || ("BadGoods" : PySem.Str) == "ValueError" || ("BadGoods" : PySem.Str) == "BadGoods"), DL.isaB "BadRates" "BadGoods" (("BadGoods" : PySem.Str) == "WorkError" || ("BadGoods" : PySem.Str) == "ValueError" || ("BadGoods" : PySem.Str) == "BadRates"), DL.isaB "BadPlan" "BadGoods" (("BadGoods" : PySem.Str) == "WorkError" || ("BadGoods" : PySem.Str) == "ValueError" || ("BadGoods" : PySem.Str) == "BadPlan"), DL.isaB "BadWorks" "BadGoods" (("BadGoods" : PySem.Str) == "WorkError" || ("BadGoods" : PySem.Str) == "ValueError" || ("BadGoods" : PySem.Str) == "BadWorks")]
def ck_1 : List (PySem.W.Frag → Bool) := [DL.isaB "Barred" "BadGoods" (("BadGoods" : PySem.Str) == "WorkError" || ("BadGoods" : PySem.Str) == "ValueError" || ("BadGoods" : PySem.Str) == "Barred"), DL.isaB "BadText" "BadGoods" (("BadGoods" : PySem.Str) == "WorkError" || ("BadGoods" : PySem.Str) == "ValueError" || ("BadGoods" : PySem.Str) == "BadText"), DL.isaB "BadBook" "BadPlan" (("BadPlan" : PySem.Str) == "WorkError" || ("BadPlan" : PySem.Str) == "ValueError" || ("BadPlan" : PySem.Str) == "BadBook"), DL.isaB "BadGoods" "BadPlan" (("BadPlan" : PySem.Str) == "WorkError" || ("BadPlan" : PySem.Str) == "ValueError" || ("BadPlan" : PySem.Str) == "BadGoods"), DL.isaB "BadRates" "BadPlan" (("BadPlan" : PySem.Str) == "WorkError" || ("BadPlan" : PySem.Str) == "ValueError" || ("BadPlan" : PySem.Str) == "BadRates"), DL.isaB "BadPlan" "BadPlan" (("BadPlan" : PySem.Str) == "WorkError" || ("BadPlan" : PySem.Str) == "ValueError" || ("BadPlan" : PySem.Str) == "BadPlan"), DL.isaB "BadWorks" "BadPlan" (("BadPlan" : PySem.Str) == "WorkError" || ("BadPlan" : PySem.Str) == "ValueError" || ("BadPlan" : PySem.Str) == "BadWorks"), DL.isaB "Barred" "BadPlan" (("BadPlan" : PySem.Str) == "WorkError" || ("BadPlan" : PySem.Str) == "ValueError" || ("BadPlan" : PySem.Str) == "Barred"), DL.isaB "BadText" "BadPlan" (("BadPlan" : PySem.Str) == "WorkError" || ("BadPlan" : PySem.Str) == "ValueError" || ("BadPlan" : PySem.Str) == "BadText"), DL.isaB "BadBook" "BadRates" (("BadRates" : PySem.Str) == "WorkError" || ("BadRates" : PySem.Str) == "ValueError" || ("BadRates" : PySem.Str) == "BadBook"), DL.isaB "BadGoods" "BadRates" (("BadRates" : PySem.Str) == "WorkError" || ("BadRates" : PySem.Str) == "ValueError" || ("BadRates" : PySem.Str) == "BadGoods"), DL.isaB "BadRates" "BadRates" (("BadRates" : PySem.Str) == "WorkError" || ("BadRates" : PySem.Str) == "ValueError" || ("BadRates" : PySem.Str) == "BadRates"), DL.isaB "BadPlan" "BadRates" (("BadRates" : PySem.Str) == "WorkError" || ("BadRates" : PySem.Str) == "ValueError" || ("BadRates" : PySem.Str) == "BadPlan"), DL.isaB "BadWorks" "BadRates" (("BadRates" : PySem.Str) == "WorkError" || ("BadRates" : PySem.Str) == "ValueError" || ("BadRates" : PySem.Str) == "BadWorks"), DL.isaB "Barred" "BadRates" (("BadRates" : PySem.Str) == "WorkError" || ("BadRates" : PySem.Str) == "ValueError" || ("BadRates" : PySem.Str) == "Barred"), DL.isaB "BadText" "BadRates" (("BadRates" : PySem.Str) == "WorkError" || ("BadRates" : PySem.Str) == "ValueError" || ("BadRates" : PySem.Str) == "BadText"), DL.isaB "BadBook" "BadText" (("BadText" : PySem.Str) == "WorkError" || ("BadText" : PySem.Str) == "ValueError" || ("BadText" : PySem.Str) == "BadBook"), DL.isaB "BadGoods" "BadText" (("BadText" : PySem.Str) == "WorkError" || ("BadText" : PySem.Str) == "ValueError" || ("BadText" : PySem.Str) == "BadGoods"), DL.isaB "BadRates" "BadText" (("BadText" : PySem.Str) == "WorkError" || ("BadText" : PySem.Str) == "ValueError" || ("BadText" : PySem.Str) == "BadRates"), DL.isaB "BadPlan" "BadText" (("BadText" : PySem.Str) == "WorkError" || ("BadText" : PySem.Str) == "ValueError" || ("BadText" : PySem.Str) == "BadPlan")]
def ck_2 : List (PySem.W.Frag → Bool) := [DL.isaB "BadWorks" "BadText" (("BadText" : PySem.Str) == "WorkError" || ("BadText" : PySem.Str) == "ValueError" || ("BadText" : PySem.Str) == "BadWorks"), DL.isaB "Barred" "BadText" (("BadText" : PySem.Str) == "WorkError" || ("BadText" : PySem.Str) == "ValueError" || ("BadText" : PySem.Str) == "Barred"), DL.isaB "BadText" "BadText" (("BadText" : PySem.Str) == "WorkError" || ("BadText" : PySem.Str) == "ValueError" || ("BadText" : PySem.Str) == "BadText"), DL.isaB "BadBook" "BadWorks" (("BadWorks" : PySem.Str) == "WorkError" || ("BadWorks" : PySem.Str) == "ValueError" || ("BadWorks" : PySem.Str) == "BadBook"), DL.isaB "BadGoods" "BadWorks" (("BadWorks" : PySem.Str) == "WorkError" || ("BadWorks" : PySem.Str) == "ValueError" || ("BadWorks" : PySem.Str) == "BadGoods"), DL.isaB "BadRates" "BadWorks" (("BadWorks" : PySem.Str) == "WorkError" || ("BadWorks" : PySem.Str) == "ValueError" || ("BadWorks" : PySem.Str) == "BadRates"), DL.isaB "BadPlan" "BadWorks" (("BadWorks" : PySem.Str) == "WorkError" || ("BadWorks" : PySem.Str) == "ValueError" || ("BadWorks" : PySem.Str) == "BadPlan"), DL.isaB "BadWorks" "BadWorks" (("BadWorks" : PySem.Str) == "WorkError" || ("BadWorks" : PySem.Str) == "ValueError" || ("BadWorks" : PySem.Str) == "BadWorks"), DL.isaB "Barred" "BadWorks" (("BadWorks" : PySem.Str) == "WorkError" || ("BadWorks" : PySem.Str) == "ValueError" || ("BadWorks" : PySem.Str) == "Barred"), DL.isaB "BadText" "BadWorks" (("BadWorks" : PySem.Str) == "WorkError" || ("BadWorks" : PySem.Str) == "ValueError" || ("BadWorks" : PySem.Str) == "BadText"), DL.isaB "BadBook" "Barred" (("Barred" : PySem.Str) == "WorkError" || ("Barred" : PySem.Str) == "ValueError" || ("Barred" : PySem.Str) == "BadBook"), DL.isaB "BadGoods" "Barred" (("Barred" : PySem.Str) == "WorkError" || ("Barred" : PySem.Str) == "ValueError" || ("Barred" : PySem.Str) == "BadGoods"), DL.isaB "BadRates" "Barred" (("Barred" : PySem.Str) == "WorkError" || ("Barred" : PySem.Str) == "ValueError" || ("Barred" : PySem.Str) == "BadRates"), DL.isaB "BadPlan" "Barred" (("Barred" : PySem.Str) == "WorkError" || ("Barred" : PySem.Str) == "ValueError" || ("Barred" : PySem.Str) == "BadPlan"), DL.isaB "BadWorks" "Barred" (("Barred" : PySem.Str) == "WorkError" || ("Barred" : PySem.Str) == "ValueError" || ("Barred" : PySem.Str) == "BadWorks"), DL.isaB "Barred" "Barred" (("Barred" : PySem.Str) == "WorkError" || ("Barred" : PySem.Str) == "ValueError" || ("Barred" : PySem.Str) == "Barred"), DL.isaB "BadText" "Barred" (("Barred" : PySem.Str) == "WorkError" || ("Barred" : PySem.Str) == "ValueError" || ("Barred" : PySem.Str) == "BadText"), DL.isaB "BadBook" "WorkError" (("WorkError" : PySem.Str) == "WorkError" || ("WorkError" : PySem.Str) == "ValueError" || ("WorkError" : PySem.Str) == "BadBook"), DL.isaB "BadGoods" "WorkError" (("WorkError" : PySem.Str) == "WorkError" || ("WorkError" : PySem.Str) == "ValueError" || ("WorkError" : PySem.Str) == "BadGoods"), DL.isaB "BadRates" "WorkError" (("WorkError" : PySem.Str) == "WorkError" || ("WorkError" : PySem.Str) == "ValueError" || ("WorkError" : PySem.Str) == "BadRates")]
def ck_3 : List (PySem.W.Frag → Bool) := [DL.isaB "BadPlan" "WorkError" (("WorkError" : PySem.Str) == "WorkError" || ("WorkError" : PySem.Str) == "ValueError" || ("WorkError" : PySem.Str) == "BadPlan"), DL.isaB "BadWorks" "WorkError" (("WorkError" : PySem.Str) == "WorkError" || ("WorkError" : PySem.Str) == "ValueError" || ("WorkError" : PySem.Str) == "BadWorks"), DL.isaB "Barred" "WorkError" (("WorkError" : PySem.Str) == "WorkError" || ("WorkError" : PySem.Str) == "ValueError" || ("WorkError" : PySem.Str) == "Barred"), DL.isaB "BadText" "WorkError" (("WorkError" : PySem.Str) == "WorkError" || ("WorkError" : PySem.Str) == "ValueError" || ("WorkError" : PySem.Str) == "BadText")]
def ck : List (PySem.W.Frag → Bool) := ck_0 ++ ck_1 ++ ck_2 ++ ck_3
def nm_0 : List PySem.Str := ["divisor", "least", "is_fraction", "plus", "minus", "times", "over", "is_less", "whole", "upwards", "is_whole", "is_word", "is_side", "is_way", "look_book", "ways", "all_goods", "net", "look_raws", "look_wants"]
def nm_1 : List PySem.Str := ["look_all", "is_told", "look_plan", "rate_of", "rates", "power_of", "power", "does_meet", "meets", "leavings", "works", "givers", "takers", "layers", "never", "row_less", "goods_asked", "solved", "plan", "least_power"]
def nm_2 : List PySem.Str := ["paper", "worth_of", "gain_of", "shows", "is_least", "_law_cell", "_law_mix", "_law_draw", "_law_pick", "_law_refusal", "_law_good", "_law_side", "_law_book", "_law_goods", "_law_raws", "_law_rate", "_law_wants", "_law_plan", "_law_one", "_law_other"]
def nm_3 : List PySem.Str := ["_law_told", "_law_heard", "_law_bad_plan", "law", "BadBook", "BadGoods", "BadPlan", "BadRates", "BadText", "BadWorks", "Barred", "WorkError", "NOUGHT_plans"]
def nm : List PySem.Str := nm_0 ++ nm_1 ++ nm_2 ++ nm_3
abbrev R : PySem.W.OpenRow := PySem.W.OpenLaw.row PySem.Challenge.rw_partworks_k25_refused_plans
abbrev hk : PySem.W.Hook := DL.hookY nm fa fn tb ck
def ob (s : PySem.W.SharedT) : He.AlD := DL.obsYG nm fa fn tb ck (HandSHeadRun.getT s)
theorem ob_eq (s : PySem.W.SharedT) : ob s = hk.obs s.abs := DL.obsYG_eq (HandSHeadRun.getT_eq s)
theorem run (w : World) : HandSHeadRun.RunEq R (PySem.W.view R.prog [92]) hk ob 12000 names w := by
  intro os
  kernel_rfl
theorem facts {K : PySem.W.Frag} {h : Heap} {mg : Str → Option Value} (X : K.In h) (Y : h.Ns mainGlobals mg) (cY : DL.SaysY fa fn tb ck K) : Wk.G K mg := by
  have cX := cY.x
  have c := cX.d
  have A : DL.AllX K := ⟨DL.mem7 (cY.ck 0 rfl) (cY.ck 1 rfl) (cY.ck 2 rfl) (cY.ck 3 rfl) (cY.ck 4 rfl) (cY.ck 5 rfl) (cY.ck 6 rfl), cY.ck 7 rfl⟩
  have h_BadBook := DL.mem7 (p := fun c => DL.isaB c "BadBook" (("BadBook" : PySem.Str) == "WorkError" || ("BadBook" : PySem.Str) == "ValueError" || ("BadBook" : PySem.Str) == c) K = true) (cY.ck 8 rfl) (cY.ck 9 rfl) (cY.ck 10 rfl) (cY.ck 11 rfl) (cY.ck 12 rfl) (cY.ck 13 rfl) (cY.ck 14 rfl)
  have h_BadGoods := DL.mem7 (p := fun c => DL.isaB c "BadGoods" (("BadGoods" : PySem.Str) == "WorkError" || ("BadGoods" : PySem.Str) == "ValueError" || ("BadGoods" : PySem.Str) == c) K = true) (cY.ck 15 rfl) (cY.ck 16 rfl) (cY.ck 17 rfl) (cY.ck 18 rfl) (cY.ck 19 rfl) (cY.ck 20 rfl) (cY.ck 21 rfl)
  have h_BadPlan := DL.mem7 (p := fun c => DL.isaB c "BadPlan" (("BadPlan" : PySem.Str) == "WorkError" || ("BadPlan" : PySem.Str) == "ValueError" || ("BadPlan" : PySem.Str) == c) K = true) (cY.ck 22 rfl) (cY.ck 23 rfl) (cY.ck 24 rfl) (cY.ck 25 rfl) (cY.ck 26 rfl) (cY.ck 27 rfl) (cY.ck 28 rfl)
  have h_BadRates := DL.mem7 (p := fun c => DL.isaB c "BadRates" (("BadRates" : PySem.Str) == "WorkError" || ("BadRates" : PySem.Str) == "ValueError" || ("BadRates" : PySem.Str) == c) K = true) (cY.ck 29 rfl) (cY.ck 30 rfl) (cY.ck 31 rfl) (cY.ck 32 rfl) (cY.ck 33 rfl) (cY.ck 34 rfl) (cY.ck 35 rfl)
  have h_BadText := DL.mem7 (p := fun c => DL.isaB c "BadText" (("BadText" : PySem.Str) == "WorkError" || ("BadText" : PySem.Str) == "ValueError" || ("BadText" : PySem.Str) == c) K = true) (cY.ck 36 rfl) (cY.ck 37 rfl) (cY.ck 38 rfl) (cY.ck 39 rfl) (cY.ck 40 rfl) (cY.ck 41 rfl) (cY.ck 42 rfl)
  have h_BadWorks := DL.mem7 (p := fun c => DL.isaB c "BadWorks" (("BadWorks" : PySem.Str) == "WorkError" || ("BadWorks" : PySem.Str) == "ValueError" || ("BadWorks" : PySem.Str) == c) K = true) (cY.ck 43 rfl) (cY.ck 44 rfl) (cY.ck 45 rfl) (cY.ck 46 rfl) (cY.ck 47 rfl) (cY.ck 48 rfl) (cY.ck 49 rfl)
  have h_Barred := DL.mem7 (p := fun c => DL.isaB c "Barred" (("Barred" : PySem.Str) == "WorkError" || ("Barred" : PySem.Str) == "ValueError" || ("Barred" : PySem.Str) == c) K = true) (cY.ck 50 rfl) (cY.ck 51 rfl) (cY.ck 52 rfl) (cY.ck 53 rfl) (cY.ck 54 rfl) (cY.ck 55 rfl) (cY.ck 56 rfl)
  have h_WorkError := DL.mem7 (p := fun c => DL.isaB c "WorkError" (("WorkError" : PySem.Str) == "WorkError" || ("WorkError" : PySem.Str) == "ValueError" || ("WorkError" : PySem.Str) == c) K = true) (cY.ck 57 rfl) (cY.ck 58 rfl) (cY.ck 59 rfl) (cY.ck 60 rfl) (cY.ck 61 rfl) (cY.ck 62 rfl) (cY.ck 63 rfl)
  exact {
    b_ValueError := He.free_ok X Y (c.fact 64 (f := .free "ValueError") rfl),
    b_abs := He.free_ok X Y (c.fact 65 (f := .free "abs") rfl),
    b_all := He.free_ok X Y (c.fact 66 (f := .free "all") rfl),
    b_any := He.free_ok X Y (c.fact 67 (f := .free "any") rfl),
    b_bool := He.free_ok X Y (c.fact 68 (f := .free "bool") rfl),
    b_dict := He.free_ok X Y (c.fact 69 (f := .free "dict") rfl),
    b_int := He.free_ok X Y (c.fact 70 (f := .free "int") rfl),
    b_isinstance := He.free_ok X Y (c.fact 71 (f := .free "isinstance") rfl),
    b_len := He.free_ok X Y (c.fact 72 (f := .free "len") rfl),
    b_list := He.free_ok X Y (c.fact 73 (f := .free "list") rfl),
    b_range := He.free_ok X Y (c.fact 74 (f := .free "range") rfl),
    b_set := He.free_ok X Y (c.fact 75 (f := .free "set") rfl),
    b_sorted := He.free_ok X Y (c.fact 76 (f := .free "sorted") rfl),
    b_str := He.free_ok X Y (c.fact 77 (f := .free "str") rfl),
    b_tuple := He.free_ok X Y (c.fact 78 (f := .free "tuple") rfl),
    c_MOST_MANY := He.int_ok X Y (c.fact 79 (f := .int "MOST_MANY" (20)) rfl),
    c_MOST_POWER := He.int_ok X Y (c.fact 80 (f := .int "MOST_POWER" (50)) rfl),
    c_MOST_RAWS := He.int_ok X Y (c.fact 81 (f := .int "MOST_RAWS" (20)) rfl),
    c_MOST_SIDES := He.int_ok X Y (c.fact 82 (f := .int "MOST_SIDES" (3)) rfl),
    c_MOST_TICKS := He.int_ok X Y (c.fact 83 (f := .int "MOST_TICKS" (20)) rfl),
    c_MOST_TOP := He.int_ok X Y (c.fact 84 (f := .int "MOST_TOP" (1000000)) rfl),
    c_MOST_UNDER := He.int_ok X Y (c.fact 85 (f := .int "MOST_UNDER" (1000)) rfl),
    c_MOST_WANTS := He.int_ok X Y (c.fact 86 (f := .int "MOST_WANTS" (6)) rfl),
    c_MOST_WAYS := He.int_ok X Y (c.fact 87 (f := .int "MOST_WAYS" (6)) rfl),
    c_SMALL := He.str_ok X Y (c.fact 88 (f := .str "SMALL" "abcdefghijklmnopqrstuvwxyz") rfl),
    c_NOUGHT_plans := ⟨_, He.glo_ok X Y (c.fact 89 (f := .glo "NOUGHT_plans") rfl), fun H => .tup (DL.tabOk_tup (t := ("NOUGHT_plans", [.int (0), .int (1)])) (cX.tab 0 rfl) H) (.cons .int (.cons .int .nil))⟩,
    f_divisor := (let ⟨fd, F⟩ := c.def_ 0 (d := d_0) rfl; ⟨_, fd, F, He.glo_ok X Y (c.fact 0 (f := .glo "divisor") rfl)⟩),
    f_least := (let ⟨fd, F⟩ := c.def_ 1 (d := d_1) rfl; ⟨_, fd, F, He.glo_ok X Y (c.fact 1 (f := .glo "least") rfl)⟩),
    f_is_fraction := (let ⟨fd, F⟩ := c.def_ 2 (d := d_2) rfl; ⟨_, fd, F, He.glo_ok X Y (c.fact 2 (f := .glo "is_fraction") rfl)⟩),
    f_plus := (let ⟨fd, F⟩ := c.def_ 3 (d := d_3) rfl; ⟨_, fd, F, He.glo_ok X Y (c.fact 3 (f := .glo "plus") rfl)⟩),
    f_minus := (let ⟨fd, F⟩ := c.def_ 4 (d := d_4) rfl; ⟨_, fd, F, He.glo_ok X Y (c.fact 4 (f := .glo "minus") rfl)⟩),
    f_times := (let ⟨fd, F⟩ := c.def_ 5 (d := d_5) rfl; ⟨_, fd, F, He.glo_ok X Y (c.fact 5 (f := .glo "times") rfl)⟩),
    f_over := (let ⟨fd, F⟩ := c.def_ 6 (d := d_6) rfl; ⟨_, fd, F, He.glo_ok X Y (c.fact 6 (f := .glo "over") rfl)⟩),
    f_is_less := (let ⟨fd, F⟩ := c.def_ 7 (d := d_7) rfl; ⟨_, fd, F, He.glo_ok X Y (c.fact 7 (f := .glo "is_less") rfl)⟩),
    f_whole := (let ⟨fd, F⟩ := c.def_ 8 (d := d_8) rfl; ⟨_, fd, F, He.glo_ok X Y (c.fact 8 (f := .glo "whole") rfl)⟩),
    f_upwards := (let ⟨fd, F⟩ := c.def_ 9 (d := d_9) rfl; ⟨_, fd, F, He.glo_ok X Y (c.fact 9 (f := .glo "upwards") rfl)⟩),
    f_is_whole := (let ⟨fd, F⟩ := c.def_ 10 (d := d_10) rfl; ⟨_, fd, F, He.glo_ok X Y (c.fact 10 (f := .glo "is_whole") rfl)⟩),
    f_is_word := (let ⟨fd, F⟩ := c.def_ 11 (d := d_11) rfl; ⟨_, fd, F, He.glo_ok X Y (c.fact 11 (f := .glo "is_word") rfl)⟩),
    f_is_side := (let ⟨fd, F⟩ := c.def_ 12 (d := d_12) rfl; ⟨_, fd, F, He.glo_ok X Y (c.fact 12 (f := .glo "is_side") rfl)⟩),
    f_is_way := (let ⟨fd, F⟩ := c.def_ 13 (d := d_13) rfl; ⟨_, fd, F, He.glo_ok X Y (c.fact 13 (f := .glo "is_way") rfl)⟩),
    f_look_book := (let ⟨fd, F⟩ := c.def_ 14 (d := d_14) rfl; ⟨_, fd, F, He.glo_ok X Y (c.fact 14 (f := .glo "look_book") rfl)⟩),
    f_ways := (let ⟨fd, F⟩ := c.def_ 15 (d := d_15) rfl; ⟨_, fd, F, He.glo_ok X Y (c.fact 15 (f := .glo "ways") rfl)⟩),
    f_all_goods := (let ⟨fd, F⟩ := c.def_ 16 (d := d_16) rfl; ⟨_, fd, F, He.glo_ok X Y (c.fact 16 (f := .glo "all_goods") rfl)⟩),
    f_net := (let ⟨fd, F⟩ := c.def_ 17 (d := d_17) rfl; ⟨_, fd, F, He.glo_ok X Y (c.fact 17 (f := .glo "net") rfl)⟩),
    f_look_raws := (let ⟨fd, F⟩ := c.def_ 18 (d := d_18) rfl; ⟨_, fd, F, He.glo_ok X Y (c.fact 18 (f := .glo "look_raws") rfl)⟩),
    f_look_wants := (let ⟨fd, F⟩ := c.def_ 19 (d := d_19) rfl; ⟨_, fd, F, He.glo_ok X Y (c.fact 19 (f := .glo "look_wants") rfl)⟩),
    f_look_all := (let ⟨fd, F⟩ := c.def_ 20 (d := d_20) rfl; ⟨_, fd, F, He.glo_ok X Y (c.fact 20 (f := .glo "look_all") rfl)⟩),
    f_is_told := (let ⟨fd, F⟩ := c.def_ 21 (d := d_21) rfl; ⟨_, fd, F, He.glo_ok X Y (c.fact 21 (f := .glo "is_told") rfl)⟩),
    f_look_plan := (let ⟨fd, F⟩ := c.def_ 22 (d := d_22) rfl; ⟨_, fd, F, He.glo_ok X Y (c.fact 22 (f := .glo "look_plan") rfl)⟩),
    f_rate_of := (let ⟨fd, F⟩ := c.def_ 23 (d := d_23) rfl; ⟨_, fd, F, He.glo_ok X Y (c.fact 23 (f := .glo "rate_of") rfl)⟩),
    f_rates := (let ⟨fd, F⟩ := c.def_ 24 (d := d_24) rfl; ⟨_, fd, F, He.glo_ok X Y (c.fact 24 (f := .glo "rates") rfl)⟩),
    f_power_of := (let ⟨fd, F⟩ := c.def_ 25 (d := d_25) rfl; ⟨_, fd, F, He.glo_ok X Y (c.fact 25 (f := .glo "power_of") rfl)⟩),
    f_power := (let ⟨fd, F⟩ := c.def_ 26 (d := d_26) rfl; ⟨_, fd, F, He.glo_ok X Y (c.fact 26 (f := .glo "power") rfl)⟩),
    f_does_meet := (let ⟨fd, F⟩ := c.def_ 27 (d := d_27) rfl; ⟨_, fd, F, He.glo_ok X Y (c.fact 27 (f := .glo "does_meet") rfl)⟩),
    f_meets := (let ⟨fd, F⟩ := c.def_ 28 (d := d_28) rfl; ⟨_, fd, F, He.glo_ok X Y (c.fact 28 (f := .glo "meets") rfl)⟩),
    f_leavings := (let ⟨fd, F⟩ := c.def_ 29 (d := d_29) rfl; ⟨_, fd, F, He.glo_ok X Y (c.fact 29 (f := .glo "leavings") rfl)⟩),
    f_works := (let ⟨fd, F⟩ := c.def_ 30 (d := d_30) rfl; ⟨_, fd, F, He.glo_ok X Y (c.fact 30 (f := .glo "works") rfl)⟩),
    f_givers := (let ⟨fd, F⟩ := c.def_ 31 (d := d_31) rfl; ⟨_, fd, F, He.glo_ok X Y (c.fact 31 (f := .glo "givers") rfl)⟩),
    f_takers := (let ⟨fd, F⟩ := c.def_ 32 (d := d_32) rfl; ⟨_, fd, F, He.glo_ok X Y (c.fact 32 (f := .glo "takers") rfl)⟩),
    f_layers := (let ⟨fd, F⟩ := c.def_ 33 (d := d_33) rfl; ⟨_, fd, F, He.glo_ok X Y (c.fact 33 (f := .glo "layers") rfl)⟩),
    f_never := (let ⟨fd, F⟩ := c.def_ 34 (d := d_34) rfl; ⟨_, fd, F, He.glo_ok X Y (c.fact 34 (f := .glo "never") rfl)⟩),
    f_row_less := (let ⟨fd, F⟩ := c.def_ 35 (d := d_35) rfl; ⟨_, fd, F, He.glo_ok X Y (c.fact 35 (f := .glo "row_less") rfl)⟩),
    f_goods_asked := (let ⟨fd, F⟩ := c.def_ 36 (d := d_36) rfl; ⟨_, fd, F, He.glo_ok X Y (c.fact 36 (f := .glo "goods_asked") rfl)⟩),
    f_solved := (let ⟨fd, F⟩ := c.def_ 37 (d := d_37) rfl; ⟨_, fd, F, He.glo_ok X Y (c.fact 37 (f := .glo "solved") rfl)⟩),
    f_plan := (let ⟨fd, F⟩ := c.def_ 38 (d := d_38) rfl; ⟨_, fd, F, He.glo_ok X Y (c.fact 38 (f := .glo "plan") rfl)⟩),
    f_least_power := (let ⟨fd, F⟩ := c.def_ 39 (d := d_39) rfl; ⟨_, fd, F, He.glo_ok X Y (c.fact 39 (f := .glo "least_power") rfl)⟩),
    f_paper := (let ⟨fd, F⟩ := c.def_ 40 (d := d_40) rfl; ⟨_, fd, F, He.glo_ok X Y (c.fact 40 (f := .glo "paper") rfl)⟩),
    f_worth_of := (let ⟨fd, F⟩ := c.def_ 41 (d := d_41) rfl; ⟨_, fd, F, He.glo_ok X Y (c.fact 41 (f := .glo "worth_of") rfl)⟩),
    f_gain_of := (let ⟨fd, F⟩ := c.def_ 42 (d := d_42) rfl; ⟨_, fd, F, He.glo_ok X Y (c.fact 42 (f := .glo "gain_of") rfl)⟩),
    f_shows := (let ⟨fd, F⟩ := c.def_ 43 (d := d_43) rfl; ⟨_, fd, F, He.glo_ok X Y (c.fact 43 (f := .glo "shows") rfl)⟩),
    f_is_least := (let ⟨fd, F⟩ := c.def_ 44 (d := d_44) rfl; ⟨_, fd, F, He.glo_ok X Y (c.fact 44 (f := .glo "is_least") rfl)⟩),
    f_law_cell := (let ⟨fd, F⟩ := c.def_ 45 (d := d_45) rfl; ⟨_, fd, F, He.glo_ok X Y (c.fact 45 (f := .glo "_law_cell") rfl)⟩),
    f_law_mix := (let ⟨fd, F⟩ := c.def_ 46 (d := d_46) rfl; ⟨_, fd, F, He.glo_ok X Y (c.fact 46 (f := .glo "_law_mix") rfl)⟩),
    f_law_draw := (let ⟨fd, F⟩ := c.def_ 47 (d := d_47) rfl; ⟨_, fd, F, He.glo_ok X Y (c.fact 47 (f := .glo "_law_draw") rfl)⟩),
    f_law_pick := (let ⟨fd, F⟩ := c.def_ 48 (d := d_48) rfl; ⟨_, fd, F, He.glo_ok X Y (c.fact 48 (f := .glo "_law_pick") rfl)⟩),
    f_law_refusal := (let ⟨fd, F⟩ := c.def_ 49 (d := d_49) rfl; ⟨_, fd, F, He.glo_ok X Y (c.fact 49 (f := .glo "_law_refusal") rfl)⟩),
    f_law_good := (let ⟨fd, F⟩ := c.def_ 50 (d := d_50) rfl; ⟨_, fd, F, He.glo_ok X Y (c.fact 50 (f := .glo "_law_good") rfl)⟩),
    f_law_side := (let ⟨fd, F⟩ := c.def_ 51 (d := d_51) rfl; ⟨_, fd, F, He.glo_ok X Y (c.fact 51 (f := .glo "_law_side") rfl)⟩),
    f_law_book := (let ⟨fd, F⟩ := c.def_ 52 (d := d_52) rfl; ⟨_, fd, F, He.glo_ok X Y (c.fact 52 (f := .glo "_law_book") rfl)⟩),
    f_law_goods := (let ⟨fd, F⟩ := c.def_ 53 (d := d_53) rfl; ⟨_, fd, F, He.glo_ok X Y (c.fact 53 (f := .glo "_law_goods") rfl)⟩),
    f_law_raws := (let ⟨fd, F⟩ := c.def_ 54 (d := d_54) rfl; ⟨_, fd, F, He.glo_ok X Y (c.fact 54 (f := .glo "_law_raws") rfl)⟩),
    f_law_rate := (let ⟨fd, F⟩ := c.def_ 55 (d := d_55) rfl; ⟨_, fd, F, He.glo_ok X Y (c.fact 55 (f := .glo "_law_rate") rfl)⟩),
    f_law_wants := (let ⟨fd, F⟩ := c.def_ 56 (d := d_56) rfl; ⟨_, fd, F, He.glo_ok X Y (c.fact 56 (f := .glo "_law_wants") rfl)⟩),
    f_law_plan := (let ⟨fd, F⟩ := c.def_ 57 (d := d_57) rfl; ⟨_, fd, F, He.glo_ok X Y (c.fact 57 (f := .glo "_law_plan") rfl)⟩),
    f_law_one := (let ⟨fd, F⟩ := c.def_ 58 (d := d_58) rfl; ⟨_, fd, F, He.glo_ok X Y (c.fact 58 (f := .glo "_law_one") rfl)⟩),
    f_law_other := (let ⟨fd, F⟩ := c.def_ 59 (d := d_59) rfl; ⟨_, fd, F, He.glo_ok X Y (c.fact 59 (f := .glo "_law_other") rfl)⟩),
    f_law_told := (let ⟨fd, F⟩ := c.def_ 60 (d := d_60) rfl; ⟨_, fd, F, He.glo_ok X Y (c.fact 60 (f := .glo "_law_told") rfl)⟩),
    f_law_heard := (let ⟨fd, F⟩ := c.def_ 61 (d := d_61) rfl; ⟨_, fd, F, He.glo_ok X Y (c.fact 61 (f := .glo "_law_heard") rfl)⟩),
    f_law_bad_plan := (let ⟨fd, F⟩ := c.def_ 62 (d := d_62) rfl; ⟨_, fd, F, He.glo_ok X Y (c.fact 62 (f := .glo "_law_bad_plan") rfl)⟩),
    f_law := (let ⟨fd, F⟩ := c.def_ 63 (d := d_63) rfl; ⟨_, fd, F, He.glo_ok X Y (c.fact 63 (f := .glo "law") rfl)⟩),
    x_BadBook := DL.excB_K (cY.ck 0 rfl) X Y,
    x_BadGoods := DL.excB_K (cY.ck 1 rfl) X Y,
    x_BadPlan := DL.excB_K (cY.ck 3 rfl) X Y,
    x_BadRates := DL.excB_K (cY.ck 2 rfl) X Y,
    x_Barred := DL.excB_K (cY.ck 5 rfl) X Y,
    k_BadBook := DL.kit_of A h_BadBook,
    k_BadGoods := DL.kit_of A h_BadGoods,
    k_BadPlan := DL.kit_of A h_BadPlan,
    k_BadRates := DL.kit_of A h_BadRates,
    k_BadText := DL.kit_of A h_BadText,
    k_BadWorks := DL.kit_of A h_BadWorks,
    k_Barred := DL.kit_of A h_Barred,
    k_ValueError := DL.kit_V A,
    s_WorkError := DL.sub_of h_WorkError,
    n_BadBook := (DL.excB_K (cY.ck 0 rfl) X Y).mg,
    n_BadGoods := (DL.excB_K (cY.ck 1 rfl) X Y).mg,
    n_BadPlan := (DL.excB_K (cY.ck 3 rfl) X Y).mg,
    n_BadRates := (DL.excB_K (cY.ck 2 rfl) X Y).mg,
    n_BadText := (DL.excB_K (cY.ck 6 rfl) X Y).mg,
    n_BadWorks := (DL.excB_K (cY.ck 4 rfl) X Y).mg,
    n_Barred := (DL.excB_K (cY.ck 5 rfl) X Y).mg,
    n_WorkError := He.glo_ok X Y (c.fact 90 (f := .glo "WorkError") rfl) }
end Hd
open PySem PySem.W PySem.Calls PyProof.Rows
theorem PySem.Challenge.cw_partworks_k25_refused_plans_holds : PySem.Challenge.rw_partworks_k25_refused_plans.Holds := by
  w_on; o_law
  refine HandSHeadRun.head_any (r := OpenLaw.row PySem.Challenge.rw_partworks_k25_refused_plans) (q := view (OpenLaw.row PySem.Challenge.rw_partworks_k25_refused_plans).prog [92]) (H := Hd.hk) (ob := Hd.ob) (M := 12000) (loose := Hd.names) (d := HandSHeadRun.topDef (OpenLaw.row PySem.Challenge.rw_partworks_k25_refused_plans).prog 92) (kwd := []) Hd.ob_eq
    (by kernel_rfl) (fun s => by kernel_rfl) Hd.run (by kernel_rfl) (by kernel_rfl) (by kernel_rfl) (by rfl) (by first | assumption | decide +kernel) (by decide +kernel) ⟨rfl, rfl, rfl, rfl, rfl, by decide +kernel⟩ ?hw ?hc
  case hw => w_witness2
  case hc =>
    refine L2.walk_ofE (l := PySem.Challenge.rw_partworks_k25_refused_plans) (n := 63) (k := 10) (x := "_law_script") (CX := L2.CX0) rfl (by decide) (by kernel_rfl) ⟨rfl, by decide, by decide⟩ ?F (fun _ _ _ _ z => z)
    intro w mg fa h Y G hmg0
    obtain ⟨K, KX, cY⟩ := Y
    have c := cY.x.d
    have hmg : mg ("law" : PySem.Str) = some (.ref fa) := by
      have e : (HandSHeadRun.topDef (OpenLaw.row PySem.Challenge.rw_partworks_k25_refused_plans).prog 92).name = ("law" : PySem.Str) := by kernel_rfl
      rw [← e]
      exact hmg0
    have g := Hd.facts KX G cY
    obtain ⟨fd, FD⟩ := c.def_ 63 (d := Hd.d_63) rfl
    have e := hmg.symm.trans (He.glo_ok KX G (c.fact 63 (f := .glo "law") rfl))
    cases e
    have b := L2.FunD.bindsA (ps := ["_law_script"]) FD fun _ _ _ _ _ _ us hl => match us, hl with | [_], _ => rfl
    exact ⟨K, fd, fun vs H Q _ => DL.spF K 1 Wk.F_law vs H Q fun _ _ _ => False, KX, fun s v => b s [v] rfl, fun H a ns hl hO hS => DL.sp_end hO hS (Wk.law_true ns hl), fun base _ _ => DL.fn_never (Wk.ok_law g FD)⟩
