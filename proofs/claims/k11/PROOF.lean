import PyProof.Rows.All
import Wide.All
import OpenK.AllK
import Wide.FinOn
import HandS.ForMost
import HandS.Exc
import HandS.ExcOwn
import HandS.CallSlots
import HandS.IsInst
import HandS.Wide
import HandS.Defaults
import HandS.HeadHook2
import HandS.TupAny
import HandS.Deep
import HandS.Style
import HandS.Set
import HandS.Strs
import KE.KDictSum
import PyProof.Rows.SortShellAny
import HandS.Conv
import KE.KDictPairs
import PySem.Challenge.RW_partworks_k11_whole_chains
import KE.KStateDown
import Lean
import HandS.More
import HandS.Words
import HandS.WordsExc
import HandS.Head0
import HandS.Head1
import HandS.Head2
import HandS.HeadEnd
import HandS.HeadHook1
set_option Elab.async false
set_option linter.all false
set_option maxRecDepth 100000
set_option maxHeartbeats 2000000
namespace DL
open PySem PySem.Spec L2

/-! ### data -/
inductive D where
  | non | bl (b : Bool) | int (i : Int) | str (x : Str)
  | tup (xs : List D) | lst (xs : List D) | dic (kvs : List (Key × D))
  | exc (c : Str)

/-- a tuple that is one and no more (no attributes of its own) -/
def TupP (K : PySem.W.Frag) (H : Hp) (a : Addr) (xs : List V) : Prop :=
  (∃ o, H a = some (.frz o (.tup xs)) ∧ o.dict = none) ∨
    ∃ (o : Obj) (its : Array Value) (n : Nat), K.lookup a = some o ∧ o.cls = .type "tuple" ∧ o.dict = none ∧ o.data = .seq its n ∧ its.size ≤ sizeLine ∧ Vals xs its.toList
/-- a list laid fast, or one of the module -/
def LstP (K : PySem.W.Frag) (H : Hp) (a : Addr) (xs : List V) : Prop :=
  (∃ o, H a = some (.frz o (.lst xs))) ∨
    ∃ (o : Obj) (its : Array Value) (n : Nat), K.lookup a = some o ∧ o.cls = .type "list" ∧ o.dict = none ∧ o.data = .seq its n ∧ its.size ≤ sizeLine ∧ Vals xs its.toList
theorem LstP.sq {K : PySem.W.Frag} {H : Hp} {a : Addr} {xs : List V} (h : LstP K H a xs) : SqL K H a xs := by
  rcases h with ⟨o, h⟩ | h
  · exact .inl (.inr ⟨o, h⟩)
  · exact .inr h
theorem TupP.sq {K : PySem.W.Frag} {H : Hp} {a : Addr} {xs : List V} (h : TupP K H a xs) : SqT K H a xs := by
  rcases h with ⟨o, h, _⟩ | ⟨o, its, n, h1, h2, _, h3, h4, h5⟩
  · exact .inl (.inr ⟨o, h⟩)
  · exact .inr ⟨o, its, n, h1, h2, h3, h4, h5⟩

mutual
/-- v stands for the data d, all of it laid fast -/
inductive Dat (K : PySem.W.Frag) (H : Hp) : V → D → Prop where
  | non : Dat K H .non .non
  | bl {b} : Dat K H (.bl b) (.bl b)
  | int {i} : Dat K H (.int i) (.int i)
  | str {x} : Dat K H (.str x) (.str x)
  | tup {a vs xs} (h : TupP K H a vs) (r : DatL K H vs xs) : Dat K H (.ref a) (.tup xs)
  | lst {a vs xs} (h : LstP K H a vs) (r : DatL K H vs xs) : Dat K H (.ref a) (.lst xs)
  | dic {a o vs xs} (h : H a = some (.frz o (.dK vs))) (r : DatK K H vs xs) : Dat K H (.ref a) (.dic xs)
inductive DatL (K : PySem.W.Frag) (H : Hp) : List V → List D → Prop where
  | nil : DatL K H [] []
  | cons {v d vs ds} (h : Dat K H v d) (r : DatL K H vs ds) : DatL K H (v :: vs) (d :: ds)
inductive DatK (K : PySem.W.Frag) (H : Hp) : List (Key × V) → List (Key × D) → Prop where
  | nil : DatK K H [] []
  | cons {k v d vs ds} (h : Dat K H v d) (r : DatK K H vs ds) : DatK K H ((k, v) :: vs) ((k, d) :: ds)
end

/-- what never changes any more -/
def Imm : HO → Prop
  | .tup _ => True
  | .frz _ _ => True
  | _ => False
def Mono (H H' : Hp) : Prop := ∀ a o, H a = some o → Imm o → H' a = some o
theorem Mono.refl (H : Hp) : Mono H H := fun _ _ h _ => h
theorem Mono.trans {H H1 H2 : Hp} (x : Mono H H1) (y : Mono H1 H2) : Mono H H2 := fun a o h i => y a o (x a o h i) i
theorem Mono.upd {H : Hp} {p : Addr} {o : HO} (h : ∀ u, H p = some u → ¬ Imm u) : Mono H (upd H p o) := fun a u e i => by
  by_cases z : a = p
  · subst z; exact absurd i (h u e)
  · rw [upd_ne z]; exact e
theorem Mono.new {H : Hp} {p : Addr} {o : HO} (h : H p = none) : Mono H (L2.upd H p o) := Mono.upd fun u e => by rw [h] at e; cases e

theorem TupP.mono {K : PySem.W.Frag} {H H' : Hp} {a : Addr} {vs : List V} (m : Mono H H') (h : TupP K H a vs) : TupP K H' a vs := by
  rcases h with ⟨o, h, d⟩ | h
  · exact .inl ⟨o, m _ _ h True.intro, d⟩
  · exact .inr h

theorem LstP.mono {K : PySem.W.Frag} {H H' : Hp} {a : Addr} {vs : List V} (m : Mono H H') (h : LstP K H a vs) : LstP K H' a vs := by
  rcases h with ⟨o, h⟩ | h
  · exact .inl ⟨o, m _ _ h True.intro⟩
  · exact .inr h
mutual
theorem Dat.mono {K : PySem.W.Frag} {H H' : Hp} (m : Mono H H') : ∀ {v : V} {d : D}, Dat K H v d → Dat K H' v d
  | _, _, .non => .non
  | _, _, .bl => .bl
  | _, _, .int => .int
  | _, _, .str => .str
  | _, _, .tup h r => .tup (TupP.mono m h) (DatL.mono m r)
  | _, _, .lst h r => .lst (LstP.mono m h) (DatL.mono m r)
  | _, _, .dic h r => .dic (m _ _ h True.intro) (DatK.mono m r)
theorem DatL.mono {K : PySem.W.Frag} {H H' : Hp} (m : Mono H H') : ∀ {v : List V} {d : List D}, DatL K H v d → DatL K H' v d
  | _, _, .nil => .nil
  | _, _, .cons h r => .cons (Dat.mono m h) (DatL.mono m r)
theorem DatK.mono {K : PySem.W.Frag} {H H' : Hp} (m : Mono H H') : ∀ {v : List (Key × V)} {d : List (Key × D)}, DatK K H v d → DatK K H' v d
  | _, _, .nil => .nil
  | _, _, .cons h r => .cons (Dat.mono m h) (DatK.mono m r)
end

section
variable {K : PySem.W.Frag} {H : Hp}
theorem DatL.length : ∀ {vs : List V} {ds : List D}, DatL K H vs ds → vs.length = ds.length
  | _, _, .nil => rfl
  | _, _, .cons _ r => congrArg Nat.succ (DatL.length r)
theorem DatK.length : ∀ {vs : List (Key × V)} {ds : List (Key × D)}, DatK K H vs ds → vs.length = ds.length
  | _, _, .nil => rfl
  | _, _, .cons _ r => congrArg Nat.succ (DatK.length r)
theorem DatL.append : ∀ {vs ws : List V} {ds es : List D}, DatL K H vs ds → DatL K H ws es → DatL K H (vs ++ ws) (ds ++ es)
  | _, _, _, _, .nil, s => s
  | _, _, _, _, .cons h r, s => .cons h (DatL.append r s)
theorem DatL.get : ∀ {vs : List V} {ds : List D} {i : Nat} {d : D}, DatL K H vs ds → ds[i]? = some d → ∃ v, vs[i]? = some v ∧ Dat K H v d
  | _, _, _, _, .nil, e => by simp at e
  | _, _, 0, _, .cons h _, e => by simp at e; subst e; exact ⟨_, rfl, h⟩
  | _, _, i + 1, _, .cons _ r, e => by
    obtain ⟨v, h1, h2⟩ := DatL.get (i := i) r (by simpa using e)
    exact ⟨v, by simpa using h1, h2⟩
theorem DatL.get' : ∀ {vs : List V} {ds : List D} {i : Nat} {v : V}, DatL K H vs ds → vs[i]? = some v → ∃ d, ds[i]? = some d ∧ Dat K H v d
  | _, _, _, _, .nil, e => by simp at e
  | _, _, 0, _, .cons h _, e => by simp at e; subst e; exact ⟨_, rfl, h⟩
  | _, _, i + 1, _, .cons _ r, e => by
    obtain ⟨v, h1, h2⟩ := DatL.get' (i := i) r (by simpa using e)
    exact ⟨v, by simpa using h1, h2⟩
theorem DatL.take : ∀ {vs : List V} {ds : List D} (n : Nat), DatL K H vs ds → DatL K H (vs.take n) (ds.take n)
  | _, _, 0, _ => by simp only [List.take_zero]; exact .nil
  | _, _, _ + 1, .nil => .nil
  | _, _, n + 1, .cons h r => .cons h (DatL.take n r)
theorem DatL.drop : ∀ {vs : List V} {ds : List D} (n : Nat), DatL K H vs ds → DatL K H (vs.drop n) (ds.drop n)
  | _, _, 0, r => r
  | _, _, _ + 1, .nil => .nil
  | _, _, n + 1, .cons _ r => DatL.drop n r
theorem DatL.set {v : V} {d : D} (x : Dat K H v d) : ∀ {vs : List V} {ds : List D} (n : Nat), DatL K H vs ds → DatL K H (vs.set n v) (ds.set n d)
  | _, _, _, .nil => .nil
  | _, _, 0, .cons _ r => .cons x r
  | _, _, n + 1, .cons h r => .cons h (DatL.set x n r)
theorem DatL.dropLast : ∀ {vs : List V} {ds : List D}, DatL K H vs ds → DatL K H vs.dropLast ds.dropLast := fun {vs ds} r => by
  rw [List.dropLast_eq_take, List.dropLast_eq_take, r.length]
  exact r.take _
theorem DatL.replicate {v : V} {d : D} (x : Dat K H v d) : ∀ n : Nat, DatL K H (List.replicate n v) (List.replicate n d)
  | 0 => .nil
  | n + 1 => .cons x (DatL.replicate x n)
theorem DatL.ints : ∀ (ns : List Int), DatL K H (ns.map V.int) (ns.map D.int)
  | [] => .nil
  | _ :: ns => .cons .int (DatL.ints ns)
theorem DatL.strs : ∀ (ns : List Str), DatL K H (ns.map V.str) (ns.map D.str)
  | [] => .nil
  | _ :: ns => .cons .str (DatL.strs ns)
theorem DatL.ofStrs : ∀ {vs : List V} {ns : List Str}, DatL K H vs (ns.map D.str) → vs = ns.map V.str
  | _, [], .nil => rfl
  | _, _ :: ns, .cons .str r => by rw [DatL.ofStrs r]; rfl
theorem DatL.ofInts : ∀ {vs : List V} {ns : List Int}, DatL K H vs (ns.map D.int) → vs = ns.map V.int
  | _, [], .nil => rfl
  | _, _ :: ns, .cons .int r => by rw [DatL.ofInts r]; rfl
theorem DatL.ofBls : ∀ {vs : List V} {ns : List Bool}, DatL K H vs (ns.map D.bl) → vs = ns.map V.bl
  | _, [], .nil => rfl
  | _, _ :: ns, .cons .bl r => by rw [DatL.ofBls r]; rfl
end

/-! ### what a frame holds -/
/-- an object that the frame may change -/
inductive OD where
  | l (xs : List D)
  | d (kvs : List (Key × D))
/-- a slot: not told, data, an object of one's own (r: handed in by the caller, so it stays at its slot) -/
inductive AV where
  | un
  | fz (d : D)
  | ow (r : Bool) (o : OD)
abbrev Ev := List AV

def Own (K : PySem.W.Frag) (H : Hp) (p : Addr) : OD → Prop
  | .l xs => ∃ vs, H p = some (.lst vs) ∧ DatL K H vs xs
  | .d xs => ∃ vs, H p = some (.dK vs) ∧ DatK K H vs xs
def OD.dat : OD → D
  | .l xs => .lst xs
  | .d xs => .dic xs
theorem Own.there {K : PySem.W.Frag} {H : Hp} {p : Addr} {o : OD} (h : Own K H p o) : ∃ u, H p = some u ∧ ¬ Imm u ∧ Mut (some u) := by
  cases o with
  | l xs => obtain ⟨vs, e, _⟩ := h; exact ⟨_, e, fun z => z, True.intro⟩
  | d xs => obtain ⟨vs, e, _⟩ := h; exact ⟨_, e, fun z => z, True.intro⟩
theorem Own.keep {K : PySem.W.Frag} {H H' : Hp} {p : Addr} {o : OD} (h : Own K H p o) (m : Mono H H') (e : H' p = H p) : Own K H' p o := by
  cases o with
  | l xs => obtain ⟨vs, q, r⟩ := h; exact ⟨vs, e.trans q, r.mono m⟩
  | d xs => obtain ⟨vs, q, r⟩ := h; exact ⟨vs, e.trans q, r.mono m⟩
/-- the object is laid fast -/
theorem Own.frz {K : PySem.W.Frag} {H : Hp} {p : Addr} {o : OD} {od : Obj} {u : HO} (h : Own K H p o) (e : H p = some u) : Dat K (upd H p (.frz od u)) (V.ref p) o.dat := by
  have m : Mono H (upd H p (.frz od u)) := Mono.upd fun w q => by
    obtain ⟨z, q', n, _⟩ := h.there
    rw [q'] at q; cases q; exact n
  cases o with
  | l xs => obtain ⟨vs, q, r⟩ := h; rw [e] at q; cases q; exact .lst (.inl ⟨od, upd_same⟩) (r.mono m)
  | d xs => obtain ⟨vs, q, r⟩ := h; rw [e] at q; cases q; exact .dic (o := od) upd_same (r.mono m)

def SlotOk (K : PySem.W.Frag) (H : Hp) (x : Option (Option V)) : AV → Prop
  | .un => True
  | .fz d => ∃ v, x = some (some v) ∧ Dat K H v d
  | .ow _ o => ∃ p, x = some (some (V.ref p)) ∧ Own K H p o

/-- Fr: what belongs to others and stays; B: the slots of what was handed in to be changed, with its addresses -/
structure Rep (K : PySem.W.Frag) (Fr : Addr → Prop) (B : List (Nat × Addr)) (σ : St) (H : Hp) (ρ : Ev) : Prop where
  len : ρ.length = σ.length
  at_ : ∀ (i : Nat) (a : AV), ρ[i]? = some a → SlotOk K H σ[i]? a
  fr : ∀ (i : Nat) (p : Addr) (r : Bool) (o : OD), ρ[i]? = some (.ow r o) → σ[i]? = some (some (V.ref p)) → ¬ Fr p
  inj : ∀ (i j : Nat) (p : Addr) (r : Bool) (o : OD) (r' : Bool) (o' : OD), ρ[i]? = some (.ow r o) → ρ[j]? = some (.ow r' o') → σ[i]? = some (some (V.ref p)) → σ[j]? = some (some (V.ref p)) → i = j
  tr : ∀ b, Fr b → H b ≠ none
  rb : ∀ q ∈ B, σ[q.1]? = some (some (V.ref q.2)) ∧ ∃ o, ρ[q.1]? = some (.ow true o)
/-- the heap goes on: what is fast stays, what belongs to others stays -/
structure Step (Fr : Addr → Prop) (H H' : Hp) : Prop where
  mono : Mono H H'
  keep : ∀ b, Fr b → H' b = H b
theorem Step.refl {Fr : Addr → Prop} {H : Hp} : Step Fr H H := ⟨Mono.refl H, fun _ _ => rfl⟩
theorem Step.trans {Fr : Addr → Prop} {H H1 H2 : Hp} (x : Step Fr H H1) (y : Step Fr H1 H2) : Step Fr H H2 := ⟨x.mono.trans y.mono, fun b h => (y.keep b h).trans (x.keep b h)⟩
theorem Step.wide {Fr Fr' : Addr → Prop} {H H' : Hp} (x : Step Fr' H H') (h : ∀ b, Fr b → Fr' b) : Step Fr H H' := ⟨x.mono, fun b q => x.keep b (h b q)⟩
/-- an address that none of the slots, nor another, holds -/
def Fresh (Fr : Addr → Prop) (σ : St) (ρ : Ev) (p : Addr) : Prop := ¬ Fr p ∧ ∀ (i : Nat) (r : Bool) (o : OD), ρ[i]? = some (.ow r o) → σ[i]? ≠ some (some (V.ref p))

section
variable {K : PySem.W.Frag} {Fr : Addr → Prop} {B : List (Nat × Addr)} {σ : St} {H H' : Hp} {ρ : Ev} {p : Addr} {o : OD} {i : Nat} {r : Bool}
theorem Rep.own (R : Rep K Fr B σ H ρ) (h : ρ[i]? = some (.ow r o)) : ∃ p, σ[i]? = some (some (V.ref p)) ∧ Own K H p o := R.at_ i _ h
theorem Rep.lt (R : Rep K Fr B σ H ρ) {a : AV} (h : ρ[i]? = some a) : i < σ.length := by
  have := (List.getElem?_eq_some_iff.mp h).1
  rw [R.len] at this; exact this
/-- nothing that a slot holds has changed -/
theorem Rep.keep (R : Rep K Fr B σ H ρ) (m : Mono H H') (k : ∀ (i : Nat) (r : Bool) (o : OD) (p : Addr), ρ[i]? = some (.ow r o) → σ[i]? = some (some (V.ref p)) → H' p = H p) (t : ∀ b, Fr b → H' b = H b) : Rep K Fr B σ H' ρ := by
  refine ⟨R.len, fun i a h => ?_, R.fr, R.inj, fun b h => by rw [t b h]; exact R.tr b h, R.rb⟩
  have q := R.at_ i a h
  cases a with
  | un => exact True.intro
  | fz d => obtain ⟨v, e, x⟩ := q; exact ⟨v, e, x.mono m⟩
  | ow r o => obtain ⟨p, e, x⟩ := q; exact ⟨p, e, x.keep m (k i r o p h e)⟩
theorem Rep.fresh (R : Rep K Fr B σ H ρ) (h : H p = none) : Fresh Fr σ ρ p := ⟨fun z => R.tr p z h, fun i r o e z => by
  obtain ⟨q, e1, x⟩ := R.own e
  rw [e1] at z
  cases z
  obtain ⟨u, e2, _⟩ := x.there
  rw [h] at e2; cases e2⟩
/-- a new object, whatever it is -/
theorem Rep.new {u : HO} (R : Rep K Fr B σ H ρ) (h : H p = none) : Rep K Fr B σ (upd H p u) ρ := by
  have f := R.fresh h
  refine R.keep (Mono.new h) (fun i r o q e1 e2 => ?_) fun b hb => ?_
  · rw [upd_ne]; rintro rfl; exact f.2 i r o e1 e2
  · rw [upd_ne]; rintro rfl; exact f.1 hb
theorem Step.new {u : HO} (R : Rep K Fr B σ H ρ) (h : H p = none) : Step Fr H (upd H p u) := ⟨Mono.new h, fun b hb => by rw [upd_ne]; rintro rfl; exact R.tr b hb h⟩
/-- what belongs to nobody is changed -/
theorem Rep.other {u w : HO} (R : Rep K Fr B σ H ρ) (f : Fresh Fr σ ρ p) (e : H p = some w) (n : ¬ Imm w) : Rep K Fr B σ (upd H p u) ρ := by
  refine R.keep (Mono.upd fun z q => by rw [e] at q; cases q; exact n) (fun i r o q e1 e2 => ?_) fun b hb => ?_
  · rw [upd_ne]; rintro rfl; exact f.2 i r o e1 e2
  · rw [upd_ne]; rintro rfl; exact f.1 hb
theorem Step.other {u w : HO} (f : ¬ Fr p) (e : H p = some w) (n : ¬ Imm w) : Step Fr H (upd H p u) := ⟨Mono.upd fun z q => by rw [e] at q; cases q; exact n, fun b hb => by
  rw [upd_ne]; rintro rfl; exact f hb⟩
/-- a frame within which p belongs to another -/
theorem Rep.guard (R : Rep K Fr B σ H ρ) (f : Fresh Fr σ ρ p) (h : H p ≠ none) : Rep K (fun b => Fr b ∨ b = p) B σ H ρ :=
  ⟨R.len, R.at_, fun i q r o e1 e2 => fun z => z.elim (R.fr i q r o e1 e2) fun z => by subst z; exact f.2 i r o e1 e2, R.inj, fun b hb => hb.elim (R.tr b) fun z => by subst z; exact h, R.rb⟩
theorem Rep.unguard {Fr' : Addr → Prop} (R : Rep K Fr' B σ H ρ) (h : ∀ b, Fr b → Fr' b) : Rep K Fr B σ H ρ :=
  ⟨R.len, R.at_, fun i q r o e1 e2 z => R.fr i q r o e1 e2 (h q z), R.inj, fun b hb => R.tr b (h b hb), R.rb⟩

theorem get_set_ne {α : Type} {l : List α} {i j : Nat} {a : α} (h : i ≠ j) : (l.set i a)[j]? = l[j]? := List.getElem?_set_ne h
/-- the object of slot i is changed -/
theorem Rep.write {o' : OD} {u : HO} (R : Rep K Fr B σ H ρ) (e : ρ[i]? = some (.ow r o)) (ep : σ[i]? = some (some (V.ref p))) (w : Own K (upd H p u) p o') (m : ∀ z, H p = some z → ¬ Imm z) : Rep K Fr B σ (upd H p u) (ρ.set i (.ow r o')) := by
  have hi : i < ρ.length := (List.getElem?_eq_some_iff.mp e).1
  have mono : Mono H (upd H p u) := Mono.upd m
  have at' : ∀ {j : Nat} {a : AV}, (ρ.set i (.ow r o'))[j]? = some a → (j = i ∧ a = .ow r o') ∨ (j ≠ i ∧ ρ[j]? = some a) := fun {j a} q => by
    by_cases z : i = j
    · subst z
      rw [List.getElem?_set_self hi] at q
      exact .inl ⟨rfl, (Option.some.inj q).symm⟩
    · rw [get_set_ne z] at q; exact .inr ⟨Ne.symm z, q⟩
  have own' : ∀ {j : Nat} {r' : Bool} {q : OD}, (ρ.set i (.ow r o'))[j]? = some (.ow r' q) → ∃ q', ρ[j]? = some (.ow r' q') := fun {j r' q} h => by
    rcases at' h with ⟨rfl, h'⟩ | ⟨_, h'⟩
    · cases h'; exact ⟨o, e⟩
    · exact ⟨q, h'⟩
  refine ⟨by rw [List.length_set]; exact R.len, fun j a h => ?_, fun j q r' x h1 h2 => ?_, fun j k q r1 x1 r2 x2 h1 h2 h3 h4 => ?_, fun b hb => ?_, fun q hq => ?_⟩
  · rcases at' h with ⟨rfl, rfl⟩ | ⟨ne, h⟩
    · exact ⟨p, ep, w⟩
    · have q := R.at_ j a h
      cases a with
      | un => exact True.intro
      | fz d => obtain ⟨v, e', x⟩ := q; exact ⟨v, e', x.mono mono⟩
      | ow r2 o2 =>
        obtain ⟨p2, e2, x⟩ := q
        refine ⟨p2, e2, x.keep mono ?_⟩
        rw [upd_ne]; rintro rfl; exact ne (R.inj j i _ _ _ _ _ h e e2 ep)
  · obtain ⟨x', h'⟩ := own' h1; exact R.fr j q r' x' h' h2
  · obtain ⟨y1, g1⟩ := own' h1
    obtain ⟨y2, g2⟩ := own' h2
    exact R.inj j k q _ _ _ _ g1 g2 h3 h4
  · by_cases z : b = p
    · subst z; rw [upd_same]; exact nofun
    · rw [upd_ne z]; exact R.tr b hb
  · obtain ⟨h1, x, h2⟩ := R.rb q hq
    refine ⟨h1, ?_⟩
    by_cases z : i = q.1
    · rw [← z, List.getElem?_set_self hi]
      rw [← z] at h2; rw [e] at h2; cases h2
      exact ⟨o', rfl⟩
    · rw [get_set_ne z]; exact ⟨x, h2⟩
theorem Rep.notFr (R : Rep K Fr B σ H ρ) (e : ρ[i]? = some (.ow r o)) (ep : σ[i]? = some (some (V.ref p))) : ¬ Fr p := R.fr i p r o e ep
/-- slot i's object is laid fast -/
theorem Rep.freeze {od : Obj} {u : HO} (R : Rep K Fr B σ H ρ) (e : ρ[i]? = some (.ow false o)) (ep : σ[i]? = some (some (V.ref p))) (hp : H p = some u) : Rep K Fr B σ (upd H p (.frz od u)) (ρ.set i (.fz o.dat)) := by
  have hi : i < ρ.length := (List.getElem?_eq_some_iff.mp e).1
  obtain ⟨p', ep', ow⟩ := R.own e
  rw [ep] at ep'; cases ep'
  obtain ⟨u', hu', nu, _⟩ := ow.there
  rw [hp] at hu'; cases hu'
  have mono : Mono H (upd H p (.frz od u)) := Mono.upd fun z q => by rw [hp] at q; cases q; exact nu
  have at' : ∀ {j : Nat} {a : AV}, (ρ.set i (.fz o.dat))[j]? = some a → (j = i ∧ a = .fz o.dat) ∨ (j ≠ i ∧ ρ[j]? = some a) := fun {j a} q => by
    by_cases z : i = j
    · subst z
      rw [List.getElem?_set_self hi] at q
      exact .inl ⟨rfl, (Option.some.inj q).symm⟩
    · rw [get_set_ne z] at q; exact .inr ⟨Ne.symm z, q⟩
  have own' : ∀ {j : Nat} {r' : Bool} {q : OD}, (ρ.set i (.fz o.dat))[j]? = some (.ow r' q) → ρ[j]? = some (.ow r' q) := fun {j r' q} h => by
    rcases at' h with ⟨_, h'⟩ | ⟨_, h'⟩
    · cases h'
    · exact h'
  refine ⟨by rw [List.length_set]; exact R.len, fun j a h => ?_, fun j q r' x h1 h2 => R.fr j q r' x (own' h1) h2, fun j k q r1 x1 r2 x2 h1 h2 h3 h4 => R.inj j k q _ _ _ _ (own' h1) (own' h2) h3 h4, fun b hb => ?_, fun q hq => ?_⟩
  · rcases at' h with ⟨rfl, rfl⟩ | ⟨ne, h⟩
    · exact ⟨_, ep, ow.frz hp⟩
    · have q := R.at_ j a h
      cases a with
      | un => exact True.intro
      | fz d => obtain ⟨v, e', x⟩ := q; exact ⟨v, e', x.mono mono⟩
      | ow r2 o2 =>
        obtain ⟨p2, e2, x⟩ := q
        refine ⟨p2, e2, x.keep mono ?_⟩
        rw [upd_ne]; rintro rfl; exact ne (R.inj j i _ _ _ _ _ h e e2 ep)
  · by_cases z : b = p
    · subst z; rw [upd_same]; exact nofun
    · rw [upd_ne z]; exact R.tr b hb
  · obtain ⟨h1, x, h2⟩ := R.rb q hq
    refine ⟨h1, x, ?_⟩
    rw [get_set_ne]
    · exact h2
    · rintro rfl; rw [e] at h2; cases h2
/-- slot i is told anew -/
theorem Rep.put {a : AV} {v : V} (R : Rep K Fr B σ H ρ) (hi : i < ρ.length) (no : ∀ o, ρ[i]? ≠ some (.ow true o)) (s : SlotOk K H (some (some v)) a)
    (f : ∀ r o p, a = .ow r o → v = V.ref p → Fresh Fr σ ρ p) : Rep K Fr B (σ.set i (some v)) H (ρ.set i a) := by
  have hs : i < σ.length := by rw [← R.len]; exact hi
  have at' : ∀ {j : Nat} {b : AV}, (ρ.set i a)[j]? = some b → (j = i ∧ b = a) ∨ (j ≠ i ∧ ρ[j]? = some b) := fun {j b} q => by
    by_cases z : i = j
    · subst z
      rw [List.getElem?_set_self hi] at q
      exact .inl ⟨rfl, (Option.some.inj q).symm⟩
    · rw [get_set_ne z] at q; exact .inr ⟨Ne.symm z, q⟩
  have atσ : ∀ {j : Nat}, j ≠ i → (σ.set i (some v))[j]? = σ[j]? := fun {j} z => get_set_ne (Ne.symm z)
  have at0 : (σ.set i (some v))[i]? = some (some v) := List.getElem?_set_self hs
  refine ⟨by rw [List.length_set, List.length_set]; exact R.len, fun j b h => ?_, fun j q r' x h1 h2 => ?_, fun j k q r1 x1 r2 x2 h1 h2 h3 h4 => ?_, R.tr, fun q hq => ?_⟩
  · rcases at' h with ⟨rfl, rfl⟩ | ⟨ne, h⟩
    · rw [at0]; exact s
    · rw [atσ ne]; exact R.at_ j b h
  · rcases at' h1 with ⟨rfl, g1⟩ | ⟨ne, g1⟩
    · rw [at0] at h2
      exact (f r' x q g1.symm (Option.some.inj (Option.some.inj h2))).1
    · rw [atσ ne] at h2; exact R.fr j q r' x g1 h2
  · rcases at' h1 with ⟨rfl, g1⟩ | ⟨n1, g1⟩ <;> rcases at' h2 with ⟨e2, g2⟩ | ⟨n2, g2⟩
    · exact e2.symm
    · rw [at0] at h3
      rw [atσ n2] at h4
      exact absurd h4 ((f _ _ q g1.symm (Option.some.inj (Option.some.inj h3))).2 k _ _ g2)
    · subst e2
      rw [at0] at h4
      rw [atσ n1] at h3
      exact absurd h3 ((f _ _ q g2.symm (Option.some.inj (Option.some.inj h4))).2 j _ _ g1)
    · rw [atσ n1] at h3
      rw [atσ n2] at h4
      exact R.inj j k q _ _ _ _ g1 g2 h3 h4
  · obtain ⟨h1, x, h2⟩ := R.rb q hq
    have ne : q.1 ≠ i := fun z => by rw [z] at h2; exact no x h2
    rw [atσ ne, get_set_ne (Ne.symm ne)]
    exact ⟨h1, x, h2⟩
end
end DL
set_option Elab.async false
set_option linter.all false
set_option maxRecDepth 100000
set_option maxHeartbeats 2000000
namespace DL
open PySem PySem.Spec L2

inductive Out (α : Type) where
  | val (a : α) (ρ : Ev)
  | exc (c : Str) (ρ : Ev)
  | bad
def Out.bind {α β : Type} (m : Out α) (k : α → Ev → Out β) : Out β := match m with
  | .val a ρ => k a ρ
  | .exc c ρ => .exc c ρ
  | .bad => .bad
def Out.map {α β : Type} (f : α → β) (m : Out α) : Out β := match m with
  | .val a ρ => .val (f a) ρ
  | .exc c ρ => .exc c ρ
  | .bad => .bad
def ofO {α : Type} (o : Option α) (ρ : Ev) : Out α := match o with
  | some a => .val a ρ
  | none => .bad

/-- an operand: data, or what stands in a slot -/
inductive RV where
  | dat (d : D)
  | al (i : Nat)
def look (ρ : Ev) : RV → Option D
  | .dat d => some d
  | .al i => match ρ[i]? with
    | some (.ow _ o) => some o.dat
    | some (.fz d) => some d
    | _ => none
/-- v is to be read as d -/
inductive View (K : PySem.W.Frag) (H : Hp) : V → D → Prop where
  | dat {v d} (h : Dat K H v d) : View K H v d
  | own {p o} (h : Own K H p o) : View K H (.ref p) o.dat

abbrev Rel (α ν : Type) := α → Ev → ν → Hp → Prop
/-- what a reading is to show of its end, by what the function says -/
def Ok {α ν : Type} (K : PySem.W.Frag) (W : WX) (Fr : Addr → Prop) (B : List (Nat × Addr)) (σ : St) (rel : Rel α ν) (Q : ν → Hp → Prop) (H : Hp) : Out α → Prop
  | .val a ρ' => ∀ v H', Step Fr H H' → Rep K Fr B σ H' ρ' → rel a ρ' v H' → Q v H'
  | .exc c ρ' => ∀ H', Step Fr H H' → Rep K Fr B σ H' ρ' → W (.ref (He.ga K c)) none σ H'
  | .bad => False
section
variable {α β ν μ : Type} {K : PySem.W.Frag} {W : WX} {Fr : Addr → Prop} {B : List (Nat × Addr)} {σ : St} {rel : Rel α ν} {Q Q' : ν → Hp → Prop} {H H1 : Hp} {o : Out α}
theorem Ok.later (h : Ok K W Fr B σ rel Q H o) (st : Step Fr H H1) : Ok K W Fr B σ rel Q H1 o := by
  cases o with
  | val a ρ => exact fun v H' s R r => h v H' (st.trans s) R r
  | exc c ρ => exact fun H' s R => h H' (st.trans s) R
  | bad => exact h
theorem Ok.imp (h : Ok K W Fr B σ rel Q H o) (f : ∀ v H', Q v H' → Q' v H') : Ok K W Fr B σ rel Q' H o := by
  cases o with
  | val a ρ => exact fun v H' s R r => f v H' (h v H' s R r)
  | exc c ρ => exact h
  | bad => exact h
theorem Ok.bind {k : α → Ev → Out β} {rel' : Rel β μ} {Q2 : μ → Hp → Prop} (h : Ok K W Fr B σ rel' Q2 H (o.bind k))
    (f : ∀ v H1 a ρ1, Step Fr H H1 → Rep K Fr B σ H1 ρ1 → rel a ρ1 v H1 → Ok K W Fr B σ rel' Q2 H1 (k a ρ1) → Q v H1) : Ok K W Fr B σ rel Q H o := by
  cases o with
  | val a ρ => exact fun v H' s R r => f v H' a ρ s R r (Ok.later h s)
  | exc c ρ => exact h
  | bad => exact h
theorem Ok.map {g : α → β} {rel' : Rel β μ} {Q2 : μ → Hp → Prop} (h : Ok K W Fr B σ rel' Q2 H (o.map g))
    (f : ∀ v H1 a ρ1, Step Fr H H1 → Rep K Fr B σ H1 ρ1 → rel a ρ1 v H1 → Ok K W Fr B σ rel' Q2 H1 (.val (g a) ρ1) → Q v H1) : Ok K W Fr B σ rel Q H o := by
  cases o with
  | val a ρ => exact fun v H' s R r => f v H' a ρ s R r (Ok.later h s)
  | exc c ρ => exact h
  | bad => exact h
theorem Ok.one {a : β} {ρ : Ev} {rel' : Rel β μ} {Q2 : μ → Hp → Prop} {v : μ} (h : Ok K W Fr B σ rel' Q2 H (.val a ρ)) (st : Step Fr H H1) (R : Rep K Fr B σ H1 ρ) (r : rel' a ρ v H1) : Q2 v H1 := h v H1 st R r
end

def relE (K : PySem.W.Frag) : Rel D V := fun d _ v H => Dat K H v d
def relR (K : PySem.W.Frag) (σ : St) : Rel RV V := fun r ρ v H => match r with
  | .dat d => Dat K H v d
  | .al i => σ[i]? = some (some v) ∧ ∃ r o, ρ[i]? = some (.ow r o)
def relN (K : PySem.W.Frag) (Fr : Addr → Prop) (σ : St) : Rel OD V := fun o ρ v H => ∃ p, v = .ref p ∧ Own K H p o ∧ Fresh Fr σ ρ p
def relT : Rel Bool Bool := fun b _ v _ => v = b

/-- e gives data -/
structure DE (X : Cx) (W : WX) (e : Expr) (f : Ev → Out D) : Prop where
  ex : ∃ t, PE X e t ∧ ∀ (Fr : Addr → Prop) (B : List (Nat × Addr)) (σ : St) (H : Hp) (ρ : Ev) (Q : VK), Rep X.K Fr B σ H ρ → Ok X.K W Fr B σ (relE X.K) Q H (f ρ) → t σ H Q
/-- e gives an operand -/
structure DR (X : Cx) (W : WX) (e : Expr) (f : Ev → Out RV) : Prop where
  ex : ∃ t, PE X e t ∧ ∀ (Fr : Addr → Prop) (B : List (Nat × Addr)) (σ : St) (H : Hp) (ρ : Ev) (Q : VK), Rep X.K Fr B σ H ρ → Ok X.K W Fr B σ (relR X.K σ) Q H (f ρ) → t σ H Q
/-- e gives a new object -/
structure DN (X : Cx) (W : WX) (e : Expr) (f : Ev → Out OD) : Prop where
  ex : ∃ t, PE X e t ∧ ∀ (Fr : Addr → Prop) (B : List (Nat × Addr)) (σ : St) (H : Hp) (ρ : Ev) (Q : VK), Rep X.K Fr B σ H ρ → Ok X.K W Fr B σ (relN X.K Fr σ) Q H (f ρ) → t σ H Q
/-- e as a test -/
structure DT (X : Cx) (W : WX) (e : Expr) (f : Ev → Out Bool) : Prop where
  ex : ∃ t, PT X e t ∧ ∀ (Fr : Addr → Prop) (B : List (Nat × Addr)) (σ : St) (H : Hp) (ρ : Ev) (Q : Bool → Hp → Prop), Rep X.K Fr B σ H ρ → Ok X.K W Fr B σ relT Q H (f ρ) → t σ H Q
/-- .. among and, or -/
structure DW (X : Cx) (W : WX) (e : Expr) (f : Ev → Out Bool) : Prop where
  ex : ∃ t, PW X e t ∧ ∀ (Fr : Addr → Prop) (B : List (Nat × Addr)) (σ : St) (H : Hp) (ρ : Ev) (Q : Bool → Hp → Prop), Rep X.K Fr B σ H ρ → Ok X.K W Fr B σ relT Q H (f ρ) → t σ H Q
/-- arguments: operands -/
def relA (K : PySem.W.Frag) (σ : St) : Rel (List RV) (List V) := fun rs ρ vs H => Paired (fun r v => relR K σ r ρ v H) rs vs
def relL (K : PySem.W.Frag) : Rel (List D) (List V) := fun ds _ vs H => DatL K H vs ds
/-- arguments: data -/
structure DL_ (X : Cx) (W : WX) (es : List Expr) (f : Ev → Out (List D)) : Prop where
  ex : ∃ t, PA X es t ∧ ∀ (Fr : Addr → Prop) (B : List (Nat × Addr)) (σ : St) (H : Hp) (ρ : Ev) (Q : List V → Hp → Prop), Rep X.K Fr B σ H ρ → Ok X.K W Fr B σ (relL X.K) Q H (f ρ) → t σ H Q

section
variable {X : Cx} {W : WX} {K : PySem.W.Frag} {Fr : Addr → Prop} {B : List (Nat × Addr)} {σ : St} {H H1 H2 : Hp} {ρ ρ1 ρ2 : Ev} {v : V} {d : D}

theorem View.mono {H' : Hp} (h : View K H v d) (m : Mono H H') (k : ∀ p, v = .ref p → (∃ u, H p = some u ∧ ¬ Imm u) → H' p = H p) : View K H' v d := by
  cases h with
  | dat h => exact .dat (h.mono m)
  | own h =>
    obtain ⟨u, e, n, _⟩ := h.there
    exact .own (h.keep m (k _ rfl ⟨u, e, n⟩))
/-- an operand that was found before is still to be read -/
theorem view_later {a : RV} (r : relR K σ a ρ1 v H1) (st : Step Fr H1 H2) (R : Rep K Fr B σ H2 ρ2) (e : look ρ2 a = some d) : View K H2 v d := by
  cases a with
  | dat d' =>
    have e' : d' = d := Option.some.inj e
    subst e'
    exact .dat (Dat.mono st.mono r)
  | al i =>
    obtain ⟨h1, _⟩ := r
    unfold look at e
    dsimp only at e
    cases q : ρ2[i]? with
    | none => rw [q] at e; cases e
    | some av =>
      rw [q] at e
      have s := R.at_ i av q
      cases av with
      | un => cases e
      | fz d' =>
        have e' : d' = d := Option.some.inj e
        subst e'
        obtain ⟨w, e1, x⟩ := s
        rw [h1] at e1; cases e1
        exact .dat x
      | ow r o =>
        have e' : o.dat = d := Option.some.inj e
        subst e'
        obtain ⟨p, e1, x⟩ := s
        rw [h1] at e1; cases e1
        exact .own x
theorem view_now {a : RV} (r : relR K σ a ρ1 v H1) (R : Rep K Fr B σ H1 ρ1) (e : look ρ1 a = some d) : View K H1 v d := view_later r Step.refl R e

/-! ### from one judgement to another -/
theorem DE.dr {e : Expr} {f : Ev → Out D} (h : DE X W e f) : DR X W e (fun ρ => (f ρ).map RV.dat) := by
  obtain ⟨t, p, s⟩ := h.ex
  exact ⟨t, p, fun Fr B σ H ρ Q R k => s Fr B σ H ρ Q R (Ok.map k fun v H1 a ρ1 st R1 r k => k v H1 Step.refl R1 r)⟩
/-- an expression whose object is then laid fast -/
def tFrz (t : TE) : TE := fun σ H Q => t σ H fun v H1 => Q v H1 ∨ ∃ p u, H1 p = some u ∧ Mut (some u) ∧ ∀ od, Q v (upd H1 p (.frz od u))
theorem pe_frz {e : Expr} {t : TE} (h : PE X e t) : PE X e (tFrz t) := ⟨fun pins s σ H Q I k => by
  refine thn (h.run pins s σ H _ I k) fun v s1 ⟨x, H1, I1, r1, q1⟩ => ?_
  rcases q1 with q1 | ⟨p, u, hp, mu, q1⟩
  · exact ⟨x, H1, I1, r1, q1⟩
  · obtain ⟨od, I2⟩ := I1.lock hp mu
    exact ⟨x, _, I2, r1, q1 od⟩⟩
theorem DN.de {e : Expr} {f : Ev → Out OD} (h : DN X W e f) : DE X W e (fun ρ => (f ρ).map OD.dat) := by
  obtain ⟨t, p, s⟩ := h.ex
  refine ⟨tFrz t, pe_frz p, fun Fr B σ H ρ Q R k => s Fr B σ H ρ _ R (Ok.map k fun v H1 a ρ1 st R1 r k => ?_)⟩
  obtain ⟨p, rfl, ow, fr⟩ := r
  obtain ⟨u, hu, nu, mu⟩ := ow.there
  exact .inr ⟨p, u, hu, mu, fun od => k _ _ (Step.other fr.1 hu nu) (R1.other fr hu nu) (ow.frz hu)⟩
theorem DN.dr {e : Expr} {f : Ev → Out OD} (h : DN X W e f) : DR X W e (fun ρ => ((f ρ).map OD.dat).map RV.dat) := h.de.dr

/-! ### names -/
def varE (i : Nat) : Ev → Out D := fun ρ => match ρ[i]? with
  | some (.fz d) => .val d ρ
  | some (.ow false o) => .val o.dat (ρ.set i (.fz o.dat))
  | _ => .bad
def varR (i : Nat) : Ev → Out RV := fun ρ => match ρ[i]? with
  | some (.fz d) => .val (.dat d) ρ
  | some (.ow _ _) => .val (.al i) ρ
  | _ => .bad
theorem de_var {i : Nat} {e : Expr} (h : PE X e (tVar i)) : DE X W e (varE i) := by
  refine ⟨tFrz (tVar i), pe_frz h, fun Fr B σ H ρ Q R k => ?_⟩
  unfold varE at k
  cases q : ρ[i]? with
  | none => rw [q] at k; exact False.elim k
  | some a =>
    rw [q] at k
    have s := R.at_ i a q
    cases a with
    | un => exact False.elim k
    | fz d =>
      obtain ⟨v, e, x⟩ := s
      exact ⟨v, e, .inl (k v H Step.refl R x)⟩
    | ow r o =>
      cases r with
      | true => exact False.elim k
      | false =>
        obtain ⟨p, e, x⟩ := s
        obtain ⟨u, hu, nu, mu⟩ := x.there
        exact ⟨_, e, .inr ⟨p, u, hu, mu, fun od => k _ _ (Step.other (R.notFr q e) hu nu) (R.freeze q e hu) (x.frz hu)⟩⟩
theorem dr_var {i : Nat} {e : Expr} (h : PE X e (tVar i)) : DR X W e (varR i) := by
  refine ⟨tVar i, h, fun Fr B σ H ρ Q R k => ?_⟩
  unfold varR at k
  cases q : ρ[i]? with
  | none => rw [q] at k; exact False.elim k
  | some a =>
    rw [q] at k
    have s := R.at_ i a q
    cases a with
    | un => exact False.elim k
    | fz d =>
      obtain ⟨v, e, x⟩ := s
      exact ⟨v, e, k v H Step.refl R x⟩
    | ow r o =>
      obtain ⟨p, e, x⟩ := s
      exact ⟨_, e, k _ H Step.refl R ⟨e, r, o, q⟩⟩

/-! ### constants -/
def conE (d : D) : Ev → Out D := fun ρ => .val d ρ
theorem de_con {e : Expr} {v : V} {d : D} (h : PE X e (tC v)) (r : ∀ H, Dat X.K H v d) : DE X W e (conE d) := ⟨tC v, h, fun Fr B σ H ρ Q R k => k v H Step.refl R (r H)⟩
theorem de_int {i : Int} {j pos} : DE X W (.Constant (.int i) j pos) (conE (.int i)) := de_con pe_int fun _ => .int
theorem de_bl {b : Bool} {j pos} : DE X W (.Constant (.bool b) j pos) (conE (.bl b)) := de_con pe_bl fun _ => .bl
theorem de_str {x : Str} {j pos} : DE X W (.Constant (.str x) j pos) (conE (.str x)) := de_con pe_str fun _ => .str
theorem de_non {j pos} : DE X W (.Constant .none j pos) (conE .non) := de_con pe_non fun _ => .non
theorem de_gint {x : Str} {i : Int} {pos : Pos} (hm : ∃ t, X.mg x = some (.int i t)) (hg : Gl X x) (hd : (x == ("__debug__" : Str)) = false := by decide) : DE X W (.Name x pos) (conE (.int i)) := by
  obtain ⟨t, hm⟩ := hm
  exact de_con (v := .int i) (pe_glob hg hm ⟨t, rfl⟩ hd) fun _ => .int
theorem de_gstr {x z : Str} {pos : Pos} (hm : ∃ t, X.mg x = some (.str z t)) (hg : Gl X x) (hd : (x == ("__debug__" : Str)) = false := by decide) : DE X W (.Name x pos) (conE (.str z)) := by
  obtain ⟨t, hm⟩ := hm
  exact de_con (v := .str z) (pe_glob hg hm ⟨t, rfl⟩ hd) fun _ => .str
theorem de_gdat {x : Str} {a : Addr} {d : D} {pos : Pos} (hm : X.mg x = some (.ref a)) (r : ∀ H, Dat X.K H (.ref a) d) (hg : Gl X x) (hd : (x == ("__debug__" : Str)) = false := by decide) : DE X W (.Name x pos) (conE d) :=
  de_con (v := .ref a) (pe_glob hg hm rfl hd) r

/-! ### two operands, one operand -/
def onTwo (op : D → D → Option D) (ρ : Ev) : Option D → Option D → Out D
  | some x, some y => ofO (op x y) ρ
  | _, _ => .bad
def binF (op : D → D → Option D) (f g : Ev → Out RV) : Ev → Out D := fun ρ => (f ρ).bind fun a ρ1 => (g ρ1).bind fun b ρ2 => onTwo op ρ2 (look ρ2 a) (look ρ2 b)
/-- a two-place reading does op -/
structure BinOk (K : PySem.W.Frag) (r : R2) (op : D → D → Option D) : Prop where
  run : ∀ {Fr : Addr → Prop} {B : List (Nat × Addr)} {σ : St} {H : Hp} {ρ : Ev} {x y : V} {a b d : D} {Q : VK}, Rep K Fr B σ H ρ → View K H x a → View K H y b → op a b = some d →
  (∀ v H', Step Fr H H' → Rep K Fr B σ H' ρ → Dat K H' v d → Q v H') → r x y H Q
theorem sem_bin {r : R2} {op : D → D → Option D} (hb : BinOk X.K r op) {ta tb : TE} {f g : Ev → Out RV}
    (sa : ∀ (Fr : Addr → Prop) (B : List (Nat × Addr)) (σ : St) (H : Hp) (ρ : Ev) (Q : VK), Rep X.K Fr B σ H ρ → Ok X.K W Fr B σ (relR X.K σ) Q H (f ρ) → ta σ H Q)
    (sb : ∀ (Fr : Addr → Prop) (B : List (Nat × Addr)) (σ : St) (H : Hp) (ρ : Ev) (Q : VK), Rep X.K Fr B σ H ρ → Ok X.K W Fr B σ (relR X.K σ) Q H (g ρ) → tb σ H Q)
    (Fr : Addr → Prop) (B : List (Nat × Addr)) (σ : St) (H : Hp) (ρ : Ev) (Q : VK) (R : Rep X.K Fr B σ H ρ) (k : Ok X.K W Fr B σ (relE X.K) Q H (binF op f g ρ)) : tOp r ta tb σ H Q := by
  refine sa Fr B σ H ρ _ R (Ok.bind k fun v H1 a ρ1 st R1 r1 k => ?_)
  refine sb Fr B σ H1 ρ1 _ R1 (Ok.bind k fun w H2 b ρ2 st2 R2 r2 k => ?_)
  cases ea : look ρ2 a with
  | none => rw [ea] at k; exact False.elim k
  | some x =>
    cases eb : look ρ2 b with
    | none => rw [ea, eb] at k; exact False.elim k
    | some y =>
      rw [ea, eb] at k
      cases eo : op x y with
      | none =>
        replace k : Ok X.K W Fr B σ (relE X.K) Q H2 (ofO (op x y) ρ2) := k
        rw [eo] at k; exact False.elim k
      | some d =>
        replace k : Ok X.K W Fr B σ (relE X.K) Q H2 (ofO (op x y) ρ2) := k
        rw [eo] at k
        exact hb.run R2 (view_later r1 st2 R2 ea) (view_now r2 R2 eb) eo fun v H' s R r => k v H' s R r
theorem de_op {op : Operator} {r : R2} {o : D → D → Option D} {a b : Expr} {f g : Ev → Out RV} {pos : Pos} (ho : OpR X (binaryOp op) r) (hb : BinOk X.K r o) (ha : DR X W a f) (hb' : DR X W b g) : DE X W (.BinOp a op b pos) (binF o f g) := by
  obtain ⟨ta, pa, sa⟩ := ha.ex
  obtain ⟨tb, pb, sb⟩ := hb'.ex
  exact ⟨tOp r ta tb, pe_op ho pa pb, sem_bin hb sa sb⟩
/-- .. where a new object may come of it, laid fast at once -/
theorem OpR.frz {f : Value → Value → Sem Value} {r : R2} (h : OpR X f r) : OpR X f (fun x y H Q => r x y H fun v H1 => Q v H1 ∨ ∃ p u, H1 p = some u ∧ Mut (some u) ∧ ∀ od, Q v (upd H1 p (.frz od u))) := by
  intro pins s σ H x y v u Q I rx ry k
  refine thn (h pins s σ H x y v u _ I rx ry k) fun v s1 ⟨x, H1, I1, r1, q1⟩ => ?_
  rcases q1 with q1 | ⟨p, u, hp, mu, q1⟩
  · exact ⟨x, H1, I1, r1, q1⟩
  · obtain ⟨od, I2⟩ := I1.lock hp mu
    exact ⟨x, _, I2, r1, q1 od⟩
theorem OpR.or {f : Value → Value → Sem Value} {r r' : R2} (h : OpR X f r) (h' : OpR X f r') : OpR X f (fun x y H Q => r x y H Q ∨ r' x y H Q) := by
  intro pins s σ H x y v u Q I rx ry k
  rcases k with k | k
  · exact h pins s σ H x y v u Q I rx ry k
  · exact h' pins s σ H x y v u Q I rx ry k
/-- first one, else the other -/
def orO (p q : D → D → Option D) : D → D → Option D := fun a b => match p a b with
  | some d => some d
  | none => q a b
theorem BinOk.or {r r' : R2} {p q : D → D → Option D} (h : BinOk K r p) (h' : BinOk K r' q) : BinOk K (fun x y H Q => r x y H Q ∨ r' x y H Q) (orO p q) := by
  refine ⟨?_⟩
  intro Fr B σ H ρ x y a b d Q R va vb e k
  unfold orO at e
  cases z : p a b with
  | some d' => rw [z] at e; cases e; exact .inl (h.run R va vb z k)
  | none => rw [z] at e; exact .inr (h'.run R va vb e k)

theorem View.int {i : Int} (h : View K H v (.int i)) : v = .int i := by
  generalize e : D.int i = d at h
  cases h with
  | dat h => cases h <;> cases e; rfl
  | @own p o h => cases o <;> cases e
theorem View.str {i : Str} (h : View K H v (.str i)) : v = .str i := by
  generalize e : D.str i = d at h
  cases h with
  | dat h => cases h <;> cases e; rfl
  | @own p o h => cases o <;> cases e
theorem View.bl {i : Bool} (h : View K H v (.bl i)) : v = .bl i := by
  generalize e : D.bl i = d at h
  cases h with
  | dat h => cases h <;> cases e; rfl
  | @own p o h => cases o <;> cases e
theorem View.non (h : View K H v .non) : v = .non := by
  generalize e : D.non = d at h
  cases h with
  | dat h => cases h <;> cases e; rfl
  | @own p o h => cases o <;> cases e
theorem View.lst {xs : List D} (h : View K H v (.lst xs)) : ∃ a vs, v = .ref a ∧ SqL K H a vs ∧ DatL K H vs xs := by
  generalize e : D.lst xs = d at h
  cases h with
  | dat h =>
    cases h <;> cases e
    rename_i a vs h r
    exact ⟨a, vs, rfl, h.sq, r⟩
  | @own p o h =>
    cases o with
    | l ys => cases e; obtain ⟨vs, h, r⟩ := h; exact ⟨p, vs, rfl, .inl (.inl h), r⟩
    | d kvs => cases e
theorem View.tup {xs : List D} (h : View K H v (.tup xs)) : ∃ a vs, v = .ref a ∧ TupP K H a vs ∧ DatL K H vs xs := by
  generalize e : D.tup xs = d at h
  cases h with
  | dat h =>
    cases h <;> cases e
    rename_i a vs h r
    exact ⟨a, vs, rfl, h, r⟩
  | @own p o h => cases o <;> cases e
theorem View.dic {xs : List (Key × D)} (h : View K H v (.dic xs)) : ∃ a vs, v = .ref a ∧ Rd H a (.dK vs) ∧ DatK K H vs xs := by
  generalize e : D.dic xs = d at h
  cases h with
  | dat h =>
    cases h <;> cases e
    rename_i a o vs h r
    exact ⟨a, vs, rfl, .inr ⟨o, h⟩, r⟩
  | @own p o h =>
    cases o with
    | l ys => cases e
    | d kvs => cases e; obtain ⟨vs, h, r⟩ := h; exact ⟨p, vs, rfl, .inl h, r⟩
end

/-! ### operators on data -/
def intO (g : Int → Int → Option D) : D → D → Option D
  | .int i, .int j => g i j
  | _, _ => none
def addI : D → D → Option D := intO fun i j => some (.int (i + j))
def subI : D → D → Option D := intO fun i j => some (.int (i - j))
def mulI : D → D → Option D := intO fun i j => if i.natAbs.log2 + j.natAbs.log2 < 1000000 then some (.int (i * j)) else none
def fdivI : D → D → Option D := intO fun i j => if 0 < j ∧ j.natAbs.log2 < 9000 then some (.int (i / j)) else none
def modI : D → D → Option D := intO fun i j => if 0 < j then some (.int (i % j)) else none
def powI : D → D → Option D := intO fun i j => if 0 ≤ j ∧ j ≤ 1000000 ∧ i.natAbs < 2 ^ 64 then some (.int (i ^ j.toNat)) else none
def cmpI (p : Int → Int → Bool) : D → D → Option D := intO fun i j => some (.bl (p i j))
def addS : D → D → Option D
  | .str x, .str y => if x.length + y.length ≤ sizeLine then some (.str (x ++ y)) else none
  | _, _ => none
def addL : D → D → Option D
  | .lst x, .lst y => if x.length + y.length ≤ sizeLine then some (.lst (x ++ y)) else none
  | _, _ => none
def addT : D → D → Option D
  | .tup x, .tup y => if x.length + y.length ≤ sizeLine then some (.tup (x ++ y)) else none
  | _, _ => none
theorem addS_inv {a b d : D} (h : addS a b = some d) : ∃ x y, a = .str x ∧ b = .str y ∧ x.length + y.length ≤ sizeLine ∧ d = .str (x ++ y) := by
  unfold addS at h
  split at h
  · split at h
    · cases h; exact ⟨_, _, rfl, rfl, by assumption, rfl⟩
    · cases h
  · cases h
theorem addL_inv {a b d : D} (h : addL a b = some d) : ∃ x y, a = .lst x ∧ b = .lst y ∧ x.length + y.length ≤ sizeLine ∧ d = .lst (x ++ y) := by
  unfold addL at h
  split at h
  · split at h
    · cases h; exact ⟨_, _, rfl, rfl, by assumption, rfl⟩
    · cases h
  · cases h
theorem addT_inv {a b d : D} (h : addT a b = some d) : ∃ x y, a = .tup x ∧ b = .tup y ∧ x.length + y.length ≤ sizeLine ∧ d = .tup (x ++ y) := by
  unfold addT at h
  split at h
  · split at h
    · cases h; exact ⟨_, _, rfl, rfl, by assumption, rfl⟩
    · cases h
  · cases h
def addO : D → D → Option D := orO addI (orO addS (orO addL addT))
section
variable {X : Cx} {W : WX} {K : PySem.W.Frag}
theorem int_cases {g : Int → Int → Option D} {a b d : D} (h : intO g a b = some d) : ∃ i j, a = .int i ∧ b = .int j ∧ g i j = some d := by
  cases a <;> cases b <;> first
    | exact ⟨_, _, rfl, rfl, h⟩
    | exact (nomatch h)
theorem bin_int0 {g : Int → Int → V} {g' : Int → Int → D} (h : ∀ i j H, Dat K H (g i j) (g' i j)) : BinOk K (rI0 g) (intO fun i j => some (g' i j)) := by
  refine ⟨?_⟩
  intro Fr B σ H ρ x y a b d Q R va vb e k
  obtain ⟨i, j, rfl, rfl, e⟩ := int_cases e
  cases e
  rw [va.int, vb.int]
  exact ⟨i, j, rfl, rfl, k _ H Step.refl R (h i j H)⟩
theorem bin_intC {C : Int → Int → Prop} {c : Int → Int → Prop} [∀ i j, Decidable (c i j)] {g : Int → Int → V} {g' : Int → Int → D} (hc : ∀ i j, c i j → C i j) (h : ∀ i j H, Dat K H (g i j) (g' i j)) : BinOk K (rI C g) (intO fun i j => if c i j then some (g' i j) else none) := by
  refine ⟨?_⟩
  intro Fr B σ H ρ x y a b d Q R va vb e k
  obtain ⟨i, j, rfl, rfl, e2⟩ := int_cases e
  by_cases hij : c i j
  · rw [if_pos hij] at e2
    cases e2
    rw [va.int, vb.int]
    exact ⟨i, j, rfl, rfl, hc i j hij, k _ H Step.refl R (h i j H)⟩
  · rw [if_neg hij] at e2
    cases e2
variable {a b : Expr} {f g : Ev → Out RV} {pos : Pos}
theorem de_sub (ha : DR X W a f) (hb : DR X W b g) : DE X W (.BinOp a .Sub b pos) (binF subI f g) := de_op op_sub (bin_int0 fun _ _ _ => .int) ha hb
theorem de_mul (ha : DR X W a f) (hb : DR X W b g) : DE X W (.BinOp a .Mult b pos) (binF mulI f g) := de_op op_mulW (bin_intC (fun _ _ h => h) fun _ _ _ => .int) ha hb
theorem de_fdiv (ha : DR X W a f) (hb : DR X W b g) : DE X W (.BinOp a .FloorDiv b pos) (binF fdivI f g) := de_op op_fdivW (bin_intC (fun _ _ h => h) fun _ _ _ => .int) ha hb
theorem de_mod (ha : DR X W a f) (hb : DR X W b g) : DE X W (.BinOp a .Mod b pos) (binF modI f g) := de_op op_mod (bin_intC (fun _ _ h => h) fun _ _ _ => .int) ha hb
theorem de_pow (ha : DR X W a f) (hb : DR X W b g) : DE X W (.BinOp a .Pow b pos) (binF powI f g) := de_op op_pow (bin_intC (fun _ _ h => h) fun _ _ _ => .int) ha hb
/-- xs + ys, to be read both -/
def rCatR (K : PySem.W.Frag) : R2 := fun x y H Q => ∃ l b xs zs, x = .ref l ∧ y = .ref b ∧ SqL K H l xs ∧ SqL K H b zs ∧ xs.length + zs.length ≤ sizeLine ∧ ∀ p, H p = none → Q (.ref p) (upd H p (.lst (xs ++ zs)))
theorem Inv.rdL {X : Cx} {pins : List (Addr × Obj)} {σ : St} {H : Hp} {s : Shared} {l : Addr} {xs : List V} (I : Inv X pins σ H s) (h : Rd H l (.lst xs)) : xs.length ≤ sizeLine ∧ ∃ (its : List Value) (n : Nat), Vals xs its ∧ s.heap.get? l = some { cls := .type "list", data := .seq its.toArray n } := by
  obtain ⟨z, its, n, r, e⟩ := h.ok I.hok
  exact ⟨z, its, n, r, e⟩
theorem op_catR : OpR X (binaryOp .Add) (rCatR X.K) := by
  intro pins s σ H x y v u Q I rx ry h
  obtain ⟨l, b, xs, zs, rfl, rfl, hx, hy, hz, q⟩ := h
  cases rx
  cases ry
  obtain ⟨i1, r1, p1, _⟩ := I.list hx
  obtain ⟨i2, r2, p2, _⟩ := I.list hy
  have l1 := r1.length
  have l2 := r2.length
  have q1 := p1.isList
  have q2 := p2.isList
  obtain ⟨⟨c1, d1, dt1, s1⟩, ho, hc, n, hd⟩ := id q1
  obtain ⟨⟨c2, d2, dt2, s2⟩, ho2, hc2, n2, hd2⟩ := id q2
  simp only at hc hd hc2 hd2
  subst hc hd hc2 hd2
  have ea : i1.toArray ++ i2.toArray = (i1 ++ i2).toArray := by simp
  refine PySem.concat_meets ⟨_, ho, rfl⟩ ⟨_, ho2, rfl⟩ PySem.noFill_list_add PySem.seq_list_add PySem.F.slot_list_add PySem.F.entry_list_add (PySem.F.args_list_add_2 _ _) (PyProof.Rows.list_addW l b i1.toArray i2.toArray n n2 d1 d2 s1 s2 (by simp only [List.size_toArray]; omega)) ⟨ho, ho2, ?_⟩
  rw [ea]
  exact ⟨.ref _, _, I.lnew (t' := s.toks) (r1.append r2) (by simp only [List.length_append]; omega), rfl, q _ I.fresh⟩
/-- a new tuple, known for one and no more -/
theorem Inv.tupP {X : Cx} {pins : List (Addr × Obj)} {σ : St} {H : Hp} {s : Shared} {ys : List V} {its : List Value} {tk : Nat} (I : Inv X pins σ H s) (r : Vals ys its) (hz : ys.length ≤ sizeLine) :
    Inv X pins σ (upd H s.heap.objs.size (.frz { cls := .type "tuple", data := .seq its.toArray } (.tup ys))) { s with heap := s.heap.push { cls := .type "tuple", data := .seq its.toArray }, toks := tk } :=
  I.laid (t' := tk) (fun b o e => Heap.get?_push_of_some _ e) (Nat.le_refl _) (show ObjOk X.prog X.w _ _ _ (.frz _ (.tup ys)) from ⟨Heap.get?_push_size _ rfl, hz, its, r, PyProof.Rows.IsTup.new _ _⟩)
/-- what is wanted of a new tuple -/
def rNewT (xs : List V) (H : Hp) (Q : VK) : Prop := ∀ p o, H p = none → o.dict = none → Q (.ref p) (upd H p (.frz o (.tup xs)))
def rCatP (K : PySem.W.Frag) : R2 := fun x y H Q => ∃ a b xs ys, x = .ref a ∧ y = .ref b ∧ SqT K H a xs ∧ SqT K H b ys ∧ xs.length + ys.length ≤ sizeLine ∧ (xs = [] → Q (.ref b) H) ∧ (xs ≠ [] → ys = [] → Q (.ref a) H) ∧ (xs ≠ [] → ys ≠ [] → rNewT (xs ++ ys) H Q)
theorem op_catP : OpR X (binaryOp .Add) (rCatP X.K) := by
  intro pins s σ H x y v u Q I rx ry h
  obtain ⟨a, b, xs, ys, rfl, rfl, ha, hb, hz, q0, q1, q2⟩ := h
  cases rx
  cases ry
  obtain ⟨i1, r1, p1, _⟩ := I.tuple ha
  obtain ⟨i2, r2, p2, _⟩ := I.tuple hb
  by_cases hx : xs = []
  · subst hx
    cases r1
    exact cat_tup0 p1 p2 ⟨.ref b, H, I, rfl, q0 rfl⟩
  · have l1 := r1.length
    have l2 := r2.length
    refine HT.cat_tup p1 p2 (fun e => hx (r1.nil_iff.mp e)) (fun e => ⟨.ref a, H, I, rfl, q1 hx (r2.nil_iff.mp e)⟩) (fun e => ?_) (by omega)
    exact ⟨.ref _, _, Inv.tupP (tk := s.toks) I (r1.append r2) (by rw [List.length_append]; omega), rfl, q2 hx (fun z => e (r2.nil_iff.mpr z)) _ _ I.fresh rfl⟩
theorem dat_tup_new {H : Hp} {p : Addr} {o : Obj} {vs : List V} {xs : List D} (hp : H p = none) (hd : o.dict = none) (r : DatL K H vs xs) : Dat K (upd H p (.frz o (.tup vs))) (.ref p) (.tup xs) := .tup (.inl ⟨o, upd_same, hd⟩) (r.mono (Mono.new hp))
/-- a new object, then laid fast -/
theorem new_frz {Fr : Addr → Prop} {B : List (Nat × Addr)} {σ : St} {H : Hp} {ρ : Ev} {Q : VK} {d : D} {p : Addr} {u : HO} (R : Rep K Fr B σ H ρ) (hp : H p = none) (mu : Mut (some u)) (nu : ¬ Imm u) (r : ∀ od, Dat K (upd H p (.frz od u)) (.ref p) d)
    (k : ∀ v H', Step Fr H H' → Rep K Fr B σ H' ρ → Dat K H' v d → Q v H') : Q (.ref p) (upd H p u) ∨ ∃ q w, upd H p u q = some w ∧ Mut (some w) ∧ ∀ od, Q (.ref p) (upd (upd H p u) q (.frz od w)) :=
  .inr ⟨p, u, upd_same, mu, fun od => by rw [upd_upd]; exact k _ _ (Step.new R hp) (R.new hp) (r od)⟩
theorem dat_lst_new {H : Hp} {p : Addr} {vs : List V} {xs : List D} (hp : H p = none) (r : DatL K H vs xs) (od : Obj) : Dat K (upd H p (.frz od (.lst vs))) (.ref p) (.lst xs) := .lst (.inl ⟨od, upd_same⟩) (r.mono (Mono.new hp))
theorem de_add (ha : DR X W a f) (hb : DR X W b g) : DE X W (.BinOp a .Add b pos) (binF addO f g) := by
  refine de_op (OpR.or op_add (OpR.or op_add_str (OpR.or (OpR.frz op_catR) op_catP))) (BinOk.or (bin_int0 fun _ _ _ => .int) (BinOk.or ⟨?_⟩ (BinOk.or ⟨?_⟩ ⟨?_⟩))) ha hb
  · intro Fr B σ H ρ x y a b d Q R va vb e k
    obtain ⟨x', y', rfl, rfl, hz, rfl⟩ := addS_inv e
    rw [va.str, vb.str]
    exact ⟨_, _, rfl, rfl, hz, k _ H Step.refl R .str⟩
  · intro Fr B σ H ρ x y a b d Q R va vb e k
    obtain ⟨x', y', rfl, rfl, hz, rfl⟩ := addL_inv e
    obtain ⟨l, xs, rfl, h1, r1⟩ := va.lst
    obtain ⟨m, ys, rfl, h2, r2⟩ := vb.lst
    exact ⟨l, m, xs, ys, rfl, rfl, h1, h2, by rw [r1.length, r2.length]; exact hz, fun p hp => new_frz R hp True.intro (fun z => z) (dat_lst_new hp (r1.append r2)) k⟩
  · intro Fr B σ H ρ x y a b d Q R va vb e k
    obtain ⟨xs', ys', rfl, rfl, hz, rfl⟩ := addT_inv e
    obtain ⟨l, xs, rfl, h1, r1⟩ := va.tup
    obtain ⟨m, ys, rfl, h2, r2⟩ := vb.tup
    refine ⟨l, m, xs, ys, rfl, rfl, h1.sq, h2.sq, by rw [r1.length, r2.length]; exact hz, fun z => ?_, fun _ z => ?_, fun _ _ p o hp hd => ?_⟩
    · subst z
      have z' : xs' = [] := by cases r1; rfl
      subst z'
      exact k _ H Step.refl R (.tup h2 r2)
    · subst z
      have z' : ys' = [] := by cases r2; rfl
      subst z'
      exact k _ H Step.refl R (.tup h1 (by rw [List.append_nil]; exact r1))
    · exact k _ _ (Step.new R hp) (R.new hp) (dat_tup_new hp hd (r1.append r2))
end
end DL
set_option Elab.async false
set_option linter.all false
set_option maxRecDepth 100000
set_option maxHeartbeats 2000000
namespace DL
open PySem PySem.Spec L2

/-! ### data as the library's data -/
mutual
def toPy : D → Option PyData
  | .non => some .none
  | .bl b => some (.bool b)
  | .int i => some (.int i)
  | .str x => some (.str x)
  | .tup xs => (toPyL xs).map .tuple
  | .lst xs => (toPyL xs).map .list
  | .dic _ => none
  | .exc _ => none
def toPyL : List D → Option (List PyData)
  | [] => some []
  | x :: xs => match toPy x, toPyL xs with
    | some a, some r => some (a :: r)
    | _, _ => none
end
section
variable {X : Cx} {W : WX} {K : PySem.W.Frag} {H : Hp} {v : V} {d : D}
theorem toPyL_cons {x : D} {xs : List D} {r : List PyData} (h : toPyL (x :: xs) = some r) : ∃ a s, toPy x = some a ∧ toPyL xs = some s ∧ r = a :: s := by
  unfold toPyL at h
  split at h
  · cases h; exact ⟨_, _, by assumption, by assumption, rfl⟩
  · cases h
mutual
theorem Dat.dp : ∀ {v : V} {d : D} {p : PyData}, Dat K H v d → toPy d = some p → Dp K H v p
  | _, _, _, .non, e => by unfold toPy at e; cases e; exact .non
  | _, _, _, .bl, e => by unfold toPy at e; cases e; exact .bl _
  | _, _, _, .int, e => by unfold toPy at e; cases e; exact .int _
  | _, _, _, .str, e => by unfold toPy at e; cases e; exact .str _
  | _, _, _, .tup (xs := xs) h r, e => by
    unfold toPy at e
    cases q : toPyL xs with
    | none => rw [q] at e; cases e
    | some ps => rw [q] at e; cases e; exact .tup h.sq (DatL.dp r q)
  | _, _, _, .lst (xs := xs) h r, e => by
    unfold toPy at e
    cases q : toPyL xs with
    | none => rw [q] at e; cases e
    | some ps => rw [q] at e; cases e; exact .lst h.sq (DatL.dp r q)
  | _, _, _, .dic h r, e => by unfold toPy at e; cases e
theorem DatL.dp : ∀ {v : List V} {d : List D} {p : List PyData}, DatL K H v d → toPyL d = some p → DpAll K H v p
  | _, _, _, .nil, e => by unfold toPyL at e; cases e; exact .nil
  | _, _, _, .cons h r, e => by
    obtain ⟨a, s, e1, e2, rfl⟩ := toPyL_cons e
    exact .cons (Dat.dp h e1) (DatL.dp r e2)
end
theorem View.dp {p : PyData} (h : View K H v d) (e : toPy d = some p) : Dp K H v p := by
  cases h with
  | dat h => exact h.dp e
  | @own q o h =>
    cases o with
    | l ys =>
      obtain ⟨vs, h, r⟩ := h
      have e' : (toPyL ys).map PyData.list = some p := e
      cases q : toPyL ys with
      | none => rw [q] at e'; cases e'
      | some ps => rw [q] at e'; cases e'; exact .lst (.inl (.inl h)) (r.dp q)
    | d kvs => cases e

/-! ### comparisons -/
theorem DE.cmp {op : CmpOp} {r : R2} {o : D → D → Option D} {a b : Expr} {f g : Ev → Out RV} {pos : Pos} (ho : OpR X (compareOp op) r) (hb : BinOk X.K r o) (ha : DR X W a f) (hb' : DR X W b g) (hm : behindInMarks op b = false) : DE X W (.Compare a [op] [b] pos) (binF o f g) := by
  obtain ⟨ta, pa, sa⟩ := ha.ex
  obtain ⟨tb, pb, sb⟩ := hb'.ex
  exact ⟨tOp r ta tb, pe_cmpR ho pa pb hm, sem_bin hb sa sb⟩
/-- a truth value as a test -/
def tstF (f : Ev → Out D) : Ev → Out Bool := fun ρ => (f ρ).bind fun d ρ1 => match d with
  | .bl b => .val b ρ1
  | _ => .bad
theorem Dat.bl_inv {b : Bool} (h : Dat K H v (.bl b)) : v = .bl b := by cases h; rfl
theorem Dat.int_inv {b : Int} (h : Dat K H v (.int b)) : v = .int b := by cases h; rfl
theorem Dat.str_inv {b : Str} (h : Dat K H v (.str b)) : v = .str b := by cases h; rfl
theorem Dat.non_inv (h : Dat K H v .non) : v = .non := by cases h; rfl
theorem sem_tst {t : TE} {f : Ev → Out D} (s : ∀ (Fr : Addr → Prop) (B : List (Nat × Addr)) (σ : St) (H : Hp) (ρ : Ev) (Q : VK), Rep X.K Fr B σ H ρ → Ok X.K W Fr B σ (relE X.K) Q H (f ρ) → t σ H Q)
    (Fr : Addr → Prop) (B : List (Nat × Addr)) (σ : St) (H : Hp) (ρ : Ev) (Q : Bool → Hp → Prop) (R : Rep X.K Fr B σ H ρ) (k : Ok X.K W Fr B σ relT Q H (tstF f ρ)) : tTest t σ H Q := by
  refine s Fr B σ H ρ _ R (Ok.bind k fun v H1 d ρ1 st R1 r k => ?_)
  cases d with
  | bl b => exact ⟨b, Dat.bl_inv r, k b H1 Step.refl R1 rfl⟩
  | _ => exact False.elim k
theorem DT.cmp {op : CmpOp} {r : R2} {o : D → D → Option D} {a b : Expr} {f g : Ev → Out RV} {pos : Pos} (ho : OpR X (compareOp op) r) (hb : BinOk X.K r o) (ha : DR X W a f) (hb' : DR X W b g) (hm : behindInMarks op b = false) : DT X W (.Compare a [op] [b] pos) (tstF (binF o f g)) := by
  obtain ⟨ta, pa, sa⟩ := ha.ex
  obtain ⟨tb, pb, sb⟩ := hb'.ex
  exact ⟨tTest (tOp r ta tb), pt_cmpR ho pa pb hm, sem_tst (sem_bin hb sa sb)⟩

def ltI : D → D → Option D := cmpI fun i j => decide (i < j)
def leI : D → D → Option D := cmpI fun i j => decide (i ≤ j)
def gtI : D → D → Option D := cmpI fun i j => decide (j < i)
def geI : D → D → Option D := cmpI fun i j => decide (j ≤ i)
theorem ok_lt : BinOk K (rI0 fun i j => .bl (decide (i < j))) ltI := bin_int0 (g' := fun i j => .bl (decide (i < j))) fun _ _ _ => .bl
theorem ok_le : BinOk K (rI0 fun i j => .bl (decide (i ≤ j))) leI := bin_int0 (g' := fun i j => .bl (decide (i ≤ j))) fun _ _ _ => .bl
theorem ok_gt : BinOk K (rI0 fun i j => .bl (decide (j < i))) gtI := bin_int0 (g' := fun i j => .bl (decide (j < i))) fun _ _ _ => .bl
theorem ok_ge : BinOk K (rI0 fun i j => .bl (decide (j ≤ i))) geI := bin_int0 (g' := fun i j => .bl (decide (j ≤ i))) fun _ _ _ => .bl

/-- == of what has no parts -/
def eqS : D → D → Option D
  | .non, .non => some (.bl true)
  | .non, .int _ => some (.bl false)
  | .int _, .non => some (.bl false)
  | .non, .bl _ => some (.bl false)
  | .bl _, .non => some (.bl false)
  | .non, .str _ => some (.bl false)
  | .str _, .non => some (.bl false)
  | .int i, .int j => some (.bl (decide (i = j)))
  | .bl i, .bl j => some (.bl (decide (i = j)))
  | .str i, .str j => some (.bl (decide (i = j)))
  | .int _, .str _ => some (.bl false)
  | .str _, .int _ => some (.bl false)
  | .bl _, .str _ => some (.bl false)
  | .str _, .bl _ => some (.bl false)
  | _, _ => none
def notO (p : D → D → Option D) : D → D → Option D := fun a b => match p a b with
  | some (.bl c) => some (.bl !c)
  | _ => none
/-- == of data without dicts -/
def eqP : D → D → Option D := fun a b => match toPy a, toPy b with
  | some x, some y => if SeqAt.shaped x = true ∧ SeqAt.shaped y = true then some (.bl (PyData.eqv x y)) else none
  | _, _ => none
def eqO : D → D → Option D := orO eqS eqP
def neO : D → D → Option D := orO (notO eqS) (notO eqP)
theorem eqS_inv {a b d : D} {x y : V} (h : eqS a b = some d) (va : View K H x a) (vb : View K H y b) : scal x y = true ∧ d = .bl (decide (x = y)) := by
  unfold eqS at h
  split at h <;> first
    | (cases h; done)
    | (cases h; rw [va.non, vb.non]; exact ⟨rfl, rfl⟩)
    | (cases h; rw [va.non, vb.int]; exact ⟨rfl, by simp⟩)
    | (cases h; rw [va.int, vb.non]; exact ⟨rfl, by simp⟩)
    | (cases h; rw [va.non, vb.bl]; exact ⟨rfl, by simp⟩)
    | (cases h; rw [va.bl, vb.non]; exact ⟨rfl, by simp⟩)
    | (cases h; rw [va.non, vb.str]; exact ⟨rfl, by simp⟩)
    | (cases h; rw [va.str, vb.non]; exact ⟨rfl, by simp⟩)
    | (cases h; rw [va.int, vb.int]; exact ⟨rfl, by simp⟩)
    | (cases h; rw [va.bl, vb.bl]; exact ⟨rfl, by simp⟩)
    | (cases h; rw [va.str, vb.str]; exact ⟨rfl, by simp⟩)
    | (cases h; rw [va.int, vb.str]; exact ⟨rfl, by simp⟩)
    | (cases h; rw [va.str, vb.int]; exact ⟨rfl, by simp⟩)
    | (cases h; rw [va.bl, vb.str]; exact ⟨rfl, by simp⟩)
    | (cases h; rw [va.str, vb.bl]; exact ⟨rfl, by simp⟩)
theorem ok_eqS : BinOk K rEq eqS := ⟨fun {Fr B σ H ρ x y a b d Q} R va vb e k => by
  obtain ⟨h1, rfl⟩ := eqS_inv e va vb
  exact ⟨h1, k _ H Step.refl R .bl⟩⟩
theorem notO_inv {p : D → D → Option D} {a b d : D} (h : notO p a b = some d) : ∃ c, p a b = some (.bl c) ∧ d = .bl !c := by
  unfold notO at h
  split at h
  · cases h; exact ⟨_, by assumption, rfl⟩
  · cases h
theorem ok_neS : BinOk K rNe (notO eqS) := ⟨fun {Fr B σ H ρ x y a b d Q} R va vb e k => by
  obtain ⟨c, e9, rfl⟩ := notO_inv e
  obtain ⟨h1, h2⟩ := eqS_inv e9 va vb
  cases h2
  exact ⟨h1, k _ H Step.refl R .bl⟩⟩
theorem eqP_inv {a b d : D} {x y : V} (h : eqP a b = some d) (va : View K H x a) (vb : View K H y b) : ∃ p q, Dp K H x p ∧ Dp K H y q ∧ SeqAt.shaped p = true ∧ SeqAt.shaped q = true ∧ d = .bl (PyData.eqv p q) := by
  unfold eqP at h
  split at h
  · split at h
    · rename_i e1 e2 h1
      cases h
      exact ⟨_, _, va.dp e1, vb.dp e2, h1.1, h1.2, rfl⟩
    · cases h
  · cases h
theorem ok_eqP : BinOk K (rEqD K) eqP := ⟨fun {Fr B σ H ρ x y a b d Q} R va vb e k => by
  obtain ⟨p, q, h1, h2, h3, h4, rfl⟩ := eqP_inv e va vb
  exact ⟨p, q, h1, h2, h3, h4, k _ H Step.refl R .bl⟩⟩
theorem ok_neP : BinOk K (rNeD K) (notO eqP) := ⟨fun {Fr B σ H ρ x y a b d Q} R va vb e k => by
  obtain ⟨c, e9, rfl⟩ := notO_inv e
  obtain ⟨p, q, h1, h2, h3, h4, h5⟩ := eqP_inv e9 va vb
  cases h5
  exact ⟨p, q, h1, h2, h3, h4, k _ H Step.refl R .bl⟩⟩

/-- is None -/
def isN : D → D → Option D := fun a b => match b with
  | .non => some (.bl (match a with
    | .non => true
    | _ => false))
  | _ => none
def isB : D → D → Option D
  | .bl a, .bl b => some (.bl (decide (a = b)))
  | _, _ => none
def isO : D → D → Option D := orO isN isB
def isnO : D → D → Option D := orO (notO isN) (notO isB)
theorem isN_inv {a b d : D} {x y : V} (h : isN a b = some d) (va : View K H x a) (vb : View K H y b) : y = .non ∧ d = .bl (decide (x = .non)) := by
  unfold isN at h
  split at h
  · refine ⟨vb.non, ?_⟩
    cases h
    cases va with
    | dat va => cases va <;> simp
    | @own p o va => cases o <;> simp [OD.dat]
  · cases h
theorem ok_isN : BinOk K (fun x y H Q => y = .non ∧ Q (.bl (decide (x = .non))) H) isN := ⟨fun {Fr B σ H ρ x y a b d Q} R va vb e k => by
  obtain ⟨h1, rfl⟩ := isN_inv e va vb
  exact ⟨h1, k _ H Step.refl R .bl⟩⟩
theorem ok_isnN : BinOk K (fun x y H Q => y = .non ∧ Q (.bl (!decide (x = .non))) H) (notO isN) := ⟨fun {Fr B σ H ρ x y a b d Q} R va vb e k => by
  obtain ⟨c, e9, rfl⟩ := notO_inv e
  obtain ⟨h1, h2⟩ := isN_inv e9 va vb
  cases h2
  exact ⟨h1, k _ H Step.refl R .bl⟩⟩
theorem isB_inv {a b d : D} {x y : V} (h : isB a b = some d) (va : View K H x a) (vb : View K H y b) : ∃ i j, x = .bl i ∧ y = .bl j ∧ d = .bl (decide (i = j)) := by
  unfold isB at h
  split at h
  · cases h; exact ⟨_, _, va.bl, vb.bl, rfl⟩
  · cases h
theorem ok_isB : BinOk K rIsB isB := ⟨fun {Fr B σ H ρ x y a b d Q} R va vb e k => by
  obtain ⟨i, j, rfl, rfl, rfl⟩ := isB_inv e va vb
  exact ⟨i, j, rfl, rfl, k _ H Step.refl R .bl⟩⟩
theorem ok_isnB : BinOk K rNotB (notO isB) := ⟨fun {Fr B σ H ρ x y a b d Q} R va vb e k => by
  obtain ⟨c, e9, rfl⟩ := notO_inv e
  obtain ⟨i, j, rfl, rfl, h⟩ := isB_inv e9 va vb
  cases h
  exact ⟨i, j, rfl, rfl, k _ H Step.refl R .bl⟩⟩

/-! ### in -/
def isFlat : D → Bool
  | .non => true
  | .bl _ => true
  | .int _ => true
  | .str _ => true
  | _ => false
/-- what a flat thing is -/
def flatOf : D → V
  | .bl b => .bl b
  | .int i => .int i
  | .str x => .str x
  | _ => .non
/-- x in xs, a list or a tuple of flat things -/
def inF : D → D → Option D := fun x y => match y with
  | .lst ys => if isFlat x = true ∧ ys.all isFlat = true then some (.bl (inV (flatOf x) (ys.map flatOf))) else none
  | .tup ys => if isFlat x = true ∧ ys.all isFlat = true then some (.bl (inV (flatOf x) (ys.map flatOf))) else none
  | _ => none
theorem Dat.flat (h : Dat K H v d) (f : isFlat d = true) : v = flatOf d ∧ flatV v = true := by
  cases h <;> first
    | exact ⟨rfl, rfl⟩
    | cases f
theorem View.flat (h : View K H v d) (f : isFlat d = true) : v = flatOf d ∧ flatV v = true := by
  cases h with
  | dat h => exact h.flat f
  | @own p o h => cases o <;> cases f
theorem DatL.flat : ∀ {vs : List V} {ds : List D}, DatL K H vs ds → ds.all isFlat = true → vs = ds.map flatOf ∧ vs.all flatV = true
  | _, _, .nil, _ => ⟨rfl, rfl⟩
  | _, _, .cons h r, f => by
    rw [List.all_cons, Bool.and_eq_true] at f
    obtain ⟨e1, e2⟩ := h.flat f.1
    obtain ⟨e3, e4⟩ := DatL.flat r f.2
    refine ⟨by rw [e1, e3]; rfl, ?_⟩
    rw [List.all_cons, e2, e4] <;> rfl
theorem inF_inv {a b d : D} {x y : V} (h : inF a b = some d) (va : View K H x a) (vb : View K H y b) : ∃ p xs, y = .ref p ∧ (SqL K H p xs ∨ SqT K H p xs) ∧ flatV x = true ∧ xs.all flatV = true ∧ d = .bl (inV x xs) := by
  unfold inF at h
  split at h
  · split at h
    · rename_i f
      cases h
      obtain ⟨p, vs, rfl, h1, r⟩ := vb.lst
      obtain ⟨e1, e2⟩ := va.flat f.1
      obtain ⟨e3, e4⟩ := r.flat f.2
      exact ⟨p, vs, rfl, .inl h1, e2, e4, by rw [e1, e3]⟩
    · cases h
  · split at h
    · rename_i f
      cases h
      obtain ⟨p, vs, rfl, h1, r⟩ := vb.tup
      obtain ⟨e1, e2⟩ := va.flat f.1
      obtain ⟨e3, e4⟩ := r.flat f.2
      exact ⟨p, vs, rfl, .inr h1.sq, e2, e4, by rw [e1, e3]⟩
    · cases h
  · cases h
theorem ok_inF : BinOk K (rIn K false) inF := ⟨fun {Fr B σ H ρ x y a b d Q} R va vb e k => by
  obtain ⟨p, xs, h1, h2, h3, h4, rfl⟩ := inF_inv e va vb
  exact ⟨p, xs, h1, h2, h3, h4, k _ H Step.refl R .bl⟩⟩
theorem ok_ninF : BinOk K (rIn K true) (notO inF) := ⟨fun {Fr B σ H ρ x y a b d Q} R va vb e k => by
  obtain ⟨c, e9, rfl⟩ := notO_inv e
  obtain ⟨p, xs, h1, h2, h3, h4, h5⟩ := inF_inv e9 va vb
  cases h5
  exact ⟨p, xs, h1, h2, h3, h4, k _ H Step.refl R .bl⟩⟩
/-- x in xs, a list of data without dicts -/
def inP : D → D → Option D := fun x y => match toPy x, y with
  | some a, .lst ys => (match toPyL ys with
    | some zs => if SeqAt.shaped a = true ∧ SeqAt.shaped (.list zs) = true then some (.bl (zs.any fun z => PyData.eqv z a)) else none
    | none => none)
  | _, _ => none
theorem inP_inv {a b d : D} {x y : V} (h : inP a b = some d) (va : View K H x a) (vb : View K H y b) : ∃ p qs, Dp K H x p ∧ Dp K H y (.list qs) ∧ SeqAt.shaped p = true ∧ SeqAt.shaped (.list qs) = true ∧ d = .bl (qs.any fun z => PyData.eqv z p) := by
  unfold inP at h
  split at h
  · split at h
    · split at h
      · rename_i e1 _ zs e2 f
        cases h
        exact ⟨_, _, va.dp e1, vb.dp (show (toPyL _).map PyData.list = _ by rw [e2]; rfl), f.1, f.2, rfl⟩
      · cases h
    · cases h
  · cases h
theorem ok_inP : BinOk K (rInD K) inP := ⟨fun {Fr B σ H ρ x y a b d Q} R va vb e k => by
  obtain ⟨p, q, h1, h2, h3, h4, rfl⟩ := inP_inv e va vb
  exact ⟨p, q, h1, h2, h3, h4, k _ H Step.refl R .bl⟩⟩
theorem ok_ninP : BinOk K (rNotInD K) (notO inP) := ⟨fun {Fr B σ H ρ x y a b d Q} R va vb e k => by
  obtain ⟨c, e9, rfl⟩ := notO_inv e
  obtain ⟨p, q, h1, h2, h3, h4, h5⟩ := inP_inv e9 va vb
  cases h5
  exact ⟨p, q, h1, h2, h3, h4, k _ H Step.refl R .bl⟩⟩
/-- c in s, c one sign -/
def inS : D → D → Option D
  | .str x, .str y => (match x.cps.toList with
    | [c] => some (.bl (decide (c ∈ y.cps.toList)))
    | _ => none)
  | _, _ => none
theorem inS_inv {a b d : D} {x y : V} (h : inS a b = some d) (va : View K H x a) (vb : View K H y b) : ∃ c z, x = .str ⟨#[c]⟩ ∧ y = .str z ∧ d = .bl (decide (c ∈ z.cps.toList)) := by
  unfold inS at h
  split at h
  · split at h
    · rename_i x' y' _ c e
      cases h
      refine ⟨c, y', ?_, vb.str, rfl⟩
      rw [va.str]
      obtain ⟨cps⟩ := x'
      have e' : cps = #[c] := by
        have := congrArg List.toArray e
        simpa using this
      rw [e']
    · cases h
  · cases h
theorem ok_inS : BinOk K (fun x y H Q => ∃ (c : Nat) (z : Str), x = .str ⟨#[c]⟩ ∧ y = .str z ∧ Q (.bl (decide (c ∈ z.cps.toList))) H) inS := ⟨fun {Fr B σ H ρ x y a b d Q} R va vb e k => by
  obtain ⟨c, z, h1, h2, rfl⟩ := inS_inv e va vb
  exact ⟨c, z, h1, h2, k _ H Step.refl R .bl⟩⟩
theorem ok_ninS : BinOk K (fun x y H Q => ∃ (c : Nat) (z : Str), x = .str ⟨#[c]⟩ ∧ y = .str z ∧ Q (.bl (!decide (c ∈ z.cps.toList))) H) (notO inS) := ⟨fun {Fr B σ H ρ x y a b d Q} R va vb e k => by
  obtain ⟨c, e9, rfl⟩ := notO_inv e
  obtain ⟨c, z, h1, h2, h3⟩ := inS_inv e9 va vb
  cases h3
  exact ⟨c, z, h1, h2, k _ H Step.refl R .bl⟩⟩
def inO : D → D → Option D := orO inF (orO inP inS)
def ninO : D → D → Option D := orO (notO inF) (orO (notO inP) (notO inS))

variable {a b c : Expr} {f g h : Ev → Out RV} {pos : Pos}
theorem de_lt (ha : DR X W a f) (hb : DR X W b g) : DE X W (.Compare a [.Lt] [b] pos) (binF ltI f g) := DE.cmp op_lt ok_lt ha hb (nomark b)
theorem de_le (ha : DR X W a f) (hb : DR X W b g) : DE X W (.Compare a [.LtE] [b] pos) (binF leI f g) := DE.cmp op_le ok_le ha hb (nomark b)
theorem de_gt (ha : DR X W a f) (hb : DR X W b g) : DE X W (.Compare a [.Gt] [b] pos) (binF gtI f g) := DE.cmp op_gt ok_gt ha hb (nomark b)
theorem de_ge (ha : DR X W a f) (hb : DR X W b g) : DE X W (.Compare a [.GtE] [b] pos) (binF geI f g) := DE.cmp op_ge ok_ge ha hb (nomark b)
theorem dt_lt (ha : DR X W a f) (hb : DR X W b g) : DT X W (.Compare a [.Lt] [b] pos) (tstF (binF ltI f g)) := DT.cmp op_lt ok_lt ha hb (nomark b)
theorem dt_le (ha : DR X W a f) (hb : DR X W b g) : DT X W (.Compare a [.LtE] [b] pos) (tstF (binF leI f g)) := DT.cmp op_le ok_le ha hb (nomark b)
theorem dt_gt (ha : DR X W a f) (hb : DR X W b g) : DT X W (.Compare a [.Gt] [b] pos) (tstF (binF gtI f g)) := DT.cmp op_gt ok_gt ha hb (nomark b)
theorem dt_ge (ha : DR X W a f) (hb : DR X W b g) : DT X W (.Compare a [.GtE] [b] pos) (tstF (binF geI f g)) := DT.cmp op_ge ok_ge ha hb (nomark b)
theorem de_eq (hu : X.A.units + 65 < cLine) (ha : DR X W a f) (hb : DR X W b g) : DE X W (.Compare a [.Eq] [b] pos) (binF eqO f g) := DE.cmp (OpR.or op_eq (op_eqD (Nat.lt_of_succ_lt hu))) (ok_eqS.or ok_eqP) ha hb (nomark b)
theorem de_ne (hu : X.A.units + 65 < cLine) (ha : DR X W a f) (hb : DR X W b g) : DE X W (.Compare a [.NotEq] [b] pos) (binF neO f g) := DE.cmp (OpR.or op_ne (op_neD (Nat.lt_of_succ_lt hu))) (ok_neS.or ok_neP) ha hb (nomark b)
theorem dt_eq (hu : X.A.units + 65 < cLine) (ha : DR X W a f) (hb : DR X W b g) : DT X W (.Compare a [.Eq] [b] pos) (tstF (binF eqO f g)) := DT.cmp (OpR.or op_eq (op_eqD (Nat.lt_of_succ_lt hu))) (ok_eqS.or ok_eqP) ha hb (nomark b)
theorem dt_ne (hu : X.A.units + 65 < cLine) (ha : DR X W a f) (hb : DR X W b g) : DT X W (.Compare a [.NotEq] [b] pos) (tstF (binF neO f g)) := DT.cmp (OpR.or op_ne (op_neD (Nat.lt_of_succ_lt hu))) (ok_neS.or ok_neP) ha hb (nomark b)
theorem de_is (ha : DR X W a f) (hb : DR X W b g) : DE X W (.Compare a [.Is] [b] pos) (binF isO f g) := DE.cmp (OpR.or op_isN op_isBl) (ok_isN.or ok_isB) ha hb (nomark b)
theorem de_isn (ha : DR X W a f) (hb : DR X W b g) : DE X W (.Compare a [.IsNot] [b] pos) (binF isnO f g) := DE.cmp (OpR.or op_notN op_notBl) (ok_isnN.or ok_isnB) ha hb (nomark b)
theorem dt_is (ha : DR X W a f) (hb : DR X W b g) : DT X W (.Compare a [.Is] [b] pos) (tstF (binF isO f g)) := DT.cmp (OpR.or op_isN op_isBl) (ok_isN.or ok_isB) ha hb (nomark b)
theorem dt_isn (ha : DR X W a f) (hb : DR X W b g) : DT X W (.Compare a [.IsNot] [b] pos) (tstF (binF isnO f g)) := DT.cmp (OpR.or op_notN op_notBl) (ok_isnN.or ok_isnB) ha hb (nomark b)
theorem de_in (hu : X.A.units + 65 < cLine) (ha : DR X W a f) (hb : DR X W b g) (hm : behindInMarks .In b = false) : DE X W (.Compare a [.In] [b] pos) (binF inO f g) := DE.cmp (OpR.or op_in_seq (OpR.or (op_inD hu) op_in_sign)) (ok_inF.or (ok_inP.or ok_inS)) ha hb hm
theorem de_nin (hu : X.A.units + 65 < cLine) (ha : DR X W a f) (hb : DR X W b g) (hm : behindInMarks .NotIn b = false) : DE X W (.Compare a [.NotIn] [b] pos) (binF ninO f g) := DE.cmp (OpR.or op_notIn_seq (OpR.or (op_notInD hu) op_notIn_sign)) (ok_ninF.or (ok_ninP.or ok_ninS)) ha hb hm
theorem dt_in (hu : X.A.units + 65 < cLine) (ha : DR X W a f) (hb : DR X W b g) (hm : behindInMarks .In b = false) : DT X W (.Compare a [.In] [b] pos) (tstF (binF inO f g)) := DT.cmp (OpR.or op_in_seq (OpR.or (op_inD hu) op_in_sign)) (ok_inF.or (ok_inP.or ok_inS)) ha hb hm
theorem dt_nin (hu : X.A.units + 65 < cLine) (ha : DR X W a f) (hb : DR X W b g) (hm : behindInMarks .NotIn b = false) : DT X W (.Compare a [.NotIn] [b] pos) (tstF (binF ninO f g)) := DT.cmp (OpR.or op_notIn_seq (OpR.or (op_notInD hu) op_notIn_sign)) (ok_ninF.or (ok_ninP.or ok_ninS)) ha hb hm

/-! ### chains -/
def chF (o o' : D → D → Option D) (f g h : Ev → Out RV) : Ev → Out D := fun ρ => (f ρ).bind fun a ρ1 => (g ρ1).bind fun b ρ2 => (onTwo o ρ2 (look ρ2 a) (look ρ2 b)).bind fun r ρ3 => match r with
  | .bl true => (h ρ3).bind fun c ρ4 => onTwo o' ρ4 (look ρ4 b) (look ρ4 c)
  | .bl false => .val (.bl false) ρ3
  | _ => .bad
theorem onTwo_ok {r : R2} {op : D → D → Option D} (hb : BinOk K r op) {Fr : Addr → Prop} {B : List (Nat × Addr)} {σ : St} {H1 H2 : Hp} {ρ1 ρ2 : Ev} {v w : V} {a b : RV} {Q Q2 : VK} (st : Step Fr H1 H2) (R2 : Rep K Fr B σ H2 ρ2)
    (r1 : relR K σ a ρ1 v H1) (r2 : relR K σ b ρ2 w H2) (k : Ok K W Fr B σ (relE K) Q2 H2 (onTwo op ρ2 (look ρ2 a) (look ρ2 b))) (q : ∀ u H3 d, onTwo op ρ2 (look ρ2 a) (look ρ2 b) = .val d ρ2 → Step Fr H2 H3 → Rep K Fr B σ H3 ρ2 → Dat K H3 u d → Q u H3) : r v w H2 Q := by
  cases ea : look ρ2 a with
  | none => rw [ea] at k; exact False.elim k
  | some x =>
    cases eb : look ρ2 b with
    | none => rw [ea, eb] at k; exact False.elim k
    | some y =>
      rw [ea, eb] at k q
      cases eo : op x y with
      | none =>
        replace k : Ok K W Fr B σ (relE K) Q2 H2 (ofO (op x y) ρ2) := k
        rw [eo] at k; exact False.elim k
      | some d =>
        refine hb.run R2 (view_later r1 st R2 ea) (view_now r2 R2 eb) eo fun u H3 s R3 dt => q u H3 d ?_ s R3 dt
        show ofO (op x y) ρ2 = .val d ρ2
        rw [eo] <;> rfl
theorem sem_chain {r r' : R2} {o o' : D → D → Option D} (hb : BinOk X.K r o) (hb' : BinOk X.K r' o') {ta tb tc : TE}
    (sa : ∀ (Fr : Addr → Prop) (B : List (Nat × Addr)) (σ : St) (H : Hp) (ρ : Ev) (Q : VK), Rep X.K Fr B σ H ρ → Ok X.K W Fr B σ (relR X.K σ) Q H (f ρ) → ta σ H Q)
    (sb : ∀ (Fr : Addr → Prop) (B : List (Nat × Addr)) (σ : St) (H : Hp) (ρ : Ev) (Q : VK), Rep X.K Fr B σ H ρ → Ok X.K W Fr B σ (relR X.K σ) Q H (g ρ) → tb σ H Q)
    (sc : ∀ (Fr : Addr → Prop) (B : List (Nat × Addr)) (σ : St) (H : Hp) (ρ : Ev) (Q : VK), Rep X.K Fr B σ H ρ → Ok X.K W Fr B σ (relR X.K σ) Q H (h ρ) → tc σ H Q)
    (Fr : Addr → Prop) (B : List (Nat × Addr)) (σ : St) (H : Hp) (ρ : Ev) (Q : VK) (R : Rep X.K Fr B σ H ρ) (k : Ok X.K W Fr B σ (relE X.K) Q H (chF o o' f g h ρ)) : tChain r r' ta tb tc σ H Q := by
  refine sa Fr B σ H ρ _ R (Ok.bind k fun v H1 a ρ1 st R1 r1 k => ?_)
  refine sb Fr B σ H1 ρ1 _ R1 (Ok.bind k fun w H2 b ρ2 st2 R2 r2 k => ?_)
  have k1 : Ok X.K W Fr B σ (relE X.K) (fun _ _ => True) H2 (onTwo o ρ2 (look ρ2 a) (look ρ2 b)) := Ok.bind k fun _ _ _ _ _ _ _ _ => True.intro
  refine onTwo_ok hb st2 R2 r1 r2 k1 fun u H3 d e s3 R3 dt => ?_
  rw [e] at k
  replace k := Ok.later k s3
  cases d with
  | bl z =>
    refine ⟨z, Dat.bl_inv dt, ?_⟩
    cases z with
    | true =>
      refine iteT (sc Fr B σ H3 ρ2 _ R3 (Ok.bind k fun x H4 c ρ4 st4 R4 r4 k => ?_))
      have r2' : relR X.K σ b ρ2 w H3 := by
        cases b with
        | dat d' => exact Dat.mono s3.mono r2
        | al i => exact r2
      refine onTwo_ok hb' st4 R4 r2' r4 k fun u' H5 d' e5 s5 R5 dt5 => ?_
      rw [e5] at k
      exact k u' H5 s5 R5 dt5
    | false => exact iteF (k (.bl false) H3 Step.refl R3 .bl)
  | _ => exact False.elim k
theorem de_chain {op op' : CmpOp} {r r' : R2} {o o' : D → D → Option D} (ho : OpR X (compareOp op) r) (ho' : OpR X (compareOp op') r') (hb : BinOk X.K r o) (hb' : BinOk X.K r' o') (ha : DR X W a f) (hb1 : DR X W b g) (hc : DR X W c h)
    (hm : lastMarks [op, op'] [b, c] = false := by with_unfolding_all rfl) : DE X W (.Compare a [op, op'] [b, c] pos) (chF o o' f g h) := by
  obtain ⟨ta, pa, sa⟩ := ha.ex
  obtain ⟨tb, pb, sb⟩ := hb1.ex
  obtain ⟨tc, pc, sc⟩ := hc.ex
  exact ⟨_, pe_chain ho ho' pa pb pc hm, sem_chain hb hb' sa sb sc⟩
theorem dt_chain {op op' : CmpOp} {r r' : R2} {o o' : D → D → Option D} (ho : OpR X (compareOp op) r) (ho' : OpR X (compareOp op') r') (hb : BinOk X.K r o) (hb' : BinOk X.K r' o') (ha : DR X W a f) (hb1 : DR X W b g) (hc : DR X W c h)
    (hm : lastMarks [op, op'] [b, c] = false := by with_unfolding_all rfl) : DT X W (.Compare a [op, op'] [b, c] pos) (tstF (chF o o' f g h)) := by
  obtain ⟨ta, pa, sa⟩ := ha.ex
  obtain ⟨tb, pb, sb⟩ := hb1.ex
  obtain ⟨tc, pc, sc⟩ := hc.ex
  exact ⟨_, pt_chain ho ho' pa pb pc hm, sem_tst (sem_chain hb hb' sa sb sc)⟩

/-! ### tests -/
def truD : D → Option Bool
  | .non => some false
  | .bl b => some b
  | .int i => some (i != 0)
  | .str x => if x.length ≤ sizeLine then some ((x.length : Int) != 0) else none
  | .lst xs => some !xs.isEmpty
  | .tup xs => some !xs.isEmpty
  | _ => none
/-- the truth of an operand: an own dict's too -/
def truR (ρ : Ev) : RV → Option Bool
  | .dat d => truD d
  | .al i => match ρ[i]? with
    | some (.ow _ (.l xs)) => some !xs.isEmpty
    | some (.ow _ (.d xs)) => some !xs.isEmpty
    | _ => none
def truF (f : Ev → Out RV) : Ev → Out Bool := fun ρ => (f ρ).bind fun r ρ1 => ofO (truR ρ1 r) ρ1
theorem DatL.isEmpty {vs : List V} {ds : List D} (r : DatL K H vs ds) : vs.isEmpty = ds.isEmpty := by cases r <;> rfl
theorem DatK.isEmpty {vs : List (Key × V)} {ds : List (Key × D)} (r : DatK K H vs ds) : vs.isEmpty = ds.isEmpty := by cases r <;> rfl
theorem tru_dat {k : Bool} (h : Dat K H v d) (e : truD d = some k) : TruV K v H k := by
  unfold truD at e
  split at e
  · cases e; rw [h.non_inv]; exact rfl
  · cases e; rw [h.bl_inv]; exact rfl
  · cases e; rw [h.int_inv]; exact rfl
  · split at e
    · cases e; rw [h.str_inv]; exact ⟨by assumption, rfl⟩
    · cases e
  · cases e
    cases h with
    | lst h r => exact .inl ⟨_, h.sq, by rw [r.isEmpty]⟩
  · cases e
    cases h with
    | tup h r => exact .inr (.inl ⟨_, h.sq, by rw [r.isEmpty]⟩)
  · cases e
theorem dt_tru (ha : DR X W a f) (he : ∀ whole, isTrue a X.env whole = (do let v ← whole; standAt a.pos; holding [v] (truthy v))) : DT X W a (truF f) := by
  obtain ⟨ta, pa, sa⟩ := ha.ex
  refine ⟨_, pt_truth pa he, fun Fr B σ H ρ Q R k => ?_⟩
  refine sa Fr B σ H ρ _ R (Ok.bind k fun v H1 r ρ1 st R1 r1 k => ?_)
  cases e : truR ρ1 r with
  | none => rw [e] at k; exact False.elim k
  | some z =>
    rw [e] at k
    refine ⟨z, ?_, k z H1 Step.refl R1 rfl⟩
    cases r with
    | dat d => exact tru_dat r1 e
    | al i =>
      obtain ⟨h1, rr, o, h2⟩ := r1
      have e' : (match ρ1[i]? with
        | some (AV.ow _ (OD.l xs)) => some !xs.isEmpty
        | some (AV.ow _ (OD.d xs)) => some !xs.isEmpty
        | _ => none) = some z := e
      rw [h2] at e'
      obtain ⟨p, h3, ow⟩ := R1.own h2
      rw [h1] at h3
      cases h3
      cases o with
      | l xs => cases e'; obtain ⟨vs, h4, r⟩ := ow; exact .inl ⟨vs, .inl (.inl h4), by rw [r.isEmpty]⟩
      | d xs => cases e'; obtain ⟨vs, h4, r⟩ := ow; exact .inr (.inr ⟨vs, h4, by rw [r.isEmpty]⟩)
/-- an expression that gives True or False, as a test -/
theorem dt_val {f : Ev → Out D} (ha : DE X W a f) (he : ∀ whole, isTrue a X.env whole = (do let v ← whole; standAt a.pos; holding [v] (truthy v))) : DT X W a (tstF f) := by
  obtain ⟨ta, pa, sa⟩ := ha.ex
  exact ⟨_, pt_val pa he, sem_tst sa⟩

variable {p q : Ev → Out Bool} {rest : List Expr}
theorem DW.dt (h : DW X W a p) : DT X W a p := by
  obtain ⟨t, w, s⟩ := h.ex
  exact ⟨t, w.pt, s⟩
def andF (p q : Ev → Out Bool) : Ev → Out Bool := fun ρ => (p ρ).bind fun b ρ1 => if b = true then q ρ1 else .val false ρ1
def orF (p q : Ev → Out Bool) : Ev → Out Bool := fun ρ => (p ρ).bind fun b ρ1 => if b = true then .val true ρ1 else q ρ1
def notF (p : Ev → Out Bool) : Ev → Out Bool := fun ρ => (p ρ).bind fun b ρ1 => .val (!b) ρ1
theorem dw_and1 (h : DT X W a p) : DW X W (.BoolOp .And [a] pos) p := by
  obtain ⟨t, w, s⟩ := h.ex
  exact ⟨t, pw_and1 w, s⟩
theorem dw_or1 (h : DT X W a p) : DW X W (.BoolOp .Or [a] pos) p := by
  obtain ⟨t, w, s⟩ := h.ex
  exact ⟨t, pw_or1 w, s⟩
theorem dw_and (h : DT X W a p) (h' : DW X W (.BoolOp .And (b :: rest) pos) q) : DW X W (.BoolOp .And (a :: b :: rest) pos) (andF p q) := by
  obtain ⟨t, w, s⟩ := h.ex
  obtain ⟨t', w', s'⟩ := h'.ex
  refine ⟨_, pw_and w w', fun Fr B σ H ρ Q R k => s Fr B σ H ρ _ R (Ok.bind k fun v H1 r ρ1 st R1 r1 k => ?_)⟩
  have e : v = r := r1
  subst e
  cases v with
  | true => exact iteT (s' Fr B σ H1 ρ1 _ R1 k)
  | false => exact iteF (k false H1 Step.refl R1 rfl)
theorem dw_or (h : DT X W a p) (h' : DW X W (.BoolOp .Or (b :: rest) pos) q) : DW X W (.BoolOp .Or (a :: b :: rest) pos) (orF p q) := by
  obtain ⟨t, w, s⟩ := h.ex
  obtain ⟨t', w', s'⟩ := h'.ex
  refine ⟨_, pw_or w w', fun Fr B σ H ρ Q R k => s Fr B σ H ρ _ R (Ok.bind k fun v H1 r ρ1 st R1 r1 k => ?_)⟩
  have e : v = r := r1
  subst e
  cases v with
  | false => exact iteF (s' Fr B σ H1 ρ1 _ R1 k)
  | true => exact iteT (k true H1 Step.refl R1 rfl)
theorem dt_not (h : DT X W a p) : DT X W (.UnaryOp .Not a pos) (notF p) := by
  obtain ⟨t, w, s⟩ := h.ex
  refine ⟨_, pt_not w, fun Fr B σ H ρ Q R k => s Fr B σ H ρ _ R (Ok.bind k fun v H1 r ρ1 st R1 r1 k => ?_)⟩
  have e : v = r := r1
  subst e
  exact k (!v) H1 Step.refl R1 rfl
/-- .. as values, all but the last one True or False -/
def andE (p q : Ev → Out D) : Ev → Out D := fun ρ => (p ρ).bind fun b ρ1 => match b with
  | .bl true => q ρ1
  | .bl false => .val (.bl false) ρ1
  | _ => .bad
def orE (p q : Ev → Out D) : Ev → Out D := fun ρ => (p ρ).bind fun b ρ1 => match b with
  | .bl false => q ρ1
  | .bl true => .val (.bl true) ρ1
  | _ => .bad
def notE (p : Ev → Out D) : Ev → Out D := fun ρ => (p ρ).bind fun b ρ1 => match b with
  | .bl b => .val (.bl (!b)) ρ1
  | _ => .bad
variable {u w : Ev → Out D}
theorem de_one {op} (h : DE X W a u) : DE X W (.BoolOp op [a] pos) u := by
  obtain ⟨t, w, s⟩ := h.ex
  exact ⟨t, pe_one w, s⟩
theorem de_and (h : DE X W a u) (h' : DE X W (.BoolOp .And (b :: rest) pos) w) : DE X W (.BoolOp .And (a :: b :: rest) pos) (andE u w) := by
  obtain ⟨t, e, s⟩ := h.ex
  obtain ⟨t', e', s'⟩ := h'.ex
  refine ⟨_, pe_and e e', fun Fr B σ H ρ Q R k => s Fr B σ H ρ _ R (Ok.bind k fun v H1 r ρ1 st R1 r1 k => ?_)⟩
  cases r with
  | bl z =>
    refine ⟨z, Dat.bl_inv r1, ?_⟩
    cases z with
    | true => exact iteT (s' Fr B σ H1 ρ1 _ R1 k)
    | false => exact iteF (k _ H1 Step.refl R1 .bl)
  | _ => exact False.elim k
theorem de_or (h : DE X W a u) (h' : DE X W (.BoolOp .Or (b :: rest) pos) w) : DE X W (.BoolOp .Or (a :: b :: rest) pos) (orE u w) := by
  obtain ⟨t, e, s⟩ := h.ex
  obtain ⟨t', e', s'⟩ := h'.ex
  refine ⟨_, pe_or e e', fun Fr B σ H ρ Q R k => s Fr B σ H ρ _ R (Ok.bind k fun v H1 r ρ1 st R1 r1 k => ?_)⟩
  cases r with
  | bl z =>
    refine ⟨z, Dat.bl_inv r1, ?_⟩
    cases z with
    | false => exact iteF (s' Fr B σ H1 ρ1 _ R1 k)
    | true => exact iteT (k _ H1 Step.refl R1 .bl)
  | _ => exact False.elim k
theorem de_not (h : DE X W a u) : DE X W (.UnaryOp .Not a pos) (notE u) := by
  obtain ⟨t, e, s⟩ := h.ex
  refine ⟨_, pe_not e, fun Fr B σ H ρ Q R k => s Fr B σ H ρ _ R (Ok.bind k fun v H1 r ρ1 st R1 r1 k => ?_)⟩
  cases r with
  | bl z => exact ⟨z, Dat.bl_inv r1, k _ H1 Step.refl R1 .bl⟩
  | _ => exact False.elim k
def ifE (p : Ev → Out Bool) (u w : Ev → Out D) : Ev → Out D := fun ρ => (p ρ).bind fun b ρ1 => if b = true then u ρ1 else w ρ1
theorem de_if (h : DT X W c p) (ha : DE X W a u) (hb : DE X W b w) : DE X W (.IfExp c a b pos) (ifE p u w) := by
  obtain ⟨t, e, s⟩ := h.ex
  obtain ⟨t1, e1, s1⟩ := ha.ex
  obtain ⟨t2, e2, s2⟩ := hb.ex
  refine ⟨_, pe_ifExp e e1 e2, fun Fr B σ H ρ Q R k => s Fr B σ H ρ _ R (Ok.bind k fun v H1 r ρ1 st R1 r1 k => ?_)⟩
  have z : v = r := r1
  subst z
  cases v with
  | true => exact iteT (s1 Fr B σ H1 ρ1 _ R1 k)
  | false => exact iteF (s2 Fr B σ H1 ρ1 _ R1 k)
/-- -a -/
def negE (u : Ev → Out D) : Ev → Out D := fun ρ => (u ρ).bind fun d ρ1 => match d with
  | .int i => .val (.int (-i)) ρ1
  | _ => .bad
theorem de_neg (h : DE X W a u) : DE X W (.UnaryOp .USub a pos) (negE u) := by
  obtain ⟨t, e, s⟩ := h.ex
  refine ⟨_, pe_un un_neg e, fun Fr B σ H ρ Q R k => s Fr B σ H ρ _ R (Ok.bind k fun v H1 r ρ1 st R1 r1 k => ?_)⟩
  cases r with
  | int i => exact ⟨i, Dat.int_inv r1, k _ H1 Step.refl R1 .int⟩
  | _ => exact False.elim k
end
end DL
set_option Elab.async false
set_option linter.all false
set_option maxRecDepth 100000
set_option maxHeartbeats 4000000
namespace DLS
open PySem PySem.Spec PyProof.Rows L2

def txt (e : Int × Value) : Str := match e.2 with
  | .str x _ => x
  | _ => Str.empty
def Tx (w : World) (e : Int × Value) : Prop := ∃ x t, e.2 = Value.str x t ∧ e.1 = hashStr w x
/-- the set of texts at a: those in L, each once; its table can be walked -/
def TSet (w : World) (h : Heap) (a : Addr) (L : List Str) : Prop :=
  ∃ o es ep t, h.get? a = some o ∧ o.ExactSet ∧ o.data = .set es ep t ∧ (∀ e ∈ es.toList, Tx w e) ∧ (es.toList.map txt).Nodup ∧ (∀ x, x ∈ L ↔ x ∈ es.toList.map txt) ∧
    es.size < scanBound ∧ t.fits es.size = true ∧ Ris t.place.toList ∧ (w.params.followText "set-order" = true ∨ t.led = true) ∧ es.size ≤ L.length
section
variable {P : Program} {w : World} {h h' : Heap} {a : Addr} {L : List Str}
theorem TSet.at (T : TSet w h a L) (k : ∀ o, h.get? a = some o → h'.get? a = some o) : TSet w h' a L := let ⟨o, es, ep, t, ho, r⟩ := T; ⟨o, es, ep, t, k o ho, r⟩
theorem tx_elems {l : List (Int × Value)} (g : ∀ e ∈ l, Tx w e) : ElemsOf (PySem.strKind P w) l := by
  intro e he
  obtain ⟨x, t, h1, h2⟩ := g e he
  refine ⟨⟨x, ?_, h2⟩, ?_⟩
  · rw [h1]; exact strKind_is P w x t
  · rw [h1] <;> rfl
theorem tx_is {e : Int × Value} (g : Tx w e) (x : Str) : (PySem.strKind P w).is x e.2 = true ↔ txt e = x := by
  obtain ⟨y, t, h1, _⟩ := g
  unfold txt
  rw [h1]
  constructor
  · intro q
    obtain ⟨u, e⟩ := Value.isStrOf_shape (x := x) (v := Value.str y t) q
    injection e
  · rintro rfl
    exact strKind_is P w _ _
theorem tx_mem {l : List (Int × Value)} (g : ∀ e ∈ l, Tx w e) (x : Str) : x ∈ l.map txt ↔ ∃ e ∈ l, (PySem.strKind P w).is x e.2 = true :=
  List.mem_map.trans ⟨fun ⟨e, he, q⟩ => ⟨e, he, (tx_is (g e he) x).2 q⟩, fun ⟨e, he, q⟩ => ⟨e, he, (tx_is (g e he) x).1 q⟩⟩
end
section
variable {P : Program} {w : World} {A : Around} {E : Value → Shared → Prop} {s : Shared} {a : Addr} {L : List Str}
theorem tset_tail {g : Bool → Sem Unit} (hg : ∀ (b : Bool) (s₁ : Shared) (Q' : Unit → Shared → Prop), Q' () s₁ → wpAny (model P w) A (g b) Q' E s₁)
    {o : Obj} {es : Array (Int × Value)} {ep : Nat} {t : SetTable} (ho : s.heap.get? a = some o) (hex : o.ExactSet) (hd : o.data = .set es ep t)
    {es1 : Array (Int × Value)} {t2 : SetTable} (g1 : ∀ e ∈ es1.toList, Tx w e) (nd1 : (es1.toList.map txt).Nodup) (m1 : ∀ x, x ∈ L ↔ x ∈ es1.toList.map txt) (ln : es1.size ≤ L.length)
    (hb1 : es1.size < scanBound) (hf2 : t2.fits es1.size = true) (hr : Ris t2.place.toList) (hl : w.params.followText "set-order" = true ∨ t2.led = true) {wd : Bool} {R : Option Bool → Shared → Prop}
    (hR : ∀ h', Heap.SameBut a s.heap h' → TSet w h' a L → R (some true) { s with heap := h' }) :
    wpAny (model P w) A (do
        storeSet a es1 t2
        if (!wd && t2.tooFull) = true then do
            g (relayAll t2 es1 (SetTable.grown es1.size)).2.2
            storeSet a (relayAll t2 es1 (SetTable.grown es1.size)).1 (relayAll t2 es1 (SetTable.grown es1.size)).2.1
            pure (some true)
          else pure (some true)) R E s := by
  refine wpAny_bind (wpAny_storeSet_of ho hd ?_ (fits_of_scanBound hb1))
  have at1 := store_at (es' := es1) (t' := t2) ho hd
  have b1 := Heap.SameBut.update s.heap a (Obj.putSet es1 t2)
  by_cases c : (!wd && t2.tooFull) = true
  · rw [if_pos c]
    have q1 := relayAll_perm t2 es1 (SetTable.grown es1.size)
    have q2 := relayAll_fits t2 es1 (SetTable.grown es1.size)
    have q3 := relayAll_ris t2 es1 (SetTable.grown es1.size)
    have q4 := relayAll_led t2 es1 (SetTable.grown es1.size)
    generalize relayAll t2 es1 (SetTable.grown es1.size) = Z at q1 q2 q3 q4 ⊢
    obtain ⟨es2, t3, gv⟩ := Z
    dsimp only at q1 q2 q3 q4 ⊢
    have sz : es2.size = es1.size := by
      have := q1.length_eq
      simpa using this
    have hb2 : es2.size < scanBound := by omega
    refine wpAny_bind (hg _ _ _ (wpAny_bind (wpAny_storeSet_of at1 rfl ?_ (fits_of_scanBound hb2))))
    refine wpAny_pure (hR _ (b1.trans (Heap.SameBut.update _ a _)) ⟨_, es2, _, t3, store_at (es' := es2) (t' := t3) at1 rfl, hex, rfl, fun e he => g1 e (q1.mem_iff.mp he), (q1.map txt).nodup_iff.mpr nd1,
      fun x => (m1 x).trans (q1.map txt).mem_iff.symm, hb2, ?_, q3, ?_, by omega⟩)
    · rw [sz]; rw [sz] at q2; exact q2
    · exact hl.imp id fun z => by rw [q4]; exact z
  · rw [if_neg c]
    exact wpAny_pure (hR _ b1 ⟨_, es1, _, t2, at1, hex, rfl, g1, nd1, m1, hb1, hf2, hr, hl, ln⟩)
theorem tset_add {x : Str} {tk : Tok} {Q : Bool → Shared → Prop} (T : TSet w s.heap a L) (room : L.length + 1 < scanBound)
    (hQ : ∀ b h', Heap.SameBut a s.heap h' → TSet w h' a (L ++ [x]) → Q b { s with heap := h' }) :
    wpAny (model P w) A (setAddHashed a (.str x tk) ((PySem.strKind P w).hash x)) Q E s := by
  obtain ⟨o, es, ep, t, ho, hex, hd, g, nd, hm, hb, hf, hr, hl, ln⟩ := T
  have ky : (PySem.strKind P w).is x (.str x tk) = true := strKind_is P w x tk
  have sc : (Value.str x tk).scannable = true := rfl
  have el : ElemsOf (PySem.strKind P w) es.toList := tx_elems g
  unfold setAddHashed setAddHashedIn
  refine wpAny_holding (wpAny_bind (wpAny_setState_of ho hd hf ?_))
  dsimp only
  rw [byScan_of sc hb el]
  simp only [↓reduceIte]
  unfold setAddByScan
  refine wpAny_bind (wpAny_bind (wpAny_rule (wpAny_bind (wpAny_setScan_of ky ho hd hf el ?_))))
  cases q : List.findIdx? (fun e => (PySem.strKind P w).is x e.2) es.toList with
  | some j =>
    dsimp only
    obtain ⟨hj, pj, _⟩ := List.findIdx?_eq_some_iff_getElem.mp q
    have hx : x ∈ es.toList.map txt := (tx_mem (P := P) g x).2 ⟨_, List.getElem_mem hj, pj⟩
    refine wpAny_pure (wpAny_pure (hQ _ s.heap (Heap.SameBut.refl a s.heap) ⟨o, es, ep, t, ho, hex, hd, g, nd, fun y => ?_, hb, hf, hr, hl, ?_⟩))
    · rw [List.mem_append, List.mem_singleton, hm y]
      exact ⟨fun z => z.elim id fun e => by rw [e]; exact hx, .inl⟩
    · rw [List.length_append]; omega
  | none =>
    dsimp only
    have hnx : x ∉ es.toList.map txt := fun z => by
      obtain ⟨e, he, p⟩ := (tx_mem (P := P) g x).1 z
      have c := List.findIdx?_eq_none_iff.mp q e he
      rw [p] at c; cases c
    have gw : ∀ (b : Bool) {s₁ : Shared} {Q' : Unit → Shared → Prop}, Q' () s₁ → wpAny (model P w) A (match b with | true => rule "set.scan.the-table-gave-way" | false => pure ()) Q' E s₁ :=
      fun b s₁ Q' k => by
        cases b
        · exact wpAny_pure k
        · exact wpAny_rule k
    have p1 := layNew_perm t es ((PySem.strKind P w).hash x) (.str x tk)
    have p2 := layNew_fits t es ((PySem.strKind P w).hash x) (.str x tk)
    have p3 := layNew_ris t es ((PySem.strKind P w).hash x) (.str x tk) hr
    have p4 := layNew_led t es ((PySem.strKind P w).hash x) (.str x tk)
    generalize layNew t es ((PySem.strKind P w).hash x) (.str x tk) = Z at p1 p2 p3 p4 ⊢
    obtain ⟨es1, t1, wd, gv⟩ := Z
    dsimp only at p1 p2 p3 p4 ⊢
    rw [Array.toList_push] at p1
    have pc : es1.toList.Perm (((PySem.strKind P w).hash x, Value.str x tk) :: es.toList) := p1.trans (List.perm_append_singleton _ _)
    have pk : (es1.toList.map txt).Perm (x :: es.toList.map txt) := pc.map txt
    have g1 : ∀ e ∈ es1.toList, Tx w e := fun e he => by
      rcases List.mem_cons.mp (pc.mem_iff.mp he) with z | z
      · rw [z]; exact ⟨x, tk, rfl, rfl⟩
      · exact g e z
    have nd1 : (es1.toList.map txt).Nodup := pk.nodup_iff.mpr (List.nodup_cons.mpr ⟨hnx, nd⟩)
    have m1 : ∀ y, y ∈ L ++ [x] ↔ y ∈ es1.toList.map txt := fun y => by
      rw [List.mem_append, List.mem_singleton, hm y, pk.mem_iff, List.mem_cons]
      exact Or.comm
    have sz : es1.size = es.size + 1 := by
      have := pc.length_eq
      simpa using this
    have hb1 : es1.size < scanBound := by omega
    have led1 : w.params.followText "set-order" = true ∨ t1.led = true := hl.imp id fun z => by rw [p4]; exact z
    have ln1 : es1.size ≤ (L ++ [x]).length := by rw [List.length_append]; show es1.size ≤ L.length + 1; omega
    refine wpAny_bind (gw _ ?_)
    split
    · refine wpAny_bind ?_
      rw [hashByValue_scannable 8 sc]
      refine wpAny_pure (tset_tail (L := L ++ [x]) ?_ ho hex hd g1 nd1 m1 ln1 hb1 ?_ ?_ ?_ ?_)
      · intro b s₁ Q' k
        cases b
        · exact wpAny_pure k
        · exact wpAny_rule k
      · split
        · exact p2
        · exact SetTable.fits_plain_off p2
      · split <;> exact p3
      · split <;> exact led1
      · intro h' sb r
        exact wpAny_pure (hQ _ h' sb r)
    · refine wpAny_bind (wpAny_pure ?_)
      simp only [↓reduceIte]
      refine tset_tail (L := L ++ [x]) ?_ ho hex hd g1 nd1 m1 ln1 hb1 p2 p3 led1 ?_
      · intro b s₁ Q' k
        cases b
        · exact wpAny_pure k
        · exact wpAny_rule k
      · intro h' sb r
        exact wpAny_pure (hQ _ h' sb r)
end

section
variable {prog : Program} {w : World} {A : Around} {R : Result → Shared → Prop} {I : Addr} {fp wr : List Addr} {G : Array GenState → Array GenState → Prop} {n : Nat} {P : Nat → Value → Prop} {St : Nat → Shared → Prop}
/-- a set takes what an iterator of texts gives -/
theorem tset_loop (W : WalksS prog w A.in1 I fp wr G n P St) (S : Addr) (hSf : S ∉ fp) (xs : List Str) (hsz : xs.length = n) (hn : n < scanBound) (hval : ∀ i v, P i v → ∃ t, v = .str (xs.getD i Str.empty) t) :
    ∀ (k i : Nat) (s : Shared), n - i = k → i ≤ n → St i s → TSet w s.heap S (xs.take i) → (∀ s', Moved (S :: wr) G s s' → TSet w s'.heap S xs → R (.ok (.ret .none)) s') →
      codeAny (model prog w) A (.builtin "set.update.loop" ⟨[.ref S, .ref I], []⟩) R s := by
  have hSw : S ∉ wr := fun h => hSf (W.sub _ h)
  have hsub : ∀ b ∈ wr, b ∈ S :: wr := fun b hb => List.mem_cons_of_mem _ hb
  intro k
  induction k with
  | zero =>
    intro i s hk hi hst hS hR
    have hin : i = n := by omega
    subst hin
    refine codeAny_builtin PyProof.Rows.F.entry_set_update_loop ?_
    rw [Around.under_plainId PyProof.Rows.F.plain_set_update_loop _]
    show wpAny _ A.in1 (pyNext (.ref I) >>= _) _ _ s
    refine wpAny_bind (W.done s _ _ hst fun s' hm => ?_)
    show wpAny _ A.in1 (ret Value.none) _ _ s'
    rw [← hsz, List.take_length] at hS
    exact wpAny_pure (hR s' (hm.mono hsub) (hS.at fun o ho => hm.heap S o hSw ho))
  | succ k ih =>
    intro i s hk hi hst hS hR
    have hlt : i < n := by omega
    refine codeAny_builtin PyProof.Rows.F.entry_set_update_loop ?_
    rw [Around.under_plainId PyProof.Rows.F.plain_set_update_loop _]
    show wpAny _ A.in1 (pyNext (.ref I) >>= _) _ _ s
    refine wpAny_bind (W.item i s _ _ hlt hst fun v s' hP hst' hm => ?_)
    obtain ⟨t, rfl⟩ := hval i v hP
    have hS' : TSet w s'.heap S (xs.take i) := hS.at fun o ho => hm.heap S o hSw ho
    show wpAny _ A.in1 (holding [Value.str (xs.getD i Str.empty) t] (setAdd S (.str (xs.getD i Str.empty) t)) >>= _) _ _ s'
    refine wpAny_bind (wpAny_holding ?_)
    unfold setAdd
    refine wpAny_holding (wpAny_bind ((PySem.strKind prog w).pyHash (k := xs.getD i Str.empty) (strKind_is _ _ _ _) ?_))
    refine tset_add (P := prog) (s := { s' with toks := s'.toks + 1 }) hS' (by rw [List.length_take]; omega) fun b h' hsb hS2 => ?_
    have hS3 : TSet w h' S (xs.take (i + 1)) := by
      have e : xs.take (i + 1) = xs.take i ++ [xs.getD i Str.empty] := by
        have hi' : i < xs.length := by omega
        rw [List.take_add_one, List.getElem?_eq_getElem hi', List.getD_eq_getElem?_getD, List.getElem?_eq_getElem hi'] <;> rfl
      rw [e]; exact hS2
    refine wpAny_pure ⟨plainId_quiet PyProof.Rows.F.plain_set_update_loop _, ih (i + 1) _ (by omega) hlt (W.frame _ s' _ _ hst' (Nat.le_succ _) fun b hb o e => ?_) hS3 fun s'' hm'' hS'' => ?_⟩
    · rw [hsb.2 b (fun h : b = S => hSf (by rw [← h]; exact hb))]; exact e
    · refine hR s'' (Moved.trans W.gtrans ((hm.mono hsub).then_heap (Nat.le_succ _) fun b o hb e => ?_) hm'') hS''
      rw [hsb.2 b (fun h : b = S => hb (by rw [h]; exact List.mem_cons_self))]; exact e
end
section
variable {prog : Program} {w : World} {A : Around} {E : Value → Shared → Prop} {s : Shared}
/-- set(..) makes an empty set first; whether its places are led is the world's -/
theorem code_set_new_at (a : Value) {Q₁ : Value → Shared → Prop}
    (h : Q₁ (.ref s.heap.objs.size) { s with heap := s.heap.push { cls := .type "set", dict := none, data := .set #[] 0 (.fresh 0 0 (!w.params.followText "set-order")) } }) :
    codeAny (model prog w) A (.call (.builtin "set.__new__") ⟨[.type "set", a], []⟩) (wants Q₁ E) s := by
  refine codeAny_of_tree ?_
  show wpAny _ A.in1 (do checkBuiltinCall "set.__new__" ⟨[.type "set", a], []⟩; again (.builtin "set.__new__" ⟨[.type "set", a], []⟩)) _ _ s
  refine wpAny_bind (wpAny_of_eq (F.newCall_set_1 a) (wpAny_pure ⟨plainId_quiet F.plain_set_new _, codeAny_builtin F.entry_set_new ?_⟩))
  rw [Around.under_plainId F.plain_set_new _]
  unfold Builtin.«set.__new__» Builtin.Frozenset.newClass
  have own := sub_set_self
  obtain ⟨hp, g, d, tk, os⟩ := s
  dsimp only
  wp_walk
  refine wpAny_askSetting (wpAny_pure ?_)
  dsimp only
  simp only [newObj]
  exact wpAny_bind (wpAny_alloc (wpAny_pure (wpAny_pure h)))
theorem tset_empty {h : Heap} (w : World) {hp : Heap} {a : Addr} {b : Bool} (e : hp.get? a = some { cls := .type "set", dict := none, data := .set #[] 0 (.fresh 0 0 b) }) (l : w.params.followText "set-order" = true ∨ b = true) : TSet w hp a [] :=
  ⟨_, #[], 0, _, e, ⟨rfl, rfl, rfl⟩, rfl, (fun e he => by simp at he), (by simp), (fun k => by simp), (by decide), (by rfl), List.Pairwise.nil, l, Nat.le_refl _⟩
theorem led_or (w : World) : w.params.followText "set-order" = true ∨ (!w.params.followText "set-order") = true := by
  cases w.params.followText "set-order"
  · exact .inr rfl
  · exact .inl rfl
/-- set(xs), xs a list of texts -/
theorem call_set_texts {l : Addr} {items : Array Value} {xs : List Str} {Q : Value → Shared → Prop} (hh : A.handled = none) (hl : s.heap.IsList l items) (hi : PyProof.Rows.StrsAre items.toList xs) (hn : xs.length < scanBound)
    (h : ∀ (h' : Heap) (tk : Nat), TSet w h' s.heap.objs.size xs → (∀ b o, b < s.heap.objs.size → s.heap.get? b = some o → h'.get? b = some o) → Q (.ref s.heap.objs.size) { s with heap := h', toks := tk }) :
    wpAny (model prog w) A (call (.type "set") [.ref l]) Q E s := by
  obtain ⟨c, tl, hmro⟩ := PySem.F.called_set.mro
  have f1 := PySem.F.called_set.made
  have f2 := PySem.F.called_set.sub
  refine wpAny_call (codeAny_of_tree ?_)
  show wpAny _ _ (callAny (.type "set") _) _ _ _
  refine wpAny_pure ⟨Code.quiet_builtin _ (by decide +kernel), codeAny_builtin PySem.F.entry_type_call ?_⟩
  rw [Around.under_plain (weight_type_call_type "set" [.ref l] []) rfl]
  have f3 := PySem.F.called_set.notType
  have f4 := PySem.F.called_set.canCreate
  have f5 := PySem.F.typeCall_set_1 (.ref l)
  repeat (any_goals (first | assumption | wp_step))
  refine codeAny_mono (code_set_new_at (.ref l) (E := E) (Q₁ := fun obj s₁ => obj = .ref s.heap.objs.size ∧ s₁ = { s with heap := s.heap.push { cls := .type "set", dict := none, data := .set #[] 0 (.fresh 0 0 (!w.params.followText "set-order")) } }) ⟨rfl, rfl⟩) fun r s₁ hr => ?_
  generalize hled : (!w.params.followText "set-order") = led at hr
  have hor : w.params.followText "set-order" = true ∨ led = true := hled ▸ led_or w
  cases r with
  | error e => exact hr
  | ok fl =>
    cases fl with
    | ret obj =>
      obtain ⟨rfl, rfl⟩ := hr
      have hS : (s.heap.push { cls := .type "set", dict := none, data := .set #[] 0 (.fresh 0 0 led) }).get? s.heap.objs.size = some { cls := .type "set", dict := none, data := .set #[] 0 (.fresh 0 0 led) } := Heap.get?_push_size _ rfl
      have hT : Shared.TypeIs { s with heap := s.heap.push { cls := .type "set", dict := none, data := .set #[] 0 (.fresh 0 0 led) } } (.ref s.heap.objs.size) "set" := ⟨_, hS, rfl⟩
      have f6 := PySem.F.called_set.init.lookup
      have f7 := PySem.F.called_set.init.bind (.ref s.heap.objs.size)
      repeat (any_goals (first | assumption | wp_step))
      refine codeAny_mono (codeAny_call_builtin (R := wants (fun r s₂ => r = .none ∧ ∃ h' tk, s₂ = { s with heap := h', toks := tk } ∧ TSet w h' s.heap.objs.size xs ∧
          (∀ b o, b < s.heap.objs.size → s.heap.get? b = some o → h'.get? b = some o)) E) PySem.F.called_set.init.plain PySem.F.entry_set_init (check_set_init_1 hT ?_)) fun r₂ s₂ hr₂ => ?_
      · obtain ⟨ol, hol, hcl, nl, hdl⟩ := hl
        obtain ⟨ocls, odict, odata, oslots⟩ := ol
        simp only at hcl hdl
        subst hcl; subst hdl
        have hol' : (s.heap.push { cls := .type "set", dict := none, data := .set #[] 0 (.fresh 0 0 led) }).get? l = some { cls := .type "list", dict := odict, data := .seq items nl, slots := oslots } := Heap.get?_push_of_some _ hol
        have g1 := PySem.F.sub_list_set
        have g2 := PySem.F.sub_list_frozenset
        have g3 : (Value.type "list" == Value.type "dict") = false := by decide
        have hl1 : (s.heap.push { cls := .type "set", dict := none, data := .set #[] 0 (.fresh 0 0 led) }).IsList l items := ⟨_, hol', rfl, nl, rfl⟩
        unfold Builtin.«set.__init__» noKeywords Builtin.Frozenset.updateFrom
        generalize hPI : pyIter = PI
        wp_walk
        subst hPI
        refine wpAny_pyIter_list hl1 ?_
        refine wpAny_bind (wpAny_runValue ?_)
        have hlS : l < s.heap.objs.size := Heap.lt_size hol
        have hh3 : A.in1.in1.in1.handled = none := by simp [hh]
        have ne1 : l ≠ (s.heap.push { cls := .type "set", dict := none, data := .set #[] 0 (.fresh 0 0 led) }).objs.size := by
          rw [Heap.size_push]; exact Nat.ne_of_lt (Nat.lt_succ_of_lt hlS)
        have nf : s.heap.objs.size ∉ [(s.heap.push { cls := .type "set", dict := none, data := .set #[] 0 (.fresh 0 0 led) }).objs.size, l] := by
          rw [Heap.size_push]; simp only [List.mem_cons, List.mem_singleton, List.not_mem_nil, or_false, not_or]
          exact ⟨Nat.ne_of_lt (Nat.lt_succ_self _), Nat.ne_of_gt hlS⟩
        have sz : xs.length = items.size := by rw [← StrsAre.len_eq hi, Array.length_toList]
        have vl : ∀ (i : Nat) (v : Value), items[i]? = some v → ∃ t, v = .str (xs.getD i Str.empty) t := fun i v hv => SS.strs_at hi i v (by rw [Array.getElem?_toList]; exact hv)
        refine tset_loop ((Walks.list hh3 _ l ne1 items).toS) s.heap.objs.size nf xs sz (by rw [← sz]; exact hn) vl (items.size - 0) 0 _ (by omega) (Nat.zero_le _) ⟨⟨_, Heap.get?_push_size _ rfl, rfl, rfl⟩, (hl1.push _)⟩ ?hS0 ?hR
        case hS0 =>
          rw [List.take_zero]
          exact tset_empty (h := s.heap) w (Heap.get?_push_of_some _ hS) hor
        case hR =>
          intro s' hm hS'
          obtain ⟨h', g', d', tk', os'⟩ := s'
          have eg : g' = s.gens := hm.gens
          have ed : d' = s.drawn := hm.drawn
          have eo : os' = s.os := hm.os
          subst eg; subst ed; subst eo
          show wpAny _ _ _ _ _ _
          refine wpAny_pure ?_
          show wpAny _ _ (ret Value.none) _ _ _
          refine wpAny_pure ⟨rfl, h', tk', rfl, hS', fun b o hb e => ?_⟩
          have hb1 : b ≠ s.heap.objs.size := Nat.ne_of_lt hb
          have hb2 : b ≠ (s.heap.push { cls := .type "set", dict := none, data := .set #[] 0 (.fresh 0 0 led) }).objs.size := by
            rw [Heap.size_push]; exact Nat.ne_of_lt (Nat.lt_succ_of_lt hb)
          exact hm.heap b o (by simp only [List.mem_cons, List.mem_singleton, List.not_mem_nil, or_false, not_or]; exact ⟨hb1, hb2⟩) (Heap.get?_push_of_some _ (Heap.get?_push_of_some _ e))
      · cases r₂ with
        | error e => exact hr₂
        | ok fl₂ =>
          cases fl₂ with
          | ret r =>
            obtain ⟨rfl, h', tk, rfl, hS', hk'⟩ := hr₂
            repeat (any_goals (first | assumption | wp_step))
            exact h _ _ hS' hk'
          | _ => exact hr₂.elim
    | _ => exact hr.elim
end
end DLS
set_option Elab.async false
set_option linter.all false
set_option maxRecDepth 100000
set_option maxHeartbeats 4000000
namespace DLS
open PySem PySem.Spec PyProof.Rows L2

/-! ### the order of texts -/
def leS (x y : Str) : Bool := decide (x.cps.toList ≤ y.cps.toList)
theorem leS_trans (a b c : Str) (h1 : leS a b = true) (h2 : leS b c = true) : leS a c = true := by
  unfold leS at *
  exact decide_eq_true (List.le_trans (of_decide_eq_true h1) (of_decide_eq_true h2))
theorem leS_total (a b : Str) : (leS a b || leS b a) = true := by
  unfold leS
  rcases List.le_total a.cps.toList b.cps.toList with h | h
  · rw [decide_eq_true h]; rfl
  · rw [decide_eq_true h, Bool.or_true]
theorem leS_antisymm {a b : Str} (h1 : leS a b = true) (h2 : leS b a = true) : a = b := by
  unfold leS at *
  have e := List.le_antisymm (of_decide_eq_true h1) (of_decide_eq_true h2)
  obtain ⟨x⟩ := a
  obtain ⟨y⟩ := b
  have e' : x = y := by simpa using congrArg List.toArray e
  rw [e']
theorem leS_refl (a : Str) : leS a a = true := by
  have := leS_total a a
  rwa [Bool.or_self] at this
def srt (xs : List Str) : List Str := xs.mergeSort leS
theorem srt_perm (xs : List Str) : (srt xs).Perm xs := List.mergeSort_perm xs leS
theorem srt_up (xs : List Str) : (srt xs).Pairwise (fun a b => leS a b = true) := List.pairwise_mergeSort leS_trans leS_total xs
theorem srt_unique {xs ys : List Str} (p : ys.Perm xs) (u : ys.Pairwise (fun a b => leS a b = true)) : ys = srt xs :=
  List.Perm.eq_of_pairwise (fun _ _ _ _ h1 h2 => leS_antisymm h1 h2) u (srt_up xs) (p.trans (srt_perm xs).symm)
theorem not_lt_leS {x p : Str} (h : (!ltCps x.cps.toList p.cps.toList) = true) : leS p x = true := by
  rw [ltCps_eq] at h
  unfold leS
  refine decide_eq_true ?_
  have h' : ¬ x.cps.toList < p.cps.toList := by simpa using h
  exact List.not_lt.mp h'
theorem rising_up : ∀ (r : List Str) (x : Str), risingS x r = true → (x :: r).Pairwise (fun a b => leS a b = true)
  | [], x, _ => by simp
  | y :: r, x, h => by
    unfold risingS at h
    rw [Bool.and_eq_true] at h
    have ih := rising_up r y h.2
    have h1 := not_lt_leS h.1
    refine List.pairwise_cons.mpr ⟨fun z hz => ?_, ih⟩
    rcases List.mem_cons.mp hz with e | hz
    · rw [e]; exact h1
    · exact leS_trans x y z h1 ((List.pairwise_cons.mp ih).1 z hz)
theorem sortedS_up {xs : List Str} (h : sortedS xs = true) : xs.Pairwise (fun a b => leS a b = true) := by
  cases xs with
  | nil => exact List.Pairwise.nil
  | cons x r => exact rising_up r x h
/-- each once, the last ones kept -/
def dd : List Str → List Str
  | [] => []
  | x :: r => if x ∈ r then dd r else x :: dd r
theorem dd_mem : ∀ (xs : List Str) (x : Str), x ∈ dd xs ↔ x ∈ xs
  | [], _ => Iff.rfl
  | y :: r, x => by
    unfold dd
    by_cases h : y ∈ r
    · rw [if_pos h, dd_mem r x, List.mem_cons]
      exact ⟨.inr, fun z => z.elim (fun e => by rw [e]; exact h) id⟩
    · rw [if_neg h, List.mem_cons, List.mem_cons, dd_mem r x]
theorem dd_nodup : ∀ xs : List Str, (dd xs).Nodup
  | [] => List.nodup_nil
  | y :: r => by
    unfold dd
    by_cases h : y ∈ r
    · rw [if_pos h]; exact dd_nodup r
    · rw [if_neg h]; exact List.nodup_cons.mpr ⟨fun z => h ((dd_mem r y).1 z), dd_nodup r⟩
def srtSet (xs : List Str) : List Str := srt (dd xs)
theorem srtSet_unique {xs ys : List Str} (nd : ys.Nodup) (m : ∀ x, x ∈ ys ↔ x ∈ xs) (u : ys.Pairwise (fun a b => leS a b = true)) : ys = srtSet xs :=
  srt_unique ((List.perm_ext_iff_of_nodup nd (dd_nodup xs)).mpr fun x => (m x).trans (dd_mem xs x).symm) u

section
variable {X : Cx}
/-- sorted(xs), xs a list or a tuple of texts -/
def rSortT (K : PySem.W.Frag) : List V → Hp → VK → Prop := fun vs H Q => ∃ (a : Addr) (xs : List Str), vs = [V.ref a] ∧ SqL K H a (xs.map V.str) ∧ ∀ p, H p = none → Q (.ref p) (upd H p (.lst ((srt xs).map V.str)))
theorem cr_sortT : CallR X (.builtin "sorted") (rSortT X.K) := by
  intro pins s σ H vs us Q I r h
  obtain ⟨a, xs, rfl, hs, q⟩ := h
  obtain ⟨its, rv, hl, hz⟩ := I.list hs
  rw [Vals.ref1 r]
  have hlen0 := rv.length
  refine PyProof.Rows.sorted_strsAny hl.isList rv.strs (by rw [← hlen0]; exact hz) fun out ys h1 h2 h3 => ?_
  have e := srt_unique h2 (sortedS_up h3)
  subst e
  obtain ⟨ep, he'⟩ := PyProof.Rows.sortedAll_at s.heap its out
  have hlen : ((srt xs).map V.str).length ≤ sizeLine := by rw [List.length_map, h2.length_eq]; rw [List.length_map] at hz; exact hz
  exact ⟨.ref _, upd H (s.heap.objs.size + 1) (.lst ((srt xs).map V.str)), I.laid (t' := s.toks) (fun _ _ => PyProof.Rows.sortedAll_old) (Nat.le_succ _) ⟨hlen, out.toList, ep, vals_of_strs h1, he'⟩, rfl, q _ (I.hok.fresh (Nat.le_succ _))⟩
end

section
variable {P : Program} {w : World} {A : Around} {E : Value → Shared → Prop} {s : Shared} {a : Addr} {L : List Str}
theorem texts_of (w : World) : ∀ (l : List Value), (∀ v ∈ l, ∃ x t, v = Value.str x t) → ∃ xs, StrsAre l xs ∧ xs.length = l.length
  | [], _ => ⟨[], .nil, rfl⟩
  | v :: l, h => by
    obtain ⟨x, t, rfl⟩ := h v List.mem_cons_self
    obtain ⟨xs, h1, h2⟩ := texts_of w l fun u hu => h u (List.mem_cons_of_mem _ hu)
    exact ⟨x :: xs, .cons x t h1, congrArg Nat.succ h2⟩
theorem strsAre_eq_map {w : World} : ∀ {l : List (Int × Value)}, (∀ e ∈ l, Tx w e) → StrsAre (l.map (·.2)) (l.map txt)
  | [], _ => .nil
  | e :: l, g => by
    obtain ⟨x, t, h1, _⟩ := g e List.mem_cons_self
    have e1 : txt e = x := by unfold txt; rw [h1]
    show StrsAre (e.2 :: l.map (·.2)) (txt e :: l.map txt)
    rw [h1, e1]
    exact .cons x t (strsAre_eq_map fun z hz => g z (List.mem_cons_of_mem _ hz))
theorem strsAre_inj : ∀ {l : List Value} {xs ys : List Str}, StrsAre l xs → StrsAre l ys → xs = ys
  | _, _, _, .nil, .nil => rfl
  | _, _, _, .cons x t h, .cons _ _ h' => by rw [strsAre_inj h h']
theorem strsAre_perm {l l' : List Value} (p : l.Perm l') : ∀ {xs : List Str}, StrsAre l xs → ∃ ys, StrsAre l' ys ∧ xs.Perm ys := by
  induction p with
  | nil => intro xs h; exact ⟨xs, h, List.Perm.refl _⟩
  | cons v _ ih =>
    intro xs h
    cases h with
    | cons x t h =>
      obtain ⟨ys, h1, h2⟩ := ih h
      exact ⟨x :: ys, .cons x t h1, h2.cons x⟩
  | swap v u l =>
    intro xs h
    cases h with
    | cons x t h =>
      cases h with
      | cons y u h => exact ⟨_, .cons y u (.cons x t h), List.Perm.swap _ _ _⟩
  | trans _ _ ih1 ih2 =>
    intro xs h
    obtain ⟨ys, h1, h2⟩ := ih1 h
    obtain ⟨zs, h3, h4⟩ := ih2 h1
    exact ⟨zs, h3, h2.trans h4⟩
/-- sorted(a set of texts) -/
theorem sorted_tset {Q : Value → Shared → Prop} (T : TSet w s.heap a L) (hh : A.handled = none)
    (hQ : ∀ s' p (out : Array Value) (c : Nat), (∀ b o, s.heap.get? b = some o → s'.heap.get? b = some o) → s'.gens = s.gens → s'.os = s.os → s.heap.objs.size ≤ p →
      s'.heap.get? p = some (seqObj "list" out c) → StrsAre out.toList (srtSet L) → Q (.ref p) s') :
    wpAny (model P w) A (call (.builtin "sorted") [.ref a]) Q E s := by
  obtain ⟨o, es, ep, t, ho, hex, hd, g, nd, hm, hb, hf, hr, hl, ln⟩ := T
  refine Calls.call_function_entry kind_sorted plain_sorted entry_sorted (args_sorted1 _) ?_
  unfold Builtin.«sorted»
  refine wpAny_bind (m := checkCount "sorted" 1 1 _) (wpAny_pure ?_)
  refine wpAny_bind (collect_set (A := A.in1) hh ⟨o, ho, hex.1, hd⟩ hf hb hr hl fun s1 vs k1 hz g1 o1 pm => ?_)
  obtain ⟨xs, hS, px⟩ := strsAre_perm pm.symm (strsAre_eq_map g)
  have hvl : vs.length = es.size := by rw [pm.length_eq, List.length_map, Array.length_toList]
  have hsl : vs.length ≤ sizeLine := by rw [hvl]; exact fits_of_scanBound hb
  refine wpAny_bind (wpAny_newList ?_ hsl)
  have hoL : (s1.heap.push (seqObj "list" vs.toArray 0)).get? s1.heap.objs.size = some (seqObj "list" vs.toArray 0) := Heap.get?_push_size _ rfl
  refine wpAny_bind (wpAny_holding (wpAny_call_entry slot_list_sort ⟨_, hoL, rfl⟩ entry_list_sort (list_sort_treeKAny strKind_oneLt hoL hS.keysOf (fun v₁ v₂ rest e => keyKind_strs (by rw [← e]; exact hS)) hsl fun st' a1 a2 => ?_) (args_list_sort _)))
  obtain ⟨ys, b1, b2, b3⟩ := sorted_out_str hS a1 a2
  refine ⟨_, rfl, ?_⟩
  obtain ⟨c, hc⟩ := sortedHeap_at (vs := vs) (out := (arrOf st').map (·.2)) hoL
  have py : ys.Perm (es.toList.map txt) := b2.trans px.symm
  have ey : ys = srtSet L := srtSet_unique (py.nodup_iff.mpr nd) (fun x => py.mem_iff.trans (hm x).symm) (sortedS_up b3)
  rw [ey] at b1
  refine wpAny_pure ⟨_, rfl, hQ _ s1.heap.objs.size _ c (fun b u e => ?_) g1 o1 hz hc b1⟩
  have q := k1 b u e
  have hlt := Heap.lt_size q
  show (sortedHeap (s1.heap.push (seqObj "list" vs.toArray 0)) s1.heap.objs.size vs _).get? b = some u
  rw [sortedHeap_old (Nat.ne_of_lt hlt) (by rw [size_push']; exact Nat.lt_succ_of_lt hlt)]
  exact Heap.get?_push_of_some _ q
end

section
variable {X : Cx} {a : Expr} {ta : TE}
/-- sorted(set(xs)), xs a list of texts -/
def tSortSet (K : PySem.W.Frag) (ta : TE) : TE := fun σ H Q => ta σ H fun x H1 => ∃ (l : Addr) (xs : List Str), x = .ref l ∧ SqL K H1 l (xs.map V.str) ∧ xs.length < 4000 ∧ ∀ p, H1 p = none → Q (.ref p) (upd H1 p (.lst ((srtSet xs).map V.str)))
theorem srtSet_length (xs : List Str) : (srtSet xs).length ≤ xs.length := by
  unfold srtSet
  rw [(srt_perm _).length_eq]
  induction xs with
  | nil => exact Nat.le_refl _
  | cons x r ih =>
    unfold dd
    by_cases h : x ∈ r
    · rw [if_pos h]; exact Nat.le_succ_of_le ih
    · rw [if_neg h]; exact Nat.succ_le_succ ih
theorem pe_sortSet {p p2 q pos : Pos} (hc : X.calm = true) (hg : Gl X "sorted") (hm : X.mg "sorted" = none) (hg2 : Gl X "set") (hm2 : X.mg "set" = none) (ha : PE X a ta)
    (na : starEach [a] X.env = (false, eval a X.env) :: starEach [] X.env := by rfl) : PE X (.Call (.Name "sorted" p) [.Call (.Name "set" p2) [a] [] q] [] pos) (tSortSet X.K ta) := by
  refine ⟨fun pins s σ H Q I h => ?_⟩
  refine wpAny_Call_Name_kw (ld_blt I hg hm boot_sorted ?_)
  refine PyProof.Rows.callWith_builtin1 (PyProof.Rows.args_cons ?_ rfl) rfl rfl
  refine wpAny_Call_Name_kw (ld_blt I hg2 hm2 boot_set ?_)
  refine PyProof.Rows.callWith_type1 (PyProof.Rows.args_cons (thn (ha.run pins s σ H _ I h) fun v s1 ⟨x, H1, I1, r1, q1⟩ => PyProof.Rows.args_nil ?_) na) na rfl
  obtain ⟨l, xs, rfl, hq, hn, q1⟩ := q1
  cases r1
  obtain ⟨its, r, pl, hz⟩ := I1.list hq
  refine call_set_texts (I1.ok.hd hc) pl.isList (by simpa using r.strs) (by unfold scanBound; omega) fun h' tk hT hk => ?_
  refine PyProof.Rows.args_nil ?_
  have I2 : Inv X pins σ H1 { s1 with heap := h', toks := tk } := I1.kept fun b o e => hk b o (Heap.lt_size e) e
  refine sorted_tset hT (I2.ok.hd hc) fun s' pp out c k g o hp hg hS => ?_
  have hn' : H1 pp = none := I2.hok.fresh hp
  have hlen : ((srtSet xs).map V.str).length ≤ sizeLine := by rw [List.length_map, sizeLine_eq]; have := srtSet_length xs; omega
  have J : Inv X pins σ (upd H1 pp (.lst ((srtSet xs).map V.str))) s' :=
    I2.call' (s' := s') (ch := []) o (Un.laid k hp hn') (I2.hok.laid k hp ⟨hlen, out.toList, c, vals_of_strs hS, hg⟩) (by rw [g]; exact I2.bare) (fun _ z => nomatch z)
  exact ⟨.ref pp, _, J, rfl, q1 pp hn'⟩
end
end DLS
set_option Elab.async false
set_option linter.all false
set_option maxRecDepth 100000
set_option maxHeartbeats 4000000
namespace DLS
open PySem PySem.Spec PyProof.Rows L2
section
variable {prog : Program} {w : World} {A : Around} {E : Value → Shared → Prop} {s : Shared} {T : String} {r d : Addr} {n : Nat} {Pv : Nat → Value → Prop} {OK : Heap → Prop}
/-- sorted of what gives texts -/
theorem sorted_src {Q : Value → Shared → Prop} {xs : List Str} (Ks : PySem.W.KdlSrc prog w T r d n Pv OK) (hh : A.handled = none) (hok : OK s.heap) (hn : n ≤ sizeLine) (hs : ∀ acc : Array Value, ItemsOf Pv acc n → StrsAre acc.toList xs)
    (hQ : ∀ (h' : Heap) (tk : Nat) s' (out : Array Value) (c : Nat), (∀ b o, s.heap.get? b = some o → h'.get? b = some o) → (∀ b o, h'.get? b = some o → s'.heap.get? b = some o) → s'.gens = s.gens → s'.os = s.os →
      s'.heap.get? h'.objs.size = some (seqObj "list" out c) → StrsAre out.toList (srt xs) → Q (.ref h'.objs.size) s') :
    wpAny (model prog w) A (call (.builtin "sorted") [.ref r]) Q E s := by
  refine Calls.call_function_entry kind_sorted plain_sorted entry_sorted (args_sorted1 _) ?_
  unfold Builtin.«sorted»
  refine wpAny_bind (m := checkCount "sorted" 1 1 _) (wpAny_pure ?_)
  refine wpAny_bind (PySem.W.kdu_collect (A := A.in1) Ks hh hok hn fun h' tk acc hk hacc => ?_)
  have hS := hs acc hacc
  have hsl : acc.toList.length ≤ sizeLine := by rw [Array.length_toList, hacc.1]; exact hn
  refine wpAny_bind (wpAny_newList ?_ hsl)
  have hoL : (h'.push (seqObj "list" acc.toList.toArray 0)).get? h'.objs.size = some (seqObj "list" acc.toList.toArray 0) := Heap.get?_push_size _ rfl
  refine wpAny_bind (wpAny_holding (wpAny_call_entry slot_list_sort ⟨_, hoL, rfl⟩ entry_list_sort (list_sort_treeKAny strKind_oneLt hoL hS.keysOf (fun v₁ v₂ rest e => keyKind_strs (by rw [← e]; exact hS)) hsl fun st' a1 a2 => ?_) (args_list_sort _)))
  obtain ⟨ys, b1, b2, b3⟩ := sorted_out_str hS a1 a2
  refine ⟨_, rfl, ?_⟩
  obtain ⟨c, hc⟩ := sortedHeap_at (vs := acc.toList) (out := (arrOf st').map (·.2)) hoL
  have ey : ys = srt xs := srt_unique b2 (sortedS_up b3)
  rw [ey] at b1
  refine wpAny_pure ⟨_, rfl, hQ h' tk _ _ c hk (fun b u e => ?_) rfl rfl hc b1⟩
  have hlt := Heap.lt_size e
  show (sortedHeap (h'.push (seqObj "list" acc.toList.toArray 0)) h'.objs.size acc.toList _).get? b = some u
  rw [sortedHeap_old (Nat.ne_of_lt hlt) (by rw [size_push']; exact Nat.lt_succ_of_lt hlt)]
  exact Heap.get?_push_of_some _ e
end
section
variable {X : Cx} {e : Expr} {te : TE} {p apos cpos pos : Pos}
/-- the keys of what is met, as values -/
theorem keys_rel {P : Program} {w : World} {kvs : List (Key × V)} {vs : List (Key × Value)} {acc : Array Value} (kv : KV kvs vs) (h : ItemsOf (fun i v => ∃ k x, vs[i]? = some (k, x) ∧ (mixKind P w).is k v = true) acc vs.length) : Vals (kvs.map fun q => kV q.1) acc.toList := by
  have lk : kvs.length = vs.length := Paired.length kv
  have el : acc.toList.length = acc.size := by simp
  refine vals_of_at (by rw [List.length_map, el, h.1, lk]) fun j x w' h1 h2 => ?_
  obtain ⟨k, y, hky, hi⟩ := h.2 j w' (by rw [← Array.getElem?_toList]; exact h2)
  have e1 : (kvs.map (·.1))[j]? = some k := by
    rw [KV.keys kv, List.getElem?_map, hky] <;> rfl
  have e2 : (kvs.map fun q => kV q.1)[j]? = some (kV k) := by
    have e3 : (kvs.map fun q => kV q.1) = (kvs.map (·.1)).map kV := by rw [List.map_map] <;> rfl
    rw [e3, List.getElem?_map, e1] <;> rfl
  rw [e2] at h1
  cases h1
  exact keyIs_rel hi
/-- d.keys() handed to a built-in f -/
theorem keys_view {f : Value} {pins : List (Addr × Obj)} {σ : L2.St} {H : Hp} {s : Shared} {Q : VK} {R : V → Hp → Prop} (he : PE X e te) (I : Inv X pins σ H s) (h : te σ H R)
    (hbase : attributeBase e "keys" X.env (eval e X.env) = eval e X.env) (hline : (apos.endLine == cpos.line) = true)
    (k : ∀ (v : V) (s1 : Shared) (H1 : Hp), R v H1 → Inv X pins σ H1 s1 → ∃ d kvs, v = .ref d ∧ Rd H1 d (.dK kvs) ∧ ∀ (vs : List (Key × Value)) (ep : Nat), KV kvs vs → kvs.length ≤ sizeLine → ∀ s2, Inv X pins σ H1 s2 → PySem.W.KdlKeysView s2.heap s1.heap.objs.size d → s2.heap.DictAt (mixKind X.prog X.w) d vs ep →
      wpAny (model X.prog X.w) X.A (call f [.ref s1.heap.objs.size]) (EP X pins σ Q) X.xe s2) :
    wpAny (model X.prog X.w) X.A (eval (.Call (.Attribute e "keys" apos) [] [] cpos) X.env) (fun v s' => wpAny (model X.prog X.w) X.A (call f [v]) (EP X pins σ Q) X.xe s') X.xe s := by
  refine wpAny_Call_method (T := "dict") (id := "dict.keys") hbase rfl hline F.plainAttrs_dict F.slot_dict_keys F.type_dict_keys (thn (he.run pins s σ H _ I h) fun u s1 ⟨x, H1, I1, rx, q⟩ => ?_)
  obtain ⟨d, kvs, ex, hd, q2⟩ := k x s1 H1 q I1
  subst ex
  obtain rfl : u = Value.ref d := rx
  obtain ⟨hz, hs0, vs, kv, hdo⟩ := dk_rd I1.hok hd
  obtain ⟨ep, hat⟩ := hdo.dictAt
  have I2 : Inv X pins σ H1 { s1 with heap := s1.heap.push { cls := .type "dict_keys", data := .fields #[.ref d] } } := I1.kept (t' := s1.toks) fun b ob q => Heap.get?_push_of_some _ q
  refine ⟨hdo.typeIs, hdo.mapOf.noDict, ?_⟩
  show wpAny _ _ (callWith cpos (.builtin "dict.keys") [.ref d] [] []) _ X.xe s1
  exact method_meetsIn F.slot_dict_keys F.entry_dict_keys rfl (PySem.evalArgs_none ⟨rfl, hdo.typeIs, F.args_dict_keys_1 _, _, PySem.W.kdl_meets_keys (mixKind X.prog X.w) d hs0, ⟨vs, hdo⟩, q2 vs ep kv hz _ I2 ⟨_, Heap.get?_push_size _ rfl, rfl, rfl⟩ (hat.push _)⟩)
/-- list(d.keys()) -/
def tListKeys (te : TE) : TE := fun σ H Q => te σ H fun x H1 => ∃ d kvs, x = .ref d ∧ Rd H1 d (.dK kvs) ∧ ∀ p, H1 p = none → Q (.ref p) (upd H1 p (.lst (kvs.map fun q => kV q.1)))
theorem pe_listKeys (hc : X.calm = true) (he : PE X e te) (hg : Gl X "list") (hm : X.mg "list" = none) (hbase : attributeBase e "keys" X.env (eval e X.env) = eval e X.env := by rfl) (hline : (apos.endLine == cpos.line) = true := by rfl)
    (hs : starEach [.Call (.Attribute e "keys" apos) [] [] cpos] X.env = (false, eval (.Call (.Attribute e "keys" apos) [] [] cpos) X.env) :: starEach [] X.env := by rfl) :
    PE X (.Call (.Name "list" p) [.Call (.Attribute e "keys" apos) [] [] cpos] [] pos) (tListKeys te) := by
  refine ⟨fun pins s σ H Q I hq => ?_⟩
  refine wpAny_Call_Name_kw (ld_blt I hg hm (show bootBuiltins "list" = some (.type "list") by decide +kernel) ?_)
  refine PyProof.Rows.callWith_type1 (PyProof.Rows.args_cons (thn (keys_view (f := .type "list") he I hq hbase hline fun v s1 H1 r I1 => ?_) fun v s' z => PyProof.Rows.args_nil z) hs) hs rfl
  obtain ⟨d, kvs, rfl, hd, q⟩ := r
  refine ⟨d, kvs, rfl, hd, fun vs ep kv hz s2 I2 hv hat => ?_⟩
  have lk : kvs.length = vs.length := Paired.length kv
  refine PySem.W.kdl_call (PySem.W.kdl_keys (knd := mixKind X.prog X.w) (kvs := vs) (ep := ep)) (I2.ok.hd hc) ⟨hv, hat⟩ (by rw [← lk]; exact hz) fun h' tk acc' c' hk hS hacc => ?_
  refine ⟨.ref s2.heap.objs.size, upd H1 s2.heap.objs.size (.lst (kvs.map fun q => kV q.1)), I2.laid hk (Nat.le_refl _) (show ObjOk X.prog X.w _ _ _ (.lst (kvs.map fun q => kV q.1)) from ⟨by rw [List.length_map]; exact hz, acc'.toList, c', keys_rel kv hacc, ?_⟩), rfl, q _ (I2.hok.fresh (Nat.le_refl _))⟩
  rw [Array.toArray_toList]
  exact hS
/-- sorted(d.keys()), texts -/
def tSortKeys (te : TE) : TE := fun σ H Q => te σ H fun x H1 => ∃ d kvs, x = .ref d ∧ Rd H1 d (.dK kvs) ∧ ∃ xs : List Str, (kvs.map fun q => kV q.1) = xs.map V.str ∧ ∀ p, H1 p = none → Q (.ref p) (upd H1 p (.lst ((srt xs).map V.str)))
theorem pe_sortKeys (hc : X.calm = true) (he : PE X e te) (hg : Gl X "sorted") (hm : X.mg "sorted" = none) (hbase : attributeBase e "keys" X.env (eval e X.env) = eval e X.env := by rfl) (hline : (apos.endLine == cpos.line) = true := by rfl)
    (hs : starEach [.Call (.Attribute e "keys" apos) [] [] cpos] X.env = (false, eval (.Call (.Attribute e "keys" apos) [] [] cpos) X.env) :: starEach [] X.env := by rfl) :
    PE X (.Call (.Name "sorted" p) [.Call (.Attribute e "keys" apos) [] [] cpos] [] pos) (tSortKeys te) := by
  refine ⟨fun pins s σ H Q I hq => ?_⟩
  refine wpAny_Call_Name_kw (ld_blt I hg hm boot_sorted ?_)
  refine PyProof.Rows.callWith_builtin1 (PyProof.Rows.args_cons (thn (keys_view (f := .builtin "sorted") he I hq hbase hline fun v s1 H1 r I1 => ?_) fun v s' z => PyProof.Rows.args_nil z) hs) hs rfl
  obtain ⟨d, kvs, rfl, hd, xs, ex, q⟩ := r
  refine ⟨d, kvs, rfl, hd, fun vs ep kv hz s2 I2 hv hat => ?_⟩
  have lk : kvs.length = vs.length := Paired.length kv
  have hx : xs.length = kvs.length := by
    have := congrArg List.length ex
    simpa using this.symm
  refine sorted_src (xs := xs) (PySem.W.kdl_keys (knd := mixKind X.prog X.w) (kvs := vs) (ep := ep)) (I2.ok.hd hc) ⟨hv, hat⟩ (by rw [← lk]; exact hz) (fun acc hacc => ?_) fun h' tk s' out c k1 k2 g o hg2 hS => ?_
  · have r := keys_rel kv hacc
    rw [ex] at r
    exact r.strs
  have I3 : Inv X pins σ H1 { s2 with heap := h', toks := tk } := I2.kept k1
  have hn' : H1 h'.objs.size = none := I3.hok.fresh (Nat.le_refl _)
  have hlen : ((srt xs).map V.str).length ≤ sizeLine := by rw [List.length_map, (srt_perm xs).length_eq, hx]; exact hz
  have J : Inv X pins σ (upd H1 h'.objs.size (.lst ((srt xs).map V.str))) s' :=
    I3.call' (s' := s') (ch := []) o (Un.laid k2 (Nat.le_refl _) hn') (I3.hok.laid k2 (Nat.le_refl _) ⟨hlen, out.toList, c, vals_of_strs hS, hg2⟩) (by rw [g]; exact I3.bare) (fun _ z => nomatch z)
  exact ⟨.ref _, _, J, rfl, q _ hn'⟩
end
end DLS
set_option Elab.async false
set_option linter.all false
set_option maxRecDepth 100000
set_option maxHeartbeats 2000000
namespace DL
open PySem PySem.Spec L2

section
variable {X : Cx} {W : WX} {K : PySem.W.Frag} {Fr : Addr → Prop} {B : List (Nat × Addr)} {σ : St} {H H1 H2 : Hp} {ρ ρ1 ρ2 : Ev} {v : V} {d : D} {Q : VK}
/-! ### a new object of one's own -/
theorem own_new {o : OD} {p : Addr} {u : HO} {Q : VK} (R : Rep K Fr B σ H ρ) (hp : H p = none) (ow : Own K (upd H p u) p o) (k : Ok K W Fr B σ (relN K Fr σ) Q H (.val o ρ)) : Q (.ref p) (upd H p u) :=
  k _ _ (Step.new R hp) (R.new hp) ⟨p, rfl, ow, R.fresh hp⟩
theorem own_lst {p : Addr} {vs : List V} {xs : List D} (hp : H p = none) (r : DatL K H vs xs) : Own K (upd H p (.lst vs)) p (.l xs) := ⟨vs, upd_same, r.mono (Mono.new hp)⟩
theorem own_dic {p : Addr} {vs : List (Key × V)} {xs : List (Key × D)} (hp : H p = none) (r : DatK K H vs xs) : Own K (upd H p (.dK vs)) p (.d xs) := ⟨vs, upd_same, r.mono (Mono.new hp)⟩

/-! ### argument lists, displays -/
def nilL : Ev → Out (List D) := fun ρ => .val [] ρ
def consL (f : Ev → Out D) (g : Ev → Out (List D)) : Ev → Out (List D) := fun ρ => (f ρ).bind fun d ρ1 => (g ρ1).bind fun ds ρ2 => .val (d :: ds) ρ2
theorem dl_nil : DL_ X W [] nilL := ⟨tNil, pa_nil, fun Fr B σ H ρ Q R k => k [] H Step.refl R .nil⟩
theorem dl_cons {e : Expr} {es : List Expr} {f : Ev → Out D} {g : Ev → Out (List D)} (ha : DE X W e f) (hr : DL_ X W es g) (hs : starEach (e :: es) X.env = (false, eval e X.env) :: starEach es X.env := by rfl) : DL_ X W (e :: es) (consL f g) := by
  obtain ⟨t, p, s⟩ := ha.ex
  obtain ⟨t', p', s'⟩ := hr.ex
  refine ⟨_, pa_cons p p' hs, fun Fr B σ H ρ Q R k => s Fr B σ H ρ _ R (Ok.bind k fun v H1 d ρ1 st R1 r1 k => s' Fr B σ H1 ρ1 _ R1 (Ok.bind k fun vs H2 ds ρ2 st2 R2 r2 k => ?_))⟩
  exact k _ H2 Step.refl R2 (.cons (Dat.mono st2.mono r1) r2)
def lstN (f : Ev → Out (List D)) : Ev → Out OD := fun ρ => (f ρ).bind fun ds ρ1 => if ds.length ≤ sizeLine then .val (.l ds) ρ1 else .bad
theorem dn_lst {es : List Expr} {f : Ev → Out (List D)} {pos : Pos} (h : DL_ X W es f) : DN X W (.List es pos) (lstN f) := by
  obtain ⟨t, p, s⟩ := h.ex
  refine ⟨_, pe_lst p, fun Fr B σ H ρ Q R k => s Fr B σ H ρ _ R (Ok.bind k fun vs H1 ds ρ1 st R1 r1 k => ?_)⟩
  by_cases hz : ds.length ≤ sizeLine
  · rw [if_pos hz] at k
    have r1' : DatL X.K H1 vs ds := r1
    exact ⟨by rw [r1'.length]; exact hz, fun p hp => own_new R1 hp (own_lst hp r1') k⟩
  · rw [if_neg hz] at k; exact False.elim k
def tupE (f : Ev → Out (List D)) : Ev → Out D := fun ρ => (f ρ).bind fun ds ρ1 => if ds.length ≤ sizeLine then .val (.tup ds) ρ1 else .bad
def tTupP (t : TA) : TE := fun σ H Q => t σ H fun xs H1 => xs.length ≤ sizeLine ∧ rNewT xs H1 Q
theorem pe_tupP {es : List Expr} {t : TA} {x1} {pos : Pos} (h : PA X es t) : PE X (.Tuple es x1 pos) (tTupP t) := by
  refine ⟨fun pins s σ H Q I hq => ?_⟩
  refine wpAny_Tuple_spliced (thn (h.run pos pins s σ H _ I hq) fun us s1 ⟨xs, H1, I1, r, z, q⟩ => ⟨by rw [← r.length]; exact z, ?_⟩)
  exact ⟨.ref s1.heap.objs.size, _, Inv.tupP (tk := s1.toks) I1 r z, rfl, q _ _ I1.fresh rfl⟩
theorem de_tup {es : List Expr} {f : Ev → Out (List D)} {x1} {pos : Pos} (h : DL_ X W es f) : DE X W (.Tuple es x1 pos) (tupE f) := by
  obtain ⟨t, p, s⟩ := h.ex
  refine ⟨_, pe_tupP p, fun Fr B σ H ρ Q R k => s Fr B σ H ρ _ R (Ok.bind k fun vs H1 ds ρ1 st R1 r1 k => ?_)⟩
  by_cases hz : ds.length ≤ sizeLine
  · rw [if_pos hz] at k
    have r1' : DatL X.K H1 vs ds := r1
    exact ⟨by rw [r1'.length]; exact hz, fun p o hp hd => k _ _ (Step.new R1 hp) (R1.new hp) (dat_tup_new hp hd r1')⟩
  · rw [if_neg hz] at k; exact False.elim k
/-- {} -/
def dicN0 : Ev → Out OD := fun ρ => .val (.d []) ρ
theorem dn_dic0 {pos : Pos} : DN X W (.Dict [] [] pos) dicN0 := ⟨_, pe_dnewK, fun Fr B σ H ρ Q R k p hp => own_new R hp (own_dic hp .nil) k⟩

/-! ### one operand -/
def onOne {α : Type} (op : D → Option α) (ρ : Ev) : Option D → Out α
  | some x => ofO (op x) ρ
  | none => .bad
def unF {α : Type} (op : D → Option α) (f : Ev → Out RV) : Ev → Out α := fun ρ => (f ρ).bind fun a ρ1 => onOne op ρ1 (look ρ1 a)
/-- a one-place reading gives op's datum -/
structure UnOk (K : PySem.W.Frag) (r : V → Hp → VK → Prop) (op : D → Option D) : Prop where
  run : ∀ {Fr : Addr → Prop} {B : List (Nat × Addr)} {σ : St} {H : Hp} {ρ : Ev} {x : V} {a d : D} {Q : VK}, Rep K Fr B σ H ρ → View K H x a → op a = some d → (∀ v H', Step Fr H H' → Rep K Fr B σ H' ρ → Dat K H' v d → Q v H') → r x H Q
/-- .. op's new object -/
structure UnNew (K : PySem.W.Frag) (r : V → Hp → VK → Prop) (op : D → Option OD) : Prop where
  run : ∀ {Fr : Addr → Prop} {B : List (Nat × Addr)} {σ : St} {H : Hp} {ρ : Ev} {x : V} {a : D} {o : OD} {Q : VK}, Rep K Fr B σ H ρ → View K H x a → op a = some o → (∀ v H', Step Fr H H' → Rep K Fr B σ H' ρ → relN K Fr σ o ρ v H' → Q v H') → r x H Q
theorem UnOk.or {r r' : V → Hp → VK → Prop} {p q : D → Option D} (h : UnOk K r p) (h' : UnOk K r' q) : UnOk K (fun x H Q => r x H Q ∨ r' x H Q) (fun a => (p a).orElse fun _ => q a) := ⟨fun {Fr B σ H ρ x a d Q} R va e k => by
  cases z : p a with
  | some d' => rw [z] at e; cases e; exact .inl (h.run R va z k)
  | none => rw [z] at e; exact .inr (h'.run R va e k)⟩
theorem UnNew.or {r r' : V → Hp → VK → Prop} {p q : D → Option OD} (h : UnNew K r p) (h' : UnNew K r' q) : UnNew K (fun x H Q => r x H Q ∨ r' x H Q) (fun a => (p a).orElse fun _ => q a) := ⟨fun {Fr B σ H ρ x a d Q} R va e k => by
  cases z : p a with
  | some d' => rw [z] at e; cases e; exact .inl (h.run R va z k)
  | none => rw [z] at e; exact .inr (h'.run R va e k)⟩
theorem onOne_inv {α ν : Type} {rel : Rel α ν} {op : D → Option α} {x : Option D} {Q : ν → Hp → Prop} (k : Ok K W Fr B σ rel Q H (onOne op ρ x)) : ∃ a d, x = some a ∧ op a = some d ∧ Ok K W Fr B σ rel Q H (.val d ρ) := by
  cases x with
  | none => exact False.elim k
  | some a =>
    cases e : op a with
    | none =>
      replace k : Ok K W Fr B σ rel Q H (ofO (op a) ρ) := k
      rw [e] at k; exact False.elim k
    | some d =>
      replace k : Ok K W Fr B σ rel Q H (ofO (op a) ρ) := k
      rw [e] at k; exact ⟨a, d, rfl, e, k⟩
/-- f(a), f built in: what its reading asks of the one value -/
def rOne (r : V → Hp → VK → Prop) : List V → Hp → VK → Prop := fun xs H Q => ∃ x, xs = [x] ∧ r x H Q
abbrev tOne (r : V → Hp → VK → Prop) (ta : TE) : TE := tCB (rOne r) (tCons ta tNil)
theorem sem_one {r : V → Hp → VK → Prop} {op : D → Option D} (hu : UnOk X.K r op) {ta : TE} {f : Ev → Out RV} (sa : ∀ (Fr : Addr → Prop) (B : List (Nat × Addr)) (σ : St) (H : Hp) (ρ : Ev) (Q : VK), Rep X.K Fr B σ H ρ → Ok X.K W Fr B σ (relR X.K σ) Q H (f ρ) → ta σ H Q)
    (Fr : Addr → Prop) (B : List (Nat × Addr)) (σ : St) (H : Hp) (ρ : Ev) (Q : VK) (R : Rep X.K Fr B σ H ρ) (k : Ok X.K W Fr B σ (relE X.K) Q H (unF op f ρ)) : tOne r ta σ H Q := by
  refine sa Fr B σ H ρ _ R (Ok.bind k fun v H1 a ρ1 st R1 r1 k => ?_)
  obtain ⟨x, d, e1, e2, k⟩ := onOne_inv k
  exact ⟨v, rfl, hu.run R1 (view_now r1 R1 e1) e2 k⟩
theorem sem_oneN {r : V → Hp → VK → Prop} {op : D → Option OD} (hu : UnNew X.K r op) {ta : TE} {f : Ev → Out RV} (sa : ∀ (Fr : Addr → Prop) (B : List (Nat × Addr)) (σ : St) (H : Hp) (ρ : Ev) (Q : VK), Rep X.K Fr B σ H ρ → Ok X.K W Fr B σ (relR X.K σ) Q H (f ρ) → ta σ H Q)
    (Fr : Addr → Prop) (B : List (Nat × Addr)) (σ : St) (H : Hp) (ρ : Ev) (Q : VK) (R : Rep X.K Fr B σ H ρ) (k : Ok X.K W Fr B σ (relN X.K Fr σ) Q H (unF op f ρ)) : tOne r ta σ H Q := by
  refine sa Fr B σ H ρ _ R (Ok.bind k fun v H1 a ρ1 st R1 r1 k => ?_)
  obtain ⟨x, d, e1, e2, k⟩ := onOne_inv k
  exact ⟨v, rfl, hu.run R1 (view_now r1 R1 e1) e2 k⟩
theorem CallR.imp {f : Value} {r r' : List V → Hp → VK → Prop} (h : CallR X f r) (i : ∀ xs H Q, r' xs H Q → r xs H Q) : CallR X f r' := fun pins s σ H xs us Q I rv q => h pins s σ H xs us Q I rv (i xs H Q q)
theorem CallR.or1 {f : Value} {r r' : V → Hp → VK → Prop} (h : CallR X f (rOne r)) (h' : CallR X f (rOne r')) : CallR X f (rOne fun x H Q => r x H Q ∨ r' x H Q) := by
  intro pins s σ H xs us Q I rv q
  obtain ⟨x, e, q⟩ := q
  rcases q with q | q
  · exact h pins s σ H xs us Q I rv ⟨x, e, q⟩
  · exact h' pins s σ H xs us Q I rv ⟨x, e, q⟩
section
variable {e : Expr} {f : Ev → Out RV} {x : Str} {p pos : Pos} {id T : String} {r : V → Hp → VK → Prop}
theorem de_callB {op : D → Option D} (hc : CallR X (.builtin id) (rOne r)) (hu : UnOk X.K r op) (hg : Gl X x) (hm : X.mg x = none) (hv : bootBuiltins x = some (.builtin id)) (ha : DR X W e f) (hn : x ≠ "__name__" := by decide) (hdb : (x == ("__debug__" : Str)) = false := by decide)
    (he : starEach [e] X.env = (false, eval e X.env) :: starEach [] X.env := by rfl) (hpl : (backTo pos (starEach [] X.env)).any (·.1) = false := by rfl) : DE X W (.Call (.Name x p) [e] [] pos) (unF op f) := by
  obtain ⟨t, pa, s⟩ := ha.ex
  exact ⟨_, pe_callB hc hg hm hv (pa_cons pa pa_nil he) hn hdb he hpl, sem_one hu s⟩
theorem dn_callB {op : D → Option OD} (hc : CallR X (.builtin id) (rOne r)) (hu : UnNew X.K r op) (hg : Gl X x) (hm : X.mg x = none) (hv : bootBuiltins x = some (.builtin id)) (ha : DR X W e f) (hn : x ≠ "__name__" := by decide) (hdb : (x == ("__debug__" : Str)) = false := by decide)
    (he : starEach [e] X.env = (false, eval e X.env) :: starEach [] X.env := by rfl) (hpl : (backTo pos (starEach [] X.env)).any (·.1) = false := by rfl) : DN X W (.Call (.Name x p) [e] [] pos) (unF op f) := by
  obtain ⟨t, pa, s⟩ := ha.ex
  exact ⟨_, pe_callB hc hg hm hv (pa_cons pa pa_nil he) hn hdb he hpl, sem_oneN hu s⟩
theorem de_callT {op : D → Option D} (hc : CallR X (.type T) (rOne r)) (hu : UnOk X.K r op) (hg : Gl X x) (hm : X.mg x = none) (hv : bootBuiltins x = some (.type T)) (ha : DR X W e f) (hn : x ≠ "__name__" := by decide) (hdb : (x == ("__debug__" : Str)) = false := by decide)
    (he : starEach [e] X.env = (false, eval e X.env) :: starEach [] X.env := by rfl) (hpl : (backTo pos (starEach [] X.env)).any (·.1) = false := by rfl) : DE X W (.Call (.Name x p) [e] [] pos) (unF op f) := by
  obtain ⟨t, pa, s⟩ := ha.ex
  exact ⟨_, pe_callTy hc hg hm hv (pa_cons pa pa_nil he) hn hdb he hpl, sem_one hu s⟩
theorem dn_callT {op : D → Option OD} (hc : CallR X (.type T) (rOne r)) (hu : UnNew X.K r op) (hg : Gl X x) (hm : X.mg x = none) (hv : bootBuiltins x = some (.type T)) (ha : DR X W e f) (hn : x ≠ "__name__" := by decide) (hdb : (x == ("__debug__" : Str)) = false := by decide)
    (he : starEach [e] X.env = (false, eval e X.env) :: starEach [] X.env := by rfl) (hpl : (backTo pos (starEach [] X.env)).any (·.1) = false := by rfl) : DN X W (.Call (.Name x p) [e] [] pos) (unF op f) := by
  obtain ⟨t, pa, s⟩ := ha.ex
  exact ⟨_, pe_callTy hc hg hm hv (pa_cons pa pa_nil he) hn hdb he hpl, sem_oneN hu s⟩
end

/-! ### len, all, any, abs, sum -/
def lenD : D → Option D
  | .lst xs => some (.int xs.length)
  | .tup xs => some (.int xs.length)
  | .str x => if x.length ≤ sizeLine then some (.int x.length) else none
  | .dic xs => some (.int xs.length)
  | _ => none
def rLenD (K : PySem.W.Frag) : V → Hp → VK → Prop := fun x H Q => (∃ p ys, x = .ref p ∧ (SqL K H p ys ∨ SqT K H p ys) ∧ Q (.int ys.length) H) ∨ (∃ z, x = .str z ∧ z.length ≤ sizeLine ∧ Q (.int z.length) H) ∨ ∃ p kvs, x = .ref p ∧ Rd H p (.dK kvs) ∧ Q (.int kvs.length) H
theorem call_lenR : CallR X (.builtin "len") (rOne (rLenD X.K)) := by
  intro pins s σ H xs us Q I rv q
  obtain ⟨x, rfl, q⟩ := q
  rcases q with ⟨p, ys, rfl, h, q⟩ | ⟨z, rfl, h, q⟩ | ⟨p, kvs, rfl, h, q⟩
  · exact call_len_seq pins s σ H _ us Q I rv ⟨p, ys, rfl, h, q⟩
  · exact call_len_str pins s σ H _ us Q I rv ⟨z, rfl, h, q⟩
  · obtain ⟨u, rfl, rx⟩ := Vals.one rv
    cases rx
    exact d_len I h fun t s' I' => ⟨.int kvs.length, H, I', ⟨t, rfl⟩, q⟩
theorem ok_len : UnOk K (rLenD K) lenD := ⟨fun {Fr B σ H ρ x a d Q} R va e k => by
  unfold lenD at e
  split at e
  · cases e
    obtain ⟨p, vs, rfl, h, r⟩ := va.lst
    exact .inl ⟨p, vs, rfl, .inl h, by rw [r.length]; exact k _ H Step.refl R .int⟩
  · cases e
    obtain ⟨p, vs, rfl, h, r⟩ := va.tup
    exact .inl ⟨p, vs, rfl, .inr h.sq, by rw [r.length]; exact k _ H Step.refl R .int⟩
  · split at e
    · cases e
      rw [va.str]
      exact .inr (.inl ⟨_, rfl, by assumption, k _ H Step.refl R .int⟩)
    · cases e
  · cases e
    obtain ⟨p, vs, rfl, h, r⟩ := va.dic
    exact .inr (.inr ⟨p, vs, rfl, h, by rw [r.length]; exact k _ H Step.refl R .int⟩)
  · cases e⟩
def toBls : List D → Option (List Bool)
  | [] => some []
  | .bl b :: r => (toBls r).map (b :: ·)
  | _ => none
def toInts : List D → Option (List Int)
  | [] => some []
  | .int b :: r => (toInts r).map (b :: ·)
  | _ => none
def toStrs : List D → Option (List Str)
  | [] => some []
  | .str b :: r => (toStrs r).map (b :: ·)
  | _ => none
theorem toBls_eq : ∀ {ds : List D} {bs : List Bool}, toBls ds = some bs → ds = bs.map D.bl
  | [], bs, h => by cases h; rfl
  | d :: ds, bs, h => by
    cases d <;> first | (cases h; done) | skip
    rename_i b
    have h' : (toBls ds).map (b :: ·) = some bs := h
    cases e : toBls ds with
    | none => rw [e] at h'; cases h'
    | some cs => rw [e] at h'; cases h'; rw [toBls_eq e]; rfl
theorem toInts_eq : ∀ {ds : List D} {bs : List Int}, toInts ds = some bs → ds = bs.map D.int
  | [], bs, h => by cases h; rfl
  | d :: ds, bs, h => by
    cases d <;> first | (cases h; done) | skip
    rename_i b
    have h' : (toInts ds).map (b :: ·) = some bs := h
    cases e : toInts ds with
    | none => rw [e] at h'; cases h'
    | some cs => rw [e] at h'; cases h'; rw [toInts_eq e]; rfl
theorem toStrs_eq : ∀ {ds : List D} {bs : List Str}, toStrs ds = some bs → ds = bs.map D.str
  | [], bs, h => by cases h; rfl
  | d :: ds, bs, h => by
    cases d <;> first | (cases h; done) | skip
    rename_i b
    have h' : (toStrs ds).map (b :: ·) = some bs := h
    cases e : toStrs ds with
    | none => rw [e] at h'; cases h'
    | some cs => rw [e] at h'; cases h'; rw [toStrs_eq e]; rfl
theorem toBls_map : ∀ bs : List Bool, toBls (bs.map D.bl) = some bs
  | [] => rfl
  | b :: r => by show (toBls (r.map D.bl)).map (b :: ·) = _; rw [toBls_map r]; rfl
theorem toInts_map : ∀ bs : List Int, toInts (bs.map D.int) = some bs
  | [] => rfl
  | b :: r => by show (toInts (r.map D.int)).map (b :: ·) = _; rw [toInts_map r]; rfl
theorem toStrs_map : ∀ bs : List Str, toStrs (bs.map D.str) = some bs
  | [] => rfl
  | b :: r => by show (toStrs (r.map D.str)).map (b :: ·) = _; rw [toStrs_map r]; rfl
def allD : D → Option D
  | .lst xs => (toBls xs).map fun bs => .bl (bs.all id)
  | _ => none
def anyD : D → Option D
  | .lst xs => (toBls xs).map fun bs => .bl (bs.any id)
  | _ => none
def rLB (K : PySem.W.Frag) (g : List Bool → Bool) : V → Hp → VK → Prop := fun x H Q => ∃ (a : Addr) (bs : List Bool), x = V.ref a ∧ SqL K H a (bs.map V.bl) ∧ Q (.bl (g bs)) H
theorem call_allR (hc : X.calm = true) : CallR X (.builtin "all") (rOne (rLB X.K fun bs => bs.all id)) := CallR.imp (cr_all hc) fun xs H Q ⟨x, e, a, bs, e2, h, q⟩ => ⟨a, bs, by rw [e, e2], h, q⟩
theorem call_anyR (hc : X.calm = true) : CallR X (.builtin "any") (rOne (rLB X.K fun bs => bs.any id)) := CallR.imp (cr_any hc) fun xs H Q ⟨x, e, a, bs, e2, h, q⟩ => ⟨a, bs, by rw [e, e2], h, q⟩
theorem ok_lb {g : List Bool → Bool} {op : D → Option D} (ho : ∀ a d, op a = some d → ∃ xs bs, a = .lst xs ∧ toBls xs = some bs ∧ d = .bl (g bs)) : UnOk K (rLB K g) op := ⟨fun {Fr B σ H ρ x a d Q} R va e k => by
  obtain ⟨xs, bs, rfl, e1, rfl⟩ := ho a d e
  rw [toBls_eq e1] at va
  obtain ⟨p, vs, rfl, h, r⟩ := va.lst
  rw [r.ofBls] at h
  exact ⟨p, bs, rfl, h, k _ H Step.refl R .bl⟩⟩
theorem ok_all : UnOk K (rLB K fun bs => bs.all id) allD := ok_lb fun a d e => by
  unfold allD at e
  split at e
  · rename_i xs
    cases q : toBls xs with
    | none => rw [q] at e; cases e
    | some bs => rw [q] at e; cases e; exact ⟨xs, bs, rfl, q, rfl⟩
  · cases e
theorem ok_any : UnOk K (rLB K fun bs => bs.any id) anyD := ok_lb fun a d e => by
  unfold anyD at e
  split at e
  · rename_i xs
    cases q : toBls xs with
    | none => rw [q] at e; cases e
    | some bs => rw [q] at e; cases e; exact ⟨xs, bs, rfl, q, rfl⟩
  · cases e
def sumD : D → Option D
  | .lst xs => (toInts xs).map fun bs => .int bs.sum
  | _ => none
def rSumD (K : PySem.W.Frag) : V → Hp → VK → Prop := fun x H Q => ∃ (a : Addr) (bs : List Int), x = V.ref a ∧ SqL K H a (bs.map V.int) ∧ Q (.int bs.sum) H
theorem call_sumR (hc : X.calm = true) : CallR X (.builtin "sum") (rOne (rSumD X.K)) := CallR.imp (cr_sum hc) fun xs H Q ⟨x, e, a, bs, e2, h, q⟩ => ⟨a, bs, by rw [e, e2], h, q⟩
theorem ok_sum : UnOk K (rSumD K) sumD := ⟨fun {Fr B σ H ρ x a d Q} R va e k => by
  unfold sumD at e
  split at e
  · rename_i xs
    cases q : toInts xs with
    | none => rw [q] at e; cases e
    | some bs =>
      rw [q] at e; cases e
      rw [toInts_eq q] at va
      obtain ⟨p, vs, rfl, h, r⟩ := va.lst
      rw [r.ofInts] at h
      exact ⟨p, bs, rfl, h, k _ H Step.refl R .int⟩
  · cases e⟩
def absD : D → Option D
  | .int n => some (.int (if n < 0 then -n else n))
  | _ => none

/-! ### sorted, list, tuple, dict -/
/-- texts, rising -/
def sortD : D → Option OD
  | .lst xs => (toStrs xs).map fun ss => .l ((DLS.srt ss).map D.str)
  | _ => none
def rSortD (K : PySem.W.Frag) : V → Hp → VK → Prop := fun x H Q => ∃ (a : Addr) (xs : List Str), x = V.ref a ∧ SqL K H a (xs.map V.str) ∧ ∀ p, H p = none → Q (.ref p) (upd H p (.lst ((DLS.srt xs).map V.str)))
theorem call_sortR : CallR X (.builtin "sorted") (rOne (rSortD X.K)) := CallR.imp DLS.cr_sortT fun xs H Q ⟨x, e, a, bs, e2, h, q⟩ => ⟨a, bs, by rw [e, e2], h, q⟩
theorem ok_sort : UnNew K (rSortD K) sortD := ⟨fun {Fr B σ H ρ x a d Q} R va e k => by
  unfold sortD at e
  split at e
  · rename_i xs
    cases q : toStrs xs with
    | none => rw [q] at e; cases e
    | some ss =>
      rw [q] at e; cases e
      rw [toStrs_eq q] at va
      obtain ⟨p, vs, rfl, h, r⟩ := va.lst
      rw [r.ofStrs] at h
      exact ⟨p, ss, rfl, h, fun p hp => k _ _ (Step.new R hp) (R.new hp) ⟨p, rfl, own_lst hp (DatL.strs _), R.fresh hp⟩⟩
  · cases e⟩
/-- sorted(set(xs)) -/
def sortSetD : D → Option OD
  | .lst xs => (toStrs xs).bind fun ss => if ss.length < 4000 then some (.l ((DLS.srtSet ss).map D.str)) else none
  | _ => none
theorem dn_sortSet {a : Expr} {f : Ev → Out RV} {p p2 q pos : Pos} (hc : X.calm = true) (hg : Gl X "sorted") (hm : X.mg "sorted" = none) (hg2 : Gl X "set") (hm2 : X.mg "set" = none) (ha : DR X W a f)
    (na : starEach [a] X.env = (false, eval a X.env) :: starEach [] X.env := by rfl) : DN X W (.Call (.Name "sorted" p) [.Call (.Name "set" p2) [a] [] q] [] pos) (unF sortSetD f) := by
  obtain ⟨t, pa, s⟩ := ha.ex
  refine ⟨_, DLS.pe_sortSet hc hg hm hg2 hm2 pa na, fun Fr B σ H ρ Q R k => s Fr B σ H ρ _ R (Ok.bind k fun v H1 b ρ1 st R1 r1 k => ?_)⟩
  obtain ⟨x, d, e1, e2, k⟩ := onOne_inv k
  have va := view_now r1 R1 e1
  unfold sortSetD at e2
  split at e2
  · rename_i xs
    cases q : toStrs xs with
    | none => rw [q] at e2; cases e2
    | some ss =>
      rw [q] at e2
      replace e2 : (if ss.length < 4000 then some (OD.l ((DLS.srtSet ss).map D.str)) else none) = some d := e2
      split at e2
      · cases e2
        rw [toStrs_eq q] at va
        obtain ⟨l, vs, rfl, h, r⟩ := va.lst
        rw [r.ofStrs] at h
        exact ⟨l, ss, rfl, h, by assumption, fun p hp => own_new R1 hp (own_lst hp (DatL.strs _)) k⟩
      · cases e2
  · cases e2
/-- list of a list or tuple -/
def listD : D → Option OD
  | .lst xs => some (.l xs)
  | .tup xs => some (.l xs)
  | _ => none
def rListOf (K : PySem.W.Frag) : V → Hp → VK → Prop := fun x H Q => ∃ p ys, x = V.ref p ∧ (SqL K H p ys ∨ SqT K H p ys) ∧ ∀ l, H l = none → Q (.ref l) (upd H l (.lst ys))
theorem call_listR : CallR X (.type "list") (rOne (rListOf X.K)) := CallR.imp call_list_of fun xs H Q ⟨x, e, a, bs, e2, h, q⟩ => ⟨a, bs, by rw [e, e2], h, q⟩
theorem ok_list : UnNew K (rListOf K) listD := ⟨fun {Fr B σ H ρ x a d Q} R va e k => by
  unfold listD at e
  split at e
  · cases e
    obtain ⟨p, vs, rfl, h, r⟩ := va.lst
    exact ⟨p, vs, rfl, .inl h, fun p hp => k _ _ (Step.new R hp) (R.new hp) ⟨p, rfl, own_lst hp r, R.fresh hp⟩⟩
  · cases e
    obtain ⟨p, vs, rfl, h, r⟩ := va.tup
    exact ⟨p, vs, rfl, .inr h.sq, fun p hp => k _ _ (Step.new R hp) (R.new hp) ⟨p, rfl, own_lst hp r, R.fresh hp⟩⟩
  · cases e⟩
/-- tuple of a list or tuple -/
def tupD : D → Option D
  | .lst xs => some (.tup xs)
  | .tup xs => some (.tup xs)
  | _ => none
def rTupOf (K : PySem.W.Frag) : V → Hp → VK → Prop := fun x H Q => ∃ p ys, x = V.ref p ∧ ((SqL K H p ys ∧ rNewT ys H Q) ∨ (SqT K H p ys ∧ Q (.ref p) H))
theorem call_tupR : CallR X (.type "tuple") (rOne (rTupOf X.K)) := by
  intro pins s σ H xs us Q I r h
  obtain ⟨x, rfl, p, ys, rfl, h⟩ := h
  obtain ⟨u, rfl, rx⟩ := Vals.one r
  cases rx
  rcases h with ⟨hq, q⟩ | ⟨hq, q⟩
  · obtain ⟨its, r', pl, hz⟩ := I.list hq
    have hlen := r'.length
    refine _root_.PySem.call_tuple_list pl.isList (fun h' kp => ?_) (by simp only [List.size_toArray] <;> omega)
    have I1 : L2.Inv X pins σ H { s with heap := h' } := I.kept (t' := s.toks) kp
    exact ⟨.ref h'.objs.size, _, Inv.tupP (tk := s.toks) I1 r' hz, rfl, q _ _ (I1.hok.fresh (Nat.le_refl _)) rfl⟩
  · exact call_tuple_of pins s σ H _ _ Q I r ⟨p, ys, rfl, .inr ⟨hq, q⟩⟩
theorem ok_tup : UnOk K (rTupOf K) tupD := ⟨fun {Fr B σ H ρ x a d Q} R va e k => by
  unfold tupD at e
  split at e
  · cases e
    obtain ⟨p, vs, rfl, h, r⟩ := va.lst
    exact ⟨p, vs, rfl, .inl ⟨h, fun p o hp hd => k _ _ (Step.new R hp) (R.new hp) (dat_tup_new hp hd r)⟩⟩
  · cases e
    obtain ⟨p, vs, rfl, h, r⟩ := va.tup
    exact ⟨p, vs, rfl, .inr ⟨h.sq, k _ H Step.refl R (.tup h r)⟩⟩
  · cases e⟩
end
end DL
set_option Elab.async false
set_option linter.all false
set_option maxRecDepth 100000
set_option maxHeartbeats 2000000
namespace DL
open PySem PySem.Spec L2

/-! ### readings said by what the function says -/
def canE (K : PySem.W.Frag) (W : WX) (f : Ev → Out D) : TE := fun σ H Q => ∃ Fr B ρ, Rep K Fr B σ H ρ ∧ Ok K W Fr B σ (relE K) Q H (f ρ)
def canR (K : PySem.W.Frag) (W : WX) (f : Ev → Out RV) : TE := fun σ H Q => ∃ Fr B ρ, Rep K Fr B σ H ρ ∧ Ok K W Fr B σ (relR K σ) Q H (f ρ)
def canN (K : PySem.W.Frag) (W : WX) (f : Ev → Out OD) : TE := fun σ H Q => ∃ Fr B ρ, Rep K Fr B σ H ρ ∧ Ok K W Fr B σ (relN K Fr σ) Q H (f ρ)
def canT (K : PySem.W.Frag) (W : WX) (f : Ev → Out Bool) : TT := fun σ H Q => ∃ Fr B ρ, Rep K Fr B σ H ρ ∧ Ok K W Fr B σ relT Q H (f ρ)
section
variable {X : Cx} {W : WX} {K : PySem.W.Frag}
theorem peImp {e : Expr} {t t' : TE} (h : PE X e t) (i : ∀ σ H Q, t' σ H Q → t σ H Q) : PE X e t' := ⟨fun pins s σ H Q I k => h.run pins s σ H Q I (i _ _ _ k)⟩
theorem peOr {e : Expr} {t t' : TE} (h : PE X e t) (h' : PE X e t') : PE X e (fun σ H Q => t σ H Q ∨ t' σ H Q) := ⟨fun pins s σ H Q I k => k.elim (h.run pins s σ H Q I) (h'.run pins s σ H Q I)⟩
theorem ptImp {e : Expr} {t t' : TT} (h : PT X e t) (i : ∀ σ H Q, t' σ H Q → t σ H Q) : PT X e t' := ⟨fun pins s σ H Q I k => h.run pins s σ H Q I (i _ _ _ k)⟩
theorem psImp {e : Stmt} {t t' : TS} (h : PS X e t) (i : ∀ σ H Q, t' σ H Q → t σ H Q) : PS X e t' := ⟨fun pins s σ H Q I k => h.run pins s σ H Q I (i _ _ _ k)⟩
theorem psOr {e : Stmt} {t t' : TS} (h : PS X e t) (h' : PS X e t') : PS X e (fun D σ H => t D σ H ∨ t' D σ H) := ⟨fun pins s σ H D I k => k.elim (h.run pins s σ H D I) (h'.run pins s σ H D I)⟩
theorem pssImp {e : List Stmt} {t t' : TS} (h : PSs X e t) (i : ∀ σ H Q, t' σ H Q → t σ H Q) : PSs X e t' := ⟨fun pins s σ H Q I k => h.run pins s σ H Q I (i _ _ _ k)⟩
theorem piImp {tg e : Expr} {t t' : TI} (h : PI X tg e t) (i : ∀ σ H R, t' σ H R → t σ H R) : PI X tg e t' := ⟨fun pins s σ H R I k => h.run pins s σ H R I (i _ _ _ k)⟩
theorem piOr {tg e : Expr} {t t' : TI} (h : PI X tg e t) (h' : PI X tg e t') : PI X tg e (fun σ H R => t σ H R ∨ t' σ H R) := ⟨fun pins s σ H R I k => k.elim (h.run pins s σ H R I) (h'.run pins s σ H R I)⟩
theorem pgImp {e : Expr} {t t' : TG} (h : PG X e t) (i : ∀ v σ H Q, t' v σ H Q → t v σ H Q) : PG X e t' := ⟨fun pins s σ H v u Q I r k => h.run pins s σ H v u Q I r (i _ _ _ _ k)⟩
theorem DE.can {e : Expr} {f : Ev → Out D} (h : DE X W e f) : PE X e (canE X.K W f) := by obtain ⟨t, p, s⟩ := h.ex; exact peImp p fun σ H Q ⟨Fr, B, ρ, R, k⟩ => s Fr B σ H ρ Q R k
theorem DR.can {e : Expr} {f : Ev → Out RV} (h : DR X W e f) : PE X e (canR X.K W f) := by obtain ⟨t, p, s⟩ := h.ex; exact peImp p fun σ H Q ⟨Fr, B, ρ, R, k⟩ => s Fr B σ H ρ Q R k
theorem DN.can {e : Expr} {f : Ev → Out OD} (h : DN X W e f) : PE X e (canN X.K W f) := by obtain ⟨t, p, s⟩ := h.ex; exact peImp p fun σ H Q ⟨Fr, B, ρ, R, k⟩ => s Fr B σ H ρ Q R k
theorem DT.can {e : Expr} {f : Ev → Out Bool} (h : DT X W e f) : PT X e (canT X.K W f) := by obtain ⟨t, p, s⟩ := h.ex; exact ptImp p fun σ H Q ⟨Fr, B, ρ, R, k⟩ => s Fr B σ H ρ Q R k
theorem DE.of {e : Expr} {f : Ev → Out D} (h : PE X e (canE X.K W f)) : DE X W e f := ⟨_, h, fun Fr B σ H ρ Q R k => ⟨Fr, B, ρ, R, k⟩⟩
theorem DN.of {e : Expr} {f : Ev → Out OD} (h : PE X e (canN X.K W f)) : DN X W e f := ⟨_, h, fun Fr B σ H ρ Q R k => ⟨Fr, B, ρ, R, k⟩⟩
end

/-! ### statements -/
inductive SOut where
  | nx (ρ : Ev)
  | rt (d : D) (ρ : Ev)
  | exc (c : Str) (ρ : Ev)
  | bad
def OkS (K : PySem.W.Frag) (W : WX) (Fr : Addr → Prop) (B : List (Nat × Addr)) (E : Ends) (H : Hp) : SOut → Prop
  | .nx ρ' => ∀ σ' H', Step Fr H H' → Rep K Fr B σ' H' ρ' → E.nx σ' H'
  | .rt d ρ' => ∀ v σ' H', Step Fr H H' → Rep K Fr B σ' H' ρ' → Dat K H' v d → E.rt v H'
  | .exc c ρ' => ∀ σ' H', Step Fr H H' → Rep K Fr B σ' H' ρ' → W (.ref (He.ga K c)) none σ' H'
  | .bad => False
def bindS {α : Type} (m : Out α) (k : α → Ev → SOut) : SOut := match m with
  | .val a ρ => k a ρ
  | .exc c ρ => .exc c ρ
  | .bad => .bad
def thenS (m : SOut) (g : Ev → SOut) : SOut := match m with
  | .nx ρ => g ρ
  | .rt d ρ => .rt d ρ
  | .exc c ρ => .exc c ρ
  | .bad => .bad
def seqS (f g : Ev → SOut) : Ev → SOut := fun ρ => thenS (f ρ) g
def canS (K : PySem.W.Frag) (W : WX) (f : Ev → SOut) : TS := fun E σ H => ∃ Fr B ρ, Rep K Fr B σ H ρ ∧ OkS K W Fr B E H (f ρ)
structure DS (X : Cx) (W : WX) (st : Stmt) (f : Ev → SOut) : Prop where
  can : PS X st (canS X.K W f)
structure DSs (X : Cx) (W : WX) (st : List Stmt) (f : Ev → SOut) : Prop where
  can : PSs X st (canS X.K W f)
section
variable {α ν : Type} {X : Cx} {W : WX} {K : PySem.W.Frag} {Fr : Addr → Prop} {B : List (Nat × Addr)} {E E' : Ends} {σ : St} {H H1 : Hp} {ρ : Ev}
theorem OkS.later {o : SOut} (h : OkS K W Fr B E H o) (st : Step Fr H H1) : OkS K W Fr B E H1 o := by
  cases o with
  | nx ρ => exact fun σ' H' s R => h σ' H' (st.trans s) R
  | rt d ρ => exact fun v σ' H' s R r => h v σ' H' (st.trans s) R r
  | exc c ρ => exact fun σ' H' s R => h σ' H' (st.trans s) R
  | bad => exact h
theorem OkS.bind {o : Out α} {k : α → Ev → SOut} {rel : Rel α ν} {Q : ν → Hp → Prop} (h : OkS K W Fr B E H (bindS o k))
    (f : ∀ v H1 a ρ1, Step Fr H H1 → Rep K Fr B σ H1 ρ1 → rel a ρ1 v H1 → OkS K W Fr B E H1 (k a ρ1) → Q v H1) : Ok K W Fr B σ rel Q H o := by
  cases o with
  | val a ρ => exact fun v H' s R r => f v H' a ρ s R r (OkS.later h s)
  | exc c ρ => exact fun H' s R => h σ H' s R
  | bad => exact h
/-- .. the rest of the suite -/
theorem OkS.then {o : SOut} {g : Ev → SOut} {N : St → Hp → Prop} (h : OkS K W Fr B E H (thenS o g)) (f : ∀ σ' H1 ρ1, Step Fr H H1 → Rep K Fr B σ' H1 ρ1 → OkS K W Fr B E H1 (g ρ1) → N σ' H1) (C : St → Hp → Prop) (Bk : St → Hp → Prop) : OkS K W Fr B { nx := N, rt := E.rt, bk := Bk, ct := C } H o := by
  cases o with
  | nx ρ => exact fun σ' H' s R => f σ' H' ρ s R (OkS.later h s)
  | rt d ρ => exact h
  | exc c ρ => exact h
  | bad => exact h
/-- only the ends that a suite reaches count -/
theorem OkS.ends {o : SOut} (h : OkS K W Fr B E H o) (h1 : ∀ σ H, E.nx σ H → E'.nx σ H) (h2 : ∀ v H, E.rt v H → E'.rt v H) : OkS K W Fr B E' H o := by
  cases o with
  | nx ρ => exact fun σ' H' s R => h1 _ _ (h σ' H' s R)
  | rt d ρ => exact fun v σ' H' s R r => h2 _ _ (h v σ' H' s R r)
  | exc c ρ => exact h
  | bad => exact h

theorem dss_nil : DSs X W [] .nx := ⟨pssImp pss_nil fun E σ H ⟨Fr, B, ρ, R, k⟩ => k σ H Step.refl R⟩
theorem dss_cons {st : Stmt} {rest : List Stmt} {f g : Ev → SOut} (h : DS X W st f) (hr : DSs X W rest g) : DSs X W (st :: rest) (seqS f g) :=
  ⟨pssImp (pss_cons h.can hr.can) fun E σ H ⟨Fr, B, ρ, R, k⟩ => ⟨Fr, B, ρ, R, OkS.then k (fun σ' H1 ρ1 s R1 k1 => ⟨Fr, B, ρ1, R1, k1⟩) E.ct E.bk⟩⟩
theorem ds_pass {pos : Pos} : DS X W (.Pass pos) .nx := ⟨psImp ps_pass fun E σ H ⟨Fr, B, ρ, R, k⟩ => k σ H Step.refl R⟩
theorem ds_doc {x j pos pos'} : DS X W (.Expr (.Constant (.str x) j pos) pos') .nx := ⟨psImp ps_doc fun E σ H ⟨Fr, B, ρ, R, k⟩ => k σ H Step.refl R⟩
theorem ds_never {st : Stmt} : DS X W st fun _ => .bad := ⟨psImp ps_never fun E σ H ⟨Fr, B, ρ, R, k⟩ => k⟩
def exprS (f : Ev → Out D) : Ev → SOut := fun ρ => bindS (f ρ) fun _ ρ1 => .nx ρ1
theorem ds_expr {e : Expr} {f : Ev → Out D} {pos : Pos} (h : DE X W e f) (hs : swapsWith e none pos.line X.env = pure false := by rfl) : DS X W (.Expr e pos) (exprS f) :=
  ⟨psImp (ps_expr h.can hs) fun E σ H ⟨Fr, B, ρ, R, k⟩ => ⟨Fr, B, ρ, R, OkS.bind k fun v H1 a ρ1 s R1 r k => k σ H1 Step.refl R1⟩⟩
def retS (f : Ev → Out D) : Ev → SOut := fun ρ => bindS (f ρ) fun d ρ1 => .rt d ρ1
theorem ds_ret {e : Expr} {f : Ev → Out D} {pos : Pos} (h : DE X W e f) : DS X W (.Return (some e) pos) (retS f) :=
  ⟨psImp (ps_ret h.can) fun E σ H ⟨Fr, B, ρ, R, k⟩ => ⟨Fr, B, ρ, R, OkS.bind k fun v H1 a ρ1 s R1 r k => k v σ H1 Step.refl R1 r⟩⟩
theorem ds_retN {pos : Pos} : DS X W (.Return none pos) (fun ρ => .rt .non ρ) := ⟨psImp ps_retN fun E σ H ⟨Fr, B, ρ, R, k⟩ => k .non σ H Step.refl R .non⟩
def ifS (c : Ev → Out Bool) (p q : Ev → SOut) : Ev → SOut := fun ρ => bindS (c ρ) fun b ρ1 => if b = true then p ρ1 else q ρ1
theorem ds_if {c : Expr} {a b : List Stmt} {fc : Ev → Out Bool} {p q : Ev → SOut} {pos : Pos} (hc : DT X W c fc) (ha : DSs X W a p) (hb : DSs X W b q) : DS X W (.If c a b pos) (ifS fc p q) :=
  ⟨psImp (ps_if hc.can ha.can hb.can) fun E σ H ⟨Fr, B, ρ, R, k⟩ => ⟨Fr, B, ρ, R, OkS.bind k fun v H1 c ρ1 s R1 r k => by
    have r : v = c := r
    subst r
    cases v with
    | true => exact ⟨Fr, B, ρ1, R1, k⟩
    | false => exact ⟨Fr, B, ρ1, R1, k⟩⟩⟩

/-! ### stores -/
/-- what may not be told anew: a slot of what was handed in, or none -/
def isRef (ρ : Ev) (i : Nat) : Bool := match ρ[i]? with
  | some (.ow true _) => true
  | none => true
  | _ => false
theorem isRef_no {i : Nat} (h : isRef ρ i = false) : i < ρ.length ∧ ∀ o, ρ[i]? ≠ some (.ow true o) := by
  unfold isRef at h
  cases e : ρ[i]? with
  | none => rw [e] at h; cases h
  | some a =>
    refine ⟨(List.getElem?_eq_some_iff.mp e).1, fun o z => ?_⟩
    have e' : a = .ow true o := Option.some.inj z
    subst e'
    rw [e] at h; cases h
def putS (i : Nat) (a : AV) (ρ : Ev) : SOut := if isRef ρ i = true then .bad else .nx (ρ.set i a)
def setS (i : Nat) (f : Ev → Out D) : Ev → SOut := fun ρ => bindS (f ρ) fun d ρ1 => putS i (.fz d) ρ1
def setN (i : Nat) (f : Ev → Out OD) : Ev → SOut := fun ρ => bindS (f ρ) fun d ρ1 => putS i (.ow false d) ρ1
theorem putS_ok {i : Nat} {a : AV} {v : V} (k : OkS K W Fr B E H (putS i a ρ)) (R : Rep K Fr B σ H ρ) (s : SlotOk K H (some (some v)) a)
    (f : ∀ r o p, a = .ow r o → v = V.ref p → Fresh Fr σ ρ p) : E.nx (σ.set i (some v)) H := by
  unfold putS at k
  cases h : isRef ρ i with
  | true => rw [h] at k; exact False.elim k
  | false =>
    rw [h] at k
    obtain ⟨h1, h2⟩ := isRef_no h
    exact k _ H Step.refl (R.put h1 h2 s f)
section
variable {i : Nat} {x : Str} {e : Expr} {pos pos' : Pos}
theorem ds_set {f : Ev → Out D} (hN : X.N.Nodup) (hi : X.N[i]? = some x) (hx : Loc X.env.scope x) (h : DE X W e f) (hf : X.fn x = true ∨ X.env.scope.names.lookup x = some .local := by first | exact .inl rfl | exact .inr rfl | assumption) (hs : swapsWith e (some (.Name x pos')) pos.line X.env = pure false := by rfl) :
    DS X W (.Assign [.Name x pos'] e pos) (setS i f) :=
  ⟨psImp (ps_set hN hi hx h.can hs hf) fun E σ H ⟨Fr, B, ρ, R, k⟩ => ⟨Fr, B, ρ, R, OkS.bind k fun v H1 d ρ1 s R1 r k => putS_ok k R1 ⟨v, rfl, r⟩ (fun _ _ _ z => nomatch z)⟩⟩
theorem ds_setN {f : Ev → Out OD} (hN : X.N.Nodup) (hi : X.N[i]? = some x) (hx : Loc X.env.scope x) (h : DN X W e f) (hf : X.fn x = true ∨ X.env.scope.names.lookup x = some .local := by first | exact .inl rfl | exact .inr rfl | assumption) (hs : swapsWith e (some (.Name x pos')) pos.line X.env = pure false := by rfl) :
    DS X W (.Assign [.Name x pos'] e pos) (setN i f) :=
  ⟨psImp (ps_set hN hi hx h.can hs hf) fun E σ H ⟨Fr, B, ρ, R, k⟩ => ⟨Fr, B, ρ, R, OkS.bind k fun v H1 d ρ1 s R1 r k => by
    obtain ⟨p, rfl, ow, fr⟩ := r
    exact putS_ok k R1 ⟨p, rfl, ow⟩ (fun _ _ _ z e => by cases z; cases e; exact fr)⟩⟩
end

/-! ### targets -/
inductive Tg where
  | nm (i : Nat)
  | tp (is : List Nat)
def setAll : List Nat → List D → Ev → Option Ev
  | [], [], ρ => some ρ
  | i :: is, d :: ds, ρ => if isRef ρ i = true then none else setAll is ds (ρ.set i (.fz d))
  | _, _, _ => none
def Tg.put : Tg → D → Ev → Option Ev
  | .nm i, d, ρ => if isRef ρ i = true then none else some (ρ.set i (.fz d))
  | .tp is, .tup ds, ρ => setAll is ds ρ
  | _, _, _ => none
def Tg.slots : Tg → List Nat
  | .nm i => [i]
  | .tp is => is
def canG (K : PySem.W.Frag) (g : Tg) : TG := fun v σ H Q => ∃ Fr B ρ d ρ', Rep K Fr B σ H ρ ∧ Dat K H v d ∧ g.put d ρ = some ρ' ∧ ∀ σ', Rep K Fr B σ' H ρ' → (∀ vs, (∀ i ∈ g.slots, i ∈ vs) → wipe σ' vs = wipe σ vs) → Q σ' H
def canGs (K : PySem.W.Frag) (is : List Nat) : TGs := fun v σ H Q => ∃ Fr B ρ ds ρ', Rep K Fr B σ H ρ ∧ DatL K H v ds ∧ setAll is ds ρ = some ρ' ∧ ∀ σ', Rep K Fr B σ' H ρ' → (∀ vs, (∀ i ∈ is, i ∈ vs) → wipe σ' vs = wipe σ vs) → Q σ' H
structure DG (X : Cx) (tg : Expr) (g : Tg) : Prop where
  can : PG X tg (canG X.K g)
structure DGs (X : Cx) (tg : List Expr) (g : List Nat) : Prop where
  can : PGs X tg (canGs X.K g)
theorem wipe_set {i : Nat} {a : Option V} : ∀ {vs : List Nat} {σ : St}, i ∈ vs → wipe (σ.set i a) vs = wipe σ vs
  | v :: vs, σ, h => by
    show (wipe (σ.set i a) vs).set v none = (wipe σ vs).set v none
    by_cases z : i ∈ vs
    · rw [wipe_set z]
    · have e : v = i := by
        cases h with
        | head => rfl
        | tail _ h => exact absurd h z
      subst e
      have out : ∀ (vs : List Nat) (τ : St), v ∉ vs → wipe (τ.set v a) vs = (wipe τ vs).set v a := by
        intro vs
        induction vs with
        | nil => intro τ _; rfl
        | cons w ws ih =>
          intro τ hv
          show (wipe (τ.set v a) ws).set w none = ((wipe τ ws).set w none).set v a
          rw [ih τ (fun q => hv (.tail _ q)), List.set_comm]
          rintro rfl
          exact hv (.head _)
      rw [out vs σ z, List.set_set]
section
variable {i : Nat} {x : Str} {pos : Pos}
theorem put_name {d : D} {v : V} (R : Rep K Fr B σ H ρ) (r : Dat K H v d) (h : isRef ρ i = false) : Rep K Fr B (σ.set i (some v)) H (ρ.set i (.fz d)) := by
  obtain ⟨h1, h2⟩ := isRef_no h
  exact R.put h1 h2 ⟨v, rfl, r⟩ (fun _ _ _ z => nomatch z)
theorem dg_name (hN : X.N.Nodup) (hi : X.N[i]? = some x) (hx : Loc X.env.scope x) (hf : X.fn x = true ∨ X.env.scope.names.lookup x = some .local := by first | exact .inl rfl | exact .inr rfl | assumption) : DG X (.Name x pos) (.nm i) := by
  refine ⟨pgImp (pg_name hN hi hx hf) fun v σ H Q ⟨Fr, B, ρ, d, ρ', R, r, e, q⟩ => ?_⟩
  replace e : (if isRef ρ i = true then none else some (ρ.set i (.fz d))) = some ρ' := e
  cases h : isRef ρ i with
  | true => rw [h] at e; cases e
  | false =>
    rw [h] at e; cases e
    exact q _ (put_name R r h) fun vs hv => wipe_set (hv i (.head _))
theorem dgs_nil : DGs X [] [] := ⟨⟨fun pins s σ H vs us Q I r ⟨Fr, B, ρ, ds, ρ', R, rd, e, q⟩ => pgs_nil.run pins s σ H vs us Q I r (by
  cases rd with
  | nil => cases e; exact ⟨rfl, q σ R fun _ _ => rfl⟩
  | cons => cases e)⟩⟩
theorem dgs_cons {es : List Expr} {is : List Nat} (hN : X.N.Nodup) (hi : X.N[i]? = some x) (hx : Loc X.env.scope x) (hr : DGs X es is) (hf : X.fn x = true ∨ X.env.scope.names.lookup x = some .local := by first | exact .inl rfl | exact .inr rfl | assumption)
    (hs : (assignEach (.Name x pos :: es) X.env).map (·.2) = assign (.Name x pos) X.env :: (assignEach es X.env).map (·.2) := by rfl) : DGs X (.Name x pos :: es) (i :: is) := by
  refine ⟨⟨fun pins s σ H vs us Q I r ⟨Fr, B, ρ, ds, ρ', R, rd, e, q⟩ => (pgs_cons (pg_name hN hi hx hf) hr.can hs).run pins s σ H vs us Q I r ?_⟩⟩
  cases rd with
  | nil => cases e
  | @cons v d vs ds hd hr =>
    unfold setAll at e
    cases h : isRef ρ i with
    | true => rw [h] at e; cases e
    | false =>
      rw [h] at e
      refine ⟨v, vs, rfl, Fr, B, _, ds, ρ', put_name R hd h, hr, e, fun σ' R' hw => q σ' R' fun ws hs => ?_⟩
      rw [hw ws (fun j hj => hs j (.tail _ hj)), wipe_set (hs i (.head _))]
theorem dg_tup {es : List Expr} {is : List Nat} {k : Nat} (hc : X.calm = true) (h : DGs X es is) (hn : (assignEach es X.env).length = is.length := by rfl) (hst : (assignEach es X.env).findIdx? (·.1) = none := by rfl) : DG X (.Tuple es k pos) (.tp is) := by
  refine ⟨pgImp (pg_tup hc h.can hn hst) fun v σ H Q ⟨Fr, B, ρ, d, ρ', R, r, e, q⟩ => ?_⟩
  cases r with
  | @tup a vs xs hv rv =>
    refine ⟨a, vs, rfl, hv.sq, ?_, Fr, B, ρ, xs, ρ', R, rv, e, q⟩
    have len : ∀ (is : List Nat) (ds : List D) (ρ ρ' : Ev), setAll is ds ρ = some ρ' → ds.length = is.length := by
      intro is
      induction is with
      | nil => intro ds ρ ρ' e; cases ds with | nil => rfl | cons => cases e
      | cons i is ih =>
        intro ds ρ ρ' e
        cases ds with
        | nil => cases e
        | cons d ds =>
          unfold setAll at e
          split at e
          · cases e
          · exact congrArg Nat.succ (ih ds _ _ e)
    rw [rv.length, len is xs ρ ρ' e]
  | _ => cases e
def tgS (g : Tg) (f : Ev → Out D) : Ev → SOut := fun ρ => bindS (f ρ) fun d ρ1 => match g.put d ρ1 with
  | some ρ2 => .nx ρ2
  | none => .bad
theorem ds_tgt {tg e : Expr} {g : Tg} {f : Ev → Out D} (hg : DG X tg g) (h : DE X W e f) (hs : swapsWithSole [tg] e pos.line X.env = pure false := by rfl) (hw : swappedStores [tg] e X.env = pure none := by rfl)
    (h1 : (assignEach [tg] X.env).map (·.2) = [assign tg X.env] := by rfl) : DS X W (.Assign [tg] e pos) (tgS g f) :=
  ⟨psImp (ps_asg h.can hg.can hs hw h1) fun E σ H ⟨Fr, B, ρ, R, k⟩ => ⟨Fr, B, ρ, R, OkS.bind k fun v H1 d ρ1 s R1 r k => by
    cases e : g.put d ρ1 with
    | none => rw [e] at k; exact False.elim k
    | some ρ2 =>
      rw [e] at k
      exact ⟨Fr, B, ρ1, d, ρ2, R1, r, e, fun σ' R' _ => k σ' H1 Step.refl R'⟩⟩⟩
/-- a, b = x, y -/
def parS (i j : Nat) (f : Ev → Out (List D)) : Ev → SOut := fun ρ => bindS (f ρ) fun ds ρ1 => match ds with
  | [a, b] => if isRef ρ1 i = true then .bad else if isRef ρ1 j = true then .bad else .nx ((ρ1.set i (.fz a)).set j (.fz b))
  | _ => .bad
theorem ds_par {j : Nat} {y : Str} {a b : Expr} {f : Ev → Out (List D)} {px py pt : Pos} {kt k2 pt2} (hc : X.calm = true) (hN : X.N.Nodup) (hi : X.N[i]? = some x) (hj : X.N[j]? = some y) (hij : i ≠ j)
    (hx : X.env.scope.names.lookup x = some .local) (hy : X.env.scope.names.lookup y = some .local) (h : DL_ X W [a, b] f)
    (hw : swappedStores [.Tuple [.Name x px, .Name y py] kt pt] (.Tuple [a, b] k2 pt2) X.env = pure (some [x, y]) := by rfl)
    (hs : swapsWithSole [.Tuple [.Name x px, .Name y py] kt pt] (.Tuple [a, b] k2 pt2) pos.line X.env = pure false := by rfl) : DS X W (.Assign [.Tuple [.Name x px, .Name y py] kt pt] (.Tuple [a, b] k2 pt2) pos) (parS i j f) := by
  obtain ⟨t, p, s⟩ := h.ex
  refine ⟨psImp (ps_par hc hN hi hj hij hx hy p hw hs) fun E σ H ⟨Fr, B, ρ, R, k⟩ => s Fr B σ H ρ _ R (OkS.bind k fun vs H1 ds ρ1 st R1 r k => ?_)⟩
  cases r with
  | nil => exact False.elim k
  | cons r1 r =>
    cases r with
    | nil => exact False.elim k
    | cons r2 r =>
      cases r with
      | cons => exact False.elim k
      | nil =>
        rename_i d1 _ d2
        refine ⟨_, _, rfl, ?_⟩
        replace k : OkS X.K W Fr B E H1 (if isRef ρ1 i = true then .bad else if isRef ρ1 j = true then .bad else .nx ((ρ1.set i (.fz d1)).set j (.fz d2))) := k
        cases h1 : isRef ρ1 i with
        | true => rw [h1] at k; exact False.elim k
        | false =>
          cases h2 : isRef ρ1 j with
          | true => rw [h1, h2] at k; exact False.elim k
          | false =>
            rw [h1, h2] at k
            refine k _ H1 Step.refl (put_name (put_name R1 r1 h1) r2 ?_)
            unfold isRef at h2 ⊢
            rw [List.getElem?_set_ne hij]
            exact h2
end

/-! ### loops -/
def whileS : Nat → (Ev → Out Bool) → (Ev → SOut) → Ev → SOut
  | 0, _, _ => fun _ => .bad
  | n + 1, c, b => fun ρ => bindS (c ρ) fun t ρ1 => if t = true then thenS (b ρ1) (whileS n c b) else .nx ρ1
theorem ds_while {c : Expr} {body : List Stmt} {fc : Ev → Out Bool} {fb : Ev → SOut} {pos : Pos} (n : Nat) (hp : PassesOwn (model X.prog X.w) X.A X.env X.xe) (hc : DT X W c fc) (hb : DSs X W body fb) : DS X W (.While c body [] pos) (whileS n fc fb) := by
  refine ⟨psImp (ps_while hp hc.can hb.can) fun E σ H ⟨Fr, B, ρ, R, k⟩ => ?_⟩
  refine ⟨fun m σ' H' => ∃ ρ', Rep X.K Fr B σ' H' ρ' ∧ Step Fr H H' ∧ OkS X.K W Fr B E H' (whileS m fc fb ρ'), ⟨n, ρ, R, Step.refl, k⟩, ?_⟩
  rintro m σ1 H1 ⟨ρ1, R1, s1, k1⟩
  cases m with
  | zero => exact False.elim k1
  | succ m =>
    refine ⟨Fr, B, ρ1, R1, OkS.bind k1 fun v H2 t ρ2 st R2 r k => ?_⟩
    have r : v = t := r
    subst r
    cases v with
    | false => exact k σ1 H2 Step.refl R2
    | true =>
      refine ⟨fun σ' H' => ∃ ρ', Rep X.K Fr B σ' H' ρ' ∧ Step Fr H H' ∧ OkS X.K W Fr B E H' (whileS m fc fb ρ'), fun σ' H' w => ⟨m, Nat.lt_succ_self m, w⟩, Fr, B, ρ2, R2, ?_⟩
      exact OkS.then k (fun σ' H3 ρ3 st3 R3 k3 => ⟨ρ3, R3, (s1.trans st).trans st3, k3⟩) _ _

structure Walks (K : PySem.W.Frag) (J : It) (H : Hp) (ds : List D) : Prop where
  go : ∀ H', Mono H H' → ∀ i, i < ds.length → J.go i H'
  yld : ∀ H', Mono H H' → ∀ i x H'', i < ds.length → J.yld i H' x H'' → H'' = H' ∧ ∃ d, ds[i]? = some d ∧ Dat K H' x d
  stop : ∀ H', Mono H H' → J.stop ds.length H'
theorem Walks.mono {J : It} {ds : List D} (h : Walks K J H ds) (m : Mono H H1) : Walks K J H1 ds := ⟨fun H' q => h.go H' (m.trans q), fun H' q => h.yld H' (m.trans q), fun H' q => h.stop H' (m.trans q)⟩
def relI (K : PySem.W.Frag) : Rel (List D) It := fun ds _ J H => Walks K J H ds
def canI (K : PySem.W.Frag) (W : WX) (f : Ev → Out (List D)) : TI := fun σ H R => ∃ Fr B ρ, Rep K Fr B σ H ρ ∧ Ok K W Fr B σ (relI K) R H (f ρ)
structure DI (X : Cx) (W : WX) (tg it : Expr) (f : Ev → Out (List D)) : Prop where
  can : PI X tg it (canI X.K W f)
def forS (g : Tg) (b : Ev → SOut) : List D → Ev → SOut
  | [], ρ => .nx ρ
  | d :: ds, ρ => match g.put d ρ with
    | some ρ1 => thenS (b ρ1) (forS g b ds)
    | none => .bad
def forF (it : Ev → Out (List D)) (g : Tg) (b : Ev → SOut) : Ev → SOut := fun ρ => bindS (it ρ) fun ds ρ1 => forS g b ds ρ1
theorem drop_cons {α : Type} {l : List α} {i : Nat} {d : α} (h : l[i]? = some d) : l.drop i = d :: l.drop (i + 1) := by
  obtain ⟨h1, h2⟩ := List.getElem?_eq_some_iff.mp h
  rw [List.drop_eq_getElem_cons h1, h2]
theorem ds_for {tg iter : Expr} {body : List Stmt} {it : Ev → Out (List D)} {g : Tg} {fb : Ev → SOut} {pos : Pos} (hp : PassesOwn (model X.prog X.w) X.A X.env X.xe) (hc : X.calm = true) (hi : DI X W tg iter it) (hg : DG X tg g) (hb : DSs X W body fb)
    (hs : ∀ x, foldedSetIterable iter X.env x = pure x := by intro _; rfl) : DS X W (.For tg iter body [] pos) (forF it g fb) := by
  refine ⟨psImp (ps_for hp hc hi.can hg.can hb.can hs) fun E σ H ⟨Fr, B, ρ, R, k⟩ => ⟨Fr, B, ρ, R, OkS.bind k fun J H1 ds ρ1 st R1 wk k => ?_⟩⟩
  have wk : Walks X.K J H1 ds := wk
  refine ⟨fun i m σ' H' => m = ds.length - i ∧ i ≤ ds.length ∧ ∃ ρ', Rep X.K Fr B σ' H' ρ' ∧ Step Fr H1 H' ∧ OkS X.K W Fr B E H' (forS g fb (ds.drop i) ρ'), ⟨ds.length, by simp, Nat.zero_le _, ρ1, R1, Step.refl, k⟩, ?_⟩
  rintro i m σ2 H2 ⟨rfl, hi, ρ2, R2, s2, k2⟩
  by_cases hlt : i < ds.length
  · obtain ⟨d, hd⟩ : ∃ d, ds[i]? = some d := ⟨_, List.getElem?_eq_getElem hlt⟩
    refine .inr ⟨wk.go H2 s2.mono i hlt, fun σ' H' => i + 1 ≤ ds.length ∧ ∃ ρ', Rep X.K Fr B σ' H' ρ' ∧ Step Fr H1 H' ∧ OkS X.K W Fr B E H' (forS g fb (ds.drop (i + 1)) ρ'), fun σ' H' w => ⟨ds.length - (i + 1), by omega, rfl, w⟩, fun x H' y => ?_⟩
    obtain ⟨rfl, d', hd', r⟩ := wk.yld H2 s2.mono i x H' hlt y
    rw [hd] at hd'; cases hd'
    rw [drop_cons hd] at k2
    unfold forS at k2
    cases e : g.put d ρ2 with
    | none => rw [e] at k2; exact False.elim k2
    | some ρ3 =>
      rw [e] at k2
      refine ⟨Fr, B, ρ2, d, ρ3, R2, r, e, fun σ' R' _ => ⟨Fr, B, ρ3, R', ?_⟩⟩
      exact OkS.then k2 (fun σ' H3 ρ4 st3 R3 k3 => ⟨hlt, ρ4, R3, s2.trans st3, k3⟩) _ _
  · have e : i = ds.length := by omega
    subst e
    refine .inl ⟨wk.stop H2 s2.mono, ?_⟩
    rw [List.drop_eq_nil_of_le (Nat.le_refl _)] at k2
    exact k2 σ2 H2 Step.refl R2
end
end DL
set_option Elab.async false
set_option linter.all false
set_option maxRecDepth 100000
set_option maxHeartbeats 2000000
namespace DL
open PySem PySem.Spec L2

/-! ### what is walked -/
def keyD : Key → D
  | .inl i => .int i
  | .inr s => .str s
def itD : D → Option (List D)
  | .lst xs => some xs
  | .tup xs => some xs
  | .str z => some (z.cps.toList.map fun c => .str ⟨#[c]⟩)
  | .dic kvs => some (kvs.map fun kv => keyD kv.1)
  | _ => none
def itF (f : Ev → Out D) : Ev → Out (List D) := fun ρ => (f ρ).bind fun d ρ1 => ofO (itD d) ρ1
section
variable {X : Cx} {W : WX} {K : PySem.W.Frag} {Fr : Addr → Prop} {B : List (Nat × Addr)} {E : Ends} {σ : St} {H H1 : Hp} {ρ ρ1 : Ev}
theorem dat_key {k : Key} : Dat K H (kV k) (keyD k) := by
  cases k with
  | inl i => exact .int
  | inr s => exact .str
theorem DatK.get : ∀ {vs : List (Key × V)} {ds : List (Key × D)} {i : Nat} {k : Key} {v : V}, DatK K H vs ds → vs[i]? = some (k, v) → ∃ d, ds[i]? = some (k, d) ∧ Dat K H v d
  | _, _, _, _, _, .nil, e => by simp at e
  | _, _, 0, _, _, .cons h _, e => by
    simp at e
    obtain ⟨rfl, rfl⟩ := e
    exact ⟨_, rfl, h⟩
  | _, _, i + 1, _, _, .cons _ r, e => by
    obtain ⟨d, h1, h2⟩ := DatK.get (i := i) r (by simpa using e)
    exact ⟨d, by simpa using h1, h2⟩
theorem walks_lst {a : Addr} {vs : List V} {ds : List D} (h : LstP K H a vs) (r : DatL K H vs ds) : Walks K (Itl K a) H ds := by
  refine ⟨fun H' m i hi => ?_, fun H' m i x H'' hi y => ?_, fun H' m => ⟨vs, (h.mono m).sq, by rw [r.length]; exact Nat.le_refl _⟩⟩
  · have hi' : i < vs.length := by rw [r.length]; exact hi
    exact ⟨vs, vs[i], (h.mono m).sq, List.getElem?_eq_getElem hi'⟩
  · obtain ⟨e, y⟩ := y
    obtain ⟨d, h1, h2⟩ := r.get' (y vs (h.mono m).sq)
    exact ⟨e, d, h1, h2.mono m⟩
theorem walks_tup {a : Addr} {vs : List V} {ds : List D} (h : TupP K H a vs) (r : DatL K H vs ds) : Walks K (Itt K a) H ds := by
  refine ⟨fun H' m i hi => ?_, fun H' m i x H'' hi y => ?_, fun H' m => ⟨vs, (h.mono m).sq, by rw [r.length]; exact Nat.le_refl _⟩⟩
  · have hi' : i < vs.length := by rw [r.length]; exact hi
    exact ⟨vs, vs[i], (h.mono m).sq, List.getElem?_eq_getElem hi'⟩
  · obtain ⟨e, y⟩ := y
    obtain ⟨d, h1, h2⟩ := r.get' (y vs (h.mono m).sq)
    exact ⟨e, d, h1, h2.mono m⟩
theorem walks_str {z : Str} : Walks K (Its z) H (z.cps.toList.map fun c => .str ⟨#[c]⟩) := by
  refine ⟨fun H' m i hi => (by simpa using hi : i < z.cps.size), fun H' m i x H'' hi y => ?_, fun H' m => by simp [Its]⟩
  obtain ⟨e, c, hc, rfl⟩ := y
  refine ⟨e, .str ⟨#[c]⟩, ?_, .str⟩
  rw [List.getElem?_map, Array.getElem?_toList, hc]; rfl
theorem walks_dic {a : Addr} {o : Obj} {vs : List (Key × V)} {ds : List (Key × D)} (h : H a = some (.frz o (.dK vs))) (r : DatK K H vs ds) : Walks K (Itk a o vs) H (ds.map fun kv => keyD kv.1) := by
  have hl := r.length
  refine ⟨fun H' m i hi => ⟨m _ _ h True.intro, by rw [hl]; simpa using hi⟩, fun H' m i x H'' hi y => ?_, fun H' m => ⟨m _ _ h True.intro, by rw [hl]; simp⟩⟩
  obtain ⟨e, k, v, hk, rfl⟩ := y
  obtain ⟨d, h1, _⟩ := r.get hk
  refine ⟨e, keyD k, ?_, dat_key⟩
  rw [List.getElem?_map, h1]; rfl
theorem di_seq {tg e : Expr} {f : Ev → Out D} (h : DE X W e f) : DI X W tg e (itF f) := by
  refine ⟨piImp (piOr (pi_list h.can) (piOr (pi_tup h.can) (piOr (pi_str h.can) (pi_keys h.can)))) fun σ H Q ⟨Fr, B, ρ, R, k⟩ => ?_⟩
  unfold itF at k
  cases e : f ρ with
  | bad => rw [e] at k; exact False.elim k
  | exc c ρ' => rw [e] at k; exact .inl ⟨Fr, B, ρ, R, by rw [e]; exact k⟩
  | val d ρ' =>
    rw [e] at k
    cases d with
    | lst xs => exact .inl ⟨Fr, B, ρ, R, by
        rw [e]; intro v H' st R' r
        cases (show Dat _ _ _ _ from r) with
        | lst h' r' => exact ⟨_, rfl, ⟨_, h'.sq⟩, k _ H' st R' (walks_lst h' r')⟩⟩
    | tup xs => exact .inr (.inl ⟨Fr, B, ρ, R, by
        rw [e]; intro v H' st R' r
        cases (show Dat _ _ _ _ from r) with
        | tup h' r' => exact ⟨_, rfl, ⟨_, h'.sq⟩, k _ H' st R' (walks_tup h' r')⟩⟩)
    | str z => exact .inr (.inr (.inl ⟨Fr, B, ρ, R, by
        rw [e]; intro v H' st R' r
        cases (show Dat _ _ _ _ from r) with
        | str => exact ⟨_, rfl, k _ H' st R' walks_str⟩⟩))
    | dic kvs => exact .inr (.inr (.inr ⟨Fr, B, ρ, R, by
        rw [e]; intro v H' st R' r
        cases (show Dat _ _ _ _ from r) with
        | dic h' r' => exact ⟨_, _, rfl, .inl ⟨_, h', k _ H' st R' (walks_dic h' r')⟩⟩⟩))
    | _ => exact False.elim k
def keysF (f : Ev → Out D) : Ev → Out (List D) := fun ρ => (f ρ).bind fun d ρ1 => match d with
  | .dic kvs => .val (kvs.map fun kv => keyD kv.1) ρ1
  | _ => .bad
theorem di_keys {tg e : Expr} {f : Ev → Out D} {apos cpos : Pos} (h : DE X W e f) (hbase : attributeBase e "keys" X.env (eval e X.env) = eval e X.env := by rfl) (hline : (apos.endLine == cpos.line) = true := by rfl) : DI X W tg (.Call (.Attribute e "keys" apos) [] [] cpos) (keysF f) := by
  refine ⟨piImp (pi_keysM h.can hbase hline) fun σ H Q ⟨Fr, B, ρ, R, k⟩ => ⟨Fr, B, ρ, R, Ok.bind k fun v H1 d ρ1 st R1 r k => ?_⟩⟩
  cases (show Dat _ _ _ _ from r) with
  | dic h' r' => exact ⟨_, _, _, rfl, h', k _ H1 Step.refl R1 (walks_dic h' r')⟩
  | _ => exact False.elim k
def rangeD (lo : Int) (n : Nat) : List D := (List.range n).map fun (i : Nat) => D.int (lo + (i : Int))
theorem walks_range {lo : Int} {n : Nat} : Walks K (Itr lo n) H (rangeD lo n) := by
  refine ⟨fun H' m i hi => (by simpa [rangeD] using hi : i < n), fun H' m i x H'' hi y => ?_, fun H' m => by simp [rangeD, Itr]⟩
  obtain ⟨e, rfl⟩ := y
  refine ⟨e, .int (lo + i), ?_, .int⟩
  have hi' : i < n := by simpa [rangeD] using hi
  simp [rangeD, hi']
def rng1F (f : Ev → Out (List D)) : Ev → Out (List D) := fun ρ => (f ρ).bind fun ds ρ1 => match ds with
  | [.int j] => if -(2 ^ 62) ≤ j ∧ j < 2 ^ 62 then .val (rangeD 0 j.toNat) ρ1 else .bad
  | _ => .bad
theorem di_range1 {tg a : Expr} {f : Ev → Out (List D)} {p pos : Pos} (hg : Gl X "range") (hm : X.mg "range" = none) (h : DL_ X W [a] f) (hs : starEach [a] X.env = [(false, eval a X.env)] := by rfl) : DI X W tg (.Call (.Name "range" p) [a] [] pos) (rng1F f) := by
  obtain ⟨t, pa, s⟩ := h.ex
  refine ⟨piImp (pi_range1 hg hm pa hs) fun σ H Q ⟨Fr, B, ρ, R, k⟩ => s Fr B σ H ρ _ R (Ok.bind k fun vs H1 ds ρ1 st R1 r k => ?_)⟩
  cases (show DatL _ _ _ _ from r) with
  | nil => exact False.elim k
  | cons h1 r1 =>
    cases r1 with
    | cons => cases h1 <;> exact False.elim k
    | nil =>
      cases h1 <;> try exact False.elim k
      rename_i j
      replace k : Ok X.K W Fr B σ (relI X.K) Q H1 (if -(2 ^ 62) ≤ j ∧ j < 2 ^ 62 then .val (rangeD 0 j.toNat) ρ1 else .bad) := k
      by_cases hj : -(2 ^ 62) ≤ j ∧ j < 2 ^ 62
      · rw [if_pos hj] at k
        exact ⟨j, rfl, hj.1, hj.2, k _ H1 Step.refl R1 walks_range⟩
      · rw [if_neg hj] at k; exact False.elim k
def rng2F (f : Ev → Out (List D)) : Ev → Out (List D) := fun ρ => (f ρ).bind fun ds ρ1 => match ds with
  | [.int i, .int j] => if -(2 ^ 62) ≤ i ∧ i < 2 ^ 62 ∧ -(2 ^ 62) ≤ j ∧ j < 2 ^ 62 then .val (rangeD i (j - i).toNat) ρ1 else .bad
  | _ => .bad
theorem di_range2 {tg a b : Expr} {f : Ev → Out (List D)} {p pos : Pos} (hg : Gl X "range") (hm : X.mg "range" = none) (h : DL_ X W [a, b] f) (hs : starEach [a, b] X.env = [(false, eval a X.env), (false, eval b X.env)] := by rfl) (hs2 : starEach [b] X.env = [(false, eval b X.env)] := by rfl) : DI X W tg (.Call (.Name "range" p) [a, b] [] pos) (rng2F f) := by
  obtain ⟨t, pa, s⟩ := h.ex
  refine ⟨piImp (pi_range2 hg hm pa hs hs2) fun σ H Q ⟨Fr, B, ρ, R, k⟩ => s Fr B σ H ρ _ R (Ok.bind k fun vs H1 ds ρ1 st R1 r k => ?_)⟩
  cases (show DatL _ _ _ _ from r) with
  | nil => exact False.elim k
  | cons h1 r1 =>
    cases r1 with
    | nil => cases h1 <;> exact False.elim k
    | cons h2 r2 =>
      cases r2 with
      | cons => cases h1 <;> cases h2 <;> exact False.elim k
      | nil =>
        cases h1 <;> try exact False.elim k
        cases h2 <;> try exact False.elim k
        rename_i i j
        replace k : Ok X.K W Fr B σ (relI X.K) Q H1 (if -(2 ^ 62) ≤ i ∧ i < 2 ^ 62 ∧ -(2 ^ 62) ≤ j ∧ j < 2 ^ 62 then .val (rangeD i (j - i).toNat) ρ1 else .bad) := k
        by_cases hj : -(2 ^ 62) ≤ i ∧ i < 2 ^ 62 ∧ -(2 ^ 62) ≤ j ∧ j < 2 ^ 62
        · rw [if_pos hj] at k
          exact ⟨i, j, rfl, hj, k _ H1 Step.refl R1 walks_range⟩
        · rw [if_neg hj] at k; exact False.elim k

/-! ### a block's own names -/
def wipeE (ρ : Ev) : List Nat → Ev
  | [] => ρ
  | v :: vs => (wipeE ρ vs).set v .un
def okW (ρ : Ev) (vs : List Nat) : Bool := vs.all fun i => !isRef ρ i
def keepA : Option AV → AV
  | some (.fz d) => .fz d
  | _ => .un
def restE (ρ1 ρ2 : Ev) : List Nat → Ev
  | [] => ρ2
  | v :: vs => (restE ρ1 ρ2 vs).set v (keepA ρ1[v]?)
theorem Rep.unset {i : Nat} (R : Rep K Fr B σ H ρ) (no : ∀ o, ρ[i]? ≠ some (.ow true o)) : Rep K Fr B (σ.set i none) H (ρ.set i .un) := by
  have at' : ∀ {j : Nat} {b : AV}, (ρ.set i .un)[j]? = some b → (j = i ∧ b = .un) ∨ (j ≠ i ∧ ρ[j]? = some b) := fun {j b} q => by
    by_cases z : i = j
    · subst z
      rw [List.getElem?_set_self' ] at q
      cases e : ρ[i]? with
      | none => rw [e] at q; cases q
      | some a => rw [e] at q; exact .inl ⟨rfl, (Option.some.inj q).symm⟩
    · rw [get_set_ne z] at q; exact .inr ⟨Ne.symm z, q⟩
  have atσ : ∀ {j : Nat}, j ≠ i → (σ.set i none)[j]? = σ[j]? := fun {j} z => get_set_ne (Ne.symm z)
  have own' : ∀ {j : Nat} {r' : Bool} {q : OD}, (ρ.set i .un)[j]? = some (.ow r' q) → j ≠ i ∧ ρ[j]? = some (.ow r' q) := fun {j r' q} h => by
    rcases at' h with ⟨_, h'⟩ | h'
    · cases h'
    · exact h'
  refine ⟨by rw [List.length_set, List.length_set]; exact R.len, fun j b h => ?_, fun j q r' x h1 h2 => ?_, fun j k q r1 x1 r2 x2 h1 h2 h3 h4 => ?_, R.tr, fun q hq => ?_⟩
  · rcases at' h with ⟨rfl, rfl⟩ | ⟨ne, h⟩
    · exact True.intro
    · rw [atσ ne]; exact R.at_ j b h
  · obtain ⟨n, g⟩ := own' h1
    rw [atσ n] at h2; exact R.fr j q r' x g h2
  · obtain ⟨n1, g1⟩ := own' h1
    obtain ⟨n2, g2⟩ := own' h2
    rw [atσ n1] at h3; rw [atσ n2] at h4
    exact R.inj j k q _ _ _ _ g1 g2 h3 h4
  · obtain ⟨h1, x, h2⟩ := R.rb q hq
    have ne : q.1 ≠ i := fun z => by rw [z] at h2; exact no x h2
    rw [atσ ne, get_set_ne (Ne.symm ne)]
    exact ⟨h1, x, h2⟩
theorem wipeE_ref : ∀ {vs : List Nat} {i : Nat} {o : OD}, (wipeE ρ vs)[i]? = some (.ow true o) → ρ[i]? = some (.ow true o)
  | [], _, _, h => h
  | v :: vs, i, o, h => by
    unfold wipeE at h
    by_cases z : v = i
    · subst z
      rw [List.getElem?_set_self'] at h
      cases e : (wipeE ρ vs)[v]? with
      | none => rw [e] at h; cases h
      | some a => rw [e] at h; cases h
    · rw [get_set_ne z] at h; exact wipeE_ref h
theorem Rep.wipe : ∀ {vs : List Nat}, Rep K Fr B σ H ρ → okW ρ vs = true → Rep K Fr B (L2.wipe σ vs) H (wipeE ρ vs)
  | [], R, _ => R
  | v :: vs, R, h => by
    unfold okW at h
    rw [List.all_cons, Bool.and_eq_true] at h
    have h1 : isRef ρ v = false := by simpa using h.1
    exact (Rep.wipe (vs := vs) R h.2).unset fun o e => (isRef_no h1).2 o (wipeE_ref e)
theorem restE_out {ρ2 : Ev} : ∀ {vs : List Nat} {j : Nat} {a : AV}, (restE ρ1 ρ2 vs)[j]? = some a → (j ∉ vs ∧ ρ2[j]? = some a) ∨ a = keepA ρ1[j]?
  | [], j, a, h => .inl ⟨by simp, h⟩
  | v :: vs, j, a, h => by
    unfold restE at h
    by_cases z : v = j
    · subst z
      rw [List.getElem?_set_self'] at h
      cases e : (restE ρ1 ρ2 vs)[v]? with
      | none => rw [e] at h; cases h
      | some b => rw [e] at h; exact .inr (Option.some.inj h).symm
    · rw [get_set_ne z] at h
      rcases restE_out h with ⟨h1, h2⟩ | h1
      · exact .inl ⟨by simp only [List.mem_cons, not_or]; exact ⟨fun e => z e.symm, h1⟩, h2⟩
      · exact .inr h1
theorem restE_in {ρ2 : Ev} : ∀ {vs : List Nat} {j : Nat}, j ∉ vs → (restE ρ1 ρ2 vs)[j]? = ρ2[j]?
  | [], _, _ => rfl
  | v :: vs, j, h => by
    unfold restE
    rw [get_set_ne (fun e => h (by rw [e]; exact .head _))]
    exact restE_in fun m => h (.tail _ m)
theorem restE_length {ρ2 : Ev} : ∀ vs : List Nat, (restE ρ1 ρ2 vs).length = ρ2.length
  | [] => rfl
  | v :: vs => by unfold restE; rw [List.length_set]; exact restE_length vs
/-- the frame behind a block -/
theorem Rep.unwipe {vs : List Nat} {H' : Hp} {ρ2 : Ev} (R : Rep K Fr B σ H ρ1) (m : Mono H H') (R2 : Rep K Fr B (L2.wipe σ vs) H' ρ2) : Rep K Fr B σ H' (restE ρ1 ρ2 vs) := by
  have own' : ∀ {j : Nat} {r : Bool} {o : OD}, (restE ρ1 ρ2 vs)[j]? = some (.ow r o) → j ∉ vs ∧ ρ2[j]? = some (.ow r o) := fun {j r o} h => by
    rcases restE_out h with h | h
    · exact h
    · exfalso
      cases e : ρ1[j]? with
      | none => rw [e] at h; cases h
      | some a => rw [e] at h; cases a <;> cases h
  refine ⟨by rw [restE_length, R2.len, wipe_length], fun j a h => ?_, fun j p r o h1 h2 => ?_, fun i j p r o r' o' h1 h2 h3 h4 => ?_, fun b hb => R2.tr b hb, fun q hq => ?_⟩
  · rcases restE_out h with ⟨h1, h2⟩ | rfl
    · have s := R2.at_ j a h2
      rw [wipe_out h1] at s; exact s
    · cases e : ρ1[j]? with
      | none => exact True.intro
      | some a =>
        cases a with
        | un => exact True.intro
        | ow => exact True.intro
        | fz d => obtain ⟨v, e1, x⟩ := R.at_ j _ e; exact ⟨v, e1, x.mono m⟩
  · obtain ⟨n, g⟩ := own' h1
    exact R2.fr j p r o g (by rw [wipe_out n]; exact h2)
  · obtain ⟨n1, g1⟩ := own' h1
    obtain ⟨n2, g2⟩ := own' h2
    exact R2.inj i j p _ _ _ _ g1 g2 (by rw [wipe_out n1]; exact h3) (by rw [wipe_out n2]; exact h4)
  · obtain ⟨h1, x, h2⟩ := R2.rb q hq
    obtain ⟨h3, n⟩ := wipe_some h1
    exact ⟨h3, x, by rw [restE_in n]; exact h2⟩
theorem wipe_wipe {vs : List Nat} : L2.wipe (L2.wipe σ vs) vs = L2.wipe σ vs := by
  apply List.ext_getElem?
  intro i
  by_cases h : i ∈ vs
  · have z : ∀ (vs : List Nat) (τ : St), i ∈ vs → (L2.wipe τ vs)[i]? = (if i < τ.length then some none else none) := by
      intro vs
      induction vs with
      | nil => intro τ h; cases h
      | cons v vs ih =>
        intro τ h
        unfold L2.wipe
        by_cases e : v = i
        · subst e
          by_cases hl : v < τ.length
          · rw [if_pos hl, List.getElem?_set_self (by rw [wipe_length]; exact hl)]
          · rw [if_neg hl, List.getElem?_eq_none (by rw [List.length_set, wipe_length]; omega)]
        · rw [get_set_ne e]
          cases h with
          | head => exact absurd rfl e
          | tail _ h => exact ih τ h
    rw [z vs _ h, z vs _ h, wipe_length]
  · rw [wipe_out h]

/-! ### comprehensions -/
def W0 : WX := fun _ _ _ _ => False
def lcLoop (g : Tg) (tt : Ev → Out Bool) (te : Ev → Out D) (vs : List Nat) : List D → Ev → List D → Out (List D)
  | [], ρ, acc => .val acc ρ
  | d :: ds, ρ, acc => match g.put d ρ with
    | none => .bad
    | some ρ1 => match tt ρ1 with
      | .val true ρ2 => match te ρ2 with
        | .val y ρ3 => if acc.length < sizeLine ∧ okW ρ3 vs = true then lcLoop g tt te vs ds (wipeE ρ3 vs) (acc ++ [y]) else .bad
        | _ => .bad
      | .val false ρ2 => if okW ρ2 vs = true then lcLoop g tt te vs ds (wipeE ρ2 vs) acc else .bad
      | _ => .bad
def lcF (it : Ev → Out (List D)) (g : Tg) (tt : Ev → Out Bool) (te : Ev → Out D) (vs : List Nat) : Ev → Out OD := fun ρ => (it ρ).bind fun ds ρ1 =>
  if okW ρ1 vs = true then (lcLoop g tt te vs ds (wipeE ρ1 vs) []).bind fun acc ρ2 => .val (.l acc) (restE ρ1 ρ2 vs) else .bad
structure DTs (X : Cx) (W : WX) (es : List Expr) (f : Ev → Out Bool) : Prop where
  can : PTs X es (canT X.K W f)
def yesF : Ev → Out Bool := fun ρ => .val true ρ
theorem dts_nil : DTs X W [] yesF := ⟨⟨fun pins s σ H Q I ⟨Fr, B, ρ, R, k⟩ => pts_nil.run pins s σ H Q I (k true H Step.refl R rfl)⟩⟩
theorem dts_one {c : Expr} {f : Ev → Out Bool} (h : DT X W c f) : DTs X W [c] f := ⟨pts_one h.can⟩
theorem Rep.mine {p : Addr} {u w : HO} (R : Rep K (fun b => Fr b ∨ b = p) B σ H ρ) (nf : ¬ Fr p) (e : H p = some w) (n : ¬ Imm w) : Rep K (fun b => Fr b ∨ b = p) B σ (upd H p u) ρ := by
  have f : Fresh Fr σ ρ p := ⟨nf, fun i r o e1 e2 => R.fr i p r o e1 e2 (.inr rfl)⟩
  have R1 : Rep K Fr B σ (upd H p u) ρ := (R.unguard fun b h => .inl h).other f e n
  exact R1.guard f (by rw [upd_same]; exact nofun)
theorem lc_sem {it : Ev → Out (List D)} {g : Tg} {tt : Ev → Out Bool} {te : Ev → Out D} {vs : List Nat} {Q : VK} (hsl : ∀ i ∈ g.slots, i ∈ vs) (h : canN K W (lcF it g tt te vs) σ H Q) : tLc (canI K W it) (canG K g) (canT K W0 tt) (canE K W0 te) vs σ H Q := by
  obtain ⟨Fr, B, ρ, R, k⟩ := h
  refine ⟨Fr, B, ρ, R, Ok.bind k fun J H1 ds ρ1 st R1 wk k => ?_⟩
  have wk : Walks K J H1 ds := wk
  intro D hD
  have nD : ¬ Fr D := fun z => R1.tr D z hD
  cases hw : okW ρ1 vs with
  | false => rw [if_neg (by rw [hw]; decide)] at k; exact False.elim k
  | true =>
    rw [if_pos hw] at k
    have base : Rep K (fun b => Fr b ∨ b = D) B (L2.wipe σ vs) (upd H1 D (.lst [])) (wipeE ρ1 vs) := by
      have Rw := R1.wipe hw
      exact (Rw.new (u := .lst []) hD).guard (Rw.fresh hD) (by rw [upd_same]; exact nofun)
    refine ⟨fun i m H' => m = ds.length - i ∧ i ≤ ds.length ∧ ∃ ρ' acc accV, Rep K (fun b => Fr b ∨ b = D) B (L2.wipe σ vs) H' ρ' ∧ Step Fr H1 H' ∧ H' D = some (.lst accV) ∧ DatL K H' accV acc ∧
      Ok K W Fr B σ (relN K Fr σ) Q H' ((lcLoop g tt te vs (ds.drop i) ρ' acc).bind fun acc ρ2 => .val (.l acc) (restE ρ1 ρ2 vs)), ⟨ds.length, by simp, Nat.zero_le _, _, [], [], base, Step.new R1 hD, upd_same, .nil, Ok.later k (Step.new R1 hD)⟩, ?_⟩
    rintro i m H2 ⟨rfl, hi, ρ2, acc, accV, R2, s2, hl2, ra, k2⟩
    by_cases hlt : i < ds.length
    · obtain ⟨d, hd⟩ : ∃ d, ds[i]? = some d := ⟨_, List.getElem?_eq_getElem hlt⟩
      refine .inr ⟨wk.go H2 s2.mono i hlt, fun H' => i + 1 ≤ ds.length ∧ ∃ ρ' acc accV, Rep K (fun b => Fr b ∨ b = D) B (L2.wipe σ vs) H' ρ' ∧ Step Fr H1 H' ∧ H' D = some (.lst accV) ∧ DatL K H' accV acc ∧
        Ok K W Fr B σ (relN K Fr σ) Q H' ((lcLoop g tt te vs (ds.drop (i + 1)) ρ' acc).bind fun acc ρ2 => .val (.l acc) (restE ρ1 ρ2 vs)), fun H' w => ⟨ds.length - (i + 1), by omega, rfl, w⟩, fun x H' y => ?_⟩
      obtain ⟨rfl, d', hd', r⟩ := wk.yld H2 s2.mono i x H' hlt y
      rw [hd] at hd'; cases hd'
      rw [drop_cons hd] at k2
      unfold lcLoop at k2
      cases e : g.put d ρ2 with
      | none => rw [e] at k2; exact False.elim k2
      | some ρ3 =>
        rw [e] at k2
        dsimp only at k2
        refine ⟨_, B, ρ2, d, ρ3, R2, r, e, fun σ2 R3 hwp => ⟨(hwp vs hsl).trans wipe_wipe, ?_⟩⟩
        have hwp' : L2.wipe σ2 vs = L2.wipe σ vs := (hwp vs hsl).trans wipe_wipe
        refine ⟨_, B, ρ3, R3, ?_⟩
        cases et : tt ρ3 with
        | bad => rw [et] at k2; exact False.elim k2
        | exc c ρ4 => rw [et] at k2; exact False.elim k2
        | val b ρ4 =>
          rw [et] at k2
          intro v H3 st3 R4 rv
          have rv : v = b := rv
          subst rv
          have s3 : Step Fr H1 H3 := s2.trans (st3.wide fun b h => .inl h)
          have hl3 : H3 D = some (.lst accV) := (st3.keep D (.inr rfl)).trans hl2
          cases v with
          | false =>
            dsimp only at k2
            cases hw4 : okW ρ4 vs with
            | false => rw [if_neg (by rw [hw4]; decide)] at k2; exact False.elim k2
            | true =>
              rw [if_pos hw4] at k2
              have R5 := R4.wipe hw4
              rw [hwp'] at R5
              exact ⟨hlt, _, acc, accV, R5, s3, hl3, ra.mono st3.mono, Ok.later k2 (st3.wide fun b h => .inl h)⟩
          | true =>
            dsimp only at k2
            refine ⟨_, B, ρ4, R4, ?_⟩
            cases ee : te ρ4 with
            | bad => rw [ee] at k2; exact False.elim k2
            | exc c ρ5 => rw [ee] at k2; exact False.elim k2
            | val y5 ρ5 =>
              rw [ee] at k2
              dsimp only at k2
              intro v H4 st4 R5 rv
              have rv : Dat K H4 v y5 := rv
              have s4 : Step Fr H1 H4 := s3.trans (st4.wide fun b h => .inl h)
              have hl4 : H4 D = some (.lst accV) := (st4.keep D (.inr rfl)).trans hl3
              by_cases hz : acc.length < sizeLine ∧ okW ρ5 vs = true
              · rw [if_pos hz] at k2
                have ra4 : DatL K H4 accV acc := (ra.mono st3.mono).mono st4.mono
                have s5 : Step Fr H4 (upd H4 D (.lst (accV ++ [v]))) := Step.other nD hl4 (fun z => z)
                have R6 := (R5.mine (u := .lst (accV ++ [v])) nD hl4 (fun z => z)).wipe hz.2
                rw [hwp'] at R6
                refine ⟨accV, hl4, by rw [ra.length]; exact hz.1, hlt, _, acc ++ [y5], accV ++ [v], R6, s4.trans s5, upd_same, ?_, Ok.later k2 (((st3.wide fun b h => .inl h).trans (st4.wide fun b h => .inl h)).trans s5)⟩
                exact (ra4.mono s5.mono).append (.cons (rv.mono s5.mono) .nil)
              · rw [if_neg hz] at k2; exact False.elim k2
    · have e : i = ds.length := by omega
      subst e
      refine .inl ⟨wk.stop H2 s2.mono, ?_⟩
      rw [List.drop_eq_nil_of_le (Nat.le_refl _)] at k2
      have R3 : Rep K Fr B σ H2 (restE ρ1 ρ2 vs) := R1.unwipe s2.mono (R2.unguard fun b h => .inl h)
      refine k2 (.ref D) H2 Step.refl R3 ⟨D, rfl, ⟨accV, hl2, ra⟩, nD, fun j r o e1 e2 => ?_⟩
      rcases restE_out e1 with ⟨n, e3⟩ | e3
      · exact R2.fr j D r o e3 (by rw [wipe_out n]; exact e2) (.inr rfl)
      · cases e4 : ρ1[j]? with
        | none => rw [e4] at e3; cases e3
        | some a => rw [e4] at e3; cases a <;> cases e3
theorem dn_lc {elt tg iter : Expr} {ifs : List Expr} {scope : Scope} {own : List (Str × Nat)} {pos : Pos} {it : Ev → Out (List D)} {g : Tg} {tt : Ev → Out Bool} {te : Ev → Out D} (hc : X.calm = true) (hN : X.N.Nodup) (hi : DI X W tg iter it) (ok : BlkOk X.N X.env.scope scope own)
    (hsl : ∀ i ∈ g.slots, i ∈ own.map (·.2))
    (hg : ∀ (s : Shared) (H : Hp) (C : Addr) (cl : List (Str × Addr)) (fp : List Addr), DG (X.blk s H scope (compEnvC scope cl C X.env) fp) tg g) (ht : ∀ (s : Shared) (H : Hp) (C : Addr) (cl : List (Str × Addr)) (fp : List Addr), DTs (X.blk s H scope (compEnvC scope cl C X.env) fp) W0 ifs tt)
    (he : ∀ (s : Shared) (H : Hp) (C : Addr) (cl : List (Str × Addr)) (fp : List Addr), DE (X.blk s H scope (compEnvC scope cl C X.env) fp) W0 elt te) (hs : ∀ x, foldedSetIterable iter X.env x = pure x := by intro _; rfl) :
    DN X W (.ListComp elt [⟨tg, iter, ifs, 0⟩] scope pos) (lcF it g tt te (own.map (·.2))) := by
  exact DN.of (peImp (pe_lc (g := canG X.K g) (tt := canT X.K W0 tt) (te := canE X.K W0 te) hc hN hi.can ok (fun s H C cl fp => (hg s H C cl fp).can) (fun s H C cl fp => (ht s H C cl fp).can) (fun s H C cl fp => (he s H C cl fp).can) hs) fun σ H Q h => lc_sem hsl h)
theorem ds_setLcN {elt tg iter : Expr} {ifs : List Expr} {scope : Scope} {own : List (Str × Nat)} {pos spos py : Pos} {i : Nat} {y : Str} {it : Ev → Out (List D)} {g : Tg} {tt : Ev → Out Bool} {te : Ev → Out D} (hc : X.calm = true) (hN : X.N.Nodup) (hy : X.N[i]? = some y) (hyl : X.env.scope.names.lookup y = some .local) (hsw : swapsWith (.ListComp elt [⟨tg, iter, ifs, 0⟩] scope pos) (some (.Name y py)) spos.line X.env = pure true) (hi : DI X W tg iter it) (ok : BlkOk X.N X.env.scope scope own)
    (hsl : ∀ i ∈ g.slots, i ∈ own.map (·.2))
    (hg : ∀ (s : Shared) (H : Hp) (C : Addr) (cl : List (Str × Addr)) (fp : List Addr), DG (X.blk s H scope (compEnvC scope cl C X.env) fp) tg g) (ht : ∀ (s : Shared) (H : Hp) (C : Addr) (cl : List (Str × Addr)) (fp : List Addr), DTs (X.blk s H scope (compEnvC scope cl C X.env) fp) W0 ifs tt)
    (he : ∀ (s : Shared) (H : Hp) (C : Addr) (cl : List (Str × Addr)) (fp : List Addr), DE (X.blk s H scope (compEnvC scope cl C X.env) fp) W0 elt te) (hs : ∀ x, foldedSetIterable iter X.env x = pure x := by intro _; rfl) :
    DS X W (.Assign [.Name y py] (.ListComp elt [⟨tg, iter, ifs, 0⟩] scope pos) spos) (setN i (lcF it g tt te (own.map (·.2)))) := by
  refine ⟨psImp (ps_setLc (g := canG X.K g) (tt := canT X.K W0 tt) (te := canE X.K W0 te) hc hN hy hyl hsw hi.can ok (fun s H C cl fp => (hg s H C cl fp).can) (fun s H C cl fp => (ht s H C cl fp).can) (fun s H C cl fp => (he s H C cl fp).can) hs) fun E σ H ⟨Fr, B, ρ, R, k⟩ => lc_sem hsl ⟨Fr, B, ρ, R, OkS.bind k fun v H1 d ρ1 st R1 r k => ?_⟩⟩
  obtain ⟨p, rfl, ow, fr⟩ := r
  exact putS_ok k R1 ⟨p, rfl, ow⟩ (fun _ _ _ z e => by cases z; cases e; exact fr)
end
end DL
set_option Elab.async false
set_option linter.all false
set_option maxRecDepth 100000
set_option maxHeartbeats 2000000
namespace DL
open PySem PySem.Spec L2

inductive FOut where
  | val (d : D) (as : List AV)
  | exc (c : Str) (as : List AV)
  | bad
/-- the objects that were handed in, as the call leaves them -/
def Left (K : PySem.W.Frag) (vs : List V) (as as' : List AV) (H' : Hp) : Prop := ∀ (i : Nat) (p : Addr) (o : OD), as[i]? = some (AV.ow true o) → vs[i]? = some (V.ref p) → ∃ o', as'[i]? = some (AV.ow true o') ∧ Own K H' p o'
/-- a def's promise, by what it does -/
def spF (K : PySem.W.Frag) (n : Nat) (F : List AV → FOut) : Sp := fun vs H Q E => ∃ as Fr B, vs.length = n ∧ Rep K Fr B (vs.map some) H as ∧ (∀ (i : Nat) (o : OD), as[i]? = some (AV.ow true o) → ∃ p, (i, p) ∈ B) ∧ match F as with
  | .val d as' => ∀ v H', Step Fr H H' → Dat K H' v d → Left K vs as as' H' → Q v H'
  | .exc c as' => ∀ H', Step Fr H H' → Left K vs as as' H' → E (.ref (He.ga K c)) none H'
  | .bad => False
def bodyF (n N : Nat) (b : Ev → SOut) : List AV → FOut := fun as => match b (as ++ List.replicate (N - n) .un) with
  | .nx ρ => .val .non (ρ.take n)
  | .rt d ρ => .val d (ρ.take n)
  | .exc c ρ => .exc c (ρ.take n)
  | .bad => .bad
/-- a def that is known -/
structure Kn (P : Program) (w : World) (K : PySem.W.Frag) (mg : Str → Option Value) (base : Heap) (k : Nat) (x : Str) (n : Nat) (F : List AV → FOut) : Prop where
  ex : ∃ f fd ps, FnOk P w K mg base (L2.CX P w) k f fd ps (spF K n F) ∧ mg x = some (.ref f) ∧ PySem.W.keepIn K (.ref f) = true ∧ Binds K fd ps []
theorem Kn.mono {P : Program} {w : World} {K : PySem.W.Frag} {mg : Str → Option Value} {base : Heap} {j k : Nat} {x : Str} {n : Nat} {F : List AV → FOut} (h : Kn P w K mg base j x n F) (hk : j ≤ k) : Kn P w K mg base k x n F := by
  obtain ⟨f, fd, ps, h1, h2⟩ := h.ex
  exact ⟨f, fd, ps, h1.mono hk, h2⟩
def Pas (X : Cx) (W : WX) : Prop := ∀ σ, PassesAt (L2.CX X.prog X.w) X σ (fun c d H' => W c d σ H')
theorem pas0 {X : Cx} : Pas X W0 := fun σ pins H s e s' I ⟨a, B, H', cls, d, _, _, _, _, _, _, _, z⟩ => False.elim z
theorem pas_of {X : Cx} {E : XK} (tk : Takes X fun c d _ H => E c d H) : Pas X fun c d _ H => E c d H := fun σ pins H s e s' I c => passes_call tk (fun _ _ _ _ h => h) pins σ H s e s' I c

section
variable {X : Cx} {W : WX} {K : PySem.W.Frag} {Fr : Addr → Prop} {B : List (Nat × Addr)} {σ : St} {H H' : Hp} {ρ : Ev}
theorem Rep.pad (R : Rep K Fr B σ H ρ) (m : Nat) : Rep K Fr B (σ ++ List.replicate m none) H (ρ ++ List.replicate m .un) := by
  have low : ∀ {i : Nat} {a : AV}, (ρ ++ List.replicate m .un)[i]? = some a → (i < ρ.length ∧ ρ[i]? = some a) ∨ a = .un := fun {i a} h => by
    by_cases z : i < ρ.length
    · rw [List.getElem?_append_left z] at h; exact .inl ⟨z, h⟩
    · rw [List.getElem?_append_right (by omega), List.getElem?_replicate] at h
      split at h
      · exact .inr (Option.some.inj h).symm
      · cases h
  have lowσ : ∀ {i : Nat}, i < ρ.length → (σ ++ List.replicate m none)[i]? = σ[i]? := fun {i} h => List.getElem?_append_left (by rw [← R.len]; exact h)
  refine ⟨by rw [List.length_append, List.length_append, R.len, List.length_replicate, List.length_replicate], fun i a h => ?_, fun i p r o h1 h2 => ?_, fun i j p r o r' o' h1 h2 h3 h4 => ?_, R.tr, fun q hq => ?_⟩
  · rcases low h with ⟨z, h⟩ | rfl
    · rw [lowσ z]; exact R.at_ i a h
    · exact True.intro
  · rcases low h1 with ⟨z, h⟩ | h
    · rw [lowσ z] at h2; exact R.fr i p r o h h2
    · cases h
  · rcases low h1 with ⟨z, g1⟩ | g1
    · rcases low h2 with ⟨z2, g2⟩ | g2
      · rw [lowσ z] at h3; rw [lowσ z2] at h4
        exact R.inj i j p r o r' o' g1 g2 h3 h4
      · cases g2
    · cases g1
  · obtain ⟨h1, o, h2⟩ := R.rb q hq
    have z : q.1 < ρ.length := (List.getElem?_eq_some_iff.mp h2).1
    exact ⟨by rw [lowσ z]; exact h1, o, by rw [List.getElem?_append_left z]; exact h2⟩
theorem start_eq {N : List Str} {vs : List V} : start N vs = vs.map some ++ List.replicate (N.length - vs.length) none := rfl
/-- slot i's object has been changed by another -/
theorem Rep.change {i : Nat} {r : Bool} {o o' : OD} {p : Addr} (R : Rep K Fr B σ H ρ) (e : ρ[i]? = some (.ow r o)) (ep : σ[i]? = some (some (V.ref p))) (w : Own K H' p o') (mono : Mono H H') (kp : ∀ b, b ≠ p → H b ≠ none → H' b = H b) : Rep K Fr B σ H' (ρ.set i (.ow r o')) := by
  have hi : i < ρ.length := (List.getElem?_eq_some_iff.mp e).1
  have at' : ∀ {j : Nat} {a : AV}, (ρ.set i (.ow r o'))[j]? = some a → (j = i ∧ a = .ow r o') ∨ (j ≠ i ∧ ρ[j]? = some a) := fun {j a} q => by
    by_cases z : i = j
    · subst z
      rw [List.getElem?_set_self hi] at q
      exact .inl ⟨rfl, (Option.some.inj q).symm⟩
    · rw [get_set_ne z] at q; exact .inr ⟨Ne.symm z, q⟩
  have own' : ∀ {j : Nat} {r' : Bool} {q : OD}, (ρ.set i (.ow r o'))[j]? = some (.ow r' q) → ∃ q', ρ[j]? = some (.ow r' q') := fun {j r' q} h => by
    rcases at' h with ⟨rfl, h'⟩ | ⟨_, h'⟩
    · cases h'; exact ⟨o, e⟩
    · exact ⟨q, h'⟩
  refine ⟨by rw [List.length_set]; exact R.len, fun j a h => ?_, fun j q r' x h1 h2 => ?_, fun j k q r1 x1 r2 x2 h1 h2 h3 h4 => ?_, fun b hb => ?_, fun q hq => ?_⟩
  · rcases at' h with ⟨rfl, rfl⟩ | ⟨ne, h⟩
    · exact ⟨p, ep, w⟩
    · have q := R.at_ j a h
      cases a with
      | un => exact True.intro
      | fz d => obtain ⟨v, e', x⟩ := q; exact ⟨v, e', x.mono mono⟩
      | ow r2 o2 =>
        obtain ⟨p2, e2, x⟩ := q
        obtain ⟨u, hu, _⟩ := x.there
        refine ⟨p2, e2, x.keep mono (kp p2 ?_ (by rw [hu]; exact nofun))⟩
        rintro rfl; exact ne (R.inj j i _ _ _ _ _ h e e2 ep)
  · obtain ⟨x', h'⟩ := own' h1; exact R.fr j q r' x' h' h2
  · obtain ⟨y1, g1⟩ := own' h1
    obtain ⟨y2, g2⟩ := own' h2
    exact R.inj j k q _ _ _ _ g1 g2 h3 h4
  · have hb' := R.tr b hb
    have z : b ≠ p := by rintro rfl; exact R.fr i b r o e ep hb
    rw [kp b z hb']; exact hb'
  · obtain ⟨h1, x, h2⟩ := R.rb q hq
    refine ⟨h1, ?_⟩
    by_cases z : i = q.1
    · rw [← z, List.getElem?_set_self hi]
      rw [← z] at h2; rw [e] at h2; cases h2
      exact ⟨o', rfl⟩
    · rw [get_set_ne z]; exact ⟨x, h2⟩

/-! ### arguments -/
inductive AR where
  | dt (d : D)
  | rf (i : Nat)
def relA1 (K : PySem.W.Frag) (σ : St) : AR → V → Hp → Prop
  | .dt d, v, H => Dat K H v d
  | .rf i, v, _ => σ[i]? = some (some v)
def relAs (K : PySem.W.Frag) (σ : St) : List AR → List V → Hp → Prop
  | [], [], _ => True
  | a :: as, v :: vs, H => relA1 K σ a v H ∧ relAs K σ as vs H
  | _, _, _ => False
def relAr (K : PySem.W.Frag) (σ : St) : Rel (List AR) (List V) := fun as _ vs H => relAs K σ as vs H
structure DA (X : Cx) (W : WX) (es : List Expr) (f : Ev → Out (List AR)) : Prop where
  ex : ∃ t, PA X es t ∧ ∀ (Fr : Addr → Prop) (B : List (Nat × Addr)) (σ : St) (H : Hp) (ρ : Ev) (Q : List V → Hp → Prop), Rep X.K Fr B σ H ρ → Ok X.K W Fr B σ (relAr X.K σ) Q H (f ρ) → t σ H Q
theorem relA1.mono {a : AR} {v : V} (m : Mono H H') (h : relA1 K σ a v H) : relA1 K σ a v H' := by
  cases a with
  | dt d => exact Dat.mono m h
  | rf i => exact h
def nilA : Ev → Out (List AR) := fun ρ => .val [] ρ
def datA (f : Ev → Out D) (g : Ev → Out (List AR)) : Ev → Out (List AR) := fun ρ => (f ρ).bind fun d ρ1 => (g ρ1).bind fun ds ρ2 => .val (.dt d :: ds) ρ2
def refA (i : Nat) (g : Ev → Out (List AR)) : Ev → Out (List AR) := fun ρ => match ρ[i]? with
  | some (.ow _ _) => (g ρ).bind fun ds ρ2 => .val (.rf i :: ds) ρ2
  | _ => .bad
theorem da_nil : DA X W [] nilA := ⟨tNil, pa_nil, fun Fr B σ H ρ Q R k => k [] H Step.refl R True.intro⟩
theorem da_dat {e : Expr} {es : List Expr} {f : Ev → Out D} {g : Ev → Out (List AR)} (ha : DE X W e f) (hr : DA X W es g) (hs : starEach (e :: es) X.env = (false, eval e X.env) :: starEach es X.env := by rfl) : DA X W (e :: es) (datA f g) := by
  obtain ⟨t, p, s⟩ := ha.ex
  obtain ⟨t', p', s'⟩ := hr.ex
  refine ⟨_, pa_cons p p' hs, fun Fr B σ H ρ Q R k => s Fr B σ H ρ _ R (Ok.bind k fun v H1 d ρ1 st R1 r1 k => s' Fr B σ H1 ρ1 _ R1 (Ok.bind k fun vs H2 ds ρ2 st2 R2 r2 k => ?_))⟩
  exact k _ H2 Step.refl R2 ⟨Dat.mono st2.mono r1, r2⟩
theorem da_ref {e : Expr} {es : List Expr} {i : Nat} {g : Ev → Out (List AR)} (ha : PE X e (tVar i)) (hr : DA X W es g) (hs : starEach (e :: es) X.env = (false, eval e X.env) :: starEach es X.env := by rfl) : DA X W (e :: es) (refA i g) := by
  obtain ⟨t', p', s'⟩ := hr.ex
  refine ⟨_, pa_cons ha p' hs, fun Fr B σ H ρ Q R k => ?_⟩
  unfold refA at k
  cases q : ρ[i]? with
  | none => rw [q] at k; exact False.elim k
  | some a =>
    rw [q] at k
    cases a with
    | un => exact False.elim k
    | fz d => exact False.elim k
    | ow r o =>
      obtain ⟨p, e, x⟩ := R.own q
      refine ⟨_, e, s' Fr B σ H ρ _ R (Ok.bind k fun vs H2 ds ρ2 st2 R2 r2 k => ?_)⟩
      exact k _ H2 Step.refl R2 ⟨e, r2⟩
def arA (o : OD) : AR → AV
  | .dt d => .fz d
  | .rf _ => .ow true o
def refsA : List AR → List Nat
  | [] => []
  | .dt _ :: as => refsA as
  | .rf i :: as => i :: refsA as
def posA : List AR → Nat
  | [] => 0
  | .dt _ :: as => posA as + 1
  | .rf _ :: _ => 0
def call1 (F : List AV → FOut) (as : List AR) (ρ : Ev) (i : Nat) : Out D := match ρ[i]? with
    | some (.ow r o) => match F (as.map (arA o)) with
      | .val d as' => match as'[posA as]? with
        | some (.ow true o') => .val d (ρ.set i (.ow r o'))
        | _ => .bad
      | .exc c as' => match as'[posA as]? with
        | some (.ow true o') => .exc c (ρ.set i (.ow r o'))
        | _ => .bad
      | .bad => .bad
    | _ => .bad
def callO (n : Nat) (F : List AV → FOut) (as : List AR) (ρ : Ev) : Out D := if as.length = n then
  match refsA as with
  | [] => match F (as.map (arA (.l []))) with
    | .val d _ => .val d ρ
    | .exc c _ => .exc c ρ
    | .bad => .bad
  | [i] => call1 F as ρ i
  | _ => .bad
  else .bad
def callF (n : Nat) (F : List AV → FOut) (f : Ev → Out (List AR)) : Ev → Out D := fun ρ => (f ρ).bind fun as ρ1 => callO n F as ρ1
theorem relAs.length : ∀ {as : List AR} {vs : List V}, relAs K σ as vs H → vs.length = as.length
  | [], [], _ => rfl
  | _ :: _, _ :: _, h => congrArg Nat.succ (relAs.length h.2)
  | [], _ :: _, h => False.elim h
  | _ :: _, [], h => False.elim h
theorem relAs.get : ∀ {as : List AR} {vs : List V} {i : Nat} {a : AR}, relAs K σ as vs H → as[i]? = some a → ∃ v, vs[i]? = some v ∧ relA1 K σ a v H
  | [], _, _, _, _, e => by simp at e
  | a :: as, v :: vs, 0, _, h, e => by simp at e; subst e; exact ⟨v, rfl, h.1⟩
  | a :: as, v :: vs, i + 1, _, h, e => by
    obtain ⟨v, h1, h2⟩ := relAs.get (i := i) h.2 (by simpa using e)
    exact ⟨v, by simpa using h1, h2⟩
  | _ :: _, [], _, _, h, _ => False.elim h
theorem refsA_nil : ∀ {as : List AR}, refsA as = [] → ∀ (j i : Nat), as[j]? ≠ some (AR.rf i)
  | [], _, _, _ => by simp
  | .dt d :: as, h, 0, i => by simp
  | .dt d :: as, h, j + 1, i => by simpa using refsA_nil (as := as) h j i
theorem refsA_one : ∀ {as : List AR} {i : Nat}, refsA as = [i] → as[posA as]? = some (AR.rf i) ∧ ∀ (j i' : Nat), as[j]? = some (AR.rf i') → j = posA as
  | .dt d :: as, i, h => by
    obtain ⟨h1, h2⟩ := refsA_one (as := as) h
    refine ⟨by simpa [posA] using h1, fun j i' e => ?_⟩
    cases j with
    | zero => simp at e
    | succ j => exact congrArg Nat.succ (h2 j i' (by simpa using e))
  | .rf k :: as, i, h => by
    cases h' : refsA as with
    | cons => unfold refsA at h; rw [h'] at h; cases h
    | nil =>
      unfold refsA at h; rw [h'] at h; cases h
      refine ⟨rfl, fun j i' e => ?_⟩
      cases j with
      | zero => rfl
      | succ j => exact absurd (by simpa using e) (refsA_nil h' j i')
theorem args_rep {as : List AR} {vs : List V} {ρ : Ev} {n : Nat} (R : Rep K Fr B σ H ρ) (ra : relAs K σ as vs H) (hr : refsA as = []) : Rep K (fun b => H b ≠ none) [] (vs.map some) H (as.map (arA (.l []))) := by
  have no : ∀ {i : Nat} {r : Bool} {o : OD}, (as.map (arA (.l [])))[i]? ≠ some (.ow r o) := fun {i r o} e => by
    rw [List.getElem?_map] at e
    cases q : as[i]? with
    | none => rw [q] at e; cases e
    | some a =>
      rw [q] at e
      cases a with
      | dt d => cases e
      | rf k => exact refsA_nil hr i k q
  refine ⟨by rw [List.length_map, List.length_map, ra.length], fun i a h => ?_, fun i p r o h => absurd h no, fun i j p r o r' o' h => absurd h no, fun b h => h, fun q hq => by cases hq⟩
  rw [List.getElem?_map] at h
  cases q : as[i]? with
  | none => rw [q] at h; cases h
  | some a0 =>
    rw [q] at h
    obtain ⟨v, h1, h2⟩ := ra.get q
    cases a0 with
    | rf k => exact absurd q (refsA_nil hr i k)
    | dt d => cases h; exact ⟨v, by rw [List.getElem?_map, h1]; rfl, h2⟩
theorem args_rep1 {as : List AR} {vs : List V} {ρ : Ev} {i : Nat} {r : Bool} {o : OD} {p : Addr} (R : Rep K Fr B σ H ρ) (ra : relAs K σ as vs H) (hr : refsA as = [i]) (e : ρ[i]? = some (.ow r o)) (ep : σ[i]? = some (some (V.ref p))) :
    Rep K (fun b => H b ≠ none ∧ b ≠ p) [(posA as, p)] (vs.map some) H (as.map (arA o)) ∧ vs[posA as]? = some (.ref p) := by
  obtain ⟨h1, h2⟩ := refsA_one hr
  obtain ⟨v0, g1, g2⟩ := ra.get h1
  have g2 : σ[i]? = some (some v0) := g2
  rw [ep] at g2; cases g2
  obtain ⟨p', ep', ow⟩ := R.own e
  rw [ep] at ep'; cases ep'
  have own' : ∀ {j : Nat} {r' : Bool} {o' : OD}, (as.map (arA o))[j]? = some (.ow r' o') → j = posA as := fun {j r' o'} z => by
    rw [List.getElem?_map] at z
    cases q : as[j]? with
    | none => rw [q] at z; cases z
    | some a =>
      rw [q] at z
      cases a with
      | dt d => cases z
      | rf k => exact h2 j k q
  have atp : (vs.map some)[posA as]? = some (some (V.ref p)) := by rw [List.getElem?_map, g1]; rfl
  refine ⟨⟨by rw [List.length_map, List.length_map, ra.length], fun j a h => ?_, fun j q r' o' z1 z2 => ?_, fun j k q r' o' r2 o2 z1 z2 _ _ => (own' z1).trans (own' z2).symm, fun b h => h.1, fun q hq => ?_⟩, g1⟩
  · rw [List.getElem?_map] at h
    cases q : as[j]? with
    | none => rw [q] at h; cases h
    | some a0 =>
      rw [q] at h
      obtain ⟨v, f1, f2⟩ := ra.get q
      cases a0 with
      | dt d => cases h; exact ⟨v, by rw [List.getElem?_map, f1]; rfl, f2⟩
      | rf k =>
        have ej := h2 j k q
        subst ej
        cases h
        exact ⟨p, atp, ow⟩
  · have ej := own' z1
    subst ej
    rw [atp] at z2; cases z2
    exact fun z => z.2 rfl
  · have e0 : q = (posA as, p) := by simpa using hq
    subst e0
    refine ⟨atp, o, ?_⟩
    rw [List.getElem?_map, h1]; rfl
theorem de_call {k n : Nat} {x : Str} {F : List AV → FOut} {e : Expr} {es : List Expr} {fa : Ev → Out (List AR)} {p pos : Pos} (kn : Kn X.prog X.w X.K X.mg X.base k x n F) (hr : Room k X.A) (pas : Pas X W) (hg : Gl X x) (ha : DA X W (e :: es) fa) (hdb : (x == ("__debug__" : Str)) = false := by decide)
    (he : starEach (e :: es) X.env = (false, eval e X.env) :: starEach es X.env := by rfl) (hpl : (backTo pos (starEach es X.env)).any (·.1) = false := by rfl) : DE X W (.Call (.Name x p) (e :: es) [] pos) (callF n F fa) := by
  obtain ⟨f, fd, ps, F1, hm, hk, hb⟩ := kn.ex
  obtain ⟨t, pa, s⟩ := ha.ex
  refine ⟨_, pe_callSD F1 hr hg hm hk hb .nil pas pa hdb he hpl, fun Fr B σ H ρ Q R k => s Fr B σ H ρ _ R (Ok.bind k fun vs H1 as ρ1 st R1 ra k => ?_)⟩
  have ra : relAs X.K σ as vs H1 := ra
  rw [List.append_nil]
  unfold callO at k
  by_cases hn : as.length = n
  · rw [if_pos hn] at k
    have hl : vs.length = n := ra.length.trans hn
    cases hrf : refsA as with
    | nil =>
      rw [hrf] at k
      have RA := args_rep (n := n) R1 ra hrf
      have kp : ∀ {H'' : Hp}, Step (fun b => H1 b ≠ none) H1 H'' → Rep X.K Fr B σ H'' ρ1 ∧ Step Fr H1 H'' := fun {H''} sp => ⟨R1.keep sp.mono (fun i r o q e1 e2 => sp.keep q (by
          obtain ⟨q', e3, ow⟩ := R1.own e1
          rw [e2] at e3; cases e3
          obtain ⟨u, hu, _⟩ := ow.there
          rw [hu]; exact nofun)) (fun b hb => sp.keep b (R1.tr b hb)), sp.wide fun b hb => R1.tr b hb⟩
      refine ⟨_, _, _, hl, RA, fun i o z => ?_, ?_⟩
      · rw [List.getElem?_map] at z
        cases q : as[i]? with
        | none => rw [q] at z; cases z
        | some a =>
          rw [q] at z
          cases a with
          | dt d => cases z
          | rf k => exact absurd q (refsA_nil hrf i k)
      · cases eF : F (as.map (arA (.l []))) with
        | val d as' => rw [eF] at k; exact fun v H'' sp r _ => k v H'' (kp sp).2 (kp sp).1 r
        | exc c as' => rw [eF] at k; exact fun H'' sp _ => k H'' (kp sp).2 (kp sp).1
        | bad => rw [eF] at k; exact k
    | cons i rest =>
      rw [hrf] at k
      cases rest with
      | cons => exact False.elim k
      | nil =>
        replace k : Ok X.K W Fr B σ (relE X.K) Q H1 (call1 F as ρ1 i) := k
        unfold call1 at k
        cases e1 : ρ1[i]? with
        | none => rw [e1] at k; exact False.elim k
        | some a =>
          rw [e1] at k
          cases a with
          | un => exact False.elim k
          | fz d => exact False.elim k
          | ow r o =>
            obtain ⟨q, ep, ow⟩ := R1.own e1
            obtain ⟨RA, hvq⟩ := args_rep1 R1 ra hrf e1 ep
            have hpos : (as.map (arA o))[posA as]? = some (.ow true o) := by rw [List.getElem?_map, (refsA_one hrf).1]; rfl
            have kp : ∀ {H'' : Hp} {o' : OD}, Step (fun b => H1 b ≠ none ∧ b ≠ q) H1 H'' → Own X.K H'' q o' → Rep X.K Fr B σ H'' (ρ1.set i (.ow r o')) ∧ Step Fr H1 H'' := fun {H'' o'} sp w' => ⟨R1.change e1 ep w' sp.mono (fun b n1 n2 => sp.keep b ⟨n2, n1⟩), sp.wide fun b hb => ⟨R1.tr b hb, by rintro rfl; exact R1.fr i b r o e1 ep hb⟩⟩
            refine ⟨_, _, _, hl, RA, fun j o2 z => ⟨q, ?_⟩, ?_⟩
            · have ej : j = posA as := by
                rw [List.getElem?_map] at z
                cases q : as[j]? with
                | none => rw [q] at z; cases z
                | some a =>
                  rw [q] at z
                  cases a with
                  | dt d => cases z
                  | rf k => exact (refsA_one hrf).2 j k q
              subst ej
              exact .head _
            · replace k : Ok X.K W Fr B σ (relE X.K) Q H1 (match F (as.map (arA o)) with
                | .val d as' => match as'[posA as]? with
                  | some (.ow true o') => .val d (ρ1.set i (.ow r o'))
                  | _ => .bad
                | .exc c as' => match as'[posA as]? with
                  | some (.ow true o') => .exc c (ρ1.set i (.ow r o'))
                  | _ => .bad
                | .bad => .bad) := k
              cases eF : F (as.map (arA o)) with
              | val d as' =>
                rw [eF] at k
                dsimp only at k ⊢
                intro v H'' sp r' lf
                obtain ⟨o', h1, h2⟩ := lf _ _ _ hpos hvq
                rw [h1] at k
                exact k v H'' (kp sp h2).2 (kp sp h2).1 r'
              | exc c as' =>
                rw [eF] at k
                dsimp only at k ⊢
                intro H'' sp lf
                obtain ⟨o', h1, h2⟩ := lf _ _ _ hpos hvq
                rw [h1] at k
                exact k H'' (kp sp h2).2 (kp sp h2).1
              | bad => rw [eF] at k; exact k
  · rw [if_neg hn] at k; exact False.elim k
end

/-! ### a def keeps its promise -/
section
variable {P : Program} {w : World} {K : PySem.W.Frag} {mg : Str → Option Value} {base : Heap} {k : Nat} {x qual : Str} {params : Arguments} {body : List Stmt} {scope : Scope} {kws : List (Str × V)} {f : Addr} {fd : FuncData} {N ps : List Str} {fb : Ev → SOut}
abbrev cxD (P : Program) (w : World) (K : PySem.W.Frag) (mg : Str → Option Value) (base : Heap) (N : List Str) (qual : Str) (scope : Scope) (f : Addr) (cd : Value) (A : Around) (outer : List Env) (s : Shared) (H : Hp) (E : XK) : Cx := cxOf (L2.CX P w) P w K mg base N qual scope f cd A outer s H E
theorem own_cx {cd : Value} {A : Around} {outer : List Env} {s : Shared} {H : Hp} {E : XK} : PassesOwn (model (cxD P w K mg base N qual scope f cd A outer s H E).prog (cxD P w K mg base N qual scope f cd A outer s H E).w) (cxD P w K mg base N qual scope f cd A outer s H E).A (cxD P w K mg base N qual scope f cd A outer s H E).env (cxD P w K mg base N qual scope f cd A outer s H E).xe := passes_of rfl
theorem takes_cx {cd : Value} {A : Around} {outer : List Env} {s : Shared} {H : Hp} {E : XK} : Takes (cxD P w K mg base N qual scope f cd A outer s H E) (fun c d _ H => E c d H) := takes_of rfl rfl rfl rfl
theorem pas_cx {cd : Value} {A : Around} {outer : List Env} {s : Shared} {H : Hp} {E : XK} : Pas (cxD P w K mg base N qual scope f cd A outer s H E) (fun c d _ H => E c d H) := pas_of takes_cx
theorem fn_ok (FD : FunD K x qual params body scope [] kws f fd) (S : FnScope N ps scope)
    (hbody : ∀ (cd : Value) (A : Around) (outer : List Env) (s : Shared) (H : Hp) (E : XK), Room k (A.deeper (PyProof.Rows.envOfC qual scope s.heap.objs.size f cd)) → DSs (cxD P w K mg base N qual scope f cd A outer s H E) (fun c d _ H => E c d H) body fb) :
    FnOk P w K mg base (L2.CX P w) (k + 1) f fd ps (spF K ps.length (bodyF ps.length N.length fb)) := by
  refine FD.ok S (fun vs H Q E h => ?_) fun cd A outer s H vs Q E hr h => ⟨_, (hbody cd A outer s H E hr).can, ?_⟩
  · obtain ⟨as, Fr, B, hl, _⟩ := h; exact hl
  · obtain ⟨as, Fr, B, hl, R, hB, q⟩ := h
    have la : as.length = ps.length := by rw [R.len, List.length_map]; exact hl
    have R1 := R.pad (N.length - ps.length)
    refine ⟨Fr, B, as ++ List.replicate (N.length - ps.length) .un, ?_, ?_⟩
    · rw [start_eq, hl]; exact R1
    · have left : ∀ {σ' : St} {H' : Hp} {ρ' : Ev}, Rep K Fr B σ' H' ρ' → Left K vs as (ρ'.take ps.length) H' := fun {σ' H' ρ'} R' i p o e1 e2 => by
        obtain ⟨p', hq⟩ := hB i o e1
        obtain ⟨h1, _⟩ := R.rb _ hq
        have h1 : (vs.map some)[i]? = some (some (V.ref p')) := h1
        rw [List.getElem?_map, e2] at h1; cases h1
        obtain ⟨h3, o', h4⟩ := R'.rb _ hq
        have h3 : σ'[i]? = some (some (V.ref p)) := h3
        have h4 : ρ'[i]? = some (.ow true o') := h4
        have hi : i < ps.length := by rw [← la]; exact (List.getElem?_eq_some_iff.mp e1).1
        refine ⟨o', by rw [List.getElem?_take, if_pos hi]; exact h4, ?_⟩
        obtain ⟨p2, h5, ow⟩ := R'.own h4
        rw [h3] at h5; cases h5; exact ow
      unfold bodyF at q
      show OkS K _ Fr B _ H (fb (as ++ List.replicate (N.length - ps.length) .un))
      cases e : fb (as ++ List.replicate (N.length - ps.length) .un) with
      | nx ρ => rw [e] at q; exact fun σ' H' st R' => q .non H' st .non (left R')
      | rt d ρ => rw [e] at q; exact fun v σ' H' st R' r => q v H' st r (left R')
      | exc c ρ => rw [e] at q; exact fun σ' H' st R' => q H' st (left R')
      | bad => rw [e] at q; exact q
theorem kn_of {n m : Nat} (FD : FunD K x qual params body scope [] kws f fd) (S : FnScope N ps scope) (hm : mg x = some (.ref f)) (hb : Binds K fd ps []) (hn : ps.length = n) (hN : N.length = m)
    (hbody : ∀ (cd : Value) (A : Around) (outer : List Env) (s : Shared) (H : Hp) (E : XK), Room k (A.deeper (PyProof.Rows.envOfC qual scope s.heap.objs.size f cd)) → DSs (cxD P w K mg base N qual scope f cd A outer s H E) (fun c d _ H => E c d H) body fb) :
    Kn P w K mg base (k + 1) x n (bodyF n m fb) := by
  subst hn hN
  exact ⟨f, fd, ps, fn_ok FD S hbody, hm, FD.kp, hb⟩
end
end DL
set_option Elab.async false
set_option linter.all false
set_option maxRecDepth 100000
set_option maxHeartbeats 2000000
namespace DL
open PySem PySem.Spec L2

/-! ### keys -/
def keyOf : D → Option Key
  | .int i => some (.inl i)
  | .str s => some (.inr s)
  | _ => none
def valD (kvs : List (Key × D)) (k : Key) : Option D := (kvs.find? fun kv => decide (kv.1 = k)).map (·.2)
def putD (kvs : List (Key × D)) (k : Key) (d : D) : List (Key × D) := if (kvs.any fun kv => decide (kv.1 = k)) = true then kvs.map (fun kv => if kv.1 = k then (kv.1, d) else kv) else kvs ++ [(k, d)]
def mergeD (kvs more : List (Key × D)) : List (Key × D) := more.foldl (fun acc kv => putD acc kv.1 kv.2) kvs
section
variable {X : Cx} {W : WX} {K : PySem.W.Frag} {Fr : Addr → Prop} {B : List (Nat × Addr)} {E : Ends} {σ : St} {H H1 : Hp} {ρ ρ1 : Ev} {v : V}
theorem View.key {d : D} {k : Key} (h : View K H v d) (e : keyOf d = some k) : v = kV k := by
  cases d <;> first | (cases e; done) | skip
  · cases e; exact h.int
  · cases e; exact h.str
theorem Dat.key {d : D} {k : Key} (h : Dat K H v d) (e : keyOf d = some k) : v = kV k := (View.dat h).key e
theorem DatK.val {k : Key} : ∀ {vs : List (Key × V)} {ds : List (Key × D)}, DatK K H vs ds → (∀ d, valD ds k = some d → ∃ v, valV vs k = some v ∧ Dat K H v d) ∧ (valD ds k = none → valV vs k = none)
  | _, _, .nil => ⟨fun d e => by simp [valD] at e, fun _ => rfl⟩
  | _, _, .cons (k := j) (v := v) (d := d0) (vs := vs) (ds := ds) h r => by
    obtain ⟨h1, h2⟩ := DatK.val (k := k) r
    by_cases z : j = k
    · have e1 : valD ((j, d0) :: ds) k = some d0 := by simp [valD, List.find?_cons, z]
      have e2 : valV ((j, v) :: vs) k = some v := valV_pos z
      rw [e1, e2]
      exact ⟨fun d e => by cases e; exact ⟨v, rfl, h⟩, fun e => by cases e⟩
    · have e1 : valD ((j, d0) :: ds) k = valD ds k := by simp [valD, List.find?_cons, z]
      have e2 : valV ((j, v) :: vs) k = valV vs k := valV_neg z
      rw [e1, e2]
      exact ⟨h1, h2⟩
theorem DatK.any (p : Key → Bool) : ∀ {vs : List (Key × V)} {ds : List (Key × D)}, DatK K H vs ds → (vs.any fun kv => p kv.1) = (ds.any fun kv => p kv.1)
  | _, _, .nil => rfl
  | _, _, .cons h r => by rw [List.any_cons, List.any_cons, DatK.any p r]
theorem DatK.mapv {k : Key} {d : D} (x : Dat K H v d) : ∀ {vs : List (Key × V)} {ds : List (Key × D)}, DatK K H vs ds → DatK K H (vs.map fun kv => if kv.1 = k then (kv.1, v) else kv) (ds.map fun kv => if kv.1 = k then (kv.1, d) else kv)
  | _, _, .nil => .nil
  | _, _, .cons (k := j) h r => by
    rw [List.map_cons, List.map_cons]
    by_cases z : j = k
    · rw [if_pos z, if_pos z]; exact .cons x (DatK.mapv x r)
    · rw [if_neg z, if_neg z]; exact .cons h (DatK.mapv x r)
theorem DatK.append : ∀ {vs vs' : List (Key × V)} {ds ds' : List (Key × D)}, DatK K H vs ds → DatK K H vs' ds' → DatK K H (vs ++ vs') (ds ++ ds')
  | _, _, _, _, .nil, s => s
  | _, _, _, _, .cons h r, s => .cons h (DatK.append r s)
theorem DatK.put {k : Key} {d : D} {vs : List (Key × V)} {ds : List (Key × D)} (r : DatK K H vs ds) (x : Dat K H v d) : DatK K H (putK vs k v) (putD ds k d) := by
  unfold putK putD
  rw [r.any fun j => decide (j = k)]
  split
  · exact r.mapv x
  · exact r.append (.cons x .nil)
theorem DatK.merge {more : List (Key × V)} {mored : List (Key × D)} (r : DatK K H more mored) : ∀ {vs : List (Key × V)} {ds : List (Key × D)}, DatK K H vs ds → DatK K H (mergeK vs more) (mergeD ds mored) := by
  induction more generalizing mored with
  | nil => intro vs ds h; cases r; exact h
  | cons p more ih =>
    intro vs ds h
    cases r with
    | cons x r => exact ih r (h.put x)

/-! ### a[i] -/
def ixS : D → D → Option D
  | .lst xs, .int i => atI xs i
  | .tup xs, .int i => atI xs i
  | .str z, .int i => if z.length ≤ sizeLine then (atI z.cps.toList i).map fun c => .str ⟨#[c]⟩ else none
  | _, _ => none
def ixD : D → D → Option D
  | .dic kvs, d => (keyOf d).bind (valD kvs)
  | _, _ => none
def ixO : D → D → Option D := orO ixS ixD
theorem DatL.atI {vs : List V} {ds : List D} {i : Int} {d : D} (r : DatL K H vs ds) (e : L2.atI ds i = some d) : ∃ v, L2.atI vs i = some v ∧ Dat K H v d := by
  unfold L2.atI at e ⊢
  rw [r.length]
  cases q : ixN ds.length i with
  | none => rw [q] at e; cases e
  | some j =>
    rw [q] at e
    exact r.get e
theorem ok_ixS : BinOk K (rIx K) ixS := ⟨fun {Fr B σ H ρ x y a b d Q} R va vb e k => by
  unfold ixS at e
  split at e
  · obtain ⟨p, vs, rfl, h, r⟩ := va.lst
    obtain ⟨v, h1, h2⟩ := r.atI e
    rw [vb.int]
    exact .inl ⟨p, vs, _, v, rfl, rfl, h, h1, k v H Step.refl R h2⟩
  · obtain ⟨p, vs, rfl, h, r⟩ := va.tup
    obtain ⟨v, h1, h2⟩ := r.atI e
    rw [vb.int]
    exact .inr (.inl ⟨p, vs, _, v, rfl, rfl, h.sq, h1, k v H Step.refl R h2⟩)
  · split at e
    · rename_i z i hz
      rw [va.str, vb.int]
      cases q : L2.atI z.cps.toList i with
      | none => rw [q] at e; cases e
      | some c => rw [q] at e; cases e; exact .inr (.inr ⟨z, i, c, rfl, rfl, hz, q, k _ H Step.refl R .str⟩)
    · cases e
  · cases e⟩
theorem binF_or {p q : D → D → Option D} {f g : Ev → Out RV} (ρ : Ev) : binF (orO p q) f g ρ = binF p f g ρ ∨ binF (orO p q) f g ρ = binF q f g ρ := by
  unfold binF
  cases f ρ with
  | bad => exact .inl rfl
  | exc => exact .inl rfl
  | val a ρ1 =>
    show (g ρ1).bind _ = (g ρ1).bind _ ∨ (g ρ1).bind _ = (g ρ1).bind _
    cases g ρ1 with
    | bad => exact .inl rfl
    | exc => exact .inl rfl
    | val b ρ2 =>
      show onTwo _ _ _ _ = onTwo _ _ _ _ ∨ onTwo _ _ _ _ = onTwo _ _ _ _
      cases look ρ2 a with
      | none => exact .inl rfl
      | some x =>
        cases look ρ2 b with
        | none => exact .inl rfl
        | some y =>
          show ofO (orO p q x y) ρ2 = ofO (p x y) ρ2 ∨ ofO (orO p q x y) ρ2 = ofO (q x y) ρ2
          unfold orO
          cases p x y with
          | some d => exact .inl rfl
          | none => exact .inr rfl
/-- two readings of one expression, for two operations -/
theorem de_or2 {e : Expr} {t t' : TE} {p q : D → D → Option D} {f g : Ev → Out RV} (h : PE X e t) (h' : PE X e t')
    (s : ∀ (Fr : Addr → Prop) (B : List (Nat × Addr)) (σ : St) (H : Hp) (ρ : Ev) (Q : VK), Rep X.K Fr B σ H ρ → Ok X.K W Fr B σ (relE X.K) Q H (binF p f g ρ) → t σ H Q)
    (s' : ∀ (Fr : Addr → Prop) (B : List (Nat × Addr)) (σ : St) (H : Hp) (ρ : Ev) (Q : VK), Rep X.K Fr B σ H ρ → Ok X.K W Fr B σ (relE X.K) Q H (binF q f g ρ) → t' σ H Q) : DE X W e (binF (orO p q) f g) := by
  refine ⟨_, peOr h h', fun Fr B σ H ρ Q R k => ?_⟩
  rcases binF_or (p := p) (q := q) (f := f) (g := g) ρ with e | e
  · rw [e] at k; exact .inl (s Fr B σ H ρ Q R k)
  · rw [e] at k; exact .inr (s' Fr B σ H ρ Q R k)
theorem onTwo_inv {op : D → D → Option D} {x y : Option D} {Q : VK} (k : Ok K W Fr B σ (relE K) Q H (onTwo op ρ x y)) : ∃ a b d, x = some a ∧ y = some b ∧ op a b = some d ∧ Ok K W Fr B σ (relE K) Q H (.val d ρ) := by
  cases x with
  | none => exact False.elim k
  | some a =>
    cases y with
    | none => exact False.elim k
    | some b =>
      replace k : Ok K W Fr B σ (relE K) Q H (ofO (op a b) ρ) := k
      cases e : op a b with
      | none => rw [e] at k; exact False.elim k
      | some d => rw [e] at k; exact ⟨a, b, d, rfl, rfl, e, k⟩
theorem ixD_inv {a b d : D} (h : ixD a b = some d) : ∃ kvs k, a = .dic kvs ∧ keyOf b = some k ∧ valD kvs k = some d := by
  unfold ixD at h
  split at h
  · cases q : keyOf b with
    | none => rw [q] at h; cases h
    | some k => rw [q] at h; exact ⟨_, k, rfl, rfl, h⟩
  · cases h
theorem de_ix {a b : Expr} {f g : Ev → Out RV} {pos : Pos} (hu : X.A.units + 65 < cLine) (ha : DR X W a f) (hb : DR X W b g) (hs : PlainIx b := by intro _ _; rfl) : DE X W (.Subscript a b pos) (binF ixO f g) := by
  obtain ⟨ta, pa, sa⟩ := ha.ex
  obtain ⟨tb, pb, sb⟩ := hb.ex
  refine de_or2 (pe_ix ix_seq pa pb hs) (pe_dget (by omega) pa pb hs) (sem_bin ok_ixS sa sb) fun Fr B σ H ρ Q R k => ?_
  refine sa Fr B σ H ρ _ R (Ok.bind k fun v H1 a ρ1 st R1 r1 k => sb Fr B σ H1 ρ1 _ R1 (Ok.bind k fun w H2 b ρ2 st2 R2 r2 k => ?_))
  obtain ⟨x, y, d, e1, e2, e3, k⟩ := onTwo_inv k
  obtain ⟨kvs, k', rfl, hk, hv⟩ := ixD_inv e3
  obtain ⟨p, vs, rfl, h, r⟩ := (view_later r1 st2 R2 e1).dic
  obtain ⟨u, h1, h2⟩ := (r.val (k := k')).1 d hv
  exact ⟨p, u, rfl, .inl ⟨vs, k', h, (view_now r2 R2 e2).key hk, h1.symm⟩, k u H2 Step.refl R2 h2⟩

/-! ### in, not in: dicts too -/
def inD : D → D → Option D := fun a b => match b with
  | .dic kvs => (keyOf a).map fun k => .bl (valD kvs k).isSome
  | _ => none
def ninD : D → D → Option D := notO inD
theorem inD_inv {a b d : D} (h : inD a b = some d) : ∃ kvs k, b = .dic kvs ∧ keyOf a = some k ∧ d = .bl (valD kvs k).isSome := by
  unfold inD at h
  split at h
  · cases q : keyOf a with
    | none => rw [q] at h; cases h
    | some k => rw [q] at h; cases h; exact ⟨_, k, rfl, rfl, rfl⟩
  · cases h
theorem DatK.has {k : Key} {vs : List (Key × V)} {ds : List (Key × D)} (r : DatK K H vs ds) : (valV vs k).isSome = (valD ds k).isSome := by
  obtain ⟨h1, h2⟩ := r.val (k := k)
  cases e : valD ds k with
  | none => rw [h2 e]; rfl
  | some d => obtain ⟨v, h, _⟩ := h1 d e; rw [h]; rfl
def inA : D → D → Option D := orO inO inD
def ninA : D → D → Option D := orO ninO ninD
section
variable {a b : Expr} {f g : Ev → Out RV} {pos : Pos}
theorem pe_inD (hu : X.A.units + 65 < cLine) {ta tb : TE} (pa : PE X a ta) (pb : PE X b tb) (hm : behindInMarks .In b = false) : PE X (.Compare a [.In] [b] pos) (tDIn ta tb) := pe_cmp (pc_din (by omega) pa pb) hm
theorem de_inA (hu : X.A.units + 65 < cLine) (ha : DR X W a f) (hb : DR X W b g) (hm : behindInMarks .In b = false := by rfl) : DE X W (.Compare a [.In] [b] pos) (binF inA f g) := by
  obtain ⟨ta, pa, sa⟩ := ha.ex
  obtain ⟨tb, pb, sb⟩ := hb.ex
  obtain ⟨t, p, s⟩ := (de_in (pos := pos) hu ha hb hm).ex
  refine de_or2 p (pe_cmp (pc_din (by omega) pa pb) hm) s fun Fr B σ H ρ Q R k => ?_
  refine sa Fr B σ H ρ _ R (Ok.bind k fun v H1 a ρ1 st R1 r1 k => sb Fr B σ H1 ρ1 _ R1 (Ok.bind k fun w H2 b ρ2 st2 R2 r2 k => ?_))
  obtain ⟨x, y, d, e1, e2, e3, k⟩ := onTwo_inv k
  obtain ⟨kvs, k', rfl, hk, rfl⟩ := inD_inv e3
  obtain ⟨p, vs, rfl, h, r⟩ := (view_now r2 R2 e2).dic
  exact ⟨p, _, rfl, .inl ⟨vs, k', h, (view_later r1 st2 R2 e1).key hk, rfl⟩, by rw [r.has]; exact k _ H2 Step.refl R2 .bl⟩
theorem de_ninA (hu : X.A.units + 65 < cLine) (ha : DR X W a f) (hb : DR X W b g) (hm : behindInMarks .NotIn b = false := by rfl) : DE X W (.Compare a [.NotIn] [b] pos) (binF ninA f g) := by
  obtain ⟨ta, pa, sa⟩ := ha.ex
  obtain ⟨tb, pb, sb⟩ := hb.ex
  obtain ⟨t, p, s⟩ := (de_nin (pos := pos) hu ha hb hm).ex
  refine de_or2 p (pe_cmp (pc_dnotin (by omega) pa pb) hm) s fun Fr B σ H ρ Q R k => ?_
  refine sa Fr B σ H ρ _ R (Ok.bind k fun v H1 a ρ1 st R1 r1 k => sb Fr B σ H1 ρ1 _ R1 (Ok.bind k fun w H2 b ρ2 st2 R2 r2 k => ?_))
  obtain ⟨x, y, d, e1, e2, e3, k⟩ := onTwo_inv k
  obtain ⟨c, e4, rfl⟩ := notO_inv e3
  obtain ⟨kvs, k', rfl, hk, e5⟩ := inD_inv e4
  cases e5
  obtain ⟨p, vs, rfl, h, r⟩ := (view_now r2 R2 e2).dic
  exact ⟨p, _, rfl, .inl ⟨vs, k', h, (view_later r1 st2 R2 e1).key hk, rfl⟩, by rw [r.has]; exact k _ H2 Step.refl R2 .bl⟩
theorem ptOr {e : Expr} {t t' : TT} (h : PT X e t) (h' : PT X e t') : PT X e (fun σ H Q => t σ H Q ∨ t' σ H Q) := ⟨fun pins s σ H Q I k => k.elim (h.run pins s σ H Q I) (h'.run pins s σ H Q I)⟩
theorem dt_or2 {e : Expr} {t t' : TT} {p q : D → D → Option D} (h : PT X e t) (h' : PT X e t')
    (s : ∀ (Fr : Addr → Prop) (B : List (Nat × Addr)) (σ : St) (H : Hp) (ρ : Ev) (Q : Bool → Hp → Prop), Rep X.K Fr B σ H ρ → Ok X.K W Fr B σ relT Q H (tstF (binF p f g) ρ) → t σ H Q)
    (s' : ∀ (Fr : Addr → Prop) (B : List (Nat × Addr)) (σ : St) (H : Hp) (ρ : Ev) (Q : Bool → Hp → Prop), Rep X.K Fr B σ H ρ → Ok X.K W Fr B σ relT Q H (tstF (binF q f g) ρ) → t' σ H Q) : DT X W e (tstF (binF (orO p q) f g)) := by
  refine ⟨_, ptOr h h', fun Fr B σ H ρ Q R k => ?_⟩
  unfold tstF at k
  rcases binF_or (p := p) (q := q) (f := f) (g := g) ρ with e | e
  · rw [e] at k; exact .inl (s Fr B σ H ρ Q R k)
  · rw [e] at k; exact .inr (s' Fr B σ H ρ Q R k)
theorem dt_inA (hu : X.A.units + 65 < cLine) (ha : DR X W a f) (hb : DR X W b g) (hm : behindInMarks .In b = false := by rfl) : DT X W (.Compare a [.In] [b] pos) (tstF (binF inA f g)) := by
  obtain ⟨ta, pa, sa⟩ := ha.ex
  obtain ⟨tb, pb, sb⟩ := hb.ex
  obtain ⟨t, p, s⟩ := (dt_in (pos := pos) hu ha hb hm).ex
  refine dt_or2 p (pt_cmp (pc_din (by omega) pa pb) hm) s (sem_tst fun Fr B σ H ρ Q R k => ?_)
  refine sa Fr B σ H ρ _ R (Ok.bind k fun v H1 a ρ1 st R1 r1 k => sb Fr B σ H1 ρ1 _ R1 (Ok.bind k fun w H2 b ρ2 st2 R2 r2 k => ?_))
  obtain ⟨x, y, d, e1, e2, e3, k⟩ := onTwo_inv k
  obtain ⟨kvs, k', rfl, hk, rfl⟩ := inD_inv e3
  obtain ⟨p, vs, rfl, h, r⟩ := (view_now r2 R2 e2).dic
  exact ⟨p, _, rfl, .inl ⟨vs, k', h, (view_later r1 st2 R2 e1).key hk, rfl⟩, by rw [r.has]; exact k _ H2 Step.refl R2 .bl⟩
theorem dt_ninA (hu : X.A.units + 65 < cLine) (ha : DR X W a f) (hb : DR X W b g) (hm : behindInMarks .NotIn b = false := by rfl) : DT X W (.Compare a [.NotIn] [b] pos) (tstF (binF ninA f g)) := by
  obtain ⟨ta, pa, sa⟩ := ha.ex
  obtain ⟨tb, pb, sb⟩ := hb.ex
  obtain ⟨t, p, s⟩ := (dt_nin (pos := pos) hu ha hb hm).ex
  refine dt_or2 p (pt_cmp (pc_dnotin (by omega) pa pb) hm) s (sem_tst fun Fr B σ H ρ Q R k => ?_)
  refine sa Fr B σ H ρ _ R (Ok.bind k fun v H1 a ρ1 st R1 r1 k => sb Fr B σ H1 ρ1 _ R1 (Ok.bind k fun w H2 b ρ2 st2 R2 r2 k => ?_))
  obtain ⟨x, y, d, e1, e2, e3, k⟩ := onTwo_inv k
  obtain ⟨c, e4, rfl⟩ := notO_inv e3
  obtain ⟨kvs, k', rfl, hk, e5⟩ := inD_inv e4
  cases e5
  obtain ⟨p, vs, rfl, h, r⟩ := (view_now r2 R2 e2).dic
  exact ⟨p, _, rfl, .inl ⟨vs, k', h, (view_later r1 st2 R2 e1).key hk, rfl⟩, by rw [r.has]; exact k _ H2 Step.refl R2 .bl⟩
end

/-! ### a[lo:hi] -/
structure DP (X : Cx) (W : WX) (e : Option Expr) (f : Ev → Out (Option Int)) : Prop where
  ex : ∃ t, PO X e t ∧ ∀ (Fr : Addr → Prop) (B : List (Nat × Addr)) (σ : St) (H : Hp) (ρ : Ev) (Q : Option Int → Hp → Prop), Rep X.K Fr B σ H ρ → Ok X.K W Fr B σ (fun o _ o' _ => o' = o) Q H (f ρ) → t σ H Q
def noPF : Ev → Out (Option Int) := fun ρ => .val none ρ
def partF (f : Ev → Out D) : Ev → Out (Option Int) := fun ρ => (f ρ).bind fun d ρ1 => match d with
  | .int i => .val (some i) ρ1
  | _ => .bad
theorem dp_none : DP X W none noPF := ⟨_, po_none, fun Fr B σ H ρ Q R k => k none H Step.refl R rfl⟩
theorem dp_some {e : Expr} {f : Ev → Out D} (h : DE X W e f) : DP X W (some e) (partF f) := by
  obtain ⟨t, p, s⟩ := h.ex
  refine ⟨_, po_some p, fun Fr B σ H ρ Q R k => s Fr B σ H ρ _ R (Ok.bind k fun v H1 d ρ1 st R1 r k => ?_)⟩
  cases (show Dat _ _ _ _ from r) <;> first | exact False.elim k | exact ⟨_, rfl, k _ H1 Step.refl R1 rfl⟩
def cutD (xs : List D) (lo hi : Option Int) : List D := (xs.drop (HT.sIx xs.length 0 lo)).take (HT.sIx xs.length xs.length hi - HT.sIx xs.length 0 lo)
def slO (d : D) (lo hi : Option Int) : Option D := match d with
  | .lst xs => some (.lst (cutD xs lo hi))
  | .str z => if z.length ≤ sizeLine then some (.str (cutS z lo hi)) else none
  | _ => none
def slF (f : Ev → Out D) (g h : Ev → Out (Option Int)) : Ev → Out D := fun ρ => (f ρ).bind fun d ρ1 => (g ρ1).bind fun lo ρ2 => (h ρ2).bind fun hi ρ3 => ofO (slO d lo hi) ρ3
theorem DatL.cut {vs : List V} {ds : List D} (r : DatL K H vs ds) (lo hi : Option Int) : DatL K H (cutV vs lo hi) (cutD ds lo hi) := by
  unfold cutV cutD
  rw [r.length]
  exact (r.drop _).take _
theorem de_slice {e : Expr} {lo hi : Option Expr} {f : Ev → Out D} {g h : Ev → Out (Option Int)} {p2 pos : Pos} (he : DE X W e f) (hl : DP X W lo g) (hh : DP X W hi h) : DE X W (.Subscript e (.Slice lo hi none p2) pos) (slF f g h) := by
  obtain ⟨te, pe, se⟩ := he.ex
  obtain ⟨tl, pl, sl⟩ := hl.ex
  obtain ⟨th, ph, sh⟩ := hh.ex
  refine ⟨_, pe_frz (pe_slice (SlR.or sl_list sl_str) pe pl ph), fun Fr B σ H ρ Q R k => se Fr B σ H ρ _ R (Ok.bind k fun v H1 d ρ1 st R1 r k => sl Fr B σ H1 ρ1 _ R1 (Ok.bind k fun lo H2 lo' ρ2 st2 R2 r2 k => sh Fr B σ H2 ρ2 _ R2 (Ok.bind k fun hi H3 hi' ρ3 st3 R3 r3 k => ?_)))⟩
  have r2 : lo = lo' := r2
  have r3 : hi = hi' := r3
  subst r2 r3
  have r4 : Dat X.K H3 v d := (Dat.mono st2.mono r).mono st3.mono
  unfold slO at k
  split at k
  · cases r4 with
    | lst h' r' => exact .inl ⟨_, _, rfl, h'.sq, fun p hp => new_frz R3 hp True.intro (fun z => z) (dat_lst_new hp (r'.cut lo hi)) k⟩
  · split at k
    · cases r4
      exact .inr ⟨_, rfl, by assumption, .inl (k _ H3 Step.refl R3 .str)⟩
    · exact False.elim k
  · exact False.elim k

/-! ### lists of one's own: append, pop, extend -/
def appE (i : Nat) (f : Ev → Out D) : Ev → Out D := fun ρ => match ρ[i]? with
  | some (.ow _ (.l _)) => (f ρ).bind fun d ρ1 => match ρ1[i]? with
    | some (.ow r (.l xs)) => if xs.length < sizeLine then .val .non (ρ1.set i (.ow r (.l (xs ++ [d])))) else .bad
    | _ => .bad
  | _ => .bad
theorem slot_l {i : Nat} {r : Bool} {xs : List D} (R : Rep K Fr B σ H ρ) (e : ρ[i]? = some (.ow r (.l xs))) : ∃ p vs, σ[i]? = some (some (V.ref p)) ∧ H p = some (.lst vs) ∧ DatL K H vs xs := by
  obtain ⟨p, h1, vs, h2, h3⟩ := R.own e
  exact ⟨p, vs, h1, h2, h3⟩
theorem slot_write {i : Nat} {r : Bool} {o o' : OD} {p : Addr} {u w : HO} (R : Rep K Fr B σ H ρ) (e : ρ[i]? = some (.ow r o)) (ep : σ[i]? = some (some (V.ref p))) (hp : H p = some w) (nw : ¬ Imm w) (h : Own K (upd H p u) p o') : Rep K Fr B σ (upd H p u) (ρ.set i (.ow r o')) ∧ Step Fr H (upd H p u) :=
  ⟨R.write e ep h fun z q => by rw [hp] at q; cases q; exact nw, Step.other (R.notFr e ep) hp nw⟩
theorem de_append {i : Nat} {o e : Expr} {f : Ev → Out D} {apos cpos : Pos} (ho : PE X o (tVar i)) (h : DE X W e f)
    (hbase : attributeBase o "append" X.env (eval o X.env) = eval o X.env := by rfl)
    (hfew : ((backTo cpos (starEach (e :: []) X.env)).all (fun x => !x.1) && (backToKw cpos (keywordEach [] X.env)).all (fun x => x.1.isSome)
      && decide ((e :: []).length + ([] : List Keyword).length + (if ([] : List Keyword).isEmpty then 0 else 1) < 30)) = true := by rfl)
    (hline : (apos.endLine == cpos.line) = true := by rfl) (hs : starEach (e :: []) X.env = (false, eval e X.env) :: starEach [] X.env := by rfl) (hplain : (backTo cpos (starEach [] X.env)).any (·.1) = false := by rfl) :
    DE X W (.Call (.Attribute o "append" apos) [e] [] cpos) (appE i f) := by
  obtain ⟨t, p, s⟩ := h.ex
  refine ⟨_, pe_bm PySem.F.plainAttrs_list PySem.F.slot_list_append PySem.F.type_list_append mt_append ho (pa_cons p pa_nil hs) hbase hfew hline hs hplain, fun Fr B σ H ρ Q R k => ?_⟩
  unfold appE at k
  split at k
  · rename_i r0 xs0 q0
    obtain ⟨p0, vs0, e0, h0, _⟩ := slot_l R q0
    refine ⟨_, e0, .inl ⟨rfl, vs0, .inl (.inl h0)⟩, s Fr B σ H ρ _ R (Ok.bind k fun v H1 d ρ1 st R1 r1 k => ?_)⟩
    split at k
    · rename_i r xs q
      obtain ⟨p1, vs, e1, h1, rd⟩ := slot_l R1 q
      rw [e0] at e1; cases e1
      split at k
      · rename_i hz
        have w : Own X.K (upd H1 p0 (.lst (vs ++ [v]))) p0 (.l (xs ++ [d])) := by
          have m : Mono H1 (upd H1 p0 (.lst (vs ++ [v]))) := Mono.upd fun z q => by rw [h1] at q; cases q; exact fun z => z
          exact ⟨_, upd_same, (rd.mono m).append (.cons (Dat.mono m r1) .nil)⟩
        obtain ⟨R2, s2⟩ := slot_write R1 q e0 h1 (fun z => z) w
        exact ⟨p0, vs, v, rfl, rfl, h1, by rw [rd.length]; exact hz, k .non _ s2 R2 .non⟩
      · exact False.elim k
    · exact False.elim k
  · exact False.elim k
def popE (i : Nat) : Ev → Out D := fun ρ => match ρ[i]? with
  | some (.ow r (.l xs)) => match xs[xs.length - 1]? with
    | some d => .val d (ρ.set i (.ow r (.l xs.dropLast)))
    | none => .bad
  | _ => .bad
theorem de_pop {i : Nat} {o : Expr} {apos cpos : Pos} (ho : PE X o (tVar i)) (hbase : attributeBase o "pop" X.env (eval o X.env) = eval o X.env := by rfl) (hline : (apos.endLine == cpos.line) = true := by rfl) :
    DE X W (.Call (.Attribute o "pop" apos) [] [] cpos) (popE i) := by
  refine ⟨_, pe_bm0 PySem.F.plainAttrs_list PySem.F.slot_list_pop PySem.F.type_list_pop mt_pop ho hbase hline, fun Fr B σ H ρ Q R k => ?_⟩
  unfold popE at k
  split at k
  · rename_i r xs q
    split at k
    · rename_i d hd
      obtain ⟨p, vs, e1, h1, rd⟩ := slot_l R q
      obtain ⟨v, hv, rv⟩ := rd.get hd
      have m : Mono H (upd H p (.lst vs.dropLast)) := Mono.upd fun z q => by rw [h1] at q; cases q; exact fun z => z
      obtain ⟨R2, s2⟩ := slot_write (o' := .l xs.dropLast) R q e1 h1 (fun z => z) ⟨_, upd_same, (rd.mono m).dropLast⟩
      exact ⟨_, e1, .inl ⟨rfl, vs, .inl (.inl h1)⟩, p, vs, v, rfl, rfl, h1, by rw [rd.length]; exact hv, k v _ s2 R2 (rv.mono m)⟩
    · exact False.elim k
  · exact False.elim k

/-! ### d[k] = v, xs[i] = v -/
def putAt (i : Nat) (fk fv : Ev → Out D) : Ev → SOut := fun ρ => bindS (fv ρ) fun d ρ1 => match ρ1[i]? with
  | some (.ow _ _) => bindS (fk ρ1) fun kd ρ2 => match ρ2[i]?, keyOf kd with
    | some (.ow r (.d kvs)), some k => if kvs.length < sizeLine then .nx (ρ2.set i (.ow r (.d (putD kvs k d)))) else .bad
    | _, _ => .bad
  | _ => .bad
theorem ds_put {i : Nat} {o e value : Expr} {fk fv : Ev → Out D} {pos pos' : Pos} (hu : X.A.units + 65 < cLine) (ho : PE X o (tVar i)) (hk : DE X W e fk) (hv : DE X W value fv) (hs : swapsWith value (some (.Subscript o e pos')) pos.line X.env = pure false := by rfl) :
    DS X W (.Assign [.Subscript o e pos'] value pos) (putAt i fk fv) := by
  refine ⟨psImp (ps_dput (by omega) ho hk.can hv.can hs) fun E σ H ⟨Fr, B, ρ, R, k⟩ => ⟨Fr, B, ρ, R, OkS.bind k fun v H1 d ρ1 st R1 r1 k => ?_⟩⟩
  split at k
  · rename_i r0 o0 q0
    obtain ⟨p, ep, _⟩ := R1.own q0
    refine ⟨_, ep, Fr, B, ρ1, R1, OkS.bind k fun kv H2 kd ρ2 st2 R2 r2 k => ?_⟩
    split at k
    · rename_i r kvs k' q ek
      obtain ⟨p2, ep2, vs, hp, rd⟩ := R2.own q
      rw [ep] at ep2; cases ep2
      split at k
      · rename_i hz
        have r1' : Dat X.K H2 v d := Dat.mono st2.mono r1
        have m : Mono H2 (upd H2 p (.dK (putK vs k' v))) := Mono.upd fun z q => by rw [hp] at q; cases q; exact fun z => z
        have w : Own X.K (upd H2 p (.dK (putK vs k' v))) p (.d (putD kvs k' d)) := ⟨_, upd_same, (rd.mono m).put (r1'.mono m)⟩
        obtain ⟨R3, s3⟩ := slot_write R2 q ep hp (fun z => z) w
        exact ⟨p, _, rfl, .inl ⟨vs, k', hp, Dat.key r2 ek, by rw [rd.length]; exact hz, rfl⟩, k σ _ s3 R3⟩
      · exact False.elim k
    · exact False.elim k
  · exact False.elim k

/-! ### dict(..) -/
def pairD : D → Option (Key × D)
  | .tup [k, v] => (keyOf k).map fun k => (k, v)
  | _ => none
def pairsD : List D → Option (List (Key × D))
  | [] => some []
  | d :: ds => match pairD d, pairsD ds with
    | some p, some ps => some (p :: ps)
    | _, _ => none
theorem pairD_inv {v : V} {d : D} {p : Key × D} (h : Dat K H v d) (e : pairD d = some p) : ∃ a w, v = .ref a ∧ TupP K H a [kV p.1, w] ∧ Dat K H w p.2 := by
  unfold pairD at e
  split at e
  · rename_i k x
    cases q : keyOf k with
    | none => rw [q] at e; cases e
    | some k' =>
      rw [q] at e; cases e
      cases h with
      | tup ht r =>
        cases r with
        | cons h1 r =>
          cases r with
          | cons h2 r =>
            cases r
            rw [h1.key q] at ht
            exact ⟨_, _, rfl, ht, h2⟩
  · cases e
theorem pairs_all : ∀ {vs : List V} {ds : List D} {ps : List (Key × D)}, DatL K H vs ds → pairsD ds = some ps → ∃ (as : List Addr) (kvs : List (Key × V)), vs = as.map V.ref ∧ Paired (fun p (kv : Key × V) => SqT K H p [kV kv.1, kv.2]) as kvs ∧ DatK K H kvs ps
  | _, _, _, .nil, e => by cases e; exact ⟨[], [], rfl, .nil, .nil⟩
  | _, _, _, .cons (d := d) (ds := ds) h r, e => by
    unfold pairsD at e
    cases q : pairD d with
    | none => rw [q] at e; cases e
    | some p =>
      cases q2 : pairsD ds with
      | none => rw [q, q2] at e; cases e
      | some ps =>
        rw [q, q2] at e; cases e
        obtain ⟨a, w, rfl, h1, h2⟩ := pairD_inv h q
        obtain ⟨as, kvs, rfl, h3, h4⟩ := pairs_all r q2
        exact ⟨a :: as, (p.1, w) :: kvs, rfl, .cons h1.sq h3, .cons h2 h4⟩
def dictD : D → Option OD
  | .lst xs => (pairsD xs).map fun ps => .d (mergeD [] ps)
  | .tup xs => (pairsD xs).map fun ps => .d (mergeD [] ps)
  | .dic kvs => some (.d kvs)
  | _ => none
def rDictO (K : PySem.W.Frag) : V → Hp → VK → Prop := fun x H Q =>
  (∃ (a : Addr) (ps : List Addr) (kvs : List (Key × V)), x = .ref a ∧ SqL K H a (ps.map V.ref) ∧ Paired (fun p (kv : Key × V) => SqT K H p [kV kv.1, kv.2]) ps kvs ∧ ∀ p, H p = none → Q (.ref p) (upd H p (.dK (mergeK [] kvs)))) ∨
  (∃ (a : Addr) (ps : List Addr) (kvs : List (Key × V)), x = .ref a ∧ TupP K H a (ps.map V.ref) ∧ Paired (fun p (kv : Key × V) => SqT K H p [kV kv.1, kv.2]) ps kvs ∧ ∀ p, H p = none → Q (.ref p) (upd H p (.dK (mergeK [] kvs)))) ∨
  ∃ a kvs, x = .ref a ∧ Rd H a (.dK kvs) ∧ ∀ p, H p = none → Q (.ref p) (upd H p (.dK kvs))
theorem plain_tup {pins : List (Addr × Obj)} {s : Shared} {a : Addr} {xs : List V} (I : Inv X pins σ H s) (h : TupP X.K H a xs) : ∃ its : List Value, Vals xs its ∧ PlainSeq "tuple" s.heap a its.toArray ∧ xs.length ≤ sizeLine := by
  rcases h with ⟨o, h, hd⟩ | ⟨o, its, n, h1, h2, h3, h4, h5, h6⟩
  · obtain ⟨ho, hz, its, r, p⟩ := (show ObjOk X.prog X.w H s.heap a (.frz o (.tup xs)) from I.hok a _ h)
    obtain ⟨o', e1, e2, n, e3⟩ := p
    rw [ho] at e1; cases e1
    exact ⟨its, r, ⟨o, n, ho, e2, hd, e3⟩, hz⟩
  · refine ⟨its.toList, h6, ⟨o, n, I.kIn a o h1, h2, h3, by simpa using h4⟩, ?_⟩
    have e := h6.length
    simp only [Array.length_toList] at e
    omega
theorem pairs_ofT {pins : List (Addr × Obj)} {s : Shared} (I : Inv X pins σ H s) : ∀ {ps : List Addr} {kvs : List (Key × V)}, Paired (fun p (kv : Key × V) => SqT X.K H p [kV kv.1, kv.2]) ps kvs →
    ∃ (prs : List (Key × Value)) (us : List (Value × Value)), KV kvs prs ∧ prs.length = ps.length ∧ us.length = ps.length ∧ ∀ (j : Nat) (u v : Value), us[j]? = some (u, v) → ∃ (k : Key) (b : Addr), prs[j]? = some (k, v) ∧ ps[j]? = some b ∧ PyProof.Rows.IsTup s.heap b #[u, v] ∧ keyIs k u = true
  | _, _, .nil => ⟨[], [], .nil, rfl, rfl, fun j u v e => by simp at e⟩
  | _, _, .cons (a := p) (b := kv) h t => by
    obtain ⟨prs, us, r, hl, hl2, hp⟩ := pairs_ofT I t
    obtain ⟨its, rv, ht, _⟩ := I.tuple h
    obtain ⟨u, y, ei, ru, ry⟩ := vals2 rv
    subst ei
    refine ⟨(kv.1, y) :: prs, (u, y) :: us, .cons ⟨rfl, ry⟩ r, by rw [List.length_cons, List.length_cons, hl], by rw [List.length_cons, List.length_cons, hl2], fun j u' v' e => ?_⟩
    cases j with
    | zero =>
      have e' : (u, y) = (u', v') := Option.some.inj e
      cases e'
      exact ⟨kv.1, p, rfl, rfl, ht, kV_is (P := X.prog) (w := X.w) ru⟩
    | succ j =>
      obtain ⟨k, b, e1, e2, e3⟩ := hp j u' v' (by simpa using e)
      exact ⟨k, b, by simpa using e1, by simpa using e2, e3⟩
theorem call_dictT (hcalm : X.calm = true) {pins : List (Addr × Obj)} {s : Shared} {a : Addr} {ps : List Addr} {kvs : List (Key × V)} {Q : VK} (I : Inv X pins σ H s) (hq : TupP X.K H a (ps.map V.ref)) (hp : Paired (fun p (kv : Key × V) => SqT X.K H p [kV kv.1, kv.2]) ps kvs)
    (q : ∀ p, H p = none → Q (.ref p) (upd H p (.dK (mergeK [] kvs)))) : wpAny (model X.prog X.w) X.A (call (.type "dict") [.ref a]) (EP X pins σ Q) X.xe s := by
  obtain ⟨its, rv, pl, hz⟩ := plain_tup I hq
  have ei := refs_at rv
  subst ei
  rw [List.length_map] at hz
  obtain ⟨prs, us, rel, hl, hl2, hpr⟩ := pairs_ofT I hp
  refine _root_.PySem.call_dict_pairs (knd := mixKind X.prog X.w) (kvs := prs) (PairArg.tuple a (ps.map Value.ref).toArray (fun j => ps.getD j 0) us) (I.ok.hd hcalm) ⟨pl, by simp [hl2], fun j u v e => ?_⟩ ⟨by rw [hl, hl2], fun j u v e => ?_⟩ (by rw [hl2]; exact hz) fun h' tk hd' k => ?_
  · obtain ⟨k, b, e1, e2, e3, e4⟩ := hpr j u v e
    refine ⟨by simp [e2], .inl ?_⟩
    have e5 : ps.getD j 0 = b := by simp [e2]
    show s.heap.IsTuple (ps.getD j 0) #[u, v]
    rw [e5]; exact e3
  · obtain ⟨k, b, e1, e2, e3, e4⟩ := hpr j u v e
    exact ⟨k, e1, e4⟩
  · have hm : (s.heap.objs.size == sysModules) = false := beq_eq_false_iff_ne.mpr (Nat.ne_of_gt I.big)
    have hlen : (mergeK [] kvs).length ≤ sizeLine := by
      refine Nat.le_trans (length_mergeK kvs []) ?_
      rw [List.length_nil, Nat.zero_add, rel.length, hl]
      exact hz
    exact ⟨.ref s.heap.objs.size, upd H s.heap.objs.size (.dK (mergeK [] kvs)), I.laid (t' := tk) (fun b o e => k b o (by simp) e) (Nat.le_refl _) (show ObjOk X.prog X.w _ _ _ (.dK (mergeK [] kvs)) from ⟨hlen, hm, PySem.merged [] prs, KV.merge rel .nil, hd'⟩), rfl, q _ (I.hok.fresh (Nat.le_refl _))⟩
theorem call_dictR (hc : X.calm = true) : CallR X (.type "dict") (rOne (rDictO X.K)) := by
  intro pins s σ H xs us Q I r h
  obtain ⟨x, rfl, h⟩ := h
  rcases h with ⟨a, ps, kvs, rfl, h1, h2, q⟩ | ⟨a, ps, kvs, rfl, h1, h2, q⟩ | ⟨a, kvs, rfl, h1, q⟩
  · exact call_dictP hc pins s σ H _ us Q I r ⟨a, ps, kvs, rfl, h1, h2, q⟩
  · obtain ⟨u, rfl, rx⟩ := Vals.one r
    cases rx
    exact call_dictT hc I h1 h2 q
  · obtain ⟨u, rfl, rx⟩ := Vals.one r
    cases rx
    exact d_copyOf I h1 fun p s' hp I' => ⟨.ref p, _, I', rfl, q p hp⟩
theorem ok_dict : UnNew K (rDictO K) dictD := ⟨fun {Fr B σ H ρ x a d Q} R va e k => by
  unfold dictD at e
  split at e
  · rename_i xs
    cases q : pairsD xs with
    | none => rw [q] at e; cases e
    | some ps =>
      rw [q] at e; cases e
      obtain ⟨p, vs, rfl, h, r⟩ := va.lst
      obtain ⟨as, kvs, rfl, h1, h2⟩ := pairs_all r q
      exact .inl ⟨p, as, kvs, rfl, h, h1, fun p hp => k _ _ (Step.new R hp) (R.new hp) ⟨p, rfl, own_dic hp (h2.merge .nil), R.fresh hp⟩⟩
  · rename_i xs
    cases q : pairsD xs with
    | none => rw [q] at e; cases e
    | some ps =>
      rw [q] at e; cases e
      obtain ⟨p, vs, rfl, h, r⟩ := va.tup
      obtain ⟨as, kvs, rfl, h1, h2⟩ := pairs_all r q
      exact .inr (.inl ⟨p, as, kvs, rfl, h, h1, fun p hp => k _ _ (Step.new R hp) (R.new hp) ⟨p, rfl, own_dic hp (h2.merge .nil), R.fresh hp⟩⟩)
  · cases e
    obtain ⟨p, vs, rfl, h, r⟩ := va.dic
    exact .inr (.inr ⟨p, vs, rfl, h, fun p hp => k _ _ (Step.new R hp) (R.new hp) ⟨p, rfl, own_dic hp r, R.fresh hp⟩⟩)
  · cases e⟩

/-! ### isinstance -/
/-- the type's name, as data says it -/
def tyD : D → Option String
  | .non => some "NoneType"
  | .bl _ => some "bool"
  | .int _ => some "int"
  | .str _ => some "str"
  | .tup _ => some "tuple"
  | .lst _ => some "list"
  | .dic _ => some "dict"
  | .exc _ => none
def isiD (T : String) (d : D) : Option D := match d, tyD d with
  | .bl _, _ => some (.bl (T == "bool" || T == "int"))
  | _, some t => some (.bl (t == T))
  | _, none => none
end
end DL
set_option Elab.async false
set_option linter.all false
set_option maxRecDepth 100000
set_option maxHeartbeats 2000000
namespace DL
open PySem PySem.Spec L2
section
variable {X : Cx} {W : WX} {K : PySem.W.Frag} {Fr : Addr → Prop} {B : List (Nat × Addr)} {E : Ends} {σ : St} {H H1 : Hp} {ρ ρ1 : Ev} {v : V}

/-! ### isinstance -/
structure IsT (T : String) : Prop where
  ok : ∀ d t, tyD d = some t → ∃ b, kitB t T = some b ∧ isiD T d = some (.bl b)
theorem isT_of {T : String} (h : ∀ t ∈ ["NoneType", "bool", "int", "str", "tuple", "list", "dict"], kitB t T = some (if t = "bool" then (T == "bool" || T == "int") else t == T)) : IsT T := ⟨fun d t e => by
  have g : ∀ (t : String), t ∈ ["NoneType", "bool", "int", "str", "tuple", "list", "dict"] → isiD T d = some (.bl (if t = "bool" then (T == "bool" || T == "int") else t == T)) → ∃ b, kitB t T = some b ∧ isiD T d = some (.bl b) := fun t ht e => ⟨_, h t ht, e⟩
  cases d <;> cases e <;> refine g _ (by decide) rfl⟩
theorem isT_int : IsT "int" := isT_of (by decide +kernel)
theorem isT_bool : IsT "bool" := isT_of (by decide +kernel)
theorem isT_str : IsT "str" := isT_of (by decide +kernel)
theorem isT_tuple : IsT "tuple" := isT_of (by decide +kernel)
theorem isT_list : IsT "list" := isT_of (by decide +kernel)
theorem isT_dict : IsT "dict" := isT_of (by decide +kernel)
theorem View.ty {d : D} {t : String} (h : View K H v d) (e : tyD d = some t) : TyX K H v (.type t) := by
  cases h with
  | dat h =>
    cases h with
    | non => cases e; exact .base .non
    | bl => cases e; exact .base (.bl _)
    | int => cases e; exact .base (.int _)
    | str => cases e; exact .base (.str _)
    | tup h r =>
      cases e
      rcases h with ⟨o, h, _⟩ | ⟨o, its, n, h1, h2, _⟩
      · exact .fTuple h
      · exact .kTuple h1 h2
    | lst h r =>
      cases e
      rcases h with ⟨o, h⟩ | ⟨o, its, n, h1, h2, _⟩
      · exact .base (.frz h)
      · exact .kList h1 h2
    | dic h r => cases e; exact .fDict h
  | @own p o h =>
    cases o with
    | l xs => cases e; obtain ⟨vs, h, _⟩ := h; exact .base (.lst h)
    | d xs => cases e; obtain ⟨vs, h, _⟩ := h; exact .base (.dK h)
theorem tyD_isi {T : String} {d d' : D} (e : isiD T d = some d') : ∃ t, tyD d = some t := by
  cases d <;> first | exact ⟨_, rfl⟩ | (cases e; done)
def rIsiO (K : PySem.W.Frag) (T : String) : List V → Hp → VK → Prop := fun xs H Q => ∃ x, xs = [x, .ty T] ∧ ∃ (t : String) (b : Bool), TyX K H x (.type t) ∧ kitB t T = some b ∧ Q (.bl b) H
theorem de_isi {a : Expr} {T : String} {f : Ev → Out RV} {x : Str} {p p2 pos : Pos} (hT : IsT T) (hg : Gl X "isinstance") (hm : X.mg "isinstance" = none) (hg2 : Gl X x) (hm2 : X.mg x = none) (hv : bootBuiltins x = some (.type T)) (ha : DR X W a f) (hn : x ≠ "__name__" := by decide) (hdb : (x == ("__debug__" : Str)) = false := by decide)
    (he : starEach [a, .Name x p2] X.env = (false, eval a X.env) :: starEach [.Name x p2] X.env := by rfl) (he2 : starEach [.Name x p2] X.env = (false, eval (.Name x p2) X.env) :: starEach [] X.env := by rfl) (hpl : (backTo pos (starEach [.Name x p2] X.env)).any (·.1) = false := by rfl) :
    DE X W (.Call (.Name "isinstance" p) [a, .Name x p2] [] pos) (unF (isiD T) f) := by
  obtain ⟨t, pa, s⟩ := ha.ex
  have hb : PE X (.Name x p2) (tC (.ty T)) := pe_bltn hg2 hm2 hv rfl hn hdb
  refine ⟨_, pe_callB call_isi hg hm (by decide +kernel) (pa_cons pa (pa_cons hb pa_nil he2) he) (by decide) (by decide) he hpl, fun Fr B σ H ρ Q R k => s Fr B σ H ρ _ R (Ok.bind k fun v H1 a ρ1 st R1 r1 k => ?_)⟩
  obtain ⟨d, d', e1, e2, k⟩ := onOne_inv k
  obtain ⟨ty, e3⟩ := tyD_isi e2
  obtain ⟨b, e4, e5⟩ := hT.ok d ty e3
  rw [e2] at e5; cases e5
  exact ⟨v, .ty T, .type ty, .type T, b, rfl, .ty T, (view_now r1 R1 e1).ty e3, kit_ty e4, k _ H1 Step.refl R1 .bl⟩

/-! ### keys -/
def lkD : D → Option OD
  | .dic kvs => some (.l (kvs.map fun kv => keyD kv.1))
  | _ => none
theorem DatK.keys : ∀ {vs : List (Key × V)} {ds : List (Key × D)}, DatK K H vs ds → DatL K H (vs.map fun q => kV q.1) (ds.map fun q => keyD q.1)
  | _, _, .nil => .nil
  | _, _, .cons _ r => .cons dat_key (DatK.keys r)
section
variable {e : Expr} {f : Ev → Out RV} {p apos cpos pos : Pos}
theorem dn_listKeys (hc : X.calm = true) (hg : Gl X "list") (hm : X.mg "list" = none) (he : DR X W e f) (hbase : attributeBase e "keys" X.env (eval e X.env) = eval e X.env := by rfl) (hline : (apos.endLine == cpos.line) = true := by rfl)
    (hs : starEach [.Call (.Attribute e "keys" apos) [] [] cpos] X.env = (false, eval (.Call (.Attribute e "keys" apos) [] [] cpos) X.env) :: starEach [] X.env := by rfl) : DN X W (.Call (.Name "list" p) [.Call (.Attribute e "keys" apos) [] [] cpos] [] pos) (unF lkD f) := by
  obtain ⟨t, pa, s⟩ := he.ex
  refine ⟨_, DLS.pe_listKeys hc pa hg hm hbase hline hs, fun Fr B σ H ρ Q R k => s Fr B σ H ρ _ R (Ok.bind k fun v H1 a ρ1 st R1 r1 k => ?_)⟩
  obtain ⟨d, o, e1, e2, k⟩ := onOne_inv k
  unfold lkD at e2
  split at e2
  · cases e2
    obtain ⟨q, vs, rfl, h, r⟩ := (view_now r1 R1 e1).dic
    exact ⟨q, vs, rfl, h, fun p hp => own_new R1 hp (own_lst hp r.keys) k⟩
  · cases e2
def txK : List (Key × D) → Option (List Str)
  | [] => some []
  | (.inr s, _) :: r => (txK r).map (s :: ·)
  | _ => none
def skD : D → Option OD
  | .dic kvs => (txK kvs).map fun ks => .l ((DLS.srt ks).map D.str)
  | _ => none
theorem txK_eq : ∀ {vs : List (Key × V)} {ds : List (Key × D)} {ks : List Str}, DatK K H vs ds → txK ds = some ks → (vs.map fun q => kV q.1) = ks.map V.str
  | _, _, _, .nil, e => by cases e; rfl
  | _, _, _, .cons (k := k) (ds := ds) h r, e => by
    cases k with
    | inl i => cases e
    | inr s =>
      have e' : (txK ds).map (s :: ·) = some _ := e
      cases q : txK ds with
      | none => rw [q] at e'; cases e'
      | some ks => rw [q] at e'; cases e'; rw [List.map_cons, List.map_cons, txK_eq r q]; rfl
theorem dn_sortKeys (hc : X.calm = true) (hg : Gl X "sorted") (hm : X.mg "sorted" = none) (he : DR X W e f) (hbase : attributeBase e "keys" X.env (eval e X.env) = eval e X.env := by rfl) (hline : (apos.endLine == cpos.line) = true := by rfl)
    (hs : starEach [.Call (.Attribute e "keys" apos) [] [] cpos] X.env = (false, eval (.Call (.Attribute e "keys" apos) [] [] cpos) X.env) :: starEach [] X.env := by rfl) : DN X W (.Call (.Name "sorted" p) [.Call (.Attribute e "keys" apos) [] [] cpos] [] pos) (unF skD f) := by
  obtain ⟨t, pa, s⟩ := he.ex
  refine ⟨_, DLS.pe_sortKeys hc pa hg hm hbase hline hs, fun Fr B σ H ρ Q R k => s Fr B σ H ρ _ R (Ok.bind k fun v H1 a ρ1 st R1 r1 k => ?_)⟩
  obtain ⟨d, o, e1, e2, k⟩ := onOne_inv k
  unfold skD at e2
  split at e2
  · rename_i kvs
    cases q : txK kvs with
    | none => rw [q] at e2; cases e2
    | some ks =>
      rw [q] at e2; cases e2
      obtain ⟨q', vs, rfl, h, r⟩ := (view_now r1 R1 e1).dic
      exact ⟨q', vs, rfl, h, ks, txK_eq r q, fun p hp => own_new R1 hp (own_lst hp (DatL.strs _)) k⟩
  · cases e2
end

/-! ### d.get(k), d.get(k, x) -/
def get1 : D → D → Option D := fun a b => match a with
  | .dic kvs => (keyOf b).map fun k => (valD kvs k).getD .non
  | _ => none
theorem look_dat {kvs : List (Key × D)} {a : RV} {ρ0 : Ev} (r : relR K σ a ρ0 v H) (R : Rep K Fr B σ H ρ) (e : look ρ a = some (.dic kvs)) : ∃ p vs, v = .ref p ∧ Rd H p (.dK vs) ∧ DatK K H vs kvs := (view_later r Step.refl R e).dic
def get1F (f : Ev → Out D) (g : Ev → Out D) : Ev → Out D := fun ρ => (f ρ).bind fun a ρ1 => match a with
  | .dic kvs => (g ρ1).bind fun b ρ2 => ofO ((keyOf b).map fun k => (valD kvs k).getD .non) ρ2
  | _ => .bad
def get2F (f : Ev → Out D) (g h : Ev → Out D) : Ev → Out D := fun ρ => (f ρ).bind fun a ρ1 => match a with
  | .dic kvs => (g ρ1).bind fun b ρ2 => (h ρ2).bind fun z ρ3 => ofO ((keyOf b).map fun k => (valD kvs k).getD z) ρ3
  | _ => .bad
theorem DatK.getD {k : Key} {z : V} {dz : D} {vs : List (Key × V)} {ds : List (Key × D)} (r : DatK K H vs ds) (x : Dat K H z dz) : Dat K H ((valV vs k).getD z) ((valD ds k).getD dz) := by
  obtain ⟨h1, h2⟩ := r.val (k := k)
  cases e : valD ds k with
  | none => rw [h2 e]; exact x
  | some d => obtain ⟨v, h, hd⟩ := h1 d e; rw [h]; exact hd
theorem de_get1 {o e : Expr} {f g : Ev → Out D} {apos cpos : Pos} (hu : X.A.units + 65 < cLine) (ho : DE X W o f) (he : DE X W e g) (m : M1 X o "get" apos e cpos := by exact ⟨rfl, rfl, rfl, rfl⟩) : DE X W (.Call (.Attribute o "get" apos) [e] [] cpos) (get1F f g) := by
  obtain ⟨t, pa, s⟩ := ho.ex
  obtain ⟨t', pa', s'⟩ := he.ex
  refine ⟨_, pe_dget1 (by omega) pa pa' m, fun Fr B σ H ρ Q R k => s Fr B σ H ρ _ R (Ok.bind k fun v H1 a ρ1 st R1 r1 k => ?_)⟩
  cases (show Dat _ _ _ _ from r1) with
  | @dic p o vs ds h r =>
    refine ⟨p, rfl, .inl ⟨vs, .inr ⟨o, h⟩⟩, s' Fr B σ H1 ρ1 _ R1 (Ok.bind k fun w H2 b ρ2 st2 R2 r2 k => ?_)⟩
    cases q : keyOf b with
    | none => rw [q] at k; exact False.elim k
    | some k' =>
      rw [q] at k
      refine ⟨_, .inl ⟨vs, k', .inr ⟨o, st2.mono _ _ h True.intro⟩, Dat.key r2 q, rfl⟩, k _ H2 Step.refl R2 ((r.mono st2.mono).getD .non)⟩
  | _ => exact False.elim k
theorem de_get2 {o e z : Expr} {f g h : Ev → Out D} {apos cpos : Pos} (hu : X.A.units + 65 < cLine) (ho : DE X W o f) (he : DE X W e g) (hz : DE X W z h) (m : M2 X o "get" apos e z cpos := by exact ⟨rfl, rfl, rfl, rfl⟩) : DE X W (.Call (.Attribute o "get" apos) [e, z] [] cpos) (get2F f g h) := by
  obtain ⟨t, pa, s⟩ := ho.ex
  obtain ⟨t', pa', s'⟩ := he.ex
  obtain ⟨t2, pa2, s2⟩ := hz.ex
  refine ⟨_, pe_dget2 (by omega) pa pa' pa2 m, fun Fr B σ H ρ Q R k => s Fr B σ H ρ _ R (Ok.bind k fun v H1 a ρ1 st R1 r1 k => ?_)⟩
  cases (show Dat _ _ _ _ from r1) with
  | @dic p o vs ds h r =>
    refine ⟨p, rfl, .inl ⟨vs, .inr ⟨o, h⟩⟩, s' Fr B σ H1 ρ1 _ R1 (Ok.bind k fun w H2 b ρ2 st2 R2 r2 k => s2 Fr B σ H2 ρ2 _ R2 (Ok.bind k fun y H3 dz ρ3 st3 R3 r3 k => ?_))⟩
    cases q : keyOf b with
    | none => rw [q] at k; exact False.elim k
    | some k' =>
      rw [q] at k
      have m3 := st2.mono.trans st3.mono
      exact ⟨_, .inl ⟨vs, k', .inr ⟨o, m3 _ _ h True.intro⟩, (Dat.mono st3.mono r2).key q, rfl⟩, k _ H3 Step.refl R3 ((r.mono m3).getD r3)⟩
  | _ => exact False.elim k

/-! ### texts -/
def joinO (a b : D) : Option D := match a, b with
  | .str s, .lst xs => (toStrs xs).bind fun ys => if (ys.map (·.length)).sum + ys.length * s.length ≤ 16777216 then some (.str (Txt.join s ys)) else none
  | _, _ => none
def joinF (f g : Ev → Out D) : Ev → Out D := fun ρ => (f ρ).bind fun a ρ1 => match a with
  | .str s => (g ρ1).bind fun b ρ2 => ofO (joinO (.str s) b) ρ2
  | _ => .bad
theorem de_join {o e : Expr} {f g : Ev → Out D} {apos pos : Pos} (ho : DE X W o f) (he : DE X W e g) (hs : starEach [e] X.env = [(false, eval e X.env)] := by rfl) (hbase : attributeBase o "join" X.env (eval o X.env) = eval o X.env := by rfl) (hline : (apos.endLine == pos.line) = true := by rfl) :
    DE X W (.Call (.Attribute o "join" apos) [e] [] pos) (joinF f g) := by
  obtain ⟨t, pa, s⟩ := ho.ex
  obtain ⟨t', pa', s'⟩ := he.ex
  refine ⟨_, pe_join pa pa' hs hbase hline, fun Fr B σ H ρ Q R k => s Fr B σ H ρ _ R (Ok.bind k fun v H1 a ρ1 st R1 r1 k => ?_)⟩
  cases (show Dat _ _ _ _ from r1) with
  | @str x =>
    refine ⟨⟨x, rfl⟩, s' Fr B σ H1 ρ1 _ R1 (Ok.bind k fun w H2 b ρ2 st2 R2 r2 k => ?_)⟩
    cases (show Dat _ _ _ _ from r2) with
    | @lst q vs xs h r =>
      replace k : Ok X.K W Fr B σ (relE X.K) Q H2 (ofO ((toStrs xs).bind fun ys => if (ys.map (·.length)).sum + ys.length * x.length ≤ 16777216 then some (D.str (Txt.join x ys)) else none) ρ2) := k
      cases e : toStrs xs with
      | none => rw [e] at k; exact False.elim k
      | some ys =>
        rw [e] at k
        rw [toStrs_eq e] at r
        rw [r.ofStrs] at h
        replace k : Ok X.K W Fr B σ (relE X.K) Q H2 (ofO (if (ys.map (·.length)).sum + ys.length * x.length ≤ 16777216 then some (D.str (Txt.join x ys)) else none) ρ2) := k
        split at k
        · rename_i hz
          exact ⟨x, q, ys, rfl, rfl, .inl h.sq, hz, k _ H2 Step.refl R2 .str⟩
        · exact False.elim k
    | _ => exact False.elim k
  | _ => exact False.elim k
/-- abs -/
theorem call_absR : CallR X (.builtin "abs") (rOne fun x H Q => ∃ i, x = .int i ∧ Q (.int (if i < 0 then -i else i)) H) := CallR.imp call_abs fun xs H Q ⟨x, e, i, e2, q⟩ => ⟨i, by rw [e, e2], q⟩
theorem ok_abs : UnOk K (fun x H Q => ∃ i, x = .int i ∧ Q (.int (if i < 0 then -i else i)) H) absD := ⟨fun {Fr B σ H ρ x a d Q} R va e k => by
  unfold absD at e
  split at e
  · cases e
    exact ⟨_, va.int, k _ H Step.refl R .int⟩
  · cases e⟩
end
end DL
set_option Elab.async false
set_option linter.all false
set_option maxRecDepth 100000
set_option maxHeartbeats 2000000
namespace DL
open PySem PySem.Spec L2
section
variable {X : Cx} {W : WX} {e : Expr} {f : Ev → Out RV} {x : Str} {p pos apos cpos : Pos} {i : Nat}
theorem pe_nm (hN : X.N[i]? = some x := by rfl) (hv : Vis X.env.scope x := by first | exact .inl rfl | exact .inr (.inl rfl) | exact .inr (.inr rfl)) (hd : (x == ("__debug__" : Str)) = false := by decide) (hcd : (x == ("__classdict__" : Str)) = false := by decide) : PE X (.Name x pos) (tVar i) := pe_var hN hv hd hcd
theorem de_nm (i : Nat) (hN : X.N[i]? = some x := by rfl) (hv : Vis X.env.scope x := by first | exact .inl rfl | exact .inr (.inl rfl) | exact .inr (.inr rfl)) (hd : (x == ("__debug__" : Str)) = false := by decide) (hcd : (x == ("__classdict__" : Str)) = false := by decide) : DE X W (.Name x pos) (varE i) := de_var (pe_var hN hv hd hcd)
theorem dr_nm (i : Nat) (hN : X.N[i]? = some x := by rfl) (hv : Vis X.env.scope x := by first | exact .inl rfl | exact .inr (.inl rfl) | exact .inr (.inr rfl)) (hd : (x == ("__debug__" : Str)) = false := by decide) (hcd : (x == ("__classdict__" : Str)) = false := by decide) : DR X W (.Name x pos) (varR i) := dr_var (pe_var hN hv hd hcd)
theorem da_nm {es : List Expr} {g : Ev → Out (List AR)} (i : Nat) (hr : DA X W es g) (hN : X.N[i]? = some x := by rfl) (hv : Vis X.env.scope x := by first | exact .inl rfl | exact .inr (.inl rfl) | exact .inr (.inr rfl)) (hd : (x == ("__debug__" : Str)) = false := by decide) (hcd : (x == ("__classdict__" : Str)) = false := by decide)
    (hs : starEach (.Name x pos :: es) X.env = (false, eval (.Name x pos) X.env) :: starEach es X.env := by rfl) : DA X W (.Name x pos :: es) (refA i g) := da_ref (pe_var hN hv hd hcd) hr hs
theorem de_len (hm : X.mg "len" = none) (ha : DR X W e f) (hg : Gl X "len" := by rfl) (he : starEach [e] X.env = (false, eval e X.env) :: starEach [] X.env := by rfl) (hpl : (backTo pos (starEach [] X.env)).any (·.1) = false := by rfl) : DE X W (.Call (.Name "len" p) [e] [] pos) (unF lenD f) := de_callB call_lenR ok_len hg hm (by decide +kernel) ha (by decide) (by decide) he hpl
theorem de_all (hc : X.calm = true) (hm : X.mg "all" = none) (ha : DR X W e f) (hg : Gl X "all" := by rfl) (he : starEach [e] X.env = (false, eval e X.env) :: starEach [] X.env := by rfl) (hpl : (backTo pos (starEach [] X.env)).any (·.1) = false := by rfl) : DE X W (.Call (.Name "all" p) [e] [] pos) (unF allD f) := de_callB (call_allR hc) ok_all hg hm (by decide +kernel) ha (by decide) (by decide) he hpl
theorem de_any (hc : X.calm = true) (hm : X.mg "any" = none) (ha : DR X W e f) (hg : Gl X "any" := by rfl) (he : starEach [e] X.env = (false, eval e X.env) :: starEach [] X.env := by rfl) (hpl : (backTo pos (starEach [] X.env)).any (·.1) = false := by rfl) : DE X W (.Call (.Name "any" p) [e] [] pos) (unF anyD f) := de_callB (call_anyR hc) ok_any hg hm (by decide +kernel) ha (by decide) (by decide) he hpl
theorem de_sum (hc : X.calm = true) (hm : X.mg "sum" = none) (ha : DR X W e f) (hg : Gl X "sum" := by rfl) (he : starEach [e] X.env = (false, eval e X.env) :: starEach [] X.env := by rfl) (hpl : (backTo pos (starEach [] X.env)).any (·.1) = false := by rfl) : DE X W (.Call (.Name "sum" p) [e] [] pos) (unF sumD f) := de_callB (call_sumR hc) ok_sum hg hm (by decide +kernel) ha (by decide) (by decide) he hpl
theorem de_abs (hm : X.mg "abs" = none) (ha : DR X W e f) (hg : Gl X "abs" := by rfl) (he : starEach [e] X.env = (false, eval e X.env) :: starEach [] X.env := by rfl) (hpl : (backTo pos (starEach [] X.env)).any (·.1) = false := by rfl) : DE X W (.Call (.Name "abs" p) [e] [] pos) (unF absD f) := de_callB call_absR ok_abs hg hm (by decide +kernel) ha (by decide) (by decide) he hpl
theorem de_tuple (hm : X.mg "tuple" = none) (ha : DR X W e f) (hg : Gl X "tuple" := by rfl) (he : starEach [e] X.env = (false, eval e X.env) :: starEach [] X.env := by rfl) (hpl : (backTo pos (starEach [] X.env)).any (·.1) = false := by rfl) : DE X W (.Call (.Name "tuple" p) [e] [] pos) (unF tupD f) := de_callT call_tupR ok_tup hg hm (by decide +kernel) ha (by decide) (by decide) he hpl
theorem dn_sorted (hm : X.mg "sorted" = none) (ha : DR X W e f) (hg : Gl X "sorted" := by rfl) (he : starEach [e] X.env = (false, eval e X.env) :: starEach [] X.env := by rfl) (hpl : (backTo pos (starEach [] X.env)).any (·.1) = false := by rfl) : DN X W (.Call (.Name "sorted" p) [e] [] pos) (unF sortD f) := dn_callB call_sortR ok_sort hg hm (by decide +kernel) ha (by decide) (by decide) he hpl
theorem dn_list (hm : X.mg "list" = none) (ha : DR X W e f) (hg : Gl X "list" := by rfl) (he : starEach [e] X.env = (false, eval e X.env) :: starEach [] X.env := by rfl) (hpl : (backTo pos (starEach [] X.env)).any (·.1) = false := by rfl) : DN X W (.Call (.Name "list" p) [e] [] pos) (unF listD f) := dn_callT call_listR ok_list hg hm (by decide +kernel) ha (by decide) (by decide) he hpl
theorem dn_dict (hc : X.calm = true) (hm : X.mg "dict" = none) (ha : DR X W e f) (hg : Gl X "dict" := by rfl) (he : starEach [e] X.env = (false, eval e X.env) :: starEach [] X.env := by rfl) (hpl : (backTo pos (starEach [] X.env)).any (·.1) = false := by rfl) : DN X W (.Call (.Name "dict" p) [e] [] pos) (unF dictD f) := dn_callT (call_dictR hc) ok_dict hg hm (by decide +kernel) ha (by decide) (by decide) he hpl
end

def nxS : Ev → SOut := fun ρ => .nx ρ
def badS : Ev → SOut := fun _ => .bad
def retN : Ev → SOut := fun ρ => .rt .non ρ
def datO (f : Ev → Out D) : Ev → Out RV := fun ρ => (f ρ).map RV.dat
def mapO {α β : Type} (g : α → β) (f : Ev → Out α) : Ev → Out β := fun ρ => (f ρ).map g
section
variable {X : Cx} {W : WX} {e : Expr}
theorem dr_of {f : Ev → Out D} (h : DE X W e f) : DR X W e (datO f) := h.dr
theorem de_of {f : Ev → Out OD} (h : DN X W e f) : DE X W e (mapO OD.dat f) := h.de
theorem drn_of {f : Ev → Out OD} (h : DN X W e f) : DR X W e (datO (mapO OD.dat f)) := h.dr
theorem dss_nl : DSs X W [] nxS := dss_nil
theorem ds_dc {x j pos pos'} : DS X W (.Expr (.Constant (.str x) j pos) pos') nxS := ds_doc
theorem ds_ps {pos} : DS X W (.Pass pos) nxS := ds_pass
theorem ds_nv {st : Stmt} : DS X W st badS := ds_never
theorem ds_rn {pos : Pos} : DS X W (.Return none pos) retN := ds_retN
/-! ### extend -/
def extE (i : Nat) (f : Ev → Out D) : Ev → Out D := fun ρ => match ρ[i]? with
  | some (.ow _ (.l _)) => (f ρ).bind fun d ρ1 => match d, ρ1[i]? with
    | .lst ys, some (.ow r (.l xs)) => if xs.length + ys.length ≤ sizeLine then .val .non (ρ1.set i (.ow r (.l (xs ++ ys)))) else .bad
    | _, _ => .bad
  | _ => .bad
theorem extendW {l b : Addr} {xs ys : Array Value} {n m : Nat} {db : Option Addr} {sb : Array (Option Value)} (hz : xs.size + ys.size ≤ sizeLine) :
    Meets (Builtin.«list.extend» ⟨[.ref l, .ref b], []⟩) (fun _ R s => s.heap.get? l = some { cls := .type "list", data := .seq xs n } ∧ s.heap.get? b = some { cls := .type "list", dict := db, data := .seq ys m, slots := sb } ∧
      R (.ok (.ret Value.none)) { s with heap := s.heap.update l (Obj.mapSeq fun x => x ++ ys), toks := s.toks }) :=
  .of_wp fun prog w A R s h => by
    obtain ⟨hp, g, d, tk, os⟩ := s
    obtain ⟨hl, hb, h⟩ := h
    have a1 := AutoSeq1.idx_int
    have a2 := AutoSeq1.sub_tuple_tuple
    have a3 := AutoSeq1.sub_list_list
    have a4 := AutoSeq1.sub_tuple_list
    have a5 := AutoSeq1.sub_list_tuple
    have hc0 : ¬(!xs.isEmpty && Builtin.List.listTooLong (xs.size + ys.size)) = true := by rw [notLongL hz, Bool.and_false]; exact Bool.false_ne_true
    have hc1 : xs.size ≤ sizeLine := by omega
    have h2 : (xs ++ ys).size ≤ sizeLine + 1 := by rw [Array.size_append]; omega
    wp_walk using (PySem.wpAny_updateSeq hl rfl (hz := hc1) (_hz' := h2)), AutoSeq1.wpAny_loadPart' hl, AutoSeq1.wpAny_loadPart' hb
    exact ⟨_, rfl, h⟩
def rExtR (K : PySem.W.Frag) : V → List V → Hp → VK → Prop := fun x vs H Q => ∃ l b xs zs, x = .ref l ∧ vs = [.ref b] ∧ H l = some (.lst xs) ∧ SqL K H b zs ∧ xs.length + zs.length ≤ sizeLine ∧ Q .non (upd H l (.lst (xs ++ zs)))
theorem mt_extR : MtR X "list.extend" (rExtR X.K) := by
  intro pins s σ H x vs v us Q I rx rv h
  obtain ⟨l, b, xs, zs, rfl, rfl, hH, hB, hz, q⟩ := h
  cases rx
  obtain ⟨u, rfl, ru⟩ := rv.one
  cases ru
  obtain ⟨z, its, n, r, hl, e⟩ := I.lstM hH
  obtain ⟨its2, r2, p2, _⟩ := I.list hB
  have hl2 := r2.length
  have q2 := p2.isList
  obtain ⟨⟨c2, d2, dt2, s2⟩, ho2, hc2, n2, hd2⟩ := id q2
  simp only at hc2 hd2
  subst hc2 hd2
  refine call_meets PySem.F.slot_list_extend ⟨_, e, rfl⟩ PySem.F.entry_list_extend (PySem.F.args_list_extend_2 _ _) (extendW (xs := its.toArray) (ys := its2.toArray) (n := n) (m := n2) (by simp only [List.size_toArray]; omega)) ⟨e, ho2, ?_⟩
  refine ⟨.non, _, I.lset (its' := its ++ its2) hH e (by simp) (r.append r2) ?_, rfl, q⟩
  rw [List.length_append]
  omega
theorem de_extend {W : WX} {i : Nat} {o e : Expr} {f : Ev → Out D} {apos cpos : Pos} (ho : PE X o (tVar i)) (h : DE X W e f)
    (hbase : attributeBase o "extend" X.env (eval o X.env) = eval o X.env := by rfl)
    (hfew : ((backTo cpos (starEach (e :: []) X.env)).all (fun x => !x.1) && (backToKw cpos (keywordEach [] X.env)).all (fun x => x.1.isSome)
      && decide ((e :: []).length + ([] : List Keyword).length + (if ([] : List Keyword).isEmpty then 0 else 1) < 30)) = true := by rfl)
    (hline : (apos.endLine == cpos.line) = true := by rfl) (hs : starEach (e :: []) X.env = (false, eval e X.env) :: starEach [] X.env := by rfl) (hplain : (backTo cpos (starEach [] X.env)).any (·.1) = false := by rfl) :
    DE X W (.Call (.Attribute o "extend" apos) [e] [] cpos) (extE i f) := by
  obtain ⟨t, p, s⟩ := h.ex
  refine ⟨_, pe_bm PySem.F.plainAttrs_list PySem.F.slot_list_extend PySem.F.type_list_extend mt_extR ho (pa_cons p pa_nil hs) hbase hfew hline hs hplain, fun Fr B σ H ρ Q R k => ?_⟩
  unfold extE at k
  split at k
  · rename_i r0 xs0 q0
    obtain ⟨p0, vs0, e0, h0, _⟩ := slot_l R q0
    refine ⟨_, e0, .inl ⟨rfl, vs0, .inl (.inl h0)⟩, s Fr B σ H ρ _ R (Ok.bind k fun v H1 d ρ1 st R1 r1 k => ?_)⟩
    split at k
    · rename_i ys r xs q
      obtain ⟨p1, vs, e1, h1, rd⟩ := slot_l R1 q
      rw [e0] at e1; cases e1
      split at k
      · rename_i hz
        cases (show Dat _ _ _ _ from r1) with
        | @lst b zs _ hb rz =>
          have m : Mono H1 (upd H1 p0 (.lst (vs ++ zs))) := Mono.upd fun z q => by rw [h1] at q; cases q; exact fun z => z
          have w : Own X.K (upd H1 p0 (.lst (vs ++ zs))) p0 (.l (xs ++ ys)) := ⟨_, upd_same, (rd.mono m).append (rz.mono m)⟩
          obtain ⟨R2, s2⟩ := slot_write R1 q e0 h1 (fun z => z) w
          exact ⟨p0, b, vs, zs, rfl, rfl, h1, hb.sq, by rw [rd.length, rz.length]; exact hz, k .non _ s2 R2 .non⟩
      · exact False.elim k
    · exact False.elim k
  · exact False.elim k
end

/-- the law's end -/
theorem sp_end {K : PySem.W.Frag} {H : Hp} {a : Addr} {ns : List Int} {F : List AV → FOut} (hO : Only H) (hS : SqL K H a (ns.map V.int)) (h : ∃ as', F [.fz (.lst (ns.map D.int))] = .val (.bl true) as') : spF K 1 F [.ref a] H (fun v _ => v = .bl true) fun _ _ _ => False := by
  obtain ⟨as', h⟩ := h
  have hd : Dat K H (.ref a) (.lst (ns.map D.int)) := by
    refine .lst ?_ (DatL.ints ns)
    rcases hS with (hS | ⟨o, hS⟩) | hS
    · rcases hO a with e | ⟨o, xs, e⟩
      · rw [hS] at e; cases e
      · rw [hS] at e; cases e
    · exact .inl ⟨o, hS⟩
    · exact .inr hS
  have no : ∀ {i : Nat} {r : Bool} {o : OD}, ([AV.fz (.lst (ns.map D.int))] : Ev)[i]? ≠ some (.ow r o) := fun {i r o} e => by
    cases i with
    | zero => cases e
    | succ i => simp at e
  refine ⟨[.fz (.lst (ns.map D.int))], fun b => H b ≠ none, [], rfl, ⟨rfl, fun i x e => ?_, fun i p r o e => absurd e no, fun i j p r o r' o' e => absurd e no, fun b z => z, fun q z => by cases z⟩, fun i o e => absurd e no, ?_⟩
  · cases i with
    | zero => cases e; exact ⟨_, rfl, hd⟩
    | succ i => simp at e
  · rw [h]
    intro v H' _ r _
    cases r; rfl
theorem fn_never {P : Program} {w : World} {K : PySem.W.Frag} {mg : Str → Option Value} {base : Heap} {k : Nat} {f : Addr} {fd : FuncData} {ps : List Str} {sp : Sp} {CX : CXT} (F : FnOk P w K mg base (L2.CX P w) k f fd ps sp) : FnOk P w K mg base CX k f fd ps (fun vs H Q _ => sp vs H Q fun _ _ _ => False) :=
  ⟨fun vs H Q E q => F.len vs H Q _ q, fun A outer s H args us vs Q E hr he hb hv hs => codeAny_mono (F.run A outer s H args us vs Q (fun _ _ _ => False) hr he hb hv hs) fun r s' hq => by
    cases r with
    | ok fl => cases fl <;> exact hq
    | error e => obtain ⟨_, _, _, _, _, _, _, _, _, _, _, _, z⟩ := hq; exact z.elim⟩
end DL
set_option Elab.async false
set_option linter.all false
set_option maxRecDepth 100000
set_option maxHeartbeats 4000000
namespace DL
open PySem PySem.Spec L2
section
variable {α β : Type} {ρ ρ1 : Ev} {f g : Ev → Out D} {fs : Ev → Out (List D)} {a b : Ev → SOut} {c : Ev → Out Bool} {i : Nat} {d x y : D} {r q : Ev → Out RV} {fn : Ev → Out OD}
@[simp] theorem e_seqS : seqS a b ρ = thenS (a ρ) b := rfl
@[simp] theorem e_then1 : thenS (.nx ρ) b = b ρ := rfl
@[simp] theorem e_then2 : thenS (.rt d ρ) b = .rt d ρ := rfl
@[simp] theorem e_then3 : thenS .bad b = .bad := rfl
@[simp] theorem e_bind1 {v : α} {k : α → Ev → SOut} : bindS (.val v ρ) k = k v ρ := rfl
@[simp] theorem e_bind2 {k : α → Ev → SOut} : bindS (.bad : Out α) k = .bad := rfl
@[simp] theorem e_ob1 {v : α} {k : α → Ev → Out β} : (Out.val v ρ).bind k = k v ρ := rfl
@[simp] theorem e_ob2 {k : α → Ev → Out β} : (Out.bad : Out α).bind k = .bad := rfl
@[simp] theorem e_om1 {v : α} {k : α → β} : (Out.val v ρ).map k = .val (k v) ρ := rfl
@[simp] theorem e_om2 {k : α → β} : (Out.bad : Out α).map k = .bad := rfl
@[simp] theorem e_setS : setS i f ρ = bindS (f ρ) fun d ρ1 => putS i (.fz d) ρ1 := rfl
@[simp] theorem e_setN : setN i fn ρ = bindS (fn ρ) fun d ρ1 => putS i (.ow false d) ρ1 := rfl
@[simp] theorem e_putS {u : AV} : putS i u ρ = if isRef ρ i = true then .bad else .nx (ρ.set i u) := rfl
@[simp] theorem e_isRef : isRef ρ i = (match ρ[i]? with | some (.ow true _) => true | none => true | _ => false) := rfl
@[simp] theorem e_exprS : exprS f ρ = bindS (f ρ) fun _ ρ1 => .nx ρ1 := rfl
@[simp] theorem e_retS : retS f ρ = bindS (f ρ) fun d ρ1 => .rt d ρ1 := rfl
@[simp] theorem e_ifS : ifS c a b ρ = bindS (c ρ) fun t ρ1 => if t = true then a ρ1 else b ρ1 := rfl
@[simp] theorem e_nxS : nxS ρ = .nx ρ := rfl
@[simp] theorem e_retN : retN ρ = .rt .non ρ := rfl
@[simp] theorem e_badS : badS ρ = .bad := rfl
@[simp] theorem e_varE : varE i ρ = (match ρ[i]? with | some (.fz d) => .val d ρ | some (.ow false o) => .val o.dat (ρ.set i (.fz o.dat)) | _ => .bad) := rfl
@[simp] theorem e_varR : varR i ρ = (match ρ[i]? with | some (.fz d) => .val (.dat d) ρ | some (.ow _ _) => .val (.al i) ρ | _ => .bad) := rfl
@[simp] theorem e_conE : conE d ρ = .val d ρ := rfl
@[simp] theorem e_datO : datO f ρ = (f ρ).map RV.dat := rfl
@[simp] theorem e_mapO {k : α → β} {m : Ev → Out α} : mapO k m ρ = (m ρ).map k := rfl
@[simp] theorem e_binF {op : D → D → Option D} : binF op r q ρ = (r ρ).bind fun a ρ1 => (q ρ1).bind fun b ρ2 => onTwo op ρ2 (look ρ2 a) (look ρ2 b) := rfl
@[simp] theorem e_onTwo {op : D → D → Option D} : onTwo op ρ (some x) (some y) = ofO (op x y) ρ := rfl
@[simp] theorem e_ofO1 {v : α} : ofO (some v) ρ = .val v ρ := rfl
@[simp] theorem e_ofO2 : ofO (none : Option α) ρ = .bad := rfl
@[simp] theorem e_look1 : look ρ (.dat d) = some d := rfl
@[simp] theorem e_look2 : look ρ (.al i) = (match ρ[i]? with | some (.ow _ o) => some o.dat | some (.fz d) => some d | _ => none) := rfl
@[simp] theorem e_unF {op : D → Option α} : unF op r ρ = (r ρ).bind fun a ρ1 => onOne op ρ1 (look ρ1 a) := rfl
@[simp] theorem e_onOne {op : D → Option α} : onOne op ρ (some x) = ofO (op x) ρ := rfl
@[simp] theorem e_nilL : nilL ρ = .val [] ρ := rfl
@[simp] theorem e_consL : consL f fs ρ = (f ρ).bind fun d ρ1 => (fs ρ1).bind fun ds ρ2 => .val (d :: ds) ρ2 := rfl
@[simp] theorem e_lstN : lstN fs ρ = (fs ρ).bind fun ds ρ1 => if ds.length ≤ sizeLine then .val (.l ds) ρ1 else .bad := rfl
@[simp] theorem e_tupE : tupE fs ρ = (fs ρ).bind fun ds ρ1 => if ds.length ≤ sizeLine then .val (.tup ds) ρ1 else .bad := rfl
@[simp] theorem e_dicN0 : dicN0 ρ = .val (.d []) ρ := rfl
@[simp] theorem e_tstF : tstF f ρ = (f ρ).bind fun d ρ1 => match d with | .bl b => .val b ρ1 | _ => .bad := rfl
@[simp] theorem e_truF : truF r ρ = (r ρ).bind fun r ρ1 => ofO (truR ρ1 r) ρ1 := rfl
@[simp] theorem e_nilA : nilA ρ = .val [] ρ := rfl
@[simp] theorem e_datA {ga : Ev → Out (List AR)} : datA f ga ρ = (f ρ).bind fun d ρ1 => (ga ρ1).bind fun ds ρ2 => .val (.dt d :: ds) ρ2 := rfl
@[simp] theorem e_refA {ga : Ev → Out (List AR)} : refA i ga ρ = (match ρ[i]? with | some (.ow _ _) => (ga ρ).bind fun ds ρ2 => .val (.rf i :: ds) ρ2 | _ => .bad) := rfl
@[simp] theorem e_callF {n : Nat} {F : List AV → FOut} {fa : Ev → Out (List AR)} : callF n F fa ρ = (fa ρ).bind fun as ρ1 => callO n F as ρ1 := rfl
@[simp] theorem e_callO {n : Nat} {F : List AV → FOut} {as : List AR} : callO n F as ρ = if as.length = n then
  (match refsA as with
  | [] => match F (as.map (arA (.l []))) with
    | .val d _ => .val d ρ
    | .exc c _ => .exc c ρ
    | .bad => .bad
  | [i] => call1 F as ρ i
  | _ => .bad) else .bad := rfl
@[simp] theorem e_refs1 : refsA [] = [] := rfl
@[simp] theorem e_refs2 {as : List AR} : refsA (.dt d :: as) = refsA as := rfl
@[simp] theorem e_refs3 {as : List AR} : refsA (.rf i :: as) = i :: refsA as := rfl
@[simp] theorem e_pos1 {as : List AR} : posA (.dt d :: as) = posA as + 1 := rfl
@[simp] theorem e_pos2 {as : List AR} : posA (.rf i :: as) = 0 := rfl
@[simp] theorem e_ar1 {o : OD} : arA o (.dt d) = .fz d := rfl
@[simp] theorem e_ar2 {o : OD} : arA o (.rf i) = .ow true o := rfl
@[simp] theorem e_call1 {F : List AV → FOut} {as : List AR} : call1 F as ρ i = (match ρ[i]? with
    | some (.ow r o) => (match F (as.map (arA o)) with
      | .val d as' => (match as'[posA as]? with
        | some (.ow true o') => .val d (ρ.set i (.ow r o'))
        | _ => .bad)
      | .exc c as' => (match as'[posA as]? with
        | some (.ow true o') => .exc c (ρ.set i (.ow r o'))
        | _ => .bad)
      | .bad => .bad)
    | _ => .bad) := rfl
@[simp] theorem e_body {n N : Nat} {as : List AV} : bodyF n N a as = (match a (as ++ List.replicate (N - n) .un) with
  | .nx ρ => .val .non (ρ.take n)
  | .rt d ρ => .val d (ρ.take n)
  | .exc c ρ => .exc c (ρ.take n)
  | .bad => .bad) := rfl
@[simp] theorem e_addI {i j : Int} : addI (.int i) (.int j) = some (.int (i + j)) := rfl
@[simp] theorem e_addO {i j : Int} : addO (.int i) (.int j) = some (.int (i + j)) := rfl
@[simp] theorem e_subI {i j : Int} : subI (.int i) (.int j) = some (.int (i - j)) := rfl
theorem e_mulI {i j : Int} : mulI (.int i) (.int j) = if i.natAbs.log2 + j.natAbs.log2 < 1000000 then some (.int (i * j)) else none := rfl
theorem e_fdivI {i j : Int} : fdivI (.int i) (.int j) = if 0 < j ∧ j.natAbs.log2 < 9000 then some (.int (i / j)) else none := rfl
theorem e_modI {i j : Int} : modI (.int i) (.int j) = if 0 < j then some (.int (i % j)) else none := rfl
theorem e_powI {i j : Int} : powI (.int i) (.int j) = if 0 ≤ j ∧ j ≤ 1000000 ∧ i.natAbs < 2 ^ 64 then some (.int (i ^ j.toNat)) else none := rfl
@[simp] theorem e_gtI {i j : Int} : gtI (.int i) (.int j) = some (.bl (decide (j < i))) := rfl
@[simp] theorem e_ltI {i j : Int} : ltI (.int i) (.int j) = some (.bl (decide (i < j))) := rfl
@[simp] theorem e_leI {i j : Int} : leI (.int i) (.int j) = some (.bl (decide (i ≤ j))) := rfl
@[simp] theorem e_geI {i j : Int} : geI (.int i) (.int j) = some (.bl (decide (j ≤ i))) := rfl
@[simp] theorem e_len1 {xs : List D} : lenD (.lst xs) = some (.int xs.length) := rfl
@[simp] theorem e_len2 {xs : List D} : lenD (.tup xs) = some (.int xs.length) := rfl
@[simp] theorem e_len3 {xs : List (Key × D)} : lenD (.dic xs) = some (.int xs.length) := rfl
@[simp] theorem e_ix1 {xs : List D} {i : Int} : ixO (.lst xs) (.int i) = atI xs i := by show (match atI xs i with | some d => some d | none => none) = atI xs i; cases atI xs i <;> rfl
@[simp] theorem e_ix2 {xs : List D} {i : Int} : ixO (.tup xs) (.int i) = atI xs i := by show (match atI xs i with | some d => some d | none => none) = atI xs i; cases atI xs i <;> rfl
@[simp] theorem e_ix3 {kvs : List (Key × D)} {s : Str} : ixO (.dic kvs) (.str s) = valD kvs (.inr s) := rfl
@[simp] theorem e_ix4 {z : Str} {i : Int} (h : z.length ≤ sizeLine) : ixO (.str z) (.int i) = (atI z.cps.toList i).map fun c => .str ⟨#[c]⟩ := by
  show (match (if z.length ≤ sizeLine then (atI z.cps.toList i).map fun c => D.str ⟨#[c]⟩ else none) with | some d => some d | none => none) = _
  rw [if_pos h]
  cases atI z.cps.toList i <;> rfl
@[simp] theorem e_noP : noPF ρ = .val none ρ := rfl
@[simp] theorem e_part : partF f ρ = (f ρ).bind fun d ρ1 => match d with | .int i => .val (some i) ρ1 | _ => .bad := rfl
@[simp] theorem e_slF {u w : Ev → Out (Option Int)} : slF f u w ρ = (f ρ).bind fun d ρ1 => (u ρ1).bind fun lo ρ2 => (w ρ2).bind fun hi ρ3 => ofO (slO d lo hi) ρ3 := rfl
@[simp] theorem e_appE : appE i f ρ = (match ρ[i]? with
  | some (.ow _ (.l _)) => (f ρ).bind fun d ρ1 => (match ρ1[i]? with
    | some (.ow r (.l xs)) => if xs.length < sizeLine then .val .non (ρ1.set i (.ow r (.l (xs ++ [d])))) else .bad
    | _ => .bad)
  | _ => .bad) := rfl
@[simp] theorem e_andE : andE f g ρ = (f ρ).bind fun b ρ1 => match b with | .bl true => g ρ1 | .bl false => .val (.bl false) ρ1 | _ => .bad := rfl
end
theorem atI_of {α : Type} {xs : List α} {k : Int} {v : α} (h0 : 0 ≤ k) (h : xs[k.toNat]? = some v) : atI xs k = some v := by
  obtain ⟨j, rfl⟩ : ∃ j : Nat, k = j := ⟨k.toNat, by omega⟩
  exact atI_nat (by simpa using h)
theorem log_small {i : Int} {k : Nat} (h : i.natAbs < 2 ^ k) (hk : k ≤ 400000) : i.natAbs.log2 ≤ 400000 := by
  by_cases z : i.natAbs = 0
  · rw [z]; decide
  · have := (Nat.log2_lt z).mpr h; omega
theorem mul_ok {i j : Int} (hi : i.natAbs < 2 ^ 256) (hj : j.natAbs < 2 ^ 256) : mulI (.int i) (.int j) = some (.int (i * j)) := by
  have h1 := log_small hi (by decide)
  have h2 := log_small hj (by decide)
  rw [e_mulI, if_pos (by omega)]
theorem fdiv_ok {i j : Int} (h0 : 0 < j) (hj : j.natAbs < 2 ^ 256) : fdivI (.int i) (.int j) = some (.int (i / j)) := by
  have h2 : j.natAbs.log2 < 256 := (Nat.log2_lt (by omega)).mpr hj
  rw [e_fdivI, if_pos ⟨h0, by omega⟩]
theorem mod_ok {i j : Int} (h0 : 0 < j) : modI (.int i) (.int j) = some (.int (i % j)) := by rw [e_modI, if_pos h0]
theorem pow_ok {i j : Int} (h0 : 0 ≤ j) (h1 : j ≤ 1000000) (h2 : i.natAbs < 2 ^ 64) : powI (.int i) (.int j) = some (.int (i ^ j.toNat)) := by rw [e_powI, if_pos ⟨h0, h1, h2⟩]
theorem mod_rng (a b : Int) (h : 0 < b) : 0 ≤ a % b ∧ a % b < b := ⟨Int.emod_nonneg a (by omega), Int.emod_lt_of_pos a h⟩
@[simp] theorem rep_snoc {α : Type} (n : Nat) (a : α) : List.replicate n a ++ [a] = List.replicate (n + 1) a := List.replicate_succ'.symm
@[simp] theorem e_dat1 {xs : List D} : (OD.l xs).dat = .lst xs := rfl
@[simp] theorem e_dat2 {xs : List (Key × D)} : (OD.d xs).dat = .dic xs := rfl
@[simp] theorem e_putG {i : Nat} {d : D} {ρ : Ev} : Tg.put (.nm i) d ρ = if isRef ρ i = true then none else some (ρ.set i (.fz d)) := rfl
@[simp] theorem e_putT {is : List Nat} {ds : List D} {ρ : Ev} : Tg.put (.tp is) (.tup ds) ρ = setAll is ds ρ := rfl
@[simp] theorem e_setA1 {ρ : Ev} : setAll [] [] ρ = some ρ := rfl
@[simp] theorem e_setA2 {i : Nat} {is : List Nat} {d : D} {ds : List D} {ρ : Ev} : setAll (i :: is) (d :: ds) ρ = if isRef ρ i = true then none else setAll is ds (ρ.set i (.fz d)) := rfl
@[simp] theorem e_wipe1 {ρ : Ev} : wipeE ρ [] = ρ := rfl
@[simp] theorem e_wipe2 {ρ : Ev} {v : Nat} {vs : List Nat} : wipeE ρ (v :: vs) = (wipeE ρ vs).set v .un := rfl
@[simp] theorem e_okW1 {ρ : Ev} : okW ρ [] = true := rfl
@[simp] theorem e_okW2 {ρ : Ev} {v : Nat} {vs : List Nat} : okW ρ (v :: vs) = (!isRef ρ v && okW ρ vs) := rfl
@[simp] theorem e_rest1 {ρ ρ2 : Ev} : restE ρ ρ2 [] = ρ2 := rfl
@[simp] theorem e_rest2 {ρ ρ2 : Ev} {v : Nat} {vs : List Nat} : restE ρ ρ2 (v :: vs) = (restE ρ ρ2 vs).set v (keepA ρ[v]?) := rfl
@[simp] theorem e_keep1 {d : D} : keepA (some (.fz d)) = .fz d := rfl
@[simp] theorem e_keep2 {r : Bool} {o : OD} : keepA (some (.ow r o)) = .un := rfl
@[simp] theorem e_keep3 : keepA (some .un) = .un := rfl
@[simp] theorem e_yes {ρ : Ev} : yesF ρ = .val true ρ := rfl
@[simp] theorem e_lcF {it : Ev → Out (List D)} {g : Tg} {tt : Ev → Out Bool} {te : Ev → Out D} {vs : List Nat} {ρ : Ev} : lcF it g tt te vs ρ = (it ρ).bind fun ds ρ1 =>
  if okW ρ1 vs = true then (lcLoop g tt te vs ds (wipeE ρ1 vs) []).bind fun acc ρ2 => .val (.l acc) (restE ρ1 ρ2 vs) else .bad := rfl
@[simp] theorem e_itF {f : Ev → Out D} {ρ : Ev} : itF f ρ = (f ρ).bind fun d ρ1 => ofO (itD d) ρ1 := rfl
@[simp] theorem e_itD1 {xs : List D} : itD (.lst xs) = some xs := rfl
@[simp] theorem e_itD2 {xs : List D} : itD (.tup xs) = some xs := rfl
@[simp] theorem e_keysF {f : Ev → Out D} {ρ : Ev} : keysF f ρ = (f ρ).bind fun d ρ1 => match d with | .dic kvs => .val (kvs.map fun kv => keyD kv.1) ρ1 | _ => .bad := rfl
@[simp] theorem e_rng1 {f : Ev → Out (List D)} {ρ : Ev} : rng1F f ρ = (f ρ).bind fun ds ρ1 => match ds with
  | [.int j] => if -(2 ^ 62) ≤ j ∧ j < 2 ^ 62 then .val (rangeD 0 j.toNat) ρ1 else .bad
  | _ => .bad := rfl
@[simp] theorem e_forF {it : Ev → Out (List D)} {g : Tg} {b : Ev → SOut} {ρ : Ev} : forF it g b ρ = bindS (it ρ) fun ds ρ1 => forS g b ds ρ1 := rfl
@[simp] theorem e_joinF {f g : Ev → Out D} {ρ : Ev} : joinF f g ρ = (f ρ).bind fun a ρ1 => match a with | .str s => (g ρ1).bind fun b ρ2 => ofO (joinO (.str s) b) ρ2 | _ => .bad := rfl
@[simp] theorem e_putAt {i : Nat} {fk fv : Ev → Out D} {ρ : Ev} : putAt i fk fv ρ = bindS (fv ρ) fun d ρ1 => match ρ1[i]? with
  | some (.ow _ _) => bindS (fk ρ1) fun kd ρ2 => match ρ2[i]?, keyOf kd with
    | some (.ow r (.d kvs)), some k => if kvs.length < sizeLine then .nx (ρ2.set i (.ow r (.d (putD kvs k d)))) else .bad
    | _, _ => .bad
  | _ => .bad := rfl
@[simp] theorem e_keyOf {z : Str} : keyOf (.str z) = some (.inr z) := rfl
@[simp] theorem e_tupD1 {xs : List D} : tupD (.lst xs) = some (.tup xs) := rfl
@[simp] theorem e_listD1 {xs : List D} : listD (.lst xs) = some (.l xs) := rfl
@[simp] theorem e_lkD {kvs : List (Key × D)} : lkD (.dic kvs) = some (.l (kvs.map fun kv => keyD kv.1)) := rfl
@[simp] theorem e_orE {f g : Ev → Out D} {ρ : Ev} : orE f g ρ = (f ρ).bind fun b ρ1 => match b with | .bl false => g ρ1 | .bl true => .val (.bl true) ρ1 | _ => .bad := rfl
@[simp] theorem e_notE {f : Ev → Out D} {ρ : Ev} : notE f ρ = (f ρ).bind fun b ρ1 => match b with | .bl c => .val (.bl !c) ρ1 | _ => .bad := rfl
@[simp] theorem e_andF {f g : Ev → Out Bool} {ρ : Ev} : andF f g ρ = (f ρ).bind fun b ρ1 => if b = true then g ρ1 else .val false ρ1 := rfl
@[simp] theorem e_orF {f g : Ev → Out Bool} {ρ : Ev} : orF f g ρ = (f ρ).bind fun b ρ1 => if b = true then .val true ρ1 else g ρ1 := rfl
@[simp] theorem e_notF {f : Ev → Out Bool} {ρ : Ev} : notF f ρ = (f ρ).bind fun b ρ1 => .val (!b) ρ1 := rfl

/-! ### comprehensions, loops of a settled kind -/
theorem lc_pure {g : Tg} {tt : Ev → Out Bool} {te : Ev → Out D} {vs : List Nat} {ρ : Ev} (p : D → Bool) (F : D → D) : ∀ (ds acc : List D), acc.length + ds.length ≤ sizeLine →
    (∀ d ∈ ds, ∃ ρ1, g.put d ρ = some ρ1 ∧ tt ρ1 = .val (p d) ρ1 ∧ (p d = true → te ρ1 = .val (F d) ρ1) ∧ okW ρ1 vs = true ∧ wipeE ρ1 vs = ρ) → lcLoop g tt te vs ds ρ acc = .val (acc ++ (ds.filter p).map F) ρ
  | [], acc, _, _ => by simp [lcLoop]
  | d :: ds, acc, hz, h => by
    obtain ⟨ρ1, h1, h2, h3, h4, h5⟩ := h d (.head _)
    have hz1 : acc.length < sizeLine := by rw [List.length_cons] at hz; omega
    unfold lcLoop
    rw [h1]
    dsimp only
    rw [h2]
    cases hp : p d with
    | false =>
      dsimp only
      rw [if_pos h4, h5, lc_pure p F ds acc (by rw [List.length_cons] at hz; omega) fun d hd => h d (.tail _ hd), List.filter_cons_of_neg (by rw [hp]; decide)]
    | true =>
      dsimp only
      rw [h3 hp]
      dsimp only
      rw [if_pos ⟨hz1, h4⟩, h5, lc_pure p F ds (acc ++ [F d]) (by rw [List.length_cons] at hz; rw [List.length_append, List.length_singleton]; omega) fun d hd => h d (.tail _ hd), List.filter_cons_of_pos hp]
      simp
theorem for_inv {g : Tg} {b : Ev → SOut} (I : Nat → Ev → Prop) : ∀ (ds : List D) (i : Nat) (ρ : Ev), I i ρ → (∀ j d ρ, ds[j]? = some d → I (i + j) ρ → ∃ ρ1 ρ2, g.put d ρ = some ρ1 ∧ b ρ1 = .nx ρ2 ∧ I (i + j + 1) ρ2) → ∃ ρ', forS g b ds ρ = .nx ρ' ∧ I (i + ds.length) ρ'
  | [], i, ρ, h, _ => ⟨ρ, rfl, h⟩
  | d :: ds, i, ρ, h, k => by
    obtain ⟨ρ1, ρ2, h1, h2, h3⟩ := k 0 d ρ rfl h
    obtain ⟨ρ', h4, h5⟩ := for_inv I ds (i + 1) ρ2 h3 fun j d ρ hd hI => by
      have := k (j + 1) d ρ (by simpa using hd) (by rw [show i + (j + 1) = i + 1 + j by omega]; exact hI)
      rw [show i + (j + 1) + 1 = i + 1 + j + 1 by omega] at this
      exact this
    refine ⟨ρ', ?_, by rw [List.length_cons, show i + (ds.length + 1) = i + 1 + ds.length by omega]; exact h5⟩
    unfold forS
    rw [h1]
    dsimp only
    rw [h2]
    exact h4
end DL
set_option Elab.async false
set_option linter.all false
set_option maxRecDepth 100000
set_option maxHeartbeats 4000000
namespace DL
open PySem PySem.Spec L2
section
variable {α : Type} {enc : α → D}
def kvsD (enc : α → D) (ps : List (Str × α)) : List (Key × D) := ps.map fun p => (.inr p.1, enc p.2)
def putA (ps : List (Str × α)) (z : Str) (a : α) : List (Str × α) := if z ∈ ps.map (·.1) then ps.map (fun p => if p.1 = z then (p.1, a) else p) else ps ++ [(z, a)]
theorem kvsD_length (ps : List (Str × α)) : (kvsD enc ps).length = ps.length := by simp [kvsD]
theorem any_kvs (ps : List (Str × α)) (z : Str) : ((kvsD enc ps).any fun kv => decide (kv.1 = .inr z)) = decide (z ∈ ps.map (·.1)) := by
  induction ps with
  | nil => rfl
  | cons p ps ih =>
    show (decide ((Sum.inr p.1 : Key) = .inr z) || (kvsD enc ps).any _) = _
    rw [ih]
    have e : decide ((Sum.inr p.1 : Key) = .inr z) = decide (z = p.1) := by
      by_cases h : z = p.1
      · subst h; simp
      · rw [decide_eq_false h, decide_eq_false (fun e => h (Sum.inr.inj e).symm)]
    rw [e, List.map_cons, ← Bool.decide_or]
    exact decide_eq_decide.mpr List.mem_cons.symm
theorem putD_kvs (ps : List (Str × α)) (z : Str) (a : α) : putD (kvsD enc ps) (.inr z) (enc a) = kvsD enc (putA ps z a) := by
  unfold putD putA
  rw [any_kvs]
  by_cases h : z ∈ ps.map (·.1)
  · rw [if_pos (decide_eq_true h), if_pos h]
    unfold kvsD
    rw [List.map_map, List.map_map]
    refine List.map_congr_left fun p _ => ?_
    by_cases e : p.1 = z
    · simp [e]
    · have e' : ¬ ((Sum.inr p.1 : Key) = .inr z) := fun q => e (Sum.inr.inj q)
      simp [e, e']
  · rw [if_neg (by rw [decide_eq_false h]; decide), if_neg h]
    simp [kvsD]
theorem putA_keys (ps : List (Str × α)) (z : Str) (a : α) : (putA ps z a).map (·.1) = if z ∈ ps.map (·.1) then ps.map (·.1) else ps.map (·.1) ++ [z] := by
  unfold putA
  split
  · rw [List.map_map]
    refine List.map_congr_left fun p _ => ?_
    by_cases e : p.1 = z <;> simp [e]
  · simp
theorem putA_nodup {ps : List (Str × α)} {z : Str} {a : α} (h : (ps.map (·.1)).Nodup) : ((putA ps z a).map (·.1)).Nodup := by
  rw [putA_keys]
  split
  · exact h
  · rename_i n
    exact List.nodup_append.mpr ⟨h, List.nodup_cons.mpr ⟨by simp, List.nodup_nil⟩, fun x hx y hy => by rintro rfl; rw [List.mem_singleton] at hy; subst hy; exact n hx⟩
theorem putA_mem {ps : List (Str × α)} {z : Str} {a : α} {p : Str × α} (h : p ∈ putA ps z a) : p = (z, a) ∨ p ∈ ps := by
  unfold putA at h
  split at h
  · obtain ⟨q, hq, rfl⟩ := List.mem_map.mp h
    by_cases e : q.1 = z
    · rw [if_pos e, e]; exact .inl rfl
    · rw [if_neg e]; exact .inr hq
  · rcases List.mem_append.mp h with h | h
    · exact .inr h
    · exact .inl (List.mem_singleton.mp h)
theorem putA_length (ps : List (Str × α)) (z : Str) (a : α) : (putA ps z a).length ≤ ps.length + 1 ∧ ps.length ≤ (putA ps z a).length ∧ 1 ≤ (putA ps z a).length := by
  unfold putA
  split
  · rename_i h
    rw [List.length_map]
    have : ps ≠ [] := by rintro rfl; cases h
    have := List.length_pos_iff.mpr this
    omega
  · rw [List.length_append, List.length_singleton]; omega
theorem valD_kvs {ps : List (Str × α)} {z : Str} {a : α} (nd : (ps.map (·.1)).Nodup) (h : (z, a) ∈ ps) : valD (kvsD enc ps) (.inr z) = some (enc a) := by
  induction ps with
  | nil => cases h
  | cons p ps ih =>
    rw [List.map_cons, List.nodup_cons] at nd
    by_cases e : p.1 = z
    · have : p = (z, a) := by
        cases h with
        | head => rfl
        | tail _ h => exact absurd (List.mem_map.mpr ⟨_, h, rfl⟩) (by rw [e] at nd; exact nd.1)
      subst this
      simp [valD, kvsD]
    · have e' : ¬ ((Sum.inr p.1 : Key) = .inr z) := fun q => e (Sum.inr.inj q)
      have h' : (z, a) ∈ ps := by
        cases h with
        | head => exact absurd rfl e
        | tail _ h => exact h
      have := ih nd.2 h'
      simp only [valD, kvsD, List.map_cons, List.find?_cons, decide_eq_false e'] at this ⊢
      exact this
theorem valD_none {ps : List (Str × α)} {z : Str} (h : z ∉ ps.map (·.1)) : valD (kvsD enc ps) (.inr z) = none := by
  induction ps with
  | nil => rfl
  | cons p ps ih =>
    rw [List.map_cons, List.mem_cons, not_or] at h
    have e' : ¬ ((Sum.inr p.1 : Key) = .inr z) := fun q => h.1 (Sum.inr.inj q).symm
    have := ih h.2
    simp only [valD, kvsD, List.map_cons, List.find?_cons, decide_eq_false e'] at this ⊢
    exact this
theorem txK_kvs (ps : List (Str × α)) : txK (kvsD enc ps) = some (ps.map (·.1)) := by
  induction ps with
  | nil => rfl
  | cons p ps ih =>
    show (txK (kvsD enc ps)).map (p.1 :: ·) = _
    rw [ih]; rfl
theorem skD_kvs (ps : List (Str × α)) : skD (.dic (kvsD enc ps)) = some (.l ((DLS.srt (ps.map (·.1))).map D.str)) := by
  show (txK (kvsD enc ps)).map _ = _
  rw [txK_kvs]; rfl
theorem keys_kvs (ps : List (Str × α)) : ((kvsD enc ps).map fun kv => keyD kv.1) = (ps.map (·.1)).map D.str := by
  unfold kvsD
  rw [List.map_map, List.map_map]; rfl
end
/-! ### texts -/
theorem toPyL_strs (xs : List Str) : toPyL (xs.map D.str) = some (xs.map PyData.str) := by
  induction xs with
  | nil => rw [List.map_nil, toPyL]; rfl
  | cons x xs ih => rw [List.map_cons, toPyL, toPy, ih]; rfl
theorem eqvAll_strs : ∀ xs ys : List Str, PyData.eqvAll (xs.map PyData.str) (ys.map PyData.str) = decide (xs = ys)
  | [], [] => by simp [PyData.eqvAll]
  | [], _ :: _ => by simp [PyData.eqvAll]
  | _ :: _, [] => by simp [PyData.eqvAll]
  | x :: xs, y :: ys => by
    rw [List.map_cons, List.map_cons, PyData.eqvAll, PyData.eqv, eqvAll_strs xs ys]
    by_cases h : x = y
    · subst h; simp
    · simp [h]
/-- a text that may be laid -/
def Plain (z : Str) : Prop := PyData.strOk z = true
theorem lay_strs (xs : List Str) (h : ∀ x ∈ xs, Plain x) : PyData.canLayAll0 (xs.map PyData.str) = true := by
  induction xs with
  | nil => simp [PyData.canLayAll0]
  | cons x xs ih =>
    rw [List.map_cons, PyData.canLayAll0, PyData.canLay0, ih fun y hy => h y (.tail _ hy), Bool.and_true]
    exact h x (.head _)
theorem depth_strs (xs : List Str) : PyData.depthAll (xs.map PyData.str) = 0 := by
  induction xs with
  | nil => simp [PyData.depthAll]
  | cons x xs ih => rw [List.map_cons, PyData.depthAll, PyData.depth, ih]; rfl
theorem shaped_strs (xs : List Str) (h : ∀ x ∈ xs, Plain x) : SeqAt.shaped (.list (xs.map PyData.str)) = true := by
  unfold SeqAt.shaped
  rw [PyData.canLay0, lay_strs xs h, PyData.depth, depth_strs]; rfl
theorem eq_strs (xs ys : List Str) (hx : ∀ x ∈ xs, Plain x) (hy : ∀ y ∈ ys, Plain y) : eqO (.lst (xs.map D.str)) (.lst (ys.map D.str)) = some (.bl (decide (xs = ys))) := by
  have h1 : toPy (.lst (xs.map D.str)) = some (.list (xs.map PyData.str)) := by rw [toPy, toPyL_strs]; rfl
  have h2 : toPy (.lst (ys.map D.str)) = some (.list (ys.map PyData.str)) := by rw [toPy, toPyL_strs]; rfl
  show (match toPy _, toPy _ with | some x, some y => (if SeqAt.shaped x = true ∧ SeqAt.shaped y = true then some (D.bl (PyData.eqv x y)) else none) | _, _ => none) = _
  rw [h1, h2]
  dsimp only
  rw [if_pos ⟨shaped_strs xs hx, shaped_strs ys hy⟩, PyData.eqv, eqvAll_strs]
theorem ne_strs (xs ys : List Str) (hx : ∀ x ∈ xs, Plain x) (hy : ∀ y ∈ ys, Plain y) : neO (.lst (xs.map D.str)) (.lst (ys.map D.str)) = some (.bl (!decide (xs = ys))) := by
  have h := eq_strs xs ys hx hy
  have h' : eqP (.lst (xs.map D.str)) (.lst (ys.map D.str)) = some (.bl (decide (xs = ys))) := h
  show (match eqP _ _ with | some (.bl c) => some (D.bl !c) | _ => none) = _
  rw [h']
theorem inV_strs (x : Str) (xs : List Str) : inV (.str x) ((xs.map D.str).map flatOf) = decide (x ∈ xs) := by
  unfold inV
  rw [List.map_map, List.any_map]
  induction xs with
  | nil => rfl
  | cons y ys ih =>
    rw [List.any_cons, ih]
    have e : (((fun y => eqV y (V.str x)) ∘ flatOf ∘ D.str) y) = decide (x = y) := by
      show (y == x) = _
      by_cases h : x = y
      · subst h; simp
      · rw [decide_eq_false h]; exact beq_eq_false_iff_ne.mpr (Ne.symm h)
    rw [e, ← Bool.decide_or]
    exact decide_eq_decide.mpr List.mem_cons.symm
theorem flat_strs (xs : List Str) : (xs.map D.str).all isFlat = true := by
  rw [List.all_map]; exact List.all_eq_true.mpr fun _ _ => rfl
theorem inF_strs (x : Str) (xs : List Str) : inF (.str x) (.lst (xs.map D.str)) = some (.bl (decide (x ∈ xs))) := by
  show (if isFlat (.str x) = true ∧ (xs.map D.str).all isFlat = true then some (D.bl (inV (.str x) ((xs.map D.str).map flatOf))) else none) = _
  rw [if_pos ⟨rfl, flat_strs xs⟩, inV_strs]
theorem orO1 {p q : D → D → Option D} {a b d : D} (h : p a b = some d) : orO p q a b = some d := by unfold orO; rw [h]
theorem orO2 {p q : D → D → Option D} {a b : D} (h : p a b = none) : orO p q a b = q a b := by unfold orO; rw [h]
theorem notO1 {p : D → D → Option D} {a b : D} {c : Bool} (h : p a b = some (.bl c)) : notO p a b = some (.bl !c) := by unfold notO; rw [h]
theorem notO2 {p : D → D → Option D} {a b : D} (h : p a b = none) : notO p a b = none := by unfold notO; rw [h]
theorem in_strs (x : Str) (xs : List Str) : inA (.str x) (.lst (xs.map D.str)) = some (.bl (decide (x ∈ xs))) := orO1 (orO1 (inF_strs x xs))
theorem nin_strs (x : Str) (xs : List Str) : ninA (.str x) (.lst (xs.map D.str)) = some (.bl (!decide (x ∈ xs))) := orO1 (orO1 (notO1 (inF_strs x xs)))
theorem has_kvs {α : Type} {enc : α → D} (ps : List (Str × α)) (z : Str) : (valD (kvsD enc ps) (.inr z)).isSome = decide (z ∈ ps.map (·.1)) := by
  induction ps with
  | nil => rfl
  | cons p ps ih =>
    by_cases e : p.1 = z
    · subst e; simp [valD, kvsD]
    · have e' : ¬ ((Sum.inr p.1 : Key) = .inr z) := fun q => e (Sum.inr.inj q)
      have e2 : valD (kvsD enc (p :: ps)) (.inr z) = valD (kvsD enc ps) (.inr z) := by simp only [valD, kvsD, List.map_cons, List.find?_cons, decide_eq_false e']
      rw [e2, ih]
      refine decide_eq_decide.mpr ?_
      rw [List.map_cons, List.mem_cons]
      exact ⟨.inr, fun h => h.elim (fun h => absurd h.symm e) id⟩
theorem inO_dic (x : Str) (kvs : List (Key × D)) : inO (.str x) (.dic kvs) = none := by
  refine (orO2 rfl).trans ((orO2 ?_).trans rfl)
  unfold inP
  rw [toPy]
theorem ninO_dic (x : Str) (kvs : List (Key × D)) : ninO (.str x) (.dic kvs) = none := by
  refine (orO2 (notO2 rfl)).trans ((orO2 (notO2 ?_)).trans rfl)
  unfold inP
  rw [toPy]
theorem in_kvs {α : Type} {enc : α → D} (x : Str) (ps : List (Str × α)) : inA (.str x) (.dic (kvsD enc ps)) = some (.bl (decide (x ∈ ps.map (·.1)))) := by
  rw [← has_kvs (enc := enc)]
  exact (orO2 (inO_dic x _)).trans rfl
theorem nin_kvs {α : Type} {enc : α → D} (x : Str) (ps : List (Str × α)) : ninA (.str x) (.dic (kvsD enc ps)) = some (.bl (!decide (x ∈ ps.map (·.1)))) := by
  rw [← has_kvs (enc := enc)]
  exact (orO2 (ninO_dic x _)).trans (notO1 rfl)
theorem sort_strs (xs : List Str) : sortD (.lst (xs.map D.str)) = some (.l ((DLS.srt xs).map D.str)) := by
  show (toStrs (xs.map D.str)).map _ = _
  rw [toStrs_map]; rfl
theorem sortSet_strs (xs : List Str) (h : xs.length < 4000) : sortSetD (.lst (xs.map D.str)) = some (.l ((DLS.srtSet xs).map D.str)) := by
  show (toStrs (xs.map D.str)).bind _ = _
  rw [toStrs_map]
  show (if xs.length < 4000 then _ else _) = _
  rw [if_pos h]
theorem add_strs (xs ys : List D) (h : xs.length + ys.length ≤ sizeLine) : addO (.lst xs) (.lst ys) = some (.lst (xs ++ ys)) := by
  refine (orO2 rfl).trans ((orO2 rfl).trans (orO1 ?_))
  show (if xs.length + ys.length ≤ sizeLine then _ else _) = _
  rw [if_pos h]
theorem add_tups (xs ys : List D) (h : xs.length + ys.length ≤ sizeLine) : addO (.tup xs) (.tup ys) = some (.tup (xs ++ ys)) := by
  refine (orO2 rfl).trans ((orO2 rfl).trans ((orO2 rfl).trans ?_))
  show (if xs.length + ys.length ≤ sizeLine then _ else _) = _
  rw [if_pos h]
theorem all_bls (bs : List Bool) : allD (.lst (bs.map D.bl)) = some (.bl (bs.all id)) := by
  show (toBls (bs.map D.bl)).map _ = _
  rw [toBls_map]; rfl
@[simp] theorem at0 {α : Type} {x : α} {xs : List α} : atI (x :: xs) 0 = some x := atI_of (by decide) rfl
@[simp] theorem at1 {α : Type} {x y : α} {xs : List α} : atI (x :: y :: xs) 1 = some y := atI_of (by decide) rfl
@[simp] theorem at2 {α : Type} {x y z : α} {xs : List α} : atI (x :: y :: z :: xs) 2 = some z := atI_of (by decide) rfl
@[simp] theorem at3 {α : Type} {x y z u : α} {xs : List α} : atI (x :: y :: z :: u :: xs) 3 = some u := atI_of (by decide) rfl
theorem get_of {α : Type} {enc : α → D} {ps : List (Str × α)} {z : Str} {a : α} (nd : (ps.map (·.1)).Nodup) (h : (z, a) ∈ ps) : ixO (.dic (kvsD enc ps)) (.str z) = some (enc a) := by rw [e_ix3]; exact valD_kvs nd h
@[simp] theorem e_chF {o o' : D → D → Option D} {f g h : Ev → Out RV} {ρ : Ev} : chF o o' f g h ρ = (f ρ).bind fun a ρ1 => (g ρ1).bind fun b ρ2 => (onTwo o ρ2 (look ρ2 a) (look ρ2 b)).bind fun r ρ3 => match r with
  | .bl true => (h ρ3).bind fun c ρ4 => onTwo o' ρ4 (look ρ4 b) (look ρ4 c)
  | .bl false => .val (.bl false) ρ3
  | _ => .bad := rfl
@[simp] theorem isi_int1 {i : Int} : isiD "int" (.int i) = some (.bl true) := rfl
@[simp] theorem isi_int2 {i : Int} : isiD "bool" (.int i) = some (.bl false) := rfl
@[simp] theorem isi_str1 {z : Str} : isiD "str" (.str z) = some (.bl true) := rfl
@[simp] theorem isi_tup1 {xs : List D} : isiD "tuple" (.tup xs) = some (.bl true) := rfl
@[simp] theorem isi_lst1 {xs : List D} : isiD "list" (.lst xs) = some (.bl true) := rfl
@[simp] theorem isi_dic1 {xs : List (Key × D)} : isiD "dict" (.dic xs) = some (.bl true) := rfl
@[simp] theorem eqI {i j : Int} : eqO (.int i) (.int j) = some (.bl (decide (i = j))) := rfl
@[simp] theorem neI {i j : Int} : neO (.int i) (.int j) = some (.bl (!decide (i = j))) := rfl
theorem in_sign {c : Nat} {z : Str} : inA (.str ⟨#[c]⟩) (.str z) = some (.bl (decide (c ∈ z.cps.toList))) := by
  refine orO1 ((orO2 rfl).trans ((orO2 ?_).trans rfl))
  unfold inP
  split
  · rename_i h; cases h
  · rfl
theorem len_str {z : Str} (h : z.length ≤ sizeLine) : lenD (.str z) = some (.int z.length) := by show (if z.length ≤ sizeLine then _ else _) = _; rw [if_pos h]
@[simp] theorem itS {z : Str} : itD (.str z) = some (z.cps.toList.map fun c => .str ⟨#[c]⟩) := rfl
theorem all_map {α : Type} {xs : List α} {f : α → D} (h : ∀ x ∈ xs, f x = .bl true) : allD (.lst (xs.map f)) = some (.bl true) := by
  have e : xs.map f = (xs.map fun _ => true).map D.bl := by
    rw [List.map_map]; exact List.map_congr_left h
  rw [e, all_bls]
  congr 2
  rw [List.all_map]; exact List.all_eq_true.mpr fun _ _ => rfl
end DL
set_option Elab.async false
set_option linter.all false
set_option maxRecDepth 100000
set_option maxHeartbeats 4000000
namespace Wk
open PySem PySem.Spec L2 DL
def fuel : Nat := 1000000
/-! ### what each def does -/
/-- is_whole: 0 thing 1 low 2 most -/
def s_is_whole : Ev → SOut := seqS (retS (andE (unF (isiD "int") (varR 0)) (andE (notE (unF (isiD "bool") (varR 0))) (chF leI leI (varR 1) (varR 0) (varR 2))))) (nxS)
def F_is_whole : List AV → FOut := bodyF 3 3 s_is_whole
/-- is_word: 0 thing 1 sign -/
def s_is_word : Ev → SOut := seqS (retS (andE (unF (isiD "str") (varR 0)) (andE (chF leI leI (datO (conE (.int 1))) (datO (unF lenD (varR 0))) (datO (conE (.int 8)))) (unF allD (datO (mapO OD.dat (lcF (itF (varE 0)) (.nm 1) (yesF) (binF inA (varR 1) (datO (conE (.str "abcdefghijklmnopqrstuvwxyz")))) [1]))))))) (nxS)
def F_is_word : List AV → FOut := bodyF 1 2 s_is_word
/-- ways: 0 book -/
def s_ways : Ev → SOut := seqS (retS (mapO OD.dat (unF skD (varR 0)))) (nxS)
def F_ways : List AV → FOut := bodyF 1 1 s_ways
/-- all_goods: 0 book 1 found 2 name 3 word 4 many -/
def s_all_goods : Ev → SOut := seqS (setN 1 (dicN0)) (seqS (forF (keysF (varE 0)) (.nm 2) (seqS (forF (itF (binF addO (datO (binF ixO (datO (binF ixO (varR 0) (varR 2))) (datO (conE (.int 0))))) (datO (binF ixO (datO (binF ixO (varR 0) (varR 2))) (datO (conE (.int 1))))))) (.tp [3, 4]) (seqS (putAt 1 (varE 3) (conE (.bl true))) (nxS))) (nxS))) (seqS (retS (mapO OD.dat (unF skD (varR 1)))) (nxS)))
def F_all_goods : List AV → FOut := bodyF 1 5 s_all_goods
/-- behind: 0 some 1 word 2 found 3 ahead 4 other -/
def s_behind : Ev → SOut := seqS (setN 2 (lstN (nilL))) (seqS (setN 3 (lstN (consL (varE 1) (nilL)))) (seqS (whileS fuel (truF (varR 3)) (seqS (forF (itF (binF ixO (varR 0) (datO (popE 3)))) (.nm 4) (seqS (ifS (tstF (binF ninA (varR 4) (varR 2))) (seqS (exprS (appE 2 (varE 4))) (seqS (exprS (appE 3 (varE 4))) (nxS))) (nxS)) (nxS))) (nxS))) (seqS (retS (varE 2)) (nxS))))
def F_behind : List AV → FOut := bodyF 2 5 s_behind
/-- _law_cell: 0 _law_script 1 _law_k -/
def s_law_cell : Ev → SOut := seqS (ifS (truF (varR 0)) (seqS (retS (binF ixO (varR 0) (datO (binF modI (varR 1) (datO (unF lenD (varR 0))))))) (nxS)) (nxS)) (seqS (retS (conE (.int 0))) (nxS))
def F_law_cell : List AV → FOut := bodyF 2 2 s_law_cell
/-- _law_goods: 0 _law_book_here 1 _law_found 2 _law_name 3 _law_word 4 _law_many -/
def s_law_goods : Ev → SOut := seqS (setS 1 (mapO OD.dat (lstN (nilL)))) (seqS (forF (itF (mapO OD.dat (unF lkD (varR 0)))) (.nm 2) (seqS (setS 1 (binF addO (varR 1) (datO (mapO OD.dat (lcF (itF (binF addO (datO (binF ixO (datO (binF ixO (varR 0) (varR 2))) (datO (conE (.int 0))))) (datO (binF ixO (datO (binF ixO (varR 0) (varR 2))) (datO (conE (.int 1))))))) (.tp [3, 4]) (yesF) (varE 3) [3, 4]))))) (nxS))) (seqS (retS (mapO OD.dat (unF sortSetD (varR 1)))) (nxS)))
def F_law_goods : List AV → FOut := bodyF 1 5 s_law_goods
/-- _law_behind: 0 _law_book_here 1 _law_word 2 _law_found 3 _law_ahead 4 _law_here 5 _law_name 6 _law_one 7 _law_many -/
def s_law_behind : Ev → SOut := seqS (setN 2 (lstN (nilL))) (seqS (setN 3 (lstN (consL (varE 1) (nilL)))) (seqS (whileS fuel (tstF (binF neO (varR 3) (datO (mapO OD.dat (lstN (nilL)))))) (seqS (setS 4 (popE 3)) (seqS (forF (itF (mapO OD.dat (unF skD (varR 0)))) (.nm 5) (seqS (ifS (tstF (binF inA (varR 4) (datO (mapO OD.dat (lcF (itF (binF ixO (datO (binF ixO (varR 0) (varR 5))) (datO (conE (.int 0))))) (.tp [6, 7]) (yesF) (varE 6) [6, 7]))))) (seqS (forF (itF (binF ixO (datO (binF ixO (varR 0) (varR 5))) (datO (conE (.int 1))))) (.tp [6, 7]) (seqS (ifS (tstF (binF ninA (varR 6) (varR 2))) (seqS (exprS (appE 2 (varE 6))) (seqS (exprS (appE 3 (varE 6))) (nxS))) (nxS)) (nxS))) (nxS)) (nxS)) (nxS))) (nxS)))) (seqS (retS (varE 2)) (nxS))))
def F_law_behind : List AV → FOut := bodyF 2 8 s_law_behind
/-- is_side: 0 thing 1 low 2 one 3 words -/
def s_is_side : Ev → SOut := seqS (ifS (orF (notF (tstF (unF (isiD "tuple") (varR 0)))) (notF (tstF (chF leI leI (varR 1) (datO (unF lenD (varR 0))) (datO (conE (.int 3))))))) (seqS (retS (conE (.bl false))) (nxS)) (nxS)) (seqS (ifS (notF (tstF (unF allD (datO (mapO OD.dat (lcF (itF (varE 0)) (.nm 2) (yesF) (andE (unF (isiD "tuple") (varR 2)) (binF eqO (datO (unF lenD (varR 2))) (datO (conE (.int 2))))) [2])))))) (seqS (retS (conE (.bl false))) (nxS)) (nxS)) (seqS (ifS (notF (tstF (unF allD (datO (mapO OD.dat (lcF (itF (varE 0)) (.nm 2) (yesF) (andE (callF 1 F_is_word (datA (binF ixO (varR 2) (datO (conE (.int 0)))) (nilA))) (callF 3 F_is_whole (datA (binF ixO (varR 2) (datO (conE (.int 1)))) (datA (conE (.int 1)) (datA (conE (.int 20)) (nilA)))))) [2])))))) (seqS (retS (conE (.bl false))) (nxS)) (nxS)) (seqS (setN 3 (lcF (itF (varE 0)) (.nm 2) (yesF) (binF ixO (varR 2) (datO (conE (.int 0)))) [2])) (seqS (retS (binF eqO (datO (mapO OD.dat (unF sortSetD (varR 3)))) (varR 3))) (nxS)))))
def F_is_side : List AV → FOut := bodyF 2 4 s_is_side
/-- look_raws: 0 raws 1 word -/
def s_look_raws : Ev → SOut := seqS (ifS (orF (notF (tstF (unF (isiD "list") (varR 0)))) (orF (tstF (binF gtI (datO (unF lenD (varR 0))) (datO (conE (.int 20))))) (notF (tstF (unF allD (datO (mapO OD.dat (lcF (itF (varE 0)) (.nm 1) (yesF) (callF 1 F_is_word (datA (varE 1) (nilA))) [1])))))))) (seqS (badS) (nxS)) (nxS)) (seqS (ifS (tstF (binF neO (datO (mapO OD.dat (unF sortSetD (varR 0)))) (varR 0))) (seqS (badS) (nxS)) (nxS)) (nxS))
def F_look_raws : List AV → FOut := bodyF 1 2 s_look_raws
/-- goods_behind: 0 book 1 found 2 word 3 name 4 many 5 other 6 more -/
def s_goods_behind : Ev → SOut := seqS (setN 1 (dicN0)) (seqS (forF (itF (callF 1 F_all_goods (datA (varE 0) (nilA)))) (.nm 2) (seqS (putAt 1 (varE 2) (mapO OD.dat (lstN (nilL)))) (nxS))) (seqS (forF (keysF (varE 0)) (.nm 3) (seqS (forF (itF (binF ixO (datO (binF ixO (varR 0) (varR 3))) (datO (conE (.int 0))))) (.tp [2, 4]) (seqS (putAt 1 (varE 2) (mapO OD.dat (unF sortSetD (datO (binF addO (datO (binF ixO (varR 1) (varR 2))) (datO (mapO OD.dat (lcF (itF (binF ixO (datO (binF ixO (varR 0) (varR 3))) (datO (conE (.int 1))))) (.tp [5, 6]) (yesF) (varE 5) [5, 6])))))))) (nxS))) (nxS))) (seqS (retS (varE 1)) (nxS))))
def F_goods_behind : List AV → FOut := bodyF 1 7 s_goods_behind
/-- _law_mix: 0 _law_script 1 _law_k 2 _law_number -/
def s_law_mix : Ev → SOut := seqS (setS 2 (binF modI (datO (binF addO (datO (callF 2 F_law_cell (datA (varE 0) (datA (varE 1) (nilA))))) (datO (binF mulI (datO (conE (.int 104729))) (datO (binF addO (varR 1) (datO (conE (.int 1))))))))) (datO (conE (.int 4294967291))))) (seqS (setS 2 (binF modI (datO (binF powI (varR 2) (datO (conE (.int 5))))) (datO (conE (.int 4294967279))))) (seqS (retS (binF modI (datO (binF addO (datO (binF mulI (datO (binF fdivI (varR 2) (datO (conE (.int 64))))) (datO (conE (.int 69621))))) (varR 2))) (datO (conE (.int 4294967231))))) (nxS)))
def F_law_mix : List AV → FOut := bodyF 2 3 s_law_mix
/-- _law_rings: 0 _law_book_here 1 _law_words 2 _law_behind_now 3 _law_word 4 _law_found 5 _law_ring 6 _law_one -/
def s_law_rings : Ev → SOut := seqS (setS 1 (callF 1 F_law_goods (datA (varE 0) (nilA)))) (seqS (setS 2 (mapO OD.dat (unF dictD (datO (mapO OD.dat (lcF (itF (varE 1)) (.nm 3) (yesF) (tupE (consL (varE 3) (consL (callF 2 F_law_behind (datA (varE 0) (datA (varE 3) (nilA)))) (nilL)))) [3])))))) (seqS (setN 4 (lstN (nilL))) (seqS (forF (itF (varE 1)) (.nm 3) (seqS (setN 5 (lcF (itF (varE 1)) (.nm 6) (andF (tstF (binF inA (varR 6) (datO (binF ixO (varR 2) (varR 3))))) (tstF (binF inA (varR 3) (datO (binF ixO (varR 2) (varR 6)))))) (varE 6) [6])) (seqS (ifS (andF (tstF (binF inA (varR 3) (varR 5))) (tstF (binF ninA (varR 5) (varR 4)))) (seqS (exprS (appE 4 (varE 5))) (nxS)) (nxS)) (nxS)))) (seqS (retS (varE 4)) (nxS)))))
def F_law_rings : List AV → FOut := bodyF 1 7 s_law_rings
/-- is_way: 0 thing -/
def s_is_way : Ev → SOut := seqS (ifS (orF (notF (tstF (unF (isiD "tuple") (varR 0)))) (orF (tstF (binF neO (datO (unF lenD (varR 0))) (datO (conE (.int 4))))) (orF (notF (tstF (callF 2 F_is_side (datA (binF ixO (varR 0) (datO (conE (.int 0)))) (datA (conE (.int 0)) (nilA)))))) (notF (tstF (callF 2 F_is_side (datA (binF ixO (varR 0) (datO (conE (.int 1)))) (datA (conE (.int 1)) (nilA))))))))) (seqS (retS (conE (.bl false))) (nxS)) (nxS)) (seqS (retS (andE (callF 3 F_is_whole (datA (binF ixO (varR 0) (datO (conE (.int 2)))) (datA (conE (.int 1)) (datA (conE (.int 20)) (nilA))))) (callF 3 F_is_whole (datA (binF ixO (varR 0) (datO (conE (.int 3)))) (datA (conE (.int 0)) (datA (conE (.int 50)) (nilA))))))) (nxS))
def F_is_way : List AV → FOut := bodyF 1 1 s_is_way
/-- _law_draw: 0 _law_script 1 _law_town 2 _law_many -/
def s_law_draw : Ev → SOut := seqS (exprS (appE 1 (conE (.int 0)))) (seqS (retS (binF modI (datO (binF fdivI (datO (callF 2 F_law_mix (datA (varE 0) (datA (unF lenD (varR 1)) (nilA))))) (datO (conE (.int 8))))) (varR 2))) (nxS))
def F_law_draw : List AV → FOut := bodyF 3 3 s_law_draw
/-- look_book: 0 book 1 name -/
def s_look_book : Ev → SOut := seqS (ifS (orF (notF (tstF (unF (isiD "dict") (varR 0)))) (notF (tstF (chF leI leI (datO (conE (.int 1))) (datO (unF lenD (varR 0))) (datO (conE (.int 6))))))) (seqS (badS) (nxS)) (nxS)) (seqS (forF (keysF (varE 0)) (.nm 1) (seqS (ifS (orF (notF (tstF (callF 1 F_is_word (datA (varE 1) (nilA))))) (notF (tstF (callF 1 F_is_way (datA (binF ixO (varR 0) (varR 1)) (nilA)))))) (seqS (badS) (nxS)) (nxS)) (nxS))) (nxS))
def F_look_book : List AV → FOut := bodyF 1 2 s_look_book
/-- _law_pick: 0 _law_script 1 _law_town 2 _law_some -/
def s_law_pick : Ev → SOut := seqS (retS (binF ixO (varR 2) (datO (callF 3 F_law_draw (datA (varE 0) (refA 1 (datA (unF lenD (varR 2)) (nilA)))))))) (nxS)
def F_law_pick : List AV → FOut := bodyF 3 3 s_law_pick
/-- _law_raws: 0 _law_script 1 _law_town 2 _law_book_here 3 _law_some 4 _law_word -/
def s_law_raws : Ev → SOut := seqS (setS 3 (binF addO (datO (mapO OD.dat (lstN (consL (conE (.str "coal")) (consL (conE (.str "ore")) (nilL)))))) (datO (mapO OD.dat (lcF (itF (callF 1 F_law_goods (datA (varE 2) (nilA)))) (.nm 4) (tstF (binF eqO (datO (callF 3 F_law_draw (datA (varE 0) (refA 1 (datA (conE (.int 4)) (nilA)))))) (datO (conE (.int 0))))) (varE 4) [4]))))) (seqS (retS (slF (mapO OD.dat (unF sortSetD (datO (slF (varE 3) (partF (callF 3 F_law_draw (datA (varE 0) (refA 1 (datA (conE (.int 3)) (nilA)))))) (noPF))))) (noPF) (partF (conE (.int 20))))) (nxS))
def F_law_raws : List AV → FOut := bodyF 3 5 s_law_raws
/-- goods: 0 book -/
def s_goods : Ev → SOut := seqS (exprS (callF 1 F_look_book (datA (varE 0) (nilA)))) (seqS (retS (callF 1 F_all_goods (datA (varE 0) (nilA)))) (nxS))
def F_goods : List AV → FOut := bodyF 1 1 s_goods
/-- givers: 0 book 1 word 2 name -/
def s_givers : Ev → SOut := seqS (exprS (callF 1 F_look_book (datA (varE 0) (nilA)))) (seqS (ifS (notF (tstF (callF 1 F_is_word (datA (varE 1) (nilA))))) (seqS (badS) (nxS)) (nxS)) (seqS (retS (mapO OD.dat (lcF (itF (callF 1 F_ways (datA (varE 0) (nilA)))) (.nm 2) (tstF (binF inA (varR 1) (datO (mapO OD.dat (unF dictD (datO (binF ixO (datO (binF ixO (varR 0) (varR 2))) (datO (conE (.int 1)))))))))) (varE 2) [2]))) (nxS)))
def F_givers : List AV → FOut := bodyF 2 3 s_givers
/-- takers: 0 book 1 word 2 name -/
def s_takers : Ev → SOut := seqS (exprS (callF 1 F_look_book (datA (varE 0) (nilA)))) (seqS (ifS (notF (tstF (callF 1 F_is_word (datA (varE 1) (nilA))))) (seqS (badS) (nxS)) (nxS)) (seqS (retS (mapO OD.dat (lcF (itF (callF 1 F_ways (datA (varE 0) (nilA)))) (.nm 2) (tstF (binF inA (varR 1) (datO (mapO OD.dat (unF dictD (datO (binF ixO (datO (binF ixO (varR 0) (varR 2))) (datO (conE (.int 0)))))))))) (varE 2) [2]))) (nxS)))
def F_takers : List AV → FOut := bodyF 2 3 s_takers
/-- rings: 0 book 1 some 2 later 3 word 4 found 5 ring 6 other -/
def s_rings : Ev → SOut := seqS (exprS (callF 1 F_look_book (datA (varE 0) (nilA)))) (seqS (setS 1 (callF 1 F_goods_behind (datA (varE 0) (nilA)))) (seqS (setN 2 (dicN0)) (seqS (forF (keysF (varE 1)) (.nm 3) (seqS (putAt 2 (varE 3) (callF 2 F_behind (datA (varE 1) (datA (varE 3) (nilA))))) (nxS))) (seqS (setN 4 (lstN (nilL))) (seqS (forF (itF (mapO OD.dat (unF skD (varR 1)))) (.nm 3) (seqS (ifS (tstF (binF inA (varR 3) (datO (binF ixO (varR 2) (varR 3))))) (seqS (setN 5 (lcF (itF (mapO OD.dat (unF skD (varR 1)))) (.nm 6) (andF (tstF (binF inA (varR 6) (datO (binF ixO (varR 2) (varR 3))))) (tstF (binF inA (varR 3) (datO (binF ixO (varR 2) (varR 6)))))) (varE 6) [6])) (seqS (ifS (tstF (binF ninA (varR 5) (varR 4))) (seqS (exprS (appE 4 (varE 5))) (nxS)) (nxS)) (nxS))) (nxS)) (nxS))) (seqS (retS (varE 4)) (nxS)))))))
def F_rings : List AV → FOut := bodyF 1 7 s_rings
/-- layers: 0 book 1 raws 2 found 3 known 4 new 5 name 6 word 7 many -/
def s_layers : Ev → SOut := seqS (exprS (callF 1 F_look_book (datA (varE 0) (nilA)))) (seqS (exprS (callF 1 F_look_raws (datA (varE 1) (nilA)))) (seqS (setN 2 (lstN (consL (mapO OD.dat (unF listD (varR 1))) (nilL)))) (seqS (setN 3 (unF listD (varR 1))) (seqS (whileS fuel (tstF (conE (.bl true))) (seqS (setN 4 (dicN0)) (seqS (forF (keysF (varE 0)) (.nm 5) (seqS (ifS (tstF (unF allD (datO (mapO OD.dat (lcF (itF (binF ixO (datO (binF ixO (varR 0) (varR 5))) (datO (conE (.int 0))))) (.tp [6, 7]) (yesF) (binF inA (varR 6) (varR 3)) [6, 7]))))) (seqS (forF (itF (binF ixO (datO (binF ixO (varR 0) (varR 5))) (datO (conE (.int 1))))) (.tp [6, 7]) (seqS (ifS (tstF (binF ninA (varR 6) (varR 3))) (seqS (putAt 4 (varE 6) (conE (.bl true))) (nxS)) (nxS)) (nxS))) (nxS)) (nxS)) (nxS))) (seqS (ifS (notF (truF (varR 4))) (seqS (retS (varE 2)) (nxS)) (nxS)) (seqS (exprS (appE 2 (mapO OD.dat (unF skD (varR 4))))) (seqS (exprS (extE 3 (binF ixO (varR 2) (datO (negE (conE (.int 1))))))) (nxS))))))) (nxS)))))
def F_layers : List AV → FOut := bodyF 2 8 s_layers
/-- _law_good: 0 _law_script 1 _law_town 2 _law_signs 3 _law_k -/
def s_law_good : Ev → SOut := seqS (setS 2 (conE (.str "abcdefghijklmnopqrstuvwxyz"))) (seqS (ifS (tstF (binF gtI (datO (callF 3 F_law_draw (datA (varE 0) (refA 1 (datA (conE (.int 15)) (nilA)))))) (datO (conE (.int 0))))) (seqS (retS (callF 3 F_law_pick (datA (varE 0) (refA 1 (datA (mapO OD.dat (lstN (consL (conE (.str "ore")) (consL (conE (.str "coal")) (consL (conE (.str "iron")) (consL (conE (.str "gear")) (consL (conE (.str "box")) (consL (conE (.str "oil")) (nilL))))))))) (nilA)))))) (nxS)) (nxS)) (seqS (retS (joinF (conE (.str "")) (mapO OD.dat (lcF (rng1F (consL (binF addO (datO (conE (.int 1))) (datO (callF 3 F_law_draw (datA (varE 0) (refA 1 (datA (conE (.int 8)) (nilA))))))) (nilL))) (.nm 3) (yesF) (callF 3 F_law_pick (datA (varE 0) (refA 1 (datA (varE 2) (nilA))))) [3])))) (nxS)))
def F_law_good : List AV → FOut := bodyF 2 4 s_law_good
/-- never: 0 book 1 raws 2 made 3 row 4 word -/
def s_never : Ev → SOut := seqS (setN 2 (dicN0)) (seqS (forF (itF (callF 2 F_layers (datA (varE 0) (datA (varE 1) (nilA))))) (.nm 3) (seqS (forF (itF (varE 3)) (.nm 4) (seqS (putAt 2 (varE 4) (conE (.bl true))) (nxS))) (nxS))) (seqS (retS (mapO OD.dat (lcF (itF (callF 1 F_all_goods (datA (varE 0) (nilA)))) (.nm 4) (tstF (binF ninA (varR 4) (varR 2))) (varE 4) [4]))) (nxS)))
def F_never : List AV → FOut := bodyF 2 5 s_never
/-- _law_side: 0 _law_script 1 _law_town 2 _law_least_many 3 _law_found 4 _law_k 5 _law_word -/
def s_law_side : Ev → SOut := seqS (setN 3 (dicN0)) (seqS (forF (rng1F (consL (binF addO (varR 2) (datO (callF 3 F_law_draw (datA (varE 0) (refA 1 (datA (binF subI (datO (conE (.int 4))) (varR 2)) (nilA))))))) (nilL))) (.nm 4) (seqS (putAt 3 (callF 2 F_law_good (datA (varE 0) (refA 1 (nilA)))) (callF 3 F_law_pick (datA (varE 0) (refA 1 (datA (mapO OD.dat (lstN (consL (conE (.int 1)) (consL (conE (.int 1)) (consL (conE (.int 2)) (consL (conE (.int 3)) (consL (conE (.int 20)) (nilL)))))))) (nilA)))))) (nxS))) (seqS (retS (unF tupD (datO (mapO OD.dat (lcF (itF (mapO OD.dat (unF skD (varR 3)))) (.nm 5) (yesF) (tupE (consL (varE 5) (consL (binF ixO (varR 3) (varR 5)) (nilL)))) [5]))))) (nxS)))
def F_law_side : List AV → FOut := bodyF 3 6 s_law_side
/-- _law_book: 0 _law_script 1 _law_town 2 _law_most 3 _law_found 4 _law_names 5 _law_turn 6 _law_name 7 _law_ticks 8 _law_need -/
def s_law_book : Ev → SOut := seqS (setN 3 (dicN0)) (seqS (setS 4 (mapO OD.dat (lstN (consL (conE (.str "dig")) (consL (conE (.str "melt")) (consL (conE (.str "a")) (consL (conE (.str "press")) (consL (conE (.str "zz")) (consL (conE (.str "make")) (nilL)))))))))) (seqS (setS 5 (callF 3 F_law_draw (datA (varE 0) (refA 1 (datA (conE (.int 6)) (nilA)))))) (seqS (forF (itF (slF (binF addO (datO (slF (varE 4) (partF (varE 5)) (noPF))) (datO (slF (varE 4) (noPF) (partF (varE 5))))) (noPF) (partF (binF addO (datO (conE (.int 1))) (datO (callF 3 F_law_draw (datA (varE 0) (refA 1 (datA (varE 2) (nilA)))))))))) (.nm 6) (seqS (setS 7 (callF 3 F_law_pick (datA (varE 0) (refA 1 (datA (mapO OD.dat (lstN (consL (conE (.int 1)) (consL (conE (.int 1)) (consL (conE (.int 2)) (consL (conE (.int 5)) (consL (conE (.int 20)) (nilL)))))))) (nilA)))))) (seqS (setS 8 (callF 3 F_law_pick (datA (varE 0) (refA 1 (datA (mapO OD.dat (lstN (consL (conE (.int 0)) (consL (conE (.int 1)) (consL (conE (.int 2)) (consL (conE (.int 7)) (consL (conE (.int 50)) (nilL)))))))) (nilA)))))) (seqS (putAt 3 (varE 6) (tupE (consL (callF 3 F_law_side (datA (varE 0) (refA 1 (datA (conE (.int 0)) (nilA))))) (consL (callF 3 F_law_side (datA (varE 0) (refA 1 (datA (conE (.int 1)) (nilA))))) (consL (varE 7) (consL (varE 8) (nilL))))))) (nxS))))) (seqS (retS (varE 3)) (nxS)))))
def F_law_book : List AV → FOut := bodyF 3 9 s_law_book
/-- law: 0 _law_script 1 _law_town 2 _law_book_here 3 _law_words 4 _law_names 5 _law_raws_here 6 _law_word 7 _law_name 8 _law_one 9 _law_many 10 _law_found 11 _law_known 12 _law_row 13 _law_due 14 _law_more -/
def s_law : Ev → SOut := seqS (setN 1 (lstN (nilL))) (seqS (setS 2 (callF 3 F_law_book (datA (varE 0) (refA 1 (datA (conE (.int 6)) (nilA)))))) (seqS (setS 3 (callF 1 F_law_goods (datA (varE 2) (nilA)))) (seqS (setS 4 (mapO OD.dat (unF skD (varR 2)))) (seqS (setS 5 (callF 3 F_law_raws (datA (varE 0) (refA 1 (datA (varE 2) (nilA)))))) (seqS (ifS (orF (tstF (binF neO (datO (callF 1 F_goods (datA (varE 2) (nilA)))) (varR 3))) (tstF (binF neO (datO (callF 1 F_rings (datA (varE 2) (nilA)))) (datO (callF 1 F_law_rings (datA (varE 2) (nilA))))))) (seqS (retS (conE (.bl false))) (nxS)) (nxS)) (seqS (forF (itF (binF addO (varR 3) (datO (mapO OD.dat (lstN (consL (conE (.str "nothing")) (nilL))))))) (.nm 6) (seqS (ifS (tstF (binF neO (datO (callF 2 F_givers (datA (varE 2) (datA (varE 6) (nilA))))) (datO (mapO OD.dat (lcF (itF (varE 4)) (.nm 7) (tstF (binF inA (varR 6) (datO (mapO OD.dat (lcF (itF (binF ixO (datO (binF ixO (varR 2) (varR 7))) (datO (conE (.int 1))))) (.tp [8, 9]) (yesF) (varE 8) [8, 9]))))) (varE 7) [7]))))) (seqS (retS (conE (.bl false))) (nxS)) (nxS)) (seqS (ifS (tstF (binF neO (datO (callF 2 F_takers (datA (varE 2) (datA (varE 6) (nilA))))) (datO (mapO OD.dat (lcF (itF (varE 4)) (.nm 7) (tstF (binF inA (varR 6) (datO (mapO OD.dat (lcF (itF (binF ixO (datO (binF ixO (varR 2) (varR 7))) (datO (conE (.int 0))))) (.tp [8, 9]) (yesF) (varE 8) [8, 9]))))) (varE 7) [7]))))) (seqS (retS (conE (.bl false))) (nxS)) (nxS)) (nxS)))) (seqS (setS 10 (callF 2 F_layers (datA (varE 2) (datA (varE 5) (nilA))))) (seqS (setS 11 (mapO OD.dat (unF listD (varR 5)))) (seqS (ifS (tstF (binF neO (datO (binF ixO (varR 10) (datO (conE (.int 0))))) (varR 5))) (seqS (retS (conE (.bl false))) (nxS)) (nxS)) (seqS (forF (itF (binF addO (datO (slF (varE 10) (partF (conE (.int 1))) (noPF))) (datO (mapO OD.dat (lstN (consL (mapO OD.dat (lstN (nilL))) (nilL))))))) (.nm 12) (seqS (setS 13 (mapO OD.dat (lstN (nilL)))) (seqS (forF (itF (varE 4)) (.nm 7) (seqS (ifS (tstF (binF eqO (datO (mapO OD.dat (lcF (itF (binF ixO (datO (binF ixO (varR 2) (varR 7))) (datO (conE (.int 0))))) (.tp [6, 9]) (tstF (binF ninA (varR 6) (varR 11))) (varE 6) [6, 9]))) (datO (mapO OD.dat (lstN (nilL)))))) (seqS (setS 13 (binF addO (varR 13) (datO (mapO OD.dat (lcF (itF (binF ixO (datO (binF ixO (varR 2) (varR 7))) (datO (conE (.int 1))))) (.tp [6, 9]) (yesF) (varE 6) [6, 9]))))) (nxS)) (nxS)) (nxS))) (seqS (setS 13 (mapO OD.dat (unF sortSetD (datO (mapO OD.dat (lcF (itF (varE 13)) (.nm 6) (tstF (binF ninA (varR 6) (varR 11))) (varE 6) [6])))))) (seqS (ifS (tstF (binF neO (varR 12) (varR 13))) (seqS (retS (conE (.bl false))) (nxS)) (nxS)) (seqS (setS 11 (binF addO (varR 11) (varR 12))) (nxS))))))) (seqS (ifS (tstF (binF neO (datO (callF 2 F_never (datA (varE 2) (datA (varE 5) (nilA))))) (datO (mapO OD.dat (lcF (itF (varE 3)) (.nm 6) (tstF (binF ninA (varR 6) (varR 11))) (varE 6) [6]))))) (seqS (retS (conE (.bl false))) (nxS)) (nxS)) (seqS (setS 14 (mapO OD.dat (unF sortSetD (datO (binF addO (varR 5) (datO (slF (varE 3) (noPF) (partF (conE (.int 1)))))))))) (seqS (ifS (tstF (binF gtI (datO (unF lenD (varR 14))) (datO (conE (.int 20))))) (seqS (retS (conE (.bl true))) (nxS)) (nxS)) (seqS (retS (binF eqO (datO (mapO OD.dat (lcF (itF (callF 2 F_never (datA (varE 2) (datA (varE 14) (nilA))))) (.nm 6) (andF (tstF (binF ninA (varR 6) (datO (callF 2 F_never (datA (varE 2) (datA (varE 5) (nilA))))))) (tstF (binF ninA (varR 6) (varR 5)))) (varE 6) [6]))) (datO (mapO OD.dat (lstN (nilL)))))) (nxS)))))))))))))))
def F_law : List AV → FOut := bodyF 1 15 s_law
end Wk
set_option Elab.async false
set_option linter.all false
set_option maxRecDepth 100000
set_option maxHeartbeats 4000000
namespace Wk
open PySem PySem.Spec L2 DL
def top (i : Nat) : Stmt := PySem.Challenge.pw_partworks_k11_whole_chains.main.body.getD i (.Pass ⟨0, 0, 0, 0⟩)
structure G (K : PySem.W.Frag) (mg : Str → Option Value) : Prop where
  b_all : mg "all" = none
  b_bool : mg "bool" = none
  b_dict : mg "dict" = none
  b_int : mg "int" = none
  b_isinstance : mg "isinstance" = none
  b_len : mg "len" = none
  b_list : mg "list" = none
  b_range : mg "range" = none
  b_set : mg "set" = none
  b_sorted : mg "sorted" = none
  b_str : mg "str" = none
  b_tuple : mg "tuple" = none
  c_MOST_MANY : ∃ t, mg "MOST_MANY" = some (.int 20 t)
  c_MOST_POWER : ∃ t, mg "MOST_POWER" = some (.int 50 t)
  c_MOST_RAWS : ∃ t, mg "MOST_RAWS" = some (.int 20 t)
  c_MOST_SIDES : ∃ t, mg "MOST_SIDES" = some (.int 3 t)
  c_MOST_TICKS : ∃ t, mg "MOST_TICKS" = some (.int 20 t)
  c_MOST_WAYS : ∃ t, mg "MOST_WAYS" = some (.int 6 t)
  c_SMALL : ∃ t, mg "SMALL" = some (.str "abcdefghijklmnopqrstuvwxyz" t)
  f_is_whole : ∃ f fd, FunD K "is_whole" "is_whole" (defArgs (top 12)) (defBody (top 12)) (defScope (top 12)) [] [] f fd ∧ mg "is_whole" = some (.ref f)
  f_is_word : ∃ f fd, FunD K "is_word" "is_word" (defArgs (top 13)) (defBody (top 13)) (defScope (top 13)) [] [] f fd ∧ mg "is_word" = some (.ref f)
  f_ways : ∃ f fd, FunD K "ways" "ways" (defArgs (top 17)) (defBody (top 17)) (defScope (top 17)) [] [] f fd ∧ mg "ways" = some (.ref f)
  f_all_goods : ∃ f fd, FunD K "all_goods" "all_goods" (defArgs (top 18)) (defBody (top 18)) (defScope (top 18)) [] [] f fd ∧ mg "all_goods" = some (.ref f)
  f_behind : ∃ f fd, FunD K "behind" "behind" (defArgs (top 25)) (defBody (top 25)) (defScope (top 25)) [] [] f fd ∧ mg "behind" = some (.ref f)
  f_law_cell : ∃ f fd, FunD K "_law_cell" "_law_cell" (defArgs (top 30)) (defBody (top 30)) (defScope (top 30)) [] [] f fd ∧ mg "_law_cell" = some (.ref f)
  f_law_goods : ∃ f fd, FunD K "_law_goods" "_law_goods" (defArgs (top 37)) (defBody (top 37)) (defScope (top 37)) [] [] f fd ∧ mg "_law_goods" = some (.ref f)
  f_law_behind : ∃ f fd, FunD K "_law_behind" "_law_behind" (defArgs (top 39)) (defBody (top 39)) (defScope (top 39)) [] [] f fd ∧ mg "_law_behind" = some (.ref f)
  f_is_side : ∃ f fd, FunD K "is_side" "is_side" (defArgs (top 14)) (defBody (top 14)) (defScope (top 14)) [] [] f fd ∧ mg "is_side" = some (.ref f)
  f_look_raws : ∃ f fd, FunD K "look_raws" "look_raws" (defArgs (top 20)) (defBody (top 20)) (defScope (top 20)) [] [] f fd ∧ mg "look_raws" = some (.ref f)
  f_goods_behind : ∃ f fd, FunD K "goods_behind" "goods_behind" (defArgs (top 24)) (defBody (top 24)) (defScope (top 24)) [] [] f fd ∧ mg "goods_behind" = some (.ref f)
  f_law_mix : ∃ f fd, FunD K "_law_mix" "_law_mix" (defArgs (top 31)) (defBody (top 31)) (defScope (top 31)) [] [] f fd ∧ mg "_law_mix" = some (.ref f)
  f_law_rings : ∃ f fd, FunD K "_law_rings" "_law_rings" (defArgs (top 40)) (defBody (top 40)) (defScope (top 40)) [] [] f fd ∧ mg "_law_rings" = some (.ref f)
  f_is_way : ∃ f fd, FunD K "is_way" "is_way" (defArgs (top 15)) (defBody (top 15)) (defScope (top 15)) [] [] f fd ∧ mg "is_way" = some (.ref f)
  f_law_draw : ∃ f fd, FunD K "_law_draw" "_law_draw" (defArgs (top 32)) (defBody (top 32)) (defScope (top 32)) [] [] f fd ∧ mg "_law_draw" = some (.ref f)
  f_look_book : ∃ f fd, FunD K "look_book" "look_book" (defArgs (top 16)) (defBody (top 16)) (defScope (top 16)) [] [] f fd ∧ mg "look_book" = some (.ref f)
  f_law_pick : ∃ f fd, FunD K "_law_pick" "_law_pick" (defArgs (top 33)) (defBody (top 33)) (defScope (top 33)) [] [] f fd ∧ mg "_law_pick" = some (.ref f)
  f_law_raws : ∃ f fd, FunD K "_law_raws" "_law_raws" (defArgs (top 38)) (defBody (top 38)) (defScope (top 38)) [] [] f fd ∧ mg "_law_raws" = some (.ref f)
  f_goods : ∃ f fd, FunD K "goods" "goods" (defArgs (top 19)) (defBody (top 19)) (defScope (top 19)) [] [] f fd ∧ mg "goods" = some (.ref f)
  f_givers : ∃ f fd, FunD K "givers" "givers" (defArgs (top 22)) (defBody (top 22)) (defScope (top 22)) [] [] f fd ∧ mg "givers" = some (.ref f)
  f_takers : ∃ f fd, FunD K "takers" "takers" (defArgs (top 23)) (defBody (top 23)) (defScope (top 23)) [] [] f fd ∧ mg "takers" = some (.ref f)
  f_rings : ∃ f fd, FunD K "rings" "rings" (defArgs (top 26)) (defBody (top 26)) (defScope (top 26)) [] [] f fd ∧ mg "rings" = some (.ref f)
  f_layers : ∃ f fd, FunD K "layers" "layers" (defArgs (top 27)) (defBody (top 27)) (defScope (top 27)) [] [] f fd ∧ mg "layers" = some (.ref f)
  f_law_good : ∃ f fd, FunD K "_law_good" "_law_good" (defArgs (top 34)) (defBody (top 34)) (defScope (top 34)) [] [] f fd ∧ mg "_law_good" = some (.ref f)
  f_never : ∃ f fd, FunD K "never" "never" (defArgs (top 28)) (defBody (top 28)) (defScope (top 28)) [] [] f fd ∧ mg "never" = some (.ref f)
  f_law_side : ∃ f fd, FunD K "_law_side" "_law_side" (defArgs (top 35)) (defBody (top 35)) (defScope (top 35)) [] [] f fd ∧ mg "_law_side" = some (.ref f)
  f_law_book : ∃ f fd, FunD K "_law_book" "_law_book" (defArgs (top 36)) (defBody (top 36)) (defScope (top 36)) [] [] f fd ∧ mg "_law_book" = some (.ref f)
  f_law : ∃ f fd, FunD K "law" "law" (defArgs (top 41)) (defBody (top 41)) (defScope (top 41)) [] [] f fd ∧ mg "law" = some (.ref f)
section
variable {P : Program} {w : World} {K : PySem.W.Frag} {mg : Str → Option Value} {base : Heap}
theorem sc_is_whole : FnScope ["thing", "low", "most"] ["thing", "low", "most"] (defScope (top 12)) := ⟨rfl, rfl, rfl, by decide +kernel, rfl, by decide +kernel, by decide +kernel⟩
theorem k_is_whole (g : G K mg) : Kn P w K mg base 1 "is_whole" 3 F_is_whole := by
  obtain ⟨f, fd, FD, hm⟩ := g.f_is_whole
  refine kn_of FD sc_is_whole hm (FD.bindsN fun _ _ _ _ _ _ us hl => match us, hl with | [_, _, _], _ => rfl) rfl rfl fun cd A outer s H E hr => ?_
  have hu : (A.deeper (PyProof.Rows.envOfC "is_whole" (defScope (top 12)) s.heap.objs.size f cd)).units + 65 < cLine := by have := hr.un; omega
  exact dss_cons (ds_ret (de_and (de_isi isT_int rfl g.b_isinstance rfl g.b_int (by decide +kernel) (dr_nm 0)) (de_and (de_not (de_isi isT_bool rfl g.b_isinstance rfl g.b_bool (by decide +kernel) (dr_nm 0))) (de_one (de_chain op_le op_le ok_le ok_le (dr_nm 1) (dr_nm 0) (dr_nm 2)))))) (dss_nl)
theorem sc_is_word : FnScope ["thing", "sign"] ["thing"] (defScope (top 13)) := ⟨rfl, rfl, rfl, by decide +kernel, rfl, by decide +kernel, by decide +kernel⟩
theorem k_is_word (g : G K mg) : Kn P w K mg base 1 "is_word" 1 F_is_word := by
  obtain ⟨f, fd, FD, hm⟩ := g.f_is_word
  refine kn_of FD sc_is_word hm (FD.bindsN fun _ _ _ _ _ _ us hl => match us, hl with | [_], _ => rfl) rfl rfl fun cd A outer s H E hr => ?_
  have hu : (A.deeper (PyProof.Rows.envOfC "is_word" (defScope (top 13)) s.heap.objs.size f cd)).units + 65 < cLine := by have := hr.un; omega
  exact dss_cons (ds_ret (de_and (de_isi isT_str rfl g.b_isinstance rfl g.b_str (by decide +kernel) (dr_nm 0)) (de_and (de_chain op_le op_le ok_le ok_le (dr_of (de_int)) (dr_of (de_len g.b_len (dr_nm 0))) (dr_of (de_int))) (de_one (de_all rfl g.b_all (drn_of (dn_lc (own := [("sign", 1)]) rfl sc_is_word.nd (di_seq (de_nm 0)) (blkOk_by rfl) (by decide) (fun _ _ _ _ _ => dg_name sc_is_word.nd rfl (by first | exact .inl rfl | exact .inr rfl)) (fun _ _ _ _ _ => dts_nil) (fun _ _ _ _ _ => de_inA hu (dr_nm 1) (dr_of (de_gstr g.c_SMALL rfl)))))))))) (dss_nl)
theorem sc_ways : FnScope ["book"] ["book"] (defScope (top 17)) := ⟨rfl, rfl, rfl, by decide +kernel, rfl, by decide +kernel, by decide +kernel⟩
theorem k_ways (g : G K mg) : Kn P w K mg base 1 "ways" 1 F_ways := by
  obtain ⟨f, fd, FD, hm⟩ := g.f_ways
  refine kn_of FD sc_ways hm (FD.bindsN fun _ _ _ _ _ _ us hl => match us, hl with | [_], _ => rfl) rfl rfl fun cd A outer s H E hr => ?_
  have hu : (A.deeper (PyProof.Rows.envOfC "ways" (defScope (top 17)) s.heap.objs.size f cd)).units + 65 < cLine := by have := hr.un; omega
  exact dss_cons (ds_ret (de_of (dn_sortKeys rfl rfl g.b_sorted (dr_nm 0)))) (dss_nl)
theorem sc_all_goods : FnScope ["book", "found", "name", "word", "many"] ["book"] (defScope (top 18)) := ⟨rfl, rfl, rfl, by decide +kernel, rfl, by decide +kernel, by decide +kernel⟩
theorem k_all_goods (g : G K mg) : Kn P w K mg base 1 "all_goods" 1 F_all_goods := by
  obtain ⟨f, fd, FD, hm⟩ := g.f_all_goods
  refine kn_of FD sc_all_goods hm (FD.bindsN fun _ _ _ _ _ _ us hl => match us, hl with | [_], _ => rfl) rfl rfl fun cd A outer s H E hr => ?_
  have hu : (A.deeper (PyProof.Rows.envOfC "all_goods" (defScope (top 18)) s.heap.objs.size f cd)).units + 65 < cLine := by have := hr.un; omega
  exact dss_cons (ds_setN sc_all_goods.nd rfl (by first | exact .inl rfl | exact .inr rfl) (dn_dic0)) (dss_cons (ds_for own_cx rfl (di_keys (de_nm 0)) (dg_name sc_all_goods.nd rfl (by first | exact .inl rfl | exact .inr rfl)) (dss_cons (ds_for own_cx rfl (di_seq (de_add (dr_of (de_ix hu (dr_of (de_ix hu (dr_nm 0) (dr_nm 2))) (dr_of (de_int)))) (dr_of (de_ix hu (dr_of (de_ix hu (dr_nm 0) (dr_nm 2))) (dr_of (de_int)))))) (dg_tup rfl (dgs_cons sc_all_goods.nd rfl (by first | exact .inl rfl | exact .inr rfl) (dgs_cons sc_all_goods.nd rfl (by first | exact .inl rfl | exact .inr rfl) (dgs_nil)))) (dss_cons (ds_put (i := 1) hu (pe_nm) (de_nm 3) (de_bl)) (dss_nl))) (dss_nl))) (dss_cons (ds_ret (de_of (dn_sortKeys rfl rfl g.b_sorted (dr_nm 1)))) (dss_nl)))
theorem sc_behind : FnScope ["some", "word", "found", "ahead", "other"] ["some", "word"] (defScope (top 25)) := ⟨rfl, rfl, rfl, by decide +kernel, rfl, by decide +kernel, by decide +kernel⟩
theorem k_behind (g : G K mg) : Kn P w K mg base 1 "behind" 2 F_behind := by
  obtain ⟨f, fd, FD, hm⟩ := g.f_behind
  refine kn_of FD sc_behind hm (FD.bindsN fun _ _ _ _ _ _ us hl => match us, hl with | [_, _], _ => rfl) rfl rfl fun cd A outer s H E hr => ?_
  have hu : (A.deeper (PyProof.Rows.envOfC "behind" (defScope (top 25)) s.heap.objs.size f cd)).units + 65 < cLine := by have := hr.un; omega
  exact dss_cons (ds_setN sc_behind.nd rfl (by first | exact .inl rfl | exact .inr rfl) (dn_lst (dl_nil))) (dss_cons (ds_setN sc_behind.nd rfl (by first | exact .inl rfl | exact .inr rfl) (dn_lst (dl_cons (de_nm 1) (dl_nil)))) (dss_cons (ds_while fuel own_cx (dt_tru (dr_nm 3) (by intro _; rfl)) (dss_cons (ds_for own_cx rfl (di_seq (de_ix hu (dr_nm 0) (dr_of (de_pop (i := 3) (pe_nm))))) (dg_name sc_behind.nd rfl (by first | exact .inl rfl | exact .inr rfl)) (dss_cons (ds_if (dt_ninA hu (dr_nm 4) (dr_nm 2)) (dss_cons (ds_expr (de_append (i := 2) (pe_nm) (de_nm 4))) (dss_cons (ds_expr (de_append (i := 3) (pe_nm) (de_nm 4))) (dss_nl))) (dss_nl)) (dss_nl))) (dss_nl))) (dss_cons (ds_ret (de_nm 2)) (dss_nl))))
theorem sc_law_cell : FnScope ["_law_script", "_law_k"] ["_law_script", "_law_k"] (defScope (top 30)) := ⟨rfl, rfl, rfl, by decide +kernel, rfl, by decide +kernel, by decide +kernel⟩
theorem k_law_cell (g : G K mg) : Kn P w K mg base 1 "_law_cell" 2 F_law_cell := by
  obtain ⟨f, fd, FD, hm⟩ := g.f_law_cell
  refine kn_of FD sc_law_cell hm (FD.bindsN fun _ _ _ _ _ _ us hl => match us, hl with | [_, _], _ => rfl) rfl rfl fun cd A outer s H E hr => ?_
  have hu : (A.deeper (PyProof.Rows.envOfC "_law_cell" (defScope (top 30)) s.heap.objs.size f cd)).units + 65 < cLine := by have := hr.un; omega
  exact dss_cons (ds_if (dt_tru (dr_nm 0) (by intro _; rfl)) (dss_cons (ds_ret (de_ix hu (dr_nm 0) (dr_of (de_mod (dr_nm 1) (dr_of (de_len g.b_len (dr_nm 0))))))) (dss_nl)) (dss_nl)) (dss_cons (ds_ret (de_int)) (dss_nl))
theorem sc_law_goods : FnScope ["_law_book_here", "_law_found", "_law_name", "_law_word", "_law_many"] ["_law_book_here"] (defScope (top 37)) := ⟨rfl, rfl, rfl, by decide +kernel, rfl, by decide +kernel, by decide +kernel⟩
theorem k_law_goods (g : G K mg) : Kn P w K mg base 1 "_law_goods" 1 F_law_goods := by
  obtain ⟨f, fd, FD, hm⟩ := g.f_law_goods
  refine kn_of FD sc_law_goods hm (FD.bindsN fun _ _ _ _ _ _ us hl => match us, hl with | [_], _ => rfl) rfl rfl fun cd A outer s H E hr => ?_
  have hu : (A.deeper (PyProof.Rows.envOfC "_law_goods" (defScope (top 37)) s.heap.objs.size f cd)).units + 65 < cLine := by have := hr.un; omega
  exact dss_cons (ds_set sc_law_goods.nd rfl (by first | exact .inl rfl | exact .inr rfl) (de_of (dn_lst (dl_nil)))) (dss_cons (ds_for own_cx rfl (di_seq (de_of (dn_listKeys rfl rfl g.b_list (dr_nm 0)))) (dg_name sc_law_goods.nd rfl (by first | exact .inl rfl | exact .inr rfl)) (dss_cons (ds_set sc_law_goods.nd rfl (by first | exact .inl rfl | exact .inr rfl) (de_add (dr_nm 1) (drn_of (dn_lc (own := [("_law_word", 3), ("_law_many", 4)]) rfl sc_law_goods.nd (di_seq (de_add (dr_of (de_ix hu (dr_of (de_ix hu (dr_nm 0) (dr_nm 2))) (dr_of (de_int)))) (dr_of (de_ix hu (dr_of (de_ix hu (dr_nm 0) (dr_nm 2))) (dr_of (de_int)))))) (blkOk_by rfl) (by decide) (fun _ _ _ _ _ => dg_tup rfl (dgs_cons sc_law_goods.nd rfl (by first | exact .inl rfl | exact .inr rfl) (dgs_cons sc_law_goods.nd rfl (by first | exact .inl rfl | exact .inr rfl) (dgs_nil)))) (fun _ _ _ _ _ => dts_nil) (fun _ _ _ _ _ => de_nm 3))))) (dss_nl))) (dss_cons (ds_ret (de_of (dn_sortSet rfl rfl g.b_sorted rfl g.b_set (dr_nm 1)))) (dss_nl)))
theorem sc_law_behind : FnScope ["_law_book_here", "_law_word", "_law_found", "_law_ahead", "_law_here", "_law_name", "_law_one", "_law_many"] ["_law_book_here", "_law_word"] (defScope (top 39)) := ⟨rfl, rfl, rfl, by decide +kernel, rfl, by decide +kernel, by decide +kernel⟩
theorem k_law_behind (g : G K mg) : Kn P w K mg base 1 "_law_behind" 2 F_law_behind := by
  obtain ⟨f, fd, FD, hm⟩ := g.f_law_behind
  refine kn_of FD sc_law_behind hm (FD.bindsN fun _ _ _ _ _ _ us hl => match us, hl with | [_, _], _ => rfl) rfl rfl fun cd A outer s H E hr => ?_
  have hu : (A.deeper (PyProof.Rows.envOfC "_law_behind" (defScope (top 39)) s.heap.objs.size f cd)).units + 65 < cLine := by have := hr.un; omega
  exact dss_cons (ds_setN sc_law_behind.nd rfl (by first | exact .inl rfl | exact .inr rfl) (dn_lst (dl_nil))) (dss_cons (ds_setN sc_law_behind.nd rfl (by first | exact .inl rfl | exact .inr rfl) (dn_lst (dl_cons (de_nm 1) (dl_nil)))) (dss_cons (ds_while fuel own_cx (dt_ne hu (dr_nm 3) (drn_of (dn_lst (dl_nil)))) (dss_cons (ds_set sc_law_behind.nd rfl (by first | exact .inl rfl | exact .inr rfl) (de_pop (i := 3) (pe_nm))) (dss_cons (ds_for own_cx rfl (di_seq (de_of (dn_sortKeys rfl rfl g.b_sorted (dr_nm 0)))) (dg_name sc_law_behind.nd rfl (by first | exact .inl rfl | exact .inr rfl)) (dss_cons (ds_if (dt_inA hu (dr_nm 4) (drn_of (dn_lc (own := [("_law_one", 6), ("_law_many", 7)]) rfl sc_law_behind.nd (di_seq (de_ix hu (dr_of (de_ix hu (dr_nm 0) (dr_nm 5))) (dr_of (de_int)))) (blkOk_by rfl) (by decide) (fun _ _ _ _ _ => dg_tup rfl (dgs_cons sc_law_behind.nd rfl (by first | exact .inl rfl | exact .inr rfl) (dgs_cons sc_law_behind.nd rfl (by first | exact .inl rfl | exact .inr rfl) (dgs_nil)))) (fun _ _ _ _ _ => dts_nil) (fun _ _ _ _ _ => de_nm 6)))) (dss_cons (ds_for own_cx rfl (di_seq (de_ix hu (dr_of (de_ix hu (dr_nm 0) (dr_nm 5))) (dr_of (de_int)))) (dg_tup rfl (dgs_cons sc_law_behind.nd rfl (by first | exact .inl rfl | exact .inr rfl) (dgs_cons sc_law_behind.nd rfl (by first | exact .inl rfl | exact .inr rfl) (dgs_nil)))) (dss_cons (ds_if (dt_ninA hu (dr_nm 6) (dr_nm 2)) (dss_cons (ds_expr (de_append (i := 2) (pe_nm) (de_nm 6))) (dss_cons (ds_expr (de_append (i := 3) (pe_nm) (de_nm 6))) (dss_nl))) (dss_nl)) (dss_nl))) (dss_nl)) (dss_nl)) (dss_nl))) (dss_nl)))) (dss_cons (ds_ret (de_nm 2)) (dss_nl))))
theorem sc_is_side : FnScope ["thing", "low", "one", "words"] ["thing", "low"] (defScope (top 14)) := ⟨rfl, rfl, rfl, by decide +kernel, rfl, by decide +kernel, by decide +kernel⟩
theorem k_is_side (g : G K mg) : Kn P w K mg base 2 "is_side" 2 F_is_side := by
  obtain ⟨f, fd, FD, hm⟩ := g.f_is_side
  have k_is_whole : Kn P w K mg base 1 "is_whole" 3 F_is_whole := (k_is_whole g).mono (by decide)
  have k_is_word : Kn P w K mg base 1 "is_word" 1 F_is_word := (k_is_word g).mono (by decide)
  refine kn_of FD sc_is_side hm (FD.bindsN fun _ _ _ _ _ _ us hl => match us, hl with | [_, _], _ => rfl) rfl rfl fun cd A outer s H E hr => ?_
  have hu : (A.deeper (PyProof.Rows.envOfC "is_side" (defScope (top 14)) s.heap.objs.size f cd)).units + 65 < cLine := by have := hr.un; omega
  exact dss_cons (ds_if (DW.dt (dw_or (dt_not (dt_val (de_isi isT_tuple rfl g.b_isinstance rfl g.b_tuple (by decide +kernel) (dr_nm 0)) (by intro _; rfl))) (dw_or1 (dt_not (dt_chain op_le op_le ok_le ok_le (dr_nm 1) (dr_of (de_len g.b_len (dr_nm 0))) (dr_of (de_gint g.c_MOST_SIDES rfl))))))) (dss_cons (ds_ret (de_bl)) (dss_nl)) (dss_nl)) (dss_cons (ds_if (dt_not (dt_val (de_all rfl g.b_all (drn_of (dn_lc (own := [("one", 2)]) rfl sc_is_side.nd (di_seq (de_nm 0)) (blkOk_by rfl) (by decide) (fun _ _ _ _ _ => dg_name sc_is_side.nd rfl (by first | exact .inl rfl | exact .inr rfl)) (fun _ _ _ _ _ => dts_nil) (fun _ _ _ _ _ => de_and (de_isi isT_tuple rfl g.b_isinstance rfl g.b_tuple (by decide +kernel) (dr_nm 2)) (de_one (de_eq hu (dr_of (de_len g.b_len (dr_nm 2))) (dr_of (de_int)))))))) (by intro _; rfl))) (dss_cons (ds_ret (de_bl)) (dss_nl)) (dss_nl)) (dss_cons (ds_if (dt_not (dt_val (de_all rfl g.b_all (drn_of (dn_lc (own := [("one", 2)]) rfl sc_is_side.nd (di_seq (de_nm 0)) (blkOk_by rfl) (by decide) (fun _ _ _ _ _ => dg_name sc_is_side.nd rfl (by first | exact .inl rfl | exact .inr rfl)) (fun _ _ _ _ _ => dts_nil) (fun _ _ _ _ _ => de_and (de_call k_is_word hr pas0 rfl (da_dat (de_ix hu (dr_nm 2) (dr_of (de_int))) (da_nil))) (de_one (de_call k_is_whole hr pas0 rfl (da_dat (de_ix hu (dr_nm 2) (dr_of (de_int))) (da_dat (de_int) (da_dat (de_gint g.c_MOST_MANY rfl) (da_nil)))))))))) (by intro _; rfl))) (dss_cons (ds_ret (de_bl)) (dss_nl)) (dss_nl)) (dss_cons (ds_setLcN (own := [("one", 2)]) rfl sc_is_side.nd rfl rfl (sw_true rfl rfl rfl rfl) (di_seq (de_nm 0)) (blkOk_by rfl) (by decide) (fun _ _ _ _ _ => dg_name sc_is_side.nd rfl (by first | exact .inl rfl | exact .inr rfl)) (fun _ _ _ _ _ => dts_nil) (fun _ _ _ _ _ => de_ix hu (dr_nm 2) (dr_of (de_int)))) (dss_cons (ds_ret (de_eq hu (drn_of (dn_sortSet rfl rfl g.b_sorted rfl g.b_set (dr_nm 3))) (dr_nm 3))) (dss_nl)))))
theorem sc_look_raws : FnScope ["raws", "word"] ["raws"] (defScope (top 20)) := ⟨rfl, rfl, rfl, by decide +kernel, rfl, by decide +kernel, by decide +kernel⟩
theorem k_look_raws (g : G K mg) : Kn P w K mg base 2 "look_raws" 1 F_look_raws := by
  obtain ⟨f, fd, FD, hm⟩ := g.f_look_raws
  have k_is_word : Kn P w K mg base 1 "is_word" 1 F_is_word := (k_is_word g).mono (by decide)
  refine kn_of FD sc_look_raws hm (FD.bindsN fun _ _ _ _ _ _ us hl => match us, hl with | [_], _ => rfl) rfl rfl fun cd A outer s H E hr => ?_
  have hu : (A.deeper (PyProof.Rows.envOfC "look_raws" (defScope (top 20)) s.heap.objs.size f cd)).units + 65 < cLine := by have := hr.un; omega
  exact dss_cons (ds_if (DW.dt (dw_or (dt_not (dt_val (de_isi isT_list rfl g.b_isinstance rfl g.b_list (by decide +kernel) (dr_nm 0)) (by intro _; rfl))) (dw_or (dt_gt (dr_of (de_len g.b_len (dr_nm 0))) (dr_of (de_gint g.c_MOST_RAWS rfl))) (dw_or1 (dt_not (dt_val (de_all rfl g.b_all (drn_of (dn_lc (own := [("word", 1)]) rfl sc_look_raws.nd (di_seq (de_nm 0)) (blkOk_by rfl) (by decide) (fun _ _ _ _ _ => dg_name sc_look_raws.nd rfl (by first | exact .inl rfl | exact .inr rfl)) (fun _ _ _ _ _ => dts_nil) (fun _ _ _ _ _ => de_call k_is_word hr pas0 rfl (da_dat (de_nm 1) (da_nil)))))) (by intro _; rfl))))))) (dss_cons (ds_nv) (dss_nl)) (dss_nl)) (dss_cons (ds_if (dt_ne hu (drn_of (dn_sortSet rfl rfl g.b_sorted rfl g.b_set (dr_nm 0))) (dr_nm 0)) (dss_cons (ds_nv) (dss_nl)) (dss_nl)) (dss_nl))
theorem sc_goods_behind : FnScope ["book", "found", "word", "name", "many", "other", "more"] ["book"] (defScope (top 24)) := ⟨rfl, rfl, rfl, by decide +kernel, rfl, by decide +kernel, by decide +kernel⟩
theorem k_goods_behind (g : G K mg) : Kn P w K mg base 2 "goods_behind" 1 F_goods_behind := by
  obtain ⟨f, fd, FD, hm⟩ := g.f_goods_behind
  have k_all_goods : Kn P w K mg base 1 "all_goods" 1 F_all_goods := (k_all_goods g).mono (by decide)
  refine kn_of FD sc_goods_behind hm (FD.bindsN fun _ _ _ _ _ _ us hl => match us, hl with | [_], _ => rfl) rfl rfl fun cd A outer s H E hr => ?_
  have hu : (A.deeper (PyProof.Rows.envOfC "goods_behind" (defScope (top 24)) s.heap.objs.size f cd)).units + 65 < cLine := by have := hr.un; omega
  exact dss_cons (ds_setN sc_goods_behind.nd rfl (by first | exact .inl rfl | exact .inr rfl) (dn_dic0)) (dss_cons (ds_for own_cx rfl (di_seq (de_call k_all_goods hr pas_cx rfl (da_dat (de_nm 0) (da_nil)))) (dg_name sc_goods_behind.nd rfl (by first | exact .inl rfl | exact .inr rfl)) (dss_cons (ds_put (i := 1) hu (pe_nm) (de_nm 2) (de_of (dn_lst (dl_nil)))) (dss_nl))) (dss_cons (ds_for own_cx rfl (di_keys (de_nm 0)) (dg_name sc_goods_behind.nd rfl (by first | exact .inl rfl | exact .inr rfl)) (dss_cons (ds_for own_cx rfl (di_seq (de_ix hu (dr_of (de_ix hu (dr_nm 0) (dr_nm 3))) (dr_of (de_int)))) (dg_tup rfl (dgs_cons sc_goods_behind.nd rfl (by first | exact .inl rfl | exact .inr rfl) (dgs_cons sc_goods_behind.nd rfl (by first | exact .inl rfl | exact .inr rfl) (dgs_nil)))) (dss_cons (ds_put (i := 1) hu (pe_nm) (de_nm 2) (de_of (dn_sortSet rfl rfl g.b_sorted rfl g.b_set (dr_of (de_add (dr_of (de_ix hu (dr_nm 1) (dr_nm 2))) (drn_of (dn_lc (own := [("other", 5), ("more", 6)]) rfl sc_goods_behind.nd (di_seq (de_ix hu (dr_of (de_ix hu (dr_nm 0) (dr_nm 3))) (dr_of (de_int)))) (blkOk_by rfl) (by decide) (fun _ _ _ _ _ => dg_tup rfl (dgs_cons sc_goods_behind.nd rfl (by first | exact .inl rfl | exact .inr rfl) (dgs_cons sc_goods_behind.nd rfl (by first | exact .inl rfl | exact .inr rfl) (dgs_nil)))) (fun _ _ _ _ _ => dts_nil) (fun _ _ _ _ _ => de_nm 5)))))))) (dss_nl))) (dss_nl))) (dss_cons (ds_ret (de_nm 1)) (dss_nl))))
theorem sc_law_mix : FnScope ["_law_script", "_law_k", "_law_number"] ["_law_script", "_law_k"] (defScope (top 31)) := ⟨rfl, rfl, rfl, by decide +kernel, rfl, by decide +kernel, by decide +kernel⟩
theorem k_law_mix (g : G K mg) : Kn P w K mg base 2 "_law_mix" 2 F_law_mix := by
  obtain ⟨f, fd, FD, hm⟩ := g.f_law_mix
  have k_law_cell : Kn P w K mg base 1 "_law_cell" 2 F_law_cell := (k_law_cell g).mono (by decide)
  refine kn_of FD sc_law_mix hm (FD.bindsN fun _ _ _ _ _ _ us hl => match us, hl with | [_, _], _ => rfl) rfl rfl fun cd A outer s H E hr => ?_
  have hu : (A.deeper (PyProof.Rows.envOfC "_law_mix" (defScope (top 31)) s.heap.objs.size f cd)).units + 65 < cLine := by have := hr.un; omega
  exact dss_cons (ds_set sc_law_mix.nd rfl (by first | exact .inl rfl | exact .inr rfl) (de_mod (dr_of (de_add (dr_of (de_call k_law_cell hr pas_cx rfl (da_dat (de_nm 0) (da_dat (de_nm 1) (da_nil))))) (dr_of (de_mul (dr_of (de_int)) (dr_of (de_add (dr_nm 1) (dr_of (de_int)))))))) (dr_of (de_int)))) (dss_cons (ds_set sc_law_mix.nd rfl (by first | exact .inl rfl | exact .inr rfl) (de_mod (dr_of (de_pow (dr_nm 2) (dr_of (de_int)))) (dr_of (de_int)))) (dss_cons (ds_ret (de_mod (dr_of (de_add (dr_of (de_mul (dr_of (de_fdiv (dr_nm 2) (dr_of (de_int)))) (dr_of (de_int)))) (dr_nm 2))) (dr_of (de_int)))) (dss_nl)))
theorem sc_law_rings : FnScope ["_law_book_here", "_law_words", "_law_behind_now", "_law_word", "_law_found", "_law_ring", "_law_one"] ["_law_book_here"] (defScope (top 40)) := ⟨rfl, rfl, rfl, by decide +kernel, rfl, by decide +kernel, by decide +kernel⟩
theorem k_law_rings (g : G K mg) : Kn P w K mg base 2 "_law_rings" 1 F_law_rings := by
  obtain ⟨f, fd, FD, hm⟩ := g.f_law_rings
  have k_law_behind : Kn P w K mg base 1 "_law_behind" 2 F_law_behind := (k_law_behind g).mono (by decide)
  have k_law_goods : Kn P w K mg base 1 "_law_goods" 1 F_law_goods := (k_law_goods g).mono (by decide)
  refine kn_of FD sc_law_rings hm (FD.bindsN fun _ _ _ _ _ _ us hl => match us, hl with | [_], _ => rfl) rfl rfl fun cd A outer s H E hr => ?_
  have hu : (A.deeper (PyProof.Rows.envOfC "_law_rings" (defScope (top 40)) s.heap.objs.size f cd)).units + 65 < cLine := by have := hr.un; omega
  exact dss_cons (ds_set sc_law_rings.nd rfl (by first | exact .inl rfl | exact .inr rfl) (de_call k_law_goods hr pas_cx rfl (da_dat (de_nm 0) (da_nil)))) (dss_cons (ds_set sc_law_rings.nd rfl (by first | exact .inl rfl | exact .inr rfl) (de_of (dn_dict rfl g.b_dict (drn_of (dn_lc (own := [("_law_word", 3)]) rfl sc_law_rings.nd (di_seq (de_nm 1)) (blkOk_by rfl) (by decide) (fun _ _ _ _ _ => dg_name sc_law_rings.nd rfl (by first | exact .inl rfl | exact .inr rfl)) (fun _ _ _ _ _ => dts_nil) (fun _ _ _ _ _ => de_tup (dl_cons (de_nm 3) (dl_cons (de_call k_law_behind hr pas0 rfl (da_dat (de_nm 0) (da_dat (de_nm 3) (da_nil)))) (dl_nil))))))))) (dss_cons (ds_setN sc_law_rings.nd rfl (by first | exact .inl rfl | exact .inr rfl) (dn_lst (dl_nil))) (dss_cons (ds_for own_cx rfl (di_seq (de_nm 1)) (dg_name sc_law_rings.nd rfl (by first | exact .inl rfl | exact .inr rfl)) (dss_cons (ds_setLcN (own := [("_law_one", 6)]) rfl sc_law_rings.nd rfl rfl (sw_true rfl rfl rfl rfl) (di_seq (de_nm 1)) (blkOk_by rfl) (by decide) (fun _ _ _ _ _ => dg_name sc_law_rings.nd rfl (by first | exact .inl rfl | exact .inr rfl)) (fun _ _ _ _ _ => dts_one (DW.dt (dw_and (dt_inA hu (dr_nm 6) (dr_of (de_ix hu (dr_nm 2) (dr_nm 3)))) (dw_and1 (dt_inA hu (dr_nm 3) (dr_of (de_ix hu (dr_nm 2) (dr_nm 6)))))))) (fun _ _ _ _ _ => de_nm 6)) (dss_cons (ds_if (DW.dt (dw_and (dt_inA hu (dr_nm 3) (dr_nm 5)) (dw_and1 (dt_ninA hu (dr_nm 5) (dr_nm 4))))) (dss_cons (ds_expr (de_append (i := 4) (pe_nm) (de_nm 5))) (dss_nl)) (dss_nl)) (dss_nl)))) (dss_cons (ds_ret (de_nm 4)) (dss_nl)))))
theorem sc_is_way : FnScope ["thing"] ["thing"] (defScope (top 15)) := ⟨rfl, rfl, rfl, by decide +kernel, rfl, by decide +kernel, by decide +kernel⟩
theorem k_is_way (g : G K mg) : Kn P w K mg base 3 "is_way" 1 F_is_way := by
  obtain ⟨f, fd, FD, hm⟩ := g.f_is_way
  have k_is_side : Kn P w K mg base 2 "is_side" 2 F_is_side := (k_is_side g).mono (by decide)
  have k_is_whole : Kn P w K mg base 2 "is_whole" 3 F_is_whole := (k_is_whole g).mono (by decide)
  refine kn_of FD sc_is_way hm (FD.bindsN fun _ _ _ _ _ _ us hl => match us, hl with | [_], _ => rfl) rfl rfl fun cd A outer s H E hr => ?_
  have hu : (A.deeper (PyProof.Rows.envOfC "is_way" (defScope (top 15)) s.heap.objs.size f cd)).units + 65 < cLine := by have := hr.un; omega
  exact dss_cons (ds_if (DW.dt (dw_or (dt_not (dt_val (de_isi isT_tuple rfl g.b_isinstance rfl g.b_tuple (by decide +kernel) (dr_nm 0)) (by intro _; rfl))) (dw_or (dt_ne hu (dr_of (de_len g.b_len (dr_nm 0))) (dr_of (de_int))) (dw_or (dt_not (dt_val (de_call k_is_side hr pas_cx rfl (da_dat (de_ix hu (dr_nm 0) (dr_of (de_int))) (da_dat (de_int) (da_nil)))) (by intro _; rfl))) (dw_or1 (dt_not (dt_val (de_call k_is_side hr pas_cx rfl (da_dat (de_ix hu (dr_nm 0) (dr_of (de_int))) (da_dat (de_int) (da_nil)))) (by intro _; rfl)))))))) (dss_cons (ds_ret (de_bl)) (dss_nl)) (dss_nl)) (dss_cons (ds_ret (de_and (de_call k_is_whole hr pas_cx rfl (da_dat (de_ix hu (dr_nm 0) (dr_of (de_int))) (da_dat (de_int) (da_dat (de_gint g.c_MOST_TICKS rfl) (da_nil))))) (de_one (de_call k_is_whole hr pas_cx rfl (da_dat (de_ix hu (dr_nm 0) (dr_of (de_int))) (da_dat (de_int) (da_dat (de_gint g.c_MOST_POWER rfl) (da_nil)))))))) (dss_nl))
theorem sc_law_draw : FnScope ["_law_script", "_law_town", "_law_many"] ["_law_script", "_law_town", "_law_many"] (defScope (top 32)) := ⟨rfl, rfl, rfl, by decide +kernel, rfl, by decide +kernel, by decide +kernel⟩
theorem k_law_draw (g : G K mg) : Kn P w K mg base 3 "_law_draw" 3 F_law_draw := by
  obtain ⟨f, fd, FD, hm⟩ := g.f_law_draw
  have k_law_mix : Kn P w K mg base 2 "_law_mix" 2 F_law_mix := (k_law_mix g).mono (by decide)
  refine kn_of FD sc_law_draw hm (FD.bindsN fun _ _ _ _ _ _ us hl => match us, hl with | [_, _, _], _ => rfl) rfl rfl fun cd A outer s H E hr => ?_
  have hu : (A.deeper (PyProof.Rows.envOfC "_law_draw" (defScope (top 32)) s.heap.objs.size f cd)).units + 65 < cLine := by have := hr.un; omega
  exact dss_cons (ds_expr (de_append (i := 1) (pe_nm) (de_int))) (dss_cons (ds_ret (de_mod (dr_of (de_fdiv (dr_of (de_call k_law_mix hr pas_cx rfl (da_dat (de_nm 0) (da_dat (de_len g.b_len (dr_nm 1)) (da_nil))))) (dr_of (de_int)))) (dr_nm 2))) (dss_nl))
theorem sc_look_book : FnScope ["book", "name"] ["book"] (defScope (top 16)) := ⟨rfl, rfl, rfl, by decide +kernel, rfl, by decide +kernel, by decide +kernel⟩
theorem k_look_book (g : G K mg) : Kn P w K mg base 4 "look_book" 1 F_look_book := by
  obtain ⟨f, fd, FD, hm⟩ := g.f_look_book
  have k_is_way : Kn P w K mg base 3 "is_way" 1 F_is_way := (k_is_way g).mono (by decide)
  have k_is_word : Kn P w K mg base 3 "is_word" 1 F_is_word := (k_is_word g).mono (by decide)
  refine kn_of FD sc_look_book hm (FD.bindsN fun _ _ _ _ _ _ us hl => match us, hl with | [_], _ => rfl) rfl rfl fun cd A outer s H E hr => ?_
  have hu : (A.deeper (PyProof.Rows.envOfC "look_book" (defScope (top 16)) s.heap.objs.size f cd)).units + 65 < cLine := by have := hr.un; omega
  exact dss_cons (ds_if (DW.dt (dw_or (dt_not (dt_val (de_isi isT_dict rfl g.b_isinstance rfl g.b_dict (by decide +kernel) (dr_nm 0)) (by intro _; rfl))) (dw_or1 (dt_not (dt_chain op_le op_le ok_le ok_le (dr_of (de_int)) (dr_of (de_len g.b_len (dr_nm 0))) (dr_of (de_gint g.c_MOST_WAYS rfl))))))) (dss_cons (ds_nv) (dss_nl)) (dss_nl)) (dss_cons (ds_for own_cx rfl (di_keys (de_nm 0)) (dg_name sc_look_book.nd rfl (by first | exact .inl rfl | exact .inr rfl)) (dss_cons (ds_if (DW.dt (dw_or (dt_not (dt_val (de_call k_is_word hr pas_cx rfl (da_dat (de_nm 1) (da_nil))) (by intro _; rfl))) (dw_or1 (dt_not (dt_val (de_call k_is_way hr pas_cx rfl (da_dat (de_ix hu (dr_nm 0) (dr_nm 1)) (da_nil))) (by intro _; rfl)))))) (dss_cons (ds_nv) (dss_nl)) (dss_nl)) (dss_nl))) (dss_nl))
theorem sc_law_pick : FnScope ["_law_script", "_law_town", "_law_some"] ["_law_script", "_law_town", "_law_some"] (defScope (top 33)) := ⟨rfl, rfl, rfl, by decide +kernel, rfl, by decide +kernel, by decide +kernel⟩
theorem k_law_pick (g : G K mg) : Kn P w K mg base 4 "_law_pick" 3 F_law_pick := by
  obtain ⟨f, fd, FD, hm⟩ := g.f_law_pick
  have k_law_draw : Kn P w K mg base 3 "_law_draw" 3 F_law_draw := (k_law_draw g).mono (by decide)
  refine kn_of FD sc_law_pick hm (FD.bindsN fun _ _ _ _ _ _ us hl => match us, hl with | [_, _, _], _ => rfl) rfl rfl fun cd A outer s H E hr => ?_
  have hu : (A.deeper (PyProof.Rows.envOfC "_law_pick" (defScope (top 33)) s.heap.objs.size f cd)).units + 65 < cLine := by have := hr.un; omega
  exact dss_cons (ds_ret (de_ix hu (dr_nm 2) (dr_of (de_call k_law_draw hr pas_cx rfl (da_dat (de_nm 0) (da_nm 1 (da_dat (de_len g.b_len (dr_nm 2)) (da_nil)))))))) (dss_nl)
theorem sc_law_raws : FnScope ["_law_script", "_law_town", "_law_book_here", "_law_some", "_law_word"] ["_law_script", "_law_town", "_law_book_here"] (defScope (top 38)) := ⟨rfl, rfl, rfl, by decide +kernel, rfl, by decide +kernel, by decide +kernel⟩
theorem k_law_raws (g : G K mg) : Kn P w K mg base 4 "_law_raws" 3 F_law_raws := by
  obtain ⟨f, fd, FD, hm⟩ := g.f_law_raws
  have k_law_draw : Kn P w K mg base 3 "_law_draw" 3 F_law_draw := (k_law_draw g).mono (by decide)
  have k_law_goods : Kn P w K mg base 3 "_law_goods" 1 F_law_goods := (k_law_goods g).mono (by decide)
  refine kn_of FD sc_law_raws hm (FD.bindsN fun _ _ _ _ _ _ us hl => match us, hl with | [_, _, _], _ => rfl) rfl rfl fun cd A outer s H E hr => ?_
  have hu : (A.deeper (PyProof.Rows.envOfC "_law_raws" (defScope (top 38)) s.heap.objs.size f cd)).units + 65 < cLine := by have := hr.un; omega
  exact dss_cons (ds_set sc_law_raws.nd rfl (by first | exact .inl rfl | exact .inr rfl) (de_add (drn_of (dn_lst (dl_cons (de_str) (dl_cons (de_str) (dl_nil))))) (drn_of (dn_lc (own := [("_law_word", 4)]) rfl sc_law_raws.nd (di_seq (de_call k_law_goods hr pas_cx rfl (da_dat (de_nm 2) (da_nil)))) (blkOk_by rfl) (by decide) (fun _ _ _ _ _ => dg_name sc_law_raws.nd rfl (by first | exact .inl rfl | exact .inr rfl)) (fun _ _ _ _ _ => dts_one (dt_eq hu (dr_of (de_call k_law_draw hr pas0 rfl (da_dat (de_nm 0) (da_nm 1 (da_dat (de_int) (da_nil)))))) (dr_of (de_int)))) (fun _ _ _ _ _ => de_nm 4))))) (dss_cons (ds_ret (de_slice (de_of (dn_sortSet rfl rfl g.b_sorted rfl g.b_set (dr_of (de_slice (de_nm 3) (dp_some (de_call k_law_draw hr pas_cx rfl (da_dat (de_nm 0) (da_nm 1 (da_dat (de_int) (da_nil)))))) (dp_none))))) (dp_none) (dp_some (de_int)))) (dss_nl))
theorem sc_goods : FnScope ["book"] ["book"] (defScope (top 19)) := ⟨rfl, rfl, rfl, by decide +kernel, rfl, by decide +kernel, by decide +kernel⟩
theorem k_goods (g : G K mg) : Kn P w K mg base 5 "goods" 1 F_goods := by
  obtain ⟨f, fd, FD, hm⟩ := g.f_goods
  have k_all_goods : Kn P w K mg base 4 "all_goods" 1 F_all_goods := (k_all_goods g).mono (by decide)
  have k_look_book : Kn P w K mg base 4 "look_book" 1 F_look_book := (k_look_book g).mono (by decide)
  refine kn_of FD sc_goods hm (FD.bindsN fun _ _ _ _ _ _ us hl => match us, hl with | [_], _ => rfl) rfl rfl fun cd A outer s H E hr => ?_
  have hu : (A.deeper (PyProof.Rows.envOfC "goods" (defScope (top 19)) s.heap.objs.size f cd)).units + 65 < cLine := by have := hr.un; omega
  exact dss_cons (ds_expr (de_call k_look_book hr pas_cx rfl (da_dat (de_nm 0) (da_nil)))) (dss_cons (ds_ret (de_call k_all_goods hr pas_cx rfl (da_dat (de_nm 0) (da_nil)))) (dss_nl))
theorem sc_givers : FnScope ["book", "word", "name"] ["book", "word"] (defScope (top 22)) := ⟨rfl, rfl, rfl, by decide +kernel, rfl, by decide +kernel, by decide +kernel⟩
theorem k_givers (g : G K mg) : Kn P w K mg base 5 "givers" 2 F_givers := by
  obtain ⟨f, fd, FD, hm⟩ := g.f_givers
  have k_is_word : Kn P w K mg base 4 "is_word" 1 F_is_word := (k_is_word g).mono (by decide)
  have k_look_book : Kn P w K mg base 4 "look_book" 1 F_look_book := (k_look_book g).mono (by decide)
  have k_ways : Kn P w K mg base 4 "ways" 1 F_ways := (k_ways g).mono (by decide)
  refine kn_of FD sc_givers hm (FD.bindsN fun _ _ _ _ _ _ us hl => match us, hl with | [_, _], _ => rfl) rfl rfl fun cd A outer s H E hr => ?_
  have hu : (A.deeper (PyProof.Rows.envOfC "givers" (defScope (top 22)) s.heap.objs.size f cd)).units + 65 < cLine := by have := hr.un; omega
  exact dss_cons (ds_expr (de_call k_look_book hr pas_cx rfl (da_dat (de_nm 0) (da_nil)))) (dss_cons (ds_if (dt_not (dt_val (de_call k_is_word hr pas_cx rfl (da_dat (de_nm 1) (da_nil))) (by intro _; rfl))) (dss_cons (ds_nv) (dss_nl)) (dss_nl)) (dss_cons (ds_ret (de_of (dn_lc (own := [("name", 2)]) rfl sc_givers.nd (di_seq (de_call k_ways hr pas_cx rfl (da_dat (de_nm 0) (da_nil)))) (blkOk_by rfl) (by decide) (fun _ _ _ _ _ => dg_name sc_givers.nd rfl (by first | exact .inl rfl | exact .inr rfl)) (fun _ _ _ _ _ => dts_one (dt_inA hu (dr_nm 1) (drn_of (dn_dict rfl g.b_dict (dr_of (de_ix hu (dr_of (de_ix hu (dr_nm 0) (dr_nm 2))) (dr_of (de_int)))))))) (fun _ _ _ _ _ => de_nm 2)))) (dss_nl)))
theorem sc_takers : FnScope ["book", "word", "name"] ["book", "word"] (defScope (top 23)) := ⟨rfl, rfl, rfl, by decide +kernel, rfl, by decide +kernel, by decide +kernel⟩
theorem k_takers (g : G K mg) : Kn P w K mg base 5 "takers" 2 F_takers := by
  obtain ⟨f, fd, FD, hm⟩ := g.f_takers
  have k_is_word : Kn P w K mg base 4 "is_word" 1 F_is_word := (k_is_word g).mono (by decide)
  have k_look_book : Kn P w K mg base 4 "look_book" 1 F_look_book := (k_look_book g).mono (by decide)
  have k_ways : Kn P w K mg base 4 "ways" 1 F_ways := (k_ways g).mono (by decide)
  refine kn_of FD sc_takers hm (FD.bindsN fun _ _ _ _ _ _ us hl => match us, hl with | [_, _], _ => rfl) rfl rfl fun cd A outer s H E hr => ?_
  have hu : (A.deeper (PyProof.Rows.envOfC "takers" (defScope (top 23)) s.heap.objs.size f cd)).units + 65 < cLine := by have := hr.un; omega
  exact dss_cons (ds_expr (de_call k_look_book hr pas_cx rfl (da_dat (de_nm 0) (da_nil)))) (dss_cons (ds_if (dt_not (dt_val (de_call k_is_word hr pas_cx rfl (da_dat (de_nm 1) (da_nil))) (by intro _; rfl))) (dss_cons (ds_nv) (dss_nl)) (dss_nl)) (dss_cons (ds_ret (de_of (dn_lc (own := [("name", 2)]) rfl sc_takers.nd (di_seq (de_call k_ways hr pas_cx rfl (da_dat (de_nm 0) (da_nil)))) (blkOk_by rfl) (by decide) (fun _ _ _ _ _ => dg_name sc_takers.nd rfl (by first | exact .inl rfl | exact .inr rfl)) (fun _ _ _ _ _ => dts_one (dt_inA hu (dr_nm 1) (drn_of (dn_dict rfl g.b_dict (dr_of (de_ix hu (dr_of (de_ix hu (dr_nm 0) (dr_nm 2))) (dr_of (de_int)))))))) (fun _ _ _ _ _ => de_nm 2)))) (dss_nl)))
theorem sc_rings : FnScope ["book", "some", "later", "word", "found", "ring", "other"] ["book"] (defScope (top 26)) := ⟨rfl, rfl, rfl, by decide +kernel, rfl, by decide +kernel, by decide +kernel⟩
theorem k_rings (g : G K mg) : Kn P w K mg base 5 "rings" 1 F_rings := by
  obtain ⟨f, fd, FD, hm⟩ := g.f_rings
  have k_behind : Kn P w K mg base 4 "behind" 2 F_behind := (k_behind g).mono (by decide)
  have k_goods_behind : Kn P w K mg base 4 "goods_behind" 1 F_goods_behind := (k_goods_behind g).mono (by decide)
  have k_look_book : Kn P w K mg base 4 "look_book" 1 F_look_book := (k_look_book g).mono (by decide)
  refine kn_of FD sc_rings hm (FD.bindsN fun _ _ _ _ _ _ us hl => match us, hl with | [_], _ => rfl) rfl rfl fun cd A outer s H E hr => ?_
  have hu : (A.deeper (PyProof.Rows.envOfC "rings" (defScope (top 26)) s.heap.objs.size f cd)).units + 65 < cLine := by have := hr.un; omega
  exact dss_cons (ds_expr (de_call k_look_book hr pas_cx rfl (da_dat (de_nm 0) (da_nil)))) (dss_cons (ds_set sc_rings.nd rfl (by first | exact .inl rfl | exact .inr rfl) (de_call k_goods_behind hr pas_cx rfl (da_dat (de_nm 0) (da_nil)))) (dss_cons (ds_setN sc_rings.nd rfl (by first | exact .inl rfl | exact .inr rfl) (dn_dic0)) (dss_cons (ds_for own_cx rfl (di_keys (de_nm 1)) (dg_name sc_rings.nd rfl (by first | exact .inl rfl | exact .inr rfl)) (dss_cons (ds_put (i := 2) hu (pe_nm) (de_nm 3) (de_call k_behind hr pas_cx rfl (da_dat (de_nm 1) (da_dat (de_nm 3) (da_nil))))) (dss_nl))) (dss_cons (ds_setN sc_rings.nd rfl (by first | exact .inl rfl | exact .inr rfl) (dn_lst (dl_nil))) (dss_cons (ds_for own_cx rfl (di_seq (de_of (dn_sortKeys rfl rfl g.b_sorted (dr_nm 1)))) (dg_name sc_rings.nd rfl (by first | exact .inl rfl | exact .inr rfl)) (dss_cons (ds_if (dt_inA hu (dr_nm 3) (dr_of (de_ix hu (dr_nm 2) (dr_nm 3)))) (dss_cons (ds_setLcN (own := [("other", 6)]) rfl sc_rings.nd rfl rfl (sw_true rfl rfl rfl rfl) (di_seq (de_of (dn_sortKeys rfl rfl g.b_sorted (dr_nm 1)))) (blkOk_by rfl) (by decide) (fun _ _ _ _ _ => dg_name sc_rings.nd rfl (by first | exact .inl rfl | exact .inr rfl)) (fun _ _ _ _ _ => dts_one (DW.dt (dw_and (dt_inA hu (dr_nm 6) (dr_of (de_ix hu (dr_nm 2) (dr_nm 3)))) (dw_and1 (dt_inA hu (dr_nm 3) (dr_of (de_ix hu (dr_nm 2) (dr_nm 6)))))))) (fun _ _ _ _ _ => de_nm 6)) (dss_cons (ds_if (dt_ninA hu (dr_nm 5) (dr_nm 4)) (dss_cons (ds_expr (de_append (i := 4) (pe_nm) (de_nm 5))) (dss_nl)) (dss_nl)) (dss_nl))) (dss_nl)) (dss_nl))) (dss_cons (ds_ret (de_nm 4)) (dss_nl)))))))
theorem sc_layers : FnScope ["book", "raws", "found", "known", "new", "name", "word", "many"] ["book", "raws"] (defScope (top 27)) := ⟨rfl, rfl, rfl, by decide +kernel, rfl, by decide +kernel, by decide +kernel⟩
theorem k_layers (g : G K mg) : Kn P w K mg base 5 "layers" 2 F_layers := by
  obtain ⟨f, fd, FD, hm⟩ := g.f_layers
  have k_look_book : Kn P w K mg base 4 "look_book" 1 F_look_book := (k_look_book g).mono (by decide)
  have k_look_raws : Kn P w K mg base 4 "look_raws" 1 F_look_raws := (k_look_raws g).mono (by decide)
  refine kn_of FD sc_layers hm (FD.bindsN fun _ _ _ _ _ _ us hl => match us, hl with | [_, _], _ => rfl) rfl rfl fun cd A outer s H E hr => ?_
  have hu : (A.deeper (PyProof.Rows.envOfC "layers" (defScope (top 27)) s.heap.objs.size f cd)).units + 65 < cLine := by have := hr.un; omega
  exact dss_cons (ds_expr (de_call k_look_book hr pas_cx rfl (da_dat (de_nm 0) (da_nil)))) (dss_cons (ds_expr (de_call k_look_raws hr pas_cx rfl (da_dat (de_nm 1) (da_nil)))) (dss_cons (ds_setN sc_layers.nd rfl (by first | exact .inl rfl | exact .inr rfl) (dn_lst (dl_cons (de_of (dn_list g.b_list (dr_nm 1))) (dl_nil)))) (dss_cons (ds_setN sc_layers.nd rfl (by first | exact .inl rfl | exact .inr rfl) (dn_list g.b_list (dr_nm 1))) (dss_cons (ds_while fuel own_cx (dt_val (de_bl) (by intro _; rfl)) (dss_cons (ds_setN sc_layers.nd rfl (by first | exact .inl rfl | exact .inr rfl) (dn_dic0)) (dss_cons (ds_for own_cx rfl (di_keys (de_nm 0)) (dg_name sc_layers.nd rfl (by first | exact .inl rfl | exact .inr rfl)) (dss_cons (ds_if (dt_val (de_all rfl g.b_all (drn_of (dn_lc (own := [("word", 6), ("many", 7)]) rfl sc_layers.nd (di_seq (de_ix hu (dr_of (de_ix hu (dr_nm 0) (dr_nm 5))) (dr_of (de_int)))) (blkOk_by rfl) (by decide) (fun _ _ _ _ _ => dg_tup rfl (dgs_cons sc_layers.nd rfl (by first | exact .inl rfl | exact .inr rfl) (dgs_cons sc_layers.nd rfl (by first | exact .inl rfl | exact .inr rfl) (dgs_nil)))) (fun _ _ _ _ _ => dts_nil) (fun _ _ _ _ _ => de_inA hu (dr_nm 6) (dr_nm 3))))) (by intro _; rfl)) (dss_cons (ds_for own_cx rfl (di_seq (de_ix hu (dr_of (de_ix hu (dr_nm 0) (dr_nm 5))) (dr_of (de_int)))) (dg_tup rfl (dgs_cons sc_layers.nd rfl (by first | exact .inl rfl | exact .inr rfl) (dgs_cons sc_layers.nd rfl (by first | exact .inl rfl | exact .inr rfl) (dgs_nil)))) (dss_cons (ds_if (dt_ninA hu (dr_nm 6) (dr_nm 3)) (dss_cons (ds_put (i := 4) hu (pe_nm) (de_nm 6) (de_bl)) (dss_nl)) (dss_nl)) (dss_nl))) (dss_nl)) (dss_nl)) (dss_nl))) (dss_cons (ds_if (dt_not (dt_tru (dr_nm 4) (by intro _; rfl))) (dss_cons (ds_ret (de_nm 2)) (dss_nl)) (dss_nl)) (dss_cons (ds_expr (de_append (i := 2) (pe_nm) (de_of (dn_sortKeys rfl rfl g.b_sorted (dr_nm 4))))) (dss_cons (ds_expr (de_extend (i := 3) (pe_nm) (de_ix hu (dr_nm 2) (dr_of (de_neg (de_int)))))) (dss_nl))))))) (dss_nl)))))
theorem sc_law_good : FnScope ["_law_script", "_law_town", "_law_signs", "_law_k"] ["_law_script", "_law_town"] (defScope (top 34)) := ⟨rfl, rfl, rfl, by decide +kernel, rfl, by decide +kernel, by decide +kernel⟩
theorem k_law_good (g : G K mg) : Kn P w K mg base 5 "_law_good" 2 F_law_good := by
  obtain ⟨f, fd, FD, hm⟩ := g.f_law_good
  have k_law_draw : Kn P w K mg base 4 "_law_draw" 3 F_law_draw := (k_law_draw g).mono (by decide)
  have k_law_pick : Kn P w K mg base 4 "_law_pick" 3 F_law_pick := (k_law_pick g).mono (by decide)
  refine kn_of FD sc_law_good hm (FD.bindsN fun _ _ _ _ _ _ us hl => match us, hl with | [_, _], _ => rfl) rfl rfl fun cd A outer s H E hr => ?_
  have hu : (A.deeper (PyProof.Rows.envOfC "_law_good" (defScope (top 34)) s.heap.objs.size f cd)).units + 65 < cLine := by have := hr.un; omega
  exact dss_cons (ds_set sc_law_good.nd rfl (by first | exact .inl rfl | exact .inr rfl) (de_str)) (dss_cons (ds_if (dt_gt (dr_of (de_call k_law_draw hr pas_cx rfl (da_dat (de_nm 0) (da_nm 1 (da_dat (de_int) (da_nil)))))) (dr_of (de_int))) (dss_cons (ds_ret (de_call k_law_pick hr pas_cx rfl (da_dat (de_nm 0) (da_nm 1 (da_dat (de_of (dn_lst (dl_cons (de_str) (dl_cons (de_str) (dl_cons (de_str) (dl_cons (de_str) (dl_cons (de_str) (dl_cons (de_str) (dl_nil))))))))) (da_nil)))))) (dss_nl)) (dss_nl)) (dss_cons (ds_ret (de_join (de_str) (de_of (dn_lc (own := [("_law_k", 3)]) rfl sc_law_good.nd (di_range1 rfl g.b_range (dl_cons (de_add (dr_of (de_int)) (dr_of (de_call k_law_draw hr pas_cx rfl (da_dat (de_nm 0) (da_nm 1 (da_dat (de_int) (da_nil))))))) (dl_nil))) (blkOk_by rfl) (by decide) (fun _ _ _ _ _ => dg_name sc_law_good.nd rfl (by first | exact .inl rfl | exact .inr rfl)) (fun _ _ _ _ _ => dts_nil) (fun _ _ _ _ _ => de_call k_law_pick hr pas0 rfl (da_dat (de_nm 0) (da_nm 1 (da_dat (de_nm 2) (da_nil))))))))) (dss_nl)))
theorem sc_never : FnScope ["book", "raws", "made", "row", "word"] ["book", "raws"] (defScope (top 28)) := ⟨rfl, rfl, rfl, by decide +kernel, rfl, by decide +kernel, by decide +kernel⟩
theorem k_never (g : G K mg) : Kn P w K mg base 6 "never" 2 F_never := by
  obtain ⟨f, fd, FD, hm⟩ := g.f_never
  have k_all_goods : Kn P w K mg base 5 "all_goods" 1 F_all_goods := (k_all_goods g).mono (by decide)
  have k_layers : Kn P w K mg base 5 "layers" 2 F_layers := (k_layers g).mono (by decide)
  refine kn_of FD sc_never hm (FD.bindsN fun _ _ _ _ _ _ us hl => match us, hl with | [_, _], _ => rfl) rfl rfl fun cd A outer s H E hr => ?_
  have hu : (A.deeper (PyProof.Rows.envOfC "never" (defScope (top 28)) s.heap.objs.size f cd)).units + 65 < cLine := by have := hr.un; omega
  exact dss_cons (ds_setN sc_never.nd rfl (by first | exact .inl rfl | exact .inr rfl) (dn_dic0)) (dss_cons (ds_for own_cx rfl (di_seq (de_call k_layers hr pas_cx rfl (da_dat (de_nm 0) (da_dat (de_nm 1) (da_nil))))) (dg_name sc_never.nd rfl (by first | exact .inl rfl | exact .inr rfl)) (dss_cons (ds_for own_cx rfl (di_seq (de_nm 3)) (dg_name sc_never.nd rfl (by first | exact .inl rfl | exact .inr rfl)) (dss_cons (ds_put (i := 2) hu (pe_nm) (de_nm 4) (de_bl)) (dss_nl))) (dss_nl))) (dss_cons (ds_ret (de_of (dn_lc (own := [("word", 4)]) rfl sc_never.nd (di_seq (de_call k_all_goods hr pas_cx rfl (da_dat (de_nm 0) (da_nil)))) (blkOk_by rfl) (by decide) (fun _ _ _ _ _ => dg_name sc_never.nd rfl (by first | exact .inl rfl | exact .inr rfl)) (fun _ _ _ _ _ => dts_one (dt_ninA hu (dr_nm 4) (dr_nm 2))) (fun _ _ _ _ _ => de_nm 4)))) (dss_nl)))
theorem sc_law_side : FnScope ["_law_script", "_law_town", "_law_least_many", "_law_found", "_law_k", "_law_word"] ["_law_script", "_law_town", "_law_least_many"] (defScope (top 35)) := ⟨rfl, rfl, rfl, by decide +kernel, rfl, by decide +kernel, by decide +kernel⟩
theorem k_law_side (g : G K mg) : Kn P w K mg base 6 "_law_side" 3 F_law_side := by
  obtain ⟨f, fd, FD, hm⟩ := g.f_law_side
  have k_law_draw : Kn P w K mg base 5 "_law_draw" 3 F_law_draw := (k_law_draw g).mono (by decide)
  have k_law_good : Kn P w K mg base 5 "_law_good" 2 F_law_good := (k_law_good g).mono (by decide)
  have k_law_pick : Kn P w K mg base 5 "_law_pick" 3 F_law_pick := (k_law_pick g).mono (by decide)
  refine kn_of FD sc_law_side hm (FD.bindsN fun _ _ _ _ _ _ us hl => match us, hl with | [_, _, _], _ => rfl) rfl rfl fun cd A outer s H E hr => ?_
  have hu : (A.deeper (PyProof.Rows.envOfC "_law_side" (defScope (top 35)) s.heap.objs.size f cd)).units + 65 < cLine := by have := hr.un; omega
  exact dss_cons (ds_setN sc_law_side.nd rfl (by first | exact .inl rfl | exact .inr rfl) (dn_dic0)) (dss_cons (ds_for own_cx rfl (di_range1 rfl g.b_range (dl_cons (de_add (dr_nm 2) (dr_of (de_call k_law_draw hr pas_cx rfl (da_dat (de_nm 0) (da_nm 1 (da_dat (de_sub (dr_of (de_int)) (dr_nm 2)) (da_nil))))))) (dl_nil))) (dg_name sc_law_side.nd rfl (by first | exact .inl rfl | exact .inr rfl)) (dss_cons (ds_put (i := 3) hu (pe_nm) (de_call k_law_good hr pas_cx rfl (da_dat (de_nm 0) (da_nm 1 (da_nil)))) (de_call k_law_pick hr pas_cx rfl (da_dat (de_nm 0) (da_nm 1 (da_dat (de_of (dn_lst (dl_cons (de_int) (dl_cons (de_int) (dl_cons (de_int) (dl_cons (de_int) (dl_cons (de_int) (dl_nil)))))))) (da_nil)))))) (dss_nl))) (dss_cons (ds_ret (de_tuple g.b_tuple (drn_of (dn_lc (own := [("_law_word", 5)]) rfl sc_law_side.nd (di_seq (de_of (dn_sortKeys rfl rfl g.b_sorted (dr_nm 3)))) (blkOk_by rfl) (by decide) (fun _ _ _ _ _ => dg_name sc_law_side.nd rfl (by first | exact .inl rfl | exact .inr rfl)) (fun _ _ _ _ _ => dts_nil) (fun _ _ _ _ _ => de_tup (dl_cons (de_nm 5) (dl_cons (de_ix hu (dr_nm 3) (dr_nm 5)) (dl_nil)))))))) (dss_nl)))
theorem sc_law_book : FnScope ["_law_script", "_law_town", "_law_most", "_law_found", "_law_names", "_law_turn", "_law_name", "_law_ticks", "_law_need"] ["_law_script", "_law_town", "_law_most"] (defScope (top 36)) := ⟨rfl, rfl, rfl, by decide +kernel, rfl, by decide +kernel, by decide +kernel⟩
theorem k_law_book (g : G K mg) : Kn P w K mg base 7 "_law_book" 3 F_law_book := by
  obtain ⟨f, fd, FD, hm⟩ := g.f_law_book
  have k_law_draw : Kn P w K mg base 6 "_law_draw" 3 F_law_draw := (k_law_draw g).mono (by decide)
  have k_law_pick : Kn P w K mg base 6 "_law_pick" 3 F_law_pick := (k_law_pick g).mono (by decide)
  have k_law_side : Kn P w K mg base 6 "_law_side" 3 F_law_side := (k_law_side g).mono (by decide)
  refine kn_of FD sc_law_book hm (FD.bindsN fun _ _ _ _ _ _ us hl => match us, hl with | [_, _, _], _ => rfl) rfl rfl fun cd A outer s H E hr => ?_
  have hu : (A.deeper (PyProof.Rows.envOfC "_law_book" (defScope (top 36)) s.heap.objs.size f cd)).units + 65 < cLine := by have := hr.un; omega
  exact dss_cons (ds_setN sc_law_book.nd rfl (by first | exact .inl rfl | exact .inr rfl) (dn_dic0)) (dss_cons (ds_set sc_law_book.nd rfl (by first | exact .inl rfl | exact .inr rfl) (de_of (dn_lst (dl_cons (de_str) (dl_cons (de_str) (dl_cons (de_str) (dl_cons (de_str) (dl_cons (de_str) (dl_cons (de_str) (dl_nil)))))))))) (dss_cons (ds_set sc_law_book.nd rfl (by first | exact .inl rfl | exact .inr rfl) (de_call k_law_draw hr pas_cx rfl (da_dat (de_nm 0) (da_nm 1 (da_dat (de_int) (da_nil)))))) (dss_cons (ds_for own_cx rfl (di_seq (de_slice (de_add (dr_of (de_slice (de_nm 4) (dp_some (de_nm 5)) (dp_none))) (dr_of (de_slice (de_nm 4) (dp_none) (dp_some (de_nm 5))))) (dp_none) (dp_some (de_add (dr_of (de_int)) (dr_of (de_call k_law_draw hr pas_cx rfl (da_dat (de_nm 0) (da_nm 1 (da_dat (de_nm 2) (da_nil)))))))))) (dg_name sc_law_book.nd rfl (by first | exact .inl rfl | exact .inr rfl)) (dss_cons (ds_set sc_law_book.nd rfl (by first | exact .inl rfl | exact .inr rfl) (de_call k_law_pick hr pas_cx rfl (da_dat (de_nm 0) (da_nm 1 (da_dat (de_of (dn_lst (dl_cons (de_int) (dl_cons (de_int) (dl_cons (de_int) (dl_cons (de_int) (dl_cons (de_int) (dl_nil)))))))) (da_nil)))))) (dss_cons (ds_set sc_law_book.nd rfl (by first | exact .inl rfl | exact .inr rfl) (de_call k_law_pick hr pas_cx rfl (da_dat (de_nm 0) (da_nm 1 (da_dat (de_of (dn_lst (dl_cons (de_int) (dl_cons (de_int) (dl_cons (de_int) (dl_cons (de_int) (dl_cons (de_int) (dl_nil)))))))) (da_nil)))))) (dss_cons (ds_put (i := 3) hu (pe_nm) (de_nm 6) (de_tup (dl_cons (de_call k_law_side hr pas_cx rfl (da_dat (de_nm 0) (da_nm 1 (da_dat (de_int) (da_nil))))) (dl_cons (de_call k_law_side hr pas_cx rfl (da_dat (de_nm 0) (da_nm 1 (da_dat (de_int) (da_nil))))) (dl_cons (de_nm 7) (dl_cons (de_nm 8) (dl_nil))))))) (dss_nl))))) (dss_cons (ds_ret (de_nm 3)) (dss_nl)))))
theorem sc_law : FnScope ["_law_script", "_law_town", "_law_book_here", "_law_words", "_law_names", "_law_raws_here", "_law_word", "_law_name", "_law_one", "_law_many", "_law_found", "_law_known", "_law_row", "_law_due", "_law_more"] ["_law_script"] (defScope (top 41)) := ⟨rfl, rfl, rfl, by decide +kernel, rfl, by decide +kernel, by decide +kernel⟩
theorem ok_law (g : G K mg) {f : Addr} {fd : FuncData} (FD : FunD K "law" "law" (defArgs (top 41)) (defBody (top 41)) (defScope (top 41)) [] [] f fd) : FnOk P w K mg base (L2.CX P w) 8 f fd ["_law_script"] (spF K 1 F_law) := by
  have k_law_book : Kn P w K mg base 7 "_law_book" 3 F_law_book := (k_law_book g).mono (by decide)
  have k_law_goods : Kn P w K mg base 7 "_law_goods" 1 F_law_goods := (k_law_goods g).mono (by decide)
  have k_law_raws : Kn P w K mg base 7 "_law_raws" 3 F_law_raws := (k_law_raws g).mono (by decide)
  have k_law_rings : Kn P w K mg base 7 "_law_rings" 1 F_law_rings := (k_law_rings g).mono (by decide)
  have k_givers : Kn P w K mg base 7 "givers" 2 F_givers := (k_givers g).mono (by decide)
  have k_goods : Kn P w K mg base 7 "goods" 1 F_goods := (k_goods g).mono (by decide)
  have k_layers : Kn P w K mg base 7 "layers" 2 F_layers := (k_layers g).mono (by decide)
  have k_never : Kn P w K mg base 7 "never" 2 F_never := (k_never g).mono (by decide)
  have k_rings : Kn P w K mg base 7 "rings" 1 F_rings := (k_rings g).mono (by decide)
  have k_takers : Kn P w K mg base 7 "takers" 2 F_takers := (k_takers g).mono (by decide)
  refine fn_ok (N := ["_law_script", "_law_town", "_law_book_here", "_law_words", "_law_names", "_law_raws_here", "_law_word", "_law_name", "_law_one", "_law_many", "_law_found", "_law_known", "_law_row", "_law_due", "_law_more"]) (ps := ["_law_script"]) FD sc_law fun cd A outer s H E hr => ?_
  have hu : (A.deeper (PyProof.Rows.envOfC "law" (defScope (top 41)) s.heap.objs.size f cd)).units + 65 < cLine := by have := hr.un; omega
  exact dss_cons (ds_setN sc_law.nd rfl (by first | exact .inl rfl | exact .inr rfl) (dn_lst (dl_nil))) (dss_cons (ds_set sc_law.nd rfl (by first | exact .inl rfl | exact .inr rfl) (de_call k_law_book hr pas_cx rfl (da_dat (de_nm 0) (da_nm 1 (da_dat (de_int) (da_nil)))))) (dss_cons (ds_set sc_law.nd rfl (by first | exact .inl rfl | exact .inr rfl) (de_call k_law_goods hr pas_cx rfl (da_dat (de_nm 2) (da_nil)))) (dss_cons (ds_set sc_law.nd rfl (by first | exact .inl rfl | exact .inr rfl) (de_of (dn_sortKeys rfl rfl g.b_sorted (dr_nm 2)))) (dss_cons (ds_set sc_law.nd rfl (by first | exact .inl rfl | exact .inr rfl) (de_call k_law_raws hr pas_cx rfl (da_dat (de_nm 0) (da_nm 1 (da_dat (de_nm 2) (da_nil)))))) (dss_cons (ds_if (DW.dt (dw_or (dt_ne hu (dr_of (de_call k_goods hr pas_cx rfl (da_dat (de_nm 2) (da_nil)))) (dr_nm 3)) (dw_or1 (dt_ne hu (dr_of (de_call k_rings hr pas_cx rfl (da_dat (de_nm 2) (da_nil)))) (dr_of (de_call k_law_rings hr pas_cx rfl (da_dat (de_nm 2) (da_nil)))))))) (dss_cons (ds_ret (de_bl)) (dss_nl)) (dss_nl)) (dss_cons (ds_for own_cx rfl (di_seq (de_add (dr_nm 3) (drn_of (dn_lst (dl_cons (de_str) (dl_nil)))))) (dg_name sc_law.nd rfl (by first | exact .inl rfl | exact .inr rfl)) (dss_cons (ds_if (dt_ne hu (dr_of (de_call k_givers hr pas_cx rfl (da_dat (de_nm 2) (da_dat (de_nm 6) (da_nil))))) (drn_of (dn_lc (own := [("_law_name", 7)]) rfl sc_law.nd (di_seq (de_nm 4)) (blkOk_by rfl) (by decide) (fun _ _ _ _ _ => dg_name sc_law.nd rfl (by first | exact .inl rfl | exact .inr rfl)) (fun _ _ _ _ _ => dts_one (dt_inA hu (dr_nm 6) (drn_of (dn_lc (own := [("_law_one", 8), ("_law_many", 9)]) rfl sc_law.nd (di_seq (de_ix hu (dr_of (de_ix hu (dr_nm 2) (dr_nm 7))) (dr_of (de_int)))) (blkOk_by rfl) (by decide) (fun _ _ _ _ _ => dg_tup rfl (dgs_cons sc_law.nd rfl (by first | exact .inl rfl | exact .inr rfl) (dgs_cons sc_law.nd rfl (by first | exact .inl rfl | exact .inr rfl) (dgs_nil)))) (fun _ _ _ _ _ => dts_nil) (fun _ _ _ _ _ => de_nm 8))))) (fun _ _ _ _ _ => de_nm 7)))) (dss_cons (ds_ret (de_bl)) (dss_nl)) (dss_nl)) (dss_cons (ds_if (dt_ne hu (dr_of (de_call k_takers hr pas_cx rfl (da_dat (de_nm 2) (da_dat (de_nm 6) (da_nil))))) (drn_of (dn_lc (own := [("_law_name", 7)]) rfl sc_law.nd (di_seq (de_nm 4)) (blkOk_by rfl) (by decide) (fun _ _ _ _ _ => dg_name sc_law.nd rfl (by first | exact .inl rfl | exact .inr rfl)) (fun _ _ _ _ _ => dts_one (dt_inA hu (dr_nm 6) (drn_of (dn_lc (own := [("_law_one", 8), ("_law_many", 9)]) rfl sc_law.nd (di_seq (de_ix hu (dr_of (de_ix hu (dr_nm 2) (dr_nm 7))) (dr_of (de_int)))) (blkOk_by rfl) (by decide) (fun _ _ _ _ _ => dg_tup rfl (dgs_cons sc_law.nd rfl (by first | exact .inl rfl | exact .inr rfl) (dgs_cons sc_law.nd rfl (by first | exact .inl rfl | exact .inr rfl) (dgs_nil)))) (fun _ _ _ _ _ => dts_nil) (fun _ _ _ _ _ => de_nm 8))))) (fun _ _ _ _ _ => de_nm 7)))) (dss_cons (ds_ret (de_bl)) (dss_nl)) (dss_nl)) (dss_nl)))) (dss_cons (ds_set sc_law.nd rfl (by first | exact .inl rfl | exact .inr rfl) (de_call k_layers hr pas_cx rfl (da_dat (de_nm 2) (da_dat (de_nm 5) (da_nil))))) (dss_cons (ds_set sc_law.nd rfl (by first | exact .inl rfl | exact .inr rfl) (de_of (dn_list g.b_list (dr_nm 5)))) (dss_cons (ds_if (dt_ne hu (dr_of (de_ix hu (dr_nm 10) (dr_of (de_int)))) (dr_nm 5)) (dss_cons (ds_ret (de_bl)) (dss_nl)) (dss_nl)) (dss_cons (ds_for own_cx rfl (di_seq (de_add (dr_of (de_slice (de_nm 10) (dp_some (de_int)) (dp_none))) (drn_of (dn_lst (dl_cons (de_of (dn_lst (dl_nil))) (dl_nil)))))) (dg_name sc_law.nd rfl (by first | exact .inl rfl | exact .inr rfl)) (dss_cons (ds_set sc_law.nd rfl (by first | exact .inl rfl | exact .inr rfl) (de_of (dn_lst (dl_nil)))) (dss_cons (ds_for own_cx rfl (di_seq (de_nm 4)) (dg_name sc_law.nd rfl (by first | exact .inl rfl | exact .inr rfl)) (dss_cons (ds_if (dt_eq hu (drn_of (dn_lc (own := [("_law_word", 6), ("_law_many", 9)]) rfl sc_law.nd (di_seq (de_ix hu (dr_of (de_ix hu (dr_nm 2) (dr_nm 7))) (dr_of (de_int)))) (blkOk_by rfl) (by decide) (fun _ _ _ _ _ => dg_tup rfl (dgs_cons sc_law.nd rfl (by first | exact .inl rfl | exact .inr rfl) (dgs_cons sc_law.nd rfl (by first | exact .inl rfl | exact .inr rfl) (dgs_nil)))) (fun _ _ _ _ _ => dts_one (dt_ninA hu (dr_nm 6) (dr_nm 11))) (fun _ _ _ _ _ => de_nm 6))) (drn_of (dn_lst (dl_nil)))) (dss_cons (ds_set sc_law.nd rfl (by first | exact .inl rfl | exact .inr rfl) (de_add (dr_nm 13) (drn_of (dn_lc (own := [("_law_word", 6), ("_law_many", 9)]) rfl sc_law.nd (di_seq (de_ix hu (dr_of (de_ix hu (dr_nm 2) (dr_nm 7))) (dr_of (de_int)))) (blkOk_by rfl) (by decide) (fun _ _ _ _ _ => dg_tup rfl (dgs_cons sc_law.nd rfl (by first | exact .inl rfl | exact .inr rfl) (dgs_cons sc_law.nd rfl (by first | exact .inl rfl | exact .inr rfl) (dgs_nil)))) (fun _ _ _ _ _ => dts_nil) (fun _ _ _ _ _ => de_nm 6))))) (dss_nl)) (dss_nl)) (dss_nl))) (dss_cons (ds_set sc_law.nd rfl (by first | exact .inl rfl | exact .inr rfl) (de_of (dn_sortSet rfl rfl g.b_sorted rfl g.b_set (drn_of (dn_lc (own := [("_law_word", 6)]) rfl sc_law.nd (di_seq (de_nm 13)) (blkOk_by rfl) (by decide) (fun _ _ _ _ _ => dg_name sc_law.nd rfl (by first | exact .inl rfl | exact .inr rfl)) (fun _ _ _ _ _ => dts_one (dt_ninA hu (dr_nm 6) (dr_nm 11))) (fun _ _ _ _ _ => de_nm 6)))))) (dss_cons (ds_if (dt_ne hu (dr_nm 12) (dr_nm 13)) (dss_cons (ds_ret (de_bl)) (dss_nl)) (dss_nl)) (dss_cons (ds_set sc_law.nd rfl (by first | exact .inl rfl | exact .inr rfl) (de_add (dr_nm 11) (dr_nm 12))) (dss_nl))))))) (dss_cons (ds_if (dt_ne hu (dr_of (de_call k_never hr pas_cx rfl (da_dat (de_nm 2) (da_dat (de_nm 5) (da_nil))))) (drn_of (dn_lc (own := [("_law_word", 6)]) rfl sc_law.nd (di_seq (de_nm 3)) (blkOk_by rfl) (by decide) (fun _ _ _ _ _ => dg_name sc_law.nd rfl (by first | exact .inl rfl | exact .inr rfl)) (fun _ _ _ _ _ => dts_one (dt_ninA hu (dr_nm 6) (dr_nm 11))) (fun _ _ _ _ _ => de_nm 6)))) (dss_cons (ds_ret (de_bl)) (dss_nl)) (dss_nl)) (dss_cons (ds_set sc_law.nd rfl (by first | exact .inl rfl | exact .inr rfl) (de_of (dn_sortSet rfl rfl g.b_sorted rfl g.b_set (dr_of (de_add (dr_nm 5) (dr_of (de_slice (de_nm 3) (dp_none) (dp_some (de_int))))))))) (dss_cons (ds_if (dt_gt (dr_of (de_len g.b_len (dr_nm 14))) (dr_of (de_int))) (dss_cons (ds_ret (de_bl)) (dss_nl)) (dss_nl)) (dss_cons (ds_ret (de_eq hu (drn_of (dn_lc (own := [("_law_word", 6)]) rfl sc_law.nd (di_seq (de_call k_never hr pas_cx rfl (da_dat (de_nm 2) (da_dat (de_nm 14) (da_nil))))) (blkOk_by rfl) (by decide) (fun _ _ _ _ _ => dg_name sc_law.nd rfl (by first | exact .inl rfl | exact .inr rfl)) (fun _ _ _ _ _ => dts_one (DW.dt (dw_and (dt_ninA hu (dr_nm 6) (dr_of (de_call k_never hr pas0 rfl (da_dat (de_nm 2) (da_dat (de_nm 5) (da_nil)))))) (dw_and1 (dt_ninA hu (dr_nm 6) (dr_nm 5)))))) (fun _ _ _ _ _ => de_nm 6))) (drn_of (dn_lst (dl_nil))))) (dss_nl)))))))))))))))
end
end Wk
set_option Elab.async false
set_option linter.all false
set_option maxRecDepth 100000
set_option maxHeartbeats 4000000
namespace Wk
open PySem PySem.Spec L2 DL
/-! ### what is drawn -/
abbrev intsD (ns : List Int) : D := .lst (ns.map D.int)
abbrev townA (n : Nat) : AV := .ow true (.l (List.replicate n (.int 0)))
theorem cell_ok (ns : List Int) (h : ns.length ≤ 63) (k : Int) : ∃ i as, F_law_cell [.fz (intsD ns), .fz (.int k)] = .val (.int i) as := by
  cases ns with
  | nil => simp [F_law_cell, s_law_cell, truR, truD]
  | cons x xs =>
    have hl : (0:Int) < ((xs.length : Int) + 1) := by omega
    have h0 := Int.emod_nonneg k (by omega : ((xs.length : Int) + 1) ≠ 0)
    have hlt : (k % ((xs.length : Int) + 1)).toNat < (x :: xs).length := by
      have := Int.emod_lt_of_pos k hl
      simp; omega
    have e : atI (D.int x :: List.map D.int xs) (k % ((xs.length : Int) + 1)) = some (.int ((x :: xs)[(k % ((xs.length : Int) + 1)).toNat])) := by
      rw [show (D.int x :: List.map D.int xs) = (x :: xs).map D.int from rfl]
      exact atI_of h0 (by rw [List.getElem?_map, List.getElem?_eq_getElem hlt]; rfl)
    simp [F_law_cell, s_law_cell, truR, truD, mod_ok hl, e]
theorem mix_ok (ns : List Int) (h : ns.length ≤ 63) (k : Nat) (hk : k < 2 ^ 30) : ∃ i as, F_law_mix [.fz (intsD ns), .fz (.int k)] = .val (.int i) as := by
  obtain ⟨c, as, hc⟩ := cell_ok ns h k
  have a1 : mulI (.int 104729) (.int ((k : Int) + 1)) = some (.int (104729 * ((k : Int) + 1))) := mul_ok (by decide) (by omega)
  have a2 : ∀ x : Int, modI (.int x) (.int 4294967291) = some (.int (x % 4294967291)) := fun x => mod_ok (by decide)
  obtain ⟨b0, b1⟩ := mod_rng (c + 104729 * ((k : Int) + 1)) 4294967291 (by decide)
  have a3 : powI (.int ((c + 104729 * ((k : Int) + 1)) % 4294967291)) (.int 5) = some (.int (((c + 104729 * ((k : Int) + 1)) % 4294967291) ^ 5)) := pow_ok (by decide) (by decide) (by omega)
  have a4 : ∀ x : Int, modI (.int x) (.int 4294967279) = some (.int (x % 4294967279)) := fun x => mod_ok (by decide)
  have a5 : ∀ x : Int, fdivI (.int x) (.int 64) = some (.int (x / 64)) := fun x => fdiv_ok (by decide) (by decide)
  have a6 : ∀ x : Int, modI (.int x) (.int 4294967231) = some (.int (x % 4294967231)) := fun x => mod_ok (by decide)
  have a7 : ∀ x : Int, mulI (.int (x % 4294967279 / 64)) (.int 69621) = some (.int (x % 4294967279 / 64 * 69621)) := fun x => by
    obtain ⟨c0, c1⟩ := mod_rng x 4294967279 (by decide)
    exact mul_ok (by omega) (by decide)
  simp [F_law_mix, s_law_mix, hc, a1, a2, a3, a4, a5, a6, a7]
theorem draw_ok (ns : List Int) (h : ns.length ≤ 63) (n : Nat) (hn : n < 1000000) (m : Int) (hm : 0 < m) : ∃ r, 0 ≤ r ∧ r < m ∧ F_law_draw [.fz (intsD ns), townA n, .fz (.int m)] = .val (.int r) [.fz (intsD ns), townA (n + 1), .fz (.int m)] := by
  obtain ⟨i, as, hi⟩ := mix_ok ns h (n + 1) (by omega)
  have hs : n < sizeLine := by rw [sizeLine_eq]; omega
  have a5 : ∀ x : Int, fdivI (.int x) (.int 8) = some (.int (x / 8)) := fun x => fdiv_ok (by decide) (by decide)
  have a6 : ∀ x : Int, modI (.int x) (.int m) = some (.int (x % m)) := fun x => mod_ok hm
  obtain ⟨c0, c1⟩ := mod_rng (i / 8) m hm
  refine ⟨i / 8 % m, c0, c1, ?_⟩
  have hi' : F_law_mix [.fz (intsD ns), .fz (.int ((n : Int) + 1))] = .val (.int i) as := hi
  simp [F_law_draw, s_law_draw, hs, hi', a5, a6]
theorem pickL_ok (ns : List Int) (h : ns.length ≤ 63) (n : Nat) (hn : n < 1000000) (xs : List D) (hx : xs ≠ []) : ∃ x, x ∈ xs ∧ F_law_pick [.fz (intsD ns), townA n, .fz (.lst xs)] = .val x [.fz (intsD ns), townA (n + 1), .fz (.lst xs)] := by
  have hl : (0 : Int) < xs.length := by have := List.length_pos_iff.mpr hx; omega
  obtain ⟨r, r0, r1, hr⟩ := draw_ok ns h n hn xs.length hl
  have hlt : r.toNat < xs.length := by omega
  refine ⟨xs[r.toNat], List.getElem_mem hlt, ?_⟩
  have e : atI xs r = some xs[r.toNat] := atI_of r0 (List.getElem?_eq_getElem hlt)
  simp [F_law_pick, s_law_pick, hr, e]
theorem pickS_ok (ns : List Int) (h : ns.length ≤ 63) (n : Nat) (hn : n < 1000000) (z : Str) (hx : 0 < z.length) (hz : z.length ≤ 1000) : ∃ c, c ∈ z.cps.toList ∧ F_law_pick [.fz (intsD ns), townA n, .fz (.str z)] = .val (.str ⟨#[c]⟩) [.fz (intsD ns), townA (n + 1), .fz (.str z)] := by
  have hz' : z.length ≤ sizeLine := by rw [sizeLine_eq]; omega
  have hl : (0 : Int) < z.length := by omega
  obtain ⟨r, r0, r1, hr⟩ := draw_ok ns h n hn z.length hl
  have hlt : r.toNat < z.cps.toList.length := by simp [Str.length] at r1 ⊢; omega
  refine ⟨z.cps.toList[r.toNat], List.getElem_mem hlt, ?_⟩
  have e : atI z.cps.toList r = some z.cps.toList[r.toNat] := atI_of r0 (List.getElem?_eq_getElem hlt)
  have e2 : lenD (.str z) = some (.int z.length) := by show (if z.length ≤ sizeLine then _ else _) = _; rw [if_pos hz']
  simp [F_law_pick, s_law_pick, hr, e, e2, hz']
end Wk
set_option Elab.async false
set_option linter.all false
set_option maxRecDepth 100000
set_option maxHeartbeats 4000000
namespace Wk
open PySem PySem.Spec L2 DL
abbrev small : Str := "abcdefghijklmnopqrstuvwxyz"
/-- a word of the document's -/
structure Wd (z : Str) : Prop where
  lo : 1 ≤ z.cps.toList.length
  hi : z.cps.toList.length ≤ 8
  ok : ∀ c ∈ z.cps.toList, c ∈ small.cps.toList
theorem small_rng : ∀ c ∈ small.cps.toList, c < 1000 := by decide +kernel
theorem Wd.plain {z : Str} (h : Wd z) : Plain z := by
  unfold Plain PyData.strOk
  rw [← Array.all_toList]
  refine List.all_eq_true.mpr fun c hc => decide_eq_true ?_
  have := small_rng c (h.ok c hc); omega
theorem joinL_nil : ∀ ps : List (List Nat), TL.joinL [] ps = ps.flatten
  | [] => rfl
  | [p] => by simp [TL.joinL]
  | p :: q :: r => by rw [TL.joinL, joinL_nil (q :: r)]; simp
theorem join_signs (ys : List Str) (h : ∀ y ∈ ys, ∃ c, y = ⟨#[c]⟩ ∧ c ∈ small.cps.toList) : (∀ c ∈ (Txt.join "" ys).cps.toList, c ∈ small.cps.toList) ∧ (Txt.join "" ys).cps.toList.length = ys.length := by
  have e : (Txt.join "" ys).cps.toList = (ys.map TL.tl).flatten := by
    rw [TL.join_eq]
    have := TL.tl_join "" ys
    rw [show TL.tl "" = [] by decide +kernel, joinL_nil] at this
    exact this
  rw [e]
  clear e
  induction ys with
  | nil => exact ⟨by simp, rfl⟩
  | cons y ys ih =>
    obtain ⟨h1, h2⟩ := ih fun z hz => h z (.tail _ hz)
    obtain ⟨c, rfl, hc⟩ := h y (.head _)
    have e2 : TL.tl ⟨#[c]⟩ = [c] := rfl
    rw [List.map_cons, List.flatten_cons, e2]
    refine ⟨fun d hd => ?_, by simp [h2]⟩
    rcases List.mem_append.mp hd with hd | hd
    · rw [List.mem_singleton] at hd; rw [hd]; exact hc
    · exact h1 d hd
theorem good_loop (ns : List Int) (h : ns.length ≤ 63) : ∀ (ds acc : List D) (n : Nat), n + ds.length < 1000000 → acc.length + ds.length ≤ sizeLine →
    ∃ ys : List Str, (∀ y ∈ ys, ∃ c, y = ⟨#[c]⟩ ∧ c ∈ small.cps.toList) ∧ ys.length = ds.length ∧
      lcLoop (.nm 3) yesF (callF 3 F_law_pick (datA (varE 0) (refA 1 (datA (varE 2) nilA)))) [3] ds [.fz (intsD ns), townA n, .fz (.str small), .un] acc = .val (acc ++ ys.map D.str) [.fz (intsD ns), townA (n + ds.length), .fz (.str small), .un]
  | [], acc, n, _, _ => ⟨[], by simp, rfl, by simp [lcLoop]⟩
  | d :: ds, acc, n, h1, h2 => by
    rw [List.length_cons] at h1 h2
    obtain ⟨c, hc, hp⟩ := pickS_ok ns h n (by omega) small (by decide +kernel) (by decide +kernel)
    obtain ⟨ys, g1, g2, g3⟩ := good_loop ns h ds (acc ++ [.str ⟨#[c]⟩]) (n + 1) (by omega) (by simp; omega)
    refine ⟨⟨#[c]⟩ :: ys, fun y hy => ?_, by simp [g2], ?_⟩
    · cases hy with
      | head => exact ⟨c, rfl, hc⟩
      | tail _ hy => exact g1 y hy
    · have hz : acc.length < sizeLine := by omega
      unfold lcLoop
      simp [hp, hz]
      rw [g3]
      simp [Nat.add_assoc, Nat.add_comm, Nat.add_left_comm]
theorem good_ok (ns : List Int) (h : ns.length ≤ 63) (n : Nat) (hn : n < 900000) : ∃ z n', Wd z ∧ n ≤ n' ∧ n' ≤ n + 12 ∧ F_law_good [.fz (intsD ns), townA n] = .val (.str z) [.fz (intsD ns), townA n'] := by
  obtain ⟨r, r0, r1, hr⟩ := draw_ok ns h n (by omega) 15 (by decide)
  by_cases hr0 : 0 < r
  · obtain ⟨x, hx, hp⟩ := pickL_ok ns h (n + 1) (by omega) [.str "ore", .str "coal", .str "iron", .str "gear", .str "box", .str "oil"] (by simp)
    have hz : 6 ≤ sizeLine := by rw [sizeLine_eq]; decide
    have : ∃ z, x = .str z ∧ Wd z := by
      simp only [List.mem_cons, List.not_mem_nil, or_false] at hx
      rcases hx with rfl | rfl | rfl | rfl | rfl | rfl <;> exact ⟨_, rfl, by decide +kernel, by decide +kernel, by decide +kernel⟩
    obtain ⟨z, rfl, wz⟩ := this
    refine ⟨z, n + 2, wz, by omega, by omega, ?_⟩
    simp [F_law_good, s_law_good, hr, hr0, hz, hp]
  · obtain ⟨m, m0, m1, hm⟩ := draw_ok ns h (n + 1) (by omega) 8 (by decide)
    have hz0 : (0 : Nat) + (rangeD 0 (1 + m).toNat).length ≤ sizeLine := by rw [sizeLine_eq]; simp [rangeD]; omega
    obtain ⟨ys, g1, g2, g3⟩ := good_loop ns h (rangeD 0 (1 + m).toNat) [] (n + 1 + 1) (by simp [rangeD]; omega) hz0
    obtain ⟨j1, j2⟩ := join_signs ys g1
    have hl : (rangeD 0 (1 + m).toNat).length = (1 + m).toNat := by simp [rangeD]
    have hy : ys.length = (1 + m).toNat := g2.trans hl
    refine ⟨Txt.join "" ys, n + 1 + 1 + (1 + m).toNat, ⟨by rw [j2]; omega, by rw [j2]; omega, j1⟩, by omega, by omega, ?_⟩
    have hm1 : -(2 ^ 62) ≤ 1 + m ∧ 1 + m < 2 ^ 62 := by omega
    rw [hl] at g3
    have hj : joinO (.str "") (.lst (ys.map D.str)) = some (.str (Txt.join "" ys)) := by
      show (toStrs (ys.map D.str)).bind _ = _
      rw [toStrs_map]
      show (if _ then _ else _) = _
      rw [if_pos]
      have : (ys.map (·.length)).sum = ys.length := by
        clear j1 j2 g2 g3 hy
        induction ys with
        | nil => rfl
        | cons y ys ih =>
          obtain ⟨c, rfl, _⟩ := g1 y (.head _)
          rw [List.map_cons, List.sum_cons, ih fun z hz => g1 z (.tail _ hz), List.length_cons]
          show 1 + _ = _; omega
      have e0 : ("" : Str).length = 0 := by decide +kernel
      rw [this, e0, hy]; omega
    have hm2 : -4611686018427387904 ≤ 1 + m ∧ 1 + m < 4611686018427387904 := by omega
    simp only [List.nil_append] at g3
    simp [F_law_good, s_law_good, hr, hr0, hm, hm2, g3, hj]
end Wk
set_option Elab.async false
set_option linter.all false
set_option maxRecDepth 100000
set_option maxHeartbeats 4000000
namespace Wk
open PySem PySem.Spec L2 DL
def sideD (ps : List (Str × Int)) : D := .tup (ps.map fun p => .tup [.str p.1, .int p.2])
structure Side (lo : Nat) (ps : List (Str × Int)) : Prop where
  lo : lo ≤ ps.length
  hi : ps.length ≤ 3
  nd : (ps.map (·.1)).Nodup
  up : DLS.srt (ps.map (·.1)) = ps.map (·.1)
  wd : ∀ p ∈ ps, Wd p.1
  rng : ∀ p ∈ ps, 1 ≤ p.2 ∧ p.2 ≤ 20
def findA {α : Type} (ps : List (Str × α)) (w : Str) : Option α := (ps.find? fun p => decide (p.1 = w)).map (·.2)
theorem findA_mem {α : Type} {ps : List (Str × α)} {w : Str} (h : w ∈ ps.map (·.1)) : ∃ a, findA ps w = some a ∧ (w, a) ∈ ps := by
  unfold findA
  cases e : ps.find? fun p => decide (p.1 = w) with
  | none =>
    obtain ⟨p, hp, rfl⟩ := List.mem_map.mp h
    have := List.find?_eq_none.mp e p hp
    simp at this
  | some p =>
    have h1 := List.mem_of_find?_eq_some e
    have h2 := List.find?_some e
    have h2 : p.1 = w := of_decide_eq_true h2
    exact ⟨p.2, rfl, by rw [← h2]; exact h1⟩
theorem srt_idem (xs : List Str) : DLS.srt (DLS.srt xs) = DLS.srt xs := (DLS.srt_unique (List.Perm.refl _) (DLS.srt_up xs)).symm
theorem side_ok (ns : List Int) (h : ns.length ≤ 63) (lo : Nat) (hlo : lo ≤ 1) (n : Nat) (hn : n < 800000) : ∃ ps n', Side lo ps ∧ n ≤ n' ∧ n' ≤ n + 100 ∧ F_law_side [.fz (intsD ns), townA n, .fz (.int lo)] = .val (sideD ps) [.fz (intsD ns), townA n', .fz (.int lo)] := by
  obtain ⟨r, r0, r1, hr⟩ := draw_ok ns h n (by omega) (4 - lo) (by omega)
  have hlen : (rangeD 0 ((lo : Int) + r).toNat).length = ((lo : Int) + r).toNat := by simp [rangeD]
  have hb : ((lo : Int) + r).toNat ≤ 3 ∧ lo ≤ ((lo : Int) + r).toNat := by omega
  have key := for_inv (g := .nm 4) (b := seqS (putAt 3 (callF 2 F_law_good (datA (varE 0) (refA 1 nilA))) (callF 3 F_law_pick (datA (varE 0) (refA 1 (datA (mapO OD.dat (lstN (consL (conE (.int 1)) (consL (conE (.int 1)) (consL (conE (.int 2)) (consL (conE (.int 3)) (consL (conE (.int 20)) nilL)))))) ) nilA))))) nxS)
    (fun j ρ => ∃ ps n' kk, ρ = [AV.fz (intsD ns), townA n', .fz (.int lo), .ow false (.d (kvsD D.int ps)), kk, .un] ∧ (kk = .un ∨ ∃ d, kk = .fz d) ∧ n + 1 ≤ n' ∧ n' ≤ n + 1 + 20 * j ∧ (ps.map (·.1)).Nodup ∧ (∀ p ∈ ps, Wd p.1 ∧ 1 ≤ p.2 ∧ p.2 ≤ 20) ∧ ps.length ≤ j ∧ (0 < j → 1 ≤ ps.length))
    (rangeD 0 ((lo : Int) + r).toNat) 0 [AV.fz (intsD ns), townA (n + 1), .fz (.int lo), .ow false (.d []), .un, .un] ⟨[], n + 1, .un, rfl, .inl rfl, by omega, by omega, by simp, by simp, by simp, by simp⟩ ?_
  · obtain ⟨ρ', hf, ps, n', kk, rfl, hkk, a1, a2, nd, al, l1, l2⟩ := key
    rw [hlen] at a2 l1 l2
    simp only [Nat.zero_add] at a2 l1 l2
    have ext : ∀ w ∈ DLS.srt (ps.map (·.1)), ∃ m, (w, m) ∈ ps ∧ valD (kvsD D.int ps) (.inr w) = some (.int m) := fun w hw => by
      obtain ⟨m, _, hm⟩ := findA_mem ((DLS.srt_perm _).mem_iff.mp hw)
      exact ⟨m, hm, valD_kvs nd hm⟩
    let V : Str → Int := fun w => (findA ps w).getD 0
    have hV : ∀ w ∈ DLS.srt (ps.map (·.1)), (w, V w) ∈ ps ∧ valD (kvsD D.int ps) (.inr w) = some (.int (V w)) := fun w hw => by
      obtain ⟨m, e, hm⟩ := findA_mem ((DLS.srt_perm _).mem_iff.mp hw)
      have : V w = m := by show (findA ps w).getD 0 = m; rw [e]; rfl
      rw [this]; exact ⟨hm, valD_kvs nd hm⟩
    have hls : (DLS.srt (ps.map (·.1))).length = ps.length := by rw [(DLS.srt_perm _).length_eq, List.length_map]
    have hm : ((DLS.srt (ps.map (·.1))).map fun w => (w, V w)).map (·.1) = DLS.srt (ps.map (·.1)) := by rw [List.map_map]; exact List.map_id _
    refine ⟨(DLS.srt (ps.map (·.1))).map fun w => (w, V w), n', ⟨by rw [List.length_map, hls]; omega, by rw [List.length_map, hls]; omega, ?_, ?_, ?_, ?_⟩, by omega, by omega, ?_⟩
    · rw [hm]; exact (DLS.srt_perm _).nodup_iff.mpr nd
    · rw [hm]; exact srt_idem _
    · intro p hp
      obtain ⟨w, hw, rfl⟩ := List.mem_map.mp hp
      exact (al _ (hV w hw).1).1
    · intro p hp
      obtain ⟨w, hw, rfl⟩ := List.mem_map.mp hp
      exact (al _ (hV w hw).1).2
    · have hz : (2 : Nat) ≤ sizeLine := by rw [sizeLine_eq]; decide
      have hlc := lc_pure (g := .nm 5) (tt := yesF) (te := tupE (consL (varE 5) (consL (binF ixO (varR 3) (varR 5)) nilL))) (vs := [5]) (ρ := [AV.fz (intsD ns), townA n', .fz (.int lo), .ow false (.d (kvsD D.int ps)), kk, .un]) (fun _ => true)
        (fun d => match d with | .str w => .tup [.str w, .int (V w)] | _ => .non) ((DLS.srt (ps.map (·.1))).map D.str) [] (by rw [List.length_nil, List.length_map, hls, sizeLine_eq]; omega) ?_
      · have hi : -4611686018427387904 ≤ (lo : Int) + r ∧ (lo : Int) + r < 4611686018427387904 := by omega
        have e1 : (4 : Int) - (lo : Int) = 4 - lo := rfl
        have hk : keepA (some AV.un) = .un := rfl
        rw [List.nil_append, List.filter_eq_self.mpr (fun _ _ => rfl), List.map_map] at hlc
        have fin : (((DLS.srt (ps.map (·.1))).map fun w => (w, V w)).map fun p => D.tup [.str p.1, .int p.2]) = (DLS.srt (ps.map (·.1))).map ((fun d => match d with | .str w => D.tup [.str w, .int (V w)] | _ => .non) ∘ D.str) := by
          rw [List.map_map]; rfl
        unfold sideD
        rw [fin]
        have hz0 : 5 ≤ sizeLine := by rw [sizeLine_eq]; decide
        rcases hkk with rfl | ⟨d, rfl⟩ <;> simp [F_law_side, s_law_side, hr, hi, hf, skD_kvs, hlc] 
      · intro d hd
        obtain ⟨w, hw, rfl⟩ := List.mem_map.mp hd
        have := (hV w hw).2
        rcases hkk with rfl | ⟨d, rfl⟩ <;> simp [this, hz]
  · rintro j d ρ hd ⟨ps, n', kk, rfl, hkk, a1, a2, nd, al, l1, l2⟩
    have hj : j < 4 := by
      have := (List.getElem?_eq_some_iff.mp hd).1
      rw [hlen] at this; omega
    obtain ⟨x, hx, hp⟩ := pickL_ok ns h n' (by omega) [.int 1, .int 1, .int 2, .int 3, .int 20] (by simp)
    have : ∃ m, x = .int m ∧ 1 ≤ m ∧ m ≤ 20 := by
      simp only [List.mem_cons, List.not_mem_nil, or_false] at hx
      rcases hx with rfl | rfl | rfl | rfl | rfl <;> exact ⟨_, rfl, by decide, by decide⟩
    obtain ⟨m, rfl, m1, m2⟩ := this
    obtain ⟨z, n2, wz, b1, b2, hg⟩ := good_ok ns h (n' + 1) (by omega)
    have hz0 : 5 ≤ sizeLine := by rw [sizeLine_eq]; decide
    have hz1 : (kvsD D.int ps).length < sizeLine := by rw [kvsD_length, sizeLine_eq]; omega
    obtain ⟨c1, c2, c3⟩ := putA_length ps z m
    refine ⟨[AV.fz (intsD ns), townA n', .fz (.int lo), .ow false (.d (kvsD D.int ps)), .fz d, .un], [AV.fz (intsD ns), townA n2, .fz (.int lo), .ow false (.d (kvsD D.int (putA ps z m))), .fz d, .un], ?_, ?_, putA ps z m, n2, .fz d, rfl, .inr ⟨d, rfl⟩, by omega, by omega, putA_nodup nd, fun p hp => ?_, by omega, fun _ => c3⟩
    · rcases hkk with rfl | ⟨d, rfl⟩ <;> simp
    · rw [← putD_kvs]
      simp [hz0, hp, hg, hz1]
    · rcases putA_mem hp with rfl | hp
      · exact ⟨wz, m1, m2⟩
      · exact al p hp
end Wk
set_option Elab.async false
set_option linter.all false
set_option maxRecDepth 100000
set_option maxHeartbeats 4000000
namespace Wk
open PySem PySem.Spec L2 DL
structure Way where
  need : List (Str × Int)
  give : List (Str × Int)
  ticks : Int
  power : Int
def wayD (w : Way) : D := .tup [sideD w.need, sideD w.give, .int w.ticks, .int w.power]
def bookD (b : List (Str × Way)) : D := .dic (kvsD wayD b)
structure GWay (w : Way) : Prop where
  need : Side 0 w.need
  give : Side 1 w.give
  ticks : 1 ≤ w.ticks ∧ w.ticks ≤ 20
  power : 0 ≤ w.power ∧ w.power ≤ 50
structure Book (b : List (Str × Way)) : Prop where
  lo : 1 ≤ b.length
  hi : b.length ≤ 6
  nd : (b.map (·.1)).Nodup
  wd : ∀ p ∈ b, Wd p.1
  way : ∀ p ∈ b, GWay p.2
def namesL : List Str := ["dig", "melt", "a", "press", "zz", "make"]
theorem names_eq : namesL.map D.str = [.str "dig", .str "melt", .str "a", .str "press", .str "zz", .str "make"] := rfl
theorem wd_names : ∀ z ∈ namesL, Wd z := by
  intro z hz
  simp only [namesL, List.mem_cons, List.not_mem_nil, or_false] at hz
  rcases hz with rfl | rfl | rfl | rfl | rfl | rfl <;> exact ⟨by decide +kernel, by decide +kernel, by decide +kernel⟩
theorem rot_ok (r : Int) (h0 : 0 ≤ r) (h1 : r < 6) : ∃ L1 L2 : List Str, slO (.lst (namesL.map D.str)) (some r) none = some (.lst (L1.map D.str)) ∧ slO (.lst (namesL.map D.str)) none (some r) = some (.lst (L2.map D.str)) ∧ (L1 ++ L2).Nodup ∧ (∀ z ∈ L1 ++ L2, z ∈ namesL) ∧ (L1 ++ L2).length = 6 := by
  have : r = 0 ∨ r = 1 ∨ r = 2 ∨ r = 3 ∨ r = 4 ∨ r = 5 := by omega
  rcases this with rfl | rfl | rfl | rfl | rfl | rfl
  · exact ⟨namesL.drop 0, namesL.take 0, rfl, rfl, by decide +kernel, by decide +kernel, rfl⟩
  · exact ⟨namesL.drop 1, namesL.take 1, rfl, rfl, by decide +kernel, by decide +kernel, rfl⟩
  · exact ⟨namesL.drop 2, namesL.take 2, rfl, rfl, by decide +kernel, by decide +kernel, rfl⟩
  · exact ⟨namesL.drop 3, namesL.take 3, rfl, rfl, by decide +kernel, by decide +kernel, rfl⟩
  · exact ⟨namesL.drop 4, namesL.take 4, rfl, rfl, by decide +kernel, by decide +kernel, rfl⟩
  · exact ⟨namesL.drop 5, namesL.take 5, rfl, rfl, by decide +kernel, by decide +kernel, rfl⟩
theorem cut_take (xs : List D) (k : Int) (h0 : 0 ≤ k) : cutD xs none (some k) = xs.take k.toNat := by
  unfold cutD
  have e1 : HT.sIx xs.length 0 none = 0 := rfl
  have e2 : HT.sIx xs.length xs.length (some k) = min k.toNat xs.length := by
    unfold HT.sIx
    simp
    omega
  rw [e1, e2, List.drop_zero, Nat.sub_zero]
  by_cases h : k.toNat ≤ xs.length
  · rw [Nat.min_eq_left h]
  · rw [Nat.min_eq_right (by omega), List.take_of_length_le (Nat.le_refl _), List.take_of_length_le (by omega)]
theorem putA_new {α : Type} {ps : List (Str × α)} {z : Str} {a : α} (h : z ∉ ps.map (·.1)) : putA ps z a = ps ++ [(z, a)] := by unfold putA; rw [if_neg h]
theorem book_ok (ns : List Int) (h : ns.length ≤ 63) (n : Nat) (hn : n < 700000) (most : Int) (hm0 : 1 ≤ most) (hm1 : most ≤ 6) : ∃ b n', Book b ∧ n ≤ n' ∧ n' ≤ n + 2000 ∧ F_law_book [.fz (intsD ns), townA n, .fz (.int most)] = .val (bookD b) [.fz (intsD ns), townA n', .fz (.int most)] := by
  obtain ⟨r, r0, r1, hr⟩ := draw_ok ns h n (by omega) 6 (by decide)
  obtain ⟨m, m0, m1, hm⟩ := draw_ok ns h (n + 1) (by omega) most (by omega)
  obtain ⟨L1, L2, s1, s2, nd, wd, hl⟩ := rot_ok r r0 r1
  have hk : 1 ≤ (1 + m).toNat ∧ (1 + m).toNat ≤ 6 := by omega
  have hT : ((L1 ++ L2).take (1 + m).toNat).length = (1 + m).toNat := by rw [List.length_take, hl]; omega
  have ndT : ((L1 ++ L2).take (1 + m).toNat).Nodup := nd.sublist (List.take_sublist _ _)
  generalize hL : (L1 ++ L2).take (1 + m).toNat = L at hT ndT
  have wdL : ∀ z ∈ L, Wd z := fun z hz => wd_names z (wd z (List.mem_of_mem_take (by rw [hL]; exact hz)))
  let body : Ev → SOut := seqS (setS 7 (callF 3 F_law_pick (datA (varE 0) (refA 1 (datA (mapO OD.dat (lstN (consL (conE (.int 1)) (consL (conE (.int 1)) (consL (conE (.int 2)) (consL (conE (.int 5)) (consL (conE (.int 20)) nilL)))))) ) nilA))))) (seqS (setS 8 (callF 3 F_law_pick (datA (varE 0) (refA 1 (datA (mapO OD.dat (lstN (consL (conE (.int 0)) (consL (conE (.int 1)) (consL (conE (.int 2)) (consL (conE (.int 7)) (consL (conE (.int 50)) nilL)))))) ) nilA))))) (seqS (putAt 3 (varE 6) (tupE (consL (callF 3 F_law_side (datA (varE 0) (refA 1 (datA (conE (.int 0)) nilA)))) (consL (callF 3 F_law_side (datA (varE 0) (refA 1 (datA (conE (.int 1)) nilA)))) (consL (varE 7) (consL (varE 8) nilL)))))) nxS))
  have key := for_inv (g := .nm 6) (b := body)
    (fun j ρ => ∃ b n' k6 k7 k8, ρ = [AV.fz (intsD ns), townA n', .fz (.int most), .ow false (.d (kvsD wayD b)), .fz (.lst (namesL.map D.str)), .fz (.int r), k6, k7, k8] ∧ (k6 = .un ∨ ∃ d, k6 = .fz d) ∧ (k7 = .un ∨ ∃ d, k7 = .fz d) ∧ (k8 = .un ∨ ∃ d, k8 = .fz d) ∧ n + 2 ≤ n' ∧ n' ≤ n + 2 + 300 * j ∧ b.map (·.1) = L.take j ∧ (∀ p ∈ b, GWay p.2))
    (L.map D.str) 0 [AV.fz (intsD ns), townA (n + 2), .fz (.int most), .ow false (.d []), .fz (.lst (namesL.map D.str)), .fz (.int r), .un, .un, .un] ⟨[], n + 2, .un, .un, .un, rfl, .inl rfl, .inl rfl, .inl rfl, by omega, by omega, rfl, by simp⟩ ?_
  · obtain ⟨ρ', hf, b, n', k6, k7, k8, rfl, h6, h7, h8, a1, a2, hb, hw⟩ := key
    simp only [Nat.zero_add, List.length_map, hT] at a2 hb
    rw [List.take_of_length_le (by omega)] at hb
    have hbl : b.length = (1 + m).toNat := by rw [← hT, ← hb, List.length_map]
    refine ⟨b, n', ⟨by omega, by omega, by rw [hb]; exact ndT, fun p hp => wdL _ (by rw [← hb]; exact List.mem_map.mpr ⟨p, hp, rfl⟩), hw⟩, by omega, by omega, ?_⟩
    have hz6 : 6 ≤ sizeLine := by rw [sizeLine_eq]; decide
    have s1' : slO (.lst [.str "dig", .str "melt", .str "a", .str "press", .str "zz", .str "make"]) (some r) none = some (.lst (L1.map D.str)) := s1
    have s2' : slO (.lst [.str "dig", .str "melt", .str "a", .str "press", .str "zz", .str "make"]) none (some r) = some (.lst (L2.map D.str)) := s2
    have s3 : addO (.lst (L1.map D.str)) (.lst (L2.map D.str)) = some (.lst ((L1 ++ L2).map D.str)) := by
      rw [add_strs _ _ (by rw [List.length_map, List.length_map, ← List.length_append, hl]; exact hz6), List.map_append]
    have s4 : slO (.lst ((L1 ++ L2).map D.str)) none (some (1 + m)) = some (.lst (L.map D.str)) := by
      show some (D.lst (cutD _ none (some (1 + m)))) = _
      rw [cut_take _ _ (by omega), ← List.map_take, hL]
    rw [List.map_append] at s3 s4
    have hf' : forS (.nm 6) body (L.map D.str) [AV.fz (intsD ns), townA (n + 1 + 1), .fz (.int most), .ow false (.d []), .fz (.lst [.str "dig", .str "melt", .str "a", .str "press", .str "zz", .str "make"]), .fz (.int r), .un, .un, .un] = _ := hf
    show bodyF 3 9 s_law_book _ = _
    simp only [body] at hf'
    simp [s_law_book, hz6, hr, s1', s2', s3, hm, s4, hf', bookD]
  · rintro j d ρ hd ⟨b, n', k6, k7, k8, rfl, h6, h7, h8, a1, a2, hb, hw⟩
    simp only [Nat.zero_add] at a2 hb ⊢
    have hj : j < L.length := by
      have := (List.getElem?_eq_some_iff.mp hd).1
      simpa using this
    have hj6 : j < 6 := by omega
    obtain ⟨z, hz, rfl⟩ : ∃ z, L[j]? = some z ∧ D.str z = d := by
      rw [List.getElem?_map] at hd
      cases e : L[j]? with
      | none => rw [e] at hd; cases hd
      | some z => rw [e] at hd; exact ⟨z, rfl, Option.some.inj hd⟩
    obtain ⟨x, hx, hp⟩ := pickL_ok ns h n' (by omega) [.int 1, .int 1, .int 2, .int 5, .int 20] (by simp)
    have : ∃ m, x = .int m ∧ 1 ≤ m ∧ m ≤ 20 := by
      simp only [List.mem_cons, List.not_mem_nil, or_false] at hx
      rcases hx with rfl | rfl | rfl | rfl | rfl <;> exact ⟨_, rfl, by decide, by decide⟩
    obtain ⟨t, rfl, t1, t2⟩ := this
    obtain ⟨x, hx, hp2⟩ := pickL_ok ns h (n' + 1) (by omega) [.int 0, .int 1, .int 2, .int 7, .int 50] (by simp)
    have : ∃ m, x = .int m ∧ 0 ≤ m ∧ m ≤ 50 := by
      simp only [List.mem_cons, List.not_mem_nil, or_false] at hx
      rcases hx with rfl | rfl | rfl | rfl | rfl <;> exact ⟨_, rfl, by decide, by decide⟩
    obtain ⟨q, rfl, q1, q2⟩ := this
    obtain ⟨sa, n3, ga, b1, b2, hsa⟩ := side_ok ns h 0 (by omega) (n' + 1 + 1) (by omega)
    obtain ⟨sb, n4, gb, c1, c2, hsb⟩ := side_ok ns h 1 (by omega) n3 (by omega)
    have hz0 : 5 ≤ sizeLine := by rw [sizeLine_eq]; decide
    have hz4 : 4 ≤ sizeLine := by rw [sizeLine_eq]; decide
    have hbl : b.length ≤ j := by have := congrArg List.length hb; rw [List.length_map, List.length_take] at this; omega
    have hz1 : (kvsD wayD b).length < sizeLine := by rw [kvsD_length, sizeLine_eq]; omega
    have hnew : z ∉ b.map (·.1) := by
      rw [hb]
      intro hm
      obtain ⟨i, hi, he⟩ := List.getElem_of_mem hm
      rw [List.length_take] at hi
      rw [List.getElem_take] at he
      obtain ⟨hj', hz'⟩ := List.getElem?_eq_some_iff.mp hz
      have := (List.getElem_inj ndT).mp (he.trans hz'.symm)
      omega
    have hsa' : F_law_side [.fz (intsD ns), townA (n' + 1 + 1), .fz (.int 0)] = .val (sideD sa) [.fz (intsD ns), townA n3, .fz (.int 0)] := hsa
    have hsb' : F_law_side [.fz (intsD ns), townA n3, .fz (.int 1)] = .val (sideD sb) [.fz (intsD ns), townA n4, .fz (.int 1)] := hsb
    refine ⟨[AV.fz (intsD ns), townA n', .fz (.int most), .ow false (.d (kvsD wayD b)), .fz (.lst (namesL.map D.str)), .fz (.int r), .fz (.str z), k7, k8], [AV.fz (intsD ns), townA n4, .fz (.int most), .ow false (.d (kvsD wayD (putA b z ⟨sa, sb, t, q⟩))), .fz (.lst (namesL.map D.str)), .fz (.int r), .fz (.str z), .fz (.int t), .fz (.int q)], ?_, ?_, putA b z ⟨sa, sb, t, q⟩, n4, _, _, _, rfl, .inr ⟨_, rfl⟩, .inr ⟨_, rfl⟩, .inr ⟨_, rfl⟩, by omega, by omega, ?_, fun p hp => ?_⟩
    · rcases h6 with rfl | ⟨_, rfl⟩ <;> simp
    · rw [← putD_kvs]
      rcases h7 with rfl | ⟨_, rfl⟩ <;> rcases h8 with rfl | ⟨_, rfl⟩ <;> simp [body, hz0, hz4, hp, hp2, hsa', hsb', hz1, wayD]
    · rw [putA_new hnew, List.map_append, hb, List.take_add_one, hz]; rfl
    · rcases putA_mem hp with rfl | hp
      · exact ⟨ga, gb, ⟨t1, t2⟩, ⟨q1, q2⟩⟩
      · exact hw p hp
end Wk
set_option Elab.async false
set_option linter.all false
set_option maxRecDepth 100000
set_option maxHeartbeats 4000000
namespace Wk
open PySem PySem.Spec L2 DL
abbrev pD (p : Str × Int) : D := .tup [.str p.1, .int p.2]
theorem sideD_eq (s : List (Str × Int)) : sideD s = .tup (s.map pD) := rfl
/-- a way's goods, taken then given -/
def wordsW (w : Way) : List Str := (w.need ++ w.give).map (·.1)
def goodsL (b : List (Str × Way)) : List Str := (b.map fun p => wordsW p.2).flatten
def goodsB (b : List (Str × Way)) : List Str := DLS.srtSet (goodsL b)
theorem wordsW_len {w : Way} (h : GWay w) : (wordsW w).length ≤ 6 := by
  have := h.need.hi; have := h.give.hi
  simp [wordsW]; omega
theorem goodsL_len {b : List (Str × Way)} (h : ∀ p ∈ b, GWay p.2) : (goodsL b).length ≤ 6 * b.length := by
  induction b with
  | nil => simp [goodsL]
  | cons p b ih =>
    have h1 := ih fun q hq => h q (.tail _ hq)
    have h2 := wordsW_len (h p (.head _))
    simp only [goodsL, List.map_cons, List.flatten_cons, List.length_append, List.length_cons] at h1 ⊢
    omega
theorem goodsL_wd {b : List (Str × Way)} (h : ∀ p ∈ b, GWay p.2) : ∀ z ∈ goodsL b, Wd z := by
  intro z hz
  obtain ⟨l, hl, hz⟩ := List.mem_flatten.mp hz
  obtain ⟨p, hp, rfl⟩ := List.mem_map.mp hl
  obtain ⟨q, hq, rfl⟩ := List.mem_map.mp hz
  rcases List.mem_append.mp hq with hq | hq
  · exact (h p hp).need.wd q hq
  · exact (h p hp).give.wd q hq
theorem goodsB_mem {b : List (Str × Way)} {z : Str} : z ∈ goodsB b ↔ z ∈ goodsL b := by
  unfold goodsB DLS.srtSet
  rw [(DLS.srt_perm _).mem_iff, DLS.dd_mem]
theorem srtSet_nodup (xs : List Str) : (DLS.srtSet xs).Nodup := (DLS.srt_perm _).nodup_iff.mpr (DLS.dd_nodup xs)
theorem srtSet_mem {xs : List Str} {z : Str} : z ∈ DLS.srtSet xs ↔ z ∈ xs := by unfold DLS.srtSet; rw [(DLS.srt_perm _).mem_iff, DLS.dd_mem]
theorem srtSet_up (xs : List Str) : (DLS.srtSet xs).Pairwise (fun a b => DLS.leS a b = true) := DLS.srt_up _
theorem srtSet_fix {xs : List Str} (nd : xs.Nodup) (up : xs.Pairwise (fun a b => DLS.leS a b = true)) : DLS.srtSet xs = xs := (DLS.srtSet_unique nd (fun x => Iff.rfl) up).symm
theorem srtSet_eq {xs ys : List Str} (h : ∀ x, x ∈ xs ↔ x ∈ ys) : DLS.srtSet xs = DLS.srtSet ys := DLS.srtSet_unique (srtSet_nodup xs) (fun x => srtSet_mem.trans (h x)) (srtSet_up xs)
theorem srt_eq {xs ys : List Str} (nd : xs.Nodup) (h : ∀ x, x ∈ xs ↔ x ∈ ys) : DLS.srt xs = DLS.srtSet ys := DLS.srtSet_unique ((DLS.srt_perm xs).nodup_iff.mpr nd) (fun x => (DLS.srt_perm xs).mem_iff.trans (h x)) (DLS.srt_up xs)
theorem way_at {b : List (Str × Way)} (nd : (b.map (·.1)).Nodup) {z : Str} {w : Way} (h : (z, w) ∈ b) : ixO (.dic (kvsD wayD b)) (.str z) = some (wayD w) := get_of nd h
theorem itP (s : List (Str × Int)) : itD (sideD s) = some (s.map pD) := rfl
theorem add_sides (a b : List (Str × Int)) (h : a.length + b.length ≤ 1000) : addO (sideD a) (sideD b) = some (sideD (a ++ b)) := by
  rw [sideD_eq, sideD_eq, sideD_eq, add_tups _ _ (by rw [List.length_map, List.length_map, sizeLine_eq]; omega), List.map_append]
theorem need_len {w : Way} (h : GWay w) : w.need.length + w.give.length ≤ 6 := by have := h.need.hi; have := h.give.hi; omega
theorem at_of {b : List (Str × Way)} {j : Nat} {d : D} (hd : ((b.map (·.1)).map D.str)[j]? = some d) : ∃ z w, b[j]? = some (z, w) ∧ (z, w) ∈ b ∧ d = .str z := by
  rw [List.map_map, List.getElem?_map] at hd
  cases e : b[j]? with
  | none => rw [e] at hd; cases hd
  | some p => rw [e] at hd; exact ⟨p.1, p.2, rfl, List.mem_of_getElem? e, (Option.some.inj hd).symm⟩
theorem goodsL_take {b : List (Str × Way)} {j : Nat} {z : Str} {w : Way} (h : b[j]? = some (z, w)) : goodsL (b.take (j + 1)) = goodsL (b.take j) ++ wordsW w := by
  unfold goodsL
  rw [List.take_add_one, h, List.map_append, List.flatten_append]
  simp
theorem lgoods_ok {b : List (Str × Way)} (hb : Book b) : ∃ as, F_law_goods [.fz (bookD b)] = .val (.lst ((goodsB b).map D.str)) as := by
  have hlen := goodsL_len hb.way
  have hb6 := hb.hi
  let body : Ev → SOut := seqS (setS 1 (binF addO (varR 1) (datO (mapO OD.dat (lcF (itF (binF addO (datO (binF ixO (datO (binF ixO (varR 0) (varR 2))) (datO (conE (.int 0))))) (datO (binF ixO (datO (binF ixO (varR 0) (varR 2))) (datO (conE (.int 1))))))) (.tp [3, 4]) yesF (varE 3) [3, 4]))))) nxS
  have key := for_inv (g := .nm 2) (b := body) (fun j ρ => ∃ k2, ρ = [AV.fz (bookD b), .fz (.lst ((goodsL (b.take j)).map D.str)), k2, .un, .un] ∧ (k2 = .un ∨ ∃ d, k2 = .fz d))
    ((b.map (·.1)).map D.str) 0 [AV.fz (bookD b), .fz (.lst []), .un, .un, .un] ⟨.un, rfl, .inl rfl⟩ ?_
  · obtain ⟨ρ', hf, k2, rfl, hk⟩ := key
    simp only [Nat.zero_add, List.length_map, List.take_length] at hf
    have hz : 0 ≤ sizeLine := Nat.zero_le _
    have hss := sortSet_strs (goodsL b) (by omega)
    have hkk : lkD (bookD b) = some (.l ((b.map (·.1)).map D.str)) := by unfold bookD; rw [e_lkD, keys_kvs]
    simp only [body] at hf
    refine ⟨[.fz (bookD b)], ?_⟩
    show bodyF 1 5 s_law_goods _ = _
    simp [s_law_goods, hkk, hf, hss, goodsB, -List.map_map, -List.map_append]
  · rintro j d ρ hd ⟨k2, rfl, hk⟩
    obtain ⟨z, w, hj, hm, rfl⟩ := at_of hd
    have hwg : GWay w := hb.way _ hm
    simp only [Nat.zero_add]
    have hw := way_at hb.nd hm
    have ha := add_sides w.need w.give (by have := need_len hwg; omega)
    have h1 : (wordsW w).length ≤ 6 := wordsW_len hwg
    have h2 : (goodsL (b.take j)).length ≤ 36 := by
      have := goodsL_len (b := b.take j) fun p hp => hb.way p (List.mem_of_mem_take hp)
      have : (b.take j).length ≤ b.length := by rw [List.length_take]; omega
      omega
    have hlc := lc_pure (g := .tp [3, 4]) (tt := yesF) (te := varE 3) (vs := [3, 4]) (ρ := [AV.fz (bookD b), .fz (.lst ((goodsL (b.take j)).map D.str)), .fz (.str z), .un, .un]) (fun _ => true) (fun d => match d with | .tup (a :: _) => a | _ => .non) ((w.need ++ w.give).map pD) [] (by simp [sizeLine_eq]; have := need_len hwg; omega)
      (fun d hd => by
        obtain ⟨p, hp, rfl⟩ := List.mem_map.mp hd
        simp)
    rw [List.nil_append, List.filter_eq_self.mpr (fun _ _ => rfl), List.map_map] at hlc
    have fin : (w.need ++ w.give).map ((fun d => match d with | .tup (a :: _) => a | _ => .non) ∘ pD) = (wordsW w).map D.str := by
      unfold wordsW; rw [List.map_map]; rfl
    rw [fin] at hlc
    have had := add_strs ((goodsL (b.take j)).map D.str) ((wordsW w).map D.str) (by rw [List.length_map, List.length_map, sizeLine_eq]; omega)
    rw [← List.map_append, ← goodsL_take hj] at had
    refine ⟨[AV.fz (bookD b), .fz (.lst ((goodsL (b.take j)).map D.str)), .fz (.str z), .un, .un], [AV.fz (bookD b), .fz (.lst ((goodsL (b.take (j + 1))).map D.str)), .fz (.str z), .un, .un], ?_, ?_, .fz (.str z), rfl, .inr ⟨_, rfl⟩⟩
    · rcases hk with rfl | ⟨_, rfl⟩ <;> simp
    · have hw' : ixO (bookD b) (.str z) = some (wayD w) := hw
      simp [body, hw', wayD, ha, itP, hlc, had, -List.map_map, -List.map_append]
end Wk
set_option Elab.async false
set_option linter.all false
set_option maxRecDepth 100000
set_option maxHeartbeats 4000000
namespace Wk
open PySem PySem.Spec L2 DL
structure Raws (rs : List Str) : Prop where
  len : rs.length ≤ 20
  wd : ∀ z ∈ rs, Wd z
  fix : DLS.srtSet rs = rs
theorem cut_drop (xs : List D) (k : Int) (h0 : 0 ≤ k) : cutD xs (some k) none = xs.drop k.toNat := by
  unfold cutD
  have e1 : HT.sIx xs.length xs.length none = xs.length := rfl
  have e2 : HT.sIx xs.length 0 (some k) = min k.toNat xs.length := by
    show (if k < 0 then (k + (xs.length : Int)).toNat else min k.toNat xs.length) = _
    rw [if_neg (by omega)]
  rw [e1, e2]
  by_cases h : k.toNat ≤ xs.length
  · rw [Nat.min_eq_left h, List.take_of_length_le (by rw [List.length_drop]; omega)]
  · rw [Nat.min_eq_right (by omega), List.drop_of_length_le (Nat.le_refl _), List.drop_of_length_le (by omega)]; simp
theorem raws_loop (ns : List Int) (h : ns.length ≤ 63) (bk : D) : ∀ (ws : List Str) (acc : List D) (n : Nat), n + ws.length < 1000000 → acc.length + ws.length ≤ sizeLine →
    ∃ ys : List Str, (∀ y ∈ ys, y ∈ ws) ∧ ys.length ≤ ws.length ∧ lcLoop (.nm 4) (tstF (binF eqO (datO (callF 3 F_law_draw (datA (varE 0) (refA 1 (datA (conE (.int 4)) nilA))))) (datO (conE (.int 0))))) (varE 4) [4] (ws.map D.str) [.fz (intsD ns), townA n, .fz bk, .un, .un] acc =
      .val (acc ++ ys.map D.str) [.fz (intsD ns), townA (n + ws.length), .fz bk, .un, .un]
  | [], acc, n, _, _ => ⟨[], by simp, by simp, by simp [lcLoop]⟩
  | w :: ws, acc, n, h1, h2 => by
    rw [List.length_cons] at h1 h2
    obtain ⟨r, r0, r1, hr⟩ := draw_ok ns h n (by omega) 4 (by decide)
    have hz : acc.length < sizeLine := by omega
    by_cases hr0 : r = 0
    · obtain ⟨ys, g1, g2, g3⟩ := raws_loop ns h bk ws (acc ++ [.str w]) (n + 1) (by omega) (by simp; omega)
      refine ⟨w :: ys, fun y hy => ?_, by simp; omega, ?_⟩
      · cases hy with
        | head => exact .head _
        | tail _ hy => exact .tail _ (g1 y hy)
      · rw [List.map_cons]
        unfold lcLoop
        simp [hr, hr0, hz]
        rw [g3]
        simp [Nat.add_assoc, Nat.add_comm, Nat.add_left_comm]
    · obtain ⟨ys, g1, g2, g3⟩ := raws_loop ns h bk ws acc (n + 1) (by omega) (by omega)
      refine ⟨ys, fun y hy => .tail _ (g1 y hy), by simp; omega, ?_⟩
      rw [List.map_cons]
      unfold lcLoop
      simp [hr, hr0, hz]
      rw [g3]
      simp [Nat.add_assoc, Nat.add_comm, Nat.add_left_comm]
theorem take_fix {S : List Str} (h : DLS.srtSet S = S) (k : Nat) : DLS.srtSet (S.take k) = S.take k := by
  have nd : S.Nodup := by rw [← h]; exact srtSet_nodup S
  have up : S.Pairwise (fun a b => DLS.leS a b = true) := by rw [← h]; exact srtSet_up S
  exact srtSet_fix (nd.sublist (List.take_sublist _ _)) (up.sublist (List.take_sublist _ _))
theorem srtSet_idem (xs : List Str) : DLS.srtSet (DLS.srtSet xs) = DLS.srtSet xs := srtSet_fix (srtSet_nodup xs) (srtSet_up xs)
theorem srtSet_len (xs : List Str) : (DLS.srtSet xs).length ≤ xs.length := DLS.srtSet_length xs
def two : List Str := ["coal", "ore"]
theorem raws_ok (ns : List Int) (h : ns.length ≤ 63) (n : Nat) (hn : n < 700000) {b : List (Str × Way)} (hb : Book b) : ∃ rs n', Raws rs ∧ n ≤ n' ∧ n' ≤ n + 100 ∧ F_law_raws [.fz (intsD ns), townA n, .fz (bookD b)] = .val (.lst (rs.map D.str)) [.fz (intsD ns), townA n', .fz (bookD b)] := by
  obtain ⟨as, hg⟩ := lgoods_ok hb
  have hl1 := goodsL_len hb.way
  have hb6 := hb.hi
  have hl2 : (goodsB b).length ≤ 36 := by have := srtSet_len (goodsL b); unfold goodsB; omega
  obtain ⟨ys, g1, g2, g3⟩ := raws_loop ns h (bookD b) (goodsB b) [] n (by omega) (by rw [List.length_nil, sizeLine_eq]; omega)
  obtain ⟨r, r0, r1, hr⟩ := draw_ok ns h (n + (goodsB b).length) (by omega) 3 (by decide)
  have wy : ∀ y ∈ ys, Wd y := fun y hy => goodsL_wd hb.way y (goodsB_mem.mp (g1 y hy))
  have wc : Wd "coal" := ⟨by decide +kernel, by decide +kernel, by decide +kernel⟩
  have wo : Wd "ore" := ⟨by decide +kernel, by decide +kernel, by decide +kernel⟩
  let S := DLS.srtSet ((two ++ ys).drop r.toNat)
  have hS : S.length ≤ 38 := by
    refine Nat.le_trans (srtSet_len _) ?_
    rw [List.length_drop, List.length_append]; simp [two]; omega
  refine ⟨S.take 20, n + (goodsB b).length + 1, ⟨by rw [List.length_take]; omega, fun z hz => ?_, take_fix (srtSet_idem _) 20⟩, by omega, by omega, ?_⟩
  · have := List.mem_of_mem_drop (srtSet_mem.mp (List.mem_of_mem_take hz))
    rcases List.mem_append.mp this with hz | hz
    · simp only [two, List.mem_cons, List.not_mem_nil, or_false] at hz
      rcases hz with rfl | rfl
      · exact wc
      · exact wo
    · exact wy z hz
  · have hz2 : 2 ≤ sizeLine := by rw [sizeLine_eq]; decide
    have a1 : addO (.lst [.str "coal", .str "ore"]) (.lst (ys.map D.str)) = some (.lst ((two ++ ys).map D.str)) := by
      rw [List.map_append]; exact add_strs _ _ (by simp [sizeLine_eq]; omega)
    have a2 : slO (.lst ((two ++ ys).map D.str)) (some r) none = some (.lst (((two ++ ys).drop r.toNat).map D.str)) := by
      show some (D.lst (cutD _ (some r) none)) = _
      rw [cut_drop _ _ r0, ← List.map_drop]
    have a3 := sortSet_strs ((two ++ ys).drop r.toNat) (by rw [List.length_drop, List.length_append]; simp [two]; omega)
    have a4 : slO (.lst (S.map D.str)) none (some 20) = some (.lst ((S.take 20).map D.str)) := by
      show some (D.lst (cutD _ none (some 20))) = _
      rw [cut_take _ _ (by decide), ← List.map_take]; rfl
    have a3' : sortSetD (.lst (((two ++ ys).drop r.toNat).map D.str)) = some (.l (S.map D.str)) := a3
    rw [List.nil_append] at g3
    show bodyF 3 5 s_law_raws _ = _
    generalize S = S at a3' a4 ⊢
    generalize (two ++ ys) = Y at a1 a2 a3' ⊢
    simp [s_law_raws, hz2, hg, g3, a1, a2, hr, a3', a4, -List.map_drop, -List.map_take, -List.map_append]
end Wk
set_option Elab.async false
set_option linter.all false
set_option maxRecDepth 100000
set_option maxHeartbeats 4000000
namespace Wk
open PySem PySem.Spec L2 DL
theorem whole_ok {i lo hi : Int} (h1 : lo ≤ i) (h2 : i ≤ hi) : ∃ as, F_is_whole [.fz (.int i), .fz (.int lo), .fz (.int hi)] = .val (.bl true) as := by
  refine ⟨[.fz (.int i), .fz (.int lo), .fz (.int hi)], ?_⟩
  simp [F_is_whole, s_is_whole, h1, h2]
theorem word_ok {z : Str} (h : Wd z) : ∃ as, F_is_word [.fz (.str z)] = .val (.bl true) as := by
  refine ⟨[.fz (.str z)], ?_⟩
  have hl : z.length = z.cps.toList.length := by simp [Str.length]
  have h1 := h.lo
  have h2 := h.hi
  have hz : z.length ≤ sizeLine := by rw [sizeLine_eq]; omega
  have hlc := lc_pure (g := .nm 1) (tt := yesF) (te := binF inA (varR 1) (datO (conE (.str "abcdefghijklmnopqrstuvwxyz")))) (vs := [1]) (ρ := [.fz (.str z), .un]) (fun _ => true) (fun _ => .bl true) (z.cps.toList.map fun c => .str ⟨#[c]⟩) [] (by rw [List.length_nil, List.length_map, sizeLine_eq]; omega)
    (fun d hd => by
      obtain ⟨c, hc, rfl⟩ := List.mem_map.mp hd
      have hs := h.ok c hc
      have e : inA (.str ⟨#[c]⟩) (.str "abcdefghijklmnopqrstuvwxyz") = some (.bl true) := by rw [in_sign]; exact congrArg _ (congrArg _ (decide_eq_true hs))
      refine ⟨[.fz (.str z), .fz (.str ⟨#[c]⟩)], ?_⟩
      simp [e])
  rw [List.nil_append, List.filter_eq_self.mpr (fun _ _ => rfl), List.map_map] at hlc
  have ha : allD (.lst (z.cps.toList.map ((fun _ => D.bl true) ∘ fun c => D.str ⟨#[c]⟩))) = some (.bl true) := all_map fun _ _ => rfl
  have hr1 : (1 : Int) ≤ z.length := by omega
  have hr2 : (z.length : Int) ≤ 8 := by omega
  simp only [F_is_word, s_is_word]
  simp [len_str hz, hr1, hr2, hlc, ha, -List.map_map, -List.map_const_fun]
theorem side_true {lo : Nat} {s : List (Str × Int)} (h : Side lo s) : ∃ as, F_is_side [.fz (sideD s), .fz (.int lo)] = .val (.bl true) as := by
  have h1 := h.lo
  have h2 := h.hi
  have hz : s.length ≤ sizeLine := by rw [sizeLine_eq]; omega
  have l1 := lc_pure (g := .nm 2) (tt := yesF) (te := andE (unF (isiD "tuple") (varR 2)) (binF eqO (datO (unF lenD (varR 2))) (datO (conE (.int 2))))) (vs := [2]) (ρ := [.fz (sideD s), .fz (.int lo), .un, .un]) (fun _ => true) (fun _ => .bl true) (s.map pD) [] (by simpa using hz)
    (fun d hd => by
      obtain ⟨p, hp, rfl⟩ := List.mem_map.mp hd
      simp)
  have l2 := lc_pure (g := .nm 2) (tt := yesF) (te := andE (callF 1 F_is_word (datA (binF ixO (varR 2) (datO (conE (.int 0)))) nilA)) (callF 3 F_is_whole (datA (binF ixO (varR 2) (datO (conE (.int 1)))) (datA (conE (.int 1)) (datA (conE (.int 20)) nilA))))) (vs := [2]) (ρ := [.fz (sideD s), .fz (.int lo), .un, .un]) (fun _ => true) (fun _ => .bl true) (s.map pD) [] (by simpa using hz)
    (fun d hd => by
      obtain ⟨p, hp, rfl⟩ := List.mem_map.mp hd
      obtain ⟨as, hw⟩ := word_ok (h.wd p hp)
      obtain ⟨as2, hv⟩ := whole_ok (h.rng p hp).1 (h.rng p hp).2
      simp [hw, hv])
  have l3 := lc_pure (g := .nm 2) (tt := yesF) (te := binF ixO (varR 2) (datO (conE (.int 0)))) (vs := [2]) (ρ := [.fz (sideD s), .fz (.int lo), .un, .un]) (fun _ => true) (fun d => match d with | .tup (a :: _) => a | _ => .non) (s.map pD) [] (by simpa using hz)
    (fun d hd => by
      obtain ⟨p, hp, rfl⟩ := List.mem_map.mp hd
      simp)
  rw [List.nil_append, List.filter_eq_self.mpr (fun _ _ => rfl), List.map_map] at l1 l2 l3
  have e3 : s.map ((fun d => match d with | .tup (a :: _) => a | _ => D.non) ∘ pD) = (s.map (·.1)).map D.str := by rw [List.map_map]; rfl
  rw [e3] at l3
  have ha : allD (.lst (s.map ((fun _ => D.bl true) ∘ pD))) = some (.bl true) := all_map fun _ _ => rfl
  have hs := sortSet_strs (s.map (·.1)) (by rw [List.length_map]; omega)
  have hu : DLS.srtSet (s.map (·.1)) = s.map (·.1) := srtSet_fix h.nd (by rw [← h.up]; exact DLS.srt_up _)
  rw [hu] at hs
  have he := eq_strs (s.map (·.1)) (s.map (·.1)) (fun z hz => by obtain ⟨p, hp, rfl⟩ := List.mem_map.mp hz; exact (h.wd p hp).plain) (fun z hz => by obtain ⟨p, hp, rfl⟩ := List.mem_map.mp hz; exact (h.wd p hp).plain)
  have hr1 : (lo : Int) ≤ s.length := by omega
  have hr2 : (s.length : Int) ≤ 3 := by omega
  have it : itD (sideD s) = some (s.map pD) := rfl
  have li : lenD (sideD s) = some (.int s.length) := by rw [sideD_eq, e_len2, List.length_map]
  have ii : isiD "tuple" (sideD s) = some (.bl true) := rfl
  refine ⟨[.fz (sideD s), .fz (.int lo)], ?_⟩
  show bodyF 2 4 s_is_side _ = _
  generalize sideD s = S at l1 l2 l3 it li ii ⊢
  simp [s_is_side, ii, li, hr1, hr2, it, l1, l2, l3, ha, hs, he, -List.map_map, -List.map_const_fun]
theorem way_true {w : Way} (h : GWay w) : ∃ as, F_is_way [.fz (wayD w)] = .val (.bl true) as := by
  obtain ⟨a1, h1⟩ := side_true h.need
  obtain ⟨a2, h2⟩ := side_true h.give
  obtain ⟨a3, h3⟩ := whole_ok h.ticks.1 h.ticks.2
  obtain ⟨a4, h4⟩ := whole_ok h.power.1 h.power.2
  have h1' : F_is_side [.fz (sideD w.need), .fz (.int 0)] = .val (.bl true) a1 := h1
  have h2' : F_is_side [.fz (sideD w.give), .fz (.int 1)] = .val (.bl true) a2 := h2
  refine ⟨[.fz (wayD w)], ?_⟩
  simp [F_is_way, s_is_way, wayD, h1', h2', h3, h4]
theorem look_ok {b : List (Str × Way)} (hb : Book b) : ∃ as, F_look_book [.fz (bookD b)] = .val .non as := by
  have key := for_inv (g := .nm 1) (b := seqS (ifS (orF (notF (tstF (callF 1 F_is_word (datA (varE 1) nilA)))) (notF (tstF (callF 1 F_is_way (datA (binF ixO (varR 0) (varR 1)) nilA))))) (seqS badS nxS) nxS) nxS) (fun j ρ => ∃ k1, ρ = [AV.fz (bookD b), k1] ∧ (k1 = .un ∨ ∃ d, k1 = .fz d))
    ((b.map (·.1)).map D.str) 0 [AV.fz (bookD b), .un] ⟨.un, rfl, .inl rfl⟩ ?_
  · obtain ⟨ρ', hf, k1, rfl, hk⟩ := key
    have h1 := hb.lo
    have h2 := hb.hi
    have hl : lenD (bookD b) = some (.int b.length) := by unfold bookD; rw [e_len3, kvsD_length]
    have hr1 : (1 : Int) ≤ b.length := by omega
    have hr2 : (b.length : Int) ≤ 6 := by omega
    have hi : isiD "dict" (bookD b) = some (.bl true) := rfl
    have hk : ((kvsD wayD b).map fun kv => keyD kv.1) = (b.map (·.1)).map D.str := keys_kvs b
    refine ⟨[.fz (bookD b)], ?_⟩
    show bodyF 1 2 s_look_book _ = _
    have hkf : keysF (varE 0) [AV.fz (bookD b), AV.un] = .val ((b.map (·.1)).map D.str) [AV.fz (bookD b), AV.un] := by
      show Out.val ((kvsD wayD b).map fun kv => keyD kv.1) _ = _
      rw [hk]
    simp [s_look_book, hi, hl, hr1, hr2, -e_keysF, -List.map_map]
    rw [hkf]
    simp [hf, -List.map_map]
  · rintro j d ρ hd ⟨k1, rfl, hk⟩
    obtain ⟨z, w, hj, hm, rfl⟩ := at_of hd
    obtain ⟨a1, h1⟩ := word_ok (hb.wd _ hm)
    obtain ⟨a2, h2⟩ := way_true (hb.way _ hm)
    have hw : ixO (bookD b) (.str z) = some (wayD w) := way_at hb.nd hm
    refine ⟨[AV.fz (bookD b), .fz (.str z)], [AV.fz (bookD b), .fz (.str z)], ?_, ?_, .fz (.str z), rfl, .inr ⟨_, rfl⟩⟩
    · rcases hk with rfl | ⟨_, rfl⟩ <;> simp
    · simp [h1, h2, hw]
end Wk
set_option Elab.async false
set_option linter.all false
set_option maxRecDepth 100000
set_option maxHeartbeats 4000000
namespace Wk
open PySem PySem.Spec L2 DL
def nmsB (b : List (Str × Way)) : List Str := DLS.srt (b.map (·.1))
theorem ways_ok (b : List (Str × Way)) : ∃ as, F_ways [.fz (bookD b)] = .val (.lst ((nmsB b).map D.str)) as := by
  refine ⟨[.fz (bookD b)], ?_⟩
  have h : skD (bookD b) = some (.l ((nmsB b).map D.str)) := skD_kvs b
  simp [F_ways, s_ways, h]
theorem putA_has {α : Type} {ps : List (Str × α)} {z x : Str} {a : α} : x ∈ (putA ps z a).map (·.1) ↔ x ∈ ps.map (·.1) ∨ x = z := by
  rw [putA_keys]
  split
  · rename_i h
    exact ⟨.inl, fun q => q.elim id fun q => q ▸ h⟩
  · rw [List.mem_append, List.mem_singleton]
abbrev tru : Unit → D := fun _ => .bl true
theorem allgoods_ok {b : List (Str × Way)} (hb : Book b) : ∃ as, F_all_goods [.fz (bookD b)] = .val (.lst ((goodsB b).map D.str)) as := by
  have hb6 := hb.hi
  let inner : Ev → SOut := seqS (putAt 1 (varE 3) (conE (.bl true))) nxS
  let body : Ev → SOut := seqS (forF (itF (binF addO (datO (binF ixO (datO (binF ixO (varR 0) (varR 2))) (datO (conE (.int 0))))) (datO (binF ixO (datO (binF ixO (varR 0) (varR 2))) (datO (conE (.int 1))))))) (.tp [3, 4]) inner) nxS
  have key := for_inv (g := .nm 2) (b := body) (fun j ρ => ∃ (ps : List (Str × Unit)) (k2 k3 k4 : AV), ρ = [AV.fz (bookD b), .ow false (.d (kvsD tru ps)), k2, k3, k4] ∧ (k2 = .un ∨ ∃ d, k2 = .fz d) ∧ (k3 = .un ∨ ∃ d, k3 = .fz d) ∧ (k4 = .un ∨ ∃ d, k4 = .fz d) ∧ (ps.map (·.1)).Nodup ∧ (∀ x, x ∈ ps.map (·.1) ↔ x ∈ goodsL (b.take j)) ∧ ps.length ≤ 6 * j)
    ((b.map (·.1)).map D.str) 0 [AV.fz (bookD b), .ow false (.d []), .un, .un, .un] ⟨[], .un, .un, .un, rfl, .inl rfl, .inl rfl, .inl rfl, by simp, by simp [goodsL], by simp⟩ ?_
  · obtain ⟨ρ', hf, ps, k2, k3, k4, rfl, h2, h3, h4, nd, mem, len⟩ := key
    simp only [Nat.zero_add, List.length_map, List.take_length] at hf mem len
    refine ⟨[.fz (bookD b)], ?_⟩
    have hkf : keysF (varE 0) [AV.fz (bookD b), .ow false (.d []), .un, .un, .un] = .val ((b.map (·.1)).map D.str) [AV.fz (bookD b), .ow false (.d []), .un, .un, .un] := by
      show Out.val ((kvsD wayD b).map fun kv => keyD kv.1) _ = _
      rw [keys_kvs]
    have hs : DLS.srt (ps.map (·.1)) = goodsB b := srt_eq nd mem
    have hk := skD_kvs (enc := tru) ps
    rw [hs] at hk
    simp only [body, inner] at hf
    simp [F_all_goods, s_all_goods, -e_keysF, -List.map_map]
    rw [hkf]
    simp [hf, hk, -List.map_map]
  · rintro j d ρ hd ⟨ps, k2, k3, k4, rfl, h2, h3, h4, nd, mem, len⟩
    obtain ⟨z, w, hj, hm, rfl⟩ := at_of hd
    simp only [Nat.zero_add] at mem len ⊢
    have hj6 : j < b.length := (List.getElem?_eq_some_iff.mp hj).1
    have hwg : GWay w := hb.way _ hm
    have hw : ixO (bookD b) (.str z) = some (wayD w) := way_at hb.nd hm
    have hwl := need_len hwg
    have ha := add_sides w.need w.give (by omega)
    have key2 := for_inv (g := .tp [3, 4]) (b := inner) (fun i ρ => ∃ (qs : List (Str × Unit)) (k3 k4 : AV), ρ = [AV.fz (bookD b), .ow false (.d (kvsD tru qs)), .fz (.str z), k3, k4] ∧ (k3 = .un ∨ ∃ d, k3 = .fz d) ∧ (k4 = .un ∨ ∃ d, k4 = .fz d) ∧ (qs.map (·.1)).Nodup ∧ (∀ x, x ∈ qs.map (·.1) ↔ x ∈ goodsL (b.take j) ∨ x ∈ ((w.need ++ w.give).take i).map (·.1)) ∧ qs.length ≤ 6 * j + i)
      ((w.need ++ w.give).map pD) 0 [AV.fz (bookD b), .ow false (.d (kvsD tru ps)), .fz (.str z), k3, k4] ⟨ps, k3, k4, rfl, h3, h4, nd, fun x => by rw [mem]; simp, by omega⟩ ?_
    · obtain ⟨ρ', hf, qs, k3', k4', rfl, g3, g4, nd', mem', len'⟩ := key2
      simp only [Nat.zero_add, List.length_map, List.take_length] at hf mem' len'
      refine ⟨[AV.fz (bookD b), .ow false (.d (kvsD tru ps)), .fz (.str z), k3, k4], [AV.fz (bookD b), .ow false (.d (kvsD tru qs)), .fz (.str z), k3', k4'], ?_, ?_, qs, .fz (.str z), k3', k4', rfl, .inr ⟨_, rfl⟩, g3, g4, nd', fun x => ?_, ?_⟩
      · rcases h2 with rfl | ⟨_, rfl⟩ <;> simp
      · simp only [inner] at hf
        simp [body, inner, hw, wayD, ha, itP, hf, -List.map_map, -List.map_append]
      · rw [mem', goodsL_take hj, List.mem_append]; rfl
      · rw [List.length_append] at len'; omega
    · rintro i d ρ hd ⟨qs, k3, k4, rfl, h3, h4, nd, mem, len⟩
      simp only [Nat.zero_add] at mem len ⊢
      have hi : i < (w.need ++ w.give).length := by have := (List.getElem?_eq_some_iff.mp hd).1; simpa using this
      rw [List.length_append] at hi
      rw [List.getElem?_map] at hd
      obtain ⟨p, hp, rfl⟩ : ∃ p, (w.need ++ w.give)[i]? = some p ∧ pD p = d := by
        cases e : (w.need ++ w.give)[i]? with
        | none => rw [e] at hd; cases hd
        | some p => rw [e] at hd; exact ⟨p, rfl, Option.some.inj hd⟩
      have hz1 : (kvsD tru qs).length < sizeLine := by rw [kvsD_length, sizeLine_eq]; omega
      have hl := putA_length qs p.1 ()
      refine ⟨[AV.fz (bookD b), .ow false (.d (kvsD tru qs)), .fz (.str z), .fz (.str p.1), .fz (.int p.2)], [AV.fz (bookD b), .ow false (.d (kvsD tru (putA qs p.1 ()))), .fz (.str z), .fz (.str p.1), .fz (.int p.2)], ?_, ?_, putA qs p.1 (), _, _, rfl, .inr ⟨_, rfl⟩, .inr ⟨_, rfl⟩, putA_nodup nd, fun x => ?_, by omega⟩
      · rcases h3 with rfl | ⟨_, rfl⟩ <;> rcases h4 with rfl | ⟨_, rfl⟩ <;> simp
      · rw [← putD_kvs]
        simp [inner, hz1]
      · rw [putA_has, mem, List.take_add_one, hp, List.map_append, List.mem_append]
        simp [or_assoc]
theorem goods_ok {b : List (Str × Way)} (hb : Book b) : ∃ as, F_goods [.fz (bookD b)] = .val (.lst ((goodsB b).map D.str)) as := by
  obtain ⟨a1, h1⟩ := look_ok hb
  obtain ⟨a2, h2⟩ := allgoods_ok hb
  refine ⟨[.fz (bookD b)], ?_⟩
  simp [F_goods, s_goods, h1, h2]

/-! ### who gives, who takes -/
theorem merge_kvs {α : Type} {enc : α → D} : ∀ (s acc : List (Str × α)), ((acc ++ s).map (·.1)).Nodup → mergeD (kvsD enc acc) (kvsD enc s) = kvsD enc (acc ++ s)
  | [], acc, _ => by simp [mergeD, kvsD]
  | p :: s, acc, nd => by
    have hn : p.1 ∉ acc.map (·.1) := by
      rw [List.map_append, List.map_cons] at nd
      have := (List.nodup_append.mp nd).2.2
      exact fun h => this _ h _ (.head _) rfl
    show mergeD (putD (kvsD enc acc) (.inr p.1) (enc p.2)) (kvsD enc s) = _
    rw [putD_kvs, putA_new hn, merge_kvs s (acc ++ [p]) (by rw [List.append_assoc]; exact nd), List.append_assoc]; rfl
theorem pairs_side : ∀ s : List (Str × Int), pairsD (s.map pD) = some (kvsD D.int s)
  | [] => rfl
  | p :: s => by
    rw [List.map_cons, pairsD, pairs_side s]; rfl
theorem dict_side {lo : Nat} {s : List (Str × Int)} (h : Side lo s) : dictD (sideD s) = some (.d (kvsD D.int s)) := by
  show (pairsD (s.map pD)).map _ = _
  rw [pairs_side]
  have := merge_kvs (enc := D.int) s [] h.nd
  rw [List.nil_append] at this
  exact congrArg (fun x => some (OD.d x)) this
def hasG (b : List (Str × Way)) (x z : Str) : Bool := match findA b z with
  | some w => decide (x ∈ w.give.map (·.1))
  | none => false
def hasN (b : List (Str × Way)) (x z : Str) : Bool := match findA b z with
  | some w => decide (x ∈ w.need.map (·.1))
  | none => false
theorem findA_of {α : Type} {ps : List (Str × α)} {z : Str} {a : α} (nd : (ps.map (·.1)).Nodup) (h : (z, a) ∈ ps) : findA ps z = some a := by
  obtain ⟨a', e, h'⟩ := findA_mem (List.mem_map.mpr ⟨_, h, rfl⟩)
  rw [e]
  congr 1
  induction ps with
  | nil => cases h
  | cons p ps ih =>
    rw [List.map_cons, List.nodup_cons] at nd
    cases h with
    | head =>
      cases h' with
      | head => rfl
      | tail _ h' => exact absurd (List.mem_map.mpr ⟨_, h', rfl⟩) nd.1
    | tail _ h =>
      cases h' with
      | head => exact absurd (List.mem_map.mpr ⟨_, h, rfl⟩) nd.1
      | tail _ h' =>
        by_cases e0 : p.1 = z
        · exact absurd (e0 ▸ List.mem_map.mpr ⟨_, h, rfl⟩) nd.1
        · refine ih nd.2 h ?_ h'
          unfold findA at e ⊢
          rw [List.find?_cons_of_neg (by simpa using e0)] at e
          exact e
theorem nms_way {b : List (Str × Way)} {z : Str} (h : z ∈ nmsB b) : ∃ w, (z, w) ∈ b := by
  have := (DLS.srt_perm _).mem_iff.mp h
  obtain ⟨p, hp, rfl⟩ := List.mem_map.mp this
  exact ⟨p.2, hp⟩
theorem nms_len (b : List (Str × Way)) : (nmsB b).length = b.length := by unfold nmsB; rw [(DLS.srt_perm _).length_eq, List.length_map]
def onS (f : Str → Bool) : D → Bool
  | .str z => f z
  | _ => false
theorem filter_onS (f : Str → Bool) (xs : List Str) : (xs.map D.str).filter (onS f) = (xs.filter f).map D.str := by
  induction xs with
  | nil => rfl
  | cons x xs ih =>
    rw [List.map_cons]
    by_cases h : f x = true
    · rw [List.filter_cons_of_pos (by exact h), List.filter_cons_of_pos h, List.map_cons, ih]
    · rw [List.filter_cons_of_neg (by exact h), List.filter_cons_of_neg h, ih]
theorem givers_ok {b : List (Str × Way)} (hb : Book b) {x : Str} (hx : Wd x) : ∃ as, F_givers [.fz (bookD b), .fz (.str x)] = .val (.lst (((nmsB b).filter (hasG b x)).map D.str)) as := by
  obtain ⟨a1, h1⟩ := look_ok hb
  obtain ⟨a2, h2⟩ := word_ok hx
  obtain ⟨a3, h3⟩ := ways_ok b
  have hb6 := hb.hi
  have hlc := lc_pure (g := .nm 2) (tt := tstF (binF inA (varR 1) (datO (mapO OD.dat (unF dictD (datO (binF ixO (datO (binF ixO (varR 0) (varR 2))) (datO (conE (.int 1)))))))))) (te := varE 2) (vs := [2]) (ρ := [.fz (bookD b), .fz (.str x), .un]) (onS (hasG b x)) id ((nmsB b).map D.str) [] (by rw [List.length_nil, List.length_map, nms_len, sizeLine_eq]; omega)
    (fun d hd => by
      obtain ⟨z, hz, rfl⟩ := List.mem_map.mp hd
      obtain ⟨w, hm⟩ := nms_way hz
      have hw : ixO (bookD b) (.str z) = some (wayD w) := way_at hb.nd hm
      have hd := dict_side (hb.way _ hm).give
      have hg : hasG b x z = decide (x ∈ w.give.map (·.1)) := by unfold hasG; rw [findA_of hb.nd hm]
      refine ⟨[.fz (bookD b), .fz (.str x), .fz (.str z)], ?_⟩
      have hi := in_kvs (enc := D.int) x w.give
      simp [hw, wayD, hd, hi, onS, hg, -List.mem_map])
  rw [List.nil_append, List.map_id, filter_onS] at hlc
  refine ⟨[.fz (bookD b), .fz (.str x)], ?_⟩
  simp [F_givers, s_givers, h1, h2, h3, hlc]
theorem takers_ok {b : List (Str × Way)} (hb : Book b) {x : Str} (hx : Wd x) : ∃ as, F_takers [.fz (bookD b), .fz (.str x)] = .val (.lst (((nmsB b).filter (hasN b x)).map D.str)) as := by
  obtain ⟨a1, h1⟩ := look_ok hb
  obtain ⟨a2, h2⟩ := word_ok hx
  obtain ⟨a3, h3⟩ := ways_ok b
  have hb6 := hb.hi
  have hlc := lc_pure (g := .nm 2) (tt := tstF (binF inA (varR 1) (datO (mapO OD.dat (unF dictD (datO (binF ixO (datO (binF ixO (varR 0) (varR 2))) (datO (conE (.int 0)))))))))) (te := varE 2) (vs := [2]) (ρ := [.fz (bookD b), .fz (.str x), .un]) (onS (hasN b x)) id ((nmsB b).map D.str) [] (by rw [List.length_nil, List.length_map, nms_len, sizeLine_eq]; omega)
    (fun d hd => by
      obtain ⟨z, hz, rfl⟩ := List.mem_map.mp hd
      obtain ⟨w, hm⟩ := nms_way hz
      have hw : ixO (bookD b) (.str z) = some (wayD w) := way_at hb.nd hm
      have hd := dict_side (hb.way _ hm).need
      have hg : hasN b x z = decide (x ∈ w.need.map (·.1)) := by unfold hasN; rw [findA_of hb.nd hm]
      refine ⟨[.fz (bookD b), .fz (.str x), .fz (.str z)], ?_⟩
      have hi := in_kvs (enc := D.int) x w.need
      simp [hw, wayD, hd, hi, onS, hg, -List.mem_map])
  rw [List.nil_append, List.map_id, filter_onS] at hlc
  refine ⟨[.fz (bookD b), .fz (.str x)], ?_⟩
  simp [F_takers, s_takers, h1, h2, h3, hlc]
end Wk
set_option Elab.async false
set_option linter.all false
set_option maxRecDepth 100000
set_option maxHeartbeats 4000000
namespace DL
open PySem PySem.Spec L2
@[simp] theorem tru_al {ρ : Ev} {i : Nat} : truR ρ (.al i) = (match ρ[i]? with
    | some (.ow _ (.l xs)) => some !xs.isEmpty
    | some (.ow _ (.d xs)) => some !xs.isEmpty
    | _ => none) := rfl
theorem nil_or_snoc {α : Type} (a : List α) : a = [] ∨ ∃ a' x, a = a' ++ [x] := by
  rcases List.eq_nil_or_concat a with h | ⟨a', x, h⟩
  · exact .inl h
  · exact .inr ⟨a', x, by rw [h, List.concat_eq_append]⟩
theorem while_inv {c : Ev → Out Bool} {b : Ev → SOut} (I : Nat → Ev → Prop) (Dn : SOut → Prop)
    (k : ∀ m ρ, I m ρ → (∃ ρ1, c ρ = .val false ρ1 ∧ Dn (.nx ρ1)) ∨ (∃ ρ1, c ρ = .val true ρ1 ∧ ((∃ d ρ2, b ρ1 = .rt d ρ2 ∧ Dn (.rt d ρ2)) ∨ ∃ ρ2 m', b ρ1 = .nx ρ2 ∧ m' < m ∧ I m' ρ2))) : ∀ n m ρ, I m ρ → m < n → Dn (whileS n c b ρ)
  | 0, m, ρ, _, h => absurd h (Nat.not_lt_zero m)
  | n + 1, m, ρ, hI, h => by
    unfold whileS
    rcases k m ρ hI with ⟨ρ1, h1, h2⟩ | ⟨ρ1, h1, h2⟩
    · rw [h1]; exact h2
    · rw [h1]
      rcases h2 with ⟨d, ρ2, h3, h4⟩ | ⟨ρ2, m', h3, h4, h5⟩
      · show Dn (thenS (b ρ1) _)
        rw [h3]; exact h4
      · show Dn (thenS (b ρ1) _)
        rw [h3]
        exact while_inv I Dn k n m' ρ2 h5 (by omega)
end DL
namespace Wk
open PySem PySem.Spec L2 DL
/-! ### what comes of what -/
inductive Rch (R : Str → Str → Prop) (w : Str) : Str → Prop where
  | one {y : Str} (h : R w y) : Rch R w y
  | more {x y : Str} (h : Rch R w x) (k : R x y) : Rch R w y
theorem nodup_len : ∀ {l U : List Str}, l.Nodup → (∀ x ∈ l, x ∈ U) → l.length ≤ U.length
  | [], U, _, _ => Nat.zero_le _
  | a :: l, U, nd, h => by
    have h1 := h a (.head _)
    rw [List.nodup_cons] at nd
    have := nodup_len (l := l) (U := U.erase a) nd.2 fun x hx => (List.mem_erase_of_ne (by rintro rfl; exact nd.1 hx)).mpr (h x (.tail _ hx))
    rw [List.length_erase_of_mem h1] at this
    have := List.length_pos_of_mem h1
    rw [List.length_cons]; omega
/-- what is put in anew: all of S, once -/
structure Psh (S : Str → Prop) (f e : List Str) : Prop where
  nd : (f ++ e).Nodup
  sub : ∀ y ∈ e, S y
  all : ∀ y, S y → y ∈ f ++ e
theorem Psh.nil {f : List Str} (nd : f.Nodup) : Psh (fun _ => False) f [] := ⟨by simpa using nd, fun y h => (by cases h), fun _ h => False.elim h⟩
theorem Psh.imp {S S' : Str → Prop} {f e : List Str} (h : Psh S f e) (i : ∀ y, S y ↔ S' y) : Psh S' f e := ⟨h.nd, fun y q => (i y).mp (h.sub y q), fun y q => h.all y ((i y).mpr q)⟩
theorem Psh.old {S : Str → Prop} {f e : List Str} {z : Str} (h : Psh S f e) (m : z ∈ f ++ e) : Psh (fun y => S y ∨ y = z) f e := ⟨h.nd, fun y q => .inl (h.sub y q), fun y q => q.elim (h.all y) fun q => q ▸ m⟩
theorem Psh.new {S : Str → Prop} {f e : List Str} {z : Str} (h : Psh S f e) (m : z ∉ f ++ e) : Psh (fun y => S y ∨ y = z) f (e ++ [z]) := ⟨by
    rw [← List.append_assoc]
    exact List.nodup_append.mpr ⟨h.nd, List.nodup_cons.mpr ⟨by simp, List.nodup_nil⟩, fun x hx y hy => by rintro rfl; rw [List.mem_singleton] at hy; subst hy; exact m hx⟩,
  fun y q => (List.mem_append.mp q).elim (fun q => .inl (h.sub y q)) fun q => .inr (List.mem_singleton.mp q),
  fun y q => by
    rw [← List.append_assoc]
    exact q.elim (fun q => List.mem_append_left _ (h.all y q)) fun q => List.mem_append_right _ (List.mem_singleton.mpr q)⟩
structure WI (R : Str → Str → Prop) (w : Str) (f a : List Str) : Prop where
  reach : ∀ y ∈ f, Rch R w y
  ah : ∀ x ∈ a, x = w ∨ x ∈ f
  cl : ∀ x, (x = w ∨ x ∈ f) → x ∈ a ∨ ∀ y, R x y → y ∈ f
  nd : f.Nodup
theorem WI.start (R : Str → Str → Prop) (w : Str) : WI R w [] [w] := ⟨fun y h => by (cases h), fun x h => .inl (List.mem_singleton.mp h), fun x h => h.elim (fun h => .inl (List.mem_singleton.mpr h)) fun h => by (cases h), List.nodup_nil⟩
theorem WI.step {R : Str → Str → Prop} {w x : Str} {f a e : List Str} (h : WI R w f (a ++ [x])) (p : Psh (R x) f e) : WI R w (f ++ e) (a ++ e) := by
  have hx : x = w ∨ x ∈ f := h.ah x (List.mem_append_right _ (.head _))
  refine ⟨fun y hy => ?_, fun z hz => ?_, fun z hz => ?_, p.nd⟩
  · rcases List.mem_append.mp hy with hy | hy
    · exact h.reach y hy
    · rcases hx with rfl | hx
      · exact .one (p.sub y hy)
      · exact .more (h.reach x hx) (p.sub y hy)
  · rcases List.mem_append.mp hz with hz | hz
    · exact (h.ah z (List.mem_append_left _ hz)).imp id fun q => List.mem_append_left _ q
    · exact .inr (List.mem_append_right _ hz)
  · have old : (z = w ∨ z ∈ f) → z ∈ a ++ e ∨ ∀ y, R z y → y ∈ f ++ e := fun q => by
      rcases h.cl z q with c | c
      · rcases List.mem_append.mp c with c | c
        · exact .inl (List.mem_append_left _ c)
        · rw [List.mem_singleton] at c; subst c; exact .inr p.all
      · exact .inr fun y r => List.mem_append_left _ (c y r)
    rcases hz with hz | hz
    · exact old (.inl hz)
    · rcases List.mem_append.mp hz with hz | hz
      · exact old (.inr hz)
      · exact .inl (List.mem_append_right _ hz)
theorem WI.done {R : Str → Str → Prop} {w : Str} {f : List Str} (h : WI R w f []) : ∀ y, y ∈ f ↔ Rch R w y := fun y => ⟨h.reach y, fun r => by
  have cl : ∀ x, (x = w ∨ x ∈ f) → ∀ y, R x y → y ∈ f := fun x q => (h.cl x q).elim (fun z => by cases z) id
  induction r with
  | one k => exact cl w (.inl rfl) _ k
  | more _ k ih => exact cl _ (.inr ih) _ k⟩
/-- one good comes right of another -/
def Rel (b : List (Str × Way)) (x y : Str) : Prop := ∃ z w, (z, w) ∈ b ∧ x ∈ w.need.map (·.1) ∧ y ∈ w.give.map (·.1)
theorem Rel.good {b : List (Str × Way)} {x y : Str} (h : Rel b x y) : y ∈ goodsB b ∧ x ∈ goodsB b := by
  obtain ⟨z, w, hm, h1, h2⟩ := h
  rw [goodsB_mem, goodsB_mem]
  exact ⟨List.mem_flatten.mpr ⟨_, List.mem_map.mpr ⟨_, hm, rfl⟩, by unfold wordsW; rw [List.map_append]; exact List.mem_append_right _ h2⟩,
    List.mem_flatten.mpr ⟨_, List.mem_map.mpr ⟨_, hm, rfl⟩, by unfold wordsW; rw [List.map_append]; exact List.mem_append_left _ h1⟩⟩
theorem Rch.good {b : List (Str × Way)} {x y : Str} (h : Rch (Rel b) x y) : y ∈ goodsB b := by
  cases h with
  | one k => exact k.good.1
  | more _ k => exact k.good.1
theorem goodsB_len {b : List (Str × Way)} (hb : Book b) : (goodsB b).length ≤ 36 := by
  have h1 := srtSet_len (goodsL b)
  have h2 := goodsL_len hb.way
  have h3 := hb.hi
  unfold goodsB; omega
theorem found_len {b : List (Str × Way)} (hb : Book b) {w : Str} {f a : List Str} (h : WI (Rel b) w f a) : f.length ≤ 36 := Nat.le_trans (nodup_len h.nd fun y hy => (h.reach y hy).good) (goodsB_len hb)
abbrev lstS (l : List Str) : D := .lst (l.map D.str)
theorem pop_strs (a : List Str) (x : Str) : ((a ++ [x]).map D.str)[((a ++ [x]).map D.str).length - 1]? = some (.str x) ∧ ((a ++ [x]).map D.str).dropLast = a.map D.str := by
  rw [List.map_append]
  refine ⟨?_, by simp⟩
  simp
/-- the program's walk of what comes behind -/
theorem behind_ok {b : List (Str × Way)} (hb : Book b) {ps : List (Str × List Str)} (nd : (ps.map (·.1)).Nodup) (keys : ∀ x, x ∈ ps.map (·.1) ↔ x ∈ goodsB b) (succ : ∀ x l, (x, l) ∈ ps → ∀ y, y ∈ l ↔ Rel b x y) {w : Str} (hw : w ∈ goodsB b) :
    ∃ f as, (∀ y, y ∈ f ↔ Rch (Rel b) w y) ∧ f.Nodup ∧ F_behind [.fz (.dic (kvsD lstS ps)), .fz (.str w)] = .val (lstS f) as := by
  let inner : Ev → SOut := seqS (ifS (tstF (binF ninA (varR 4) (varR 2))) (seqS (exprS (appE 2 (varE 4))) (seqS (exprS (appE 3 (varE 4))) nxS)) nxS) nxS
  let SD : D := .dic (kvsD lstS ps)
  have hs : sizeLine = 16777216 := sizeLine_eq
  have key := while_inv (c := truF (varR 3)) (b := seqS (forF (itF (binF ixO (varR 0) (datO (popE 3)))) (.nm 4) inner) nxS)
    (fun m ρ => ∃ f a k4, ρ = [AV.fz SD, .fz (.str w), .ow false (.l (f.map D.str)), .ow false (.l (a.map D.str)), k4] ∧ (k4 = .un ∨ ∃ d, k4 = .fz d) ∧ WI (Rel b) w f a ∧ m = 2 * (36 - f.length) + a.length ∧ m ≤ 73)
    (fun o => ∃ f k3 k4, o = .nx [AV.fz SD, .fz (.str w), .ow false (.l (f.map D.str)), k3, k4] ∧ WI (Rel b) w f []) ?_ fuel 73 [AV.fz SD, .fz (.str w), .ow false (.l []), .ow false (.l [.str w]), .un] ⟨[], [w], .un, rfl, .inl rfl, WI.start _ _, by simp, by omega⟩ (by decide)
  · obtain ⟨f, k3, k4, hf, h⟩ := key
    refine ⟨f, [.fz SD, .fz (.str w)], h.done, h.nd, ?_⟩
    simp only [inner] at hf
    have hz : 1 ≤ sizeLine := by omega
    show bodyF 2 5 s_behind [.fz SD, .fz (.str w)] = _
    simp [s_behind, hz, -e_truF]
    rw [hf]
    simp
  · rintro m ρ ⟨f, a, k4, rfl, h4, h, rfl, h73⟩
    rcases nil_or_snoc a with rfl | ⟨a', x, rfl⟩
    · exact .inl ⟨[AV.fz SD, .fz (.str w), .ow false (.l (f.map D.str)), .ow false (.l []), k4], by simp, f, _, k4, rfl, h⟩
    · have hx : x = w ∨ x ∈ f := h.ah x (List.mem_append_right _ (.head _))
      have hxg : x ∈ ps.map (·.1) := (keys x).mpr (hx.elim (fun e => e ▸ hw) fun q => (h.reach x q).good)
      obtain ⟨l, el, hl⟩ := findA_mem hxg
      have hix : ixO SD (.str x) = some (lstS l) := get_of nd hl
      have hfl := found_len hb h
      have key2 := for_inv (g := .nm 4) (b := inner) (fun i ρ => ∃ e k4, ρ = [AV.fz SD, .fz (.str w), .ow false (.l ((f ++ e).map D.str)), .ow false (.l ((a' ++ e).map D.str)), k4] ∧ (k4 = .un ∨ ∃ d, k4 = .fz d) ∧ Psh (fun y => y ∈ l.take i) f e)
        (l.map D.str) 0 [AV.fz SD, .fz (.str w), .ow false (.l (f.map D.str)), .ow false (.l (a'.map D.str)), k4] ⟨[], k4, by simp, h4, (Psh.nil h.nd).imp fun y => by simp⟩ ?_
      · obtain ⟨ρ', hf, e, k4', rfl, g4, p⟩ := key2
        simp only [Nat.zero_add, List.length_map, List.take_length] at hf p
        have hst : WI (Rel b) w (f ++ e) (a' ++ e) := h.step (p.imp fun y => succ x l hl y)
        have hel := found_len hb hst
        refine .inr ⟨[AV.fz SD, .fz (.str w), .ow false (.l (f.map D.str)), .ow false (.l ((a' ++ [x]).map D.str)), k4], by simp, .inr ⟨_, 2 * (36 - (f ++ e).length) + (a' ++ e).length, ?_, ?_, f ++ e, a' ++ e, k4', rfl, g4, hst, rfl, ?_⟩⟩
        · obtain ⟨p1, p2⟩ := pop_strs a' x
          simp only [inner] at hf
          have hpop : popE 3 [AV.fz SD, .fz (.str w), .ow false (.l (f.map D.str)), .ow false (.l ((a' ++ [x]).map D.str)), k4] = .val (.str x) [AV.fz SD, .fz (.str w), .ow false (.l (f.map D.str)), .ow false (.l (a'.map D.str)), k4] := by
            unfold popE
            show (match ((a' ++ [x]).map D.str)[((a' ++ [x]).map D.str).length - 1]? with | some d => Out.val d (([AV.fz SD, .fz (.str w), .ow false (.l (f.map D.str)), .ow false (.l ((a' ++ [x]).map D.str)), k4] : Ev).set 3 (.ow false (.l ((a' ++ [x]).map D.str).dropLast))) | none => .bad) = _
            rw [p1, p2]; rfl
          simp [inner, hpop, hix, hf, -List.map_append]
        · rw [List.length_append] at hel
          rw [List.length_append, List.length_append, List.length_append, List.length_singleton]
          omega
        · rw [List.length_append] at hel
          rw [List.length_append, List.length_singleton] at h73
          rw [List.length_append, List.length_append]
          omega
      · rintro i d ρ hd ⟨e, k4, rfl, h4, p⟩
        simp only [Nat.zero_add] at p ⊢
        rw [List.getElem?_map] at hd
        obtain ⟨y, hy, rfl⟩ : ∃ y, l[i]? = some y ∧ D.str y = d := by
          cases e : l[i]? with
          | none => rw [e] at hd; cases hd
          | some p => rw [e] at hd; exact ⟨p, rfl, Option.some.inj hd⟩
        have htk : ∀ q, (q ∈ l.take i ∨ q = y) ↔ q ∈ l.take (i + 1) := fun q => by rw [List.take_add_one, hy]; simp
        have hin := nin_strs y (f ++ e)
        have hfe : (f ++ e).length ≤ 36 := Nat.le_trans (nodup_len (U := goodsB b) p.nd (fun q hq => by
          rcases List.mem_append.mp hq with hq | hq
          · exact (h.reach q hq).good
          · exact ((succ x l hl q).mp (List.mem_of_mem_take (p.sub q hq))).good.1)) (goodsB_len hb)
        have hae : (a' ++ e).length < sizeLine ∨ True := .inr trivial
        by_cases hm : y ∈ f ++ e
        · refine ⟨[AV.fz SD, .fz (.str w), .ow false (.l ((f ++ e).map D.str)), .ow false (.l ((a' ++ e).map D.str)), .fz (.str y)], [AV.fz SD, .fz (.str w), .ow false (.l ((f ++ e).map D.str)), .ow false (.l ((a' ++ e).map D.str)), .fz (.str y)], ?_, ?_, e, .fz (.str y), rfl, .inr ⟨_, rfl⟩, (p.old hm).imp htk⟩
          · rcases h4 with rfl | ⟨_, rfl⟩ <;> simp
          · rw [decide_eq_true hm] at hin
            simp [inner, hin, -List.map_append]
        · have hz1 : ((f ++ e).map D.str).length < sizeLine := by rw [List.length_map]; omega
          have hz2 : ((a' ++ e).map D.str).length < sizeLine := by
            rw [List.length_append] at hfe h73
            rw [List.length_map, List.length_append]; omega
          refine ⟨[AV.fz SD, .fz (.str w), .ow false (.l ((f ++ e).map D.str)), .ow false (.l ((a' ++ e).map D.str)), .fz (.str y)], [AV.fz SD, .fz (.str w), .ow false (.l ((f ++ (e ++ [y])).map D.str)), .ow false (.l ((a' ++ (e ++ [y])).map D.str)), .fz (.str y)], ?_, ?_, e ++ [y], .fz (.str y), rfl, .inr ⟨_, rfl⟩, (p.new hm).imp htk⟩
          · rcases h4 with rfl | ⟨_, rfl⟩ <;> simp
          · rw [decide_eq_false hm] at hin
            rw [← List.append_assoc, ← List.append_assoc, List.map_append (l₁ := f ++ e), List.map_append (l₁ := a' ++ e)]
            simp only [List.length_map] at hz1 hz2
            simp [inner, hin, hz1, hz2, -List.map_append, -List.length_append]
end Wk
set_option Elab.async false
set_option linter.all false
set_option maxRecDepth 100000
set_option maxHeartbeats 8000000
namespace Wk
open PySem PySem.Spec L2 DL
theorem goodsB_wd {b : List (Str × Way)} (hb : Book b) {z : Str} (h : z ∈ goodsB b) : Wd z := goodsL_wd hb.way z (goodsB_mem.mp h)
theorem sk_book (b : List (Str × Way)) : skD (bookD b) = some (.l ((nmsB b).map D.str)) := skD_kvs b
theorem lbehind_ok {b : List (Str × Way)} (hb : Book b) {w : Str} (hw : w ∈ goodsB b) :
    ∃ f as, (∀ y, y ∈ f ↔ Rch (Rel b) w y) ∧ f.Nodup ∧ F_law_behind [.fz (bookD b), .fz (.str w)] = .val (lstS f) as := by
  have hs : sizeLine = 16777216 := sizeLine_eq
  let push : Ev → SOut := seqS (ifS (tstF (binF ninA (varR 6) (varR 2))) (seqS (exprS (appE 2 (varE 6))) (seqS (exprS (appE 3 (varE 6))) nxS)) nxS) nxS
  let nameB : Ev → SOut := seqS (ifS (tstF (binF inA (varR 4) (datO (mapO OD.dat (lcF (itF (binF ixO (datO (binF ixO (varR 0) (varR 5))) (datO (conE (.int 0))))) (.tp [6, 7]) yesF (varE 6) [6, 7]))))) (seqS (forF (itF (binF ixO (datO (binF ixO (varR 0) (varR 5))) (datO (conE (.int 1))))) (.tp [6, 7]) push) nxS) nxS) nxS
  let whileB : Ev → SOut := seqS (setS 4 (popE 3)) (seqS (forF (itF (mapO OD.dat (unF skD (varR 0)))) (.nm 5) nameB) nxS)
  have key := while_inv (c := tstF (binF neO (varR 3) (datO (mapO OD.dat (lstN nilL))))) (b := whileB)
    (fun m ρ => ∃ f a k4 k5 k6 k7, ρ = [AV.fz (bookD b), .fz (.str w), .ow false (.l (f.map D.str)), .ow false (.l (a.map D.str)), k4, k5, k6, k7] ∧ (k4 = .un ∨ ∃ d, k4 = .fz d) ∧ (k5 = .un ∨ ∃ d, k5 = .fz d) ∧ (k6 = .un ∨ ∃ d, k6 = .fz d) ∧ (k7 = .un ∨ ∃ d, k7 = .fz d) ∧ WI (Rel b) w f a ∧ m = 2 * (36 - f.length) + a.length ∧ m ≤ 73)
    (fun o => ∃ f k3 k4 k5 k6 k7, o = .nx [AV.fz (bookD b), .fz (.str w), .ow false (.l (f.map D.str)), k3, k4, k5, k6, k7] ∧ WI (Rel b) w f []) ?_ fuel 73 [AV.fz (bookD b), .fz (.str w), .ow false (.l []), .ow false (.l [.str w]), .un, .un, .un, .un] ⟨[], [w], .un, .un, .un, .un, rfl, .inl rfl, .inl rfl, .inl rfl, .inl rfl, WI.start _ _, by simp, by omega⟩ (by decide)
  · obtain ⟨f, k3, k4, k5, k6, k7, hf, h⟩ := key
    refine ⟨f, [.fz (bookD b), .fz (.str w)], h.done, h.nd, ?_⟩
    simp only [whileB, nameB, push] at hf
    have hz : 1 ≤ sizeLine := by omega
    show bodyF 2 8 s_law_behind [.fz (bookD b), .fz (.str w)] = _
    simp [s_law_behind, hz, -e_tstF]
    rw [hf]
    simp
  · rintro m ρ ⟨f, a, k4, k5, k6, k7, rfl, h4, h5, h6, h7, h, rfl, h73⟩
    have pl : ∀ x ∈ a, Plain x := fun x hx => (goodsB_wd hb ((h.ah x hx).elim (fun e => e ▸ hw) fun q => (h.reach x q).good)).plain
    have hne := ne_strs a [] pl (fun y hy => by cases hy)
    rcases nil_or_snoc a with rfl | ⟨a', x, rfl⟩
    · refine .inl ⟨[AV.fz (bookD b), .fz (.str w), .ow false (.l (f.map D.str)), .ow false (.l []), k4, k5, k6, k7], ?_, f, _, _, _, _, _, rfl, h⟩
      have hne' : neO (.lst []) (.lst []) = some (.bl false) := hne
      simp [hne']
    · have hx : x = w ∨ x ∈ f := h.ah x (List.mem_append_right _ (.head _))
      have hxg : x ∈ goodsB b := hx.elim (fun e => e ▸ hw) fun q => (h.reach x q).good
      have hfl := found_len hb h
      have hne' : neO (.lst ((a' ++ [x]).map D.str)) (.lst []) = some (.bl true) := by
        have : decide (a' ++ [x] = []) = false := decide_eq_false (by simp)
        rw [this] at hne; exact hne
      obtain ⟨p1, p2⟩ := pop_strs a' x
      have key2 := for_inv (g := .nm 5) (b := nameB) (fun j ρ => ∃ e k5 k6 k7, ρ = [AV.fz (bookD b), .fz (.str w), .ow false (.l ((f ++ e).map D.str)), .ow false (.l ((a' ++ e).map D.str)), .fz (.str x), k5, k6, k7] ∧ (k5 = .un ∨ ∃ d, k5 = .fz d) ∧ (k6 = .un ∨ ∃ d, k6 = .fz d) ∧ (k7 = .un ∨ ∃ d, k7 = .fz d) ∧
          Psh (fun y => ∃ z v, z ∈ (nmsB b).take j ∧ (z, v) ∈ b ∧ x ∈ v.need.map (·.1) ∧ y ∈ v.give.map (·.1)) f e)
        ((nmsB b).map D.str) 0 [AV.fz (bookD b), .fz (.str w), .ow false (.l (f.map D.str)), .ow false (.l (a'.map D.str)), .fz (.str x), k5, k6, k7] ⟨[], k5, k6, k7, by simp, h5, h6, h7, (Psh.nil h.nd).imp fun y => by simp⟩ ?_
      · obtain ⟨ρ', hf, e, k5', k6', k7', rfl, g5, g6, g7, p⟩ := key2
        simp only [Nat.zero_add, List.length_map, List.take_length] at hf p
        have hst : WI (Rel b) w (f ++ e) (a' ++ e) := h.step (p.imp fun y => ⟨fun ⟨z, v, _, q⟩ => ⟨z, v, q⟩, fun ⟨z, v, q1, q2⟩ => ⟨z, v, (DLS.srt_perm _).mem_iff.mpr (List.mem_map.mpr ⟨_, q1, rfl⟩), q1, q2⟩⟩)
        have hel := found_len hb hst
        refine .inr ⟨[AV.fz (bookD b), .fz (.str w), .ow false (.l (f.map D.str)), .ow false (.l ((a' ++ [x]).map D.str)), k4, k5, k6, k7], ?_, .inr ⟨_, 2 * (36 - (f ++ e).length) + (a' ++ e).length, ?_, ?_, f ++ e, a' ++ e, .fz (.str x), k5', k6', k7', rfl, .inr ⟨_, rfl⟩, g5, g6, g7, hst, rfl, ?_⟩⟩
        · simp [hne', -List.map_append]
        · have hpop : popE 3 [AV.fz (bookD b), .fz (.str w), .ow false (.l (f.map D.str)), .ow false (.l ((a' ++ [x]).map D.str)), k4, k5, k6, k7] = .val (.str x) [AV.fz (bookD b), .fz (.str w), .ow false (.l (f.map D.str)), .ow false (.l (a'.map D.str)), k4, k5, k6, k7] := by
            unfold popE
            show (match ((a' ++ [x]).map D.str)[((a' ++ [x]).map D.str).length - 1]? with | some d => Out.val d (([AV.fz (bookD b), .fz (.str w), .ow false (.l (f.map D.str)), .ow false (.l ((a' ++ [x]).map D.str)), k4, k5, k6, k7] : Ev).set 3 (.ow false (.l ((a' ++ [x]).map D.str).dropLast))) | none => .bad) = _
            rw [p1, p2]; rfl
          simp only [nameB, push] at hf
          have hk := sk_book b
          rcases h4 with rfl | ⟨_, rfl⟩ <;> simp [whileB, nameB, push, hpop, hk, hf, -List.map_append]
        · rw [List.length_append] at hel
          rw [List.length_append, List.length_append, List.length_append, List.length_singleton]
          omega
        · rw [List.length_append] at hel
          rw [List.length_append, List.length_singleton] at h73
          rw [List.length_append, List.length_append]
          omega
      · rintro j d ρ hd ⟨e, k5, k6, k7, rfl, h5, h6, h7, p⟩
        simp only [Nat.zero_add] at p ⊢
        rw [List.getElem?_map] at hd
        obtain ⟨z, hz, rfl⟩ : ∃ z, (nmsB b)[j]? = some z ∧ D.str z = d := by
          cases e : (nmsB b)[j]? with
          | none => rw [e] at hd; cases hd
          | some p => rw [e] at hd; exact ⟨p, rfl, Option.some.inj hd⟩
        obtain ⟨v, hm⟩ := nms_way (List.mem_of_getElem? hz)
        have hv : GWay v := hb.way _ hm
        have hix : ixO (bookD b) (.str z) = some (wayD v) := way_at hb.nd hm
        have hlc := lc_pure (g := .tp [6, 7]) (tt := yesF) (te := varE 6) (vs := [6, 7]) (ρ := [AV.fz (bookD b), .fz (.str w), .ow false (.l ((f ++ e).map D.str)), .ow false (.l ((a' ++ e).map D.str)), .fz (.str x), .fz (.str z), .un, .un]) (fun _ => true) (fun d => match d with | .tup (a :: _) => a | _ => .non) (v.need.map pD) [] (by have := hv.need.hi; simp; omega)
          (fun d hd => by
            obtain ⟨p, hp, rfl⟩ := List.mem_map.mp hd
            simp)
        rw [List.nil_append, List.filter_eq_self.mpr (fun _ _ => rfl), List.map_map] at hlc
        have e3 : v.need.map ((fun d => match d with | .tup (a :: _) => a | _ => D.non) ∘ pD) = (v.need.map (·.1)).map D.str := by rw [List.map_map]; rfl
        rw [e3] at hlc
        have hin := in_strs x (v.need.map (·.1))
        have tk : ∀ q, (∃ z' v', z' ∈ (nmsB b).take (j + 1) ∧ (z', v') ∈ b ∧ x ∈ v'.need.map (·.1) ∧ q ∈ v'.give.map (·.1)) ↔ ((∃ z' v', z' ∈ (nmsB b).take j ∧ (z', v') ∈ b ∧ x ∈ v'.need.map (·.1) ∧ q ∈ v'.give.map (·.1)) ∨ (x ∈ v.need.map (·.1) ∧ q ∈ v.give.map (·.1))) := fun q => by
          rw [List.take_add_one, hz]
          constructor
          · rintro ⟨z', v', h1, h2, h3⟩
            rcases List.mem_append.mp h1 with h1 | h1
            · exact .inl ⟨z', v', h1, h2, h3⟩
            · have : z' = z := by simpa using h1
              subst this
              have : v' = v := by
                have a1 := findA_of hb.nd h2
                have a2 := findA_of hb.nd hm
                rw [a1] at a2; exact Option.some.inj a2
              subst this
              exact .inr h3
          · rintro (⟨z', v', h1, h2, h3⟩ | h3)
            · exact ⟨z', v', List.mem_append_left _ h1, h2, h3⟩
            · exact ⟨z, v, List.mem_append_right _ (by simp), hm, h3⟩
        by_cases hxn : x ∈ v.need.map (·.1)
        · rw [decide_eq_true hxn] at hin
          have key3 := for_inv (g := .tp [6, 7]) (b := push) (fun i ρ => ∃ e' k6 k7, ρ = [AV.fz (bookD b), .fz (.str w), .ow false (.l ((f ++ e').map D.str)), .ow false (.l ((a' ++ e').map D.str)), .fz (.str x), .fz (.str z), k6, k7] ∧ (k6 = .un ∨ ∃ d, k6 = .fz d) ∧ (k7 = .un ∨ ∃ d, k7 = .fz d) ∧
              Psh (fun y => (∃ z' v', z' ∈ (nmsB b).take j ∧ (z', v') ∈ b ∧ x ∈ v'.need.map (·.1) ∧ y ∈ v'.give.map (·.1)) ∨ y ∈ (v.give.take i).map (·.1)) f e')
            (v.give.map pD) 0 [AV.fz (bookD b), .fz (.str w), .ow false (.l ((f ++ e).map D.str)), .ow false (.l ((a' ++ e).map D.str)), .fz (.str x), .fz (.str z), k6, k7] ⟨e, k6, k7, rfl, h6, h7, p.imp fun y => by simp⟩ ?_
          · obtain ⟨ρ', hf, e', k6', k7', rfl, g6, g7, p'⟩ := key3
            simp only [Nat.zero_add, List.length_map, List.take_length] at hf p'
            refine ⟨[AV.fz (bookD b), .fz (.str w), .ow false (.l ((f ++ e).map D.str)), .ow false (.l ((a' ++ e).map D.str)), .fz (.str x), .fz (.str z), k6, k7], [AV.fz (bookD b), .fz (.str w), .ow false (.l ((f ++ e').map D.str)), .ow false (.l ((a' ++ e').map D.str)), .fz (.str x), .fz (.str z), k6', k7'], ?_, ?_, e', .fz (.str z), k6', k7', rfl, .inr ⟨_, rfl⟩, g6, g7, p'.imp fun q => by rw [tk q]; simp [hxn]⟩
            · rcases h5 with rfl | ⟨_, rfl⟩ <;> simp
            · simp only [push] at hf
              rcases h6 with rfl | ⟨_, rfl⟩ <;> rcases h7 with rfl | ⟨_, rfl⟩ <;> simp [nameB, push, hix, wayD, itP, hlc, hin, hf, -List.map_map, -List.map_append, -List.mem_map]
          · rintro i d ρ hd ⟨e', k6, k7, rfl, h6, h7, p⟩
            simp only [Nat.zero_add] at p ⊢
            rw [List.getElem?_map] at hd
            obtain ⟨y, hy, rfl⟩ : ∃ y, v.give[i]? = some y ∧ pD y = d := by
              cases e : v.give[i]? with
              | none => rw [e] at hd; cases hd
              | some p => rw [e] at hd; exact ⟨p, rfl, Option.some.inj hd⟩
            have htk : ∀ q, (((∃ z' v', z' ∈ (nmsB b).take j ∧ (z', v') ∈ b ∧ x ∈ v'.need.map (·.1) ∧ q ∈ v'.give.map (·.1)) ∨ q ∈ (v.give.take i).map (·.1)) ∨ q = y.1) ↔ ((∃ z' v', z' ∈ (nmsB b).take j ∧ (z', v') ∈ b ∧ x ∈ v'.need.map (·.1) ∧ q ∈ v'.give.map (·.1)) ∨ q ∈ (v.give.take (i + 1)).map (·.1)) := fun q => by
              rw [List.take_add_one, hy, List.map_append, List.mem_append, or_assoc]; simp
            have hfe : (f ++ e').length ≤ 36 := Nat.le_trans (nodup_len (U := goodsB b) p.nd (fun q hq => by
              rcases List.mem_append.mp hq with hq | hq
              · exact (h.reach q hq).good
              · rcases p.sub q hq with ⟨z', v', _, h2, h3, h4⟩ | hq
                · exact (Rel.good ⟨z', v', h2, h3, h4⟩).1
                · obtain ⟨q', hq', rfl⟩ := List.mem_map.mp hq
                  exact (Rel.good ⟨z, v, hm, hxn, List.mem_map.mpr ⟨q', List.mem_of_mem_take hq', rfl⟩⟩).1)) (goodsB_len hb)
            have hin := nin_strs y.1 (f ++ e')
            by_cases hmem : y.1 ∈ f ++ e'
            · refine ⟨[AV.fz (bookD b), .fz (.str w), .ow false (.l ((f ++ e').map D.str)), .ow false (.l ((a' ++ e').map D.str)), .fz (.str x), .fz (.str z), .fz (.str y.1), .fz (.int y.2)], [AV.fz (bookD b), .fz (.str w), .ow false (.l ((f ++ e').map D.str)), .ow false (.l ((a' ++ e').map D.str)), .fz (.str x), .fz (.str z), .fz (.str y.1), .fz (.int y.2)], ?_, ?_, e', _, _, rfl, .inr ⟨_, rfl⟩, .inr ⟨_, rfl⟩, (p.old hmem).imp htk⟩
              · rcases h6 with rfl | ⟨_, rfl⟩ <;> rcases h7 with rfl | ⟨_, rfl⟩ <;> simp
              · rw [decide_eq_true hmem] at hin
                simp [push, hin, -List.map_append]
            · have hz1 : (f ++ e').length < sizeLine := by omega
              have hz2 : (a' ++ e').length < sizeLine := by
                rw [List.length_append] at hfe h73
                rw [List.length_append]; omega
              refine ⟨[AV.fz (bookD b), .fz (.str w), .ow false (.l ((f ++ e').map D.str)), .ow false (.l ((a' ++ e').map D.str)), .fz (.str x), .fz (.str z), .fz (.str y.1), .fz (.int y.2)], [AV.fz (bookD b), .fz (.str w), .ow false (.l ((f ++ (e' ++ [y.1])).map D.str)), .ow false (.l ((a' ++ (e' ++ [y.1])).map D.str)), .fz (.str x), .fz (.str z), .fz (.str y.1), .fz (.int y.2)], ?_, ?_, e' ++ [y.1], _, _, rfl, .inr ⟨_, rfl⟩, .inr ⟨_, rfl⟩, (p.new hmem).imp htk⟩
              · rcases h6 with rfl | ⟨_, rfl⟩ <;> rcases h7 with rfl | ⟨_, rfl⟩ <;> simp
              · rw [decide_eq_false hmem] at hin
                rw [← List.append_assoc, ← List.append_assoc, List.map_append (l₁ := f ++ e'), List.map_append (l₁ := a' ++ e')]
                simp [push, hin, hz1, hz2, -List.map_append, -List.length_append]
        · rw [decide_eq_false hxn] at hin
          refine ⟨[AV.fz (bookD b), .fz (.str w), .ow false (.l ((f ++ e).map D.str)), .ow false (.l ((a' ++ e).map D.str)), .fz (.str x), .fz (.str z), k6, k7], [AV.fz (bookD b), .fz (.str w), .ow false (.l ((f ++ e).map D.str)), .ow false (.l ((a' ++ e).map D.str)), .fz (.str x), .fz (.str z), k6, k7], ?_, ?_, e, .fz (.str z), k6, k7, rfl, .inr ⟨_, rfl⟩, h6, h7, p.imp fun q => by rw [tk q]; simp [hxn]⟩
          · rcases h5 with rfl | ⟨_, rfl⟩ <;> simp
          · rcases h6 with rfl | ⟨_, rfl⟩ <;> rcases h7 with rfl | ⟨_, rfl⟩ <;> simp [nameB, push, hix, wayD, itP, hlc, hin, -List.map_map, -List.map_append, -List.mem_map]
end Wk
set_option Elab.async false
set_option linter.all false
set_option maxRecDepth 100000
set_option maxHeartbeats 8000000
namespace Wk
open PySem PySem.Spec L2 DL
theorem putA_mem2 {α : Type} {ps : List (Str × α)} {z : Str} {a : α} {p : Str × α} (h : p ∈ putA ps z a) : p = (z, a) ∨ (p ∈ ps ∧ p.1 ≠ z) := by
  unfold putA at h
  split at h
  · obtain ⟨q, hq, rfl⟩ := List.mem_map.mp h
    by_cases e : q.1 = z
    · rw [if_pos e, e]; exact .inl rfl
    · rw [if_neg e]; exact .inr ⟨hq, e⟩
  · rename_i n
    rcases List.mem_append.mp h with h | h
    · exact .inr ⟨h, fun e => n (List.mem_map.mpr ⟨_, h, e⟩)⟩
    · exact .inl (List.mem_singleton.mp h)
theorem putA_keep {α : Type} {ps : List (Str × α)} {z : Str} {a : α} (h : z ∈ ps.map (·.1)) : (putA ps z a).map (·.1) = ps.map (·.1) := by rw [putA_keys, if_pos h]
theorem goodsB_nd (b : List (Str × Way)) : (goodsB b).Nodup := srtSet_nodup _
theorem srt_goods (b : List (Str × Way)) : DLS.srt (goodsB b) = goodsB b := srt_idem _
theorem take_new {L : List Str} (nd : L.Nodup) {j : Nat} {z : Str} (h : L[j]? = some z) : z ∉ L.take j := by
  intro hm
  obtain ⟨i, hi, he⟩ := List.getElem_of_mem hm
  rw [List.length_take] at hi
  rw [List.getElem_take] at he
  obtain ⟨hj', hz'⟩ := List.getElem?_eq_some_iff.mp h
  have := (List.getElem_inj nd).mp (he.trans hz'.symm)
  omega
theorem str_at {xs : List Str} {j : Nat} {d : D} (hd : (xs.map D.str)[j]? = some d) : ∃ z, xs[j]? = some z ∧ z ∈ xs ∧ d = .str z := by
  rw [List.getElem?_map] at hd
  cases e : xs[j]? with
  | none => rw [e] at hd; cases hd
  | some z => rw [e] at hd; exact ⟨z, rfl, List.mem_of_getElem? e, (Option.some.inj hd).symm⟩
theorem pair_at {xs : List (Str × Int)} {j : Nat} {d : D} (hd : (xs.map pD)[j]? = some d) : ∃ p, xs[j]? = some p ∧ p ∈ xs ∧ d = pD p := by
  rw [List.getElem?_map] at hd
  cases e : xs[j]? with
  | none => rw [e] at hd; cases hd
  | some z => rw [e] at hd; exact ⟨z, rfl, List.mem_of_getElem? e, (Option.some.inj hd).symm⟩
theorem gb_ok {b : List (Str × Way)} (hb : Book b) : ∃ ps as, ps.map (·.1) = goodsB b ∧ (∀ x l, (x, l) ∈ ps → ∀ y, y ∈ l ↔ Rel b x y) ∧ F_goods_behind [.fz (bookD b)] = .val (.dic (kvsD lstS ps)) as := by
  obtain ⟨a1, h1⟩ := allgoods_ok hb
  have hs : sizeLine = 16777216 := sizeLine_eq
  have hgl := goodsB_len hb
  let b1 : Ev → SOut := seqS (DL.putAt 1 (varE 2) (mapO OD.dat (lstN nilL))) nxS
  let inner : Ev → SOut := seqS (DL.putAt 1 (varE 2) (mapO OD.dat (unF sortSetD (datO (binF addO (datO (binF ixO (varR 1) (varR 2))) (datO (mapO OD.dat (lcF (itF (binF ixO (datO (binF ixO (varR 0) (varR 3))) (datO (conE (.int 1))))) (.tp [5, 6]) yesF (varE 5) [5, 6])))))))) nxS
  let b2 : Ev → SOut := seqS (forF (itF (binF ixO (datO (binF ixO (varR 0) (varR 3))) (datO (conE (.int 0))))) (.tp [2, 4]) inner) nxS
  have key1 := for_inv (g := .nm 2) (b := b1) (fun j ρ => ∃ (k2 : AV), ρ = [AV.fz (bookD b), .ow false (.d (kvsD lstS (((goodsB b).take j).map fun z => (z, ([] : List Str))))), k2, .un, .un, .un, .un] ∧ (k2 = .un ∨ ∃ d, k2 = .fz d))
    ((goodsB b).map D.str) 0 [AV.fz (bookD b), .ow false (.d []), .un, .un, .un, .un, .un] ⟨.un, rfl, .inl rfl⟩ ?_
  rotate_left
  · rintro j d ρ hd ⟨k2, rfl, h2⟩
    simp only [Nat.zero_add]
    obtain ⟨z, hz, hm, rfl⟩ := str_at hd
    have hj : j < (goodsB b).length := (List.getElem?_eq_some_iff.mp hz).1
    have hz1 : (kvsD lstS (((goodsB b).take j).map fun z => (z, ([] : List Str)))).length < sizeLine := by rw [kvsD_length, List.length_map, List.length_take]; omega
    have hnew : z ∉ (((goodsB b).take j).map fun z => (z, ([] : List Str))).map (·.1) := by
      rw [List.map_map]
      have : ((fun x : Str × List Str => x.1) ∘ fun z : Str => (z, ([] : List Str))) = id := rfl
      rw [this, List.map_id]
      exact take_new (goodsB_nd b) hz
    have hp := putD_kvs (enc := lstS) (((goodsB b).take j).map fun z => (z, ([] : List Str))) z []
    have e0 : lstS [] = .lst [] := rfl
    rw [putA_new hnew, e0, show (((goodsB b).take j).map fun z => (z, ([] : List Str))) ++ [(z, [])] = ((goodsB b).take (j + 1)).map fun z => (z, ([] : List Str)) by rw [List.take_add_one, hz, List.map_append]; rfl] at hp
    generalize kvsD lstS (((goodsB b).take j).map fun z => (z, ([] : List Str))) = K0 at hz1 hp ⊢
    refine ⟨[AV.fz (bookD b), .ow false (.d K0), .fz (.str z), .un, .un, .un, .un], [AV.fz (bookD b), .ow false (.d (kvsD lstS (((goodsB b).take (j + 1)).map fun z => (z, ([] : List Str))))), .fz (.str z), .un, .un, .un, .un], ?_, ?_, .fz (.str z), rfl, .inr ⟨_, rfl⟩⟩
    · rcases h2 with rfl | ⟨_, rfl⟩ <;> simp
    · simp [b1, hz1, hp]
  obtain ⟨ρ1, hf1, k2, rfl, h2⟩ := key1
  simp only [Nat.zero_add, List.length_map, List.take_length] at hf1
  have mp : ((goodsB b).map fun z => (z, ([] : List Str))).map (·.1) = goodsB b := by rw [List.map_map]; exact List.map_id _
  have key2 := for_inv (g := .nm 3) (b := b2) (fun j ρ => ∃ (ps : List (Str × List Str)) (k2 k3 k4 : AV), ρ = [AV.fz (bookD b), .ow false (.d (kvsD lstS ps)), k2, k3, k4, .un, .un] ∧ (k2 = .un ∨ ∃ d, k2 = .fz d) ∧ (k3 = .un ∨ ∃ d, k3 = .fz d) ∧ (k4 = .un ∨ ∃ d, k4 = .fz d) ∧ ps.map (·.1) = goodsB b ∧
      ∀ x l, (x, l) ∈ ps → l.Nodup ∧ ∀ y, y ∈ l ↔ ∃ z v, (z, v) ∈ b.take j ∧ x ∈ v.need.map (·.1) ∧ y ∈ v.give.map (·.1))
    ((b.map (·.1)).map D.str) 0 [AV.fz (bookD b), .ow false (.d (kvsD lstS ((goodsB b).map fun z => (z, ([] : List Str))))), k2, .un, .un, .un, .un] ⟨_, k2, .un, .un, rfl, h2, .inl rfl, .inl rfl, mp, fun x l h => by
      obtain ⟨z, hz, e⟩ := List.mem_map.mp h
      cases e
      exact ⟨List.nodup_nil, fun y => by simp⟩⟩ ?_
  · obtain ⟨ρ2, hf2, ps, k2', k3, k4, rfl, _, _, _, mk, all⟩ := key2
    simp only [Nat.zero_add, List.length_map, List.take_length] at hf2 all
    refine ⟨ps, [.fz (bookD b)], mk, fun x l h y => by
      rw [(all x l h).2 y]; rfl, ?_⟩
    simp only [b1] at hf1
    simp only [b2, inner] at hf2
    have hkf : ∀ ρ : Ev, ρ[0]? = some (.fz (bookD b)) → keysF (varE 0) ρ = .val ((b.map (·.1)).map D.str) ρ := fun ρ h => by
      unfold keysF
      rw [e_varE, h]
      show Out.val ((kvsD wayD b).map fun kv => keyD kv.1) ρ = _
      rw [keys_kvs]
    simp [F_goods_behind, s_goods_behind, h1, hf1, -e_keysF, -List.map_map]
    rw [hkf _ rfl]
    simp [hf2, -List.map_map]
  · rintro j d ρ hd ⟨ps, k2, k3, k4, rfl, h2, h3, h4, mk, all⟩
    simp only [Nat.zero_add] at all ⊢
    obtain ⟨z, v, hj, hm, rfl⟩ := at_of hd
    have hv : GWay v := hb.way _ hm
    have hix : ixO (bookD b) (.str z) = some (wayD v) := way_at hb.nd hm
    have nd : (ps.map (·.1)).Nodup := by rw [mk]; exact goodsB_nd b
    have key3 := for_inv (g := .tp [2, 4]) (b := inner) (fun i ρ => ∃ (qs : List (Str × List Str)) (k2 k4 : AV), ρ = [AV.fz (bookD b), .ow false (.d (kvsD lstS qs)), k2, .fz (.str z), k4, .un, .un] ∧ (k2 = .un ∨ ∃ d, k2 = .fz d) ∧ (k4 = .un ∨ ∃ d, k4 = .fz d) ∧ qs.map (·.1) = goodsB b ∧
        ∀ x l, (x, l) ∈ qs → l.Nodup ∧ ∀ y, y ∈ l ↔ ((∃ z v, (z, v) ∈ b.take j ∧ x ∈ v.need.map (·.1) ∧ y ∈ v.give.map (·.1)) ∨ (x ∈ (v.need.take i).map (·.1) ∧ y ∈ v.give.map (·.1))))
      (v.need.map pD) 0 [AV.fz (bookD b), .ow false (.d (kvsD lstS ps)), k2, .fz (.str z), k4, .un, .un] ⟨ps, k2, k4, rfl, h2, h4, mk, fun x l h => ⟨(all x l h).1, fun y => by rw [(all x l h).2 y]; simp⟩⟩ ?_
    · obtain ⟨ρ3, hf3, qs, k2', k4', rfl, g2, g4, mk', all'⟩ := key3
      simp only [Nat.zero_add, List.length_map, List.take_length] at hf3 all'
      refine ⟨[AV.fz (bookD b), .ow false (.d (kvsD lstS ps)), k2, .fz (.str z), k4, .un, .un], [AV.fz (bookD b), .ow false (.d (kvsD lstS qs)), k2', .fz (.str z), k4', .un, .un], ?_, ?_, qs, k2', .fz (.str z), k4', rfl, g2, .inr ⟨_, rfl⟩, g4, mk', fun x l h => ⟨(all' x l h).1, fun y => ?_⟩⟩
      · rcases h3 with rfl | ⟨_, rfl⟩ <;> simp
      · simp only [inner] at hf3
        simp [b2, inner, hix, wayD, itP, hf3, -List.map_map, -List.map_append]
      · rw [(all' x l h).2 y, List.take_add_one, hj]
        constructor
        · rintro (⟨z', v', q1, q2⟩ | q)
          · exact ⟨z', v', List.mem_append_left _ q1, q2⟩
          · exact ⟨z, v, List.mem_append_right _ (by simp), q⟩
        · rintro ⟨z', v', q1, q2⟩
          rcases List.mem_append.mp q1 with q1 | q1
          · exact .inl ⟨z', v', q1, q2⟩
          · have : (z', v') = (z, v) := by simpa using q1
            cases this
            exact .inr q2
    · rintro i d ρ hd ⟨qs, k2, k4, rfl, h2, h4, mk, all⟩
      simp only [Nat.zero_add] at all ⊢
      obtain ⟨p, hp, hpm, rfl⟩ := pair_at hd
      have nd : (qs.map (·.1)).Nodup := by rw [mk]; exact goodsB_nd b
      have hpg : p.1 ∈ qs.map (·.1) := by
        rw [mk, goodsB_mem]
        exact List.mem_flatten.mpr ⟨_, List.mem_map.mpr ⟨_, hm, rfl⟩, by unfold wordsW; rw [List.map_append]; exact List.mem_append_left _ (List.mem_map.mpr ⟨p, hpm, rfl⟩)⟩
      obtain ⟨l, el, hl⟩ := findA_mem hpg
      obtain ⟨ndl, meml⟩ := all _ _ hl
      have hl36 : l.length ≤ 36 := Nat.le_trans (nodup_len (U := goodsB b) ndl (fun y hy => by
        rcases (meml y).mp hy with ⟨z', v', q1, q2, q3⟩ | ⟨q2, q3⟩
        · exact (Rel.good ⟨z', v', List.mem_of_mem_take q1, q2, q3⟩).1
        · obtain ⟨q', hq', e⟩ := List.mem_map.mp q2
          exact (Rel.good (x := p.1) ⟨z, v, hm, List.mem_map.mpr ⟨p, hpm, rfl⟩, q3⟩).1)) hgl
      have hi2 : ixO (.dic (kvsD lstS qs)) (.str p.1) = some (lstS l) := get_of nd hl
      have hg3 := hv.give.hi
      have hlc := lc_pure (g := .tp [5, 6]) (tt := yesF) (te := varE 5) (vs := [5, 6]) (ρ := [AV.fz (bookD b), .ow false (.d (kvsD lstS qs)), .fz (.str p.1), .fz (.str z), .fz (.int p.2), .un, .un]) (fun _ => true) (fun d => match d with | .tup (a :: _) => a | _ => .non) (v.give.map pD) [] (by simp; omega)
        (fun d hd => by
          obtain ⟨p, hp, rfl⟩ := List.mem_map.mp hd
          simp)
      rw [List.nil_append, List.filter_eq_self.mpr (fun _ _ => rfl), List.map_map] at hlc
      have e3 : v.give.map ((fun d => match d with | .tup (a :: _) => a | _ => D.non) ∘ pD) = (v.give.map (·.1)).map D.str := by rw [List.map_map]; rfl
      rw [e3] at hlc
      have ha := add_strs (l.map D.str) ((v.give.map (·.1)).map D.str) (by simp; omega)
      rw [← List.map_append] at ha
      have hss := sortSet_strs (l ++ v.give.map (·.1)) (by simp; omega)
      have hql : qs.length ≤ 36 := by have := congrArg List.length mk; rw [List.length_map] at this; omega
      have hz1 : (kvsD lstS qs).length < sizeLine := by rw [kvsD_length]; omega
      have hpd := putD_kvs (enc := lstS) qs p.1 (DLS.srtSet (l ++ v.give.map (·.1)))
      refine ⟨[AV.fz (bookD b), .ow false (.d (kvsD lstS qs)), .fz (.str p.1), .fz (.str z), .fz (.int p.2), .un, .un], [AV.fz (bookD b), .ow false (.d (kvsD lstS (putA qs p.1 (DLS.srtSet (l ++ v.give.map (·.1)))))), .fz (.str p.1), .fz (.str z), .fz (.int p.2), .un, .un], ?_, ?_, putA qs p.1 (DLS.srtSet (l ++ v.give.map (·.1))), _, _, rfl, .inr ⟨_, rfl⟩, .inr ⟨_, rfl⟩, by rw [putA_keep hpg]; exact mk, fun x l' h => ?_⟩
      · rcases h2 with rfl | ⟨_, rfl⟩ <;> rcases h4 with rfl | ⟨_, rfl⟩ <;> simp
      · simp [inner, hix, wayD, itP, hlc, hi2, ha, hss, hz1, hpd, -List.map_map, -List.map_append]
      · rw [List.take_add_one, hp]
        rcases putA_mem2 h with e | ⟨h, hne⟩
        · cases e
          refine ⟨srtSet_nodup _, fun y => ?_⟩
          rw [srtSet_mem, List.mem_append, meml y]
          constructor
          · rintro ((q | ⟨q1, q2⟩) | q)
            · exact .inl q
            · exact .inr ⟨by simpa using .inl (by simpa using q1), q2⟩
            · exact .inr ⟨by simp, q⟩
          · rintro (q | ⟨_, q⟩)
            · exact .inl (.inl q)
            · exact .inr q
        · refine ⟨(all x l' h).1, fun y => ?_⟩
          rw [(all x l' h).2 y]
          have hne' : x ≠ p.1 := hne
          rw [List.map_append, List.mem_append]
          simp [hne']
end Wk
set_option Elab.async false
set_option linter.all false
set_option maxRecDepth 100000
set_option maxHeartbeats 8000000
namespace Wk
open PySem PySem.Spec L2 DL
open Classical in
noncomputable def rc (b : List (Str × Way)) (x y : Str) : Bool := decide (Rch (Rel b) x y)
theorem rc_iff {b : List (Str × Way)} {x y : Str} : rc b x y = true ↔ Rch (Rel b) x y := by unfold rc; exact @decide_eq_true_iff _ (Classical.propDecidable _)
theorem rc_dec {b : List (Str × Way)} {x y : Str} {f : List Str} (h : y ∈ f ↔ Rch (Rel b) x y) : decide (y ∈ f) = rc b x y := by
  rw [Bool.eq_iff_iff, decide_eq_true_iff, rc_iff, h]
noncomputable def ringOf (b : List (Str × Way)) (w : Str) : List Str := (goodsB b).filter fun o => rc b w o && rc b o w
noncomputable def rowStep (b : List (Str × Way)) (rows : List (List Str)) (w : Str) : List (List Str) := if rc b w w = true then (if ringOf b w ∈ rows then rows else rows ++ [ringOf b w]) else rows
noncomputable def rowsT (b : List (Str × Way)) (j : Nat) : List (List Str) := ((goodsB b).take j).foldl (rowStep b) []
theorem rowsT_succ {b : List (Str × Way)} {j : Nat} {z : Str} (h : (goodsB b)[j]? = some z) : rowsT b (j + 1) = rowStep b (rowsT b j) z := by
  unfold rowsT; rw [List.take_add_one, h, List.foldl_append]; rfl
theorem rowsT_prop (b : List (Str × Way)) (j : Nat) : (rowsT b j).length ≤ j ∧ ∀ r ∈ rowsT b j, ∀ x ∈ r, x ∈ goodsB b := by
  induction j with
  | zero => exact ⟨by simp [rowsT], by simp [rowsT]⟩
  | succ j ih =>
    cases e : (goodsB b)[j]? with
    | none =>
      have : rowsT b (j + 1) = rowsT b j := by unfold rowsT; rw [List.take_add_one, e]; simp
      rw [this]; exact ⟨by omega, ih.2⟩
    | some z =>
      rw [rowsT_succ e]
      unfold rowStep
      split
      · split
        · exact ⟨by omega, ih.2⟩
        · refine ⟨by rw [List.length_append, List.length_singleton]; omega, fun r hr => ?_⟩
          rcases List.mem_append.mp hr with hr | hr
          · exact ih.2 r hr
          · rw [List.mem_singleton] at hr; subst hr
            exact fun x hx => (List.mem_filter.mp hx).1
      · exact ⟨by omega, ih.2⟩
/-! lists of lists of texts -/
theorem toPy_row (r : List Str) : toPy (lstS r) = some (.list (r.map PyData.str)) := by rw [toPy, toPyL_strs]; rfl
theorem toPyL_rows (rows : List (List Str)) : toPyL (rows.map lstS) = some (rows.map fun r => .list (r.map PyData.str)) := by
  induction rows with
  | nil => rw [List.map_nil, toPyL]; rfl
  | cons r rows ih => rw [List.map_cons, toPyL, toPy_row, ih]; rfl
theorem lay_rows (rows : List (List Str)) (h : ∀ r ∈ rows, ∀ x ∈ r, Plain x) : PyData.canLayAll0 (rows.map fun r => .list (r.map PyData.str)) = true := by
  induction rows with
  | nil => simp [PyData.canLayAll0]
  | cons x xs ih =>
    rw [List.map_cons, PyData.canLayAll0, PyData.canLay0, lay_strs x (h x (.head _)), ih fun y hy => h y (.tail _ hy)]; rfl
theorem depth_rows (rows : List (List Str)) : PyData.depthAll (rows.map fun r => .list (r.map PyData.str)) ≤ 1 := by
  induction rows with
  | nil => simp [PyData.depthAll]
  | cons x xs ih => rw [List.map_cons, PyData.depthAll, PyData.depth, depth_strs]; omega
theorem shaped_rows (rows : List (List Str)) (h : ∀ r ∈ rows, ∀ x ∈ r, Plain x) : SeqAt.shaped (.list (rows.map fun r => .list (r.map PyData.str))) = true := by
  unfold SeqAt.shaped
  rw [PyData.canLay0, lay_rows rows h, PyData.depth, Bool.true_and]
  have := depth_rows rows
  exact decide_eq_true (by omega)
theorem any_rows (r : List Str) (rows : List (List Str)) : ((rows.map fun r => PyData.list (r.map PyData.str)).any fun z => PyData.eqv z (.list (r.map PyData.str))) = decide (r ∈ rows) := by
  induction rows with
  | nil => rfl
  | cons x xs ih =>
    rw [List.map_cons, List.any_cons, ih, PyData.eqv, eqvAll_strs, ← Bool.decide_or]
    refine decide_eq_decide.mpr ?_
    rw [List.mem_cons]
    exact ⟨fun h => h.imp Eq.symm id, fun h => h.imp Eq.symm id⟩
theorem nin_rows (r : List Str) (rows : List (List Str)) (hr : ∀ x ∈ r, Plain x) (h : ∀ r ∈ rows, ∀ x ∈ r, Plain x) : ninA (lstS r) (.lst (rows.map lstS)) = some (.bl (!decide (r ∈ rows))) := by
  have e1 : inF (lstS r) (.lst (rows.map lstS)) = none := by
    show (if isFlat (lstS r) = true ∧ (rows.map lstS).all isFlat = true then some (D.bl (inV (flatOf (lstS r)) ((rows.map lstS).map flatOf))) else none) = none
    rw [if_neg]
    exact fun z => by cases z.1
  have e2 : inP (lstS r) (.lst (rows.map lstS)) = some (.bl (decide (r ∈ rows))) := by
    unfold inP
    rw [toPy_row]
    dsimp only
    rw [toPyL_rows]
    dsimp only
    rw [if_pos ⟨shaped_strs r hr, shaped_rows rows h⟩, any_rows]
  exact orO1 ((orO2 (notO2 e1)).trans (orO1 (notO1 e2)))
theorem eqvAll_rows (rows : List (List Str)) : PyData.eqvAll (rows.map fun r => .list (r.map PyData.str)) (rows.map fun r => .list (r.map PyData.str)) = true := by
  induction rows with
  | nil => simp [PyData.eqvAll]
  | cons x xs ih => rw [List.map_cons, PyData.eqvAll, PyData.eqv, eqvAll_strs, ih]; simp
theorem ne_rows (rows : List (List Str)) (h : ∀ r ∈ rows, ∀ x ∈ r, Plain x) : neO (.lst (rows.map lstS)) (.lst (rows.map lstS)) = some (.bl false) := by
  have e : eqP (.lst (rows.map lstS)) (.lst (rows.map lstS)) = some (.bl true) := by
    unfold eqP
    have : toPy (.lst (rows.map lstS)) = some (.list (rows.map fun r => .list (r.map PyData.str))) := by rw [toPy, toPyL_rows]; rfl
    rw [this]
    dsimp only
    rw [if_pos ⟨shaped_rows rows h, shaped_rows rows h⟩, PyData.eqv, eqvAll_rows]
  exact (orO2 (notO2 rfl)).trans (notO1 e)
theorem ring_plain {b : List (Str × Way)} (hb : Book b) {w : Str} : ∀ x ∈ ringOf b w, Plain x := fun x hx => (goodsB_wd hb (List.mem_filter.mp hx).1).plain
theorem rows_plain {b : List (Str × Way)} (hb : Book b) {j : Nat} : ∀ r ∈ rowsT b j, ∀ x ∈ r, Plain x := fun r hr x hx => (goodsB_wd hb ((rowsT_prop b j).2 r hr x hx)).plain
abbrev NR (k : AV) : Prop := k = .un ∨ (∃ d, k = .fz d) ∨ ∃ o, k = .ow false o
theorem rings_ok {b : List (Str × Way)} (hb : Book b) : ∃ as, F_rings [.fz (bookD b)] = .val (.lst ((rowsT b (goodsB b).length).map lstS)) as := by
  obtain ⟨a1, h1⟩ := look_ok hb
  obtain ⟨ps, a2, mk, succ, h2⟩ := gb_ok hb
  have hs : sizeLine = 16777216 := sizeLine_eq
  have hgl := goodsB_len hb
  have nd : (ps.map (·.1)).Nodup := by rw [mk]; exact goodsB_nd b
  let SD : D := .dic (kvsD lstS ps)
  have hsk : skD SD = some (.l ((goodsB b).map D.str)) := by have := skD_kvs (enc := lstS) ps; rw [mk, srt_goods] at this; exact this
  let b1 : Ev → SOut := seqS (DL.putAt 2 (varE 3) (callF 2 F_behind (datA (varE 1) (datA (varE 3) nilA)))) nxS
  let lcE : Ev → Out OD := lcF (itF (mapO OD.dat (unF skD (varR 1)))) (.nm 6) (andF (tstF (binF inA (varR 6) (datO (binF ixO (varR 2) (varR 3))))) (tstF (binF inA (varR 3) (datO (binF ixO (varR 2) (varR 6)))))) (varE 6) [6]
  let b2 : Ev → SOut := seqS (ifS (tstF (binF inA (varR 3) (datO (binF ixO (varR 2) (varR 3))))) (seqS (setN 5 lcE) (seqS (ifS (tstF (binF ninA (varR 5) (varR 4))) (seqS (exprS (appE 4 (varE 5))) nxS) nxS) nxS)) nxS) nxS
  have key1 := for_inv (g := .nm 3) (b := b1) (fun j ρ => ∃ (fs : List (Str × List Str)) (k3 : AV), ρ = [AV.fz (bookD b), .fz SD, .ow false (.d (kvsD lstS fs)), k3, .un, .un, .un] ∧ (k3 = .un ∨ ∃ d, k3 = .fz d) ∧ fs.map (·.1) = (goodsB b).take j ∧ ∀ x f, (x, f) ∈ fs → ∀ y, y ∈ f ↔ Rch (Rel b) x y)
    ((goodsB b).map D.str) 0 [AV.fz (bookD b), .fz SD, .ow false (.d []), .un, .un, .un, .un] ⟨[], .un, rfl, .inl rfl, rfl, fun x f h => by cases h⟩ ?_
  rotate_left
  · rintro j d ρ hd ⟨fs, k3, rfl, h3, mf, all⟩
    simp only [Nat.zero_add] at mf ⊢
    obtain ⟨z, hz, hm, rfl⟩ := str_at hd
    obtain ⟨f, a3, memf, ndf, hf⟩ := behind_ok hb nd (fun x => by rw [mk]) succ hm
    have hj : j < (goodsB b).length := (List.getElem?_eq_some_iff.mp hz).1
    have hfl : fs.length ≤ 36 := by have := congrArg List.length mf; rw [List.length_map, List.length_take] at this; omega
    have hz1 : (kvsD lstS fs).length < sizeLine := by rw [kvsD_length]; omega
    have hnew : z ∉ fs.map (·.1) := by rw [mf]; exact take_new (goodsB_nd b) hz
    have hp := putD_kvs (enc := lstS) fs z f
    rw [putA_new hnew] at hp
    refine ⟨[AV.fz (bookD b), .fz SD, .ow false (.d (kvsD lstS fs)), .fz (.str z), .un, .un, .un], [AV.fz (bookD b), .fz SD, .ow false (.d (kvsD lstS (fs ++ [(z, f)]))), .fz (.str z), .un, .un, .un], ?_, ?_, fs ++ [(z, f)], .fz (.str z), rfl, .inr ⟨_, rfl⟩, by rw [List.map_append, mf, List.take_add_one, hz]; rfl, fun x f' h => ?_⟩
    · rcases h3 with rfl | ⟨_, rfl⟩ <;> simp
    · have hf' : F_behind [.fz SD, .fz (.str z)] = .val (lstS f) a3 := hf
      simp [b1, hf', hz1, hp]
    · rcases List.mem_append.mp h with h | h
      · exact all x f' h
      · have : (x, f') = (z, f) := by simpa using h
        cases this; exact memf
  obtain ⟨ρ1, hf1, fs, k3, rfl, h3, mf, all⟩ := key1
  simp only [Nat.zero_add, List.length_map, List.take_length] at hf1 mf
  have ndf : (fs.map (·.1)).Nodup := by rw [mf]; exact goodsB_nd b
  have hget : ∀ z ∈ goodsB b, ∃ f, ixO (.dic (kvsD lstS fs)) (.str z) = some (lstS f) ∧ ∀ y, y ∈ f ↔ Rch (Rel b) z y := fun z hz => by
    obtain ⟨f, _, hf⟩ := findA_mem (ps := fs) (w := z) (by rw [mf]; exact hz)
    exact ⟨f, get_of ndf hf, all z f hf⟩
  have key2 := for_inv (g := .nm 3) (b := b2) (fun j ρ => ∃ (k3 k5 : AV), ρ = [AV.fz (bookD b), .fz SD, .ow false (.d (kvsD lstS fs)), k3, .ow false (.l ((rowsT b j).map lstS)), k5, .un] ∧ (k3 = .un ∨ ∃ d, k3 = .fz d) ∧ NR k5)
    ((goodsB b).map D.str) 0 [AV.fz (bookD b), .fz SD, .ow false (.d (kvsD lstS fs)), k3, .ow false (.l []), .un, .un] ⟨k3, .un, rfl, h3, .inl rfl⟩ ?_
  · obtain ⟨ρ2, hf2, k3', k5, rfl, _, _⟩ := key2
    simp only [Nat.zero_add, List.length_map] at hf2
    refine ⟨[.fz (bookD b)], ?_⟩
    simp only [b1] at hf1
    simp only [b2, lcE] at hf2
    have hkf : keysF (varE 1) [AV.fz (bookD b), .fz SD, .ow false (.d []), .un, .un, .un, .un] = .val ((goodsB b).map D.str) [AV.fz (bookD b), .fz SD, .ow false (.d []), .un, .un, .un, .un] := by
      show Out.val ((kvsD lstS ps).map fun kv => keyD kv.1) _ = _
      rw [keys_kvs, mk]
    have h2' : F_goods_behind [.fz (bookD b)] = .val SD a2 := h2
    simp [F_rings, s_rings, h1, h2', -e_keysF, -List.map_map]
    rw [hkf]
    simp [hf1, hsk, hf2, -List.map_map]
  · rintro j d ρ hd ⟨k3, k5, rfl, h3, h5⟩
    simp only [Nat.zero_add]
    obtain ⟨z, hz, hm, rfl⟩ := str_at hd
    obtain ⟨f, hf, memf⟩ := hget z hm
    have hj : j < (goodsB b).length := (List.getElem?_eq_some_iff.mp hz).1
    have hzz := in_strs z f
    rw [rc_dec (memf z)] at hzz
    have hlc : ∀ k5, lcLoop (.nm 6) (andF (tstF (binF inA (varR 6) (datO (binF ixO (varR 2) (varR 3))))) (tstF (binF inA (varR 3) (datO (binF ixO (varR 2) (varR 6)))))) (varE 6) [6] ((goodsB b).map D.str) [AV.fz (bookD b), .fz SD, .ow false (.d (kvsD lstS fs)), .fz (.str z), .ow false (.l ((rowsT b j).map lstS)), k5, .un] [] =
        .val ((ringOf b z).map D.str) [AV.fz (bookD b), .fz SD, .ow false (.d (kvsD lstS fs)), .fz (.str z), .ow false (.l ((rowsT b j).map lstS)), k5, .un] := fun k5 => by
      have := lc_pure (g := .nm 6) (tt := andF (tstF (binF inA (varR 6) (datO (binF ixO (varR 2) (varR 3))))) (tstF (binF inA (varR 3) (datO (binF ixO (varR 2) (varR 6)))))) (te := varE 6) (vs := [6]) (ρ := [AV.fz (bookD b), .fz SD, .ow false (.d (kvsD lstS fs)), .fz (.str z), .ow false (.l ((rowsT b j).map lstS)), k5, .un]) (onS fun o => rc b z o && rc b o z) id ((goodsB b).map D.str) [] (by simp; omega)
        (fun d hd => by
          obtain ⟨o, ho, rfl⟩ := List.mem_map.mp hd
          obtain ⟨f', hf', memf'⟩ := hget o ho
          have i1 := in_strs o f
          rw [rc_dec (memf o)] at i1
          have i2 := in_strs z f'
          rw [rc_dec (memf' z)] at i2
          refine ⟨[AV.fz (bookD b), .fz SD, .ow false (.d (kvsD lstS fs)), .fz (.str z), .ow false (.l ((rowsT b j).map lstS)), k5, .fz (.str o)], by simp, ?_, by simp, by simp, by simp⟩
          cases c1 : rc b z o <;> rw [c1] at i1 <;> simp [hf, hf', i1, i2, onS, c1])
      rw [List.nil_append, List.map_id, filter_onS] at this
      exact this
    cases c : rc b z z with
    | false =>
      rw [c] at hzz
      have er : rowsT b (j + 1) = rowsT b j := by rw [rowsT_succ hz]; unfold rowStep; rw [if_neg (by rw [c]; decide)]
      rw [er]
      refine ⟨[AV.fz (bookD b), .fz SD, .ow false (.d (kvsD lstS fs)), .fz (.str z), .ow false (.l ((rowsT b j).map lstS)), k5, .un], [AV.fz (bookD b), .fz SD, .ow false (.d (kvsD lstS fs)), .fz (.str z), .ow false (.l ((rowsT b j).map lstS)), k5, .un], ?_, ?_, _, _, rfl, .inr ⟨_, rfl⟩, h5⟩
      · rcases h3 with rfl | ⟨_, rfl⟩ <;> simp
      · simp [b2, hf, hzz]
    | true =>
      rw [c] at hzz
      have hni := nin_rows (ringOf b z) (rowsT b j) (ring_plain hb) (rows_plain hb)
      by_cases hin : ringOf b z ∈ rowsT b j
      · rw [decide_eq_true hin] at hni
        have er : rowsT b (j + 1) = rowsT b j := by rw [rowsT_succ hz]; unfold rowStep; rw [if_pos c, if_pos hin]
        rw [er]
        refine ⟨[AV.fz (bookD b), .fz SD, .ow false (.d (kvsD lstS fs)), .fz (.str z), .ow false (.l ((rowsT b j).map lstS)), k5, .un], [AV.fz (bookD b), .fz SD, .ow false (.d (kvsD lstS fs)), .fz (.str z), .ow false (.l ((rowsT b j).map lstS)), .ow false (.l ((ringOf b z).map D.str)), .un], ?_, ?_, _, _, rfl, .inr ⟨_, rfl⟩, .inr (.inr ⟨_, rfl⟩)⟩
        · rcases h3 with rfl | ⟨_, rfl⟩ <;> simp
        · rcases h5 with rfl | ⟨_, rfl⟩ | ⟨_, rfl⟩ <;> simp [b2, lcE, hf, hzz, hsk, hlc, hni]
      · rw [decide_eq_false hin] at hni
        have er : rowsT b (j + 1) = rowsT b j ++ [ringOf b z] := by rw [rowsT_succ hz]; unfold rowStep; rw [if_pos c, if_neg hin]
        have hz1 : (rowsT b j).length < sizeLine := by have := (rowsT_prop b j).1; omega
        rw [er]
        refine ⟨[AV.fz (bookD b), .fz SD, .ow false (.d (kvsD lstS fs)), .fz (.str z), .ow false (.l ((rowsT b j).map lstS)), k5, .un], [AV.fz (bookD b), .fz SD, .ow false (.d (kvsD lstS fs)), .fz (.str z), .ow false (.l ((rowsT b j ++ [ringOf b z]).map lstS)), .fz (lstS (ringOf b z)), .un], ?_, ?_, _, _, rfl, .inr ⟨_, rfl⟩, .inr (.inl ⟨_, rfl⟩)⟩
        · rcases h3 with rfl | ⟨_, rfl⟩ <;> simp
        · rcases h5 with rfl | ⟨_, rfl⟩ | ⟨_, rfl⟩ <;> simp [b2, lcE, hf, hzz, hsk, hlc, hni, hz1]
end Wk
set_option Elab.async false
set_option linter.all false
set_option maxRecDepth 100000
set_option maxHeartbeats 8000000
namespace Wk
open PySem PySem.Spec L2 DL
theorem bh_ex {b : List (Str × Way)} (hb : Book b) (w : Str) : ∃ f : List Str, w ∈ goodsB b → (∀ y, y ∈ f ↔ Rch (Rel b) w y) ∧ ∃ as, F_law_behind [.fz (bookD b), .fz (.str w)] = .val (lstS f) as := by
  by_cases h : w ∈ goodsB b
  · obtain ⟨f, as, h1, _, h2⟩ := lbehind_ok hb h
    exact ⟨f, fun _ => ⟨h1, as, h2⟩⟩
  · exact ⟨[], fun z => absurd z h⟩
noncomputable def bh {b : List (Str × Way)} (hb : Book b) (w : Str) : List Str := Classical.choose (bh_ex hb w)
theorem bh_spec {b : List (Str × Way)} (hb : Book b) {w : Str} (h : w ∈ goodsB b) : (∀ y, y ∈ bh hb w ↔ Rch (Rel b) w y) ∧ ∃ as, F_law_behind [.fz (bookD b), .fz (.str w)] = .val (lstS (bh hb w)) as := Classical.choose_spec (bh_ex hb w) h
theorem pairs_kvs {α : Type} {enc : α → D} : ∀ s : List (Str × α), pairsD (s.map fun p => .tup [.str p.1, enc p.2]) = some (kvsD enc s)
  | [] => rfl
  | p :: s => by rw [List.map_cons, pairsD, pairs_kvs s]; rfl
theorem dict_kvs {α : Type} {enc : α → D} {s : List (Str × α)} (nd : (s.map (·.1)).Nodup) : dictD (.lst (s.map fun p => .tup [.str p.1, enc p.2])) = some (.d (kvsD enc s)) := by
  show (pairsD _).map _ = _
  rw [pairs_kvs]
  have := merge_kvs (enc := enc) s [] (by simpa using nd)
  rw [List.nil_append] at this
  exact congrArg (fun x => some (OD.d x)) this
theorem lrings_ok {b : List (Str × Way)} (hb : Book b) : ∃ as, F_law_rings [.fz (bookD b)] = .val (.lst ((rowsT b (goodsB b).length).map lstS)) as := by
  obtain ⟨a1, h1⟩ := lgoods_ok hb
  have hs : sizeLine = 16777216 := sizeLine_eq
  have hgl := goodsB_len hb
  let fs : List (Str × List Str) := (goodsB b).map fun w => (w, bh hb w)
  have mf : fs.map (·.1) = goodsB b := by show ((goodsB b).map _).map _ = _; rw [List.map_map]; exact List.map_id _
  have ndf : (fs.map (·.1)).Nodup := by rw [mf]; exact goodsB_nd b
  have hget : ∀ z ∈ goodsB b, ∃ f, ixO (.dic (kvsD lstS fs)) (.str z) = some (lstS f) ∧ ∀ y, y ∈ f ↔ Rch (Rel b) z y := fun z hz => ⟨bh hb z, get_of ndf (List.mem_map.mpr ⟨z, hz, rfl⟩), (bh_spec hb hz).1⟩
  have hz2 : 2 ≤ sizeLine := by omega
  have hl1 := lc_pure (g := .nm 3) (tt := yesF) (te := tupE (consL (varE 3) (consL (callF 2 F_law_behind (datA (varE 0) (datA (varE 3) nilA))) nilL))) (vs := [3]) (ρ := [AV.fz (bookD b), .fz (lstS (goodsB b)), .un, .un, .un, .un, .un]) (fun _ => true) (fun d => match d with | .str w => .tup [.str w, lstS (bh hb w)] | _ => .non) ((goodsB b).map D.str) [] (by simp; omega)
    (fun d hd => by
      obtain ⟨o, ho, rfl⟩ := List.mem_map.mp hd
      obtain ⟨_, as, hf⟩ := bh_spec hb ho
      exact ⟨[AV.fz (bookD b), .fz (lstS (goodsB b)), .un, .fz (.str o), .un, .un, .un], by simp, by simp, fun _ => by simp [hf, hz2], by simp, by simp⟩)
  rw [List.nil_append, List.filter_eq_self.mpr (fun _ _ => rfl), List.map_map] at hl1
  have e1 : (goodsB b).map ((fun d => match d with | .str w => D.tup [.str w, lstS (bh hb w)] | _ => .non) ∘ D.str) = fs.map fun p => .tup [.str p.1, lstS p.2] := by
    show _ = ((goodsB b).map _).map _
    rw [List.map_map]; rfl
  rw [e1] at hl1
  have hdict := dict_kvs (enc := lstS) ndf
  let lcE : Ev → Out OD := lcF (itF (varE 1)) (.nm 6) (andF (tstF (binF inA (varR 6) (datO (binF ixO (varR 2) (varR 3))))) (tstF (binF inA (varR 3) (datO (binF ixO (varR 2) (varR 6)))))) (varE 6) [6]
  let b2 : Ev → SOut := seqS (setN 5 lcE) (seqS (ifS (andF (tstF (binF inA (varR 3) (varR 5))) (tstF (binF ninA (varR 5) (varR 4)))) (seqS (exprS (appE 4 (varE 5))) nxS) nxS) nxS)
  let FD : D := .dic (kvsD lstS fs)
  have hgetF : ∀ z ∈ goodsB b, ∃ f, ixO FD (.str z) = some (lstS f) ∧ ∀ y, y ∈ f ↔ Rch (Rel b) z y := hget
  have hdict' : dictD (.lst (fs.map fun p => .tup [.str p.1, lstS p.2])) = some (.d (kvsD lstS fs)) := hdict
  have key2 := for_inv (g := .nm 3) (b := b2) (fun j ρ => ∃ (k3 k5 : AV), ρ = [AV.fz (bookD b), .fz (lstS (goodsB b)), .fz FD, k3, .ow false (.l ((rowsT b j).map lstS)), k5, .un] ∧ (k3 = .un ∨ ∃ d, k3 = .fz d) ∧ NR k5)
    ((goodsB b).map D.str) 0 [AV.fz (bookD b), .fz (lstS (goodsB b)), .fz FD, .un, .ow false (.l []), .un, .un] ⟨.un, .un, rfl, .inl rfl, .inl rfl⟩ ?_
  · obtain ⟨ρ2, hf2, k3', k5, rfl, _, _⟩ := key2
    simp only [Nat.zero_add, List.length_map] at hf2
    refine ⟨[.fz (bookD b)], ?_⟩
    simp only [b2, lcE, FD] at hf2
    show bodyF 1 7 s_law_rings _ = _
    generalize fs.map (fun p => D.tup [.str p.1, lstS p.2]) = PL at hl1 hdict'
    simp [s_law_rings, h1, hl1, hdict', hf2, -List.map_map]
  · rintro j d ρ hd ⟨k3, k5, rfl, h3, h5⟩
    simp only [Nat.zero_add]
    obtain ⟨z, hz, hm, rfl⟩ := str_at hd
    obtain ⟨f, hf, memf⟩ := hgetF z hm
    have hj : j < (goodsB b).length := (List.getElem?_eq_some_iff.mp hz).1
    have hlc : ∀ k5, lcLoop (.nm 6) (andF (tstF (binF inA (varR 6) (datO (binF ixO (varR 2) (varR 3))))) (tstF (binF inA (varR 3) (datO (binF ixO (varR 2) (varR 6)))))) (varE 6) [6] ((goodsB b).map D.str) [AV.fz (bookD b), .fz (lstS (goodsB b)), .fz FD, .fz (.str z), .ow false (.l ((rowsT b j).map lstS)), k5, .un] [] =
        .val ((ringOf b z).map D.str) [AV.fz (bookD b), .fz (lstS (goodsB b)), .fz FD, .fz (.str z), .ow false (.l ((rowsT b j).map lstS)), k5, .un] := fun k5 => by
      have := lc_pure (g := .nm 6) (tt := andF (tstF (binF inA (varR 6) (datO (binF ixO (varR 2) (varR 3))))) (tstF (binF inA (varR 3) (datO (binF ixO (varR 2) (varR 6)))))) (te := varE 6) (vs := [6]) (ρ := [AV.fz (bookD b), .fz (lstS (goodsB b)), .fz FD, .fz (.str z), .ow false (.l ((rowsT b j).map lstS)), k5, .un]) (onS fun o => rc b z o && rc b o z) id ((goodsB b).map D.str) [] (by simp; omega)
        (fun d hd => by
          obtain ⟨o, ho, rfl⟩ := List.mem_map.mp hd
          obtain ⟨f', hf', memf'⟩ := hgetF o ho
          have i1 := in_strs o f
          rw [rc_dec (memf o)] at i1
          have i2 := in_strs z f'
          rw [rc_dec (memf' z)] at i2
          refine ⟨[AV.fz (bookD b), .fz (lstS (goodsB b)), .fz FD, .fz (.str z), .ow false (.l ((rowsT b j).map lstS)), k5, .fz (.str o)], by simp, ?_, by simp, by simp, by simp⟩
          cases c1 : rc b z o <;> rw [c1] at i1 <;> simp [hf, hf', i1, i2, onS, c1])
      rw [List.nil_append, List.map_id, filter_onS] at this
      exact this
    have hzr : decide (z ∈ ringOf b z) = rc b z z := by
      rw [Bool.eq_iff_iff, decide_eq_true_iff]
      unfold ringOf
      rw [List.mem_filter, Bool.and_self]
      exact ⟨fun h => h.2, fun h => ⟨hm, h⟩⟩
    have hzz := in_strs z (ringOf b z)
    rw [hzr] at hzz
    cases c : rc b z z with
    | false =>
      rw [c] at hzz
      have er : rowsT b (j + 1) = rowsT b j := by rw [rowsT_succ hz]; unfold rowStep; rw [if_neg (by rw [c]; decide)]
      rw [er]
      refine ⟨[AV.fz (bookD b), .fz (lstS (goodsB b)), .fz FD, .fz (.str z), .ow false (.l ((rowsT b j).map lstS)), k5, .un], [AV.fz (bookD b), .fz (lstS (goodsB b)), .fz FD, .fz (.str z), .ow false (.l ((rowsT b j).map lstS)), .ow false (.l ((ringOf b z).map D.str)), .un], ?_, ?_, _, _, rfl, .inr ⟨_, rfl⟩, .inr (.inr ⟨_, rfl⟩)⟩
      · rcases h3 with rfl | ⟨_, rfl⟩ <;> simp
      · rcases h5 with rfl | ⟨_, rfl⟩ | ⟨_, rfl⟩ <;> simp [b2, lcE, hlc, hzz]
    | true =>
      rw [c] at hzz
      have hni := nin_rows (ringOf b z) (rowsT b j) (ring_plain hb) (rows_plain hb)
      by_cases hin : ringOf b z ∈ rowsT b j
      · rw [decide_eq_true hin] at hni
        have er : rowsT b (j + 1) = rowsT b j := by rw [rowsT_succ hz]; unfold rowStep; rw [if_pos c, if_pos hin]
        rw [er]
        refine ⟨[AV.fz (bookD b), .fz (lstS (goodsB b)), .fz FD, .fz (.str z), .ow false (.l ((rowsT b j).map lstS)), k5, .un], [AV.fz (bookD b), .fz (lstS (goodsB b)), .fz FD, .fz (.str z), .ow false (.l ((rowsT b j).map lstS)), .ow false (.l ((ringOf b z).map D.str)), .un], ?_, ?_, _, _, rfl, .inr ⟨_, rfl⟩, .inr (.inr ⟨_, rfl⟩)⟩
        · rcases h3 with rfl | ⟨_, rfl⟩ <;> simp
        · rcases h5 with rfl | ⟨_, rfl⟩ | ⟨_, rfl⟩ <;> simp [b2, lcE, hlc, hzz, hni]
      · rw [decide_eq_false hin] at hni
        have er : rowsT b (j + 1) = rowsT b j ++ [ringOf b z] := by rw [rowsT_succ hz]; unfold rowStep; rw [if_pos c, if_neg hin]
        have hz1 : (rowsT b j).length < sizeLine := by have := (rowsT_prop b j).1; omega
        rw [er]
        refine ⟨[AV.fz (bookD b), .fz (lstS (goodsB b)), .fz FD, .fz (.str z), .ow false (.l ((rowsT b j).map lstS)), k5, .un], [AV.fz (bookD b), .fz (lstS (goodsB b)), .fz FD, .fz (.str z), .ow false (.l ((rowsT b j ++ [ringOf b z]).map lstS)), .fz (lstS (ringOf b z)), .un], ?_, ?_, _, _, rfl, .inr ⟨_, rfl⟩, .inr (.inl ⟨_, rfl⟩)⟩
        · rcases h3 with rfl | ⟨_, rfl⟩ <;> simp
        · rcases h5 with rfl | ⟨_, rfl⟩ | ⟨_, rfl⟩ <;> simp [b2, lcE, hlc, hzz, hni, hz1]
end Wk
set_option Elab.async false
set_option linter.all false
set_option maxRecDepth 100000
set_option maxHeartbeats 8000000
namespace Wk
open PySem PySem.Spec L2 DL
theorem lraws_ok {rs : List Str} (h : Raws rs) : ∃ as, F_look_raws [.fz (lstS rs)] = .val .non as := by
  have hl := h.len
  have hs : sizeLine = 16777216 := sizeLine_eq
  have hlc := lc_pure (g := .nm 1) (tt := yesF) (te := callF 1 F_is_word (datA (varE 1) nilA)) (vs := [1]) (ρ := [.fz (lstS rs), .un]) (fun _ => true) (fun _ => .bl true) (rs.map D.str) [] (by simp; omega)
    (fun d hd => by
      obtain ⟨z, hz, rfl⟩ := List.mem_map.mp hd
      obtain ⟨as, hw⟩ := word_ok (h.wd z hz)
      refine ⟨[.fz (lstS rs), .fz (.str z)], ?_⟩
      simp [hw])
  rw [List.nil_append, List.filter_eq_self.mpr (fun _ _ => rfl), List.map_map] at hlc
  have ha : allD (.lst (rs.map ((fun _ => D.bl true) ∘ D.str))) = some (.bl true) := all_map fun _ _ => rfl
  have hss := sortSet_strs rs (by omega)
  rw [h.fix] at hss
  have hne := ne_strs rs rs (fun z hz => (h.wd z hz).plain) (fun z hz => (h.wd z hz).plain)
  have hgt : ¬ (20 : Int) < rs.length := by omega
  refine ⟨[.fz (lstS rs)], ?_⟩
  simp [F_look_raws, s_look_raws, hgt, hlc, ha, hss, hne, -List.map_map, -List.map_const_fun]
/-! ### round by round -/
def rdy (known : List Str) (v : Way) : Bool := v.need.all fun p => decide (p.1 ∈ known)
def fresh (known : List Str) (v : Way) : List Str := if rdy known v = true then (v.give.map (·.1)).filter (fun y => !decide (y ∈ known)) else []
def dueL (b : List (Str × Way)) (known : List Str) : List Str := (b.map fun p => fresh known p.2).flatten
def rowB (b : List (Str × Way)) (known : List Str) : List Str := DLS.srtSet (dueL b known)
theorem dueL_take {b : List (Str × Way)} {known : List Str} {j : Nat} {z : Str} {w : Way} (h : b[j]? = some (z, w)) : dueL (b.take (j + 1)) known = dueL (b.take j) known ++ fresh known w := by
  unfold dueL
  rw [List.take_add_one, h, List.map_append, List.flatten_append]; simp
theorem dueL_good {b : List (Str × Way)} {known : List Str} {y : Str} (h : y ∈ dueL b known) : y ∈ goodsB b ∧ y ∉ known := by
  obtain ⟨l, hl, hy⟩ := List.mem_flatten.mp h
  obtain ⟨p, hp, rfl⟩ := List.mem_map.mp hl
  unfold fresh at hy
  split at hy
  · obtain ⟨h1, h2⟩ := List.mem_filter.mp hy
    refine ⟨?_, by simpa using h2⟩
    rw [goodsB_mem]
    exact List.mem_flatten.mpr ⟨_, List.mem_map.mpr ⟨p, hp, rfl⟩, by unfold wordsW; rw [List.map_append]; exact List.mem_append_right _ h1⟩
  · cases hy
theorem rowB_good {b : List (Str × Way)} {known : List Str} {y : Str} (h : y ∈ rowB b known) : y ∈ goodsB b ∧ y ∉ known := dueL_good (srtSet_mem.mp h)
theorem fresh_len {known : List Str} {v : Way} (h : GWay v) : (fresh known v).length ≤ 3 := by
  unfold fresh
  split
  · refine Nat.le_trans (List.length_filter_le _ _) ?_
    rw [List.length_map]; exact h.give.hi
  · exact Nat.zero_le _
theorem dueL_len {b : List (Str × Way)} (h : ∀ p ∈ b, GWay p.2) (known : List Str) : (dueL b known).length ≤ 3 * b.length := by
  induction b with
  | nil => simp [dueL]
  | cons p b ih =>
    have h1 := ih fun q hq => h q (.tail _ hq)
    have h2 := fresh_len (known := known) (h p (.head _))
    simp only [dueL, List.map_cons, List.flatten_cons, List.length_append, List.length_cons] at h1 ⊢
    omega
/-- one round of layers: what is new -/
theorem round_ok {b : List (Str × Way)} (hb : Book b) (known : List Str) (rs : D) (fnd : AV) (hkl : known.length ≤ 100) (k5 k6 k7 : AV) (h5 : k5 = .un ∨ ∃ d, k5 = .fz d) (h6 : k6 = .un ∨ ∃ d, k6 = .fz d) (h7 : k7 = .un ∨ ∃ d, k7 = .fz d) :
    ∃ (ps : List (Str × Unit)) (k5' k6' k7' : AV), (k5' = .un ∨ ∃ d, k5' = .fz d) ∧ (k6' = .un ∨ ∃ d, k6' = .fz d) ∧ (k7' = .un ∨ ∃ d, k7' = .fz d) ∧ (ps.map (·.1)).Nodup ∧ (∀ x, x ∈ ps.map (·.1) ↔ x ∈ dueL b known) ∧
      forS (.nm 5) (seqS (ifS (tstF (unF allD (datO (mapO OD.dat (lcF (itF (binF ixO (datO (binF ixO (varR 0) (varR 5))) (datO (conE (.int 0))))) (.tp [6, 7]) yesF (binF inA (varR 6) (varR 3)) [6, 7]))))) (seqS (forF (itF (binF ixO (datO (binF ixO (varR 0) (varR 5))) (datO (conE (.int 1))))) (.tp [6, 7]) (seqS (ifS (tstF (binF ninA (varR 6) (varR 3))) (seqS (DL.putAt 4 (varE 6) (conE (.bl true))) nxS) nxS) nxS)) nxS) nxS) nxS)
        ((b.map (·.1)).map D.str) [AV.fz (bookD b), .fz rs, fnd, .ow false (.l (known.map D.str)), .ow false (.d []), k5, k6, k7] = .nx [AV.fz (bookD b), .fz rs, fnd, .ow false (.l (known.map D.str)), .ow false (.d (kvsD tru ps)), k5', k6', k7'] := by
  have hs : sizeLine = 16777216 := sizeLine_eq
  have hb6 := hb.hi
  let inner : Ev → SOut := seqS (ifS (tstF (binF ninA (varR 6) (varR 3))) (seqS (DL.putAt 4 (varE 6) (conE (.bl true))) nxS) nxS) nxS
  let body : Ev → SOut := seqS (ifS (tstF (unF allD (datO (mapO OD.dat (lcF (itF (binF ixO (datO (binF ixO (varR 0) (varR 5))) (datO (conE (.int 0))))) (.tp [6, 7]) yesF (binF inA (varR 6) (varR 3)) [6, 7]))))) (seqS (forF (itF (binF ixO (datO (binF ixO (varR 0) (varR 5))) (datO (conE (.int 1))))) (.tp [6, 7]) inner) nxS) nxS) nxS
  have key := for_inv (g := .nm 5) (b := body) (fun j ρ => ∃ (ps : List (Str × Unit)) (k5 k6 k7 : AV), ρ = [AV.fz (bookD b), .fz rs, fnd, .ow false (.l (known.map D.str)), .ow false (.d (kvsD tru ps)), k5, k6, k7] ∧ (k5 = .un ∨ ∃ d, k5 = .fz d) ∧ (k6 = .un ∨ ∃ d, k6 = .fz d) ∧ (k7 = .un ∨ ∃ d, k7 = .fz d) ∧ (ps.map (·.1)).Nodup ∧ (∀ x, x ∈ ps.map (·.1) ↔ x ∈ dueL (b.take j) known) ∧ ps.length ≤ 3 * j)
    ((b.map (·.1)).map D.str) 0 [AV.fz (bookD b), .fz rs, fnd, .ow false (.l (known.map D.str)), .ow false (.d []), k5, k6, k7] ⟨[], k5, k6, k7, rfl, h5, h6, h7, by simp, by simp [dueL], by simp⟩ ?_
  · obtain ⟨ρ', hf, ps, k5', k6', k7', rfl, g5, g6, g7, nd, mem, _⟩ := key
    simp only [Nat.zero_add, List.length_map, List.take_length] at hf mem
    exact ⟨ps, k5', k6', k7', g5, g6, g7, nd, mem, hf⟩
  · rintro j d ρ hd ⟨ps, k5, k6, k7, rfl, h5, h6, h7, nd, mem, len⟩
    simp only [Nat.zero_add] at mem len ⊢
    obtain ⟨z, v, hj, hm, rfl⟩ := at_of hd
    have hj6 : j < b.length := (List.getElem?_eq_some_iff.mp hj).1
    have hv : GWay v := hb.way _ hm
    have hix : ixO (bookD b) (.str z) = some (wayD v) := way_at hb.nd hm
    have hnl := hv.need.hi
    have hgl := hv.give.hi
    have hlc : ∀ NW : AV, lcLoop (.tp [6, 7]) yesF (binF inA (varR 6) (varR 3)) [6, 7] (v.need.map pD) [AV.fz (bookD b), .fz rs, fnd, .ow false (.l (known.map D.str)), NW, .fz (.str z), .un, .un] [] = .val ((v.need.map fun p => decide (p.1 ∈ known)).map D.bl) [AV.fz (bookD b), .fz rs, fnd, .ow false (.l (known.map D.str)), NW, .fz (.str z), .un, .un] := fun NW => by
      have := lc_pure (g := .tp [6, 7]) (tt := yesF) (te := binF inA (varR 6) (varR 3)) (vs := [6, 7]) (ρ := [AV.fz (bookD b), .fz rs, fnd, .ow false (.l (known.map D.str)), NW, .fz (.str z), .un, .un]) (fun _ => true) (fun d => match d with | .tup (.str a :: _) => .bl (decide (a ∈ known)) | _ => .non) (v.need.map pD) [] (by simp; omega)
        (fun d hd => by
          obtain ⟨p, hp, rfl⟩ := List.mem_map.mp hd
          have := in_strs p.1 known
          simp [this])
      rw [List.nil_append, List.filter_eq_self.mpr (fun _ _ => rfl), List.map_map] at this
      rw [this, List.map_map]; rfl
    have hall := all_bls (v.need.map fun p => decide (p.1 ∈ known))
    have hrd : (v.need.map fun p => decide (p.1 ∈ known)).all id = rdy known v := by unfold rdy; rw [List.all_map]; rfl
    rw [hrd] at hall
    cases hr : rdy known v with
    | false =>
      rw [hr] at hall
      have e1 : dueL (b.take (j + 1)) known = dueL (b.take j) known := by rw [dueL_take hj]; unfold fresh; rw [if_neg (by rw [hr]; decide), List.append_nil]
      refine ⟨[AV.fz (bookD b), .fz rs, fnd, .ow false (.l (known.map D.str)), .ow false (.d (kvsD tru ps)), .fz (.str z), k6, k7], [AV.fz (bookD b), .fz rs, fnd, .ow false (.l (known.map D.str)), .ow false (.d (kvsD tru ps)), .fz (.str z), k6, k7], ?_, ?_, ps, _, k6, k7, rfl, .inr ⟨_, rfl⟩, h6, h7, nd, fun x => by rw [e1]; exact mem x, by omega⟩
      · rcases h5 with rfl | ⟨_, rfl⟩ <;> simp
      · rcases h6 with rfl | ⟨_, rfl⟩ <;> rcases h7 with rfl | ⟨_, rfl⟩ <;> simp [body, hix, wayD, itP, hlc, hall, -List.map_map]
    | true =>
      rw [hr] at hall
      have key2 := for_inv (g := .tp [6, 7]) (b := inner) (fun i ρ => ∃ (qs : List (Str × Unit)) (k6 k7 : AV), ρ = [AV.fz (bookD b), .fz rs, fnd, .ow false (.l (known.map D.str)), .ow false (.d (kvsD tru qs)), .fz (.str z), k6, k7] ∧ (k6 = .un ∨ ∃ d, k6 = .fz d) ∧ (k7 = .un ∨ ∃ d, k7 = .fz d) ∧ (qs.map (·.1)).Nodup ∧ (∀ x, x ∈ qs.map (·.1) ↔ x ∈ dueL (b.take j) known ∨ (x ∈ (v.give.take i).map (·.1) ∧ x ∉ known)) ∧ qs.length ≤ 3 * j + i)
        (v.give.map pD) 0 [AV.fz (bookD b), .fz rs, fnd, .ow false (.l (known.map D.str)), .ow false (.d (kvsD tru ps)), .fz (.str z), k6, k7] ⟨ps, k6, k7, rfl, h6, h7, nd, fun x => by rw [mem]; simp, by omega⟩ ?_
      · obtain ⟨ρ', hf, qs, k6', k7', rfl, g6, g7, nd', mem', len'⟩ := key2
        simp only [Nat.zero_add, List.length_map, List.take_length] at hf mem' len'
        refine ⟨[AV.fz (bookD b), .fz rs, fnd, .ow false (.l (known.map D.str)), .ow false (.d (kvsD tru ps)), .fz (.str z), k6, k7], [AV.fz (bookD b), .fz rs, fnd, .ow false (.l (known.map D.str)), .ow false (.d (kvsD tru qs)), .fz (.str z), k6', k7'], ?_, ?_, qs, .fz (.str z), k6', k7', rfl, .inr ⟨_, rfl⟩, g6, g7, nd', fun x => ?_, by omega⟩
        · rcases h5 with rfl | ⟨_, rfl⟩ <;> simp
        · simp only [inner] at hf
          rcases h6 with rfl | ⟨_, rfl⟩ <;> rcases h7 with rfl | ⟨_, rfl⟩ <;> simp [body, inner, hix, wayD, itP, hlc, hall, hf, -List.map_map]
        · rw [mem', dueL_take hj, List.mem_append]
          unfold fresh
          rw [if_pos hr, List.mem_filter]
          simp
      · rintro i d ρ hd ⟨qs, k6, k7, rfl, h6, h7, nd, mem, len⟩
        simp only [Nat.zero_add] at mem len ⊢
        have hi : i < v.give.length := by have := (List.getElem?_eq_some_iff.mp hd).1; simpa using this
        obtain ⟨p, hp, hpm, rfl⟩ := pair_at hd
        have hin := nin_strs p.1 known
        by_cases hk : p.1 ∈ known
        · rw [decide_eq_true hk] at hin
          refine ⟨[AV.fz (bookD b), .fz rs, fnd, .ow false (.l (known.map D.str)), .ow false (.d (kvsD tru qs)), .fz (.str z), .fz (.str p.1), .fz (.int p.2)], [AV.fz (bookD b), .fz rs, fnd, .ow false (.l (known.map D.str)), .ow false (.d (kvsD tru qs)), .fz (.str z), .fz (.str p.1), .fz (.int p.2)], ?_, ?_, qs, _, _, rfl, .inr ⟨_, rfl⟩, .inr ⟨_, rfl⟩, nd, fun x => ?_, by omega⟩
          · rcases h6 with rfl | ⟨_, rfl⟩ <;> rcases h7 with rfl | ⟨_, rfl⟩ <;> simp
          · simp [inner, hin]
          · rw [mem, List.take_add_one, hp, List.map_append, List.mem_append]
            constructor
            · rintro (q | ⟨q1, q2⟩)
              · exact .inl q
              · exact .inr ⟨.inl q1, q2⟩
            · rintro (q | ⟨q1 | q1, q2⟩)
              · exact .inl q
              · exact .inr ⟨q1, q2⟩
              · have : x = p.1 := by simpa using q1
                rw [this] at q2; exact absurd hk q2
        · rw [decide_eq_false hk] at hin
          have hz1 : (kvsD tru qs).length < sizeLine := by rw [kvsD_length]; omega
          have hl := putA_length qs p.1 ()
          have hpd := putD_kvs (enc := tru) qs p.1 ()
          have hpd' : putD (kvsD tru qs) (.inr p.1) (.bl true) = kvsD tru (putA qs p.1 ()) := hpd
          refine ⟨[AV.fz (bookD b), .fz rs, fnd, .ow false (.l (known.map D.str)), .ow false (.d (kvsD tru qs)), .fz (.str z), .fz (.str p.1), .fz (.int p.2)], [AV.fz (bookD b), .fz rs, fnd, .ow false (.l (known.map D.str)), .ow false (.d (kvsD tru (putA qs p.1 ()))), .fz (.str z), .fz (.str p.1), .fz (.int p.2)], ?_, ?_, putA qs p.1 (), _, _, rfl, .inr ⟨_, rfl⟩, .inr ⟨_, rfl⟩, putA_nodup nd, fun x => ?_, by omega⟩
          · rcases h6 with rfl | ⟨_, rfl⟩ <;> rcases h7 with rfl | ⟨_, rfl⟩ <;> simp
          · simp [inner, hin, hz1, hpd']
          · rw [putA_has, mem, List.take_add_one, hp, List.map_append, List.mem_append]
            constructor
            · rintro ((q | ⟨q1, q2⟩) | q)
              · exact .inl q
              · exact .inr ⟨.inl q1, q2⟩
              · exact .inr ⟨.inr (by simp [q]), q ▸ hk⟩
            · rintro (q | ⟨q1 | q1, q2⟩)
              · exact .inl (.inl q)
              · exact .inl (.inr ⟨q1, q2⟩)
              · exact .inr (by simpa using q1)
end Wk
set_option Elab.async false
set_option linter.all false
set_option maxRecDepth 100000
set_option maxHeartbeats 8000000
namespace DL
open PySem PySem.Spec L2
@[simp] theorem e_extE {i : Nat} {f : Ev → Out D} {ρ : Ev} : extE i f ρ = (match ρ[i]? with
  | some (.ow _ (.l _)) => (f ρ).bind fun d ρ1 => match d, ρ1[i]? with
    | .lst ys, some (.ow r (.l xs)) => if xs.length + ys.length ≤ sizeLine then .val .non (ρ1.set i (.ow r (.l (xs ++ ys)))) else .bad
    | _, _ => .bad
  | _ => .bad) := rfl
@[simp] theorem e_negE {f : Ev → Out D} {ρ : Ev} : negE f ρ = (f ρ).bind fun d ρ1 => match d with | .int i => .val (.int (-i)) ρ1 | _ => .bad := rfl
end DL
namespace Wk
open PySem PySem.Spec L2 DL
structure LayOk (b : List (Str × Way)) (raws : List Str) (rows : List (List Str)) : Prop where
  row : ∀ j r, rows[j]? = some r → r = rowB b (raws ++ (rows.take j).flatten)
  nd : rows.flatten.Nodup
  good : ∀ y ∈ rows.flatten, y ∈ goodsB b
  len : rows.length ≤ rows.flatten.length
theorem LayOk.snoc {b : List (Str × Way)} {raws : List Str} {rows : List (List Str)} (h : LayOk b raws rows) (hne : rowB b (raws ++ rows.flatten) ≠ []) : LayOk b raws (rows ++ [rowB b (raws ++ rows.flatten)]) := by
  have e : (rows ++ [rowB b (raws ++ rows.flatten)]).flatten = rows.flatten ++ rowB b (raws ++ rows.flatten) := by simp
  refine ⟨fun j r hj => ?_, ?_, fun y hy => ?_, ?_⟩
  · by_cases hl : j < rows.length
    · rw [List.getElem?_append_left hl] at hj
      rw [List.take_append_of_le_length (by omega)]
      exact h.row j r hj
    · have hjl : j = rows.length := by
        have := (List.getElem?_eq_some_iff.mp hj).1
        rw [List.length_append, List.length_singleton] at this; omega
      subst hjl
      rw [List.getElem?_append_right (Nat.le_refl _), Nat.sub_self] at hj
      rw [List.take_append_of_le_length (Nat.le_refl _), List.take_length]
      exact (Option.some.inj hj).symm
  · rw [e]
    exact List.nodup_append.mpr ⟨h.nd, srtSet_nodup _, fun x hx y hy => by rintro rfl; exact (rowB_good hy).2 (List.mem_append_right _ hx)⟩
  · rw [e] at hy
    rcases List.mem_append.mp hy with hy | hy
    · exact h.good y hy
    · exact (rowB_good hy).1
  · rw [e, List.length_append, List.length_append, List.length_singleton]
    have := List.length_pos_iff.mpr hne
    have := h.len
    omega
theorem LayOk.le {b : List (Str × Way)} (hb : Book b) {raws : List Str} {rows : List (List Str)} (h : LayOk b raws rows) : rows.flatten.length ≤ 36 := Nat.le_trans (nodup_len h.nd h.good) (goodsB_len hb)
theorem layers_ok {b : List (Str × Way)} (hb : Book b) {raws : List Str} (hr : Raws raws) : ∃ rows as, LayOk b raws rows ∧ rowB b (raws ++ rows.flatten) = [] ∧ F_layers [.fz (bookD b), .fz (lstS raws)] = .val (.lst ((raws :: rows).map lstS)) as := by
  obtain ⟨a1, h1⟩ := look_ok hb
  obtain ⟨a2, h2⟩ := lraws_ok hr
  have hs : sizeLine = 16777216 := sizeLine_eq
  have hrl := hr.len
  let fb : Ev → SOut := seqS (ifS (tstF (unF allD (datO (mapO OD.dat (lcF (itF (binF ixO (datO (binF ixO (varR 0) (varR 5))) (datO (conE (.int 0))))) (.tp [6, 7]) yesF (binF inA (varR 6) (varR 3)) [6, 7]))))) (seqS (forF (itF (binF ixO (datO (binF ixO (varR 0) (varR 5))) (datO (conE (.int 1))))) (.tp [6, 7]) (seqS (ifS (tstF (binF ninA (varR 6) (varR 3))) (seqS (DL.putAt 4 (varE 6) (conE (.bl true))) nxS) nxS) nxS)) nxS) nxS) nxS
  let wb : Ev → SOut := seqS (setN 4 dicN0) (seqS (forF (keysF (varE 0)) (.nm 5) fb) (seqS (ifS (notF (truF (varR 4))) (seqS (retS (varE 2)) nxS) nxS) (seqS (exprS (appE 2 (mapO OD.dat (unF skD (varR 4))))) (seqS (exprS (extE 3 (binF ixO (varR 2) (datO (negE (conE (.int 1))))))) nxS))))
  have key := while_inv (c := tstF (conE (.bl true))) (b := wb)
    (fun m ρ => ∃ rows k4 k5 k6 k7, ρ = [AV.fz (bookD b), .fz (lstS raws), .ow false (.l ((raws :: rows).map lstS)), .ow false (.l ((raws ++ rows.flatten).map D.str)), k4, k5, k6, k7] ∧ NR k4 ∧ (k5 = .un ∨ ∃ d, k5 = .fz d) ∧ (k6 = .un ∨ ∃ d, k6 = .fz d) ∧ (k7 = .un ∨ ∃ d, k7 = .fz d) ∧ LayOk b raws rows ∧ m = 37 - rows.flatten.length)
    (fun o => ∃ rows ρ2, o = .rt (.lst ((raws :: rows).map lstS)) ρ2 ∧ (∃ k2 k3 k4 k5 k6 k7, ρ2 = [AV.fz (bookD b), .fz (lstS raws), k2, k3, k4, k5, k6, k7]) ∧ LayOk b raws rows ∧ rowB b (raws ++ rows.flatten) = []) ?_ fuel 37 [AV.fz (bookD b), .fz (lstS raws), .ow false (.l [lstS raws]), .ow false (.l (raws.map D.str)), .un, .un, .un, .un]
    ⟨[], .un, .un, .un, .un, by simp, .inl rfl, .inl rfl, .inl rfl, .inl rfl, ⟨fun j r h => by simp at h, by simp, by simp, by simp⟩, by simp⟩ (by decide)
  · obtain ⟨rows, ρ2, hw, ⟨k2, k3, k4, k5, k6, k7, rfl⟩, lo, fin⟩ := key
    refine ⟨rows, [.fz (bookD b), .fz (lstS raws)], lo, fin, ?_⟩
    simp only [wb, fb] at hw
    have hz : 1 ≤ sizeLine := by omega
    generalize (raws :: rows).map lstS = FN at hw ⊢
    simp [F_layers, s_layers, h1, h2, hz, hw]
  · rintro m ρ ⟨rows, k4, k5, k6, k7, rfl, h4, h5, h6, h7, lo, rfl⟩
    have hle := lo.le hb
    have hkl : (raws ++ rows.flatten).length ≤ 100 := by rw [List.length_append]; omega
    obtain ⟨ps, k5', k6', k7', g5, g6, g7, nd, mem, hf⟩ := round_ok hb (raws ++ rows.flatten) (lstS raws) (.ow false (.l ((raws :: rows).map lstS))) hkl k5 k6 k7 h5 h6 h7
    refine .inr ⟨[AV.fz (bookD b), .fz (lstS raws), .ow false (.l ((raws :: rows).map lstS)), .ow false (.l ((raws ++ rows.flatten).map D.str)), k4, k5, k6, k7], by simp, ?_⟩
    have hkf : ∀ ρ : Ev, ρ[0]? = some (.fz (bookD b)) → keysF (varE 0) ρ = .val ((b.map (·.1)).map D.str) ρ := fun ρ h => by
      unfold keysF
      rw [e_varE, h]
      show Out.val ((kvsD wayD b).map fun kv => keyD kv.1) ρ = _
      rw [keys_kvs]
    have hsr : DLS.srt (ps.map (·.1)) = rowB b (raws ++ rows.flatten) := srt_eq nd mem
    have hsk := skD_kvs (enc := tru) ps
    rw [hsr] at hsk
    have hrows : (raws :: rows).length ≤ 40 := by rw [List.length_cons]; have := lo.len; omega
    generalize hFN : (raws :: rows).map lstS = FN at hf
    generalize hKN : (raws ++ rows.flatten).map D.str = KN at hf
    have hset : (setN 4 dicN0) [AV.fz (bookD b), .fz (lstS raws), .ow false (.l FN), .ow false (.l KN), k4, k5, k6, k7] = .nx [AV.fz (bookD b), .fz (lstS raws), .ow false (.l FN), .ow false (.l KN), .ow false (.d []), k5, k6, k7] := by
      rcases h4 with rfl | ⟨_, rfl⟩ | ⟨_, rfl⟩ <;> simp
    cases ps with
    | nil =>
      refine .inl ⟨.lst FN, [AV.fz (bookD b), .fz (lstS raws), .fz (.lst FN), .ow false (.l KN), .ow false (.d []), k5', k6', k7'], ?_, rows, _, by rw [← hFN], ⟨_, _, _, _, _, _, rfl⟩, lo, ?_⟩
      · have hf' : forS (.nm 5) fb ((b.map (·.1)).map D.str) [AV.fz (bookD b), .fz (lstS raws), .ow false (.l FN), .ow false (.l KN), .ow false (.d []), k5, k6, k7] = .nx [AV.fz (bookD b), .fz (lstS raws), .ow false (.l FN), .ow false (.l KN), .ow false (.d []), k5', k6', k7'] := hf
        show thenS ((setN 4 dicN0) _) _ = _
        rw [hset]
        simp [-e_keysF, -List.map_map]
        rw [hkf _ rfl]
        simp [hf', -List.map_map]
      · rw [← hsr]; exact List.length_eq_zero_iff.mp ((DLS.srt_perm _).length_eq)
    | cons p ps =>
      have hne : rowB b (raws ++ rows.flatten) ≠ [] := by
        intro e
        rw [← hsr] at e
        have := (DLS.srt_perm ((p :: ps).map (·.1))).length_eq
        rw [e] at this; simp at this
      have hn := lo.snoc hne
      have hle2 := hn.le hb
      have e2 : (rows ++ [rowB b (raws ++ rows.flatten)]).flatten = rows.flatten ++ rowB b (raws ++ rows.flatten) := by simp
      have hpos := List.length_pos_iff.mpr hne
      rw [e2, List.length_append] at hle2
      have hFl : FN.length < sizeLine := by rw [← hFN, List.length_map]; omega
      have hKl : KN.length + ((rowB b (raws ++ rows.flatten)).map D.str).length ≤ sizeLine := by rw [← hKN, List.length_map, List.length_map]; omega
      have hlast : atI (FN ++ [lstS (rowB b (raws ++ rows.flatten))]) (-1) = some (lstS (rowB b (raws ++ rows.flatten))) := atI_last _ _
      refine .inr ⟨[AV.fz (bookD b), .fz (lstS raws), .ow false (.l ((raws :: (rows ++ [rowB b (raws ++ rows.flatten)])).map lstS)), .ow false (.l ((raws ++ (rows ++ [rowB b (raws ++ rows.flatten)]).flatten).map D.str)), .ow false (.d (kvsD tru (p :: ps))), k5', k6', k7'], _, ?_, ?_, rows ++ [rowB b (raws ++ rows.flatten)], _, _, _, _, rfl, .inr (.inr ⟨_, rfl⟩), g5, g6, g7, hn, rfl⟩
      · have eF : (raws :: (rows ++ [rowB b (raws ++ rows.flatten)])).map lstS = FN ++ [lstS (rowB b (raws ++ rows.flatten))] := by rw [← hFN]; simp
        have eK : (raws ++ (rows ++ [rowB b (raws ++ rows.flatten)]).flatten).map D.str = KN ++ (rowB b (raws ++ rows.flatten)).map D.str := by rw [e2, ← List.append_assoc, List.map_append, hKN]
        rw [eF, eK]
        generalize rowB b (raws ++ rows.flatten) = RW at hsk hKl hlast ⊢
        have hem : (kvsD tru (p :: ps)).isEmpty = false := rfl
        have hf' : forS (.nm 5) fb ((b.map (·.1)).map D.str) [AV.fz (bookD b), .fz (lstS raws), .ow false (.l FN), .ow false (.l KN), .ow false (.d []), k5, k6, k7] = .nx [AV.fz (bookD b), .fz (lstS raws), .ow false (.l FN), .ow false (.l KN), .ow false (.d (kvsD tru (p :: ps))), k5', k6', k7'] := hf
        generalize kvsD tru (p :: ps) = NW at hf' hem hsk ⊢
        show thenS ((setN 4 dicN0) _) _ = _
        rw [hset]
        rw [List.length_map] at hKl
        simp [-e_keysF, -List.map_map]
        rw [hkf _ rfl]
        simp [hf', hem, hsk, hFl, hlast, hKl, -List.map_map, -List.isEmpty_iff]
      · rw [e2, List.length_append]; omega
end Wk
set_option Elab.async false
set_option linter.all false
set_option maxRecDepth 100000
set_option maxHeartbeats 8000000
namespace Wk
open PySem PySem.Spec L2 DL
def neverB (b : List (Str × Way)) (made : List Str) : List Str := (goodsB b).filter fun z => !decide (z ∈ made)
theorem row_at {xs : List (List Str)} {j : Nat} {d : D} (hd : (xs.map lstS)[j]? = some d) : ∃ z, xs[j]? = some z ∧ d = lstS z := by
  rw [List.getElem?_map] at hd
  cases e : xs[j]? with
  | none => rw [e] at hd; cases hd
  | some z => rw [e] at hd; exact ⟨z, rfl, (Option.some.inj hd).symm⟩
theorem flat_take {xs : List (List Str)} {j : Nat} {r : List Str} (h : xs[j]? = some r) : (xs.take (j + 1)).flatten = (xs.take j).flatten ++ r := by
  rw [List.take_add_one, h, List.flatten_append]; simp
theorem never_ok {b : List (Str × Way)} (hb : Book b) {raws : List Str} {all : List (List Str)} {as0 : List AV} (hl : F_layers [.fz (bookD b), .fz (lstS raws)] = .val (.lst (all.map lstS)) as0) (hz : all.flatten.length ≤ 100) :
    ∃ as, F_never [.fz (bookD b), .fz (lstS raws)] = .val (lstS (neverB b all.flatten)) as := by
  obtain ⟨a1, h1⟩ := allgoods_ok hb
  have hs : sizeLine = 16777216 := sizeLine_eq
  have hgl := goodsB_len hb
  let inner : Ev → SOut := seqS (DL.putAt 2 (varE 4) (conE (.bl true))) nxS
  let body : Ev → SOut := seqS (forF (itF (varE 3)) (.nm 4) inner) nxS
  have sub : ∀ j, ((all.take j).flatten).length ≤ 100 := fun j => by
    refine Nat.le_trans ?_ hz
    conv => rhs; rw [← List.take_append_drop j all, List.flatten_append, List.length_append]
    omega
  have key := for_inv (g := .nm 3) (b := body) (fun j ρ => ∃ (ps : List (Str × Unit)) (k3 k4 : AV), ρ = [AV.fz (bookD b), .fz (lstS raws), .ow false (.d (kvsD tru ps)), k3, k4] ∧ (k3 = .un ∨ ∃ d, k3 = .fz d) ∧ (k4 = .un ∨ ∃ d, k4 = .fz d) ∧ (∀ x, x ∈ ps.map (·.1) ↔ x ∈ (all.take j).flatten) ∧ ps.length ≤ ((all.take j).flatten).length)
    (all.map lstS) 0 [AV.fz (bookD b), .fz (lstS raws), .ow false (.d []), .un, .un] ⟨[], .un, .un, rfl, .inl rfl, .inl rfl, by simp, by simp⟩ ?_
  · obtain ⟨ρ', hf, ps, k3, k4, rfl, h3, h4, mem, len⟩ := key
    simp only [Nat.zero_add, List.length_map, List.take_length] at hf mem len
    have hlc : lcLoop (.nm 4) (tstF (binF ninA (varR 4) (varR 2))) (varE 4) [4] ((goodsB b).map D.str) [AV.fz (bookD b), .fz (lstS raws), .ow false (.d (kvsD tru ps)), k3, .un] [] = .val ((neverB b all.flatten).map D.str) [AV.fz (bookD b), .fz (lstS raws), .ow false (.d (kvsD tru ps)), k3, .un] := by
      have := lc_pure (g := .nm 4) (tt := tstF (binF ninA (varR 4) (varR 2))) (te := varE 4) (vs := [4]) (ρ := [AV.fz (bookD b), .fz (lstS raws), .ow false (.d (kvsD tru ps)), k3, .un]) (onS fun z => !decide (z ∈ all.flatten)) id ((goodsB b).map D.str) [] (by simp; omega)
        (fun d hd => by
          obtain ⟨o, ho, rfl⟩ := List.mem_map.mp hd
          have i1 := nin_kvs (enc := tru) o ps
          have e : decide (o ∈ ps.map (·.1)) = decide (o ∈ all.flatten) := decide_eq_decide.mpr (mem o)
          rw [e] at i1
          exact ⟨[AV.fz (bookD b), .fz (lstS raws), .ow false (.d (kvsD tru ps)), k3, .fz (.str o)], by simp, by simp [i1, onS, -List.mem_flatten], by simp, by simp, by simp⟩)
      rw [List.nil_append, List.map_id, filter_onS] at this
      exact this
    refine ⟨[.fz (bookD b), .fz (lstS raws)], ?_⟩
    simp only [body, inner] at hf
    generalize neverB b all.flatten = NB at hlc ⊢
    generalize all.map lstS = AL at hl hf
    rcases h4 with rfl | ⟨_, rfl⟩ <;> simp [F_never, s_never, hl, hf, h1, hlc, -List.map_map]
  · rintro j d ρ hd ⟨ps, k3, k4, rfl, h3, h4, mem, len⟩
    simp only [Nat.zero_add] at mem len ⊢
    obtain ⟨r, hr, rfl⟩ := row_at hd
    have key2 := for_inv (g := .nm 4) (b := inner) (fun i ρ => ∃ (qs : List (Str × Unit)) (k4 : AV), ρ = [AV.fz (bookD b), .fz (lstS raws), .ow false (.d (kvsD tru qs)), .fz (lstS r), k4] ∧ (k4 = .un ∨ ∃ d, k4 = .fz d) ∧ (∀ x, x ∈ qs.map (·.1) ↔ x ∈ (all.take j).flatten ∨ x ∈ r.take i) ∧ qs.length ≤ ((all.take j).flatten).length + i)
      (r.map D.str) 0 [AV.fz (bookD b), .fz (lstS raws), .ow false (.d (kvsD tru ps)), .fz (lstS r), k4] ⟨ps, k4, rfl, h4, fun x => by rw [mem]; simp, by omega⟩ ?_
    · obtain ⟨ρ', hf, qs, k4', rfl, g4, mem', len'⟩ := key2
      simp only [Nat.zero_add, List.length_map, List.take_length] at hf mem' len'
      refine ⟨[AV.fz (bookD b), .fz (lstS raws), .ow false (.d (kvsD tru ps)), .fz (lstS r), k4], [AV.fz (bookD b), .fz (lstS raws), .ow false (.d (kvsD tru qs)), .fz (lstS r), k4'], ?_, ?_, qs, .fz (lstS r), k4', rfl, .inr ⟨_, rfl⟩, g4, fun x => by rw [mem', flat_take hr, List.mem_append], by rw [flat_take hr, List.length_append]; omega⟩
      · rcases h3 with rfl | ⟨_, rfl⟩ <;> simp
      · simp only [inner] at hf
        simp [body, inner, hf, -List.map_map]
    · rintro i d ρ hd ⟨qs, k4, rfl, h4, mem, len⟩
      simp only [Nat.zero_add] at mem len ⊢
      obtain ⟨z, hz', hm, rfl⟩ := str_at hd
      have hi : i < r.length := (List.getElem?_eq_some_iff.mp hz').1
      have h100 := sub (j + 1)
      rw [flat_take hr, List.length_append] at h100
      have hz1 : (kvsD tru qs).length < sizeLine := by rw [kvsD_length]; omega
      have hla := putA_length qs z ()
      have hpd := putD_kvs (enc := tru) qs z ()
      have hpd' : putD (kvsD tru qs) (.inr z) (.bl true) = kvsD tru (putA qs z ()) := hpd
      refine ⟨[AV.fz (bookD b), .fz (lstS raws), .ow false (.d (kvsD tru qs)), .fz (lstS r), .fz (.str z)], [AV.fz (bookD b), .fz (lstS raws), .ow false (.d (kvsD tru (putA qs z ()))), .fz (lstS r), .fz (.str z)], ?_, ?_, putA qs z (), _, rfl, .inr ⟨_, rfl⟩, fun x => ?_, by omega⟩
      · rcases h4 with rfl | ⟨_, rfl⟩ <;> simp
      · simp [inner, hz1, hpd']
      · rw [putA_has, mem, List.take_add_one, hz']
        simp [or_assoc]
end Wk
set_option Elab.async false
set_option linter.all false
set_option maxRecDepth 100000
set_option maxHeartbeats 8000000
namespace Wk
open PySem PySem.Spec L2 DL
def q1 : Ev → SOut := setN 1 (lstN (nilL))
def q2 : Ev → SOut := setS 2 (callF 3 F_law_book (datA (varE 0) (refA 1 (datA (conE (.int 6)) (nilA)))))
def q3 : Ev → SOut := setS 3 (callF 1 F_law_goods (datA (varE 2) (nilA)))
def q4 : Ev → SOut := setS 4 (mapO OD.dat (unF skD (varR 2)))
def q5 : Ev → SOut := setS 5 (callF 3 F_law_raws (datA (varE 0) (refA 1 (datA (varE 2) (nilA)))))
def q6 : Ev → SOut := ifS (orF (tstF (binF neO (datO (callF 1 F_goods (datA (varE 2) (nilA)))) (varR 3))) (tstF (binF neO (datO (callF 1 F_rings (datA (varE 2) (nilA)))) (datO (callF 1 F_law_rings (datA (varE 2) (nilA))))))) (seqS (retS (conE (.bl false))) (nxS)) (nxS)
def b7 : Ev → SOut :=  seqS (ifS (tstF (binF neO (datO (callF 2 F_givers (datA (varE 2) (datA (varE 6) (nilA))))) (datO (mapO OD.dat (lcF (itF (varE 4)) (.nm 7) (tstF (binF inA (varR 6) (datO (mapO OD.dat (lcF (itF (binF ixO (datO (binF ixO (varR 2) (varR 7))) (datO (conE (.int 1))))) (.tp [8, 9]) (yesF) (varE 8) [8, 9]))))) (varE 7) [7]))))) (seqS (retS (conE (.bl false))) (nxS)) (nxS)) (seqS (ifS (tstF (binF neO (datO (callF 2 F_takers (datA (varE 2) (datA (varE 6) (nilA))))) (datO (mapO OD.dat (lcF (itF (varE 4)) (.nm 7) (tstF (binF inA (varR 6) (datO (mapO OD.dat (lcF (itF (binF ixO (datO (binF ixO (varR 2) (varR 7))) (datO (conE (.int 0))))) (.tp [8, 9]) (yesF) (varE 8) [8, 9]))))) (varE 7) [7]))))) (seqS (retS (conE (.bl false))) (nxS)) (nxS)) (nxS))
def q7 : Ev → SOut := forF (itF (binF addO (varR 3) (datO (mapO OD.dat (lstN (consL (conE (.str "nothing")) (nilL))))))) ( .nm 6) b7
def q8 : Ev → SOut := setS 10 (callF 2 F_layers (datA (varE 2) (datA (varE 5) (nilA))))
def q9 : Ev → SOut := setS 11 (mapO OD.dat (unF listD (varR 5)))
def q10 : Ev → SOut := ifS (tstF (binF neO (datO (binF ixO (varR 10) (datO (conE (.int 0))))) (varR 5))) (seqS (retS (conE (.bl false))) (nxS)) (nxS)
def b11 : Ev → SOut :=  seqS (setS 13 (mapO OD.dat (lstN (nilL)))) (seqS (forF (itF (varE 4)) (.nm 7) (seqS (ifS (tstF (binF eqO (datO (mapO OD.dat (lcF (itF (binF ixO (datO (binF ixO (varR 2) (varR 7))) (datO (conE (.int 0))))) (.tp [6, 9]) (tstF (binF ninA (varR 6) (varR 11))) (varE 6) [6, 9]))) (datO (mapO OD.dat (lstN (nilL)))))) (seqS (setS 13 (binF addO (varR 13) (datO (mapO OD.dat (lcF (itF (binF ixO (datO (binF ixO (varR 2) (varR 7))) (datO (conE (.int 1))))) (.tp [6, 9]) (yesF) (varE 6) [6, 9]))))) (nxS)) (nxS)) (nxS))) (seqS (setS 13 (mapO OD.dat (unF sortSetD (datO (mapO OD.dat (lcF (itF (varE 13)) (.nm 6) (tstF (binF ninA (varR 6) (varR 11))) (varE 6) [6])))))) (seqS (ifS (tstF (binF neO (varR 12) (varR 13))) (seqS (retS (conE (.bl false))) (nxS)) (nxS)) (seqS (setS 11 (binF addO (varR 11) (varR 12))) (nxS)))))
def q11 : Ev → SOut := forF (itF (binF addO (datO (slF (varE 10) (partF (conE (.int 1))) (noPF))) (datO (mapO OD.dat (lstN (consL (mapO OD.dat (lstN (nilL))) (nilL))))))) ( .nm 12) b11
def q12 : Ev → SOut := ifS (tstF (binF neO (datO (callF 2 F_never (datA (varE 2) (datA (varE 5) (nilA))))) (datO (mapO OD.dat (lcF (itF (varE 3)) (.nm 6) (tstF (binF ninA (varR 6) (varR 11))) (varE 6) [6]))))) (seqS (retS (conE (.bl false))) (nxS)) (nxS)
def q13 : Ev → SOut := setS 14 (mapO OD.dat (unF sortSetD (datO (binF addO (varR 5) (datO (slF (varE 3) (noPF) (partF (conE (.int 1)))))))))
def q14 : Ev → SOut := ifS (tstF (binF gtI (datO (unF lenD (varR 14))) (datO (conE (.int 20))))) (seqS (retS (conE (.bl true))) (nxS)) (nxS)
def q15 : Ev → SOut := retS (binF eqO (datO (mapO OD.dat (lcF (itF (callF 2 F_never (datA (varE 2) (datA (varE 14) (nilA))))) (.nm 6) (andF (tstF (binF ninA (varR 6) (datO (callF 2 F_never (datA (varE 2) (datA (varE 5) (nilA))))))) (tstF (binF ninA (varR 6) (varR 5)))) (varE 6) [6]))) (datO (mapO OD.dat (lstN (nilL)))))
theorem s_law_eq : s_law = seqS q1 (seqS q2 (seqS q3 (seqS q4 (seqS q5 (seqS q6 (seqS q7 (seqS q8 (seqS q9 (seqS q10 (seqS q11 (seqS q12 (seqS q13 (seqS q14 (seqS q15 (nxS))))))))))))))) := rfl
abbrev T (n : Nat) : AV := .ow false (.l (List.replicate n (.int 0)))
/-! ### what can be made, more of it from more -/
def Cls (b : List (Str × Way)) (C : List Str) : Prop := ∀ z v, (z, v) ∈ b → rdy C v = true → ∀ y ∈ v.give.map (·.1), y ∈ C
theorem rdy_iff {C : List Str} {v : Way} : rdy C v = true ↔ ∀ p ∈ v.need, p.1 ∈ C := by
  unfold rdy
  rw [List.all_eq_true]
  exact ⟨fun h p hp => of_decide_eq_true (h p hp), fun h p hp => decide_eq_true (h p hp)⟩
theorem dueL_iff {b : List (Str × Way)} {known : List Str} {y : Str} : y ∈ dueL b known ↔ ∃ z v, (z, v) ∈ b ∧ rdy known v = true ∧ y ∈ v.give.map (·.1) ∧ y ∉ known := by
  unfold dueL
  rw [List.mem_flatten]
  constructor
  · rintro ⟨l, hl, hy⟩
    obtain ⟨p, hp, rfl⟩ := List.mem_map.mp hl
    unfold fresh at hy
    split at hy
    · obtain ⟨h1, h2⟩ := List.mem_filter.mp hy
      exact ⟨p.1, p.2, hp, by assumption, h1, by simpa using h2⟩
    · cases hy
  · rintro ⟨z, v, hm, hr, h1, h2⟩
    refine ⟨_, List.mem_map.mpr ⟨_, hm, rfl⟩, ?_⟩
    unfold fresh
    rw [if_pos hr]
    exact List.mem_filter.mpr ⟨h1, by simpa using h2⟩
theorem closed_of {b : List (Str × Way)} {K : List Str} (h : rowB b K = []) : Cls b K := fun z v hm hr y hy => by
  by_cases hk : y ∈ K
  · exact hk
  · have : y ∈ rowB b K := srtSet_mem.mpr (dueL_iff.mpr ⟨z, v, hm, hr, hy, hk⟩)
    rw [h] at this; cases this
theorem least_of {b : List (Str × Way)} {raws C : List Str} {rows : List (List Str)} (lo : LayOk b raws rows) (hC : Cls b C) (hr : ∀ y ∈ raws, y ∈ C) : ∀ j, j ≤ rows.length → ∀ y ∈ raws ++ (rows.take j).flatten, y ∈ C
  | 0, _, y, hy => hr y (by simpa using hy)
  | j + 1, hj, y, hy => by
    have ih := least_of lo hC hr j (by omega)
    obtain ⟨r, hrow⟩ : ∃ r, rows[j]? = some r := ⟨_, List.getElem?_eq_getElem (by omega)⟩
    rw [flat_take hrow, ← List.append_assoc] at hy
    rcases List.mem_append.mp hy with hy | hy
    · exact ih y hy
    · rw [lo.row j r hrow] at hy
      obtain ⟨z, v, hm, hrd, h1, _⟩ := dueL_iff.mp (srtSet_mem.mp hy)
      exact hC z v hm (rdy_iff.mpr fun p hp => ih _ (rdy_iff.mp hrd p hp)) y h1
theorem more_made {b : List (Str × Way)} {raws more : List Str} {rows rows' : List (List Str)} (lo : LayOk b raws rows) (lo' : LayOk b more rows') (fin : rowB b (more ++ rows'.flatten) = []) (sub : ∀ y ∈ raws, y ∈ more) : ∀ y ∈ raws ++ rows.flatten, y ∈ more ++ rows'.flatten := fun y hy =>
  least_of lo (closed_of fin) (fun y hy => List.mem_append_left _ (sub y hy)) rows.length (Nat.le_refl _) y (by rw [List.take_length]; exact hy)
theorem nms_wd {b : List (Str × Way)} (hb : Book b) {z : Str} (h : z ∈ nmsB b) : Wd z := by
  obtain ⟨w, hm⟩ := nms_way h
  exact hb.wd _ hm
def nth : List Str := ["nothing"]
theorem nothing_wd : Wd "nothing" := ⟨by decide +kernel, by decide +kernel, by decide +kernel⟩
theorem pl_sub {xs ys : List Str} (h : ∀ y ∈ ys, Wd y) (s : ∀ x ∈ xs, x ∈ ys) : ∀ x ∈ xs, Plain x := fun x hx => (h x (s x hx)).plain
/-- the words of a side, in a comprehension -/
theorem words_lc {s : List (Str × Int)} (hs : s.length ≤ 3) {ρ : Ev} {i j : Nat} (h1 : isRef ρ i = false) (h2 : isRef ρ j = false) (hij : i ≠ j) (w1 : ρ[i]? = some .un) (w2 : ρ[j]? = some .un) :
    lcLoop (.tp [i, j]) yesF (varE i) [i, j] (s.map pD) ρ [] = .val ((s.map (·.1)).map D.str) ρ := by
  have hz : sizeLine = 16777216 := sizeLine_eq
  have hi : i < ρ.length := (List.getElem?_eq_some_iff.mp w1).1
  have hj : j < ρ.length := (List.getElem?_eq_some_iff.mp w2).1
  have := lc_pure (g := .tp [i, j]) (tt := yesF) (te := varE i) (vs := [i, j]) (ρ := ρ) (fun _ => true) (fun d => match d with | .tup (a :: _) => a | _ => .non) (s.map pD) [] (by simp; omega)
    (fun d hd => by
      obtain ⟨p, hp, rfl⟩ := List.mem_map.mp hd
      have r2 : isRef (ρ.set i (.fz (.str p.1))) j = false := by
        unfold isRef at h2 ⊢
        rw [List.getElem?_set_ne hij]; exact h2
      have g1 : ((ρ.set i (.fz (.str p.1))).set j (.fz (.int p.2)))[i]? = some (.fz (.str p.1)) := by rw [List.getElem?_set_ne (Ne.symm hij), List.getElem?_set_self hi]
      have g2 : ((ρ.set i (.fz (.str p.1))).set j (.fz (.int p.2)))[j]? = some (.fz (.int p.2)) := List.getElem?_set_self (by rw [List.length_set]; exact hj)
      refine ⟨(ρ.set i (.fz (.str p.1))).set j (.fz (.int p.2)), ?_, rfl, fun _ => ?_, ?_, ?_⟩
      · show setAll [i, j] [.str p.1, .int p.2] ρ = _
        rw [e_setA2, h1, if_neg (by decide), e_setA2, r2, if_neg (by decide)]; rfl
      · unfold varE; rw [g1]
      · show (!isRef _ i && (!isRef _ j && true)) = true
        unfold isRef; rw [g1, g2]; rfl
      · show (((ρ.set i (.fz (.str p.1))).set j (.fz (.int p.2))).set j .un).set i .un = ρ
        apply List.ext_getElem?
        intro k
        by_cases ki : i = k
        · subst ki
          rw [List.getElem?_set_self (by simp; exact hi), w1]
        · rw [List.getElem?_set_ne ki]
          by_cases kj : j = k
          · subst kj; rw [List.getElem?_set_self (by simp; exact hj), w2]
          · rw [List.getElem?_set_ne kj, List.getElem?_set_ne kj, List.getElem?_set_ne ki])
  rw [List.nil_append, List.filter_eq_self.mpr (fun _ _ => rfl), List.map_map] at this
  rw [this, List.map_map]; rfl
theorem q7_ok {b : List (Str × Way)} (hb : Book b) (SC TN RS : AV) : ∃ k6 : AV, (k6 = .un ∨ ∃ d, k6 = .fz d) ∧ q7 [SC, TN, .fz (bookD b), .fz (lstS (goodsB b)), .fz (lstS (nmsB b)), RS, .un, .un, .un, .un, .un, .un, .un, .un, .un] = .nx [SC, TN, .fz (bookD b), .fz (lstS (goodsB b)), .fz (lstS (nmsB b)), RS, k6, .un, .un, .un, .un, .un, .un, .un, .un] := by
  have hz : sizeLine = 16777216 := sizeLine_eq
  have hgl := goodsB_len hb
  have hb6 := hb.hi
  have hnl := nms_len b
  have wx : ∀ x ∈ goodsB b ++ nth, Wd x := fun x hx => by
    rcases List.mem_append.mp hx with hx | hx
    · exact goodsB_wd hb hx
    · have : x = "nothing" := List.mem_singleton.mp hx
      subst this; exact nothing_wd
  have key := for_inv (g := .nm 6) (b := b7) (fun j ρ => ∃ k6 : AV, ρ = [SC, TN, .fz (bookD b), .fz (lstS (goodsB b)), .fz (lstS (nmsB b)), RS, k6, .un, .un, .un, .un, .un, .un, .un, .un] ∧ (k6 = .un ∨ ∃ d, k6 = .fz d))
    ((goodsB b ++ nth).map D.str) 0 [SC, TN, .fz (bookD b), .fz (lstS (goodsB b)), .fz (lstS (nmsB b)), RS, .un, .un, .un, .un, .un, .un, .un, .un, .un] ⟨.un, rfl, .inl rfl⟩ ?_
  · obtain ⟨ρ', hf, k6, rfl, h6⟩ := key
    refine ⟨k6, h6, ?_⟩
    have ha := add_strs ((goodsB b).map D.str) [.str "nothing"] (by simp; omega)
    have hm : (goodsB b).map D.str ++ [D.str "nothing"] = (goodsB b ++ nth).map D.str := by rw [List.map_append]; rfl
    rw [hm] at ha
    have hz1 : 1 ≤ sizeLine := by omega
    simp [q7, hz1, ha, hf, -List.map_append]
  · rintro j d ρ hd ⟨k6, rfl, h6⟩
    obtain ⟨x, hx, hm, rfl⟩ := str_at hd
    obtain ⟨ag, hg⟩ := givers_ok hb (wx x hm)
    obtain ⟨at', ht⟩ := takers_ok hb (wx x hm)
    have neG := ne_strs ((nmsB b).filter (hasG b x)) ((nmsB b).filter (hasG b x)) (pl_sub (fun y hy => nms_wd hb hy) fun y hy => (List.mem_filter.mp hy).1) (pl_sub (fun y hy => nms_wd hb hy) fun y hy => (List.mem_filter.mp hy).1)
    have neN := ne_strs ((nmsB b).filter (hasN b x)) ((nmsB b).filter (hasN b x)) (pl_sub (fun y hy => nms_wd hb hy) fun y hy => (List.mem_filter.mp hy).1) (pl_sub (fun y hy => nms_wd hb hy) fun y hy => (List.mem_filter.mp hy).1)
    rw [decide_eq_true rfl] at neG neN
    have lG := lc_pure (g := .nm 7) (tt := tstF (binF inA (varR 6) (datO (mapO OD.dat (lcF (itF (binF ixO (datO (binF ixO (varR 2) (varR 7))) (datO (conE (.int 1))))) (.tp [8, 9]) yesF (varE 8) [8, 9]))))) (te := varE 7) (vs := [7]) (ρ := [SC, TN, .fz (bookD b), .fz (lstS (goodsB b)), .fz (lstS (nmsB b)), RS, .fz (.str x), .un, .un, .un, .un, .un, .un, .un, .un]) (onS (hasG b x)) id ((nmsB b).map D.str) [] (by simp; omega)
      (fun d hd => by
        obtain ⟨z, hz', rfl⟩ := List.mem_map.mp hd
        obtain ⟨v, hv⟩ := nms_way hz'
        have hw : ixO (bookD b) (.str z) = some (wayD v) := way_at hb.nd hv
        have hgv := hb.way _ hv
        have hwl := words_lc (s := v.give) (by have := hgv.give.hi; exact this) (ρ := [SC, TN, .fz (bookD b), .fz (lstS (goodsB b)), .fz (lstS (nmsB b)), RS, .fz (.str x), .fz (.str z), .un, .un, .un, .un, .un, .un, .un]) (i := 8) (j := 9) rfl rfl (by decide) rfl rfl
        have hin := in_strs x (v.give.map (·.1))
        have hh : hasG b x z = decide (x ∈ v.give.map (·.1)) := by unfold hasG; rw [findA_of hb.nd hv]
        refine ⟨[SC, TN, .fz (bookD b), .fz (lstS (goodsB b)), .fz (lstS (nmsB b)), RS, .fz (.str x), .fz (.str z), .un, .un, .un, .un, .un, .un, .un], by simp, ?_, by simp, by simp, by simp⟩
        simp [hw, wayD, itP, hwl, hin, onS, hh, -List.map_map, -List.mem_map])
    have lN := lc_pure (g := .nm 7) (tt := tstF (binF inA (varR 6) (datO (mapO OD.dat (lcF (itF (binF ixO (datO (binF ixO (varR 2) (varR 7))) (datO (conE (.int 0))))) (.tp [8, 9]) yesF (varE 8) [8, 9]))))) (te := varE 7) (vs := [7]) (ρ := [SC, TN, .fz (bookD b), .fz (lstS (goodsB b)), .fz (lstS (nmsB b)), RS, .fz (.str x), .un, .un, .un, .un, .un, .un, .un, .un]) (onS (hasN b x)) id ((nmsB b).map D.str) [] (by simp; omega)
      (fun d hd => by
        obtain ⟨z, hz', rfl⟩ := List.mem_map.mp hd
        obtain ⟨v, hv⟩ := nms_way hz'
        have hw : ixO (bookD b) (.str z) = some (wayD v) := way_at hb.nd hv
        have hgv := hb.way _ hv
        have hwl := words_lc (s := v.need) (by have := hgv.need.hi; exact this) (ρ := [SC, TN, .fz (bookD b), .fz (lstS (goodsB b)), .fz (lstS (nmsB b)), RS, .fz (.str x), .fz (.str z), .un, .un, .un, .un, .un, .un, .un]) (i := 8) (j := 9) rfl rfl (by decide) rfl rfl
        have hin := in_strs x (v.need.map (·.1))
        have hh : hasN b x z = decide (x ∈ v.need.map (·.1)) := by unfold hasN; rw [findA_of hb.nd hv]
        refine ⟨[SC, TN, .fz (bookD b), .fz (lstS (goodsB b)), .fz (lstS (nmsB b)), RS, .fz (.str x), .fz (.str z), .un, .un, .un, .un, .un, .un, .un], by simp, ?_, by simp, by simp, by simp⟩
        simp [hw, wayD, itP, hwl, hin, onS, hh, -List.map_map, -List.mem_map])
    rw [List.nil_append, List.map_id, filter_onS] at lG lN
    refine ⟨[SC, TN, .fz (bookD b), .fz (lstS (goodsB b)), .fz (lstS (nmsB b)), RS, .fz (.str x), .un, .un, .un, .un, .un, .un, .un, .un], [SC, TN, .fz (bookD b), .fz (lstS (goodsB b)), .fz (lstS (nmsB b)), RS, .fz (.str x), .un, .un, .un, .un, .un, .un, .un, .un], ?_, ?_, _, rfl, .inr ⟨_, rfl⟩⟩
    · rcases h6 with rfl | ⟨_, rfl⟩ <;> simp
    · simp [b7, hg, ht, lG, lN, neG, neN]
end Wk
set_option Elab.async false
set_option linter.all false
set_option maxRecDepth 100000
set_option maxHeartbeats 8000000
namespace Wk
open PySem PySem.Spec L2 DL
def onP (f : Str → Bool) : D → Bool
  | .tup (.str a :: _) => f a
  | _ => false
theorem filter_onP (f : Str → Bool) (s : List (Str × Int)) : (s.map pD).filter (onP f) = (s.filter fun p => f p.1).map pD := by
  induction s with
  | nil => rfl
  | cons x xs ih =>
    rw [List.map_cons]
    by_cases h : f x.1 = true
    · rw [List.filter_cons_of_pos (by exact h), List.filter_cons_of_pos (by exact h), List.map_cons, ih]
    · rw [List.filter_cons_of_neg (by exact h), List.filter_cons_of_neg (by exact h), ih]
def bR : Ev → SOut := seqS (ifS (tstF (binF eqO (datO (mapO OD.dat (lcF (itF (binF ixO (datO (binF ixO (varR 2) (varR 7))) (datO (conE (.int 0))))) (.tp [6, 9]) (tstF (binF ninA (varR 6) (varR 11))) (varE 6) [6, 9]))) (datO (mapO OD.dat (lstN nilL))))) (seqS (setS 13 (binF addO (varR 13) (datO (mapO OD.dat (lcF (itF (binF ixO (datO (binF ixO (varR 2) (varR 7))) (datO (conE (.int 1))))) (.tp [6, 9]) yesF (varE 6) [6, 9]))))) nxS) nxS) nxS
theorem b11_eq : b11 = seqS (setS 13 (mapO OD.dat (lstN nilL))) (seqS (forF (itF (varE 4)) (.nm 7) bR) (seqS (setS 13 (mapO OD.dat (unF sortSetD (datO (mapO OD.dat (lcF (itF (varE 13)) (.nm 6) (tstF (binF ninA (varR 6) (varR 11))) (varE 6) [6])))))) (seqS (ifS (tstF (binF neO (varR 12) (varR 13))) (seqS (retS (conE (.bl false))) nxS) nxS) (seqS (setS 11 (binF addO (varR 11) (varR 12))) nxS)))) := rfl
abbrev UF (k : AV) : Prop := k = .un ∨ ∃ d, k = .fz d
theorem names_nd {b : List (Str × Way)} (hb : Book b) : (nmsB b).Nodup := (DLS.srt_perm _).nodup_iff.mpr hb.nd
theorem due_ok {b : List (Str × Way)} (hb : Book b) (SC TN WS RS F10 k12 : AV) (known : List Str) (k6 k7 : AV) (h6 : UF k6) (h7 : UF k7) (hkp : ∀ x ∈ known, True) :
    ∃ (acc : List Str) (k7' : AV), UF k7' ∧ acc.length ≤ 18 ∧ (∀ x, x ∈ acc ↔ ∃ z v, (z, v) ∈ b ∧ rdy known v = true ∧ x ∈ v.give.map (·.1)) ∧
      forS (.nm 7) bR ((nmsB b).map D.str) [SC, TN, .fz (bookD b), WS, .fz (lstS (nmsB b)), RS, k6, k7, .un, .un, F10, .fz (lstS known), k12, .fz (.lst []), .un] = .nx [SC, TN, .fz (bookD b), WS, .fz (lstS (nmsB b)), RS, k6, k7', .un, .un, F10, .fz (lstS known), k12, .fz (lstS acc), .un] := by
  have hz : sizeLine = 16777216 := sizeLine_eq
  have hb6 := hb.hi
  have hnl := nms_len b
  have key := for_inv (g := .nm 7) (b := bR) (fun j ρ => ∃ (acc : List Str) (k7 : AV), ρ = [SC, TN, .fz (bookD b), WS, .fz (lstS (nmsB b)), RS, k6, k7, .un, .un, F10, .fz (lstS known), k12, .fz (lstS acc), .un] ∧ UF k7 ∧ acc.length ≤ 3 * j ∧ (∀ x, x ∈ acc ↔ ∃ z v, z ∈ (nmsB b).take j ∧ (z, v) ∈ b ∧ rdy known v = true ∧ x ∈ v.give.map (·.1)))
    ((nmsB b).map D.str) 0 [SC, TN, .fz (bookD b), WS, .fz (lstS (nmsB b)), RS, k6, k7, .un, .un, F10, .fz (lstS known), k12, .fz (.lst []), .un] ⟨[], k7, rfl, h7, by simp, by simp⟩ ?_
  · obtain ⟨ρ', hf, acc, k7', rfl, h7', len, mem⟩ := key
    simp only [Nat.zero_add, List.length_map, List.take_length] at hf len mem
    refine ⟨acc, k7', h7', by omega, fun x => ?_, hf⟩
    rw [mem]
    exact ⟨fun ⟨z, v, _, q⟩ => ⟨z, v, q⟩, fun ⟨z, v, q1, q2⟩ => ⟨z, v, (DLS.srt_perm _).mem_iff.mpr (List.mem_map.mpr ⟨_, q1, rfl⟩), q1, q2⟩⟩
  · rintro j d ρ hd ⟨acc, k7, rfl, h7, len, mem⟩
    simp only [Nat.zero_add] at len mem ⊢
    obtain ⟨z, hz', hm', rfl⟩ := str_at hd
    have hj : j < (nmsB b).length := (List.getElem?_eq_some_iff.mp hz').1
    obtain ⟨v, hm⟩ := nms_way hm'
    have hv : GWay v := hb.way _ hm
    have hix : ixO (bookD b) (.str z) = some (wayD v) := way_at hb.nd hm
    have hnl3 := hv.need.hi
    have hgl3 := hv.give.hi
    have tk : ∀ q, (∃ z' v', z' ∈ (nmsB b).take (j + 1) ∧ (z', v') ∈ b ∧ rdy known v' = true ∧ q ∈ v'.give.map (·.1)) ↔ ((∃ z' v', z' ∈ (nmsB b).take j ∧ (z', v') ∈ b ∧ rdy known v' = true ∧ q ∈ v'.give.map (·.1)) ∨ (rdy known v = true ∧ q ∈ v.give.map (·.1))) := fun q => by
      rw [List.take_add_one, hz']
      constructor
      · rintro ⟨z', v', h1, h2, h3⟩
        rcases List.mem_append.mp h1 with h1 | h1
        · exact .inl ⟨z', v', h1, h2, h3⟩
        · have : z' = z := by simpa using h1
          subst this
          have : v' = v := by
            have a1 := findA_of hb.nd h2
            have a2 := findA_of hb.nd hm
            rw [a1] at a2; exact Option.some.inj a2
          subst this
          exact .inr h3
      · rintro (⟨z', v', h1, h2, h3⟩ | h3)
        · exact ⟨z', v', List.mem_append_left _ h1, h2, h3⟩
        · exact ⟨z, v, List.mem_append_right _ (by simp), hm, h3⟩
    have l1 := lc_pure (g := .tp [6, 9]) (tt := tstF (binF ninA (varR 6) (varR 11))) (te := varE 6) (vs := [6, 9]) (ρ := [SC, TN, .fz (bookD b), WS, .fz (lstS (nmsB b)), RS, .un, .fz (.str z), .un, .un, F10, .fz (lstS known), k12, .fz (lstS acc), .un]) (onP fun w => !decide (w ∈ known)) (fun d => match d with | .tup (a :: _) => a | _ => .non) (v.need.map pD) [] (by simp; omega)
      (fun d hd => by
        obtain ⟨p, hp, rfl⟩ := List.mem_map.mp hd
        have hin := nin_strs p.1 known
        refine ⟨[SC, TN, .fz (bookD b), WS, .fz (lstS (nmsB b)), RS, .fz (.str p.1), .fz (.str z), .un, .fz (.int p.2), F10, .fz (lstS known), k12, .fz (lstS acc), .un], by simp, ?_, by simp, by simp, by simp⟩
        simp [hin, onP])
    have l2 := words_lc (s := v.give) hgl3 (ρ := [SC, TN, .fz (bookD b), WS, .fz (lstS (nmsB b)), RS, .un, .fz (.str z), .un, .un, F10, .fz (lstS known), k12, .fz (lstS acc), .un]) (i := 6) (j := 9) rfl rfl (by decide) rfl rfl
    rw [List.nil_append, filter_onP, List.map_map] at l1
    have e1 : (v.need.filter fun p => !decide (p.1 ∈ known)).map ((fun d => match d with | .tup (a :: _) => a | _ => D.non) ∘ pD) = ((v.need.filter fun p => !decide (p.1 ∈ known)).map (·.1)).map D.str := by rw [List.map_map]; rfl
    rw [e1] at l1
    have he := eq_strs ((v.need.filter fun p => !decide (p.1 ∈ known)).map (·.1)) [] (fun y hy => by
      obtain ⟨p, hp, rfl⟩ := List.mem_map.mp hy
      exact (hv.need.wd p (List.mem_filter.mp hp).1).plain) (fun y hy => by cases hy)
    have hd' : decide ((v.need.filter fun p => !decide (p.1 ∈ known)).map (·.1) = []) = rdy known v := by
      rw [Bool.eq_iff_iff, decide_eq_true_iff, rdy_iff, List.map_eq_nil_iff, List.filter_eq_nil_iff]
      exact ⟨fun h p hp => by simpa using h p hp, fun h p hp => by simpa using h p hp⟩
    rw [hd'] at he
    have he' : eqO (.lst (((v.need.filter fun p => !decide (p.1 ∈ known)).map (·.1)).map D.str)) (.lst []) = some (.bl (rdy known v)) := he
    generalize ((v.need.filter fun p => !decide (p.1 ∈ known)).map (·.1)).map D.str = NL at l1 he'
    cases hr : rdy known v with
    | false =>
      rw [hr] at he'
      refine ⟨[SC, TN, .fz (bookD b), WS, .fz (lstS (nmsB b)), RS, k6, .fz (.str z), .un, .un, F10, .fz (lstS known), k12, .fz (lstS acc), .un], [SC, TN, .fz (bookD b), WS, .fz (lstS (nmsB b)), RS, k6, .fz (.str z), .un, .un, F10, .fz (lstS known), k12, .fz (lstS acc), .un], ?_, ?_, acc, _, rfl, .inr ⟨_, rfl⟩, by omega, fun x => ?_⟩
      · rcases h7 with rfl | ⟨_, rfl⟩ <;> simp
      · rcases h6 with rfl | ⟨_, rfl⟩ <;> simp [bR, hix, wayD, itP, l1, he']
      · rw [tk, mem, hr]; simp
    | true =>
      rw [hr] at he'
      have hadd := add_strs (acc.map D.str) ((v.give.map (·.1)).map D.str) (by simp; omega)
      rw [← List.map_append] at hadd
      refine ⟨[SC, TN, .fz (bookD b), WS, .fz (lstS (nmsB b)), RS, k6, .fz (.str z), .un, .un, F10, .fz (lstS known), k12, .fz (lstS acc), .un], [SC, TN, .fz (bookD b), WS, .fz (lstS (nmsB b)), RS, k6, .fz (.str z), .un, .un, F10, .fz (lstS known), k12, .fz (lstS (acc ++ v.give.map (·.1))), .un], ?_, ?_, acc ++ v.give.map (·.1), _, rfl, .inr ⟨_, rfl⟩, by rw [List.length_append, List.length_map]; omega, fun x => ?_⟩
      · rcases h7 with rfl | ⟨_, rfl⟩ <;> simp
      · rcases h6 with rfl | ⟨_, rfl⟩ <;> simp [bR, hix, wayD, itP, l1, he', l2, hadd, -List.map_map, -List.map_append]
      · rw [tk, List.mem_append, mem, hr]; simp
theorem q11_ok {b : List (Str × Way)} (hb : Book b) (SC TN WS RS : AV) {raws : List Str} (hr : Raws raws) {rows : List (List Str)} (lo : LayOk b raws rows) (fin : rowB b (raws ++ rows.flatten) = []) (k6 : AV) (h6 : UF k6) :
    ∃ k7 k12 k13 : AV, UF k7 ∧ UF k12 ∧ UF k13 ∧ q11 [SC, TN, .fz (bookD b), WS, .fz (lstS (nmsB b)), RS, k6, .un, .un, .un, .fz (.lst ((raws :: rows).map lstS)), .fz (lstS raws), .un, .un, .un] = .nx [SC, TN, .fz (bookD b), WS, .fz (lstS (nmsB b)), RS, k6, k7, .un, .un, .fz (.lst ((raws :: rows).map lstS)), .fz (lstS (raws ++ rows.flatten)), k12, k13, .un] := by
  have hz : sizeLine = 16777216 := sizeLine_eq
  have hle := lo.le hb
  have hlen := lo.len
  have hrl := hr.len
  let F10 : AV := .fz (.lst ((raws :: rows).map lstS))
  have key := for_inv (g := .nm 12) (b := b11) (fun j ρ => ∃ k7 k12 k13 : AV, ρ = [SC, TN, .fz (bookD b), WS, .fz (lstS (nmsB b)), RS, k6, k7, .un, .un, F10, .fz (lstS (raws ++ ((rows ++ [[]]).take j).flatten)), k12, k13, .un] ∧ UF k7 ∧ UF k12 ∧ UF k13)
    ((rows ++ [[]]).map lstS) 0 [SC, TN, .fz (bookD b), WS, .fz (lstS (nmsB b)), RS, k6, .un, .un, .un, F10, .fz (lstS raws), .un, .un, .un] ⟨.un, .un, .un, by simp, .inl rfl, .inl rfl, .inl rfl⟩ ?_
  · obtain ⟨ρ', hf, k7, k12, k13, rfl, h7, h12, h13⟩ := key
    simp only [Nat.zero_add, List.length_map, List.take_length] at hf
    refine ⟨k7, k12, k13, h7, h12, h13, ?_⟩
    have e0 : (rows ++ [[]]).flatten = rows.flatten := by simp
    rw [e0] at hf
    have hsl : slO (.lst ((raws :: rows).map lstS)) (some 1) none = some (.lst (rows.map lstS)) := by
      show some (D.lst (cutD _ (some 1) none)) = _
      rw [cut_drop _ _ (by decide)]; rfl
    have hadd := add_strs (rows.map lstS) [.lst []] (by simp; omega)
    have hm : rows.map lstS ++ [D.lst []] = (rows ++ [[]]).map lstS := by rw [List.map_append]; rfl
    rw [hm] at hadd
    have hz1 : 1 ≤ sizeLine := by omega
    simp only [F10] at hf
    generalize (raws :: rows).map lstS = FL at hsl hf ⊢
    simp [q11, hsl, hz1, hadd, hf, -List.map_append]
  · rintro j d ρ hd ⟨k7, k12, k13, rfl, h7, h12, h13⟩
    simp only [Nat.zero_add]
    obtain ⟨row, hrow, rfl⟩ := row_at hd
    have hjl : j < (rows ++ [[]]).length := (List.getElem?_eq_some_iff.mp hrow).1
    rw [List.length_append, List.length_singleton] at hjl
    have etk : ((rows ++ [[]]).take j).flatten = (rows.take j).flatten := by
      rw [List.take_append_of_le_length (by omega)]
    have hrw : row = rowB b (raws ++ ((rows ++ [[]]).take j).flatten) := by
      rw [etk]
      by_cases h : j < rows.length
      · rw [List.getElem?_append_left h] at hrow
        exact lo.row j row hrow
      · have : j = rows.length := by omega
        subst this
        rw [List.getElem?_append_right (Nat.le_refl _), Nat.sub_self] at hrow
        rw [List.take_length, fin]
        exact (Option.some.inj hrow).symm
    have ekn : raws ++ ((rows ++ [[]]).take (j + 1)).flatten = (raws ++ ((rows ++ [[]]).take j).flatten) ++ row := by rw [flat_take hrow, List.append_assoc]
    have hk36 : ((rows ++ [[]]).take (j + 1)).flatten.length ≤ 36 := by
      refine Nat.le_trans ?_ hle
      have e0 : (rows ++ [[]]).flatten = rows.flatten := by simp
      rw [← e0]
      conv => rhs; rw [← List.take_append_drop (j + 1) (rows ++ [[]]), List.flatten_append, List.length_append]
      omega
    rw [flat_take hrow, List.length_append] at hk36
    rw [ekn]
    have hkl : (raws ++ ((rows ++ [[]]).take j).flatten).length ≤ 60 := by rw [List.length_append]; omega
    generalize raws ++ ((rows ++ [[]]).take j).flatten = known at hrw hkl ⊢
    obtain ⟨acc, k7', h7', hal, hmem, hdue⟩ := due_ok hb SC TN WS RS F10 (.fz (lstS row)) known k6 k7 h6 h7 (fun _ _ => trivial)
    have haccwd : ∀ x ∈ acc, Wd x := fun x hx => by
      obtain ⟨z, v, hm, _, hg⟩ := (hmem x).mp hx
      obtain ⟨p, hp, rfl⟩ := List.mem_map.mp hg
      exact (hb.way _ hm).give.wd p hp
    have l1 := lc_pure (g := .nm 6) (tt := tstF (binF ninA (varR 6) (varR 11))) (te := varE 6) (vs := [6]) (ρ := [SC, TN, .fz (bookD b), WS, .fz (lstS (nmsB b)), RS, .un, k7', .un, .un, F10, .fz (lstS known), .fz (lstS row), .fz (lstS acc), .un]) (onS fun w => !decide (w ∈ known)) id (acc.map D.str) [] (by simp; omega)
      (fun d hd => by
        obtain ⟨o, ho, rfl⟩ := List.mem_map.mp hd
        have hin := nin_strs o known
        refine ⟨[SC, TN, .fz (bookD b), WS, .fz (lstS (nmsB b)), RS, .fz (.str o), k7', .un, .un, F10, .fz (lstS known), .fz (lstS row), .fz (lstS acc), .un], by simp, ?_, by simp, by simp, by simp⟩
        simp [hin, onS])
    rw [List.nil_append, List.map_id, filter_onS] at l1
    have hss := sortSet_strs (acc.filter fun w => !decide (w ∈ known)) (by have := List.length_filter_le (fun w => !decide (w ∈ known)) acc; omega)
    have hset : DLS.srtSet (acc.filter fun w => !decide (w ∈ known)) = row := by
      rw [hrw]
      refine srtSet_eq fun x => ?_
      rw [List.mem_filter, hmem, dueL_iff]
      constructor
      · rintro ⟨⟨z, v, h1, h2, h3⟩, h4⟩
        exact ⟨z, v, h1, h2, h3, by simpa using h4⟩
      · rintro ⟨z, v, h1, h2, h3, h4⟩
        exact ⟨⟨z, v, h1, h2, h3⟩, by simpa using h4⟩
    rw [hset] at hss
    have hplr : ∀ x ∈ row, Plain x := fun x hx => by
      rw [hrw] at hx
      exact (goodsB_wd hb (rowB_good hx).1).plain
    have hne := ne_strs row row hplr hplr
    rw [decide_eq_true rfl] at hne
    have hadd := add_strs (known.map D.str) (row.map D.str) (by simp; omega)
    rw [← List.map_append] at hadd
    refine ⟨[SC, TN, .fz (bookD b), WS, .fz (lstS (nmsB b)), RS, k6, k7, .un, .un, F10, .fz (lstS known), .fz (lstS row), k13, .un], [SC, TN, .fz (bookD b), WS, .fz (lstS (nmsB b)), RS, k6, k7', .un, .un, F10, .fz (lstS (known ++ row)), .fz (lstS row), .fz (lstS row), .un], ?_, ?_, k7', _, _, rfl, h7', .inr ⟨_, rfl⟩, .inr ⟨_, rfl⟩⟩
    · rcases h12 with rfl | ⟨_, rfl⟩ <;> simp
    · rw [b11_eq]
      rcases h13 with rfl | ⟨_, rfl⟩ <;> rcases h6 with rfl | ⟨_, rfl⟩ <;> simp [hdue, l1, hss, hne, hadd, -List.map_append]
end Wk
set_option Elab.async false
set_option linter.all false
set_option maxRecDepth 100000
set_option maxHeartbeats 8000000
namespace Wk
open PySem PySem.Spec L2 DL
theorem seq_step {a b : Ev → SOut} {ρ ρ1 : Ev} {o : SOut} (h : a ρ = .nx ρ1) (k : b ρ1 = o) : seqS a b ρ = o := by
  show thenS (a ρ) b = o
  rw [h]; exact k
theorem seq_stop {a b : Ev → SOut} {ρ ρ1 : Ev} {d : D} (h : a ρ = .rt d ρ1) : seqS a b ρ = .rt d ρ1 := by
  show thenS (a ρ) b = _
  rw [h]; rfl
theorem body_rt {n N : Nat} {f : Ev → SOut} {as ρ0 ρ : Ev} {d : D} (e : as ++ List.replicate (N - n) .un = ρ0) (h : f ρ0 = .rt d ρ) : bodyF n N f as = .val d (ρ.take n) := by
  unfold bodyF
  rw [e, h]
theorem never_list {b : List (Str × Way)} (hb : Book b) (made : List Str) : ∀ x ∈ neverB b made, Wd x := fun x hx => goodsB_wd hb (List.mem_filter.mp hx).1
theorem law_true (ns : List Int) (h : ns.length ≤ 63) : ∃ as', F_law [.fz (.lst (ns.map D.int))] = .val (.bl true) as' := by
  have hz : sizeLine = 16777216 := sizeLine_eq
  obtain ⟨b, n1, hb, _, hn1, hbook⟩ := book_ok ns h 0 (by omega) 6 (by decide) (by decide)
  obtain ⟨rs, n2, hr, _, _, hraws⟩ := raws_ok ns h n1 (by omega) hb
  obtain ⟨ag, hlg⟩ := lgoods_ok hb
  obtain ⟨ag2, hg⟩ := goods_ok hb
  obtain ⟨ar1, hri⟩ := rings_ok hb
  obtain ⟨ar2, hlri⟩ := lrings_ok hb
  obtain ⟨rows, al, lo, fin, hlay⟩ := layers_ok hb hr
  have hle := lo.le hb
  have hrl := hr.len
  have hgl := goodsB_len hb
  obtain ⟨an, hnev⟩ := never_ok hb hlay (by rw [List.flatten_cons, List.length_append]; omega)
  have hfl : (rs :: rows).flatten = rs ++ rows.flatten := List.flatten_cons
  rw [hfl] at hnev
  have gpl : ∀ x ∈ goodsB b, Plain x := fun x hx => (goodsB_wd hb hx).plain
  have rpl : ∀ x ∈ rs, Plain x := fun x hx => (hr.wd x hx).plain
  let SC : AV := .fz (intsD ns)
  let BK : AV := .fz (bookD b)
  let WS : AV := .fz (lstS (goodsB b))
  let NM : AV := .fz (lstS (nmsB b))
  let RS : AV := .fz (lstS rs)
  have h1 : q1 [SC, .un, .un, .un, .un, .un, .un, .un, .un, .un, .un, .un, .un, .un, .un] = .nx [SC, .ow false (.l []), .un, .un, .un, .un, .un, .un, .un, .un, .un, .un, .un, .un, .un] := by simp [q1]
  have h2 : q2 [SC, .ow false (.l []), .un, .un, .un, .un, .un, .un, .un, .un, .un, .un, .un, .un, .un] = .nx [SC, T n1, BK, .un, .un, .un, .un, .un, .un, .un, .un, .un, .un, .un, .un] := by
    have hbook' : F_law_book [.fz (intsD ns), .ow true (.l []), .fz (.int 6)] = .val (bookD b) [.fz (intsD ns), townA n1, .fz (.int 6)] := hbook
    simp [q2, SC, BK, hbook']
  have h3 : q3 [SC, T n1, BK, .un, .un, .un, .un, .un, .un, .un, .un, .un, .un, .un, .un] = .nx [SC, T n1, BK, WS, .un, .un, .un, .un, .un, .un, .un, .un, .un, .un, .un] := by simp [q3, SC, BK, WS, hlg]
  have h4 : q4 [SC, T n1, BK, WS, .un, .un, .un, .un, .un, .un, .un, .un, .un, .un, .un] = .nx [SC, T n1, BK, WS, NM, .un, .un, .un, .un, .un, .un, .un, .un, .un, .un] := by
    have := sk_book b
    simp [q4, SC, BK, WS, NM, this]
  have h5 : q5 [SC, T n1, BK, WS, NM, .un, .un, .un, .un, .un, .un, .un, .un, .un, .un] = .nx [SC, T n2, BK, WS, NM, RS, .un, .un, .un, .un, .un, .un, .un, .un, .un] := by simp [q5, SC, BK, WS, NM, RS, hraws]
  have h6 : q6 [SC, T n2, BK, WS, NM, RS, .un, .un, .un, .un, .un, .un, .un, .un, .un] = .nx [SC, T n2, BK, WS, NM, RS, .un, .un, .un, .un, .un, .un, .un, .un, .un] := by
    have n1 := ne_strs (goodsB b) (goodsB b) gpl gpl
    have n2 := ne_rows (rowsT b (goodsB b).length) (rows_plain hb)
    rw [decide_eq_true rfl] at n1
    simp [q6, SC, BK, WS, NM, RS, hg, hri, hlri, n1, n2]
  obtain ⟨k6, hk6, h7⟩ := q7_ok hb SC (T n2) RS
  have h8 : q8 [SC, T n2, BK, WS, NM, RS, k6, .un, .un, .un, .un, .un, .un, .un, .un] = .nx [SC, T n2, BK, WS, NM, RS, k6, .un, .un, .un, .fz (.lst ((rs :: rows).map lstS)), .un, .un, .un, .un] := by
    generalize (rs :: rows).map lstS = FL at hlay ⊢
    simp [q8, SC, BK, WS, NM, RS, hlay]
  have h9 : q9 [SC, T n2, BK, WS, NM, RS, k6, .un, .un, .un, .fz (.lst ((rs :: rows).map lstS)), .un, .un, .un, .un] = .nx [SC, T n2, BK, WS, NM, RS, k6, .un, .un, .un, .fz (.lst ((rs :: rows).map lstS)), RS, .un, .un, .un] := by simp [q9, SC, BK, WS, NM, RS]
  have h10 : q10 [SC, T n2, BK, WS, NM, RS, k6, .un, .un, .un, .fz (.lst ((rs :: rows).map lstS)), RS, .un, .un, .un] = .nx [SC, T n2, BK, WS, NM, RS, k6, .un, .un, .un, .fz (.lst ((rs :: rows).map lstS)), RS, .un, .un, .un] := by
    have n1 := ne_strs rs rs rpl rpl
    rw [decide_eq_true rfl] at n1
    simp [q10, SC, BK, WS, NM, RS, n1]
  obtain ⟨k7, k12, k13, hk7, hk12, hk13, h11⟩ := q11_ok hb SC (T n2) WS RS hr lo fin k6 hk6
  let F10 : AV := .fz (.lst ((rs :: rows).map lstS))
  let KN : AV := .fz (lstS (rs ++ rows.flatten))
  have h7' : q7 [SC, T n2, BK, WS, NM, RS, .un, .un, .un, .un, .un, .un, .un, .un, .un] = .nx [SC, T n2, BK, WS, NM, RS, k6, .un, .un, .un, .un, .un, .un, .un, .un] := h7
  have h8' : q8 [SC, T n2, BK, WS, NM, RS, k6, .un, .un, .un, .un, .un, .un, .un, .un] = .nx [SC, T n2, BK, WS, NM, RS, k6, .un, .un, .un, F10, .un, .un, .un, .un] := h8
  have h9' : q9 [SC, T n2, BK, WS, NM, RS, k6, .un, .un, .un, F10, .un, .un, .un, .un] = .nx [SC, T n2, BK, WS, NM, RS, k6, .un, .un, .un, F10, RS, .un, .un, .un] := h9
  have h10' : q10 [SC, T n2, BK, WS, NM, RS, k6, .un, .un, .un, F10, RS, .un, .un, .un] = .nx [SC, T n2, BK, WS, NM, RS, k6, .un, .un, .un, F10, RS, .un, .un, .un] := h10
  have h11' : q11 [SC, T n2, BK, WS, NM, RS, k6, .un, .un, .un, F10, RS, .un, .un, .un] = .nx [SC, T n2, BK, WS, NM, RS, k6, k7, .un, .un, F10, KN, k12, k13, .un] := h11
  have nvp : ∀ m, ∀ x ∈ neverB b m, Plain x := fun m x hx => (never_list hb m x hx).plain
  have h12 : q12 [SC, T n2, BK, WS, NM, RS, k6, k7, .un, .un, F10, KN, k12, k13, .un] = .nx [SC, T n2, BK, WS, NM, RS, k6, k7, .un, .un, F10, KN, k12, k13, .un] := by
    have lc := lc_pure (g := .nm 6) (tt := tstF (binF ninA (varR 6) (varR 11))) (te := varE 6) (vs := [6]) (ρ := [SC, T n2, BK, WS, NM, RS, .un, k7, .un, .un, F10, KN, k12, k13, .un]) (onS fun w => !decide (w ∈ rs ++ rows.flatten)) id ((goodsB b).map D.str) [] (by simp; omega)
      (fun d hd => by
        obtain ⟨o, ho, rfl⟩ := List.mem_map.mp hd
        have hin := nin_strs o (rs ++ rows.flatten)
        refine ⟨[SC, T n2, BK, WS, NM, RS, .fz (.str o), k7, .un, .un, F10, KN, k12, k13, .un], by simp, ?_, by simp, by simp, by simp⟩
        simp [KN, hin, onS, -List.mem_append, -List.map_append])
    rw [List.nil_append, List.map_id, filter_onS] at lc
    have n1 := ne_strs (neverB b (rs ++ rows.flatten)) (neverB b (rs ++ rows.flatten)) (nvp _) (nvp _)
    rw [decide_eq_true rfl] at n1
    have lc' : lcLoop (.nm 6) (tstF (binF ninA (varR 6) (varR 11))) (varE 6) [6] ((goodsB b).map D.str) [SC, T n2, BK, WS, NM, RS, .un, k7, .un, .un, F10, KN, k12, k13, .un] [] = .val ((neverB b (rs ++ rows.flatten)).map D.str) [SC, T n2, BK, WS, NM, RS, .un, k7, .un, .un, F10, KN, k12, k13, .un] := lc
    generalize neverB b (rs ++ rows.flatten) = NB at hnev lc' n1
    simp only [KN, F10, SC, BK, WS, NM, RS] at lc' ⊢
    generalize lstS (rs ++ rows.flatten) = KD at lc' ⊢
    generalize (rs :: rows).map lstS = FL at lc' ⊢
    rcases hk6 with rfl | ⟨_, rfl⟩ <;> simp [q12, hnev, lc', n1]
  let more : List Str := DLS.srtSet (rs ++ (goodsB b).take 1)
  have h13 : q13 [SC, T n2, BK, WS, NM, RS, k6, k7, .un, .un, F10, KN, k12, k13, .un] = .nx [SC, T n2, BK, WS, NM, RS, k6, k7, .un, .un, F10, KN, k12, k13, .fz (lstS more)] := by
    have s1 : slO (.lst ((goodsB b).map D.str)) none (some 1) = some (.lst (((goodsB b).take 1).map D.str)) := by
      show some (D.lst (cutD _ none (some 1))) = _
      rw [cut_take _ _ (by decide), ← List.map_take]; rfl
    have hadd := add_strs (rs.map D.str) (((goodsB b).take 1).map D.str) (by simp; omega)
    rw [← List.map_append] at hadd
    have hss := sortSet_strs (rs ++ (goodsB b).take 1) (by simp; omega)
    simp [q13, SC, BK, WS, NM, RS, s1, hadd, hss, more, -List.map_append, -List.map_take]
  have wmore : ∀ x ∈ more, Wd x := fun x hx => by
    rcases List.mem_append.mp (srtSet_mem.mp hx) with hx | hx
    · exact hr.wd x hx
    · exact goodsB_wd hb (List.mem_of_mem_take hx)
  have go : ∀ ρ' : Ev, s_law [SC, .un, .un, .un, .un, .un, .un, .un, .un, .un, .un, .un, .un, .un, .un] = .rt (.bl true) ρ' → ∃ as', F_law [.fz (.lst (ns.map D.int))] = .val (.bl true) as' := fun ρ' hh => ⟨_, body_rt (n := 1) (N := 15) (as := [SC]) rfl hh⟩
  by_cases hm20 : more.length ≤ 20
  · have hmr : Raws more := ⟨hm20, wmore, srtSet_idem _⟩
    obtain ⟨rows', al', lo', fin', hlay'⟩ := layers_ok hb hmr
    have hle' := lo'.le hb
    obtain ⟨an', hnev'⟩ := never_ok hb hlay' (by rw [List.flatten_cons, List.length_append]; omega)
    have hfl' : (more :: rows').flatten = more ++ rows'.flatten := List.flatten_cons
    rw [hfl'] at hnev'
    have h14 : q14 [SC, T n2, BK, WS, NM, RS, k6, k7, .un, .un, F10, KN, k12, k13, .fz (lstS more)] = .nx [SC, T n2, BK, WS, NM, RS, k6, k7, .un, .un, F10, KN, k12, k13, .fz (lstS more)] := by
      have : ¬ (20 : Int) < more.length := by omega
      simp [q14, this]
    have mono := more_made lo lo' fin' (fun y hy => srtSet_mem.mpr (List.mem_append_left _ hy))
    have lc := lc_pure (g := .nm 6) (tt := andF (tstF (binF ninA (varR 6) (datO (callF 2 F_never (datA (varE 2) (datA (varE 5) nilA)))))) (tstF (binF ninA (varR 6) (varR 5)))) (te := varE 6) (vs := [6]) (ρ := [SC, T n2, BK, WS, NM, RS, .un, k7, .un, .un, F10, KN, k12, k13, .fz (lstS more)]) (onS fun w => !decide (w ∈ neverB b (rs ++ rows.flatten)) && !decide (w ∈ rs)) id ((neverB b (more ++ rows'.flatten)).map D.str) [] (by
        have : (neverB b (more ++ rows'.flatten)).length ≤ (goodsB b).length := List.length_filter_le _ _
        simp; omega)
      (fun d hd => by
        obtain ⟨o, ho, rfl⟩ := List.mem_map.mp hd
        have hin := nin_strs o (neverB b (rs ++ rows.flatten))
        have hin2 := nin_strs o rs
        refine ⟨[SC, T n2, BK, WS, NM, RS, .fz (.str o), k7, .un, .un, F10, KN, k12, k13, .fz (lstS more)], by simp, ?_, by simp, by simp, by simp⟩
        generalize neverB b (rs ++ rows.flatten) = NB at hnev hin ⊢
        by_cases c : o ∈ NB
        · rw [decide_eq_true c] at hin
          simp [BK, RS, hnev, hin, onS, c]
        · rw [decide_eq_false c] at hin
          simp [BK, RS, hnev, hin, hin2, onS, c])
    rw [List.nil_append, List.map_id, filter_onS] at lc
    have hempty : (neverB b (more ++ rows'.flatten)).filter (fun w => !decide (w ∈ neverB b (rs ++ rows.flatten)) && !decide (w ∈ rs)) = [] := by
      rw [List.filter_eq_nil_iff]
      intro x hx hc
      obtain ⟨g1, g2⟩ := List.mem_filter.mp hx
      have g2 : x ∉ more ++ rows'.flatten := by simpa using g2
      have hxk : x ∉ rs ++ rows.flatten := fun hk => g2 (mono x hk)
      have hxn : x ∈ neverB b (rs ++ rows.flatten) := List.mem_filter.mpr ⟨g1, by simpa using hxk⟩
      rw [decide_eq_true hxn] at hc
      simp at hc
    rw [hempty] at lc
    have h15 : q15 [SC, T n2, BK, WS, NM, RS, k6, k7, .un, .un, F10, KN, k12, k13, .fz (lstS more)] = .rt (.bl true) [SC, T n2, BK, WS, NM, RS, k6, k7, .un, .un, F10, KN, k12, k13, .fz (lstS more)] := by
      have he : eqO (.lst []) (.lst []) = some (.bl true) := eq_strs [] [] (fun y hy => by cases hy) (fun y hy => by cases hy)
      generalize neverB b (more ++ rows'.flatten) = NM' at hnev' lc
      simp only [KN, F10, SC, BK, WS, NM, RS] at lc ⊢
      generalize lstS (rs ++ rows.flatten) = KD at lc ⊢
      generalize (rs :: rows).map lstS = FL at lc ⊢
      have lc' : lcLoop (.nm 6) (andF (tstF (binF ninA (varR 6) (datO (callF 2 F_never (datA (varE 2) (datA (varE 5) nilA)))))) (tstF (binF ninA (varR 6) (varR 5)))) (varE 6) [6] (NM'.map D.str) [.fz (intsD ns), T n2, .fz (bookD b), .fz (lstS (goodsB b)), .fz (lstS (nmsB b)), .fz (lstS rs), .un, k7, .un, .un, .fz (.lst FL), .fz KD, k12, k13, .fz (lstS more)] [] = .val [] [.fz (intsD ns), T n2, .fz (bookD b), .fz (lstS (goodsB b)), .fz (lstS (nmsB b)), .fz (lstS rs), .un, k7, .un, .un, .fz (.lst FL), .fz KD, k12, k13, .fz (lstS more)] := lc
      rcases hk6 with rfl | ⟨_, rfl⟩ <;> simp [q15, hnev', lc', he]
    have hh := seq_step h1 (seq_step h2 (seq_step h3 (seq_step h4 (seq_step h5 (seq_step h6 (seq_step h7' (seq_step h8' (seq_step h9' (seq_step h10' (seq_step h11' (seq_step h12 (seq_step h13 (seq_step h14 (seq_stop (b := nxS) h15))))))))))))))
    rw [← s_law_eq] at hh
    exact go _ hh
  · have h14 : q14 [SC, T n2, BK, WS, NM, RS, k6, k7, .un, .un, F10, KN, k12, k13, .fz (lstS more)] = .rt (.bl true) [SC, T n2, BK, WS, NM, RS, k6, k7, .un, .un, F10, KN, k12, k13, .fz (lstS more)] := by
      have : (20 : Int) < more.length := by omega
      simp [q14, this]
    have hh := seq_step h1 (seq_step h2 (seq_step h3 (seq_step h4 (seq_step h5 (seq_step h6 (seq_step h7' (seq_step h8' (seq_step h9' (seq_step h10' (seq_step h11' (seq_step h12 (seq_step h13 (seq_stop (b := seqS q15 nxS) h14)))))))))))))
    rw [← s_law_eq] at hh
    exact go _ hh
end Wk
set_option Elab.async false
set_option linter.all false
set_option maxRecDepth 100000
set_option maxHeartbeats 0
namespace Hd
open PySem PySem.Spec PyProof.Rows L2
def d_0 : He.DefD := ⟨("is_whole", none), "is_whole", "is_whole", defArgs (Wk.top 12), defBody (Wk.top 12), defScope (Wk.top 12), [], []⟩
def d_1 : He.DefD := ⟨("is_word", none), "is_word", "is_word", defArgs (Wk.top 13), defBody (Wk.top 13), defScope (Wk.top 13), [], []⟩
def d_2 : He.DefD := ⟨("is_side", none), "is_side", "is_side", defArgs (Wk.top 14), defBody (Wk.top 14), defScope (Wk.top 14), [], []⟩
def d_3 : He.DefD := ⟨("is_way", none), "is_way", "is_way", defArgs (Wk.top 15), defBody (Wk.top 15), defScope (Wk.top 15), [], []⟩
def d_4 : He.DefD := ⟨("look_book", none), "look_book", "look_book", defArgs (Wk.top 16), defBody (Wk.top 16), defScope (Wk.top 16), [], []⟩
def d_5 : He.DefD := ⟨("ways", none), "ways", "ways", defArgs (Wk.top 17), defBody (Wk.top 17), defScope (Wk.top 17), [], []⟩
def d_6 : He.DefD := ⟨("all_goods", none), "all_goods", "all_goods", defArgs (Wk.top 18), defBody (Wk.top 18), defScope (Wk.top 18), [], []⟩
def d_7 : He.DefD := ⟨("goods", none), "goods", "goods", defArgs (Wk.top 19), defBody (Wk.top 19), defScope (Wk.top 19), [], []⟩
def d_8 : He.DefD := ⟨("look_raws", none), "look_raws", "look_raws", defArgs (Wk.top 20), defBody (Wk.top 20), defScope (Wk.top 20), [], []⟩
def d_9 : He.DefD := ⟨("givers", none), "givers", "givers", defArgs (Wk.top 22), defBody (Wk.top 22), defScope (Wk.top 22), [], []⟩
def d_10 : He.DefD := ⟨("takers", none), "takers", "takers", defArgs (Wk.top 23), defBody (Wk.top 23), defScope (Wk.top 23), [], []⟩
def d_11 : He.DefD := ⟨("goods_behind", none), "goods_behind", "goods_behind", defArgs (Wk.top 24), defBody (Wk.top 24), defScope (Wk.top 24), [], []⟩
def d_12 : He.DefD := ⟨("behind", none), "behind", "behind", defArgs (Wk.top 25), defBody (Wk.top 25), defScope (Wk.top 25), [], []⟩
def d_13 : He.DefD := ⟨("rings", none), "rings", "rings", defArgs (Wk.top 26), defBody (Wk.top 26), defScope (Wk.top 26), [], []⟩
def d_14 : He.DefD := ⟨("layers", none), "layers", "layers", defArgs (Wk.top 27), defBody (Wk.top 27), defScope (Wk.top 27), [], []⟩
def d_15 : He.DefD := ⟨("never", none), "never", "never", defArgs (Wk.top 28), defBody (Wk.top 28), defScope (Wk.top 28), [], []⟩
def d_16 : He.DefD := ⟨("_law_cell", none), "_law_cell", "_law_cell", defArgs (Wk.top 30), defBody (Wk.top 30), defScope (Wk.top 30), [], []⟩
def d_17 : He.DefD := ⟨("_law_mix", none), "_law_mix", "_law_mix", defArgs (Wk.top 31), defBody (Wk.top 31), defScope (Wk.top 31), [], []⟩
def d_18 : He.DefD := ⟨("_law_draw", none), "_law_draw", "_law_draw", defArgs (Wk.top 32), defBody (Wk.top 32), defScope (Wk.top 32), [], []⟩
def d_19 : He.DefD := ⟨("_law_pick", none), "_law_pick", "_law_pick", defArgs (Wk.top 33), defBody (Wk.top 33), defScope (Wk.top 33), [], []⟩
def d_20 : He.DefD := ⟨("_law_good", none), "_law_good", "_law_good", defArgs (Wk.top 34), defBody (Wk.top 34), defScope (Wk.top 34), [], []⟩
def d_21 : He.DefD := ⟨("_law_side", none), "_law_side", "_law_side", defArgs (Wk.top 35), defBody (Wk.top 35), defScope (Wk.top 35), [], []⟩
def d_22 : He.DefD := ⟨("_law_book", none), "_law_book", "_law_book", defArgs (Wk.top 36), defBody (Wk.top 36), defScope (Wk.top 36), [], []⟩
def d_23 : He.DefD := ⟨("_law_goods", none), "_law_goods", "_law_goods", defArgs (Wk.top 37), defBody (Wk.top 37), defScope (Wk.top 37), [], []⟩
def d_24 : He.DefD := ⟨("_law_raws", none), "_law_raws", "_law_raws", defArgs (Wk.top 38), defBody (Wk.top 38), defScope (Wk.top 38), [], []⟩
def d_25 : He.DefD := ⟨("_law_behind", none), "_law_behind", "_law_behind", defArgs (Wk.top 39), defBody (Wk.top 39), defScope (Wk.top 39), [], []⟩
def d_26 : He.DefD := ⟨("_law_rings", none), "_law_rings", "_law_rings", defArgs (Wk.top 40), defBody (Wk.top 40), defScope (Wk.top 40), [], []⟩
def d_27 : He.DefD := ⟨("law", none), "law", "law", defArgs (Wk.top 41), defBody (Wk.top 41), defScope (Wk.top 41), [], []⟩
def fn_0 : List He.DefD := [d_0, d_1, d_2, d_3, d_4, d_5, d_6, d_7, d_8, d_9, d_10, d_11, d_12, d_13, d_14, d_15, d_16, d_17, d_18, d_19]
def fn_1 : List He.DefD := [d_20, d_21, d_22, d_23, d_24, d_25, d_26, d_27]
def fn : List He.DefD := fn_0 ++ fn_1
def fa_0 : List He.Fa := [.glo "is_whole", .glo "is_word", .glo "is_side", .glo "is_way", .glo "look_book", .glo "ways", .glo "all_goods", .glo "goods", .glo "look_raws", .glo "givers", .glo "takers", .glo "goods_behind", .glo "behind", .glo "rings", .glo "layers", .glo "never", .glo "_law_cell", .glo "_law_mix", .glo "_law_draw", .glo "_law_pick"]
def fa_1 : List He.Fa := [.glo "_law_good", .glo "_law_side", .glo "_law_book", .glo "_law_goods", .glo "_law_raws", .glo "_law_behind", .glo "_law_rings", .glo "law", .free "all", .free "bool", .free "dict", .free "int", .free "isinstance", .free "len", .free "list", .free "range", .free "set", .free "sorted", .free "str", .free "tuple"]
def fa_2 : List He.Fa := [.int "MOST_MANY" (20), .int "MOST_POWER" (50), .int "MOST_RAWS" (20), .int "MOST_SIDES" (3), .int "MOST_TICKS" (20), .int "MOST_WAYS" (6), .str "SMALL" "abcdefghijklmnopqrstuvwxyz"]
def fa : List He.Fa := fa_0 ++ fa_1 ++ fa_2
def names_0 : List PySem.Str := ["WorkError", "BadBook", "BadGoods", "SMALL", "MOST_WAYS", "MOST_SIDES", "MOST_MANY", "MOST_TICKS", "MOST_POWER", "MOST_RAWS", "is_whole", "is_word", "is_side", "is_way", "look_book", "ways", "all_goods", "goods", "look_raws", "givers"]
def names_1 : List PySem.Str := ["takers", "goods_behind", "behind", "rings", "layers", "never", "_law_cell", "_law_mix", "_law_draw", "_law_pick", "_law_good", "_law_side", "_law_book", "_law_goods", "_law_raws", "_law_behind", "_law_rings"]
def names : List PySem.Str := names_0 ++ names_1
abbrev R : PySem.W.OpenRow := PySem.W.OpenLaw.row PySem.Challenge.rw_partworks_k11_whole_chains
abbrev hk : PySem.W.Hook := He.hookD 5 fa fn
def ob (s : PySem.W.SharedT) : He.AlD := He.obsDG 5 fa fn (HandSHeadRun.getT s)
theorem ob_eq (s : PySem.W.SharedT) : ob s = hk.obs s.abs := He.obsDG_eq (HandSHeadRun.getT_eq s)
theorem run (w : World) : HandSHeadRun.RunEq R (PySem.W.view R.prog [41]) hk ob 4000 names w := by
  intro os
  kernel_rfl
theorem facts {K : PySem.W.Frag} {h : Heap} {mg : Str → Option Value} (X : K.In h) (Y : h.Ns mainGlobals mg) (c : He.SaysD fa fn K) : Wk.G K mg where
  b_all := He.free_ok X Y (c.fact 28 (f := .free "all") rfl)
  b_bool := He.free_ok X Y (c.fact 29 (f := .free "bool") rfl)
  b_dict := He.free_ok X Y (c.fact 30 (f := .free "dict") rfl)
  b_int := He.free_ok X Y (c.fact 31 (f := .free "int") rfl)
  b_isinstance := He.free_ok X Y (c.fact 32 (f := .free "isinstance") rfl)
  b_len := He.free_ok X Y (c.fact 33 (f := .free "len") rfl)
  b_list := He.free_ok X Y (c.fact 34 (f := .free "list") rfl)
  b_range := He.free_ok X Y (c.fact 35 (f := .free "range") rfl)
  b_set := He.free_ok X Y (c.fact 36 (f := .free "set") rfl)
  b_sorted := He.free_ok X Y (c.fact 37 (f := .free "sorted") rfl)
  b_str := He.free_ok X Y (c.fact 38 (f := .free "str") rfl)
  b_tuple := He.free_ok X Y (c.fact 39 (f := .free "tuple") rfl)
  c_MOST_MANY := He.int_ok X Y (c.fact 40 (f := .int "MOST_MANY" (20)) rfl)
  c_MOST_POWER := He.int_ok X Y (c.fact 41 (f := .int "MOST_POWER" (50)) rfl)
  c_MOST_RAWS := He.int_ok X Y (c.fact 42 (f := .int "MOST_RAWS" (20)) rfl)
  c_MOST_SIDES := He.int_ok X Y (c.fact 43 (f := .int "MOST_SIDES" (3)) rfl)
  c_MOST_TICKS := He.int_ok X Y (c.fact 44 (f := .int "MOST_TICKS" (20)) rfl)
  c_MOST_WAYS := He.int_ok X Y (c.fact 45 (f := .int "MOST_WAYS" (6)) rfl)
  c_SMALL := He.str_ok X Y (c.fact 46 (f := .str "SMALL" "abcdefghijklmnopqrstuvwxyz") rfl)
  f_is_whole := by
    obtain ⟨fd, F⟩ := c.def_ 0 (d := d_0) rfl
    exact ⟨_, fd, F, He.glo_ok X Y (c.fact 0 (f := .glo "is_whole") rfl)⟩
  f_is_word := by
    obtain ⟨fd, F⟩ := c.def_ 1 (d := d_1) rfl
    exact ⟨_, fd, F, He.glo_ok X Y (c.fact 1 (f := .glo "is_word") rfl)⟩
  f_is_side := by
    obtain ⟨fd, F⟩ := c.def_ 2 (d := d_2) rfl
    exact ⟨_, fd, F, He.glo_ok X Y (c.fact 2 (f := .glo "is_side") rfl)⟩
  f_is_way := by
    obtain ⟨fd, F⟩ := c.def_ 3 (d := d_3) rfl
    exact ⟨_, fd, F, He.glo_ok X Y (c.fact 3 (f := .glo "is_way") rfl)⟩
  f_look_book := by
    obtain ⟨fd, F⟩ := c.def_ 4 (d := d_4) rfl
    exact ⟨_, fd, F, He.glo_ok X Y (c.fact 4 (f := .glo "look_book") rfl)⟩
  f_ways := by
    obtain ⟨fd, F⟩ := c.def_ 5 (d := d_5) rfl
    exact ⟨_, fd, F, He.glo_ok X Y (c.fact 5 (f := .glo "ways") rfl)⟩
  f_all_goods := by
    obtain ⟨fd, F⟩ := c.def_ 6 (d := d_6) rfl
    exact ⟨_, fd, F, He.glo_ok X Y (c.fact 6 (f := .glo "all_goods") rfl)⟩
  f_goods := by
    obtain ⟨fd, F⟩ := c.def_ 7 (d := d_7) rfl
    exact ⟨_, fd, F, He.glo_ok X Y (c.fact 7 (f := .glo "goods") rfl)⟩
  f_look_raws := by
    obtain ⟨fd, F⟩ := c.def_ 8 (d := d_8) rfl
    exact ⟨_, fd, F, He.glo_ok X Y (c.fact 8 (f := .glo "look_raws") rfl)⟩
  f_givers := by
    obtain ⟨fd, F⟩ := c.def_ 9 (d := d_9) rfl
    exact ⟨_, fd, F, He.glo_ok X Y (c.fact 9 (f := .glo "givers") rfl)⟩
  f_takers := by
    obtain ⟨fd, F⟩ := c.def_ 10 (d := d_10) rfl
    exact ⟨_, fd, F, He.glo_ok X Y (c.fact 10 (f := .glo "takers") rfl)⟩
  f_goods_behind := by
    obtain ⟨fd, F⟩ := c.def_ 11 (d := d_11) rfl
    exact ⟨_, fd, F, He.glo_ok X Y (c.fact 11 (f := .glo "goods_behind") rfl)⟩
  f_behind := by
    obtain ⟨fd, F⟩ := c.def_ 12 (d := d_12) rfl
    exact ⟨_, fd, F, He.glo_ok X Y (c.fact 12 (f := .glo "behind") rfl)⟩
  f_rings := by
    obtain ⟨fd, F⟩ := c.def_ 13 (d := d_13) rfl
    exact ⟨_, fd, F, He.glo_ok X Y (c.fact 13 (f := .glo "rings") rfl)⟩
  f_layers := by
    obtain ⟨fd, F⟩ := c.def_ 14 (d := d_14) rfl
    exact ⟨_, fd, F, He.glo_ok X Y (c.fact 14 (f := .glo "layers") rfl)⟩
  f_never := by
    obtain ⟨fd, F⟩ := c.def_ 15 (d := d_15) rfl
    exact ⟨_, fd, F, He.glo_ok X Y (c.fact 15 (f := .glo "never") rfl)⟩
  f_law_cell := by
    obtain ⟨fd, F⟩ := c.def_ 16 (d := d_16) rfl
    exact ⟨_, fd, F, He.glo_ok X Y (c.fact 16 (f := .glo "_law_cell") rfl)⟩
  f_law_mix := by
    obtain ⟨fd, F⟩ := c.def_ 17 (d := d_17) rfl
    exact ⟨_, fd, F, He.glo_ok X Y (c.fact 17 (f := .glo "_law_mix") rfl)⟩
  f_law_draw := by
    obtain ⟨fd, F⟩ := c.def_ 18 (d := d_18) rfl
    exact ⟨_, fd, F, He.glo_ok X Y (c.fact 18 (f := .glo "_law_draw") rfl)⟩
  f_law_pick := by
    obtain ⟨fd, F⟩ := c.def_ 19 (d := d_19) rfl
    exact ⟨_, fd, F, He.glo_ok X Y (c.fact 19 (f := .glo "_law_pick") rfl)⟩
  f_law_good := by
    obtain ⟨fd, F⟩ := c.def_ 20 (d := d_20) rfl
    exact ⟨_, fd, F, He.glo_ok X Y (c.fact 20 (f := .glo "_law_good") rfl)⟩
  f_law_side := by
    obtain ⟨fd, F⟩ := c.def_ 21 (d := d_21) rfl
    exact ⟨_, fd, F, He.glo_ok X Y (c.fact 21 (f := .glo "_law_side") rfl)⟩
  f_law_book := by
    obtain ⟨fd, F⟩ := c.def_ 22 (d := d_22) rfl
    exact ⟨_, fd, F, He.glo_ok X Y (c.fact 22 (f := .glo "_law_book") rfl)⟩
  f_law_goods := by
    obtain ⟨fd, F⟩ := c.def_ 23 (d := d_23) rfl
    exact ⟨_, fd, F, He.glo_ok X Y (c.fact 23 (f := .glo "_law_goods") rfl)⟩
  f_law_raws := by
    obtain ⟨fd, F⟩ := c.def_ 24 (d := d_24) rfl
    exact ⟨_, fd, F, He.glo_ok X Y (c.fact 24 (f := .glo "_law_raws") rfl)⟩
  f_law_behind := by
    obtain ⟨fd, F⟩ := c.def_ 25 (d := d_25) rfl
    exact ⟨_, fd, F, He.glo_ok X Y (c.fact 25 (f := .glo "_law_behind") rfl)⟩
  f_law_rings := by
    obtain ⟨fd, F⟩ := c.def_ 26 (d := d_26) rfl
    exact ⟨_, fd, F, He.glo_ok X Y (c.fact 26 (f := .glo "_law_rings") rfl)⟩
  f_law := by
    obtain ⟨fd, F⟩ := c.def_ 27 (d := d_27) rfl
    exact ⟨_, fd, F, He.glo_ok X Y (c.fact 27 (f := .glo "law") rfl)⟩
end Hd
open PySem PySem.W PySem.Calls PyProof.Rows
theorem PySem.Challenge.cw_partworks_k11_whole_chains_holds : PySem.Challenge.rw_partworks_k11_whole_chains.Holds := by
  w_on; o_law
  refine HandSHeadRun.head_any (r := OpenLaw.row PySem.Challenge.rw_partworks_k11_whole_chains) (q := view (OpenLaw.row PySem.Challenge.rw_partworks_k11_whole_chains).prog [41]) (H := Hd.hk) (ob := Hd.ob) (M := 4000) (loose := Hd.names) (d := HandSHeadRun.topDef (OpenLaw.row PySem.Challenge.rw_partworks_k11_whole_chains).prog 41) (kwd := []) Hd.ob_eq
    (by kernel_rfl) (fun s => by kernel_rfl) Hd.run (by kernel_rfl) (by kernel_rfl) (by kernel_rfl) (by rfl) (by first | assumption | decide +kernel) (by decide +kernel) ⟨rfl, rfl, rfl, rfl, rfl, by decide +kernel⟩ ?hw ?hc
  case hw => w_witness2
  case hc =>
    refine L2.walk_ofE (l := PySem.Challenge.rw_partworks_k11_whole_chains) (n := 63) (k := 8) (x := "_law_script") (CX := L2.CX0) rfl (by decide) (by kernel_rfl) ⟨rfl, by decide, by decide⟩ ?F (fun _ _ _ _ z => z)
    intro w mg fa h Y G hmg0
    obtain ⟨K, KX, c⟩ := Y
    have hmg : mg ("law" : PySem.Str) = some (.ref fa) := by
      have e : (HandSHeadRun.topDef (OpenLaw.row PySem.Challenge.rw_partworks_k11_whole_chains).prog 41).name = ("law" : PySem.Str) := by kernel_rfl
      rw [← e]
      exact hmg0
    have g := Hd.facts KX G c
    obtain ⟨fd, FD⟩ := c.def_ 27 (d := Hd.d_27) rfl
    have e := hmg.symm.trans (He.glo_ok KX G (c.fact 27 (f := .glo "law") rfl))
    cases e
    have b := L2.FunD.bindsA (ps := ["_law_script"]) FD fun _ _ _ _ _ _ us hl => match us, hl with | [_], _ => rfl
    exact ⟨K, fd, fun vs H Q _ => DL.spF K 1 Wk.F_law vs H Q fun _ _ _ => False, KX, fun s v => b s [v] rfl, fun H a ns hl hO hS => DL.sp_end hO hS (Wk.law_true ns hl), fun base _ _ => DL.fn_never (Wk.ok_law g FD)⟩
