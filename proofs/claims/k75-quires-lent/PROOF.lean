import PyProof.Rows.All
import Wide.All
import OpenK.AllK
import Wide.FinOn
import HandS.ForMost
import HandS.Exc
import HandS.WordsExc
import HandS.Defaults
import HandS.Walk
import HandS.Wide
import HandS.TupAny
import HandS.IsInst
import HandS.Zip
import HandS.RevRange
import HandS.SetKeys
import HandS.Conv
import HandS.RevTup
import HandS.Steps
import HandS.Deep
import KE.KDictList
import KE.KRevIter
import HandS.HeadHook1
import KE.KStateDown
import HandS.Head0
import HandS.Head1
import HandS.Head2
import HandS.HeadEnd
import HandS.HeadHook2
import PySem.Challenge.RW_copystem_k75_quires_lent
set_option Elab.async false
set_option linter.all false
set_option maxRecDepth 100000
set_option maxHeartbeats 4000000
/-! DL: a layer of ours over HandS: values as data trees (frozen parts of the heap) and a small memory of mutable nodes. -/
namespace DL
open PySem PySem.Spec PyProof.Rows L2

inductive D where
  | non | bl (b : Bool) | int (i : Int) | str (x : Str) | ref (a : Addr) | ty (n : String)
  | tup (xs : List D) | lst (xs : List D) | scr (ns : List Int) | obj (C : Addr) (fs : List (Str × D))
deriving Inhabited

mutual
inductive Rep (K : PySem.W.Frag) (H : Hp) : V → D → Prop
  | non : Rep K H .non .non
  | bl (b : Bool) : Rep K H (.bl b) (.bl b)
  | int (i : Int) : Rep K H (.int i) (.int i)
  | str (x : Str) : Rep K H (.str x) (.str x)
  | ref (a : Addr) : Rep K H (.ref a) (.ref a)
  | ty (n : String) : Rep K H (.ty n) (.ty n)
  | tup {a : Addr} {xs : List V} {ds : List D} : SqT K H a xs → RepAll K H xs ds → Rep K H (.ref a) (.tup ds)
  | lst {a : Addr} {xs : List V} {ds : List D} : H a = some (.lst xs) → RepAll K H xs ds → Rep K H (.ref a) (.lst ds)
  | scr {a : Addr} {ns : List Int} : SqL K H a (ns.map V.int) → Rep K H (.ref a) (.scr ns)
  | obj {a C dx : Addr} {fs : List (Str × V)} {gs : List (Str × D)} : H a = some (.ins C dx fs) → RepF K H fs gs → Rep K H (.ref a) (.obj C gs)
inductive RepAll (K : PySem.W.Frag) (H : Hp) : List V → List D → Prop
  | nil : RepAll K H [] []
  | cons {v : V} {vs : List V} {d : D} {ds : List D} : Rep K H v d → RepAll K H vs ds → RepAll K H (v :: vs) (d :: ds)
inductive RepF (K : PySem.W.Frag) (H : Hp) : List (Str × V) → List (Str × D) → Prop
  | nil : RepF K H [] []
  | cons {f : Str} {v : V} {vs : List (Str × V)} {d : D} {ds : List (Str × D)} : Rep K H v d → RepF K H vs ds → RepF K H ((f, v) :: vs) ((f, d) :: ds)
end

theorem Same.sqt {K : PySem.W.Frag} {H H' : Hp} {a : Addr} {xs : List V} (e : Same H H') (h : SqT K H a xs) : SqT K H' a xs := by
  rcases h with (h | ⟨o, h⟩) | h
  · exact .inl (.inl (e _ _ h))
  · exact .inl (.inr ⟨o, e _ _ h⟩)
  · exact .inr h
section
variable {K : PySem.W.Frag} {H H' : Hp}
mutual
theorem Rep.mono (e : Same H H') : ∀ {v : V} {d : D}, Rep K H v d → Rep K H' v d
  | _, _, .non => .non
  | _, _, .bl b => .bl b
  | _, _, .int i => .int i
  | _, _, .str x => .str x
  | _, _, .ref a => .ref a
  | _, _, .ty n => .ty n
  | _, _, .tup h r => .tup (Same.sqt e h) (RepAll.mono e r)
  | _, _, .lst h r => .lst (e _ _ h) (RepAll.mono e r)
  | _, _, .scr h => .scr (Same.seq e h)
  | _, _, .obj h r => .obj (e _ _ h) (RepF.mono e r)
theorem RepAll.mono (e : Same H H') : ∀ {v : List V} {d : List D}, RepAll K H v d → RepAll K H' v d
  | _, _, .nil => .nil
  | _, _, .cons a b => .cons (Rep.mono e a) (RepAll.mono e b)
theorem RepF.mono (e : Same H H') : ∀ {v : List (Str × V)} {d : List (Str × D)}, RepF K H v d → RepF K H' v d
  | _, _, .nil => .nil
  | _, _, .cons a b => .cons (Rep.mono e a) (RepF.mono e b)
end
theorem RepAll.len : ∀ {vs : List V} {ds : List D}, RepAll K H vs ds → vs.length = ds.length
  | _, _, .nil => rfl
  | _, _, .cons _ b => congrArg Nat.succ b.len
theorem RepAll.get : ∀ {vs : List V} {ds : List D} {i : Nat} {d : D}, RepAll K H vs ds → ds[i]? = some d → ∃ v, vs[i]? = some v ∧ Rep K H v d
  | _, _, _, _, .nil, e => by simp at e
  | _, _, 0, _, .cons a _, e => by simp at e; subst e; exact ⟨_, rfl, a⟩
  | _, _, i + 1, d, .cons _ b, e => by
    obtain ⟨v, h1, h2⟩ := b.get (i := i) (d := d) (by simpa using e)
    exact ⟨v, by simpa using h1, h2⟩
theorem RepAll.getV : ∀ {vs : List V} {ds : List D} {i : Nat} {v : V}, RepAll K H vs ds → vs[i]? = some v → ∃ d, ds[i]? = some d ∧ Rep K H v d
  | _, _, _, _, .nil, e => by simp at e
  | _, _, 0, _, .cons a _, e => by simp at e; subst e; exact ⟨_, rfl, a⟩
  | _, _, i + 1, d, .cons _ b, e => by
    obtain ⟨v, h1, h2⟩ := b.getV (i := i) (v := d) (by simpa using e)
    exact ⟨v, by simpa using h1, h2⟩
theorem RepAll.app : ∀ {vs ws : List V} {ds es : List D}, RepAll K H vs ds → RepAll K H ws es → RepAll K H (vs ++ ws) (ds ++ es)
  | _, _, _, _, .nil, s => s
  | _, _, _, _, .cons a b, s => .cons a (b.app s)
theorem RepAll.take : ∀ {vs : List V} {ds : List D} (n : Nat), RepAll K H vs ds → RepAll K H (vs.take n) (ds.take n)
  | _, _, 0, _ => .nil
  | _, _, _ + 1, .nil => .nil
  | _, _, n + 1, .cons a b => .cons a (b.take n)
theorem RepAll.drop : ∀ {vs : List V} {ds : List D} (n : Nat), RepAll K H vs ds → RepAll K H (vs.drop n) (ds.drop n)
  | _, _, 0, r => r
  | _, _, _ + 1, .nil => .nil
  | _, _, n + 1, .cons _ b => b.drop n
theorem RepAll.set {v : V} {d : D} (r : Rep K H v d) : ∀ {vs : List V} {ds : List D} (i : Nat), RepAll K H vs ds → RepAll K H (vs.set i v) (ds.set i d)
  | _, _, _, .nil => .nil
  | _, _, 0, .cons _ b => .cons r b
  | _, _, i + 1, .cons a b => .cons a (b.set r i)
theorem RepAll.erase : ∀ {vs : List V} {ds : List D} (i : Nat), RepAll K H vs ds → RepAll K H (vs.eraseIdx i) (ds.eraseIdx i)
  | _, _, _, .nil => .nil
  | _, _, 0, .cons _ b => b
  | _, _, i + 1, .cons a b => .cons a (b.erase i)
theorem RepAll.dropLast {vs : List V} {ds : List D} (r : RepAll K H vs ds) : RepAll K H vs.dropLast ds.dropLast := by
  rw [List.dropLast_eq_take, List.dropLast_eq_take, r.len]
  exact r.take _
theorem RepAll.rev : ∀ {vs : List V} {ds : List D}, RepAll K H vs ds → RepAll K H vs.reverse ds.reverse
  | _, _, .nil => .nil
  | _, _, .cons a b => by
    rw [List.reverse_cons, List.reverse_cons]
    exact b.rev.app (.cons a .nil)
theorem RepAll.ints : ∀ (ns : List Int), RepAll K H (ns.map V.int) (ns.map D.int)
  | [] => .nil
  | n :: r => .cons (.int n) (RepAll.ints r)
theorem RepAll.toInts : ∀ {vs : List V} {ns : List Int}, RepAll K H vs (ns.map D.int) → vs = ns.map V.int
  | _, [], .nil => rfl
  | _, _ :: _, .cons (.int _) b => congrArg _ b.toInts
theorem RepAll.toStrs : ∀ {vs : List V} {ns : List Str}, RepAll K H vs (ns.map D.str) → vs = ns.map V.str
  | _, [], .nil => rfl
  | _, _ :: _, .cons (.str _) b => congrArg _ b.toStrs
theorem RepAll.strs : ∀ (ns : List Str), RepAll K H (ns.map V.str) (ns.map D.str)
  | [] => .nil
  | n :: r => .cons (.str n) (RepAll.strs r)
theorem RepAll.toBls : ∀ {vs : List V} {ns : List Bool}, RepAll K H vs (ns.map D.bl) → vs = ns.map V.bl
  | _, [], .nil => rfl
  | _, _ :: _, .cons (.bl _) b => congrArg _ b.toBls
theorem RepAll.rep : ∀ {vs : List V} {ds : List D} (n : Nat), RepAll K H vs ds → RepAll K H (List.replicate n vs).flatten (List.replicate n ds).flatten
  | _, _, 0, _ => .nil
  | _, _, n + 1, r => by
    rw [List.replicate_succ, List.replicate_succ, List.flatten_cons, List.flatten_cons]
    exact r.app (r.rep n)
theorem RepF.look {f : Str} {d : D} : ∀ {vs : List (Str × V)} {ds : List (Str × D)}, RepF K H vs ds → ds.lookup f = some d → ∃ v, vs.lookup f = some v ∧ Rep K H v d
  | _, _, .nil, e => by cases e
  | _, _, .cons (f := g) (d := d') a b, e => by
    rw [List.lookup_cons] at e ⊢
    cases q : (f == g) with
    | true =>
      rw [q] at e
      cases e
      exact ⟨_, rfl, a⟩
    | false =>
      rw [q] at e
      exact b.look e
theorem RepF.lookN {f : Str} : ∀ {vs : List (Str × V)} {ds : List (Str × D)}, RepF K H vs ds → ds.lookup f = none → vs.lookup f = none
  | _, _, .nil, _ => rfl
  | _, _, .cons (f := g) a b, e => by
    rw [List.lookup_cons] at e ⊢
    cases q : (f == g) with
    | true =>
      rw [q] at e
      cases e
    | false =>
      rw [q] at e
      exact b.lookN e
theorem RepF.len : ∀ {vs : List (Str × V)} {ds : List (Str × D)}, RepF K H vs ds → vs.length = ds.length
  | _, _, .nil => rfl
  | _, _, .cons _ b => congrArg Nat.succ b.len
end
/-- a field stored, in data -/
def putD (f : Str) (v : D) : List (Str × D) → List (Str × D)
  | [] => [(f, v)]
  | (g, u) :: r => if g = f then (f, v) :: r else (g, u) :: putD f v r
theorem RepF.put {K : PySem.W.Frag} {H : Hp} {f : Str} {v : V} {d : D} (r : Rep K H v d) : ∀ {vs : List (Str × V)} {ds : List (Str × D)}, RepF K H vs ds → RepF K H (putF f v vs) (putD f d ds)
  | _, _, .nil => .cons r .nil
  | _, _, .cons (f := g) a b => by
    unfold putF putD
    by_cases q : g = f
    · rw [if_pos q, if_pos q]
      subst q
      exact .cons r b
    · rw [if_neg q, if_neg q]
      exact .cons a (RepF.put r b)

/-! ### the memory of mutable nodes -/
inductive Nd where
  | lst (xs : List D) | dK (kvs : List (Key × D)) | dT (kvs : List (List Key × D)) | ins (C : Addr) (fs : List (Str × D)) | ext (φ : Heap → Prop)
abbrev Mem := Addr → Option Nd
def mset (M : Mem) (a : Addr) (n : Nd) : Mem := fun b => if b = a then some n else M b
def mdel (M : Mem) (a : Addr) : Mem := fun b => if b = a then none else M b
theorem mset_same {M : Mem} {a : Addr} {n : Nd} : mset M a n a = some n := by unfold mset; rw [if_pos rfl]
theorem mset_ne {M : Mem} {a b : Addr} {n : Nd} (h : b ≠ a) : mset M a n b = M b := by unfold mset; rw [if_neg h]
theorem mset_mset {M : Mem} {a : Addr} {n m : Nd} : mset (mset M a n) a m = mset M a m := by
  funext b; unfold mset; split <;> rfl
theorem mdel_ne {M : Mem} {a b : Addr} (h : b ≠ a) : mdel M a b = M b := by unfold mdel; rw [if_neg h]
theorem mdel_mset {M : Mem} {a : Addr} {n : Nd} (h : M a = none) : mdel (mset M a n) a = M := by
  funext b; unfold mdel mset
  by_cases e : b = a
  · rw [if_pos e, e, h]
  · rw [if_neg e, if_neg e]
def Sub (M M' : Mem) : Prop := ∀ a n, M a = some n → M' a = some n
theorem Sub.refl (M : Mem) : Sub M M := fun _ _ h => h
theorem Sub.mset {M : Mem} {a : Addr} {n : Nd} (h : M a = none) : Sub M (mset M a n) := fun b m e => by
  rw [mset_ne (fun q => by rw [q, h] at e; cases e)]
  exact e
theorem Sub.trans {A B C : Mem} (h : Sub A B) (k : Sub B C) : Sub A C := fun a n e => k a n (h a n e)

def RepKV {κ : Type} (K : PySem.W.Frag) (H : Hp) (xs : List (κ × V)) (ys : List (κ × D)) : Prop := Paired (fun p q => p.1 = q.1 ∧ Rep K H p.2 q.2) xs ys
theorem Paired.imp {α β : Type} {F G : α → β → Prop} (f : ∀ a b, F a b → G a b) {xs : List α} {ys : List β} (h : Paired F xs ys) : Paired G xs ys := L2.Paired.mapP h f
def NodeOk (K : PySem.W.Frag) (Hd H : Hp) (a : Addr) : Nd → Prop
  | .lst ds => ∃ vs, H a = some (.lst vs) ∧ RepAll K Hd vs ds
  | .dK kvs => ∃ vs, H a = some (.dK vs) ∧ RepKV K Hd vs kvs
  | .dT kvs => ∃ vs, H a = some (.dT vs) ∧ RepKV K Hd vs kvs
  | .ins C fs => ∃ dx vs, H a = some (.ins C dx vs) ∧ RepF K Hd vs fs
  | .ext φ => H a = some (.ext φ)
structure Conc (K : PySem.W.Frag) (Hd H : Hp) (M : Mem) (R : Hp) : Prop where
  same : Same Hd H
  fr : ∀ a o, R a = some o → H a = some o ∧ Hd a = none ∧ M a = none
  nd : ∀ a n, M a = some n → Hd a = none ∧ NodeOk K Hd H a n
section
variable {K : PySem.W.Frag} {Hd Hd' H H' R : Hp} {M M' : Mem} {a : Addr} {n : Nd}
theorem NodeOk.mono (e : Same Hd Hd') (h : NodeOk K Hd H a n) (g : H' a = H a) : NodeOk K Hd' H' a n := by
  cases n with
  | lst ds => obtain ⟨vs, h1, h2⟩ := h; exact ⟨vs, g.trans h1, h2.mono e⟩
  | dK ds => obtain ⟨vs, h1, h2⟩ := h; exact ⟨vs, g.trans h1, Paired.imp (fun _ _ z => ⟨z.1, z.2.mono e⟩) h2⟩
  | dT ds => obtain ⟨vs, h1, h2⟩ := h; exact ⟨vs, g.trans h1, Paired.imp (fun _ _ z => ⟨z.1, z.2.mono e⟩) h2⟩
  | ins C fs => obtain ⟨dx, vs, h1, h2⟩ := h; exact ⟨dx, vs, g.trans h1, h2.mono e⟩
  | ext φ => exact g.trans h
theorem Conc.live (c : Conc K Hd H M R) (e : M a = some n) : ∃ o, H a = some o := by
  have h := (c.nd a n e).2
  cases n with
  | lst ds => obtain ⟨vs, h1, h2⟩ := h; exact ⟨_, h1⟩
  | dK ds => obtain ⟨vs, h1, h2⟩ := h; exact ⟨_, h1⟩
  | dT ds => obtain ⟨vs, h1, h2⟩ := h; exact ⟨_, h1⟩
  | ins C fs => obtain ⟨dx, vs, h1, h2⟩ := h; exact ⟨_, h1⟩
  | ext φ => exact ⟨_, h⟩
theorem Conc.free (c : Conc K Hd H M R) (h : H a = none) : M a = none := by
  cases e : M a with
  | none => rfl
  | some n =>
    obtain ⟨o, z⟩ := c.live e
    rw [h] at z
    cases z
theorem Same.upd {o : HO} (e : Same Hd H) (h : Hd a = none) : Same Hd (upd H a o) := fun b u q => by
  rw [upd_ne (ne_of_none q h)]
  exact e b u q
theorem same_new {o : HO} (h : H a = none) : Same H (upd H a o) := Same.upd (Same.refl H) h
theorem same_upd2 {o : HO} (e : Same Hd H) (h : Hd a = none) : Same (upd Hd a o) (upd H a o) := fun b u q => by
  by_cases z : b = a
  · rw [z, upd_same] at q ⊢
    exact q
  · rw [upd_ne z] at q ⊢
    exact e b u q
/-- a new frozen thing -/
theorem Conc.newD {o : HO} (c : Conc K Hd H M R) (h : H a = none) : Conc K (upd Hd a o) (upd H a o) M R where
  same := same_upd2 c.same (Same.free c.same h)
  fr := fun b u q => by
    obtain ⟨h1, h2, h3⟩ := c.fr b u q
    have ne : b ≠ a := ne_of_none h1 h
    exact ⟨by rw [upd_ne ne]; exact h1, by rw [upd_ne ne]; exact h2, h3⟩
  nd := fun b n q => by
    obtain ⟨h1, h2⟩ := c.nd b n q
    obtain ⟨o', z⟩ := c.live q
    have ne : b ≠ a := ne_of_none z h
    exact ⟨by rw [upd_ne ne]; exact h1, h2.mono (same_new (Same.free c.same h)) (by rw [upd_ne ne])⟩
/-- a thing that nobody tells of -/
theorem Conc.newX {o : HO} (c : Conc K Hd H M R) (h : H a = none) : Conc K Hd (upd H a o) M R where
  same := Same.upd c.same (Same.free c.same h)
  fr := fun b u q => by
    obtain ⟨h1, h2, h3⟩ := c.fr b u q
    have ne : b ≠ a := ne_of_none h1 h
    exact ⟨by rw [upd_ne ne]; exact h1, h2, h3⟩
  nd := fun b n q => by
    obtain ⟨h1, h2⟩ := c.nd b n q
    obtain ⟨o', z⟩ := c.live q
    have ne : b ≠ a := ne_of_none z h
    exact ⟨h1, h2.mono (Same.refl _) (by rw [upd_ne ne])⟩
/-- a new mutable node -/
theorem Conc.newM {o : HO} (c : Conc K Hd H M R) (h : H a = none) (ok : NodeOk K Hd (upd H a o) a n) : Conc K Hd (upd H a o) (mset M a n) R where
  same := Same.upd c.same (Same.free c.same h)
  fr := fun b u q => by
    obtain ⟨h1, h2, h3⟩ := c.fr b u q
    have ne : b ≠ a := ne_of_none h1 h
    exact ⟨by rw [upd_ne ne]; exact h1, h2, by rw [mset_ne ne]; exact h3⟩
  nd := fun b m q => by
    by_cases e : b = a
    · subst e
      rw [mset_same] at q
      cases q
      exact ⟨Same.free c.same h, ok⟩
    · rw [mset_ne e] at q
      obtain ⟨h1, h2⟩ := c.nd b m q
      exact ⟨h1, h2.mono (Same.refl _) (by rw [upd_ne e])⟩
/-- a node is changed -/
theorem Conc.chg {o : HO} {m : Nd} (c : Conc K Hd H M R) (e : M a = some m) (ok : NodeOk K Hd (upd H a o) a n) : Conc K Hd (upd H a o) (mset M a n) R where
  same := Same.upd c.same (c.nd a m e).1
  fr := fun b u q => by
    obtain ⟨h1, h2, h3⟩ := c.fr b u q
    have ne : b ≠ a := fun z => by
      rw [z, e] at h3
      cases h3
    exact ⟨by rw [upd_ne ne]; exact h1, h2, by rw [mset_ne ne]; exact h3⟩
  nd := fun b m' q => by
    by_cases z : b = a
    · subst z
      rw [mset_same] at q
      cases q
      exact ⟨(c.nd b m e).1, ok⟩
    · rw [mset_ne z] at q
      obtain ⟨h1, h2⟩ := c.nd b m' q
      exact ⟨h1, h2.mono (Same.refl _) (by rw [upd_ne z])⟩
theorem Conc.sub (c : Conc K Hd H M R) (s : Sub M' M) : Conc K Hd H M' R where
  same := c.same
  fr := fun b u q => by
    obtain ⟨h1, h2, h3⟩ := c.fr b u q
    refine ⟨h1, h2, ?_⟩
    cases z : M' b with
    | none => rfl
    | some m =>
      rw [s b m z] at h3
      cases h3
  nd := fun b m q => c.nd b m (s b m q)
/-- a list is frozen -/
theorem Conc.freeze {ds : List D} (c : Conc K Hd H M R) (e : M a = some (.lst ds)) : ∃ Hd', Same Hd Hd' ∧ Conc K Hd' H (mdel M a) R ∧ Rep K Hd' (.ref a) (.lst ds) := by
  obtain ⟨h1, vs, h2, h3⟩ := c.nd a _ e
  have s : Same Hd (upd Hd a (.lst vs)) := same_new h1
  refine ⟨upd Hd a (.lst vs), s, ⟨fun b u q => ?_, fun b u q => ?_, fun b m q => ?_⟩, .lst upd_same (h3.mono s)⟩
  · by_cases z : b = a
    · rw [z, upd_same] at q
      rw [z, h2]
      exact q
    · rw [upd_ne z] at q
      exact c.same b u q
  · obtain ⟨k1, k2, k3⟩ := c.fr b u q
    have ne : b ≠ a := fun z => by
      rw [z, e] at k3
      cases k3
    exact ⟨k1, by rw [upd_ne ne]; exact k2, by rw [mdel_ne ne]; exact k3⟩
  · have ne : b ≠ a := fun z => by
      rw [z] at q
      unfold mdel at q
      rw [if_pos rfl] at q
      cases q
    rw [mdel_ne ne] at q
    obtain ⟨k1, k2⟩ := c.nd b m q
    exact ⟨by rw [upd_ne ne]; exact k1, k2.mono s rfl⟩
end

/-! ### slots -/
abbrev Sl := List (Option D)
def Slots (K : PySem.W.Frag) (H : Hp) (σ : L2.St) (Γ : Sl) : Prop := Paired (fun (ov : Option V) (od : Option D) => ∀ d, od = some d → ∃ v, ov = some v ∧ Rep K H v d) σ Γ
section
variable {K : PySem.W.Frag} {H H' : Hp}
theorem Slots.mono (e : Same H H') {σ : L2.St} {Γ : Sl} (s : Slots K H σ Γ) : Slots K H' σ Γ := Paired.imp (fun _ _ z d q => by
  obtain ⟨v, h1, h2⟩ := z d q
  exact ⟨v, h1, h2.mono e⟩) s
theorem Slots.get : ∀ {σ : L2.St} {Γ : Sl} {i : Nat} {d : D}, Slots K H σ Γ → Γ[i]? = some (some d) → ∃ v, σ[i]? = some (some v) ∧ Rep K H v d
  | _, _, _, _, .nil, e => by simp at e
  | _, _, 0, d, .cons a _, e => by
    simp at e
    obtain ⟨v, h1, h2⟩ := a d e
    exact ⟨v, by simp [h1], h2⟩
  | _, _, i + 1, d, .cons _ b, e => by
    obtain ⟨v, h1, h2⟩ := Slots.get (i := i) (d := d) b (by simpa using e)
    exact ⟨v, by simpa using h1, h2⟩
theorem Slots.set {v : V} {d : D} (r : Rep K H v d) : ∀ {σ : L2.St} {Γ : Sl} (i : Nat), Slots K H σ Γ → Slots K H (σ.set i (some v)) (Γ.set i (some d))
  | _, _, _, .nil => .nil
  | _, _, 0, .cons _ b => .cons (fun d' e => by cases e; exact ⟨v, rfl, r⟩) b
  | _, _, i + 1, .cons a b => .cons a (Slots.set r i b)
/-- slots of which less is told -/
def Wk (Γ Γ' : Sl) : Prop := Paired (fun (o o' : Option D) => ∀ d, o' = some d → o = some d) Γ Γ'
theorem Slots.weak : ∀ {σ : L2.St} {Γ Γ' : Sl}, Slots K H σ Γ → Wk Γ Γ' → Slots K H σ Γ'
  | _, _, _, .nil, .nil => .nil
  | _, _, _, .cons a b, .cons w w' => .cons (fun d e => a d (w d e)) (Slots.weak b w')
def startD (N : List Str) (ds : List D) : Sl := ds.map some ++ List.replicate (N.length - ds.length) none
theorem slots_nones : ∀ n : Nat, Slots K H (List.replicate n none) (List.replicate n none)
  | 0 => .nil
  | n + 1 => .cons (fun _ e => by cases e) (slots_nones n)
theorem Slots.app : ∀ {σ σ' : L2.St} {Γ Γ' : Sl}, Slots K H σ Γ → Slots K H σ' Γ' → Slots K H (σ ++ σ') (Γ ++ Γ')
  | _, _, _, _, .nil, s => s
  | _, _, _, _, .cons a b, s => .cons a (Slots.app b s)
theorem slots_start {N : List Str} {vs : List V} {ds : List D} (r : RepAll K H vs ds) : Slots K H (L2.start N vs) (startD N ds) := by
  unfold L2.start startD
  rw [r.len]
  refine Slots.app ?_ (slots_nones _)
  have go : ∀ {vs : List V} {ds : List D}, RepAll K H vs ds → Slots K H (vs.map some) (ds.map some) := by
    intro vs ds r
    induction vs generalizing ds with
    | nil => cases r; exact .nil
    | cons v vs ih =>
      cases r with
      | cons a b => exact .cons (fun d e => by cases e; exact ⟨v, rfl, a⟩) (ih b)
  exact go r
def wipeD (Γ : Sl) : List Nat → Sl
  | [] => Γ
  | v :: vs => (wipeD Γ vs).set v none
theorem Slots.unset : ∀ {σ : L2.St} {Γ : Sl} (i : Nat), Slots K H σ Γ → Slots K H (σ.set i none) (Γ.set i none)
  | _, _, _, .nil => .nil
  | _, _, 0, .cons _ b => .cons (fun d' e => by cases e) b
  | _, _, i + 1, .cons a b => .cons a (Slots.unset i b)
theorem Slots.wiped {σ : L2.St} {Γ : Sl} (s : Slots K H σ Γ) : ∀ vs : List Nat, Slots K H (wipe σ vs) (wipeD Γ vs)
  | [] => s
  | v :: vs => (Slots.wiped s vs).unset v
end

/-! ### wishes -/
/-- the context of a wish: the written part, what is wanted of an exception, the same in data -/
structure EC where
  K : PySem.W.Frag
  E : XK
  X : Value → List (Str × D) → Mem → Prop
def RepX (K : PySem.W.Frag) (Hd H : Hp) (od : Option Addr) (fs : List (Str × D)) : Prop := fs = [] ∨ ∃ d vs, od = some d ∧ H d = some (.xd vs) ∧ RepF K Hd vs fs
def ExOk (c : EC) (Hd R : Hp) : Prop := ∀ Hd' H' M' cl od fs, Same Hd Hd' → Conc c.K Hd' H' M' R → RepX c.K Hd' H' od fs → c.X cl fs M' → c.E cl od H'
theorem ExOk.mono {c : EC} {Hd Hd' R : Hp} (e : Same Hd Hd') (x : ExOk c Hd R) : ExOk c Hd' R := fun Hd2 H' M' cl od fs s => x Hd2 H' M' cl od fs (e.trans s)
def wE (c : EC) (te : TE) (Γ : Sl) (M : Mem) (Q : D → Mem → Prop) : Prop :=
  ∀ (Hd H R : Hp) (σ : L2.St), Conc c.K Hd H M R → Slots c.K Hd σ Γ → ExOk c Hd R → ∀ Q' : VK,
    (∀ Hd' H' M' v d, Same Hd Hd' → Conc c.K Hd' H' M' R → Rep c.K Hd' v d → Q d M' → Q' v H') → te σ H Q'
def wT (c : EC) (tt : TT) (Γ : Sl) (M : Mem) (Q : Bool → Mem → Prop) : Prop :=
  ∀ (Hd H R : Hp) (σ : L2.St), Conc c.K Hd H M R → Slots c.K Hd σ Γ → ExOk c Hd R → ∀ Q' : Bool → Hp → Prop,
    (∀ Hd' H' M' b, Same Hd Hd' → Conc c.K Hd' H' M' R → Q b M' → Q' b H') → tt σ H Q'
def wA (c : EC) (ta : TA) (Γ : Sl) (M : Mem) (Q : List D → Mem → Prop) : Prop :=
  ∀ (Hd H R : Hp) (σ : L2.St), Conc c.K Hd H M R → Slots c.K Hd σ Γ → ExOk c Hd R → ∀ Q' : List V → Hp → Prop,
    (∀ Hd' H' M' vs ds, Same Hd Hd' → Conc c.K Hd' H' M' R → RepAll c.K Hd' vs ds → Q ds M' → Q' vs H') → ta σ H Q'
structure Zs where
  nx : Sl → Mem → Prop
  rt : D → Mem → Prop
  bk : Sl → Mem → Prop := fun _ _ => False
  ct : Sl → Mem → Prop := fun _ _ => False
/-- the ends D answer the wishes Z -/
structure ZOk (c : EC) (Hd R : Hp) (Z : Zs) (D : Ends) : Prop where
  nx : ∀ Hd' H' M' σ' Γ', Same Hd Hd' → Conc c.K Hd' H' M' R → Slots c.K Hd' σ' Γ' → Z.nx Γ' M' → D.nx σ' H'
  rt : ∀ Hd' H' M' v d, Same Hd Hd' → Conc c.K Hd' H' M' R → Rep c.K Hd' v d → Z.rt d M' → D.rt v H'
  bk : ∀ Hd' H' M' σ' Γ', Same Hd Hd' → Conc c.K Hd' H' M' R → Slots c.K Hd' σ' Γ' → Z.bk Γ' M' → D.bk σ' H'
  ct : ∀ Hd' H' M' σ' Γ', Same Hd Hd' → Conc c.K Hd' H' M' R → Slots c.K Hd' σ' Γ' → Z.ct Γ' M' → D.ct σ' H'
theorem ZOk.mono {c : EC} {Hd Hd' R : Hp} {Z : Zs} {D : Ends} (e : Same Hd Hd') (z : ZOk c Hd R Z D) : ZOk c Hd' R Z D :=
  ⟨fun _ _ _ _ _ s => z.nx _ _ _ _ _ (e.trans s), fun _ _ _ _ _ s => z.rt _ _ _ _ _ (e.trans s), fun _ _ _ _ _ s => z.bk _ _ _ _ _ (e.trans s), fun _ _ _ _ _ s => z.ct _ _ _ _ _ (e.trans s)⟩
def wS (c : EC) (ts : TS) (Γ : Sl) (M : Mem) (Z : Zs) : Prop :=
  ∀ (Hd H R : Hp) (σ : L2.St), Conc c.K Hd H M R → Slots c.K Hd σ Γ → ExOk c Hd R → ∀ D : Ends, ZOk c Hd R Z D → ts D σ H
/-- a target takes d -/
def wG (c : EC) (g : TG) (d : D) (Γ : Sl) (M : Mem) (Q : Sl → Mem → Prop) : Prop :=
  ∀ (Hd H R : Hp) (σ : L2.St) (v : V), Conc c.K Hd H M R → Slots c.K Hd σ Γ → ExOk c Hd R → Rep c.K Hd v d → ∀ Q' : L2.St → Hp → Prop,
    (∀ Hd' H' M' σ' Γ', Same Hd Hd' → Conc c.K Hd' H' M' R → Slots c.K Hd' σ' Γ' → Q Γ' M' → Q' σ' H') → g v σ H Q'
def wGs (c : EC) (g : TGs) (ds : List D) (Γ : Sl) (M : Mem) (Q : Sl → Mem → Prop) : Prop :=
  ∀ (Hd H R : Hp) (σ : L2.St) (vs : List V), Conc c.K Hd H M R → Slots c.K Hd σ Γ → ExOk c Hd R → RepAll c.K Hd vs ds → ∀ Q' : L2.St → Hp → Prop,
    (∀ Hd' H' M' σ' Γ', Same Hd Hd' → Conc c.K Hd' H' M' R → Slots c.K Hd' σ' Γ' → Q Γ' M' → Q' σ' H') → g vs σ H Q'
/-- operations by values -/
def wR (c : EC) (r : R2) (x y : D) (M : Mem) (Q : D → Mem → Prop) : Prop :=
  ∀ (Hd H R : Hp) (v u : V), Conc c.K Hd H M R → ExOk c Hd R → Rep c.K Hd v x → Rep c.K Hd u y → ∀ Q' : VK,
    (∀ Hd' H' M' v d, Same Hd Hd' → Conc c.K Hd' H' M' R → Rep c.K Hd' v d → Q d M' → Q' v H') → r v u H Q'
def wU (c : EC) (r : V → Hp → VK → Prop) (x : D) (M : Mem) (Q : D → Mem → Prop) : Prop :=
  ∀ (Hd H R : Hp) (v : V), Conc c.K Hd H M R → ExOk c Hd R → Rep c.K Hd v x → ∀ Q' : VK,
    (∀ Hd' H' M' v d, Same Hd Hd' → Conc c.K Hd' H' M' R → Rep c.K Hd' v d → Q d M' → Q' v H') → r v H Q'
def wC (c : EC) (r : List V → Hp → VK → Prop) (ds : List D) (M : Mem) (Q : D → Mem → Prop) : Prop :=
  ∀ (Hd H R : Hp) (vs : List V), Conc c.K Hd H M R → ExOk c Hd R → RepAll c.K Hd vs ds → ∀ Q' : VK,
    (∀ Hd' H' M' v d, Same Hd Hd' → Conc c.K Hd' H' M' R → Rep c.K Hd' v d → Q d M' → Q' v H') → r vs H Q'
end DL

namespace DL
open PySem PySem.Spec PyProof.Rows L2
section
variable {c : EC} {Γ : Sl} {M : Mem} {Q : D → Mem → Prop}
/-! ### expressions -/
theorem wE_mono {te : TE} {Q' : D → Mem → Prop} (h : wE c te Γ M Q) (k : ∀ d M', Q d M' → Q' d M') : wE c te Γ M Q' := fun Hd H R σ C S X P z => h Hd H R σ C S X P fun Hd' H' M' v d s C' r q => z Hd' H' M' v d s C' r (k d M' q)
theorem wE_var {i : Nat} {d : D} (h : Γ[i]? = some (some d)) (q : Q d M) : wE c (tVar i) Γ M Q := fun Hd H R σ C S X P z => by
  obtain ⟨v, h1, h2⟩ := S.get h
  exact ⟨v, h1, z Hd H M v d (Same.refl _) C h2 q⟩
theorem wE_int {i : Int} (q : Q (.int i) M) : wE c (tC (.int i)) Γ M Q := fun Hd H R σ C S X P z => z Hd H M _ _ (Same.refl _) C (.int i) q
theorem wE_bl {i : Bool} (q : Q (.bl i) M) : wE c (tC (.bl i)) Γ M Q := fun Hd H R σ C S X P z => z Hd H M _ _ (Same.refl _) C (.bl i) q
theorem wE_str {i : Str} (q : Q (.str i) M) : wE c (tC (.str i)) Γ M Q := fun Hd H R σ C S X P z => z Hd H M _ _ (Same.refl _) C (.str i) q
theorem wE_non (q : Q .non M) : wE c (tC .non) Γ M Q := fun Hd H R σ C S X P z => z Hd H M _ _ (Same.refl _) C .non q
theorem wE_ty {n : String} (q : Q (.ty n) M) : wE c (tC (.ty n)) Γ M Q := fun Hd H R σ C S X P z => z Hd H M _ _ (Same.refl _) C (.ty n) q
theorem wE_ref {a : Addr} (q : Q (.ref a) M) : wE c (tC (.ref a)) Γ M Q := fun Hd H R σ C S X P z => z Hd H M _ _ (Same.refl _) C (.ref a) q
theorem wE_op {r : R2} {ta tb : TE} (h : wE c ta Γ M fun x M1 => wE c tb Γ M1 fun y M2 => wR c r x y M2 Q) : wE c (tOp r ta tb) Γ M Q := fun Hd H R σ C S X P z =>
  h Hd H R σ C S X _ fun Hd1 H1 M1 v x s1 C1 r1 h1 => h1 Hd1 H1 R σ C1 (S.mono s1) (X.mono s1) _ fun Hd2 H2 M2 u y s2 C2 r2 h2 => h2 Hd2 H2 R v u C2 ((X.mono s1).mono s2) (r1.mono s2) r2 P fun Hd3 H3 M3 w d s3 C3 r3 q => z Hd3 H3 M3 w d ((s1.trans s2).trans s3) C3 r3 q
theorem wE_un {r : V → Hp → VK → Prop} {ta : TE} (h : wE c ta Γ M fun x M1 => wU c r x M1 Q) : wE c (tUn r ta) Γ M Q := fun Hd H R σ C S X P z =>
  h Hd H R σ C S X _ fun Hd1 H1 M1 v x s1 C1 r1 h1 => h1 Hd1 H1 R v C1 (X.mono s1) r1 P fun Hd3 H3 M3 w d s3 C3 r3 q => z Hd3 H3 M3 w d (s1.trans s3) C3 r3 q
theorem wA_nil {Q : List D → Mem → Prop} (q : Q [] M) : wA c tNil Γ M Q := fun Hd H R σ C S X P z => z Hd H M _ _ (Same.refl _) C .nil q
theorem wA_cons {te : TE} {ta : TA} {Q : List D → Mem → Prop} (h : wE c te Γ M fun x M1 => wA c ta Γ M1 fun xs M2 => Q (x :: xs) M2) : wA c (tCons te ta) Γ M Q := fun Hd H R σ C S X P z =>
  h Hd H R σ C S X _ fun Hd1 H1 M1 v x s1 C1 r1 h1 => h1 Hd1 H1 R σ C1 (S.mono s1) (X.mono s1) _ fun Hd2 H2 M2 us ys s2 C2 r2 q => z Hd2 H2 M2 _ _ (s1.trans s2) C2 (.cons (r1.mono s2) r2) q
/-- a built-in called -/
theorem wE_CB {r : List V → Hp → VK → Prop} {ta : TA} (h : wA c ta Γ M fun xs M1 => wC c r xs M1 Q) : wE c (tCB r ta) Γ M Q := fun Hd H R σ C S X P z =>
  h Hd H R σ C S X _ fun Hd1 H1 M1 v x s1 C1 r1 h1 => h1 Hd1 H1 R v C1 (X.mono s1) r1 P fun Hd3 H3 M3 w d s3 C3 r3 q => z Hd3 H3 M3 w d (s1.trans s3) C3 r3 q
/-! displays -/
theorem sz_of {n : Nat} (h : n ≤ 100000) : n ≤ sizeLine := Nat.le_trans h (by decide)
theorem wE_tup {ta : TA} (h : wA c ta Γ M fun xs M1 => xs.length ≤ 100000 ∧ Q (.tup xs) M1) : wE c (tTup ta) Γ M Q := fun Hd H R σ C S X P z =>
  h Hd H R σ C S X _ fun Hd1 H1 M1 vs ds s1 C1 r1 h1 => ⟨by rw [r1.len]; exact sz_of h1.1, fun p hp => by
    have s2 := same_new (o := .tup vs) (Same.free C1.same hp)
    exact z _ _ M1 _ _ (s1.trans s2) (C1.newD hp) (.tup (.inl (.inl upd_same)) (r1.mono s2)) h1.2⟩
theorem wE_lst {ta : TA} (h : wA c ta Γ M fun xs M1 => xs.length ≤ 100000 ∧ Q (.lst xs) M1) : wE c (tLst ta) Γ M Q := fun Hd H R σ C S X P z =>
  h Hd H R σ C S X _ fun Hd1 H1 M1 vs ds s1 C1 r1 h1 => ⟨by rw [r1.len]; exact sz_of h1.1, fun p hp => by
    have s2 := same_new (o := .lst vs) (Same.free C1.same hp)
    exact z _ _ M1 _ _ (s1.trans s2) (C1.newD hp) (.lst upd_same (r1.mono s2)) h1.2⟩
/-- a list that will be changed -/
def tLstM (ta : TA) : TE := tLst ta
theorem pe_lstM {X : Cx} {es : List Expr} {ta : TA} {pos : Pos} (h : PA X es ta) : PE X (.List es pos) (tLstM ta) := pe_lst h
theorem wE_lstM {ta : TA} (h : wA c ta Γ M fun xs M1 => xs.length ≤ 100000 ∧ ∀ a, M1 a = none → Q (.ref a) (mset M1 a (.lst xs))) : wE c (tLstM ta) Γ M Q := fun Hd H R σ C S X P z =>
  h Hd H R σ C S X _ fun Hd1 H1 M1 vs ds s1 C1 r1 h1 => ⟨by rw [r1.len]; exact sz_of h1.1, fun p hp =>
    z _ _ _ _ _ s1 (C1.newM (n := .lst ds) hp ⟨vs, upd_same, r1⟩) (.ref p) (h1.2 p (C1.free hp))⟩
theorem wE_dnewK (h : ∀ a, M a = none → Q (.ref a) (mset M a (.dK []))) : wE c tDNewK Γ M Q := fun Hd H R σ C S X P z p hp =>
  z _ _ _ _ _ (Same.refl _) (C.newM (n := .dK []) hp ⟨[], upd_same, .nil⟩) (.ref p) (h p (C.free hp))
theorem wE_dnewT (h : ∀ a, M a = none → Q (.ref a) (mset M a (.dT []))) : wE c tDNewT Γ M Q := fun Hd H R σ C S X P z p hp =>
  z _ _ _ _ _ (Same.refl _) (C.newM (n := .dT []) hp ⟨[], upd_same, .nil⟩) (.ref p) (h p (C.free hp))
/-! tests -/
theorem wT_test {te : TE} {Q : Bool → Mem → Prop} (h : wE c te Γ M fun d M1 => ∃ b, d = .bl b ∧ Q b M1) : wT c (tTest te) Γ M Q := fun Hd H R σ C S X P z =>
  h Hd H R σ C S X _ fun Hd1 H1 M1 v d s1 C1 r1 ⟨b, e, q⟩ => by
    subst e
    cases r1
    exact ⟨b, rfl, z _ _ _ _ s1 C1 q⟩
theorem wT_B {te : TE} {Q : Bool → Mem → Prop} (h : wE c te Γ M fun d M1 => ∃ b, d = .bl b ∧ Q b M1) : wT c (tB te) Γ M Q := fun Hd H R σ C S X P z =>
  h Hd H R σ C S X _ fun Hd1 H1 M1 v d s1 C1 r1 ⟨b, e, q⟩ => by
    subst e
    cases r1
    exact ⟨b, rfl, z _ _ _ _ s1 C1 q⟩
theorem wT_and {t u : TT} {Q : Bool → Mem → Prop} (h : wT c t Γ M fun b M1 => (b = true → wT c u Γ M1 Q) ∧ (b = false → Q false M1)) : wT c (tAnd t u) Γ M Q := fun Hd H R σ C S X P z =>
  h Hd H R σ C S X _ fun Hd1 H1 M1 b s1 C1 ⟨h1, h2⟩ => by
    cases b with
    | true => exact h1 rfl Hd1 H1 R σ C1 (S.mono s1) (X.mono s1) P fun Hd2 H2 M2 b s2 C2 q => z _ _ _ _ (s1.trans s2) C2 q
    | false => exact z _ _ _ _ s1 C1 (h2 rfl)
theorem wT_or {t u : TT} {Q : Bool → Mem → Prop} (h : wT c t Γ M fun b M1 => (b = true → Q true M1) ∧ (b = false → wT c u Γ M1 Q)) : wT c (tOr t u) Γ M Q := fun Hd H R σ C S X P z =>
  h Hd H R σ C S X _ fun Hd1 H1 M1 b s1 C1 ⟨h1, h2⟩ => by
    cases b with
    | false => exact h2 rfl Hd1 H1 R σ C1 (S.mono s1) (X.mono s1) P fun Hd2 H2 M2 b s2 C2 q => z _ _ _ _ (s1.trans s2) C2 q
    | true => exact z _ _ _ _ s1 C1 (h1 rfl)
theorem wT_not {t : TT} {Q : Bool → Mem → Prop} (h : wT c t Γ M fun b M1 => Q (!b) M1) : wT c (tNot t) Γ M Q := fun Hd H R σ C S X P z =>
  h Hd H R σ C S X _ fun Hd1 H1 M1 b s1 C1 q => z _ _ _ _ s1 C1 q
theorem wT_yes {Q : Bool → Mem → Prop} (q : Q true M) : wT c tYes Γ M Q := fun Hd H R σ C S X P z => z _ _ _ _ (Same.refl _) C q
theorem wE_and {ta tb : TE} (h : wE c ta Γ M fun d M1 => ∃ b, d = .bl b ∧ (b = true → wE c tb Γ M1 Q) ∧ (b = false → Q (.bl false) M1)) : wE c (tAndV ta tb) Γ M Q := fun Hd H R σ C S X P z =>
  h Hd H R σ C S X _ fun Hd1 H1 M1 v d s1 C1 r1 ⟨b, e, h1, h2⟩ => by
    subst e
    cases r1
    refine ⟨b, rfl, ?_⟩
    cases b with
    | true => exact h1 rfl Hd1 H1 R σ C1 (S.mono s1) (X.mono s1) P fun Hd2 H2 M2 v d s2 C2 r q => z _ _ _ _ _ (s1.trans s2) C2 r q
    | false => exact z _ _ _ _ _ s1 C1 (.bl _) (h2 rfl)
theorem wE_or {ta tb : TE} (h : wE c ta Γ M fun d M1 => ∃ b, d = .bl b ∧ (b = true → Q (.bl true) M1) ∧ (b = false → wE c tb Γ M1 Q)) : wE c (tOrV ta tb) Γ M Q := fun Hd H R σ C S X P z =>
  h Hd H R σ C S X _ fun Hd1 H1 M1 v d s1 C1 r1 ⟨b, e, h1, h2⟩ => by
    subst e
    cases r1
    refine ⟨b, rfl, ?_⟩
    cases b with
    | false => exact h2 rfl Hd1 H1 R σ C1 (S.mono s1) (X.mono s1) P fun Hd2 H2 M2 v d s2 C2 r q => z _ _ _ _ _ (s1.trans s2) C2 r q
    | true => exact z _ _ _ _ _ s1 C1 (.bl _) (h1 rfl)
theorem wE_not {ta : TE} (h : wE c ta Γ M fun d M1 => ∃ b, d = .bl b ∧ Q (.bl (!b)) M1) : wE c (tNotV ta) Γ M Q := fun Hd H R σ C S X P z =>
  h Hd H R σ C S X _ fun Hd1 H1 M1 v d s1 C1 r1 ⟨b, e, q⟩ => by
    subst e
    cases r1
    exact ⟨b, rfl, z _ _ _ _ _ s1 C1 (.bl _) q⟩
theorem wE_if {t : TT} {ta tb : TE} (h : wT c t Γ M fun b M1 => (b = true → wE c ta Γ M1 Q) ∧ (b = false → wE c tb Γ M1 Q)) : wE c (tIf t ta tb) Γ M Q := fun Hd H R σ C S X P z =>
  h Hd H R σ C S X _ fun Hd1 H1 M1 b s1 C1 ⟨h1, h2⟩ => by
    cases b with
    | true => exact h1 rfl Hd1 H1 R σ C1 (S.mono s1) (X.mono s1) P fun Hd2 H2 M2 v d s2 C2 r q => z _ _ _ _ _ (s1.trans s2) C2 r q
    | false => exact h2 rfl Hd1 H1 R σ C1 (S.mono s1) (X.mono s1) P fun Hd2 H2 M2 v d s2 C2 r q => z _ _ _ _ _ (s1.trans s2) C2 r q
/-- a <= b <= c -/
theorem wE_chain {r r' : R2} {ta tb tc : TE} (h : wE c ta Γ M fun x M1 => wE c tb Γ M1 fun y M2 => wR c r x y M2 fun d M3 => ∃ b, d = .bl b ∧ (b = true → wE c tc Γ M3 fun w M4 => wR c r' y w M4 Q) ∧ (b = false → Q (.bl false) M3)) :
    wE c (tChain r r' ta tb tc) Γ M Q := fun Hd H R σ C S X P z =>
  h Hd H R σ C S X _ fun Hd1 H1 M1 v x s1 C1 r1 h1 => h1 Hd1 H1 R σ C1 (S.mono s1) (X.mono s1) _ fun Hd2 H2 M2 u y s2 C2 r2 h2 => h2 Hd2 H2 R v u C2 ((X.mono s1).mono s2) (r1.mono s2) r2 _ fun Hd3 H3 M3 w d s3 C3 r3 ⟨b, e, k1, k2⟩ => by
    subst e
    cases r3
    refine ⟨b, rfl, ?_⟩
    have s123 := (s1.trans s2).trans s3
    cases b with
    | true =>
      refine k1 rfl Hd3 H3 R σ C3 (S.mono s123) (X.mono s123) _ fun Hd4 H4 M4 w d s4 C4 r4 h4 => ?_
      exact h4 Hd4 H4 R _ _ C4 (X.mono (s123.trans s4)) (r2.mono (s3.trans s4)) r4 P fun Hd5 H5 M5 w d s5 C5 r5 q => z _ _ _ _ _ ((s123.trans s4).trans s5) C5 r5 q
    | false => exact z _ _ _ _ _ s123 C3 (.bl _) (k2 rfl)
/-! ### statements -/
variable {Z : Zs}
theorem wS_seq {t u : TS} (h : wS c t Γ M { Z with nx := fun Γ' M' => wS c u Γ' M' Z }) : wS c (tSeq t u) Γ M Z := fun Hd H R σ C S X D z =>
  h Hd H R σ C S X { D with nx := u D } ⟨fun Hd1 H1 M1 σ1 Γ1 s1 C1 S1 q => q Hd1 H1 R σ1 C1 S1 (X.mono s1) D (z.mono s1), z.rt, z.bk, z.ct⟩
theorem wS_next (h : Z.nx Γ M) : wS c tNext Γ M Z := fun Hd H R σ C S X D z => z.nx _ _ _ _ _ (Same.refl _) C S h
theorem wS_brk (h : Z.bk Γ M) : wS c tBreak Γ M Z := fun Hd H R σ C S X D z => z.bk _ _ _ _ _ (Same.refl _) C S h
theorem wS_cont (h : Z.ct Γ M) : wS c tCont Γ M Z := fun Hd H R σ C S X D z => z.ct _ _ _ _ _ (Same.refl _) C S h
theorem wS_ret {te : TE} (h : wE c te Γ M Z.rt) : wS c (tRet te) Γ M Z := fun Hd H R σ C S X D z => h Hd H R σ C S X _ fun Hd1 H1 M1 v d s1 C1 r1 q => z.rt _ _ _ _ _ s1 C1 r1 q
theorem wS_drop {te : TE} (h : wE c te Γ M fun _ M1 => Z.nx Γ M1) : wS c (tDrop te) Γ M Z := fun Hd H R σ C S X D z => h Hd H R σ C S X _ fun Hd1 H1 M1 v d s1 C1 r1 q => z.nx _ _ _ _ _ s1 C1 (S.mono s1) q
theorem wS_if {t : TT} {a b : TS} (h : wT c t Γ M fun k M1 => (k = true → wS c a Γ M1 Z) ∧ (k = false → wS c b Γ M1 Z)) : wS c (tIfS t a b) Γ M Z := fun Hd H R σ C S X D z =>
  h Hd H R σ C S X _ fun Hd1 H1 M1 k s1 C1 ⟨h1, h2⟩ => by
    cases k with
    | true => exact h1 rfl Hd1 H1 R σ C1 (S.mono s1) (X.mono s1) D (z.mono s1)
    | false => exact h2 rfl Hd1 H1 R σ C1 (S.mono s1) (X.mono s1) D (z.mono s1)
theorem wS_asg {te : TE} {g : TG} (h : wE c te Γ M fun d M1 => wG c g d Γ M1 Z.nx) : wS c (tAsg te g) Γ M Z := fun Hd H R σ C S X D z =>
  h Hd H R σ C S X _ fun Hd1 H1 M1 v d s1 C1 r1 h1 => h1 Hd1 H1 R σ v C1 (S.mono s1) (X.mono s1) r1 _ fun Hd2 H2 M2 σ2 Γ2 s2 C2 S2 q => z.nx _ _ _ _ _ (s1.trans s2) C2 S2 q
theorem wG_name {i : Nat} {d : D} {Q : Sl → Mem → Prop} (h : Q (Γ.set i (some d)) M) : wG c (gName i) d Γ M Q := fun Hd H R σ v C S X r P z => z _ _ _ _ _ (Same.refl _) C (S.set r i) h
theorem wG_sub {to ti : TE} {t : TSet} {d : D} {Q : Sl → Mem → Prop} (h : wE c to Γ M fun o M1 => wE c ti Γ M1 fun i M2 => ∀ (Hd H R : Hp) (ov iv v : V), Conc c.K Hd H M2 R → Rep c.K Hd ov o → Rep c.K Hd iv i → Rep c.K Hd v d → ∀ P : Hp → Prop, (∀ H' M', Conc c.K Hd H' M' R → Q Γ M' → P H') → t ov iv v H P) :
    wG c (gSub to ti t) d Γ M Q := fun Hd H R σ v C S X r P z =>
  h Hd H R σ C S X _ fun Hd1 H1 M1 ov o s1 C1 r1 h1 => h1 Hd1 H1 R σ C1 (S.mono s1) (X.mono s1) _ fun Hd2 H2 M2 iv i s2 C2 r2 h2 => h2 Hd2 H2 R ov iv v C2 (r1.mono s2) r2 (r.mono (s1.trans s2)) _ fun H3 M3 C3 q =>
    z _ _ _ _ _ (s1.trans s2) C3 (S.mono (s1.trans s2)) q
theorem wGs_nil {Q : Sl → Mem → Prop} (h : Q Γ M) : wGs c gNil [] Γ M Q := fun Hd H R σ vs C S X r P z => by
  cases r
  exact ⟨rfl, z _ _ _ _ _ (Same.refl _) C S h⟩
theorem wGs_cons {g : TG} {gs : TGs} {d : D} {ds : List D} {Q : Sl → Mem → Prop} (h : wG c g d Γ M fun Γ1 M1 => wGs c gs ds Γ1 M1 Q) : wGs c (gCons g gs) (d :: ds) Γ M Q := fun Hd H R σ vs C S X r P z => by
  cases r with
  | cons r1 r2 =>
    refine ⟨_, _, rfl, h Hd H R σ _ C S X r1 _ fun Hd1 H1 M1 σ1 Γ1 s1 C1 S1 h1 => ?_⟩
    exact h1 Hd1 H1 R σ1 _ C1 S1 (X.mono s1) (r2.mono s1) P fun Hd2 H2 M2 σ2 Γ2 s2 C2 S2 q => z _ _ _ _ _ (s1.trans s2) C2 S2 q
theorem wG_tup {n : Nat} {gs : TGs} {ds : List D} {Q : Sl → Mem → Prop} (hn : ds.length = n) (h : wGs c gs ds Γ M Q) : wG c (gTup c.K n gs) (.tup ds) Γ M Q := fun Hd H R σ v C S X r P z => by
  cases r with
  | tup h1 h2 => exact ⟨_, _, rfl, Same.sqt C.same h1, h2.len.trans hn, h Hd H R σ _ C S X h2 P z⟩
/-! ghost steps -/
theorem wS_weak {ts : TS} {Γ' : Sl} (w : Wk Γ Γ') (h : wS c ts Γ' M Z) : wS c ts Γ M Z := fun Hd H R σ C S X D z => h Hd H R σ C (S.weak w) X D z
theorem wS_sub {ts : TS} {M' : Mem} (s : Sub M' M) (h : wS c ts Γ M' Z) : wS c ts Γ M Z := fun Hd H R σ C S X D z => h Hd H R σ (C.sub s) S X D z
theorem wS_freeze {ts : TS} {i : Nat} {a : Addr} {ds : List D} (hi : Γ[i]? = some (some (.ref a))) (hm : M a = some (.lst ds)) (h : wS c ts (Γ.set i (some (.lst ds))) (mdel M a) Z) : wS c ts Γ M Z := fun Hd H R σ C S X D z => by
  obtain ⟨Hd', s, C', r⟩ := C.freeze hm
  obtain ⟨v, h1, h2⟩ := S.get hi
  cases h2
  have S' : Slots c.K Hd' σ (Γ.set i (some (.lst ds))) := by
    have e : σ.set i (some (.ref a)) = σ := by
      have lt := (List.getElem?_eq_some_iff.mp h1)
      obtain ⟨hl, e⟩ := lt
      rw [← e]
      exact List.set_getElem_self hl
    rw [← e]
    exact (S.mono s).set r i
  exact h Hd' H R σ C' S' (X.mono s) D (z.mono s)
theorem wE_sub {te : TE} {M' : Mem} (s : Sub M' M) (h : wE c te Γ M' Q) : wE c te Γ M Q := fun Hd H R σ C S X P z => h Hd H R σ (C.sub s) S X P z
/-- of the answer's memory less may be told -/
theorem wE_subQ {te : TE} (h : wE c te Γ M fun d M1 => ∃ M2, Sub M2 M1 ∧ Q d M2) : wE c te Γ M Q := fun Hd H R σ C S X P z =>
  h Hd H R σ C S X P fun Hd1 H1 M1 v d s1 C1 r1 ⟨M2, s, q⟩ => z _ _ M2 _ _ s1 (C1.sub s) r1 q
/-- an answer is frozen -/
theorem wE_frzQ {te : TE} (h : wE c te Γ M fun d M1 => ∃ a ds, d = .ref a ∧ M1 a = some (.lst ds) ∧ Q (.lst ds) (mdel M1 a)) : wE c te Γ M Q := fun Hd H R σ C S X P z =>
  h Hd H R σ C S X P fun Hd1 H1 M1 v d s1 C1 r1 ⟨a, ds, e, hm, q⟩ => by
    subst e
    cases r1
    obtain ⟨Hd', s, C', r⟩ := C1.freeze hm
    exact z _ _ _ _ _ (s1.trans s) C' r q

/-! ### while -/
theorem wS_while {t : TT} {tb : TS} (W : Nat → Sl → Mem → Prop) (n : Nat) (h0 : W n Γ M) (hs : ∀ n Γ' M', W n Γ' M' → wT c t Γ' M' fun b M1 => (b = true → wS c tb Γ' M1 { Z with nx := fun Γ2 M2 => ∃ m, m < n ∧ W m Γ2 M2, ct := fun Γ2 M2 => ∃ m, m < n ∧ W m Γ2 M2, bk := Z.nx }) ∧ (b = false → Z.nx Γ' M1)) :
    wS c (tWhile t tb) Γ M Z := fun Hd H R σ C S X D z =>
  ⟨fun n σ' H' => ∃ Hd' M' Γ', Same Hd Hd' ∧ Conc c.K Hd' H' M' R ∧ Slots c.K Hd' σ' Γ' ∧ W n Γ' M', ⟨n, Hd, M, Γ, Same.refl _, C, S, h0⟩, fun n σ1 H1 ⟨Hd1, M1, Γ1, s1, C1, S1, w⟩ => by
    refine hs n Γ1 M1 w Hd1 H1 R σ1 C1 S1 (X.mono s1) _ fun Hd2 H2 M2 b s2 C2 ⟨k1, k2⟩ => ?_
    have s12 := s1.trans s2
    cases b with
    | false => exact z.nx _ _ _ _ _ s12 C2 (S1.mono s2) (k2 rfl)
    | true =>
      refine ⟨fun σ' H' => ∃ m, m < n ∧ ∃ Hd' M' Γ', Same Hd Hd' ∧ Conc c.K Hd' H' M' R ∧ Slots c.K Hd' σ' Γ' ∧ W m Γ' M', fun _ _ q => q, ?_⟩
      refine k1 rfl Hd2 H2 R σ1 C2 (S1.mono s2) (X.mono s12) _ ⟨fun Hd3 H3 M3 σ3 Γ3 s3 C3 S3 ⟨m, l, q⟩ => ⟨m, l, Hd3, M3, Γ3, s12.trans s3, C3, S3, q⟩, (z.mono s12).rt, (z.mono s12).nx, fun Hd3 H3 M3 σ3 Γ3 s3 C3 S3 ⟨m, l, q⟩ => ⟨m, l, Hd3, M3, Γ3, s12.trans s3, C3, S3, q⟩⟩⟩
/-! ### what is walked: known items -/
def wI (c : EC) (wi : TI) (Γ : Sl) (M : Mem) (P : List D → Mem → Prop) : Prop :=
  ∀ (Hd H R : Hp) (σ : L2.St), Conc c.K Hd H M R → Slots c.K Hd σ Γ → ExOk c Hd R → ∀ R' : It → Hp → Prop,
    (∀ Hd1 H1 M1 J ds (G : Hp → Prop) (Y : Nat → Hp → V → Hp → Prop), Same Hd Hd1 → Conc c.K Hd1 H1 M1 R → Walk J ds.length G Y → (∀ H', Same Hd1 H' → G H') →
      (∀ i d Hd2 H2 M2 R2 x H3, ds[i]? = some d → Same Hd1 Hd2 → Conc c.K Hd2 H2 M2 R2 → Y i H2 x H3 → ∃ Hd3, Same Hd2 Hd3 ∧ Conc c.K Hd3 H3 M2 R2 ∧ Rep c.K Hd3 x d) → P ds M1 → R' J H1) → wi σ H R'
theorem wS_for {wi : TI} {g : TG} {tb : TS} (h : wI c wi Γ M fun ds M1 => ∃ Pv : Nat → Sl → Mem → Prop, Pv 0 Γ M1 ∧
      (∀ i d Γ' M', ds[i]? = some d → Pv i Γ' M' → wG c g d Γ' M' fun Γ2 M2 => wS c tb Γ2 M2 { Z with nx := Pv (i + 1), ct := Pv (i + 1), bk := Z.nx }) ∧ (∀ Γ' M', Pv ds.length Γ' M' → Z.nx Γ' M')) :
    wS c (tFor wi g tb) Γ M Z := fun Hd H R σ C S X D z => by
  refine h Hd H R σ C S X _ fun Hd1 H1 M1 J ds G Y s1 C1 w hG hY ⟨Pv, p0, hs, hd⟩ => ?_
  refine for_it w (fun i σ' H' => ∃ Hd' M' Γ', Same Hd1 Hd' ∧ Conc c.K Hd' H' M' R ∧ Slots c.K Hd' σ' Γ' ∧ Pv i Γ' M') ⟨Hd1, M1, Γ, Same.refl _, C1, S.mono s1, p0⟩ (fun i σ' H' _ ⟨Hd', M', Γ', s', C', _, _⟩ => hG H' (s'.trans C'.same)) (fun i x σ' H' H3 hi ⟨Hd', M', Γ', s', C', S', p⟩ y => ?_) fun σ' H' ⟨Hd', M', Γ', s', C', S', p⟩ => z.nx _ _ _ _ _ (s1.trans s') C' S' (hd _ _ p)
  have ei : ds[i]? = some ds[i] := List.getElem?_eq_getElem hi
  obtain ⟨Hd3, s3, C3, r3⟩ := hY i ds[i] Hd' H' M' R x H3 ei s' C' y
  refine hs i ds[i] Γ' M' ei p Hd3 H3 R σ' x C3 (S'.mono s3) (X.mono ((s1.trans s').trans s3)) r3 _ fun Hd4 H4 M4 σ4 Γ4 s4 C4 S4 q => ?_
  have s14 : Same Hd1 Hd4 := (s'.trans s3).trans s4
  refine q Hd4 H4 R σ4 C4 S4 (X.mono (s1.trans s14)) _ ⟨fun Hd5 H5 M5 σ5 Γ5 s5 C5 S5 q5 => ⟨Hd5, M5, Γ5, s14.trans s5, C5, S5, q5⟩, (z.mono (s1.trans s14)).rt, (z.mono (s1.trans s14)).nx, fun Hd5 H5 M5 σ5 Γ5 s5 C5 S5 q5 => ⟨Hd5, M5, Γ5, s14.trans s5, C5, S5, q5⟩⟩
end
end DL

namespace DL
open PySem PySem.Spec PyProof.Rows L2
section
variable {c : EC} {Γ : Sl} {M : Mem} {Q : D → Mem → Prop}
/-! ### comprehensions -/
theorem sz_lt {n : Nat} (h : n < 100000) : n < sizeLine := Nat.lt_of_lt_of_le h (by decide)
/-- the frame of the new list -/
theorem Conc.hide {K : PySem.W.Frag} {Hd H R : Hp} {M : Mem} {p : Addr} {o : HO} (C : Conc K Hd H M R) (h : H p = none) : Conc K Hd (upd H p o) M (upd R p o) where
  same := Same.upd C.same (Same.free C.same h)
  fr := fun b u q => by
    by_cases e : b = p
    · rw [e, upd_same] at q ⊢
      exact ⟨q, Same.free C.same h, C.free h⟩
    · rw [upd_ne e] at q ⊢
      exact C.fr b u q
  nd := fun b n q => by
    obtain ⟨h1, h2⟩ := C.nd b n q
    obtain ⟨o', z⟩ := C.live q
    exact ⟨h1, h2.mono (Same.refl _) (by rw [upd_ne (ne_of_none z h)])⟩
theorem Conc.rechange {K : PySem.W.Frag} {Hd H R : Hp} {M : Mem} {p : Addr} {o o' : HO} (C : Conc K Hd H M (upd R p o)) : Conc K Hd (upd H p o') M (upd R p o') where
  same := Same.upd C.same (C.fr p o upd_same).2.1
  fr := fun b u q => by
    obtain ⟨k1, k2, k3⟩ := C.fr p o upd_same
    by_cases e : b = p
    · rw [e, upd_same] at q ⊢
      exact ⟨q, k2, k3⟩
    · rw [upd_ne e] at q ⊢
      exact C.fr b u (by rw [upd_ne e]; exact q)
  nd := fun b n q => by
    obtain ⟨h1, h2⟩ := C.nd b n q
    have ne : b ≠ p := fun e => by
      rw [e, (C.fr p o upd_same).2.2] at q
      cases q
    exact ⟨h1, h2.mono (Same.refl _) (by rw [upd_ne ne])⟩
theorem Conc.show_ {K : PySem.W.Frag} {Hd H R : Hp} {M : Mem} {p : Addr} {o : HO} (hR : R p = none) (C : Conc K Hd H M (upd R p o)) : Conc K Hd H M R where
  same := C.same
  fr := fun b u q => C.fr b u (by rw [upd_ne (ne_of_none q hR)]; exact q)
  nd := C.nd
theorem Conc.freeR {K : PySem.W.Frag} {Hd H R : Hp} {M : Mem} {p : Addr} (C : Conc K Hd H M R) (h : H p = none) : R p = none := by
  cases e : R p with
  | none => rfl
  | some o =>
    have := (C.fr p o e).1
    rw [h] at this
    cases this
/-- a hidden list comes to be known -/
theorem Conc.reveal {K : PySem.W.Frag} {Hd H R : Hp} {M : Mem} {p : Addr} {vs : List V} {ds : List D} (hR : R p = none) (C : Conc K Hd H M (upd R p (.lst vs))) (r : RepAll K Hd vs ds) :
    ∃ Hd', Same Hd Hd' ∧ Conc K Hd' H M R ∧ Rep K Hd' (.ref p) (.lst ds) := by
  obtain ⟨k1, k2, k3⟩ := C.fr p _ upd_same
  have s : Same Hd (upd Hd p (.lst vs)) := same_new k2
  refine ⟨upd Hd p (.lst vs), s, ⟨fun b u q => ?_, fun b u q => ?_, fun b m q => ?_⟩, .lst upd_same (r.mono s)⟩
  · by_cases z : b = p
    · rw [z, upd_same] at q
      rw [z, k1]
      exact q
    · rw [upd_ne z] at q
      exact C.same b u q
  · have ne : b ≠ p := ne_of_none q hR
    obtain ⟨j1, j2, j3⟩ := C.fr b u (by rw [upd_ne ne]; exact q)
    exact ⟨j1, by rw [upd_ne ne]; exact j2, j3⟩
  · obtain ⟨j1, j2⟩ := C.nd b m q
    have ne : b ≠ p := fun z => by
      rw [z, k3] at q
      cases q
    exact ⟨by rw [upd_ne ne]; exact j1, j2.mono s rfl⟩
theorem Conc.revealM {K : PySem.W.Frag} {Hd H R : Hp} {M : Mem} {p : Addr} {vs : List V} {ds : List D} (hR : R p = none) (C : Conc K Hd H M (upd R p (.lst vs))) (r : RepAll K Hd vs ds) :
    Conc K Hd H (mset M p (.lst ds)) R := by
  obtain ⟨k1, k2, k3⟩ := C.fr p _ upd_same
  refine ⟨C.same, fun b u q => ?_, fun b m q => ?_⟩
  · have ne : b ≠ p := ne_of_none q hR
    obtain ⟨j1, j2, j3⟩ := C.fr b u (by rw [upd_ne ne]; exact q)
    exact ⟨j1, j2, by rw [mset_ne ne]; exact j3⟩
  · by_cases z : b = p
    · subst z
      rw [mset_same] at q
      cases q
      exact ⟨k2, vs, k1, r⟩
    · rw [mset_ne z] at q
      exact C.nd b m q
theorem ExOk.hide {c : EC} {Hd R : Hp} {p : Addr} {o : HO} (X : ExOk c Hd R) (hR : R p = none) : ExOk c Hd (upd R p o) :=
  fun Hd' H' M' cl od fs s C => X Hd' H' M' cl od fs s (C.show_ hR)
/-- the core: the acc's list stands hidden while the block runs -/
def LcBody (c : EC) (g : TG) (tt : TT) (te : TE) (vs : List Nat) (Γ : Sl) (Pv : Nat → List D → Mem → Prop) (ds : List D) : Prop :=
  ∀ i d acc M', ds[i]? = some d → acc.length ≤ i → Pv i acc M' → wG c g d (wipeD Γ vs) M' fun Γ2 M2 => wT c tt Γ2 M2 fun b M3 =>
    (b = true → wE c te Γ2 M3 fun y M4 => Pv (i + 1) (acc ++ [y]) M4) ∧ (b = false → Pv (i + 1) acc M3)
/-- the target stores within the slots vs alone -/
def GIn (vs : List Nat) (g : TG) : Prop := ∀ v σ H Q, g v σ H Q → g v σ H fun σ2 H2 => wipe σ2 vs = wipe σ vs ∧ Q σ2 H2
def GIns (vs : List Nat) (g : TGs) : Prop := ∀ v σ H Q, g v σ H Q → g v σ H fun σ2 H2 => wipe σ2 vs = wipe σ vs ∧ Q σ2 H2
theorem wipe_set {σ : L2.St} {x : Option V} : ∀ {vs : List Nat} {i : Nat}, i ∈ vs → wipe (σ.set i x) vs = wipe σ vs
  | [], _, h => by cases h
  | v :: vs, i, h => by
    show (wipe (σ.set i x) vs).set v none = (wipe σ vs).set v none
    by_cases e : i ∈ vs
    · rw [wipe_set e]
    · have ev : i = v := by
        rcases List.mem_cons.mp h with h | h
        · exact h
        · exact absurd h e
      subst ev
      have go : ∀ {vs : List Nat}, i ∉ vs → wipe (σ.set i x) vs = (wipe σ vs).set i x := by
        intro vs hv
        induction vs with
        | nil => rfl
        | cons a r ih =>
          have h1 : i ≠ a := fun z => hv (by rw [z]; exact List.mem_cons_self)
          have h2 : i ∉ r := fun z => hv (List.mem_cons_of_mem _ z)
          show (wipe (σ.set i x) r).set a none = ((wipe σ r).set a none).set i x
          rw [ih h2, List.set_comm _ _ h1]
      rw [go e, List.set_set]
theorem gin_name {vs : List Nat} {i : Nat} (h : i ∈ vs) : GIn vs (gName i) := fun v σ H Q q => ⟨wipe_set h, q⟩
theorem gins_nil {vs : List Nat} : GIns vs gNil := fun v σ H Q q => ⟨q.1, rfl, q.2⟩
theorem gins_cons {vs : List Nat} {g : TG} {gs : TGs} (mg : ∀ v σ H (Q Q' : L2.St → Hp → Prop), g v σ H Q → (∀ a b, Q a b → Q' a b) → g v σ H Q') (mgs : ∀ v σ H (Q Q' : L2.St → Hp → Prop), gs v σ H Q → (∀ a b, Q a b → Q' a b) → gs v σ H Q')
    (h1 : GIn vs g) (h2 : GIns vs gs) : GIns vs (gCons g gs) := fun v σ H Q q => by
  obtain ⟨a, r, e, q⟩ := q
  refine ⟨a, r, e, mg _ _ _ _ _ (h1 a σ H _ q) fun σ2 H2 ⟨w, q2⟩ => ?_⟩
  exact mgs _ _ _ _ _ (h2 r σ2 H2 _ q2) fun σ3 H3 ⟨w', q3⟩ => ⟨w'.trans w, q3⟩
def GMono (g : TG) : Prop := ∀ v σ H (Q Q' : L2.St → Hp → Prop), g v σ H Q → (∀ a b, Q a b → Q' a b) → g v σ H Q'
def GsMono (g : TGs) : Prop := ∀ v σ H (Q Q' : L2.St → Hp → Prop), g v σ H Q → (∀ a b, Q a b → Q' a b) → g v σ H Q'
theorem gm_name {i : Nat} : GMono (gName i) := fun v σ H Q Q' q k => k _ _ q
theorem gm_nil : GsMono gNil := fun v σ H Q Q' q k => ⟨q.1, k _ _ q.2⟩
theorem gm_cons {g : TG} {gs : TGs} (h1 : GMono g) (h2 : GsMono gs) : GsMono (gCons g gs) := fun v σ H Q Q' q k => by
  obtain ⟨a, r, e, q⟩ := q
  exact ⟨a, r, e, h1 _ _ _ _ _ q fun σ2 H2 q2 => h2 _ _ _ _ _ q2 k⟩
theorem gm_tup {K : PySem.W.Frag} {n : Nat} {gs : TGs} (h : GsMono gs) : GMono (gTup K n gs) := fun v σ H Q Q' q k => by
  obtain ⟨a, xs, e, h1, h2, q⟩ := q
  exact ⟨a, xs, e, h1, h2, h _ _ _ _ _ q k⟩
/-- a comprehension's target -/
structure GOk (vs : List Nat) (g : TG) : Prop where
  m : GMono g
  i : GIn vs g
structure GsOk (vs : List Nat) (g : TGs) : Prop where
  m : GsMono g
  i : GIns vs g
theorem gok_name {vs : List Nat} {i : Nat} (h : i ∈ vs) : GOk vs (gName i) := ⟨gm_name, gin_name h⟩
theorem gsok_nil {vs : List Nat} : GsOk vs gNil := ⟨gm_nil, gins_nil⟩
theorem gsok_cons {vs : List Nat} {g : TG} {gs : TGs} (h1 : GOk vs g) (h2 : GsOk vs gs) : GsOk vs (gCons g gs) := ⟨gm_cons h1.m h2.m, gins_cons h1.m h2.m h1.i h2.i⟩
theorem gok_tup {vs : List Nat} {K : PySem.W.Frag} {n : Nat} {gs : TGs} (h : GsOk vs gs) : GOk vs (gTup K n gs) := ⟨gm_tup h.m, fun v σ H Q q => by
  obtain ⟨a, xs, e, h1, h2, q⟩ := q
  exact ⟨a, xs, e, h1, h2, h.i _ _ _ _ q⟩⟩
/-- what the finished list is to be: frozen, or a node -/
theorem wE_lcCore {wi : TI} {g : TG} {tt : TT} {te : TE} {vs : List Nat} (hw : GOk vs g) {Qa : List D → Mem → Prop} (Hd H R : Hp) (σ : L2.St) (C : Conc c.K Hd H M R) (S : Slots c.K Hd σ Γ) (X : ExOk c Hd R) (P0 : VK)
    (z : ∀ Hd' H' M' p us acc, Same Hd Hd' → R p = none → M' p = none → Conc c.K Hd' H' M' (upd R p (.lst us)) → RepAll c.K Hd' us acc → Qa acc M' → P0 (.ref p) H')
    (h : wI c wi Γ M fun ds M1 => ds.length < 100000 ∧ ∃ Pv : Nat → List D → Mem → Prop, Pv 0 [] M1 ∧ LcBody c g tt te vs Γ Pv ds ∧ ∀ acc M', Pv ds.length acc M' → acc.length ≤ ds.length → Qa acc M') :
    tLc wi g tt te vs σ H P0 := by
  refine h Hd H R σ C S X _ fun Hd1 H1 M1 J ds G Y s1 C1 w hG hY ⟨hn, Pv, p0, hs, hd⟩ D hD => ?_
  have hR := C1.freeR hD
  refine lc_it w (g := g) (tt := tt) (te := te) (vs := vs) (σ := σ) (H1 := H1) (D := D) (Qd := fun H' => P0 (.ref D) H')
    (fun i H' => ∃ Hd' M' us acc, Same Hd1 Hd' ∧ Conc c.K Hd' H' M' (upd R D (.lst us)) ∧ RepAll c.K Hd' us acc ∧ acc.length ≤ i ∧ Pv i acc M') ?_ (fun i H' _ ⟨Hd', M', us, acc, s', C', _, _⟩ => hG H' (s'.trans C'.same)) ?_ ?_
  · exact ⟨Hd1, M1, [], [], Same.refl _, C1.hide hD, .nil, Nat.zero_le _, p0⟩
  · rintro i x H' H3 hi ⟨Hd', M', us, acc, s', C', r', hl, p⟩ y
    have ei : ds[i]? = some ds[i] := List.getElem?_eq_getElem hi
    obtain ⟨Hd3, s3, C3, r3⟩ := hY i ds[i] Hd' H' M' _ x H3 ei s' C' y
    have s13 : Same Hd Hd3 := (s1.trans s').trans s3
    have X3 := (X.mono s13).hide (o := .lst us) hR
    refine hw.m _ _ _ _ _ (hw.i _ _ _ _ (hs i ds[i] acc M' ei hl p Hd3 H3 _ (wipe σ vs) x C3 ((S.mono s13).wiped vs) X3 r3 (fun σ2 H2 => tt σ2 H2 fun b H4 => _) ?_)) fun σ2 H2 q => ⟨q.1.trans ?_, q.2⟩
    · intro Hd4 H4 M4 σ4 Γ4 s4 C4 S4 q4
      refine q4 Hd4 H4 _ σ4 C4 S4 (X3.mono s4) _ fun Hd5 H5 M5 b s5 C5 ⟨k1, k2⟩ => ?_
      have s35 := s4.trans s5
      cases b with
      | true =>
        show te σ4 H5 _
        refine k1 rfl Hd5 H5 _ σ4 C5 (S4.mono s5) (X3.mono s35) _ fun Hd6 H6 M6 v y' s6 C6 r6 q6 => ?_
        have s36 := s35.trans s6
        refine ⟨us, (C6.fr D _ upd_same).1, ?_, Hd6, M6, us ++ [v], acc ++ [y'], (s'.trans s3).trans s36, C6.rechange, (r'.mono (s3.trans s36)).app (.cons r6 .nil), ?_, q6⟩
        · rw [r'.len]
          exact sz_lt (by omega)
        · rw [List.length_append]
          simp only [List.length_cons, List.length_nil]
          omega
      | false =>
        exact ⟨Hd5, M5, us, acc, (s'.trans s3).trans s35, C5, r'.mono (s3.trans s35), by omega, k2 rfl⟩
    · have go : ∀ vs : List Nat, wipe (wipe σ vs) vs = wipe σ vs := by
        intro vs
        induction vs with
        | nil => rfl
        | cons a r ih =>
          show (wipe ((wipe σ r).set a none) r).set a none = (wipe σ r).set a none
          by_cases e : a ∈ r
          · rw [wipe_set e, ih]
          · have go2 : ∀ {vs : List Nat} {τ : L2.St}, a ∉ vs → wipe (τ.set a none) vs = (wipe τ vs).set a none := by
              intro vs τ hv
              induction vs with
              | nil => rfl
              | cons b r' ih' =>
                have h1 : a ≠ b := fun z => hv (by rw [z]; exact List.mem_cons_self)
                have h2 : a ∉ r' := fun z => hv (List.mem_cons_of_mem _ z)
                show (wipe (τ.set a none) r').set b none = ((wipe τ r').set b none).set a none
                rw [ih' h2, List.set_comm _ _ h1]
            rw [go2 e, ih, List.set_set]
      exact go vs
  · rintro H' ⟨Hd', M', us, acc, s', C', r', hl, p⟩
    exact z Hd' H' M' D us acc (s1.trans s') hR (C'.fr D _ upd_same).2.2 C' r' (hd acc M' p hl)
theorem wE_lc {wi : TI} {g : TG} {tt : TT} {te : TE} {vs : List Nat} (hw : GOk vs g)
    (h : wI c wi Γ M fun ds M1 => ds.length < 100000 ∧ ∃ Pv : Nat → List D → Mem → Prop, Pv 0 [] M1 ∧ LcBody c g tt te vs Γ Pv ds ∧ ∀ acc M', Pv ds.length acc M' → acc.length ≤ ds.length → Q (.lst acc) M') :
    wE c (tLc wi g tt te vs) Γ M Q := fun Hd H R σ C S X P0 z => wE_lcCore (Qa := fun acc M' => Q (.lst acc) M') hw Hd H R σ C S X P0 (fun Hd' H' M' p us acc s hR hM C' r q => by
      obtain ⟨Hd2, s2, C2, r2⟩ := C'.reveal hR r
      exact z _ _ _ _ _ (s.trans s2) C2 r2 q) h
def tLcM (wi : TI) (g : TG) (tt : TT) (te : TE) (vs : List Nat) : TE := tLc wi g tt te vs
theorem wE_lcM {wi : TI} {g : TG} {tt : TT} {te : TE} {vs : List Nat} (hw : GOk vs g)
    (h : wI c wi Γ M fun ds M1 => ds.length < 100000 ∧ ∃ Pv : Nat → List D → Mem → Prop, Pv 0 [] M1 ∧ LcBody c g tt te vs Γ Pv ds ∧ ∀ acc M', Pv ds.length acc M' → acc.length ≤ ds.length → ∀ a, M' a = none → Q (.ref a) (mset M' a (.lst acc))) :
    wE c (tLcM wi g tt te vs) Γ M Q := fun Hd H R σ C S X P0 z => wE_lcCore (Qa := fun acc M' => ∀ a, M' a = none → Q (.ref a) (mset M' a (.lst acc))) hw Hd H R σ C S X P0 (fun Hd' H' M' p us acc s hR hM C' r q =>
      z _ _ _ _ _ s (C'.revealM hR r) (.ref p) (q p hM)) h
end
end DL

namespace DL
open PySem PySem.Spec PyProof.Rows L2
/-- a list as it is to be read: frozen, or a node -/
def LV (M : Mem) (d : D) (xs : List D) : Prop := d = .lst xs ∨ ∃ a, d = .ref a ∧ M a = some (.lst xs)
theorem LV.f {M : Mem} {xs : List D} : LV M (.lst xs) xs := .inl rfl
theorem LV.n {M : Mem} {a : Addr} {xs : List D} (h : M a = some (.lst xs)) : LV M (.ref a) xs := .inr ⟨a, rfl, h⟩
theorem LV.at {K : PySem.W.Frag} {Hd H R : Hp} {M : Mem} {d : D} {xs : List D} {v : V} (h : LV M d xs) (C : Conc K Hd H M R) (r : Rep K Hd v d) : ∃ a vs, v = .ref a ∧ H a = some (.lst vs) ∧ RepAll K Hd vs xs := by
  rcases h with rfl | ⟨a, rfl, h⟩
  · cases r with
    | lst h1 h2 => exact ⟨_, _, rfl, C.same _ _ h1, h2⟩
  · cases r
    obtain ⟨_, vs, h1, h2⟩ := C.nd a _ h
    exact ⟨a, vs, rfl, h1, h2⟩
/-- a list or a tuple (or the script) to be read -/
inductive SV (M : Mem) : D → List D → Prop
  | l {d : D} {xs : List D} : LV M d xs → SV M d xs
  | t (xs : List D) : SV M (.tup xs) xs
  | s (ns : List Int) : SV M (.scr ns) (ns.map .int)
theorem SV.at {K : PySem.W.Frag} {Hd H R : Hp} {M : Mem} {d : D} {xs : List D} {v : V} (h : SV M d xs) (C : Conc K Hd H M R) (r : Rep K Hd v d) : ∃ a vs, v = .ref a ∧ (SqL K H a vs ∨ SqT K H a vs) ∧ RepAll K Hd vs xs := by
  cases h with
  | l h =>
    obtain ⟨a, vs, e, h1, h2⟩ := h.at C r
    exact ⟨a, vs, e, .inl (SqL.of h1), h2⟩
  | t =>
    cases r with
    | tup h1 h2 => exact ⟨_, _, rfl, .inr (Same.sqt C.same h1), h2⟩
  | s ns =>
    cases r with
    | scr h1 => exact ⟨_, _, rfl, .inl (Same.seq C.same h1), RepAll.ints ns⟩
section
variable {c : EC} {Γ : Sl} {M : Mem} {Q : D → Mem → Prop} {P : List D → Mem → Prop}
/-! ### iterables -/
theorem wI_list {tl : TE} (h : wE c tl Γ M fun d M1 => ∃ ds, d = .lst ds ∧ P ds M1) : wI c (iList c.K tl) Γ M P := fun Hd H R σ C S X R' z =>
  h Hd H R σ C S X _ fun Hd1 H1 M1 v d s1 C1 r1 ⟨ds, e, q⟩ => by
    subst e
    cases r1 with
    | @lst a xs _ h1 h2 =>
      refine ⟨a, rfl, ⟨xs, SqL.of (C1.same _ _ h1)⟩, ?_⟩
      have w := walk_list (K := c.K) (a := a) (xs := xs)
      rw [h2.len] at w
      refine z Hd1 H1 M1 _ ds _ _ s1 C1 w (fun H' s' => SqL.of (s' _ _ h1)) (fun i d Hd2 H2 M2 R2 x H3 ei s2 C2 y => ?_) q
      obtain ⟨rfl, ex⟩ := y
      obtain ⟨d', e1, e2⟩ := h2.getV ex
      rw [ei] at e1
      cases e1
      exact ⟨Hd2, Same.refl _, C2, e2.mono s2⟩
theorem wI_tup {tl : TE} (h : wE c tl Γ M fun d M1 => ∃ ds, d = .tup ds ∧ P ds M1) : wI c (iTup c.K tl) Γ M P := fun Hd H R σ C S X R' z =>
  h Hd H R σ C S X _ fun Hd1 H1 M1 v d s1 C1 r1 ⟨ds, e, q⟩ => by
    subst e
    cases r1 with
    | @tup a xs _ h1 h2 =>
      refine ⟨a, rfl, ⟨xs, Same.sqt C1.same h1⟩, ?_⟩
      have w := walk_tup (K := c.K) (a := a) (xs := xs)
      rw [h2.len] at w
      refine z Hd1 H1 M1 _ ds _ _ s1 C1 w (fun H' s' => Same.sqt s' h1) (fun i d Hd2 H2 M2 R2 x H3 ei s2 C2 y => ?_) q
      obtain ⟨rfl, ex⟩ := y
      obtain ⟨d', e1, e2⟩ := h2.getV ex
      rw [ei] at e1
      cases e1
      exact ⟨Hd2, Same.refl _, C2, e2.mono s2⟩
/-- a list or a tuple, whichever it is -/
def iSeq (K : PySem.W.Frag) (tl : TE) : TI := fun σ H R => tl σ H fun x H1 => ∃ a, x = .ref a ∧ (((∃ xs, SqL K H1 a xs) ∧ R (Itl K a) H1) ∨ ((∃ xs, SqT K H1 a xs) ∧ R (Itt K a) H1))
/-- lo, lo + 1, .. (n of them) -/
def rngD (lo : Int) (n : Nat) : List D := (List.range n).map fun i => .int (lo + (i : Nat))
theorem rngD_len (lo : Int) (n : Nat) : (rngD lo n).length = n := by unfold rngD; rw [List.length_map, List.length_range]
theorem rngD_get {lo : Int} {n i : Nat} {d : D} (h : (rngD lo n)[i]? = some d) : i < n ∧ d = .int (lo + i) := by
  unfold rngD at h
  rw [List.getElem?_map] at h
  by_cases hi : i < n
  · rw [List.getElem?_range hi] at h
    cases h
    exact ⟨hi, rfl⟩
  · rw [List.getElem?_eq_none (by rw [List.length_range]; omega)] at h
    cases h
theorem wI_rng1 {ta : TA} (h : wA c ta Γ M fun ds M1 => ∃ n : Int, ds = [.int n] ∧ n ≤ 1000000 ∧ -1000000 ≤ n ∧ P (rngD 0 n.toNat) M1) : wI c (iRng1 ta) Γ M P := fun Hd H R σ C S X R' z =>
  h Hd H R σ C S X _ fun Hd1 H1 M1 vs ds s1 C1 r1 ⟨n, e, b1, b2, q⟩ => by
    subst e
    cases r1 with
    | cons a b =>
      cases a
      cases b
      refine ⟨n, rfl, by omega, by omega, ?_⟩
      have w := walk_range (lo := 0) (n := n.toNat)
      rw [← rngD_len 0 n.toNat] at w
      rw [rngD_len] at w
      refine z Hd1 H1 M1 _ (rngD 0 n.toNat) _ _ s1 C1 (by rw [rngD_len]; exact w) (fun _ _ => trivial) (fun i d Hd2 H2 M2 R2 x H3 ei s2 C2 y => ?_) q
      obtain ⟨rfl, rfl⟩ := y
      obtain ⟨_, rfl⟩ := rngD_get ei
      exact ⟨Hd2, Same.refl _, C2, .int _⟩
theorem wI_rng2 {ta : TA} (h : wA c ta Γ M fun ds M1 => ∃ lo n : Int, ds = [.int lo, .int n] ∧ (-1000000 ≤ lo ∧ lo ≤ 1000000 ∧ -1000000 ≤ n ∧ n ≤ 1000000) ∧ P (rngD lo (n - lo).toNat) M1) : wI c (iRng2 ta) Γ M P := fun Hd H R σ C S X R' z =>
  h Hd H R σ C S X _ fun Hd1 H1 M1 vs ds s1 C1 r1 ⟨lo, n, e, b, q⟩ => by
    subst e
    cases r1 with
    | cons a b' =>
      cases a
      cases b' with
      | cons a b' =>
        cases a
        cases b'
        refine ⟨lo, n, rfl, ⟨by omega, by omega, by omega, by omega⟩, ?_⟩
        have w := walk_range (lo := lo) (n := (n - lo).toNat)
        refine z Hd1 H1 M1 _ (rngD lo (n - lo).toNat) _ _ s1 C1 (by rw [rngD_len]; exact w) (fun _ _ => trivial) (fun i d Hd2 H2 M2 R2 x H3 ei s2 C2 y => ?_) q
        obtain ⟨rfl, rfl⟩ := y
        obtain ⟨_, rfl⟩ := rngD_get ei
        exact ⟨Hd2, Same.refl _, C2, .int _⟩
/-- the signs of a text -/
def sgnD (z : Str) : List D := z.cps.toList.map fun k => .str ⟨#[k]⟩
theorem wI_str {te : TE} (h : wE c te Γ M fun d M1 => ∃ z, d = .str z ∧ P (sgnD z) M1) : wI c (iStr te) Γ M P := fun Hd H R σ C S X R' zz =>
  h Hd H R σ C S X _ fun Hd1 H1 M1 v d s1 C1 r1 ⟨z, e, q⟩ => by
    subst e
    cases r1
    refine ⟨z, rfl, ?_⟩
    have hl : (sgnD z).length = z.cps.size := by unfold sgnD; rw [List.length_map, Array.length_toList]
    refine zz Hd1 H1 M1 _ (sgnD z) _ _ s1 C1 (by rw [hl]; exact walk_str) (fun _ _ => trivial) (fun i d Hd2 H2 M2 R2 x H3 ei s2 C2 y => ?_) q
    obtain ⟨rfl, k, hk, rfl⟩ := y
    unfold sgnD at ei
    rw [List.getElem?_map, Array.getElem?_toList, hk] at ei
    cases ei
    exact ⟨Hd2, Same.refl _, C2, .str _⟩
theorem pair_new {K : PySem.W.Frag} {Hd2 H2 R2 : Hp} {M2 : Mem} {T : Addr} {x y : V} {a b : D} (C2 : Conc K Hd2 H2 M2 R2) (hT : H2 T = none) (rx : Rep K Hd2 x a) (ry : Rep K Hd2 y b) :
    ∃ Hd3, Same Hd2 Hd3 ∧ Conc K Hd3 (upd H2 T (.tup [x, y])) M2 R2 ∧ Rep K Hd3 (.ref T) (.tup [a, b]) := by
  have s := same_new (o := .tup [x, y]) (Same.free C2.same hT)
  exact ⟨_, s, C2.newD hT, .tup (.inl (.inl upd_same)) (.cons (rx.mono s) (.cons (ry.mono s) .nil))⟩
def enumD (ds : List D) : List D := ds.mapIdx fun i d => .tup [.int i, d]
theorem wI_enum {ta : TA} (h : wA c ta Γ M fun ds M1 => ∃ xs, ds = [.lst xs] ∧ P (enumD xs) M1) : wI c (iEnum c.K ta) Γ M P := fun Hd H R σ C S X R' z =>
  h Hd H R σ C S X _ fun Hd1 H1 M1 vs ds s1 C1 r1 ⟨xs, e, q⟩ => by
    subst e
    cases r1 with
    | cons a b =>
      cases b
      cases a with
      | @lst a us _ h1 h2 =>
        refine ⟨a, us, rfl, SqL.of (C1.same _ _ h1), ?_⟩
        have w := walk_enum (K := c.K) (a := a) (xs := us)
        have hl : (enumD xs).length = us.length := by unfold enumD; rw [List.length_mapIdx, h2.len]
        refine z Hd1 H1 M1 _ (enumD xs) _ _ s1 C1 (by rw [hl]; exact w) (fun H' s' => SqL.of (s' _ _ h1)) (fun i d Hd2 H2 M2 R2 x H3 ei s2 C2 y => ?_) q
        obtain ⟨T, x1, x2, rfl, hT, rfl, e1, e2⟩ := y
        cases e1
        obtain ⟨d', e3, e4⟩ := h2.getV e2
        unfold enumD at ei
        rw [List.getElem?_mapIdx, e3] at ei
        cases ei
        exact pair_new C2 hT (.int _) (e4.mono s2)
def zipD (xs ys : List D) : List D := List.zipWith (fun a b => .tup [a, b]) xs ys
theorem wI_zip {ta : TA} (h : wA c ta Γ M fun ds M1 => ∃ xs ys, ds = [.lst xs, .lst ys] ∧ P (zipD xs ys) M1) : wI c (iZip c.K ta) Γ M P := fun Hd H R σ C S X R' z =>
  h Hd H R σ C S X _ fun Hd1 H1 M1 vs ds s1 C1 r1 ⟨xs, ys, e, q⟩ => by
    subst e
    cases r1 with
    | cons a b =>
      cases b with
      | cons b b' =>
        cases b'
        cases a with
        | @lst a us _ h1 h2 =>
          cases b with
          | @lst b ws _ k1 k2 =>
            refine ⟨a, b, us, ws, rfl, SqL.of (C1.same _ _ h1), SqL.of (C1.same _ _ k1), ?_⟩
            have w := walk_zip (K := c.K) (a := a) (b := b) (xs := us) (ys := ws) rfl
            have hl : (zipD xs ys).length = min us.length ws.length := by unfold zipD; rw [List.length_zipWith, h2.len, k2.len]
            refine z Hd1 H1 M1 _ (zipD xs ys) _ _ s1 C1 (by rw [hl]; exact w) (fun H' s' => And.intro (SqL.of (s' _ _ h1)) (SqL.of (s' _ _ k1))) (fun i d Hd2 H2 M2 R2 x H3 ei s2 C2 y => ?_) q
            obtain ⟨T, x1, x2, rfl, hT, rfl, e1, e2⟩ := y
            obtain ⟨d1, e3, e4⟩ := h2.getV e1
            obtain ⟨d2, e5, e6⟩ := k2.getV e2
            unfold zipD at ei
            rw [List.getElem?_zipWith, e3, e5] at ei
            cases ei
            exact pair_new C2 hT (e4.mono s2) (e6.mono s2)
theorem wI_rev {ta : TA} (h : wA c ta Γ M fun ds M1 => ∃ xs, ds = [.lst xs] ∧ P xs.reverse M1) : wI c (iRev c.K ta) Γ M P := fun Hd H R σ C S X R' z =>
  h Hd H R σ C S X _ fun Hd1 H1 M1 vs ds s1 C1 r1 ⟨xs, e, q⟩ => by
    subst e
    cases r1 with
    | cons a b =>
      cases b
      cases a with
      | @lst a us _ h1 h2 =>
        refine ⟨a, us, rfl, SqL.of (C1.same _ _ h1), ?_⟩
        have w := walk_rev (K := c.K) (a := a) (xs := us)
        have hl : xs.reverse.length = us.length := by rw [List.length_reverse, h2.len]
        refine z Hd1 H1 M1 _ xs.reverse _ _ s1 C1 (by rw [hl]; exact w) (fun H' s' => SqL.of (s' _ _ h1)) (fun i d Hd2 H2 M2 R2 x H3 ei s2 C2 y => ?_) q
        obtain ⟨rfl, ex⟩ := y
        obtain ⟨d', e3, e4⟩ := h2.getV ex
        have li : i < xs.length := by
          have := (List.getElem?_eq_some_iff.mp ei).1
          rw [List.length_reverse] at this
          exact this
        rw [List.getElem?_reverse li] at ei
        rw [h2.len] at e3
        rw [ei] at e3
        cases e3
        exact ⟨Hd2, Same.refl _, C2, e4.mono s2⟩
end
end DL

namespace DL
open PySem PySem.Spec PyProof.Rows L2
/-! ### operators, by values -/
def rStrCat : R2 := fun x y H Q => ∃ i j, x = .str i ∧ y = .str j ∧ i.length + j.length ≤ sizeLine ∧ Q (.str (i ++ j)) H
def rAddG (K : PySem.W.Frag) : R2 := fun x y H Q => rI0 (fun i j => .int (i + j)) x y H Q ∨ rStrCat x y H Q ∨ rCat x y H Q ∨ rCatA K x y H Q
theorem op_addG {X : Cx} : OpR X (binaryOp .Add) (rAddG X.K) := op_add.or (OpR.or (r := rStrCat) op_add_str (op_cat.or op_catA))
def rAddM (K : PySem.W.Frag) : R2 := rAddG K
theorem op_addM {X : Cx} : OpR X (binaryOp .Add) (rAddM X.K) := op_addG
def rSubG : R2 := rI0 fun i j => .int (i - j)
theorem op_subG {X : Cx} : OpR X (binaryOp .Sub) rSubG := op_sub
def CMulG (i j : Int) : Prop := CMulW i j ∨ CMul i j
theorem CMulG.ok {i j : Int} (h : CMulG i j) : IntMulOk i j := h.elim CMulW.ok CMul.ok
theorem mul_s {i j : Int} (h1 : -(2 ^ 64) < i) (h2 : i < 2 ^ 64) : CMulG i j := .inr (.inl ⟨h1, h2⟩)
theorem mul_r {i j : Int} (h1 : -(2 ^ 64) < j) (h2 : j < 2 ^ 64) : CMulG i j := .inr (.inr ⟨h1, h2⟩)
def rMulG (K : PySem.W.Frag) : R2 := fun x y H Q => rI CMulG (fun i j => .int (i * j)) x y H Q ∨ rRep x y H Q
theorem op_mulG {X : Cx} : OpR X (binaryOp .Mult) (rMulG X.K) := OpR.or (r := rI CMulG fun i j => .int (i * j)) (opI fun _ _ _ _ _ _ _ hc q => mul_int q hc.ok) op_rep
def rMulM (K : PySem.W.Frag) : R2 := rMulG K
theorem op_mulM {X : Cx} : OpR X (binaryOp .Mult) (rMulM X.K) := op_mulG
def rDivG : R2 := rI CDivW fun i j => .int (i / j)
theorem op_divG {X : Cx} : OpR X (binaryOp .FloorDiv) rDivG := op_fdivW
def rModG : R2 := rI (fun _ j => 0 < j) fun i j => .int (i % j)
theorem op_modG {X : Cx} : OpR X (binaryOp .Mod) rModG := op_mod
def rPowG : R2 := rI CPow fun i j => .int (i ^ j.toNat)
theorem op_powG {X : Cx} : OpR X (binaryOp .Pow) rPowG := op_pow
section
variable {c : EC} {Γ : Sl} {M : Mem} {Q : D → Mem → Prop}
theorem wR_ints {C : Int → Int → Prop} {g : Int → Int → Int} {i j : Int} (hc : C i j) (q : Q (.int (g i j)) M) : wR c (rI C fun i j => .int (g i j)) (.int i) (.int j) M Q := fun Hd H R v u Cn X r1 r2 P z => by
  cases r1; cases r2
  exact ⟨i, j, rfl, rfl, hc, z _ _ _ _ _ (Same.refl _) Cn (.int _) q⟩
theorem wR_ints0 {g : Int → Int → Int} {i j : Int} (q : Q (.int (g i j)) M) : wR c (rI0 fun i j => .int (g i j)) (.int i) (.int j) M Q := fun Hd H R v u Cn X r1 r2 P z => by
  cases r1; cases r2
  exact ⟨i, j, rfl, rfl, z _ _ _ _ _ (Same.refl _) Cn (.int _) q⟩
theorem wR_intb {g : Int → Int → Bool} {i j : Int} (q : Q (.bl (g i j)) M) : wR c (rI0 fun i j => .bl (g i j)) (.int i) (.int j) M Q := fun Hd H R v u Cn X r1 r2 P z => by
  cases r1; cases r2
  exact ⟨i, j, rfl, rfl, z _ _ _ _ _ (Same.refl _) Cn (.bl _) q⟩
theorem wR_inl {r r' : R2} {x y : D} (h : wR c r x y M Q) : wR c (fun x y H Q => r x y H Q ∨ r' x y H Q) x y M Q := fun Hd H R v u C X r1 r2 P z => .inl (h Hd H R v u C X r1 r2 P z)
theorem wR_inr {r r' : R2} {x y : D} (h : wR c r' x y M Q) : wR c (fun x y H Q => r x y H Q ∨ r' x y H Q) x y M Q := fun Hd H R v u C X r1 r2 P z => .inr (h Hd H R v u C X r1 r2 P z)
theorem wR_addI {i j : Int} (q : Q (.int (i + j)) M) : wR c (rAddG c.K) (.int i) (.int j) M Q := wR_inl (wR_ints0 q)
theorem wR_subI {i j : Int} (q : Q (.int (i - j)) M) : wR c rSubG (.int i) (.int j) M Q := wR_ints0 q
theorem wR_mulI {i j : Int} (h : CMulG i j) (q : Q (.int (i * j)) M) : wR c (rMulG c.K) (.int i) (.int j) M Q := wR_inl (wR_ints h q)
theorem wR_divI {i j : Int} (h : CDivW i j) (q : Q (.int (i / j)) M) : wR c rDivG (.int i) (.int j) M Q := wR_ints h q
theorem wR_modI {i j : Int} (h : 0 < j) (q : Q (.int (i % j)) M) : wR c rModG (.int i) (.int j) M Q := wR_ints h q
theorem wR_powI {i j : Int} (h : CPow i j) (q : Q (.int (i ^ j.toNat)) M) : wR c rPowG (.int i) (.int j) M Q := wR_ints h q
theorem wR_addS {i j : Str} (h : i.length + j.length ≤ 16000000) (q : Q (.str (i ++ j)) M) : wR c (rAddG c.K) (.str i) (.str j) M Q := wR_inr (wR_inl fun Hd H R v u C X r1 r2 P z => by
  cases r1; cases r2
  exact ⟨i, j, rfl, rfl, Nat.le_trans h (by decide), z _ _ _ _ _ (Same.refl _) C (.str _) q⟩)
theorem cat_core {x y : D} {xs ys : List D} (hx : LV M x xs) (hy : LV M y ys) (hl : xs.length + ys.length ≤ 100000) {P : VK} {Hd H R : Hp} {v u : V} (C : Conc c.K Hd H M R) (r1 : Rep c.K Hd v x) (r2 : Rep c.K Hd u y)
    (z : ∀ p (us : List V), H p = none → RepAll c.K Hd us (xs ++ ys) → P (.ref p) (upd H p (.lst us))) : rCat v u H P := by
  obtain ⟨a, vs, rfl, h1, h2⟩ := hx.at C r1
  obtain ⟨b, us, rfl, k1, k2⟩ := hy.at C r2
  exact ⟨a, b, vs, us, rfl, rfl, h1, k1, by rw [h2.len, k2.len]; exact sz_of hl, fun p hp => z p _ hp (h2.app k2)⟩
theorem wR_addL {x y : D} {xs ys : List D} (hx : LV M x xs) (hy : LV M y ys) (hl : xs.length + ys.length ≤ 100000) (q : Q (.lst (xs ++ ys)) M) : wR c (rAddG c.K) x y M Q :=
  wR_inr (wR_inr (wR_inl fun Hd H R v u C X r1 r2 P z => cat_core hx hy hl C r1 r2 fun p us hp ru => by
    have s := same_new (o := .lst us) (Same.free C.same hp)
    exact z _ _ _ _ _ s (C.newD hp) (.lst upd_same (ru.mono s)) q))
theorem wR_addLM {x y : D} {xs ys : List D} (hx : LV M x xs) (hy : LV M y ys) (hl : xs.length + ys.length ≤ 100000) (q : ∀ a, M a = none → Q (.ref a) (mset M a (.lst (xs ++ ys)))) : wR c (rAddM c.K) x y M Q :=
  wR_inr (wR_inr (wR_inl fun Hd H R v u C X r1 r2 P z => cat_core hx hy hl C r1 r2 fun p us hp ru => z _ _ _ _ _ (Same.refl _) (C.newM (n := .lst (xs ++ ys)) hp ⟨us, upd_same, ru⟩) (.ref p) (q p (C.free hp))))
theorem wR_addT {xs ys : List D} (hl : xs.length + ys.length ≤ 100000) (q : Q (.tup (xs ++ ys)) M) : wR c (rAddG c.K) (.tup xs) (.tup ys) M Q :=
  wR_inr (wR_inr (wR_inr fun Hd H R v u C X r1 r2 P z => by
    have r1' := r1
    have r2' := r2
    cases r1 with
    | @tup a vs _ h1 h2 =>
      cases r2 with
      | @tup b us _ k1 k2 =>
        refine ⟨a, b, vs, us, rfl, rfl, Same.sqt C.same h1, Same.sqt C.same k1, by rw [h2.len, k2.len]; exact sz_of hl, fun e => ?_, fun _ e => ?_, fun _ _ p hp => ?_⟩
        · subst e
          cases h2
          exact z _ _ _ _ _ (Same.refl _) C r2' q
        · subst e
          cases k2
          rw [List.append_nil] at q
          exact z _ _ _ _ _ (Same.refl _) C r1' q
        · have s := same_new (o := .tup (vs ++ us)) (Same.free C.same hp)
          exact z _ _ _ _ _ s (C.newD hp) (.tup (.inl (.inl upd_same)) ((h2.app k2).mono s)) q))
theorem rep_core {x : D} {xs : List D} {k : Int} (hx : LV M x xs) (h0 : k ≤ 100000) (h1 : -100000 ≤ k) (hl : xs.length * k.toNat ≤ 100000) {P : VK} {Hd H R : Hp} {v : V} (C : Conc c.K Hd H M R) (r1 : Rep c.K Hd v x)
    (z : ∀ p (us : List V), H p = none → RepAll c.K Hd us (List.replicate k.toNat xs).flatten → P (.ref p) (upd H p (.lst us))) : rRep v (.int k) H P := by
  obtain ⟨a, vs, rfl, g1, g2⟩ := hx.at C r1
  exact ⟨a, k, vs, rfl, rfl, g1, by omega, by omega, by rw [g2.len]; exact sz_of hl, fun p hp => z p _ hp (g2.rep _)⟩
theorem wR_mulL {x : D} {xs : List D} {k : Int} (hx : LV M x xs) (h0 : k ≤ 100000) (h1 : -100000 ≤ k) (hl : xs.length * k.toNat ≤ 100000) (q : Q (.lst (List.replicate k.toNat xs).flatten) M) : wR c (rMulG c.K) x (.int k) M Q :=
  wR_inr fun Hd H R v u C X r1 r2 P z => by
    cases r2
    exact rep_core hx h0 h1 hl C r1 fun p us hp ru => by
      have s := same_new (o := .lst us) (Same.free C.same hp)
      exact z _ _ _ _ _ s (C.newD hp) (.lst upd_same (ru.mono s)) q
theorem wR_mulLM {x : D} {xs : List D} {k : Int} (hx : LV M x xs) (h0 : k ≤ 100000) (h1 : -100000 ≤ k) (hl : xs.length * k.toNat ≤ 100000) (q : ∀ a, M a = none → Q (.ref a) (mset M a (.lst (List.replicate k.toNat xs).flatten))) : wR c (rMulM c.K) x (.int k) M Q :=
  wR_inr fun Hd H R v u C X r1 r2 P z => by
    cases r2
    exact rep_core hx h0 h1 hl C r1 fun p us hp ru => z _ _ _ _ _ (Same.refl _) (C.newM (n := .lst _) hp ⟨us, upd_same, ru⟩) (.ref p) (q p (C.free hp))
/-! comparisons -/
def rLtG : R2 := fun x y H Q => rI0 (fun i j => .bl (decide (i < j))) x y H Q ∨ ∃ i j, x = .str i ∧ y = .str j ∧ Q (.bl (decide (i.cps.toList < j.cps.toList))) H
end
theorem op_ltG {X : Cx} : OpR X (compareOp .Lt) rLtG := op_lt.or op_lt_str
def rLeG : R2 := rI0 fun i j => .bl (decide (i ≤ j))
theorem op_leG {X : Cx} : OpR X (compareOp .LtE) rLeG := op_le
def rGtG : R2 := rI0 fun i j => .bl (decide (j < i))
theorem op_gtG {X : Cx} : OpR X (compareOp .Gt) rGtG := op_gt
def rGeG : R2 := rI0 fun i j => .bl (decide (j ≤ i))
theorem op_geG {X : Cx} : OpR X (compareOp .GtE) rGeG := op_ge
/-- data, as the library's == has it -/
def toP : D → PyData
  | .non => .none
  | .bl b => .bool b
  | .int i => .int i
  | .str x => .str x
  | .tup xs => .tuple (toPs xs)
  | .lst xs => .list (toPs xs)
  | _ => .dict []
where toPs : List D → List PyData
  | [] => []
  | d :: ds => toP d :: toPs ds
def pureD : D → Bool
  | .non => true
  | .bl b => true
  | .int i => true
  | .str x => true
  | .tup xs => pures xs
  | .lst xs => pures xs
  | _ => false
where pures : List D → Bool
  | [] => true
  | d :: ds => pureD d && pures ds
mutual
theorem Rep.dp {K : PySem.W.Frag} {Hd H : Hp} (e : Same Hd H) : ∀ {v : V} {d : D}, Rep K Hd v d → pureD d = true → Dp K H v (toP d)
  | _, _, .non, _ => .non
  | _, _, .bl b, _ => .bl b
  | _, _, .int i, _ => .int i
  | _, _, .str x, _ => .str x
  | _, _, .tup h r, p => .tup (Same.sqt e h) (RepAll.dp e r p)
  | _, _, .lst h r, p => .lst (SqL.of (e _ _ h)) (RepAll.dp e r p)
  | _, _, .ref _, p => by cases p
  | _, _, .ty _, p => by cases p
  | _, _, .scr _, p => by cases p
  | _, _, .obj _ _, p => by cases p
theorem RepAll.dp {K : PySem.W.Frag} {Hd H : Hp} (e : Same Hd H) : ∀ {v : List V} {d : List D}, RepAll K Hd v d → pureD.pures d = true → DpAll K H v (toP.toPs d)
  | _, _, .nil, _ => .nil
  | _, _, .cons a b, p => by
    obtain ⟨p1, p2⟩ := Bool.and_eq_true_iff.mp p
    exact .cons (Rep.dp e a p1) (RepAll.dp e b p2)
end
def rEqG (K : PySem.W.Frag) : R2 := fun x y H Q => rEq x y H Q ∨ rEqD K x y H Q
def rNeG (K : PySem.W.Frag) : R2 := fun x y H Q => rNe x y H Q ∨ rNeD K x y H Q
theorem op_eqG {X : Cx} (hu : X.A.units + 64 < cLine) : OpR X (compareOp .Eq) (rEqG X.K) := op_eq.or (op_eqD hu)
theorem op_neG {X : Cx} (hu : X.A.units + 64 < cLine) : OpR X (compareOp .NotEq) (rNeG X.K) := op_ne.or (op_neD hu)
/-- what == tells of two data -/
def eqvD (d e : D) : Bool := PyData.eqv (toP d) (toP e)
def okD (d : D) : Bool := pureD d && SeqAt.shaped (toP d)
section
variable {c : EC} {Γ : Sl} {M : Mem} {Q : D → Mem → Prop}
theorem wR_eqD {d e : D} (hd : okD d = true) (he : okD e = true) (q : Q (.bl (eqvD d e)) M) : wR c (rEqG c.K) d e M Q := wR_inr fun Hd H R v u C X r1 r2 P z => by
  obtain ⟨a1, a2⟩ := Bool.and_eq_true_iff.mp hd
  obtain ⟨b1, b2⟩ := Bool.and_eq_true_iff.mp he
  exact ⟨toP d, toP e, r1.dp C.same a1, r2.dp C.same b1, a2, b2, z _ _ _ _ _ (Same.refl _) C (.bl _) q⟩
theorem wR_neD {d e : D} (hd : okD d = true) (he : okD e = true) (q : Q (.bl (!eqvD d e)) M) : wR c (rNeG c.K) d e M Q := wR_inr fun Hd H R v u C X r1 r2 P z => by
  obtain ⟨a1, a2⟩ := Bool.and_eq_true_iff.mp hd
  obtain ⟨b1, b2⟩ := Bool.and_eq_true_iff.mp he
  exact ⟨toP d, toP e, r1.dp C.same a1, r2.dp C.same b1, a2, b2, z _ _ _ _ _ (Same.refl _) C (.bl _) q⟩
/-- flat values: none, ints, texts (and bools with bools) -/
def flat2 : D → D → Option Bool
  | .non, .non => some true | .non, .int _ => some false | .int _, .non => some false | .non, .bl _ => some false | .bl _, .non => some false | .non, .str _ => some false | .str _, .non => some false
  | .int i, .int j => some (decide (i = j)) | .bl a, .bl b => some (decide (a = b)) | .str x, .str y => some (decide (x = y))
  | .int _, .str _ => some false | .str _, .int _ => some false | .bl _, .str _ => some false | .str _, .bl _ => some false
  | _, _ => none
theorem flat2_V {K : PySem.W.Frag} {H : Hp} {d e : D} {b : Bool} {v u : V} (h : flat2 d e = some b) (r1 : Rep K H v d) (r2 : Rep K H u e) : scal v u = true ∧ decide (v = u) = b := by
  cases r1 <;> cases r2 <;> simp [flat2] at h <;> subst h <;> exact ⟨rfl, by simp⟩
theorem wR_eq {d e : D} {b : Bool} (h : flat2 d e = some b) (q : Q (.bl b) M) : wR c (rEqG c.K) d e M Q := wR_inl fun Hd H R v u C X r1 r2 P z => by
  obtain ⟨h1, h2⟩ := flat2_V h r1 r2
  exact ⟨h1, by rw [h2]; exact z _ _ _ _ _ (Same.refl _) C (.bl _) q⟩
theorem wR_ne {d e : D} {b : Bool} (h : flat2 d e = some b) (q : Q (.bl (!b)) M) : wR c (rNeG c.K) d e M Q := wR_inl fun Hd H R v u C X r1 r2 P z => by
  obtain ⟨h1, h2⟩ := flat2_V h r1 r2
  exact ⟨h1, by rw [h2]; exact z _ _ _ _ _ (Same.refl _) C (.bl _) q⟩
theorem wR_ltI {i j : Int} (q : Q (.bl (decide (i < j))) M) : wR c rLtG (.int i) (.int j) M Q := wR_inl (wR_intb q)
theorem wR_leI {i j : Int} (q : Q (.bl (decide (i ≤ j))) M) : wR c rLeG (.int i) (.int j) M Q := wR_intb q
theorem wR_gtI {i j : Int} (q : Q (.bl (decide (j < i))) M) : wR c rGtG (.int i) (.int j) M Q := wR_intb q
theorem wR_geI {i j : Int} (q : Q (.bl (decide (j ≤ i))) M) : wR c rGeG (.int i) (.int j) M Q := wR_intb q
theorem wR_ltS {i j : Str} (q : Q (.bl (decide (i.cps.toList < j.cps.toList))) M) : wR c rLtG (.str i) (.str j) M Q := wR_inr fun Hd H R v u C X r1 r2 P z => by
  cases r1; cases r2
  exact ⟨i, j, rfl, rfl, z _ _ _ _ _ (Same.refl _) C (.bl _) q⟩
/-! is None -/
def rIsNG : R2 := fun x y H Q => y = .non ∧ Q (.bl (decide (x = .non))) H
def rNotNG : R2 := fun x y H Q => y = .non ∧ Q (.bl (!decide (x = .non))) H
theorem op_isNG {X : Cx} : OpR X (compareOp .Is) rIsNG := op_isN
theorem op_notNG {X : Cx} : OpR X (compareOp .IsNot) rNotNG := op_notN
def isNon : D → Bool
  | .non => true
  | _ => false
theorem non_V {K : PySem.W.Frag} {H : Hp} {d : D} {v : V} (r : Rep K H v d) : decide (v = .non) = isNon d := by
  cases r <;> simp [isNon]
theorem wR_isN {d : D} (q : Q (.bl (isNon d)) M) : wR c rIsNG d .non M Q := fun Hd H R v u C X r1 r2 P z => by
  cases r2
  exact ⟨rfl, by rw [non_V r1]; exact z _ _ _ _ _ (Same.refl _) C (.bl _) q⟩
theorem wR_notN {d : D} (q : Q (.bl (!isNon d)) M) : wR c rNotNG d .non M Q := fun Hd H R v u C X r1 r2 P z => by
  cases r2
  exact ⟨rfl, by rw [non_V r1]; exact z _ _ _ _ _ (Same.refl _) C (.bl _) q⟩
/-! negation -/
theorem wU_neg {i : Int} (q : Q (.int (-i)) M) : wU c (rU fun i => .int (-i)) (.int i) M Q := fun Hd H R v C X r P z => by
  cases r
  exact ⟨i, rfl, z _ _ _ _ _ (Same.refl _) C (.int _) q⟩
/-! ### subscripts -/
theorem wR_ix {d x : D} {xs : List D} {i : Int} (h : SV M d xs) (hx : atI xs i = some x) (q : Q x M) : wR c (rIx c.K) d (.int i) M Q := fun Hd H R v u C X r1 r2 P z => by
  cases r2
  obtain ⟨a, vs, rfl, h1, h2⟩ := h.at C r1
  unfold atI at hx
  cases e : ixN xs.length i with
  | none => rw [e] at hx; cases hx
  | some j =>
    rw [e] at hx
    obtain ⟨w, e1, e2⟩ := h2.get (i := j) (d := x) hx
    have e3 : atI vs i = some w := by
      unfold atI
      rw [h2.len, e]
      exact e1
    rcases h1 with h1 | h1
    · exact .inl ⟨a, vs, i, w, rfl, rfl, h1, e3, z _ _ _ _ _ (Same.refl _) C e2 q⟩
    · exact .inr (.inl ⟨a, vs, i, w, rfl, rfl, h1, e3, z _ _ _ _ _ (Same.refl _) C e2 q⟩)
theorem wR_ixS {s : Str} {i : Int} {k : Nat} (hl : s.length ≤ 100000) (hx : atI s.cps.toList i = some k) (q : Q (.str ⟨#[k]⟩) M) : wR c (rIx c.K) (.str s) (.int i) M Q := fun Hd H R v u C X r1 r2 P z => by
  cases r1; cases r2
  exact .inr (.inr ⟨s, i, k, rfl, rfl, sz_of hl, hx, z _ _ _ _ _ (Same.refl _) C (.str _) q⟩)
theorem atI_of {α : Type} {xs : List α} {i : Int} {x : α} (h0 : 0 ≤ i) (h : xs[i.toNat]? = some x) : atI xs i = some x := by
  have e : i = ((i.toNat : Nat) : Int) := by omega
  rw [e]
  exact atI_nat h
/-! ### slices -/
def wO (c : EC) (to : TO) (Γ : Sl) (M : Mem) (Q : Option Int → Mem → Prop) : Prop :=
  ∀ (Hd H R : Hp) (σ : L2.St), Conc c.K Hd H M R → Slots c.K Hd σ Γ → ExOk c Hd R → ∀ Q' : Option Int → Hp → Prop,
    (∀ Hd' H' M' o, Same Hd Hd' → Conc c.K Hd' H' M' R → Q o M' → Q' o H') → to σ H Q'
theorem wO_no {Q : Option Int → Mem → Prop} (q : Q none M) : wO c tNoPart Γ M Q := fun Hd H R σ C S X P z => z _ _ _ _ (Same.refl _) C q
theorem wO_some {te : TE} {Q : Option Int → Mem → Prop} (h : wE c te Γ M fun d M1 => ∃ i, d = .int i ∧ Q (some i) M1) : wO c (tPart te) Γ M Q := fun Hd H R σ C S X P z =>
  h Hd H R σ C S X _ fun Hd1 H1 M1 v d s1 C1 r1 ⟨i, e, q⟩ => by
    subst e
    cases r1
    exact ⟨i, rfl, z _ _ _ _ s1 C1 q⟩
def wSl (c : EC) (r : V → Option Int → Option Int → Hp → VK → Prop) (x : D) (lo hi : Option Int) (M : Mem) (Q : D → Mem → Prop) : Prop :=
  ∀ (Hd H R : Hp) (v : V), Conc c.K Hd H M R → Rep c.K Hd v x → ∀ Q' : VK, (∀ Hd' H' M' v d, Same Hd Hd' → Conc c.K Hd' H' M' R → Rep c.K Hd' v d → Q d M' → Q' v H') → r v lo hi H Q'
theorem wE_sl {r : V → Option Int → Option Int → Hp → VK → Prop} {te : TE} {tl th : TO} (h : wE c te Γ M fun x M1 => wO c tl Γ M1 fun lo M2 => wO c th Γ M2 fun hi M3 => wSl c r x lo hi M3 Q) : wE c (tSl r te tl th) Γ M Q := fun Hd H R σ C S X P z =>
  h Hd H R σ C S X _ fun Hd1 H1 M1 v d s1 C1 r1 h1 => h1 Hd1 H1 R σ C1 (S.mono s1) (X.mono s1) _ fun Hd2 H2 M2 lo s2 C2 h2 => h2 Hd2 H2 R σ C2 (S.mono (s1.trans s2)) (X.mono (s1.trans s2)) _ fun Hd3 H3 M3 hi s3 C3 h3 =>
    h3 Hd3 H3 R v C3 (r1.mono (s2.trans s3)) P fun Hd4 H4 M4 w e s4 C4 r4 q => z _ _ _ _ _ ((s1.trans s2).trans (s3.trans s4)) C4 r4 q
def cutD (xs : List D) (lo hi : Option Int) : List D := (xs.drop (HT.sIx xs.length 0 lo)).take (HT.sIx xs.length xs.length hi - HT.sIx xs.length 0 lo)
theorem RepAll.cut {K : PySem.W.Frag} {H : Hp} {vs : List V} {ds : List D} (r : RepAll K H vs ds) (lo hi : Option Int) : RepAll K H (cutV vs lo hi) (cutD ds lo hi) := by
  unfold cutV cutD
  rw [r.len]
  exact (r.drop _).take _
/-- text, list or tuple -/
def rSlG (K : PySem.W.Frag) : V → Option Int → Option Int → Hp → VK → Prop := fun x lo hi H Q => rSlL K x lo hi H Q ∨ rSlA K x lo hi H Q ∨ ∃ z, x = .str z ∧ z.length ≤ sizeLine ∧ Q (.str (cutS z lo hi)) H
end
end DL

namespace DL
open PySem PySem.Spec PyProof.Rows L2
theorem sl_G {X : Cx} : SlR X (rSlG X.K) := sl_list.or (sl_tupA.or sl_str)
def rSlM (K : PySem.W.Frag) := rSlG K
theorem sl_M {X : Cx} : SlR X (rSlM X.K) := sl_G
section
variable {c : EC} {Γ : Sl} {M : Mem} {Q : D → Mem → Prop}
/-! ### slices -/
/-- a list (or the script) that slices as a list -/
theorem SV.l_at {K : PySem.W.Frag} {Hd H R : Hp} {M : Mem} {d : D} {xs : List D} {v : V} (h : LV M d xs ∨ ∃ ns, d = .scr ns ∧ xs = ns.map .int) (C : Conc K Hd H M R) (r : Rep K Hd v d) : ∃ a vs, v = .ref a ∧ SqL K H a vs ∧ RepAll K Hd vs xs := by
  rcases h with h | ⟨ns, rfl, rfl⟩
  · obtain ⟨a, vs, e, h1, h2⟩ := h.at C r
    exact ⟨a, vs, e, SqL.of h1, h2⟩
  · cases r with
    | scr h1 => exact ⟨_, _, rfl, Same.seq C.same h1, RepAll.ints ns⟩
theorem wSl_L {d : D} {xs : List D} {lo hi : Option Int} (h : LV M d xs ∨ ∃ ns, d = .scr ns ∧ xs = ns.map .int) (q : Q (.lst (cutD xs lo hi)) M) : wSl c (rSlG c.K) d lo hi M Q := fun Hd H R v C r P z => by
  obtain ⟨a, vs, rfl, h1, h2⟩ := SV.l_at h C r
  exact .inl ⟨a, vs, rfl, h1, fun p hp => by
    have s := same_new (o := .lst (cutV vs lo hi)) (Same.free C.same hp)
    exact z _ _ _ _ _ s (C.newD hp) (.lst upd_same ((h2.cut lo hi).mono s)) q⟩
theorem wSl_LM {d : D} {xs : List D} {lo hi : Option Int} (h : LV M d xs ∨ ∃ ns, d = .scr ns ∧ xs = ns.map .int) (q : ∀ a, M a = none → Q (.ref a) (mset M a (.lst (cutD xs lo hi)))) : wSl c (rSlM c.K) d lo hi M Q := fun Hd H R v C r P z => by
  obtain ⟨a, vs, rfl, h1, h2⟩ := SV.l_at h C r
  exact .inl ⟨a, vs, rfl, h1, fun p hp => z _ _ _ _ _ (Same.refl _) (C.newM (n := .lst _) hp ⟨_, upd_same, h2.cut lo hi⟩) (.ref p) (q p (C.free hp))⟩
theorem cut_whole {α : Type} {xs : List α} {lo hi : Option Int} (h : HT.sIx xs.length 0 lo = 0 ∧ HT.sIx xs.length xs.length hi = xs.length) : (xs.drop (HT.sIx xs.length 0 lo)).take (HT.sIx xs.length xs.length hi - HT.sIx xs.length 0 lo) = xs := by
  rw [h.1, h.2]
  simp
theorem wSl_T {xs : List D} {lo hi : Option Int} (q : Q (.tup (cutD xs lo hi)) M) : wSl c (rSlG c.K) (.tup xs) lo hi M Q := fun Hd H R v C r P z => by
  have r' := r
  cases r with
  | @tup a vs _ h1 h2 =>
    refine .inr (.inl ⟨a, vs, rfl, Same.sqt C.same h1, fun hw => ?_, fun _ p hp => ?_⟩)
    · have e : cutD xs lo hi = xs := cut_whole (by rw [← h2.len]; exact hw)
      rw [e] at q
      exact z _ _ _ _ _ (Same.refl _) C r' q
    · have s := same_new (o := .tup (cutV vs lo hi)) (Same.free C.same hp)
      exact z _ _ _ _ _ s (C.newD hp) (.tup (.inl (.inl upd_same)) ((h2.cut lo hi).mono s)) q
theorem wSl_S {x : Str} {lo hi : Option Int} (hl : x.length ≤ 100000) (q : Q (.str (cutS x lo hi)) M) : wSl c (rSlG c.K) (.str x) lo hi M Q := fun Hd H R v C r P z => by
  cases r
  exact .inr (.inr ⟨x, rfl, sz_of hl, z _ _ _ _ _ (Same.refl _) C (.str _) q⟩)
/-! ### built-ins called -/
def rLenG (K : PySem.W.Frag) : List V → Hp → VK → Prop := fun xs H Q => ∃ x n, xs = [x] ∧ LenV K x H n ∧ Q (.int n) H
theorem call_lenG {X : Cx} : CallR X (.builtin "len") (rLenG X.K) := call_len
theorem wC_len {d : D} {xs : List D} (h : SV M d xs) (q : Q (.int xs.length) M) : wC c (rLenG c.K) [d] M Q := fun Hd H R vs C X r P z => by
  cases r with
  | cons a b =>
    cases b
    obtain ⟨p, us, rfl, h1, h2⟩ := h.at C a
    refine ⟨_, xs.length, rfl, ?_, z _ _ _ _ _ (Same.refl _) C (.int _) q⟩
    rcases h1 with h1 | h1
    · exact .inl ⟨us, h1, h2.len.symm⟩
    · exact .inr ⟨us, h1, h2.len.symm⟩
theorem wC_lenS {x : Str} (h : x.length ≤ 100000) (q : Q (.int x.length) M) : wC c (rLenG c.K) [.str x] M Q := fun Hd H R vs C X r P z => by
  cases r with
  | cons a b =>
    cases b
    cases a
    exact ⟨_, x.length, rfl, ⟨sz_of h, rfl⟩, z _ _ _ _ _ (Same.refl _) C (.int _) q⟩
def rListG (K : PySem.W.Frag) : List V → Hp → VK → Prop := fun xs H Q => ∃ p ys, xs = [.ref p] ∧ (SqL K H p ys ∨ SqT K H p ys) ∧ ∀ l, H l = none → Q (.ref l) (upd H l (.lst ys))
theorem call_listG {X : Cx} : CallR X (.type "list") (rListG X.K) := call_list_of
def rListM (K : PySem.W.Frag) := rListG K
theorem call_listM {X : Cx} : CallR X (.type "list") (rListM X.K) := call_list_of
theorem wC_list {d : D} {xs : List D} (h : SV M d xs) (q : Q (.lst xs) M) : wC c (rListG c.K) [d] M Q := fun Hd H R vs C X r P z => by
  cases r with
  | cons a b =>
    cases b
    obtain ⟨p, us, rfl, h1, h2⟩ := h.at C a
    exact ⟨p, us, rfl, h1, fun l hl => by
      have s := same_new (o := .lst us) (Same.free C.same hl)
      exact z _ _ _ _ _ s (C.newD hl) (.lst upd_same (h2.mono s)) q⟩
theorem wC_listM {d : D} {xs : List D} (h : SV M d xs) (q : ∀ a, M a = none → Q (.ref a) (mset M a (.lst xs))) : wC c (rListM c.K) [d] M Q := fun Hd H R vs C X r P z => by
  cases r with
  | cons a b =>
    cases b
    obtain ⟨p, us, rfl, h1, h2⟩ := h.at C a
    exact ⟨p, us, rfl, h1, fun l hl => z _ _ _ _ _ (Same.refl _) (C.newM (n := .lst xs) hl ⟨us, upd_same, h2⟩) (.ref l) (q l (C.free hl))⟩
def rTupG (K : PySem.W.Frag) : List V → Hp → VK → Prop := fun xs H Q => ∃ p ys, xs = [.ref p] ∧ ((SqL K H p ys ∧ ∀ l, H l = none → Q (.ref l) (upd H l (.tup ys))) ∨ (SqT K H p ys ∧ Q (.ref p) H))
theorem call_tupG {X : Cx} : CallR X (.type "tuple") (rTupG X.K) := call_tuple_of
theorem wC_tupL {d : D} {xs : List D} (h : LV M d xs) (q : Q (.tup xs) M) : wC c (rTupG c.K) [d] M Q := fun Hd H R vs C X r P z => by
  cases r with
  | cons a b =>
    cases b
    obtain ⟨p, us, rfl, h1, h2⟩ := h.at C a
    exact ⟨p, us, rfl, .inl ⟨SqL.of h1, fun l hl => by
      have s := same_new (o := .tup us) (Same.free C.same hl)
      exact z _ _ _ _ _ s (C.newD hl) (.tup (.inl (.inl upd_same)) (h2.mono s)) q⟩⟩
theorem wC_tupT {xs : List D} (q : Q (.tup xs) M) : wC c (rTupG c.K) [.tup xs] M Q := fun Hd H R vs C X r P z => by
  cases r with
  | cons a b =>
    cases b
    have a' := a
    cases a with
    | @tup p us _ h1 h2 => exact ⟨p, us, rfl, .inr ⟨Same.sqt C.same h1, z _ _ _ _ _ (Same.refl _) C a' q⟩⟩
def rIntG : List V → Hp → VK → Prop := fun xs H Q => (∃ i, xs = [.int i] ∧ Q (.int i) H) ∨ ∃ k, xs = [.bl k] ∧ Q (.int (if k then 1 else 0)) H
theorem call_intG {X : Cx} : CallR X (.type "int") rIntG := call_int1
theorem wC_intI {i : Int} (q : Q (.int i) M) : wC c rIntG [.int i] M Q := fun Hd H R vs C X r P z => by
  cases r with
  | cons a b => cases b; cases a; exact .inl ⟨i, rfl, z _ _ _ _ _ (Same.refl _) C (.int _) q⟩
theorem wC_intB {k : Bool} (q : Q (.int (if k then 1 else 0)) M) : wC c rIntG [.bl k] M Q := fun Hd H R vs C X r P z => by
  cases r with
  | cons a b => cases b; cases a; exact .inr ⟨k, rfl, z _ _ _ _ _ (Same.refl _) C (.int _) q⟩
def rAbsG : List V → Hp → VK → Prop := fun xs H Q => ∃ i, xs = [.int i] ∧ Q (.int (if i < 0 then -i else i)) H
theorem call_absG {X : Cx} : CallR X (.builtin "abs") rAbsG := call_abs
theorem wC_abs {i : Int} (q : Q (.int (if i < 0 then -i else i)) M) : wC c rAbsG [.int i] M Q := fun Hd H R vs C X r P z => by
  cases r with
  | cons a b => cases b; cases a; exact ⟨i, rfl, z _ _ _ _ _ (Same.refl _) C (.int _) q⟩
def rMax2 : List V → Hp → VK → Prop := fun xs H Q => ∃ i j, xs = [.int i, .int j] ∧ Q (.int (if j > i then j else i)) H
theorem call_max2G {X : Cx} (hc : X.calm = true) : CallR X (.builtin "max") rMax2 := call_max2 hc
theorem wC_max2 {i j : Int} (q : Q (.int (if j > i then j else i)) M) : wC c rMax2 [.int i, .int j] M Q := fun Hd H R vs C X r P z => by
  cases r with
  | cons a b => cases b with | cons a' b => cases b; cases a; cases a'; exact ⟨i, j, rfl, z _ _ _ _ _ (Same.refl _) C (.int _) q⟩
def rMin2 : List V → Hp → VK → Prop := fun xs H Q => ∃ i j, xs = [.int i, .int j] ∧ Q (.int (if j < i then j else i)) H
theorem call_min2G {X : Cx} (hc : X.calm = true) : CallR X (.builtin "min") rMin2 := call_min2 hc
theorem wC_min2 {i j : Int} (q : Q (.int (if j < i then j else i)) M) : wC c rMin2 [.int i, .int j] M Q := fun Hd H R vs C X r P z => by
  cases r with
  | cons a b => cases b with | cons a' b => cases b; cases a; cases a'; exact ⟨i, j, rfl, z _ _ _ _ _ (Same.refl _) C (.int _) q⟩
def rStrI : List V → Hp → VK → Prop := fun xs H Q => ∃ i, xs = [.int i] ∧ i.natAbs.log2 < 1920 ∧ Q (.str (toString i)) H
theorem call_strI {X : Cx} : CallR X (.type "str") rStrI := call_str_int
theorem wC_strI {i : Int} (h : i.natAbs.log2 < 1920) (q : Q (.str (toString i)) M) : wC c rStrI [.int i] M Q := fun Hd H R vs C X r P z => by
  cases r with
  | cons a b => cases b; cases a; exact ⟨i, rfl, h, z _ _ _ _ _ (Same.refl _) C (.str _) q⟩
theorem wC_sum {d : D} {ns : List Int} (h : SV M d (ns.map .int)) (hd : ∀ x, d ≠ .tup x) (q : Q (.int ns.sum) M) : wC c (rSum c.K) [d] M Q := fun Hd H R vs C X r P z => by
  cases r with
  | cons a b =>
    cases b
    have h' : LV M d (ns.map .int) ∨ ∃ ms, d = .scr ms ∧ ns.map D.int = ms.map .int := by
      generalize e : ns.map D.int = xs at h
      cases h with
      | l h => exact .inl h
      | t => exact absurd rfl (hd _)
      | s ms => exact .inr ⟨ms, rfl, rfl⟩
    obtain ⟨p, us, rfl, h1, h2⟩ := SV.l_at h' C a
    have e := h2.toInts
    subst e
    exact ⟨p, ns, rfl, h1, z _ _ _ _ _ (Same.refl _) C (.int _) q⟩
theorem wC_all {d : D} {bs : List Bool} (h : LV M d (bs.map .bl)) (q : Q (.bl (bs.all id)) M) : wC c (rAll c.K) [d] M Q := fun Hd H R vs C X r P z => by
  cases r with
  | cons a b =>
    cases b
    obtain ⟨p, us, rfl, h1, h2⟩ := h.at C a
    have e := h2.toBls
    subst e
    exact ⟨p, bs, rfl, SqL.of h1, z _ _ _ _ _ (Same.refl _) C (.bl _) q⟩
/-! isinstance of built-in types -/
def tyN : D → Option String
  | .non => some "NoneType" | .bl _ => some "bool" | .int _ => some "int" | .str _ => some "str" | .tup _ => some "tuple" | .lst _ => some "list" | _ => none
def isiD (n : String) (t : String) : Bool := (kitB n t) == some true
theorem wC_isi {d : D} {n t : String} {b : Bool} (hd : tyN d = some n) (hb : kitB n t = some b) (q : Q (.bl b) M) : wC c (rIsi c.K) [d, .ty t] M Q := fun Hd H R vs C X r P z => by
  cases r with
  | cons a r2 =>
    cases r2 with
    | cons a' r3 =>
      cases r3
      cases a'
      have key : ∀ {v : V}, Rep c.K Hd v d → TyX c.K H v (.type n) := by
        intro v a
        cases a with
        | non => cases hd; exact .base .non
        | bl b => cases hd; exact .base (.bl b)
        | int i => cases hd; exact .base (.int i)
        | str x => cases hd; exact .base (.str x)
        | tup h1 h2 =>
          cases hd
          rcases Same.sqt C.same h1 with (h | ⟨o, h⟩) | ⟨o, _, _, k1, k2, _⟩
          · exact .base (.tup h)
          · exact .fTuple h
          · exact .kTuple k1 k2
        | lst h1 h2 => cases hd; exact .base (.lst (C.same _ _ h1))
        | ref _ => cases hd
        | ty _ => cases hd
        | scr _ => cases hd
        | obj _ _ => cases hd
      exact ⟨_, .ty t, .type n, .type t, b, rfl, .ty t, key a, kit_ty hb, z _ _ _ _ _ (Same.refl _) C (.bl _) q⟩
/-! ### list methods -/
theorem wE_app {ta te : TE} {a : Addr} {xs : List D} (h : wE c ta Γ M fun d M1 => d = .ref a ∧ M1 = M) (hm : M a = some (.lst xs))
    (k : wE c te Γ M fun x M2 => M2 a = some (.lst xs) ∧ xs.length < 100000 ∧ Q .non (mset M2 a (.lst (xs ++ [x])))) : wE c (tBM c.K "list" rAppend ta (tCons te tNil)) Γ M Q := fun Hd H R σ C S X P z =>
  h Hd H R σ C S X _ fun Hd1 H1 M1 v d s1 C1 r1 ⟨e1, e2⟩ => by
    subst e1 e2
    cases r1
    obtain ⟨_, vs, h1, h2⟩ := C1.nd a _ hm
    refine ⟨.inl ⟨rfl, vs, SqL.of h1⟩, k Hd1 H1 R σ C1 (S.mono s1) (X.mono s1) _ fun Hd2 H2 M2 w x s2 C2 r2 ⟨hm2, hl, q⟩ => ?_⟩
    obtain ⟨_, us, g1, g2⟩ := C2.nd a _ hm2
    refine ⟨a, us, w, rfl, rfl, g1, by rw [g2.len]; exact sz_lt hl, ?_⟩
    exact z _ _ _ _ _ (s1.trans s2) (C2.chg (n := .lst (xs ++ [x])) hm2 ⟨_, upd_same, g2.app (.cons r2 .nil)⟩) .non q
theorem wE_ext {ta te : TE} {a : Addr} {xs : List D} (h : wE c ta Γ M fun d M1 => d = .ref a ∧ M1 = M) (hm : M a = some (.lst xs))
    (k : wE c te Γ M fun d M2 => M2 a = some (.lst xs) ∧ ∃ ys, LV M2 d ys ∧ xs.length + ys.length ≤ 100000 ∧ Q .non (mset M2 a (.lst (xs ++ ys)))) : wE c (tBM c.K "list" rExtend ta (tCons te tNil)) Γ M Q := fun Hd H R σ C S X P z =>
  h Hd H R σ C S X _ fun Hd1 H1 M1 v d s1 C1 r1 ⟨e1, e2⟩ => by
    subst e1 e2
    cases r1
    obtain ⟨_, vs, h1, h2⟩ := C1.nd a _ hm
    refine ⟨.inl ⟨rfl, vs, SqL.of h1⟩, k Hd1 H1 R σ C1 (S.mono s1) (X.mono s1) _ fun Hd2 H2 M2 w x s2 C2 r2 ⟨hm2, ys, hy, hl, q⟩ => ?_⟩
    obtain ⟨_, us, g1, g2⟩ := C2.nd a _ hm2
    obtain ⟨b, ws, rfl, k1, k2⟩ := hy.at C2 r2
    refine ⟨a, b, us, ws, rfl, rfl, g1, k1, by rw [g2.len, k2.len]; exact sz_of hl, ?_⟩
    exact z _ _ _ _ _ (s1.trans s2) (C2.chg (n := .lst (xs ++ ys)) hm2 ⟨_, upd_same, g2.app k2⟩) .non q
theorem wE_pop {ta : TE} {a : Addr} {xs : List D} {x : D} (h : wE c ta Γ M fun d M1 => d = .ref a ∧ M1 = M) (hm : M a = some (.lst (xs ++ [x])))
    (q : Q x (mset M a (.lst xs))) : wE c (tBM0 c.K "list" rPop ta) Γ M Q := fun Hd H R σ C S X P z =>
  h Hd H R σ C S X _ fun Hd1 H1 M1 v d s1 C1 r1 ⟨e1, e2⟩ => by
    subst e1 e2
    cases r1
    obtain ⟨_, vs, h1, h2⟩ := C1.nd a _ hm
    have hl := h2.len
    rw [List.length_append] at hl
    obtain ⟨w, e3, e4⟩ := h2.get (i := vs.length - 1) (d := x) (by
      have e : vs.length - 1 = xs.length := by simp at hl; omega
      rw [e]
      simp)
    refine ⟨.inl ⟨rfl, vs, SqL.of h1⟩, a, vs, w, rfl, rfl, h1, e3, ?_⟩
    have e5 : RepAll c.K Hd1 vs.dropLast xs := by
      have := h2.dropLast
      rw [List.dropLast_concat] at this
      exact this
    exact z _ _ _ _ _ s1 (C1.chg (n := .lst xs) hm ⟨_, upd_same, e5⟩) e4 q
theorem wE_popAt {ta te : TE} {a : Addr} {xs : List D} (h : wE c ta Γ M fun d M1 => d = .ref a ∧ M1 = M) (hm : M a = some (.lst xs))
    (k : wE c te Γ M fun d M2 => ∃ (j : Nat) (x : D), d = .int j ∧ M2 a = some (.lst xs) ∧ xs[j]? = some x ∧ xs.length ≤ 100000 ∧ Q x (mset M2 a (.lst (xs.eraseIdx j)))) : wE c (tBM c.K "list" rPopAt ta (tCons te tNil)) Γ M Q := fun Hd H R σ C S X P z =>
  h Hd H R σ C S X _ fun Hd1 H1 M1 v d s1 C1 r1 ⟨e1, e2⟩ => by
    subst e1 e2
    cases r1
    obtain ⟨_, vs, h1, h2⟩ := C1.nd a _ hm
    refine ⟨.inl ⟨rfl, vs, SqL.of h1⟩, k Hd1 H1 R σ C1 (S.mono s1) (X.mono s1) _ fun Hd2 H2 M2 w d2 s2 C2 r2 ⟨j, x, e3, hm2, hx, hl, q⟩ => ?_⟩
    subst e3
    cases r2
    obtain ⟨_, us, g1, g2⟩ := C2.nd a _ hm2
    obtain ⟨w, e4, e5⟩ := g2.get hx
    have hj : j < us.length := (List.getElem?_eq_some_iff.mp e4).1
    have hjs : seqIndex? (j : Int) us.length = some j := by
      have e6 : ixN us.length (j : Int) = some j := by
        unfold ixN
        rw [if_pos (by omega), if_pos (by omega)]
        simp
      exact (ixN_seq e6).1
    have hlu : us.length ≤ 100000 := by rw [g2.len]; exact hl
    refine ⟨a, us, (j : Int), j, w, rfl, rfl, g1, by omega, by omega, hjs, e4, ?_⟩
    exact z _ _ _ _ _ (s1.trans s2) (C2.chg (n := .lst (xs.eraseIdx j)) hm2 ⟨_, upd_same, g2.erase j⟩) e5 q
/-! o[i] = v of a list -/
theorem wG_setL {to ti : TE} {d : D} {Q : Sl → Mem → Prop} {a : Addr} {xs : List D} (h : wE c to Γ M fun o M1 => o = .ref a ∧ M1 a = some (.lst xs) ∧ wE c ti Γ M1 fun i M2 => ∃ (k : Int) (j : Nat), i = .int k ∧ M2 a = some (.lst xs) ∧ ixN xs.length k = some j ∧ Q Γ (mset M2 a (.lst (xs.set j d)))) :
    wG c (gSub to ti rSetL) d Γ M Q := fun Hd H R σ v C S X r P z =>
  h Hd H R σ C S X _ fun Hd1 H1 M1 ov o s1 C1 r1 ⟨e1, hm1, h1⟩ => h1 Hd1 H1 R σ C1 (S.mono s1) (X.mono s1) _ fun Hd2 H2 M2 iv i s2 C2 r2 ⟨k, j, e2, hm2, hj, q⟩ => by
    subst e1 e2
    cases r1; cases r2
    obtain ⟨_, us, g1, g2⟩ := C2.nd a _ hm2
    refine ⟨a, us, k, j, rfl, rfl, g1, by rw [g2.len]; exact hj, ?_⟩
    exact z _ _ _ _ _ (s1.trans s2) (C2.chg (n := .lst (xs.set j d)) hm2 ⟨_, upd_same, g2.set (r.mono (s1.trans s2)) j⟩) (S.mono (s1.trans s2)) q
end
end DL

namespace DL
open PySem PySem.Spec PyProof.Rows L2
/-! ### tables of pairs, of any values -/
section
variable {κ α : Type} [DecidableEq κ]
def valA (kvs : List (κ × α)) (k : κ) : Option α := (kvs.find? fun kv => decide (kv.1 = k)).map (·.2)
def putA (kvs : List (κ × α)) (k : κ) (v : α) : List (κ × α) :=
  if (kvs.any fun kv => decide (kv.1 = k)) = true then kvs.map (fun kv => if kv.1 = k then (kv.1, v) else kv) else kvs ++ [(k, v)]
def dropA (kvs : List (κ × α)) (k : κ) : List (κ × α) := kvs.filter fun kv => decide (kv.1 ≠ k)
end
section
variable {κ : Type} [DecidableEq κ] {K : PySem.W.Frag} {H : Hp}
theorem RepKV.val {vs : List (κ × V)} {ds : List (κ × D)} (r : RepKV K H vs ds) (k : κ) : (∀ d, valA ds k = some d → ∃ v, valV vs k = some v ∧ Rep K H v d) ∧ (valA ds k = none → valV vs k = none) := by
  unfold RepKV at r
  induction r with
  | nil => exact ⟨fun d e => (by cases e), fun _ => rfl⟩
  | @cons p q ps qs h t ih =>
    obtain ⟨h1, h2⟩ := h
    by_cases e : p.1 = k
    · have e' : q.1 = k := h1.symm.trans e
      have b : valA (q :: qs) k = some q.2 := by simp [valA, List.find?_cons, e']
      rw [valV_pos e, b]
      exact ⟨fun d z => (by cases z; exact ⟨_, rfl, h2⟩), fun z => (by cases z)⟩
    · have e' : ¬ q.1 = k := fun z => e (h1.trans z)
      have b : valA (q :: qs) k = valA qs k := by simp [valA, List.find?_cons, e']
      rw [valV_neg e, b]; exact ih
theorem RepKV.any {vs : List (κ × V)} {ds : List (κ × D)} (r : RepKV K H vs ds) (k : κ) : (vs.any fun kv => decide (kv.1 = k)) = ds.any fun kv => decide (kv.1 = k) := by
  unfold RepKV at r
  induction r with
  | nil => rfl
  | cons h t ih => rw [List.any_cons, List.any_cons, ih, h.1]
theorem RepKV.len {vs : List (κ × V)} {ds : List (κ × D)} (r : RepKV K H vs ds) : vs.length = ds.length := Paired.length r
theorem Paired.app2 {α β : Type} {F : α → β → Prop} : ∀ {a c : List α} {b d : List β}, Paired F a b → Paired F c d → Paired F (a ++ c) (b ++ d)
  | _, _, _, _, .nil, s => s
  | _, _, _, _, .cons r t, s => .cons r (Paired.app2 t s)
theorem RepKV.put {vs : List (κ × V)} {ds : List (κ × D)} {v : V} {d : D} (r : RepKV K H vs ds) (k : κ) (rv : Rep K H v d) : RepKV K H (putK vs k v) (putA ds k d) := by
  unfold putK putA
  rw [r.any k]
  by_cases e : (ds.any fun kv => decide (kv.1 = k)) = true
  · rw [if_pos e, if_pos e]
    unfold RepKV at r ⊢
    clear e
    induction r with
    | nil => exact .nil
    | @cons p q ps qs h t ih =>
      rw [List.map_cons, List.map_cons]
      refine .cons ?_ ih
      obtain ⟨h1, h2⟩ := h
      by_cases e : p.1 = k
      · rw [if_pos e, if_pos (h1.symm.trans e)]
        exact ⟨h1, rv⟩
      · rw [if_neg e, if_neg (fun z => e (h1.trans z))]
        exact ⟨h1, h2⟩
  · rw [if_neg e, if_neg e]
    exact Paired.app2 r (.cons ⟨rfl, rv⟩ .nil)
theorem RepKV.drop {vs : List (κ × V)} {ds : List (κ × D)} (r : RepKV K H vs ds) (k : κ) : RepKV K H (dropK vs k) (dropA ds k) := by
  unfold dropK dropA
  unfold RepKV at r ⊢
  induction r with
  | nil => exact .nil
  | @cons p q ps qs h t ih =>
    obtain ⟨h1, h2⟩ := h
    by_cases e : p.1 = k
    · rw [List.filter_cons, List.filter_cons, if_neg (by simp [e]), if_neg (by simp [← h1, e])]
      exact ih
    · rw [List.filter_cons, List.filter_cons, if_pos (by simp [e]), if_pos (by simp [← h1, e])]
      exact .cons ⟨h1, h2⟩ ih
end
/-- a key, in data -/
def kD : Key → D
  | .inl i => .int i
  | .inr x => .str x
theorem rep_kD {K : PySem.W.Frag} {H : Hp} {v : V} : ∀ {k : Key}, Rep K H v (kD k) → v = kV k
  | .inl _, .int _ => rfl
  | .inr _, .str _ => rfl
theorem rep_kDs {K : PySem.W.Frag} {H : Hp} : ∀ {vs : List V} {k : List Key}, RepAll K H vs (k.map kD) → vs = k.map kV
  | _, [], .nil => rfl
  | _, _ :: _, .cons a b => by rw [rep_kD a, rep_kDs b]; rfl
/-- a place in a dict: a node and a key that it can have -/
inductive DK (M : Mem) : D → D → (Option D) → (D → Nd) → Nat → Prop
  | k {a : Addr} {kvs : List (Key × D)} (k : Key) : M a = some (.dK kvs) → DK M (.ref a) (kD k) (valA kvs k) (fun d => .dK (putA kvs k d)) kvs.length
  | t {a : Addr} {kvs : List (List Key × D)} (k : List Key) : M a = some (.dT kvs) → DK M (.ref a) (.tup (k.map kD)) (valA kvs k) (fun d => .dT (putA kvs k d)) kvs.length
/-- a tuple that is tracked itself -/
def TupT (K : PySem.W.Frag) (d : D) : Prop := ∀ (Hd : Hp) (v : V), Rep K Hd v d → True
section
variable {c : EC} {Γ : Sl} {M : Mem} {Q : D → Mem → Prop} {Z : Zs}
theorem wE_dget {td ty : TE} (h : wE c td Γ M fun x M1 => wE c ty Γ M1 fun y M2 => ∃ a kvs k d, x = .ref a ∧ y = kD k ∧ M2 a = some (.dK kvs) ∧ valA kvs k = some d ∧ Q d M2) : wE c (tDGet td ty) Γ M Q := fun Hd H R σ C S X P z =>
  h Hd H R σ C S X _ fun Hd1 H1 M1 v x s1 C1 r1 h1 => h1 Hd1 H1 R σ C1 (S.mono s1) (X.mono s1) _ fun Hd2 H2 M2 u y s2 C2 r2 ⟨a, kvs, k, d, e1, e2, hm, hv, q⟩ => by
    subst e1 e2
    cases r1
    have eu := rep_kD r2
    subst eu
    obtain ⟨_, vs, g1, g2⟩ := C2.nd a _ hm
    obtain ⟨w, e3, e4⟩ := (g2.val k).1 d hv
    exact ⟨a, w, rfl, by rw [← e3]; exact DGet.k g1, z _ _ _ _ _ (s1.trans s2) C2 e4 q⟩
theorem wE_din {td ty : TE} (h : wE c ty Γ M fun y M1 => wE c td Γ M1 fun x M2 => ∃ a kvs k, x = .ref a ∧ y = kD k ∧ M2 a = some (.dK kvs) ∧ Q (.bl (valA kvs k).isSome) M2) : wE c (tDIn ty td) Γ M Q := fun Hd H R σ C S X P z =>
  h Hd H R σ C S X _ fun Hd1 H1 M1 v x s1 C1 r1 h1 => h1 Hd1 H1 R σ C1 (S.mono s1) (X.mono s1) _ fun Hd2 H2 M2 u y s2 C2 r2 ⟨a, kvs, k, e1, e2, hm, q⟩ => by
    subst e1 e2
    cases r2
    have eu := rep_kD r1
    subst eu
    obtain ⟨_, vs, g1, g2⟩ := C2.nd a _ hm
    refine ⟨a, _, rfl, DGet.k g1, ?_⟩
    have e : (valV vs k).isSome = (valA kvs k).isSome := by
      cases e : valA kvs k with
      | none => rw [(g2.val k).2 e]; rfl
      | some d => obtain ⟨w, e3, _⟩ := (g2.val k).1 d e; rw [e3]; rfl
    rw [e]
    exact z _ _ _ _ _ (s1.trans s2) C2 (.bl _) q
theorem wE_dnotin {td ty : TE} (h : wE c ty Γ M fun y M1 => wE c td Γ M1 fun x M2 => ∃ a kvs k, x = .ref a ∧ y = kD k ∧ M2 a = some (.dK kvs) ∧ Q (.bl (!(valA kvs k).isSome)) M2) : wE c (tDNotIn ty td) Γ M Q := fun Hd H R σ C S X P z =>
  h Hd H R σ C S X _ fun Hd1 H1 M1 v x s1 C1 r1 h1 => h1 Hd1 H1 R σ C1 (S.mono s1) (X.mono s1) _ fun Hd2 H2 M2 u y s2 C2 r2 ⟨a, kvs, k, e1, e2, hm, q⟩ => by
    subst e1 e2
    cases r2
    have eu := rep_kD r1
    subst eu
    obtain ⟨_, vs, g1, g2⟩ := C2.nd a _ hm
    refine ⟨a, _, rfl, DGet.k g1, ?_⟩
    have e : (valV vs k).isSome = (valA kvs k).isSome := by
      cases e : valA kvs k with
      | none => rw [(g2.val k).2 e]; rfl
      | some d => obtain ⟨w, e3, _⟩ := (g2.val k).1 d e; rw [e3]; rfl
    rw [e]
    exact z _ _ _ _ _ (s1.trans s2) C2 (.bl _) q
theorem wS_dput {td ty tv : TE} (h : wE c tv Γ M fun d M0 => wE c td Γ M0 fun x M1 => wE c ty Γ M1 fun y M2 => ∃ a kvs k, x = .ref a ∧ y = kD k ∧ M2 a = some (.dK kvs) ∧ kvs.length < 100000 ∧ Z.nx Γ (mset M2 a (.dK (putA kvs k d)))) :
    wS c (sDPut td ty tv) Γ M Z := fun Hd H R σ C S X E z =>
  h Hd H R σ C S X _ fun Hd0 H0 M0 w d s0 C0 r0 h0 => h0 Hd0 H0 R σ C0 (S.mono s0) (X.mono s0) _ fun Hd1 H1 M1 v x s1 C1 r1 h1 => h1 Hd1 H1 R σ C1 (S.mono (s0.trans s1)) (X.mono (s0.trans s1)) _ fun Hd2 H2 M2 u y s2 C2 r2 ⟨a, kvs, k, e1, e2, hm, hl, q⟩ => by
    subst e1 e2
    cases r1
    have eu := rep_kD r2
    subst eu
    obtain ⟨_, vs, g1, g2⟩ := C2.nd a _ hm
    have s12 := (s0.trans s1).trans s2
    refine ⟨a, _, rfl, DPut.k g1 (by rw [g2.len]; exact sz_lt hl), z.nx _ _ _ _ _ s12 (C2.chg (n := .dK _) hm ⟨_, upd_same, g2.put k (r0.mono (s1.trans s2))⟩) (S.mono s12) q⟩
/-! ### fields -/
inductive FV (M : Mem) : D → Addr → List (Str × D) → Prop
  | n {a C : Addr} {fs : List (Str × D)} : M a = some (.ins C fs) → FV M (.ref a) C fs
  | o {C : Addr} {fs : List (Str × D)} : FV M (.obj C fs) C fs
theorem FV.at {K : PySem.W.Frag} {Hd H R : Hp} {M : Mem} {d : D} {C : Addr} {fs : List (Str × D)} {v : V} (h : FV M d C fs) (Cn : Conc K Hd H M R) (r : Rep K Hd v d) : ∃ a dx vs, v = .ref a ∧ H a = some (.ins C dx vs) ∧ RepF K Hd vs fs := by
  cases h with
  | n h =>
    cases r
    obtain ⟨_, dx, vs, h1, h2⟩ := Cn.nd _ _ h
    exact ⟨_, dx, vs, rfl, h1, h2⟩
  | o =>
    cases r with
    | obj h1 h2 => exact ⟨_, _, _, rfl, Cn.same _ _ h1, h2⟩
theorem wE_fld {ta : TE} {f : Str} (h : wE c ta Γ M fun x M1 => ∃ C fs d, FV M1 x C fs ∧ Cls c.K C ∧ NoAttr c.K C f ∧ fs.lookup f = some d ∧ Q d M1) : wE c (tFld c.K ta f) Γ M Q := fun Hd H R σ C S X P z =>
  h Hd H R σ C S X _ fun Hd1 H1 M1 v x s1 C1 r1 ⟨Cl, fs, d, hf, hc, hn, hl, q⟩ => by
    obtain ⟨a, dx, vs, rfl, h1, h2⟩ := hf.at C1 r1
    obtain ⟨w, e1, e2⟩ := h2.look hl
    exact ⟨a, Cl, dx, vs, w, rfl, h1, hc, hn, e1, z _ _ _ _ _ s1 C1 e2 q⟩
theorem wS_fld {ta tv : TE} {f : Str} (h : wE c tv Γ M fun d M0 => wE c ta Γ M0 fun x M1 => ∃ a C fs, x = .ref a ∧ M1 a = some (.ins C fs) ∧ Cls c.K C ∧ NoAttr c.K C f ∧ fs.length < 1000 ∧ Z.nx Γ (mset M1 a (.ins C (putD f d fs)))) :
    wS c (sFld c.K ta tv f) Γ M Z := fun Hd H R σ C S X E z =>
  h Hd H R σ C S X _ fun Hd0 H0 M0 w d s0 C0 r0 h0 => h0 Hd0 H0 R σ C0 (S.mono s0) (X.mono s0) _ fun Hd1 H1 M1 v x s1 C1 r1 ⟨a, Cl, fs, e1, hm, hc, hn, hl, q⟩ => by
    subst e1
    cases r1
    obtain ⟨_, dx, vs, g1, g2⟩ := C1.nd a _ hm
    refine ⟨a, Cl, dx, vs, rfl, g1, hc, hn, by rw [g2.len]; exact hl, ?_⟩
    exact z.nx _ _ _ _ _ (s0.trans s1) (C1.chg (n := .ins Cl (putD f d fs)) hm ⟨dx, _, upd_same, g2.put (r0.mono s1)⟩) (S.mono (s0.trans s1)) q
/-! ### promises and calls -/
abbrev Fn := List D → Mem → (D → Mem → Prop) → (Value → List (Str × D) → Mem → Prop) → Prop
/-- a promise over data: Qd what is wanted of the answer, Xd of an exception -/
def spD (K : PySem.W.Frag) (F : Fn) : Sp := fun vs H Q E => ∃ Hd R M ds Qd Xd, Conc K Hd H M R ∧ RepAll K Hd vs ds ∧ F ds M Qd Xd ∧ (∀ Hd' H' M' v d, Same Hd Hd' → Conc K Hd' H' M' R → Rep K Hd' v d → Qd d M' → Q v H') ∧ ExOk ⟨K, E, Xd⟩ Hd R
theorem wE_call {F : Fn} {ta : TA} (h : wA c ta Γ M fun ds M1 => F ds M1 Q c.X) : wE c (tCall (spD c.K F) [] c.E ta) Γ M Q := fun Hd H R σ C S X P z =>
  h Hd H R σ C S X _ fun Hd1 H1 M1 vs ds s1 C1 r1 q => by
    show spD c.K F (vs ++ []) H1 P c.E
    rw [List.append_nil]
    exact ⟨Hd1, R, M1, ds, Q, c.X, C1, r1, q, fun Hd2 H2 M2 v d s2 C2 r2 q2 => z _ _ _ _ _ (s1.trans s2) C2 r2 q2, X.mono s1⟩
/-- a callee that raises nothing -/
theorem wE_call0 {F : Fn} {ta : TA} (h : wA c ta Γ M fun ds M1 => F ds M1 Q fun _ _ _ => False) : wE c (tCall (spD c.K F) [] E0 ta) Γ M Q := fun Hd H R σ C S X P z =>
  h Hd H R σ C S X _ fun Hd1 H1 M1 vs ds s1 C1 r1 q => by
    show spD c.K F (vs ++ []) H1 P E0
    rw [List.append_nil]
    exact ⟨Hd1, R, M1, ds, Q, _, C1, r1, q, fun Hd2 H2 M2 v d s2 C2 r2 q2 => z _ _ _ _ _ (s1.trans s2) C2 r2 q2, fun _ _ _ _ _ _ _ _ _ f => f.elim⟩
theorem wE_meth {F : Fn} {ta : TA} {to : TE} {Cl : Addr} {m : Str} (h : wE c to Γ M fun x M1 => ∃ fs, FV M1 x Cl fs ∧ fs.lookup m = none ∧ wA c ta Γ M1 fun ds M2 => F (x :: ds) M2 Q c.X) : wE c (tMeth Cl m (spD c.K F) [] c.E to ta) Γ M Q := fun Hd H R σ C S X P z =>
  h Hd H R σ C S X _ fun Hd1 H1 M1 v x s1 C1 r1 ⟨fs, hf, hl, h1⟩ => by
    obtain ⟨a, dx, vs, rfl, g1, g2⟩ := hf.at C1 r1
    refine ⟨a, dx, vs, rfl, g1, g2.lookN hl, h1 Hd1 H1 R σ C1 (S.mono s1) (X.mono s1) _ fun Hd2 H2 M2 us ds s2 C2 r2 q => ?_⟩
    rw [List.append_nil]
    exact ⟨Hd2, R, M2, x :: ds, Q, c.X, C2, .cons (r1.mono s2) r2, q, fun Hd3 H3 M3 v d s3 C3 r3 q3 => z _ _ _ _ _ ((s1.trans s2).trans s3) C3 r3 q3, X.mono (s1.trans s2)⟩
theorem wE_meth0 {F : Fn} {ta : TA} {to : TE} {Cl : Addr} {m : Str} (h : wE c to Γ M fun x M1 => ∃ fs, FV M1 x Cl fs ∧ fs.lookup m = none ∧ wA c ta Γ M1 fun ds M2 => F (x :: ds) M2 Q fun _ _ _ => False) : wE c (tMeth Cl m (spD c.K F) [] E0 to ta) Γ M Q := fun Hd H R σ C S X P z =>
  h Hd H R σ C S X _ fun Hd1 H1 M1 v x s1 C1 r1 ⟨fs, hf, hl, h1⟩ => by
    obtain ⟨a, dx, vs, rfl, g1, g2⟩ := hf.at C1 r1
    refine ⟨a, dx, vs, rfl, g1, g2.lookN hl, h1 Hd1 H1 R σ C1 (S.mono s1) (X.mono s1) _ fun Hd2 H2 M2 us ds s2 C2 r2 q => ?_⟩
    rw [List.append_nil]
    exact ⟨Hd2, R, M2, x :: ds, Q, _, C2, .cons (r1.mono s2) r2, q, fun Hd3 H3 M3 v d s3 C3 r3 q3 => z _ _ _ _ _ ((s1.trans s2).trans s3) C3 r3 q3, fun _ _ _ _ _ _ _ _ _ f => f.elim⟩
/-- C(..): a new instance -/
theorem wE_make0 {F : Fn} {ta : TA} {Cl : Addr} (h : wA c ta Γ M fun ds M1 => ∀ a, M1 a = none → F (.ref a :: ds) (mset M1 a (.ins Cl [])) (fun d M2 => d = .non ∧ Q (.ref a) M2) fun _ _ _ => False) : wE c (tMake Cl (spD c.K F) [] E0 ta) Γ M Q := fun Hd H R σ C S X P z =>
  h Hd H R σ C S X _ fun Hd1 H1 M1 vs ds s1 C1 r1 h1 => fun x dx nx ndx ne => by
    have C2 : Conc c.K Hd1 (upd H1 dx (.own x)) M1 R := C1.newX ndx
    have nx2 : (upd H1 dx (.own x)) x = none := by rw [upd_ne (Ne.symm ne)]; exact nx
    have C3 : Conc c.K Hd1 (upd (upd H1 dx (.own x)) x (.ins Cl dx [])) (mset M1 x (.ins Cl [])) R := C2.newM (n := .ins Cl []) nx2 ⟨dx, [], upd_same, .nil⟩
    rw [List.append_nil]
    refine ⟨Hd1, R, _, .ref x :: ds, _, _, C3, .cons (.ref x) r1, h1 x (C1.free nx), fun Hd4 H4 M4 v d s4 C4 r4 ⟨e, q⟩ => ?_, fun _ _ _ _ _ _ _ _ _ f => f.elim⟩
    subst e
    cases r4
    exact ⟨rfl, z _ _ _ _ _ (s1.trans s4) C4 (.ref x) q⟩
end
/-- an instance is frozen -/
theorem wE_frzObj {c : EC} {Γ : Sl} {M : Mem} {Q : D → Mem → Prop} {te : TE} (h : wE c te Γ M fun d M1 => ∃ a C fs, d = .ref a ∧ M1 a = some (.ins C fs) ∧ Q (.obj C fs) (mdel M1 a)) : wE c te Γ M Q := fun Hd H R σ Cn S X P z =>
  h Hd H R σ Cn S X P fun Hd1 H1 M1 v d s1 C1 r1 ⟨a, C, fs, e, hm, q⟩ => by
    subst e
    cases r1
    obtain ⟨h1, dx, vs, h2, h3⟩ := C1.nd a _ hm
    have s : Same Hd1 (upd Hd1 a (.ins C dx vs)) := same_new h1
    refine z _ _ _ _ (.obj C fs) (s1.trans s) (Conc.mk (fun b u q => ?_) (fun b u q => ?_) (fun b m q => ?_)) (.obj upd_same (h3.mono s)) q
    · by_cases zz : b = a
      · rw [zz, upd_same] at q
        rw [zz, h2]
        exact q
      · rw [upd_ne zz] at q
        exact C1.same b u q
    · obtain ⟨k1, k2, k3⟩ := C1.fr b u q
      have ne : b ≠ a := fun zz => by
        rw [zz, hm] at k3
        cases k3
      exact ⟨k1, by rw [upd_ne ne]; exact k2, by rw [mdel_ne ne]; exact k3⟩
    · have ne : b ≠ a := fun zz => by
        rw [zz] at q
        unfold mdel at q
        rw [if_pos rfl] at q
        cases q
      rw [mdel_ne ne] at q
      obtain ⟨k1, k2⟩ := C1.nd b m q
      exact ⟨by rw [upd_ne ne]; exact k1, k2.mono s rfl⟩
/-! ### a def -/
theorem body_D {K : PySem.W.Frag} {F : Fn} {N : List Str} {t : XK → TS} {E : XK} (h : ∀ ds M Qd Xd, F ds M Qd Xd → wS ⟨K, E, Xd⟩ (t E) (startD N ds) M ⟨fun _ M' => ∃ M2, Sub M2 M' ∧ Qd .non M2, fun d M' => ∃ M2, Sub M2 M' ∧ Qd d M2, fun _ _ => False, fun _ _ => False⟩)
    (vs : List V) (H : Hp) (Q : VK) (hs : spD K F vs H Q E) : t E { nx := fun _ H' => Q .non H', rt := Q } (L2.start N vs) H := by
  obtain ⟨Hd, R, M, ds, Qd, Xd, C, r, f, hq, hx⟩ := hs
  refine h ds M Qd Xd f Hd H R _ C (slots_start r) hx _ ⟨fun Hd' H' M' σ' Γ' s C' S' ⟨M2, sb, q⟩ => ?_, fun Hd' H' M' v d s C' r' ⟨M2, sb, q⟩ => ?_, fun _ _ _ _ _ _ _ _ z => z.elim, fun _ _ _ _ _ _ _ _ z => z.elim⟩
  · exact hq Hd' H' M2 .non .non s (C'.sub sb) .non q
  · exact hq Hd' H' M2 v d s (C'.sub sb) r' q
end DL

namespace DL
open PySem PySem.Spec PyProof.Rows L2
/-! ### a list of ints of which just a property is told -/
def LExt (P : List Int → Prop) (a : Addr) : Heap → Prop := fun h => ∃ ns : List Int, P ns ∧ ns.length ≤ sizeLine ∧ ∃ (its : List Value) (n : Nat), Vals (ns.map V.int) its ∧ h.get? a = some { cls := .type "list", data := .seq its.toArray n }
theorem LExt.open_ {X : Cx} {pins : List (Addr × Obj)} {σ : L2.St} {H : Hp} {s : Shared} {a : Addr} {P : List Int → Prop} (I : Inv X pins σ H s) (h : H a = some (.ext (LExt P a))) : ∃ ns, P ns ∧ ns.length ≤ sizeLine ∧ Inv X pins σ (upd H a (.lst (ns.map V.int))) s := by
  obtain ⟨⟨ns, p, hl, its, n, r, e⟩, _, _⟩ := (show ObjOk X.prog X.w H s.heap a (.ext (LExt P a)) from I.hok a _ h)
  exact ⟨ns, p, hl, I.write (x := a) (e := a) (t' := s.toks) (h' := s.heap) (by rw [h]; trivial) (.inl rfl) (fun b v _ q => q) ⟨_, e⟩ ⟨by rw [List.length_map]; exact hl, its, n, r, e⟩⟩
theorem LExt.close {X : Cx} {pins : List (Addr × Obj)} {σ : L2.St} {H : Hp} {s : Shared} {a : Addr} {P : List Int → Prop} {ns : List Int} (I : Inv X pins σ H s) (h : H a = some (.lst (ns.map V.int))) (p : P ns) : Inv X pins σ (upd H a (.ext (LExt P a))) s := by
  obtain ⟨hl, its, n, r, e⟩ := (show ObjOk X.prog X.w H s.heap a (.lst (ns.map V.int)) from I.hok a _ h)
  rw [List.length_map] at hl
  exact I.write (x := a) (e := a) (t' := s.toks) (h' := s.heap) (by rw [h]; trivial) (.inl rfl) (fun b v _ q => q) ⟨_, e⟩ ⟨⟨ns, p, hl, its, n, r, e⟩, ⟨_, e⟩, fun h1 h2 ⟨ms, q1, q2, it, m, q3, q4⟩ kp => ⟨ms, q1, q2, it, m, q3, kp _ q4⟩⟩
/-- the list at slot i is opened ahead of the block -/
def tOpenL (P : List Int → Prop) (i : Nat) (t : TS) : TS := fun D σ H => ∃ a, σ[i]? = some (some (.ref a)) ∧ H a = some (.ext (LExt P a)) ∧ ∀ ns, P ns → ns.length ≤ sizeLine → t D σ (upd H a (.lst (ns.map V.int)))
theorem pss_openL {X : Cx} {P : List Int → Prop} {i : Nat} {t : TS} {b : List Stmt} (h : PSs X b t) : PSs X b (tOpenL P i t) := ⟨fun pins s σ H D I ⟨a, e1, e2, q⟩ => by
  obtain ⟨ns, p, hl, I'⟩ := LExt.open_ I e2
  exact h.run pins s σ _ D I' (q ns p hl)⟩
/-- .. and closed where the block returns; where: by the answer or by an address -/
def tCloseL (P : List Int → Prop) (t : TS) : TS := fun D σ H => t { D with rt := fun v H' => ∃ a ns, P ns ∧ H' a = some (.lst (ns.map V.int)) ∧ D.rt v (upd H' a (.ext (LExt P a))) } σ H
theorem pss_closeL {X : Cx} {P : List Int → Prop} {t : TS} {b : List Stmt} (h : PSs X b t) : PSs X b (tCloseL P t) := ⟨fun pins s σ H D I q =>
  thn (h.run pins s σ H _ I q) fun f s' q' => by
    cases f with
    | next => exact q'
    | brk => exact q'
    | cont => exact q'
    | ret u =>
      obtain ⟨v, σ', H', I', r, a, ns, p, e, z⟩ := q'
      exact ⟨v, σ', _, LExt.close I' e p, r, z⟩⟩
section
variable {c : EC} {Γ : Sl} {M : Mem} {Q : D → Mem → Prop} {Z : Zs}
theorem wS_openL {P : List Int → Prop} {i : Nat} {t : TS} {a : Addr} (h1 : Γ[i]? = some (some (.ref a))) (h2 : M a = some (.ext (LExt P a))) (h : ∀ ns, P ns → ns.length ≤ sizeLine → wS c t Γ (mset M a (.lst (ns.map .int))) Z) : wS c (tOpenL P i t) Γ M Z := fun Hd H R σ C S X D z => by
  obtain ⟨v, e1, e2⟩ := S.get h1
  cases e2
  obtain ⟨_, e3⟩ := C.nd a _ h2
  exact ⟨a, e1, e3, fun ns p hl => h ns p hl Hd _ R σ (C.chg (n := .lst (ns.map .int)) h2 ⟨_, upd_same, RepAll.ints ns⟩) S X D z⟩
theorem wS_closeL {P : List Int → Prop} {t : TS} (h : wS c t Γ M { Z with rt := fun d M' => ∃ a ns, P ns ∧ M' a = some (.lst (ns.map .int)) ∧ Z.rt d (mset M' a (.ext (LExt P a))) }) : wS c (tCloseL P t) Γ M Z := fun Hd H R σ C S X D z => by
  refine h Hd H R σ C S X _ ⟨z.nx, fun Hd' H' M' v d s C' r ⟨a, ns, p, hm, q⟩ => ?_, z.bk, z.ct⟩
  obtain ⟨_, vs, g1, g2⟩ := C'.nd a _ hm
  have e := g2.toInts
  subst e
  exact ⟨a, ns, p, g1, z.rt _ _ _ _ _ s (C'.chg (n := .ext (LExt P a)) hm upd_same) r q⟩
/-! ### small things -/
theorem wS_never (h : False) : wS c tNever Γ M Z := h.elim
theorem wS_retN (h : Z.rt .non M) : wS c tRetN Γ M Z := fun Hd H R σ C S X D z => z.rt _ _ _ _ _ (Same.refl _) C .non h
/-- one sign in a text -/
theorem wR_inS {k : Nat} {z : Str} (q : Q (.bl (decide (k ∈ z.cps.toList))) M) : wR c rInS (.str ⟨#[k]⟩) (.str z) M Q := fun Hd H R v u C X r1 r2 P w => by
  cases r1; cases r2
  exact ⟨k, z, rfl, rfl, w _ _ _ _ _ (Same.refl _) C (.bl _) q⟩
theorem wR_notInS {k : Nat} {z : Str} (q : Q (.bl (!decide (k ∈ z.cps.toList))) M) : wR c rNotInS (.str ⟨#[k]⟩) (.str z) M Q := fun Hd H R v u C X r1 r2 P w => by
  cases r1; cases r2
  exact ⟨k, z, rfl, rfl, w _ _ _ _ _ (Same.refl _) C (.bl _) q⟩
/-! in, not in over lists and tuples of flat things, lists of any data -/
def rInG (K : PySem.W.Frag) : R2 := fun x y H Q => rIn K false x y H Q ∨ rInD K x y H Q
def rNotInG (K : PySem.W.Frag) : R2 := fun x y H Q => rIn K true x y H Q ∨ rNotInD K x y H Q
end
theorem op_inG {X : Cx} (hu : X.A.units + 65 < cLine) : OpR X (compareOp .In) (rInG X.K) := op_in_seq.or (op_inD hu)
theorem op_notInG {X : Cx} (hu : X.A.units + 65 < cLine) : OpR X (compareOp .NotIn) (rNotInG X.K) := op_notIn_seq.or (op_notInD hu)
/-- flat data, and == of it -/
def flatD : D → Bool
  | .non => true | .bl _ => true | .int _ => true | .str _ => true | _ => false
def eqFD : D → D → Bool
  | .non, .non => true
  | .bl a, .bl b => a == b
  | .bl a, .int b => (if a then 1 else 0) == b
  | .int a, .bl b => a == (if b then 1 else 0)
  | .int a, .int b => a == b
  | .str a, .str b => a == b
  | _, _ => false
def inFD (x : D) (xs : List D) : Bool := xs.any fun y => eqFD y x
theorem flat_V {K : PySem.W.Frag} {H : Hp} {v : V} {d : D} (r : Rep K H v d) (h : flatD d = true) : flatV v = true := by cases r <;> first | rfl | cases h
theorem eqF_V {K : PySem.W.Frag} {H : Hp} {v u : V} {d e : D} (r : Rep K H v d) (r' : Rep K H u e) (h : flatD d = true) (h' : flatD e = true) : eqV v u = eqFD d e := by
  cases r <;> cases r' <;> first | rfl | cases h | cases h'
theorem flats_V {K : PySem.W.Frag} {H : Hp} : ∀ {vs : List V} {ds : List D}, RepAll K H vs ds → ds.all flatD = true → vs.all flatV = true
  | _, _, .nil, _ => rfl
  | _, _, .cons a b, h => by
    obtain ⟨h1, h2⟩ := Bool.and_eq_true_iff.mp (show (flatD _ && List.all _ flatD) = true from h)
    rw [List.all_cons, flat_V a h1, flats_V b h2]
    rfl
theorem inF_V {K : PySem.W.Frag} {H : Hp} {u : V} {e : D} (r' : Rep K H u e) (h' : flatD e = true) : ∀ {vs : List V} {ds : List D}, RepAll K H vs ds → ds.all flatD = true → inV u vs = inFD e ds
  | _, _, .nil, _ => rfl
  | _, _, .cons (vs := vs) (ds := ds) a b, h => by
    obtain ⟨h1, h2⟩ := Bool.and_eq_true_iff.mp (show (flatD _ && List.all _ flatD) = true from h)
    show (eqV _ u || inV u vs) = (eqFD _ e || inFD e ds)
    rw [eqF_V a r' h1 h', inF_V r' h' b h2]
section
variable {c : EC} {Γ : Sl} {M : Mem} {Q : D → Mem → Prop} {Z : Zs}
theorem wR_in {d e : D} {ds : List D} (hs : SV M e ds) (hx : flatD d = true) (hf : ds.all flatD = true) (q : Q (.bl (inFD d ds)) M) : wR c (rInG c.K) d e M Q := wR_inl fun Hd H R v u C X r1 r2 P w => by
  obtain ⟨a, vs, rfl, h1, h2⟩ := hs.at C r2
  refine ⟨a, vs, rfl, h1, flat_V r1 hx, flats_V h2 hf, ?_⟩
  show P (.bl (inV v vs)) H
  rw [inF_V r1 hx h2 hf]
  exact w _ _ _ _ _ (Same.refl _) C (.bl _) q
theorem wR_notIn {d e : D} {ds : List D} (hs : SV M e ds) (hx : flatD d = true) (hf : ds.all flatD = true) (q : Q (.bl (!inFD d ds)) M) : wR c (rNotInG c.K) d e M Q := wR_inl fun Hd H R v u C X r1 r2 P w => by
  obtain ⟨a, vs, rfl, h1, h2⟩ := hs.at C r2
  refine ⟨a, vs, rfl, h1, flat_V r1 hx, flats_V h2 hf, ?_⟩
  show P (.bl (!inV v vs)) H
  rw [inF_V r1 hx h2 hf]
  exact w _ _ _ _ _ (Same.refl _) C (.bl _) q
/-! ### a written dict: its pairs one behind another -/
def wPs (c : EC) (trs : List (TE × TE)) (Γ : Sl) (M : Mem) (Q : List (D × D) → Mem → Prop) : Prop := match trs with
  | [] => Q [] M
  | (tk, tv) :: r => wE c tk Γ M fun k M1 => wE c tv Γ M1 fun v M2 => wPs c r Γ M2 fun ps M3 => Q ((k, v) :: ps) M3
def RepPs (K : PySem.W.Frag) (H : Hp) (xs : List (V × V)) (ys : List (D × D)) : Prop := Paired (fun p q => Rep K H p.1 q.1 ∧ Rep K H p.2 q.2) xs ys
theorem wPs_run : ∀ {trs : List (TE × TE)} {Γ : Sl} {M : Mem} {Q : List (D × D) → Mem → Prop}, wPs c trs Γ M Q → ∀ (Hd H R : Hp) (σ : L2.St), Conc c.K Hd H M R → Slots c.K Hd σ Γ → ExOk c Hd R → ∀ P : List (V × V) → Hp → Prop,
    (∀ Hd' H' M' ps ds, Same Hd Hd' → Conc c.K Hd' H' M' R → RepPs c.K Hd' ps ds → Q ds M' → P ps H') → tPairs trs σ H P
  | [], _, _, _, h, Hd, H, R, σ, C, S, X, P, z => z _ _ _ _ _ (Same.refl _) C .nil h
  | (tk, tv) :: r, _, _, _, h, Hd, H, R, σ, C, S, X, P, z => h Hd H R σ C S X _ fun Hd1 H1 M1 v d s1 C1 r1 h1 => h1 Hd1 H1 R σ C1 (S.mono s1) (X.mono s1) _ fun Hd2 H2 M2 u e s2 C2 r2 h2 =>
    wPs_run h2 Hd2 H2 R σ C2 (S.mono (s1.trans s2)) (X.mono (s1.trans s2)) _ fun Hd3 H3 M3 ps ds s3 C3 r3 q => z _ _ _ _ _ ((s1.trans s2).trans s3) C3 (.cons ⟨r1.mono (s2.trans s3), r2.mono s3⟩ r3) q
def mergeA {α : Type} (kvs more : List (Key × α)) : List (Key × α) := more.foldl (fun acc kv => putA acc kv.1 kv.2) kvs
theorem RepKV.merge {K : PySem.W.Frag} {H : Hp} : ∀ {more : List (Key × V)} {rs : List (Key × D)} {kvs : List (Key × V)} {vs : List (Key × D)}, RepKV K H more rs → RepKV K H kvs vs → RepKV K H (mergeK kvs more) (mergeA vs rs) := by
  intro more rs kvs vs r
  unfold RepKV at r
  induction r generalizing kvs vs with
  | nil => intro h; exact h
  | @cons p q ps qs h t ih =>
    intro g
    obtain ⟨h1, h2⟩ := h
    show RepKV K H (mergeK (putK kvs p.1 p.2) ps) (mergeA (putA vs q.1 q.2) qs)
    rw [← h1]
    exact ih (g.put p.1 h2)
theorem wE_disp {trs : List (TE × TE)} (h : wPs c trs Γ M fun ps M1 => ∃ kvs : List (Key × D), ps = kvs.map (fun kv => (kD kv.1, kv.2)) ∧ kvs.length ≤ 15 ∧ ∀ a, M1 a = none → Q (.ref a) (mset M1 a (.dK (mergeA [] kvs)))) : wE c (tDisp trs) Γ M Q := fun Hd H R σ C S X P z p hp => by
  have hR := C.freeR hp
  refine wPs_run h Hd _ (upd R p (.dK [])) σ (C.hide hp) S (X.hide hR) _ fun Hd1 H1 M1 ps ds s1 C1 r1 ⟨kvs, e, hl, q⟩ => ?_
  obtain ⟨k1, k2, k3⟩ := C1.fr p _ upd_same
  subst e
  have key : ∀ {kvs : List (Key × D)} {ps : List (V × V)}, RepPs c.K Hd1 ps (kvs.map fun kv => (kD kv.1, kv.2)) → ∃ vs : List (Key × V), ps = vs.map (fun kv => (kV kv.1, kv.2)) ∧ RepKV c.K Hd1 vs kvs := by
    intro kvs
    induction kvs with
    | nil => intro ps r; cases r; exact ⟨[], rfl, .nil⟩
    | cons kv kvs ih =>
      intro ps r
      cases r with
      | @cons p' _ ps' _ a b =>
        obtain ⟨vs, e, rk⟩ := ih b
        refine ⟨(kv.1, p'.2) :: vs, ?_, .cons ⟨rfl, a.2⟩ rk⟩
        rw [e, List.map_cons]
        congr 1
        rw [← rep_kD a.1]
  obtain ⟨vs, e, rk⟩ := key r1
  refine ⟨k1, vs, e, by rw [rk.len]; exact hl, ?_⟩
  have C2 : Conc c.K Hd1 (upd H1 p (.dK (mergeK [] vs))) (mset M1 p (.dK (mergeA [] kvs))) R := by
    have C3 := C1.rechange (o' := .dK (mergeK [] vs))
    refine ⟨C3.same, fun b u q' => ?_, fun b m q' => ?_⟩
    · have ne : b ≠ p := ne_of_none q' hR
      obtain ⟨j1, j2, j3⟩ := C3.fr b u (by rw [upd_ne ne]; exact q')
      exact ⟨j1, j2, by rw [mset_ne ne]; exact j3⟩
    · by_cases zz : b = p
      · subst zz
        rw [mset_same] at q'
        cases q'
        exact ⟨k2, _, upd_same, rk.merge .nil⟩
      · rw [mset_ne zz] at q'
        exact C3.nd b m q'
  exact z _ _ _ _ _ s1 C2 (.ref p) (q p k3)
/-! ### texts -/
def rJoinG (K : PySem.W.Frag) : V → List V → Hp → VK → Prop := fun x xs H Q => ∃ a p, ∃ ys : List Str, x = .str a ∧ xs = [.ref p] ∧ (SqL K H p (ys.map V.str) ∨ SqT K H p (ys.map V.str)) ∧ (ys.map (·.length)).sum + ys.length * a.length ≤ 16777216 ∧ Q (.str (Txt.join a ys)) H
def rSplitG : V → List V → Hp → VK → Prop := fun x xs H Q => ∃ a b, x = .str a ∧ xs = [.str b] ∧ (b.length == 0) = false ∧ a.length + 2 ≤ sizeLine ∧ rNewStrs (Txt.split a b) H Q
theorem wE_join {to te : TE} (h : wE c to Γ M fun x M1 => ∃ a, x = .str a ∧ wE c te Γ M1 fun y M2 => ∃ ys, SV M2 y (ys.map .str) ∧ (ys.map (·.length)).sum + ys.length * a.length ≤ 16777216 ∧ Q (.str (Txt.join a ys)) M2) : wE c (tM1 (rJoinG c.K) to te) Γ M Q := fun Hd H R σ C S X P z =>
  h Hd H R σ C S X _ fun Hd1 H1 M1 v d s1 C1 r1 ⟨a, e, h1⟩ => by
    subst e
    cases r1
    refine ⟨⟨a, rfl⟩, h1 Hd1 H1 R σ C1 (S.mono s1) (X.mono s1) _ fun Hd2 H2 M2 u y s2 C2 r2 ⟨ys, hy, hl, q⟩ => ?_⟩
    obtain ⟨p, us, rfl, k1, k2⟩ := hy.at C2 r2
    have e := k2.toStrs
    subst e
    exact ⟨a, p, ys, rfl, rfl, k1, hl, z _ _ _ _ _ (s1.trans s2) C2 (.str _) q⟩
theorem wE_split {to te : TE} (h : wE c to Γ M fun x M1 => ∃ a, x = .str a ∧ wE c te Γ M1 fun y M2 => ∃ b, y = .str b ∧ (b.length == 0) = false ∧ a.length ≤ 100000 ∧ Q (.lst ((Txt.split a b).map .str)) M2) : wE c (tM1 rSplitG to te) Γ M Q := fun Hd H R σ C S X P z =>
  h Hd H R σ C S X _ fun Hd1 H1 M1 v d s1 C1 r1 ⟨a, e, h1⟩ => by
    subst e
    cases r1
    refine ⟨⟨a, rfl⟩, h1 Hd1 H1 R σ C1 (S.mono s1) (X.mono s1) _ fun Hd2 H2 M2 u y s2 C2 r2 ⟨b, e, hb, hl, q⟩ => ?_⟩
    subst e
    cases r2
    refine ⟨a, b, rfl, rfl, hb, Nat.le_trans (Nat.add_le_add_right hl 2) (by decide), fun p hp => ?_⟩
    have s := same_new (o := .lst ((Txt.split a b).map V.str)) (Same.free C2.same hp)
    exact z _ _ _ _ _ ((s1.trans s2).trans s) (C2.newD hp) (.lst upd_same (RepAll.strs _)) q
end
section
variable {X : Cx} {o e : Expr} {to te : TE}
theorem pe_joinG {apos pos : Pos} (ho : PE X o to) (he : PE X e te) (hs : starEach [e] X.env = [(false, eval e X.env)] := by rfl) (hbase : attributeBase o "join" X.env (eval o X.env) = eval o X.env := by rfl) (hline : (apos.endLine == pos.line) = true := by rfl) :
    PE X (.Call (.Attribute o "join" apos) [e] [] pos) (tM1 (rJoinG X.K) to te) := pe_m1 F.slot_str_join F.type_str_join mt_join ho he hs hbase hline
theorem pe_splitG {apos pos : Pos} (ho : PE X o to) (he : PE X e te) (hs : starEach [e] X.env = [(false, eval e X.env)] := by rfl) (hbase : attributeBase o "split" X.env (eval o X.env) = eval o X.env := by rfl) (hline : (apos.endLine == pos.line) = true := by rfl) :
    PE X (.Call (.Attribute o "split" apos) [e] [] pos) (tM1 rSplitG to te) := pe_m1 F.slot_str_split F.type_str_split mt_split ho he hs hbase hline
end
end DL

namespace DL
open PySem PySem.Spec PyProof.Rows L2
/-! ### list(reversed(xs)) -/
section
variable {prog : Program} {w : World} {A : Around} {E : Value → Shared → Prop} {s : Shared}
theorem rev_extend {R : Result → Shared → Prop} {it l : Addr} {items : Array Value} (hh : A.handled = none) (hit : s.heap.IsRevIter it l ((items.size : Int) - 1)) (hl : s.heap.IsList l items) (hne : l ≠ it) (hn : items.size ≤ sizeLine)
    (S : Addr) (hSi : S ≠ it) (hSl : S ≠ l) (res : Value) (c₀ : Nat) (hS : s.heap.get? S = some { cls := .type "list", data := .seq #[] c₀ })
    (hR : ∀ h' tk acc' c', (∀ b o, b ≠ S → b ≠ it → s.heap.get? b = some o → h'.get? b = some o) → h'.get? S = some { cls := .type "list", dict := none, data := .seq acc' c', slots := #[] } → ItemsOf (fun i v => items[items.size - 1 - i]? = some v) acc' items.size → R (.ok (.ret res)) { s with heap := h', toks := tk }) :
    wpAny (model prog w) A.in1 (Builtin.List.listExtendWith (.ref S) (.ref it) res)
      (fun fin s' => match fin with | .done f => R (.ok f) s' | .again c' => c'.quiet = true ∧ codeAny (model prog w) A c' R s') (fun e s' => R (.error e) s') s := by
  have W := (PySem.Walks.listRev (prog := prog) (w := w) (A := A.in1) hh it l hne items).toS
  have hSf : S ∉ [it, l] := by simp only [List.mem_cons, List.not_mem_nil, or_false, not_or]; exact ⟨hSi, hSl⟩
  have hT : s.TypeIs (.ref it) "list_reverseiterator" := hit.typeIs
  have h1 : Builtin.List.listSameRef (.ref S) (.ref it) = false := by simp [Builtin.List.listSameRef, hSi]
  unfold Builtin.List.listExtendWith
  refine wpAny_bind (wpAny_typeOf hT ?_)
  rw [if_neg (by rw [h1]; decide)]
  refine wpAny_bind (wpAny_pyIter_revIter hit ?_)
  refine wpAny_bind (wpAny_holding ?_)
  unfold Builtin.List.listLengthHint
  refine wpAny_bind (wpAny_specialOf hT RT.nolen_lri ?_)
  show wpAny _ A.in1 (specialOf (Value.ref it) (Str.ofString "__length_hint__") >>= _) _ _ _
  refine wpAny_bind (wpAny_specialOf hT RT.hint_lri ?_)
  generalize hid : ("list_reverseiterator.__length_hint__" : String) = id0
  wp_delta
  rw [show splitId id0 = some ("list_reverseiterator", "__length_hint__") from by subst hid; decide +kernel]
  subst hid
  refine wpAny_bind (wpAny_isInstance (b := true) hT (by rw [isSubtype_type]; kernel_rfl) ?_)
  refine wpAny_pure ?_
  rw [if_neg (by decide)]
  have e0 : ((items.size : Nat) : Int) - 1 - ((0 : Nat) : Int) = (items.size : Int) - 1 := by omega
  refine wpAny_pure ⟨plainId_quiet PySem.F.plain_extend_loop _, codeAny_extend_loopS W hn _ hSf _ items.size 0 _ _ _ rfl (Nat.zero_le _) ⟨Nat.zero_le _, by rw [e0]; exact hit, hl⟩ hS (ItemsOf.nil _) fun s' acc' c' hm hS' hacc => ?_⟩
  rw [Moved.eq_with hm]
  refine hR s'.heap s'.toks acc' c' (fun b o hb hb2 e => hm.heap b o (fun hmem => ?_) e) hS' hacc
  rcases List.mem_cons.mp hmem with e' | hmem
  · exact hb e'
  · exact hb2 (List.mem_singleton.mp hmem)
theorem call_list_rev {it l : Addr} {items : Array Value} {Q : Value → Shared → Prop} (hh : A.handled = none) (hit : s.heap.IsRevIter it l ((items.size : Int) - 1)) (hl : s.heap.IsList l items) (hne : l ≠ it) (hn : items.size ≤ sizeLine)
    (hQ : ∀ (h' : Heap) (tk : Nat) (acc : Array Value) (c' : Nat), (∀ b o, b ≠ it → s.heap.get? b = some o → h'.get? b = some o) → h'.get? s.heap.objs.size = some { cls := .type "list", dict := none, data := .seq acc c', slots := #[] } →
      ItemsOf (fun i v => items[items.size - 1 - i]? = some v) acc items.size → Q (.ref s.heap.objs.size) { s with heap := h', toks := tk }) :
    wpAny (model prog w) A (call (.type "list") [.ref it]) Q E s := by
  obtain ⟨oi, hoi, _⟩ := id hit
  obtain ⟨ol, hol, _⟩ := id hl
  have hSi : s.heap.objs.size ≠ it := Nat.ne_of_gt (Heap.lt_size hoi)
  have hSl : s.heap.objs.size ≠ l := Nat.ne_of_gt (Heap.lt_size hol)
  refine callType_codes (Q₁ := fun obj s₁ => obj = .ref s.heap.objs.size ∧ s₁ = { s with heap := s.heap.push { cls := .type "list", data := .seq #[] } }) PySem.F.called_list (PySem.F.typeCall_list_1 _) PySem.F.entry_list_init
    (code_list_new _ ⟨rfl, rfl⟩) fun obj s₁ h₁ => ?_
  obtain ⟨rfl, rfl⟩ := h₁
  have hS : (s.heap.push { cls := .type "list", data := .seq #[] }).get? s.heap.objs.size = some { cls := .type "list", data := .seq #[] } := Heap.get?_push_size _ rfl
  refine ⟨⟨_, hS, rfl⟩, PySem.F.args_list_init_2 _ _, ?_⟩
  show wpAny _ _ (do let old ← Builtin.List.listItems (.ref s.heap.objs.size); Builtin.List.listUpdate (.ref s.heap.objs.size) (fun _ => #[]); letGo old.toList.reverse; Builtin.List.listExtendWith (.ref s.heap.objs.size) (.ref it) .none) _ _ _
  refine wpAny_bind ?_
  unfold Builtin.List.listItems
  refine wpAny_bind (wpAny_seqItems hS rfl (wpAny_pure ?_))
  show wpAny _ _ (updateSeq s.heap.objs.size (fun _ => #[]) >>= fun _ => letGo (#[] : Array Value).toList.reverse >>= fun _ => Builtin.List.listExtendWith (.ref s.heap.objs.size) (.ref it) .none) _ _ _
  refine wpAny_bind (wpAny_updateSeq hS rfl ?_)
  have hS₂ := Heap.get?_update_self (Obj.mapSeq (fun _ => (#[] : Array Value))) hS rfl
  have oth : ∀ b o, b ≠ s.heap.objs.size → s.heap.get? b = some o → ((s.heap.push { cls := .type "list", data := .seq #[] }).update s.heap.objs.size (Obj.mapSeq (fun _ => (#[] : Array Value)))).get? b = some o :=
    fun b o hb e => (Heap.get?_update_other _ _ (Ne.symm hb)).trans (Heap.get?_push_of_some _ e)
  refine wpAny_bind (wpAny_letGo ?_)
  have hit1 : ((s.heap.push { cls := .type "list", data := .seq #[] }).update s.heap.objs.size (Obj.mapSeq (fun _ => (#[] : Array Value)))).IsRevIter it l ((items.size : Int) - 1) := hit.at fun o e => oth _ _ (Ne.symm hSi) e
  have hl1 : ((s.heap.push { cls := .type "list", data := .seq #[] }).update s.heap.objs.size (Obj.mapSeq (fun _ => (#[] : Array Value)))).IsList l items := by
    obtain ⟨o, e, r⟩ := id hl
    exact ⟨o, oth _ _ (Ne.symm hSl) e, r⟩
  refine rev_extend (A := A.in1) (s := { s with heap := (s.heap.push { cls := .type "list", data := .seq #[] }).update s.heap.objs.size (Obj.mapSeq (fun _ => (#[] : Array Value))) }) hh hit1 hl1 hne hn s.heap.objs.size hSi hSl .none _ hS₂ (fun h' tk acc' c' hk hS' hacc => ?_)
  exact ⟨rfl, hQ h' tk acc' c' (fun b o hb e => hk b o (Nat.ne_of_lt (Heap.lt_size e)) hb (oth b o (Nat.ne_of_lt (Heap.lt_size e)) e)) hS' hacc⟩
end
section
variable {X : Cx} {e : Expr} {ta : TA}
def tListRev (K : PySem.W.Frag) (ta : TA) : TE := fun σ H Q => ta σ H fun vs H1 => ∃ a xs, vs = [.ref a] ∧ SqL K H1 a xs ∧ ∀ q, H1 q = none → Q (.ref q) (upd H1 q (.lst xs.reverse))
theorem pe_listRev {p p2 pos pos2 : Pos} (hc : X.calm = true) (hg : Gl X "list") (hg2 : Gl X "reversed") (hm : X.mg "list" = none) (hm2 : X.mg "reversed" = none) (ha : PA X [e] ta)
    (hs : starEach [e] X.env = [(false, eval e X.env)] := by rfl) (na : starEach [(.Call (.Name "reversed" p2) [e] [] pos2 : Expr)] X.env = (false, eval (.Call (.Name "reversed" p2) [e] [] pos2) X.env) :: starEach [] X.env := by rfl) :
    PE X (.Call (.Name "list" p) [.Call (.Name "reversed" p2) [e] [] pos2] [] pos) (tListRev X.K ta) := by
  refine ⟨fun pins s σ H Q I h => ?_⟩
  have arg : wpAny (model X.prog X.w) X.A (eval (.Call (.Name "reversed" p2) [e] [] pos2) X.env) (fun v s' => ∃ (a : Addr) (xs : List V) (its : List Value) (H1 : Hp) (s1 : Shared), v = .ref s1.heap.objs.size ∧ s' = { s1 with heap := s1.heap.push (revObj a ((its.toArray.size : Int) - 1)) } ∧ Inv X pins σ H1 s1 ∧ Vals xs its ∧ PlainL s1.heap a its.toArray ∧ xs.length ≤ sizeLine ∧ ∀ q, H1 q = none → Q (.ref q) (upd H1 q (.lst xs.reverse))) X.xe s := by
    refine Call_ (ld_blt I hg2 hm2 PyProof.Rows.boot_reversed (PyProof.Rows.callWith_type1 (thn (ha.run pos2 pins s σ H _ I h) fun us s1 ⟨vs, H1, I1, r1, q1⟩ => ?_) hs rfl))
    obtain ⟨a, xs, e, hq, q⟩ := q1
    subst e
    cases r1 with
    | cons r rr =>
      cases rr
      cases r
      obtain ⟨its, rv, p', hz⟩ := I1.list hq
      exact call_reversed_list p'.isList ⟨a, xs, its, H1, s1, rfl, rfl, I1, rv, p', hz, q⟩
  refine Call_ (ld_blt I hg hm PyProof.Rows.boot_list (PyProof.Rows.callWith_type1 (args_cons (thn arg fun v s' ⟨a, xs, its, H1, s1, ev, es, I1, rv, pl, hz, q⟩ => args_nil ?_) na) na))
  subst ev es
  have hl := rv.length
  have hit : (s1.heap.push (revObj a ((its.toArray.size : Int) - 1))).IsRevIter s1.heap.objs.size a ((its.toArray.size : Int) - 1) := ⟨_, Heap.get?_push_size _ rfl, rfl, rfl⟩
  have hlst : (s1.heap.push (revObj a ((its.toArray.size : Int) - 1))).IsList a its.toArray := pl.isList.push _
  obtain ⟨ol, hol, _⟩ := id pl.isList
  refine call_list_rev (I1.ok.hd hc) hit hlst (Nat.ne_of_lt (Heap.lt_size hol)) (by rw [List.size_toArray, ← hl]; exact hz) fun h' tk acc c' hk e' hi => ?_
  have hk1 : ∀ b o, s1.heap.get? b = some o → h'.get? b = some o := fun b o eb => hk b o (Nat.ne_of_lt (Heap.lt_size eb)) (Heap.get?_push_of_some _ eb)
  have hs1 : s1.heap.objs.size ≤ (s1.heap.push (revObj a ((its.toArray.size : Int) - 1))).objs.size := by
    simp only [Heap.size_push]
    exact Nat.le_succ _
  refine ⟨.ref _, upd H1 _ (.lst xs.reverse), I1.laid (t' := tk) hk1 hs1 (show ObjOk X.prog X.w _ _ _ (.lst xs.reverse) from ⟨by rw [List.length_reverse]; exact hz, acc.toList, c', ?_, by rw [Array.toArray_toList]; exact e'⟩), rfl, q _ (I1.hok.fresh hs1)⟩
  have hn : acc.size = its.length := by rw [hi.1, List.size_toArray]
  refine vals_of_at (by rw [List.length_reverse]; simp only [Array.length_toList]; omega) fun j x u h1 h2 => ?_
  have hj : j < its.length := by
    have := (List.getElem?_eq_some_iff.mp h2).1
    rw [Array.length_toList, hn] at this
    exact this
  have h3 := hi.2 j u (by rw [← Array.getElem?_toList]; exact h2)
  rw [List.getElem?_reverse (by rw [hl]; exact hj)] at h1
  obtain ⟨u', e1, e2⟩ := rv.get h1
  have e3 : its[its.length - 1 - j]? = some u := by
    rw [List.size_toArray] at h3
    simpa using h3
  rw [hl] at e1
  rw [e1] at e3
  cases e3
  exact e2
end
section
variable {c : EC} {Γ : Sl} {M : Mem} {Q : D → Mem → Prop}
theorem wE_listRev {ta : TA} (h : wA c ta Γ M fun ds M1 => ∃ d xs, ds = [d] ∧ LV M1 d xs ∧ ∀ a, M1 a = none → Q (.ref a) (mset M1 a (.lst xs.reverse))) : wE c (tListRev c.K ta) Γ M Q := fun Hd H R σ C S X P z =>
  h Hd H R σ C S X _ fun Hd1 H1 M1 vs ds s1 C1 r1 ⟨d, xs, e, hx, q⟩ => by
    subst e
    cases r1 with
    | cons a b =>
      cases b
      obtain ⟨p, us, rfl, h1, h2⟩ := hx.at C1 a
      exact ⟨p, us, rfl, SqL.of h1, fun l hl => z _ _ _ _ _ s1 (C1.newM (n := .lst xs.reverse) hl ⟨_, upd_same, h2.rev⟩) (.ref l) (q l (C1.free hl))⟩
end
end DL

namespace DL
open PySem PySem.Spec PyProof.Rows L2
abbrev FnP (K : PySem.W.Frag) (x q : Str) (st : Stmt) (f : Addr) (fd : FuncData) : Prop := FunD K x q (defArgs st) (defBody st) (defScope st) [] [] f fd
/-- the function object at f -/
def fdAt (K : PySem.W.Frag) (f : Addr) : FuncData := match K.lookup f with
  | some ⟨_, _, .func fd, _⟩ => fd
  | _ => ⟨"", "", ⟨[], [], none, [], [], none, []⟩, .stmts [], ⟨.function, [], false, false, []⟩, 0, [], .none, .none, .none, .none, none, .none, .none, 0⟩
theorem FunD.at_ {K : PySem.W.Frag} {x qual : Str} {params : Arguments} {body : List Stmt} {scope : Scope} {dvs : List V} {kws : List (Str × V)} {f : Addr} {fd : FuncData} (F : FunD K x qual params body scope dvs kws f fd) : FunD K x qual params body scope dvs kws f (fdAt K f) := by
  obtain ⟨oc, od, dV, kV, doc, pm, an, cdv, ct, osl, e, lk, r⟩ := F.ex
  have q : fdAt K f = fd := by unfold fdAt; rw [lk]
  rw [q]
  exact F
abbrev c0 (K : PySem.W.Frag) : EC := ⟨K, E0, fun _ _ _ => False⟩
/-- where a def's body ends -/
abbrev Zr (Q : D → Mem → Prop) : Zs := ⟨fun _ M' => ∃ M2, Sub M2 M' ∧ Q .non M2, fun d M' => ∃ M2, Sub M2 M' ∧ Q d M2, fun _ _ => False, fun _ _ => False⟩
theorem ret_eq {Q : D → Mem → Prop} {d : D} {M : Mem} (q : Q d M) : ∃ M2, Sub M2 M ∧ Q d M2 := ⟨M, Sub.refl _, q⟩
section
variable {P : Program} {w : World} {K : PySem.W.Frag} {mg : Str → Option Value} {base : Heap} {x qual : Str} {st : Stmt} {f : Addr} {fd : FuncData} {N ps : List Str} {k : Nat} {F : Fn} {t : TS}
/-- THE RULE for a def that raises nothing -/
theorem ok_def (Fp : FnP K x qual st f fd) (S : FnScope N ps (defScope st)) (t : TS) (len : ∀ ds M Q X, F ds M Q X → ds.length = ps.length)
    (syn : ∀ (cdv : Value) (A : Around) (outer : List Env) (s : Shared) (H : Hp) (E : XK), Room k (A.deeper (envOfC qual (defScope st) s.heap.objs.size f cdv)) → PSs (cxOf CX0 P w K mg base N qual (defScope st) f cdv A outer s H E).nox (defBody st) t)
    (sem : ∀ ds M Q X, F ds M Q X → wS (c0 K) t (startD N ds) M (Zr Q)) : FnOk P w K mg base CX0 (k + 1) f fd ps (spD K F) := by
  refine L2.FunD.ok Fp S (fun vs H Q E h => ?_) (fun cdv A outer s H vs Q E hr h => ⟨t, (syn cdv A outer s H E hr).nox, ?_⟩)
  · obtain ⟨Hd, R, M, ds, Qd, Xd, C, r, f, _⟩ := h
    rw [r.len]
    exact len ds M Qd Xd f
  · obtain ⟨Hd, R, M, ds, Qd, Xd, C, r, f, hq, hx⟩ := h
    refine sem ds M Qd Xd f Hd H R _ C (slots_start r) (fun _ _ _ _ _ _ _ _ _ z => z.elim) _ ⟨fun Hd' H' M' σ' Γ' s C' S' ⟨M2, sb, q⟩ => ?_, fun Hd' H' M' v d s C' r' ⟨M2, sb, q⟩ => ?_, fun _ _ _ _ _ _ _ _ z => z.elim, fun _ _ _ _ _ _ _ _ z => z.elim⟩
    · exact hq Hd' H' M2 .non .non s (C'.sub sb) .non q
    · exact hq Hd' H' M2 v d s (C'.sub sb) r' q
theorem ok_mono {j k : Nat} {ps : List Str} {sp : Sp} (F : FnOk P w K mg base CX0 j f fd ps sp) (h : j ≤ k) : FnOk P w K mg base CX0 k f fd ps sp := F.mono h
end
section
variable {c : EC} {Γ : Sl} {M : Mem} {Q : D → Mem → Prop} {Z : Zs}
theorem wR_ixB {d : D} {xs : List D} {i : Int} (h : SV M d xs) (h0 : 0 ≤ i) (h1 : i < xs.length) (q : ∀ x, xs[i.toNat]? = some x → Q x M) : wR c (rIx c.K) d (.int i) M Q := by
  have hl : i.toNat < xs.length := by omega
  exact wR_ix h (atI_of h0 (List.getElem?_eq_getElem hl)) (q _ (List.getElem?_eq_getElem hl))
theorem wR_ixSB {s : Str} {i : Int} (hl : s.length ≤ 100000) (h0 : 0 ≤ i) (h1 : i < s.length) (q : ∀ k, s.cps.toList[i.toNat]? = some k → Q (.str ⟨#[k]⟩) M) : wR c (rIx c.K) (.str s) (.int i) M Q := by
  have hs : i.toNat < s.cps.toList.length := by
    rw [Array.length_toList]
    have : s.length = s.cps.size := rfl
    omega
  exact wR_ixS hl (atI_of h0 (List.getElem?_eq_getElem hs)) (q _ (List.getElem?_eq_getElem hs))
theorem wG_nameE {i : Nat} {d : D} {Γ' : Sl} {Q : Sl → Mem → Prop} (e : Γ.set i (some d) = Γ') (h : Q Γ' M) : wG c (gName i) d Γ M Q := wG_name (by rw [e]; exact h)
theorem wS_asgN {te : TE} {i : Nat} (h : wE c te Γ M fun d M1 => Z.nx (Γ.set i (some d)) M1) : wS c (tAsg te (gName i)) Γ M Z := wS_asg (wE_mono h fun _ _ q => wG_name q)
theorem wE_ite {p : Bool} {A B : Prop} (h1 : p = true → A) (h2 : p = false → B) : (p = true → A) ∧ (p = false → B) := ⟨h1, h2⟩
theorem dec_ite {p A B : Prop} [Decidable p] (h1 : p → A) (h2 : ¬ p → B) : (decide p = true → A) ∧ (decide p = false → B) := ⟨fun h => h1 (of_decide_eq_true h), fun h => h2 (of_decide_eq_false h)⟩
theorem ndec_ite {p A B : Prop} [Decidable p] (h1 : ¬ p → A) (h2 : p → B) : ((!decide p) = true → A) ∧ ((!decide p) = false → B) := ⟨fun h => h1 (by simpa using h), fun h => h2 (by simpa using h)⟩
theorem true_ite {A B : Prop} (h : A) : (true = true → A) ∧ (true = false → B) := ⟨fun _ => h, fun z => (by cases z)⟩
theorem false_ite {A B : Prop} (h : B) : (false = true → A) ∧ (false = false → B) := ⟨fun z => (by cases z), fun _ => h⟩
end

/-! ### promises by the number of arguments -/
def fn1 (P : D → Mem → (D → Mem → Prop) → Prop) : Fn := fun ds M Q _ => ∃ a, ds = [a] ∧ P a M Q
def fn2 (P : D → D → Mem → (D → Mem → Prop) → Prop) : Fn := fun ds M Q _ => ∃ a b, ds = [a, b] ∧ P a b M Q
def fn3 (P : D → D → D → Mem → (D → Mem → Prop) → Prop) : Fn := fun ds M Q _ => ∃ a b c, ds = [a, b, c] ∧ P a b c M Q
def fn4 (P : D → D → D → D → Mem → (D → Mem → Prop) → Prop) : Fn := fun ds M Q _ => ∃ a b c d, ds = [a, b, c, d] ∧ P a b c d M Q
def fn5 (P : D → D → D → D → D → Mem → (D → Mem → Prop) → Prop) : Fn := fun ds M Q _ => ∃ a b c d e, ds = [a, b, c, d, e] ∧ P a b c d e M Q
theorem use1 {P : D → Mem → (D → Mem → Prop) → Prop} {a : D} {M : Mem} {Q : D → Mem → Prop} {X} (h : P a M Q) : fn1 P [a] M Q X := ⟨a, rfl, h⟩
theorem use2 {P : D → D → Mem → (D → Mem → Prop) → Prop} {a b : D} {M : Mem} {Q : D → Mem → Prop} {X} (h : P a b M Q) : fn2 P [a, b] M Q X := ⟨a, b, rfl, h⟩
theorem use3 {P : D → D → D → Mem → (D → Mem → Prop) → Prop} {a b c : D} {M : Mem} {Q : D → Mem → Prop} {X} (h : P a b c M Q) : fn3 P [a, b, c] M Q X := ⟨a, b, c, rfl, h⟩
theorem use4 {P : D → D → D → D → Mem → (D → Mem → Prop) → Prop} {a b c d : D} {M : Mem} {Q : D → Mem → Prop} {X} (h : P a b c d M Q) : fn4 P [a, b, c, d] M Q X := ⟨a, b, c, d, rfl, h⟩
theorem use5 {P : D → D → D → D → D → Mem → (D → Mem → Prop) → Prop} {a b c d e : D} {M : Mem} {Q : D → Mem → Prop} {X} (h : P a b c d e M Q) : fn5 P [a, b, c, d, e] M Q X := ⟨a, b, c, d, e, rfl, h⟩
theorem len1 {P} : ∀ ds M Q X, fn1 P ds M Q X → ds.length = 1 := fun _ _ _ _ ⟨_, e, _⟩ => by rw [e]; rfl
theorem len2 {P} : ∀ ds M Q X, fn2 P ds M Q X → ds.length = 2 := fun _ _ _ _ ⟨_, _, e, _⟩ => by rw [e]; rfl
theorem len3 {P} : ∀ ds M Q X, fn3 P ds M Q X → ds.length = 3 := fun _ _ _ _ ⟨_, _, _, e, _⟩ => by rw [e]; rfl
theorem len4 {P} : ∀ ds M Q X, fn4 P ds M Q X → ds.length = 4 := fun _ _ _ _ ⟨_, _, _, _, e, _⟩ => by rw [e]; rfl
theorem len5 {P} : ∀ ds M Q X, fn5 P ds M Q X → ds.length = 5 := fun _ _ _ _ ⟨_, _, _, _, _, e, _⟩ => by rw [e]; rfl
theorem div_ok {i j : Int} (h : 0 < j) (h1 : j < 2 ^ 60) : CDivW i j := wide_div (b := 60) h (by omega) (by decide) (by decide)
/-! ### statements, the wishes written out -/
section
variable {c : EC} {Γ : Sl} {M : Mem} {n b k : Sl → Mem → Prop} {r : D → Mem → Prop}
theorem vS_seq {t u : TS} (h : wS c t Γ M ⟨fun Γ' M' => wS c u Γ' M' ⟨n, r, b, k⟩, r, b, k⟩) : wS c (tSeq t u) Γ M ⟨n, r, b, k⟩ := wS_seq h
theorem vS_asgN {te : TE} {i : Nat} (h : wE c te Γ M fun d M1 => n (Γ.set i (some d)) M1) : wS c (tAsg te (gName i)) Γ M ⟨n, r, b, k⟩ := wS_asgN h
theorem vS_asg {te : TE} {g : TG} (h : wE c te Γ M fun d M1 => wG c g d Γ M1 n) : wS c (tAsg te g) Γ M ⟨n, r, b, k⟩ := wS_asg h
theorem vS_ret {te : TE} (h : wE c te Γ M r) : wS c (tRet te) Γ M ⟨n, r, b, k⟩ := wS_ret h
theorem vS_if {t : TT} {a e : TS} (h : wT c t Γ M fun z M1 => (z = true → wS c a Γ M1 ⟨n, r, b, k⟩) ∧ (z = false → wS c e Γ M1 ⟨n, r, b, k⟩)) : wS c (tIfS t a e) Γ M ⟨n, r, b, k⟩ := wS_if h
theorem vS_drop {te : TE} (h : wE c te Γ M fun _ M1 => n Γ M1) : wS c (tDrop te) Γ M ⟨n, r, b, k⟩ := wS_drop h
theorem vS_fld {ta tv : TE} {f : Str} (h : wE c tv Γ M fun d M0 => wE c ta Γ M0 fun x M1 => ∃ a C fs, x = .ref a ∧ M1 a = some (.ins C fs) ∧ Cls c.K C ∧ NoAttr c.K C f ∧ fs.length < 1000 ∧ n Γ (mset M1 a (.ins C (putD f d fs)))) : wS c (sFld c.K ta tv f) Γ M ⟨n, r, b, k⟩ := wS_fld h
theorem vS_dput {td ty tv : TE} (h : wE c tv Γ M fun d M0 => wE c td Γ M0 fun x M1 => wE c ty Γ M1 fun y M2 => ∃ a kvs z, x = .ref a ∧ y = kD z ∧ M2 a = some (.dK kvs) ∧ kvs.length < 100000 ∧ n Γ (mset M2 a (.dK (putA kvs z d)))) : wS c (sDPut td ty tv) Γ M ⟨n, r, b, k⟩ := wS_dput h
theorem vS_next (h : n Γ M) : wS c tNext Γ M ⟨n, r, b, k⟩ := wS_next h
theorem vS_brk (h : b Γ M) : wS c tBreak Γ M ⟨n, r, b, k⟩ := wS_brk h
theorem vS_cont (h : k Γ M) : wS c tCont Γ M ⟨n, r, b, k⟩ := wS_cont h
theorem vS_retN (h : r .non M) : wS c tRetN Γ M ⟨n, r, b, k⟩ := wS_retN h
theorem vS_for {wi : TI} {g : TG} {tb : TS} (h : wI c wi Γ M fun ds M1 => ∃ Pv : Nat → Sl → Mem → Prop, Pv 0 Γ M1 ∧
      (∀ i d Γ' M', ds[i]? = some d → Pv i Γ' M' → wG c g d Γ' M' fun Γ2 M2 => wS c tb Γ2 M2 ⟨Pv (i + 1), r, n, Pv (i + 1)⟩) ∧ (∀ Γ' M', Pv ds.length Γ' M' → n Γ' M')) :
    wS c (tFor wi g tb) Γ M ⟨n, r, b, k⟩ := wS_for h
theorem vS_while {t : TT} {tb : TS} (W : Nat → Sl → Mem → Prop) (m : Nat) (h0 : W m Γ M) (hs : ∀ m Γ' M', W m Γ' M' → wT c t Γ' M' fun z M1 => (z = true → wS c tb Γ' M1 ⟨fun Γ2 M2 => ∃ j, j < m ∧ W j Γ2 M2, r, n, fun Γ2 M2 => ∃ j, j < m ∧ W j Γ2 M2⟩) ∧ (z = false → n Γ' M1)) :
    wS c (tWhile t tb) Γ M ⟨n, r, b, k⟩ := wS_while W m h0 hs
theorem vS_openL {P : List Int → Prop} {i : Nat} {t : TS} {a : Addr} (h1 : Γ[i]? = some (some (.ref a))) (h2 : M a = some (.ext (LExt P a))) (h : ∀ ns, P ns → ns.length ≤ sizeLine → wS c t Γ (mset M a (.lst (ns.map .int))) ⟨n, r, b, k⟩) : wS c (tOpenL P i t) Γ M ⟨n, r, b, k⟩ := wS_openL h1 h2 h
theorem vS_closeL {P : List Int → Prop} {t : TS} (h : wS c t Γ M ⟨n, fun d M' => ∃ a ns, P ns ∧ M' a = some (.lst (ns.map .int)) ∧ r d (mset M' a (.ext (LExt P a))), b, k⟩) : wS c (tCloseL P t) Γ M ⟨n, r, b, k⟩ := wS_closeL h
end
/-! ### texts -/
theorem app_list (x y : Str) : (x ++ y).cps.toList = x.cps.toList ++ y.cps.toList := by
  show (x.cps ++ y.cps).toList = _
  simp
theorem len_list (x : Str) : x.length = x.cps.toList.length := by
  show x.cps.size = _
  simp
theorem len_app (x y : Str) : (x ++ y).length = x.length + y.length := by rw [len_list, app_list, List.length_append, ← len_list, ← len_list]
/-! ### memories -/
theorem mset_id {M : Mem} {a : Addr} {n : Nd} (h : M a = some n) : mset M a n = M := by
  funext b; unfold mset
  by_cases e : b = a
  · rw [if_pos e, e, h]
  · rw [if_neg e]
theorem mset_back {M : Mem} {a : Addr} {n m : Nd} (h : M a = some n) : mset (mset M a m) a n = M := by rw [mset_mset, mset_id h]
theorem fresh2 {M : Mem} {a b : Addr} {n : Nd} (h : mset M a n b = none) : b ≠ a ∧ M b = none := by
  have e : b ≠ a := fun e => by rw [e, mset_same] at h; cases h
  rw [mset_ne e] at h
  exact ⟨e, h⟩
theorem Sub.new {M M' : Mem} {a : Addr} {n : Nd} (s : Sub M M') (h : M a = none) : Sub M (DL.mset M' a n) := fun b m e => by
  rw [mset_ne (fun q => by rw [q, h] at e; cases e)]
  exact s b m e
theorem Sub.both {M M' : Mem} {a : Addr} {n : Nd} (s : Sub M M') : Sub (DL.mset M a n) (DL.mset M' a n) := fun b m e => by
  by_cases z : b = a
  · rw [z, mset_same] at e ⊢
    exact e
  · rw [mset_ne z] at e ⊢
    exact s b m e
theorem Sub.del {M M' : Mem} {a : Addr} (s : Sub M M') (h : M a = none) : Sub M (DL.mdel M' a) := fun b m e => by
  rw [mdel_ne (fun q => by rw [q, h] at e; cases e)]
  exact s b m e
def DeckP (b : Int) (ns : List Int) : Prop := ∀ n ∈ ns, 0 ≤ n ∧ n < b
/-- a deck of drawn numbers stands at a -/
def Deck (b : Int) (M : Mem) (a : Addr) : Prop := M a = some (.ext (LExt (DeckP b) a))
end DL

/-! DLB: zip of lists and of tuples; reading mutable things as frozen ones, for calls and comparisons that change nothing. -/
namespace DL
open PySem PySem.Spec PyProof.Rows L2
/-! ### a deep reading -/
mutual
inductive Froz (M : Mem) : D → D → Prop
  | same (d : D) : Froz M d d
  | lst {a : Addr} {ds es : List D} (h : M a = some (.lst ds)) (r : FrozAll M ds es) : Froz M (.ref a) (.lst es)
  | lstF {ds es : List D} (r : FrozAll M ds es) : Froz M (.lst ds) (.lst es)
  | tup {ds es : List D} (r : FrozAll M ds es) : Froz M (.tup ds) (.tup es)
inductive FrozAll (M : Mem) : List D → List D → Prop
  | nil : FrozAll M [] []
  | cons {d e : D} {ds es : List D} (a : Froz M d e) (b : FrozAll M ds es) : FrozAll M (d :: ds) (e :: es)
end
theorem FrozAll.same {M : Mem} : ∀ (ds : List D), FrozAll M ds ds
  | [] => .nil
  | d :: r => .cons (.same d) (FrozAll.same r)
theorem FrozAll.get {M : Mem} : ∀ {ds es : List D}, ds.length = es.length → (∀ (i : Nat) (d e : D), ds[i]? = some d → es[i]? = some e → Froz M d e) → FrozAll M ds es
  | [], [], _, _ => .nil
  | d :: r, e :: r2, hl, h => .cons (h 0 d e rfl rfl) (FrozAll.get (by simpa using hl) fun i d' e' h1 h2 => h (i + 1) d' e' (by simpa using h1) (by simpa using h2))
section
variable {K : PySem.W.Frag} {Hd H R : Hp} {M : Mem}
mutual
theorem Rep.froz (C : Conc K Hd H M R) : ∀ {d e : D} {v : V}, Rep K Hd v d → Froz M d e → Rep K H v e
  | _, _, _, r, .same _ => r.mono C.same
  | _, _, _, r, .lst h q => by
    cases r
    obtain ⟨h1, vs, h2, h3⟩ := C.nd _ _ h
    exact .lst h2 (RepAll.froz C h3 q)
  | _, _, _, r, .lstF q => by
    cases r with
    | lst h1 h2 => exact .lst (C.same _ _ h1) (RepAll.froz C h2 q)
  | _, _, _, r, .tup q => by
    cases r with
    | tup h1 h2 => exact .tup (Same.sqt C.same h1) (RepAll.froz C h2 q)
theorem RepAll.froz (C : Conc K Hd H M R) : ∀ {d e : List D} {v : List V}, RepAll K Hd v d → FrozAll M d e → RepAll K H v e
  | _, _, _, .nil, .nil => .nil
  | _, _, _, .cons a b, .cons a' b' => .cons (Rep.froz C a a') (RepAll.froz C b b')
end
/-- an answer that points nowhere -/
def Bare : D → Prop
  | .non => True | .bl _ => True | .int _ => True | .str _ => True | _ => False
theorem Rep.bare {H' : Hp} {v : V} {d : D} (r : Rep K H v d) (h : Bare d) : Rep K H' v d := by
  cases r with
  | non => exact .non
  | bl b => exact .bl b
  | int i => exact .int i
  | str i => exact .str i
  | _ => exact h.elim
def nomem : Mem := fun _ => none
theorem Conc.whole (C : Conc K Hd H M R) : Conc K H H nomem fun _ => none where
  same := Same.refl _
  fr := fun a o q => by cases q
  nd := fun a n q => by cases q
theorem Conc.grown {H' : Hp} (C : Conc K Hd H M R) (s : Same H H') : Conc K Hd H' M R where
  same := C.same.trans s
  fr := fun a o q => by
    obtain ⟨h1, h2⟩ := C.fr a o q
    exact ⟨s _ _ h1, h2⟩
  nd := fun a n q => by
    obtain ⟨h1, h2⟩ := C.nd a n q
    obtain ⟨o, z⟩ := C.live q
    exact ⟨h1, h2.mono (Same.refl _) ((s _ _ z).trans z.symm)⟩
end
section
variable {c : EC} {Γ : Sl} {M : Mem} {Q : D → Mem → Prop}
/-- a call that only reads -/
theorem wE_callP {F : Fn} {ta : TA} (h : wA c ta Γ M fun ds M1 => ∃ es, FrozAll M1 ds es ∧ F es nomem (fun d _ => Bare d ∧ Q d M1) fun _ _ _ => False) : wE c (tCall (spD c.K F) [] E0 ta) Γ M Q := fun Hd H R σ C S X P z =>
  h Hd H R σ C S X _ fun Hd1 H1 M1 vs ds s1 C1 r1 ⟨es, f, q⟩ => by
    show spD c.K F (vs ++ []) H1 P E0
    rw [List.append_nil]
    refine ⟨H1, _, nomem, es, _, _, C1.whole, RepAll.froz C1 r1 f, q, fun Hd2 H2 M2 v d s2 C2 r2 ⟨hb, q2⟩ => ?_, fun _ _ _ _ _ _ _ _ _ f => f.elim⟩
    exact z Hd1 H2 M1 v d s1 (C1.grown (s2.trans C2.same)) (r2.bare hb) q2
theorem wR_frz {r : R2} {d e d' e' : D} (hd : Froz M d d') (he : Froz M e e') (q : wR ⟨c.K, c.E, fun _ _ _ => False⟩ r d' e' nomem fun x _ => Bare x ∧ Q x M) : wR c r d e M Q := fun Hd H R v u C X r1 r2 P z =>
  q H H _ v u C.whole (fun _ _ _ _ _ _ _ _ _ f => f.elim) (Rep.froz C r1 hd) (Rep.froz C r2 he) P fun Hd2 H2 M2 w d s2 C2 r3 ⟨hb, q2⟩ => z Hd H2 M w d (Same.refl _) (C.grown (s2.trans C2.same)) (r3.bare hb) q2
theorem walk_zipT {K : PySem.W.Frag} {a b : Addr} {xs ys : List V} {n : Nat} (hn : n = min xs.length ys.length) : Walk (RZ.ItzT K a b) n (fun H => SqT K H a xs ∧ SqT K H b ys) (YPair (fun i => xs[i]?) (fun i => ys[i]?)) := by
  subst hn
  refine ⟨fun i _ hi q => ?_, fun _ q => ⟨xs, ys, q.1, q.2, by omega⟩, fun i H v H' _ q y => ?_⟩
  · have h1 : i < xs.length := by omega
    have h2 : i < ys.length := by omega
    exact ⟨xs, ys, xs[i], ys[i], q.1, q.2, by simp [h1], by simp [h2]⟩
  · obtain ⟨T, x, z, h1, h2, h3, h4, h5⟩ := y
    exact ⟨T, x, z, h1, h2, h3, h4 xs q.1, h5 ys q.2⟩
theorem wI_zipL {ta : TA} {P : List D → Mem → Prop} (h : wA c ta Γ M fun ds M1 => ∃ xs ys, ds = [.lst xs, .lst ys] ∧ P (zipD xs ys) M1) : wI c (RZ.iZipA c.K ta) Γ M P := fun Hd H R σ C S X R' z =>
  h Hd H R σ C S X _ fun Hd1 H1 M1 vs ds s1 C1 r1 ⟨xs, ys, e, q⟩ => by
    subst e
    cases r1 with
    | cons a b =>
      cases b with
      | cons b b' =>
        cases b'
        cases a with
        | @lst a us _ h1 h2 =>
          cases b with
          | @lst b ws _ k1 k2 =>
            refine ⟨a, b, us, ws, rfl, .inl ⟨SqL.of (C1.same _ _ h1), SqL.of (C1.same _ _ k1), ?_⟩⟩
            have w := walk_zip (K := c.K) (a := a) (b := b) (xs := us) (ys := ws) rfl
            have hl : (zipD xs ys).length = min us.length ws.length := by unfold zipD; rw [List.length_zipWith, h2.len, k2.len]
            refine z Hd1 H1 M1 _ (zipD xs ys) _ _ s1 C1 (by rw [hl]; exact w) (fun H' s' => And.intro (SqL.of (s' _ _ h1)) (SqL.of (s' _ _ k1))) (fun i d Hd2 H2 M2 R2 x H3 ei s2 C2 y => ?_) q
            obtain ⟨T, x1, x2, rfl, hT, rfl, e1, e2⟩ := y
            obtain ⟨d1, e3, e4⟩ := h2.getV e1
            obtain ⟨d2, e5, e6⟩ := k2.getV e2
            unfold zipD at ei
            rw [List.getElem?_zipWith, e3, e5] at ei
            cases ei
            exact pair_new C2 hT (e4.mono s2) (e6.mono s2)
theorem wI_zipT {ta : TA} {P : List D → Mem → Prop} (h : wA c ta Γ M fun ds M1 => ∃ xs ys, ds = [.tup xs, .tup ys] ∧ P (zipD xs ys) M1) : wI c (RZ.iZipA c.K ta) Γ M P := fun Hd H R σ C S X R' z =>
  h Hd H R σ C S X _ fun Hd1 H1 M1 vs ds s1 C1 r1 ⟨xs, ys, e, q⟩ => by
    subst e
    cases r1 with
    | cons a b =>
      cases b with
      | cons b b' =>
        cases b'
        cases a with
        | @tup a us _ h1 h2 =>
          cases b with
          | @tup b ws _ k1 k2 =>
            refine ⟨a, b, us, ws, rfl, .inr ⟨Same.sqt C1.same h1, Same.sqt C1.same k1, ?_⟩⟩
            have w := walk_zipT (K := c.K) (a := a) (b := b) (xs := us) (ys := ws) rfl
            have hl : (zipD xs ys).length = min us.length ws.length := by unfold zipD; rw [List.length_zipWith, h2.len, k2.len]
            refine z Hd1 H1 M1 _ (zipD xs ys) _ _ s1 C1 (by rw [hl]; exact w) (fun H' s' => And.intro (Same.sqt s' h1) (Same.sqt s' k1)) (fun i d Hd2 H2 M2 R2 x H3 ei s2 C2 y => ?_) q
            obtain ⟨T, x1, x2, rfl, hT, rfl, e1, e2⟩ := y
            obtain ⟨d1, e3, e4⟩ := h2.getV e1
            obtain ⟨d2, e5, e6⟩ := k2.getV e2
            unfold zipD at ei
            rw [List.getElem?_zipWith, e3, e5] at ei
            cases ei
            exact pair_new C2 hT (e4.mono s2) (e6.mono s2)
/-- a promise that asks the impossible is kept -/
theorem ok_false {P : Program} {w : World} {K : PySem.W.Frag} {mg : Str → Option Value} {base : Heap} {CX : CXT} {k : Nat} {f : Addr} {fd : FuncData} {ps : List Str} : FnOk P w K mg base CX k f fd ps (spD K fun _ _ _ _ => False) :=
  ⟨fun _ _ _ _ ⟨_, _, _, _, _, _, _, _, z, _⟩ => z.elim, fun _ _ _ _ _ _ _ _ _ _ _ _ _ ⟨_, _, _, _, _, _, _, _, z, _⟩ => z.elim⟩
end
section
variable {c : EC} {Γ : Sl} {M : Mem} {Q : D → Mem → Prop}
theorem wE_dgetS {td ty : TE} (h : wE c td Γ M fun x M1 => wE c ty Γ M1 fun y M2 => ∃ a kvs z d, x = .ref a ∧ y = .str z ∧ M2 a = some (.dK kvs) ∧ valA kvs (.inr z) = some d ∧ Q d M2) : wE c (tDGet td ty) Γ M Q :=
  wE_dget (wE_mono h fun _ _ q => wE_mono q fun _ _ ⟨a, kvs, z, d, h1, h2, h3, h4, h5⟩ => ⟨a, kvs, .inr z, d, h1, h2, h3, h4, h5⟩)
theorem wR_isN0 (q : Q (.bl true) M) : wR c rIsNG .non .non M Q := wR_isN q
theorem wR_isNI {i : Int} (q : Q (.bl false) M) : wR c rIsNG (.int i) .non M Q := wR_isN q
theorem wR_isNS {i : Str} (q : Q (.bl false) M) : wR c rIsNG (.str i) .non M Q := wR_isN q
theorem wR_isNR {i : Addr} (q : Q (.bl false) M) : wR c rIsNG (.ref i) .non M Q := wR_isN q
theorem wR_isNT {i : List D} (q : Q (.bl false) M) : wR c rIsNG (.tup i) .non M Q := wR_isN q
theorem wR_isNL {i : List D} (q : Q (.bl false) M) : wR c rIsNG (.lst i) .non M Q := wR_isN q
theorem wR_notN0 (q : Q (.bl false) M) : wR c rNotNG .non .non M Q := wR_notN q
theorem wR_notNI {i : Int} (q : Q (.bl true) M) : wR c rNotNG (.int i) .non M Q := wR_notN q
theorem wR_notNS {i : Str} (q : Q (.bl true) M) : wR c rNotNG (.str i) .non M Q := wR_notN q
theorem wR_notNR {i : Addr} (q : Q (.bl true) M) : wR c rNotNG (.ref i) .non M Q := wR_notN q
theorem wR_notNT {i : List D} (q : Q (.bl true) M) : wR c rNotNG (.tup i) .non M Q := wR_notN q
theorem wR_notNL {i : List D} (q : Q (.bl true) M) : wR c rNotNG (.lst i) .non M Q := wR_notN q
theorem vS_never {n : Sl → Mem → Prop} {r : D → Mem → Prop} {b k : Sl → Mem → Prop} (h : False) : wS c tNever Γ M ⟨n, r, b, k⟩ := h.elim
end
theorem ntrue_ite {A B : Prop} (h : B) : ((!true) = true → A) ∧ ((!true) = false → B) := ⟨fun z => (by cases z), fun _ => h⟩
theorem nfalse_ite {A B : Prop} (h : A) : ((!false) = true → A) ∧ ((!false) = false → B) := ⟨fun _ => h, fun z => (by cases z)⟩
theorem wG_setE {c : EC} {Γ : Sl} {M : Mem} {to ti : TE} {d : D} {Q : Sl → Mem → Prop} (h : wE c to Γ M fun o M1 => ∃ a xs, o = .ref a ∧ M1 a = some (.lst xs) ∧ wE c ti Γ M1 fun i M2 => ∃ (k : Int) (j : Nat), i = .int k ∧ M2 a = some (.lst xs) ∧ ixN xs.length k = some j ∧ Q Γ (mset M2 a (.lst (xs.set j d)))) :
    wG c (gSub to ti rSetL) d Γ M Q := fun Hd H R σ v C S X r P z =>
  h Hd H R σ C S X _ fun Hd1 H1 M1 ov o s1 C1 r1 ⟨a, xs, e, hm, h1⟩ => by
    subst e
    cases r1
    exact wG_setL (c := c) (Γ := Γ) (M := M1) (to := tC (.ref a)) (ti := ti) (d := d) (Q := Q) (wE_ref ⟨rfl, hm, h1⟩) Hd1 H1 R σ v C1 (S.mono s1) (X.mono s1) (r.mono s1) P fun Hd2 H2 M2 σ2 Γ2 s2 C2 S2 q => z _ _ _ _ _ (s1.trans s2) C2 S2 q
end DL

/-! DLC: plain data (no bools, no references), their comparison. -/
namespace DL
open PySem PySem.Spec PyProof.Rows L2
/-- plain data of depth at most k: none, ints, texts, tuples and lists of such -/
def Pln : Nat → D → Prop
  | _, .non => True
  | _, .int _ => True
  | _, .str x => PyData.strOk x = true
  | k + 1, .tup xs => ∀ x ∈ xs, Pln k x
  | k + 1, .lst xs => ∀ x ∈ xs, Pln k x
  | _, _ => False
theorem Pln.mono : ∀ {k : Nat} {d : D}, Pln k d → Pln (k + 1) d
  | _, .non, _ => trivial
  | _, .int _, _ => trivial
  | 0, .str x, h => h
  | k + 1, .str x, h => h
  | k + 1, .tup xs, h => fun x hx => (h x hx).mono
  | k + 1, .lst xs, h => fun x hx => (h x hx).mono
  | 0, .tup xs, h => h.elim
  | 0, .lst xs, h => h.elim
  | 0, .bl _, h => h.elim
  | k + 1, .bl _, h => h.elim
  | 0, .ref _, h => h.elim
  | k + 1, .ref _, h => h.elim
  | 0, .ty _, h => h.elim
  | k + 1, .ty _, h => h.elim
  | 0, .scr _, h => h.elim
  | k + 1, .scr _, h => h.elim
  | 0, .obj _ _, h => h.elim
  | k + 1, .obj _ _, h => h.elim
theorem toPs_map : ∀ (xs : List D), toP.toPs xs = xs.map toP
  | [] => rfl
  | x :: r => by show toP x :: toP.toPs r = _; rw [toPs_map r]; rfl
theorem pures_all : ∀ (xs : List D), pureD.pures xs = xs.all pureD
  | [] => rfl
  | x :: r => by show (pureD x && pureD.pures r) = _; rw [pures_all r]; rfl
theorem canAll_all : ∀ (xs : List PyData), PyData.canLayAll0 xs = xs.all PyData.canLay0
  | [] => rfl
  | x :: r => by simp only [PyData.canLayAll0, List.all_cons]; rw [canAll_all r]
theorem depthAll_le {n : Nat} : ∀ {xs : List PyData}, (∀ x ∈ xs, x.depth ≤ n) → PyData.depthAll xs ≤ n
  | [], _ => by simp only [PyData.depthAll]; omega
  | x :: r, h => by
    simp only [PyData.depthAll]
    have h1 := h x (by simp)
    have h2 := depthAll_le (xs := r) fun y hy => h y (by simp [hy])
    omega
theorem Pln.parts : ∀ {k : Nat} {d : D}, Pln k d → pureD d = true ∧ (toP d).canLay0 = true ∧ (toP d).depth ≤ k
  | k, .non, _ => ⟨rfl, by simp [toP, PyData.canLay0], by simp [toP, PyData.depth]⟩
  | k, .int i, _ => ⟨rfl, by simp [toP, PyData.canLay0], by simp [toP, PyData.depth]⟩
  | 0, .str x, h => ⟨rfl, by show (PyData.str x).canLay0 = true; rw [PyData.canLay0]; exact h, by simp [toP, PyData.depth]⟩
  | k + 1, .str x, h => ⟨rfl, by show (PyData.str x).canLay0 = true; rw [PyData.canLay0]; exact h, by simp [toP, PyData.depth]⟩
  | k + 1, .tup xs, h => by
    refine ⟨?_, ?_, ?_⟩
    · show pureD.pures xs = true
      rw [pures_all]
      exact List.all_eq_true.mpr fun x hx => (h x hx).parts.1
    · show (PyData.tuple (toP.toPs xs)).canLay0 = true
      rw [toPs_map, PyData.canLay0, canAll_all]
      exact List.all_eq_true.mpr fun x hx => by
        obtain ⟨y, hy, rfl⟩ := List.mem_map.mp hx
        exact (h y hy).parts.2.1
    · show (PyData.tuple (toP.toPs xs)).depth ≤ k + 1
      rw [toPs_map, PyData.depth]
      have := depthAll_le (n := k) (xs := xs.map toP) fun x hx => by
        obtain ⟨y, hy, rfl⟩ := List.mem_map.mp hx
        exact (h y hy).parts.2.2
      omega
  | k + 1, .lst xs, h => by
    refine ⟨?_, ?_, ?_⟩
    · show pureD.pures xs = true
      rw [pures_all]
      exact List.all_eq_true.mpr fun x hx => (h x hx).parts.1
    · show (PyData.list (toP.toPs xs)).canLay0 = true
      rw [toPs_map, PyData.canLay0, canAll_all]
      exact List.all_eq_true.mpr fun x hx => by
        obtain ⟨y, hy, rfl⟩ := List.mem_map.mp hx
        exact (h y hy).parts.2.1
    · show (PyData.list (toP.toPs xs)).depth ≤ k + 1
      rw [toPs_map, PyData.depth]
      have := depthAll_le (n := k) (xs := xs.map toP) fun x hx => by
        obtain ⟨y, hy, rfl⟩ := List.mem_map.mp hx
        exact (h y hy).parts.2.2
      omega
  | 0, .tup xs, h => h.elim
  | 0, .lst xs, h => h.elim
  | 0, .bl _, h => h.elim
  | k + 1, .bl _, h => h.elim
  | 0, .ref _, h => h.elim
  | k + 1, .ref _, h => h.elim
  | 0, .ty _, h => h.elim
  | k + 1, .ty _, h => h.elim
  | 0, .scr _, h => h.elim
  | k + 1, .scr _, h => h.elim
  | 0, .obj _ _, h => h.elim
  | k + 1, .obj _ _, h => h.elim
theorem Pln.ok {k : Nat} {d : D} (h : Pln k d) (hk : k ≤ 64) : okD d = true := by
  obtain ⟨h1, h2, h3⟩ := h.parts
  unfold okD SeqAt.shaped
  rw [h1, h2, decide_eq_true (by omega)]
  rfl
mutual
theorem eqv_iff : ∀ {k : Nat} {d e : D}, Pln k d → Pln k e → (eqvD d e = true ↔ d = e)
  | 0, d, e, h1, h2 => by
    unfold eqvD
    cases d <;> cases e <;> first | exact h1.elim | exact h2.elim | simp [toP, PyData.eqv]
  | k + 1, .tup xs, .tup ys, h1, h2 => by
    have := eqvs_iff (k := k) (xs := xs) (ys := ys) h1 h2
    unfold eqvD
    simp only [toP, PyData.eqv]
    rw [this]
    simp
  | k + 1, .lst xs, .lst ys, h1, h2 => by
    have := eqvs_iff (k := k) (xs := xs) (ys := ys) h1 h2
    unfold eqvD
    simp only [toP, PyData.eqv]
    rw [this]
    simp
  | k + 1, .non, e, h1, h2 => by unfold eqvD; cases e <;> first | exact h2.elim | simp [toP, PyData.eqv]
  | k + 1, .int i, e, h1, h2 => by unfold eqvD; cases e <;> first | exact h2.elim | simp [toP, PyData.eqv]
  | k + 1, .str i, e, h1, h2 => by unfold eqvD; cases e <;> first | exact h2.elim | simp [toP, PyData.eqv]
  | k + 1, .tup xs, .non, h1, h2 => by simp [eqvD, toP, PyData.eqv]
  | k + 1, .tup xs, .int _, h1, h2 => by simp [eqvD, toP, PyData.eqv]
  | k + 1, .tup xs, .str _, h1, h2 => by simp [eqvD, toP, PyData.eqv]
  | k + 1, .tup xs, .lst _, h1, h2 => by simp [eqvD, toP, PyData.eqv]
  | k + 1, .lst xs, .non, h1, h2 => by simp [eqvD, toP, PyData.eqv]
  | k + 1, .lst xs, .int _, h1, h2 => by simp [eqvD, toP, PyData.eqv]
  | k + 1, .lst xs, .str _, h1, h2 => by simp [eqvD, toP, PyData.eqv]
  | k + 1, .lst xs, .tup _, h1, h2 => by simp [eqvD, toP, PyData.eqv]
  | k + 1, .lst xs, .bl _, h1, h2 => h2.elim
  | k + 1, .lst xs, .ref _, h1, h2 => h2.elim
  | k + 1, .lst xs, .ty _, h1, h2 => h2.elim
  | k + 1, .lst xs, .scr _, h1, h2 => h2.elim
  | k + 1, .lst xs, .obj _ _, h1, h2 => h2.elim
  | k + 1, .tup xs, .bl _, h1, h2 => h2.elim
  | k + 1, .tup xs, .ref _, h1, h2 => h2.elim
  | k + 1, .tup xs, .ty _, h1, h2 => h2.elim
  | k + 1, .tup xs, .scr _, h1, h2 => h2.elim
  | k + 1, .tup xs, .obj _ _, h1, h2 => h2.elim
  | k + 1, .bl _, _, h, _ => h.elim
  | k + 1, .ref _, _, h, _ => h.elim
  | k + 1, .ty _, _, h, _ => h.elim
  | k + 1, .scr _, _, h, _ => h.elim
  | k + 1, .obj _ _, _, h, _ => h.elim
theorem eqvs_iff : ∀ {k : Nat} {xs ys : List D}, (∀ x ∈ xs, Pln k x) → (∀ x ∈ ys, Pln k x) → (PyData.eqvAll (toP.toPs xs) (toP.toPs ys) = true ↔ xs = ys)
  | k, [], [], _, _ => by simp [toP.toPs, PyData.eqvAll]
  | k, [], y :: ys, _, _ => by simp [toP.toPs, PyData.eqvAll]
  | k, x :: xs, [], _, _ => by simp [toP.toPs, PyData.eqvAll]
  | k, x :: xs, y :: ys, h1, h2 => by
    have a := eqv_iff (h1 x (by simp)) (h2 y (by simp))
    have b := eqvs_iff (xs := xs) (ys := ys) (fun z hz => h1 z (by simp [hz])) (fun z hz => h2 z (by simp [hz]))
    unfold eqvD at a
    simp only [toP.toPs, PyData.eqvAll, Bool.and_eq_true, List.cons.injEq]
    rw [a, b]
end
section
variable {c : EC} {M : Mem} {Q : D → Mem → Prop}
/-- == over plain data -/
theorem wR_eqP {k : Nat} {d e : D} {b : Bool} (hd : Pln k d) (he : Pln k e) (hk : k ≤ 64) (hb : b = true ↔ d = e) (q : Q (.bl b) M) : wR c (rEqG c.K) d e M Q := wR_eqD (hd.ok hk) (he.ok hk) (by
  have : eqvD d e = b := Bool.eq_iff_iff.mpr ((eqv_iff hd he).trans hb.symm)
  rw [this]
  exact q)
theorem wR_neP {k : Nat} {d e : D} {b : Bool} (hd : Pln k d) (he : Pln k e) (hk : k ≤ 64) (hb : b = true ↔ d = e) (q : Q (.bl (!b)) M) : wR c (rNeG c.K) d e M Q := wR_neD (hd.ok hk) (he.ok hk) (by
  have : eqvD d e = b := Bool.eq_iff_iff.mpr ((eqv_iff hd he).trans hb.symm)
  rw [this]
  exact q)
/-- xs == [] -/
theorem wR_eqNil {k : Nat} {xs : List D} (hd : ∀ x ∈ xs, Pln k x) (hk : k < 64) (q : Q (.bl (decide (xs = []))) M) : wR c (rEqG c.K) (.lst xs) (.lst []) M Q :=
  wR_eqP (k := k + 1) hd (fun _ h => by cases h) (by omega) (by simp) q
theorem wR_neNil {k : Nat} {xs : List D} (hd : ∀ x ∈ xs, Pln k x) (hk : k < 64) (q : Q (.bl (!decide (xs = []))) M) : wR c (rNeG c.K) (.lst xs) (.lst []) M Q :=
  wR_neP (k := k + 1) hd (fun _ h => by cases h) (by omega) (by simp) q
theorem wE_lstNil {c : EC} {Γ : Sl} {M : Mem} {Q : D → Mem → Prop} (q : Q (.lst []) M) : wE c (tLst tNil) Γ M Q := wE_lst (wA_nil ⟨by decide, q⟩)
theorem wE_lstMNil {c : EC} {Γ : Sl} {M : Mem} {Q : D → Mem → Prop} (q : ∀ a, M a = none → Q (.ref a) (mset M a (.lst []))) : wE c (tLstM tNil) Γ M Q := wE_lstM (wA_nil ⟨by decide, q⟩)
end
theorem put_le {f : Str} {v : D} : ∀ {fs : List (Str × D)} {n : Nat}, fs.length ≤ n → (putD f v fs).length ≤ n + 1
  | [], n, _ => by simp [putD]
  | (g, u) :: r, 0, h => by simp at h
  | (g, u) :: r, n + 1, h => by
    unfold putD
    split
    · simp at h ⊢; omega
    · have := put_le (f := f) (v := v) (fs := r) (n := n) (by simpa using h)
      simp; omega
theorem le1 {α : Type} {a : α} : [a].length ≤ 100000 := by simp
theorem le2 {α : Type} {a b : α} : [a, b].length ≤ 100000 := by simp
theorem le3 {α : Type} {a b c : α} : [a, b, c].length ≤ 100000 := by simp
theorem le4 {α : Type} {a b c d : α} : [a, b, c, d].length ≤ 100000 := by simp
theorem le5 {α : Type} {a b c d e : α} : [a, b, c, d, e].length ≤ 100000 := by simp
theorem le6 {α : Type} {a b c d e f : α} : [a, b, c, d, e, f].length ≤ 100000 := by simp
theorem le7 {α : Type} {a b c d e f g : α} : [a, b, c, d, e, f, g].length ≤ 100000 := by simp
theorem le8 {α : Type} {a b c d e f g h : α} : [a, b, c, d, e, f, g, h].length ≤ 100000 := by simp
theorem lt0 {α : Type} : ([] : List α).length < 1000 := by simp
theorem lt1 {α : Type} {a : α} : ([a] : List α).length < 1000 := by simp
theorem lt2 {α : Type} {a b : α} : ([a, b] : List α).length < 1000 := by simp
theorem lt3 {α : Type} {a b c : α} : ([a, b, c] : List α).length < 1000 := by simp
theorem lt4 {α : Type} {a b c d : α} : ([a, b, c, d] : List α).length < 1000 := by simp
theorem lt5 {α : Type} {a b c d e : α} : ([a, b, c, d, e] : List α).length < 1000 := by simp
theorem lt6 {α : Type} {a b c d e f : α} : ([a, b, c, d, e, f] : List α).length < 1000 := by simp
theorem lt7 {α : Type} {a b c d e f g : α} : ([a, b, c, d, e, f, g] : List α).length < 1000 := by simp
theorem lt8 {α : Type} {a b c d e f g h : α} : ([a, b, c, d, e, f, g, h] : List α).length < 1000 := by simp
abbrev dN (n : Nat) : D := .int (n : Int)
section
variable {c : EC} {Γ : Sl} {M : Mem} {Q : D → Mem → Prop}
theorem wA_mono {ta : TA} {Q Q' : List D → Mem → Prop} (h : wA c ta Γ M Q) (k : ∀ d M', Q d M' → Q' d M') : wA c ta Γ M Q' := fun Hd H R σ C S X P z => h Hd H R σ C S X P fun Hd' H' M' v d s C' r q => z Hd' H' M' v d s C' r (k d M' q)
theorem wT_mono {tt : TT} {Q Q' : Bool → Mem → Prop} (h : wT c tt Γ M Q) (k : ∀ b M', Q b M' → Q' b M') : wT c tt Γ M Q' := fun Hd H R σ C S X P z => h Hd H R σ C S X P fun Hd' H' M' b s C' q => z Hd' H' M' b s C' (k b M' q)
/-- [x for x in range(n) if test] -/
theorem wE_lcN {v : Nat} {ta : TA} {tt : TT} {good : Nat → Prop} (hv : ((wipeD Γ [v])[v]?).isSome = true)
    (h : wA c ta Γ M fun ds M1 => ∃ n : Nat, ds = [.int n] ∧ n ≤ 90000 ∧ M1 = M ∧ (∀ x, x < n → wT c tt ((wipeD Γ [v]).set v (some (dN x))) M fun b M2 => M2 = M ∧ (b = true ↔ good x)) ∧ ∀ l : List Nat, (∀ x, x ∈ l ↔ x < n ∧ good x) → l.length ≤ n → Q (.lst (l.map dN)) M) :
    wE c (tLc (iRng1 ta) (gName v) tt (tVar v) [v]) Γ M Q := by
  have hv : v < (wipeD Γ [v]).length := by
    rcases Nat.lt_or_ge v (wipeD Γ [v]).length with z | z
    · exact z
    · rw [List.getElem?_eq_none z] at hv; cases hv
  refine wE_lc (gok_name (by simp)) (wI_rng1 ?_)
  refine wA_mono h fun ds M1 ⟨n, e, hn, eM, ht, q⟩ => ?_
  subst e eM
  refine ⟨n, rfl, by omega, by omega, by rw [rngD_len]; omega, fun i acc M' => M' = M1 ∧ ∃ l : List Nat, acc = l.map dN ∧ ∀ x, x ∈ l ↔ x < i ∧ good x, ⟨rfl, [], rfl, fun x => ⟨fun hx => (by cases hx), fun hx => absurd hx.1 (Nat.not_lt_zero _)⟩⟩, ?_, ?_⟩
  · rintro i d acc M' hi ha ⟨rfl, l, rfl, hl⟩
    obtain ⟨hi1, rfl⟩ := rngD_get hi
    have hi2 : i < n := by omega
    have e0 : D.int (0 + (i : Int)) = dN i := by rw [Int.zero_add]
    rw [e0]
    refine wG_name ?_
    refine wT_mono (ht i hi2) fun b M2 ⟨eM, hb⟩ => ⟨fun b1 => ?_, fun b1 => ⟨eM, l, rfl, fun x => ?_⟩⟩
    · subst eM
      refine wE_var (d := dN i) (by rw [List.getElem?_set_self hv]) ⟨rfl, l ++ [i], by rw [List.map_append]; rfl, fun x => ?_⟩
      rw [List.mem_append, List.mem_singleton, hl x]
      constructor
      · rintro (hx | rfl)
        · exact ⟨by omega, hx.2⟩
        · exact ⟨by omega, hb.mp b1⟩
      · rintro ⟨h1, h2⟩
        by_cases z : x = i
        · exact .inr z
        · exact .inl ⟨by omega, h2⟩
    · rw [hl x]
      constructor
      · rintro ⟨h1, h2⟩
        exact ⟨by omega, h2⟩
      · rintro ⟨h1, h2⟩
        refine ⟨?_, h2⟩
        by_cases z : x = i
        · subst z
          rw [hb.mpr h2] at b1
          cases b1
        · omega
  · rintro acc M' ⟨rfl, l, rfl, hl⟩ hlen
    rw [rngD_len, List.length_map] at hlen
    rw [rngD_len] at hl
    exact q l (fun x => by rw [hl x]; constructor <;> (rintro ⟨h1, h2⟩; exact ⟨by omega, h2⟩)) (by omega)
theorem wR_eqS {x y : Str} (q : Q (.bl (decide (x = y))) M) : wR c (rEqG c.K) (.str x) (.str y) M Q := wR_eq rfl q
end
section
variable {c : EC} {Γ : Sl} {M : Mem} {n : Sl → Mem → Prop} {r : D → Mem → Prop} {b k : Sl → Mem → Prop}
theorem vS_ifT {te : TE} {a e : TS} (h : wT c (tTest te) Γ M fun z M1 => (z = true → wS c a Γ M1 ⟨n, r, b, k⟩) ∧ (z = false → wS c e Γ M1 ⟨n, r, b, k⟩)) : wS c (tIfS (tTest te) a e) Γ M ⟨n, r, b, k⟩ := vS_if h
theorem vS_ifB {te : TE} {a e : TS} (h : wT c (tB te) Γ M fun z M1 => (z = true → wS c a Γ M1 ⟨n, r, b, k⟩) ∧ (z = false → wS c e Γ M1 ⟨n, r, b, k⟩)) : wS c (tIfS (tB te) a e) Γ M ⟨n, r, b, k⟩ := vS_if h
theorem vS_ifN {t : TT} {a e : TS} (h : wT c (tNot t) Γ M fun z M1 => (z = true → wS c a Γ M1 ⟨n, r, b, k⟩) ∧ (z = false → wS c e Γ M1 ⟨n, r, b, k⟩)) : wS c (tIfS (tNot t) a e) Γ M ⟨n, r, b, k⟩ := vS_if h
/-- a test that changes nothing, told by what it yields -/
theorem vS_ifP {t : TT} {a e : TS} (G : Bool → Prop) (h : wT c t Γ M fun z M1 => M1 = M ∧ G z) (h1 : G true → wS c a Γ M ⟨n, r, b, k⟩) (h2 : G false → wS c e Γ M ⟨n, r, b, k⟩) : wS c (tIfS t a e) Γ M ⟨n, r, b, k⟩ := vS_if (wT_mono h fun z M1 ⟨e, g⟩ => by
  subst e
  exact ⟨fun z1 => by subst z1; exact h1 g, fun z1 => by subst z1; exact h2 g⟩)
end
theorem same_ite {α : Type} {x : α} [Decidable (x = x)] {A B : Prop} (h : A) : (decide (x = x) = true → A) ∧ (decide (x = x) = false → B) := ⟨fun _ => h, fun z => absurd rfl (of_decide_eq_false z)⟩
theorem diff_ite {α : Type} {x y : α} [Decidable (x = y)] {A B : Prop} (n : x ≠ y) (h : B) : (decide (x = y) = true → A) ∧ (decide (x = y) = false → B) := ⟨fun z => absurd (of_decide_eq_true z) n, fun _ => h⟩
theorem nsame_ite {α : Type} {x : α} [Decidable (x = x)] {A B : Prop} (h : B) : ((!decide (x = x)) = true → A) ∧ ((!decide (x = x)) = false → B) := ⟨fun z => absurd z (by rw [decide_eq_true rfl]; decide), fun _ => h⟩
/-! ### promises that only read -/
def pureFn (F : Fn) : Fn := fun ds M Q _ => ∃ es, FrozAll M ds es ∧ F es nomem (fun d _ => Bare d ∧ Q d M) fun _ _ _ => False
theorem pure_imp {K : PySem.W.Frag} {F : Fn} {vs : List V} {H : Hp} {Q : VK} {E : XK} (h : spD K (pureFn F) vs H Q E) : spD K F vs H Q E := by
  obtain ⟨Hd, R, M, ds, Qd, Xd, C, r, ⟨es, f, q⟩, hq, hx⟩ := h
  refine ⟨H, _, nomem, es, _, _, C.whole, RepAll.froz C r f, q, fun Hd2 H2 M2 v d s2 C2 r2 ⟨hb, q2⟩ => ?_, fun _ _ _ _ _ _ _ _ _ f => f.elim⟩
  exact hq Hd H2 M v d (Same.refl _) (C.grown (s2.trans C2.same)) (r2.bare hb) q2
theorem frz1 {M : Mem} {a x : D} (h : Froz M a x) : FrozAll M [a] [x] := .cons h .nil
theorem frz2 {M : Mem} {a b x y : D} (h : Froz M a x) (h2 : Froz M b y) : FrozAll M [a, b] [x, y] := .cons h (.cons h2 .nil)
/-! ### a new list of bare items, made while all else is only read -/
theorem RepAll.bare {K : PySem.W.Frag} {H H' : Hp} : ∀ {vs : List V} {ds : List D}, RepAll K H vs ds → (∀ d ∈ ds, Bare d) → RepAll K H' vs ds
  | _, _, .nil, _ => .nil
  | _, _, .cons a b, h => .cons (a.bare (h _ (by simp))) (b.bare fun d hd => h d (by simp [hd]))
theorem Slots.whole {K : PySem.W.Frag} {Hd H R : Hp} {M : Mem} {σ : L2.St} {Γ : Sl} (C : Conc K Hd H M R) (S : Slots K Hd σ Γ) : Slots K H σ Γ := S.mono C.same
theorem slots_put {K : PySem.W.Frag} {H : Hp} {d' : D} : ∀ {σ : L2.St} {Γ : Sl} {i : Nat}, Slots K H σ Γ → (∀ v, σ[i]? = some (some v) → Rep K H v d') → (∃ v, σ[i]? = some (some v)) → Slots K H σ (Γ.set i (some d'))
  | _, _, _, .nil, _, ⟨_, e⟩ => by simp at e
  | _, _, 0, .cons a b, h, ⟨v, e⟩ => by
    simp at e
    subst e
    exact .cons (fun d e => by cases e; exact ⟨v, rfl, h v rfl⟩) b
  | _, _, i + 1, .cons a b, h, ⟨v, e⟩ => .cons a (slots_put b (fun v hv => h v (by simpa using hv)) ⟨v, by simpa using e⟩)
section
variable {c : EC} {Γ : Sl} {M : Mem} {Q : D → Mem → Prop}
theorem wE_ro {te : TE} {i : Nat} {d d' : D} (hi : Γ[i]? = some (some d)) (f : Froz M d d')
    (h : wE ⟨c.K, c.E, fun _ _ _ => False⟩ te (Γ.set i (some d')) nomem fun x M' => ∃ a ds, x = .ref a ∧ (∀ y ∈ ds, Bare y) ∧ M' = mset nomem a (.lst ds) ∧ ∀ b, M b = none → Q (.ref b) (mset M b (.lst ds))) : wE c te Γ M Q := fun Hd H R σ C S X P z => by
  obtain ⟨v, hv, r⟩ := S.get hi
  have S' : Slots c.K H σ (Γ.set i (some d')) := slots_put (S.whole C) (fun u hu => by rw [hv] at hu; cases hu; exact r.froz C f) ⟨v, hv⟩
  refine h H H _ σ C.whole S' (fun _ _ _ _ _ _ _ _ _ f => f.elim) P fun Hd2 H2 M2 w x s2 C2 r2 ⟨a, ds, e, hb, eM, q⟩ => ?_
  subst e
  subst eM
  have hd2 := (C2.nd a _ mset_same).1
  obtain ⟨vs, n1, n2⟩ := (C2.nd a _ mset_same).2
  have ha : H a = none := Same.free s2 hd2
  have hM : M a = none := C.free ha
  have G : Conc c.K Hd H2 M R := C.grown (s2.trans C2.same)
  refine z Hd H2 (mset M a (.lst ds)) w _ (Same.refl _) ⟨G.same, fun b o hb' => ?_, fun b n hn => ?_⟩ ?_ (q a hM)
  · obtain ⟨g1, g2, g3⟩ := G.fr b o hb'
    have ne : b ≠ a := fun q => by
      have := (C.fr b o hb').1
      rw [q, ha] at this
      cases this
    exact ⟨g1, g2, by rw [mset_ne ne]; exact g3⟩
  · by_cases e : b = a
    · subst e
      rw [mset_same] at hn
      cases hn
      exact ⟨Same.free C.same ha, vs, n1, n2.bare hb⟩
    · rw [mset_ne e] at hn
      exact G.nd b n hn
  · cases r2
    exact .ref a
theorem wPs_nil {Q : List (D × D) → Mem → Prop} (h : Q [] M) : wPs c [] Γ M Q := h
theorem wPs_cons {tk tv : TE} {r : List (TE × TE)} {Q : List (D × D) → Mem → Prop} (h : wE c tk Γ M fun k M1 => wE c tv Γ M1 fun v M2 => wPs c r Γ M2 fun ps M3 => Q ((k, v) :: ps) M3) : wPs c ((tk, tv) :: r) Γ M Q := h
end
theorem lookup_mapk {α : Type} (g : Str → α → α) : ∀ (names : List (Str × α)) (x : Str), (names.map fun p => (p.1, g p.1 p.2)).lookup x = (names.lookup x).map (g x)
  | [], _ => rfl
  | (n, k) :: r, x => by
    have ih := lookup_mapk g r x
    rw [List.map_cons]
    by_cases e : x = n
    · subst e
      simp [List.lookup_cons]
    · have e1 : (x == n) = false := by simpa using e
      rw [List.lookup_cons, List.lookup_cons, e1]
      exact ih
theorem blkOk_relabel {N : List Str} {SC scope : Scope} {own : List (Str × Nat)} {env : Env} (h : BlkOk N SC scope own) : BlkOk N (PySem.relabel SC env) scope own where
  kind := h.kind
  uniq := h.uniq
  ix := h.ix
  own := h.own
  free := fun y hy e => by
    have e1 : (PySem.relabel SC env).names = SC.names.map fun p => (p.1, (fun n k => if (k == NameKind.free && env.scope.kind == .function && env.kindOf n == some .cell) = true then NameKind.cell else k) p.1 p.2) := by
      show SC.names.map _ = _
      apply List.map_congr_left
      rintro ⟨n, k⟩ _
      dsimp only
      split <;> rfl
    rw [e1, lookup_mapk (fun n k => if (k == NameKind.free && env.scope.kind == .function && env.kindOf n == some .cell) = true then NameKind.cell else k)]
    rcases h.free y hy e with q | q
    · rw [q]
      exact .inl rfl
    · rw [q]
      simp only [Option.map_some]
      split
      · exact .inl rfl
      · exact .inr rfl
theorem blkN {X : Cx} {s : Shared} {H : Hp} {SC : Scope} {C : Addr} {cl : List (Str × Addr)} {fp : List Addr} {N : List Str} {scope : Scope} {own : List (Str × Nat)} (hN : X.N = N) (h : blkC N SC scope own = true) :
    BlkOk (X.blk s H SC (compEnvC SC cl C X.env) fp).N (X.blk s H SC (compEnvC SC cl C X.env) fp).env.scope scope own := by
  subst hN
  exact blkOk_relabel (blkOk_by h)
theorem le15 {α : Type} {l : List α} {n : Nat} (h : l.length = n) (k : n ≤ 15) : l.length ≤ 15 := by omega
end DL

/-! ST: the stall of quires, plain, and the memory that holds a law's state and its stalls. -/
namespace ST
open PySem PySem.Spec PyProof.Rows L2 DL
/-! ### plain -/
structure St where
  row : List Str
  ends : List Nat
  hol : List (Option Nat)
  lines : List (List Nat)
  want : List (Option Nat)
  cps : List (List (Option Str))
  giving : Nat
inductive Deed where | mend (p : Nat) (z : Str) | give (h q : Nat) | ask (h q : Nat)
def begins (s : St) : List Nat := 0 :: s.ends
def begin_ (s : St) (q : Nat) : Nat := (begins s)[q]?.getD 0
def end_ (s : St) (q : Nat) : Nat := s.ends[q]?.getD 0
def holder (s : St) (q : Nat) : Option Nat := s.hol[q]?.getD none
def line (s : St) (q : Nat) : List Nat := s.lines[q]?.getD []
def wants (s : St) (h : Nat) : Option Nat := s.want[h]?.getD none
def copy (s : St) (h : Nat) : List (Option Str) := s.cps[h]?.getD []
def quireAt (s : St) (p : Nat) : Nat := (s.ends.filter fun e => decide (e ≤ p)).length
def over (row : List Str) (c : List (Option Str)) (b e : Nat) : List (Option Str) := c.mapIdx fun i x => if b ≤ i ∧ i < e then row[i]? else x
def mended (s : St) (p : Nat) (z : Str) : St := { s with row := s.row.set p z }
def asked (s : St) (h q : Nat) : St := if holder s q = none then { s with hol := s.hol.set q (some h) } else { s with lines := s.lines.set q (line s q ++ [h]), want := s.want.set h (some q) }
def copied (s : St) (h q : Nat) : St := { s with cps := s.cps.set h (over s.row (copy s h) (begin_ s q) (end_ s q)) }
def given (s : St) (h q : Nat) : St :=
  match line s q with
  | [] => { copied s h q with hol := s.hol.set q none }
  | o :: r => { copied s h q with hol := s.hol.set q (some o), lines := s.lines.set q r, want := s.want.set o none }
def did (s : St) : Deed → St
  | .mend p z => mended s p z
  | .give h q => given s h q
  | .ask h q => asked s h q
def oi : Option Nat → D
  | none => .non | some k => .int k
def os : Option Str → D
  | none => .non | some k => .str k
def ans (s : St) : Deed → D
  | .mend _ _ => .non
  | .give _ q => oi (line s q).head?
  | .ask _ q => if holder s q = none then .str "held" else .str "waits"
def deedD : Deed → D
  | .mend p z => .tup [.str "mend", .int p, .str z]
  | .give h q => .tup [.str "give", .int h, .int q]
  | .ask h q => .tup [.str "ask", .int h, .int q]
structure Fit (s : St) (t : Nat) : Prop where
  n0 : 1 ≤ s.row.length
  n1 : s.row.length ≤ 40
  q0 : 1 ≤ s.ends.length
  q1 : s.ends.length ≤ 40
  le : ∀ e ∈ s.ends, e ≤ s.row.length
  up : s.ends.Pairwise (· < ·)
  last : s.ends[s.ends.length - 1]? = some s.row.length
  hol : s.hol.length = s.ends.length
  lines : s.lines.length = s.ends.length
  cps : s.cps.length = s.want.length
  h0 : 1 ≤ s.want.length
  h1 : s.want.length ≤ 10
  cp : ∀ c ∈ s.cps, c.length = s.row.length
  line : ∀ l ∈ s.lines, l.length ≤ t ∧ ∀ h ∈ l, h < s.want.length
  row : ∀ z ∈ s.row, z.length ≤ 8
  copies : ∀ c ∈ s.cps, ∀ z, some z ∈ c → z.length ≤ 8
  giv : s.giving ≤ 4
def Legal (s : St) : Deed → Prop
  | .mend p z => p < s.row.length ∧ holder s (quireAt s p) = none ∧ z.length ≤ 8
  | .give h q => h < s.want.length ∧ q < s.ends.length ∧ wants s h = none ∧ holder s q = some h
  | .ask h q => h < s.want.length ∧ q < s.ends.length ∧ wants s h = none ∧ holder s q ≠ some h
theorem over_len {row c b e} : (over row c b e).length = c.length := by unfold over; rw [List.length_mapIdx]
theorem mem_set {α : Type} {l : List α} {i : Nat} {x y : α} (h : y ∈ l.set i x) : y ∈ l ∨ y = x := List.mem_or_eq_of_mem_set h
theorem line_mem {s : St} {q : Nat} (h : q < s.lines.length) : line s q ∈ s.lines := by
  unfold line
  rw [List.getElem?_eq_getElem h]
  exact List.getElem_mem h
theorem copy_mem {s : St} {q : Nat} (h : q < s.cps.length) : copy s q ∈ s.cps := by
  unfold copy
  rw [List.getElem?_eq_getElem h]
  exact List.getElem_mem h
theorem Fit.mono {s : St} {t u : Nat} (F : Fit s t) (h : t ≤ u) : Fit s u := { F with line := fun l hl => ⟨Nat.le_trans (F.line l hl).1 h, (F.line l hl).2⟩ }
theorem Fit.did {s : St} {t : Nat} {d : Deed} (F : Fit s t) (L : Legal s d) : Fit (did s d) (t + 1) := by
  cases d with
  | mend p z =>
    obtain ⟨h1, h2, h3⟩ := L
    exact { F with
      n0 := by simp [ST.did, mended]; exact F.n0
      n1 := by simp [ST.did, mended]; exact F.n1
      le := by simpa [ST.did, mended] using F.le
      last := by simpa [ST.did, mended] using F.last
      cp := by simpa [ST.did, mended] using F.cp
      line := fun l hl => ⟨Nat.le_succ_of_le (F.line l hl).1, (F.line l hl).2⟩
      row := fun x hx => by
        rcases mem_set hx with hx | hx
        · exact F.row x hx
        · rw [hx]; exact h3 }
  | ask h q =>
    obtain ⟨h1, h2, h3, h4⟩ := L
    unfold ST.did
    simp only [asked]
    split
    · exact { F with
        hol := by simp; exact F.hol
        line := fun l hl => ⟨Nat.le_succ_of_le (F.line l hl).1, (F.line l hl).2⟩ }
    · exact { F with
        lines := by simp; exact F.lines
        cps := by simp; exact F.cps
        h0 := by simp; exact F.h0
        h1 := by simp; exact F.h1
        line := fun l hl => by
          have hl2 : l ∈ s.lines.set q (ST.line s q ++ [h]) := hl
          rw [List.length_set]
          rcases mem_set hl2 with hl | hl
          · exact ⟨Nat.le_succ_of_le (F.line l hl).1, (F.line l hl).2⟩
          · have hm := F.line _ (line_mem (s := s) (q := q) (by rw [F.lines]; exact h2))
            rw [hl]
            refine ⟨by simp; exact hm.1, fun x hx => ?_⟩
            rcases List.mem_append.mp hx with hx | hx
            · exact hm.2 x hx
            · rw [List.mem_singleton.mp hx]; exact h1 }
  | give h q =>
    obtain ⟨h1, h2, h3, h4⟩ := L
    have hc := F.cps
    have cm := copy_mem (s := s) (q := h) (by omega)
    have cp : ∀ c ∈ (copied s h q).cps, c.length = s.row.length := fun c hc => by
      rcases mem_set hc with hc | hc
      · exact F.cp c hc
      · rw [hc, over_len]; exact F.cp _ cm
    have cps : ∀ c ∈ (copied s h q).cps, ∀ z, some z ∈ c → z.length ≤ 8 := fun c hc z hz => by
      rcases mem_set hc with hc | hc
      · exact F.copies c hc z hz
      · rw [hc] at hz
        obtain ⟨i, hi⟩ := List.mem_iff_getElem?.mp hz
        unfold over at hi
        rw [List.getElem?_mapIdx] at hi
        cases e : (copy s h)[i]? with
        | none => rw [e] at hi; cases hi
        | some x =>
          rw [e] at hi
          simp only [Option.map_some, Option.some.injEq] at hi
          split at hi
          · exact F.row z (List.mem_of_getElem? hi)
          · subst hi
            exact F.copies _ cm z (List.mem_of_getElem? e)
    have lm := F.line _ (line_mem (s := s) (q := q) (by rw [F.lines]; exact h2))
    unfold ST.did
    simp only [given]
    split
    · exact { F with
        hol := by simp; exact F.hol
        cps := by simp [copied]; exact F.cps
        cp := cp
        copies := cps
        line := fun l hl => ⟨Nat.le_succ_of_le (F.line l hl).1, (F.line l hl).2⟩ }
    · rename_i o r e
      rw [e] at lm
      exact { F with
        hol := by simp; exact F.hol
        lines := by simp; exact F.lines
        cps := by simp [copied]; exact F.cps
        cp := cp
        copies := cps
        h0 := by simp; exact F.h0
        h1 := by simp; exact F.h1
        line := fun l hl => by
          have hl2 : l ∈ s.lines.set q r := hl
          rw [List.length_set]
          rcases mem_set hl2 with hl | hl
          · exact ⟨Nat.le_succ_of_le (F.line l hl).1, (F.line l hl).2⟩
          · rw [hl]
            have := lm.1
            simp at this
            exact ⟨by omega, fun x hx => lm.2 x (List.mem_cons_of_mem _ hx)⟩ }
/-! ### the memory -/
inductive SN where | dict | row | hol | want | line (i : Nat) | copy (i : Nat)
  deriving DecidableEq
inductive TN where | self | lent | want | quire (i : Nat) | line (i : Nat) | copy (i : Nat)
  deriving DecidableEq
inductive WN where | deck | s (n : SN) | t (k : Nat) (n : TN)
  deriving DecidableEq
structure Wd where
  st : St
  ts : Nat → Option St
def dictA (A : SN → Addr) (s : St) : List (Key × D) :=
  [(.inr "row", .ref (A .row)), (.inr "seams", .tup (s.ends.dropLast.map dN)), (.inr "ends", .lst (s.ends.map dN)), (.inr "holders", .ref (A .hol)),
   (.inr "lines", .lst ((List.range s.ends.length).map fun i => .ref (A (.line i)))), (.inr "wanted", .ref (A .want)), (.inr "copies", .lst ((List.range s.cps.length).map fun i => .ref (A (.copy i)))), (.inr "giving", .int s.giving)]
def nodeS (A : SN → Addr) (s : St) : SN → Option Nd
  | .dict => some (.dK (dictA A s))
  | .row => some (.lst (s.row.map .str))
  | .hol => some (.lst (s.hol.map oi))
  | .want => some (.lst (s.want.map oi))
  | .line i => (s.lines[i]?).map fun l => .lst (l.map dN)
  | .copy i => (s.cps[i]?).map fun l => .lst (l.map os)
def selfA (A : TN → Addr) (s : St) : List (Str × D) :=
  [("lent", .ref (A .lent)), ("quires", .lst ((List.range s.ends.length).map fun i => .ref (A (.quire i)))), ("copies", .lst ((List.range s.cps.length).map fun i => .ref (A (.copy i)))), ("wanted", .ref (A .want))]
def quireA (A : TN → Addr) (s : St) (q : Nat) : List (Str × D) :=
  [("begin", .int (begin_ s q)), ("end", .int (end_ s q)), ("hand", oi (holder s q)), ("line", .ref (A (.line q)))]
def nodeT (K : PySem.W.Frag) (A : TN → Addr) (s : St) : TN → Option Nd
  | .self => some (.ins (He.ga K "Stall") (selfA A s))
  | .lent => some (.lst (s.row.map .str))
  | .want => some (.lst (s.want.map oi))
  | .quire q => if q < s.ends.length then some (.ins (He.ga K "Quire") (quireA A s q)) else none
  | .line i => (s.lines[i]?).map fun l => .lst (l.map dN)
  | .copy i => (s.cps[i]?).map fun l => .lst (l.map os)
def nodeW (K : PySem.W.Frag) (b : Int) (A : WN → Addr) (w : Wd) : WN → Option Nd
  | .deck => some (.ext (LExt (DeckP b) (A .deck)))
  | .s n => nodeS (fun n => A (.s n)) w.st n
  | .t k n => match w.ts k with
    | some s => nodeT K (fun n => A (.t k n)) s n
    | none => none
def Inj {N : Type} (A : N → Addr) (f : N → Option Nd) : Prop := ∀ n m, (f n).isSome = true → (f m).isSome = true → A n = A m → n = m
open Classical in
noncomputable def memW {N : Type} (A : N → Addr) (f : N → Option Nd) : Mem := fun x => if h : ∃ n, (f n).isSome = true ∧ A n = x then f h.choose else none
theorem memW_at {N : Type} {A : N → Addr} {f : N → Option Nd} (I : Inj A f) {n : N} {d : Nd} (h : f n = some d) : memW A f (A n) = some d := by
  have e : ∃ m, (f m).isSome = true ∧ A m = A n := ⟨n, by rw [h]; rfl, rfl⟩
  unfold memW
  rw [dif_pos e, I _ _ e.choose_spec.1 (by rw [h]; rfl) e.choose_spec.2, h]
theorem memW_set {N : Type} [DecidableEq N] {A : N → Addr} {f g : N → Option Nd} (I : Inj A f) {n : N} {d0 d : Nd} (h : f n = some d0) (e : ∀ m, g m = if m = n then some d else f m) : mset (memW A f) (A n) d = memW A g ∧ Inj A g := by
  have hs : ∀ m, (g m).isSome = true ↔ (f m).isSome = true := fun m => by
    rw [e m]
    split
    · rename_i q; rw [q, h]; simp
    · rfl
  have J : Inj A g := fun m k h1 h2 => I m k ((hs m).mp h1) ((hs k).mp h2)
  refine ⟨?_, J⟩
  funext x
  by_cases hx : x = A n
  · rw [hx, mset_same, memW_at J (d := d) (by rw [e n, if_pos rfl])]
  · rw [mset_ne hx]
    unfold memW
    by_cases hy : ∃ m, (f m).isSome = true ∧ A m = x
    · have hz : ∃ m, (g m).isSome = true ∧ A m = x := hy.elim fun m hm => ⟨m, (hs m).mpr hm.1, hm.2⟩
      rw [dif_pos hy, dif_pos hz]
      have e1 : hy.choose = hz.choose := I _ _ hy.choose_spec.1 ((hs _).mp hz.choose_spec.1) (hy.choose_spec.2.trans hz.choose_spec.2.symm)
      rw [← e1, e, if_neg (fun q => hx (by rw [← q]; exact hy.choose_spec.2.symm))]
    · rw [dif_neg hy, dif_neg fun hz => hy (hz.elim fun m hm => ⟨m, (hs m).mp hm.1, hm.2⟩)]
/-- the memory is the world's -/
structure Is (K : PySem.W.Frag) (b : Int) (A : WN → Addr) (w : Wd) (M : Mem) : Prop where
  e : DL.Sub (memW A (nodeW K b A w)) M
  I : Inj A (nodeW K b A w)
section
variable {K : PySem.W.Frag} {b : Int} {A : WN → Addr} {w : Wd} {M : Mem} {s : St} {k : Nat}
theorem Is.at (W : Is K b A w M) {n : WN} {d : Nd} (h : nodeW K b A w n = some d) : M (A n) = some d := W.e _ _ (memW_at W.I h)
theorem Is.fresh (W : Is K b A w M) {p : Addr} {d : Nd} (h : M p = none) : Is K b A w (mset M p d) := ⟨W.e.trans (Sub.mset h), W.I⟩
theorem Is.grow {M' : Mem} (W : Is K b A w M) (h : DL.Sub M M') : Is K b A w M' := ⟨W.e.trans h, W.I⟩
theorem Is.set (W : Is K b A w M) {n : WN} {d0 d : Nd} {w' : Wd} (h : nodeW K b A w n = some d0) (e : ∀ m, nodeW K b A w' m = if m = n then some d else nodeW K b A w m) : Is K b A w' (mset M (A n) d) := by
  obtain ⟨h1, h2⟩ := memW_set W.I h e
  exact ⟨by rw [← h1]; exact DL.Sub.both W.e, h2⟩
theorem Is.deck (W : Is K b A w M) : Deck b M (A .deck) := W.at (n := .deck) rfl
theorem Is.dict (W : Is K b A w M) : M (A (.s .dict)) = some (.dK (dictA (fun n => A (.s n)) w.st)) := W.at rfl
theorem Is.row (W : Is K b A w M) : M (A (.s .row)) = some (.lst (w.st.row.map .str)) := W.at rfl
theorem Is.hol (W : Is K b A w M) : M (A (.s .hol)) = some (.lst (w.st.hol.map oi)) := W.at rfl
theorem Is.want (W : Is K b A w M) : M (A (.s .want)) = some (.lst (w.st.want.map oi)) := W.at rfl
theorem Is.line (W : Is K b A w M) {i : Nat} (h : i < w.st.lines.length) : M (A (.s (.line i))) = some (.lst ((line w.st i).map dN)) := W.at (by
  show (w.st.lines[i]?).map _ = _
  unfold ST.line
  rw [List.getElem?_eq_getElem h]; rfl)
theorem Is.copy (W : Is K b A w M) {i : Nat} (h : i < w.st.cps.length) : M (A (.s (.copy i))) = some (.lst ((copy w.st i).map os)) := W.at (by
  show (w.st.cps[i]?).map _ = _
  unfold ST.copy
  rw [List.getElem?_eq_getElem h]; rfl)
theorem nodeW_t {n : TN} (h : w.ts k = some s) : nodeW K b A w (.t k n) = nodeT K (fun n => A (.t k n)) s n := by
  show (match w.ts k with | some s => nodeT K (fun n => A (.t k n)) s n | none => none) = _
  rw [h]
theorem Is.tself (W : Is K b A w M) (h : w.ts k = some s) : M (A (.t k .self)) = some (.ins (He.ga K "Stall") (selfA (fun n => A (.t k n)) s)) := W.at ((nodeW_t h).trans rfl)
theorem Is.tlent (W : Is K b A w M) (h : w.ts k = some s) : M (A (.t k .lent)) = some (.lst (s.row.map .str)) := W.at ((nodeW_t h).trans rfl)
theorem Is.twant (W : Is K b A w M) (h : w.ts k = some s) : M (A (.t k .want)) = some (.lst (s.want.map oi)) := W.at ((nodeW_t h).trans rfl)
theorem Is.tquire (W : Is K b A w M) (h : w.ts k = some s) {i : Nat} (hi : i < s.ends.length) : M (A (.t k (.quire i))) = some (.ins (He.ga K "Quire") (quireA (fun n => A (.t k n)) s i)) := W.at ((nodeW_t h).trans (if_pos hi))
theorem Is.tline (W : Is K b A w M) (h : w.ts k = some s) {i : Nat} (hi : i < s.lines.length) : M (A (.t k (.line i))) = some (.lst ((ST.line s i).map dN)) := W.at ((nodeW_t h).trans (by
  show (s.lines[i]?).map _ = _
  unfold ST.line
  rw [List.getElem?_eq_getElem hi]; rfl))
theorem Is.tcopy (W : Is K b A w M) (h : w.ts k = some s) {i : Nat} (hi : i < s.cps.length) : M (A (.t k (.copy i))) = some (.lst ((ST.copy s i).map os)) := W.at ((nodeW_t h).trans (by
  show (s.cps[i]?).map _ = _
  unfold ST.copy
  rw [List.getElem?_eq_getElem hi]; rfl))
end
theorem val_row {A : SN → Addr} {s : St} : valA (dictA A s) (.inr "row") = some (.ref (A .row)) := rfl
theorem val_seams {A : SN → Addr} {s : St} : valA (dictA A s) (.inr "seams") = some (.tup (s.ends.dropLast.map dN)) := rfl
theorem val_ends {A : SN → Addr} {s : St} : valA (dictA A s) (.inr "ends") = some (.lst (s.ends.map dN)) := rfl
theorem val_holders {A : SN → Addr} {s : St} : valA (dictA A s) (.inr "holders") = some (.ref (A .hol)) := rfl
theorem val_lines {A : SN → Addr} {s : St} : valA (dictA A s) (.inr "lines") = some (.lst ((List.range s.ends.length).map fun i => .ref (A (.line i)))) := rfl
theorem val_wanted {A : SN → Addr} {s : St} : valA (dictA A s) (.inr "wanted") = some (.ref (A .want)) := rfl
theorem val_copies {A : SN → Addr} {s : St} : valA (dictA A s) (.inr "copies") = some (.lst ((List.range s.cps.length).map fun i => .ref (A (.copy i)))) := rfl
theorem val_giving {A : SN → Addr} {s : St} : valA (dictA A s) (.inr "giving") = some (.int s.giving) := rfl
/-- a list's item, told by a function -/
theorem at_map {α β : Type} {l : List α} {f : α → β} {i : Nat} {x : α} (h : l[i]? = some x) : atI (l.map f) (i : Int) = some (f x) := atI_of (by omega) (by simp [h])
theorem at_range {β : Type} {n : Nat} {f : Nat → β} {i : Nat} (h : i < n) : atI ((List.range n).map f) (i : Int) = some (f i) := at_map (by simp [h])
theorem get_holder {s : St} {q : Nat} (h : q < s.hol.length) : s.hol[q]? = some (holder s q) := by unfold holder; rw [List.getElem?_eq_getElem h]; rfl
theorem get_wants {s : St} {q : Nat} (h : q < s.want.length) : s.want[q]? = some (wants s q) := by unfold wants; rw [List.getElem?_eq_getElem h]; rfl
theorem get_end {s : St} {q : Nat} (h : q < s.ends.length) : s.ends[q]? = some (end_ s q) := by unfold end_; rw [List.getElem?_eq_getElem h]; rfl
theorem ix_nat {n i : Nat} (h : i < n) : ixN n (i : Int) = some i := by
  unfold ixN
  rw [if_pos (by omega), if_pos (by omega)]
  simp
theorem lk_lent {A : TN → Addr} {s : St} : (selfA A s).lookup ("lent" : Str) = some (.ref (A .lent) : D) := rfl
theorem lk_quires {A : TN → Addr} {s : St} : (selfA A s).lookup ("quires" : Str) = some (.lst ((List.range s.ends.length).map fun i => .ref (A (.quire i))) : D) := rfl
theorem lk_copies {A : TN → Addr} {s : St} : (selfA A s).lookup ("copies" : Str) = some (.lst ((List.range s.cps.length).map fun i => .ref (A (.copy i))) : D) := rfl
theorem lk_wanted {A : TN → Addr} {s : St} : (selfA A s).lookup ("wanted" : Str) = some (.ref (A .want) : D) := rfl
theorem lk_begin {A : TN → Addr} {s : St} {q : Nat} : (quireA A s q).lookup ("begin" : Str) = some (.int (begin_ s q) : D) := rfl
theorem lk_end {A : TN → Addr} {s : St} {q : Nat} : (quireA A s q).lookup ("end" : Str) = some (.int (end_ s q) : D) := rfl
theorem lk_hand {A : TN → Addr} {s : St} {q : Nat} : (quireA A s q).lookup ("hand" : Str) = some (oi (holder s q) : D) := rfl
theorem lk_line {A : TN → Addr} {s : St} {q : Nat} : (quireA A s q).lookup ("line" : Str) = some (.ref (A (.line q)) : D) := rfl
/-! ### changes -/
def Wd.put (w : Wd) (k : Nat) (s : St) : Wd := { w with ts := fun m => if m = k then some s else w.ts m }
theorem put_at {w : Wd} {k : Nat} {s : St} : (w.put k s).ts k = some s := if_pos rfl
theorem put_ne {w : Wd} {k m : Nat} {s : St} (h : m ≠ k) : (w.put k s).ts m = w.ts m := if_neg h
theorem put_put {w : Wd} {k : Nat} {s s' : St} : (w.put k s).put k s' = w.put k s' := by
  unfold Wd.put
  congr 1
  funext m
  by_cases h : m = k <;> simp [h]
theorem put_st {w : Wd} {k : Nat} {s : St} : (w.put k s).st = w.st := rfl
section
variable {K : PySem.W.Frag} {b : Int} {A : WN → Addr} {w : Wd} {M : Mem} {s : St} {k : Nat}
theorem Is.setT (W : Is K b A w M) (hk : w.ts k = some s) {n : TN} {d0 d : Nd} {s' : St} (h : nodeT K (fun n => A (.t k n)) s n = some d0)
    (e : ∀ m, nodeT K (fun n => A (.t k n)) s' m = if m = n then some d else nodeT K (fun n => A (.t k n)) s m) : Is K b A (w.put k s') (mset M (A (.t k n)) d) :=
  W.set ((nodeW_t hk).trans h) fun m => by
    cases m with
    | deck => rfl
    | s m => rfl
    | t j m =>
      by_cases hj : j = k
      · subst hj
        rw [nodeW_t put_at, e m, nodeW_t hk]
        by_cases hm : m = n
        · subst hm; simp
        · rw [if_neg hm, if_neg (fun q => hm (by cases q; rfl))]
      · rw [if_neg (fun q => hj (by cases q; rfl))]
        show (match (w.put k s').ts j with | some s => nodeT K (fun n => A (.t j n)) s m | none => none) = match w.ts j with | some s => nodeT K (fun n => A (.t j n)) s m | none => none
        rw [put_ne hj]
theorem Is.setS (W : Is K b A w M) {n : SN} {d0 d : Nd} {s' : St} (h : nodeS (fun n => A (.s n)) w.st n = some d0)
    (e : ∀ m, nodeS (fun n => A (.s n)) s' m = if m = n then some d else nodeS (fun n => A (.s n)) w.st m) : Is K b A { w with st := s' } (mset M (A (.s n)) d) :=
  W.set (n := .s n) h fun m => by
    cases m with
    | deck => rfl
    | t j m => rfl
    | s m =>
      show nodeS (fun n => A (.s n)) s' m = if WN.s m = WN.s n then some d else nodeS (fun n => A (.s n)) w.st m
      rw [e m]
      by_cases hm : m = n
      · subst hm; simp
      · rw [if_neg hm, if_neg (fun q => hm (by cases q; rfl))]
theorem holder_set {s : St} {q p : Nat} {x : Option Nat} (h : q < s.hol.length) : (({ s with hol := s.hol.set q x } : St).hol[p]?.getD none) = if p = q then x else holder s p := by
  unfold holder
  by_cases e : p = q
  · subst e; simp [h]
  · rw [if_neg e]
    show (s.hol.set q x)[p]?.getD none = _
    rw [List.getElem?_set_ne (Ne.symm e)]
theorem Is.tHand (W : Is K b A w M) (hk : w.ts k = some s) {q : Nat} {x : Option Nat} (hq : q < s.ends.length) (hh : q < s.hol.length) :
    Is K b A (w.put k { s with hol := s.hol.set q x }) (mset M (A (.t k (.quire q))) (.ins (He.ga K "Quire") (putD "hand" (oi x) (quireA (fun n => A (.t k n)) s q)))) :=
  W.setT hk (if_pos hq) fun m => by
    cases m with
    | quire p =>
      by_cases e : p = q
      · subst e
        rw [if_pos rfl]
        show (if p < s.ends.length then some (Nd.ins (He.ga K "Quire") (quireA (fun n => A (.t k n)) { s with hol := s.hol.set p x } p)) else none) = _
        rw [if_pos hq]
        unfold quireA
        have : holder { s with hol := s.hol.set p x } p = x := (holder_set hh).trans (if_pos rfl)
        rw [this]
        rfl
      · rw [if_neg (fun z => e (by cases z; rfl))]
        show (if p < s.ends.length then some (Nd.ins (He.ga K "Quire") (quireA (fun n => A (.t k n)) { s with hol := s.hol.set q x } p)) else none) = (if p < s.ends.length then some (Nd.ins (He.ga K "Quire") (quireA (fun n => A (.t k n)) s p)) else none)
        have : holder { s with hol := s.hol.set q x } p = holder s p := (holder_set hh).trans (if_neg e)
        unfold quireA
        rw [this]
        rfl
    | _ => rfl
theorem Is.tLine (W : Is K b A w M) (hk : w.ts k = some s) {q : Nat} {l : List Nat} (hq : q < s.lines.length) :
    Is K b A (w.put k { s with lines := s.lines.set q l }) (mset M (A (.t k (.line q))) (.lst (l.map dN))) :=
  W.setT hk (d0 := .lst ((ST.line s q).map dN)) (by show (s.lines[q]?).map _ = _; unfold ST.line; rw [List.getElem?_eq_getElem hq]; rfl) fun m => by
    cases m with
    | line p =>
      show ((s.lines.set q l)[p]?).map _ = _
      by_cases e : p = q
      · subst e; simp [hq]
      · rw [if_neg (fun z => e (by cases z; rfl)), List.getElem?_set_ne (Ne.symm e)]
        rfl
    | _ => rfl
theorem Is.tWant (W : Is K b A w M) (hk : w.ts k = some s) {q : Nat} {x : Option Nat} :
    Is K b A (w.put k { s with want := s.want.set q x }) (mset M (A (.t k .want)) (.lst ((s.want.map oi).set q (oi x)))) :=
  W.setT hk (n := .want) rfl fun m => by
    cases m with
    | want => show some (Nd.lst ((s.want.set q x).map oi)) = _; rw [if_pos rfl, List.map_set]
    | _ => rfl
theorem Is.tLent (W : Is K b A w M) (hk : w.ts k = some s) {q : Nat} {x : Str} :
    Is K b A (w.put k { s with row := s.row.set q x }) (mset M (A (.t k .lent)) (.lst ((s.row.map .str).set q (.str x)))) :=
  W.setT hk (n := .lent) rfl fun m => by
    cases m with
    | lent => show some (Nd.lst ((s.row.set q x).map .str)) = _; rw [if_pos rfl, List.map_set]
    | _ => rfl
theorem Is.tCopy (W : Is K b A w M) (hk : w.ts k = some s) {q : Nat} {l : List (Option Str)} (hq : q < s.cps.length) :
    Is K b A (w.put k { s with cps := s.cps.set q l }) (mset M (A (.t k (.copy q))) (.lst (l.map os))) :=
  W.setT hk (d0 := .lst ((ST.copy s q).map os)) (by show (s.cps[q]?).map _ = _; unfold ST.copy; rw [List.getElem?_eq_getElem hq]; rfl) fun m => by
    cases m with
    | copy p =>
      show ((s.cps.set q l)[p]?).map _ = _
      by_cases e : p = q
      · subst e; simp [hq]
      · rw [if_neg (fun z => e (by cases z; rfl)), List.getElem?_set_ne (Ne.symm e)]
        rfl
    | self =>
      rw [if_neg (fun z => by cases z)]
      show some (Nd.ins _ (selfA _ _)) = some (Nd.ins _ (selfA _ _))
      unfold selfA
      simp
    | _ => rfl
theorem Is.sHol (W : Is K b A w M) {q : Nat} {x : Option Nat} :
    Is K b A { w with st := { w.st with hol := w.st.hol.set q x } } (mset M (A (.s .hol)) (.lst ((w.st.hol.map oi).set q (oi x)))) :=
  W.setS (n := .hol) rfl fun m => by
    cases m with
    | hol => show some (Nd.lst ((w.st.hol.set q x).map oi)) = _; rw [if_pos rfl, List.map_set]
    | _ => rfl
theorem Is.sWant (W : Is K b A w M) {q : Nat} {x : Option Nat} :
    Is K b A { w with st := { w.st with want := w.st.want.set q x } } (mset M (A (.s .want)) (.lst ((w.st.want.map oi).set q (oi x)))) :=
  W.setS (n := .want) rfl fun m => by
    cases m with
    | want => show some (Nd.lst ((w.st.want.set q x).map oi)) = _; rw [if_pos rfl, List.map_set]
    | _ => rfl
theorem Is.sRow (W : Is K b A w M) {q : Nat} {x : Str} :
    Is K b A { w with st := { w.st with row := w.st.row.set q x } } (mset M (A (.s .row)) (.lst ((w.st.row.map .str).set q (.str x)))) :=
  W.setS (n := .row) rfl fun m => by
    cases m with
    | row => show some (Nd.lst ((w.st.row.set q x).map .str)) = _; rw [if_pos rfl, List.map_set]
    | _ => rfl
theorem Is.sLine (W : Is K b A w M) {q : Nat} {l : List Nat} (hq : q < w.st.lines.length) :
    Is K b A { w with st := { w.st with lines := w.st.lines.set q l } } (mset M (A (.s (.line q))) (.lst (l.map dN))) :=
  W.setS (d0 := .lst ((ST.line w.st q).map dN)) (by show (w.st.lines[q]?).map _ = _; unfold ST.line; rw [List.getElem?_eq_getElem hq]; rfl) fun m => by
    cases m with
    | line p =>
      show ((w.st.lines.set q l)[p]?).map _ = _
      by_cases e : p = q
      · subst e; simp [hq]
      · rw [if_neg (fun z => e (by cases z; rfl)), List.getElem?_set_ne (Ne.symm e)]
        rfl
    | _ => rfl
theorem Is.sCopy (W : Is K b A w M) {q : Nat} {l : List (Option Str)} (hq : q < w.st.cps.length) :
    Is K b A { w with st := { w.st with cps := w.st.cps.set q l } } (mset M (A (.s (.copy q))) (.lst (l.map os))) :=
  W.setS (d0 := .lst ((ST.copy w.st q).map os)) (by show (w.st.cps[q]?).map _ = _; unfold ST.copy; rw [List.getElem?_eq_getElem hq]; rfl) fun m => by
    cases m with
    | copy p =>
      show ((w.st.cps.set q l)[p]?).map _ = _
      by_cases e : p = q
      · subst e; simp [hq]
      · rw [if_neg (fun z => e (by cases z; rfl)), List.getElem?_set_ne (Ne.symm e)]
        rfl
    | dict =>
      rw [if_neg (fun z => by cases z)]
      show some (Nd.dK (dictA _ _)) = some (Nd.dK (dictA _ _))
      unfold dictA
      simp
    | _ => rfl
end
/-- a copy that is being filled -/
theorem over_step {row : List Str} {c : List (Option Str)} {b i : Nat} {z : Str} (h : row[b + i]? = some z) : (over row c b (b + i)).set (b + i) (some z) = over row c b (b + i + 1) := by
  apply List.ext_getElem?
  intro j
  unfold over
  by_cases e : b + i = j
  · subst e
    by_cases hl : b + i < c.length
    · rw [List.getElem?_set_self (by simpa using hl), List.getElem?_mapIdx, List.getElem?_eq_getElem hl]
      simp [h]
    · rw [List.getElem?_eq_none (by simp; omega), List.getElem?_eq_none (by simp; omega)]
  · rw [List.getElem?_set_ne e, List.getElem?_mapIdx, List.getElem?_mapIdx]
    cases c[j]? with
    | none => rfl
    | some x =>
      simp only [Option.map_some, Option.some.injEq]
      by_cases h1 : b ≤ j ∧ j < b + i
      · rw [if_pos h1, if_pos (by omega)]
      · rw [if_neg h1, if_neg (by omega)]
theorem over_none {row : List Str} {c : List (Option Str)} {b e : Nat} (h : e ≤ b) : over row c b e = c := by
  apply List.ext_getElem?
  intro j
  unfold over
  rw [List.getElem?_mapIdx]
  cases c[j]? with
  | none => rfl
  | some x => simp only [Option.map_some]; rw [if_neg (by omega)]
theorem isNon_oi {x : Option Nat} : isNon (oi x) = decide (x = none) := by cases x <;> rfl
theorem flat_oi {x : Option Nat} {i : Nat} : flat2 (oi x) (.int i) = some (decide (x = some i)) := by
  cases x with
  | none => rfl
  | some y =>
    show some (decide ((y : Int) = i)) = _
    congr 1
    by_cases e : y = i
    · subst e; simp
    · rw [decide_eq_false (by omega), decide_eq_false (by simpa using e)]
theorem wR_eqOI {c : EC} {M : Mem} {Q : D → Mem → Prop} {x : Option Nat} {i : Nat} (q : Q (.bl (decide (x = some i))) M) : wR c (rEqG c.K) (oi x) (.int i) M Q := wR_eq flat_oi q
theorem wR_neOI {c : EC} {M : Mem} {Q : D → Mem → Prop} {x : Option Nat} {i : Nat} (q : Q (.bl (!decide (x = some i))) M) : wR c (rNeG c.K) (oi x) (.int i) M Q := wR_ne flat_oi q
theorem cut_last {n : Nat} {f : Nat → D} : cutD ((List.range n).map f) none (some (-1)) = (List.range (n - 1)).map f := by
  unfold DL.cutD
  rw [HT.sIx_none]
  have e : HT.sIx ((List.range n).map f).length ((List.range n).map f).length (some (-1 : Int)) = n - 1 := by
    unfold HT.sIx
    simp
    omega
  rw [e]
  simp [← List.map_take, List.take_range]
theorem map_range_get {n i : Nat} {f : Nat → D} {d : D} (h : ((List.range n).map f)[i]? = some d) : i < n ∧ d = f i := by
  rw [List.getElem?_map] at h
  by_cases e : i < n
  · rw [List.getElem?_range e] at h
    cases h
    exact ⟨e, rfl⟩
  · rw [List.getElem?_eq_none (by simpa using e)] at h
    cases h
theorem at_last {n : Nat} {f : Nat → D} (h : 1 ≤ n) : atI ((List.range n).map f) (-1) = some (f (n - 1)) := by
  have e : ((List.range n).map f).length = n := by simp
  have e2 : ixN n (-1) = some (n - 1) := by
    unfold ixN
    rw [if_neg (by omega), if_pos (by omega)]
    congr 1
    omega
  unfold L2.atI
  rw [e, e2]
  show ((List.range n).map f)[n - 1]? = _
  rw [List.getElem?_map, List.getElem?_range (by omega)]
  rfl
theorem up_lt {s : St} {t : Nat} (F : Fit s t) {i j : Nat} (h : i < j) (hj : j < s.ends.length) : end_ s i < end_ s j := by
  have := List.pairwise_iff_getElem.mp F.up i j (by omega) hj h
  unfold end_
  rw [List.getElem?_eq_getElem hj, List.getElem?_eq_getElem (by omega)]
  exact this
theorem filter_count : ∀ {l : List Nat} {p q : Nat}, (∀ j, j < q → ∀ e, l[j]? = some e → e ≤ p) → (∀ j, q ≤ j → ∀ e, l[j]? = some e → p < e) → q ≤ l.length → (l.filter fun e => decide (e ≤ p)).length = q
  | [], p, q, _, _, h => by simp at h; simp [h]
  | e :: r, p, 0, h1, h2, h => by
    have := h2 0 (by omega) e rfl
    rw [List.filter_cons_of_neg (by simpa using this)]
    exact filter_count (fun j hj => by omega) (fun j hj x hx => h2 (j + 1) (by omega) x (by simpa using hx)) (by omega)
  | e :: r, p, q + 1, h1, h2, h => by
    have := h1 0 (by omega) e rfl
    rw [List.filter_cons_of_pos (by simpa using this), List.length_cons, filter_count (q := q) (fun j hj x hx => h1 (j + 1) (by omega) x (by simpa using hx)) (fun j hj x hx => h2 (j + 1) (by omega) x (by simpa using hx)) (by simpa using h)]
theorem quireAt_is {s : St} {t p q : Nat} (F : Fit s t) (h1 : ∀ j, j < q → end_ s j ≤ p) (h2 : p < end_ s q) (hq : q < s.ends.length) : quireAt s p = q := by
  refine filter_count (fun j hj e he => ?_) (fun j hj e he => ?_) (by omega)
  · have := h1 j hj
    unfold end_ at this
    rw [he] at this
    exact this
  · have hj2 := (List.getElem?_eq_some_iff.mp he).1
    have e1 : end_ s j = e := by unfold end_; rw [he]; rfl
    by_cases c : j = q
    · subst c; omega
    · have := up_lt F (i := q) (j := j) (by omega) hj2
      omega
theorem quireAt_ex {s : St} {t p : Nat} (F : Fit s t) (hp : p < s.row.length) : ∃ q, q < s.ends.length ∧ (∀ j, j < q → end_ s j ≤ p) ∧ p < end_ s q := by
  have q0 := F.q0
  have hl : p < end_ s (s.ends.length - 1) := by
    unfold end_
    rw [F.last]
    exact hp
  have : ∀ m, m < s.ends.length → p < end_ s m → ∃ q, q < s.ends.length ∧ (∀ j, j < q → end_ s j ≤ p) ∧ p < end_ s q := by
    intro m
    induction m with
    | zero => exact fun h1 h2 => ⟨0, h1, fun j hj => by omega, h2⟩
    | succ m ih =>
      intro h1 h2
      by_cases c : p < end_ s m
      · exact ih (by omega) c
      · refine ⟨m + 1, h1, fun j hj => ?_, h2⟩
        by_cases e : j = m
        · subst e; omega
        · have := up_lt F (i := j) (j := m) (by omega) (by omega)
          omega
  exact this _ (by omega) hl
theorem quireAt_lt {s : St} {t p : Nat} (F : Fit s t) (hp : p < s.row.length) : quireAt s p < s.ends.length := by
  obtain ⟨q, h1, h2, h3⟩ := quireAt_ex F hp
  rw [quireAt_is F h2 h3 h1]
  exact h1
theorem begin_le {s : St} {t q : Nat} (F : Fit s t) (hq : q < s.ends.length) : begin_ s q ≤ end_ s q ∧ end_ s q ≤ s.row.length := by
  have he : end_ s q ≤ s.row.length := F.le _ (List.mem_of_getElem? (get_end hq))
  refine ⟨?_, he⟩
  cases q with
  | zero => exact Nat.zero_le _
  | succ q =>
    have := up_lt F (i := q) (j := q + 1) (by omega) hq
    unfold begin_ begins
    rw [List.getElem?_cons_succ]
    exact Nat.le_of_lt this
theorem put_self {w : Wd} {k : Nat} {s : St} (h : w.ts k = some s) : w.put k s = w := by
  unfold Wd.put
  cases w with
  | mk st ts =>
    congr 1
    funext m
    by_cases e : m = k
    · subst e; simp [h.symm]
    · simp [e]
theorem five {α : Type} {l : List α} {a b c d : α} (h : l.length = 5) (h0 : l[0]? = some a) (h1 : l[1]? = some b) (h2 : l[2]? = some c) (h3 : l[3]? = some d) : ∃ x, l = [a, b, c, d, x] := by
  match l, h with
  | [p, q, r, s, x], _ =>
    cases h0; cases h1; cases h2; cases h3
    exact ⟨x, rfl⟩
theorem pln_ints {k : Nat} {l : List Nat} : ∀ x ∈ l.map dN, Pln k x := fun x hx => by
  obtain ⟨y, _, rfl⟩ := List.mem_map.mp hx
  cases k <;> exact trivial
/-! ### what grows -/
structure Grow {N : Type} (A : N → Addr) (f : N → Option Nd) (M M' : Mem) : Prop where
  sub : Sub M M'
  new : ∀ n, (f n).isSome = true → M (A n) = none
  at_ : ∀ n d, f n = some d → M' (A n) = some d
  inj : Inj A f
section
variable {N : Type} [DecidableEq N] {A B A' : N → Addr} {f g f' : N → Option Nd} {M M' M2 : Mem}
theorem Grow.nil {A : N → Addr} : Grow A (fun _ => none) M M := ⟨DL.Sub.refl _, fun _ h => (by cases h), fun _ _ h => (by cases h), fun _ _ h => (by cases h)⟩
theorem Grow.app (G : Grow A f M M') (G2 : Grow B g M' M2) (hd : ∀ n, (f n).isSome = true → g n = none) : Grow (fun n => if (g n).isSome = true then B n else A n) (fun n => if (g n).isSome = true then g n else f n) M M2 where
  sub := G.sub.trans G2.sub
  new := fun n h => by
    by_cases hg : (g n).isSome = true
    · rw [if_pos hg]
      cases e : M (B n) with
      | none => rfl
      | some d => exact absurd (G.sub _ _ e) (by rw [G2.new n hg]; simp)
    · rw [if_neg hg] at h ⊢
      exact G.new n h
  at_ := fun n d h => by
    by_cases hg : (g n).isSome = true
    · rw [if_pos hg] at h ⊢
      exact G2.at_ n d h
    · rw [if_neg hg] at h ⊢
      exact G2.sub _ _ (G.at_ n d h)
  inj := fun n m h1 h2 e => by
    have no : ∀ n m, (f n).isSome = true → (g m).isSome = true → A n ≠ B m := fun n m h1 h2 e => by
      obtain ⟨d, hd⟩ := Option.isSome_iff_exists.mp h1
      have := G.at_ n d hd
      rw [e, G2.new m h2] at this
      cases this
    by_cases hg : (g n).isSome = true
    · by_cases hm : (g m).isSome = true
      · simp only [if_pos hg, if_pos hm] at e
        exact G2.inj n m hg hm e
      · simp only [if_pos hg, if_neg hm] at e h2
        exact absurd e.symm (no m n h2 hg)
    · by_cases hm : (g m).isSome = true
      · simp only [if_neg hg, if_pos hm] at e h1
        exact absurd e (no n m h1 hm)
      · simp only [if_neg hg, if_neg hm] at e h1 h2
        exact G.inj n m h1 h2 e
theorem Grow.one {p : Addr} {d : Nd} {n0 : N} (h : M p = none) : Grow (fun _ => p) (fun n => if n = n0 then some d else none) M (mset M p d) where
  sub := Sub.mset h
  new := fun _ _ => h
  at_ := fun n d' hn => by
    by_cases e : n = n0
    · rw [if_pos e] at hn; cases hn; exact mset_same
    · rw [if_neg e] at hn; cases hn
  inj := fun n m h1 h2 _ => by
    by_cases e : n = n0
    · by_cases e2 : m = n0
      · rw [e, e2]
      · simp [e2] at h2
    · simp [e] at h1
theorem Grow.upd {n0 : N} {d0 d : Nd} (G : Grow A f M M') (h : f n0 = some d0) (e : ∀ n, f' n = if n = n0 then some d else f n) : Grow A f' M (mset M' (A n0) d) := by
  have hs : ∀ n, (f' n).isSome = true → (f n).isSome = true := fun n h1 => by
    rw [e n] at h1
    by_cases z : n = n0
    · rw [z, h]; rfl
    · rw [if_neg z] at h1; exact h1
  refine ⟨fun x m hm => ?_, fun n hn => G.new n (hs n hn), fun n d' hn => ?_, fun n m h1 h2 => G.inj n m (hs n h1) (hs m h2)⟩
  · rw [mset_ne]
    · exact G.sub x m hm
    · intro z
      rw [z, G.new n0 (by rw [h]; rfl)] at hm
      cases hm
  · rw [e n] at hn
    by_cases z : n = n0
    · rw [if_pos z] at hn
      cases hn
      rw [z]
      exact mset_same
    · rw [if_neg z] at hn
      rw [mset_ne]
      · exact G.at_ n d' hn
      · exact fun q => z (G.inj n n0 (by rw [hn]; rfl) (by rw [h]; rfl) q)
theorem Grow.as (G : Grow A f M M') (e : ∀ n, f' n = f n) (a : ∀ n, (f n).isSome = true → A' n = A n) : Grow A' f' M M' where
  sub := G.sub
  new := fun n h => by rw [e n] at h; rw [a n h]; exact G.new n h
  at_ := fun n d h => by rw [e n] at h; rw [a n (by rw [h]; rfl)]; exact G.at_ n d h
  inj := fun n m h1 h2 q => by
    rw [e n] at h1
    rw [e m] at h2
    rw [a n h1, a m h2] at q
    exact G.inj n m h1 h2 q
end
def quiresN (K : PySem.W.Frag) (A : TN → Addr) (b e : Nat → Nat) (i : Nat) : TN → Option Nd
  | .quire q => if q < i then some (.ins (He.ga K "Quire") [("begin", .int (b q)), ("end", .int (e q)), ("hand", .non), ("line", .ref (A (.line q)))]) else none
  | .line q => if q < i then some (.lst []) else none
  | _ => none
theorem quires_more {K : PySem.W.Frag} {A : TN → Addr} {b e : Nat → Nat} {i : Nat} {M M' : Mem} {p l : Addr} (G : Grow A (quiresN K A b e i) M M') (hp : M' p = none) (hl : M' l = none) (ne : l ≠ p) :
    Grow (fun n => if n = .quire i then p else if n = .line i then l else A n) (quiresN K (fun n => if n = .quire i then p else if n = .line i then l else A n) b e (i + 1)) M
      (mset (mset M' l (.lst [])) p (.ins (He.ga K "Quire") [("begin", .int (b i)), ("end", .int (e i)), ("hand", .non), ("line", .ref l)])) := by
  have G1 := G.app (Grow.one (n0 := TN.line i) (d := .lst []) hl) (fun n h => by
    by_cases z : n = .line i
    · subst z
      unfold quiresN at h
      simp at h
    · rw [if_neg z])
  have G2 := G1.app (Grow.one (n0 := TN.quire i) (d := .ins (He.ga K "Quire") [("begin", .int (b i)), ("end", .int (e i)), ("hand", .non), ("line", .ref l)]) (by rw [mset_ne (Ne.symm ne)]; exact hp)) (fun n h => by
    by_cases z : n = .quire i
    · subst z
      unfold quiresN at h
      simp at h
    · rw [if_neg z])
  refine G2.as (fun n => ?_) fun n h => ?_
  · cases n with
    | quire q =>
      by_cases z : q = i
      · subst z; simp [quiresN]
      · have : (q < i + 1) = (q < i) := by simp; omega
        have z2 : ¬ TN.quire q = TN.quire i := fun w => z (by cases w; rfl)
        simp only [quiresN, this, if_neg z2]
        by_cases hq : q < i
        · simp [hq, z]
        · simp [hq]
    | line q =>
      by_cases z : q = i
      · subst z; simp [quiresN]
      · have : (q < i + 1) = (q < i) := by simp; omega
        simp [quiresN, this, z]
    | _ => simp [quiresN]
  · by_cases h1 : n = .quire i
    · subst h1; simp
    · by_cases h2 : n = .line i
      · subst h2; simp
      · simp [h1, h2]
def copiesN (c : List (Option Str)) (i : Nat) : TN → Option Nd
  | .copy q => if q < i then some (.lst (c.map os)) else none
  | _ => none
theorem copies_more {A : TN → Addr} {c : List (Option Str)} {i : Nat} {M M' : Mem} {p : Addr} (G : Grow A (copiesN c i) M M') (hp : M' p = none) :
    Grow (fun n => if n = .copy i then p else A n) (copiesN c (i + 1)) M (mset M' p (.lst (c.map os))) := by
  have G1 := G.app (Grow.one (n0 := TN.copy i) (d := .lst (c.map os)) hp) (fun n h => by
    by_cases z : n = .copy i
    · subst z
      unfold copiesN at h
      simp at h
    · rw [if_neg z])
  refine G1.as (fun n => ?_) fun n h => ?_
  · cases n with
    | copy q =>
      by_cases z : q = i
      · subst z; simp [copiesN]
      · have : (q < i + 1) = (q < i) := by simp; omega
        simp [copiesN, this, z]
    | _ => simp [copiesN]
  · by_cases h2 : n = .copy i
    · subst h2; simp
    · simp [h2]
def start (row : List Str) (seams : List Nat) (hands giving : Nat) : St where
  row := row
  ends := seams ++ [row.length]
  hol := List.replicate (seams.length + 1) none
  lines := List.replicate (seams.length + 1) []
  want := List.replicate hands none
  cps := List.replicate hands (List.replicate row.length none)
  giving := giving
theorem zip_ends {seams : List Nat} {many : Nat} : zipD ([D.int 0] ++ seams.map dN) (seams.map dN ++ [D.int many]) = (List.range (seams.length + 1)).map fun i => D.tup [dN ((0 :: (seams ++ [many]))[i]?.getD 0), dN ((seams ++ [many])[i]?.getD 0)] := by
  have e1 : [D.int 0] ++ seams.map dN = (0 :: seams).map dN := rfl
  have e2 : seams.map dN ++ [D.int many] = (seams ++ [many]).map dN := by rw [List.map_append]; rfl
  rw [e1, e2]
  apply List.ext_getElem?
  intro i
  unfold zipD
  rw [List.getElem?_zipWith, List.getElem?_map, List.getElem?_map, List.getElem?_map]
  by_cases h : i < seams.length + 1
  · rw [List.getElem?_range h, List.getElem?_eq_getElem (show i < (0 :: seams).length by simpa using h), List.getElem?_eq_getElem (show i < (seams ++ [many]).length by simpa using h)]
    simp only [Option.map_some, Option.getD_some]
    have e3 : (0 :: (seams ++ [many]))[i]? = some (0 :: seams)[i] := by
      rw [← List.cons_append, List.getElem?_append_left (by simpa using h), List.getElem?_eq_getElem]
    have e4 : (seams ++ [many])[i]? = some ((seams ++ [many])[i]'(by simpa using h)) := List.getElem?_eq_getElem (by simpa using h)
    rw [e3, e4]
    rfl
  · rw [List.getElem?_eq_none (by simp; omega), List.getElem?_eq_none (l := List.range _) (by simp; omega)]
    rfl
def noN : TN → Option Nd := fun _ => none
def stF (sd : Nd) (lent want : Option Nd) (fq fc : TN → Option Nd) : TN → Option Nd
  | .self => some sd | .lent => lent | .want => want | .quire q => fq (.quire q) | .line q => fq (.line q) | .copy q => fc (.copy q)
def stA (p l w : Addr) (Aq Ac : TN → Addr) : TN → Addr
  | .self => p | .lent => l | .want => w | .quire q => Aq (.quire q) | .line q => Aq (.line q) | .copy q => Ac (.copy q)
section
variable {M M' M2 : Mem} {p l w l' w' : Addr} {Aq Ac A : TN → Addr} {sd sd' x : Nd} {lent want : Option Nd} {fq fc g : TN → Option Nd}
theorem stg_self (h : M p = none) : Grow (stA p l w Aq Ac) (stF sd none none noN noN) M (mset M p sd) :=
  (Grow.one (n0 := TN.self) (d := sd) h).as (fun n => by cases n <;> simp [stF, noN]) (fun n h => by cases n <;> simp at h; rfl)
theorem stg_set (G : Grow (stA p l w Aq Ac) (stF sd lent want fq fc) M M') : Grow (stA p l w Aq Ac) (stF sd' lent want fq fc) M (mset M' p sd') :=
  G.upd (n0 := .self) (d0 := sd) (d := sd') rfl (fun n => by cases n <;> simp [stF])
theorem stg_lent (G : Grow (stA p l w Aq Ac) (stF sd none want fq fc) M M') (h : M' l' = none) : Grow (stA p l' w Aq Ac) (stF sd (some x) want fq fc) M (mset M' l' x) :=
  (G.app (Grow.one (n0 := TN.lent) (d := x) h) (fun n h => by cases n <;> simp [stF] at h ⊢)).as (fun n => by cases n <;> simp [stF]) (fun n h => by cases n <;> simp [stA])
theorem stg_want (G : Grow (stA p l w Aq Ac) (stF sd lent none fq fc) M M') (h : M' w' = none) : Grow (stA p l w' Aq Ac) (stF sd lent (some x) fq fc) M (mset M' w' x) :=
  (G.app (Grow.one (n0 := TN.want) (d := x) h) (fun n h => by cases n <;> simp [stF] at h ⊢)).as (fun n => by cases n <;> simp [stF]) (fun n h => by cases n <;> simp [stA])
theorem stg_q {K : PySem.W.Frag} {b e : Nat → Nat} {i : Nat} (G : Grow (stA p l w Aq Ac) (stF sd lent want noN fc) M M') (G2 : Grow A (quiresN K A b e i) M' M2) : Grow (stA p l w A Ac) (stF sd lent want (quiresN K A b e i) fc) M M2 :=
  (G.app G2 (fun n h => by cases n <;> simp [stF, noN, quiresN] at h ⊢)).as (fun n => by
    cases n <;> simp [stF, quiresN, noN]) (fun n h => by
    cases n with
    | quire q => by_cases z : q < i <;> simp [stA, stF, noN, quiresN, z] at h ⊢
    | line q => by_cases z : q < i <;> simp [stA, stF, noN, quiresN, z] at h ⊢
    | _ => simp [stA, quiresN])
theorem stg_c {c : List (Option Str)} {i : Nat} (G : Grow (stA p l w Aq Ac) (stF sd lent want fq noN) M M') (G2 : Grow A (copiesN c i) M' M2) : Grow (stA p l w Aq A) (stF sd lent want fq (copiesN c i)) M M2 :=
  (G.app G2 (fun n h => by cases n <;> simp [stF, noN, copiesN] at h ⊢)).as (fun n => by
    cases n <;> simp [stF, copiesN, noN]) (fun n h => by
    cases n with
    | copy q => by_cases z : q < i <;> simp [stA, stF, noN, copiesN, z] at h ⊢
    | _ => simp [stA, copiesN])
end
theorem start_node {K : PySem.W.Frag} {p l w : Addr} {Aq Ac : TN → Addr} {row : List Str} {seams : List Nat} {hands g : Nat} (n : TN) :
    nodeT K (stA p l w Aq Ac) (start row seams hands g) n = stF (.ins (He.ga K "Stall") [("lent", .ref l), ("quires", .lst ((List.range (seams.length + 1)).map fun i => .ref (Aq (.quire i)))), ("copies", .lst ((List.range hands).map fun i => .ref (Ac (.copy i)))), ("wanted", .ref w)])
      (some (.lst (row.map .str))) (some (.lst (List.replicate hands D.non))) (quiresN K Aq (fun q => (0 :: (seams ++ [row.length]))[q]?.getD 0) (fun q => (seams ++ [row.length])[q]?.getD 0) (seams.length + 1)) (copiesN (List.replicate row.length none) hands) n := by
  cases n with
  | self => simp [nodeT, stF, selfA, start, stA]
  | lent => rfl
  | want => simp [nodeT, stF, start, oi]
  | quire q =>
    simp only [nodeT, stF, quiresN, start, quireA, begin_, begins, end_, holder, stA, List.length_append, List.length_singleton]
    by_cases h : q < seams.length + 1
    · simp only [if_pos h]
      rw [List.getElem?_replicate, if_pos h]
      rfl
    · simp only [if_neg h]
  | line q =>
    simp only [nodeT, stF, quiresN, start]
    rw [List.getElem?_replicate]
    by_cases h : q < seams.length + 1
    · simp only [if_pos h]; rfl
    · simp only [if_neg h]; rfl
  | copy q =>
    simp only [nodeT, stF, copiesN, start]
    rw [List.getElem?_replicate]
    by_cases h : q < hands
    · simp only [if_pos h]; rfl
    · simp only [if_neg h]; rfl
theorem get_map {α : Type} {l : List α} {f : α → D} {i : Nat} {d : D} (h : (l.map f)[i]? = some d) : ∃ x, l[i]? = some x ∧ d = f x := by
  rw [List.getElem?_map] at h
  cases e : l[i]? with
  | none => rw [e] at h; cases h
  | some x => rw [e] at h; cases h; exact ⟨x, rfl, rfl⟩
/-- an item of a list that is not empty, drawn -/
theorem pick_pos {l : List Nat} (h : l ≠ []) : (0 : Int) < ((l.map dN).length : Int) := by
  have h0 : 0 < l.length := List.length_pos_iff.mpr h
  rw [List.length_map]
  omega
theorem pick {l : List Nat} {m : Int} (h : l ≠ []) : ∃ y, y ∈ l ∧ atI (l.map dN) (m % ((l.map dN).length : Int)) = some (dN y) := by
  have h0 : 0 < l.length := List.length_pos_iff.mpr h
  have b0 := Int.emod_nonneg m (show ((l.map dN).length : Int) ≠ 0 by rw [List.length_map]; omega)
  have b1 := Int.emod_lt_of_pos m (show (0 : Int) < ((l.map dN).length : Int) by rw [List.length_map]; omega)
  have b2 : (m % ((l.map dN).length : Int)).toNat < l.length := by
    rw [List.length_map] at b0 b1 ⊢
    omega
  exact ⟨_, List.getElem_mem b2, atI_of b0 (by rw [List.getElem?_map, List.getElem?_eq_getElem b2]; rfl)⟩
/-! ### a law's state grows -/
def noS : SN → Option Nd := fun _ => none
def sF (dict row hol want : Option Nd) (fl fc : SN → Option Nd) : SN → Option Nd
  | .dict => dict | .row => row | .hol => hol | .want => want | .line q => fl (.line q) | .copy q => fc (.copy q)
def sA (d r h w : Addr) (Al Ac : SN → Addr) : SN → Addr
  | .dict => d | .row => r | .hol => h | .want => w | .line q => Al (.line q) | .copy q => Ac (.copy q)
def linesS (i : Nat) : SN → Option Nd
  | .line q => if q < i then some (.lst []) else none
  | _ => none
def copiesS (c : List (Option Str)) (i : Nat) : SN → Option Nd
  | .copy q => if q < i then some (.lst (c.map os)) else none
  | _ => none
theorem linesS_more {A : SN → Addr} {i : Nat} {M M' : Mem} {p : Addr} (G : Grow A (linesS i) M M') (hp : M' p = none) :
    Grow (fun n => if n = .line i then p else A n) (linesS (i + 1)) M (mset M' p (.lst [])) := by
  refine (G.app (Grow.one (n0 := SN.line i) (d := .lst []) hp) (fun n h => ?_)).as (fun n => ?_) fun n h => ?_
  · by_cases z : n = .line i
    · subst z
      simp [linesS] at h
    · rw [if_neg z]
  · cases n with
    | line q =>
      by_cases z : q = i
      · subst z; simp [linesS]
      · have : (q < i + 1) = (q < i) := by simp; omega
        simp [linesS, this, z]
    | _ => simp [linesS]
  · by_cases h2 : n = .line i
    · subst h2; simp
    · simp [h2]
theorem copiesS_more {A : SN → Addr} {c : List (Option Str)} {i : Nat} {M M' : Mem} {p : Addr} (G : Grow A (copiesS c i) M M') (hp : M' p = none) :
    Grow (fun n => if n = .copy i then p else A n) (copiesS c (i + 1)) M (mset M' p (.lst (c.map os))) := by
  refine (G.app (Grow.one (n0 := SN.copy i) (d := .lst (c.map os)) hp) (fun n h => ?_)).as (fun n => ?_) fun n h => ?_
  · by_cases z : n = .copy i
    · subst z
      simp [copiesS] at h
    · rw [if_neg z]
  · cases n with
    | copy q =>
      by_cases z : q = i
      · subst z; simp [copiesS]
      · have : (q < i + 1) = (q < i) := by simp; omega
        simp [copiesS, this, z]
    | _ => simp [copiesS]
  · by_cases h2 : n = .copy i
    · subst h2; simp
    · simp [h2]
section
variable {M M' M2 : Mem} {d r h w p : Addr} {Al Ac A : SN → Addr} {x y : Nd} {dd row hol want : Option Nd} {fl fc g : SN → Option Nd}
theorem sg_row (G : Grow (sA d r h w Al Ac) (sF dd none hol want fl fc) M M') (hp : M' p = none) : Grow (sA d p h w Al Ac) (sF dd (some x) hol want fl fc) M (mset M' p x) :=
  (G.app (Grow.one (n0 := SN.row) (d := x) hp) (fun n h => by cases n <;> simp [sF] at h ⊢)).as (fun n => by cases n <;> simp [sF]) (fun n h => by cases n <;> simp [sA])
theorem sg_hol (G : Grow (sA d r h w Al Ac) (sF dd row none want fl fc) M M') (hp : M' p = none) : Grow (sA d r p w Al Ac) (sF dd row (some x) want fl fc) M (mset M' p x) :=
  (G.app (Grow.one (n0 := SN.hol) (d := x) hp) (fun n h => by cases n <;> simp [sF] at h ⊢)).as (fun n => by cases n <;> simp [sF]) (fun n h => by cases n <;> simp [sA])
theorem sg_want (G : Grow (sA d r h w Al Ac) (sF dd row hol none fl fc) M M') (hp : M' p = none) : Grow (sA d r h p Al Ac) (sF dd row hol (some x) fl fc) M (mset M' p x) :=
  (G.app (Grow.one (n0 := SN.want) (d := x) hp) (fun n h => by cases n <;> simp [sF] at h ⊢)).as (fun n => by cases n <;> simp [sF]) (fun n h => by cases n <;> simp [sA])
theorem sg_dict (G : Grow (sA d r h w Al Ac) (sF none row hol want fl fc) M M') (hp : M' p = none) : Grow (sA p r h w Al Ac) (sF (some x) row hol want fl fc) M (mset M' p x) :=
  (G.app (Grow.one (n0 := SN.dict) (d := x) hp) (fun n h => by cases n <;> simp [sF] at h ⊢)).as (fun n => by cases n <;> simp [sF]) (fun n h => by cases n <;> simp [sA])
theorem sg_set (G : Grow (sA d r h w Al Ac) (sF (some x) row hol want fl fc) M M') : Grow (sA d r h w Al Ac) (sF (some y) row hol want fl fc) M (mset M' d y) :=
  G.upd (n0 := .dict) (d0 := x) (d := y) rfl (fun n => by cases n <;> simp [sF])
theorem sg_l {i : Nat} (G : Grow (sA d r h w Al Ac) (sF dd row hol want noS fc) M M') (G2 : Grow A (linesS i) M' M2) : Grow (sA d r h w A Ac) (sF dd row hol want (linesS i) fc) M M2 :=
  (G.app G2 (fun n h => by cases n <;> simp [sF, noS, linesS] at h ⊢)).as (fun n => by
    cases n <;> simp [sF, linesS, noS]) (fun n h => by
    cases n with
    | line q => by_cases z : q < i <;> simp [sA, sF, noS, linesS, z] at h ⊢
    | _ => simp [sA, linesS])
theorem sg_c {c : List (Option Str)} {i : Nat} (G : Grow (sA d r h w Al Ac) (sF dd row hol want fl noS) M M') (G2 : Grow A (copiesS c i) M' M2) : Grow (sA d r h w Al A) (sF dd row hol want fl (copiesS c i)) M M2 :=
  (G.app G2 (fun n h => by cases n <;> simp [sF, noS, copiesS] at h ⊢)).as (fun n => by
    cases n <;> simp [sF, copiesS, noS]) (fun n h => by
    cases n with
    | copy q => by_cases z : q < i <;> simp [sA, sF, noS, copiesS, z] at h ⊢
    | _ => simp [sA, copiesS])
end
theorem start_state {d r h w : Addr} {Al Ac : SN → Addr} {row : List Str} {seams : List Nat} {hands g : Nat} (n : SN) :
    nodeS (sA d r h w Al Ac) (start row seams hands g) n = sF (some (.dK [(.inr "row", .ref r), (.inr "seams", .tup (seams.map dN)), (.inr "ends", .lst ((seams ++ [row.length]).map dN)), (.inr "holders", .ref h), (.inr "lines", .lst ((List.range (seams.length + 1)).map fun i => .ref (Al (.line i)))), (.inr "wanted", .ref w), (.inr "copies", .lst ((List.range hands).map fun i => .ref (Ac (.copy i)))), (.inr "giving", .int g)]))
      (some (.lst (row.map .str))) (some (.lst (List.replicate (seams.length + 1) D.non))) (some (.lst (List.replicate hands D.non))) (linesS (seams.length + 1)) (copiesS (List.replicate row.length none) hands) n := by
  cases n with
  | dict => simp [nodeS, sF, dictA, start, sA]
  | row => rfl
  | hol => simp [nodeS, sF, start, oi]
  | want => simp [nodeS, sF, start, oi]
  | line q =>
    simp only [nodeS, sF, linesS, start]
    rw [List.getElem?_replicate]
    by_cases h : q < seams.length + 1
    · simp only [if_pos h]; rfl
    · simp only [if_neg h]; rfl
  | copy q =>
    simp only [nodeS, sF, copiesS, start]
    rw [List.getElem?_replicate]
    by_cases h : q < hands
    · simp only [if_pos h]; rfl
    · simp only [if_neg h]; rfl
theorem start_fit {row : List Str} {seams : List Nat} {hands g : Nat} (h1 : 1 ≤ row.length) (h2 : row.length ≤ 40) (h3 : seams.Pairwise (· < ·)) (h4 : ∀ x ∈ seams, 1 ≤ x ∧ x < row.length) (h5 : seams.length ≤ 39) (h6 : 1 ≤ hands) (h7 : hands ≤ 10) (h8 : ∀ z ∈ row, z.length ≤ 8) (h9 : g ≤ 4) : Fit (start row seams hands g) 0 where
  n0 := h1
  n1 := h2
  q0 := by simp [start]
  q1 := by simp [start]; omega
  le := fun e he => by
    simp [start] at he
    rcases he with he | he
    · have := (h4 e he).2
      simp [start]; omega
    · subst he; simp [start]
  up := by
    simp only [start]
    rw [List.pairwise_append]
    exact ⟨h3, List.pairwise_singleton _ _, fun x hx y hy => by rw [List.mem_singleton.mp hy]; exact (h4 x hx).2⟩
  last := by simp [start]
  hol := by simp [start]
  lines := by simp [start]
  cps := by simp [start]
  h0 := by simp [start]; omega
  h1 := by simp [start]; omega
  cp := fun c hc => by rw [List.eq_of_mem_replicate hc]; simp [start]
  line := fun l hl => by rw [List.eq_of_mem_replicate hl]; simp
  row := h8
  copies := fun c hc z hz => by
    rw [List.eq_of_mem_replicate hc] at hz
    have := List.eq_of_mem_replicate hz
    cases this
  giv := h9
theorem isNon_deed {d : Deed} : isNon (deedD d) = false := by cases d <;> rfl
def nameW (p : Addr) (A : SN → Addr) (B : TN → Addr) : WN → Addr
  | .deck => p | .s n => A n | .t _ n => B n
theorem mk_is {K : PySem.W.Frag} {b : Int} {p : Addr} {A : SN → Addr} {B : TN → Addr} {s : St} {M1 M2 M3 : Mem} (hd : Deck b M1 p) (G : Grow A (nodeS A s) M1 M2) (G2 : Grow B (nodeT K B s) M2 M3) :
    Is K b (nameW p A B) ⟨s, fun k => if k = 0 then some s else none⟩ M3 where
  e := fun x n h => by
    unfold memW at h
    by_cases e : ∃ n, (nodeW K b (nameW p A B) ⟨s, fun k => if k = 0 then some s else none⟩ n).isSome = true ∧ nameW p A B n = x
    · rw [dif_pos e] at h
      have e2 := e.choose_spec.2
      generalize e.choose = m at *
      subst e2
      cases m with
      | deck => cases h; exact G2.sub _ _ (G.sub _ _ hd)
      | s m => exact G2.sub _ _ (G.at_ m n h)
      | t k m =>
        by_cases hk : k = 0
        · subst hk; exact G2.at_ m n h
        · simp [nodeW, hk] at h
    · rw [dif_neg e] at h
      cases h
  I := fun n m h1 h2 e => by
    have no1 : ∀ m, (nodeS A s m).isSome = true → p ≠ A m := fun m h q => by
      have := G.new m h
      rw [← q, hd] at this
      cases this
    have no2 : ∀ m, (nodeT K B s m).isSome = true → p ≠ B m := fun m h q => by
      have := G2.new m h
      rw [← q, G.sub _ _ hd] at this
      cases this
    have no3 : ∀ n m, (nodeS A s n).isSome = true → (nodeT K B s m).isSome = true → A n ≠ B m := fun n m h1 h2 q => by
      obtain ⟨d, hd⟩ := Option.isSome_iff_exists.mp h1
      have := G2.new m h2
      rw [← q, G.at_ n d hd] at this
      cases this
    have ot : ∀ k m, (nodeW K b (nameW p A B) ⟨s, fun k => if k = 0 then some s else none⟩ (.t k m)).isSome = true → k = 0 ∧ (nodeT K B s m).isSome = true := fun k m h => by
      by_cases hk : k = 0
      · subst hk; exact ⟨rfl, h⟩
      · simp [nodeW, hk] at h
    cases n with
    | deck =>
      cases m with
      | deck => rfl
      | s m => exact absurd e (no1 m h2)
      | t k m => exact absurd e (no2 m (ot k m h2).2)
    | s n =>
      cases m with
      | deck => exact absurd e.symm (no1 n h1)
      | s m => rw [G.inj n m h1 h2 e]
      | t k m => exact absurd e (no3 n m h1 (ot k m h2).2)
    | t j n =>
      obtain ⟨rfl, h1⟩ := ot j n h1
      cases m with
      | deck => exact absurd e.symm (no2 n h1)
      | s m => exact absurd e.symm (no3 m n h2 h1)
      | t k m =>
        obtain ⟨rfl, h2⟩ := ot k m h2
        rw [G2.inj n m h1 h2 e]
end ST

namespace Pf
open PySem PySem.Spec PyProof.Rows L2 DL ST
def top (i : Nat) : Stmt := PySem.Challenge.pw_copystem_k75_quires_lent.main.body.getD i (.Pass ⟨0, 0, 0, 0⟩)

abbrev s_is_number : Stmt := top 8
abbrev s_is_within : Stmt := top 9
abbrev s_Quire___init__ : Stmt := inClass (top 11) 0
abbrev s_quires_of : Stmt := top 12
abbrev s_Stall___init__ : Stmt := inClass (top 13) 0
abbrev s_Stall_need_hand : Stmt := inClass (top 13) 1
abbrev s_Stall_need_quire : Stmt := inClass (top 13) 2
abbrev s_Stall_need_free : Stmt := inClass (top 13) 3
abbrev s_Stall_ask : Stmt := inClass (top 13) 4
abbrev s_Stall_give : Stmt := inClass (top 13) 5
abbrev s_Stall_quire_at : Stmt := inClass (top 13) 6
abbrev s_Stall_mend : Stmt := inClass (top 13) 7
abbrev s_Stall_holder : Stmt := inClass (top 13) 8
abbrev s_Stall_waiting : Stmt := inClass (top 13) 9
abbrev s_Stall_row : Stmt := inClass (top 13) 10
abbrev s_Stall_copy : Stmt := inClass (top 13) 11
abbrev s__law_mixed : Stmt := top 15
abbrev s__law_deck : Stmt := top 16
abbrev s__law_next : Stmt := top 17
abbrev s__law_letters : Stmt := top 18
abbrev s__law_reading : Stmt := top 19
abbrev s__law_seams : Stmt := top 20
abbrev s__law_state : Stmt := top 21
abbrev s__law_quire : Stmt := top 22
abbrev s__law_given : Stmt := top 23
abbrev s__law_asked : Stmt := top 24
abbrev s__law_drawn : Stmt := top 25
abbrev s__law_due : Stmt := top 26
abbrev s__law_done : Stmt := top 27
abbrev s__law_alike : Stmt := top 28
abbrev s__law_told : Stmt := top 29
abbrev s_law : Stmt := top 30

def fn : List He.DefD := [
  ⟨("is_number", none), "is_number", "is_number", defArgs s_is_number, defBody s_is_number, defScope s_is_number, [], []⟩,
  ⟨("is_within", none), "is_within", "is_within", defArgs s_is_within, defBody s_is_within, defScope s_is_within, [], []⟩,
  ⟨("Quire", some "__init__"), "__init__", "Quire.__init__", defArgs s_Quire___init__, defBody s_Quire___init__, defScope s_Quire___init__, [], []⟩,
  ⟨("quires_of", none), "quires_of", "quires_of", defArgs s_quires_of, defBody s_quires_of, defScope s_quires_of, [], []⟩,
  ⟨("Stall", some "__init__"), "__init__", "Stall.__init__", defArgs s_Stall___init__, defBody s_Stall___init__, defScope s_Stall___init__, [], []⟩,
  ⟨("Stall", some "need_hand"), "need_hand", "Stall.need_hand", defArgs s_Stall_need_hand, defBody s_Stall_need_hand, defScope s_Stall_need_hand, [], []⟩,
  ⟨("Stall", some "need_quire"), "need_quire", "Stall.need_quire", defArgs s_Stall_need_quire, defBody s_Stall_need_quire, defScope s_Stall_need_quire, [], []⟩,
  ⟨("Stall", some "need_free"), "need_free", "Stall.need_free", defArgs s_Stall_need_free, defBody s_Stall_need_free, defScope s_Stall_need_free, [], []⟩,
  ⟨("Stall", some "ask"), "ask", "Stall.ask", defArgs s_Stall_ask, defBody s_Stall_ask, defScope s_Stall_ask, [], []⟩,
  ⟨("Stall", some "give"), "give", "Stall.give", defArgs s_Stall_give, defBody s_Stall_give, defScope s_Stall_give, [], []⟩,
  ⟨("Stall", some "quire_at"), "quire_at", "Stall.quire_at", defArgs s_Stall_quire_at, defBody s_Stall_quire_at, defScope s_Stall_quire_at, [], []⟩,
  ⟨("Stall", some "mend"), "mend", "Stall.mend", defArgs s_Stall_mend, defBody s_Stall_mend, defScope s_Stall_mend, [], []⟩,
  ⟨("Stall", some "holder"), "holder", "Stall.holder", defArgs s_Stall_holder, defBody s_Stall_holder, defScope s_Stall_holder, [], []⟩,
  ⟨("Stall", some "waiting"), "waiting", "Stall.waiting", defArgs s_Stall_waiting, defBody s_Stall_waiting, defScope s_Stall_waiting, [], []⟩,
  ⟨("Stall", some "row"), "row", "Stall.row", defArgs s_Stall_row, defBody s_Stall_row, defScope s_Stall_row, [], []⟩,
  ⟨("Stall", some "copy"), "copy", "Stall.copy", defArgs s_Stall_copy, defBody s_Stall_copy, defScope s_Stall_copy, [], []⟩,
  ⟨("_law_mixed", none), "_law_mixed", "_law_mixed", defArgs s__law_mixed, defBody s__law_mixed, defScope s__law_mixed, [], []⟩,
  ⟨("_law_deck", none), "_law_deck", "_law_deck", defArgs s__law_deck, defBody s__law_deck, defScope s__law_deck, [], []⟩,
  ⟨("_law_next", none), "_law_next", "_law_next", defArgs s__law_next, defBody s__law_next, defScope s__law_next, [], []⟩,
  ⟨("_law_letters", none), "_law_letters", "_law_letters", defArgs s__law_letters, defBody s__law_letters, defScope s__law_letters, [], []⟩,
  ⟨("_law_reading", none), "_law_reading", "_law_reading", defArgs s__law_reading, defBody s__law_reading, defScope s__law_reading, [], []⟩,
  ⟨("_law_seams", none), "_law_seams", "_law_seams", defArgs s__law_seams, defBody s__law_seams, defScope s__law_seams, [], []⟩,
  ⟨("_law_state", none), "_law_state", "_law_state", defArgs s__law_state, defBody s__law_state, defScope s__law_state, [], []⟩,
  ⟨("_law_quire", none), "_law_quire", "_law_quire", defArgs s__law_quire, defBody s__law_quire, defScope s__law_quire, [], []⟩,
  ⟨("_law_given", none), "_law_given", "_law_given", defArgs s__law_given, defBody s__law_given, defScope s__law_given, [], []⟩,
  ⟨("_law_asked", none), "_law_asked", "_law_asked", defArgs s__law_asked, defBody s__law_asked, defScope s__law_asked, [], []⟩,
  ⟨("_law_drawn", none), "_law_drawn", "_law_drawn", defArgs s__law_drawn, defBody s__law_drawn, defScope s__law_drawn, [], []⟩,
  ⟨("_law_due", none), "_law_due", "_law_due", defArgs s__law_due, defBody s__law_due, defScope s__law_due, [], []⟩,
  ⟨("_law_done", none), "_law_done", "_law_done", defArgs s__law_done, defBody s__law_done, defScope s__law_done, [], []⟩,
  ⟨("_law_alike", none), "_law_alike", "_law_alike", defArgs s__law_alike, defBody s__law_alike, defScope s__law_alike, [], []⟩,
  ⟨("_law_told", none), "_law_told", "_law_told", defArgs s__law_told, defBody s__law_told, defScope s__law_told, [], []⟩,
  ⟨("law", none), "law", "law", defArgs s_law, defBody s_law, defScope s_law, [], []⟩]
def fa : List He.Fa := [.glo "is_number", .glo "is_within", .glo "quires_of", .glo "_law_mixed", .glo "_law_deck", .glo "_law_next", .glo "_law_letters", .glo "_law_reading", .glo "_law_seams", .glo "_law_state", .glo "_law_quire", .glo "_law_given", .glo "_law_asked", .glo "_law_drawn", .glo "_law_due", .glo "_law_done", .glo "_law_alike", .glo "_law_told", .glo "law", .free "all", .free "bool", .free "int", .free "isinstance", .free "len", .free "list", .free "range", .free "reversed", .free "str", .free "tuple", .free "zip", .glo "CopyError", .glo "NoHand", .glo "Waits", .glo "Held", .glo "NotHeld", .glo "Quire", .cls "Quire", .keep "Quire", .meth "Quire" "__init__", .mkr "Quire", .noat "Quire" "begin", .noat "Quire" "end", .noat "Quire" "hand", .noat "Quire" "line", .glo "Stall", .cls "Stall", .keep "Stall", .meth "Stall" "__init__", .meth "Stall" "need_hand", .meth "Stall" "need_quire", .meth "Stall" "need_free", .meth "Stall" "ask", .meth "Stall" "give", .meth "Stall" "quire_at", .meth "Stall" "mend", .meth "Stall" "holder", .meth "Stall" "waiting", .meth "Stall" "row", .meth "Stall" "copy", .mkr "Stall", .noat "Stall" "copies", .noat "Stall" "hand", .noat "Stall" "lent", .noat "Stall" "quires", .noat "Stall" "wanted"]

structure TT (K : PySem.W.Frag) (mg : Str → Option Value) : Prop where
  g_is_number : mg "is_number" = some (.ref (He.ga K "is_number"))
  g_is_within : mg "is_within" = some (.ref (He.ga K "is_within"))
  g_quires_of : mg "quires_of" = some (.ref (He.ga K "quires_of"))
  g__law_mixed : mg "_law_mixed" = some (.ref (He.ga K "_law_mixed"))
  g__law_deck : mg "_law_deck" = some (.ref (He.ga K "_law_deck"))
  g__law_next : mg "_law_next" = some (.ref (He.ga K "_law_next"))
  g__law_letters : mg "_law_letters" = some (.ref (He.ga K "_law_letters"))
  g__law_reading : mg "_law_reading" = some (.ref (He.ga K "_law_reading"))
  g__law_seams : mg "_law_seams" = some (.ref (He.ga K "_law_seams"))
  g__law_state : mg "_law_state" = some (.ref (He.ga K "_law_state"))
  g__law_quire : mg "_law_quire" = some (.ref (He.ga K "_law_quire"))
  g__law_given : mg "_law_given" = some (.ref (He.ga K "_law_given"))
  g__law_asked : mg "_law_asked" = some (.ref (He.ga K "_law_asked"))
  g__law_drawn : mg "_law_drawn" = some (.ref (He.ga K "_law_drawn"))
  g__law_due : mg "_law_due" = some (.ref (He.ga K "_law_due"))
  g__law_done : mg "_law_done" = some (.ref (He.ga K "_law_done"))
  g__law_alike : mg "_law_alike" = some (.ref (He.ga K "_law_alike"))
  g__law_told : mg "_law_told" = some (.ref (He.ga K "_law_told"))
  g_law : mg "law" = some (.ref (He.ga K "law"))
  k_all : mg "all" = none
  k_bool : mg "bool" = none
  k_int : mg "int" = none
  k_isinstance : mg "isinstance" = none
  k_len : mg "len" = none
  k_list : mg "list" = none
  k_range : mg "range" = none
  k_reversed : mg "reversed" = none
  k_str : mg "str" = none
  k_tuple : mg "tuple" = none
  k_zip : mg "zip" = none
  g_CopyError : mg "CopyError" = some (.ref (He.ga K "CopyError"))
  g_NoHand : mg "NoHand" = some (.ref (He.ga K "NoHand"))
  g_Waits : mg "Waits" = some (.ref (He.ga K "Waits"))
  g_Held : mg "Held" = some (.ref (He.ga K "Held"))
  g_NotHeld : mg "NotHeld" = some (.ref (He.ga K "NotHeld"))
  g_Quire : mg "Quire" = some (.ref (He.ga K "Quire"))
  cl_Quire : Cls K (He.ga K "Quire")
  mt_Quire___init__ : Meth K (He.ga K "Quire") "__init__" (He.ma K (He.ga K "Quire") "__init__")
  m_Quire : Mk K (He.ga K "Quire") (He.ma K (He.ga K "Quire") "__init__")
  n_Quire_begin : NoAttr K (He.ga K "Quire") "begin"
  n_Quire_end : NoAttr K (He.ga K "Quire") "end"
  n_Quire_hand : NoAttr K (He.ga K "Quire") "hand"
  n_Quire_line : NoAttr K (He.ga K "Quire") "line"
  g_Stall : mg "Stall" = some (.ref (He.ga K "Stall"))
  cl_Stall : Cls K (He.ga K "Stall")
  mt_Stall___init__ : Meth K (He.ga K "Stall") "__init__" (He.ma K (He.ga K "Stall") "__init__")
  mt_Stall_need_hand : Meth K (He.ga K "Stall") "need_hand" (He.ma K (He.ga K "Stall") "need_hand")
  mt_Stall_need_quire : Meth K (He.ga K "Stall") "need_quire" (He.ma K (He.ga K "Stall") "need_quire")
  mt_Stall_need_free : Meth K (He.ga K "Stall") "need_free" (He.ma K (He.ga K "Stall") "need_free")
  mt_Stall_ask : Meth K (He.ga K "Stall") "ask" (He.ma K (He.ga K "Stall") "ask")
  mt_Stall_give : Meth K (He.ga K "Stall") "give" (He.ma K (He.ga K "Stall") "give")
  mt_Stall_quire_at : Meth K (He.ga K "Stall") "quire_at" (He.ma K (He.ga K "Stall") "quire_at")
  mt_Stall_mend : Meth K (He.ga K "Stall") "mend" (He.ma K (He.ga K "Stall") "mend")
  mt_Stall_holder : Meth K (He.ga K "Stall") "holder" (He.ma K (He.ga K "Stall") "holder")
  mt_Stall_waiting : Meth K (He.ga K "Stall") "waiting" (He.ma K (He.ga K "Stall") "waiting")
  mt_Stall_row : Meth K (He.ga K "Stall") "row" (He.ma K (He.ga K "Stall") "row")
  mt_Stall_copy : Meth K (He.ga K "Stall") "copy" (He.ma K (He.ga K "Stall") "copy")
  m_Stall : Mk K (He.ga K "Stall") (He.ma K (He.ga K "Stall") "__init__")
  n_Stall_copies : NoAttr K (He.ga K "Stall") "copies"
  n_Stall_hand : NoAttr K (He.ga K "Stall") "hand"
  n_Stall_lent : NoAttr K (He.ga K "Stall") "lent"
  n_Stall_quires : NoAttr K (He.ga K "Stall") "quires"
  n_Stall_wanted : NoAttr K (He.ga K "Stall") "wanted"
  F_is_number : FnP K "is_number" "is_number" s_is_number (He.ga K "is_number") (fdAt K (He.ga K "is_number"))
  F_is_within : FnP K "is_within" "is_within" s_is_within (He.ga K "is_within") (fdAt K (He.ga K "is_within"))
  F_Quire___init__ : FnP K "__init__" "Quire.__init__" s_Quire___init__ (He.ma K (He.ga K "Quire") "__init__") (fdAt K (He.ma K (He.ga K "Quire") "__init__"))
  F_quires_of : FnP K "quires_of" "quires_of" s_quires_of (He.ga K "quires_of") (fdAt K (He.ga K "quires_of"))
  F_Stall___init__ : FnP K "__init__" "Stall.__init__" s_Stall___init__ (He.ma K (He.ga K "Stall") "__init__") (fdAt K (He.ma K (He.ga K "Stall") "__init__"))
  F_Stall_need_hand : FnP K "need_hand" "Stall.need_hand" s_Stall_need_hand (He.ma K (He.ga K "Stall") "need_hand") (fdAt K (He.ma K (He.ga K "Stall") "need_hand"))
  F_Stall_need_quire : FnP K "need_quire" "Stall.need_quire" s_Stall_need_quire (He.ma K (He.ga K "Stall") "need_quire") (fdAt K (He.ma K (He.ga K "Stall") "need_quire"))
  F_Stall_need_free : FnP K "need_free" "Stall.need_free" s_Stall_need_free (He.ma K (He.ga K "Stall") "need_free") (fdAt K (He.ma K (He.ga K "Stall") "need_free"))
  F_Stall_ask : FnP K "ask" "Stall.ask" s_Stall_ask (He.ma K (He.ga K "Stall") "ask") (fdAt K (He.ma K (He.ga K "Stall") "ask"))
  F_Stall_give : FnP K "give" "Stall.give" s_Stall_give (He.ma K (He.ga K "Stall") "give") (fdAt K (He.ma K (He.ga K "Stall") "give"))
  F_Stall_quire_at : FnP K "quire_at" "Stall.quire_at" s_Stall_quire_at (He.ma K (He.ga K "Stall") "quire_at") (fdAt K (He.ma K (He.ga K "Stall") "quire_at"))
  F_Stall_mend : FnP K "mend" "Stall.mend" s_Stall_mend (He.ma K (He.ga K "Stall") "mend") (fdAt K (He.ma K (He.ga K "Stall") "mend"))
  F_Stall_holder : FnP K "holder" "Stall.holder" s_Stall_holder (He.ma K (He.ga K "Stall") "holder") (fdAt K (He.ma K (He.ga K "Stall") "holder"))
  F_Stall_waiting : FnP K "waiting" "Stall.waiting" s_Stall_waiting (He.ma K (He.ga K "Stall") "waiting") (fdAt K (He.ma K (He.ga K "Stall") "waiting"))
  F_Stall_row : FnP K "row" "Stall.row" s_Stall_row (He.ma K (He.ga K "Stall") "row") (fdAt K (He.ma K (He.ga K "Stall") "row"))
  F_Stall_copy : FnP K "copy" "Stall.copy" s_Stall_copy (He.ma K (He.ga K "Stall") "copy") (fdAt K (He.ma K (He.ga K "Stall") "copy"))
  F__law_mixed : FnP K "_law_mixed" "_law_mixed" s__law_mixed (He.ga K "_law_mixed") (fdAt K (He.ga K "_law_mixed"))
  F__law_deck : FnP K "_law_deck" "_law_deck" s__law_deck (He.ga K "_law_deck") (fdAt K (He.ga K "_law_deck"))
  F__law_next : FnP K "_law_next" "_law_next" s__law_next (He.ga K "_law_next") (fdAt K (He.ga K "_law_next"))
  F__law_letters : FnP K "_law_letters" "_law_letters" s__law_letters (He.ga K "_law_letters") (fdAt K (He.ga K "_law_letters"))
  F__law_reading : FnP K "_law_reading" "_law_reading" s__law_reading (He.ga K "_law_reading") (fdAt K (He.ga K "_law_reading"))
  F__law_seams : FnP K "_law_seams" "_law_seams" s__law_seams (He.ga K "_law_seams") (fdAt K (He.ga K "_law_seams"))
  F__law_state : FnP K "_law_state" "_law_state" s__law_state (He.ga K "_law_state") (fdAt K (He.ga K "_law_state"))
  F__law_quire : FnP K "_law_quire" "_law_quire" s__law_quire (He.ga K "_law_quire") (fdAt K (He.ga K "_law_quire"))
  F__law_given : FnP K "_law_given" "_law_given" s__law_given (He.ga K "_law_given") (fdAt K (He.ga K "_law_given"))
  F__law_asked : FnP K "_law_asked" "_law_asked" s__law_asked (He.ga K "_law_asked") (fdAt K (He.ga K "_law_asked"))
  F__law_drawn : FnP K "_law_drawn" "_law_drawn" s__law_drawn (He.ga K "_law_drawn") (fdAt K (He.ga K "_law_drawn"))
  F__law_due : FnP K "_law_due" "_law_due" s__law_due (He.ga K "_law_due") (fdAt K (He.ga K "_law_due"))
  F__law_done : FnP K "_law_done" "_law_done" s__law_done (He.ga K "_law_done") (fdAt K (He.ga K "_law_done"))
  F__law_alike : FnP K "_law_alike" "_law_alike" s__law_alike (He.ga K "_law_alike") (fdAt K (He.ga K "_law_alike"))
  F__law_told : FnP K "_law_told" "_law_told" s__law_told (He.ga K "_law_told") (fdAt K (He.ga K "_law_told"))
  F_law : FnP K "law" "law" s_law (He.ga K "law") (fdAt K (He.ga K "law"))

theorem tt_of {K : PySem.W.Frag} {h : Heap} {mg : Str → Option Value} (X : K.In h) (G : h.Ns mainGlobals mg) (c : He.SaysD fa fn K) : TT K mg := by
  constructor
  · exact He.glo_ok X G (c.fact 0 (f := .glo "is_number") rfl)
  · exact He.glo_ok X G (c.fact 1 (f := .glo "is_within") rfl)
  · exact He.glo_ok X G (c.fact 2 (f := .glo "quires_of") rfl)
  · exact He.glo_ok X G (c.fact 3 (f := .glo "_law_mixed") rfl)
  · exact He.glo_ok X G (c.fact 4 (f := .glo "_law_deck") rfl)
  · exact He.glo_ok X G (c.fact 5 (f := .glo "_law_next") rfl)
  · exact He.glo_ok X G (c.fact 6 (f := .glo "_law_letters") rfl)
  · exact He.glo_ok X G (c.fact 7 (f := .glo "_law_reading") rfl)
  · exact He.glo_ok X G (c.fact 8 (f := .glo "_law_seams") rfl)
  · exact He.glo_ok X G (c.fact 9 (f := .glo "_law_state") rfl)
  · exact He.glo_ok X G (c.fact 10 (f := .glo "_law_quire") rfl)
  · exact He.glo_ok X G (c.fact 11 (f := .glo "_law_given") rfl)
  · exact He.glo_ok X G (c.fact 12 (f := .glo "_law_asked") rfl)
  · exact He.glo_ok X G (c.fact 13 (f := .glo "_law_drawn") rfl)
  · exact He.glo_ok X G (c.fact 14 (f := .glo "_law_due") rfl)
  · exact He.glo_ok X G (c.fact 15 (f := .glo "_law_done") rfl)
  · exact He.glo_ok X G (c.fact 16 (f := .glo "_law_alike") rfl)
  · exact He.glo_ok X G (c.fact 17 (f := .glo "_law_told") rfl)
  · exact He.glo_ok X G (c.fact 18 (f := .glo "law") rfl)
  · exact He.free_ok X G (c.fact 19 (f := .free "all") rfl)
  · exact He.free_ok X G (c.fact 20 (f := .free "bool") rfl)
  · exact He.free_ok X G (c.fact 21 (f := .free "int") rfl)
  · exact He.free_ok X G (c.fact 22 (f := .free "isinstance") rfl)
  · exact He.free_ok X G (c.fact 23 (f := .free "len") rfl)
  · exact He.free_ok X G (c.fact 24 (f := .free "list") rfl)
  · exact He.free_ok X G (c.fact 25 (f := .free "range") rfl)
  · exact He.free_ok X G (c.fact 26 (f := .free "reversed") rfl)
  · exact He.free_ok X G (c.fact 27 (f := .free "str") rfl)
  · exact He.free_ok X G (c.fact 28 (f := .free "tuple") rfl)
  · exact He.free_ok X G (c.fact 29 (f := .free "zip") rfl)
  · exact He.glo_ok X G (c.fact 30 (f := .glo "CopyError") rfl)
  · exact He.glo_ok X G (c.fact 31 (f := .glo "NoHand") rfl)
  · exact He.glo_ok X G (c.fact 32 (f := .glo "Waits") rfl)
  · exact He.glo_ok X G (c.fact 33 (f := .glo "Held") rfl)
  · exact He.glo_ok X G (c.fact 34 (f := .glo "NotHeld") rfl)
  · exact He.glo_ok X G (c.fact 35 (f := .glo "Quire") rfl)
  · exact He.cls_ok (c.fact 36 (f := .cls "Quire") rfl)
  · exact He.meth_ok (c.fact 38 (f := .meth "Quire" "__init__") rfl)
  · exact He.mkr_ok (c.fact 39 (f := .mkr "Quire") rfl)
  · exact He.noat_ok (c.fact 40 (f := .noat "Quire" "begin") rfl)
  · exact He.noat_ok (c.fact 41 (f := .noat "Quire" "end") rfl)
  · exact He.noat_ok (c.fact 42 (f := .noat "Quire" "hand") rfl)
  · exact He.noat_ok (c.fact 43 (f := .noat "Quire" "line") rfl)
  · exact He.glo_ok X G (c.fact 44 (f := .glo "Stall") rfl)
  · exact He.cls_ok (c.fact 45 (f := .cls "Stall") rfl)
  · exact He.meth_ok (c.fact 47 (f := .meth "Stall" "__init__") rfl)
  · exact He.meth_ok (c.fact 48 (f := .meth "Stall" "need_hand") rfl)
  · exact He.meth_ok (c.fact 49 (f := .meth "Stall" "need_quire") rfl)
  · exact He.meth_ok (c.fact 50 (f := .meth "Stall" "need_free") rfl)
  · exact He.meth_ok (c.fact 51 (f := .meth "Stall" "ask") rfl)
  · exact He.meth_ok (c.fact 52 (f := .meth "Stall" "give") rfl)
  · exact He.meth_ok (c.fact 53 (f := .meth "Stall" "quire_at") rfl)
  · exact He.meth_ok (c.fact 54 (f := .meth "Stall" "mend") rfl)
  · exact He.meth_ok (c.fact 55 (f := .meth "Stall" "holder") rfl)
  · exact He.meth_ok (c.fact 56 (f := .meth "Stall" "waiting") rfl)
  · exact He.meth_ok (c.fact 57 (f := .meth "Stall" "row") rfl)
  · exact He.meth_ok (c.fact 58 (f := .meth "Stall" "copy") rfl)
  · exact He.mkr_ok (c.fact 59 (f := .mkr "Stall") rfl)
  · exact He.noat_ok (c.fact 60 (f := .noat "Stall" "copies") rfl)
  · exact He.noat_ok (c.fact 61 (f := .noat "Stall" "hand") rfl)
  · exact He.noat_ok (c.fact 62 (f := .noat "Stall" "lent") rfl)
  · exact He.noat_ok (c.fact 63 (f := .noat "Stall" "quires") rfl)
  · exact He.noat_ok (c.fact 64 (f := .noat "Stall" "wanted") rfl)
  · exact (let ⟨_, F⟩ := c.def_ 0 (d := ⟨("is_number", none), "is_number", "is_number", defArgs s_is_number, defBody s_is_number, defScope s_is_number, [], []⟩) rfl; DL.FunD.at_ F)
  · exact (let ⟨_, F⟩ := c.def_ 1 (d := ⟨("is_within", none), "is_within", "is_within", defArgs s_is_within, defBody s_is_within, defScope s_is_within, [], []⟩) rfl; DL.FunD.at_ F)
  · exact (let ⟨_, F⟩ := c.def_ 2 (d := ⟨("Quire", some "__init__"), "__init__", "Quire.__init__", defArgs s_Quire___init__, defBody s_Quire___init__, defScope s_Quire___init__, [], []⟩) rfl; DL.FunD.at_ F)
  · exact (let ⟨_, F⟩ := c.def_ 3 (d := ⟨("quires_of", none), "quires_of", "quires_of", defArgs s_quires_of, defBody s_quires_of, defScope s_quires_of, [], []⟩) rfl; DL.FunD.at_ F)
  · exact (let ⟨_, F⟩ := c.def_ 4 (d := ⟨("Stall", some "__init__"), "__init__", "Stall.__init__", defArgs s_Stall___init__, defBody s_Stall___init__, defScope s_Stall___init__, [], []⟩) rfl; DL.FunD.at_ F)
  · exact (let ⟨_, F⟩ := c.def_ 5 (d := ⟨("Stall", some "need_hand"), "need_hand", "Stall.need_hand", defArgs s_Stall_need_hand, defBody s_Stall_need_hand, defScope s_Stall_need_hand, [], []⟩) rfl; DL.FunD.at_ F)
  · exact (let ⟨_, F⟩ := c.def_ 6 (d := ⟨("Stall", some "need_quire"), "need_quire", "Stall.need_quire", defArgs s_Stall_need_quire, defBody s_Stall_need_quire, defScope s_Stall_need_quire, [], []⟩) rfl; DL.FunD.at_ F)
  · exact (let ⟨_, F⟩ := c.def_ 7 (d := ⟨("Stall", some "need_free"), "need_free", "Stall.need_free", defArgs s_Stall_need_free, defBody s_Stall_need_free, defScope s_Stall_need_free, [], []⟩) rfl; DL.FunD.at_ F)
  · exact (let ⟨_, F⟩ := c.def_ 8 (d := ⟨("Stall", some "ask"), "ask", "Stall.ask", defArgs s_Stall_ask, defBody s_Stall_ask, defScope s_Stall_ask, [], []⟩) rfl; DL.FunD.at_ F)
  · exact (let ⟨_, F⟩ := c.def_ 9 (d := ⟨("Stall", some "give"), "give", "Stall.give", defArgs s_Stall_give, defBody s_Stall_give, defScope s_Stall_give, [], []⟩) rfl; DL.FunD.at_ F)
  · exact (let ⟨_, F⟩ := c.def_ 10 (d := ⟨("Stall", some "quire_at"), "quire_at", "Stall.quire_at", defArgs s_Stall_quire_at, defBody s_Stall_quire_at, defScope s_Stall_quire_at, [], []⟩) rfl; DL.FunD.at_ F)
  · exact (let ⟨_, F⟩ := c.def_ 11 (d := ⟨("Stall", some "mend"), "mend", "Stall.mend", defArgs s_Stall_mend, defBody s_Stall_mend, defScope s_Stall_mend, [], []⟩) rfl; DL.FunD.at_ F)
  · exact (let ⟨_, F⟩ := c.def_ 12 (d := ⟨("Stall", some "holder"), "holder", "Stall.holder", defArgs s_Stall_holder, defBody s_Stall_holder, defScope s_Stall_holder, [], []⟩) rfl; DL.FunD.at_ F)
  · exact (let ⟨_, F⟩ := c.def_ 13 (d := ⟨("Stall", some "waiting"), "waiting", "Stall.waiting", defArgs s_Stall_waiting, defBody s_Stall_waiting, defScope s_Stall_waiting, [], []⟩) rfl; DL.FunD.at_ F)
  · exact (let ⟨_, F⟩ := c.def_ 14 (d := ⟨("Stall", some "row"), "row", "Stall.row", defArgs s_Stall_row, defBody s_Stall_row, defScope s_Stall_row, [], []⟩) rfl; DL.FunD.at_ F)
  · exact (let ⟨_, F⟩ := c.def_ 15 (d := ⟨("Stall", some "copy"), "copy", "Stall.copy", defArgs s_Stall_copy, defBody s_Stall_copy, defScope s_Stall_copy, [], []⟩) rfl; DL.FunD.at_ F)
  · exact (let ⟨_, F⟩ := c.def_ 16 (d := ⟨("_law_mixed", none), "_law_mixed", "_law_mixed", defArgs s__law_mixed, defBody s__law_mixed, defScope s__law_mixed, [], []⟩) rfl; DL.FunD.at_ F)
  · exact (let ⟨_, F⟩ := c.def_ 17 (d := ⟨("_law_deck", none), "_law_deck", "_law_deck", defArgs s__law_deck, defBody s__law_deck, defScope s__law_deck, [], []⟩) rfl; DL.FunD.at_ F)
  · exact (let ⟨_, F⟩ := c.def_ 18 (d := ⟨("_law_next", none), "_law_next", "_law_next", defArgs s__law_next, defBody s__law_next, defScope s__law_next, [], []⟩) rfl; DL.FunD.at_ F)
  · exact (let ⟨_, F⟩ := c.def_ 19 (d := ⟨("_law_letters", none), "_law_letters", "_law_letters", defArgs s__law_letters, defBody s__law_letters, defScope s__law_letters, [], []⟩) rfl; DL.FunD.at_ F)
  · exact (let ⟨_, F⟩ := c.def_ 20 (d := ⟨("_law_reading", none), "_law_reading", "_law_reading", defArgs s__law_reading, defBody s__law_reading, defScope s__law_reading, [], []⟩) rfl; DL.FunD.at_ F)
  · exact (let ⟨_, F⟩ := c.def_ 21 (d := ⟨("_law_seams", none), "_law_seams", "_law_seams", defArgs s__law_seams, defBody s__law_seams, defScope s__law_seams, [], []⟩) rfl; DL.FunD.at_ F)
  · exact (let ⟨_, F⟩ := c.def_ 22 (d := ⟨("_law_state", none), "_law_state", "_law_state", defArgs s__law_state, defBody s__law_state, defScope s__law_state, [], []⟩) rfl; DL.FunD.at_ F)
  · exact (let ⟨_, F⟩ := c.def_ 23 (d := ⟨("_law_quire", none), "_law_quire", "_law_quire", defArgs s__law_quire, defBody s__law_quire, defScope s__law_quire, [], []⟩) rfl; DL.FunD.at_ F)
  · exact (let ⟨_, F⟩ := c.def_ 24 (d := ⟨("_law_given", none), "_law_given", "_law_given", defArgs s__law_given, defBody s__law_given, defScope s__law_given, [], []⟩) rfl; DL.FunD.at_ F)
  · exact (let ⟨_, F⟩ := c.def_ 25 (d := ⟨("_law_asked", none), "_law_asked", "_law_asked", defArgs s__law_asked, defBody s__law_asked, defScope s__law_asked, [], []⟩) rfl; DL.FunD.at_ F)
  · exact (let ⟨_, F⟩ := c.def_ 26 (d := ⟨("_law_drawn", none), "_law_drawn", "_law_drawn", defArgs s__law_drawn, defBody s__law_drawn, defScope s__law_drawn, [], []⟩) rfl; DL.FunD.at_ F)
  · exact (let ⟨_, F⟩ := c.def_ 27 (d := ⟨("_law_due", none), "_law_due", "_law_due", defArgs s__law_due, defBody s__law_due, defScope s__law_due, [], []⟩) rfl; DL.FunD.at_ F)
  · exact (let ⟨_, F⟩ := c.def_ 28 (d := ⟨("_law_done", none), "_law_done", "_law_done", defArgs s__law_done, defBody s__law_done, defScope s__law_done, [], []⟩) rfl; DL.FunD.at_ F)
  · exact (let ⟨_, F⟩ := c.def_ 29 (d := ⟨("_law_alike", none), "_law_alike", "_law_alike", defArgs s__law_alike, defBody s__law_alike, defScope s__law_alike, [], []⟩) rfl; DL.FunD.at_ F)
  · exact (let ⟨_, F⟩ := c.def_ 30 (d := ⟨("_law_told", none), "_law_told", "_law_told", defArgs s__law_told, defBody s__law_told, defScope s__law_told, [], []⟩) rfl; DL.FunD.at_ F)
  · exact (let ⟨_, F⟩ := c.def_ 31 (d := ⟨("law", none), "law", "law", defArgs s_law, defBody s_law, defScope s_law, [], []⟩) rfl; DL.FunD.at_ F)

local macro_rules | `(tactic| wtm_at "mem") => `(tactic| first | assumption | exact mset_same | (refine (mset_ne ?_).trans ?_ <;> first | assumption | exact Ne.symm (by assumption) | exact mset_same))
local macro_rules | `(tactic| wtm_at "sv") => `(tactic| first | exact SV.l LV.f | exact SV.t _ | exact SV.s _ | exact SV.l (LV.n (by wtm_at "mem")))
local macro_rules | `(tactic| wtm_at "lv") => `(tactic| first | exact LV.f | exact LV.n (by wtm_at "mem"))
local macro_rules | `(tactic| wtm_at "num") => `(tactic| first | omega | (simp only [List.length_cons, List.length_nil, List.length_map, List.length_append, List.length_set, List.length_replicate] <;> omega) | decide)
local macro_rules | `(tactic| wtm_at "mul") => `(tactic| first | exact mul_s (by omega) (by omega) | exact mul_r (by omega) (by omega))
local macro_rules | `(tactic| wtm_at "s1") => `(tactic| with_reducible first
  | refine vS_seq ?_ | refine vS_asgN ?_ | refine vS_asg ?_ | refine vS_ret ?_ | refine vS_ifT ?_ | refine vS_ifB ?_ | refine vS_ifN ?_ | refine vS_drop ?_ | refine vS_fld ?_ | refine vS_dput ?_ | refine vS_next ?_ | refine vS_brk ?_ | refine vS_cont ?_ | refine vS_retN ?_
  | refine wE_op ?_ | refine wE_int ?_ | refine wE_str ?_ | refine wE_non ?_ | refine wE_bl ?_ | refine wE_ty ?_ | refine wE_un ?_ | refine wE_CB ?_ | refine wE_tup ?_ | refine wE_lstNil ?_ | refine wE_lst ?_ | refine wE_lstMNil ?_ | refine wE_lstM ?_ | refine wE_dnewK ?_ | refine wE_dnewT ?_
  | refine wE_and ?_ | refine wE_or ?_ | refine wE_not ?_ | refine wE_if ?_ | refine wE_chain ?_ | refine wE_sl ?_ | refine wO_no ?_ | refine wO_some ?_ | refine wE_fld ?_ | refine wE_dgetS ?_ | refine wE_din ?_ | refine wE_dnotin ?_
  | refine wA_nil ?_ | refine wA_cons ?_ | refine wT_test ?_ | refine wT_B ?_ | refine wT_and ?_ | refine wT_or ?_ | refine wT_not ?_ | refine wT_yes ?_ | refine wE_call0 ?_ | refine wE_meth0 ?_ | refine wE_make0 ?_
  | refine ⟨le1, ?_⟩ | refine ⟨le2, ?_⟩ | refine ⟨le3, ?_⟩ | refine ⟨le4, ?_⟩ | refine ⟨le5, ?_⟩ | refine ⟨le6, ?_⟩ | refine ⟨le7, ?_⟩ | refine ⟨le8, ?_⟩ | refine true_ite ?_ | refine false_ite ?_ | refine ntrue_ite ?_ | refine nfalse_ite ?_ | refine wG_name ?_ | refine wPs_cons ?_ | refine wPs_nil ?_ | refine wE_disp ?_ | refine wG_setE ?_ | refine wG_tup rfl ?_ | refine wGs_cons ?_ | refine wGs_nil ?_)
local macro_rules | `(tactic| wtm_at "s2") => `(tactic| with_reducible first
  | refine wR_addI ?_ | refine wR_subI ?_ | refine wU_neg ?_
  | refine wR_ltI ?_ | refine wR_leI ?_ | refine wR_gtI ?_ | refine wR_geI ?_ | refine wR_isN0 ?_ | refine wR_isNI ?_ | refine wR_isNS ?_ | refine wR_isNR ?_ | refine wR_isNT ?_ | refine wR_isNL ?_ | refine wR_notN0 ?_ | refine wR_notNI ?_ | refine wR_notNS ?_ | refine wR_notNR ?_ | refine wR_notNT ?_ | refine wR_notNL ?_ | refine wR_isN ?_ | refine wR_notN ?_ | refine wC_intI ?_ | refine wC_intB ?_ | refine wC_abs ?_ | refine wC_max2 ?_ | refine wC_min2 ?_)
local macro_rules | `(tactic| wtm_at "s3") => `(tactic| first
  | (with_reducible apply wE_var); (exact rfl)
  | (with_reducible apply wR_mulI); (wtm_at "mul")
  | (with_reducible apply wR_modI); (first | decide | omega)
  | (with_reducible apply wR_divI); (exact ⟨by first | decide | omega, by decide⟩)
  | (with_reducible apply wR_eq); (exact rfl)
  | (with_reducible apply wR_ne); (exact rfl)
  | (with_reducible apply wC_len); (wtm_at "sv")
  | (with_reducible apply wC_isi (b := true)); (exact rfl); (decide +kernel)
  | (with_reducible apply wC_isi (b := false)); (exact rfl); (decide +kernel)
  | (with_reducible apply wR_ix (SV.t _)); (exact rfl)
  | (with_reducible refine ⟨_, rfl, ?_⟩)
  | (with_reducible refine same_ite ?_) | (with_reducible refine nsame_ite ?_))
local macro_rules | `(tactic| wtm_at "s") => `(tactic| first | wtm_at "s1" | wtm_at "s2" | wtm_at "s3")
local macro_rules | `(tactic| wtm_at "go") => `(tactic| repeat (wtm_at "s"))
local macro_rules | `(tactic| wtm_at "f") => `(tactic| with_reducible first | refine ⟨_, _, _, FV.n (ST.Is.tself (by assumption) (by assumption)), TT.cl_Stall (by assumption), TT.n_Stall_lent (by assumption), ST.lk_lent, ?_⟩ | refine ⟨_, _, _, FV.n (ST.Is.tself (by assumption) (by assumption)), TT.cl_Stall (by assumption), TT.n_Stall_quires (by assumption), ST.lk_quires, ?_⟩ | refine ⟨_, _, _, FV.n (ST.Is.tself (by assumption) (by assumption)), TT.cl_Stall (by assumption), TT.n_Stall_copies (by assumption), ST.lk_copies, ?_⟩ | refine ⟨_, _, _, FV.n (ST.Is.tself (by assumption) (by assumption)), TT.cl_Stall (by assumption), TT.n_Stall_wanted (by assumption), ST.lk_wanted, ?_⟩ | refine ⟨_, _, _, FV.n (ST.Is.tquire (by assumption) (by assumption) (by assumption)), TT.cl_Quire (by assumption), TT.n_Quire_begin (by assumption), ST.lk_begin, ?_⟩ | refine ⟨_, _, _, FV.n (ST.Is.tquire (by assumption) (by assumption) (by assumption)), TT.cl_Quire (by assumption), TT.n_Quire_end (by assumption), ST.lk_end, ?_⟩ | refine ⟨_, _, _, FV.n (ST.Is.tquire (by assumption) (by assumption) (by assumption)), TT.cl_Quire (by assumption), TT.n_Quire_hand (by assumption), ST.lk_hand, ?_⟩ | refine ⟨_, _, _, FV.n (ST.Is.tquire (by assumption) (by assumption) (by assumption)), TT.cl_Quire (by assumption), TT.n_Quire_line (by assumption), ST.lk_line, ?_⟩)
local macro_rules | `(tactic| wtm_at "d") => `(tactic| with_reducible first | refine ⟨_, _, _, _, rfl, rfl, ST.Is.dict (by assumption), ST.val_row, ?_⟩ | refine ⟨_, _, _, _, rfl, rfl, ST.Is.dict (by assumption), ST.val_seams, ?_⟩ | refine ⟨_, _, _, _, rfl, rfl, ST.Is.dict (by assumption), ST.val_ends, ?_⟩ | refine ⟨_, _, _, _, rfl, rfl, ST.Is.dict (by assumption), ST.val_holders, ?_⟩ | refine ⟨_, _, _, _, rfl, rfl, ST.Is.dict (by assumption), ST.val_lines, ?_⟩ | refine ⟨_, _, _, _, rfl, rfl, ST.Is.dict (by assumption), ST.val_wanted, ?_⟩ | refine ⟨_, _, _, _, rfl, rfl, ST.Is.dict (by assumption), ST.val_copies, ?_⟩ | refine ⟨_, _, _, _, rfl, rfl, ST.Is.dict (by assumption), ST.val_giving, ?_⟩)
local macro_rules | `(tactic| wtm_at "fl") => `(tactic| first | exact lt0 | exact lt1 | exact lt2 | exact lt3 | exact lt4 | exact lt5 | exact lt6 | exact lt7 | exact lt8 | exact Nat.lt_of_le_of_lt (put_le (Nat.le_refl 0)) (by decide) | exact Nat.lt_of_le_of_lt (put_le (put_le (Nat.le_refl 0))) (by decide) | exact Nat.lt_of_le_of_lt (put_le (put_le (put_le (Nat.le_refl 0)))) (by decide) | exact Nat.lt_of_le_of_lt (put_le (put_le (put_le (put_le (Nat.le_refl 0))))) (by decide) | exact Nat.lt_of_le_of_lt (put_le (put_le (put_le (put_le (put_le (Nat.le_refl 0)))))) (by decide))

/-! ### _law_mixed -/
theorem sc__law_mixed : FnScope ["_law_cell", "_law_k", "_law_number"] ["_law_cell", "_law_k"] (defScope s__law_mixed) := ⟨rfl, rfl, rfl, by decide +kernel, rfl, by decide +kernel, by decide +kernel⟩
def t__law_mixed (K : PySem.W.Frag) : TS :=
  (tSeq (tAsg (tOp rModG (tOp (rAddG K) (tOp (rAddG K) (tVar 0) (tOp (rMulG K) (tOp (rMulG K) (tVar 1) (tVar 1)) (tC (.int 40503)))) (tC (.int 12345))) (tC (.int 2305843009213693951))) (gName 2))
  (tSeq (tAsg (tOp rModG (tOp (rMulG K) (tVar 2) (tVar 2)) (tC (.int 2305843009213693951))) (gName 2))
  (tSeq (tAsg (tOp rModG (tOp (rMulG K) (tOp (rAddG K) (tOp (rAddG K) (tVar 2) (tOp (rMulG K) (tVar 1) (tC (.int 7919)))) (tC (.int 1))) (tC (.int 48271))) (tC (.int 2305843009213693951))) (gName 2))
  (tRet (tOp rDivG (tOp rModG (tOp (rMulG K) (tVar 2) (tVar 2)) (tC (.int 2305843009213693951))) (tC (.int 1024)))))))
def P__law_mixed (K : PySem.W.Frag) (a b : D) (M : Mem) (Q : D → Mem → Prop) : Prop :=
  ∃ i k : Int, a = .int i ∧ b = .int k ∧ 0 ≤ k ∧ k ≤ 100000 ∧ ∀ n : Int, 0 ≤ n → Q (.int n) M
def F__law_mixed (K : PySem.W.Frag) : Fn := fn2 (P__law_mixed K)
theorem u__law_mixed {K : PySem.W.Frag} {a b : D} {M : Mem} {Q : D → Mem → Prop} {X : Value → List (Str × D) → Mem → Prop} (h : P__law_mixed K a b M Q) : F__law_mixed K [a, b] M Q X := use2 h
theorem w__law_mixed {K : PySem.W.Frag} {mg : Str → Option Value} (T : TT K mg) {a b : D} {M : Mem} {Q : D → Mem → Prop} (h : P__law_mixed K a b M Q) : wS (c0 K) (t__law_mixed K) [some a, some b, none] M (Zr Q) := by
  obtain ⟨i, k, rfl, rfl, h0, h1, q⟩ := h
  have m1 := Int.emod_nonneg (i + k * k * 40503 + 12345) (show (2305843009213693951 : Int) ≠ 0 by decide)
  have m2 := Int.emod_lt_of_pos (i + k * k * 40503 + 12345) (show (0 : Int) < 2305843009213693951 by decide)
  have kk : k * k ≤ 100000 * 100000 := Int.mul_le_mul h1 h1 h0 (by decide)
  have kk0 : 0 ≤ k * k := Int.mul_nonneg h0 h0
  unfold t__law_mixed
  wtm_at "go"
  refine ret_eq (q _ ?_)
  exact Int.ediv_nonneg (Int.emod_nonneg _ (by decide)) (by decide)
theorem b__law_mixed {K : PySem.W.Frag} {mg : Str → Option Value} (T : TT K mg) : Binds K (fdAt K (He.ga K "_law_mixed")) ["_law_cell", "_law_k"] [] := FunD.bindsN T.F__law_mixed fun _ _ _ _ _ _ us hl => match us, hl with | [_, _], _ => rfl
theorem ok__law_mixed {P : Program} {w : World} {K : PySem.W.Frag} {mg : Str → Option Value} {base : Heap} (T : TT K mg) : FnOk P w K mg base CX0 1 (He.ga K "_law_mixed") (fdAt K (He.ga K "_law_mixed")) ["_law_cell", "_law_k"] (spD K (F__law_mixed K)) := by
  refine ok_def T.F__law_mixed sc__law_mixed (t__law_mixed K) ?_ (fun cdv A outer s H E hr => ?_) (fun ds M Q X ⟨a, b, e, h⟩ => by subst e; exact w__law_mixed T h)
  · exact len2
  · have hu := hu_of hr
    exact (pss_cons (ps_set (i := 2) sc__law_mixed.nd rfl (Or.inl rfl) (pe_op op_modG (pe_op op_addG (pe_op op_addG (pv 0) (pe_op op_mulG (pe_op op_mulG (pv 1) (pv 1)) pe_int)) pe_int) pe_int))
  (pss_cons (ps_set (i := 2) sc__law_mixed.nd rfl (Or.inl rfl) (pe_op op_modG (pe_op op_mulG (pv 2) (pv 2)) pe_int))
  (pss_cons (ps_set (i := 2) sc__law_mixed.nd rfl (Or.inl rfl) (pe_op op_modG (pe_op op_mulG (pe_op op_addG (pe_op op_addG (pv 2) (pe_op op_mulG (pv 1) pe_int)) pe_int) pe_int) pe_int))
  (pss_one (ps_ret (pe_op op_divG (pe_op op_modG (pe_op op_mulG (pv 2) (pv 2)) pe_int) pe_int))))))
/-! ### _law_deck -/
theorem sc__law_deck : FnScope ["_law_script", "_law_many", "_law_own", "_law_rest", "_law_deck_here", "_law_k", "_law_at", "_law_cell"] ["_law_script", "_law_many"] (defScope s__law_deck) := ⟨rfl, rfl, rfl, by decide +kernel, rfl, by decide +kernel, by decide +kernel⟩
def t__law_deck (K : PySem.W.Frag) : TS :=
  (tCloseL (DeckP 1000) (tSeq (tAsg (tOp (rAddG K) (tCB (rListG K) (tCons (tSl (rSlG K) (tVar 0) tNoPart (tPart (tC (.int 60)))) tNil)) (tOp (rMulG K) (tLst (tCons (tC (.int 0)) tNil)) (tCB rIntG (tCons (tOp (rEqG K) (tCB (rLenG K) (tCons (tVar 0) tNil)) (tC (.int 0))) tNil)))) (gName 2))
  (tSeq (tAsg (tLcM (iList K (tVar 2)) (gName 7) tYes (tOp (rMulG K) (tVar 7) (tCB rIntG (tCons (tOp rGeG (tVar 7) (tOp rPowG (tC (.int 10)) (tC (.int 18)))) tNil))) [7]) (gName 3))
  (tSeq (tAsg (tLstM tNil) (gName 4))
  (tSeq (tFor (iRng1 (tCons (tVar 1) tNil)) (gName 5) (tSeq (tAsg (tOp rModG (tVar 5) (tCB (rLenG K) (tCons (tVar 2) tNil))) (gName 6))
  (tIfS (tTest (tOp rGtG (tOp (rIx K) (tVar 3) (tVar 6)) (tC (.int 0)))) (tSeq (tDrop (tBM K "list" rAppend (tVar 4) (tCons (tOp rModG (tOp (rIx K) (tVar 3) (tVar 6)) (tC (.int 1000))) tNil)))
  (tAsg (tOp rDivG (tOp (rIx K) (tVar 3) (tVar 6)) (tC (.int 1000))) (gSub (tVar 3) (tVar 6) rSetL))) (tDrop (tBM K "list" rAppend (tVar 4) (tCons (tOp rModG (tCall (spD K (F__law_mixed K)) [] E0 (tCons (tOp (rIx K) (tVar 2) (tVar 6)) (tCons (tOp (rAddG K) (tVar 5) (tC (.int 1))) tNil))) (tC (.int 1000))) tNil))))))
  (tRet (tListRev K (tCons (tVar 4) tNil))))))))
def P__law_deck (K : PySem.W.Frag) (a b : D) (M : Mem) (Q : D → Mem → Prop) : Prop :=
  ∃ (ns : List Int) (m : Nat), a = .scr ns ∧ b = .int (m : Int) ∧ ns.length ≤ 63 ∧ m ≤ 90000 ∧ ∀ p, M p = none → Q (.ref p) (mset M p (.ext (LExt (DeckP 1000) p)))
def F__law_deck (K : PySem.W.Frag) : Fn := fn2 (P__law_deck K)
theorem u__law_deck {K : PySem.W.Frag} {a b : D} {M : Mem} {Q : D → Mem → Prop} {X : Value → List (Str × D) → Mem → Prop} (h : P__law_deck K a b M Q) : F__law_deck K [a, b] M Q X := use2 h
theorem w__law_deck {K : PySem.W.Frag} {mg : Str → Option Value} (T : TT K mg) {a b : D} {M : Mem} {Q : D → Mem → Prop} (h : P__law_deck K a b M Q) : wS (c0 K) (t__law_deck K) [some a, some b, none, none, none, none, none, none] M (Zr Q) := by
  obtain ⟨ns, m, rfl, rfl, hn, hm, q⟩ := h
  unfold t__law_deck
  refine vS_closeL ?_
  wtm_at "go"
  refine wSl_L (.inr ⟨ns, rfl, rfl⟩) ?_
  wtm_at "go"
  refine wC_list (SV.l LV.f) ?_
  wtm_at "go"
  wtm_at "go"
  have hk : ∀ b : Bool, (0 : Int) ≤ (if b = true then (1 : Int) else 0) ∧ (if b = true then (1 : Int) else 0) ≤ 1 := fun b => by cases b <;> simp
  generalize hb : decide ((↑(ns.map D.int).length : Int) = 0) = b0
  have hk0 := hk b0
  refine wR_mulL LV.f (by omega) (by omega) (by simp; omega) ?_
  have hcut : cutD (ns.map D.int) none (some 60) = (ns.take 60).map D.int := by
    unfold DL.cutD
    rw [HT.sIx_none]
    have e : HT.sIx (ns.map D.int).length (ns.map D.int).length (some (60 : Int)) = min 60 (ns.map D.int).length := HT.sIx_nat _ _ 60
    rw [e]
    simp [List.map_take]
  rw [hcut]
  refine wR_addL LV.f LV.f (by simp; omega) ?_
  obtain ⟨own, eo, ho1, ho2⟩ : ∃ own : List Int, (ns.take 60).map D.int ++ (List.replicate (if b0 = true then (1 : Int) else 0).toNat [D.int 0]).flatten = own.map D.int ∧ 1 ≤ own.length ∧ own.length ≤ 64 := by
    cases b0 with
    | true =>
      refine ⟨ns.take 60 ++ [0], by simp [List.replicate], by simp, by simp; omega⟩
    | false =>
      refine ⟨ns.take 60, by simp, ?_, by simp; omega⟩
      have := of_decide_eq_false hb
      simp at this
      cases ns with
      | nil => simp at this
      | cons x r => simp
  rw [eo]
  clear eo hcut hk0 hb b0 hk
  wtm_at "go"
  refine wE_lcM (gok_name (by simp)) (wI_list ?_)
  wtm_at "go"
  refine ⟨by simp; omega, fun i acc M' => M' = M ∧ ∃ rs : List Int, acc = rs.map D.int ∧ rs.length = i, ⟨rfl, [], rfl, rfl⟩, ?_, ?_⟩
  · rintro i d acc M' hi ha ⟨rfl, rs, rfl, hr⟩
    obtain ⟨x, rfl⟩ : ∃ x, d = D.int x := by
      rw [List.getElem?_map] at hi
      cases e : own[i]? with
      | none => rw [e] at hi; cases hi
      | some x => rw [e] at hi; cases hi; exact ⟨x, rfl⟩
    wtm_at "go"
    refine wR_powI ⟨by decide, by decide, by decide⟩ ?_
    wtm_at "go"
    exact ⟨rfl, rs ++ [_], by rw [List.map_append]; rfl, by simp [hr]⟩
  rintro acc M' ⟨rfl, rs, rfl, hr⟩ _ p hp
  rw [List.length_map] at hr
  wtm_at "go"
  refine fun p2 hp2 => ?_
  obtain ⟨np, hp2'⟩ := fresh2 hp2
  wtm_at "go"
  refine vS_for (wI_rng1 ?_)
  wtm_at "go"
  refine ⟨by omega, by omega, fun i Γ' M2 => ∃ (rs ds : List Int) (g5 g6 g7 : Option D), Γ' = [some (.scr ns), some (.int m), some (.lst (own.map .int)), some (.ref p), some (.ref p2), g5, g6, g7] ∧ M2 = mset (mset M' p (.lst (rs.map .int))) p2 (.lst (ds.map .int)) ∧ rs.length = own.length ∧ ds.length = i ∧ DeckP 1000 ds,
    ⟨rs, [], _, _, _, rfl, rfl, hr, rfl, fun n hn => by cases hn⟩, ?_, ?_⟩
  · rintro i d Γ' M2 hi ⟨rs, ds, g5, g6, g7, rfl, rfl, hr, hd, hP⟩
    obtain ⟨hi1, rfl⟩ := rngD_get hi
    have hi2 : i < m := by omega
    wtm_at "go"
    refine wR_modI (by simp; omega) ?_
    have b0 := Int.emod_nonneg ((0 : Int) + (i : Int)) (show ((own.map D.int).length : Int) ≠ 0 by rw [List.length_map]; omega)
    have b1 := Int.emod_lt_of_pos ((0 : Int) + (i : Int)) (show (0 : Int) < ((own.map D.int).length : Int) by rw [List.length_map]; omega)
    generalize ((0 : Int) + (i : Int)) % ((own.map D.int).length : Int) = at_ at *
    rw [List.length_map] at b1
    have hps : ∀ {rs ds : List Int}, mset (mset M' p (.lst (rs.map .int))) p2 (.lst (ds.map .int)) p = some (.lst (rs.map .int)) := fun {rs ds} => by rw [mset_ne (Ne.symm np), mset_same]
    wtm_at "go"
    refine wR_ixB (SV.l (LV.n hps)) b0 (by simp; omega) fun x hx => ?_
    obtain ⟨x, rfl, hx'⟩ : ∃ y, x = D.int y ∧ rs[at_.toNat]? = some y := by
      rw [List.getElem?_map] at hx
      cases e : rs[at_.toNat]? with
      | none => rw [e] at hx; cases hx
      | some y => rw [e] at hx; cases hx; exact ⟨y, rfl, rfl⟩
    have app : ∀ z : Int, 0 ≤ z ∧ z < 1000 → DeckP 1000 (ds ++ [z]) := fun z hz n hn => by
      rcases List.mem_append.mp hn with hn | hn
      · exact hP n hn
      · rw [List.mem_singleton.mp hn]; exact hz
    wtm_at "go"
    refine dec_ite (fun hx0 => ?_) fun hx0 => ?_
    · wtm_at "go"
      refine wE_app (a := p2) (xs := ds.map .int) (wE_var rfl ⟨rfl, rfl⟩) mset_same ?_
      wtm_at "go"
      refine wR_ix (SV.l (LV.n hps)) (atI_of b0 hx) ?_
      wtm_at "go"
      refine ⟨mset_same, by simp; omega, ?_⟩
      wtm_at "go"
      rw [mset_mset]
      have e1 : ds.map D.int ++ [D.int (x % 1000)] = (ds ++ [x % 1000]).map D.int := by rw [List.map_append]; rfl
      rw [e1]
      refine wR_ix (SV.l (LV.n hps)) (atI_of b0 hx) ?_
      wtm_at "go"
      refine ⟨_, _, rfl, hps, ?_⟩
      wtm_at "go"
      refine ⟨_, at_.toNat, rfl, hps, ?_, ?_⟩
      · unfold ixN
        rw [if_pos b0, if_pos (by simp; omega)]
      · refine ⟨rs.set at_.toNat (x / 1000), ds ++ [x % 1000], _, _, _, rfl, ?_, by simp [hr], by simp [hd], app _ (by omega)⟩
        funext y
        unfold mset
        by_cases e1 : y = p
        · rw [if_pos e1, if_neg (by rw [e1]; exact Ne.symm np), if_pos e1, List.map_set]
        · rw [if_neg e1]
          by_cases e2 : y = p2
          · rw [if_pos e2, if_pos e2]
          · rw [if_neg e2, if_neg e2, if_neg e1, if_neg e1]
    · wtm_at "go"
      refine wE_app (a := p2) (xs := ds.map .int) (wE_var rfl ⟨rfl, rfl⟩) mset_same ?_
      wtm_at "go"
      refine wR_ixB (SV.l LV.f) b0 (by simp; omega) fun y hy => ?_
      obtain ⟨y, rfl⟩ : ∃ z, y = D.int z := by
        rw [List.getElem?_map] at hy
        cases e : own[at_.toNat]? with
        | none => rw [e] at hy; cases hy
        | some z => rw [e] at hy; cases hy; exact ⟨z, rfl⟩
      wtm_at "go"
      refine u__law_mixed ⟨y, _, rfl, rfl, by omega, by omega, fun n hn => ?_⟩
      wtm_at "go"
      refine ⟨mset_same, by simp; omega, ?_⟩
      rw [mset_mset]
      refine ⟨rs, ds ++ [n % 1000], _, _, _, rfl, by rw [List.map_append]; rfl, hr, by simp [hd], app _ (by omega)⟩
  · rintro Γ' M2 ⟨rs, ds, g5, g6, g7, rfl, rfl, hr, hd, hP⟩
    wtm_at "go"
    refine wE_listRev ?_
    wtm_at "go"
    refine ⟨_, ds.map .int, rfl, LV.n mset_same, fun q3 hq3 => ?_⟩
    obtain ⟨n3, hq3⟩ := fresh2 hq3
    obtain ⟨n4, hq3⟩ := fresh2 hq3
    refine ⟨q3, ds.reverse, fun n hn => hP n (List.mem_reverse.mp hn), by rw [mset_same, List.map_reverse], _, ?_, q q3 hq3⟩
    rw [mset_mset]
    exact Sub.both (Sub.new (Sub.new (Sub.refl _) hp) hp2')
theorem b__law_deck {K : PySem.W.Frag} {mg : Str → Option Value} (T : TT K mg) : Binds K (fdAt K (He.ga K "_law_deck")) ["_law_script", "_law_many"] [] := FunD.bindsN T.F__law_deck fun _ _ _ _ _ _ us hl => match us, hl with | [_, _], _ => rfl
theorem ok__law_deck {P : Program} {w : World} {K : PySem.W.Frag} {mg : Str → Option Value} {base : Heap} (T : TT K mg) : FnOk P w K mg base CX0 2 (He.ga K "_law_deck") (fdAt K (He.ga K "_law_deck")) ["_law_script", "_law_many"] (spD K (F__law_deck K)) := by
  refine ok_def T.F__law_deck sc__law_deck (t__law_deck K) ?_ (fun cdv A outer s H E hr => ?_) (fun ds M Q X ⟨a, b, e, h⟩ => by subst e; exact w__law_deck T h)
  · exact len2
  · have hu := hu_of hr
    exact (pss_closeL (pss_cons (ps_set (i := 2) sc__law_deck.nd rfl (Or.inl rfl) (pe_op op_addG (pe_callTy call_listG (by rfl) T.k_list (by decide +kernel) (pa_cons (pe_slice sl_G (pv 0) po_none (po_some pe_int)) pa_nil)) (pe_op op_mulG (pe_lst (pa_cons pe_int pa_nil)) (pe_callTy call_intG (by rfl) T.k_int (by decide +kernel) (pa_cons (pe_cmpR (op_eqG hr.units) (pe_callB call_lenG (by rfl) T.k_len (by decide +kernel) (pa_cons (pv 0) pa_nil)) pe_int (nomark _)) pa_nil)))))
  (pss_cons (ps_setLc (i := 3) (own := [("_law_cell", 7)]) rfl sc__law_deck.nd rfl rfl (sw_true rfl rfl rfl (by decide +kernel)) (pi_list (pv 2)) (blkOk_by (N := ["_law_script", "_law_many", "_law_own", "_law_rest", "_law_deck_here", "_law_k", "_law_at", "_law_cell"]) (sc := defScope s__law_deck) (by decide +kernel)) (fun _ _ _ _ _ => (pg_name (i := 7) sc__law_deck.nd rfl (by first | exact Or.inl rfl | exact Or.inr rfl))) (fun _ _ _ _ _ => pts_nil) (fun _ _ _ _ _ => (pe_op op_mulG (pv 7) (pe_callTy call_intG (by rfl) T.k_int (by decide +kernel) (pa_cons (pe_cmpR op_geG (pv 7) (pe_op op_powG pe_int pe_int) (nomark _)) pa_nil)))))
  (pss_cons (ps_set (i := 4) sc__law_deck.nd rfl (Or.inl rfl) (pe_lstM pa_nil))
  (pss_cons (ps_for PassesOwn.never rfl (pi_range1 (by rfl) T.k_range (pa_cons (pv 1) pa_nil)) (pg_name (i := 5) sc__law_deck.nd rfl (Or.inl rfl)) (pss_cons (ps_set (i := 6) sc__law_deck.nd rfl (Or.inl rfl) (pe_op op_modG (pv 5) (pe_callB call_lenG (by rfl) T.k_len (by decide +kernel) (pa_cons (pv 2) pa_nil))))
  (pss_one (ps_if (pt_cmpR op_gtG (pe_ix ix_seq (pv 3) (pv 6) (fun _ _ => rfl)) pe_int (nomark _)) (pss_cons (ps_expr (pe_bm PySem.F.plainAttrs_list PySem.F.slot_list_append PySem.F.type_list_append mt_append (pv 4) (pa_cons (pe_op op_modG (pe_ix ix_seq (pv 3) (pv 6) (fun _ _ => rfl)) pe_int) pa_nil)))
  (pss_one (ps_asg (pe_op op_divG (pe_ix ix_seq (pv 3) (pv 6) (fun _ _ => rfl)) pe_int) (pg_sub (pv 3) (pv 6) set_list)))) (pss_one (ps_expr (pe_bm PySem.F.plainAttrs_list PySem.F.slot_list_append PySem.F.type_list_append mt_append (pv 4) (pa_cons (pe_op op_modG (pe_call (ok__law_mixed T) (hr.mono (by decide)) (by rfl) T.g__law_mixed T.F__law_mixed.kp (b__law_mixed T) .nil pass0 (pa_cons (pe_ix ix_seq (pv 2) (pv 6) (fun _ _ => rfl)) (pa_cons (pe_op op_addG (pv 5) pe_int) pa_nil))) pe_int) pa_nil))))))))
  (pss_one (ps_ret (pe_listRev rfl (by rfl) (by rfl) T.k_list T.k_reversed (pa_cons (pv 4) pa_nil)))))))))
/-! ### _law_next -/
theorem sc__law_next : FnScope ["_law_deck_here"] ["_law_deck_here"] (defScope s__law_next) := ⟨rfl, rfl, rfl, by decide +kernel, rfl, by decide +kernel, by decide +kernel⟩
def t__law_next (K : PySem.W.Frag) : TS :=
  (tOpenL (DeckP 1000) 0 (tCloseL (DeckP 1000) (tSeq (tIfS (tTest (tOp rGtG (tCB (rLenG K) (tCons (tVar 0) tNil)) (tC (.int 0)))) (tRet (tBM0 K "list" rPop (tVar 0))) tNext)
  (tRet (tC (.int 0))))))
def P__law_next (K : PySem.W.Frag) (a : D) (M : Mem) (Q : D → Mem → Prop) : Prop :=
  ∃ p : Addr, a = .ref p ∧ Deck 1000 M p ∧ ∀ n : Int, 0 ≤ n → n < 1000 → Q (.int n) M
def F__law_next (K : PySem.W.Frag) : Fn := fn1 (P__law_next K)
theorem u__law_next {K : PySem.W.Frag} {a : D} {M : Mem} {Q : D → Mem → Prop} {X : Value → List (Str × D) → Mem → Prop} (h : P__law_next K a M Q) : F__law_next K [a] M Q X := use1 h
theorem w__law_next {K : PySem.W.Frag} {mg : Str → Option Value} (T : TT K mg) {a : D} {M : Mem} {Q : D → Mem → Prop} (h : P__law_next K a M Q) : wS (c0 K) (t__law_next K) [some a] M (Zr Q) := by
  obtain ⟨p, rfl, hd, q⟩ := h
  unfold t__law_next
  refine vS_openL (P := DeckP 1000) rfl hd fun ns hP hl => vS_closeL ?_
  have back : ∀ ms : List Int, DeckP 1000 ms → ∀ n : Int, 0 ≤ n → n < 1000 → ∃ a ns', DeckP 1000 ns' ∧ mset (mset M p (.lst (ns.map .int))) p (.lst (ms.map .int)) a = some (.lst (ns'.map .int)) ∧ (Zr Q).rt (.int n) (mset (mset (mset M p (.lst (ns.map .int))) p (.lst (ms.map .int))) a (.ext (LExt (DeckP 1000) a))) := by
    intro ms hm n h0 h1
    refine ⟨p, ms, hm, mset_same, ?_⟩
    rw [mset_mset, mset_back hd]
    exact ret_eq (q n h0 h1)
  wtm_at "go"
  refine dec_ite (fun hlt => ?_) fun _ => ?_
  · rcases List.eq_nil_or_concat ns with e | ⟨ms, n, e⟩
    · subst e
      simp at hlt
    · rw [List.concat_eq_append] at e
      subst e
      wtm_at "go"
      have hn := hP n (by simp)
      refine wE_pop (a := p) (xs := ms.map .int) (x := .int n) (wE_var rfl ⟨rfl, rfl⟩) (by rw [mset_same, List.map_append]; rfl) ?_
      exact back ms (fun x hx => hP x (by simp [hx])) n hn.1 hn.2
  · wtm_at "go"
    refine ⟨p, ns, hP, mset_same, ?_⟩
    rw [mset_back hd]
    exact ret_eq (q 0 (by decide) (by decide))
theorem b__law_next {K : PySem.W.Frag} {mg : Str → Option Value} (T : TT K mg) : Binds K (fdAt K (He.ga K "_law_next")) ["_law_deck_here"] [] := FunD.bindsN T.F__law_next fun _ _ _ _ _ _ us hl => match us, hl with | [_], _ => rfl
theorem ok__law_next {P : Program} {w : World} {K : PySem.W.Frag} {mg : Str → Option Value} {base : Heap} (T : TT K mg) : FnOk P w K mg base CX0 1 (He.ga K "_law_next") (fdAt K (He.ga K "_law_next")) ["_law_deck_here"] (spD K (F__law_next K)) := by
  refine ok_def T.F__law_next sc__law_next (t__law_next K) ?_ (fun cdv A outer s H E hr => ?_) (fun ds M Q X ⟨a, e, h⟩ => by subst e; exact w__law_next T h)
  · exact len1
  · have hu := hu_of hr
    exact (pss_openL (pss_closeL (pss_cons (ps_if (pt_cmpR op_gtG (pe_callB call_lenG (by rfl) T.k_len (by decide +kernel) (pa_cons (pv 0) pa_nil)) pe_int (nomark _)) (pss_one (ps_ret (pe_bm0 PySem.F.plainAttrs_list PySem.F.slot_list_pop PySem.F.type_list_pop mt_pop (pv 0)))) pss_nil)
  (pss_one (ps_ret pe_int)))))
/-! ### _law_letters -/
theorem sc__law_letters : FnScope ["_law_deck_here", "_law_least", "_law_most", "_law_word", "_law_k"] ["_law_deck_here", "_law_least", "_law_most"] (defScope s__law_letters) := ⟨rfl, rfl, rfl, by decide +kernel, rfl, by decide +kernel, by decide +kernel⟩
def t__law_letters (K : PySem.W.Frag) : TS :=
  (tSeq (tAsg (tC (.str "")) (gName 3))
  (tSeq (tFor (iRng1 (tCons (tOp (rAddG K) (tVar 1) (tOp rModG (tCall (spD K (F__law_next K)) [] E0 (tCons (tVar 0) tNil)) (tOp (rAddG K) (tOp rSubG (tVar 2) (tVar 1)) (tC (.int 1))))) tNil)) (gName 4) (tAsg (tOp (rAddG K) (tVar 3) (tOp (rIx K) (tC (.str "abcdefghijklmnopqrstuvwxyz")) (tOp rModG (tCall (spD K (F__law_next K)) [] E0 (tCons (tVar 0) tNil)) (tC (.int 26))))) (gName 3)))
  (tRet (tVar 3))))
/-- a text of small letters, from lo to hi of them -/
def LetS (lo hi : Nat) (z : Str) : Prop := lo ≤ z.length ∧ z.length ≤ hi ∧ ∀ k ∈ z.cps.toList, 97 ≤ k ∧ k ≤ 122
def P__law_letters (K : PySem.W.Frag) (a b c : D) (M : Mem) (Q : D → Mem → Prop) : Prop :=
  ∃ (p : Addr) (lo hi : Nat), a = .ref p ∧ b = .int lo ∧ c = .int hi ∧ Deck 1000 M p ∧ lo ≤ hi ∧ hi ≤ 1000 ∧ ∀ z : Str, LetS lo hi z → Q (.str z) M
def F__law_letters (K : PySem.W.Frag) : Fn := fn3 (P__law_letters K)
theorem u__law_letters {K : PySem.W.Frag} {a b c : D} {M : Mem} {Q : D → Mem → Prop} {X : Value → List (Str × D) → Mem → Prop} (h : P__law_letters K a b c M Q) : F__law_letters K [a, b, c] M Q X := use3 h
theorem w__law_letters {K : PySem.W.Frag} {mg : Str → Option Value} (T : TT K mg) {a b c : D} {M : Mem} {Q : D → Mem → Prop} (h : P__law_letters K a b c M Q) : wS (c0 K) (t__law_letters K) [some a, some b, some c, none, none] M (Zr Q) := by
  obtain ⟨p, lo, hi, rfl, rfl, rfl, hd, hl, hh, q⟩ := h
  unfold t__law_letters
  wtm_at "go"
  refine vS_for (wI_rng1 ?_)
  wtm_at "go"
  refine u__law_next ⟨p, rfl, hd, fun n h0 h1 => ?_⟩
  wtm_at "go"
  have b0 := Int.emod_nonneg n (show ((hi : Int) - lo + 1) ≠ 0 by omega)
  have b1 := Int.emod_lt_of_pos n (show (0 : Int) < (hi : Int) - lo + 1 by omega)
  generalize n % ((hi : Int) - lo + 1) = y at *
  refine ⟨by omega, by omega, fun i Γ' M' => M' = M ∧ ∃ (z : Str) (g : Option D), Γ' = [some (.ref p), some (.int lo), some (.int hi), some (.str z), g] ∧ z.length = i ∧ ∀ k ∈ z.cps.toList, 97 ≤ k ∧ k ≤ 122, ⟨rfl, _, _, rfl, rfl, fun k hk => by cases hk⟩, ?_, ?_⟩
  · rintro i d Γ' M' hi' ⟨rfl, z, g, rfl, hz, hk⟩
    obtain ⟨hi1, rfl⟩ := rngD_get hi'
    wtm_at "go"
    refine u__law_next ⟨p, rfl, hd, fun m h0 h1 => ?_⟩
    wtm_at "go"
    refine wR_ixSB (by decide) (by omega) (by show m % 26 < 26; omega) fun k hk2 => ?_
    have hk3 : 97 ≤ k ∧ k ≤ 122 := by
      have hm := List.mem_of_getElem? hk2
      revert hm
      have e : (Str.ofString "abcdefghijklmnopqrstuvwxyz").cps.toList = (List.range 26).map (97 + ·) := by decide +kernel
      rw [e]
      intro hm
      obtain ⟨j, hj, rfl⟩ := List.mem_map.mp hm
      have := List.mem_range.mp hj
      omega
    refine wR_addS (by rw [hz]; show i + 1 ≤ _; omega) ?_
    refine ⟨rfl, z ++ ⟨#[k]⟩, _, rfl, by rw [len_app, hz]; rfl, fun j hj => ?_⟩
    rw [app_list] at hj
    rcases List.mem_append.mp hj with hj | hj
    · exact hk j hj
    · rw [List.mem_singleton.mp hj]
      exact hk3
  · rintro Γ' M' ⟨rfl, z, g, rfl, hz, hk⟩
    rw [rngD_len] at hz
    wtm_at "go"
    exact ret_eq (q z ⟨by omega, by omega, hk⟩)
theorem b__law_letters {K : PySem.W.Frag} {mg : Str → Option Value} (T : TT K mg) : Binds K (fdAt K (He.ga K "_law_letters")) ["_law_deck_here", "_law_least", "_law_most"] [] := FunD.bindsN T.F__law_letters fun _ _ _ _ _ _ us hl => match us, hl with | [_, _, _], _ => rfl
theorem ok__law_letters {P : Program} {w : World} {K : PySem.W.Frag} {mg : Str → Option Value} {base : Heap} (T : TT K mg) : FnOk P w K mg base CX0 2 (He.ga K "_law_letters") (fdAt K (He.ga K "_law_letters")) ["_law_deck_here", "_law_least", "_law_most"] (spD K (F__law_letters K)) := by
  refine ok_def T.F__law_letters sc__law_letters (t__law_letters K) ?_ (fun cdv A outer s H E hr => ?_) (fun ds M Q X ⟨a, b, c, e, h⟩ => by subst e; exact w__law_letters T h)
  · exact len3
  · have hu := hu_of hr
    exact (pss_cons (ps_set (i := 3) sc__law_letters.nd rfl (Or.inl rfl) pe_str)
  (pss_cons (ps_for PassesOwn.never rfl (pi_range1 (by rfl) T.k_range (pa_cons (pe_op op_addG (pv 1) (pe_op op_modG (pe_call (ok__law_next T) (hr.mono (by decide)) (by rfl) T.g__law_next T.F__law_next.kp (b__law_next T) .nil pass0 (pa_cons (pv 0) pa_nil)) (pe_op op_addG (pe_op op_subG (pv 2) (pv 1)) pe_int))) pa_nil)) (pg_name (i := 4) sc__law_letters.nd rfl (Or.inl rfl)) (pss_one (ps_set (i := 3) sc__law_letters.nd rfl (Or.inl rfl) (pe_op op_addG (pv 3) (pe_ix ix_seq pe_str (pe_op op_modG (pe_call (ok__law_next T) (hr.mono (by decide)) (by rfl) T.g__law_next T.F__law_next.kp (b__law_next T) .nil pass0 (pa_cons (pv 0) pa_nil)) pe_int) (fun _ _ => rfl))))))
  (pss_one (ps_ret (pv 3)))))
/-! ### _law_reading -/
theorem sc__law_reading : FnScope ["_law_deck_here", "_law_way"] ["_law_deck_here"] (defScope s__law_reading) := ⟨rfl, rfl, rfl, by decide +kernel, rfl, by decide +kernel, by decide +kernel⟩
def t__law_reading (K : PySem.W.Frag) : TS :=
  (tSeq (tAsg (tOp rModG (tCall (spD K (F__law_next K)) [] E0 (tCons (tVar 0) tNil)) (tC (.int 6))) (gName 1))
  (tSeq (tIfS (tTest (tOp (rEqG K) (tVar 1) (tC (.int 0)))) (tRet (tC (.str ""))) tNext)
  (tSeq (tIfS (tTest (tOp rLtG (tVar 1) (tC (.int 3)))) (tRet (tOp (rIx K) (tC (.str "ab")) (tOp rSubG (tVar 1) (tC (.int 1))))) tNext)
  (tRet (tCall (spD K (F__law_letters K)) [] E0 (tCons (tVar 0) (tCons (tC (.int 1)) (tCons (tOp (rIx K) (tLst (tCons (tC (.int 1)) (tCons (tC (.int 3)) (tCons (tC (.int 8)) tNil)))) (tOp rSubG (tVar 1) (tC (.int 3)))) tNil))))))))
def P__law_reading (K : PySem.W.Frag) (a : D) (M : Mem) (Q : D → Mem → Prop) : Prop :=
  ∃ (p : Addr), a = .ref p ∧ Deck 1000 M p ∧ ∀ z : Str, LetS 0 8 z → Q (.str z) M
def F__law_reading (K : PySem.W.Frag) : Fn := fn1 (P__law_reading K)
theorem u__law_reading {K : PySem.W.Frag} {a : D} {M : Mem} {Q : D → Mem → Prop} {X : Value → List (Str × D) → Mem → Prop} (h : P__law_reading K a M Q) : F__law_reading K [a] M Q X := use1 h
theorem w__law_reading {K : PySem.W.Frag} {mg : Str → Option Value} (T : TT K mg) {a : D} {M : Mem} {Q : D → Mem → Prop} (h : P__law_reading K a M Q) : wS (c0 K) (t__law_reading K) [some a, none] M (Zr Q) := by
  obtain ⟨p, rfl, hd, q⟩ := h
  unfold t__law_reading
  wtm_at "go"
  refine u__law_next ⟨p, rfl, hd, fun n h0 h1 => ?_⟩
  wtm_at "go"
  have b0 := Int.emod_nonneg n (show (6 : Int) ≠ 0 by decide)
  have b1 := Int.emod_lt_of_pos n (show (0 : Int) < 6 by decide)
  generalize n % 6 = y at *
  refine dec_ite (fun e => ?_) fun e => ?_
  · wtm_at "go"
    exact ret_eq (q _ ⟨Nat.zero_le _, by decide, fun k hk => by cases hk⟩)
  wtm_at "go"
  refine dec_ite (fun e2 => ?_) fun e2 => ?_
  · wtm_at "go"
    refine wR_ixSB (by decide) (by omega) (by show y - 1 < 2; omega) fun k hk => ?_
    have hm := List.mem_of_getElem? hk
    have hk3 : 97 ≤ k ∧ k ≤ 122 := by
      have e : (Str.ofString "ab").cps.toList = [97, 98] := by decide +kernel
      rw [e] at hm
      simp at hm
      omega
    exact ret_eq (q _ ⟨Nat.zero_le _, (by show 1 ≤ 8; decide), fun j hj => by
      have : j = k := by simpa using hj
      rw [this]
      exact hk3⟩)
  · wtm_at "go"
    refine wR_ixB (SV.l LV.f) (by omega) (by simp; omega) fun x hx => ?_
    wtm_at "go"
    obtain ⟨m, rfl, hm1, hm2⟩ : ∃ m : Nat, x = .int (m : Int) ∧ 1 ≤ m ∧ m ≤ 8 := by
      have hj : (y - 3).toNat < 3 := by omega
      generalize (y - 3).toNat = j at *
      match j, hj with
      | 0, _ => cases hx; exact ⟨1, rfl, by omega, by omega⟩
      | 1, _ => cases hx; exact ⟨3, rfl, by omega, by omega⟩
      | 2, _ => cases hx; exact ⟨8, rfl, by omega, by omega⟩
    refine u__law_letters ⟨p, 1, m, rfl, rfl, rfl, hd, hm1, by omega, fun z hz => ?_⟩
    exact ret_eq (q z ⟨Nat.zero_le _, Nat.le_trans hz.2.1 hm2, hz.2.2⟩)
theorem b__law_reading {K : PySem.W.Frag} {mg : Str → Option Value} (T : TT K mg) : Binds K (fdAt K (He.ga K "_law_reading")) ["_law_deck_here"] [] := FunD.bindsN T.F__law_reading fun _ _ _ _ _ _ us hl => match us, hl with | [_], _ => rfl
theorem ok__law_reading {P : Program} {w : World} {K : PySem.W.Frag} {mg : Str → Option Value} {base : Heap} (T : TT K mg) : FnOk P w K mg base CX0 3 (He.ga K "_law_reading") (fdAt K (He.ga K "_law_reading")) ["_law_deck_here"] (spD K (F__law_reading K)) := by
  refine ok_def T.F__law_reading sc__law_reading (t__law_reading K) ?_ (fun cdv A outer s H E hr => ?_) (fun ds M Q X ⟨a, e, h⟩ => by subst e; exact w__law_reading T h)
  · exact len1
  · have hu := hu_of hr
    exact (pss_cons (ps_set (i := 1) sc__law_reading.nd rfl (Or.inl rfl) (pe_op op_modG (pe_call (ok__law_next T) (hr.mono (by decide)) (by rfl) T.g__law_next T.F__law_next.kp (b__law_next T) .nil pass0 (pa_cons (pv 0) pa_nil)) pe_int))
  (pss_cons (ps_if (pt_cmpR (op_eqG hr.units) (pv 1) pe_int (nomark _)) (pss_one (ps_ret pe_str)) pss_nil)
  (pss_cons (ps_if (pt_cmpR op_ltG (pv 1) pe_int (nomark _)) (pss_one (ps_ret (pe_ix ix_seq pe_str (pe_op op_subG (pv 1) pe_int) (fun _ _ => rfl)))) pss_nil)
  (pss_one (ps_ret (pe_call (ok__law_letters T) (hr.mono (by decide)) (by rfl) T.g__law_letters T.F__law_letters.kp (b__law_letters T) .nil pass0 (pa_cons (pv 0) (pa_cons pe_int (pa_cons (pe_ix ix_seq (pe_lst (pa_cons pe_int (pa_cons pe_int (pa_cons pe_int pa_nil)))) (pe_op op_subG (pv 1) pe_int) (fun _ _ => rfl)) pa_nil)))))))))
/-! ### _law_seams -/
theorem sc__law_seams : FnScope ["_law_deck_here", "_law_many", "_law_share", "_law_seams_here", "_law_place"] ["_law_deck_here", "_law_many"] (defScope s__law_seams) := ⟨rfl, rfl, rfl, by decide +kernel, rfl, by decide +kernel, by decide +kernel⟩
def t__law_seams (K : PySem.W.Frag) : TS :=
  (tSeq (tAsg (tOp rModG (tCall (spD K (F__law_next K)) [] E0 (tCons (tVar 0) tNil)) (tC (.int 5))) (gName 2))
  (tSeq (tAsg (tLc (iRng2 (tCons (tC (.int 1)) (tCons (tVar 1) tNil))) (gName 4) (tTest (tOp rLtG (tOp rModG (tCall (spD K (F__law_next K)) [] E0 (tCons (tVar 0) tNil)) (tC (.int 4))) (tVar 2))) (tVar 4) [4]) (gName 3))
  (tRet (tCB (rTupG K) (tCons (tSl (rSlG K) (tVar 3) tNoPart (tPart (tOp (rAddG K) (tC (.int 9)) (tOp rModG (tCall (spD K (F__law_next K)) [] E0 (tCons (tVar 0) tNil)) (tC (.int 31)))))) tNil)))))
def P__law_seams (K : PySem.W.Frag) (a b : D) (M : Mem) (Q : D → Mem → Prop) : Prop := ∃ (p : Addr) (many : Nat), a = .ref p ∧ b = .int many ∧ Deck 1000 M p ∧ 1 ≤ many ∧ many ≤ 40 ∧ ∀ l : List Nat, l.Pairwise (· < ·) → (∀ x ∈ l, 1 ≤ x ∧ x < many) → l.length ≤ 39 → Q (.tup (l.map dN)) M
def F__law_seams (K : PySem.W.Frag) : Fn := fn2 (P__law_seams K)
theorem u__law_seams {K : PySem.W.Frag} {a b : D} {M : Mem} {Q : D → Mem → Prop} {X : Value → List (Str × D) → Mem → Prop} (h : P__law_seams K a b M Q) : F__law_seams K [a, b] M Q X := use2 h
theorem w__law_seams {K : PySem.W.Frag} {mg : Str → Option Value} (T : TT K mg) {a b : D} {M : Mem} {Q : D → Mem → Prop} (h : P__law_seams K a b M Q) : wS (c0 K) (t__law_seams K) [some a, some b, none, none, none] M (Zr Q) := by
  obtain ⟨p, many, rfl, rfl, hd, h1, h2, q⟩ := h
  unfold t__law_seams
  wtm_at "go"
  refine u__law_next ⟨p, rfl, hd, fun sh hs0 hs1 => ?_⟩
  wtm_at "go"
  generalize sh % 5 = sh
  refine wE_lc (gok_name (by simp)) (wI_rng2 ?_)
  wtm_at "go"
  refine ⟨_, _, rfl, by omega, by rw [rngD_len]; omega, fun i acc M' => M' = M ∧ ∃ l : List Nat, acc = l.map dN ∧ l.Pairwise (· < ·) ∧ ∀ x ∈ l, 1 ≤ x ∧ x < 1 + i, ⟨rfl, [], rfl, List.Pairwise.nil, fun x hx => by cases hx⟩, ?_, ?_⟩
  · rintro i d acc M' hi ha ⟨rfl, l, rfl, hl, hx⟩
    obtain ⟨hi1, rfl⟩ := rngD_get hi
    have e0 : D.int (1 + (i : Int)) = dN (1 + i) := by simp
    rw [e0]
    wtm_at "go"
    refine u__law_next ⟨p, rfl, hd, fun y hy0 hy1 => ?_⟩
    wtm_at "go"
    refine ⟨fun _ => ?_, fun _ => ⟨rfl, l, rfl, hl, fun x h => ⟨(hx x h).1, by have := (hx x h).2; omega⟩⟩⟩
    wtm_at "go"
    refine ⟨rfl, l ++ [1 + i], by rw [List.map_append]; rfl, ?_, fun x h => ?_⟩
    · rw [List.pairwise_append]
      exact ⟨hl, List.pairwise_singleton _ _, fun x h y hy => by rw [List.mem_singleton.mp hy]; exact (hx x h).2⟩
    · rcases List.mem_append.mp h with h | h
      · exact ⟨(hx x h).1, by have := (hx x h).2; omega⟩
      · rw [List.mem_singleton.mp h]; omega
  · rintro acc M' ⟨rfl, l, rfl, hl, hx⟩ hlen
    rw [rngD_len] at hx
    wtm_at "go"
    refine u__law_next ⟨p, rfl, hd, fun y hy0 hy1 => ?_⟩
    wtm_at "go"
    have b0 := Int.emod_nonneg y (show (31 : Int) ≠ 0 by decide)
    have b1 := Int.emod_lt_of_pos y (show (0 : Int) < 31 by decide)
    generalize y % 31 = y at *
    obtain ⟨m, rfl⟩ := Int.eq_ofNat_of_zero_le b0
    refine wSl_L (.inl LV.f) ?_
    have hc : cutD (l.map dN) none (some (9 + (m : Int))) = (l.take (9 + m)).map dN := by
      have e9 : (9 + (m : Int)) = ((9 + m : Nat) : Int) := by simp
      rw [e9]
      unfold DL.cutD
      rw [HT.sIx_none, HT.sIx_nat, List.length_map]
      simp [List.map_take]
    rw [hc]
    wtm_at "go"
    refine wC_tupL LV.f (ret_eq (q _ (hl.sublist (List.take_sublist _ _)) (fun x h => ?_) ?_))
    · have := hx x (List.mem_of_mem_take h)
      exact ⟨this.1, by omega⟩
    · rw [List.length_take]; omega
theorem b__law_seams {K : PySem.W.Frag} {mg : Str → Option Value} (T : TT K mg) : Binds K (fdAt K (He.ga K "_law_seams")) ["_law_deck_here", "_law_many"] [] := FunD.bindsN T.F__law_seams fun _ _ _ _ _ _ us hl => match us, hl with | [_, _], _ => rfl
theorem ok__law_seams {P : Program} {w : World} {K : PySem.W.Frag} {mg : Str → Option Value} {base : Heap} (T : TT K mg) : FnOk P w K mg base CX0 2 (He.ga K "_law_seams") (fdAt K (He.ga K "_law_seams")) ["_law_deck_here", "_law_many"] (spD K (F__law_seams K)) := by
  refine ok_def T.F__law_seams sc__law_seams (t__law_seams K) ?_ (fun cdv A outer s H E hr => ?_) (fun ds M Q X ⟨a, b, e, h⟩ => by subst e; exact w__law_seams T h)
  · exact len2
  · have hu := hu_of hr
    exact (pss_cons (ps_set (i := 2) sc__law_seams.nd rfl (Or.inr rfl) (pe_op op_modG (pe_call (ok__law_next T) (hr.mono (by decide)) (by rfl) T.g__law_next T.F__law_next.kp (b__law_next T) .nil pass0 (pa_cons (pv 0) pa_nil)) pe_int))
  (pss_cons (ps_setLc (i := 3) (own := [("_law_place", 4)]) rfl sc__law_seams.nd rfl rfl (sw_true rfl rfl rfl (by decide +kernel)) (pi_range2 (by rfl) T.k_range (pa_cons pe_int (pa_cons (pv 1) pa_nil))) (blkOk_by (N := ["_law_deck_here", "_law_many", "_law_share", "_law_seams_here", "_law_place"]) (sc := defScope s__law_seams) (by decide +kernel)) (fun _ _ _ _ _ => (pg_name (i := 4) sc__law_seams.nd rfl (by first | exact Or.inl rfl | exact Or.inr rfl))) (fun _ _ _ _ _ => (pts_one (pt_cmpR op_ltG (pe_op op_modG (pe_call (ok__law_next T) (hr.mono (by decide)) (by rfl) T.g__law_next T.F__law_next.kp (b__law_next T) .nil pass0 (pa_cons (pv 0) pa_nil)) pe_int) (pv 2) (nomark _)))) (fun _ _ _ _ _ => (pv 4)))
  (pss_one (ps_ret (pe_callTy call_tupG (by rfl) T.k_tuple (by decide +kernel) (pa_cons (pe_slice sl_G (pv 3) po_none (po_some (pe_op op_addG pe_int (pe_op op_modG (pe_call (ok__law_next T) (hr.mono (by decide)) (by rfl) T.g__law_next T.F__law_next.kp (b__law_next T) .nil pass0 (pa_cons (pv 0) pa_nil)) pe_int)))) pa_nil))))))
/-! ### _law_state -/
theorem sc__law_state : FnScope ["_law_deck_here", "_law_most", "_law_many", "_law_row", "_law_seams_here", "_law_hands", "_law_ends", "_law_state_here", "_law_place", "_law_end", "_law_hand"] ["_law_deck_here", "_law_most"] (defScope s__law_state) := ⟨rfl, rfl, rfl, by decide +kernel, rfl, by decide +kernel, by decide +kernel⟩
def t__law_state (K : PySem.W.Frag) : TS :=
  (tSeq (tAsg (tOp (rIx K) (tLst (tCons (tOp (rAddG K) (tC (.int 1)) (tOp rModG (tCall (spD K (F__law_next K)) [] E0 (tCons (tVar 0) tNil)) (tC (.int 8)))) (tCons (tOp (rAddG K) (tC (.int 1)) (tOp rModG (tCall (spD K (F__law_next K)) [] E0 (tCons (tVar 0) tNil)) (tVar 1))) tNil))) (tOp rModG (tCall (spD K (F__law_next K)) [] E0 (tCons (tVar 0) tNil)) (tC (.int 2)))) (gName 2))
  (tSeq (tAsg (tLcM (iRng1 (tCons (tVar 2) tNil)) (gName 8) tYes (tCall (spD K (F__law_reading K)) [] E0 (tCons (tVar 0) tNil)) [8]) (gName 3))
  (tSeq (tAsg (tCall (spD K (F__law_seams K)) [] E0 (tCons (tVar 0) (tCons (tVar 2) tNil))) (gName 4))
  (tSeq (tAsg (tOp (rAddG K) (tC (.int 1)) (tOp rModG (tCall (spD K (F__law_next K)) [] E0 (tCons (tVar 0) tNil)) (tOp (rIx K) (tLst (tCons (tC (.int 4)) (tCons (tC (.int 10)) tNil))) (tOp rModG (tCall (spD K (F__law_next K)) [] E0 (tCons (tVar 0) tNil)) (tC (.int 2)))))) (gName 5))
  (tSeq (tAsg (tOp (rAddG K) (tCB (rListG K) (tCons (tVar 4) tNil)) (tLst (tCons (tVar 2) tNil))) (gName 6))
  (tSeq (tAsg (tDisp [((tC (.str "row")), (tVar 3)), ((tC (.str "seams")), (tVar 4)), ((tC (.str "ends")), (tVar 6)), ((tC (.str "holders")), (tLcM (iList K (tVar 6)) (gName 9) tYes (tC .non) [9]))]) (gName 7))
  (tSeq (sDPut (tVar 7) (tC (.str "lines")) (tLc (iList K (tVar 6)) (gName 9) tYes (tLstM tNil) [9]))
  (tSeq (sDPut (tVar 7) (tC (.str "wanted")) (tLcM (iRng1 (tCons (tVar 5) tNil)) (gName 10) tYes (tC .non) [10]))
  (tSeq (sDPut (tVar 7) (tC (.str "copies")) (tLc (iRng1 (tCons (tVar 5) tNil)) (gName 10) tYes (tLcM (iList K (tVar 3)) (gName 8) tYes (tC .non) [8]) [10]))
  (tSeq (sDPut (tVar 7) (tC (.str "giving")) (tOp (rIx K) (tLst (tCons (tC (.int 4)) (tCons (tC (.int 1)) tNil))) (tOp rModG (tCall (spD K (F__law_next K)) [] E0 (tCons (tVar 0) tNil)) (tC (.int 2)))))
  (tRet (tVar 7))))))))))))
def P__law_state (K : PySem.W.Frag) (a b : D) (M : Mem) (Q : D → Mem → Prop) : Prop := ∃ (p : Addr) (most : Nat), a = .ref p ∧ b = .int most ∧ Deck 1000 M p ∧ 8 ≤ most ∧ most ≤ 40 ∧ ∀ (row : List Str) (seams : List Nat) (hands giv : Nat) (A : SN → Addr) M', Fit (start row seams hands giv) 0 → seams.length ≤ 39 → Grow A (nodeS A (start row seams hands giv)) M M' → Q (.ref (A .dict)) M'
def F__law_state (K : PySem.W.Frag) : Fn := fn2 (P__law_state K)
theorem u__law_state {K : PySem.W.Frag} {a b : D} {M : Mem} {Q : D → Mem → Prop} {X : Value → List (Str × D) → Mem → Prop} (h : P__law_state K a b M Q) : F__law_state K [a, b] M Q X := use2 h
theorem w__law_state {K : PySem.W.Frag} {mg : Str → Option Value} (T : TT K mg) {a b : D} {M : Mem} {Q : D → Mem → Prop} (h : P__law_state K a b M Q) : wS (c0 K) (t__law_state K) [some a, some b, none, none, none, none, none, none, none, none, none] M (Zr Q) := by
  obtain ⟨p, most, rfl, rfl, hd, m1, m2, q⟩ := h
  unfold t__law_state
  wtm_at "go"
  refine u__law_next ⟨p, rfl, hd, fun y1 _ _ => ?_⟩
  wtm_at "go"
  have a0 := Int.emod_nonneg y1 (show (8 : Int) ≠ 0 by decide)
  have a1 := Int.emod_lt_of_pos y1 (show (0 : Int) < 8 by decide)
  generalize y1 % 8 = y1 at *
  refine u__law_next ⟨p, rfl, hd, fun y2 _ _ => ?_⟩
  wtm_at "go"
  have b0 := Int.emod_nonneg y2 (show (most : Int) ≠ 0 by omega)
  have b1 := Int.emod_lt_of_pos y2 (show (0 : Int) < most by omega)
  generalize y2 % (most : Int) = y2 at *
  refine u__law_next ⟨p, rfl, hd, fun y3 _ _ => ?_⟩
  wtm_at "go"
  have c0_ := Int.emod_nonneg y3 (show (2 : Int) ≠ 0 by decide)
  have c1 := Int.emod_lt_of_pos y3 (show (0 : Int) < 2 by decide)
  generalize y3 % 2 = y3 at *
  refine wR_ixB (SV.l LV.f) c0_ (by simpa using c1) fun x hx => ?_
  obtain ⟨many, rfl, n1, n2⟩ : ∃ m : Nat, x = .int m ∧ 1 ≤ m ∧ m ≤ 40 := by
    have hj : y3.toNat < 2 := by omega
    generalize y3.toNat = j at *
    match j, hj with
    | 0, _ => cases hx; exact ⟨(1 + y1).toNat, by congr 1; omega, by omega, by omega⟩
    | 1, _ => cases hx; exact ⟨(1 + y2).toNat, by congr 1; omega, by omega, by omega⟩
  clear hx c0_ c1 a0 a1 b0 b1
  wtm_at "go"
  refine wE_lcM (gok_name (by simp)) (wI_rng1 ?_)
  wtm_at "go"
  refine ⟨by omega, by omega, by rw [rngD_len]; omega, fun i acc M' => M' = M ∧ ∃ l : List Str, acc = l.map .str ∧ l.length = i ∧ ∀ z ∈ l, z.length ≤ 8, ⟨rfl, [], rfl, rfl, fun z hz => by cases hz⟩, ?_, ?_⟩
  · rintro i d acc M' hi ha ⟨rfl, l, rfl, hl, hz⟩
    wtm_at "go"
    refine u__law_reading ⟨p, rfl, hd, fun z h8 => ⟨rfl, l ++ [z], by rw [List.map_append]; rfl, by simp [hl], fun x hx => ?_⟩⟩
    rcases List.mem_append.mp hx with hx | hx
    · exact hz x hx
    · rw [List.mem_singleton.mp hx]; exact h8.2.1
  rintro acc M' ⟨rfl, row, rfl, hrow, h8⟩ _ r hr
  rw [rngD_len] at hrow
  have hrow : row.length = many := by omega
  subst hrow
  have G1 := sg_row (d := 0) (r := 0) (h := 0) (w := 0) (Al := fun _ => 0) (Ac := fun _ => 0) (dd := none) (hol := none) (want := none) (fl := noS) (fc := noS) (x := .lst (row.map .str)) ((Grow.nil (A := fun _ => 0)).as (fun n => by cases n <;> rfl) (fun n h => by cases h)) hr
  have hd1 : Deck 1000 (mset M' r (.lst (row.map .str))) p := G1.sub _ _ hd
  wtm_at "go"
  refine u__law_seams ⟨p, row.length, rfl, rfl, hd1, n1, n2, fun seams s1 s2 s3 => ?_⟩
  wtm_at "go"
  refine u__law_next ⟨p, rfl, hd1, fun y4 _ _ => ?_⟩
  wtm_at "go"
  refine u__law_next ⟨p, rfl, hd1, fun y5 _ _ => ?_⟩
  wtm_at "go"
  have c0_ := Int.emod_nonneg y5 (show (2 : Int) ≠ 0 by decide)
  have c1 := Int.emod_lt_of_pos y5 (show (0 : Int) < 2 by decide)
  generalize y5 % 2 = y5 at *
  refine wR_ixB (SV.l LV.f) c0_ (by simpa using c1) fun x hx => ?_
  obtain ⟨hm, rfl, k1, k2⟩ : ∃ m : Nat, x = .int m ∧ 1 ≤ m ∧ m ≤ 10 := by
    have hj : y5.toNat < 2 := by omega
    generalize y5.toNat = j at *
    match j, hj with
    | 0, _ => cases hx; exact ⟨4, rfl, by omega, by omega⟩
    | 1, _ => cases hx; exact ⟨10, rfl, by omega, by omega⟩
  clear hx c0_ c1
  wtm_at "go"
  have b0 := Int.emod_nonneg y4 (show (hm : Int) ≠ 0 by omega)
  have b1 := Int.emod_lt_of_pos y4 (show (0 : Int) < hm by omega)
  generalize y4 % (hm : Int) = y4 at *
  obtain ⟨hands, eh, k3, k4⟩ : ∃ hands : Nat, 1 + y4 = (hands : Int) ∧ 1 ≤ hands ∧ hands ≤ 10 := ⟨(1 + y4).toNat, by omega, by omega, by omega⟩
  rw [eh]
  clear eh b0 b1
  refine wC_list (SV.t _) ?_
  wtm_at "go"
  refine wR_addL LV.f LV.f (by simp; omega) ?_
  have ee : seams.map dN ++ [D.int row.length] = (seams ++ [row.length]).map dN := by rw [List.map_append]; rfl
  rw [ee]
  wtm_at "go"
  refine wE_lcM (gok_name (by simp)) (wI_list ?_)
  wtm_at "go"
  refine ⟨by simp; omega, fun i acc M2 => M2 = mset M' r (.lst (row.map .str)) ∧ acc = List.replicate i D.non, ⟨rfl, rfl⟩, ?_, ?_⟩
  · rintro i d acc M2 hi ha ⟨rfl, rfl⟩
    wtm_at "go"
    exact ⟨rfl, by rw [List.replicate_succ']⟩
  rintro acc M2 ⟨rfl, rfl⟩ _ h hh
  rw [List.length_map, List.length_append, List.length_singleton] at *
  have G2 := sg_hol (x := .lst (List.replicate (seams.length + 1) D.non)) G1 hh
  wtm_at "go"
  refine ⟨[(.inr "row", .ref r), (.inr "seams", .tup (seams.map dN)), (.inr "ends", .lst ((seams ++ [row.length]).map dN)), (.inr "holders", .ref h)], rfl, le15 (n := 4) rfl (by decide), fun d hd_ => ?_⟩
  have em : mergeA [] [((.inr "row" : Key), D.ref r), (.inr "seams", .tup (seams.map dN)), (.inr "ends", .lst ((seams ++ [row.length]).map dN)), (.inr "holders", .ref h)] = [(.inr "row", .ref r), (.inr "seams", .tup (seams.map dN)), (.inr "ends", .lst ((seams ++ [row.length]).map dN)), (.inr "holders", .ref h)] := rfl
  rw [em]
  have G3 := sg_dict (x := .dK [(.inr "row", .ref r), (.inr "seams", .tup (seams.map dN)), (.inr "ends", .lst ((seams ++ [row.length]).map dN)), (.inr "holders", .ref h)]) G2 hd_
  wtm_at "go"
  refine wE_lc (gok_name (by simp)) (wI_list ?_)
  wtm_at "go"
  refine ⟨by simp; omega, fun i acc M2 => ∃ A, Grow A (linesS i) (mset (mset (mset M' r (.lst (row.map .str))) h (.lst (List.replicate (seams.length + 1) D.non))) d (.dK [(.inr "row", .ref r), (.inr "seams", .tup (seams.map dN)), (.inr "ends", .lst ((seams ++ [row.length]).map dN)), (.inr "holders", .ref h)])) M2 ∧ acc = (List.range i).map fun i => D.ref (A (.line i)), ⟨fun _ => 0, (Grow.nil (A := fun _ => 0)).as (fun n => by cases n <;> simp [linesS]) (fun n h => by cases h), rfl⟩, ?_, ?_⟩
  · rintro i x acc M2 hi ha ⟨A, G, rfl⟩
    wtm_at "go"
    intro l hl
    refine ⟨_, linesS_more G hl, ?_⟩
    rw [List.range_succ, List.map_append]
    congr 1
    · apply List.map_congr_left
      intro j hj
      have := List.mem_range.mp hj
      rw [if_neg (fun w => by cases w; omega)]
    · simp
  rintro acc M2 ⟨Al, Gl, rfl⟩ _
  rw [List.length_map, List.length_append, List.length_singleton] at *
  have G4 := sg_l G3 Gl
  wtm_at "go"
  refine ⟨d, _, .inr "lines", rfl, rfl, G4.at_ .dict _ rfl, by simp, ?_⟩
  have G5 := sg_set (y := .dK [(.inr "row", .ref r), (.inr "seams", .tup (seams.map dN)), (.inr "ends", .lst ((seams ++ [row.length]).map dN)), (.inr "holders", .ref h), (.inr "lines", .lst ((List.range (seams.length + 1)).map fun i => .ref (Al (.line i))))]) G4
  wtm_at "go"
  refine wE_lcM (gok_name (by simp)) (wI_rng1 ?_)
  wtm_at "go"
  have M5 := G5.sub
  refine ⟨by omega, by omega, by rw [rngD_len]; omega, fun i acc M3 => M3 = mset M2 d (.dK [(.inr "row", .ref r), (.inr "seams", .tup (seams.map dN)), (.inr "ends", .lst ((seams ++ [row.length]).map dN)), (.inr "holders", .ref h), (.inr "lines", .lst ((List.range (seams.length + 1)).map fun i => .ref (Al (.line i))))]) ∧ acc = List.replicate i D.non, ⟨rfl, rfl⟩, ?_, ?_⟩
  · rintro i x acc M3 hi ha ⟨rfl, rfl⟩
    wtm_at "go"
    exact ⟨rfl, by rw [List.replicate_succ']⟩
  rintro acc M3 ⟨rfl, rfl⟩ _ w hw
  rw [rngD_len]
  have eh : (hands : Int).toNat = hands := by omega
  rw [eh]
  have G6 := sg_want (x := .lst (List.replicate hands D.non)) G5 hw
  wtm_at "go"
  refine ⟨d, _, .inr "wanted", rfl, rfl, G6.at_ .dict _ rfl, by simp, ?_⟩
  have G7 := sg_set (y := .dK [(.inr "row", .ref r), (.inr "seams", .tup (seams.map dN)), (.inr "ends", .lst ((seams ++ [row.length]).map dN)), (.inr "holders", .ref h), (.inr "lines", .lst ((List.range (seams.length + 1)).map fun i => .ref (Al (.line i)))), (.inr "wanted", .ref w)]) G6
  wtm_at "go"
  refine wE_lc (gok_name (by simp)) (wI_rng1 ?_)
  wtm_at "go"
  refine ⟨by omega, by omega, by rw [rngD_len]; omega, fun i acc M4 => ∃ A, Grow A (copiesS (List.replicate row.length none) i) (mset (mset (mset M2 d (.dK [(.inr "row", .ref r), (.inr "seams", .tup (seams.map dN)), (.inr "ends", .lst ((seams ++ [row.length]).map dN)), (.inr "holders", .ref h), (.inr "lines", .lst ((List.range (seams.length + 1)).map fun i => .ref (Al (.line i))))])) w (.lst (List.replicate hands D.non))) d (.dK [(.inr "row", .ref r), (.inr "seams", .tup (seams.map dN)), (.inr "ends", .lst ((seams ++ [row.length]).map dN)), (.inr "holders", .ref h), (.inr "lines", .lst ((List.range (seams.length + 1)).map fun i => .ref (Al (.line i)))), (.inr "wanted", .ref w)])) M4 ∧ acc = (List.range i).map fun i => D.ref (A (.copy i)), ⟨fun _ => 0, (Grow.nil (A := fun _ => 0)).as (fun n => by cases n <;> simp [copiesS]) (fun n h => by cases h), rfl⟩, ?_, ?_⟩
  · rintro i x acc M4 hi ha ⟨A, G, rfl⟩
    wtm_at "go"
    have fr : M4 r = some (.lst (row.map .str)) := G.sub _ _ (G7.at_ .row _ rfl)
    refine wE_ro (i := 3) rfl (.lst fr (.same _)) ?_
    refine wE_lcM (gok_name (by simp)) (wI_list ?_)
    wtm_at "go"
    refine ⟨by rw [List.length_map]; omega, fun i acc M5 => M5 = nomem ∧ acc = List.replicate i D.non, ⟨rfl, rfl⟩, ?_, ?_⟩
    · rintro i x acc M5 hi ha ⟨rfl, rfl⟩
      wtm_at "go"
      exact ⟨rfl, by rw [List.replicate_succ']⟩
    rintro acc M5 ⟨rfl, rfl⟩ _ b hb
    rw [List.length_map]
    refine ⟨b, _, rfl, fun y hy => by rw [List.eq_of_mem_replicate hy]; trivial, rfl, fun b2 hb2 => ?_⟩
    have e3 : List.replicate row.length D.non = (List.replicate row.length (none : Option Str)).map ST.os := by simp [ST.os]
    rw [e3]
    refine ⟨_, copiesS_more G hb2, ?_⟩
    rw [List.range_succ, List.map_append]
    congr 1
    · apply List.map_congr_left
      intro j hj
      have := List.mem_range.mp hj
      rw [if_neg (fun w => by cases w; omega)]
    · simp
  rintro acc M4 ⟨Ac, Gc, rfl⟩ _
  rw [rngD_len, eh] at Gc ⊢
  have G8 := sg_c G7 Gc
  wtm_at "go"
  refine ⟨d, _, .inr "copies", rfl, rfl, G8.at_ .dict _ rfl, by simp, ?_⟩
  have G9 := sg_set (y := .dK [(.inr "row", .ref r), (.inr "seams", .tup (seams.map dN)), (.inr "ends", .lst ((seams ++ [row.length]).map dN)), (.inr "holders", .ref h), (.inr "lines", .lst ((List.range (seams.length + 1)).map fun i => .ref (Al (.line i)))), (.inr "wanted", .ref w), (.inr "copies", .lst ((List.range hands).map fun i => .ref (Ac (.copy i))))]) G8
  have hd9 := G9.sub _ _ hd
  wtm_at "go"
  refine u__law_next ⟨p, rfl, hd9, fun y6 _ _ => ?_⟩
  wtm_at "go"
  have c0_ := Int.emod_nonneg y6 (show (2 : Int) ≠ 0 by decide)
  have c1 := Int.emod_lt_of_pos y6 (show (0 : Int) < 2 by decide)
  generalize y6 % 2 = y6 at *
  refine wR_ixB (SV.l LV.f) c0_ (by simpa using c1) fun x hx => ?_
  obtain ⟨giv, rfl, g4⟩ : ∃ m : Nat, x = .int m ∧ m ≤ 4 := by
    have hj : y6.toNat < 2 := by omega
    generalize y6.toNat = j at *
    match j, hj with
    | 0, _ => cases hx; exact ⟨4, rfl, by omega⟩
    | 1, _ => cases hx; exact ⟨1, rfl, by omega⟩
  clear hx c0_ c1
  wtm_at "go"
  refine ⟨d, _, .inr "giving", rfl, rfl, G9.at_ .dict _ rfl, by simp, ?_⟩
  have GA := sg_set (y := .dK [(.inr "row", .ref r), (.inr "seams", .tup (seams.map dN)), (.inr "ends", .lst ((seams ++ [row.length]).map dN)), (.inr "holders", .ref h), (.inr "lines", .lst ((List.range (seams.length + 1)).map fun i => .ref (Al (.line i)))), (.inr "wanted", .ref w), (.inr "copies", .lst ((List.range hands).map fun i => .ref (Ac (.copy i)))), (.inr "giving", .int giv)]) G9
  wtm_at "go"
  have GB : Grow (sA d r h w Al Ac) (nodeS (sA d r h w Al Ac) (start row seams hands giv)) M' _ := GA.as (fun n => start_state n) (fun _ _ => rfl)
  exact ret_eq (q row seams hands giv _ _ (start_fit n1 n2 s1 s2 s3 k3 k4 h8 g4) s3 GB)
theorem b__law_state {K : PySem.W.Frag} {mg : Str → Option Value} (T : TT K mg) : Binds K (fdAt K (He.ga K "_law_state")) ["_law_deck_here", "_law_most"] [] := FunD.bindsN T.F__law_state fun _ _ _ _ _ _ us hl => match us, hl with | [_, _], _ => rfl
theorem ok__law_state {P : Program} {w : World} {K : PySem.W.Frag} {mg : Str → Option Value} {base : Heap} (T : TT K mg) : FnOk P w K mg base CX0 4 (He.ga K "_law_state") (fdAt K (He.ga K "_law_state")) ["_law_deck_here", "_law_most"] (spD K (F__law_state K)) := by
  refine ok_def T.F__law_state sc__law_state (t__law_state K) ?_ (fun cdv A outer s H E hr => ?_) (fun ds M Q X ⟨a, b, e, h⟩ => by subst e; exact w__law_state T h)
  · exact len2
  · have hu := hu_of hr
    exact (pss_cons (ps_set (i := 2) sc__law_state.nd rfl (Or.inl rfl) (pe_ix ix_seq (pe_lst (pa_cons (pe_op op_addG pe_int (pe_op op_modG (pe_call (ok__law_next T) (hr.mono (by decide)) (by rfl) T.g__law_next T.F__law_next.kp (b__law_next T) .nil pass0 (pa_cons (pv 0) pa_nil)) pe_int)) (pa_cons (pe_op op_addG pe_int (pe_op op_modG (pe_call (ok__law_next T) (hr.mono (by decide)) (by rfl) T.g__law_next T.F__law_next.kp (b__law_next T) .nil pass0 (pa_cons (pv 0) pa_nil)) (pv 1))) pa_nil))) (pe_op op_modG (pe_call (ok__law_next T) (hr.mono (by decide)) (by rfl) T.g__law_next T.F__law_next.kp (b__law_next T) .nil pass0 (pa_cons (pv 0) pa_nil)) pe_int) (fun _ _ => rfl)))
  (pss_cons (ps_set (i := 3) sc__law_state.nd rfl (Or.inr rfl) (pe_lc (own := [("_law_place", 8)]) rfl sc__law_state.nd (pi_range1 (by rfl) T.k_range (pa_cons (pv 2) pa_nil)) (blkOk_by (N := ["_law_deck_here", "_law_most", "_law_many", "_law_row", "_law_seams_here", "_law_hands", "_law_ends", "_law_state_here", "_law_place", "_law_end", "_law_hand"]) (sc := defScope s__law_state) (by decide +kernel)) (fun _ _ _ _ _ => (pg_name (i := 8) sc__law_state.nd rfl (by first | exact Or.inl rfl | exact Or.inr rfl))) (fun _ _ _ _ _ => pts_nil) (fun _ _ _ _ _ => (pe_call (ok__law_reading T) (hr.mono (by decide)) (by rfl) T.g__law_reading T.F__law_reading.kp (b__law_reading T) .nil pass0 (pa_cons (pv 0) pa_nil)))))
  (pss_cons (ps_set (i := 4) sc__law_state.nd rfl (Or.inl rfl) (pe_call (ok__law_seams T) (hr.mono (by decide)) (by rfl) T.g__law_seams T.F__law_seams.kp (b__law_seams T) .nil pass0 (pa_cons (pv 0) (pa_cons (pv 2) pa_nil))))
  (pss_cons (ps_set (i := 5) sc__law_state.nd rfl (Or.inl rfl) (pe_op op_addG pe_int (pe_op op_modG (pe_call (ok__law_next T) (hr.mono (by decide)) (by rfl) T.g__law_next T.F__law_next.kp (b__law_next T) .nil pass0 (pa_cons (pv 0) pa_nil)) (pe_ix ix_seq (pe_lst (pa_cons pe_int (pa_cons pe_int pa_nil))) (pe_op op_modG (pe_call (ok__law_next T) (hr.mono (by decide)) (by rfl) T.g__law_next T.F__law_next.kp (b__law_next T) .nil pass0 (pa_cons (pv 0) pa_nil)) pe_int) (fun _ _ => rfl)))))
  (pss_cons (ps_set (i := 6) sc__law_state.nd rfl (Or.inl rfl) (pe_op op_addG (pe_callTy call_listG (by rfl) T.k_list (by decide +kernel) (pa_cons (pv 4) pa_nil)) (pe_lst (pa_cons (pv 2) pa_nil))))
  (pss_cons (ps_set (i := 7) sc__law_state.nd rfl (Or.inl rfl) (pe_disp (pps_cons pe_str (pv 3) (pps_cons pe_str (pv 4) (pps_cons pe_str (pv 6) (pps_cons pe_str (pe_lc (own := [("_law_end", 9)]) rfl sc__law_state.nd (pi_list (pv 6)) (blkOk_by (N := ["_law_deck_here", "_law_most", "_law_many", "_law_row", "_law_seams_here", "_law_hands", "_law_ends", "_law_state_here", "_law_place", "_law_end", "_law_hand"]) (sc := defScope s__law_state) (by decide +kernel)) (fun _ _ _ _ _ => (pg_name (i := 9) sc__law_state.nd rfl (by first | exact Or.inl rfl | exact Or.inr rfl))) (fun _ _ _ _ _ => pts_nil) (fun _ _ _ _ _ => pe_non)) pps_nil)))) (by rfl) (by rfl) (fun z => by cases z) (by decide)))
  (pss_cons (ps_dput hu (pv 7) pe_str (pe_lc (own := [("_law_end", 9)]) rfl sc__law_state.nd (pi_list (pv 6)) (blkOk_by (N := ["_law_deck_here", "_law_most", "_law_many", "_law_row", "_law_seams_here", "_law_hands", "_law_ends", "_law_state_here", "_law_place", "_law_end", "_law_hand"]) (sc := defScope s__law_state) (by decide +kernel)) (fun _ _ _ _ _ => (pg_name (i := 9) sc__law_state.nd rfl (by first | exact Or.inl rfl | exact Or.inr rfl))) (fun _ _ _ _ _ => pts_nil) (fun _ _ _ _ _ => (pe_lstM pa_nil))) rfl)
  (pss_cons (ps_dput hu (pv 7) pe_str (pe_lc (own := [("_law_hand", 10)]) rfl sc__law_state.nd (pi_range1 (by rfl) T.k_range (pa_cons (pv 5) pa_nil)) (blkOk_by (N := ["_law_deck_here", "_law_most", "_law_many", "_law_row", "_law_seams_here", "_law_hands", "_law_ends", "_law_state_here", "_law_place", "_law_end", "_law_hand"]) (sc := defScope s__law_state) (by decide +kernel)) (fun _ _ _ _ _ => (pg_name (i := 10) sc__law_state.nd rfl (by first | exact Or.inl rfl | exact Or.inr rfl))) (fun _ _ _ _ _ => pts_nil) (fun _ _ _ _ _ => pe_non)) rfl)
  (pss_cons (ps_dput hu (pv 7) pe_str (pe_lc (own := [("_law_hand", 10)]) rfl sc__law_state.nd (pi_range1 (by rfl) T.k_range (pa_cons (pv 5) pa_nil)) (blkOk_by (N := ["_law_deck_here", "_law_most", "_law_many", "_law_row", "_law_seams_here", "_law_hands", "_law_ends", "_law_state_here", "_law_place", "_law_end", "_law_hand"]) (sc := defScope s__law_state) (by decide +kernel)) (fun _ _ _ _ _ => (pg_name (i := 10) sc__law_state.nd rfl (by first | exact Or.inl rfl | exact Or.inr rfl))) (fun _ _ _ _ _ => pts_nil) (fun _ _ _ _ _ => (pe_lc (own := [("_law_place", 8)]) rfl sc__law_state.nd (pi_list (pv 3)) (blkN (N := ["_law_deck_here", "_law_most", "_law_many", "_law_row", "_law_seams_here", "_law_hands", "_law_ends", "_law_state_here", "_law_place", "_law_end", "_law_hand"]) rfl (by decide +kernel)) (fun _ _ _ _ _ => (pg_name (i := 8) sc__law_state.nd rfl (by first | exact Or.inl rfl | exact Or.inr rfl))) (fun _ _ _ _ _ => pts_nil) (fun _ _ _ _ _ => pe_non)))) rfl)
  (pss_cons (ps_dput hu (pv 7) pe_str (pe_ix ix_seq (pe_lst (pa_cons pe_int (pa_cons pe_int pa_nil))) (pe_op op_modG (pe_call (ok__law_next T) (hr.mono (by decide)) (by rfl) T.g__law_next T.F__law_next.kp (b__law_next T) .nil pass0 (pa_cons (pv 0) pa_nil)) pe_int) (fun _ _ => rfl)) rfl)
  (pss_one (ps_ret (pv 7)))))))))))))
/-! ### Quire.__init__ -/
theorem sc_Quire___init__ : FnScope ["self", "begin", "end"] ["self", "begin", "end"] (defScope s_Quire___init__) := ⟨rfl, rfl, rfl, by decide +kernel, rfl, by decide +kernel, by decide +kernel⟩
def t_Quire___init__ (K : PySem.W.Frag) : TS :=
  (tSeq (sFld K (tVar 0) (tVar 1) "begin")
  (tSeq (sFld K (tVar 0) (tVar 2) "end")
  (tSeq (sFld K (tVar 0) (tC .non) "hand")
  (sFld K (tVar 0) (tLstM tNil) "line"))))
def P_Quire___init__ (K : PySem.W.Frag) (a b c : D) (M : Mem) (Q : D → Mem → Prop) : Prop := ∃ (p : Addr) (x y : Int), a = .ref p ∧ b = .int x ∧ c = .int y ∧ M p = some (.ins (He.ga K "Quire") []) ∧ ∀ l, l ≠ p → M l = none → Q .non (mset (mset M l (.lst [])) p (.ins (He.ga K "Quire") [("begin", .int x), ("end", .int y), ("hand", .non), ("line", .ref l)]))
def F_Quire___init__ (K : PySem.W.Frag) : Fn := fn3 (P_Quire___init__ K)
theorem u_Quire___init__ {K : PySem.W.Frag} {a b c : D} {M : Mem} {Q : D → Mem → Prop} {X : Value → List (Str × D) → Mem → Prop} (h : P_Quire___init__ K a b c M Q) : F_Quire___init__ K [a, b, c] M Q X := use3 h
theorem w_Quire___init__ {K : PySem.W.Frag} {mg : Str → Option Value} (T : TT K mg) {a b c : D} {M : Mem} {Q : D → Mem → Prop} (h : P_Quire___init__ K a b c M Q) : wS (c0 K) (t_Quire___init__ K) [some a, some b, some c] M (Zr Q) := by
  obtain ⟨p, x, y, rfl, rfl, rfl, hp, q⟩ := h
  unfold t_Quire___init__
  wtm_at "go"
  refine ⟨_, _, _, rfl, hp, T.cl_Quire, T.n_Quire_begin, (by decide), ?_⟩
  wtm_at "go"
  refine ⟨_, _, _, rfl, mset_same, T.cl_Quire, T.n_Quire_end, (by wtm_at "fl"), ?_⟩
  wtm_at "go"
  refine ⟨_, _, _, rfl, mset_same, T.cl_Quire, T.n_Quire_hand, (by wtm_at "fl"), ?_⟩
  wtm_at "go"
  intro l hl
  rw [mset_mset, mset_mset] at hl
  obtain ⟨nl, hl⟩ := fresh2 hl
  wtm_at "go"
  rw [mset_mset, mset_mset]
  refine ⟨_, _, _, rfl, (by rw [mset_ne (Ne.symm nl)]; exact mset_same), T.cl_Quire, T.n_Quire_line, (by wtm_at "fl"), ?_⟩
  wtm_at "go"
  have e : mset (mset (mset M p (.ins (He.ga K "Quire") (putD "hand" .non (putD "end" (.int y) (putD "begin" (.int x) []))))) l (.lst [])) p (.ins (He.ga K "Quire") (putD "line" (.ref l) (putD "hand" .non (putD "end" (.int y) (putD "begin" (.int x) []))))) = mset (mset M l (.lst [])) p (.ins (He.ga K "Quire") [("begin", .int x), ("end", .int y), ("hand", .non), ("line", .ref l)]) := by
    funext z
    unfold mset
    by_cases h1 : z = p
    · rw [if_pos h1, if_pos h1]; rfl
    · rw [if_neg h1, if_neg h1, if_neg h1]
  rw [e]
  exact ret_eq (q l nl hl)
theorem b_Quire___init__ {K : PySem.W.Frag} {mg : Str → Option Value} (T : TT K mg) : Binds K (fdAt K (He.ma K (He.ga K "Quire") "__init__")) ["self", "begin", "end"] [] := FunD.bindsN T.F_Quire___init__ fun _ _ _ _ _ _ us hl => match us, hl with | [_, _, _], _ => rfl
theorem ok_Quire___init__ {P : Program} {w : World} {K : PySem.W.Frag} {mg : Str → Option Value} {base : Heap} (T : TT K mg) : FnOk P w K mg base CX0 1 (He.ma K (He.ga K "Quire") "__init__") (fdAt K (He.ma K (He.ga K "Quire") "__init__")) ["self", "begin", "end"] (spD K (F_Quire___init__ K)) := by
  refine ok_def T.F_Quire___init__ sc_Quire___init__ (t_Quire___init__ K) ?_ (fun cdv A outer s H E hr => ?_) (fun ds M Q X ⟨a, b, c, e, h⟩ => by subst e; exact w_Quire___init__ T h)
  · exact len3
  · have hu := hu_of hr
    exact (pss_cons (ps_fld (pv 0) (pv 1) rfl)
  (pss_cons (ps_fld (pv 0) (pv 2) rfl)
  (pss_cons (ps_fld (pv 0) pe_non rfl)
  (pss_one (ps_fld (pv 0) (pe_lstM pa_nil) rfl)))))
/-! ### quires_of -/
theorem sc_quires_of : FnScope ["many", "seams", "begins", "ends", "begin", "end"] ["many", "seams"] (defScope s_quires_of) := ⟨rfl, rfl, rfl, by decide +kernel, rfl, by decide +kernel, by decide +kernel⟩
def t_quires_of (K : PySem.W.Frag) : TS :=
  (tSeq (tAsg (tOp (rAddG K) (tTup (tCons (tC (.int 0)) tNil)) (tVar 1)) (gName 2))
  (tSeq (tAsg (tOp (rAddG K) (tVar 1) (tTup (tCons (tVar 0) tNil))) (gName 3))
  (tRet (tLc (RZ.iZipA K (tCons (tVar 2) (tCons (tVar 3) tNil))) (gTup K 2 (gCons (gName 4) (gCons (gName 5) gNil))) tYes (tMake (He.ga K "Quire") (spD K (F_Quire___init__ K)) [] E0 (tCons (tVar 4) (tCons (tVar 5) tNil))) [4, 5]))))
def P_quires_of (K : PySem.W.Frag) (a b : D) (M : Mem) (Q : D → Mem → Prop) : Prop := ∃ (many : Nat) (seams : List Nat), a = .int many ∧ b = .tup (seams.map dN) ∧ seams.length ≤ 100 ∧ ∀ A M', Grow A (quiresN K A (fun q => (0 :: (seams ++ [many]))[q]?.getD 0) (fun q => (seams ++ [many])[q]?.getD 0) (seams.length + 1)) M M' → Q (.lst ((List.range (seams.length + 1)).map fun i => .ref (A (.quire i)))) M'
def F_quires_of (K : PySem.W.Frag) : Fn := fn2 (P_quires_of K)
theorem u_quires_of {K : PySem.W.Frag} {a b : D} {M : Mem} {Q : D → Mem → Prop} {X : Value → List (Str × D) → Mem → Prop} (h : P_quires_of K a b M Q) : F_quires_of K [a, b] M Q X := use2 h
theorem w_quires_of {K : PySem.W.Frag} {mg : Str → Option Value} (T : TT K mg) {a b : D} {M : Mem} {Q : D → Mem → Prop} (h : P_quires_of K a b M Q) : wS (c0 K) (t_quires_of K) [some a, some b, none, none, none, none] M (Zr Q) := by
  obtain ⟨many, seams, rfl, rfl, hs, q⟩ := h
  unfold t_quires_of
  wtm_at "go"
  refine wR_addT (by simp; omega) ?_
  wtm_at "go"
  refine wR_addT (by simp; omega) ?_
  wtm_at "go"
  refine wE_lc (gok_tup (gsok_cons (gok_name (by simp)) (gsok_cons (gok_name (by simp)) gsok_nil))) (wI_zipT ?_)
  wtm_at "go"
  have hz : zipD ([D.int 0] ++ seams.map dN) (seams.map dN ++ [D.int many]) = (List.range (seams.length + 1)).map fun i => D.tup [dN ((0 :: (seams ++ [many]))[i]?.getD 0), dN ((seams ++ [many])[i]?.getD 0)] := zip_ends
  refine ⟨_, _, rfl, ?_⟩
  rw [hz]
  refine ⟨by simp; omega, fun i acc M' => ∃ A, Grow A (quiresN K A (fun q => (0 :: (seams ++ [many]))[q]?.getD 0) (fun q => (seams ++ [many])[q]?.getD 0) i) M M' ∧ acc = (List.range i).map fun i => D.ref (A (.quire i)), ⟨fun _ => 0, ?_, rfl⟩, ?_, ?_⟩
  · exact (Grow.nil (A := fun _ => 0)).as (fun n => by cases n <;> simp [quiresN]) (fun n h => by cases h)
  · rintro i d acc M' hi ha ⟨A, G, rfl⟩
    obtain ⟨hi1, rfl⟩ := map_range_get hi
    wtm_at "go"
    intro p hp
    refine u_Quire___init__ ⟨p, _, _, rfl, rfl, rfl, mset_same, fun l nl hl => ⟨rfl, ?_⟩⟩
    obtain ⟨_, hl⟩ := fresh2 hl
    have G2 := quires_more G hp hl nl
    have e : ∀ z, mset (mset (mset M' p (.ins (He.ga K "Quire") [])) l (.lst [])) p z = mset (mset M' l (.lst [])) p z := fun z => by
      funext y
      unfold mset
      by_cases h1 : y = p
      · rw [if_pos h1, if_pos h1]
      · rw [if_neg h1, if_neg h1, if_neg h1]
    rw [e]
    refine ⟨_, G2, ?_⟩
    rw [List.range_succ, List.map_append]
    congr 1
    · apply List.map_congr_left
      intro j hj
      have := List.mem_range.mp hj
      rw [if_neg (fun w => by cases w; omega), if_neg (fun w => by cases w)]
    · simp
  · rintro acc M' ⟨A, G, rfl⟩ _
    rw [List.length_map, List.length_range] at G ⊢
    exact ret_eq (q A M' G)
theorem b_quires_of {K : PySem.W.Frag} {mg : Str → Option Value} (T : TT K mg) : Binds K (fdAt K (He.ga K "quires_of")) ["many", "seams"] [] := FunD.bindsN T.F_quires_of fun _ _ _ _ _ _ us hl => match us, hl with | [_, _], _ => rfl
theorem ok_quires_of {P : Program} {w : World} {K : PySem.W.Frag} {mg : Str → Option Value} {base : Heap} (T : TT K mg) : FnOk P w K mg base CX0 3 (He.ga K "quires_of") (fdAt K (He.ga K "quires_of")) ["many", "seams"] (spD K (F_quires_of K)) := by
  refine ok_def T.F_quires_of sc_quires_of (t_quires_of K) ?_ (fun cdv A outer s H E hr => ?_) (fun ds M Q X ⟨a, b, e, h⟩ => by subst e; exact w_quires_of T h)
  · exact len2
  · have hu := hu_of hr
    exact (pss_cons (ps_set (i := 2) sc_quires_of.nd rfl (Or.inl rfl) (pe_op op_addG (pe_tup (pa_cons pe_int pa_nil)) (pv 1)))
  (pss_cons (ps_set (i := 3) sc_quires_of.nd rfl (Or.inl rfl) (pe_op op_addG (pv 1) (pe_tup (pa_cons (pv 0) pa_nil))))
  (pss_one (ps_ret (pe_lc (own := [("begin", 4), ("end", 5)]) rfl sc_quires_of.nd (RZ.pi_zipA (by rfl) T.k_zip (pa_cons (pv 2) (pa_cons (pv 3) pa_nil))) (blkOk_by (N := ["many", "seams", "begins", "ends", "begin", "end"]) (sc := defScope s_quires_of) (by decide +kernel)) (fun _ _ _ _ _ => (pg_tup rfl (pgs_cons (pg_name (i := 4) sc_quires_of.nd rfl (by first | exact Or.inl rfl | exact Or.inr rfl)) (pgs_cons (pg_name (i := 5) sc_quires_of.nd rfl (by first | exact Or.inl rfl | exact Or.inr rfl)) pgs_nil)))) (fun _ _ _ _ _ => pts_nil) (fun _ _ _ _ _ => (pe_make T.m_Quire (ok_Quire___init__ T) (hr.mono (by decide)) (by rfl) T.g_Quire (b_Quire___init__ T) .nil pass0 (pa_cons (pv 4) (pa_cons (pv 5) pa_nil)))))))))
/-! ### Stall.__init__ -/
theorem sc_Stall___init__ : FnScope ["self", "row", "seams", "hands", "hand"] ["self", "row", "seams", "hands"] (defScope s_Stall___init__) := ⟨rfl, rfl, rfl, by decide +kernel, rfl, by decide +kernel, by decide +kernel⟩
def t_Stall___init__ (K : PySem.W.Frag) : TS :=
  (tSeq (sFld K (tVar 0) (tCB (rListM K) (tCons (tVar 1) tNil)) "lent")
  (tSeq (sFld K (tVar 0) (tCall (spD K (F_quires_of K)) [] E0 (tCons (tCB (rLenG K) (tCons (tVar 1) tNil)) (tCons (tVar 2) tNil))) "quires")
  (tSeq (sFld K (tVar 0) (tLc (iRng1 (tCons (tVar 3) tNil)) (gName 4) tYes (tOp (rMulM K) (tLst (tCons (tC .non) tNil)) (tCB (rLenG K) (tCons (tVar 1) tNil))) [4]) "copies")
  (sFld K (tVar 0) (tOp (rMulM K) (tLst (tCons (tC .non) tNil)) (tVar 3)) "wanted"))))
def P_Stall___init__ (K : PySem.W.Frag) (a b c d : D) (M : Mem) (Q : D → Mem → Prop) : Prop := ∃ (p : Addr) (row : List Str) (seams : List Nat) (hands : Nat), a = .ref p ∧ b = .tup (row.map .str) ∧ c = .tup (seams.map dN) ∧ d = .int hands ∧ row.length ≤ 100 ∧ seams.length ≤ 100 ∧ hands ≤ 100 ∧
  ∃ M0, M = mset M0 p (.ins (He.ga K "Stall") []) ∧ M0 p = none ∧ ∀ A M', A .self = p → Grow A (nodeT K A (start row seams hands 0)) M0 M' → Q .non M'
def F_Stall___init__ (K : PySem.W.Frag) : Fn := fn4 (P_Stall___init__ K)
theorem u_Stall___init__ {K : PySem.W.Frag} {a b c d : D} {M : Mem} {Q : D → Mem → Prop} {X : Value → List (Str × D) → Mem → Prop} (h : P_Stall___init__ K a b c d M Q) : F_Stall___init__ K [a, b, c, d] M Q X := use4 h
theorem w_Stall___init__ {K : PySem.W.Frag} {mg : Str → Option Value} (T : TT K mg) {a b c d : D} {M : Mem} {Q : D → Mem → Prop} (h : P_Stall___init__ K a b c d M Q) : wS (c0 K) (t_Stall___init__ K) [some a, some b, some c, some d, none] M (Zr Q) := by
  obtain ⟨p, row, seams, hands, rfl, rfl, rfl, rfl, hr, hs, hh, M0, rfl, hp, q⟩ := h
  unfold t_Stall___init__
  have G0 : Grow (stA p 0 0 (fun _ => 0) (fun _ => 0)) _ M0 _ := stg_self (sd := .ins (He.ga K "Stall") []) hp
  wtm_at "go"
  refine wC_listM (SV.t _) fun l1 hl1 => ?_
  have G1 := stg_set (sd' := .ins (He.ga K "Stall") [("lent", .ref l1)]) (stg_lent (x := .lst (row.map .str)) G0 hl1)
  wtm_at "go"
  refine ⟨_, _, _, rfl, (stg_lent (x := .lst (row.map .str)) G0 hl1).at_ .self _ rfl, T.cl_Stall, T.n_Stall_lent, (by wtm_at "fl"), ?_⟩
  wtm_at "go"
  refine u_quires_of ⟨row.length, seams, by simp, rfl, hs, fun Aq M2 Gq => ?_⟩
  have G2 := stg_q G1 Gq
  wtm_at "go"
  refine ⟨_, _, _, rfl, G2.at_ .self _ rfl, T.cl_Stall, T.n_Stall_quires, (by wtm_at "fl"), ?_⟩
  have G3 := stg_set (sd' := .ins (He.ga K "Stall") [("lent", .ref l1), ("quires", .lst ((List.range (seams.length + 1)).map fun i => .ref (Aq (.quire i))))]) G2
  wtm_at "go"
  refine wE_lc (gok_name (by simp)) (wI_rng1 ?_)
  wtm_at "go"
  refine ⟨by omega, by omega, by rw [rngD_len]; omega, fun i acc M' => ∃ A, Grow A (copiesN (List.replicate row.length none) i) (mset M2 p (.ins (He.ga K "Stall") [("lent", .ref l1), ("quires", .lst ((List.range (seams.length + 1)).map fun i => .ref (Aq (.quire i))))])) M' ∧ acc = (List.range i).map fun i => D.ref (A (.copy i)), ⟨fun _ => 0, ?_, rfl⟩, ?_, ?_⟩
  · exact (Grow.nil (A := fun _ => 0)).as (fun n => by cases n <;> simp [copiesN]) (fun n h => by cases h)
  · rintro i d acc M' hi ha ⟨A, G, rfl⟩
    obtain ⟨hi1, rfl⟩ := rngD_get hi
    wtm_at "go"
    refine wR_mulLM LV.f (by simp; omega) (by omega) (by simp; omega) fun c1 hc1 => ?_
    have e2 : ((row.map D.str).length : Int).toNat = row.length := by simp
    rw [e2]
    have e3 : (List.replicate row.length [D.non]).flatten = (List.replicate row.length (none : Option Str)).map ST.os := by simp [ST.os]
    rw [e3]
    have G4 := copies_more G hc1
    refine ⟨_, G4, ?_⟩
    rw [List.range_succ, List.map_append]
    congr 1
    · apply List.map_congr_left
      intro j hj
      have := List.mem_range.mp hj
      rw [if_neg (fun w => by cases w; omega)]
    · simp
  · rintro acc M' ⟨Ac, Gc, rfl⟩ _
    rw [rngD_len] at Gc ⊢
    have eh : (hands : Int).toNat = hands := by omega
    rw [eh] at Gc ⊢
    have G5 := stg_c G3 Gc
    wtm_at "go"
    refine ⟨_, _, _, rfl, G5.at_ .self _ rfl, T.cl_Stall, T.n_Stall_copies, (by wtm_at "fl"), ?_⟩
    have G6 := stg_set (sd' := .ins (He.ga K "Stall") [("lent", .ref l1), ("quires", .lst ((List.range (seams.length + 1)).map fun i => .ref (Aq (.quire i)))), ("copies", .lst ((List.range hands).map fun i => .ref (Ac (.copy i))))]) G5
    wtm_at "go"
    refine wR_mulLM LV.f (by omega) (by omega) (by simp; omega) fun w1 hw1 => ?_
    have e4 : (List.replicate (hands : Int).toNat [D.non]).flatten = List.replicate hands D.non := by simp
    rw [e4]
    have G7 := stg_want (x := .lst (List.replicate hands D.non)) G6 hw1
    wtm_at "go"
    refine ⟨_, _, _, rfl, G7.at_ .self _ rfl, T.cl_Stall, T.n_Stall_wanted, (by wtm_at "fl"), ?_⟩
    have G8 := stg_set (sd' := .ins (He.ga K "Stall") [("lent", .ref l1), ("quires", .lst ((List.range (seams.length + 1)).map fun i => .ref (Aq (.quire i)))), ("copies", .lst ((List.range hands).map fun i => .ref (Ac (.copy i)))), ("wanted", .ref w1)]) G7
    have G9 : Grow (stA p l1 w1 Aq Ac) (nodeT K (stA p l1 w1 Aq Ac) (start row seams hands 0)) M0 _ := G8.as (fun n => start_node n) (fun _ _ => rfl)
    exact ret_eq (q _ _ rfl G9)
theorem b_Stall___init__ {K : PySem.W.Frag} {mg : Str → Option Value} (T : TT K mg) : Binds K (fdAt K (He.ma K (He.ga K "Stall") "__init__")) ["self", "row", "seams", "hands"] [] := FunD.bindsN T.F_Stall___init__ fun _ _ _ _ _ _ us hl => match us, hl with | [_, _, _, _], _ => rfl
theorem ok_Stall___init__ {P : Program} {w : World} {K : PySem.W.Frag} {mg : Str → Option Value} {base : Heap} (T : TT K mg) : FnOk P w K mg base CX0 5 (He.ma K (He.ga K "Stall") "__init__") (fdAt K (He.ma K (He.ga K "Stall") "__init__")) ["self", "row", "seams", "hands"] (spD K (F_Stall___init__ K)) := by
  refine ok_def T.F_Stall___init__ sc_Stall___init__ (t_Stall___init__ K) ?_ (fun cdv A outer s H E hr => ?_) (fun ds M Q X ⟨a, b, c, d, e, h⟩ => by subst e; exact w_Stall___init__ T h)
  · exact len4
  · have hu := hu_of hr
    exact (pss_cons (ps_fld (pv 0) (pe_callTy call_listM (by rfl) T.k_list (by decide +kernel) (pa_cons (pv 1) pa_nil)) rfl)
  (pss_cons (ps_fld (pv 0) (pe_call (ok_quires_of T) (hr.mono (by decide)) (by rfl) T.g_quires_of T.F_quires_of.kp (b_quires_of T) .nil pass0 (pa_cons (pe_callB call_lenG (by rfl) T.k_len (by decide +kernel) (pa_cons (pv 1) pa_nil)) (pa_cons (pv 2) pa_nil))) rfl)
  (pss_cons (ps_fld (pv 0) (pe_lc (own := [("hand", 4)]) rfl sc_Stall___init__.nd (pi_range1 (by rfl) T.k_range (pa_cons (pv 3) pa_nil)) (blkOk_by (N := ["self", "row", "seams", "hands", "hand"]) (sc := defScope s_Stall___init__) (by decide +kernel)) (fun _ _ _ _ _ => (pg_name (i := 4) sc_Stall___init__.nd rfl (by first | exact Or.inl rfl | exact Or.inr rfl))) (fun _ _ _ _ _ => pts_nil) (fun _ _ _ _ _ => (pe_op op_mulM (pe_lst (pa_cons pe_non pa_nil)) (pe_callB call_lenG (by rfl) T.k_len (by decide +kernel) (pa_cons (pv 1) pa_nil))))) rfl)
  (pss_one (ps_fld (pv 0) (pe_op op_mulM (pe_lst (pa_cons pe_non pa_nil)) (pv 3)) rfl)))))
/-! ### _law_quire -/
theorem sc__law_quire : FnScope ["_law_state_here", "_law_place", "_law_end"] ["_law_state_here", "_law_place"] (defScope s__law_quire) := ⟨rfl, rfl, rfl, by decide +kernel, rfl, by decide +kernel, by decide +kernel⟩
def t__law_quire (K : PySem.W.Frag) : TS :=
  (tRet (tCB (rLenG K) (tCons (tLc (iList K (tDGet (tVar 0) (tC (.str "ends")))) (gName 2) (tTest (tOp rLeG (tVar 2) (tVar 1))) (tVar 2) [2]) tNil)))
def P__law_quire (K : PySem.W.Frag) (a b : D) (M : Mem) (Q : D → Mem → Prop) : Prop := ∃ (n : Int) (A : WN → Addr) (w : Wd) (p t : Nat), a = .ref (A (.s .dict)) ∧ b = .int p ∧ Is K n A w M ∧ Fit w.st t ∧ Q (.int (quireAt w.st p)) M
def F__law_quire (K : PySem.W.Frag) : Fn := fn2 (P__law_quire K)
theorem u__law_quire {K : PySem.W.Frag} {a b : D} {M : Mem} {Q : D → Mem → Prop} {X : Value → List (Str × D) → Mem → Prop} (h : P__law_quire K a b M Q) : F__law_quire K [a, b] M Q X := use2 h
theorem w__law_quire {K : PySem.W.Frag} {mg : Str → Option Value} (T : TT K mg) {a b : D} {M : Mem} {Q : D → Mem → Prop} (h : P__law_quire K a b M Q) : wS (c0 K) (t__law_quire K) [some a, some b, none] M (Zr Q) := by
  obtain ⟨n, A, w, p, t, rfl, rfl, W, F, q⟩ := h
  have q1 := F.q1
  unfold t__law_quire
  wtm_at "go"
  refine wE_lc (gok_name (by simp)) (wI_list ?_)
  wtm_at "go"
  wtm_at "d"
  refine ⟨_, rfl, (by rw [List.length_map]; omega), fun i acc M' => M' = M ∧ acc = ((w.st.ends.take i).filter fun e => decide (e ≤ p)).map dN, ⟨rfl, rfl⟩, ?_, ?_⟩
  · rintro i d acc M' hi ha ⟨rfl, rfl⟩
    obtain ⟨e, he, rfl⟩ := get_map hi
    wtm_at "go"
    have e1 : w.st.ends.take (i + 1) = w.st.ends.take i ++ [e] := by rw [List.take_add_one, he]; rfl
    dsimp only
    rw [e1, List.filter_append, List.map_append]
    refine ⟨fun hb => ?_, fun hb => ?_⟩
    · have : e ≤ p := by have := of_decide_eq_true hb; omega
      rw [List.filter_cons_of_pos (by simpa using this)]
      wtm_at "go"
      exact ⟨rfl, rfl⟩
    · have : ¬ e ≤ p := by have := of_decide_eq_false hb; omega
      rw [List.filter_cons_of_neg (by simpa using this)]
      exact ⟨rfl, (List.append_nil _).symm⟩
  · rintro acc M' ⟨rfl, rfl⟩ _
    rw [List.length_map, List.take_length]
    wtm_at "go"
    rw [List.length_map]
    exact ret_eq q
theorem b__law_quire {K : PySem.W.Frag} {mg : Str → Option Value} (T : TT K mg) : Binds K (fdAt K (He.ga K "_law_quire")) ["_law_state_here", "_law_place"] [] := FunD.bindsN T.F__law_quire fun _ _ _ _ _ _ us hl => match us, hl with | [_, _], _ => rfl
theorem ok__law_quire {P : Program} {w : World} {K : PySem.W.Frag} {mg : Str → Option Value} {base : Heap} (T : TT K mg) : FnOk P w K mg base CX0 1 (He.ga K "_law_quire") (fdAt K (He.ga K "_law_quire")) ["_law_state_here", "_law_place"] (spD K (F__law_quire K)) := by
  refine ok_def T.F__law_quire sc__law_quire (t__law_quire K) ?_ (fun cdv A outer s H E hr => ?_) (fun ds M Q X ⟨a, b, e, h⟩ => by subst e; exact w__law_quire T h)
  · exact len2
  · have hu := hu_of hr
    exact (pss_one (ps_ret (pe_callB call_lenG (by rfl) T.k_len (by decide +kernel) (pa_cons (pe_lc (own := [("_law_end", 2)]) rfl sc__law_quire.nd (pi_list (pe_dget hu (pv 0) pe_str (fun _ _ => rfl))) (blkOk_by (N := ["_law_state_here", "_law_place", "_law_end"]) (sc := defScope s__law_quire) (by decide +kernel)) (fun _ _ _ _ _ => (pg_name (i := 2) sc__law_quire.nd rfl (by first | exact Or.inl rfl | exact Or.inr rfl))) (fun _ _ _ _ _ => (pts_one (pt_cmpR op_leG (pv 2) (pv 1) (nomark _)))) (fun _ _ _ _ _ => (pv 2))) pa_nil))))
/-! ### _law_drawn -/
theorem sc__law_drawn : FnScope ["_law_deck_here", "_law_state_here", "_law_hand", "_law_free", "_law_loose", "_law_way", "_law_own", "_law_others", "_law_place", "_law_quire_here"] ["_law_deck_here", "_law_state_here"] (defScope s__law_drawn) := ⟨rfl, rfl, rfl, by decide +kernel, rfl, by decide +kernel, by decide +kernel⟩
def t__law_drawn (K : PySem.W.Frag) : TS :=
  (tSeq (tAsg (tLc (iRng1 (tCons (tCB (rLenG K) (tCons (tDGet (tVar 1) (tC (.str "wanted"))) tNil)) tNil)) (gName 2) (tTest (tOp rIsNG (tOp (rIx K) (tDGet (tVar 1) (tC (.str "wanted"))) (tVar 2)) (tC .non))) (tVar 2) [2]) (gName 3))
  (tSeq (tAsg (tLc (iRng1 (tCons (tCB (rLenG K) (tCons (tDGet (tVar 1) (tC (.str "row"))) tNil)) tNil)) (gName 8) (tTest (tOp rIsNG (tOp (rIx K) (tDGet (tVar 1) (tC (.str "holders"))) (tCall (spD K (F__law_quire K)) [] E0 (tCons (tVar 1) (tCons (tVar 8) tNil)))) (tC .non))) (tVar 8) [8]) (gName 4))
  (tSeq (tAsg (tOp rModG (tCall (spD K (F__law_next K)) [] E0 (tCons (tVar 0) tNil)) (tC (.int 8))) (gName 5))
  (tSeq (tIfS (tAnd (tTest (tOp (rNeG K) (tVar 4) (tLst tNil))) (tOr (tTest (tOp (rEqG K) (tVar 5) (tC (.int 0)))) (tTest (tOp (rEqG K) (tVar 3) (tLst tNil))))) (tRet (tTup (tCons (tC (.str "mend")) (tCons (tOp (rIx K) (tVar 4) (tOp rModG (tCall (spD K (F__law_next K)) [] E0 (tCons (tVar 0) tNil)) (tCB (rLenG K) (tCons (tVar 4) tNil)))) (tCons (tCall (spD K (F__law_reading K)) [] E0 (tCons (tVar 0) tNil)) tNil))))) tNext)
  (tSeq (tIfS (tTest (tOp (rEqG K) (tVar 3) (tLst tNil))) (tRet (tC .non)) tNext)
  (tSeq (tAsg (tOp (rIx K) (tVar 3) (tOp rModG (tCall (spD K (F__law_next K)) [] E0 (tCons (tVar 0) tNil)) (tCB (rLenG K) (tCons (tVar 3) tNil)))) (gName 2))
  (tSeq (tAsg (tLc (iRng1 (tCons (tCB (rLenG K) (tCons (tDGet (tVar 1) (tC (.str "ends"))) tNil)) tNil)) (gName 9) (tTest (tOp (rEqG K) (tOp (rIx K) (tDGet (tVar 1) (tC (.str "holders"))) (tVar 9)) (tVar 2))) (tVar 9) [9]) (gName 6))
  (tSeq (tAsg (tLc (iRng1 (tCons (tCB (rLenG K) (tCons (tDGet (tVar 1) (tC (.str "ends"))) tNil)) tNil)) (gName 9) (tTest (tOp (rNeG K) (tOp (rIx K) (tDGet (tVar 1) (tC (.str "holders"))) (tVar 9)) (tVar 2))) (tVar 9) [9]) (gName 7))
  (tSeq (tIfS (tAnd (tTest (tOp (rNeG K) (tVar 6) (tLst tNil))) (tOr (tTest (tOp rLtG (tVar 5) (tDGet (tVar 1) (tC (.str "giving"))))) (tTest (tOp (rEqG K) (tVar 7) (tLst tNil))))) (tRet (tTup (tCons (tC (.str "give")) (tCons (tVar 2) (tCons (tOp (rIx K) (tVar 6) (tOp rModG (tCall (spD K (F__law_next K)) [] E0 (tCons (tVar 0) tNil)) (tCB (rLenG K) (tCons (tVar 6) tNil)))) tNil))))) tNext)
  (tRet (tTup (tCons (tC (.str "ask")) (tCons (tVar 2) (tCons (tOp (rIx K) (tVar 7) (tOp rModG (tCall (spD K (F__law_next K)) [] E0 (tCons (tVar 0) tNil)) (tCB (rLenG K) (tCons (tVar 7) tNil)))) tNil))))))))))))))
def P__law_drawn (K : PySem.W.Frag) (a b : D) (M : Mem) (Q : D → Mem → Prop) : Prop := ∃ (A : WN → Addr) (w : Wd) (t : Nat), a = .ref (A .deck) ∧ b = .ref (A (.s .dict)) ∧ Is K 1000 A w M ∧ Fit w.st t ∧ Q .non M ∧ ∀ d, Legal w.st d → Q (deedD d) M
def F__law_drawn (K : PySem.W.Frag) : Fn := fn2 (P__law_drawn K)
theorem u__law_drawn {K : PySem.W.Frag} {a b : D} {M : Mem} {Q : D → Mem → Prop} {X : Value → List (Str × D) → Mem → Prop} (h : P__law_drawn K a b M Q) : F__law_drawn K [a, b] M Q X := use2 h
theorem w__law_drawn {K : PySem.W.Frag} {mg : Str → Option Value} (T : TT K mg) {a b : D} {M : Mem} {Q : D → Mem → Prop} (h : P__law_drawn K a b M Q) : wS (c0 K) (t__law_drawn K) [some a, some b, none, none, none, none, none, none, none, none] M (Zr Q) := by
  obtain ⟨A, w, t, rfl, rfl, W, F, q0, q⟩ := h
  have hh := F.hol
  have h1 := F.h1
  have n1 := F.n1
  have q1 := F.q1
  unfold t__law_drawn
  wtm_at "go"
  refine wE_lcN (good := fun x => wants w.st x = none) rfl ?_
  wtm_at "go"
  wtm_at "d"
  wtm_at "go"
  refine wC_len (SV.l (LV.n W.want)) ?_
  wtm_at "go"
  refine ⟨by rw [List.length_map]; omega, rfl, fun x hx => ?_, fun free hfree lfree => ?_⟩
  · rw [List.length_map] at hx
    wtm_at "go"
    wtm_at "d"
    wtm_at "go"
    refine wR_ix (SV.l (LV.n W.want)) (at_map (get_wants hx)) ?_
    wtm_at "go"
    rw [isNon_oi]
    exact ⟨rfl, by simp⟩
  rw [List.length_map] at hfree lfree
  wtm_at "go"
  refine wE_lcN (good := fun x => holder w.st (quireAt w.st x) = none) rfl ?_
  wtm_at "go"
  wtm_at "d"
  wtm_at "go"
  refine wC_len (SV.l (LV.n W.row)) ?_
  wtm_at "go"
  refine ⟨by rw [List.length_map]; omega, rfl, fun x hx => ?_, fun loose hloose lloose => ?_⟩
  · rw [List.length_map] at hx
    wtm_at "go"
    wtm_at "d"
    wtm_at "go"
    refine u__law_quire ⟨_, A, w, x, t, rfl, rfl, W, F, ?_⟩
    have hq := quireAt_lt F hx
    refine wR_ix (SV.l (LV.n W.hol)) (at_map (get_holder (by omega))) ?_
    wtm_at "go"
    rw [isNon_oi]
    exact ⟨rfl, by simp⟩
  rw [List.length_map] at hloose lloose
  wtm_at "go"
  refine u__law_next ⟨_, rfl, W.deck, fun way hw0 hw1 => ?_⟩
  wtm_at "go"
  generalize way % 8 = way
  refine vS_ifP (fun z => z = true → loose ≠ []) ?_ (fun z => ?_) fun _ => ?_
  · wtm_at "go"
    refine wR_neNil (k := 0) pln_ints (by decide) ?_
    wtm_at "go"
    refine ndec_ite (fun e => ?_) fun e => ?_
    · have e : loose ≠ [] := by simpa using e
      wtm_at "go"
      refine dec_ite (fun _ => ⟨rfl, fun _ => e⟩) fun _ => ?_
      wtm_at "go"
      refine wR_eqNil (k := 0) pln_ints (by decide) ?_
      wtm_at "go"
      exact ⟨rfl, fun _ => e⟩
    · exact ⟨rfl, fun z => by cases z⟩
  · have hne := z rfl
    wtm_at "go"
    refine u__law_next ⟨_, rfl, W.deck, fun m h0 h1 => ?_⟩
    wtm_at "go"
    refine wR_modI (pick_pos hne) ?_
    obtain ⟨y, hy, e⟩ := pick (m := m) hne
    refine wR_ix (SV.l LV.f) e ?_
    wtm_at "go"
    refine u__law_reading ⟨_, rfl, W.deck, fun z hz => ?_⟩
    wtm_at "go"
    exact ret_eq (q (.mend y z) ⟨((hloose y).mp hy).1, ((hloose y).mp hy).2, hz.2.1⟩)
  wtm_at "go"
  refine wR_eqNil (k := 0) pln_ints (by decide) ?_
  wtm_at "go"
  refine dec_ite (fun _ => ?_) fun hf => ?_
  · wtm_at "go"
    exact ret_eq q0
  have hf : free ≠ [] := by simpa using hf
  wtm_at "go"
  refine u__law_next ⟨_, rfl, W.deck, fun m h0 h1 => ?_⟩
  wtm_at "go"
  refine wR_modI (pick_pos hf) ?_
  obtain ⟨y, hy, e⟩ := pick (m := m) hf
  obtain ⟨y1, y2⟩ := (hfree y).mp hy
  refine wR_ix (SV.l LV.f) e ?_
  wtm_at "go"
  refine wE_lcN (good := fun x => holder w.st x = some y) rfl ?_
  wtm_at "go"
  wtm_at "d"
  wtm_at "go"
  refine ⟨by rw [List.length_map]; omega, rfl, fun x hx => ?_, fun own hown lown => ?_⟩
  · rw [List.length_map] at hx
    wtm_at "go"
    wtm_at "d"
    wtm_at "go"
    refine wR_ix (SV.l (LV.n W.hol)) (at_map (get_holder (by omega))) ?_
    wtm_at "go"
    refine wR_eqOI ?_
    wtm_at "go"
    exact ⟨rfl, by simp⟩
  rw [List.length_map] at hown lown
  wtm_at "go"
  refine wE_lcN (good := fun x => holder w.st x ≠ some y) rfl ?_
  wtm_at "go"
  wtm_at "d"
  wtm_at "go"
  refine ⟨by rw [List.length_map]; omega, rfl, fun x hx => ?_, fun oth hoth loth => ?_⟩
  · rw [List.length_map] at hx
    wtm_at "go"
    wtm_at "d"
    wtm_at "go"
    refine wR_ix (SV.l (LV.n W.hol)) (at_map (get_holder (by omega))) ?_
    wtm_at "go"
    refine wR_neOI ?_
    wtm_at "go"
    exact ⟨rfl, by simp⟩
  rw [List.length_map] at hoth loth
  wtm_at "go"
  refine vS_ifP (fun z => (z = true → own ≠ []) ∧ (z = false → oth ≠ [])) ?_ (fun z => ?_) fun z => ?_
  · wtm_at "go"
    refine wR_neNil (k := 0) pln_ints (by decide) ?_
    wtm_at "go"
    refine ndec_ite (fun e => ?_) fun e => ?_
    · have e : own ≠ [] := by simpa using e
      wtm_at "go"
      wtm_at "d"
      wtm_at "go"
      refine dec_ite (fun _ => ⟨rfl, fun _ => e, fun z => by cases z⟩) fun _ => ?_
      wtm_at "go"
      refine wR_eqNil (k := 0) pln_ints (by decide) ?_
      wtm_at "go"
      exact ⟨rfl, fun _ => e, fun z => by simpa using z⟩
    · have e : own = [] := by simpa using e
      subst e
      refine ⟨rfl, (fun z => by cases z), fun _ e2 => ?_⟩
      subst e2
      have q0 := F.q0
      have a1 := hown 0
      have a2 := hoth 0
      simp only [List.not_mem_nil, false_iff, not_and] at a1 a2
      exact a2 (by omega) (a1 (by omega))
  · have hne := z.1 rfl
    wtm_at "go"
    refine u__law_next ⟨_, rfl, W.deck, fun m h0 h1 => ?_⟩
    wtm_at "go"
    refine wR_modI (pick_pos hne) ?_
    obtain ⟨x, hx, e⟩ := pick (m := m) hne
    obtain ⟨x1, x2⟩ := (hown x).mp hx
    refine wR_ix (SV.l LV.f) e ?_
    wtm_at "go"
    exact ret_eq (q (.give y x) ⟨y1, x1, y2, x2⟩)
  · have hne := z.2 rfl
    wtm_at "go"
    refine u__law_next ⟨_, rfl, W.deck, fun m h0 h1 => ?_⟩
    wtm_at "go"
    refine wR_modI (pick_pos hne) ?_
    obtain ⟨x, hx, e⟩ := pick (m := m) hne
    obtain ⟨x1, x2⟩ := (hoth x).mp hx
    refine wR_ix (SV.l LV.f) e ?_
    wtm_at "go"
    exact ret_eq (q (.ask y x) ⟨y1, x1, y2, x2⟩)
theorem b__law_drawn {K : PySem.W.Frag} {mg : Str → Option Value} (T : TT K mg) : Binds K (fdAt K (He.ga K "_law_drawn")) ["_law_deck_here", "_law_state_here"] [] := FunD.bindsN T.F__law_drawn fun _ _ _ _ _ _ us hl => match us, hl with | [_, _], _ => rfl
theorem ok__law_drawn {P : Program} {w : World} {K : PySem.W.Frag} {mg : Str → Option Value} {base : Heap} (T : TT K mg) : FnOk P w K mg base CX0 4 (He.ga K "_law_drawn") (fdAt K (He.ga K "_law_drawn")) ["_law_deck_here", "_law_state_here"] (spD K (F__law_drawn K)) := by
  refine ok_def T.F__law_drawn sc__law_drawn (t__law_drawn K) ?_ (fun cdv A outer s H E hr => ?_) (fun ds M Q X ⟨a, b, e, h⟩ => by subst e; exact w__law_drawn T h)
  · exact len2
  · have hu := hu_of hr
    exact (pss_cons (ps_setLc (i := 3) (own := [("_law_hand", 2)]) rfl sc__law_drawn.nd rfl rfl (sw_true rfl rfl rfl (by decide +kernel)) (pi_range1 (by rfl) T.k_range (pa_cons (pe_callB call_lenG (by rfl) T.k_len (by decide +kernel) (pa_cons (pe_dget hu (pv 1) pe_str (fun _ _ => rfl)) pa_nil)) pa_nil)) (blkOk_by (N := ["_law_deck_here", "_law_state_here", "_law_hand", "_law_free", "_law_loose", "_law_way", "_law_own", "_law_others", "_law_place", "_law_quire_here"]) (sc := defScope s__law_drawn) (by decide +kernel)) (fun _ _ _ _ _ => (pg_name (i := 2) sc__law_drawn.nd rfl (by first | exact Or.inl rfl | exact Or.inr rfl))) (fun _ _ _ _ _ => (pts_one (pt_cmpR op_isNG (pe_ix ix_seq (pe_dget hu (pv 1) pe_str (fun _ _ => rfl)) (pv 2) (fun _ _ => rfl)) pe_non (nomark _)))) (fun _ _ _ _ _ => (pv 2)))
  (pss_cons (ps_setLc (i := 4) (own := [("_law_place", 8)]) rfl sc__law_drawn.nd rfl rfl (sw_true rfl rfl rfl (by decide +kernel)) (pi_range1 (by rfl) T.k_range (pa_cons (pe_callB call_lenG (by rfl) T.k_len (by decide +kernel) (pa_cons (pe_dget hu (pv 1) pe_str (fun _ _ => rfl)) pa_nil)) pa_nil)) (blkOk_by (N := ["_law_deck_here", "_law_state_here", "_law_hand", "_law_free", "_law_loose", "_law_way", "_law_own", "_law_others", "_law_place", "_law_quire_here"]) (sc := defScope s__law_drawn) (by decide +kernel)) (fun _ _ _ _ _ => (pg_name (i := 8) sc__law_drawn.nd rfl (by first | exact Or.inl rfl | exact Or.inr rfl))) (fun _ _ _ _ _ => (pts_one (pt_cmpR op_isNG (pe_ix ix_seq (pe_dget hu (pv 1) pe_str (fun _ _ => rfl)) (pe_call (ok__law_quire T) (hr.mono (by decide)) (by rfl) T.g__law_quire T.F__law_quire.kp (b__law_quire T) .nil pass0 (pa_cons (pv 1) (pa_cons (pv 8) pa_nil))) (fun _ _ => rfl)) pe_non (nomark _)))) (fun _ _ _ _ _ => (pv 8)))
  (pss_cons (ps_set (i := 5) sc__law_drawn.nd rfl (Or.inl rfl) (pe_op op_modG (pe_call (ok__law_next T) (hr.mono (by decide)) (by rfl) T.g__law_next T.F__law_next.kp (b__law_next T) .nil pass0 (pa_cons (pv 0) pa_nil)) pe_int))
  (pss_cons (ps_if (PW.pt (pw_and (pt_cmpR (op_neG hr.units) (pv 4) (pe_lst pa_nil) (nomark _)) (pw_and1 (PW.pt (pw_or (pt_cmpR (op_eqG hr.units) (pv 5) pe_int (nomark _)) (pw_or1 (pt_cmpR (op_eqG hr.units) (pv 3) (pe_lst pa_nil) (nomark _)))))))) (pss_one (ps_ret (pe_tup (pa_cons pe_str (pa_cons (pe_ix ix_seq (pv 4) (pe_op op_modG (pe_call (ok__law_next T) (hr.mono (by decide)) (by rfl) T.g__law_next T.F__law_next.kp (b__law_next T) .nil pass0 (pa_cons (pv 0) pa_nil)) (pe_callB call_lenG (by rfl) T.k_len (by decide +kernel) (pa_cons (pv 4) pa_nil))) (fun _ _ => rfl)) (pa_cons (pe_call (ok__law_reading T) (hr.mono (by decide)) (by rfl) T.g__law_reading T.F__law_reading.kp (b__law_reading T) .nil pass0 (pa_cons (pv 0) pa_nil)) pa_nil)))))) pss_nil)
  (pss_cons (ps_if (pt_cmpR (op_eqG hr.units) (pv 3) (pe_lst pa_nil) (nomark _)) (pss_one (ps_ret pe_non)) pss_nil)
  (pss_cons (ps_set (i := 2) sc__law_drawn.nd rfl (Or.inr rfl) (pe_ix ix_seq (pv 3) (pe_op op_modG (pe_call (ok__law_next T) (hr.mono (by decide)) (by rfl) T.g__law_next T.F__law_next.kp (b__law_next T) .nil pass0 (pa_cons (pv 0) pa_nil)) (pe_callB call_lenG (by rfl) T.k_len (by decide +kernel) (pa_cons (pv 3) pa_nil))) (fun _ _ => rfl)))
  (pss_cons (ps_setLc (i := 6) (own := [("_law_quire_here", 9)]) rfl sc__law_drawn.nd rfl rfl (sw_true rfl rfl rfl (by decide +kernel)) (pi_range1 (by rfl) T.k_range (pa_cons (pe_callB call_lenG (by rfl) T.k_len (by decide +kernel) (pa_cons (pe_dget hu (pv 1) pe_str (fun _ _ => rfl)) pa_nil)) pa_nil)) (blkOk_by (N := ["_law_deck_here", "_law_state_here", "_law_hand", "_law_free", "_law_loose", "_law_way", "_law_own", "_law_others", "_law_place", "_law_quire_here"]) (sc := defScope s__law_drawn) (by decide +kernel)) (fun _ _ _ _ _ => (pg_name (i := 9) sc__law_drawn.nd rfl (by first | exact Or.inl rfl | exact Or.inr rfl))) (fun _ _ _ _ _ => (pts_one (pt_cmpR (op_eqG hr.units) (pe_ix ix_seq (pe_dget hu (pv 1) pe_str (fun _ _ => rfl)) (pv 9) (fun _ _ => rfl)) (pv 2) (nomark _)))) (fun _ _ _ _ _ => (pv 9)))
  (pss_cons (ps_setLc (i := 7) (own := [("_law_quire_here", 9)]) rfl sc__law_drawn.nd rfl rfl (sw_true rfl rfl rfl (by decide +kernel)) (pi_range1 (by rfl) T.k_range (pa_cons (pe_callB call_lenG (by rfl) T.k_len (by decide +kernel) (pa_cons (pe_dget hu (pv 1) pe_str (fun _ _ => rfl)) pa_nil)) pa_nil)) (blkOk_by (N := ["_law_deck_here", "_law_state_here", "_law_hand", "_law_free", "_law_loose", "_law_way", "_law_own", "_law_others", "_law_place", "_law_quire_here"]) (sc := defScope s__law_drawn) (by decide +kernel)) (fun _ _ _ _ _ => (pg_name (i := 9) sc__law_drawn.nd rfl (by first | exact Or.inl rfl | exact Or.inr rfl))) (fun _ _ _ _ _ => (pts_one (pt_cmpR (op_neG hr.units) (pe_ix ix_seq (pe_dget hu (pv 1) pe_str (fun _ _ => rfl)) (pv 9) (fun _ _ => rfl)) (pv 2) (nomark _)))) (fun _ _ _ _ _ => (pv 9)))
  (pss_cons (ps_if (PW.pt (pw_and (pt_cmpR (op_neG hr.units) (pv 6) (pe_lst pa_nil) (nomark _)) (pw_and1 (PW.pt (pw_or (pt_cmpR op_ltG (pv 5) (pe_dget hu (pv 1) pe_str (fun _ _ => rfl)) (nomark _)) (pw_or1 (pt_cmpR (op_eqG hr.units) (pv 7) (pe_lst pa_nil) (nomark _)))))))) (pss_one (ps_ret (pe_tup (pa_cons pe_str (pa_cons (pv 2) (pa_cons (pe_ix ix_seq (pv 6) (pe_op op_modG (pe_call (ok__law_next T) (hr.mono (by decide)) (by rfl) T.g__law_next T.F__law_next.kp (b__law_next T) .nil pass0 (pa_cons (pv 0) pa_nil)) (pe_callB call_lenG (by rfl) T.k_len (by decide +kernel) (pa_cons (pv 6) pa_nil))) (fun _ _ => rfl)) pa_nil)))))) pss_nil)
  (pss_one (ps_ret (pe_tup (pa_cons pe_str (pa_cons (pv 2) (pa_cons (pe_ix ix_seq (pv 7) (pe_op op_modG (pe_call (ok__law_next T) (hr.mono (by decide)) (by rfl) T.g__law_next T.F__law_next.kp (b__law_next T) .nil pass0 (pa_cons (pv 0) pa_nil)) (pe_callB call_lenG (by rfl) T.k_len (by decide +kernel) (pa_cons (pv 7) pa_nil))) (fun _ _ => rfl)) pa_nil)))))))))))))))
/-! ### _law_given -/
theorem sc__law_given : FnScope ["_law_state_here", "_law_hand", "_law_quire_here", "_law_first", "_law_place", "_law_one"] ["_law_state_here", "_law_hand", "_law_quire_here"] (defScope s__law_given) := ⟨rfl, rfl, rfl, by decide +kernel, rfl, by decide +kernel, by decide +kernel⟩
def t__law_given (K : PySem.W.Frag) : TS :=
  (tSeq (tAsg (tOp (rIx K) (tOp (rAddG K) (tLst (tCons (tC (.int 0)) tNil)) (tDGet (tVar 0) (tC (.str "ends")))) (tVar 2)) (gName 3))
  (tSeq (tFor (iRng2 (tCons (tVar 3) (tCons (tOp (rIx K) (tDGet (tVar 0) (tC (.str "ends"))) (tVar 2)) tNil))) (gName 4) (tAsg (tOp (rIx K) (tDGet (tVar 0) (tC (.str "row"))) (tVar 4)) (gSub (tOp (rIx K) (tDGet (tVar 0) (tC (.str "copies"))) (tVar 1)) (tVar 4) rSetL)))
  (tSeq (tAsg (tC .non) (gSub (tDGet (tVar 0) (tC (.str "holders"))) (tVar 2) rSetL))
  (tSeq (tIfS (tTest (tOp (rEqG K) (tOp (rIx K) (tDGet (tVar 0) (tC (.str "lines"))) (tVar 2)) (tLst tNil))) (tRet (tC .non)) tNext)
  (tSeq (tAsg (tBM K "list" rPopAt (tOp (rIx K) (tDGet (tVar 0) (tC (.str "lines"))) (tVar 2)) (tCons (tC (.int 0)) tNil)) (gName 5))
  (tSeq (tAsg (tVar 5) (gSub (tDGet (tVar 0) (tC (.str "holders"))) (tVar 2) rSetL))
  (tSeq (tAsg (tC .non) (gSub (tDGet (tVar 0) (tC (.str "wanted"))) (tVar 5) rSetL))
  (tRet (tVar 5)))))))))
def P__law_given (K : PySem.W.Frag) (a b c : D) (M : Mem) (Q : D → Mem → Prop) : Prop := ∃ (n : Int) (A : WN → Addr) (w : Wd) (i j t : Nat), a = .ref (A (.s .dict)) ∧ b = .int i ∧ c = .int j ∧ Is K n A w M ∧ Fit w.st t ∧ t ≤ 1000 ∧ Legal w.st (.give i j) ∧ ∀ M', Is K n A { w with st := given w.st i j } M' → Q (ans w.st (.give i j)) M'
def F__law_given (K : PySem.W.Frag) : Fn := fn3 (P__law_given K)
theorem u__law_given {K : PySem.W.Frag} {a b c : D} {M : Mem} {Q : D → Mem → Prop} {X : Value → List (Str × D) → Mem → Prop} (h : P__law_given K a b c M Q) : F__law_given K [a, b, c] M Q X := use3 h
theorem w__law_given {K : PySem.W.Frag} {mg : Str → Option Value} (T : TT K mg) {a b c : D} {M : Mem} {Q : D → Mem → Prop} (h : P__law_given K a b c M Q) : wS (c0 K) (t__law_given K) [some a, some b, some c, none, none, none] M (Zr Q) := by
  obtain ⟨n, A, w, i, j, t, rfl, rfl, rfl, W, F, ht, ⟨l1, l2, l3, l4⟩, q⟩ := h
  have hl := F.lines
  have hh := F.hol
  have hc := F.cps
  have n1 := F.n1
  have q1 := F.q1
  unfold t__law_given
  wtm_at "go"
  wtm_at "d"
  refine wR_addL LV.f LV.f (by rw [List.length_map]; simp; omega) ?_
  wtm_at "go"
  have e0 : [D.int 0] ++ w.st.ends.map dN = (0 :: w.st.ends).map dN := rfl
  rw [e0]
  obtain ⟨b0, b1⟩ := begin_le F l2
  have eb : (0 :: w.st.ends)[j]? = some (begin_ w.st j) := by
    unfold begin_ begins
    rw [List.getElem?_eq_getElem (show j < (0 :: w.st.ends).length by simp; omega)]
    rfl
  refine wR_ix (SV.l LV.f) (at_map eb) ?_
  wtm_at "go"
  refine vS_for (wI_rng2 ?_)
  wtm_at "go"
  wtm_at "d"
  wtm_at "go"
  refine wR_ix (SV.l LV.f) (at_map (get_end l2)) ?_
  wtm_at "go"
  refine ⟨_, _, rfl, by omega, fun m Γ' M' => (∃ g h : Option D, Γ' = [some (.ref (A (.s .dict))), some (.int i), some (.int j), some (dN (begin_ w.st j)), g, h]) ∧ Is K n A { w with st := { w.st with cps := w.st.cps.set i (over w.st.row (ST.copy w.st i) (begin_ w.st j) (begin_ w.st j + m)) } } M', ⟨⟨_, _, rfl⟩, ?_⟩, ?_, ?_⟩
  · rw [over_none (show begin_ w.st j + 0 ≤ begin_ w.st j by omega)]
    have e : w.st.cps.set i (ST.copy w.st i) = w.st.cps := by
      unfold ST.copy
      rw [List.getElem?_eq_getElem (show i < w.st.cps.length by omega)]
      exact List.set_getElem_self _
    rw [e]
    exact W
  · rintro m d Γ' M' hm ⟨⟨g, h, rfl⟩, W2⟩
    obtain ⟨hm1, rfl⟩ := rngD_get hm
    have hm2 : begin_ w.st j + m < end_ w.st j := by omega
    have hm3 : begin_ w.st j + m < w.st.row.length := by omega
    obtain ⟨z, hz⟩ : ∃ z, w.st.row[begin_ w.st j + m]? = some z := ⟨_, List.getElem?_eq_getElem hm3⟩
    have ez : ((begin_ w.st j : Int) + (m : Int)) = ((begin_ w.st j + m : Nat) : Int) := by omega
    have hci : i < (w.st.cps.set i (over w.st.row (ST.copy w.st i) (begin_ w.st j) (begin_ w.st j + m))).length := by rw [List.length_set]; omega
    wtm_at "go"
    wtm_at "d"
    wtm_at "go"
    rw [ez]
    refine wR_ix (SV.l (LV.n W2.row)) (at_map hz) ?_
    wtm_at "go"
    wtm_at "d"
    wtm_at "go"
    refine wR_ix (SV.l LV.f) (at_range hci) ?_
    refine ⟨_, _, rfl, W2.copy hci, ?_⟩
    wtm_at "go"
    have hcl : begin_ w.st j + m < (ST.copy w.st i).length := by rw [F.cp _ (copy_mem (by omega))]; exact hm3
    have ec : ST.copy { w.st with cps := w.st.cps.set i (over w.st.row (ST.copy w.st i) (begin_ w.st j) (begin_ w.st j + m)) } i = over w.st.row (ST.copy w.st i) (begin_ w.st j) (begin_ w.st j + m) := by
      unfold ST.copy
      show (w.st.cps.set i _)[i]?.getD [] = _
      rw [List.getElem?_set_self (by omega)]
      rfl
    refine ⟨_, begin_ w.st j + m, rfl, W2.copy hci, ix_nat (by rw [List.length_map, ec, over_len]; exact hcl), ⟨_, _, rfl⟩, ?_⟩
    have W3 := W2.sCopy (q := i) (l := over w.st.row (ST.copy w.st i) (begin_ w.st j) (begin_ w.st j + m + 1)) hci
    simp only [List.set_set] at W3
    have e3 : ((over w.st.row (ST.copy w.st i) (begin_ w.st j) (begin_ w.st j + m)).map ST.os).set (begin_ w.st j + m) (.str z) = (over w.st.row (ST.copy w.st i) (begin_ w.st j) (begin_ w.st j + m + 1)).map ST.os := by
      rw [← over_step hz, List.map_set]; rfl
    rw [ec, e3]
    exact W3
  · rintro Γ' M' ⟨⟨g, h, rfl⟩, W2⟩
    rw [rngD_len] at W2
    have e1 : begin_ w.st j + ((end_ w.st j : Int) - (begin_ w.st j : Int)).toNat = end_ w.st j := by omega
    rw [e1] at W2
    change Is K n A { w with st := copied w.st i j } M' at W2
    wtm_at "go"
    refine ⟨_, _, _, _, rfl, rfl, W2.dict, val_holders, ?_⟩
    refine ⟨_, _, rfl, W2.hol, ?_⟩
    wtm_at "go"
    refine ⟨_, j, rfl, W2.hol, ix_nat (by rw [List.length_map]; show j < w.st.hol.length; omega), ?_⟩
    have W3 := W2.sHol (q := j) (x := none)
    have lj3 : j < ({ copied w.st i j with hol := (copied w.st i j).hol.set j none } : ST.St).lines.length := by show j < w.st.lines.length; omega
    wtm_at "go"
    refine ⟨_, _, _, _, rfl, rfl, W3.dict, val_lines, ?_⟩
    wtm_at "go"
    refine wR_ix (SV.l LV.f) (at_range l2) ?_
    wtm_at "go"
    have hl3 : mset M' (A (.s .hol)) (.lst (((copied w.st i j).hol.map oi).set j .non)) (A (.s (.line j))) = some (.lst ((line w.st j).map dN)) := W3.line lj3
    refine wR_frz (Froz.lst hl3 (FrozAll.same _)) (Froz.same _) (wR_eqNil (k := 0) pln_ints (by decide) ⟨trivial, ?_⟩)
    have q3 : ∀ M', Is K n A { w with st := given w.st i j } M' → Q (oi (line w.st j).head?) M' := q
    wtm_at "go"
    refine dec_ite (fun e => ?_) fun e => ?_
    · have er : line w.st j = [] := by simpa using e
      rw [er] at q3
      wtm_at "go"
      have fin : given w.st i j = { copied w.st i j with hol := w.st.hol.set j none } := by unfold given; rw [er]
      rw [fin] at q3
      exact ret_eq (q3 _ W3)
    · obtain ⟨o, r, er⟩ : ∃ o r, line w.st j = o :: r := by
        cases z : line w.st j with
        | nil => rw [z] at e; exact absurd rfl e
        | cons o r => exact ⟨o, r, rfl⟩
      have fin : given w.st i j = { copied w.st i j with hol := w.st.hol.set j (some o), lines := w.st.lines.set j r, want := w.st.want.set o none } := by unfold given; rw [er]
      rw [fin] at q3
      rw [er] at hl3 q3
      wtm_at "go"
      refine wE_popAt (a := A (.s (.line j))) (wE_op (wE_dgetS (wE_var rfl (wE_str ⟨_, _, _, _, rfl, rfl, W3.dict, val_lines, wE_var rfl (wR_ix (SV.l LV.f) (at_range l2) ⟨rfl, rfl⟩)⟩)))) hl3 ?_
      wtm_at "go"
      have lm := (F.line _ (line_mem (s := w.st) (q := j) (by omega)))
      rw [er] at lm
      refine ⟨0, .int o, rfl, hl3, rfl, by simp at lm ⊢; omega, ?_⟩
      have W4 := W3.sLine (q := j) (l := r) lj3
      wtm_at "go"
      refine ⟨_, _, _, _, rfl, rfl, W4.dict, val_holders, ?_⟩
      refine ⟨_, _, rfl, W4.hol, ?_⟩
      wtm_at "go"
      refine ⟨_, j, rfl, W4.hol, ix_nat (by rw [List.length_map]; show j < (w.st.hol.set j none).length; rw [List.length_set]; omega), ?_⟩
      have W5 := W4.sHol (q := j) (x := some o)
      simp only [List.set_set] at W5
      wtm_at "go"
      refine ⟨_, _, _, _, rfl, rfl, W5.dict, val_wanted, ?_⟩
      refine ⟨_, _, rfl, W5.want, ?_⟩
      wtm_at "go"
      have lo : o < w.st.want.length := lm.2 o (by simp)
      refine ⟨_, o, rfl, W5.want, ix_nat (by rw [List.length_map]; exact lo), ?_⟩
      have W6 := W5.sWant (q := o) (x := none)
      wtm_at "go"
      exact ret_eq (q3 _ W6)
theorem b__law_given {K : PySem.W.Frag} {mg : Str → Option Value} (T : TT K mg) : Binds K (fdAt K (He.ga K "_law_given")) ["_law_state_here", "_law_hand", "_law_quire_here"] [] := FunD.bindsN T.F__law_given fun _ _ _ _ _ _ us hl => match us, hl with | [_, _, _], _ => rfl
theorem ok__law_given {P : Program} {w : World} {K : PySem.W.Frag} {mg : Str → Option Value} {base : Heap} (T : TT K mg) : FnOk P w K mg base CX0 1 (He.ga K "_law_given") (fdAt K (He.ga K "_law_given")) ["_law_state_here", "_law_hand", "_law_quire_here"] (spD K (F__law_given K)) := by
  refine ok_def T.F__law_given sc__law_given (t__law_given K) ?_ (fun cdv A outer s H E hr => ?_) (fun ds M Q X ⟨a, b, c, e, h⟩ => by subst e; exact w__law_given T h)
  · exact len3
  · have hu := hu_of hr
    exact (pss_cons (ps_set (i := 3) sc__law_given.nd rfl (Or.inl rfl) (pe_ix ix_seq (pe_op op_addG (pe_lst (pa_cons pe_int pa_nil)) (pe_dget hu (pv 0) pe_str (fun _ _ => rfl))) (pv 2) (fun _ _ => rfl)))
  (pss_cons (ps_for PassesOwn.never rfl (pi_range2 (by rfl) T.k_range (pa_cons (pv 3) (pa_cons (pe_ix ix_seq (pe_dget hu (pv 0) pe_str (fun _ _ => rfl)) (pv 2) (fun _ _ => rfl)) pa_nil))) (pg_name (i := 4) sc__law_given.nd rfl (Or.inl rfl)) (pss_one (ps_asg (pe_ix ix_seq (pe_dget hu (pv 0) pe_str (fun _ _ => rfl)) (pv 4) (fun _ _ => rfl)) (pg_sub (pe_ix ix_seq (pe_dget hu (pv 0) pe_str (fun _ _ => rfl)) (pv 1) (fun _ _ => rfl)) (pv 4) set_list))))
  (pss_cons (ps_asg pe_non (pg_sub (pe_dget hu (pv 0) pe_str (fun _ _ => rfl)) (pv 2) set_list))
  (pss_cons (ps_if (pt_cmpR (op_eqG hr.units) (pe_ix ix_seq (pe_dget hu (pv 0) pe_str (fun _ _ => rfl)) (pv 2) (fun _ _ => rfl)) (pe_lst pa_nil) (nomark _)) (pss_one (ps_ret pe_non)) pss_nil)
  (pss_cons (ps_set (i := 5) sc__law_given.nd rfl (Or.inl rfl) (pe_bm PySem.F.plainAttrs_list PySem.F.slot_list_pop PySem.F.type_list_pop mt_popAt (pe_ix ix_seq (pe_dget hu (pv 0) pe_str (fun _ _ => rfl)) (pv 2) (fun _ _ => rfl)) (pa_cons pe_int pa_nil)))
  (pss_cons (ps_asg (pv 5) (pg_sub (pe_dget hu (pv 0) pe_str (fun _ _ => rfl)) (pv 2) set_list))
  (pss_cons (ps_asg pe_non (pg_sub (pe_dget hu (pv 0) pe_str (fun _ _ => rfl)) (pv 5) set_list))
  (pss_one (ps_ret (pv 5))))))))))
/-! ### _law_asked -/
theorem sc__law_asked : FnScope ["_law_state_here", "_law_hand", "_law_quire_here"] ["_law_state_here", "_law_hand", "_law_quire_here"] (defScope s__law_asked) := ⟨rfl, rfl, rfl, by decide +kernel, rfl, by decide +kernel, by decide +kernel⟩
def t__law_asked (K : PySem.W.Frag) : TS :=
  (tSeq (tIfS (tTest (tOp rIsNG (tOp (rIx K) (tDGet (tVar 0) (tC (.str "holders"))) (tVar 2)) (tC .non))) (tSeq (tAsg (tVar 1) (gSub (tDGet (tVar 0) (tC (.str "holders"))) (tVar 2) rSetL))
  (tRet (tC (.str "held")))) tNext)
  (tSeq (tDrop (tBM K "list" rAppend (tOp (rIx K) (tDGet (tVar 0) (tC (.str "lines"))) (tVar 2)) (tCons (tVar 1) tNil)))
  (tSeq (tAsg (tVar 2) (gSub (tDGet (tVar 0) (tC (.str "wanted"))) (tVar 1) rSetL))
  (tRet (tC (.str "waits"))))))
def P__law_asked (K : PySem.W.Frag) (a b c : D) (M : Mem) (Q : D → Mem → Prop) : Prop := ∃ (n : Int) (A : WN → Addr) (w : Wd) (i j t : Nat), a = .ref (A (.s .dict)) ∧ b = .int i ∧ c = .int j ∧ Is K n A w M ∧ Fit w.st t ∧ t ≤ 1000 ∧ Legal w.st (.ask i j) ∧ ∀ M', Is K n A { w with st := asked w.st i j } M' → Q (ans w.st (.ask i j)) M'
def F__law_asked (K : PySem.W.Frag) : Fn := fn3 (P__law_asked K)
theorem u__law_asked {K : PySem.W.Frag} {a b c : D} {M : Mem} {Q : D → Mem → Prop} {X : Value → List (Str × D) → Mem → Prop} (h : P__law_asked K a b c M Q) : F__law_asked K [a, b, c] M Q X := use3 h
theorem w__law_asked {K : PySem.W.Frag} {mg : Str → Option Value} (T : TT K mg) {a b c : D} {M : Mem} {Q : D → Mem → Prop} (h : P__law_asked K a b c M Q) : wS (c0 K) (t__law_asked K) [some a, some b, some c] M (Zr Q) := by
  obtain ⟨n, A, w, i, j, t, rfl, rfl, rfl, W, F, ht, ⟨l1, l2, l3, l4⟩, q⟩ := h
  have hl := F.lines
  have hh := F.hol
  unfold t__law_asked
  wtm_at "go"
  wtm_at "d"
  wtm_at "go"
  refine wR_ix (SV.l (LV.n W.hol)) (at_map (get_holder (by omega))) ?_
  wtm_at "go"
  rw [isNon_oi]
  refine dec_ite (fun e => ?_) fun e => ?_
  · wtm_at "go"
    wtm_at "d"
    refine ⟨_, _, rfl, W.hol, ?_⟩
    wtm_at "go"
    refine ⟨_, j, rfl, W.hol, ix_nat (by rw [List.length_map]; omega), ?_⟩
    wtm_at "go"
    have W2 := W.sHol (q := j) (x := some i)
    have q2 := q _ (by unfold asked; rw [if_pos e]; exact W2)
    simp only [ans, if_pos e] at q2
    exact ret_eq q2
  · wtm_at "go"
    have lm := F.line _ (line_mem (s := w.st) (q := j) (by omega))
    refine wE_app (a := A (.s (.line j))) (wE_op (wE_dgetS (wE_var rfl (wE_str ⟨_, _, _, _, rfl, rfl, W.dict, val_lines, wE_var rfl (wR_ix (SV.l LV.f) (at_range l2) ⟨rfl, rfl⟩)⟩)))) (W.line (by omega)) ?_
    wtm_at "go"
    refine ⟨W.line (by omega), (by rw [List.length_map]; omega), ?_⟩
    have e1 : (line w.st j).map dN ++ [D.int (i : Int)] = (line w.st j ++ [i]).map dN := by rw [List.map_append]; rfl
    rw [e1]
    have W2 := W.sLine (l := line w.st j ++ [i]) (q := j) (by omega)
    wtm_at "go"
    refine ⟨_, _, _, _, rfl, rfl, W2.dict, val_wanted, ?_⟩
    refine ⟨_, _, rfl, W2.want, ?_⟩
    wtm_at "go"
    refine ⟨_, i, rfl, W2.want, ix_nat (by rw [List.length_map]; exact l1), ?_⟩
    wtm_at "go"
    have W3 := W2.sWant (q := i) (x := some j)
    have q2 := q _ (by unfold asked; rw [if_neg e]; exact W3)
    simp only [ans, if_neg e] at q2
    exact ret_eq q2
theorem b__law_asked {K : PySem.W.Frag} {mg : Str → Option Value} (T : TT K mg) : Binds K (fdAt K (He.ga K "_law_asked")) ["_law_state_here", "_law_hand", "_law_quire_here"] [] := FunD.bindsN T.F__law_asked fun _ _ _ _ _ _ us hl => match us, hl with | [_, _, _], _ => rfl
theorem ok__law_asked {P : Program} {w : World} {K : PySem.W.Frag} {mg : Str → Option Value} {base : Heap} (T : TT K mg) : FnOk P w K mg base CX0 1 (He.ga K "_law_asked") (fdAt K (He.ga K "_law_asked")) ["_law_state_here", "_law_hand", "_law_quire_here"] (spD K (F__law_asked K)) := by
  refine ok_def T.F__law_asked sc__law_asked (t__law_asked K) ?_ (fun cdv A outer s H E hr => ?_) (fun ds M Q X ⟨a, b, c, e, h⟩ => by subst e; exact w__law_asked T h)
  · exact len3
  · have hu := hu_of hr
    exact (pss_cons (ps_if (pt_cmpR op_isNG (pe_ix ix_seq (pe_dget hu (pv 0) pe_str (fun _ _ => rfl)) (pv 2) (fun _ _ => rfl)) pe_non (nomark _)) (pss_cons (ps_asg (pv 1) (pg_sub (pe_dget hu (pv 0) pe_str (fun _ _ => rfl)) (pv 2) set_list))
  (pss_one (ps_ret pe_str))) pss_nil)
  (pss_cons (ps_expr (pe_bm PySem.F.plainAttrs_list PySem.F.slot_list_append PySem.F.type_list_append mt_append (pe_ix ix_seq (pe_dget hu (pv 0) pe_str (fun _ _ => rfl)) (pv 2) (fun _ _ => rfl)) (pa_cons (pv 1) pa_nil)))
  (pss_cons (ps_asg (pv 2) (pg_sub (pe_dget hu (pv 0) pe_str (fun _ _ => rfl)) (pv 1) set_list))
  (pss_one (ps_ret pe_str)))))
/-! ### _law_due -/
theorem sc__law_due : FnScope ["_law_state_here", "_law_deed"] ["_law_state_here", "_law_deed"] (defScope s__law_due) := ⟨rfl, rfl, rfl, by decide +kernel, rfl, by decide +kernel, by decide +kernel⟩
def t__law_due (K : PySem.W.Frag) : TS :=
  (tSeq (tIfS (tTest (tOp (rEqG K) (tOp (rIx K) (tVar 1) (tC (.int 0))) (tC (.str "mend")))) (tSeq (tAsg (tOp (rIx K) (tVar 1) (tC (.int 2))) (gSub (tDGet (tVar 0) (tC (.str "row"))) (tOp (rIx K) (tVar 1) (tC (.int 1))) rSetL))
  (tRet (tC .non))) tNext)
  (tSeq (tIfS (tTest (tOp (rEqG K) (tOp (rIx K) (tVar 1) (tC (.int 0))) (tC (.str "give")))) (tRet (tCall (spD K (F__law_given K)) [] E0 (tCons (tVar 0) (tCons (tOp (rIx K) (tVar 1) (tC (.int 1))) (tCons (tOp (rIx K) (tVar 1) (tC (.int 2))) tNil))))) tNext)
  (tRet (tCall (spD K (F__law_asked K)) [] E0 (tCons (tVar 0) (tCons (tOp (rIx K) (tVar 1) (tC (.int 1))) (tCons (tOp (rIx K) (tVar 1) (tC (.int 2))) tNil)))))))
def P__law_due (K : PySem.W.Frag) (a b : D) (M : Mem) (Q : D → Mem → Prop) : Prop := ∃ (n : Int) (A : WN → Addr) (w : Wd) (d : Deed) (t : Nat), a = .ref (A (.s .dict)) ∧ b = deedD d ∧ Is K n A w M ∧ Fit w.st t ∧ t ≤ 1000 ∧ Legal w.st d ∧ ∀ M', Is K n A { w with st := did w.st d } M' → Q (ans w.st d) M'
def F__law_due (K : PySem.W.Frag) : Fn := fn2 (P__law_due K)
theorem u__law_due {K : PySem.W.Frag} {a b : D} {M : Mem} {Q : D → Mem → Prop} {X : Value → List (Str × D) → Mem → Prop} (h : P__law_due K a b M Q) : F__law_due K [a, b] M Q X := use2 h
theorem w__law_due {K : PySem.W.Frag} {mg : Str → Option Value} (T : TT K mg) {a b : D} {M : Mem} {Q : D → Mem → Prop} (h : P__law_due K a b M Q) : wS (c0 K) (t__law_due K) [some a, some b] M (Zr Q) := by
  obtain ⟨n, A, w, d, t, rfl, rfl, W, F, ht, L, q⟩ := h
  unfold t__law_due
  cases d with
  | mend p z =>
    simp only [deedD]
    wtm_at "go"
    wtm_at "d"
    refine ⟨_, _, rfl, W.row, ?_⟩
    wtm_at "go"
    refine ⟨_, p, rfl, W.row, ix_nat (by rw [List.length_map]; exact L.1), ?_⟩
    wtm_at "go"
    exact ret_eq (q _ W.sRow)
  | give i j =>
    simp only [deedD]
    wtm_at "go"
    refine diff_ite (by decide) ?_
    wtm_at "go"
    exact u__law_given ⟨n, A, w, i, j, t, rfl, rfl, rfl, W, F, ht, L, fun M' W' => ret_eq (q M' W')⟩
  | ask i j =>
    simp only [deedD]
    wtm_at "go"
    refine diff_ite (by decide) ?_
    wtm_at "go"
    refine diff_ite (by decide) ?_
    wtm_at "go"
    exact u__law_asked ⟨n, A, w, i, j, t, rfl, rfl, rfl, W, F, ht, L, fun M' W' => ret_eq (q M' W')⟩
theorem b__law_due {K : PySem.W.Frag} {mg : Str → Option Value} (T : TT K mg) : Binds K (fdAt K (He.ga K "_law_due")) ["_law_state_here", "_law_deed"] [] := FunD.bindsN T.F__law_due fun _ _ _ _ _ _ us hl => match us, hl with | [_, _], _ => rfl
theorem ok__law_due {P : Program} {w : World} {K : PySem.W.Frag} {mg : Str → Option Value} {base : Heap} (T : TT K mg) : FnOk P w K mg base CX0 2 (He.ga K "_law_due") (fdAt K (He.ga K "_law_due")) ["_law_state_here", "_law_deed"] (spD K (F__law_due K)) := by
  refine ok_def T.F__law_due sc__law_due (t__law_due K) ?_ (fun cdv A outer s H E hr => ?_) (fun ds M Q X ⟨a, b, e, h⟩ => by subst e; exact w__law_due T h)
  · exact len2
  · have hu := hu_of hr
    exact (pss_cons (ps_if (pt_cmpR (op_eqG hr.units) (pe_ix ix_seq (pv 1) pe_int (fun _ _ => rfl)) pe_str (nomark _)) (pss_cons (ps_asg (pe_ix ix_seq (pv 1) pe_int (fun _ _ => rfl)) (pg_sub (pe_dget hu (pv 0) pe_str (fun _ _ => rfl)) (pe_ix ix_seq (pv 1) pe_int (fun _ _ => rfl)) set_list))
  (pss_one (ps_ret pe_non))) pss_nil)
  (pss_cons (ps_if (pt_cmpR (op_eqG hr.units) (pe_ix ix_seq (pv 1) pe_int (fun _ _ => rfl)) pe_str (nomark _)) (pss_one (ps_ret (pe_call (ok__law_given T) (hr.mono (by decide)) (by rfl) T.g__law_given T.F__law_given.kp (b__law_given T) .nil pass0 (pa_cons (pv 0) (pa_cons (pe_ix ix_seq (pv 1) pe_int (fun _ _ => rfl)) (pa_cons (pe_ix ix_seq (pv 1) pe_int (fun _ _ => rfl)) pa_nil)))))) pss_nil)
  (pss_one (ps_ret (pe_call (ok__law_asked T) (hr.mono (by decide)) (by rfl) T.g__law_asked T.F__law_asked.kp (b__law_asked T) .nil pass0 (pa_cons (pv 0) (pa_cons (pe_ix ix_seq (pv 1) pe_int (fun _ _ => rfl)) (pa_cons (pe_ix ix_seq (pv 1) pe_int (fun _ _ => rfl)) pa_nil))))))))
/-! ### is_number -/
theorem sc_is_number : FnScope ["thing"] ["thing"] (defScope s_is_number) := ⟨rfl, rfl, rfl, by decide +kernel, rfl, by decide +kernel, by decide +kernel⟩
def t_is_number (K : PySem.W.Frag) : TS :=
  (tRet (tAndV (tCB (rIsi K) (tCons (tVar 0) (tCons (tC (.ty "int")) tNil))) (tNotV (tCB (rIsi K) (tCons (tVar 0) (tCons (tC (.ty "bool")) tNil))))))
def P_is_number (K : PySem.W.Frag) (a : D) (M : Mem) (Q : D → Mem → Prop) : Prop := ∃ i : Int, a = .int i ∧ Q (.bl true) M
def F_is_number (K : PySem.W.Frag) : Fn := fn1 (P_is_number K)
theorem u_is_number {K : PySem.W.Frag} {a : D} {M : Mem} {Q : D → Mem → Prop} {X : Value → List (Str × D) → Mem → Prop} (h : P_is_number K a M Q) : F_is_number K [a] M Q X := use1 h
theorem w_is_number {K : PySem.W.Frag} {mg : Str → Option Value} (T : TT K mg) {a : D} {M : Mem} {Q : D → Mem → Prop} (h : P_is_number K a M Q) : wS (c0 K) (t_is_number K) [some a] M (Zr Q) := by
  obtain ⟨i, rfl, q⟩ := h
  unfold t_is_number
  wtm_at "go"
  exact ret_eq q
theorem b_is_number {K : PySem.W.Frag} {mg : Str → Option Value} (T : TT K mg) : Binds K (fdAt K (He.ga K "is_number")) ["thing"] [] := FunD.bindsN T.F_is_number fun _ _ _ _ _ _ us hl => match us, hl with | [_], _ => rfl
theorem ok_is_number {P : Program} {w : World} {K : PySem.W.Frag} {mg : Str → Option Value} {base : Heap} (T : TT K mg) : FnOk P w K mg base CX0 1 (He.ga K "is_number") (fdAt K (He.ga K "is_number")) ["thing"] (spD K (F_is_number K)) := by
  refine ok_def T.F_is_number sc_is_number (t_is_number K) ?_ (fun cdv A outer s H E hr => ?_) (fun ds M Q X ⟨a, e, h⟩ => by subst e; exact w_is_number T h)
  · exact len1
  · have hu := hu_of hr
    exact (pss_one (ps_ret (pe_and (pe_callB call_isi (by rfl) T.k_isinstance (by decide +kernel) (pa_cons (pv 0) (pa_cons (pe_bltn (v := .ty "int") (by rfl) T.k_int boot_int rfl) pa_nil))) (pe_one (pe_not (pe_callB call_isi (by rfl) T.k_isinstance (by decide +kernel) (pa_cons (pv 0) (pa_cons (pe_bltn (v := .ty "bool") (by rfl) T.k_bool boot_bool rfl) pa_nil))))))))
/-! ### is_within -/
theorem sc_is_within : FnScope ["thing", "least", "most"] ["thing", "least", "most"] (defScope s_is_within) := ⟨rfl, rfl, rfl, by decide +kernel, rfl, by decide +kernel, by decide +kernel⟩
def t_is_within (K : PySem.W.Frag) : TS :=
  (tRet (tAndV (tCall (spD K (F_is_number K)) [] E0 (tCons (tVar 0) tNil)) (tChain rLeG rLeG (tVar 1) (tVar 0) (tVar 2))))
def P_is_within (K : PySem.W.Frag) (a b c : D) (M : Mem) (Q : D → Mem → Prop) : Prop := ∃ i lo hi : Int, a = .int i ∧ b = .int lo ∧ c = .int hi ∧ Q (.bl (decide (lo ≤ i ∧ i ≤ hi))) M
def F_is_within (K : PySem.W.Frag) : Fn := fn3 (P_is_within K)
theorem u_is_within {K : PySem.W.Frag} {a b c : D} {M : Mem} {Q : D → Mem → Prop} {X : Value → List (Str × D) → Mem → Prop} (h : P_is_within K a b c M Q) : F_is_within K [a, b, c] M Q X := use3 h
theorem w_is_within {K : PySem.W.Frag} {mg : Str → Option Value} (T : TT K mg) {a b c : D} {M : Mem} {Q : D → Mem → Prop} (h : P_is_within K a b c M Q) : wS (c0 K) (t_is_within K) [some a, some b, some c] M (Zr Q) := by
  obtain ⟨i, lo, hi, rfl, rfl, rfl, q⟩ := h
  unfold t_is_within
  wtm_at "go"
  refine u_is_number ⟨i, rfl, ?_⟩
  wtm_at "go"
  refine dec_ite (fun e1 => ?_) fun e1 => ?_
  · wtm_at "go"
    refine ret_eq ?_
    have : decide (lo ≤ i ∧ i ≤ hi) = decide (i ≤ hi) := by simp [e1]
    rw [← this]
    exact q
  · refine ret_eq ?_
    have : decide (lo ≤ i ∧ i ≤ hi) = false := by simp [e1]
    rw [← this]
    exact q
theorem b_is_within {K : PySem.W.Frag} {mg : Str → Option Value} (T : TT K mg) : Binds K (fdAt K (He.ga K "is_within")) ["thing", "least", "most"] [] := FunD.bindsN T.F_is_within fun _ _ _ _ _ _ us hl => match us, hl with | [_, _, _], _ => rfl
theorem ok_is_within {P : Program} {w : World} {K : PySem.W.Frag} {mg : Str → Option Value} {base : Heap} (T : TT K mg) : FnOk P w K mg base CX0 2 (He.ga K "is_within") (fdAt K (He.ga K "is_within")) ["thing", "least", "most"] (spD K (F_is_within K)) := by
  refine ok_def T.F_is_within sc_is_within (t_is_within K) ?_ (fun cdv A outer s H E hr => ?_) (fun ds M Q X ⟨a, b, c, e, h⟩ => by subst e; exact w_is_within T h)
  · exact len3
  · have hu := hu_of hr
    exact (pss_one (ps_ret (pe_and (pe_call (ok_is_number T) (hr.mono (by decide)) (by rfl) T.g_is_number T.F_is_number.kp (b_is_number T) .nil pass0 (pa_cons (pv 0) pa_nil)) (pe_one (pe_chain op_leG op_leG (pv 1) (pv 0) (pv 2))))))
/-! ### Stall.quire_at -/
theorem sc_Stall_quire_at : FnScope ["self", "place", "quire"] ["self", "place"] (defScope s_Stall_quire_at) := ⟨rfl, rfl, rfl, by decide +kernel, rfl, by decide +kernel, by decide +kernel⟩
def t_Stall_quire_at (K : PySem.W.Frag) : TS :=
  (tSeq (tFor (iList K (tSl (rSlG K) (tFld K (tVar 0) "quires") tNoPart (tPart (tUn (rU fun i => .int (-i)) (tC (.int 1)))))) (gName 2) (tIfS (tTest (tOp rLtG (tVar 1) (tFld K (tVar 2) "end"))) (tRet (tVar 2)) tNext))
  (tRet (tOp (rIx K) (tFld K (tVar 0) "quires") (tUn (rU fun i => .int (-i)) (tC (.int 1))))))
def P_Stall_quire_at (K : PySem.W.Frag) (a b : D) (M : Mem) (Q : D → Mem → Prop) : Prop := ∃ (n : Int) (A : WN → Addr) (w : Wd) (k : Nat) (s : ST.St) (p t : Nat), a = .ref (A (.t k .self)) ∧ b = .int p ∧ Is K n A w M ∧ w.ts k = some s ∧ Fit s t ∧ p < s.row.length ∧ Q (.ref (A (.t k (.quire (quireAt s p))))) M
def F_Stall_quire_at (K : PySem.W.Frag) : Fn := fn2 (P_Stall_quire_at K)
theorem u_Stall_quire_at {K : PySem.W.Frag} {a b : D} {M : Mem} {Q : D → Mem → Prop} {X : Value → List (Str × D) → Mem → Prop} (h : P_Stall_quire_at K a b M Q) : F_Stall_quire_at K [a, b] M Q X := use2 h
theorem w_Stall_quire_at {K : PySem.W.Frag} {mg : Str → Option Value} (T : TT K mg) {a b : D} {M : Mem} {Q : D → Mem → Prop} (h : P_Stall_quire_at K a b M Q) : wS (c0 K) (t_Stall_quire_at K) [some a, some b, none] M (Zr Q) := by
  obtain ⟨n, A, w, k, s, p, t, rfl, rfl, W, hk, F, hp, q⟩ := h
  have q0 := F.q0
  unfold t_Stall_quire_at
  wtm_at "go"
  refine vS_for (wI_list ?_)
  wtm_at "go"
  wtm_at "f"
  wtm_at "go"
  refine wSl_L (.inl LV.f) ⟨_, rfl, ?_⟩
  have hcut : cutD ((List.range s.ends.length).map fun i => D.ref (A (.t k (.quire i)))) none (some (-1)) = (List.range (s.ends.length - 1)).map fun i => D.ref (A (.t k (.quire i))) := cut_last
  rw [hcut]
  refine ⟨fun i Γ' M' => M' = M ∧ (∃ g, Γ' = [some (.ref (A (.t k .self))), some (.int p), g]) ∧ ∀ j, j < i → end_ s j ≤ p, ⟨rfl, ⟨_, rfl⟩, fun j hj => by omega⟩, ?_, ?_⟩
  · rintro i d Γ' M' hi ⟨rfl, ⟨g, rfl⟩, hb⟩
    obtain ⟨hi1, rfl⟩ := map_range_get hi
    wtm_at "go"
    have hi2 : i < s.ends.length := by omega
    wtm_at "f"
    wtm_at "go"
    refine dec_ite (fun e => ?_) fun e => ?_
    · wtm_at "go"
      rw [quireAt_is F (q := i) hb (by omega) hi2] at q
      exact ret_eq q
    · wtm_at "go"
      refine ⟨rfl, ⟨_, rfl⟩, fun j hj => ?_⟩
      by_cases e2 : j = i
      · subst e2; omega
      · exact hb j (by omega)
  · rintro Γ' M' ⟨rfl, ⟨g, rfl⟩, hb⟩
    rw [List.length_map, List.length_range] at hb
    wtm_at "go"
    wtm_at "f"
    wtm_at "go"
    refine wR_ix (SV.l LV.f) (x := D.ref (A (.t k (.quire (s.ends.length - 1))))) (at_last (by omega)) ?_
    rw [quireAt_is F (q := s.ends.length - 1) hb (by
      have := F.last
      unfold end_
      rw [this]
      exact hp) (by omega)] at q
    exact ret_eq q
theorem b_Stall_quire_at {K : PySem.W.Frag} {mg : Str → Option Value} (T : TT K mg) : Binds K (fdAt K (He.ma K (He.ga K "Stall") "quire_at")) ["self", "place"] [] := FunD.bindsN T.F_Stall_quire_at fun _ _ _ _ _ _ us hl => match us, hl with | [_, _], _ => rfl
theorem ok_Stall_quire_at {P : Program} {w : World} {K : PySem.W.Frag} {mg : Str → Option Value} {base : Heap} (T : TT K mg) : FnOk P w K mg base CX0 1 (He.ma K (He.ga K "Stall") "quire_at") (fdAt K (He.ma K (He.ga K "Stall") "quire_at")) ["self", "place"] (spD K (F_Stall_quire_at K)) := by
  refine ok_def T.F_Stall_quire_at sc_Stall_quire_at (t_Stall_quire_at K) ?_ (fun cdv A outer s H E hr => ?_) (fun ds M Q X ⟨a, b, e, h⟩ => by subst e; exact w_Stall_quire_at T h)
  · exact len2
  · have hu := hu_of hr
    exact (pss_cons (ps_for PassesOwn.never rfl (pi_list (pe_slice sl_G (pe_fld (pv 0) rfl) po_none (po_some (pe_un un_neg pe_int)))) (pg_name (i := 2) sc_Stall_quire_at.nd rfl (Or.inl rfl)) (pss_one (ps_if (pt_cmpR op_ltG (pv 1) (pe_fld (pv 2) rfl) (nomark _)) (pss_one (ps_ret (pv 2))) pss_nil)))
  (pss_one (ps_ret (pe_ix ix_seq (pe_fld (pv 0) rfl) (pe_un un_neg pe_int) (fun _ _ => rfl)))))
/-! ### Stall.mend -/
theorem sc_Stall_mend : FnScope ["self", "place", "reading"] ["self", "place", "reading"] (defScope s_Stall_mend) := ⟨rfl, rfl, rfl, by decide +kernel, rfl, by decide +kernel, by decide +kernel⟩
def t_Stall_mend (K : PySem.W.Frag) : TS :=
  (tSeq (tIfS (tNot (tB (tCall (spD K (F_is_within K)) [] E0 (tCons (tVar 1) (tCons (tC (.int 0)) (tCons (tOp rSubG (tCB (rLenG K) (tCons (tFld K (tVar 0) "lent") tNil)) (tC (.int 1))) tNil)))))) tNever tNext)
  (tSeq (tIfS (tTest (tOp rNotNG (tFld K (tMeth (He.ga K "Stall") "quire_at" (spD K (F_Stall_quire_at K)) [] E0 (tVar 0) (tCons (tVar 1) tNil)) "hand") (tC .non))) tNever tNext)
  (tAsg (tVar 2) (gSub (tFld K (tVar 0) "lent") (tVar 1) rSetL))))
def P_Stall_mend (K : PySem.W.Frag) (a b c : D) (M : Mem) (Q : D → Mem → Prop) : Prop := ∃ (n : Int) (A : WN → Addr) (w : Wd) (k : Nat) (s : ST.St) (p t : Nat) (z : Str), a = .ref (A (.t k .self)) ∧ b = .int p ∧ c = .str z ∧ Is K n A w M ∧ w.ts k = some s ∧ Fit s t ∧ Legal s (.mend p z) ∧ ∀ M', Is K n A (w.put k (mended s p z)) M' → Q .non M'
def F_Stall_mend (K : PySem.W.Frag) : Fn := fn3 (P_Stall_mend K)
theorem u_Stall_mend {K : PySem.W.Frag} {a b c : D} {M : Mem} {Q : D → Mem → Prop} {X : Value → List (Str × D) → Mem → Prop} (h : P_Stall_mend K a b c M Q) : F_Stall_mend K [a, b, c] M Q X := use3 h
theorem w_Stall_mend {K : PySem.W.Frag} {mg : Str → Option Value} (T : TT K mg) {a b c : D} {M : Mem} {Q : D → Mem → Prop} (h : P_Stall_mend K a b c M Q) : wS (c0 K) (t_Stall_mend K) [some a, some b, some c] M (Zr Q) := by
  obtain ⟨n, A, w, k, s, p, t, z, rfl, rfl, rfl, W, hk, F, ⟨l1, l2, l3⟩, q⟩ := h
  unfold t_Stall_mend
  wtm_at "go"
  wtm_at "f"
  wtm_at "go"
  refine wC_len (SV.l (LV.n (W.tlent hk))) ?_
  wtm_at "go"
  refine u_is_within ⟨_, _, _, rfl, rfl, rfl, ?_⟩
  wtm_at "go"
  rw [decide_eq_true (by simp; omega)]
  wtm_at "go"
  refine ⟨_, FV.n (W.tself hk), rfl, ?_⟩
  wtm_at "go"
  refine u_Stall_quire_at ⟨n, A, w, k, s, p, t, rfl, rfl, W, hk, F, l1, ?_⟩
  have hq : quireAt s p < s.ends.length := quireAt_lt F l1
  wtm_at "f"
  rw [l2]
  unfold oi
  wtm_at "go"
  wtm_at "f"
  refine ⟨_, _, rfl, W.tlent hk, ?_⟩
  wtm_at "go"
  refine ⟨_, p, rfl, W.tlent hk, ix_nat (by simpa using l1), ?_⟩
  exact ret_eq (q _ (W.tLent hk))
theorem b_Stall_mend {K : PySem.W.Frag} {mg : Str → Option Value} (T : TT K mg) : Binds K (fdAt K (He.ma K (He.ga K "Stall") "mend")) ["self", "place", "reading"] [] := FunD.bindsN T.F_Stall_mend fun _ _ _ _ _ _ us hl => match us, hl with | [_, _, _], _ => rfl
theorem ok_Stall_mend {P : Program} {w : World} {K : PySem.W.Frag} {mg : Str → Option Value} {base : Heap} (T : TT K mg) : FnOk P w K mg base CX0 3 (He.ma K (He.ga K "Stall") "mend") (fdAt K (He.ma K (He.ga K "Stall") "mend")) ["self", "place", "reading"] (spD K (F_Stall_mend K)) := by
  refine ok_def T.F_Stall_mend sc_Stall_mend (t_Stall_mend K) ?_ (fun cdv A outer s H E hr => ?_) (fun ds M Q X ⟨a, b, c, e, h⟩ => by subst e; exact w_Stall_mend T h)
  · exact len3
  · have hu := hu_of hr
    exact (pss_cons (ps_if (pt_not (pt_val (pe_call (ok_is_within T) (hr.mono (by decide)) (by rfl) T.g_is_within T.F_is_within.kp (b_is_within T) .nil pass0 (pa_cons (pv 1) (pa_cons pe_int (pa_cons (pe_op op_subG (pe_callB call_lenG (by rfl) T.k_len (by decide +kernel) (pa_cons (pe_fld (pv 0) rfl) pa_nil)) pe_int) pa_nil)))))) (pss_one ps_never) pss_nil)
  (pss_cons (ps_if (pt_cmpR op_notNG (pe_fld (pe_meth (pv 0) T.cl_Stall T.mt_Stall_quire_at (ok_Stall_quire_at T) (hr.mono (by decide)) (b_Stall_quire_at T) .nil pass0 (pa_cons (pv 1) pa_nil)) rfl) pe_non (nomark _)) (pss_one ps_never) pss_nil)
  (pss_one (ps_asg (pv 2) (pg_sub (pe_fld (pv 0) rfl) (pv 1) set_list)))))
/-! ### Stall.need_hand -/
theorem sc_Stall_need_hand : FnScope ["self", "hand"] ["self", "hand"] (defScope s_Stall_need_hand) := ⟨rfl, rfl, rfl, by decide +kernel, rfl, by decide +kernel, by decide +kernel⟩
def t_Stall_need_hand (K : PySem.W.Frag) : TS :=
  (tIfS (tNot (tB (tCall (spD K (F_is_within K)) [] E0 (tCons (tVar 1) (tCons (tC (.int 0)) (tCons (tOp rSubG (tCB (rLenG K) (tCons (tFld K (tVar 0) "copies") tNil)) (tC (.int 1))) tNil)))))) tNever tNext)
def P_Stall_need_hand (K : PySem.W.Frag) (a b : D) (M : Mem) (Q : D → Mem → Prop) : Prop := ∃ (n : Int) (A : WN → Addr) (w : Wd) (k : Nat) (s : ST.St) (i : Nat), a = .ref (A (.t k .self)) ∧ b = .int i ∧ Is K n A w M ∧ w.ts k = some s ∧ i < s.cps.length ∧ Q .non M
def F_Stall_need_hand (K : PySem.W.Frag) : Fn := fn2 (P_Stall_need_hand K)
theorem u_Stall_need_hand {K : PySem.W.Frag} {a b : D} {M : Mem} {Q : D → Mem → Prop} {X : Value → List (Str × D) → Mem → Prop} (h : P_Stall_need_hand K a b M Q) : F_Stall_need_hand K [a, b] M Q X := use2 h
theorem w_Stall_need_hand {K : PySem.W.Frag} {mg : Str → Option Value} (T : TT K mg) {a b : D} {M : Mem} {Q : D → Mem → Prop} (h : P_Stall_need_hand K a b M Q) : wS (c0 K) (t_Stall_need_hand K) [some a, some b] M (Zr Q) := by
  obtain ⟨n, A, w, k, s, i, rfl, rfl, W, hk, hi, q⟩ := h
  unfold t_Stall_need_hand
  wtm_at "go"
  wtm_at "f"
  wtm_at "go"
  refine u_is_within ⟨_, _, _, rfl, rfl, rfl, ?_⟩
  wtm_at "go"
  rw [decide_eq_true (by simp; omega)]
  wtm_at "go"
  exact ret_eq q
theorem b_Stall_need_hand {K : PySem.W.Frag} {mg : Str → Option Value} (T : TT K mg) : Binds K (fdAt K (He.ma K (He.ga K "Stall") "need_hand")) ["self", "hand"] [] := FunD.bindsN T.F_Stall_need_hand fun _ _ _ _ _ _ us hl => match us, hl with | [_, _], _ => rfl
theorem ok_Stall_need_hand {P : Program} {w : World} {K : PySem.W.Frag} {mg : Str → Option Value} {base : Heap} (T : TT K mg) : FnOk P w K mg base CX0 3 (He.ma K (He.ga K "Stall") "need_hand") (fdAt K (He.ma K (He.ga K "Stall") "need_hand")) ["self", "hand"] (spD K (F_Stall_need_hand K)) := by
  refine ok_def T.F_Stall_need_hand sc_Stall_need_hand (t_Stall_need_hand K) ?_ (fun cdv A outer s H E hr => ?_) (fun ds M Q X ⟨a, b, e, h⟩ => by subst e; exact w_Stall_need_hand T h)
  · exact len2
  · have hu := hu_of hr
    exact (pss_one (ps_if (pt_not (pt_val (pe_call (ok_is_within T) (hr.mono (by decide)) (by rfl) T.g_is_within T.F_is_within.kp (b_is_within T) .nil pass0 (pa_cons (pv 1) (pa_cons pe_int (pa_cons (pe_op op_subG (pe_callB call_lenG (by rfl) T.k_len (by decide +kernel) (pa_cons (pe_fld (pv 0) rfl) pa_nil)) pe_int) pa_nil)))))) (pss_one ps_never) pss_nil))
/-! ### Stall.need_quire -/
theorem sc_Stall_need_quire : FnScope ["self", "quire"] ["self", "quire"] (defScope s_Stall_need_quire) := ⟨rfl, rfl, rfl, by decide +kernel, rfl, by decide +kernel, by decide +kernel⟩
def t_Stall_need_quire (K : PySem.W.Frag) : TS :=
  (tIfS (tNot (tB (tCall (spD K (F_is_within K)) [] E0 (tCons (tVar 1) (tCons (tC (.int 0)) (tCons (tOp rSubG (tCB (rLenG K) (tCons (tFld K (tVar 0) "quires") tNil)) (tC (.int 1))) tNil)))))) tNever tNext)
def P_Stall_need_quire (K : PySem.W.Frag) (a b : D) (M : Mem) (Q : D → Mem → Prop) : Prop := ∃ (n : Int) (A : WN → Addr) (w : Wd) (k : Nat) (s : ST.St) (i : Nat), a = .ref (A (.t k .self)) ∧ b = .int i ∧ Is K n A w M ∧ w.ts k = some s ∧ i < s.ends.length ∧ Q .non M
def F_Stall_need_quire (K : PySem.W.Frag) : Fn := fn2 (P_Stall_need_quire K)
theorem u_Stall_need_quire {K : PySem.W.Frag} {a b : D} {M : Mem} {Q : D → Mem → Prop} {X : Value → List (Str × D) → Mem → Prop} (h : P_Stall_need_quire K a b M Q) : F_Stall_need_quire K [a, b] M Q X := use2 h
theorem w_Stall_need_quire {K : PySem.W.Frag} {mg : Str → Option Value} (T : TT K mg) {a b : D} {M : Mem} {Q : D → Mem → Prop} (h : P_Stall_need_quire K a b M Q) : wS (c0 K) (t_Stall_need_quire K) [some a, some b] M (Zr Q) := by
  obtain ⟨n, A, w, k, s, i, rfl, rfl, W, hk, hi, q⟩ := h
  unfold t_Stall_need_quire
  wtm_at "go"
  wtm_at "f"
  wtm_at "go"
  refine u_is_within ⟨_, _, _, rfl, rfl, rfl, ?_⟩
  wtm_at "go"
  rw [decide_eq_true (by simp; omega)]
  wtm_at "go"
  exact ret_eq q
theorem b_Stall_need_quire {K : PySem.W.Frag} {mg : Str → Option Value} (T : TT K mg) : Binds K (fdAt K (He.ma K (He.ga K "Stall") "need_quire")) ["self", "quire"] [] := FunD.bindsN T.F_Stall_need_quire fun _ _ _ _ _ _ us hl => match us, hl with | [_, _], _ => rfl
theorem ok_Stall_need_quire {P : Program} {w : World} {K : PySem.W.Frag} {mg : Str → Option Value} {base : Heap} (T : TT K mg) : FnOk P w K mg base CX0 3 (He.ma K (He.ga K "Stall") "need_quire") (fdAt K (He.ma K (He.ga K "Stall") "need_quire")) ["self", "quire"] (spD K (F_Stall_need_quire K)) := by
  refine ok_def T.F_Stall_need_quire sc_Stall_need_quire (t_Stall_need_quire K) ?_ (fun cdv A outer s H E hr => ?_) (fun ds M Q X ⟨a, b, e, h⟩ => by subst e; exact w_Stall_need_quire T h)
  · exact len2
  · have hu := hu_of hr
    exact (pss_one (ps_if (pt_not (pt_val (pe_call (ok_is_within T) (hr.mono (by decide)) (by rfl) T.g_is_within T.F_is_within.kp (b_is_within T) .nil pass0 (pa_cons (pv 1) (pa_cons pe_int (pa_cons (pe_op op_subG (pe_callB call_lenG (by rfl) T.k_len (by decide +kernel) (pa_cons (pe_fld (pv 0) rfl) pa_nil)) pe_int) pa_nil)))))) (pss_one ps_never) pss_nil))
/-! ### Stall.need_free -/
theorem sc_Stall_need_free : FnScope ["self", "hand"] ["self", "hand"] (defScope s_Stall_need_free) := ⟨rfl, rfl, rfl, by decide +kernel, rfl, by decide +kernel, by decide +kernel⟩
def t_Stall_need_free (K : PySem.W.Frag) : TS :=
  (tIfS (tTest (tOp rNotNG (tOp (rIx K) (tFld K (tVar 0) "wanted") (tVar 1)) (tC .non))) tNever tNext)
def P_Stall_need_free (K : PySem.W.Frag) (a b : D) (M : Mem) (Q : D → Mem → Prop) : Prop := ∃ (n : Int) (A : WN → Addr) (w : Wd) (k : Nat) (s : ST.St) (i : Nat), a = .ref (A (.t k .self)) ∧ b = .int i ∧ Is K n A w M ∧ w.ts k = some s ∧ i < s.want.length ∧ wants s i = none ∧ Q .non M
def F_Stall_need_free (K : PySem.W.Frag) : Fn := fn2 (P_Stall_need_free K)
theorem u_Stall_need_free {K : PySem.W.Frag} {a b : D} {M : Mem} {Q : D → Mem → Prop} {X : Value → List (Str × D) → Mem → Prop} (h : P_Stall_need_free K a b M Q) : F_Stall_need_free K [a, b] M Q X := use2 h
theorem w_Stall_need_free {K : PySem.W.Frag} {mg : Str → Option Value} (T : TT K mg) {a b : D} {M : Mem} {Q : D → Mem → Prop} (h : P_Stall_need_free K a b M Q) : wS (c0 K) (t_Stall_need_free K) [some a, some b] M (Zr Q) := by
  obtain ⟨n, A, w, k, s, i, rfl, rfl, W, hk, hi, hn, q⟩ := h
  unfold t_Stall_need_free
  wtm_at "go"
  wtm_at "f"
  wtm_at "go"
  refine wR_ix (SV.l (LV.n (W.twant hk))) (at_map (get_wants hi)) ?_
  rw [hn]
  unfold oi
  wtm_at "go"
  exact ret_eq q
theorem b_Stall_need_free {K : PySem.W.Frag} {mg : Str → Option Value} (T : TT K mg) : Binds K (fdAt K (He.ma K (He.ga K "Stall") "need_free")) ["self", "hand"] [] := FunD.bindsN T.F_Stall_need_free fun _ _ _ _ _ _ us hl => match us, hl with | [_, _], _ => rfl
theorem ok_Stall_need_free {P : Program} {w : World} {K : PySem.W.Frag} {mg : Str → Option Value} {base : Heap} (T : TT K mg) : FnOk P w K mg base CX0 1 (He.ma K (He.ga K "Stall") "need_free") (fdAt K (He.ma K (He.ga K "Stall") "need_free")) ["self", "hand"] (spD K (F_Stall_need_free K)) := by
  refine ok_def T.F_Stall_need_free sc_Stall_need_free (t_Stall_need_free K) ?_ (fun cdv A outer s H E hr => ?_) (fun ds M Q X ⟨a, b, e, h⟩ => by subst e; exact w_Stall_need_free T h)
  · exact len2
  · have hu := hu_of hr
    exact (pss_one (ps_if (pt_cmpR op_notNG (pe_ix ix_seq (pe_fld (pv 0) rfl) (pv 1) (fun _ _ => rfl)) pe_non (nomark _)) (pss_one ps_never) pss_nil))
/-! ### Stall.give -/
theorem sc_Stall_give : FnScope ["self", "hand", "quire", "given", "place"] ["self", "hand", "quire"] (defScope s_Stall_give) := ⟨rfl, rfl, rfl, by decide +kernel, rfl, by decide +kernel, by decide +kernel⟩
def t_Stall_give (K : PySem.W.Frag) : TS :=
  (tSeq (tDrop (tMeth (He.ga K "Stall") "need_hand" (spD K (F_Stall_need_hand K)) [] E0 (tVar 0) (tCons (tVar 1) tNil)))
  (tSeq (tDrop (tMeth (He.ga K "Stall") "need_quire" (spD K (F_Stall_need_quire K)) [] E0 (tVar 0) (tCons (tVar 2) tNil)))
  (tSeq (tDrop (tMeth (He.ga K "Stall") "need_free" (spD K (F_Stall_need_free K)) [] E0 (tVar 0) (tCons (tVar 1) tNil)))
  (tSeq (tAsg (tOp (rIx K) (tFld K (tVar 0) "quires") (tVar 2)) (gName 3))
  (tSeq (tIfS (tTest (tOp (rNeG K) (tFld K (tVar 3) "hand") (tVar 1))) tNever tNext)
  (tSeq (tFor (iRng2 (tCons (tFld K (tVar 3) "begin") (tCons (tFld K (tVar 3) "end") tNil))) (gName 4) (tAsg (tOp (rIx K) (tFld K (tVar 0) "lent") (tVar 4)) (gSub (tOp (rIx K) (tFld K (tVar 0) "copies") (tVar 1)) (tVar 4) rSetL)))
  (tSeq (sFld K (tVar 3) (tC .non) "hand")
  (tSeq (tIfS (tTest (tOp (rNeG K) (tFld K (tVar 3) "line") (tLst tNil))) (tSeq (sFld K (tVar 3) (tBM K "list" rPopAt (tFld K (tVar 3) "line") (tCons (tC (.int 0)) tNil)) "hand")
  (tAsg (tC .non) (gSub (tFld K (tVar 0) "wanted") (tFld K (tVar 3) "hand") rSetL))) tNext)
  (tRet (tFld K (tVar 3) "hand"))))))))))
def P_Stall_give (K : PySem.W.Frag) (a b c : D) (M : Mem) (Q : D → Mem → Prop) : Prop := ∃ (n : Int) (A : WN → Addr) (w : Wd) (k : Nat) (s : ST.St) (i j t : Nat), a = .ref (A (.t k .self)) ∧ b = .int i ∧ c = .int j ∧ Is K n A w M ∧ w.ts k = some s ∧ Fit s t ∧ t ≤ 1000 ∧ Legal s (.give i j) ∧ ∀ M', Is K n A (w.put k (given s i j)) M' → Q (ans s (.give i j)) M'
def F_Stall_give (K : PySem.W.Frag) : Fn := fn3 (P_Stall_give K)
theorem u_Stall_give {K : PySem.W.Frag} {a b c : D} {M : Mem} {Q : D → Mem → Prop} {X : Value → List (Str × D) → Mem → Prop} (h : P_Stall_give K a b c M Q) : F_Stall_give K [a, b, c] M Q X := use3 h
theorem w_Stall_give {K : PySem.W.Frag} {mg : Str → Option Value} (T : TT K mg) {a b c : D} {M : Mem} {Q : D → Mem → Prop} (h : P_Stall_give K a b c M Q) : wS (c0 K) (t_Stall_give K) [some a, some b, some c, none, none] M (Zr Q) := by
  obtain ⟨n, A, w, k, s, i, j, t, rfl, rfl, rfl, W, hk, F, ht, ⟨l1, l2, l3, l4⟩, q⟩ := h
  have hl := F.lines
  have hh := F.hol
  have hc := F.cps
  have n1 := F.n1
  unfold t_Stall_give
  wtm_at "go"
  refine ⟨_, FV.n (W.tself hk), rfl, ?_⟩
  wtm_at "go"
  refine u_Stall_need_hand ⟨n, A, w, k, s, i, rfl, rfl, W, hk, by omega, ?_⟩
  wtm_at "go"
  refine ⟨_, FV.n (W.tself hk), rfl, ?_⟩
  wtm_at "go"
  refine u_Stall_need_quire ⟨n, A, w, k, s, j, rfl, rfl, W, hk, l2, ?_⟩
  wtm_at "go"
  refine ⟨_, FV.n (W.tself hk), rfl, ?_⟩
  wtm_at "go"
  refine u_Stall_need_free ⟨n, A, w, k, s, i, rfl, rfl, W, hk, l1, l3, ?_⟩
  wtm_at "go"
  wtm_at "f"
  wtm_at "go"
  refine wR_ix (SV.l LV.f) (at_range l2) ?_
  wtm_at "go"
  wtm_at "f"
  wtm_at "go"
  refine wR_neOI ?_
  rw [decide_eq_true l4]
  wtm_at "go"
  refine vS_for (wI_rng2 ?_)
  wtm_at "go"
  wtm_at "f"
  wtm_at "go"
  wtm_at "f"
  wtm_at "go"
  obtain ⟨b0, b1⟩ := begin_le F l2
  refine ⟨_, _, rfl, by omega, fun m Γ' M' => (∃ g : Option D, Γ' = [some (.ref (A (.t k .self))), some (.int i), some (.int j), some (.ref (A (.t k (.quire j)))), g]) ∧ Is K n A (w.put k { s with cps := s.cps.set i (over s.row (ST.copy s i) (begin_ s j) (begin_ s j + m)) }) M', ⟨⟨_, rfl⟩, ?_⟩, ?_, ?_⟩
  · rw [over_none (show begin_ s j + 0 ≤ begin_ s j by omega)]
    have e : s.cps.set i (ST.copy s i) = s.cps := by
      unfold ST.copy
      rw [List.getElem?_eq_getElem (show i < s.cps.length by omega)]
      exact List.set_getElem_self _
    rw [e, put_self hk]
    exact W
  · rintro m d Γ' M' hm ⟨⟨g, rfl⟩, W2⟩
    obtain ⟨hm1, rfl⟩ := rngD_get hm
    have hm2 : begin_ s j + m < end_ s j := by omega
    have hm3 : begin_ s j + m < s.row.length := by omega
    have hk2 := put_at (w := w) (k := k) (s := { s with cps := s.cps.set i (over s.row (ST.copy s i) (begin_ s j) (begin_ s j + m)) })
    obtain ⟨z, hz⟩ : ∃ z, s.row[begin_ s j + m]? = some z := ⟨_, List.getElem?_eq_getElem hm3⟩
    have ez : ((begin_ s j : Int) + (m : Int)) = ((begin_ s j + m : Nat) : Int) := by omega
    have hci : i < (s.cps.set i (over s.row (ST.copy s i) (begin_ s j) (begin_ s j + m))).length := by rw [List.length_set]; omega
    wtm_at "go"
    wtm_at "f"
    wtm_at "go"
    rw [ez]
    refine wR_ix (SV.l (LV.n (W2.tlent hk2))) (at_map hz) ?_
    wtm_at "go"
    wtm_at "f"
    wtm_at "go"
    refine wR_ix (SV.l LV.f) (at_range hci) ?_
    refine ⟨_, _, rfl, W2.tcopy hk2 hci, ?_⟩
    wtm_at "go"
    have hcl : begin_ s j + m < (ST.copy s i).length := by rw [F.cp _ (copy_mem (by omega))]; exact hm3
    have ec : ST.copy { s with cps := s.cps.set i (over s.row (ST.copy s i) (begin_ s j) (begin_ s j + m)) } i = over s.row (ST.copy s i) (begin_ s j) (begin_ s j + m) := by
      unfold ST.copy
      show (s.cps.set i _)[i]?.getD [] = _
      rw [List.getElem?_set_self (by omega)]
      rfl
    refine ⟨_, begin_ s j + m, rfl, W2.tcopy hk2 hci, ix_nat (by rw [List.length_map, ec, over_len]; exact hcl), ⟨_, rfl⟩, ?_⟩
    have W3 := W2.tCopy hk2 (q := i) (l := over s.row (ST.copy s i) (begin_ s j) (begin_ s j + m + 1)) hci
    rw [put_put] at W3
    simp only [List.set_set] at W3
    have e3 : ((over s.row (ST.copy s i) (begin_ s j) (begin_ s j + m)).map ST.os).set (begin_ s j + m) (.str z) = (over s.row (ST.copy s i) (begin_ s j) (begin_ s j + m + 1)).map ST.os := by
      rw [← over_step hz, List.map_set]; rfl
    rw [ec, e3]
    exact W3
  · rintro Γ' M' ⟨⟨g, rfl⟩, W2⟩
    rw [rngD_len] at W2
    have e1 : begin_ s j + ((end_ s j : Int) - (begin_ s j : Int)).toNat = end_ s j := by omega
    rw [e1] at W2
    change Is K n A (w.put k (copied s i j)) M' at W2
    have hk2 := put_at (w := w) (k := k) (s := copied s i j)
    wtm_at "go"
    refine ⟨_, _, _, rfl, W2.tquire hk2 l2, T.cl_Quire, T.n_Quire_hand, (by simp [quireA]), ?_⟩
    wtm_at "go"
    have W3 := W2.tHand hk2 (q := j) (x := none) l2 (by show j < s.hol.length; omega)
    rw [put_put] at W3
    have hk3 := put_at (w := w) (k := k) (s := { copied s i j with hol := (copied s i j).hol.set j none })
    have lj3 : j < ({ copied s i j with hol := (copied s i j).hol.set j none } : ST.St).lines.length := by show j < s.lines.length; omega
    refine ⟨_, _, _, FV.n (W3.tquire hk3 l2), T.cl_Quire, T.n_Quire_line, lk_line, ?_⟩
    wtm_at "go"
    have el : line { copied s i j with hol := (copied s i j).hol.set j none } j = line s j := rfl
    have hl3 := W3.tline hk3 lj3
    rw [el] at hl3
    refine wR_frz (Froz.lst hl3 (FrozAll.same _)) (Froz.same _) (wR_neNil (k := 0) pln_ints (by decide) ⟨trivial, ?_⟩)
    have fin : given s i j = { copied s i j with hol := s.hol.set j (line s j).head?, lines := s.lines.set j (line s j).tail, want := ((line s j).head?.map fun o => s.want.set o none).getD s.want } := by
      unfold given
      cases e : line s j with
      | nil =>
        have : s.lines.set j ([] : List Nat).tail = s.lines := by
          rw [List.tail_nil, ← e]
          unfold line
          rw [List.getElem?_eq_getElem (show j < s.lines.length by omega)]
          exact List.set_getElem_self _
        show _ = { copied s i j with hol := s.hol.set j none, lines := s.lines.set j ([] : List Nat).tail, want := s.want }
        rw [this]
        rfl
      | cons o r => rfl
    have q3 : ∀ M', Is K n A (w.put k (given s i j)) M' → Q (oi (line s j).head?) M' := q
    rw [fin] at q3
    wtm_at "go"
    refine ndec_ite (fun e => ?_) fun e => ?_
    · obtain ⟨o, r, er⟩ : ∃ o r, line s j = o :: r := by
        cases z : line s j with
        | nil => rw [z] at e; exact absurd rfl e
        | cons o r => exact ⟨o, r, rfl⟩
      rw [er] at hl3 q3
      wtm_at "go"
      refine wE_popAt (a := A (.t k (.line j))) (wE_fld (wE_var rfl ⟨_, _, _, FV.n (W3.tquire hk3 l2), T.cl_Quire, T.n_Quire_line, lk_line, rfl, rfl⟩)) hl3 ?_
      wtm_at "go"
      have lm := (F.line _ (line_mem (s := s) (q := j) (by omega)))
      rw [er] at lm
      refine ⟨0, .int o, rfl, hl3, rfl, by simp at lm ⊢; omega, ?_⟩
      have W4 := W3.tLine hk3 (q := j) (l := r) lj3
      rw [put_put] at W4
      have hk4 := put_at (w := w) (k := k) (s := { copied s i j with hol := s.hol.set j none, lines := s.lines.set j r })
      wtm_at "go"
      refine ⟨_, _, _, rfl, W4.tquire hk4 l2, T.cl_Quire, T.n_Quire_hand, (by simp [quireA]), ?_⟩
      wtm_at "go"
      have W5 := W4.tHand hk4 (q := j) (x := some o) l2 (by show j < (s.hol.set j none).length; rw [List.length_set]; omega)
      rw [put_put] at W5
      simp only [List.set_set] at W5
      have hk5 := put_at (w := w) (k := k) (s := { copied s i j with hol := s.hol.set j (some o), lines := s.lines.set j r })
      refine ⟨_, _, _, FV.n (W5.tself hk5), T.cl_Stall, T.n_Stall_wanted, lk_wanted, ?_⟩
      refine ⟨_, _, rfl, W5.twant hk5, ?_⟩
      wtm_at "go"
      have eh : holder { copied s i j with hol := s.hol.set j (some o), lines := s.lines.set j r } j = some o := (holder_set (s := s) (by omega)).trans (if_pos rfl)
      refine ⟨_, _, _, FV.n (W5.tquire hk5 l2), T.cl_Quire, T.n_Quire_hand, lk_hand, ?_⟩
      rw [eh]
      have lo : o < s.want.length := lm.2 o (by simp)
      refine ⟨_, o, rfl, W5.twant hk5, ix_nat (by rw [List.length_map]; exact lo), ?_⟩
      have W6 := W5.tWant hk5 (q := o) (x := none)
      rw [put_put] at W6
      have hk6 := put_at (w := w) (k := k) (s := { copied s i j with hol := s.hol.set j (some o), lines := s.lines.set j r, want := s.want.set o none })
      wtm_at "go"
      refine ⟨_, _, _, FV.n (W6.tquire hk6 l2), T.cl_Quire, T.n_Quire_hand, lk_hand, ?_⟩
      have eh6 : holder { copied s i j with hol := s.hol.set j (some o), lines := s.lines.set j r, want := s.want.set o none } j = some o := (holder_set (s := s) (by omega)).trans (if_pos rfl)
      rw [eh6]
      exact ret_eq (q3 _ W6)
    · have er : line s j = [] := by simpa using e
      rw [er] at q3
      wtm_at "go"
      refine ⟨_, _, _, FV.n (W3.tquire hk3 l2), T.cl_Quire, T.n_Quire_hand, lk_hand, ?_⟩
      have eh : holder { copied s i j with hol := (copied s i j).hol.set j none } j = none := (holder_set (s := s) (by omega)).trans (if_pos rfl)
      rw [eh]
      have e9 : s.lines.set j ([] : List Nat).tail = s.lines := by
        rw [List.tail_nil, ← er]
        unfold line
        rw [List.getElem?_eq_getElem (show j < s.lines.length by omega)]
        exact List.set_getElem_self _
      rw [e9] at q3
      exact ret_eq (q3 _ W3)
theorem b_Stall_give {K : PySem.W.Frag} {mg : Str → Option Value} (T : TT K mg) : Binds K (fdAt K (He.ma K (He.ga K "Stall") "give")) ["self", "hand", "quire"] [] := FunD.bindsN T.F_Stall_give fun _ _ _ _ _ _ us hl => match us, hl with | [_, _, _], _ => rfl
theorem ok_Stall_give {P : Program} {w : World} {K : PySem.W.Frag} {mg : Str → Option Value} {base : Heap} (T : TT K mg) : FnOk P w K mg base CX0 4 (He.ma K (He.ga K "Stall") "give") (fdAt K (He.ma K (He.ga K "Stall") "give")) ["self", "hand", "quire"] (spD K (F_Stall_give K)) := by
  refine ok_def T.F_Stall_give sc_Stall_give (t_Stall_give K) ?_ (fun cdv A outer s H E hr => ?_) (fun ds M Q X ⟨a, b, c, e, h⟩ => by subst e; exact w_Stall_give T h)
  · exact len3
  · have hu := hu_of hr
    exact (pss_cons (ps_expr (pe_meth (pv 0) T.cl_Stall T.mt_Stall_need_hand (ok_Stall_need_hand T) (hr.mono (by decide)) (b_Stall_need_hand T) .nil pass0 (pa_cons (pv 1) pa_nil)))
  (pss_cons (ps_expr (pe_meth (pv 0) T.cl_Stall T.mt_Stall_need_quire (ok_Stall_need_quire T) (hr.mono (by decide)) (b_Stall_need_quire T) .nil pass0 (pa_cons (pv 2) pa_nil)))
  (pss_cons (ps_expr (pe_meth (pv 0) T.cl_Stall T.mt_Stall_need_free (ok_Stall_need_free T) (hr.mono (by decide)) (b_Stall_need_free T) .nil pass0 (pa_cons (pv 1) pa_nil)))
  (pss_cons (ps_set (i := 3) sc_Stall_give.nd rfl (Or.inl rfl) (pe_ix ix_seq (pe_fld (pv 0) rfl) (pv 2) (fun _ _ => rfl)))
  (pss_cons (ps_if (pt_cmpR (op_neG hr.units) (pe_fld (pv 3) rfl) (pv 1) (nomark _)) (pss_one ps_never) pss_nil)
  (pss_cons (ps_for PassesOwn.never rfl (pi_range2 (by rfl) T.k_range (pa_cons (pe_fld (pv 3) rfl) (pa_cons (pe_fld (pv 3) rfl) pa_nil))) (pg_name (i := 4) sc_Stall_give.nd rfl (Or.inl rfl)) (pss_one (ps_asg (pe_ix ix_seq (pe_fld (pv 0) rfl) (pv 4) (fun _ _ => rfl)) (pg_sub (pe_ix ix_seq (pe_fld (pv 0) rfl) (pv 1) (fun _ _ => rfl)) (pv 4) set_list))))
  (pss_cons (ps_fld (pv 3) pe_non rfl)
  (pss_cons (ps_if (pt_cmpR (op_neG hr.units) (pe_fld (pv 3) rfl) (pe_lst pa_nil) (nomark _)) (pss_cons (ps_fld (pv 3) (pe_bm PySem.F.plainAttrs_list PySem.F.slot_list_pop PySem.F.type_list_pop mt_popAt (pe_fld (pv 3) rfl) (pa_cons pe_int pa_nil)) rfl)
  (pss_one (ps_asg pe_non (pg_sub (pe_fld (pv 0) rfl) (pe_fld (pv 3) rfl) set_list)))) pss_nil)
  (pss_one (ps_ret (pe_fld (pv 3) rfl)))))))))))
/-! ### Stall.ask -/
theorem sc_Stall_ask : FnScope ["self", "hand", "quire", "asked"] ["self", "hand", "quire"] (defScope s_Stall_ask) := ⟨rfl, rfl, rfl, by decide +kernel, rfl, by decide +kernel, by decide +kernel⟩
def t_Stall_ask (K : PySem.W.Frag) : TS :=
  (tSeq (tDrop (tMeth (He.ga K "Stall") "need_hand" (spD K (F_Stall_need_hand K)) [] E0 (tVar 0) (tCons (tVar 1) tNil)))
  (tSeq (tDrop (tMeth (He.ga K "Stall") "need_quire" (spD K (F_Stall_need_quire K)) [] E0 (tVar 0) (tCons (tVar 2) tNil)))
  (tSeq (tDrop (tMeth (He.ga K "Stall") "need_free" (spD K (F_Stall_need_free K)) [] E0 (tVar 0) (tCons (tVar 1) tNil)))
  (tSeq (tAsg (tOp (rIx K) (tFld K (tVar 0) "quires") (tVar 2)) (gName 3))
  (tSeq (tIfS (tTest (tOp (rEqG K) (tFld K (tVar 3) "hand") (tVar 1))) tNever tNext)
  (tSeq (tIfS (tTest (tOp rIsNG (tFld K (tVar 3) "hand") (tC .non))) (tSeq (sFld K (tVar 3) (tVar 1) "hand")
  (tRet (tC (.str "held")))) tNext)
  (tSeq (tDrop (tBM K "list" rAppend (tFld K (tVar 3) "line") (tCons (tVar 1) tNil)))
  (tSeq (tAsg (tVar 2) (gSub (tFld K (tVar 0) "wanted") (tVar 1) rSetL))
  (tRet (tC (.str "waits")))))))))))
def P_Stall_ask (K : PySem.W.Frag) (a b c : D) (M : Mem) (Q : D → Mem → Prop) : Prop := ∃ (n : Int) (A : WN → Addr) (w : Wd) (k : Nat) (s : ST.St) (i j t : Nat), a = .ref (A (.t k .self)) ∧ b = .int i ∧ c = .int j ∧ Is K n A w M ∧ w.ts k = some s ∧ Fit s t ∧ t ≤ 1000 ∧ Legal s (.ask i j) ∧ ∀ M', Is K n A (w.put k (asked s i j)) M' → Q (ans s (.ask i j)) M'
def F_Stall_ask (K : PySem.W.Frag) : Fn := fn3 (P_Stall_ask K)
theorem u_Stall_ask {K : PySem.W.Frag} {a b c : D} {M : Mem} {Q : D → Mem → Prop} {X : Value → List (Str × D) → Mem → Prop} (h : P_Stall_ask K a b c M Q) : F_Stall_ask K [a, b, c] M Q X := use3 h
theorem w_Stall_ask {K : PySem.W.Frag} {mg : Str → Option Value} (T : TT K mg) {a b c : D} {M : Mem} {Q : D → Mem → Prop} (h : P_Stall_ask K a b c M Q) : wS (c0 K) (t_Stall_ask K) [some a, some b, some c, none] M (Zr Q) := by
  obtain ⟨n, A, w, k, s, i, j, t, rfl, rfl, rfl, W, hk, F, ht, ⟨l1, l2, l3, l4⟩, q⟩ := h
  have hl := F.lines
  have hh := F.hol
  have hc := F.cps
  unfold t_Stall_ask
  have hm : Is K n A w M := W
  wtm_at "go"
  refine ⟨_, FV.n (W.tself hk), rfl, ?_⟩
  wtm_at "go"
  refine u_Stall_need_hand ⟨n, A, w, k, s, i, rfl, rfl, W, hk, by omega, ?_⟩
  wtm_at "go"
  refine ⟨_, FV.n (W.tself hk), rfl, ?_⟩
  wtm_at "go"
  refine u_Stall_need_quire ⟨n, A, w, k, s, j, rfl, rfl, W, hk, l2, ?_⟩
  wtm_at "go"
  refine ⟨_, FV.n (W.tself hk), rfl, ?_⟩
  wtm_at "go"
  refine u_Stall_need_free ⟨n, A, w, k, s, i, rfl, rfl, W, hk, l1, l3, ?_⟩
  wtm_at "go"
  wtm_at "f"
  wtm_at "go"
  refine wR_ix (SV.l LV.f) (at_range l2) ?_
  wtm_at "go"
  wtm_at "f"
  wtm_at "go"
  refine wR_eqOI ?_
  rw [decide_eq_false (fun e => l4 e)]
  wtm_at "go"
  wtm_at "f"
  wtm_at "go"
  rw [isNon_oi]
  refine dec_ite (fun e => ?_) fun e => ?_
  · wtm_at "go"
    refine ⟨_, _, _, rfl, W.tquire hk l2, T.cl_Quire, T.n_Quire_hand, (by simp [quireA]), ?_⟩
    wtm_at "go"
    have W2 := W.tHand hk (x := some i) l2 (by omega)
    have q2 := q _ (by unfold asked; rw [if_pos e]; exact W2)
    simp only [ans, if_pos e] at q2
    exact ret_eq q2
  · wtm_at "go"
    have lm := F.line _ (line_mem (s := s) (q := j) (by omega))
    refine wE_app (a := A (.t k (.line j))) (wE_fld (wE_var rfl ⟨_, _, _, FV.n (W.tquire hk l2), T.cl_Quire, T.n_Quire_line, lk_line, rfl, rfl⟩)) (W.tline hk (by omega)) ?_
    wtm_at "go"
    refine ⟨W.tline hk (by omega), (by rw [List.length_map]; omega), ?_⟩
    have e1 : (line s j).map dN ++ [D.int (i : Int)] = (line s j ++ [i]).map dN := by rw [List.map_append]; rfl
    rw [e1]
    have W2 := W.tLine hk (l := line s j ++ [i]) (q := j) (by omega)
    have hk2 := put_at (w := w) (k := k) (s := { s with lines := s.lines.set j (line s j ++ [i]) })
    wtm_at "go"
    wtm_at "f"
    refine ⟨_, _, rfl, W2.twant hk2, ?_⟩
    wtm_at "go"
    refine ⟨_, i, rfl, W2.twant hk2, ix_nat (by simpa using l1), ?_⟩
    wtm_at "go"
    have W3 := W2.tWant hk2 (q := i) (x := some j)
    rw [put_put] at W3
    have q2 := q _ (by unfold asked; rw [if_neg e]; exact W3)
    simp only [ans, if_neg e] at q2
    exact ret_eq q2
theorem b_Stall_ask {K : PySem.W.Frag} {mg : Str → Option Value} (T : TT K mg) : Binds K (fdAt K (He.ma K (He.ga K "Stall") "ask")) ["self", "hand", "quire"] [] := FunD.bindsN T.F_Stall_ask fun _ _ _ _ _ _ us hl => match us, hl with | [_, _, _], _ => rfl
theorem ok_Stall_ask {P : Program} {w : World} {K : PySem.W.Frag} {mg : Str → Option Value} {base : Heap} (T : TT K mg) : FnOk P w K mg base CX0 4 (He.ma K (He.ga K "Stall") "ask") (fdAt K (He.ma K (He.ga K "Stall") "ask")) ["self", "hand", "quire"] (spD K (F_Stall_ask K)) := by
  refine ok_def T.F_Stall_ask sc_Stall_ask (t_Stall_ask K) ?_ (fun cdv A outer s H E hr => ?_) (fun ds M Q X ⟨a, b, c, e, h⟩ => by subst e; exact w_Stall_ask T h)
  · exact len3
  · have hu := hu_of hr
    exact (pss_cons (ps_expr (pe_meth (pv 0) T.cl_Stall T.mt_Stall_need_hand (ok_Stall_need_hand T) (hr.mono (by decide)) (b_Stall_need_hand T) .nil pass0 (pa_cons (pv 1) pa_nil)))
  (pss_cons (ps_expr (pe_meth (pv 0) T.cl_Stall T.mt_Stall_need_quire (ok_Stall_need_quire T) (hr.mono (by decide)) (b_Stall_need_quire T) .nil pass0 (pa_cons (pv 2) pa_nil)))
  (pss_cons (ps_expr (pe_meth (pv 0) T.cl_Stall T.mt_Stall_need_free (ok_Stall_need_free T) (hr.mono (by decide)) (b_Stall_need_free T) .nil pass0 (pa_cons (pv 1) pa_nil)))
  (pss_cons (ps_set (i := 3) sc_Stall_ask.nd rfl (Or.inl rfl) (pe_ix ix_seq (pe_fld (pv 0) rfl) (pv 2) (fun _ _ => rfl)))
  (pss_cons (ps_if (pt_cmpR (op_eqG hr.units) (pe_fld (pv 3) rfl) (pv 1) (nomark _)) (pss_one ps_never) pss_nil)
  (pss_cons (ps_if (pt_cmpR op_isNG (pe_fld (pv 3) rfl) pe_non (nomark _)) (pss_cons (ps_fld (pv 3) (pv 1) rfl)
  (pss_one (ps_ret pe_str))) pss_nil)
  (pss_cons (ps_expr (pe_bm PySem.F.plainAttrs_list PySem.F.slot_list_append PySem.F.type_list_append mt_append (pe_fld (pv 3) rfl) (pa_cons (pv 1) pa_nil)))
  (pss_cons (ps_asg (pv 2) (pg_sub (pe_fld (pv 0) rfl) (pv 1) set_list))
  (pss_one (ps_ret pe_str))))))))))
/-! ### _law_done -/
theorem sc__law_done : FnScope ["_law_stall", "_law_deed"] ["_law_stall", "_law_deed"] (defScope s__law_done) := ⟨rfl, rfl, rfl, by decide +kernel, rfl, by decide +kernel, by decide +kernel⟩
def t__law_done (K : PySem.W.Frag) : TS :=
  (tSeq (tIfS (tTest (tOp (rEqG K) (tOp (rIx K) (tVar 1) (tC (.int 0))) (tC (.str "mend")))) (tSeq (tDrop (tMeth (He.ga K "Stall") "mend" (spD K (F_Stall_mend K)) [] E0 (tVar 0) (tCons (tOp (rIx K) (tVar 1) (tC (.int 1))) (tCons (tOp (rIx K) (tVar 1) (tC (.int 2))) tNil))))
  (tRet (tC .non))) tNext)
  (tSeq (tIfS (tTest (tOp (rEqG K) (tOp (rIx K) (tVar 1) (tC (.int 0))) (tC (.str "give")))) (tRet (tMeth (He.ga K "Stall") "give" (spD K (F_Stall_give K)) [] E0 (tVar 0) (tCons (tOp (rIx K) (tVar 1) (tC (.int 1))) (tCons (tOp (rIx K) (tVar 1) (tC (.int 2))) tNil)))) tNext)
  (tRet (tMeth (He.ga K "Stall") "ask" (spD K (F_Stall_ask K)) [] E0 (tVar 0) (tCons (tOp (rIx K) (tVar 1) (tC (.int 1))) (tCons (tOp (rIx K) (tVar 1) (tC (.int 2))) tNil))))))
def P__law_done (K : PySem.W.Frag) (a b : D) (M : Mem) (Q : D → Mem → Prop) : Prop := ∃ (n : Int) (A : WN → Addr) (w : Wd) (k : Nat) (s : ST.St) (d : Deed) (t : Nat), a = .ref (A (.t k .self)) ∧ b = deedD d ∧ Is K n A w M ∧ w.ts k = some s ∧ Fit s t ∧ t ≤ 1000 ∧ Legal s d ∧ ∀ M', Is K n A (w.put k (did s d)) M' → Q (ans s d) M'
def F__law_done (K : PySem.W.Frag) : Fn := fn2 (P__law_done K)
theorem u__law_done {K : PySem.W.Frag} {a b : D} {M : Mem} {Q : D → Mem → Prop} {X : Value → List (Str × D) → Mem → Prop} (h : P__law_done K a b M Q) : F__law_done K [a, b] M Q X := use2 h
theorem w__law_done {K : PySem.W.Frag} {mg : Str → Option Value} (T : TT K mg) {a b : D} {M : Mem} {Q : D → Mem → Prop} (h : P__law_done K a b M Q) : wS (c0 K) (t__law_done K) [some a, some b] M (Zr Q) := by
  obtain ⟨n, A, w, k, s, d, t, rfl, rfl, W, hk, F, ht, L, q⟩ := h
  unfold t__law_done
  cases d with
  | mend p z =>
    simp only [deedD]
    wtm_at "go"
    refine ⟨_, FV.n (W.tself hk), rfl, ?_⟩
    wtm_at "go"
    refine u_Stall_mend ⟨n, A, w, k, s, p, t, z, rfl, rfl, rfl, W, hk, F, L, fun M' W' => ?_⟩
    wtm_at "go"
    exact ret_eq (q M' W')
  | give i j =>
    simp only [deedD]
    wtm_at "go"
    refine diff_ite (by decide) ?_
    wtm_at "go"
    refine ⟨_, FV.n (W.tself hk), rfl, ?_⟩
    wtm_at "go"
    exact u_Stall_give ⟨n, A, w, k, s, i, j, t, rfl, rfl, rfl, W, hk, F, ht, L, fun M' W' => ret_eq (q M' W')⟩
  | ask i j =>
    simp only [deedD]
    wtm_at "go"
    refine diff_ite (by decide) ?_
    wtm_at "go"
    refine diff_ite (by decide) ?_
    wtm_at "go"
    refine ⟨_, FV.n (W.tself hk), rfl, ?_⟩
    wtm_at "go"
    exact u_Stall_ask ⟨n, A, w, k, s, i, j, t, rfl, rfl, rfl, W, hk, F, ht, L, fun M' W' => ret_eq (q M' W')⟩
theorem b__law_done {K : PySem.W.Frag} {mg : Str → Option Value} (T : TT K mg) : Binds K (fdAt K (He.ga K "_law_done")) ["_law_stall", "_law_deed"] [] := FunD.bindsN T.F__law_done fun _ _ _ _ _ _ us hl => match us, hl with | [_, _], _ => rfl
theorem ok__law_done {P : Program} {w : World} {K : PySem.W.Frag} {mg : Str → Option Value} {base : Heap} (T : TT K mg) : FnOk P w K mg base CX0 5 (He.ga K "_law_done") (fdAt K (He.ga K "_law_done")) ["_law_stall", "_law_deed"] (spD K (F__law_done K)) := by
  refine ok_def T.F__law_done sc__law_done (t__law_done K) ?_ (fun cdv A outer s H E hr => ?_) (fun ds M Q X ⟨a, b, e, h⟩ => by subst e; exact w__law_done T h)
  · exact len2
  · have hu := hu_of hr
    exact (pss_cons (ps_if (pt_cmpR (op_eqG hr.units) (pe_ix ix_seq (pv 1) pe_int (fun _ _ => rfl)) pe_str (nomark _)) (pss_cons (ps_expr (pe_meth (pv 0) T.cl_Stall T.mt_Stall_mend (ok_Stall_mend T) (hr.mono (by decide)) (b_Stall_mend T) .nil pass0 (pa_cons (pe_ix ix_seq (pv 1) pe_int (fun _ _ => rfl)) (pa_cons (pe_ix ix_seq (pv 1) pe_int (fun _ _ => rfl)) pa_nil))))
  (pss_one (ps_ret pe_non))) pss_nil)
  (pss_cons (ps_if (pt_cmpR (op_eqG hr.units) (pe_ix ix_seq (pv 1) pe_int (fun _ _ => rfl)) pe_str (nomark _)) (pss_one (ps_ret (pe_meth (pv 0) T.cl_Stall T.mt_Stall_give (ok_Stall_give T) (hr.mono (by decide)) (b_Stall_give T) .nil pass0 (pa_cons (pe_ix ix_seq (pv 1) pe_int (fun _ _ => rfl)) (pa_cons (pe_ix ix_seq (pv 1) pe_int (fun _ _ => rfl)) pa_nil))))) pss_nil)
  (pss_one (ps_ret (pe_meth (pv 0) T.cl_Stall T.mt_Stall_ask (ok_Stall_ask T) (hr.mono (by decide)) (b_Stall_ask T) .nil pass0 (pa_cons (pe_ix ix_seq (pv 1) pe_int (fun _ _ => rfl)) (pa_cons (pe_ix ix_seq (pv 1) pe_int (fun _ _ => rfl)) pa_nil)))))))
/-! ### _law_alike -/
theorem sc__law_alike : FnScope ["_law_found", "_law_due_here", "_law_one", "_law_other"] ["_law_found", "_law_due_here"] (defScope s__law_alike) := ⟨rfl, rfl, rfl, by decide +kernel, rfl, by decide +kernel, by decide +kernel⟩
def t__law_alike (K : PySem.W.Frag) (G : Fn) : TS :=
  (tSeq (tIfS (tTest (tOp rIsNG (tVar 1) (tC .non))) (tRet (tOp rIsNG (tVar 0) (tC .non))) tNext)
  (tSeq (tIfS (tB (tCB (rIsi K) (tCons (tVar 1) (tCons (tC (.ty "int")) tNil)))) (tRet (tAndV (tCB (rIsi K) (tCons (tVar 0) (tCons (tC (.ty "int")) tNil))) (tAndV (tNotV (tCB (rIsi K) (tCons (tVar 0) (tCons (tC (.ty "bool")) tNil)))) (tOp (rEqG K) (tVar 0) (tVar 1))))) tNext)
  (tSeq (tIfS (tB (tCB (rIsi K) (tCons (tVar 1) (tCons (tC (.ty "str")) tNil)))) (tRet (tAndV (tCB (rIsi K) (tCons (tVar 0) (tCons (tC (.ty "str")) tNil))) (tOp (rEqG K) (tVar 0) (tVar 1)))) tNext)
  (tSeq (tIfS (tOr (tTest (tOp (rNeG K) (tCB (rIsi K) (tCons (tVar 1) (tCons (tC (.ty "tuple")) tNil))) (tCB (rIsi K) (tCons (tVar 0) (tCons (tC (.ty "tuple")) tNil))))) (tTest (tOp (rNeG K) (tCB (rIsi K) (tCons (tVar 1) (tCons (tC (.ty "list")) tNil))) (tCB (rIsi K) (tCons (tVar 0) (tCons (tC (.ty "list")) tNil)))))) (tRet (tC (.bl false))) tNext)
  (tSeq (tIfS (tTest (tOp (rNeG K) (tCB (rLenG K) (tCons (tVar 0) tNil)) (tCB (rLenG K) (tCons (tVar 1) tNil)))) (tRet (tC (.bl false))) tNext)
  (tRet (tCB (rAll K) (tCons (tLc (RZ.iZipA K (tCons (tVar 0) (tCons (tVar 1) tNil))) (gTup K 2 (gCons (gName 2) (gCons (gName 3) gNil))) tYes (tCall (spD K G) [] E0 (tCons (tVar 2) (tCons (tVar 3) tNil))) [2, 3]) tNil))))))))
/-- what two things that are alike may be -/
def Lik : Nat → D → Prop
  | _, .non => True
  | _, .int _ => True
  | _, .str _ => True
  | n + 1, .tup xs => xs.length ≤ 1000 ∧ ∀ x ∈ xs, Lik n x
  | n + 1, .lst xs => xs.length ≤ 1000 ∧ ∀ x ∈ xs, Lik n x
  | _, _ => False
def P__law_alike (n : Nat) (K : PySem.W.Frag) (a b : D) (M : Mem) (Q : D → Mem → Prop) : Prop := a = b ∧ Lik n a ∧ Q (.bl true) M
def F__law_alike : Nat → PySem.W.Frag → Fn
  | 0, K => fun _ _ _ _ => False
  | n + 1, K => pureFn (fn2 (P__law_alike n K))
theorem u__law_alike {n : Nat} {K : PySem.W.Frag} {a b : D} {ax bx : D} {M : Mem} {Q : D → Mem → Prop} {X : Value → List (Str × D) → Mem → Prop} (f : FrozAll M [a, b] [ax, bx]) (h : P__law_alike n K ax bx nomem (fun d _ => Bare d ∧ Q d M)) : F__law_alike (n + 1) K [a, b] M Q X := ⟨_, f, use2 (X := fun _ _ _ => False) h⟩
theorem w__law_alike {n : Nat} {K : PySem.W.Frag} {mg : Str → Option Value} (T : TT K mg) {a b : D} {M : Mem} {Q : D → Mem → Prop} (h : P__law_alike n K a b M Q) : wS (c0 K) (t__law_alike K (F__law_alike n K)) [some a, some b, none, none] M (Zr Q) := by
  obtain ⟨rfl, hl, q⟩ := h
  unfold t__law_alike
  have many : ∀ (xs : List D) (Γ : Sl), n ≠ 0 → xs.length ≤ 1000 → (∀ x ∈ xs, Lik (n - 1) x) → LcBody (c0 K) (gTup K 2 (gCons (gName 2) (gCons (gName 3) gNil))) tYes (tCall (spD K (F__law_alike n K)) [] E0 (tCons (tVar 2) (tCons (tVar 3) tNil))) [2, 3] [some a, some a, none, none] (fun i acc M' => M' = M ∧ acc = (List.replicate i true).map D.bl) (zipD xs xs) := by
    rintro xs Γ h0 hlen hx i d acc M' hi ha ⟨rfl, rfl⟩
    obtain ⟨m, rfl⟩ : ∃ m, n = m + 1 := ⟨n - 1, by omega⟩
    unfold zipD at hi
    rw [List.getElem?_zipWith] at hi
    cases e : xs[i]? with
    | none => rw [e] at hi; cases hi
    | some x =>
      rw [e] at hi
      cases hi
      wtm_at "go"
      refine u__law_alike (frz2 (.same _) (.same _)) ⟨rfl, hx x (List.mem_of_getElem? e), trivial, ?_⟩
      exact ⟨rfl, by rw [List.replicate_succ', List.map_append]; rfl⟩
  have dt : ∀ {α : Type} {x : α} [Decidable (x = x)], decide (x = x) = true := fun {α x} _ => decide_eq_true rfl
  cases a with
  | non =>
    wtm_at "go"
    exact ret_eq q
  | int i =>
    wtm_at "go"
    rw [dt]
    exact ret_eq q
  | str z =>
    wtm_at "go"
    rw [dt]
    exact ret_eq q
  | tup xs =>
    obtain ⟨h0, h1, h2⟩ : n ≠ 0 ∧ xs.length ≤ 1000 ∧ ∀ x ∈ xs, Lik (n - 1) x := by
      cases n with
      | zero => exact hl.elim
      | succ n => exact ⟨by omega, hl.1, hl.2⟩
    wtm_at "go"
    refine vS_ifP (fun z => z = false) ?_ (fun z => by cases z) fun _ => ?_
    · wtm_at "go"
      simp
    wtm_at "go"
    refine wE_lc (gok_tup (gsok_cons (gok_name (by simp)) (gsok_cons (gok_name (by simp)) gsok_nil))) (wI_zipT ?_)
    wtm_at "go"
    refine ⟨_, _, rfl, ?_⟩
    have hz : (zipD xs xs).length = xs.length := by unfold zipD; simp
    refine ⟨by omega, _, ⟨rfl, rfl⟩, many xs [] h0 h1 h2, ?_⟩
    rintro acc M' ⟨rfl, rfl⟩ _
    wtm_at "go"
    refine wC_all LV.f ?_
    have ea : (List.replicate (zipD xs xs).length true).all id = true := by simp
    rw [ea]
    exact ret_eq q
  | lst xs =>
    obtain ⟨h0, h1, h2⟩ : n ≠ 0 ∧ xs.length ≤ 1000 ∧ ∀ x ∈ xs, Lik (n - 1) x := by
      cases n with
      | zero => exact hl.elim
      | succ n => exact ⟨by omega, hl.1, hl.2⟩
    wtm_at "go"
    refine vS_ifP (fun z => z = false) ?_ (fun z => by cases z) fun _ => ?_
    · wtm_at "go"
      simp
    wtm_at "go"
    refine wE_lc (gok_tup (gsok_cons (gok_name (by simp)) (gsok_cons (gok_name (by simp)) gsok_nil))) (wI_zipL ?_)
    wtm_at "go"
    refine ⟨_, _, rfl, ?_⟩
    have hz : (zipD xs xs).length = xs.length := by unfold zipD; simp
    refine ⟨by omega, _, ⟨rfl, rfl⟩, many xs [] h0 h1 h2, ?_⟩
    rintro acc M' ⟨rfl, rfl⟩ _
    wtm_at "go"
    refine wC_all LV.f ?_
    have ea : (List.replicate (zipD xs xs).length true).all id = true := by simp
    rw [ea]
    exact ret_eq q
  | bl _ => cases n <;> exact hl.elim
  | ref _ => cases n <;> exact hl.elim
  | ty _ => cases n <;> exact hl.elim
  | scr _ => cases n <;> exact hl.elim
  | obj _ _ => cases n <;> exact hl.elim
theorem b__law_alike {K : PySem.W.Frag} {mg : Str → Option Value} (T : TT K mg) : Binds K (fdAt K (He.ga K "_law_alike")) ["_law_found", "_law_due_here"] [] := FunD.bindsN T.F__law_alike fun _ _ _ _ _ _ us hl => match us, hl with | [_, _], _ => rfl
theorem ok__law_alike {P : Program} {w : World} {K : PySem.W.Frag} {mg : Str → Option Value} {base : Heap} (T : TT K mg) : ∀ n, FnOk P w K mg base CX0 (1 + n) (He.ga K "_law_alike") (fdAt K (He.ga K "_law_alike")) ["_law_found", "_law_due_here"] (spD K (F__law_alike n K))
  | 0 => ok_false
  | n + 1 => by
    have okR := ok__law_alike (P := P) (w := w) (base := base) T n
    refine FnOk.imp (sp := spD K (fn2 (P__law_alike n K))) ?_ fun _ _ _ _ h => pure_imp h
    refine ok_def T.F__law_alike sc__law_alike (t__law_alike K (F__law_alike n K)) ?_ (fun cdv A outer s H E hr => ?_) (fun ds M Q X ⟨a, b, e, h⟩ => by subst e; exact w__law_alike T h)
    · exact len2
    · have hu := hu_of hr
      exact (pss_cons (ps_if (pt_cmpR op_isNG (pv 1) pe_non (nomark _)) (pss_one (ps_ret (pe_cmpR op_isNG (pv 0) pe_non (nomark _)))) pss_nil)
  (pss_cons (ps_if (pt_val (pe_callB call_isi (by rfl) T.k_isinstance (by decide +kernel) (pa_cons (pv 1) (pa_cons (pe_bltn (v := .ty "int") (by rfl) T.k_int boot_int rfl) pa_nil)))) (pss_one (ps_ret (pe_and (pe_callB call_isi (by rfl) T.k_isinstance (by decide +kernel) (pa_cons (pv 0) (pa_cons (pe_bltn (v := .ty "int") (by rfl) T.k_int boot_int rfl) pa_nil))) (pe_and (pe_not (pe_callB call_isi (by rfl) T.k_isinstance (by decide +kernel) (pa_cons (pv 0) (pa_cons (pe_bltn (v := .ty "bool") (by rfl) T.k_bool boot_bool rfl) pa_nil)))) (pe_one (pe_cmpR (op_eqG hr.units) (pv 0) (pv 1) (nomark _))))))) pss_nil)
  (pss_cons (ps_if (pt_val (pe_callB call_isi (by rfl) T.k_isinstance (by decide +kernel) (pa_cons (pv 1) (pa_cons (pe_bltn (v := .ty "str") (by rfl) T.k_str boot_str rfl) pa_nil)))) (pss_one (ps_ret (pe_and (pe_callB call_isi (by rfl) T.k_isinstance (by decide +kernel) (pa_cons (pv 0) (pa_cons (pe_bltn (v := .ty "str") (by rfl) T.k_str boot_str rfl) pa_nil))) (pe_one (pe_cmpR (op_eqG hr.units) (pv 0) (pv 1) (nomark _)))))) pss_nil)
  (pss_cons (ps_if (PW.pt (pw_or (pt_cmpR (op_neG hr.units) (pe_callB call_isi (by rfl) T.k_isinstance (by decide +kernel) (pa_cons (pv 1) (pa_cons (pe_bltn (v := .ty "tuple") (by rfl) T.k_tuple boot_tuple rfl) pa_nil))) (pe_callB call_isi (by rfl) T.k_isinstance (by decide +kernel) (pa_cons (pv 0) (pa_cons (pe_bltn (v := .ty "tuple") (by rfl) T.k_tuple boot_tuple rfl) pa_nil))) (nomark _)) (pw_or1 (pt_cmpR (op_neG hr.units) (pe_callB call_isi (by rfl) T.k_isinstance (by decide +kernel) (pa_cons (pv 1) (pa_cons (pe_bltn (v := .ty "list") (by rfl) T.k_list boot_list rfl) pa_nil))) (pe_callB call_isi (by rfl) T.k_isinstance (by decide +kernel) (pa_cons (pv 0) (pa_cons (pe_bltn (v := .ty "list") (by rfl) T.k_list boot_list rfl) pa_nil))) (nomark _))))) (pss_one (ps_ret pe_bl)) pss_nil)
  (pss_cons (ps_if (pt_cmpR (op_neG hr.units) (pe_callB call_lenG (by rfl) T.k_len (by decide +kernel) (pa_cons (pv 0) pa_nil)) (pe_callB call_lenG (by rfl) T.k_len (by decide +kernel) (pa_cons (pv 1) pa_nil)) (nomark _)) (pss_one (ps_ret pe_bl)) pss_nil)
  (pss_one (ps_ret (pe_callB (cr_all rfl) (by rfl) T.k_all (by decide +kernel) (pa_cons (pe_lc (own := [("_law_one", 2), ("_law_other", 3)]) rfl sc__law_alike.nd (RZ.pi_zipA (by rfl) T.k_zip (pa_cons (pv 0) (pa_cons (pv 1) pa_nil))) (blkOk_by (N := ["_law_found", "_law_due_here", "_law_one", "_law_other"]) (sc := defScope s__law_alike) (by decide +kernel)) (fun _ _ _ _ _ => (pg_tup rfl (pgs_cons (pg_name (i := 2) sc__law_alike.nd rfl (by first | exact Or.inl rfl | exact Or.inr rfl)) (pgs_cons (pg_name (i := 3) sc__law_alike.nd rfl (by first | exact Or.inl rfl | exact Or.inr rfl)) pgs_nil)))) (fun _ _ _ _ _ => pts_nil) (fun _ _ _ _ _ => (pe_call okR (hr.mono (by first | exact Nat.le_refl _ | omega | (simp only [Nat.add_eq]; omega))) (by rfl) T.g__law_alike T.F__law_alike.kp (b__law_alike T) .nil pass0 (pa_cons (pv 2) (pa_cons (pv 3) pa_nil))))) pa_nil)))))))))
/-! ### Stall.waiting -/
theorem sc_Stall_waiting : FnScope ["self", "quire"] ["self", "quire"] (defScope s_Stall_waiting) := ⟨rfl, rfl, rfl, by decide +kernel, rfl, by decide +kernel, by decide +kernel⟩
def t_Stall_waiting (K : PySem.W.Frag) : TS :=
  (tSeq (tDrop (tMeth (He.ga K "Stall") "need_quire" (spD K (F_Stall_need_quire K)) [] E0 (tVar 0) (tCons (tVar 1) tNil)))
  (tRet (tCB (rListM K) (tCons (tFld K (tOp (rIx K) (tFld K (tVar 0) "quires") (tVar 1)) "line") tNil))))
def P_Stall_waiting (K : PySem.W.Frag) (a b : D) (M : Mem) (Q : D → Mem → Prop) : Prop := ∃ (n : Int) (A : WN → Addr) (w : Wd) (k : Nat) (s : ST.St) (j t : Nat), a = .ref (A (.t k .self)) ∧ b = .int j ∧ Is K n A w M ∧ w.ts k = some s ∧ Fit s t ∧ j < s.ends.length ∧ ∀ p, M p = none → Q (.ref p) (mset M p (.lst ((line s j).map dN)))
def F_Stall_waiting (K : PySem.W.Frag) : Fn := fn2 (P_Stall_waiting K)
theorem u_Stall_waiting {K : PySem.W.Frag} {a b : D} {M : Mem} {Q : D → Mem → Prop} {X : Value → List (Str × D) → Mem → Prop} (h : P_Stall_waiting K a b M Q) : F_Stall_waiting K [a, b] M Q X := use2 h
theorem w_Stall_waiting {K : PySem.W.Frag} {mg : Str → Option Value} (T : TT K mg) {a b : D} {M : Mem} {Q : D → Mem → Prop} (h : P_Stall_waiting K a b M Q) : wS (c0 K) (t_Stall_waiting K) [some a, some b] M (Zr Q) := by
  obtain ⟨n, A, w, k, s, j, t, rfl, rfl, W, hk, F, l2, q⟩ := h
  have hl := F.lines
  unfold t_Stall_waiting
  wtm_at "go"
  refine ⟨_, FV.n (W.tself hk), rfl, ?_⟩
  wtm_at "go"
  refine u_Stall_need_quire ⟨n, A, w, k, s, j, rfl, rfl, W, hk, l2, ?_⟩
  wtm_at "go"
  wtm_at "f"
  wtm_at "go"
  refine wR_ix (SV.l LV.f) (at_range l2) ?_
  wtm_at "f"
  wtm_at "go"
  exact wC_listM (SV.l (LV.n (W.tline hk (by omega)))) fun p hp => ret_eq (q p hp)
theorem b_Stall_waiting {K : PySem.W.Frag} {mg : Str → Option Value} (T : TT K mg) : Binds K (fdAt K (He.ma K (He.ga K "Stall") "waiting")) ["self", "quire"] [] := FunD.bindsN T.F_Stall_waiting fun _ _ _ _ _ _ us hl => match us, hl with | [_, _], _ => rfl
theorem ok_Stall_waiting {P : Program} {w : World} {K : PySem.W.Frag} {mg : Str → Option Value} {base : Heap} (T : TT K mg) : FnOk P w K mg base CX0 4 (He.ma K (He.ga K "Stall") "waiting") (fdAt K (He.ma K (He.ga K "Stall") "waiting")) ["self", "quire"] (spD K (F_Stall_waiting K)) := by
  refine ok_def T.F_Stall_waiting sc_Stall_waiting (t_Stall_waiting K) ?_ (fun cdv A outer s H E hr => ?_) (fun ds M Q X ⟨a, b, e, h⟩ => by subst e; exact w_Stall_waiting T h)
  · exact len2
  · have hu := hu_of hr
    exact (pss_cons (ps_expr (pe_meth (pv 0) T.cl_Stall T.mt_Stall_need_quire (ok_Stall_need_quire T) (hr.mono (by decide)) (b_Stall_need_quire T) .nil pass0 (pa_cons (pv 1) pa_nil)))
  (pss_one (ps_ret (pe_callTy call_listM (by rfl) T.k_list (by decide +kernel) (pa_cons (pe_fld (pe_ix ix_seq (pe_fld (pv 0) rfl) (pv 1) (fun _ _ => rfl)) rfl) pa_nil)))))
/-! ### Stall.holder -/
theorem sc_Stall_holder : FnScope ["self", "quire"] ["self", "quire"] (defScope s_Stall_holder) := ⟨rfl, rfl, rfl, by decide +kernel, rfl, by decide +kernel, by decide +kernel⟩
def t_Stall_holder (K : PySem.W.Frag) : TS :=
  (tSeq (tDrop (tMeth (He.ga K "Stall") "need_quire" (spD K (F_Stall_need_quire K)) [] E0 (tVar 0) (tCons (tVar 1) tNil)))
  (tRet (tFld K (tOp (rIx K) (tFld K (tVar 0) "quires") (tVar 1)) "hand")))
def P_Stall_holder (K : PySem.W.Frag) (a b : D) (M : Mem) (Q : D → Mem → Prop) : Prop := ∃ (n : Int) (A : WN → Addr) (w : Wd) (k : Nat) (s : ST.St) (j t : Nat), a = .ref (A (.t k .self)) ∧ b = .int j ∧ Is K n A w M ∧ w.ts k = some s ∧ Fit s t ∧ j < s.ends.length ∧ Q (oi (holder s j)) M
def F_Stall_holder (K : PySem.W.Frag) : Fn := fn2 (P_Stall_holder K)
theorem u_Stall_holder {K : PySem.W.Frag} {a b : D} {M : Mem} {Q : D → Mem → Prop} {X : Value → List (Str × D) → Mem → Prop} (h : P_Stall_holder K a b M Q) : F_Stall_holder K [a, b] M Q X := use2 h
theorem w_Stall_holder {K : PySem.W.Frag} {mg : Str → Option Value} (T : TT K mg) {a b : D} {M : Mem} {Q : D → Mem → Prop} (h : P_Stall_holder K a b M Q) : wS (c0 K) (t_Stall_holder K) [some a, some b] M (Zr Q) := by
  obtain ⟨n, A, w, k, s, j, t, rfl, rfl, W, hk, F, l2, q⟩ := h
  unfold t_Stall_holder
  wtm_at "go"
  refine ⟨_, FV.n (W.tself hk), rfl, ?_⟩
  wtm_at "go"
  refine u_Stall_need_quire ⟨n, A, w, k, s, j, rfl, rfl, W, hk, l2, ?_⟩
  wtm_at "go"
  wtm_at "f"
  wtm_at "go"
  refine wR_ix (SV.l LV.f) (at_range l2) ?_
  wtm_at "f"
  exact ret_eq q
theorem b_Stall_holder {K : PySem.W.Frag} {mg : Str → Option Value} (T : TT K mg) : Binds K (fdAt K (He.ma K (He.ga K "Stall") "holder")) ["self", "quire"] [] := FunD.bindsN T.F_Stall_holder fun _ _ _ _ _ _ us hl => match us, hl with | [_, _], _ => rfl
theorem ok_Stall_holder {P : Program} {w : World} {K : PySem.W.Frag} {mg : Str → Option Value} {base : Heap} (T : TT K mg) : FnOk P w K mg base CX0 4 (He.ma K (He.ga K "Stall") "holder") (fdAt K (He.ma K (He.ga K "Stall") "holder")) ["self", "quire"] (spD K (F_Stall_holder K)) := by
  refine ok_def T.F_Stall_holder sc_Stall_holder (t_Stall_holder K) ?_ (fun cdv A outer s H E hr => ?_) (fun ds M Q X ⟨a, b, e, h⟩ => by subst e; exact w_Stall_holder T h)
  · exact len2
  · have hu := hu_of hr
    exact (pss_cons (ps_expr (pe_meth (pv 0) T.cl_Stall T.mt_Stall_need_quire (ok_Stall_need_quire T) (hr.mono (by decide)) (b_Stall_need_quire T) .nil pass0 (pa_cons (pv 1) pa_nil)))
  (pss_one (ps_ret (pe_fld (pe_ix ix_seq (pe_fld (pv 0) rfl) (pv 1) (fun _ _ => rfl)) rfl))))
/-! ### _law_told -/
theorem sc__law_told : FnScope ["_law_stall", "_law_state_here", "_law_quire_here", "_law_found", "_law_again"] ["_law_stall", "_law_state_here"] (defScope s__law_told) := ⟨rfl, rfl, rfl, by decide +kernel, rfl, by decide +kernel, by decide +kernel⟩
def t__law_told (K : PySem.W.Frag) : TS :=
  (tSeq (tFor (iRng1 (tCons (tCB (rLenG K) (tCons (tDGet (tVar 1) (tC (.str "ends"))) tNil)) tNil)) (gName 2) (tSeq (tAsg (tMeth (He.ga K "Stall") "waiting" (spD K (F_Stall_waiting K)) [] E0 (tVar 0) (tCons (tVar 2) tNil)) (gName 3))
  (tSeq (tAsg (tMeth (He.ga K "Stall") "waiting" (spD K (F_Stall_waiting K)) [] E0 (tVar 0) (tCons (tVar 2) tNil)) (gName 4))
  (tSeq (tIfS (tNot (tB (tCall (spD K (F__law_alike 3 K)) [] E0 (tCons (tMeth (He.ga K "Stall") "holder" (spD K (F_Stall_holder K)) [] E0 (tVar 0) (tCons (tVar 2) tNil)) (tCons (tOp (rIx K) (tDGet (tVar 1) (tC (.str "holders"))) (tVar 2)) tNil))))) (tRet (tC (.bl false))) tNext)
  (tSeq (tIfS (tNot (tB (tCall (spD K (F__law_alike 3 K)) [] E0 (tCons (tVar 3) (tCons (tOp (rIx K) (tDGet (tVar 1) (tC (.str "lines"))) (tVar 2)) tNil))))) (tRet (tC (.bl false))) tNext)
  (tSeq (tDrop (tBM K "list" rAppend (tVar 3) (tCons (tC (.int 0)) tNil)))
  (tSeq (tIfS (tNot (tB (tCall (spD K (F__law_alike 3 K)) [] E0 (tCons (tVar 4) (tCons (tOp (rIx K) (tDGet (tVar 1) (tC (.str "lines"))) (tVar 2)) tNil))))) (tRet (tC (.bl false))) tNext)
  (tIfS (tNot (tB (tCall (spD K (F__law_alike 3 K)) [] E0 (tCons (tMeth (He.ga K "Stall") "waiting" (spD K (F_Stall_waiting K)) [] E0 (tVar 0) (tCons (tVar 2) tNil)) (tCons (tOp (rIx K) (tDGet (tVar 1) (tC (.str "lines"))) (tVar 2)) tNil))))) (tRet (tC (.bl false))) tNext))))))))
  (tRet (tC (.bl true))))
def P__law_told (K : PySem.W.Frag) (a b : D) (M : Mem) (Q : D → Mem → Prop) : Prop := ∃ (n : Int) (A : WN → Addr) (w : Wd) (k : Nat) (t : Nat), a = .ref (A (.t k .self)) ∧ b = .ref (A (.s .dict)) ∧ Is K n A w M ∧ w.ts k = some w.st ∧ Fit w.st t ∧ t ≤ 900 ∧ Q (.bl true) M
def F__law_told (K : PySem.W.Frag) : Fn := fn2 (P__law_told K)
theorem u__law_told {K : PySem.W.Frag} {a b : D} {M : Mem} {Q : D → Mem → Prop} {X : Value → List (Str × D) → Mem → Prop} (h : P__law_told K a b M Q) : F__law_told K [a, b] M Q X := use2 h
theorem w__law_told {K : PySem.W.Frag} {mg : Str → Option Value} (T : TT K mg) {a b : D} {M : Mem} {Q : D → Mem → Prop} (h : P__law_told K a b M Q) : wS (c0 K) (t__law_told K) [some a, some b, none, none, none] M (Zr Q) := by
  obtain ⟨n, A, w, k, t, rfl, rfl, W, hk, F, ht, q⟩ := h
  have hl := F.lines
  have hh := F.hol
  have q1 := F.q1
  unfold t__law_told
  have lik : ∀ (j : Nat), j < w.st.ends.length → Lik 2 (.lst ((line w.st j).map dN)) := fun j hj => by
    have lm := (F.line _ (line_mem (s := w.st) (q := j) (by omega))).1
    refine ⟨by rw [List.length_map]; omega, fun x hx => ?_⟩
    obtain ⟨y, _, rfl⟩ := List.mem_map.mp hx
    exact trivial
  have liko : ∀ x : Option Nat, Lik 2 (oi x) := fun x => by cases x <;> exact trivial
  have fr : ∀ {M1 : Mem} {p : Addr} {x : Nd}, M1 p = none → Sub M1 (mset M1 p x) := fun h => Sub.mset h
  wtm_at "go"
  refine vS_for (wI_rng1 ?_)
  wtm_at "go"
  wtm_at "d"
  wtm_at "go"
  refine ⟨by rw [List.length_map]; omega, by omega, fun i Γ' M' => Sub M M' ∧ ∃ g2 g3 g4 : Option D, Γ' = [some (.ref (A (.t k .self))), some (.ref (A (.s .dict))), g2, g3, g4], ⟨Sub.refl _, _, _, _, rfl⟩, ?_, ?_⟩
  · rintro i d Γ' M' hi ⟨sb, g2, g3, g4, rfl⟩
    replace W := W.grow sb
    obtain ⟨hi1, rfl⟩ := rngD_get hi
    have hi2 : i < w.st.ends.length := by rw [List.length_map] at hi1; omega
    have e0 : D.int (0 + (i : Int)) = dN i := by rw [Int.zero_add]
    rw [e0]
    wtm_at "go"
    refine ⟨_, FV.n (W.tself hk), rfl, ?_⟩
    wtm_at "go"
    refine u_Stall_waiting ⟨n, A, w, k, w.st, i, t, rfl, rfl, W, hk, F, hi2, fun p1 hp1 => ?_⟩
    wtm_at "go"
    have W1 := W.fresh (d := .lst ((line w.st i).map dN)) hp1
    refine ⟨_, FV.n (W1.tself hk), rfl, ?_⟩
    wtm_at "go"
    refine u_Stall_waiting ⟨n, A, w, k, w.st, i, t, rfl, rfl, W1, hk, F, hi2, fun p2 hp2 => ?_⟩
    obtain ⟨n21, hp2'⟩ := fresh2 hp2
    have W2 := W1.fresh (d := .lst ((line w.st i).map dN)) hp2
    wtm_at "go"
    -- the holder
    refine ⟨_, FV.n (W2.tself hk), rfl, ?_⟩
    wtm_at "go"
    refine u_Stall_holder ⟨n, A, w, k, w.st, i, t, rfl, rfl, W2, hk, F, hi2, ?_⟩
    wtm_at "go"
    wtm_at "d"
    wtm_at "go"
    refine wR_ix (SV.l (LV.n W2.hol)) (at_map (get_holder (by omega))) ?_
    wtm_at "go"
    refine u__law_alike (frz2 (.same _) (.same _)) ⟨rfl, liko _, trivial, ?_⟩
    wtm_at "go"
    wtm_at "d"
    wtm_at "go"
    refine wR_ix (SV.l LV.f) (at_range hi2) ?_
    wtm_at "go"
    have f1 : mset (mset M' p1 (.lst ((line w.st i).map dN))) p2 (.lst ((line w.st i).map dN)) p1 = some (.lst ((line w.st i).map dN)) := by
      rw [mset_ne (Ne.symm n21), mset_same]
    refine u__law_alike (frz2 (.lst f1 (.same _)) (.lst (W2.line (by omega)) (.same _))) ⟨rfl, lik i hi2, trivial, ?_⟩
    wtm_at "go"
    refine wE_app (a := p1) (wE_var rfl ⟨rfl, rfl⟩) f1 ?_
    wtm_at "go"
    refine ⟨f1, by have := (lik i hi2).1; omega, ?_⟩
    have e5 : mset (mset (mset M' p1 (.lst ((line w.st i).map dN))) p2 (.lst ((line w.st i).map dN))) p1 (.lst ((line w.st i).map dN ++ [.int 0])) = mset (mset M' p1 (.lst ((line w.st i).map dN ++ [.int 0]))) p2 (.lst ((line w.st i).map dN)) := by
      funext x
      unfold mset
      by_cases x1 : x = p1
      · rw [if_pos x1, if_neg (by rw [x1]; exact Ne.symm n21), if_pos x1]
      · rw [if_neg x1, if_neg x1, if_neg x1]
    rw [e5]
    have W3 := (W.fresh (d := .lst ((line w.st i).map dN ++ [.int 0])) hp1).fresh (p := p2) (d := .lst ((line w.st i).map dN)) (by rw [mset_ne n21]; exact hp2')
    wtm_at "go"
    wtm_at "d"
    wtm_at "go"
    refine wR_ix (SV.l LV.f) (at_range hi2) ?_
    wtm_at "go"
    refine u__law_alike (frz2 (.lst mset_same (.same _)) (.lst (W3.line (by omega)) (.same _))) ⟨rfl, lik i hi2, trivial, ?_⟩
    wtm_at "go"
    refine ⟨_, FV.n (W3.tself hk), rfl, ?_⟩
    wtm_at "go"
    refine u_Stall_waiting ⟨n, A, w, k, w.st, i, t, rfl, rfl, W3, hk, F, hi2, fun p3 hp3 => ?_⟩
    have W4 := W3.fresh (d := .lst ((line w.st i).map dN)) hp3
    wtm_at "go"
    wtm_at "d"
    wtm_at "go"
    refine wR_ix (SV.l LV.f) (at_range hi2) ?_
    wtm_at "go"
    refine u__law_alike (frz2 (.lst mset_same (.same _)) (.lst (W4.line (by omega)) (.same _))) ⟨rfl, lik i hi2, trivial, ?_⟩
    wtm_at "go"
    exact ⟨sb.trans ((Sub.mset hp1).trans ((Sub.mset (by rw [mset_ne n21]; exact hp2')).trans (Sub.mset hp3))), _, _, _, rfl⟩
  · rintro Γ' M' ⟨sb, g2, g3, g4, rfl⟩
    wtm_at "go"
    exact ⟨M, sb, q⟩
theorem b__law_told {K : PySem.W.Frag} {mg : Str → Option Value} (T : TT K mg) : Binds K (fdAt K (He.ga K "_law_told")) ["_law_stall", "_law_state_here"] [] := FunD.bindsN T.F__law_told fun _ _ _ _ _ _ us hl => match us, hl with | [_, _], _ => rfl
theorem ok__law_told {P : Program} {w : World} {K : PySem.W.Frag} {mg : Str → Option Value} {base : Heap} (T : TT K mg) : FnOk P w K mg base CX0 6 (He.ga K "_law_told") (fdAt K (He.ga K "_law_told")) ["_law_stall", "_law_state_here"] (spD K (F__law_told K)) := by
  refine ok_def T.F__law_told sc__law_told (t__law_told K) ?_ (fun cdv A outer s H E hr => ?_) (fun ds M Q X ⟨a, b, e, h⟩ => by subst e; exact w__law_told T h)
  · exact len2
  · have hu := hu_of hr
    exact (pss_cons (ps_for PassesOwn.never rfl (pi_range1 (by rfl) T.k_range (pa_cons (pe_callB call_lenG (by rfl) T.k_len (by decide +kernel) (pa_cons (pe_dget hu (pv 1) pe_str (fun _ _ => rfl)) pa_nil)) pa_nil)) (pg_name (i := 2) sc__law_told.nd rfl (Or.inl rfl)) (pss_cons (ps_set (i := 3) sc__law_told.nd rfl (Or.inl rfl) (pe_meth (pv 0) T.cl_Stall T.mt_Stall_waiting (ok_Stall_waiting T) (hr.mono (by decide)) (b_Stall_waiting T) .nil pass0 (pa_cons (pv 2) pa_nil)))
  (pss_cons (ps_set (i := 4) sc__law_told.nd rfl (Or.inl rfl) (pe_meth (pv 0) T.cl_Stall T.mt_Stall_waiting (ok_Stall_waiting T) (hr.mono (by decide)) (b_Stall_waiting T) .nil pass0 (pa_cons (pv 2) pa_nil)))
  (pss_cons (ps_if (pt_not (pt_val (pe_call (ok__law_alike T 3) (hr.mono (by decide)) (by rfl) T.g__law_alike T.F__law_alike.kp (b__law_alike T) .nil pass0 (pa_cons (pe_meth (pv 0) T.cl_Stall T.mt_Stall_holder (ok_Stall_holder T) (hr.mono (by decide)) (b_Stall_holder T) .nil pass0 (pa_cons (pv 2) pa_nil)) (pa_cons (pe_ix ix_seq (pe_dget hu (pv 1) pe_str (fun _ _ => rfl)) (pv 2) (fun _ _ => rfl)) pa_nil))))) (pss_one (ps_ret pe_bl)) pss_nil)
  (pss_cons (ps_if (pt_not (pt_val (pe_call (ok__law_alike T 3) (hr.mono (by decide)) (by rfl) T.g__law_alike T.F__law_alike.kp (b__law_alike T) .nil pass0 (pa_cons (pv 3) (pa_cons (pe_ix ix_seq (pe_dget hu (pv 1) pe_str (fun _ _ => rfl)) (pv 2) (fun _ _ => rfl)) pa_nil))))) (pss_one (ps_ret pe_bl)) pss_nil)
  (pss_cons (ps_expr (pe_bm PySem.F.plainAttrs_list PySem.F.slot_list_append PySem.F.type_list_append mt_append (pv 3) (pa_cons pe_int pa_nil)))
  (pss_cons (ps_if (pt_not (pt_val (pe_call (ok__law_alike T 3) (hr.mono (by decide)) (by rfl) T.g__law_alike T.F__law_alike.kp (b__law_alike T) .nil pass0 (pa_cons (pv 4) (pa_cons (pe_ix ix_seq (pe_dget hu (pv 1) pe_str (fun _ _ => rfl)) (pv 2) (fun _ _ => rfl)) pa_nil))))) (pss_one (ps_ret pe_bl)) pss_nil)
  (pss_one (ps_if (pt_not (pt_val (pe_call (ok__law_alike T 3) (hr.mono (by decide)) (by rfl) T.g__law_alike T.F__law_alike.kp (b__law_alike T) .nil pass0 (pa_cons (pe_meth (pv 0) T.cl_Stall T.mt_Stall_waiting (ok_Stall_waiting T) (hr.mono (by decide)) (b_Stall_waiting T) .nil pass0 (pa_cons (pv 2) pa_nil)) (pa_cons (pe_ix ix_seq (pe_dget hu (pv 1) pe_str (fun _ _ => rfl)) (pv 2) (fun _ _ => rfl)) pa_nil))))) (pss_one (ps_ret pe_bl)) pss_nil)))))))))
  (pss_one (ps_ret pe_bl)))
/-! ### law -/
theorem sc_law : FnScope ["_law_script", "_law_deck_here", "_law_state_here", "_law_stall", "_law_late", "_law_turn", "_law_deed", "_law_due_here"] ["_law_script"] (defScope s_law) := ⟨rfl, rfl, rfl, by decide +kernel, rfl, by decide +kernel, by decide +kernel⟩
def t_law (K : PySem.W.Frag) : TS :=
  (tSeq (tAsg (tCall (spD K (F__law_deck K)) [] E0 (tCons (tVar 0) (tCons (tC (.int 900)) tNil))) (gName 1))
  (tSeq (tAsg (tCall (spD K (F__law_state K)) [] E0 (tCons (tVar 1) (tCons (tC (.int 40)) tNil))) (gName 2))
  (tSeq (tAsg (tMake (He.ga K "Stall") (spD K (F_Stall___init__ K)) [] E0 (tCons (tCB (rTupG K) (tCons (tDGet (tVar 2) (tC (.str "row"))) tNil)) (tCons (tDGet (tVar 2) (tC (.str "seams"))) (tCons (tCB (rLenG K) (tCons (tDGet (tVar 2) (tC (.str "wanted"))) tNil)) tNil)))) (gName 3))
  (tSeq (tAsg (tOp (rEqG K) (tOp rModG (tCall (spD K (F__law_next K)) [] E0 (tCons (tVar 1) tNil)) (tC (.int 2))) (tC (.int 1))) (gName 4))
  (tSeq (tFor (iRng1 (tCons (tOp (rAddG K) (tC (.int 10)) (tOp rModG (tCall (spD K (F__law_next K)) [] E0 (tCons (tVar 1) tNil)) (tC (.int 61)))) tNil)) (gName 5) (tSeq (tAsg (tCall (spD K (F__law_drawn K)) [] E0 (tCons (tVar 1) (tCons (tVar 2) tNil))) (gName 6))
  (tIfS (tTest (tOp rNotNG (tVar 6) (tC .non))) (tSeq (tAsg (tCall (spD K (F__law_due K)) [] E0 (tCons (tVar 2) (tCons (tVar 6) tNil))) (gName 7))
  (tSeq (tIfS (tNot (tB (tCall (spD K (F__law_alike 3 K)) [] E0 (tCons (tCall (spD K (F__law_done K)) [] E0 (tCons (tVar 3) (tCons (tVar 6) tNil))) (tCons (tVar 7) tNil))))) (tRet (tC (.bl false))) tNext)
  (tIfS (tAnd (tNot (tB (tVar 4))) (tAnd (tTest (tOp (rEqG K) (tOp rModG (tCall (spD K (F__law_next K)) [] E0 (tCons (tVar 1) tNil)) (tC (.int 2))) (tC (.int 1)))) (tNot (tB (tCall (spD K (F__law_told K)) [] E0 (tCons (tVar 3) (tCons (tVar 2) tNil))))))) (tRet (tC (.bl false))) tNext))) tNext)))
  (tRet (tCall (spD K (F__law_told K)) [] E0 (tCons (tVar 3) (tCons (tVar 2) tNil)))))))))
def P_law (K : PySem.W.Frag) (a : D) (M : Mem) (Q : D → Mem → Prop) : Prop := ∃ ns : List Int, a = .scr ns ∧ ns.length ≤ 63 ∧ ∀ M', Q (.bl true) M'
def F_law (K : PySem.W.Frag) : Fn := fn1 (P_law K)
theorem u_law {K : PySem.W.Frag} {a : D} {M : Mem} {Q : D → Mem → Prop} {X : Value → List (Str × D) → Mem → Prop} (h : P_law K a M Q) : F_law K [a] M Q X := use1 h
theorem w_law {K : PySem.W.Frag} {mg : Str → Option Value} (T : TT K mg) {a : D} {M : Mem} {Q : D → Mem → Prop} (h : P_law K a M Q) : wS (c0 K) (t_law K) [some a, none, none, none, none, none, none, none] M (Zr Q) := by
  obtain ⟨ns, rfl, hn, q⟩ := h
  unfold t_law
  wtm_at "go"
  refine u__law_deck ⟨ns, 900, rfl, rfl, hn, by omega, fun p hp => ?_⟩
  wtm_at "go"
  have hd : Deck 1000 (mset M p (.ext (LExt (DeckP 1000) p))) p := mset_same
  refine u__law_state ⟨p, 40, rfl, rfl, hd, by omega, by omega, fun row seams hands giv A M2 F s3 G => ?_⟩
  generalize mset M p (.ext (LExt (DeckP 1000) p)) = M1 at *
  wtm_at "go"
  refine ⟨_, _, _, _, rfl, rfl, G.at_ .dict _ rfl, val_row, ?_⟩
  wtm_at "go"
  refine wC_tupL (LV.n (G.at_ .row _ rfl)) ?_
  wtm_at "go"
  refine ⟨_, _, _, _, rfl, rfl, G.at_ .dict _ rfl, val_seams, ?_⟩
  wtm_at "go"
  refine ⟨_, _, _, _, rfl, rfl, G.at_ .dict _ rfl, val_wanted, ?_⟩
  wtm_at "go"
  refine wC_len (SV.l (LV.n (G.at_ .want _ rfl))) ?_
  wtm_at "go"
  intro sa ha
  have f1 := F.n1
  have f2 := F.h1
  have es : (start row seams hands giv).ends.dropLast = seams := by simp [ST.start]
  have ew : (start row seams hands giv).want.length = hands := by simp [ST.start]
  have er : (start row seams hands giv).row = row := rfl
  rw [er] at f1
  rw [ew] at f2
  rw [es, er, List.length_map, ew]
  refine u_Stall___init__ ⟨sa, row, seams, hands, rfl, rfl, rfl, rfl, by omega, by omega, by omega, M2, rfl, ha, fun B M3 e G2 => ⟨rfl, ?_⟩⟩
  subst e
  obtain ⟨N, w, eN0, eN1, eN2, W, hk, F⟩ : ∃ (N : WN → Addr) (w : Wd), p = N .deck ∧ A .dict = N (.s .dict) ∧ B .self = N (.t 0 .self) ∧ Is K 1000 N w M3 ∧ w.ts 0 = some w.st ∧ Fit w.st 0 :=
    ⟨_, _, rfl, rfl, rfl, mk_is hd G (G2.as (fun n => by cases n <;> rfl) (fun _ _ => rfl)), rfl, F⟩
  rw [eN0, eN1, eN2]
  clear hd G G2 eN0 eN1 eN2 es ew er f1 f2 ha
  wtm_at "go"
  refine u__law_next ⟨_, rfl, W.deck, fun y1 _ _ => ?_⟩
  wtm_at "go"
  generalize decide (y1 % 2 = 1) = late
  refine vS_for (wI_rng1 ?_)
  wtm_at "go"
  refine u__law_next ⟨_, rfl, W.deck, fun y2 _ _ => ?_⟩
  wtm_at "go"
  have b0 := Int.emod_nonneg y2 (show (61 : Int) ≠ 0 by decide)
  have b1 := Int.emod_lt_of_pos y2 (show (0 : Int) < 61 by decide)
  generalize y2 % 61 = y2 at *
  refine ⟨by omega, by omega, fun i Γ' M' => ∃ w : Wd, Is K 1000 N w M' ∧ w.ts 0 = some w.st ∧ Fit w.st i ∧ ∃ g5 g6 g7 : Option D, Γ' = [some (.scr ns), some (.ref (N .deck)), some (.ref (N (.s .dict))), some (.ref (N (.t 0 .self))), some (.bl late), g5, g6, g7], ⟨w, W, hk, F, _, _, _, rfl⟩, ?_, ?_⟩
  · clear W hk F
    rintro i d Γ' M' hi ⟨w, W, hk, F, g5, g6, g7, rfl⟩
    obtain ⟨hi1, rfl⟩ := rngD_get hi
    have hi2 : i ≤ 100 := by omega
    wtm_at "go"
    refine u__law_drawn ⟨N, w, i, rfl, rfl, W, F, ?_, fun d L => ?_⟩
    · wtm_at "go"
      exact ⟨w, W, hk, F.mono (by omega), _, _, _, rfl⟩
    wtm_at "go"
    rw [isNon_deed]
    wtm_at "go"
    refine u__law_due ⟨1000, N, w, d, i, rfl, rfl, W, F, by omega, L, fun M1 W1 => ?_⟩
    wtm_at "go"
    refine u__law_done ⟨1000, N, _, 0, w.st, d, i, rfl, rfl, W1, hk, F, by omega, L, fun M2 W2 => ?_⟩
    wtm_at "go"
    have la : Lik 2 (ans w.st d) := by
      cases d with
      | mend p z => exact trivial
      | give h q => show Lik 2 (oi (line w.st q).head?); cases (line w.st q).head? <;> exact trivial
      | ask h q => show Lik 2 (if holder w.st q = none then .str "held" else .str "waits"); split <;> exact trivial
    refine u__law_alike (frz2 (.same _) (.same _)) ⟨rfl, la, trivial, ?_⟩
    wtm_at "go"
    have hk2 : (Wd.put { w with st := did w.st d } 0 (did w.st d)).ts 0 = some (Wd.put { w with st := did w.st d } 0 (did w.st d)).st := put_at
    have F2 := F.did L
    refine vS_ifP (fun z => z = false) ?_ (fun z => by cases z) fun _ => ?_
    · refine wT_and (wT_not (wT_B (wE_var rfl ⟨late, rfl, fun _ => ?_, fun _ => ⟨rfl, rfl⟩⟩)))
      refine wT_and ?_
      wtm_at "go"
      refine u__law_next ⟨_, rfl, W2.deck, fun y3 _ _ => ?_⟩
      wtm_at "go"
      refine ⟨fun _ => ?_, fun _ => ⟨rfl, rfl⟩⟩
      wtm_at "go"
      refine u__law_told ⟨1000, N, _, 0, i + 1, rfl, rfl, W2, hk2, F2, by omega, ?_⟩
      wtm_at "go"
      exact ⟨rfl, rfl⟩
    · wtm_at "go"
      exact ⟨_, W2, hk2, F2, _, _, _, rfl⟩
  · rintro Γ' M' ⟨w, W, hk, F, g5, g6, g7, rfl⟩
    rw [rngD_len] at F
    wtm_at "go"
    exact u__law_told ⟨1000, N, w, 0, _, rfl, rfl, W, hk, F, by omega, ret_eq (q _)⟩
theorem b_law {K : PySem.W.Frag} {mg : Str → Option Value} (T : TT K mg) : Binds K (fdAt K (He.ga K "law")) ["_law_script"] [] := FunD.bindsN T.F_law fun _ _ _ _ _ _ us hl => match us, hl with | [_], _ => rfl
theorem ok_law {P : Program} {w : World} {K : PySem.W.Frag} {mg : Str → Option Value} {base : Heap} (T : TT K mg) : FnOk P w K mg base CX0 10 (He.ga K "law") (fdAt K (He.ga K "law")) ["_law_script"] (spD K (F_law K)) := by
  refine ok_def T.F_law sc_law (t_law K) ?_ (fun cdv A outer s H E hr => ?_) (fun ds M Q X ⟨a, e, h⟩ => by subst e; exact w_law T h)
  · exact len1
  · have hu := hu_of hr
    exact (pss_cons (ps_set (i := 1) sc_law.nd rfl (Or.inl rfl) (pe_call (ok__law_deck T) (hr.mono (by decide)) (by rfl) T.g__law_deck T.F__law_deck.kp (b__law_deck T) .nil pass0 (pa_cons (pv 0) (pa_cons pe_int pa_nil))))
  (pss_cons (ps_set (i := 2) sc_law.nd rfl (Or.inl rfl) (pe_call (ok__law_state T) (hr.mono (by decide)) (by rfl) T.g__law_state T.F__law_state.kp (b__law_state T) .nil pass0 (pa_cons (pv 1) (pa_cons pe_int pa_nil))))
  (pss_cons (ps_set (i := 3) sc_law.nd rfl (Or.inl rfl) (pe_make T.m_Stall (ok_Stall___init__ T) (hr.mono (by decide)) (by rfl) T.g_Stall (b_Stall___init__ T) .nil pass0 (pa_cons (pe_callTy call_tupG (by rfl) T.k_tuple (by decide +kernel) (pa_cons (pe_dget hu (pv 2) pe_str (fun _ _ => rfl)) pa_nil)) (pa_cons (pe_dget hu (pv 2) pe_str (fun _ _ => rfl)) (pa_cons (pe_callB call_lenG (by rfl) T.k_len (by decide +kernel) (pa_cons (pe_dget hu (pv 2) pe_str (fun _ _ => rfl)) pa_nil)) pa_nil)))))
  (pss_cons (ps_set (i := 4) sc_law.nd rfl (Or.inl rfl) (pe_cmpR (op_eqG hr.units) (pe_op op_modG (pe_call (ok__law_next T) (hr.mono (by decide)) (by rfl) T.g__law_next T.F__law_next.kp (b__law_next T) .nil pass0 (pa_cons (pv 1) pa_nil)) pe_int) pe_int (nomark _)))
  (pss_cons (ps_for PassesOwn.never rfl (pi_range1 (by rfl) T.k_range (pa_cons (pe_op op_addG pe_int (pe_op op_modG (pe_call (ok__law_next T) (hr.mono (by decide)) (by rfl) T.g__law_next T.F__law_next.kp (b__law_next T) .nil pass0 (pa_cons (pv 1) pa_nil)) pe_int)) pa_nil)) (pg_name (i := 5) sc_law.nd rfl (Or.inl rfl)) (pss_cons (ps_set (i := 6) sc_law.nd rfl (Or.inl rfl) (pe_call (ok__law_drawn T) (hr.mono (by decide)) (by rfl) T.g__law_drawn T.F__law_drawn.kp (b__law_drawn T) .nil pass0 (pa_cons (pv 1) (pa_cons (pv 2) pa_nil))))
  (pss_one (ps_if (pt_cmpR op_notNG (pv 6) pe_non (nomark _)) (pss_cons (ps_set (i := 7) sc_law.nd rfl (Or.inl rfl) (pe_call (ok__law_due T) (hr.mono (by decide)) (by rfl) T.g__law_due T.F__law_due.kp (b__law_due T) .nil pass0 (pa_cons (pv 2) (pa_cons (pv 6) pa_nil))))
  (pss_cons (ps_if (pt_not (pt_val (pe_call (ok__law_alike T 3) (hr.mono (by decide)) (by rfl) T.g__law_alike T.F__law_alike.kp (b__law_alike T) .nil pass0 (pa_cons (pe_call (ok__law_done T) (hr.mono (by decide)) (by rfl) T.g__law_done T.F__law_done.kp (b__law_done T) .nil pass0 (pa_cons (pv 3) (pa_cons (pv 6) pa_nil))) (pa_cons (pv 7) pa_nil))))) (pss_one (ps_ret pe_bl)) pss_nil)
  (pss_one (ps_if (PW.pt (pw_and (pt_not (pt_val (pv 4))) (pw_and (pt_cmpR (op_eqG hr.units) (pe_op op_modG (pe_call (ok__law_next T) (hr.mono (by decide)) (by rfl) T.g__law_next T.F__law_next.kp (b__law_next T) .nil pass0 (pa_cons (pv 1) pa_nil)) pe_int) pe_int (nomark _)) (pw_and1 (pt_not (pt_val (pe_call (ok__law_told T) (hr.mono (by decide)) (by rfl) T.g__law_told T.F__law_told.kp (b__law_told T) .nil pass0 (pa_cons (pv 3) (pa_cons (pv 2) pa_nil))))))))) (pss_one (ps_ret pe_bl)) pss_nil)))) pss_nil))))
  (pss_one (ps_ret (pe_call (ok__law_told T) (hr.mono (by decide)) (by rfl) T.g__law_told T.F__law_told.kp (b__law_told T) .nil pass0 (pa_cons (pv 3) (pa_cons (pv 2) pa_nil))))))))))
def loose : List PySem.Str := (["_wall", "__name__", "CopyError", "NoHand", "Waits", "Held", "NotHeld", "is_number", "is_within", "Quire", "quires_of", "Stall", "_law_mixed", "_law_deck", "_law_next", "_law_letters", "_law_reading", "_law_seams", "_law_state", "_law_quire", "_law_given", "_law_asked", "_law_drawn", "_law_due", "_law_done", "_law_alike", "_law_told"] : List PySem.Str)
set_option maxHeartbeats 0
abbrev R : PySem.W.OpenRow := PySem.W.OpenLaw.row PySem.Challenge.rw_copystem_k75_quires_lent
abbrev hk : PySem.W.Hook := He.hookD 5 fa fn
def ob (s : PySem.W.SharedT) : He.AlD := He.obsDG 5 fa fn (HandSHeadRun.getT s)
theorem ob_eq (s : PySem.W.SharedT) : ob s = hk.obs s.abs := He.obsDG_eq (HandSHeadRun.getT_eq s)
theorem run (w : World) : HandSHeadRun.RunEq R (PySem.W.view R.prog [30]) hk ob 6000 loose w := by
  intro os
  kernel_rfl
theorem told {P : Program} {w : World} {K : PySem.W.Frag} {h : Heap} {mg : Str → Option Value} {f : Addr}
    (X : K.In h) (G : h.Ns mainGlobals mg) (hfa : mg ("law" : Str) = some (.ref f)) (c : He.SaysD fa fn K) :
    ∃ fd : FuncData, (∀ (s : Shared) (v : Value), BindsTo s fd ⟨[v], []⟩ [("_law_script", v)]) ∧
      ∀ base : Heap, K.In base → base.Ns mainGlobals mg → FnOk P w K mg base CX0 10 f fd ["_law_script"] (spD K (F_law K)) := by
  have T := tt_of X G c
  have e := hfa.symm.trans T.g_law
  cases e
  have b := FunD.bindsA (ps := ["_law_script"]) T.F_law fun _ _ _ _ _ _ us hl => match us, hl with | [_], _ => rfl
  exact ⟨_, fun s v => b s [v] rfl, fun base _ _ => ok_law T⟩
end Pf
set_option maxHeartbeats 0
open PySem PySem.W PySem.Calls PyProof.Rows
theorem PySem.Challenge.cw_copystem_k75_quires_lent_holds : PySem.Challenge.rw_copystem_k75_quires_lent.Holds := by
  w_on; o_law
  refine HandSHeadRun.head_any (r := OpenLaw.row PySem.Challenge.rw_copystem_k75_quires_lent) (q := view (OpenLaw.row PySem.Challenge.rw_copystem_k75_quires_lent).prog [30]) (H := Pf.hk) (ob := Pf.ob) (M := 6000) (loose := Pf.loose)
    (d := HandSHeadRun.topDef (OpenLaw.row PySem.Challenge.rw_copystem_k75_quires_lent).prog 30) (kwd := []) Pf.ob_eq (by kernel_rfl) (fun s => by kernel_rfl) Pf.run (by kernel_rfl) (by kernel_rfl) (by kernel_rfl)
    (by rfl) (by first | assumption | decide +kernel) (by decide +kernel) ⟨rfl, rfl, rfl, rfl, rfl, by decide +kernel⟩ ?hw ?hc
  case hw => w_witness2
  case hc =>
    refine L2.walk_ofE (l := PySem.Challenge.rw_copystem_k75_quires_lent) (n := 63) (k := 10) (x := "_law_script") (CX := L2.CX0) rfl (by decide) (by kernel_rfl) ⟨rfl, by decide, by decide⟩ ?F (fun _ _ _ _ z => z)
    intro w mg fa h Y G hmg0
    obtain ⟨K, KX, c⟩ := Y
    have hmg : mg ("law" : PySem.Str) = some (.ref fa) := by
      have e : (HandSHeadRun.topDef (OpenLaw.row PySem.Challenge.rw_copystem_k75_quires_lent).prog 30).name = ("law" : PySem.Str) := by kernel_rfl
      rw [← e]
      exact hmg0
    obtain ⟨fd, hb, hF⟩ := Pf.told (P := (PySem.Challenge.rw_copystem_k75_quires_lent).prog) (w := w) KX G hmg c
    refine ⟨K, fd, DL.spD K (Pf.F_law K), KX, hb, fun H a ns hl _ hS => ?_, hF⟩
    refine ⟨H, fun _ => none, DL.nomem, [.scr ns], fun d _ => d = .bl true, fun _ _ _ => False, ⟨L2.Same.refl _, fun _ _ q => (by cases q), fun _ _ q => (by cases q)⟩, .cons (.scr hS) .nil, ⟨_, rfl, ns, rfl, hl, fun _ => rfl⟩, fun Hd' H' M' v d s C r q => ?_, fun _ _ _ _ _ _ _ _ _ f => f.elim⟩
    subst q
    cases r
    rfl
