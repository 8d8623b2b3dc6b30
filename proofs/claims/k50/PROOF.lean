import PyProof.Rows.All
import Wide.All
import OpenK.AllK
import Wide.FinOn
import HandS.ForMost
import HandS.Deep
import HandS.Wide
import HandS.Flow
import HandS.IsInst
import HandS.Conv
import HandS.TupLe
import HandS.TupAny
import HandS.Style
import HandS.More
import HandS.Defaults
import HandS.SortInts
import HandS.SortRule
import HandS.TupMul
import HandS.Zip
import HandS.SetFor
import HandS.TupSets
import KE.KSortTupG
import KE.GoesEnum
import HandS.Head0
import HandS.Head1
import HandS.Head2
import HandS.HeadEnd
import HandS.HeadHook1
import HandS.HeadHook2
import HandS.Strs
import KE.KStateDown
import Lean
import PySem.Challenge.RW_mapwide_k50_whole_proofs_turned_joined_a
noncomputable section
set_option Elab.async false
set_option linter.all false
set_option maxRecDepth 100000
/-! layer D, 1: data, representation, ownership, states -/
namespace Dn
open PySem PySem.Spec PyProof.Rows L2

/-! ### representation: a value stands for data in a heap -/
def keyD : Key → PyData
  | .inl k => .int k
  | .inr x => .str x
/-! conditions on sizes that nothing computes -/
namespace Sz
scoped instance (priority := 5000) dNatLe (a b : Nat) : Decidable (a ≤ b) := Classical.choice ⟨inferInstance⟩
scoped instance (priority := 5000) dNatLt (a b : Nat) : Decidable (a < b) := Classical.choice ⟨inferInstance⟩
scoped instance (priority := 5000) dIntLe (a b : Int) : Decidable (a ≤ b) := Classical.choice ⟨inferInstance⟩
scoped instance (priority := 5000) dIntLt (a b : Int) : Decidable (a < b) := Classical.choice ⟨inferInstance⟩
end Sz
theorem decT {p : Prop} {i : Decidable p} (h : @decide p i = true) : p := @of_decide_eq_true p i h
theorem decI {p : Prop} {i : Decidable p} (h : p) : @decide p i = true := @decide_eq_true p i h
/-- a list, read alone: it stands in the heap, or it is one of the module's own -/
def LstR (K : PySem.W.Frag) (S : Hp) (a : Addr) (xs : List V) : Prop := Rd S a (.lst xs) ∨ ∃ (its : Array Value) (n : Nat), K.lookup a = some { cls := .type "list", data := .seq its n } ∧ its.size ≤ sizeLine ∧ Vals xs its.toList
theorem LstR.of {K : PySem.W.Frag} {S : Hp} {a : Addr} {xs : List V} (h : S a = some (.lst xs)) : LstR K S a xs := .inl (.inl h)
theorem LstR.sq {K : PySem.W.Frag} {S : Hp} {a : Addr} {xs : List V} (h : LstR K S a xs) : SqL K S a xs := h.imp id fun ⟨its, n, hk, hz, r⟩ => ⟨_, its, n, hk, rfl, rfl, rfl, hz, r⟩
theorem lrMono {K : PySem.W.Frag} {H H' : Hp} {a : Addr} {xs : List V} (e : Same H H') (h : LstR K H a xs) : LstR K H' a xs := h.imp (fun h => h.imp (e _ _) fun ⟨o, q⟩ => ⟨o, e _ _ q⟩) id
mutual
inductive Rp (K : PySem.W.Frag) (S : Hp) : V → PyData → Prop
  | non : Rp K S .non .none
  | bl (b : Bool) : Rp K S (.bl b) (.bool b)
  | int (i : Int) : Rp K S (.int i) (.int i)
  | str (x : Str) : Rp K S (.str x) (.str x)
  | lst {a : Addr} {xs : List V} {ds : List PyData} : LstR K S a xs → RpL K S xs ds → Rp K S (.ref a) (.list ds)
  | tup {a : Addr} {xs : List V} {ds : List PyData} : SqT K S a xs → RpL K S xs ds → Rp K S (.ref a) (.tuple ds)
  | dic {a : Addr} {kvs : List (Key × V)} {ds : List (PyData × PyData)} : S a = some (.dK kvs) → RpK K S kvs ds → Rp K S (.ref a) (.dict ds)
inductive RpL (K : PySem.W.Frag) (S : Hp) : List V → List PyData → Prop
  | nil : RpL K S [] []
  | cons {v : V} {vs : List V} {d : PyData} {ds : List PyData} : Rp K S v d → RpL K S vs ds → RpL K S (v :: vs) (d :: ds)
inductive RpK (K : PySem.W.Frag) (S : Hp) : List (Key × V) → List (PyData × PyData) → Prop
  | nil : RpK K S [] []
  | cons {k : Key} {v : V} {vs : List (Key × V)} {d : PyData} {ds : List (PyData × PyData)} : Rp K S v d → RpK K S vs ds → RpK K S ((k, v) :: vs) ((keyD k, d) :: ds)
end
theorem sameT {K : PySem.W.Frag} {H H' : Hp} {a : Addr} {xs : List V} (e : Same H H') (h : SqT K H a xs) : SqT K H' a xs := by
  rcases h with (h | ⟨o, h⟩) | h
  · exact .inl (.inl (e _ _ h))
  · exact .inl (.inr ⟨o, e _ _ h⟩)
  · exact .inr h
mutual
theorem Rp.mono {K : PySem.W.Frag} {S S' : Hp} (e : Same S S') : ∀ (d : PyData) (v : V), Rp K S v d → Rp K S' v d
  | .none, _, h => by cases h; exact .non
  | .bool b, _, h => by cases h; exact .bl b
  | .int i, _, h => by cases h; exact .int i
  | .str x, _, h => by cases h; exact .str x
  | .list ds, _, h => by
    cases h with
    | lst hs ha => exact .lst (lrMono e hs) (RpL.mono e ds _ ha)
  | .tuple ds, _, h => by
    cases h with
    | tup hs ha => exact .tup (sameT e hs) (RpL.mono e ds _ ha)
  | .dict ds, _, h => by
    cases h with
    | dic hs ha => exact .dic (e _ _ hs) (RpK.mono e ds _ ha)
theorem RpL.mono {K : PySem.W.Frag} {S S' : Hp} (e : Same S S') : ∀ (ds : List PyData) (vs : List V), RpL K S vs ds → RpL K S' vs ds
  | [], _, h => by cases h; exact .nil
  | d :: ds, _, h => by
    cases h with
    | cons h1 h2 => exact .cons (Rp.mono e d _ h1) (RpL.mono e ds _ h2)
theorem RpK.mono {K : PySem.W.Frag} {S S' : Hp} (e : Same S S') : ∀ (ds : List (PyData × PyData)) (vs : List (Key × V)), RpK K S vs ds → RpK K S' vs ds
  | [], _, h => by cases h; exact .nil
  | (k, d) :: ds, _, h => by
    cases h with
    | cons h1 h2 => exact .cons (Rp.mono e d _ h1) (RpK.mono e ds _ h2)
end
theorem Rp.up {K : PySem.W.Frag} {S S' : Hp} {v : V} {d : PyData} (h : Rp K S v d) (e : Same S S') : Rp K S' v d := Rp.mono e d v h
theorem RpL.up {K : PySem.W.Frag} {S S' : Hp} {v : List V} {d : List PyData} (h : RpL K S v d) (e : Same S S') : RpL K S' v d := RpL.mono e d v h
section
variable {K : PySem.W.Frag} {S : Hp}
theorem RpL.len : ∀ {vs : List V} {ds : List PyData}, RpL K S vs ds → vs.length = ds.length
  | _, _, .nil => rfl
  | _, _, .cons _ t => by rw [List.length_cons, List.length_cons, RpL.len t]
theorem RpL.get : ∀ {vs : List V} {ds : List PyData} {i : Nat} {d : PyData}, RpL K S vs ds → ds[i]? = some d → ∃ v, vs[i]? = some v ∧ Rp K S v d
  | _, _, _, _, .nil, e => by simp at e
  | _, _, 0, _, .cons r _, e => by simp at e; subst e; exact ⟨_, rfl, r⟩
  | _, _, i + 1, d, .cons _ t, e => by
    obtain ⟨u, h1, h2⟩ := RpL.get (i := i) (d := d) t (by simpa using e)
    exact ⟨u, by simpa using h1, h2⟩
theorem RpL.getV : ∀ {vs : List V} {ds : List PyData} {i : Nat} {v : V}, RpL K S vs ds → vs[i]? = some v → ∃ d, ds[i]? = some d ∧ Rp K S v d
  | _, _, _, _, .nil, e => by simp at e
  | _, _, 0, _, .cons r _, e => by simp at e; subst e; exact ⟨_, rfl, r⟩
  | _, _, i + 1, d, .cons _ t, e => by
    obtain ⟨u, h1, h2⟩ := RpL.getV (i := i) t (by simpa using e)
    exact ⟨u, by simpa using h1, h2⟩
theorem RpL.append : ∀ {vs ws : List V} {ds es : List PyData}, RpL K S vs ds → RpL K S ws es → RpL K S (vs ++ ws) (ds ++ es)
  | _, _, _, _, .nil, h => h
  | _, _, _, _, .cons r t, h => .cons r (RpL.append t h)
theorem RpL.take : ∀ {vs : List V} {ds : List PyData} (n : Nat), RpL K S vs ds → RpL K S (vs.take n) (ds.take n)
  | _, _, 0, _ => .nil
  | _, _, _ + 1, .nil => .nil
  | _, _, n + 1, .cons r t => .cons r (RpL.take n t)
theorem RpL.drop : ∀ {vs : List V} {ds : List PyData} (n : Nat), RpL K S vs ds → RpL K S (vs.drop n) (ds.drop n)
  | _, _, 0, h => h
  | _, _, _ + 1, .nil => .nil
  | _, _, n + 1, .cons r t => RpL.drop n t
theorem RpL.set {v : V} {d : PyData} (r : Rp K S v d) : ∀ {vs : List V} {ds : List PyData} (n : Nat), RpL K S vs ds → RpL K S (vs.set n v) (ds.set n d)
  | _, _, _, .nil => .nil
  | _, _, 0, .cons _ t => .cons r t
  | _, _, n + 1, .cons q t => .cons q (RpL.set r n t)
theorem RpL.erase : ∀ {vs : List V} {ds : List PyData} (n : Nat), RpL K S vs ds → RpL K S (vs.eraseIdx n) (ds.eraseIdx n)
  | _, _, _, .nil => by simp; exact .nil
  | _, _, 0, .cons _ t => t
  | _, _, n + 1, .cons q t => .cons q (RpL.erase n t)
theorem RpL.rev : ∀ {vs : List V} {ds : List PyData}, RpL K S vs ds → RpL K S vs.reverse ds.reverse
  | _, _, .nil => .nil
  | _, _, .cons q t => by rw [List.reverse_cons, List.reverse_cons]; exact RpL.append (RpL.rev t) (.cons q .nil)
theorem RpL.ints : ∀ {ns : List Int} {vs : List V}, RpL K S vs (ns.map PyData.int) → vs = ns.map V.int
  | [], _, h => by cases h; rfl
  | n :: ns, _, h => by
    cases h with
    | cons h1 h2 => cases h1; rw [List.map_cons, RpL.ints h2]
theorem RpL.bls : ∀ {ns : List Bool} {vs : List V}, RpL K S vs (ns.map PyData.bool) → vs = ns.map V.bl
  | [], _, h => by cases h; rfl
  | n :: ns, _, h => by
    cases h with
    | cons h1 h2 => cases h1; rw [List.map_cons, RpL.bls h2]
theorem RpL.ofInts : ∀ (ns : List Int), RpL K S (ns.map V.int) (ns.map PyData.int)
  | [] => .nil
  | n :: ns => .cons (.int n) (RpL.ofInts ns)
end
def flatD : PyData → Bool
  | .none => true
  | .bool _ => true
  | .int _ => true
  | .str _ => true
  | _ => false
theorem Rp.flat {K : PySem.W.Frag} {S S' : Hp} {v : V} {d : PyData} (h : Rp K S v d) (f : flatD d = true) : Rp K S' v d := by
  cases h with
  | non => exact .non
  | bl b => exact .bl b
  | int i => exact .int i
  | str x => exact .str x
  | lst _ _ => exact absurd f (by simp [flatD])
  | tup _ _ => exact absurd f (by simp [flatD])
  | dic _ _ => exact absurd f (by simp [flatD])
mutual
def plainD : PyData → Bool
  | .list ds => plainDs ds
  | .tuple ds => plainDs ds
  | .dict _ => false
  | _ => true
def plainDs : List PyData → Bool
  | [] => true
  | d :: ds => plainD d && plainDs ds
end
mutual
theorem Rp.dp {K : PySem.W.Frag} {S : Hp} : ∀ (d : PyData) (v : V), plainD d = true → Rp K S v d → Dp K S v d
  | .none, _, _, h => by cases h; exact .non
  | .bool b, _, _, h => by cases h; exact .bl b
  | .int i, _, _, h => by cases h; exact .int i
  | .str x, _, _, h => by cases h; exact .str x
  | .list ds, _, p, h => by
    cases h with
    | lst hs ha => exact .lst hs.sq (RpL.dp ds _ (by simpa [plainD] using p) ha)
  | .tuple ds, _, p, h => by
    cases h with
    | tup hs ha => exact .tup hs (RpL.dp ds _ (by simpa [plainD] using p) ha)
  | .dict ds, _, p, h => by simp [plainD] at p
theorem RpL.dp {K : PySem.W.Frag} {S : Hp} : ∀ (ds : List PyData) (vs : List V), plainDs ds = true → RpL K S vs ds → DpAll K S vs ds
  | [], _, _, h => by cases h; exact .nil
  | d :: ds, _, p, h => by
    simp only [plainDs, Bool.and_eq_true] at p
    cases h with
    | cons h1 h2 => exact .cons (Rp.dp d _ p.1 h1) (RpL.dp ds _ p.2 h2)
end

/-! ### ownership -/
abbrev Sl := Nat × PyData
abbrev En := List (Option Sl)
abbrev Sg := L2.St
inductive OwL (R : V → PyData → List Addr → Prop) : List V → List PyData → List Addr → Prop
  | nil : OwL R [] [] []
  | cons {v d f vs ds fs} : R v d f → OwL R vs ds fs → OwL R (v :: vs) (d :: ds) (f ++ fs)
/-- v stands for d; its list (to the depth n) is owned: it stands in H, not in S -/
def Ow (K : PySem.W.Frag) (S H : Hp) : Nat → V → PyData → List Addr → Prop
  | 0, v, d, fp => Rp K S v d ∧ fp = []
  | n + 1, v, d, fp => (flatD d = true ∧ Rp K S v d ∧ fp = []) ∨
      (∃ a xs ds f, v = .ref a ∧ d = .list ds ∧ H a = some (.lst xs) ∧ S a = none ∧ fp = a :: f ∧ OwL (Ow K S H n) xs ds f) ∨
      (∃ a kvs ds, v = .ref a ∧ d = .dict ds ∧ H a = some (.dK kvs) ∧ S a = none ∧ fp = [a] ∧ RpK K S kvs ds)
theorem OwL.imp {R R' : V → PyData → List Addr → Prop} {vs : List V} {ds : List PyData} {fs : List Addr} (h : OwL R vs ds fs) (g : ∀ v d f, (∀ a ∈ f, a ∈ fs) → R v d f → R' v d f) : OwL R' vs ds fs := by
  induction h with
  | nil => exact .nil
  | cons r t ih =>
    refine .cons (g _ _ _ (fun a ha => List.mem_append_left _ ha) r) (ih fun v d f hf q => g v d f (fun a ha => List.mem_append_right _ (hf a ha)) q)
theorem OwL.len {R : V → PyData → List Addr → Prop} {vs : List V} {ds : List PyData} {fs : List Addr} (h : OwL R vs ds fs) : vs.length = ds.length := by
  induction h with
  | nil => rfl
  | cons r t ih => rw [List.length_cons, List.length_cons, ih]
section
variable {K : PySem.W.Frag} {S S' H H' : Hp}
/-- an owned thing when what it does not own changes; S grows, but not by what is owned -/
theorem Ow.keep : ∀ {n : Nat} {v : V} {d : PyData} {fp : List Addr}, Ow K S H n v d fp → Same S S' → (∀ a ∈ fp, H' a = H a) → (∀ a ∈ fp, S' a = none) → Ow K S' H' n v d fp
  | 0, v, d, fp, h, e, _, _ => ⟨h.1.up e, h.2⟩
  | n + 1, v, d, fp, h, e, k, z => by
    rcases h with ⟨f, r, q⟩ | ⟨a, xs, ds, f, e1, e2, e3, e4, e5, e6⟩ | ⟨a, kvs, ds, e1, e2, e3, e4, e5, e6⟩
    · exact .inl ⟨f, r.up e, q⟩
    · subst e5
      refine .inr (.inl ⟨a, xs, ds, f, e1, e2, (k a List.mem_cons_self).trans e3, z a List.mem_cons_self, rfl, ?_⟩)
      exact e6.imp fun v d g hg q => Ow.keep q e (fun b hb => k b (List.mem_cons_of_mem _ (hg b hb))) fun b hb => z b (List.mem_cons_of_mem _ (hg b hb))
    · subst e5
      exact .inr (.inr ⟨a, kvs, ds, e1, e2, (k a List.mem_cons_self).trans e3, z a List.mem_cons_self, rfl, RpK.mono e ds kvs e6⟩)
theorem OwL.all {R : V → PyData → List Addr → Prop} {P : Addr → Prop} {vs : List V} {ds : List PyData} {fs : List Addr} (h : OwL R vs ds fs) (g : ∀ v d f, R v d f → ∀ a ∈ f, P a) : ∀ a ∈ fs, P a := by
  induction h with
  | nil => intro a ha; cases ha
  | cons r t ih =>
    intro a ha
    rcases List.mem_append.mp ha with z | z
    · exact g _ _ _ r a z
    · exact ih a z
theorem Ow.out : ∀ {n : Nat} {v : V} {d : PyData} {fp : List Addr}, Ow K S H n v d fp → ∀ a ∈ fp, S a = none ∧ ∃ o, H a = some o
  | 0, v, d, fp, h => by rw [h.2]; intro a ha; cases ha
  | n + 1, v, d, fp, h => by
    rcases h with ⟨f, r, q⟩ | ⟨a, xs, ds, f, e1, e2, e3, e4, e5, e6⟩ | ⟨a, kvs, ds, e1, e2, e3, e4, e5, e6⟩
    · rw [q]; intro a ha; cases ha
    · subst e5
      intro b hb
      rcases List.mem_cons.mp hb with z | z
      · subst z; exact ⟨e4, _, e3⟩
      · exact e6.all (fun v d f q => Ow.out q) b z
    · subst e5
      intro b hb
      rcases List.mem_cons.mp hb with z | z
      · subst z; exact ⟨e4, _, e3⟩
      · cases z
/-- all of it in one heap -/
theorem OwL.rp {R : V → PyData → List Addr → Prop} {vs : List V} {ds : List PyData} {fs : List Addr} (h : OwL R vs ds fs) (g : ∀ v d f, (∀ a ∈ f, a ∈ fs) → R v d f → Rp K S v d) : RpL K S vs ds := by
  induction h with
  | nil => exact .nil
  | cons r t ih => exact .cons (g _ _ _ (fun a ha => List.mem_append_left _ ha) r) (ih fun v d f hf q => g v d f (fun a ha => List.mem_append_right _ (hf a ha)) q)
theorem Ow.rp : ∀ {n : Nat} {v : V} {d : PyData} {fp : List Addr} {T : Hp}, Ow K S H n v d fp → Same S T → (∀ a ∈ fp, T a = H a) → Rp K T v d
  | 0, v, d, fp, T, h, e, _ => h.1.up e
  | n + 1, v, d, fp, T, h, e, k => by
    rcases h with ⟨f, r, q⟩ | ⟨a, xs, ds, f, e1, e2, e3, e4, e5, e6⟩ | ⟨a, kvs, ds, e1, e2, e3, e4, e5, e6⟩
    · exact r.up e
    · subst e1; subst e2; subst e5
      refine .lst (.of ((k a List.mem_cons_self).trans e3)) (e6.rp fun v d g hg q => Ow.rp q e fun b hb => k b (List.mem_cons_of_mem _ (hg b hb)))
    · subst e1; subst e2; subst e5
      exact .dic ((k a List.mem_cons_self).trans e3) (RpK.mono e ds kvs e6)
theorem Ow.zero {v : V} {d : PyData} (h : Rp K S v d) : Ow K S H 0 v d [] := ⟨h, rfl⟩
theorem Ow.ofFlat {v : V} {d : PyData} (h : Rp K S v d) (f : flatD d = true) : ∀ {n : Nat}, Ow K S H n v d []
  | 0 => ⟨h, rfl⟩
  | _ + 1 => .inl ⟨f, h, rfl⟩
theorem Ow.flat {v : V} {d : PyData} (f : flatD d = true) : ∀ {n : Nat} {fp : List Addr}, Ow K S H n v d fp → Rp K S v d ∧ fp = []
  | 0, _, h => h
  | n + 1, _, h => by
    rcases h with ⟨f, r, q⟩ | ⟨a, xs, ds, g, e1, e2, e3, e4, e5, e6⟩ | ⟨a, kvs, ds, e1, e2, e3, e4, e5, e6⟩
    · exact ⟨r, q⟩
    · subst e2; simp [flatD] at f
    · subst e2; simp [flatD] at f
end

/-! ### the slots -/
inductive OwE (K : PySem.W.Frag) (S H : Hp) : Sg → En → List Addr → Prop
  | nil : OwE K S H [] [] []
  | no {x σ env fp} : OwE K S H σ env fp → OwE K S H (x :: σ) (none :: env) fp
  | yes {v n d f σ env fp} : Ow K S H n v d f → OwE K S H σ env fp → OwE K S H (some v :: σ) (some (n, d) :: env) (f ++ fp)
section
variable {K : PySem.W.Frag} {S S' H H' : Hp}
theorem OwE.len {σ : Sg} {env : En} {fp : List Addr} (h : OwE K S H σ env fp) : σ.length = env.length := by
  induction h with
  | nil => rfl
  | no _ ih => rw [List.length_cons, List.length_cons, ih]
  | yes _ _ ih => rw [List.length_cons, List.length_cons, ih]
theorem OwE.out {σ : Sg} {env : En} {fp : List Addr} (h : OwE K S H σ env fp) : ∀ a ∈ fp, S a = .none ∧ ∃ o, H a = .some o := by
  induction h with
  | nil => intro a ha; cases ha
  | no _ ih => exact ih
  | yes o _ ih =>
    intro a ha
    rcases List.mem_append.mp ha with z | z
    · exact o.out a z
    · exact ih a z
theorem OwE.keep {σ : Sg} {env : En} {fp : List Addr} (h : OwE K S H σ env fp) (e : Same S S') (k : ∀ a ∈ fp, H' a = H a) (z : ∀ a ∈ fp, S' a = .none) : OwE K S' H' σ env fp := by
  induction h with
  | nil => exact .nil
  | no _ ih => exact .no (ih k z)
  | yes o _ ih =>
    exact .yes (o.keep e (fun a ha => k a (List.mem_append_left _ ha)) fun a ha => z a (List.mem_append_left _ ha)) (ih (fun a ha => k a (List.mem_append_right _ ha)) fun a ha => z a (List.mem_append_right _ ha))
/-- slot i, and the others -/
theorem OwE.at {σ : Sg} {env : En} {fp : List Addr} (h : OwE K S H σ env fp) : ∀ {i : Nat} {n : Nat} {d : PyData}, env[i]? = .some (.some (n, d)) →
    ∃ v f g, σ[i]? = .some (.some v) ∧ Ow K S H n v d f ∧ fp.Perm (f ++ g) ∧ OwE K S H σ (env.set i .none) g := by
  induction h with
  | nil => intro i n d e; simp at e
  | @no x σ env fp t ih =>
    intro i n d e
    cases i with
    | zero => simp at e
    | succ i =>
      obtain ⟨v, f, g, h1, h2, h3, h4⟩ := ih (i := i) (by simpa using e)
      exact ⟨v, f, g, by simpa using h1, h2, h3, by simpa using OwE.no h4⟩
  | @yes v0 n0 d0 f0 σ env fp o t ih =>
    intro i n d e
    cases i with
    | zero =>
      simp at e
      obtain ⟨e1, e2⟩ := e
      subst e1; subst e2
      exact ⟨v0, f0, fp, rfl, o, .refl _, by simpa using OwE.no t⟩
    | succ i =>
      obtain ⟨v, f, g, h1, h2, h3, h4⟩ := ih (i := i) (by simpa using e)
      refine ⟨v, f, f0 ++ g, by simpa using h1, h2, ?_, by simpa using OwE.yes o h4⟩
      refine (h3.append_left f0).trans ?_
      rw [← List.append_assoc, ← List.append_assoc]
      exact List.Perm.append_right g List.perm_append_comm
/-- a slot is laid, where its value stands -/
theorem OwE.back {σ : Sg} {env : En} {g : List Addr} (h : OwE K S H σ env g) : ∀ {i : Nat} {v : V} {n : Nat} {d : PyData} {f : List Addr}, env[i]? = .some .none → σ[i]? = .some (.some v) → Ow K S H n v d f →
    ∃ fp, fp.Perm (f ++ g) ∧ OwE K S H σ (env.set i (.some (n, d))) fp := by
  induction h with
  | nil => intro i v n d f e; simp at e
  | @no x σ env fp t ih =>
    intro i v n d f e q o
    cases i with
    | zero =>
      have q' : x = .some v := by simpa using q
      subst q'
      exact ⟨f ++ fp, .refl _, by simpa using OwE.yes o t⟩
    | succ i =>
      obtain ⟨fp', h1, h2⟩ := ih (i := i) (by simpa using e) (by simpa using q) o
      exact ⟨fp', h1, by simpa using OwE.no h2⟩
  | @yes v0 n0 d0 f0 σ env fp o0 t ih =>
    intro i v n d f e q o
    cases i with
    | zero => simp at e
    | succ i =>
      obtain ⟨fp', h1, h2⟩ := ih (i := i) (by simpa using e) (by simpa using q) o
      refine ⟨f0 ++ fp', ?_, by simpa using OwE.yes o0 h2⟩
      refine (h1.append_left f0).trans ?_
      rw [← List.append_assoc, ← List.append_assoc]
      exact List.Perm.append_right fp List.perm_append_comm
/-- a slot is forgotten (in the environment alone) -/
theorem OwE.drop {σ : Sg} {env : En} {fp : List Addr} (h : OwE K S H σ env fp) : ∀ (i : Nat), ∃ f g, fp.Perm (f ++ g) ∧ OwE K S H σ (env.set i .none) g := by
  induction h with
  | nil => intro i; exact ⟨[], [], .refl _, .nil⟩
  | @no x σ env fp t ih =>
    intro i
    cases i with
    | zero => exact ⟨[], fp, .refl _, .no t⟩
    | succ i =>
      obtain ⟨f, g, h1, h2⟩ := ih i
      exact ⟨f, g, h1, .no h2⟩
  | @yes v0 n0 d0 f0 σ env fp o0 t ih =>
    intro i
    cases i with
    | zero => exact ⟨f0, fp, .refl _, .no t⟩
    | succ i =>
      obtain ⟨f, g, h1, h2⟩ := ih i
      refine ⟨f, f0 ++ g, ?_, .yes o0 h2⟩
      refine (h1.append_left f0).trans ?_
      rw [← List.append_assoc, ← List.append_assoc]
      exact List.Perm.append_right g List.perm_append_comm
/-- a slot is stored anew: what stood there is let go -/
theorem OwE.store {σ : Sg} {env : En} {fp : List Addr} (h : OwE K S H σ env fp) : ∀ {i : Nat} {v : V} {n : Nat} {d : PyData} {f : List Addr}, Ow K S H n v d f → (f ++ fp).Nodup →
    ∃ fp', (∀ a ∈ fp', a ∈ f ++ fp) ∧ fp'.Nodup ∧ OwE K S H (σ.set i (.some v)) (env.set i (.some (n, d))) fp' := by
  induction h with
  | nil => intro i v n d f o nd; exact ⟨[], (fun a ha => by cases ha), List.nodup_nil, .nil⟩
  | @no x σ env fp t ih =>
    intro i v n d f o nd
    cases i with
    | zero => exact ⟨f ++ fp, fun a ha => ha, nd, .yes o t⟩
    | succ i =>
      obtain ⟨fp', h1, h2, h3⟩ := ih (i := i) o nd
      exact ⟨fp', h1, h2, .no h3⟩
  | @yes v0 n0 d0 f0 σ env fp o0 t ih =>
    intro i v n d f o nd
    have nd2 : (f ++ fp).Nodup := by
      refine List.Sublist.nodup ?_ nd
      exact (List.Sublist.refl f).append (List.sublist_append_right f0 fp)
    cases i with
    | zero => exact ⟨f ++ fp, fun a ha => by
        rcases List.mem_append.mp ha with z | z
        · exact List.mem_append_left _ z
        · exact List.mem_append_right _ (List.mem_append_right _ z), nd2, .yes o t⟩
    | succ i =>
      obtain ⟨fp', h1, h2, h3⟩ := ih (i := i) o nd2
      obtain ⟨_, n2, dj⟩ := List.nodup_append.mp nd
      obtain ⟨n3, _, dj2⟩ := List.nodup_append.mp n2
      refine ⟨f0 ++ fp', fun a ha => ?_, List.nodup_append.mpr ⟨n3, h2, fun a ha b hb e => ?_⟩, .yes o0 h3⟩
      · rcases List.mem_append.mp ha with z | z
        · exact List.mem_append_right _ (List.mem_append_left _ z)
        · rcases List.mem_append.mp (h1 a z) with y | y
          · exact List.mem_append_left _ y
          · exact List.mem_append_right _ (List.mem_append_right _ y)
      · subst e
        rcases List.mem_append.mp (h1 a hb) with y | y
        · exact dj a y a (List.mem_append_left _ ha) rfl
        · exact dj2 a ha a y rfl
end

/-! ### the state of a def's body; how it goes on -/
structure At (K : PySem.W.Frag) (σ : Sg) (env : En) (S H : Hp) (fp : List Addr) : Prop where
  sub : Same S H
  nd : fp.Nodup
  ow : OwE K S H σ env fp
structure Go (S H : Hp) (fp : List Addr) (S' H' : Hp) (fp' : List Addr) : Prop where
  s : Same S S'
  fr : ∀ a o, H a = some o → a ∉ fp → H' a = some o
  dom : ∀ a, H' a = none → H a = none
  new : ∀ a ∈ fp', a ∈ fp ∨ H a = none
  sf : ∀ a o, H a = some o → a ∉ fp → S a = none → S' a = none
/-- with one value in hand -/
abbrev AtO (K : PySem.W.Frag) (v : V) (s : Sl) (σ : Sg) (env : En) (S H : Hp) (fp : List Addr) : Prop := At K (some v :: σ) (some s :: env) S H fp
theorem same_new {S : Hp} {p : Addr} {o : HO} (h : S p = none) : Same S (upd S p o) := fun b x e => by
  rw [upd_ne (ne_of_none e h)]; exact e
theorem Go.refl {S H : Hp} {fp : List Addr} : Go S H fp S H fp := ⟨.refl _, fun _ _ e _ => e, fun _ e => e, fun _ h => .inl h, fun _ _ _ _ e => e⟩
theorem Go.trans {S H S1 H1 S2 H2 : Hp} {fp f1 f2 : List Addr} (g : Go S H fp S1 H1 f1) (h : Go S1 H1 f1 S2 H2 f2) : Go S H fp S2 H2 f2 := by
  have nm : ∀ a o, H a = some o → a ∉ fp → a ∉ f1 := fun a o e n z => by
    rcases g.new a z with q | q
    · exact n q
    · rw [e] at q; cases q
  refine ⟨g.s.trans h.s, fun a o e n => h.fr a o (g.fr a o e n) (nm a o e n), fun a e => g.dom a (h.dom a e), fun a ha => ?_, fun a o e n z => h.sf a o (g.fr a o e n) (nm a o e n) (g.sf a o e n z)⟩
  rcases h.new a ha with q | q
  · exact g.new a q
  · exact .inr (g.dom a q)
theorem Go.less {S H S1 H1 : Hp} {fp f1 f2 : List Addr} (g : Go S H fp S1 H1 f1) (h : ∀ a ∈ f2, a ∈ f1) : Go S H fp S1 H1 f2 := ⟨g.s, g.fr, g.dom, fun a ha => g.new a (h a ha), g.sf⟩
theorem Go.more {S H S1 H1 : Hp} {fp f0 f1 : List Addr} (g : Go S H fp S1 H1 f1) (h : ∀ a ∈ fp, a ∈ f0) : Go S H f0 S1 H1 f1 :=
  ⟨g.s, fun a o e n => g.fr a o e fun z => n (h a z), g.dom, fun a ha => (g.new a ha).imp (h a) id, fun a o e n => g.sf a o e fun z => n (h a z)⟩
section
variable {K : PySem.W.Frag} {σ : Sg} {env : En} {S H S' H' : Hp} {fp : List Addr} {p : Addr} {o : HO}
theorem At.len (h : At K σ env S H fp) : σ.length = env.length := h.ow.len
theorem At.not_mem (h : At K σ env S H fp) (e : H p = none) : p ∉ fp := fun z => by
  obtain ⟨_, o, q⟩ := h.ow.out p z
  rw [e] at q; cases q
/-- a new object: frozen -/
theorem At.frz (h : At K σ env S H fp) (e : H p = none) : At K σ env (upd S p o) (upd H p o) fp := by
  refine ⟨fun a x q => ?_, h.nd, h.ow.keep (same_new (h.sub.free e)) (fun a ha => ?_) fun a ha => ?_⟩
  · by_cases z : a = p
    · subst z; rw [upd_same] at q ⊢; exact q
    · rw [upd_ne z] at q ⊢; exact h.sub a x q
  · exact upd_ne (show a ≠ p from fun z => h.not_mem e (by rw [← z]; exact ha))
  · rw [upd_ne (show a ≠ p from fun z => h.not_mem e (by rw [← z]; exact ha))]; exact (h.ow.out a ha).1
theorem Go.frz (e : H p = none) (sub : Same S H) : Go S H fp (upd S p o) (upd H p o) fp := by
  refine ⟨same_new (sub.free e), fun a x q _ => same_new e a x q, fun a q => ?_, fun _ h => .inl h, fun a x q _ z => ?_⟩
  · by_cases z : a = p
    · subst z; exact e
    · rw [upd_ne z] at q; exact q
  · rw [upd_ne (ne_of_none q e)]; exact z
theorem Go.own (e : H p = none) : Go S H fp S (upd H p o) (p :: fp) := by
  refine ⟨.refl _, fun a x q _ => same_new e a x q, fun a q => ?_, fun a h => ?_, fun a x q _ z => z⟩
  · by_cases z : a = p
    · subst z; exact e
    · rw [upd_ne z] at q; exact q
  · rcases List.mem_cons.mp h with z | z
    · subst z; exact .inr e
    · exact .inl z
theorem Go.write (hp : p ∈ fp) : Go S H fp S (upd H p o) fp := by
  refine ⟨.refl _, fun a x q n => ?_, fun a q => ?_, fun _ h => .inl h, fun a x q _ z => z⟩
  · rw [upd_ne (show a ≠ p from fun z => n (by rw [z]; exact hp))]; exact q
  · by_cases z : a = p
    · subst z; rw [upd_same] at q; cases q
    · rw [upd_ne z] at q; exact q
/-- some owned things are frozen: S takes them over -/
def frzH (S H : Hp) (f : List Addr) : Hp := fun a => if a ∈ f then H a else S a
theorem frzH_in {f : List Addr} {a : Addr} (h : a ∈ f) : frzH S H f a = H a := by unfold frzH; rw [if_pos h]
theorem frzH_out {f : List Addr} {a : Addr} (h : a ∉ f) : frzH S H f a = S a := by unfold frzH; rw [if_neg h]
theorem frzH_same {f : List Addr} (h : ∀ a ∈ f, S a = none) : Same S (frzH S H f) := fun a o e => by
  have q : a ∉ f := fun z => by rw [h a z] at e; cases e
  rw [frzH_out q]; exact e
theorem frzH_sub {f : List Addr} (sub : Same S H) : Same (frzH S H f) H := fun a x e => by
  by_cases z : a ∈ f
  · rw [frzH_in z] at e; exact e
  · rw [frzH_out z] at e; exact sub a x e
end
end Dn

set_option Elab.async false
set_option linter.all false
set_option maxRecDepth 100000
set_option maxHeartbeats 1000000
/-! layer D, 2: judgements, pure and effectful expressions, tests -/
namespace Dn
open PySem PySem.Spec PyProof.Rows L2
abbrev Fr := PySem.W.Frag
abbrev DP := En → Option Sl
abbrev DE := En → Option (PyData × En)
abbrev DO := En → Option (Sl × En)
abbrev DT := En → Option (Bool × En)
theorem PE.mono {X : Cx} {e : Expr} {t t' : TE} (h : PE X e t) (m : ∀ σ H Q, t' σ H Q → t σ H Q) : PE X e t' := ⟨fun pins s σ H Q I w => h.run pins s σ H Q I (m _ _ _ w)⟩
theorem PT.mono {X : Cx} {e : Expr} {t t' : TT} (h : PT X e t) (m : ∀ σ H Q, t' σ H Q → t σ H Q) : PT X e t' := ⟨fun pins s σ H Q I w => h.run pins s σ H Q I (m _ _ _ w)⟩
theorem PW.mono {X : Cx} {e : Expr} {t t' : TT} (h : PW X e t) (m : ∀ σ H Q, t' σ H Q → t σ H Q) : PW X e t' := ⟨fun wh pins s σ H Q I w => h.run wh pins s σ H Q I (m _ _ _ w)⟩
theorem PS.mono {X : Cx} {e : Stmt} {t t' : TS} (h : PS X e t) (m : ∀ D σ H, t' D σ H → t D σ H) : PS X e t' := ⟨fun pins s σ H D I w => h.run pins s σ H D I (m _ _ _ w)⟩
theorem PSs.mono {X : Cx} {e : List Stmt} {t t' : TS} (h : PSs X e t) (m : ∀ D σ H, t' D σ H → t D σ H) : PSs X e t' := ⟨fun pins s σ H D I w => h.run pins s σ H D I (m _ _ _ w)⟩
theorem PA.mono {X : Cx} {e : List Expr} {t t' : TA} (h : PA X e t) (m : ∀ σ H Q, t' σ H Q → t σ H Q) : PA X e t' := ⟨fun pos pins s σ H Q I w => h.run pos pins s σ H Q I (m _ _ _ w)⟩
/-- pure: all that stood stands, S takes new things alone -/
structure Gp (S H S' H' : Hp) : Prop where
  s : Same S S'
  h : Same H H'
  f : ∀ a o, H a = some o → S a = none → S' a = none
theorem Gp.refl {S H : Hp} : Gp S H S H := ⟨.refl _, .refl _, fun _ _ _ z => z⟩
theorem Gp.trans {S H S1 H1 S2 H2 : Hp} (g : Gp S H S1 H1) (k : Gp S1 H1 S2 H2) : Gp S H S2 H2 := ⟨g.s.trans k.s, g.h.trans k.h, fun a o e z => k.f a o (g.h a o e) (g.f a o e z)⟩
theorem Gp.go {S H S' H' : Hp} {fp : List Addr} (g : Gp S H S' H') : Go S H fp S' H' fp := ⟨g.s, fun a o e _ => g.h a o e, fun a e => g.h.free e, fun _ h => .inl h, fun a o e _ z => g.f a o e z⟩
theorem Gp.frz {S H : Hp} {p : Addr} {o : HO} (e : H p = none) (sub : Same S H) : Gp S H (upd S p o) (upd H p o) := ⟨same_new (sub.free e), same_new e, fun a x q z => by rw [upd_ne (ne_of_none q e)]; exact z⟩

/-- a pure expression: nothing that stands is changed; what it gives may be owned (a view) -/
def LP (K : Fr) (ε : DP) : TE := fun σ H Q => ∃ env S fp, At K σ env S H fp ∧ ∃ s, ε env = some s ∧
  ∀ v S' H' f, At K σ env S' H' fp → Gp S H S' H' → Ow K S' H' s.1 v s.2 f → (∀ a ∈ f, a ∈ fp) → Q v H'
/-- an expression: what it gives is frozen -/
def LE (K : Fr) (ε : DE) : TE := fun σ H Q => ∃ env S fp, At K σ env S H fp ∧ ∃ d env', ε env = some (d, env') ∧
  ∀ v S' H' fp', At K σ env' S' H' fp' → Go S H fp S' H' fp' → Rp K S' v d → Q v H'
/-- an expression: what it gives is one's own -/
def LO (K : Fr) (ε : DO) : TE := fun σ H Q => ∃ env S fp, At K σ env S H fp ∧ ∃ s env', ε env = some (s, env') ∧
  ∀ v S' H' fp', AtO K v s σ env' S' H' fp' → Go S H fp S' H' fp' → Q v H'
def LT (K : Fr) (ε : DT) : TT := fun σ H Q => ∃ env S fp, At K σ env S H fp ∧ ∃ b env', ε env = some (b, env') ∧
  ∀ S' H' fp', At K σ env' S' H' fp' → Go S H fp S' H' fp' → Q b H'

/-! ### from one to another -/
def dOf (ε : DP) : DE := fun env => match ε env with
  | some (n, d) => if n = 0 ∨ flatD d = true then some (d, env) else none
  | none => none
def dFz (ε : DO) : DE := fun env => match ε env with
  | some (s, e) => some (s.2, e)
  | none => none
def dUp (ε : DE) : DO := fun env => match ε env with
  | some (d, e) => some ((0, d), e)
  | none => none
section
variable {X : Cx} {K : Fr}
theorem LE.ofP {ε : DP} {σ : Sg} {H : Hp} {Q : VK} (h : LE K (dOf ε) σ H Q) : LP K ε σ H Q := by
  obtain ⟨env, S, fp, at0, d, env', e, q⟩ := h
  unfold dOf at e
  split at e
  · rename_i n d' e1
    split at e
    · rename_i hz
      cases e
      refine ⟨env, S, fp, at0, _, e1, fun v S' H' f a1 g o _ => q v S' H' fp a1 g.go ?_⟩
      rcases hz with z | z
      · subst z; exact o.1
      · exact (o.flat z).1
    · cases e
  · cases e
theorem qe_p {e : Expr} {ε : DP} (h : PE X e (LP K ε)) : PE X e (LE K (dOf ε)) := PE.mono h fun _ _ _ w => w.ofP
theorem AtO.freeze {v : V} {s : Sl} {σ : Sg} {env : En} {S H : Hp} {fp : List Addr} (h : AtO K v s σ env S H fp) : ∃ S' fp', At K σ env S' H fp' ∧ Go S H fp S' H fp' ∧ Rp K S' v s.2 := by
  obtain ⟨sub, nd, o⟩ := h
  cases o with
  | @yes _ n d f _ _ g o1 o2 =>
    have hf : ∀ a ∈ f, S a = none := fun a ha => (o1.out a ha).1
    have sm := frzH_same (H := H) hf
    have dj := (List.nodup_append.mp nd).2.2
    refine ⟨frzH S H f, g, ⟨frzH_sub sub, (List.nodup_append.mp nd).2.1, o2.keep sm (fun _ _ => rfl) fun a ha => ?_⟩, ⟨sm, fun a o e _ => e, fun _ e => e, fun a ha => .inl (List.mem_append_right _ ha), fun a o e n z => ?_⟩, o1.rp sm fun a ha => frzH_in ha⟩
    · rw [frzH_out fun z => dj a z a ha rfl]
      exact (o2.out a ha).1
    · rw [frzH_out fun z => n (List.mem_append_left _ z)]; exact z
theorem LE.ofO {ε : DO} {σ : Sg} {H : Hp} {Q : VK} (h : LE K (dFz ε) σ H Q) : LO K ε σ H Q := by
  obtain ⟨env, S, fp, at0, d, env', e, q⟩ := h
  unfold dFz at e
  split at e
  · rename_i s e1 eq1
    cases e
    refine ⟨env, S, fp, at0, s, _, eq1, fun v S' H' fp' a1 s1 => ?_⟩
    obtain ⟨S2, fp2, a2, s2, r⟩ := AtO.freeze a1
    exact q v S2 H' fp2 a2 (s1.trans s2) r
  · cases e
theorem qe_o {e : Expr} {ε : DO} (h : PE X e (LO K ε)) : PE X e (LE K (dFz ε)) := PE.mono h fun _ _ _ w => w.ofO
theorem At.withO {σ : Sg} {env : En} {S H : Hp} {fp : List Addr} {v : V} {d : PyData} (h : At K σ env S H fp) (r : Rp K S v d) : AtO K v (0, d) σ env S H fp :=
  ⟨h.sub, h.nd, OwE.yes (f := []) (Ow.zero r) h.ow⟩
theorem LO.ofE {ε : DE} {σ : Sg} {H : Hp} {Q : VK} (h : LO K (dUp ε) σ H Q) : LE K ε σ H Q := by
  obtain ⟨env, S, fp, at0, s, env', e, q⟩ := h
  unfold dUp at e
  split at e
  · rename_i d e1 eq1
    cases e
    exact ⟨env, S, fp, at0, d, _, eq1, fun v S' H' fp' a1 s1 r => q v S' H' fp' (a1.withO r) s1⟩
  · cases e
theorem qo_e {e : Expr} {ε : DE} (h : PE X e (LE K ε)) : PE X e (LO K (dUp ε)) := PE.mono h fun _ _ _ w => w.ofE

/-! ### names and constants -/
def dVar (i : Nat) : DP := fun env => (env[i]?).join
def dC (d : PyData) : DP := fun _ => some (0, d)
theorem join_some {env : En} {i : Nat} {s : Sl} (e : (env[i]?).join = some s) : env[i]? = some (some (s.1, s.2)) := by
  cases q : env[i]? with
  | none => rw [q] at e; cases e
  | some x => rw [q] at e; cases x with
    | none => cases e
    | some y => cases e; rfl
theorem OwE.look {S H : Hp} {σ : Sg} {env : En} {fp : List Addr} (h : OwE K S H σ env fp) {i : Nat} {s : Sl} (e : (env[i]?).join = some s) :
    ∃ v f, σ[i]? = some (some v) ∧ Ow K S H s.1 v s.2 f ∧ ∀ a ∈ f, a ∈ fp := by
  obtain ⟨v, f, g, h1, h2, h3, _⟩ := h.at (join_some e)
  exact ⟨v, f, h1, h2, fun a ha => h3.mem_iff.mpr (List.mem_append_left _ ha)⟩
theorem LP.var {i : Nat} {σ : Sg} {H : Hp} {Q : VK} (h : LP K (dVar i) σ H Q) : tVar i σ H Q := by
  obtain ⟨env, S, fp, a0, s, e, q⟩ := h
  obtain ⟨v, f, h1, h2, h3⟩ := a0.ow.look e
  exact ⟨v, h1, q v S H f a0 .refl h2 h3⟩
theorem qp_var (i : Nat) {x : Str} {pos : Pos} (hN : X.N[i]? = some x := by rfl) (hv : Vis X.env.scope x := by first | exact Or.inl rfl | exact Or.inr (Or.inl rfl) | exact Or.inr (Or.inr rfl)) (hd : (x == ("__debug__" : Str)) = false := by decide)
    (hcd : (x == ("__classdict__" : Str)) = false := by decide) : PE X (.Name x pos) (LP K (dVar i)) := PE.mono (pv i hN hv hd hcd) fun _ _ _ w => w.var
theorem LP.const {v : V} {d : PyData} (r : ∀ K S, Rp K S v d) {σ : Sg} {H : Hp} {Q : VK} (h : LP K (dC d) σ H Q) : Q v H := by
  obtain ⟨env, S, fp, a0, s, e, q⟩ := h
  cases e
  exact q v S H [] a0 .refl (Ow.zero (r _ _)) (fun _ z => by cases z)
theorem qp_int {i j pos} : PE X (.Constant (.int i) j pos) (LP K (dC (.int i))) := PE.mono pe_int fun _ _ _ w => w.const fun _ _ => .int i
theorem qp_bl {b j pos} : PE X (.Constant (.bool b) j pos) (LP K (dC (.bool b))) := PE.mono pe_bl fun _ _ _ w => w.const fun _ _ => .bl b
theorem qp_non {j pos} : PE X (.Constant .none j pos) (LP K (dC .none)) := PE.mono pe_non fun _ _ _ w => w.const fun _ _ => .non
theorem qp_str {x j pos} : PE X (.Constant (.str x) j pos) (LP K (dC (.str x))) := PE.mono pe_str fun _ _ _ w => w.const fun _ _ => .str x
/-- a module's constant -/
theorem qp_gint {x : Str} {i : Int} {t : Tok} {pos : Pos} (hm : X.mg x = some (.int i t)) (hg : Gl X x := by rfl) (hd : (x == ("__debug__" : Str)) = false := by decide) : PE X (.Name x pos) (LP K (dC (.int i))) :=
  PE.mono (pe_glob hg hm (v := .int i) ⟨t, rfl⟩ hd) fun _ _ _ w => w.const fun _ _ => .int i

/-! ### operations by data -/
/-- a value to look at: frozen, or an own list (dict) of frozen items -/
def Vw (K : Fr) (S H : Hp) (v : V) (d : PyData) : Prop := Rp K S v d ∨
  (∃ a xs ds, v = .ref a ∧ d = .list ds ∧ H a = some (.lst xs) ∧ RpL K S xs ds) ∨ (∃ a kvs ds, v = .ref a ∧ d = .dict ds ∧ H a = some (.dK kvs) ∧ RpK K S kvs ds)
def vis (s : Sl) : Bool := decide (s.1 ≤ 1) || flatD s.2
theorem OwL.rp0 {S H : Hp} {vs : List V} {ds : List PyData} {f : List Addr} (h : OwL (Ow K S H 0) vs ds f) : RpL K S vs ds := h.rp fun _ _ _ _ q => q.1
theorem Ow.vw {S H : Hp} {v : V} {s : Sl} {f : List Addr} (h : Ow K S H s.1 v s.2 f) (p : vis s = true) : Vw K S H v s.2 := by
  obtain ⟨n, d⟩ := s
  by_cases fl : flatD d = true
  · exact .inl (h.flat fl).1
  · have hn : n ≤ 1 := by
      have fl' : flatD d = false := by simpa using fl
      unfold vis at p
      simp only [fl', Bool.or_false, decide_eq_true_eq] at p
      exact p
    match n, hn, h with
    | 0, _, h => exact .inl h.1
    | 1, _, h =>
      rcases h with ⟨f, r, q⟩ | ⟨a, xs, ds, g, e1, e2, e3, e4, e5, e6⟩ | ⟨a, kvs, ds, e1, e2, e3, e4, e5, e6⟩
      · exact .inl r
      · exact .inr (.inl ⟨a, xs, ds, e1, e2, e3, e6.rp0⟩)
      · exact .inr (.inr ⟨a, kvs, ds, e1, e2, e3, e6⟩)
theorem Vw.rp {S H : Hp} {v : V} {d : PyData} (h : Vw K S H v d) (sub : Same S H) : Rp K H v d := by
  rcases h with h | ⟨a, xs, ds, e1, e2, e3, e4⟩ | ⟨a, kvs, ds, e1, e2, e3, e4⟩
  · exact h.up sub
  · subst e1; subst e2; exact .lst (.of e3) (e4.up sub)
  · subst e1; subst e2; exact .dic e3 (RpK.mono sub _ _ e4)
theorem Vw.list {S H : Hp} {v : V} {ds : List PyData} (h : Vw K S H v (.list ds)) (sub : Same S H) : ∃ a xs, v = .ref a ∧ LstR K H a xs ∧ RpL K S xs ds := by
  rcases h with h | ⟨a, xs, ds', e1, e2, e3, e4⟩ | ⟨a, kvs, ds', e1, e2, e3, e4⟩
  · cases h with
    | lst hs ha => exact ⟨_, _, rfl, lrMono sub hs, ha⟩
  · cases e2; exact ⟨a, xs, e1, .of e3, e4⟩
  · cases e2
theorem Vw.tuple {S H : Hp} {v : V} {ds : List PyData} (h : Vw K S H v (.tuple ds)) (sub : Same S H) : ∃ a xs, v = .ref a ∧ SqT K S a xs ∧ SqT K H a xs ∧ RpL K S xs ds := by
  rcases h with h | ⟨a, xs, ds', e1, e2, e3, e4⟩ | ⟨a, kvs, ds', e1, e2, e3, e4⟩
  · cases h with
    | tup hs ha => exact ⟨_, _, rfl, hs, sameT sub hs, ha⟩
  · cases e2
  · cases e2
theorem Vw.frozen {S H : Hp} {v : V} {d : PyData} (h : Vw K S H v d) (n1 : ∀ ds, d ≠ .list ds) (n2 : ∀ ds, d ≠ .dict ds) : Rp K S v d := by
  rcases h with h | ⟨a, xs, ds', e1, e2, e3, e4⟩ | ⟨a, kvs, ds', e1, e2, e3, e4⟩
  · exact h
  · exact absurd e2 (n1 _)
  · exact absurd e2 (n2 _)
theorem Vw.int {S H : Hp} {v : V} {i : Int} (h : Vw K S H v (.int i)) : v = .int i := by
  have := h.frozen (fun _ z => by cases z) (fun _ z => by cases z)
  cases this; rfl
theorem Vw.bool {S H : Hp} {v : V} {i : Bool} (h : Vw K S H v (.bool i)) : v = .bl i := by
  have := h.frozen (fun _ z => by cases z) (fun _ z => by cases z)
  cases this; rfl
theorem Vw.str {S H : Hp} {v : V} {i : Str} (h : Vw K S H v (.str i)) : v = .str i := by
  have := h.frozen (fun _ z => by cases z) (fun _ z => by cases z)
  cases this; rfl
theorem Vw.non {S H : Hp} {v : V} (h : Vw K S H v .none) : v = .non := by
  have := h.frozen (fun _ z => by cases z) (fun _ z => by cases z)
  cases this; rfl
/-- what an operation may end with: a frozen value (no list), or a new list, a new tuple of frozen items -/
structure ResN (K : Fr) (S H : Hp) (d : PyData) (Q : VK) : Prop where
  old : ∀ w, (∀ ds, d ≠ .list ds) → Rp K S w d → Q w H
  lst : ∀ p xs ds, d = .list ds → H p = none → RpL K S xs ds → Q (.ref p) (upd H p (.lst xs))
  tup : ∀ p xs ds, d = .tuple ds → H p = none → RpL K S xs ds → Q (.ref p) (upd H p (.tup xs))
/-- .. or any frozen value -/
structure Res (K : Fr) (S H : Hp) (d : PyData) (Q : VK) : Prop where
  old : ∀ w, Rp K S w d → Q w H
  lst : ∀ p xs ds, d = .list ds → H p = none → RpL K S xs ds → Q (.ref p) (upd H p (.lst xs))
  tup : ∀ p xs ds, d = .tuple ds → H p = none → RpL K S xs ds → Q (.ref p) (upd H p (.tup xs))
theorem Res.n {S H : Hp} {d : PyData} {Q : VK} (h : Res K S H d Q) : ResN K S H d Q := ⟨fun w _ r => h.old w r, h.lst, h.tup⟩
def OpG (K : Fr) (r : R2) (g : PyData → PyData → Option PyData) : Prop :=
  ∀ d1 d2 d, g d1 d2 = some d → ∀ S H v u Q, Same S H → Vw K S H v d1 → Vw K S H u d2 → Res K S H d Q → r v u H Q
/-- .. that gives no old list -/
def OpN (K : Fr) (r : R2) (g : PyData → PyData → Option PyData) : Prop :=
  ∀ d1 d2 d, g d1 d2 = some d → ∀ S H v u Q, Same S H → Vw K S H v d1 → Vw K S H u d2 → ResN K S H d Q → r v u H Q
theorem OpN.g {r : R2} {g : PyData → PyData → Option PyData} (h : OpN K r g) : OpG K r g := fun d1 d2 d e S H v u Q sub hv hu hr => h d1 d2 d e S H v u Q sub hv hu hr.n
def gOr (g g' : PyData → PyData → Option PyData) : PyData → PyData → Option PyData := fun x y => match g x y with | some d => some d | none => g' x y
theorem OpN.or {r r' : R2} {g g' : PyData → PyData → Option PyData} (a : OpN K r g) (b : OpN K r' g') :
    OpN K (fun x y H Q => r x y H Q ∨ r' x y H Q) (gOr g g') := by
  intro d1 d2 d e S H v u Q sub hv hu hr
  unfold gOr at e
  split at e
  · rename_i d' e1
    cases e
    exact .inl (a d1 d2 _ e1 S H v u Q sub hv hu hr)
  · exact .inr (b d1 d2 d e S H v u Q sub hv hu hr)
theorem OpG.or {r r' : R2} {g g' : PyData → PyData → Option PyData} (a : OpG K r g) (b : OpG K r' g') :
    OpG K (fun x y H Q => r x y H Q ∨ r' x y H Q) (gOr g g') := by
  intro d1 d2 d e S H v u Q sub hv hu hr
  unfold gOr at e
  split at e
  · rename_i d' e1
    cases e
    exact .inl (a d1 d2 _ e1 S H v u Q sub hv hu hr)
  · exact .inr (b d1 d2 d e S H v u Q sub hv hu hr)
/-- a continuation from a pure end -/
theorem rp_newL {S : Hp} {p : Addr} {xs : List V} {ds : List PyData} (h : S p = none) (r : RpL K S xs ds) : Rp K (upd S p (.lst xs)) (.ref p) (.list ds) := .lst (.of upd_same) (r.up (same_new h))
theorem rp_newT {S : Hp} {p : Addr} {xs : List V} {ds : List PyData} (h : S p = none) (r : RpL K S xs ds) : Rp K (upd S p (.tup xs)) (.ref p) (.tuple ds) := .tup (.of upd_same) (r.up (same_new h))
theorem Res.ofP {σ : Sg} {env : En} {S H : Hp} {fp : List Addr} {d : PyData} {Q : VK} (a : At K σ env S H fp)
    (q : ∀ v S' H' f, At K σ env S' H' fp → Gp S H S' H' → Ow K S' H' 0 v d f → (∀ a ∈ f, a ∈ fp) → Q v H') : Res K S H d Q := by
  refine ⟨fun w r => q w S H [] a .refl (Ow.zero r) (fun _ z => by cases z), fun p xs ds e hp r => ?_, fun p xs ds e hp r => ?_⟩
  · subst e
    exact q (.ref p) _ _ [] (a.frz hp) (.frz hp a.sub) (Ow.zero (rp_newL (a.sub.free hp) r)) (fun _ z => by cases z)
  · subst e
    exact q (.ref p) _ _ [] (a.frz hp) (.frz hp a.sub) (Ow.zero (rp_newT (a.sub.free hp) r)) (fun _ z => by cases z)
theorem Res.ofE {σ : Sg} {env : En} {S H : Hp} {fp : List Addr} {d : PyData} {Q : VK} (a : At K σ env S H fp)
    (q : ∀ v S' H' fp', At K σ env S' H' fp' → Go S H fp S' H' fp' → Rp K S' v d → Q v H') : Res K S H d Q := by
  refine ⟨fun w r => q w S H fp a .refl r, fun p xs ds e hp r => ?_, fun p xs ds e hp r => ?_⟩
  · subst e
    exact q (.ref p) _ _ fp (a.frz hp) (.frz hp a.sub) (rp_newL (a.sub.free hp) r)
  · subst e
    exact q (.ref p) _ _ fp (a.frz hp) (.frz hp a.sub) (rp_newT (a.sub.free hp) r)
theorem OwL.of {S H : Hp} : ∀ {xs : List V} {ds : List PyData}, RpL K S xs ds → OwL (Ow K S H 0) xs ds []
  | _, _, .nil => .nil
  | _, _, .cons r t => .cons (f := []) (fs := []) ⟨r, rfl⟩ (OwL.of t)
/-- a new list, one's own -/
theorem At.own {σ : Sg} {env : En} {S H : Hp} {fp : List Addr} {p : Addr} {xs : List V} {ds : List PyData} (h : At K σ env S H fp) (e : H p = none) (r : RpL K S xs ds) :
    AtO K (.ref p) (1, .list ds) σ env S (upd H p (.lst xs)) (p :: fp) := by
  have hp := h.not_mem e
  refine ⟨h.sub.trans (same_new e), List.nodup_cons.mpr ⟨hp, h.nd⟩, OwE.yes (f := [p]) (.inr (.inl ⟨p, xs, ds, [], rfl, rfl, upd_same, h.sub.free e, rfl, OwL.of r⟩)) ?_⟩
  exact h.ow.keep (.refl _) (fun a ha => upd_ne (show a ≠ p from fun z => hp (by rw [← z]; exact ha))) fun a ha => (h.ow.out a ha).1
def ownD : PyData → Sl
  | .list ds => (1, .list ds)
  | d => (0, d)
theorem ResN.ofO {σ : Sg} {env : En} {S H : Hp} {fp : List Addr} {d : PyData} {Q : VK} (a : At K σ env S H fp)
    (q : ∀ v S' H' fp', AtO K v (ownD d) σ env S' H' fp' → Go S H fp S' H' fp' → Q v H') : ResN K S H d Q := by
  refine ⟨fun w n r => ?_, fun p xs ds e hp r => ?_, fun p xs ds e hp r => ?_⟩
  · refine q w S H fp ?_ .refl
    have e : ownD d = (0, d) := by
      cases d with
      | list ds => exact absurd rfl (n ds)
      | _ => rfl
    rw [e]; exact a.withO r
  · subst e
    exact q (.ref p) S _ _ (a.own hp r) (.own hp)
  · subst e
    exact q (.ref p) _ _ fp ((a.frz hp).withO (rp_newT (a.sub.free hp) r)) (.frz hp a.sub)
theorem Ow.more {σ : Sg} {env : En} {S H S' H' : Hp} {fp f : List Addr} {n : Nat} {v : V} {d : PyData} (o : Ow K S H n v d f) (hf : ∀ a ∈ f, a ∈ fp) (a : At K σ env S H fp) (a' : At K σ env S' H' fp) (g : Gp S H S' H') : Ow K S' H' n v d f := by
  refine o.keep g.s (fun b hb => ?_) fun b hb => (a'.ow.out b (hf b hb)).1
  obtain ⟨_, x, e⟩ := a.ow.out b (hf b hb)
  rw [e]; exact g.h b x e

def g2 (g : PyData → PyData → Option PyData) (s t : Sl) : Option PyData := if vis s = true ∧ vis t = true then g s.2 t.2 else none
def dBin (g : PyData → PyData → Option PyData) (α β : DP) : DP := fun env => match α env, β env with
  | some s, some t => (match g2 g s t with | some d => some (0, d) | none => none)
  | _, _ => none
def dBinE (g : PyData → PyData → Option PyData) (α β : DE) : DE := fun env => match α env with
  | some (x, e1) => (match β e1 with
    | some (y, e2) => (match g x y with | some d => some (d, e2) | none => none)
    | none => none)
  | none => none
theorem LP.bin {r : R2} {g : PyData → PyData → Option PyData} (hr : OpG K r g) {α β : DP} {σ : Sg} {H : Hp} {Q : VK} (h : LP K (dBin g α β) σ H Q) : tOp r (LP K α) (LP K β) σ H Q := by
  obtain ⟨env, S, fp, a0, s, e, q⟩ := h
  unfold dBin at e
  split at e
  · rename_i s1 s2 e1 e2
    split at e
    · rename_i d ed
      cases e
      unfold g2 at ed
      split at ed
      · rename_i vv
        refine ⟨env, S, fp, a0, s1, e1, fun v S1 H1 f1 a1 m1 o1 k1 => ?_⟩
        refine ⟨env, S1, fp, a1, s2, e2, fun u S2 H2 f2 a2 m2 o2 k2 => ?_⟩
        refine hr _ _ _ ed S2 H2 v u Q a2.sub ((o1.more k1 a1 a2 m2).vw vv.1) (o2.vw vv.2) (Res.ofP a2 fun w S3 H3 f a3 m3 o3 k3 => ?_)
        exact q w S3 H3 f a3 (m1.trans (m2.trans m3)) o3 k3
      · cases ed
    · cases e
  · cases e
theorem LE.bin {r : R2} {g : PyData → PyData → Option PyData} (hr : OpG K r g) {α β : DE} {σ : Sg} {H : Hp} {Q : VK} (h : LE K (dBinE g α β) σ H Q) : tOp r (LE K α) (LE K β) σ H Q := by
  obtain ⟨env, S, fp, a0, d, env', e, q⟩ := h
  unfold dBinE at e
  split at e
  · rename_i x ex1 e1
    split at e
    · rename_i y ex2 e2
      split at e
      · rename_i d ed
        cases e
        refine ⟨env, S, fp, a0, x, _, e1, fun v S1 H1 f1 a1 m1 r1 => ?_⟩
        refine ⟨_, S1, f1, a1, y, _, e2, fun u S2 H2 f2 a2 m2 r2 => ?_⟩
        refine hr _ _ _ ed S2 H2 v u Q a2.sub (.inl (r1.up m2.s)) (.inl r2) (Res.ofE a2 fun w S3 H3 f a3 m3 r3 => ?_)
        exact q w S3 H3 f a3 (m1.trans (m2.trans m3)) r3
      · cases e
    · cases e
  · cases e
/-- the right one pure -/
def dBinEP (g : PyData → PyData → Option PyData) (α : DE) (β : DP) : DE := fun env => match α env with
  | some (x, e1) => (match β e1 with
    | some t => (match g2 g (0, x) t with | some d => some (d, e1) | none => none)
    | none => none)
  | none => none
theorem LE.binEP {r : R2} {g : PyData → PyData → Option PyData} (hr : OpG K r g) {α : DE} {β : DP} {σ : Sg} {H : Hp} {Q : VK} (h : LE K (dBinEP g α β) σ H Q) : tOp r (LE K α) (LP K β) σ H Q := by
  obtain ⟨env, S, fp, a0, d, env', e, q⟩ := h
  unfold dBinEP at e
  split at e
  · rename_i x ex1 e1
    split at e
    · rename_i t e2
      split at e
      · rename_i d ed
        cases e
        unfold g2 at ed
        split at ed
        · rename_i vv
          refine ⟨env, S, fp, a0, x, _, e1, fun v S1 H1 f1 a1 m1 r1 => ?_⟩
          refine ⟨_, S1, f1, a1, t, e2, fun u S2 H2 f2 a2 m2 o2 k2 => ?_⟩
          refine hr _ _ _ ed S2 H2 v u Q a2.sub (.inl (r1.up m2.s)) (o2.vw vv.2) (Res.ofE a2 fun w S3 H3 f a3 m3 r3 => ?_)
          exact q w S3 H3 f a3 (m1.trans (m2.go.trans m3)) r3
        · cases ed
      · cases e
    · cases e
  · cases e
/-- the left one a name, looked at behind the right one -/
def dBinV (i : Nat) (g : PyData → PyData → Option PyData) (β : DE) : DE := fun env => match (env[i]?).join, β env with
  | some _, some (y, e2) => (match (e2[i]?).join with
    | some s => (match g2 g s (0, y) with | some d => some (d, e2) | none => none)
    | none => none)
  | _, _ => none
theorem LE.binV {i : Nat} {r : R2} {g : PyData → PyData → Option PyData} (hr : OpG K r g) {β : DE} {σ : Sg} {H : Hp} {Q : VK} (h : LE K (dBinV i g β) σ H Q) : tOp r (tVar i) (LE K β) σ H Q := by
  obtain ⟨env, S, fp, a0, d, env', e, q⟩ := h
  unfold dBinV at e
  split at e
  · rename_i s0 y ex2 es0 e2
    split at e
    · rename_i s es
      split at e
      · rename_i d ed
        cases e
        unfold g2 at ed
        split at ed
        · rename_i vv
          obtain ⟨v, f, h1, h2, h3⟩ := a0.ow.look es0
          refine ⟨v, h1, env, S, fp, a0, y, _, e2, fun u S2 H2 f2 a2 m2 r2 => ?_⟩
          obtain ⟨v', f', h1', h2', h3'⟩ := a2.ow.look es
          rw [h1] at h1'; cases h1'
          refine hr _ _ _ ed S2 H2 v u Q a2.sub (h2'.vw vv.1) (.inl r2) (Res.ofE a2 fun w S3 H3 f a3 m3 r3 => ?_)
          exact q w S3 H3 f a3 (m2.trans m3) r3
        · cases ed
      · cases e
    · cases e
  · cases e
/-- with a new list for one's own -/
def dBinO (g : PyData → PyData → Option PyData) (α β : DP) : DO := fun env => match α env, β env with
  | some s, some t => (match g2 g s t with | some d => some (ownD d, env) | none => none)
  | _, _ => none
theorem LO.bin {r : R2} {g : PyData → PyData → Option PyData} (hr : OpN K r g) {α β : DP} {σ : Sg} {H : Hp} {Q : VK} (h : LO K (dBinO g α β) σ H Q) : tOp r (LP K α) (LP K β) σ H Q := by
  obtain ⟨env, S, fp, a0, s, env', e, q⟩ := h
  unfold dBinO at e
  split at e
  · rename_i s1 s2 e1 e2
    split at e
    · rename_i d ed
      cases e
      unfold g2 at ed
      split at ed
      · rename_i vv
        refine ⟨env, S, fp, a0, s1, e1, fun v S1 H1 f1 a1 m1 o1 k1 => ?_⟩
        refine ⟨env, S1, fp, a1, s2, e2, fun u S2 H2 f2 a2 m2 o2 k2 => ?_⟩
        refine hr _ _ _ ed S2 H2 v u Q a2.sub ((o1.more k1 a1 a2 m2).vw vv.1) (o2.vw vv.2) (ResN.ofO a2 fun w S3 H3 f a3 m3 => ?_)
        exact q w S3 H3 f a3 ((m1.trans m2).go.trans m3)
      · cases ed
    · cases e
  · cases e
def dBinOE (g : PyData → PyData → Option PyData) (α β : DE) : DO := fun env => match α env with
  | some (x, e1) => (match β e1 with
    | some (y, e2) => (match g x y with | some d => some (ownD d, e2) | none => none)
    | none => none)
  | none => none
theorem LO.binE {r : R2} {g : PyData → PyData → Option PyData} (hr : OpN K r g) {α β : DE} {σ : Sg} {H : Hp} {Q : VK} (h : LO K (dBinOE g α β) σ H Q) : tOp r (LE K α) (LE K β) σ H Q := by
  obtain ⟨env, S, fp, a0, d, env', e, q⟩ := h
  unfold dBinOE at e
  split at e
  · rename_i x ex1 e1
    split at e
    · rename_i y ex2 e2
      split at e
      · rename_i d ed
        cases e
        refine ⟨env, S, fp, a0, x, _, e1, fun v S1 H1 f1 a1 m1 r1 => ?_⟩
        refine ⟨_, S1, f1, a1, y, _, e2, fun u S2 H2 f2 a2 m2 r2 => ?_⟩
        refine hr _ _ _ ed S2 H2 v u Q a2.sub (.inl (r1.up m2.s)) (.inl r2) (ResN.ofO a2 fun w S3 H3 f a3 m3 => ?_)
        exact q w S3 H3 f a3 (m1.trans (m2.trans m3))
      · cases e
    · cases e
  · cases e
/-! ### tests -/
def tst (ε : DE) : DT := fun env => match ε env with
  | some (.bool b, e) => some (b, e)
  | _ => none
theorem LT.tst {ε : DE} {σ : Sg} {H : Hp} {Q : Bool → Hp → Prop} (h : LT K (tst ε) σ H Q) : LE K ε σ H fun x H' => ∃ k, x = .bl k ∧ Q k H' := by
  obtain ⟨env, S, fp, a0, b, env', e, q⟩ := h
  unfold Dn.tst at e
  split at e
  · rename_i b' ex e1
    cases e
    exact ⟨env, S, fp, a0, _, _, e1, fun v S' H' fp' a1 m r => ⟨_, (by cases r; rfl), q S' H' fp' a1 m⟩⟩
  · cases e
section
variable {op : Operator} {cop : CmpOp} {r : R2} {g : PyData → PyData → Option PyData} {a b : Expr} {pos pos' : Pos} {x : Str}
theorem qp_bin {α β : DP} (ho : OpR X (binaryOp op) r) (hr : OpG K r g) (ha : PE X a (LP K α)) (hb : PE X b (LP K β)) : PE X (.BinOp a op b pos) (LP K (dBin g α β)) :=
  PE.mono (pe_op ho ha hb) fun _ _ _ w => w.bin hr
theorem qe_bin {α β : DE} (ho : OpR X (binaryOp op) r) (hr : OpG K r g) (ha : PE X a (LE K α)) (hb : PE X b (LE K β)) : PE X (.BinOp a op b pos) (LE K (dBinE g α β)) :=
  PE.mono (pe_op ho ha hb) fun _ _ _ w => w.bin hr
theorem qe_binEP {α : DE} {β : DP} (ho : OpR X (binaryOp op) r) (hr : OpG K r g) (ha : PE X a (LE K α)) (hb : PE X b (LP K β)) : PE X (.BinOp a op b pos) (LE K (dBinEP g α β)) :=
  PE.mono (pe_op ho ha hb) fun _ _ _ w => w.binEP hr
theorem qe_binV (i : Nat) {β : DE} (ho : OpR X (binaryOp op) r) (hr : OpG K r g) (hb : PE X b (LE K β))
    (hN : X.N[i]? = some x := by rfl) (hv : Vis X.env.scope x := by first | exact Or.inl rfl | exact Or.inr (Or.inl rfl) | exact Or.inr (Or.inr rfl)) (hd : (x == ("__debug__" : Str)) = false := by decide) (hcd : (x == ("__classdict__" : Str)) = false := by decide) : PE X (.BinOp (.Name x pos') op b pos) (LE K (dBinV i g β)) :=
  PE.mono (pe_op ho (pv i hN hv hd hcd) hb) fun _ _ _ w => w.binV hr
theorem qo_bin {α β : DP} (ho : OpR X (binaryOp op) r) (hr : OpN K r g) (ha : PE X a (LP K α)) (hb : PE X b (LP K β)) : PE X (.BinOp a op b pos) (LO K (dBinO g α β)) :=
  PE.mono (pe_op ho ha hb) fun _ _ _ w => w.bin hr
theorem qo_binE {α β : DE} (ho : OpR X (binaryOp op) r) (hr : OpN K r g) (ha : PE X a (LE K α)) (hb : PE X b (LE K β)) : PE X (.BinOp a op b pos) (LO K (dBinOE g α β)) :=
  PE.mono (pe_op ho ha hb) fun _ _ _ w => w.binE hr
theorem qp_cmp {α β : DP} (ho : OpR X (compareOp cop) r) (hr : OpG K r g) (ha : PE X a (LP K α)) (hb : PE X b (LP K β)) (hm : behindInMarks cop b = false := by first | exact nomark _ | with_unfolding_all rfl) : PE X (.Compare a [cop] [b] pos) (LP K (dBin g α β)) :=
  PE.mono (pe_cmpR ho ha hb hm) fun _ _ _ w => w.bin hr
theorem qe_cmp {α β : DE} (ho : OpR X (compareOp cop) r) (hr : OpG K r g) (ha : PE X a (LE K α)) (hb : PE X b (LE K β)) (hm : behindInMarks cop b = false := by first | exact nomark _ | with_unfolding_all rfl) : PE X (.Compare a [cop] [b] pos) (LE K (dBinE g α β)) :=
  PE.mono (pe_cmpR ho ha hb hm) fun _ _ _ w => w.bin hr
theorem qe_cmpEP {α : DE} {β : DP} (ho : OpR X (compareOp cop) r) (hr : OpG K r g) (ha : PE X a (LE K α)) (hb : PE X b (LP K β)) (hm : behindInMarks cop b = false := by first | exact nomark _ | with_unfolding_all rfl) : PE X (.Compare a [cop] [b] pos) (LE K (dBinEP g α β)) :=
  PE.mono (pe_cmpR ho ha hb hm) fun _ _ _ w => w.binEP hr
theorem qt_cmp {α β : DP} (ho : OpR X (compareOp cop) r) (hr : OpG K r g) (ha : PE X a (LP K α)) (hb : PE X b (LP K β)) (hm : behindInMarks cop b = false := by first | exact nomark _ | with_unfolding_all rfl) : PT X (.Compare a [cop] [b] pos) (LT K (tst (dOf (dBin g α β)))) :=
  PT.mono (pt_cmpR ho ha hb hm) fun _ _ _ w => (w.tst.ofP).bin hr
theorem qt_cmpE {α β : DE} (ho : OpR X (compareOp cop) r) (hr : OpG K r g) (ha : PE X a (LE K α)) (hb : PE X b (LE K β)) (hm : behindInMarks cop b = false := by first | exact nomark _ | with_unfolding_all rfl) : PT X (.Compare a [cop] [b] pos) (LT K (tst (dBinE g α β))) :=
  PT.mono (pt_cmpR ho ha hb hm) fun _ _ _ w => (w.tst).bin hr
theorem qt_cmpEP {α : DE} {β : DP} (ho : OpR X (compareOp cop) r) (hr : OpG K r g) (ha : PE X a (LE K α)) (hb : PE X b (LP K β)) (hm : behindInMarks cop b = false := by first | exact nomark _ | with_unfolding_all rfl) : PT X (.Compare a [cop] [b] pos) (LT K (tst (dBinEP g α β))) :=
  PT.mono (pt_cmpR ho ha hb hm) fun _ _ _ w => (w.tst).binEP hr
/-- subscripts -/
theorem qp_ix {α β : DP} (ho : IxR X r) (hr : OpG K r g) (ha : PE X a (LP K α)) (hb : PE X b (LP K β)) (hs : PlainIx b := by intro _ _; rfl) : PE X (.Subscript a b pos) (LP K (dBin g α β)) :=
  PE.mono (pe_ix ho ha hb hs) fun _ _ _ w => w.bin hr
theorem qe_ix {α β : DE} (ho : IxR X r) (hr : OpG K r g) (ha : PE X a (LE K α)) (hb : PE X b (LE K β)) (hs : PlainIx b := by intro _ _; rfl) : PE X (.Subscript a b pos) (LE K (dBinE g α β)) :=
  PE.mono (pe_ix ho ha hb hs) fun _ _ _ w => w.bin hr
theorem qe_ixV (i : Nat) {β : DE} (ho : IxR X r) (hr : OpG K r g) (hb : PE X b (LE K β)) (hs : PlainIx b := by intro _ _; rfl)
    (hN : X.N[i]? = some x := by rfl) (hv : Vis X.env.scope x := by first | exact Or.inl rfl | exact Or.inr (Or.inl rfl) | exact Or.inr (Or.inr rfl)) (hd : (x == ("__debug__" : Str)) = false := by decide) (hcd : (x == ("__classdict__" : Str)) = false := by decide) : PE X (.Subscript (.Name x pos') b pos) (LE K (dBinV i g β)) :=
  PE.mono (pe_ix ho (pv i hN hv hd hcd) hb hs) fun _ _ _ w => w.binV hr
end
/-! ### chains a < b < c -/
def dChain (g g' : PyData → PyData → Option PyData) (α β γ : DP) : DP := fun env => match α env, β env with
  | some s, some t => (match g2 g s t with
    | some (.bool true) => (match γ env with
      | some w => (match g2 g' t w with | some d => some (0, d) | none => none)
      | none => none)
    | some (.bool false) => some (0, .bool false)
    | _ => none)
  | _, _ => none
theorem LP.chain {r r' : R2} {g g' : PyData → PyData → Option PyData} (hr : OpG K r g) (hr' : OpG K r' g') {α β γ : DP} {σ : Sg} {H : Hp} {Q : VK} (h : LP K (dChain g g' α β γ) σ H Q) : tChain r r' (LP K α) (LP K β) (LP K γ) σ H Q := by
  obtain ⟨env, S, fp, a0, s, e, q⟩ := h
  unfold dChain at e
  split at e
  · rename_i s1 s2 e1 e2
    refine ⟨env, S, fp, a0, s1, e1, fun v S1 H1 f1 a1 m1 o1 k1 => ?_⟩
    refine ⟨env, S1, fp, a1, s2, e2, fun u S2 H2 f2 a2 m2 o2 k2 => ?_⟩
    split at e
    · rename_i ed
      unfold g2 at ed
      split at ed
      · rename_i vv
        split at e
        · rename_i w ew
          split at e
          · rename_i d ed2
            cases e
            unfold g2 at ed2
            split at ed2
            · rename_i vw
              refine hr _ _ _ ed S2 H2 v u _ a2.sub ((o1.more k1 a1 a2 m2).vw vv.1) (o2.vw vv.2) (Res.ofP a2 fun z S3 H3 f a3 m3 o3 k3 => ⟨true, (by cases o3.1; rfl), ?_⟩)
              refine iteT ?_
              refine ⟨env, S3, fp, a3, w, ew, fun x S4 H4 f4 a4 m4 o4 k4 => ?_⟩
              refine hr' _ _ _ ed2 S4 H4 u x Q a4.sub ((o2.more k2 a2 a4 (m3.trans m4)).vw vw.1) (o4.vw vw.2) (Res.ofP a4 fun y S5 H5 f5 a5 m5 o5 k5 => ?_)
              exact q y S5 H5 f5 a5 (m1.trans (m2.trans (m3.trans (m4.trans m5)))) o5 k5
            · cases ed2
          · cases e
        · cases e
      · cases ed
    · rename_i ed
      cases e
      unfold g2 at ed
      split at ed
      · rename_i vv
        refine hr _ _ _ ed S2 H2 v u _ a2.sub ((o1.more k1 a1 a2 m2).vw vv.1) (o2.vw vv.2) (Res.ofP a2 fun z S3 H3 f a3 m3 o3 k3 => ⟨false, (by cases o3.1; rfl), ?_⟩)
        refine iteF ?_
        exact q _ S3 H3 [] a3 (m1.trans (m2.trans m3)) (Ow.zero (.bl false)) (fun _ z => by cases z)
      · cases ed
    · cases e
  · cases e
theorem qp_chain {op op' : CmpOp} {r r' : R2} {g g' : PyData → PyData → Option PyData} {a b c : Expr} {pos : Pos} {α β γ : DP} (ho : OpR X (compareOp op) r) (hr : OpG K r g) (ho' : OpR X (compareOp op') r') (hr' : OpG K r' g') (ha : PE X a (LP K α)) (hb : PE X b (LP K β)) (hc : PE X c (LP K γ))
    (hm : lastMarks [op, op'] [b, c] = false := by with_unfolding_all rfl) : PE X (.Compare a [op, op'] [b, c] pos) (LP K (dChain g g' α β γ)) :=
  PE.mono (pe_chain ho ho' ha hb hc hm) fun _ _ _ w => w.chain hr hr'
theorem qt_chain {op op' : CmpOp} {r r' : R2} {g g' : PyData → PyData → Option PyData} {a b c : Expr} {pos : Pos} {α β γ : DP} (ho : OpR X (compareOp op) r) (hr : OpG K r g) (ho' : OpR X (compareOp op') r') (hr' : OpG K r' g') (ha : PE X a (LP K α)) (hb : PE X b (LP K β)) (hc : PE X c (LP K γ))
    (hm : lastMarks [op, op'] [b, c] = false := by with_unfolding_all rfl) : PT X (.Compare a [op, op'] [b, c] pos) (LT K (tst (dOf (dChain g g' α β γ)))) :=
  PT.mono (pt_chain ho ho' ha hb hc hm) fun _ _ _ w => (w.tst.ofP).chain hr hr'
/-! ### truth, and, or, not -/
open scoped Dn.Sz in
def truD : PyData → Option Bool
  | .none => some false
  | .bool b => some b
  | .int i => some (i != 0)
  | .str x => if x.length ≤ sizeLine then some ((x.length : Int) != 0) else none
  | .list ds => some (!ds.isEmpty)
  | .tuple ds => some (!ds.isEmpty)
  | .dict ds => some (!ds.isEmpty)
theorem RpL.emp {S : Hp} {xs : List V} {ds : List PyData} (h : RpL K S xs ds) : (!ds.isEmpty) = !xs.isEmpty := by cases h <;> rfl
theorem RpK.emp {S : Hp} {xs : List (Key × V)} {ds : List (PyData × PyData)} (h : RpK K S xs ds) : (!ds.isEmpty) = !xs.isEmpty := by cases h <;> rfl
theorem Rp.tru {H : Hp} {v : V} {d : PyData} {b : Bool} (h : Rp K H v d) (e : truD d = some b) : TruV K v H b := by
  cases h with
  | non => cases e; rfl
  | bl b => cases e; rfl
  | int i => cases e; rfl
  | str x =>
    simp only [truD] at e
    split at e
    · rename_i hx; cases e; exact ⟨hx, rfl⟩
    · cases e
  | lst hs ha => cases e; exact .inl ⟨_, hs.sq, ha.emp⟩
  | tup hs ha => cases e; exact .inr (.inl ⟨_, hs, ha.emp⟩)
  | dic hs ha => cases e; exact .inr (.inr ⟨_, hs, ha.emp⟩)
def tru (ε : DE) : DT := fun env => match ε env with
  | some (d, e) => (match truD d with | some b => some (b, e) | none => none)
  | none => none
theorem LT.tru {ε : DE} {σ : Sg} {H : Hp} {Q : Bool → Hp → Prop} (h : LT K (tru ε) σ H Q) : LE K ε σ H fun x H' => ∃ k, TruV K x H' k ∧ Q k H' := by
  obtain ⟨env, S, fp, a0, b, env', e, q⟩ := h
  unfold Dn.tru at e
  split at e
  · rename_i d ex e1
    split at e
    · rename_i b' eb
      cases e
      exact ⟨env, S, fp, a0, _, _, e1, fun v S' H' fp' a1 m r => ⟨_, (r.up a1.sub).tru eb, q S' H' fp' a1 m⟩⟩
    · cases e
  · cases e
theorem qt_tru {e : Expr} {ε : DE} (h : PE X e (LE X.K ε)) (he : ∀ whole, isTrue e X.env whole = (do let v ← whole; standAt e.pos; holding [v] (truthy v)) := by intro _; rfl) : PT X e (LT X.K (tru ε)) :=
  PT.mono (pt_truth h he) fun _ _ _ w => w.tru
/-- the truth of what may be one's own -/
def truP (ε : DP) : DT := fun env => match ε env with
  | some s => (match truD s.2 with | some b => some (b, env) | none => none)
  | none => none
theorem Ow.all {S H : Hp} {n : Nat} {v : V} {d : PyData} {f : List Addr} (o : Ow K S H n v d f) (sub : Same S H) : Rp K H v d := o.rp sub fun _ _ => rfl
theorem LT.truP {ε : DP} {σ : Sg} {H : Hp} {Q : Bool → Hp → Prop} (h : LT K (truP ε) σ H Q) : LP K ε σ H fun x H' => ∃ k, TruV K x H' k ∧ Q k H' := by
  obtain ⟨env, S, fp, a0, b, env', e, q⟩ := h
  unfold Dn.truP at e
  split at e
  · rename_i s e1
    split at e
    · rename_i b' eb
      cases e
      exact ⟨env, S, fp, a0, _, e1, fun v S' H' f a1 m o _ => ⟨_, (o.all a1.sub).tru eb, q S' H' fp a1 m.go⟩⟩
    · cases e
  · cases e
theorem qt_truP {e : Expr} {ε : DP} (h : PE X e (LP X.K ε)) (he : ∀ whole, isTrue e X.env whole = (do let v ← whole; standAt e.pos; holding [v] (truthy v)) := by intro _; rfl) : PT X e (LT X.K (truP ε)) :=
  PT.mono (pt_truth h he) fun _ _ _ w => w.truP
def dtNot (τ : DT) : DT := fun env => match τ env with
  | some (b, e) => some (!b, e)
  | none => none
def dtAnd (τ υ : DT) : DT := fun env => match τ env with
  | some (true, e) => υ e
  | some (false, e) => some (false, e)
  | none => none
def dtOr (τ υ : DT) : DT := fun env => match τ env with
  | some (true, e) => some (true, e)
  | some (false, e) => υ e
  | none => none
theorem LT.not {τ : DT} {σ : Sg} {H : Hp} {Q : Bool → Hp → Prop} (h : LT K (dtNot τ) σ H Q) : tNot (LT K τ) σ H Q := by
  obtain ⟨env, S, fp, a0, b, env', e, q⟩ := h
  unfold dtNot at e
  split at e
  · rename_i b' ex e1; cases e; exact ⟨env, S, fp, a0, _, _, e1, q⟩
  · cases e
theorem LT.and {τ υ : DT} {σ : Sg} {H : Hp} {Q : Bool → Hp → Prop} (h : LT K (dtAnd τ υ) σ H Q) : tAnd (LT K τ) (LT K υ) σ H Q := by
  obtain ⟨env, S, fp, a0, b, env', e, q⟩ := h
  unfold dtAnd at e
  split at e
  · rename_i ex e1
    refine ⟨env, S, fp, a0, _, _, e1, fun S' H' fp' a1 m => ?_⟩
    refine iteT ?_
    exact ⟨_, S', fp', a1, _, _, e, fun S2 H2 fp2 a2 m2 => q S2 H2 fp2 a2 (m.trans m2)⟩
  · rename_i ex e1
    cases e
    refine ⟨env, S, fp, a0, _, _, e1, fun S' H' fp' a1 m => ?_⟩
    refine iteF ?_
    exact q S' H' fp' a1 m
  · cases e
theorem LT.or {τ υ : DT} {σ : Sg} {H : Hp} {Q : Bool → Hp → Prop} (h : LT K (dtOr τ υ) σ H Q) : tOr (LT K τ) (LT K υ) σ H Q := by
  obtain ⟨env, S, fp, a0, b, env', e, q⟩ := h
  unfold dtOr at e
  split at e
  · rename_i ex e1
    cases e
    refine ⟨env, S, fp, a0, _, _, e1, fun S' H' fp' a1 m => ?_⟩
    refine iteT ?_
    exact q S' H' fp' a1 m
  · rename_i ex e1
    refine ⟨env, S, fp, a0, _, _, e1, fun S' H' fp' a1 m => ?_⟩
    refine iteF ?_
    exact ⟨_, S', fp', a1, _, _, e, fun S2 H2 fp2 a2 m2 => q S2 H2 fp2 a2 (m.trans m2)⟩
  · cases e
theorem qt_not {e : Expr} {pos : Pos} {τ : DT} (h : PT X e (LT K τ)) : PT X (.UnaryOp .Not e pos) (LT K (dtNot τ)) := PT.mono (pt_not h) fun _ _ _ w => w.not
theorem qw_and1 {e : Expr} {pos : Pos} {τ : DT} (h : PT X e (LT K τ)) : PW X (.BoolOp .And [e] pos) (LT K τ) := pw_and1 h
theorem qw_or1 {e : Expr} {pos : Pos} {τ : DT} (h : PT X e (LT K τ)) : PW X (.BoolOp .Or [e] pos) (LT K τ) := pw_or1 h
theorem qw_and {a b : Expr} {rest : List Expr} {pos : Pos} {τ υ : DT} (h : PT X a (LT K τ)) (h2 : PW X (.BoolOp .And (b :: rest) pos) (LT K υ)) : PW X (.BoolOp .And (a :: b :: rest) pos) (LT K (dtAnd τ υ)) := PW.mono (pw_and h h2) fun _ _ _ w => w.and
theorem qw_or {a b : Expr} {rest : List Expr} {pos : Pos} {τ υ : DT} (h : PT X a (LT K τ)) (h2 : PW X (.BoolOp .Or (b :: rest) pos) (LT K υ)) : PW X (.BoolOp .Or (a :: b :: rest) pos) (LT K (dtOr τ υ)) := PW.mono (pw_or h h2) fun _ _ _ w => w.or
/-! .. as values -/
def dAnd (α β : DE) : DE := fun env => match α env with
  | some (d, e) => (match truD d with
    | some true => β e
    | some false => some (d, e)
    | none => none)
  | none => none
def dOr (α β : DE) : DE := fun env => match α env with
  | some (d, e) => (match truD d with
    | some true => some (d, e)
    | some false => β e
    | none => none)
  | none => none
theorem LE.and {α β : DE} {σ : Sg} {H : Hp} {Q : VK} (h : LE K (dAnd α β) σ H Q) : tAndT K (LE K α) (LE K β) σ H Q := by
  obtain ⟨env, S, fp, a0, b, env', e, q⟩ := h
  unfold dAnd at e
  split at e
  · rename_i d ex e1
    refine ⟨env, S, fp, a0, _, _, e1, fun v S' H' fp' a1 m r => ?_⟩
    split at e
    · rename_i eb
      refine ⟨true, (r.up a1.sub).tru eb, ?_⟩
      refine iteT ?_
      exact ⟨_, S', fp', a1, _, _, e, fun u S2 H2 fp2 a2 m2 r2 => q u S2 H2 fp2 a2 (m.trans m2) r2⟩
    · rename_i eb
      cases e
      refine ⟨false, (r.up a1.sub).tru eb, ?_⟩
      refine iteF ?_
      exact q v S' H' fp' a1 m r
    · cases e
  · cases e
theorem LE.or {α β : DE} {σ : Sg} {H : Hp} {Q : VK} (h : LE K (dOr α β) σ H Q) : tOrT K (LE K α) (LE K β) σ H Q := by
  obtain ⟨env, S, fp, a0, b, env', e, q⟩ := h
  unfold dOr at e
  split at e
  · rename_i d ex e1
    refine ⟨env, S, fp, a0, _, _, e1, fun v S' H' fp' a1 m r => ?_⟩
    split at e
    · rename_i eb
      cases e
      refine ⟨true, (r.up a1.sub).tru eb, ?_⟩
      refine iteT ?_
      exact q v S' H' fp' a1 m r
    · rename_i eb
      refine ⟨false, (r.up a1.sub).tru eb, ?_⟩
      refine iteF ?_
      exact ⟨_, S', fp', a1, _, _, e, fun u S2 H2 fp2 a2 m2 r2 => q u S2 H2 fp2 a2 (m.trans m2) r2⟩
    · cases e
  · cases e
def dNot (α : DE) : DE := fun env => match α env with
  | some (d, e) => (match truD d with
    | some b => some (.bool (!b), e)
    | none => none)
  | none => none
theorem LE.not {α : DE} {σ : Sg} {H : Hp} {Q : VK} (h : LE K (dNot α) σ H Q) : tNotT K (LE K α) σ H Q := by
  obtain ⟨env, S, fp, a0, b, env', e, q⟩ := h
  unfold dNot at e
  split at e
  · rename_i d ex e1
    refine ⟨env, S, fp, a0, _, _, e1, fun v S' H' fp' a1 m r => ?_⟩
    split at e
    · rename_i b' eb
      cases e
      exact ⟨b', (r.up a1.sub).tru eb, q _ S' H' fp' a1 m (.bl _)⟩
    · cases e
  · cases e
theorem qe_and {a b : Expr} {rest : List Expr} {pos : Pos} {α β : DE} (ha : PE X a (LE X.K α)) (hb : PE X (.BoolOp .And (b :: rest) pos) (LE X.K β)) : PE X (.BoolOp .And (a :: b :: rest) pos) (LE X.K (dAnd α β)) :=
  PE.mono (pe_andT ha hb) fun _ _ _ w => w.and
theorem qe_or {a b : Expr} {rest : List Expr} {pos : Pos} {α β : DE} (ha : PE X a (LE X.K α)) (hb : PE X (.BoolOp .Or (b :: rest) pos) (LE X.K β)) : PE X (.BoolOp .Or (a :: b :: rest) pos) (LE X.K (dOr α β)) :=
  PE.mono (pe_orT ha hb) fun _ _ _ w => w.or
theorem qe_not {a : Expr} {pos : Pos} {α : DE} (ha : PE X a (LE X.K α)) : PE X (.UnaryOp .Not a pos) (LE X.K (dNot α)) :=
  PE.mono (pe_notT ha) fun _ _ _ w => w.not
/-- the last link -/
theorem qe_one {a : Expr} {op : BoolOp} {pos : Pos} {α : DE} (ha : PE X a (LE K α)) : PE X (.BoolOp op [a] pos) (LE K α) := pe_one ha
/-! ### a if c else b -/
def dIf {α : Type} (τ : DT) (α1 β : En → Option α) : En → Option α := fun env => match τ env with
  | some (true, e) => α1 e
  | some (false, e) => β e
  | none => none
theorem LE.ite {τ : DT} {α β : DE} {σ : Sg} {H : Hp} {Q : VK} (h : LE K (dIf τ α β) σ H Q) : tIf (LT K τ) (LE K α) (LE K β) σ H Q := by
  obtain ⟨env, S, fp, a0, b, env', e, q⟩ := h
  unfold dIf at e
  split at e
  · rename_i ex e1
    refine ⟨env, S, fp, a0, _, _, e1, fun S' H' fp' a1 m => ?_⟩
    refine iteT ?_
    exact ⟨_, S', fp', a1, _, _, e, fun u S2 H2 fp2 a2 m2 r2 => q u S2 H2 fp2 a2 (m.trans m2) r2⟩
  · rename_i ex e1
    refine ⟨env, S, fp, a0, _, _, e1, fun S' H' fp' a1 m => ?_⟩
    refine iteF ?_
    exact ⟨_, S', fp', a1, _, _, e, fun u S2 H2 fp2 a2 m2 r2 => q u S2 H2 fp2 a2 (m.trans m2) r2⟩
  · cases e
theorem qe_if {c a b : Expr} {pos : Pos} {τ : DT} {α β : DE} (hc : PT X c (LT K τ)) (ha : PE X a (LE K α)) (hb : PE X b (LE K β)) : PE X (.IfExp c a b pos) (LE K (dIf τ α β)) :=
  PE.mono (pe_ifExp hc ha hb) fun _ _ _ w => w.ite
theorem LO.ite {τ : DT} {α β : DO} {σ : Sg} {H : Hp} {Q : VK} (h : LO K (dIf τ α β) σ H Q) : tIf (LT K τ) (LO K α) (LO K β) σ H Q := by
  obtain ⟨env, S, fp, a0, b, env', e, q⟩ := h
  unfold dIf at e
  split at e
  · rename_i ex e1
    refine ⟨env, S, fp, a0, _, _, e1, fun S' H' fp' a1 m => ?_⟩
    refine iteT ?_
    exact ⟨_, S', fp', a1, _, _, e, fun u S2 H2 fp2 a2 m2 => q u S2 H2 fp2 a2 (m.trans m2)⟩
  · rename_i ex e1
    refine ⟨env, S, fp, a0, _, _, e1, fun S' H' fp' a1 m => ?_⟩
    refine iteF ?_
    exact ⟨_, S', fp', a1, _, _, e, fun u S2 H2 fp2 a2 m2 => q u S2 H2 fp2 a2 (m.trans m2)⟩
  · cases e
theorem qo_if {c a b : Expr} {pos : Pos} {τ : DT} {α β : DO} (hc : PT X c (LT K τ)) (ha : PE X a (LO K α)) (hb : PE X b (LO K β)) : PE X (.IfExp c a b pos) (LO K (dIf τ α β)) :=
  PE.mono (pe_ifExp hc ha hb) fun _ _ _ w => w.ite
end
end Dn

set_option Elab.async false
set_option linter.all false
set_option maxRecDepth 100000
set_option maxHeartbeats 1000000
/-! layer D, 3: operators -/
namespace Dn
open PySem PySem.Spec PyProof.Rows L2
section
variable {K : PySem.W.Frag}
def gI (f : Int → Int → PyData) : PyData → PyData → Option PyData := fun x y => match x, y with
  | .int i, .int j => some (f i j)
  | _, _ => none
def gIC (c : Int → Int → Bool) (f : Int → Int → PyData) : PyData → PyData → Option PyData := fun x y => match x, y with
  | .int i, .int j => if c i j = true then some (f i j) else none
  | _, _ => none
theorem opn_I0 {g : Int → Int → V} {f : Int → Int → PyData} (h : ∀ i j S, Rp K S (g i j) (f i j)) (nl : ∀ i j ds, f i j ≠ .list ds) : OpN K (rI0 g) (gI f) := by
  intro d1 d2 d e S H v u Q sub hv hu hr
  unfold gI at e
  split at e
  · rename_i i j
    cases e
    have e1 := hv.int
    have e2 := hu.int
    subst e1; subst e2
    exact ⟨i, j, rfl, rfl, hr.old _ (nl i j) (h i j S)⟩
  · cases e
theorem opn_IC {g : Int → Int → V} {f : Int → Int → PyData} {P : Int → Int → Prop} {c : Int → Int → Bool} (hc : ∀ i j, c i j = true → P i j) (h : ∀ i j S, Rp K S (g i j) (f i j)) (nl : ∀ i j ds, f i j ≠ .list ds) : OpN K (rI P g) (gIC c f) := by
  intro d1 d2 d e S H v u Q sub hv hu hr
  unfold gIC at e
  split at e
  · rename_i i j
    split at e
    · rename_i z
      cases e
      have e1 := hv.int
      have e2 := hu.int
      subst e1; subst e2
      exact ⟨i, j, rfl, rfl, hc i j z, hr.old _ (nl i j) (h i j S)⟩
    · cases e
  · cases e
/-! ### + on lists, tuples -/
open scoped Dn.Sz in
def gCatL : PyData → PyData → Option PyData := fun x y => match x, y with
  | .list a, .list b => if a.length + b.length ≤ sizeLine then some (.list (a ++ b)) else none
  | _, _ => none
theorem lstR {X : Cx} {pins : List (Addr × Obj)} {σ : L2.St} {H : Hp} {s : Shared} {l : Addr} {xs : List V} (I : Inv X pins σ H s) (hH : LstR X.K H l xs) : xs.length ≤ sizeLine ∧ ∃ (its : List Value) (n : Nat), Vals xs its ∧ xs.length = its.length ∧ s.heap.get? l = some { cls := .type "list", data := .seq its.toArray n } := by
  rcases hH with hH | ⟨its, n, hk, hz, r⟩
  · obtain ⟨z, its, n, r, e⟩ := hH.ok I.hok
    exact ⟨z, its, n, r, r.length, e⟩
  · have e := r.length
    refine ⟨?_, its.toList, n, r, e, ?_⟩
    · rw [e, Array.length_toList]; exact hz
    · have q := I.kIn l _ hk
      simpa using q
/-- list + list, read alone -/
def rCatR (K : PySem.W.Frag) : R2 := fun x y H Q => ∃ l b xs zs, x = .ref l ∧ y = .ref b ∧ LstR K H l xs ∧ LstR K H b zs ∧ xs.length + zs.length ≤ sizeLine ∧ ∀ p, H p = none → Q (.ref p) (upd H p (.lst (xs ++ zs)))
theorem op_catR {X : Cx} : OpR X (binaryOp .Add) (rCatR X.K) := by
  intro pins s σ H x y v u Q I rx ry h
  obtain ⟨l, b, xs, zs, rfl, rfl, hH, hB, hz, q⟩ := h
  cases rx; cases ry
  obtain ⟨_, its, n, r, hl, e⟩ := lstR I hH
  obtain ⟨_, its2, n2, r2, hl2, e2⟩ := lstR I hB
  have ea : its.toArray ++ its2.toArray = (its ++ its2).toArray := by simp
  refine PySem.P.add_list e e2 ?_ (by rw [List.size_toArray, List.size_toArray]; omega)
  rw [ea]
  exact ⟨.ref _, _, I.lnew (t' := s.toks) (r.append r2) (by rw [List.length_append]; omega), rfl, q _ I.fresh⟩
/-- list * int, read alone -/
def rRepR (K : PySem.W.Frag) : R2 := fun x y H Q => ∃ l k xs, x = .ref l ∧ y = .int k ∧ LstR K H l xs ∧ -(2 ^ 63) ≤ k ∧ k < 2 ^ 63 ∧ xs.length * k.toNat ≤ sizeLine ∧
  ∀ p, H p = none → Q (.ref p) (upd H p (.lst (List.replicate k.toNat xs).flatten))
theorem op_repR {X : Cx} : OpR X (binaryOp .Mult) (rRepR X.K) := by
  intro pins s σ H x y v u Q I rx ry h
  obtain ⟨l, k, xs, rfl, rfl, hH, h1, h2, hz, q⟩ := h
  cases rx
  obtain ⟨t, rfl⟩ := ry
  obtain ⟨z, its, n, r, hl, e⟩ := lstR I hH
  have c0 : its.toArray.size * k.toNat ≤ sizeLine := by rw [List.size_toArray, ← hl]; exact hz
  have c1 : ¬ its.toArray.size * k.toNat > (2 ^ 63 - 1) / 8 := by
    have : (sizeLine : Nat) ≤ (2 ^ 63 - 1) / 8 := by decide
    omega
  have c2 : ¬ (!Builtin.List.listFitsIndex k) = true := by
    rw [fitsIndex_both h1 h2]; exact Bool.false_ne_true
  have c3 : ¬ Builtin.List.listTooLong (its.toArray.size * k.toNat) = true := by
    rw [notLongL c0]; exact Bool.false_ne_true
  have c4 : List.foldl (fun x1 x2 => x1 ++ x2) #[] (List.replicate (if its.toArray.isEmpty = true then 0 else k.toNat) its.toArray) = (List.replicate k.toNat its).flatten.toArray := by
    have f0 : ∀ m : Nat, List.foldl (fun x1 x2 => x1 ++ x2) #[] (List.replicate m its.toArray) = (List.replicate m its).flatten.toArray := fun m => by
      have := foldl_rep its m []
      rwa [List.nil_append] at this
    rw [f0]
    cases its with
    | nil => simp
    | cons a r' => rw [if_neg (by simp)]
  refine wpAny_binaryOp_repeat_ref (T := "list") (U := "int") (by decide) ⟨_, e, rfl⟩ (fun s' => typeIs_int s' k t) noFill_list_mul F.fills_int_mul F.slot_int_rmul repeat_list F.slot_int_index.lookup
    (call_meets F.slot_int_rmul (typeIs_int s k t) F.entry_int_rmul (F.args_int_rmul_2 _ _) (int___rmul___int_list k t l its.toArray n)
      ⟨e, rfl, ⟨_, e, rfl⟩, call_meets F.slot_list_mul ⟨_, e, rfl⟩ F.entry_list_mul (F.args_list_mul_2 _ _) (AutoListH.list___mul___list_int_3 l its.toArray n k t c2 c1 c3) ⟨e, ?_⟩⟩)
  rw [c4]
  exact ⟨.ref _, _, I.lnew (t' := s.toks) (r.rep k.toNat) (by rw [PyProof.Rows.lm_len_rep_flat, Nat.mul_comm]; exact hz), rfl, q _ I.fresh⟩
theorem opn_cat : OpN K (rCatR K) gCatL := by
  intro d1 d2 d e S H v u Q sub hv hu hr
  unfold gCatL at e
  split at e
  · rename_i a b
    split at e
    · rename_i hz
      cases e
      obtain ⟨p, xs, rfl, h1, r1⟩ := hv.list sub
      obtain ⟨q, ys, rfl, h2, r2⟩ := hu.list sub
      exact ⟨p, q, xs, ys, rfl, rfl, h1, h2, by rw [r1.len, r2.len]; exact hz, fun l hl => hr.lst l _ _ rfl hl (r1.append r2)⟩
    · cases e
  · cases e
open scoped Dn.Sz in
def gCatT : PyData → PyData → Option PyData := fun x y => match x, y with
  | .tuple a, .tuple b => if a.length + b.length ≤ sizeLine then some (.tuple (a ++ b)) else none
  | _, _ => none
theorem RpL.nil_iff {S : Hp} {xs : List V} {ds : List PyData} (h : RpL K S xs ds) : xs = [] ↔ ds = [] := by cases h <;> simp
theorem opn_catT : OpN K (rCatA K) gCatT := by
  intro d1 d2 d e S H v u Q sub hv hu hr
  unfold gCatT at e
  split at e
  · rename_i a b
    split at e
    · rename_i hz
      cases e
      obtain ⟨p, xs, rfl, t1, h1, r1⟩ := hv.tuple sub
      obtain ⟨q, ys, rfl, t2, h2, r2⟩ := hu.tuple sub
      refine ⟨p, q, xs, ys, rfl, rfl, h1, h2, by rw [r1.len, r2.len]; exact hz, fun z => ?_, fun _ z => ?_, fun _ _ l hl => hr.tup l _ _ rfl hl (r1.append r2)⟩
      · have z' := r1.nil_iff.mp z
        subst z'
        exact hr.old _ (fun _ z => by cases z) (.tup t2 r2)
      · have z' := r2.nil_iff.mp z
        subst z'
        rw [List.append_nil] at hr
        exact hr.old _ (fun _ z => by cases z) (.tup t1 r1)
    · cases e
  · cases e
open scoped Dn.Sz in
def gRep : PyData → PyData → Option PyData := fun x y => match x, y with
  | .list a, .int k => if -(2 ^ 63) ≤ k ∧ k < 2 ^ 63 ∧ a.length * k.toNat ≤ sizeLine then some (.list (List.replicate k.toNat a).flatten) else none
  | _, _ => none
theorem RpL.rep {S : Hp} {xs : List V} {ds : List PyData} (h : RpL K S xs ds) : ∀ n : Nat, RpL K S (List.replicate n xs).flatten (List.replicate n ds).flatten
  | 0 => by simp; exact .nil
  | n + 1 => by rw [List.replicate_succ, List.replicate_succ, List.flatten_cons, List.flatten_cons]; exact h.append (RpL.rep h n)
theorem opn_rep : OpN K (rRepR K) gRep := by
  intro d1 d2 d e S H v u Q sub hv hu hr
  unfold gRep at e
  split at e
  · rename_i a k
    split at e
    · rename_i hz
      cases e
      obtain ⟨p, xs, rfl, h1, r1⟩ := hv.list sub
      have e2 := hu.int
      subst e2
      exact ⟨p, k, xs, rfl, rfl, h1, hz.1, hz.2.1, by rw [r1.len]; exact hz.2.2, fun l hl => hr.lst l _ _ rfl hl (r1.rep _)⟩
    · cases e
  · cases e
/-! ### ==, != -/
mutual
theorem plain_lay : ∀ d : PyData, d.canLay0 = true → plainD d = true
  | .none, _ => rfl
  | .bool _, _ => rfl
  | .int _, _ => rfl
  | .str _, _ => rfl
  | .list ds, h => by simp only [PyData.canLay0] at h; simp only [plainD]; exact plain_lays ds h
  | .tuple ds, h => by simp only [PyData.canLay0] at h; simp only [plainD]; exact plain_lays ds h
  | .dict _, h => by simp [PyData.canLay0] at h
theorem plain_lays : ∀ ds : List PyData, PyData.canLayAll0 ds = true → plainDs ds = true
  | [], _ => rfl
  | d :: ds, h => by
    simp only [PyData.canLayAll0, Bool.and_eq_true] at h
    simp only [plainDs, Bool.and_eq_true]
    exact ⟨plain_lay d h.1, plain_lays ds h.2⟩
end
theorem Rp.dps {S : Hp} {v : V} {d : PyData} (h : Rp K S v d) (s : SeqAt.shaped d = true) : Dp K S v d := h.dp d v (plain_lay d (SeqAt.canLay_of_shaped s))
def gEq : PyData → PyData → Option PyData := fun x y => if SeqAt.shaped x = true ∧ SeqAt.shaped y = true then some (.bool (PyData.eqv x y)) else none
def gNe : PyData → PyData → Option PyData := fun x y => if SeqAt.shaped x = true ∧ SeqAt.shaped y = true then some (.bool (!PyData.eqv x y)) else none
theorem opn_eq : OpN K (rEqD K) gEq := by
  intro d1 d2 d e S H v u Q sub hv hu hr
  unfold gEq at e
  split at e
  · rename_i z
    cases e
    exact ⟨d1, d2, (hv.rp sub).dps z.1, (hu.rp sub).dps z.2, z.1, z.2, hr.old _ (fun _ z => by cases z) (.bl _)⟩
  · cases e
theorem opn_ne : OpN K (rNeD K) gNe := by
  intro d1 d2 d e S H v u Q sub hv hu hr
  unfold gNe at e
  split at e
  · rename_i z
    cases e
    exact ⟨d1, d2, (hv.rp sub).dps z.1, (hu.rp sub).dps z.2, z.1, z.2, hr.old _ (fun _ z => by cases z) (.bl _)⟩
  · cases e
/-! ### in, not in -/
def gInL (neg : Bool) : PyData → PyData → Option PyData := fun x y => match y with
  | .list ds => if SeqAt.shaped x = true ∧ SeqAt.shaped (.list ds) = true then some (.bool (if neg then !(ds.any fun z => PyData.eqv z x) else ds.any fun z => PyData.eqv z x)) else none
  | _ => none
theorem opn_in : OpN K (rInD K) (gInL false) := by
  intro d1 d2 d e S H v u Q sub hv hu hr
  unfold gInL at e
  split at e
  · split at e
    · rename_i ds z
      cases e
      exact ⟨d1, ds, (hv.rp sub).dps z.1, (hu.rp sub).dps z.2, z.1, z.2, hr.old _ (fun _ z => by cases z) (.bl _)⟩
    · cases e
  · cases e
theorem opn_notin : OpN K (rNotInD K) (gInL true) := by
  intro d1 d2 d e S H v u Q sub hv hu hr
  unfold gInL at e
  split at e
  · split at e
    · rename_i ds z
      cases e
      exact ⟨d1, ds, (hv.rp sub).dps z.1, (hu.rp sub).dps z.2, z.1, z.2, hr.old _ (fun _ z => by cases z) (.bl _)⟩
    · cases e
  · cases e
def gInT (neg : Bool) : PyData → PyData → Option PyData := fun x y => match y with
  | .tuple ds => if SeqAt.shaped x = true ∧ SeqAt.shaped (.tuple ds) = true then some (.bool (if neg then !(ds.any fun z => PyData.eqv z x) else ds.any fun z => PyData.eqv z x)) else none
  | _ => none
def rInTD (K : PySem.W.Frag) (neg : Bool) : R2 := fun x y H Q => ∃ d ds, Dp K H x d ∧ Dp K H y (.tuple ds) ∧ SeqAt.shaped d = true ∧ SeqAt.shaped (.tuple ds) = true ∧ Q (.bl (if neg then !(ds.any fun z => PyData.eqv z d) else ds.any fun z => PyData.eqv z d)) H
theorem opn_inT (neg : Bool) : OpN K (rInTD K neg) (gInT neg) := by
  intro d1 d2 d e S H v u Q sub hv hu hr
  unfold gInT at e
  split at e
  · split at e
    · rename_i ds z
      cases e
      exact ⟨d1, ds, (hv.rp sub).dps z.1, (hu.rp sub).dps z.2, z.1, z.2, hr.old _ (fun _ z => by cases z) (.bl _)⟩
    · cases e
  · cases e
theorem op_inTD {X : Cx} (hu : X.A.units + 65 < cLine) : OpR X (compareOp .In) (rInTD X.K false) := by
  intro pins s σ H x y v u Q I rx ry h
  obtain ⟨d, ds, hd, he, sd, se, q⟩ := h
  obtain ⟨as1, r1⟩ := Dp.reads I d x v hd rx
  obtain ⟨bs1, r2⟩ := Dp.reads I (.tuple ds) y u he ry
  exact SeqAt.in_tuple_reads r2 r1 (SeqAt.canLay_of_shaped se) (SeqAt.canLay_of_shaped sd) (room_in_shaped sd hu) ⟨.bl _, H, I, rfl, q⟩
theorem op_notInTD {X : Cx} (hu : X.A.units + 65 < cLine) : OpR X (compareOp .NotIn) (rInTD X.K true) := by
  intro pins s σ H x y v u Q I rx ry h
  obtain ⟨d, ds, hd, he, sd, se, q⟩ := h
  obtain ⟨as1, r1⟩ := Dp.reads I d x v hd rx
  obtain ⟨bs1, r2⟩ := Dp.reads I (.tuple ds) y u he ry
  exact SeqAt.notIn_tuple_reads r2 r1 (SeqAt.canLay_of_shaped se) (SeqAt.canLay_of_shaped sd) (room_in_shaped sd hu) ⟨.bl _, H, I, rfl, q⟩
/-! ### is -/
def isN : PyData → Bool
  | .none => true
  | _ => false
def gIsN (neg : Bool) : PyData → PyData → Option PyData := fun x y => match y with
  | .none => some (.bool (if neg then !isN x else isN x))
  | _ => none
theorem Rp.non_dec {S : Hp} {v : V} {d : PyData} (h : Rp K S v d) : decide (v = .non) = isN d := by cases h <;> rfl
theorem opn_isN : OpN K (fun x y H Q => y = .non ∧ Q (.bl (decide (x = .non))) H) (gIsN false) := by
  intro d1 d2 d e S H v u Q sub hv hu hr
  unfold gIsN at e
  split at e
  · cases e
    have e2 := hu.non
    refine ⟨e2, ?_⟩
    rw [(hv.rp sub).non_dec]
    exact hr.old _ (fun _ z => by cases z) (.bl _)
  · cases e
theorem opn_notN : OpN K (fun x y H Q => y = .non ∧ Q (.bl (!decide (x = .non))) H) (gIsN true) := by
  intro d1 d2 d e S H v u Q sub hv hu hr
  unfold gIsN at e
  split at e
  · cases e
    have e2 := hu.non
    refine ⟨e2, ?_⟩
    rw [(hv.rp sub).non_dec]
    exact hr.old _ (fun _ z => by cases z) (.bl _)
  · cases e
def gIsB (neg : Bool) : PyData → PyData → Option PyData := fun x y => match x, y with
  | .bool a, .bool b => some (.bool (if neg then !decide (a = b) else decide (a = b)))
  | _, _ => none
theorem opn_isB : OpN K (fun x y H Q => ∃ a b, x = .bl a ∧ y = .bl b ∧ Q (.bl (decide (a = b))) H) (gIsB false) := by
  intro d1 d2 d e S H v u Q sub hv hu hr
  unfold gIsB at e
  split at e
  · rename_i a b
    cases e
    exact ⟨a, b, hv.bool, hu.bool, hr.old _ (fun _ z => by cases z) (.bl _)⟩
  · cases e
theorem opn_notB : OpN K (fun x y H Q => ∃ a b, x = .bl a ∧ y = .bl b ∧ Q (.bl (!decide (a = b))) H) (gIsB true) := by
  intro d1 d2 d e S H v u Q sub hv hu hr
  unfold gIsB at e
  split at e
  · rename_i a b
    cases e
    exact ⟨a, b, hv.bool, hu.bool, hr.old _ (fun _ z => by cases z) (.bl _)⟩
  · cases e
/-! ### subscripts -/
def gIx : PyData → PyData → Option PyData := fun x y => match x, y with
  | .list ds, .int i => atI ds i
  | .tuple ds, .int i => atI ds i
  | _, _ => none
theorem RpL.atI {S : Hp} {xs : List V} {ds : List PyData} {i : Int} {d : PyData} (h : RpL K S xs ds) (e : L2.atI ds i = some d) : ∃ v, L2.atI xs i = some v ∧ Rp K S v d := by
  unfold L2.atI at e ⊢
  rw [h.len]
  cases q : ixN ds.length i with
  | none => rw [q] at e; cases e
  | some j =>
    rw [q] at e
    obtain ⟨v, e1, e2⟩ := h.get (i := j) e
    exact ⟨v, e1, e2⟩
theorem opg_ix : OpG K (fun x y H Q => rIxL K x y H Q ∨ rIxT K x y H Q) gIx := by
  intro d1 d2 d e S H v u Q sub hv hu hr
  unfold gIx at e
  split at e
  · rename_i ds i
    obtain ⟨p, xs, rfl, h1, r1⟩ := hv.list sub
    have e2 := hu.int
    subst e2
    obtain ⟨w, e1, r⟩ := r1.atI e
    exact .inl ⟨p, xs, i, w, rfl, rfl, h1.sq, e1, hr.old _ r⟩
  · rename_i ds i
    obtain ⟨p, xs, rfl, t1, h1, r1⟩ := hv.tuple sub
    have e2 := hu.int
    subst e2
    obtain ⟨w, e1, r⟩ := r1.atI e
    exact .inr ⟨p, xs, i, w, rfl, rfl, h1, e1, hr.old _ r⟩
  · cases e
end
/-! ### the operators as the printer takes them -/
section
variable {X : Cx} {K : PySem.W.Frag}
def gAdd := gOr (gI fun i j => .int (i + j)) (gOr gCatL gCatT)
theorem o_add : OpR X (binaryOp .Add) (fun x y H Q => rI0 (fun i j => V.int (i + j)) x y H Q ∨ (rCatR X.K x y H Q ∨ rCatA X.K x y H Q)) := op_add.or (op_catR.or op_catA)
theorem n_add : OpN K (fun x y H Q => rI0 (fun i j => V.int (i + j)) x y H Q ∨ (rCatR K x y H Q ∨ rCatA K x y H Q)) gAdd := (opn_I0 (fun i j _ => .int _) fun _ _ _ z => by cases z).or (opn_cat.or opn_catT)
def gMinus := gI fun i j => PyData.int (i - j)
theorem n_sub : OpN K (rI0 fun i j => V.int (i - j) ) gMinus := opn_I0 (fun i j _ => .int _) fun _ _ _ z => by cases z
open scoped Dn.Sz in
def okMul (i j : Int) : Bool := decide (i.natAbs.log2 + j.natAbs.log2 < 1000000)
def gMul := gOr (gIC okMul fun i j => PyData.int (i * j)) gRep
theorem o_mul : OpR X (binaryOp .Mult) (fun x y H Q => rI CMulW (fun i j => V.int (i * j)) x y H Q ∨ rRepR X.K x y H Q) := op_mulW.or op_repR
theorem n_mul : OpN K (fun x y H Q => rI CMulW (fun i j => V.int (i * j)) x y H Q ∨ rRepR K x y H Q) gMul := (opn_IC (fun i j h => by unfold okMul at h; have z := decT h; exact z) (fun i j _ => .int _) fun _ _ _ z => by cases z).or opn_rep
open scoped Dn.Sz in
def okDiv (_i j : Int) : Bool := decide (0 < j ∧ j.natAbs.log2 < 9000)
def gDiv := gIC okDiv fun i j => PyData.int (i / j)
theorem n_div : OpN K (rI CDivW fun i j => V.int (i / j)) gDiv := opn_IC (fun i j h => by unfold okDiv at h; have z := decT h; exact z) (fun i j _ => .int _) fun _ _ _ z => by cases z
def gMod := gIC (fun _ j => decide (0 < j)) fun i j => PyData.int (i % j)
theorem n_mod : OpN K (rI (fun _ j => 0 < j) fun i j => V.int (i % j)) gMod := opn_IC (fun i j h => of_decide_eq_true h) (fun i j _ => .int _) fun _ _ _ z => by cases z
open scoped Dn.Sz in
def okPow (i j : Int) : Bool := decide (0 ≤ j ∧ j ≤ 1000000 ∧ i.natAbs < 2 ^ 64)
def gPow := gIC okPow fun i j => PyData.int (i ^ j.toNat)
theorem n_pow : OpN K (rI CPow fun i j => V.int (i ^ j.toNat)) gPow := opn_IC (fun i j h => by unfold okPow at h; have z := decT h; exact z) (fun i j _ => .int _) fun _ _ _ z => by cases z
def gLt := gI fun i j => PyData.bool (decide (i < j))
theorem n_lt : OpN K (rI0 fun i j => V.bl (decide (i < j))) gLt := opn_I0 (fun i j _ => .bl _) fun _ _ _ z => by cases z
def gLe := gI fun i j => PyData.bool (decide (i ≤ j))
theorem n_le : OpN K (rI0 fun i j => V.bl (decide (i ≤ j))) gLe := opn_I0 (fun i j _ => .bl _) fun _ _ _ z => by cases z
def gGt := gI fun i j => PyData.bool (decide (j < i))
theorem n_gt : OpN K (rI0 fun i j => V.bl (decide (j < i))) gGt := opn_I0 (fun i j _ => .bl _) fun _ _ _ z => by cases z
def gGe := gI fun i j => PyData.bool (decide (j ≤ i))
theorem n_ge : OpN K (rI0 fun i j => V.bl (decide (j ≤ i))) gGe := opn_I0 (fun i j _ => .bl _) fun _ _ _ z => by cases z
def gIn := gOr (gInL false) (gInT false)
theorem o_in (hu : X.A.units + 65 < cLine) : OpR X (compareOp .In) (fun x y H Q => rInD X.K x y H Q ∨ rInTD X.K false x y H Q) := (op_inD hu).or (op_inTD hu)
theorem n_in : OpN K (fun x y H Q => rInD K x y H Q ∨ rInTD K false x y H Q) gIn := opn_in.or (opn_inT false)
def gNotIn := gOr (gInL true) (gInT true)
theorem o_notin (hu : X.A.units + 65 < cLine) : OpR X (compareOp .NotIn) (fun x y H Q => rNotInD X.K x y H Q ∨ rInTD X.K true x y H Q) := (op_notInD hu).or (op_notInTD hu)
theorem n_notin : OpN K (fun x y H Q => rNotInD K x y H Q ∨ rInTD K true x y H Q) gNotIn := opn_notin.or (opn_inT true)
def gIs := gOr (gIsN false) (gIsB false)
theorem o_is : OpR X (compareOp .Is) (fun x y H Q => (y = .non ∧ Q (.bl (decide (x = .non))) H) ∨ (∃ a b, x = .bl a ∧ y = .bl b ∧ Q (.bl (decide (a = b))) H)) := op_isN.or op_is_bl
theorem n_is : OpN K (fun x y H Q => (y = .non ∧ Q (.bl (decide (x = .non))) H) ∨ (∃ a b, x = .bl a ∧ y = .bl b ∧ Q (.bl (decide (a = b))) H)) gIs := opn_isN.or opn_isB
def gIsNot := gOr (gIsN true) (gIsB true)
theorem o_isnot : OpR X (compareOp .IsNot) (fun x y H Q => (y = .non ∧ Q (.bl (!decide (x = .non))) H) ∨ (∃ a b, x = .bl a ∧ y = .bl b ∧ Q (.bl (!decide (a = b))) H)) := op_notN.or op_isnot_bl
theorem n_isnot : OpN K (fun x y H Q => (y = .non ∧ Q (.bl (!decide (x = .non))) H) ∨ (∃ a b, x = .bl a ∧ y = .bl b ∧ Q (.bl (!decide (a = b))) H)) gIsNot := opn_notN.or opn_notB
theorem o_ix : IxR X (fun x y H Q => rIxL X.K x y H Q ∨ rIxT X.K x y H Q) := ix_list.or ix_tup
end
end Dn

set_option Elab.async false
set_option linter.all false
set_option maxRecDepth 100000
set_option maxHeartbeats 1000000
/-! layer D, 4: argument lists, displays, built-in calls, slices, methods -/
namespace Dn
open PySem PySem.Spec PyProof.Rows L2
/-! ### lists of expressions -/
abbrev DL := En → Option (List PyData × En)
def LA (K : Fr) (ε : DL) : TA := fun σ H Q => ∃ env S fp, At K σ env S H fp ∧ ∃ ds env', ε env = some (ds, env') ∧
  ∀ vs S' H' fp', At K σ env' S' H' fp' → Go S H fp S' H' fp' → RpL K S' vs ds → Q vs H'
def dNil : DL := fun env => some ([], env)
def dCons (α : DE) (β : DL) : DL := fun env => match α env with
  | some (d, e1) => (match β e1 with
    | some (ds, e2) => some (d :: ds, e2)
    | none => none)
  | none => none
section
variable {X : Cx} {K : Fr}
theorem LA.nil {σ : Sg} {H : Hp} {Q : List V → Hp → Prop} (h : LA K dNil σ H Q) : tNil σ H Q := by
  obtain ⟨env, S, fp, a0, ds, env', e, q⟩ := h
  cases e
  exact q [] S H fp a0 .refl .nil
theorem LA.cons {α : DE} {β : DL} {σ : Sg} {H : Hp} {Q : List V → Hp → Prop} (h : LA K (dCons α β) σ H Q) : tCons (LE K α) (LA K β) σ H Q := by
  obtain ⟨env, S, fp, a0, ds, env', e, q⟩ := h
  unfold dCons at e
  split at e
  · rename_i d e1 eq1
    split at e
    · rename_i ds2 e2 eq2
      cases e
      exact ⟨env, S, fp, a0, d, _, eq1, fun v S1 H1 f1 a1 m1 r1 => ⟨_, S1, f1, a1, ds2, _, eq2, fun vs S2 H2 f2 a2 m2 r2 => q (v :: vs) S2 H2 f2 a2 (m1.trans m2) (.cons (r1.up m2.s) r2)⟩⟩
    · cases e
  · cases e
theorem qa_nil : PA X [] (LA K dNil) := PA.mono pa_nil fun _ _ _ w => w.nil
theorem qa_cons {e : Expr} {es : List Expr} {α : DE} {β : DL} (ha : PE X e (LE K α)) (hr : PA X es (LA K β)) (hs : starEach (e :: es) X.env = (false, eval e X.env) :: starEach es X.env := by rfl) : PA X (e :: es) (LA K (dCons α β)) :=
  PA.mono (pa_cons ha hr hs) fun _ _ _ w => w.cons
/-! ### displays -/
open scoped Dn.Sz in
def dTup (ε : DL) : DE := fun env => match ε env with
  | some (ds, e) => if ds.length ≤ sizeLine then some (.tuple ds, e) else none
  | none => none
open scoped Dn.Sz in
def dLst (ε : DL) : DE := fun env => match ε env with
  | some (ds, e) => if ds.length ≤ sizeLine then some (.list ds, e) else none
  | none => none
open scoped Dn.Sz in
def dLstO (ε : DL) : DO := fun env => match ε env with
  | some (ds, e) => if ds.length ≤ sizeLine then some ((1, .list ds), e) else none
  | none => none
theorem LE.tup {ε : DL} {σ : Sg} {H : Hp} {Q : VK} (h : LE K (dTup ε) σ H Q) : tTup (LA K ε) σ H Q := by
  obtain ⟨env, S, fp, a0, d, env', e, q⟩ := h
  unfold dTup at e
  split at e
  · rename_i ds e1 eq1
    split at e
    · rename_i hz
      cases e
      refine ⟨env, S, fp, a0, ds, _, eq1, fun vs S1 H1 f1 a1 m1 r1 => ⟨by rw [r1.len]; exact hz, fun p hp => ?_⟩⟩
      exact q (.ref p) _ _ f1 (a1.frz hp) (m1.trans (.frz hp a1.sub)) (rp_newT (a1.sub.free hp) r1)
    · cases e
  · cases e
theorem LE.lst {ε : DL} {σ : Sg} {H : Hp} {Q : VK} (h : LE K (dLst ε) σ H Q) : tLst (LA K ε) σ H Q := by
  obtain ⟨env, S, fp, a0, d, env', e, q⟩ := h
  unfold dLst at e
  split at e
  · rename_i ds e1 eq1
    split at e
    · rename_i hz
      cases e
      refine ⟨env, S, fp, a0, ds, _, eq1, fun vs S1 H1 f1 a1 m1 r1 => ⟨by rw [r1.len]; exact hz, fun p hp => ?_⟩⟩
      exact q (.ref p) _ _ f1 (a1.frz hp) (m1.trans (.frz hp a1.sub)) (rp_newL (a1.sub.free hp) r1)
    · cases e
  · cases e
theorem LO.lst {ε : DL} {σ : Sg} {H : Hp} {Q : VK} (h : LO K (dLstO ε) σ H Q) : tLst (LA K ε) σ H Q := by
  obtain ⟨env, S, fp, a0, d, env', e, q⟩ := h
  unfold dLstO at e
  split at e
  · rename_i ds e1 eq1
    split at e
    · rename_i hz
      cases e
      refine ⟨env, S, fp, a0, ds, _, eq1, fun vs S1 H1 f1 a1 m1 r1 => ⟨by rw [r1.len]; exact hz, fun p hp => ?_⟩⟩
      exact q (.ref p) _ _ _ (a1.own hp r1) (m1.trans (.own hp))
    · cases e
  · cases e
theorem qe_tup {es : List Expr} {x1} {pos : Pos} {ε : DL} (h : PA X es (LA K ε)) : PE X (.Tuple es x1 pos) (LE K (dTup ε)) := PE.mono (pe_tup h) fun _ _ _ w => w.tup
theorem qe_lst {es : List Expr} {pos : Pos} {ε : DL} (h : PA X es (LA K ε)) : PE X (.List es pos) (LE K (dLst ε)) := PE.mono (pe_lst h) fun _ _ _ w => w.lst
theorem qo_lst {es : List Expr} {pos : Pos} {ε : DL} (h : PA X es (LA K ε)) : PE X (.List es pos) (LO K (dLstO ε)) := PE.mono (pe_lst h) fun _ _ _ w => w.lst
/-! ### unary minus -/
def dNeg (α : DE) : DE := fun env => match α env with
  | some (.int i, e) => some (.int (-i), e)
  | _ => none
theorem LE.neg {α : DE} {σ : Sg} {H : Hp} {Q : VK} (h : LE K (dNeg α) σ H Q) : tUn (rU fun i => .int (-i)) (LE K α) σ H Q := by
  obtain ⟨env, S, fp, a0, d, env', e, q⟩ := h
  unfold dNeg at e
  split at e
  · rename_i i e1 eq1
    cases e
    exact ⟨env, S, fp, a0, _, _, eq1, fun v S1 H1 f1 a1 m1 r1 => ⟨i, (by cases r1; rfl), q _ S1 H1 f1 a1 m1 (.int _)⟩⟩
  · cases e
theorem qe_neg {a : Expr} {pos : Pos} {α : DE} (ha : PE X a (LE K α)) : PE X (.UnaryOp .USub a pos) (LE K (dNeg α)) := PE.mono (pe_un un_neg ha) fun _ _ _ w => w.neg
/-- a written negative number, pure -/
theorem qp_neg {k : Int} {j p1 pos} : PE X (.UnaryOp .USub (.Constant (.int k) j p1) pos) (LP K (dC (.int (-k)))) :=
  PE.mono (pe_un un_neg pe_int) fun _ _ _ w => ⟨k, rfl, w.const fun _ _ => .int (-k)⟩
/-! ### calls of built-ins -/
/-- one argument to look at -/
def OpU (K : Fr) (r : List V → Hp → VK → Prop) (g : PyData → Option PyData) : Prop :=
  ∀ d1 d, g d1 = some d → ∀ S H v Q, Same S H → Vw K S H v d1 → ResN K S H d Q → r [v] H Q
/-- frozen arguments -/
def OpA (K : Fr) (r : List V → Hp → VK → Prop) (g : List PyData → Option PyData) : Prop :=
  ∀ ds d, g ds = some d → ∀ S H vs Q, Same S H → RpL K S vs ds → ResN K S H d Q → r vs H Q
def dUn (g : PyData → Option PyData) (α : DP) : DP := fun env => match α env with
  | some s => if vis s = true then (match g s.2 with | some d => some (0, d) | none => none) else none
  | none => none
def dUnO (g : PyData → Option PyData) (α : DP) : DO := fun env => match α env with
  | some s => if vis s = true then (match g s.2 with | some d => some (ownD d, env) | none => none) else none
  | none => none
def dUnE (g : PyData → Option PyData) (α : DE) : DE := fun env => match α env with
  | some (x, e) => (match g x with | some d => some (d, e) | none => none)
  | none => none
def dUnOE (g : PyData → Option PyData) (α : DE) : DO := fun env => match α env with
  | some (x, e) => (match g x with | some d => some (ownD d, e) | none => none)
  | none => none
def dFn (g : List PyData → Option PyData) (ε : DL) : DE := fun env => match ε env with
  | some (ds, e) => (match g ds with | some d => some (d, e) | none => none)
  | none => none
def dFnO (g : List PyData → Option PyData) (ε : DL) : DO := fun env => match ε env with
  | some (ds, e) => (match g ds with | some d => some (ownD d, e) | none => none)
  | none => none
theorem LP.un {r : List V → Hp → VK → Prop} {g : PyData → Option PyData} (hr : OpU K r g) {α : DP} {σ : Sg} {H : Hp} {Q : VK} (h : LP K (dUn g α) σ H Q) : tCB r (tCons (LP K α) tNil) σ H Q := by
  obtain ⟨env, S, fp, a0, s, e, q⟩ := h
  unfold dUn at e
  split at e
  · rename_i s1 e1
    split at e
    · rename_i vv
      split at e
      · rename_i d ed
        cases e
        refine ⟨env, S, fp, a0, s1, e1, fun v S1 H1 f1 a1 m1 o1 k1 => ?_⟩
        exact hr _ _ ed S1 H1 v Q a1.sub (o1.vw vv) (Res.ofP a1 fun w S3 H3 f a3 m3 o3 k3 => q w S3 H3 f a3 (m1.trans m3) o3 k3).n
      · cases e
    · cases e
  · cases e
theorem LO.un {r : List V → Hp → VK → Prop} {g : PyData → Option PyData} (hr : OpU K r g) {α : DP} {σ : Sg} {H : Hp} {Q : VK} (h : LO K (dUnO g α) σ H Q) : tCB r (tCons (LP K α) tNil) σ H Q := by
  obtain ⟨env, S, fp, a0, s, env', e, q⟩ := h
  unfold dUnO at e
  split at e
  · rename_i s1 e1
    split at e
    · rename_i vv
      split at e
      · rename_i d ed
        cases e
        refine ⟨env, S, fp, a0, s1, e1, fun v S1 H1 f1 a1 m1 o1 k1 => ?_⟩
        exact hr _ _ ed S1 H1 v Q a1.sub (o1.vw vv) (ResN.ofO a1 fun w S3 H3 f a3 m3 => q w S3 H3 f a3 (m1.go.trans m3))
      · cases e
    · cases e
  · cases e
theorem LE.un {r : List V → Hp → VK → Prop} {g : PyData → Option PyData} (hr : OpU K r g) {α : DE} {σ : Sg} {H : Hp} {Q : VK} (h : LE K (dUnE g α) σ H Q) : tCB r (tCons (LE K α) tNil) σ H Q := by
  obtain ⟨env, S, fp, a0, s, env', e, q⟩ := h
  unfold dUnE at e
  split at e
  · rename_i x e1 eq1
    split at e
    · rename_i d ed
      cases e
      refine ⟨env, S, fp, a0, _, _, eq1, fun v S1 H1 f1 a1 m1 r1 => ?_⟩
      exact hr _ _ ed S1 H1 v Q a1.sub (.inl r1) (Res.ofE a1 fun w S3 H3 f a3 m3 o3 => q w S3 H3 f a3 (m1.trans m3) o3).n
    · cases e
  · cases e
theorem LO.unE {r : List V → Hp → VK → Prop} {g : PyData → Option PyData} (hr : OpU K r g) {α : DE} {σ : Sg} {H : Hp} {Q : VK} (h : LO K (dUnOE g α) σ H Q) : tCB r (tCons (LE K α) tNil) σ H Q := by
  obtain ⟨env, S, fp, a0, s, env', e, q⟩ := h
  unfold dUnOE at e
  split at e
  · rename_i x e1 eq1
    split at e
    · rename_i d ed
      cases e
      refine ⟨env, S, fp, a0, _, _, eq1, fun v S1 H1 f1 a1 m1 r1 => ?_⟩
      exact hr _ _ ed S1 H1 v Q a1.sub (.inl r1) (ResN.ofO a1 fun w S3 H3 f a3 m3 => q w S3 H3 f a3 (m1.trans m3))
    · cases e
  · cases e
theorem LE.fn {r : List V → Hp → VK → Prop} {g : List PyData → Option PyData} (hr : OpA K r g) {ε : DL} {σ : Sg} {H : Hp} {Q : VK} (h : LE K (dFn g ε) σ H Q) : tCB r (LA K ε) σ H Q := by
  obtain ⟨env, S, fp, a0, s, env', e, q⟩ := h
  unfold dFn at e
  split at e
  · rename_i ds e1 eq1
    split at e
    · rename_i d ed
      cases e
      refine ⟨env, S, fp, a0, _, _, eq1, fun v S1 H1 f1 a1 m1 r1 => ?_⟩
      exact hr _ _ ed S1 H1 v Q a1.sub r1 (Res.ofE a1 fun w S3 H3 f a3 m3 o3 => q w S3 H3 f a3 (m1.trans m3) o3).n
    · cases e
  · cases e
theorem LO.fn {r : List V → Hp → VK → Prop} {g : List PyData → Option PyData} (hr : OpA K r g) {ε : DL} {σ : Sg} {H : Hp} {Q : VK} (h : LO K (dFnO g ε) σ H Q) : tCB r (LA K ε) σ H Q := by
  obtain ⟨env, S, fp, a0, s, env', e, q⟩ := h
  unfold dFnO at e
  split at e
  · rename_i ds e1 eq1
    split at e
    · rename_i d ed
      cases e
      refine ⟨env, S, fp, a0, _, _, eq1, fun v S1 H1 f1 a1 m1 r1 => ?_⟩
      exact hr _ _ ed S1 H1 v Q a1.sub r1 (ResN.ofO a1 fun w S3 H3 f a3 m3 => q w S3 H3 f a3 (m1.trans m3))
    · cases e
  · cases e
section
variable {x : Str} {p pos : Pos} {a : Expr} {e : Expr} {es : List Expr} {id T : String} {r : List V → Hp → VK → Prop} {g : PyData → Option PyData} {gA : List PyData → Option PyData}
theorem qp_callB {α : DP} (hc : CallR X (.builtin id) r) (hr : OpU K r g) (hm : X.mg x = none) (hv : bootBuiltins x = some (.builtin id)) (ha : PE X a (LP K α)) (hg : Gl X x := by rfl) (hn : x ≠ "__name__" := by decide) (hdb : (x == ("__debug__" : Str)) = false := by decide)
    (hs : starEach [a] X.env = (false, eval a X.env) :: starEach [] X.env := by rfl) (hpl : (backTo pos (starEach [] X.env)).any (·.1) = false := by rfl) : PE X (.Call (.Name x p) [a] [] pos) (LP K (dUn g α)) :=
  PE.mono (pe_callB hc hg hm hv (pa_cons ha pa_nil hs) hn hdb hs hpl) fun _ _ _ w => w.un hr
theorem qe_callB {α : DE} (hc : CallR X (.builtin id) r) (hr : OpU K r g) (hm : X.mg x = none) (hv : bootBuiltins x = some (.builtin id)) (ha : PE X a (LE K α)) (hg : Gl X x := by rfl) (hn : x ≠ "__name__" := by decide) (hdb : (x == ("__debug__" : Str)) = false := by decide)
    (hs : starEach [a] X.env = (false, eval a X.env) :: starEach [] X.env := by rfl) (hpl : (backTo pos (starEach [] X.env)).any (·.1) = false := by rfl) : PE X (.Call (.Name x p) [a] [] pos) (LE K (dUnE g α)) :=
  PE.mono (pe_callB hc hg hm hv (pa_cons ha pa_nil hs) hn hdb hs hpl) fun _ _ _ w => w.un hr
theorem qo_callB {α : DP} (hc : CallR X (.builtin id) r) (hr : OpU K r g) (hm : X.mg x = none) (hv : bootBuiltins x = some (.builtin id)) (ha : PE X a (LP K α)) (hg : Gl X x := by rfl) (hn : x ≠ "__name__" := by decide) (hdb : (x == ("__debug__" : Str)) = false := by decide)
    (hs : starEach [a] X.env = (false, eval a X.env) :: starEach [] X.env := by rfl) (hpl : (backTo pos (starEach [] X.env)).any (·.1) = false := by rfl) : PE X (.Call (.Name x p) [a] [] pos) (LO K (dUnO g α)) :=
  PE.mono (pe_callB hc hg hm hv (pa_cons ha pa_nil hs) hn hdb hs hpl) fun _ _ _ w => w.un hr
theorem qo_callBE {α : DE} (hc : CallR X (.builtin id) r) (hr : OpU K r g) (hm : X.mg x = none) (hv : bootBuiltins x = some (.builtin id)) (ha : PE X a (LE K α)) (hg : Gl X x := by rfl) (hn : x ≠ "__name__" := by decide) (hdb : (x == ("__debug__" : Str)) = false := by decide)
    (hs : starEach [a] X.env = (false, eval a X.env) :: starEach [] X.env := by rfl) (hpl : (backTo pos (starEach [] X.env)).any (·.1) = false := by rfl) : PE X (.Call (.Name x p) [a] [] pos) (LO K (dUnOE g α)) :=
  PE.mono (pe_callB hc hg hm hv (pa_cons ha pa_nil hs) hn hdb hs hpl) fun _ _ _ w => w.unE hr
theorem qp_callT {α : DP} (hc : CallR X (.type T) r) (hr : OpU K r g) (hm : X.mg x = none) (hv : bootBuiltins x = some (.type T)) (ha : PE X a (LP K α)) (hg : Gl X x := by rfl) (hn : x ≠ "__name__" := by decide) (hdb : (x == ("__debug__" : Str)) = false := by decide)
    (hs : starEach [a] X.env = (false, eval a X.env) :: starEach [] X.env := by rfl) (hpl : (backTo pos (starEach [] X.env)).any (·.1) = false := by rfl) : PE X (.Call (.Name x p) [a] [] pos) (LP K (dUn g α)) :=
  PE.mono (pe_callTy hc hg hm hv (pa_cons ha pa_nil hs) hn hdb hs hpl) fun _ _ _ w => w.un hr
theorem qe_callT {α : DE} (hc : CallR X (.type T) r) (hr : OpU K r g) (hm : X.mg x = none) (hv : bootBuiltins x = some (.type T)) (ha : PE X a (LE K α)) (hg : Gl X x := by rfl) (hn : x ≠ "__name__" := by decide) (hdb : (x == ("__debug__" : Str)) = false := by decide)
    (hs : starEach [a] X.env = (false, eval a X.env) :: starEach [] X.env := by rfl) (hpl : (backTo pos (starEach [] X.env)).any (·.1) = false := by rfl) : PE X (.Call (.Name x p) [a] [] pos) (LE K (dUnE g α)) :=
  PE.mono (pe_callTy hc hg hm hv (pa_cons ha pa_nil hs) hn hdb hs hpl) fun _ _ _ w => w.un hr
theorem qo_callT {α : DP} (hc : CallR X (.type T) r) (hr : OpU K r g) (hm : X.mg x = none) (hv : bootBuiltins x = some (.type T)) (ha : PE X a (LP K α)) (hg : Gl X x := by rfl) (hn : x ≠ "__name__" := by decide) (hdb : (x == ("__debug__" : Str)) = false := by decide)
    (hs : starEach [a] X.env = (false, eval a X.env) :: starEach [] X.env := by rfl) (hpl : (backTo pos (starEach [] X.env)).any (·.1) = false := by rfl) : PE X (.Call (.Name x p) [a] [] pos) (LO K (dUnO g α)) :=
  PE.mono (pe_callTy hc hg hm hv (pa_cons ha pa_nil hs) hn hdb hs hpl) fun _ _ _ w => w.un hr
theorem qo_callTE {α : DE} (hc : CallR X (.type T) r) (hr : OpU K r g) (hm : X.mg x = none) (hv : bootBuiltins x = some (.type T)) (ha : PE X a (LE K α)) (hg : Gl X x := by rfl) (hn : x ≠ "__name__" := by decide) (hdb : (x == ("__debug__" : Str)) = false := by decide)
    (hs : starEach [a] X.env = (false, eval a X.env) :: starEach [] X.env := by rfl) (hpl : (backTo pos (starEach [] X.env)).any (·.1) = false := by rfl) : PE X (.Call (.Name x p) [a] [] pos) (LO K (dUnOE g α)) :=
  PE.mono (pe_callTy hc hg hm hv (pa_cons ha pa_nil hs) hn hdb hs hpl) fun _ _ _ w => w.unE hr
theorem qe_callA {ε : DL} (hc : CallR X (.builtin id) r) (hr : OpA K r gA) (hm : X.mg x = none) (hv : bootBuiltins x = some (.builtin id)) (ha : PA X (e :: es) (LA K ε)) (hg : Gl X x := by rfl) (hn : x ≠ "__name__" := by decide) (hdb : (x == ("__debug__" : Str)) = false := by decide)
    (hs : starEach (e :: es) X.env = (false, eval e X.env) :: starEach es X.env := by rfl) (hpl : (backTo pos (starEach es X.env)).any (·.1) = false := by rfl) : PE X (.Call (.Name x p) (e :: es) [] pos) (LE K (dFn gA ε)) :=
  PE.mono (pe_callB hc hg hm hv ha hn hdb hs hpl) fun _ _ _ w => w.fn hr
end
/-! #### which -/
open scoped Dn.Sz in
def gLen : PyData → Option PyData
  | .list ds => some (.int ds.length)
  | .tuple ds => some (.int ds.length)
  | .str x => if x.length ≤ sizeLine then some (.int x.length) else none
  | _ => none
theorem u_len : OpU K (fun xs H Q => ∃ x n, xs = [x] ∧ LenV K x H n ∧ Q (.int n) H) gLen := by
  intro d1 d e S H v Q sub hv hr
  unfold gLen at e
  split at e
  · rename_i ds
    cases e
    obtain ⟨p, xs, rfl, h1, r1⟩ := hv.list sub
    exact ⟨_, _, rfl, .inl ⟨xs, h1.sq, r1.len.symm⟩, hr.old _ (fun _ z => by cases z) (.int _)⟩
  · rename_i ds
    cases e
    obtain ⟨p, xs, rfl, t1, h1, r1⟩ := hv.tuple sub
    exact ⟨_, _, rfl, .inr ⟨xs, h1, r1.len.symm⟩, hr.old _ (fun _ z => by cases z) (.int _)⟩
  · rename_i x
    split at e
    · rename_i hz
      cases e
      have e1 := hv.str
      subst e1
      exact ⟨_, _, rfl, ⟨hz, rfl⟩, hr.old _ (fun _ z => by cases z) (.int _)⟩
    · cases e
  · cases e
def gAbs : PyData → Option PyData
  | .int i => some (.int (if i < 0 then -i else i))
  | _ => none
theorem u_abs : OpU K (fun xs H Q => ∃ i, xs = [.int i] ∧ Q (.int (if i < 0 then -i else i)) H) gAbs := by
  intro d1 d e S H v Q sub hv hr
  unfold gAbs at e
  split at e
  · cases e
    have e1 := hv.int
    subst e1
    exact ⟨_, rfl, hr.old _ (fun _ z => by cases z) (.int _)⟩
  · cases e
def gInt : PyData → Option PyData
  | .int i => some (.int i)
  | .bool b => some (.int (if b then 1 else 0))
  | _ => none
theorem u_int : OpU K (fun xs H Q => (∃ i, xs = [.int i] ∧ Q (.int i) H) ∨ ∃ k, xs = [.bl k] ∧ Q (.int (if k then 1 else 0)) H) gInt := by
  intro d1 d e S H v Q sub hv hr
  unfold gInt at e
  split at e
  · cases e
    have e1 := hv.int
    subst e1
    exact .inl ⟨_, rfl, hr.old _ (fun _ z => by cases z) (.int _)⟩
  · cases e
    have e1 := hv.bool
    subst e1
    exact .inr ⟨_, rfl, hr.old _ (fun _ z => by cases z) (.int _)⟩
  · cases e
/-- all items ints -/
def intsD : List PyData → Option (List Int)
  | [] => some []
  | .int i :: r => (match intsD r with | some l => some (i :: l) | none => none)
  | _ => none
theorem intsD_eq : ∀ {ds : List PyData} {ns : List Int}, intsD ds = some ns → ds = ns.map PyData.int
  | [], ns, h => by cases h; rfl
  | .int i :: r, ns, h => by
    unfold intsD at h
    split at h
    · rename_i l e
      cases h
      rw [List.map_cons, ← intsD_eq e]
    · cases h
  | .none :: _, _, h => by cases h
  | .bool _ :: _, _, h => by cases h
  | .str _ :: _, _, h => by cases h
  | .list _ :: _, _, h => by cases h
  | .tuple _ :: _, _, h => by cases h
  | .dict _ :: _, _, h => by cases h
theorem intsD_map : ∀ ns : List Int, intsD (ns.map PyData.int) = some ns
  | [] => rfl
  | n :: ns => by simp only [List.map_cons, intsD, intsD_map ns]
def blsD : List PyData → Option (List Bool)
  | [] => some []
  | .bool i :: r => (match blsD r with | some l => some (i :: l) | none => none)
  | _ => none
theorem blsD_eq : ∀ {ds : List PyData} {ns : List Bool}, blsD ds = some ns → ds = ns.map PyData.bool
  | [], ns, h => by cases h; rfl
  | .bool i :: r, ns, h => by
    unfold blsD at h
    split at h
    · rename_i l e
      cases h
      rw [List.map_cons, ← blsD_eq e]
    · cases h
  | .none :: _, _, h => by cases h
  | .int _ :: _, _, h => by cases h
  | .str _ :: _, _, h => by cases h
  | .list _ :: _, _, h => by cases h
  | .tuple _ :: _, _, h => by cases h
  | .dict _ :: _, _, h => by cases h
theorem blsD_map : ∀ ns : List Bool, blsD (ns.map PyData.bool) = some ns
  | [] => rfl
  | n :: ns => by simp only [List.map_cons, blsD, blsD_map ns]
def gSum : PyData → Option PyData
  | .list ds => (match intsD ds with | some ns => some (.int ns.sum) | none => none)
  | _ => none
theorem u_sum : OpU K (rSum K) gSum := by
  intro d1 d e S H v Q sub hv hr
  unfold gSum at e
  split at e
  · split at e
    · rename_i ns en
      cases e
      obtain ⟨p, xs, rfl, h1, r1⟩ := hv.list sub
      rw [intsD_eq en] at r1
      have := r1.ints
      subst this
      exact ⟨p, ns, rfl, h1.sq, hr.old _ (fun _ z => by cases z) (.int _)⟩
    · cases e
  · cases e
def gAll : PyData → Option PyData
  | .list ds => (match blsD ds with | some ns => some (.bool (ns.all id)) | none => none)
  | _ => none
theorem u_all : OpU K (rAll K) gAll := by
  intro d1 d e S H v Q sub hv hr
  unfold gAll at e
  split at e
  · split at e
    · rename_i ns en
      cases e
      obtain ⟨p, xs, rfl, h1, r1⟩ := hv.list sub
      rw [blsD_eq en] at r1
      have := r1.bls
      subst this
      exact ⟨p, ns, rfl, h1.sq, hr.old _ (fun _ z => by cases z) (.bl _)⟩
    · cases e
  · cases e
def gAny : PyData → Option PyData
  | .list ds => (match blsD ds with | some ns => some (.bool (ns.any id)) | none => none)
  | _ => none
theorem u_any : OpU K (rAny K) gAny := by
  intro d1 d e S H v Q sub hv hr
  unfold gAny at e
  split at e
  · split at e
    · rename_i ns en
      cases e
      obtain ⟨p, xs, rfl, h1, r1⟩ := hv.list sub
      rw [blsD_eq en] at r1
      have := r1.bls
      subst this
      exact ⟨p, ns, rfl, h1.sq, hr.old _ (fun _ z => by cases z) (.bl _)⟩
    · cases e
  · cases e
def gList : PyData → Option PyData
  | .list ds => some (.list ds)
  | .tuple ds => some (.list ds)
  | _ => none
theorem u_list : OpU K (fun xs H Q => ∃ p ys, xs = [.ref p] ∧ (SqL K H p ys ∨ SqT K H p ys) ∧ ∀ l, H l = none → Q (.ref l) (upd H l (.lst ys))) gList := by
  intro d1 d e S H v Q sub hv hr
  unfold gList at e
  split at e
  · cases e
    obtain ⟨p, xs, rfl, h1, r1⟩ := hv.list sub
    exact ⟨p, xs, rfl, .inl h1.sq, fun l hl => hr.lst l _ _ rfl hl r1⟩
  · cases e
    obtain ⟨p, xs, rfl, t1, h1, r1⟩ := hv.tuple sub
    exact ⟨p, xs, rfl, .inr h1, fun l hl => hr.lst l _ _ rfl hl r1⟩
  · cases e
def gTuple : PyData → Option PyData
  | .list ds => some (.tuple ds)
  | .tuple ds => some (.tuple ds)
  | _ => none
theorem u_tuple : OpU K (fun xs H Q => ∃ p ys, xs = [.ref p] ∧ ((SqL K H p ys ∧ ∀ l, H l = none → Q (.ref l) (upd H l (.tup ys))) ∨ (SqT K H p ys ∧ Q (.ref p) H))) gTuple := by
  intro d1 d e S H v Q sub hv hr
  unfold gTuple at e
  split at e
  · cases e
    obtain ⟨p, xs, rfl, h1, r1⟩ := hv.list sub
    exact ⟨p, xs, rfl, .inl ⟨h1.sq, fun l hl => hr.tup l _ _ rfl hl r1⟩⟩
  · cases e
    obtain ⟨p, xs, rfl, t1, h1, r1⟩ := hv.tuple sub
    exact ⟨p, xs, rfl, .inr ⟨h1, hr.old _ (fun _ z => by cases z) (.tup t1 r1)⟩⟩
  · cases e
def gMax2 : List PyData → Option PyData
  | [.int i, .int j] => some (.int (if j > i then j else i))
  | _ => none
theorem a_max2 : OpA K (fun xs H Q => ∃ i j, xs = [.int i, .int j] ∧ Q (.int (if j > i then j else i)) H) gMax2 := by
  intro ds d e S H vs Q sub hv hr
  unfold gMax2 at e
  split at e
  · rename_i i j
    cases e
    have := RpL.ints (ns := [i, j]) hv
    subst this
    exact ⟨i, j, rfl, hr.old _ (fun _ z => by cases z) (.int _)⟩
  · cases e
def gMin2 : List PyData → Option PyData
  | [.int i, .int j] => some (.int (if j < i then j else i))
  | _ => none
theorem a_min2 : OpA K (fun xs H Q => ∃ i j, xs = [.int i, .int j] ∧ Q (.int (if j < i then j else i)) H) gMin2 := by
  intro ds d e S H vs Q sub hv hr
  unfold gMin2 at e
  split at e
  · rename_i i j
    cases e
    have := RpL.ints (ns := [i, j]) hv
    subst this
    exact ⟨i, j, rfl, hr.old _ (fun _ z => by cases z) (.int _)⟩
  · cases e
/-! ### isinstance -/
def tyD : PyData → String
  | .none => "NoneType"
  | .bool _ => "bool"
  | .int _ => "int"
  | .str _ => "str"
  | .list _ => "list"
  | .tuple _ => "tuple"
  | .dict _ => "dict"
theorem Rp.ty {H : Hp} {v : V} {d : PyData} (h : Rp K H v d) : TyX K H v (.type (tyD d)) := by
  cases h with
  | non => exact .base .non
  | bl b => exact .base (.bl b)
  | int i => exact .base (.int i)
  | str x => exact .base (.str x)
  | lst hs _ =>
    rcases hs with (h | ⟨o, h⟩) | ⟨its, n, hk, _⟩
    · exact .base (.lst h)
    · exact .base (.frz h)
    · exact .kList hk rfl
  | tup hs _ =>
    rcases hs with (h | ⟨o, h⟩) | ⟨o, its, n, hk, hc, _⟩
    · exact .base (.tup h)
    · exact .fTuple h
    · exact .kTuple hk hc
  | dic hs _ => exact .base (.dK hs)
def isiInt : PyData → Bool
  | .int _ => true
  | .bool _ => true
  | _ => false
def isiBool : PyData → Bool
  | .bool _ => true
  | _ => false
def isiStr : PyData → Bool
  | .str _ => true
  | _ => false
def isiList : PyData → Bool
  | .list _ => true
  | _ => false
def isiTuple : PyData → Bool
  | .tuple _ => true
  | _ => false
def isiDict : PyData → Bool
  | .dict _ => true
  | _ => false
theorem ki_int (d : PyData) : kitB (tyD d) "int" = some (isiInt d) := by cases d <;> (simp only [tyD, isiInt]; decide +kernel)
theorem ki_bool (d : PyData) : kitB (tyD d) "bool" = some (isiBool d) := by cases d <;> (simp only [tyD, isiBool]; decide +kernel)
theorem ki_str (d : PyData) : kitB (tyD d) "str" = some (isiStr d) := by cases d <;> (simp only [tyD, isiStr]; decide +kernel)
theorem ki_list (d : PyData) : kitB (tyD d) "list" = some (isiList d) := by cases d <;> (simp only [tyD, isiList]; decide +kernel)
theorem ki_tuple (d : PyData) : kitB (tyD d) "tuple" = some (isiTuple d) := by cases d <;> (simp only [tyD, isiTuple]; decide +kernel)
theorem ki_dict (d : PyData) : kitB (tyD d) "dict" = some (isiDict d) := by cases d <;> (simp only [tyD, isiDict]; decide +kernel)
def dIsi (f : PyData → Bool) (α : DP) : DP := fun env => match α env with
  | some s => some (0, .bool (f s.2))
  | none => none
theorem qp_isi {T : String} {f : PyData → Bool} {x : Str} {a : Expr} {p p2 pos : Pos} {α : DP} (hk : ∀ d, kitB (tyD d) T = some (f d)) (hm : X.mg "isinstance" = none) (hmT : X.mg x = none) (hv : bootBuiltins x = some (.type T)) (ha : PE X a (LP X.K α)) (hg : Gl X "isinstance" := by rfl) (hgT : Gl X x := by rfl) (hn : x ≠ "__name__" := by decide) (hdb : (x == ("__debug__" : Str)) = false := by decide)
    (hs : starEach [a, .Name x p2] X.env = (false, eval a X.env) :: starEach [.Name x p2] X.env := by rfl) (hs2 : starEach [.Name x p2] X.env = (false, eval (.Name x p2) X.env) :: starEach [] X.env := by rfl) (hpl : (backTo pos (starEach [.Name x p2] X.env)).any (·.1) = false := by rfl) :
    PE X (.Call (.Name "isinstance" p) [a, .Name x p2] [] pos) (LP X.K (dIsi f α)) := by
  refine PE.mono (pe_callB call_isi hg hm PyProof.Rows.boot_isinstance (pa_cons ha (pa_cons (pe_bltn (v := .ty T) hgT hmT hv rfl hn hdb) pa_nil hs2) hs) (by decide) (by decide) hs hpl) fun σ H Q h => ?_
  obtain ⟨env, S, fp, a0, s, e, q⟩ := h
  unfold dIsi at e
  split at e
  · rename_i s1 e1
    cases e
    refine ⟨env, S, fp, a0, s1, e1, fun v S1 H1 f1 a1 m1 o1 k1 => ?_⟩
    exact ⟨v, .ty T, .type (tyD s1.2), .type T, f s1.2, rfl, .ty T, (o1.all a1.sub).ty, kit_ty (hk s1.2), q _ S1 H1 [] a1 m1 (Ow.zero (.bl _)) (fun _ z => by cases z)⟩
  · cases e
theorem qp_isi2 {T U : String} {f g : PyData → Bool} {x y : Str} {a : Expr} {k : Nat} {p p2 p3 pt pos : Pos} {α : DP} (hk : ∀ d, kitB (tyD d) T = some (f d)) (hk2 : ∀ d, kitB (tyD d) U = some (g d)) (hm : X.mg "isinstance" = none) (hmT : X.mg x = none) (hv : bootBuiltins x = some (.type T)) (hmU : X.mg y = none) (hvU : bootBuiltins y = some (.type U)) (ha : PE X a (LP X.K α))
    (hg : Gl X "isinstance" := by rfl) (hgT : Gl X x := by rfl) (hgU : Gl X y := by rfl) (hn : x ≠ "__name__" := by decide) (hdb : (x == ("__debug__" : Str)) = false := by decide) (hn2 : y ≠ "__name__" := by decide) (hdb2 : (y == ("__debug__" : Str)) = false := by decide)
    (hs : starEach [a, .Tuple [.Name x p2, .Name y p3] k pt] X.env = (false, eval a X.env) :: starEach [.Tuple [.Name x p2, .Name y p3] k pt] X.env := by rfl) (hs2 : starEach [.Tuple [.Name x p2, .Name y p3] k pt] X.env = (false, eval (.Tuple [.Name x p2, .Name y p3] k pt) X.env) :: starEach [] X.env := by rfl) (hpl : (backTo pos (starEach [.Tuple [.Name x p2, .Name y p3] k pt] X.env)).any (·.1) = false := by rfl)
    (hs3 : starEach [.Name x p2, .Name y p3] X.env = (false, eval (.Name x p2) X.env) :: starEach [.Name y p3] X.env := by rfl) (hs4 : starEach [.Name y p3] X.env = (false, eval (.Name y p3) X.env) :: starEach [] X.env := by rfl) :
    PE X (.Call (.Name "isinstance" p) [a, .Tuple [.Name x p2, .Name y p3] k pt] [] pos) (LP X.K (dIsi (fun d => f d || g d) α)) := by
  refine PE.mono (pe_callB call_isiT hg hm PyProof.Rows.boot_isinstance (pa_cons ha (pa_cons (pe_tup (pa_cons (pe_bltn (v := .ty T) hgT hmT hv rfl hn hdb) (pa_cons (pe_bltn (v := .ty U) hgU hmU hvU rfl hn2 hdb2) pa_nil hs4) hs3)) pa_nil hs2) hs) (by decide) (by decide) hs hpl) fun σ H Q h => ?_
  obtain ⟨env, S, fp, a0, s, e, q⟩ := h
  unfold dIsi at e
  split at e
  · rename_i s1 e1
    cases e
    refine ⟨env, S, fp, a0, s1, e1, fun v S1 H1 f1 a1 m1 o1 k1 => ⟨(by show 2 ≤ sizeLine; rw [sizeLine_eq]; omega), fun t ht => ?_⟩⟩
    have a2 := a1.frz (o := .tup [.ty T, .ty U]) ht
    refine ⟨v, t, [.ty T, .ty U], .type (tyD s1.2), [.type T, .type U], f s1.2 || g s1.2, rfl, upd_same, .cons (.ty T) (.cons (.ty U) .nil), ((o1.all a1.sub).up (same_new ht)).ty, ?_, q _ _ _ [] a2 (m1.trans (.frz ht a1.sub)) (Ow.zero (.bl _)) (fun _ z => by cases z)⟩
    refine kitAny_cons (kit_ty (hk s1.2)) (fun z => ?_) (fun z => by rw [z]; rfl)
    rw [z, Bool.false_or]
    refine kitAny_cons (kit_ty (hk2 s1.2)) (fun z => ?_) (fun z => z)
    rw [z]; exact kitAny_nil
  · cases e
/-! ### list(range(..)) -/
def rgD (a b : Int) : List PyData := (List.range (b - a).toNat).map fun i => PyData.int (a + (i : Nat))
theorem rp_rg {S : Hp} (a b : Int) : RpL K S (rgV a b) (rgD a b) := by
  unfold rgV rgD
  generalize List.range (b - a).toNat = l
  induction l with
  | nil => exact .nil
  | cons i r ih => exact .cons (.int _) ih
open scoped Dn.Sz in
def okRg (a b : Int) : Bool := decide (-(2 ^ 62) ≤ a ∧ a < 2 ^ 62 ∧ -(2 ^ 62) ≤ b ∧ b < 2 ^ 62 ∧ b - a ≤ 16777216)
def dRgO (α : DE) : DO := fun env => match α env with
  | some (.int n, e) => if okRg 0 n = true then some ((1, .list (rgD 0 n)), e) else none
  | _ => none
theorem qo_listRg {a : Expr} {p p2 pos pos2 : Pos} {α : DE} (hc : X.calm = true) (hm : X.mg "list" = none) (hm2 : X.mg "range" = none) (ha : PE X a (LE K α)) (hg : Gl X "list" := by rfl) (hg2 : Gl X "range" := by rfl)
    (na : starEach [a] X.env = (false, eval a X.env) :: starEach [] X.env := by rfl) (nb : starEach [.Call (.Name "range" p2) [a] [] pos2] X.env = (false, eval (.Call (.Name "range" p2) [a] [] pos2) X.env) :: starEach [] X.env := by rfl) :
    PE X (.Call (.Name "list" p) [.Call (.Name "range" p2) [a] [] pos2] [] pos) (LO K (dRgO α)) := by
  refine PE.mono (pe_listRg hc hg hm (prg_1 hg2 hm2 ha na) nb) fun σ H Q h => ?_
  obtain ⟨env, S, fp, a0, s, env', e, q⟩ := h
  unfold dRgO at e
  split at e
  · rename_i n e1 eq1
    split at e
    · rename_i ok
      cases e
      refine ⟨env, S, fp, a0, _, _, eq1, fun v S1 H1 f1 a1 m1 r1 => ⟨n, (by cases r1; rfl), ?_, fun l hl => ?_⟩⟩
      · unfold okRg at ok
        have z := decT ok
        exact ⟨z.1, z.2.1, z.2.2.1, z.2.2.2.1, by have := z.2.2.2.2; omega⟩
      · exact q (.ref l) _ _ _ (a1.own hl (rp_rg 0 n)) (m1.trans (.own hl))
    · cases e
  · cases e
/-! ### slices -/
abbrev DPo := En → Option (Option Int × En)
def LPo (K : Fr) (ε : DPo) : TO := fun σ H Q => ∃ env S fp, At K σ env S H fp ∧ ∃ o env', ε env = some (o, env') ∧
  ∀ S' H' fp', At K σ env' S' H' fp' → Go S H fp S' H' fp' → Q o H'
def dNoPart : DPo := fun env => some (none, env)
def dPart (α : DE) : DPo := fun env => match α env with
  | some (.int i, e) => some (some i, e)
  | _ => none
theorem qo_none : PO X none (LPo K dNoPart) := ⟨fun pins s σ H Q I h => (po_none (X := X)).run pins s σ H Q I (by
  obtain ⟨env, S, fp, a0, o, env', e, q⟩ := h
  cases e
  exact q S H fp a0 .refl)⟩
theorem qo_some {e : Expr} {α : DE} (h : PE X e (LE K α)) : PO X (some e) (LPo K (dPart α)) := ⟨fun pins s σ H Q I hw => (po_some h).run pins s σ H Q I (by
  obtain ⟨env, S, fp, a0, o, env', e, q⟩ := hw
  unfold dPart at e
  split at e
  · rename_i i e1 eq1
    cases e
    exact ⟨env, S, fp, a0, _, _, eq1, fun v S1 H1 f1 a1 m1 r1 => ⟨i, (by cases r1; rfl), q S1 H1 f1 a1 m1⟩⟩
  · cases e)⟩
def cutD (xs : List PyData) (lo hi : Option Int) : List PyData := (xs.drop (HT.sIx xs.length 0 lo)).take (HT.sIx xs.length xs.length hi - HT.sIx xs.length 0 lo)
theorem RpL.cut {S : Hp} {xs : List V} {ds : List PyData} (h : RpL K S xs ds) (lo hi : Option Int) : RpL K S (cutV xs lo hi) (cutD ds lo hi) := by
  unfold cutV cutD
  rw [h.len]
  exact (h.drop _).take _
def gSl (lo hi : Option Int) : PyData → Option PyData
  | .list ds => some (.list (cutD ds lo hi))
  | .tuple ds => some (.tuple (cutD ds lo hi))
  | _ => none
theorem n_sl {lo hi : Option Int} {d1 d : PyData} (e : gSl lo hi d1 = some d) {S H : Hp} {v : V} {Q : VK} (sub : Same S H) (hv : Vw K S H v d1) (hr : ResN K S H d Q) : rSlL K v lo hi H Q ∨ rSlA K v lo hi H Q := by
  unfold gSl at e
  split at e
  · cases e
    obtain ⟨p, xs, rfl, h1, r1⟩ := hv.list sub
    exact .inl ⟨p, xs, rfl, h1.sq, fun l hl => hr.lst l _ _ rfl hl (r1.cut lo hi)⟩
  · rename_i ds
    cases e
    obtain ⟨p, xs, rfl, t1, h1, r1⟩ := hv.tuple sub
    refine .inr ⟨p, xs, rfl, h1, fun z => ?_, fun _ l hl => hr.tup l _ _ rfl hl (r1.cut lo hi)⟩
    refine hr.old _ (fun _ z => by cases z) ?_
    have ez : cutD ds lo hi = ds := by
      unfold cutD
      rw [← r1.len, z.1, z.2, List.drop_zero, Nat.sub_zero, r1.len, List.take_length]
    rw [ez]; exact .tup t1 r1
  · cases e
theorem o_sl : SlR X (fun x lo hi H Q => rSlL X.K x lo hi H Q ∨ rSlA X.K x lo hi H Q) := sl_list.or sl_tupA
/-- frozen from a frozen one -/
def dSl (α : DE) (l u : DPo) : DE := fun env => match α env with
  | some (x, e1) => (match l e1 with
    | some (lo, e2) => (match u e2 with
      | some (hi, e3) => (match gSl lo hi x with | some d => some (d, e3) | none => none)
      | none => none)
    | none => none)
  | none => none
def dSlO (α : DE) (l u : DPo) : DO := fun env => match α env with
  | some (x, e1) => (match l e1 with
    | some (lo, e2) => (match u e2 with
      | some (hi, e3) => (match gSl lo hi x with | some d => some (ownD d, e3) | none => none)
      | none => none)
    | none => none)
  | none => none
theorem LE.sl {α : DE} {l u : DPo} {σ : Sg} {H : Hp} {Q : VK} (h : LE K (dSl α l u) σ H Q) : tSl (fun x lo hi H Q => rSlL K x lo hi H Q ∨ rSlA K x lo hi H Q) (LE K α) (LPo K l) (LPo K u) σ H Q := by
  obtain ⟨env, S, fp, a0, s, env', e, q⟩ := h
  unfold dSl at e
  split at e
  · rename_i x e1 eq1
    split at e
    · rename_i lo e2 eq2
      split at e
      · rename_i hi e3 eq3
        split at e
        · rename_i d ed
          cases e
          refine ⟨env, S, fp, a0, _, _, eq1, fun v S1 H1 f1 a1 m1 r1 => ⟨_, S1, f1, a1, _, _, eq2, fun S2 H2 f2 a2 m2 => ⟨_, S2, f2, a2, _, _, eq3, fun S3 H3 f3 a3 m3 => ?_⟩⟩⟩
          exact n_sl ed a3.sub (.inl ((r1.up m2.s).up m3.s)) (Res.ofE a3 fun w S4 H4 f4 a4 m4 r4 => q w S4 H4 f4 a4 (m1.trans (m2.trans (m3.trans m4))) r4).n
        · cases e
      · cases e
    · cases e
  · cases e
theorem LO.sl {α : DE} {l u : DPo} {σ : Sg} {H : Hp} {Q : VK} (h : LO K (dSlO α l u) σ H Q) : tSl (fun x lo hi H Q => rSlL K x lo hi H Q ∨ rSlA K x lo hi H Q) (LE K α) (LPo K l) (LPo K u) σ H Q := by
  obtain ⟨env, S, fp, a0, s, env', e, q⟩ := h
  unfold dSlO at e
  split at e
  · rename_i x e1 eq1
    split at e
    · rename_i lo e2 eq2
      split at e
      · rename_i hi e3 eq3
        split at e
        · rename_i d ed
          cases e
          refine ⟨env, S, fp, a0, _, _, eq1, fun v S1 H1 f1 a1 m1 r1 => ⟨_, S1, f1, a1, _, _, eq2, fun S2 H2 f2 a2 m2 => ⟨_, S2, f2, a2, _, _, eq3, fun S3 H3 f3 a3 m3 => ?_⟩⟩⟩
          exact n_sl ed a3.sub (.inl ((r1.up m2.s).up m3.s)) (ResN.ofO a3 fun w S4 H4 f4 a4 m4 => q w S4 H4 f4 a4 (m1.trans (m2.trans (m3.trans m4))))
        · cases e
      · cases e
    · cases e
  · cases e
/-- of a name, which may be one's own -/
def dSlV (i : Nat) (l u : DPo) : DE := fun env => match (env[i]?).join, l env with
  | some _, some (lo, e2) => (match u e2 with
    | some (hi, e3) => (match (e3[i]?).join with
      | some s => if vis s = true then (match gSl lo hi s.2 with | some d => some (d, e3) | none => none) else none
      | none => none)
    | none => none)
  | _, _ => none
def dSlVO (i : Nat) (l u : DPo) : DO := fun env => match (env[i]?).join, l env with
  | some _, some (lo, e2) => (match u e2 with
    | some (hi, e3) => (match (e3[i]?).join with
      | some s => if vis s = true then (match gSl lo hi s.2 with | some d => some (ownD d, e3) | none => none) else none
      | none => none)
    | none => none)
  | _, _ => none
theorem LE.slV {i : Nat} {l u : DPo} {σ : Sg} {H : Hp} {Q : VK} (h : LE K (dSlV i l u) σ H Q) : tSl (fun x lo hi H Q => rSlL K x lo hi H Q ∨ rSlA K x lo hi H Q) (tVar i) (LPo K l) (LPo K u) σ H Q := by
  obtain ⟨env, S, fp, a0, s, env', e, q⟩ := h
  unfold dSlV at e
  split at e
  · rename_i s0 lo e2 eq1 eq2
    split at e
    · rename_i hi e3 eq3
      split at e
      · rename_i s es
        split at e
        · rename_i vv
          split at e
          · rename_i d ed
            cases e
            obtain ⟨v, f, h1, h2, h3⟩ := a0.ow.look eq1
            refine ⟨v, h1, env, S, fp, a0, _, _, eq2, fun S2 H2 f2 a2 m2 => ⟨_, S2, f2, a2, _, _, eq3, fun S3 H3 f3 a3 m3 => ?_⟩⟩
            obtain ⟨v', f', h1', h2', h3'⟩ := a3.ow.look es
            rw [h1] at h1'; cases h1'
            exact n_sl ed a3.sub (h2'.vw vv) (Res.ofE a3 fun w S4 H4 f4 a4 m4 r4 => q w S4 H4 f4 a4 (m2.trans (m3.trans m4)) r4).n
          · cases e
        · cases e
      · cases e
    · cases e
  · cases e
theorem LO.slV {i : Nat} {l u : DPo} {σ : Sg} {H : Hp} {Q : VK} (h : LO K (dSlVO i l u) σ H Q) : tSl (fun x lo hi H Q => rSlL K x lo hi H Q ∨ rSlA K x lo hi H Q) (tVar i) (LPo K l) (LPo K u) σ H Q := by
  obtain ⟨env, S, fp, a0, s, env', e, q⟩ := h
  unfold dSlVO at e
  split at e
  · rename_i s0 lo e2 eq1 eq2
    split at e
    · rename_i hi e3 eq3
      split at e
      · rename_i s es
        split at e
        · rename_i vv
          split at e
          · rename_i d ed
            cases e
            obtain ⟨v, f, h1, h2, h3⟩ := a0.ow.look eq1
            refine ⟨v, h1, env, S, fp, a0, _, _, eq2, fun S2 H2 f2 a2 m2 => ⟨_, S2, f2, a2, _, _, eq3, fun S3 H3 f3 a3 m3 => ?_⟩⟩
            obtain ⟨v', f', h1', h2', h3'⟩ := a3.ow.look es
            rw [h1] at h1'; cases h1'
            exact n_sl ed a3.sub (h2'.vw vv) (ResN.ofO a3 fun w S4 H4 f4 a4 m4 => q w S4 H4 f4 a4 (m2.trans (m3.trans m4)))
          · cases e
        · cases e
      · cases e
    · cases e
  · cases e
section
variable {e : Expr} {lo hi : Option Expr} {p2 pos pos' : Pos} {x : Str} {α : DE} {l u : DPo}
theorem qe_sl (he : PE X e (LE X.K α)) (hl : PO X lo (LPo X.K l)) (hu : PO X hi (LPo X.K u)) : PE X (.Subscript e (.Slice lo hi none p2) pos) (LE X.K (dSl α l u)) :=
  PE.mono (pe_slice o_sl he hl hu) fun _ _ _ w => w.sl
theorem qo_sl (he : PE X e (LE X.K α)) (hl : PO X lo (LPo X.K l)) (hu : PO X hi (LPo X.K u)) : PE X (.Subscript e (.Slice lo hi none p2) pos) (LO X.K (dSlO α l u)) :=
  PE.mono (pe_slice o_sl he hl hu) fun _ _ _ w => w.sl
theorem qe_slV (i : Nat) (hl : PO X lo (LPo X.K l)) (hu : PO X hi (LPo X.K u))
    (hN : X.N[i]? = some x := by rfl) (hv : Vis X.env.scope x := by first | exact Or.inl rfl | exact Or.inr (Or.inl rfl) | exact Or.inr (Or.inr rfl)) (hd : (x == ("__debug__" : Str)) = false := by decide) (hcd : (x == ("__classdict__" : Str)) = false := by decide) : PE X (.Subscript (.Name x pos') (.Slice lo hi none p2) pos) (LE X.K (dSlV i l u)) :=
  PE.mono (pe_slice o_sl (pv i hN hv hd hcd) hl hu) fun _ _ _ w => w.slV
theorem qo_slV (i : Nat) (hl : PO X lo (LPo X.K l)) (hu : PO X hi (LPo X.K u))
    (hN : X.N[i]? = some x := by rfl) (hv : Vis X.env.scope x := by first | exact Or.inl rfl | exact Or.inr (Or.inl rfl) | exact Or.inr (Or.inr rfl)) (hd : (x == ("__debug__" : Str)) = false := by decide) (hcd : (x == ("__classdict__" : Str)) = false := by decide) : PE X (.Subscript (.Name x pos') (.Slice lo hi none p2) pos) (LO X.K (dSlVO i l u)) :=
  PE.mono (pe_slice o_sl (pv i hN hv hd hcd) hl hu) fun _ _ _ w => w.slV
/-- xs[::-1] -/
def gRev : PyData → Option PyData
  | .list ds => some (.list ds.reverse)
  | _ => none
def dRev (α : DE) : DE := dUnE gRev α
theorem qe_rev {k : Nat} {p1 p2 p3 : Pos} (he : PE X e (LE X.K α)) : PE X (.Subscript e (.Slice none none (some (.UnaryOp .USub (.Constant (.int 1) k p1) p2)) p3) pos) (LE X.K (dRev α)) := by
  refine PE.mono (pe_revL he) fun σ H Q h => ?_
  obtain ⟨env, S, fp, a0, s, env', e, q⟩ := h
  unfold dRev dUnE at e
  split at e
  · rename_i x e1 eq1
    split at e
    · rename_i d ed
      cases e
      refine ⟨env, S, fp, a0, _, _, eq1, fun v S1 H1 f1 a1 m1 r1 => ?_⟩
      unfold gRev at ed
      split at ed
      · rename_i ds
        cases ed
        obtain ⟨p, xs, rfl, h1, r⟩ := Vw.list (.inl r1) a1.sub
        exact ⟨p, xs, rfl, h1.sq, fun l hl => q (.ref l) _ _ f1 (a1.frz hl) (m1.trans (.frz hl a1.sub)) (rp_newL (a1.sub.free hl) r.rev)⟩
      · cases ed
    · cases e
  · cases e
/-- .. of what may be one's own, for one's own -/
theorem qo_revP {k : Nat} {p1 p2 p3 : Pos} {β : DP} (he : PE X e (LP X.K β)) : PE X (.Subscript e (.Slice none none (some (.UnaryOp .USub (.Constant (.int 1) k p1) p2)) p3) pos) (LO X.K (dUnO gRev β)) := by
  refine PE.mono (pe_revL he) fun σ H Q h => ?_
  obtain ⟨env, S, fp, a0, s, env', e, q⟩ := h
  unfold dUnO at e
  split at e
  · rename_i s1 e1
    split at e
    · rename_i vv
      split at e
      · rename_i d ed
        cases e
        refine ⟨env, S, fp, a0, s1, e1, fun v S1 H1 f1 a1 m1 o1 k1 => ?_⟩
        have vw := o1.vw vv
        unfold gRev at ed
        split at ed
        · rename_i ds eds
          cases ed
          rw [eds] at vw
          obtain ⟨p, xs, rfl, h1, r⟩ := vw.list a1.sub
          exact ⟨p, xs, rfl, h1.sq, fun l hl => q (.ref l) _ _ _ (a1.own hl r.rev) (m1.go.trans (.own hl))⟩
        · cases ed
      · cases e
    · cases e
  · cases e
end
end
end Dn

set_option Elab.async false
set_option linter.all false
set_option maxRecDepth 100000
set_option maxHeartbeats 1000000
/-! layer D, 5: methods of one's own lists, calls of defs, statements, loops, defs -/
namespace Dn
open PySem PySem.Spec PyProof.Rows L2
section
variable {X : Cx} {K : Fr}
/-! ### an own list is written -/
theorem OwL.fp0 {S H : Hp} {vs : List V} {ds : List PyData} {f : List Addr} (h : OwL (Ow K S H 0) vs ds f) : f = [] := by
  induction h with
  | nil => rfl
  | cons r _ ih => rw [r.2, ih]; rfl
theorem set_back (env : En) (i : Nat) (x y : Option Sl) : (env.set i x).set i y = env.set i y := List.set_set ..
theorem At.lst {σ : Sg} {env : En} {S H : Hp} {fp : List Addr} (h : At K σ env S H fp) {i : Nat} {ds : List PyData} (e : (env[i]?).join = some (1, .list ds)) :
    ∃ a xs, σ[i]? = some (some (.ref a)) ∧ H a = some (.lst xs) ∧ RpL K S xs ds ∧ ∀ xs' ds', RpL K S xs' ds' →
      ∃ fp', At K σ (env.set i (some (1, .list ds'))) S (upd H a (.lst xs')) fp' ∧ Go S H fp S (upd H a (.lst xs')) fp' := by
  obtain ⟨v, f, g, h1, h2, h3, h4⟩ := h.ow.at (join_some e)
  rcases h2 with ⟨fl, _, _⟩ | ⟨a, xs, ds1, f1, e1, e2, e3, e4, e5, e6⟩ | ⟨a, kvs, ds1, e1, e2, _⟩
  · simp [flatD] at fl
  · cases e2
    have ef := e6.fp0
    subst ef; subst e5; subst e1
    have nd : (a :: g).Nodup := h3.nodup_iff.mp h.nd
    have ag := (List.nodup_cons.mp nd).1
    refine ⟨a, xs, h1, e3, e6.rp0, fun xs' ds' r => ?_⟩
    have hi : i < env.length := by
      cases q : env[i]? with
      | none => rw [q] at e; cases e
      | some x => exact (List.getElem?_eq_some_iff.mp q).1
    have k4 : OwE K S (upd H a (.lst xs')) σ (env.set i none) g := h4.keep (.refl _) (fun b hb => upd_ne (show b ≠ a from fun z => ag (by rw [← z]; exact hb))) fun b hb => (h4.out b hb).1
    obtain ⟨fp', p1, p2⟩ := k4.back (n := 1) (d := .list ds') (f := [a]) (List.getElem?_set_self hi) h1 (.inr (.inl ⟨a, xs', ds', [], rfl, rfl, upd_same, e4, rfl, OwL.of r⟩))
    rw [set_back] at p2
    have pe : fp.Perm fp' := h3.trans p1.symm
    refine ⟨fp', ⟨fun b x q => ?_, pe.nodup_iff.mp h.nd, p2⟩, (Go.write (h3.mem_iff.mpr List.mem_cons_self)).less fun b hb => pe.mem_iff.mpr hb⟩
    rw [upd_ne (ne_of_none q e4)]; exact h.sub b x q
  · cases e2
/-! ### methods -/
def OpM (K : Fr) (r : V → List V → Hp → VK → Prop) (m : List PyData → List PyData → Option (PyData × List PyData)) : Prop :=
  ∀ ds as res ds', m ds as = some (res, ds') → ∀ S H l xs vs Q, Same S H → H l = some (.lst xs) → RpL K S xs ds → RpL K S vs as →
    (∀ w xs', Rp K S w res → RpL K S xs' ds' → Q w (upd H l (.lst xs'))) → r (.ref l) vs H Q
def ownL : Option (Option Sl) → Option (List PyData)
  | some (some (1, .list ds)) => some ds
  | _ => none
theorem ownL_some {x : Option (Option Sl)} {ds : List PyData} (h : ownL x = some ds) : x.join = some (1, .list ds) := by
  unfold ownL at h
  split at h
  · cases h; rfl
  · cases h
def dMeth (i : Nat) (m : List PyData → List PyData → Option (PyData × List PyData)) (ε : DL) : DE := fun env => match ownL env[i]?, ε env with
  | some _, some (as, e1) => (match ownL e1[i]? with
    | some ds => (match m ds as with | some (res, ds') => some (res, e1.set i (some (1, .list ds'))) | none => none)
    | none => none)
  | _, _ => none
theorem LE.meth {i : Nat} {r : V → List V → Hp → VK → Prop} {m : List PyData → List PyData → Option (PyData × List PyData)} (hr : OpM K r m) {ε : DL} {σ : Sg} {H : Hp} {Q : VK} (h : LE K (dMeth i m ε) σ H Q) :
    tBM K "list" r (tVar i) (LA K ε) σ H Q := by
  obtain ⟨env, S, fp, a0, d, env', e, q⟩ := h
  unfold dMeth at e
  split at e
  · rename_i ds0 as e1 eo eq1
    split at e
    · rename_i ds eo2
      split at e
      · rename_i res ds' em
        cases e
        obtain ⟨a, xs0, h1, h2, _, _⟩ := a0.lst (ownL_some eo)
        refine ⟨.ref a, h1, .inl ⟨rfl, xs0, .of h2⟩, env, S, fp, a0, as, _, eq1, fun vs S1 H1 f1 a1 m1 r1 => ?_⟩
        obtain ⟨a', xs, h1', h2', r2, go⟩ := a1.lst (ownL_some eo2)
        rw [h1] at h1'; cases h1'
        refine hr _ _ _ _ em S1 H1 a xs vs Q a1.sub h2' r2 r1 fun w xs' rw' rx => ?_
        obtain ⟨fp', a2, g2⟩ := go xs' ds' rx
        exact q w S1 _ fp' a2 (m1.trans g2) rw'
      · cases e
    · cases e
  · cases e
theorem LE.meth0 {i : Nat} {r : V → List V → Hp → VK → Prop} {m : List PyData → List PyData → Option (PyData × List PyData)} (hr : OpM K r m) {σ : Sg} {H : Hp} {Q : VK} (h : LE K (dMeth i m dNil) σ H Q) :
    tBM0 K "list" r (tVar i) σ H Q := by
  obtain ⟨v, e, ty, w⟩ := h.meth hr
  exact ⟨v, e, ty, w.nil⟩
section
variable {name id : Str} {mid : String} {r : V → List V → Hp → VK → Prop} {m : List PyData → List PyData → Option (PyData × List PyData)} {x : Str} {e : Expr} {es : List Expr} {apos cpos pos' : Pos} {ε : DL}
theorem qe_meth (i : Nat) (slot : Slot "list" name mid) (hty : typeOf (.builtin mid) = pure (.type "method_descriptor")) (hm : MtR X mid r) (hr : OpM X.K r m) (ha : PA X (e :: es) (LA X.K ε))
    (hN : X.N[i]? = some x := by rfl) (hv : Vis X.env.scope x := by first | exact Or.inl rfl | exact Or.inr (Or.inl rfl) | exact Or.inr (Or.inr rfl)) (hd : (x == ("__debug__" : Str)) = false := by decide) (hcd : (x == ("__classdict__" : Str)) = false := by decide)
    (hbase : attributeBase (.Name x pos') name X.env (eval (.Name x pos') X.env) = eval (.Name x pos') X.env := by rfl)
    (hfew : ((backTo cpos (starEach (e :: es) X.env)).all (fun x => !x.1) && (backToKw cpos (keywordEach [] X.env)).all (fun x => x.1.isSome)
      && decide ((e :: es).length + ([] : List Keyword).length + (if ([] : List Keyword).isEmpty then 0 else 1) < 30)) = true := by rfl)
    (hline : (apos.endLine == cpos.line) = true := by rfl) (hs : starEach (e :: es) X.env = (false, eval e X.env) :: starEach es X.env := by rfl) (hplain : (backTo cpos (starEach es X.env)).any (·.1) = false := by rfl) :
    PE X (.Call (.Attribute (.Name x pos') name apos) (e :: es) [] cpos) (LE X.K (dMeth i m ε)) :=
  PE.mono (pe_bm PySem.F.plainAttrs_list slot hty hm (pv i hN hv hd hcd) ha hbase hfew hline hs hplain) fun _ _ _ w => w.meth hr
theorem qe_meth0 (i : Nat) (slot : Slot "list" name mid) (hty : typeOf (.builtin mid) = pure (.type "method_descriptor")) (hm : MtR X mid r) (hr : OpM X.K r m)
    (hN : X.N[i]? = some x := by rfl) (hv : Vis X.env.scope x := by first | exact Or.inl rfl | exact Or.inr (Or.inl rfl) | exact Or.inr (Or.inr rfl)) (hd : (x == ("__debug__" : Str)) = false := by decide) (hcd : (x == ("__classdict__" : Str)) = false := by decide)
    (hbase : attributeBase (.Name x pos') name X.env (eval (.Name x pos') X.env) = eval (.Name x pos') X.env := by rfl) (hline : (apos.endLine == cpos.line) = true := by rfl) :
    PE X (.Call (.Attribute (.Name x pos') name apos) [] [] cpos) (LE X.K (dMeth i m dNil)) :=
  PE.mono (pe_bm0 PySem.F.plainAttrs_list slot hty hm (pv i hN hv hd hcd) hbase hline) fun _ _ _ w => w.meth0 hr
end
open scoped Dn.Sz in
def mAppend : List PyData → List PyData → Option (PyData × List PyData) := fun ds as => match as with
  | [d] => if ds.length < sizeLine then some (.none, ds ++ [d]) else none
  | _ => none
theorem m_append : OpM K rAppend mAppend := by
  intro ds as res ds' e S H l xs vs Q sub hl rx rv q
  unfold mAppend at e
  split at e
  · split at e
    · rename_i hz
      cases e
      cases rv with
      | cons r t =>
        cases t
        exact ⟨l, xs, _, rfl, rfl, hl, by rw [rx.len]; exact hz, q _ _ .non (rx.append (.cons r .nil))⟩
    · cases e
  · cases e
def rExtendR (K : PySem.W.Frag) : V → List V → Hp → VK → Prop := fun x vs H Q => ∃ l b xs zs, x = .ref l ∧ vs = [.ref b] ∧ H l = some (.lst xs) ∧ LstR K H b zs ∧ xs.length + zs.length ≤ sizeLine ∧ Q .non (upd H l (.lst (xs ++ zs)))
theorem mt_extendR {X : Cx} : MtM X "list.extend" (rExtendR X.K) := by
  intro pins s σ H x vs v us Q I rx rv h
  obtain ⟨l, b, xs, zs, rfl, rfl, hH, hB, hz, q⟩ := h
  cases rx
  obtain ⟨u, rfl, ru⟩ := rv.one
  cases ru
  obtain ⟨_, its, n, r, hl, e⟩ := I.lstM hH
  obtain ⟨_, its2, n2, r2, hl2, e2⟩ := lstR I hB
  have c0 : its.toArray.size + its2.toArray.size ≤ sizeLine := by rw [List.size_toArray, List.size_toArray]; omega
  have c1 : ¬ (!its.toArray.isEmpty && Builtin.List.listTooLong (its.toArray.size + its2.toArray.size)) = true := by
    rw [notLongL c0, Bool.and_false]; exact Bool.false_ne_true
  refine call_meets F.slot_list_extend ⟨_, e, rfl⟩ F.entry_list_extend (F.args_list_extend_2 _ _)
    (AutoSeq1.list_extend_list_list_0 l its.toArray n b its2.toArray n2 c1 (by rw [List.size_toArray]; omega) (by omega)) ⟨e, e2, ?_⟩
  exact ⟨.non, _, I.lset (its' := its ++ its2) hH e (by simp) (r.append r2) (by rw [List.length_append]; omega), rfl, q⟩
open scoped Dn.Sz in
def mExtend : List PyData → List PyData → Option (PyData × List PyData) := fun ds as => match as with
  | [.list zs] => if ds.length + zs.length ≤ sizeLine then some (.none, ds ++ zs) else none
  | _ => none
theorem m_extend : OpM K (rExtendR K) mExtend := by
  intro ds as res ds' e S H l xs vs Q sub hl rx rv q
  unfold mExtend at e
  split at e
  · split at e
    · rename_i hz
      cases e
      cases rv with
      | cons r t =>
        cases t
        cases r with
        | lst hs ha => exact ⟨l, _, xs, _, rfl, rfl, hl, lrMono sub hs, by rw [rx.len, ha.len]; exact hz, q _ _ .non (rx.append ha)⟩
    · cases e
  · cases e
open scoped Dn.Sz in
def mPop : List PyData → List PyData → Option (PyData × List PyData) := fun ds as => match as with
  | [] => (match ds[ds.length - 1]? with | some d => some (d, ds.dropLast) | none => none)
  | [.int i] => if -(2 ^ 63) ≤ i ∧ i < 2 ^ 63 then (match seqIndex? i ds.length with
    | some k => (match ds[k]? with | some d => some (d, ds.eraseIdx k) | none => none)
    | none => none) else none
  | _ => none
theorem RpL.dropLast {S : Hp} {xs : List V} {ds : List PyData} (h : RpL K S xs ds) : RpL K S xs.dropLast ds.dropLast := by
  rw [List.dropLast_eq_take, List.dropLast_eq_take, h.len]; exact h.take _
theorem m_pop : OpM K (fun x vs H Q => rPop x vs H Q ∨ rPopAt x vs H Q) mPop := by
  intro ds as res ds' e S H l xs vs Q sub hl rx rv q
  unfold mPop at e
  split at e
  · split at e
    · rename_i d ed
      cases e
      cases rv
      obtain ⟨y, e1, r⟩ := rx.get ed
      exact .inl ⟨l, xs, y, rfl, rfl, hl, by rw [rx.len]; exact e1, q _ _ r rx.dropLast⟩
    · cases e
  · rename_i i
    split at e
    · rename_i hb
      split at e
      · rename_i k ek
        split at e
        · rename_i d ed
          cases e
          have ev := RpL.ints (ns := [i]) rv
          subst ev
          obtain ⟨y, e1, r⟩ := rx.get ed
          exact .inr ⟨l, xs, i, k, y, rfl, rfl, hl, hb.1, hb.2, by rw [rx.len]; exact ek, e1, q _ _ r (rx.erase k)⟩
        · cases e
      · cases e
    · cases e
  · cases e
theorem mt_popB : MtR X "list.pop" (fun x vs H Q => rPop x vs H Q ∨ rPopAt x vs H Q) := MtR.or mt_pop mt_popAt
open scoped Dn.Sz in
def mInsert : List PyData → List PyData → Option (PyData × List PyData) := fun ds as => match as with
  | [.int i, d] => if ds.length < sizeLine ∧ 0 ≤ i ∧ i < 2 ^ 63 then some (.none, ds.take i.toNat ++ [d] ++ ds.drop i.toNat) else none
  | _ => none
theorem m_insert : OpM K (fun x vs H Q => ∃ (l : Addr) (xs : List V) (i : Int) (y : V), x = .ref l ∧ vs = [.int i, y] ∧ H l = some (.lst xs) ∧ xs.length < sizeLine ∧ 0 ≤ i ∧ i < 2 ^ 63 ∧
    Q .non (upd H l (.lst (xs.take i.toNat ++ [y] ++ xs.drop i.toNat)))) mInsert := by
  intro ds as res ds' e S H l xs vs Q sub hl rx rv q
  unfold mInsert at e
  split at e
  · rename_i i d
    split at e
    · rename_i hb
      cases e
      cases rv with
      | cons r1 t =>
        cases r1
        cases t with
        | cons r2 t =>
          cases t
          exact ⟨l, xs, i, _, rfl, rfl, hl, by rw [rx.len]; exact hb.1, hb.2.1, hb.2.2, q _ _ .non (((rx.take _).append (.cons r2 .nil)).append (rx.drop _))⟩
    · cases e
  · cases e
/-! ### calls of defs -/
inductive Ar where
  | r (i : Nat)
  | v (d : PyData)
abbrev DAr := En → Option (List Ar × En)
inductive ArOk (K : Fr) (S : Hp) (σ : Sg) : List V → List Ar → Prop
  | nil : ArOk K S σ [] []
  | r {i : Nat} {v : V} {vs : List V} {as : List Ar} : σ[i]? = some (some v) → ArOk K S σ vs as → ArOk K S σ (v :: vs) (.r i :: as)
  | v {v : V} {d : PyData} {vs : List V} {as : List Ar} : Rp K S v d → ArOk K S σ vs as → ArOk K S σ (v :: vs) (.v d :: as)
theorem ArOk.up {S S' : Hp} {σ : Sg} {vs : List V} {as : List Ar} (h : ArOk K S σ vs as) (e : Same S S') : ArOk K S' σ vs as := by
  induction h with
  | nil => exact .nil
  | r q _ ih => exact .r q ih
  | v q _ ih => exact .v (q.up e) ih
def LR (K : Fr) (ε : DAr) : TA := fun σ H Q => ∃ env S fp, At K σ env S H fp ∧ ∃ as env', ε env = some (as, env') ∧
  ∀ vs S' H' fp', At K σ env' S' H' fp' → Go S H fp S' H' fp' → ArOk K S' σ vs as → Q vs H'
def rNil : DAr := fun env => some ([], env)
def rVal (α : DE) (β : DAr) : DAr := fun env => match α env with
  | some (d, e1) => (match β e1 with
    | some (as, e2) => some (.v d :: as, e2)
    | none => none)
  | none => none
def rRef (i : Nat) (β : DAr) : DAr := fun env => match (env[i]?).join with
  | some _ => (match β env with
    | some (as, e2) => some (.r i :: as, e2)
    | none => none)
  | none => none
theorem LR.nil {σ : Sg} {H : Hp} {Q : List V → Hp → Prop} (h : LR K rNil σ H Q) : tNil σ H Q := by
  obtain ⟨env, S, fp, a0, as, env', e, q⟩ := h
  cases e
  exact q [] S H fp a0 .refl .nil
theorem LR.val {α : DE} {β : DAr} {σ : Sg} {H : Hp} {Q : List V → Hp → Prop} (h : LR K (rVal α β) σ H Q) : tCons (LE K α) (LR K β) σ H Q := by
  obtain ⟨env, S, fp, a0, as, env', e, q⟩ := h
  unfold rVal at e
  split at e
  · rename_i d e1 eq1
    split at e
    · rename_i as2 e2 eq2
      cases e
      exact ⟨env, S, fp, a0, d, _, eq1, fun v S1 H1 f1 a1 m1 r1 => ⟨_, S1, f1, a1, as2, _, eq2, fun vs S2 H2 f2 a2 m2 r2 => q (v :: vs) S2 H2 f2 a2 (m1.trans m2) (.v (r1.up m2.s) r2)⟩⟩
    · cases e
  · cases e
theorem LR.ref {i : Nat} {β : DAr} {σ : Sg} {H : Hp} {Q : List V → Hp → Prop} (h : LR K (rRef i β) σ H Q) : tCons (tVar i) (LR K β) σ H Q := by
  obtain ⟨env, S, fp, a0, as, env', e, q⟩ := h
  unfold rRef at e
  split at e
  · rename_i s es
    split at e
    · rename_i as2 e2 eq2
      cases e
      obtain ⟨v, f, h1, _, _⟩ := a0.ow.look es
      exact ⟨v, h1, env, S, fp, a0, as2, _, eq2, fun vs S2 H2 f2 a2 m2 r2 => q (v :: vs) S2 H2 f2 a2 m2 (.r h1 r2)⟩
    · cases e
  · cases e
theorem qr_nil : PA X [] (LR K rNil) := PA.mono pa_nil fun _ _ _ w => w.nil
theorem qr_val {e : Expr} {es : List Expr} {α : DE} {β : DAr} (ha : PE X e (LE K α)) (hr : PA X es (LR K β)) (hs : starEach (e :: es) X.env = (false, eval e X.env) :: starEach es X.env := by rfl) : PA X (e :: es) (LR K (rVal α β)) :=
  PA.mono (pa_cons ha hr hs) fun _ _ _ w => w.val
theorem qr_ref (i : Nat) {x : Str} {pos : Pos} {es : List Expr} {β : DAr} (hr : PA X es (LR K β))
    (hN : X.N[i]? = some x := by rfl) (hv : Vis X.env.scope x := by first | exact Or.inl rfl | exact Or.inr (Or.inl rfl) | exact Or.inr (Or.inr rfl)) (hd : (x == ("__debug__" : Str)) = false := by decide) (hcd : (x == ("__classdict__" : Str)) = false := by decide)
    (hs : starEach (.Name x pos :: es) X.env = (false, eval (.Name x pos) X.env) :: starEach es X.env := by rfl) : PA X (.Name x pos :: es) (LR K (rRef i β)) :=
  PA.mono (pa_cons (pv i hN hv hd hcd) hr hs) fun _ _ _ w => w.ref
def arIn (env : En) : List Ar → Option (List Sl)
  | [] => some []
  | .r i :: as => (match (env[i]?).join, arIn env as with | some s, some l => some (s :: l) | _, _ => none)
  | .v d :: as => (match arIn env as with | some l => some ((0, d) :: l) | none => none)
def arIds : List Ar → List Nat
  | [] => []
  | .r i :: as => i :: arIds as
  | .v _ :: as => arIds as
def arBr : List Ar → List Bool
  | [] => []
  | .r _ :: as => true :: arBr as
  | .v _ :: as => false :: arBr as
def clr : List Nat → En → En
  | [], env => env
  | i :: ids, env => clr ids (env.set i none)
def setIds : List Nat → List Sl → En → Option En
  | [], [], env => some env
  | i :: ids, o :: outs, env => setIds ids outs (env.set i (some o))
  | _, _, _ => none
def pick : List Bool → List V → List V
  | true :: br, v :: vs => v :: pick br vs
  | false :: br, _ :: vs => pick br vs
  | _, _ => []
theorem clr_at : ∀ {ids : List Nat} {env : En} {i : Nat}, i ∉ ids → (clr ids env)[i]? = env[i]?
  | [], _, _, _ => rfl
  | j :: ids, env, i, h => by
    simp only [List.mem_cons, not_or] at h
    show (clr ids (env.set j none))[i]? = _
    rw [clr_at h.2, List.getElem?_set_ne (Ne.symm h.1)]
theorem clr_set : ∀ {ids : List Nat} {env : En} {i : Nat} {x : Option Sl}, i ∉ ids → (clr ids env).set i x = clr ids (env.set i x)
  | [], _, _, _, _ => rfl
  | j :: ids, env, i, x, h => by
    simp only [List.mem_cons, not_or] at h
    show (clr ids (env.set j none)).set i x = clr ids ((env.set i x).set j none)
    rw [clr_set h.2, List.set_comm _ _ (Ne.symm h.1)]
theorem arIn_set {env : En} {i : Nat} {x : Option Sl} : ∀ {as : List Ar}, i ∉ arIds as → arIn (env.set i x) as = arIn env as
  | [], _ => rfl
  | .r j :: as, h => by
    simp only [arIds, List.mem_cons, not_or] at h
    simp only [arIn]
    rw [arIn_set h.2, List.getElem?_set_ne h.1]
  | .v d :: as, h => by
    simp only [arIn]
    rw [arIn_set (by simpa [arIds] using h)]
theorem split_args {S H : Hp} {σ : Sg} {vs : List V} {as : List Ar} (h : ArOk K S σ vs as) : ∀ {env : En} {fp : List Addr} {ins : List Sl}, OwE K S H σ env fp → arIn env as = some ins → (arIds as).Nodup →
    ∃ fA fR, fp.Perm (fA ++ fR) ∧ OwE K S H (vs.map some) (ins.map some) fA ∧ OwE K S H σ (clr (arIds as) env) fR := by
  induction h with
  | nil => intro env fp ins o e _; cases e; exact ⟨[], fp, .refl _, .nil, o⟩
  | @r i v vs as hv _ ih =>
    intro env fp ins o e nd
    simp only [arIn] at e
    split at e
    · rename_i s l es el
      cases e
      obtain ⟨ni, nd2⟩ := List.nodup_cons.mp (show (i :: arIds as).Nodup from nd)
      obtain ⟨v', f, g, h1, h2, h3, h4⟩ := o.at (join_some es)
      rw [hv] at h1; cases h1
      obtain ⟨fA, fR, p1, p2, p3⟩ := ih h4 (by rw [arIn_set ni]; exact el) nd2
      refine ⟨f ++ fA, fR, ?_, .yes h2 p2, p3⟩
      rw [List.append_assoc]
      exact h3.trans (p1.append_left f)
    · cases e
  | @v v d vs as hv _ ih =>
    intro env fp ins o e nd
    simp only [arIn] at e
    split at e
    · rename_i l el
      cases e
      obtain ⟨fA, fR, p1, p2, p3⟩ := ih o el nd
      exact ⟨fA, fR, p1, OwE.yes (f := []) (Ow.zero hv) p2, p3⟩
    · cases e
theorem join_back {S H : Hp} {σ : Sg} {vs : List V} {as : List Ar} (h : ArOk K S σ vs as) : ∀ {env env' : En} {fR fB : List Addr} {outs : List Sl}, (∀ i ∈ arIds as, i < env.length) → (arIds as).Nodup → OwE K S H σ (clr (arIds as) env) fR →
    OwE K S H ((pick (arBr as) vs).map some) (outs.map some) fB → setIds (arIds as) outs env = some env' → ∃ fp, fp.Perm (fB ++ fR) ∧ OwE K S H σ env' fp := by
  induction h with
  | nil =>
    intro env env' fR fB outs _ _ o b e
    cases outs with
    | nil => cases b; cases e; exact ⟨fR, .refl _, o⟩
    | cons _ _ => cases e
  | @r i v vs as hv _ ih =>
    intro env env' fR fB outs hl nd o b e
    cases outs with
    | nil => cases e
    | cons s outs =>
      obtain ⟨ni, nd2⟩ := List.nodup_cons.mp (show (i :: arIds as).Nodup from nd)
      cases b with
      | @yes _ n d f _ _ g b1 b2 =>
        have hi : i < env.length := hl i List.mem_cons_self
        have o' : OwE K S H σ (clr (arIds as) (env.set i none)) fR := o
        obtain ⟨f1, p1, p2⟩ := o'.back (i := i) (by rw [clr_at ni]; exact List.getElem?_set_self hi) hv b1
        rw [clr_set ni, set_back] at p2
        obtain ⟨f2, q1, q2⟩ := ih (env := env.set i (some (n, d))) (fun j hj => by rw [List.length_set]; exact hl j (List.mem_cons_of_mem _ hj)) nd2 p2 b2 e
        refine ⟨f2, q1.trans ((p1.append_left g).trans ?_), q2⟩
        rw [← List.append_assoc]
        exact List.Perm.append_right fR List.perm_append_comm
  | @v v d vs as hv _ ih =>
    intro env env' fR fB outs hl nd o b e
    exact ih hl nd o b e
theorem arIn_lt {env : En} : ∀ {as : List Ar} {ins : List Sl}, arIn env as = some ins → ∀ i ∈ arIds as, i < env.length
  | [], _, _, _, h => by cases h
  | .r j :: as, ins, e, i, h => by
    simp only [arIn] at e
    split at e
    · rename_i s l es el
      rcases List.mem_cons.mp h with z | z
      · subst z; exact (List.getElem?_eq_some_iff.mp (join_some es)).1
      · exact arIn_lt el i z
    · cases e
  | .v d :: as, ins, e, i, h => by
    simp only [arIn] at e
    split at e
    · rename_i l el
      exact arIn_lt el i h
    · cases e
theorem ArOk.lenB {S : Hp} {σ : Sg} {vs : List V} {as : List Ar} (h : ArOk K S σ vs as) : vs.length = (arBr as).length := by
  induction h with
  | nil => rfl
  | r _ _ ih => simp only [List.length_cons, arBr, ih]
  | v _ _ ih => simp only [List.length_cons, arBr, ih]
/-- a def as a function on slots: the arguments' slots in, the result and the slots of those handed by reference out -/
abbrev FnD := List Sl → Option (Sl × List Sl)
def PrD (K : Fr) (F : FnD) (br : List Bool) : Sp := fun vs H Q _ => ∃ S ins fp, At K (vs.map some) (ins.map some) S H fp ∧ vs.length = br.length ∧
  ∃ res outs, F ins = some (res, outs) ∧ ∀ v S' H' fp', At K (some v :: (pick br vs).map some) (some res :: outs.map some) S' H' fp' → Go S H fp S' H' fp' → Q v H'
def dCall (F : FnD) (br : List Bool) (ε : DAr) : DO := fun env => match ε env with
  | some (as, e1) => (match arIn e1 as with
    | some ins => if (arIds as).Nodup ∧ arBr as = br then (match F ins with
      | some (res, outs) => (match setIds (arIds as) outs e1 with
        | some e2 => some (res, e2)
        | none => none)
      | none => none) else none
    | none => none)
  | none => none
theorem At.perm {σ : Sg} {env : En} {S H : Hp} {fp fp' : List Addr} (sub : Same S H) (nd : fp'.Nodup) (p : fp.Perm fp') (o : OwE K S H σ env fp) : At K σ env S H fp := ⟨sub, p.nodup_iff.mpr nd, o⟩
theorem LO.call {F : FnD} {br : List Bool} {ε : DAr} {σ : Sg} {H : Hp} {Q : VK} {E : XK} (h : LO K (dCall F br ε) σ H Q) : tCall (PrD K F br) [] E (LR K ε) σ H Q := by
  obtain ⟨env, S, fp, a0, s, env', e, q⟩ := h
  unfold dCall at e
  split at e
  · rename_i as e1 eq1
    split at e
    · rename_i ins ei
      split at e
      · rename_i hc
        split at e
        · rename_i res outs eF
          split at e
          · rename_i e2 es
            cases e
            refine ⟨env, S, fp, a0, as, _, eq1, fun vs S1 H1 f1 a1 m1 ok => ?_⟩
            show PrD K F br (vs ++ []) H1 Q E
            rw [List.append_nil]
            obtain ⟨fA, fR, p1, p2, p3⟩ := split_args ok a1.ow ei hc.1
            have nd1 : (fA ++ fR).Nodup := p1.nodup_iff.mp a1.nd
            obtain ⟨ndA, ndR, dj⟩ := List.nodup_append.mp nd1
            refine ⟨S1, ins, fA, ⟨a1.sub, ndA, p2⟩, by rw [ok.lenB, hc.2], _, outs, eF, fun v S2 H2 f2 a2 g2 => ?_⟩
            obtain ⟨sub2, nd2, o2⟩ := a2
            cases o2 with
            | @yes _ n d fv _ _ fB o1 o3 =>
              have outA : ∀ a ∈ fR, a ∉ fA := fun a ha z => dj a z a ha rfl
              have k3 : OwE K S2 H2 σ (clr (arIds as) e1) fR := p3.keep g2.s (fun a ha => by
                obtain ⟨_, x, e⟩ := p3.out a ha
                rw [e]; exact g2.fr a x e (outA a ha)) fun a ha => by
                obtain ⟨z, x, e⟩ := p3.out a ha
                exact g2.sf a x e (outA a ha) z
              rw [← hc.2] at o3
              obtain ⟨f3, q1, q2⟩ := join_back (ok.up g2.s) (arIn_lt ei) hc.1 k3 o3 es
              have nR : ∀ a ∈ fR, a ∉ fv ++ fB := fun a ha z => by
                obtain ⟨_, x, e⟩ := p3.out a ha
                rcases g2.new a z with y | y
                · exact outA a ha y
                · rw [e] at y; cases y
              have nd3 : (fv ++ f3).Nodup := by
                have pp : (fv ++ f3).Perm ((fv ++ fB) ++ fR) := by
                  rw [List.append_assoc]; exact q1.append_left fv
                rw [pp.nodup_iff]
                exact List.nodup_append.mpr ⟨nd2, ndR, fun a ha b hb z => nR b hb (z ▸ ha)⟩
              refine q v S2 H2 (fv ++ f3) ⟨sub2, nd3, .yes o1 q2⟩ (m1.trans ⟨g2.s, fun a x e n => g2.fr a x e fun z => n (p1.mem_iff.mpr (List.mem_append_left _ z)), g2.dom, fun a ha => ?_, fun a x e n => g2.sf a x e fun z => n (p1.mem_iff.mpr (List.mem_append_left _ z))⟩)
              rcases List.mem_append.mp ha with z | z
              · exact (g2.new a (List.mem_append_left _ z)).imp (fun y => p1.mem_iff.mpr (List.mem_append_left _ y)) id
              · rcases List.mem_append.mp (q1.mem_iff.mp z) with y | y
                · exact (g2.new a (List.mem_append_right _ y)).imp (fun y => p1.mem_iff.mpr (List.mem_append_left _ y)) id
                · exact .inl (p1.mem_iff.mpr (List.mem_append_right _ y))
          · cases e
        · cases e
      · cases e
    · cases e
  · cases e
theorem qo_call {F : FnD} {br : List Bool} {ε : DAr} {k : Nat} {f : Addr} {fd : FuncData} {ps : List Str} {x : Str} {p pos : Pos} {e : Expr} {es : List Expr} (G : FnOk X.prog X.w X.K X.mg X.base CX0 k f fd ps (PrD X.K F br)) (hr : Room k X.A) (hm : X.mg x = some (.ref f)) (hk : PySem.W.keepIn X.K (.ref f) = true) (hb : Binds X.K fd ps [])
    (ha : PA X (e :: es) (LR X.K ε)) (hg : Gl X x := by rfl) (hdb : (x == ("__debug__" : Str)) = false := by decide) (he : starEach (e :: es) X.env = (false, eval e X.env) :: starEach es X.env := by rfl) (hpl : (backTo pos (starEach es X.env)).any (·.1) = false := by rfl) :
    PE X (.Call (.Name x p) (e :: es) [] pos) (LO X.K (dCall F br ε)) :=
  PE.mono (pe_call G hr hg hm hk hb .nil pass0 ha hdb he hpl) fun _ _ _ w => w.call
end
end Dn

set_option Elab.async false
set_option linter.all false
set_option maxRecDepth 100000
set_option maxHeartbeats 1000000
/-! layer D, 6: statements, loops, defs -/
namespace Dn
open PySem PySem.Spec PyProof.Rows L2
inductive Fl where
  | nx | bk | ct
  | rt (r : Sl)
abbrev DS := En → Option (Fl × En)
def Kp (kp : List Nat) (σ σ' : Sg) : Prop := ∀ i ∈ kp, σ'[i]? = σ[i]?
theorem Kp.refl {kp : List Nat} {σ : Sg} : Kp kp σ σ := fun _ _ => rfl
theorem Kp.trans {kp : List Nat} {σ σ1 σ2 : Sg} (a : Kp kp σ σ1) (b : Kp kp σ1 σ2) : Kp kp σ σ2 := fun i h => (b i h).trans (a i h)
theorem Kp.set {kp : List Nat} {σ : Sg} {i : Nat} {x : Option V} (h : kp.contains i = false) : Kp kp σ (σ.set i x) := fun j hj => by
  have n : i ≠ j := fun e => by
    subst e
    rw [List.contains_eq_mem, decide_eq_false_iff_not] at h
    exact h hj
  exact List.getElem?_set_ne n
def FlP (K : Fr) (kp : List Nat) (D : Ends) (σ : Sg) (S H : Hp) (fp : List Addr) (env' : En) : Fl → Prop
  | .nx => ∀ σ' S' H' fp', At K σ' env' S' H' fp' → Go S H fp S' H' fp' → Kp kp σ σ' → D.nx σ' H'
  | .bk => ∀ σ' S' H' fp', At K σ' env' S' H' fp' → Go S H fp S' H' fp' → Kp kp σ σ' → D.bk σ' H'
  | .ct => ∀ σ' S' H' fp', At K σ' env' S' H' fp' → Go S H fp S' H' fp' → Kp kp σ σ' → D.ct σ' H'
  | .rt r => ∀ v σ' S' H' fp', AtO K v r σ' env' S' H' fp' → Go S H fp S' H' fp' → Kp kp σ σ' → D.rt v H'
def LS (K : Fr) (kp : List Nat) (ε : DS) : TS := fun D σ H => ∃ env S fp, At K σ env S H fp ∧ ∃ fl env', ε env = some (fl, env') ∧ FlP K kp D σ S H fp env' fl
theorem FlP.go {K : Fr} {kp : List Nat} {D D' : Ends} {σ σ1 : Sg} {S H S1 H1 : Hp} {fp f1 : List Addr} {env' : En} : ∀ {fl : Fl}, FlP K kp D σ S H fp env' fl → Go S H fp S1 H1 f1 → Kp kp σ σ1 → (∀ σ H, D.nx σ H → D'.nx σ H) → D.rt = D'.rt → D.bk = D'.bk → D.ct = D'.ct → FlP K kp D' σ1 S1 H1 f1 env' fl
  | .nx, h, g, k, n, _, _, _ => fun σ' S' H' fp' a m k2 => n _ _ (h σ' S' H' fp' a (g.trans m) (k.trans k2))
  | .bk, h, g, k, _, _, e, _ => fun σ' S' H' fp' a m k2 => e ▸ h σ' S' H' fp' a (g.trans m) (k.trans k2)
  | .ct, h, g, k, _, _, _, e => fun σ' S' H' fp' a m k2 => e ▸ h σ' S' H' fp' a (g.trans m) (k.trans k2)
  | .rt r, h, g, k, _, e, _, _ => fun v σ' S' H' fp' a m k2 => e ▸ h v σ' S' H' fp' a (g.trans m) (k.trans k2)
section
variable {X : Cx} {K : Fr} {kp : List Nat}
/-! ### sequences -/
def dNext : DS := fun env => some (.nx, env)
def dSeq (a b : DS) : DS := fun env => match a env with
  | some (.nx, e) => b e
  | r => r
theorem LS.next {D : Ends} {σ : Sg} {H : Hp} (h : LS K kp dNext D σ H) : tNext D σ H := by
  obtain ⟨env, S, fp, a0, fl, env', e, q⟩ := h
  cases e
  exact q σ S H fp a0 .refl .refl
theorem LS.seq {a b : DS} {D : Ends} {σ : Sg} {H : Hp} (h : LS K kp (dSeq a b) D σ H) : tSeq (LS K kp a) (LS K kp b) D σ H := by
  obtain ⟨env, S, fp, a0, fl, env', e, q⟩ := h
  unfold dSeq at e
  split at e
  · rename_i e1 eq1
    exact ⟨env, S, fp, a0, .nx, _, eq1, fun σ' S' H' fp' a1 m k => ⟨_, S', fp', a1, fl, _, e, q.go m k (fun _ _ z => z) rfl rfl rfl⟩⟩
  · rename_i r hn
    refine ⟨env, S, fp, a0, fl, env', e, ?_⟩
    cases fl with
    | nx => exact absurd e (hn env')
    | bk => exact q
    | ct => exact q
    | rt r => exact q
theorem qss_nil : PSs X [] (LS K kp dNext) := PSs.mono pss_nil fun _ _ _ w => w.next
theorem qss_cons {st : Stmt} {rest : List Stmt} {a b : DS} (h1 : PS X st (LS K kp a)) (h2 : PSs X rest (LS K kp b)) : PSs X (st :: rest) (LS K kp (dSeq a b)) := PSs.mono (pss_cons h1 h2) fun _ _ _ w => w.seq
theorem qss_one {st : Stmt} {a : DS} (h1 : PS X st (LS K kp a)) : PSs X [st] (LS K kp a) := pss_one h1
/-- what the proof never comes to -/
def dNever : DS := fun _ => none
theorem qs_never {st : Stmt} : PS X st (LS K kp dNever) := PS.mono ps_never fun _ _ _ ⟨_, _, _, _, _, _, e, _⟩ => by cases e
def dBrk : DS := fun env => some (.bk, env)
def dCnt : DS := fun env => some (.ct, env)
theorem qs_pass {pos : Pos} : PS X (.Pass pos) (LS K kp dNext) := PS.mono ps_pass fun _ _ _ w => w.next
theorem qs_break {pos : Pos} : PS X (.Break pos) (LS K kp dBrk) := PS.mono ps_break fun _ σ H ⟨_, S, fp, a0, _, _, e, q⟩ => by
  cases e
  exact q σ S H fp a0 .refl .refl
theorem qs_continue {pos : Pos} : PS X (.Continue pos) (LS K kp dCnt) := PS.mono ps_continue fun _ σ H ⟨_, S, fp, a0, _, _, e, q⟩ => by
  cases e
  exact q σ S H fp a0 .refl .refl
/-! ### stores -/
theorem At.storeIn {v : V} {s : Sl} {σ : Sg} {env : En} {S H : Hp} {fp : List Addr} (h : At K (some v :: σ) (some s :: env) S H fp) (i : Nat) : ∃ fp', (∀ a ∈ fp', a ∈ fp) ∧ At K (σ.set i (some v)) (env.set i (some s)) S H fp' := by
  obtain ⟨sub, nd, o⟩ := h
  cases o with
  | @yes _ n d f _ _ g o1 o2 =>
    obtain ⟨fp', h1, h2, h3⟩ := o2.store (i := i) o1 nd
    exact ⟨fp', h1, sub, h2, h3⟩
def dSet (i : Nat) (ε : DE) : DS := fun env => match ε env with
  | some (d, e) => some (.nx, e.set i (some (0, d)))
  | none => none
def dSetO (i : Nat) (ε : DO) : DS := fun env => match ε env with
  | some (s, e) => some (.nx, e.set i (some s))
  | none => none
theorem LS.setO {i : Nat} {ε : DO} {D : Ends} {σ : Sg} {H : Hp} (hk : kp.contains i = false) (h : LS K kp (dSetO i ε) D σ H) : tAsg (LO K ε) (gName i) D σ H := by
  obtain ⟨env, S, fp, a0, fl, env', e, q⟩ := h
  unfold dSetO at e
  split at e
  · rename_i s e1 eq1
    cases e
    refine ⟨env, S, fp, a0, s, _, eq1, fun v S1 H1 f1 a1 m1 => ?_⟩
    obtain ⟨f2, hs, a2⟩ := At.storeIn a1 i
    exact q _ S1 H1 f2 a2 (m1.less hs) (.set hk)
  · cases e
theorem LS.set {i : Nat} {ε : DE} {D : Ends} {σ : Sg} {H : Hp} (hk : kp.contains i = false) (h : LS K kp (dSet i ε) D σ H) : tAsg (LE K ε) (gName i) D σ H := by
  obtain ⟨env, S, fp, a0, fl, env', e, q⟩ := h
  unfold dSet at e
  split at e
  · rename_i d e1 eq1
    cases e
    refine ⟨env, S, fp, a0, d, _, eq1, fun v S1 H1 f1 a1 m1 r1 => ?_⟩
    obtain ⟨f2, hs, a2⟩ := At.storeIn (a1.withO r1) i
    exact q _ S1 H1 f2 a2 (m1.less hs) (.set hk)
  · cases e
section
variable {x : Str} {e : Expr} {pos pos' : Pos}
theorem qs_set (i : Nat) {ε : DE} (hN : X.N.Nodup) (he : PE X e (LE K ε)) (hk : kp.contains i = false := by rfl) (hi : X.N[i]? = some x := by rfl) (hx : Loc X.env.scope x := by first | exact Or.inl rfl | exact Or.inr rfl) (hs : swapsWith e (some (.Name x pos')) pos.line X.env = pure false := by rfl) (hf : X.fn x = true ∨ X.env.scope.names.lookup x = some .local := by first | exact .inl rfl | exact .inr rfl) :
    PS X (.Assign [.Name x pos'] e pos) (LS K kp (dSet i ε)) := PS.mono (ps_set hN hi hx he hs hf) fun _ _ _ w => w.set hk
theorem qs_setO (i : Nat) {ε : DO} (hN : X.N.Nodup) (he : PE X e (LO K ε)) (hk : kp.contains i = false := by rfl) (hi : X.N[i]? = some x := by rfl) (hx : Loc X.env.scope x := by first | exact Or.inl rfl | exact Or.inr rfl) (hs : swapsWith e (some (.Name x pos')) pos.line X.env = pure false := by rfl) (hf : X.fn x = true ∨ X.env.scope.names.lookup x = some .local := by first | exact .inl rfl | exact .inr rfl) :
    PS X (.Assign [.Name x pos'] e pos) (LS K kp (dSetO i ε)) := PS.mono (ps_set hN hi hx he hs hf) fun _ _ _ w => w.setO hk
end
/-- a name's own thing goes over (the name is empty from there on) -/
def dMv (i : Nat) : DO := fun env => match (env[i]?).join with
  | some s => some (s, env.set i none)
  | none => none
theorem LO.mv {i : Nat} {σ : Sg} {H : Hp} {Q : VK} (h : LO K (dMv i) σ H Q) : tVar i σ H Q := by
  obtain ⟨env, S, fp, a0, s, env', e, q⟩ := h
  unfold dMv at e
  split at e
  · rename_i s' es
    cases e
    obtain ⟨v, f, g, h1, h2, h3, h4⟩ := a0.ow.at (join_some es)
    exact ⟨v, h1, q v S H (f ++ g) ⟨a0.sub, h3.nodup_iff.mp a0.nd, .yes h2 h4⟩ (Go.refl.less fun a ha => h3.mem_iff.mpr ha)⟩
  · cases e
theorem qo_mv (i : Nat) {x : Str} {pos : Pos} (hN : X.N[i]? = some x := by rfl) (hv : Vis X.env.scope x := by first | exact Or.inl rfl | exact Or.inr (Or.inl rfl) | exact Or.inr (Or.inr rfl)) (hd : (x == ("__debug__" : Str)) = false := by decide)
    (hcd : (x == ("__classdict__" : Str)) = false := by decide) : PE X (.Name x pos) (LO K (dMv i)) := PE.mono (pv i hN hv hd hcd) fun _ _ _ w => w.mv
/-- a name's thing is frozen and looked at -/
def dFrzV (i : Nat) : DE := fun env => match (env[i]?).join with
  | some s => some (s.2, env.set i (some (0, s.2)))
  | none => none
theorem LE.frzV {i : Nat} {σ : Sg} {H : Hp} {Q : VK} (h : LE K (dFrzV i) σ H Q) : tVar i σ H Q := by
  obtain ⟨env, S, fp, a0, s, env', e, q⟩ := h
  unfold dFrzV at e
  split at e
  · rename_i s' es
    cases e
    obtain ⟨v, f, g, h1, h2, h3, h4⟩ := a0.ow.at (join_some es)
    obtain ⟨S2, f2, a2, g2, r2⟩ := AtO.freeze (show AtO K v s' σ (env.set i none) S H (f ++ g) from ⟨a0.sub, h3.nodup_iff.mp a0.nd, .yes h2 h4⟩)
    have hi : i < env.length := (List.getElem?_eq_some_iff.mp (join_some es)).1
    obtain ⟨f3, p1, p2⟩ := a2.ow.back (n := 0) (d := s'.2) (f := []) (List.getElem?_set_self hi) h1 (Ow.zero r2)
    rw [set_back] at p2
    exact ⟨v, h1, q v S2 H f3 ⟨a2.sub, p1.nodup_iff.mpr a2.nd, p2⟩ ((Go.refl.less fun a ha => h3.mem_iff.mpr ha).trans (g2.less fun a ha => p1.mem_iff.mp ha)) r2⟩
  · cases e
theorem qe_frzV (i : Nat) {x : Str} {pos : Pos} (hN : X.N[i]? = some x := by rfl) (hv : Vis X.env.scope x := by first | exact Or.inl rfl | exact Or.inr (Or.inl rfl) | exact Or.inr (Or.inr rfl)) (hd : (x == ("__debug__" : Str)) = false := by decide)
    (hcd : (x == ("__classdict__" : Str)) = false := by decide) : PE X (.Name x pos) (LE K (dFrzV i)) := PE.mono (pv i hN hv hd hcd) fun _ _ _ w => w.frzV
/-! ### several values in hand -/
abbrev DX := En → Option (List Sl × En)
def LX (K : Fr) (ε : DX) : TA := fun σ H Q => ∃ env S fp, At K σ env S H fp ∧ ∃ ss env', ε env = some (ss, env') ∧
  ∀ vs S' H' fp', vs.length = ss.length → At K (vs.map some ++ σ) (ss.map some ++ env') S' H' fp' → Go S H fp S' H' fp' → Q vs H'
def xNil : DX := fun env => some ([], env)
def xCons (α : DO) (β : DX) : DX := fun env => match α env with
  | some (s, e1) => (match β e1 with
    | some (ss, e2) => some (s :: ss, e2)
    | none => none)
  | none => none
theorem LX.nil {σ : Sg} {H : Hp} {Q : List V → Hp → Prop} (h : LX K xNil σ H Q) : tNil σ H Q := by
  obtain ⟨env, S, fp, a0, ss, env', e, q⟩ := h
  cases e
  exact q [] S H fp rfl a0 .refl
theorem LX.cons {α : DO} {β : DX} {σ : Sg} {H : Hp} {Q : List V → Hp → Prop} (h : LX K (xCons α β) σ H Q) : tCons (LO K α) (LX K β) σ H Q := by
  obtain ⟨env, S, fp, a0, ss, env', e, q⟩ := h
  unfold xCons at e
  split at e
  · rename_i s e1 eq1
    split at e
    · rename_i ss2 e2 eq2
      cases e
      refine ⟨env, S, fp, a0, s, _, eq1, fun v S1 H1 f1 a1 m1 => ?_⟩
      obtain ⟨sub1, nd1, o1⟩ := a1
      cases o1 with
      | @yes _ n d f _ _ g o1 o2 =>
        obtain ⟨ndf, ndg, dj⟩ := List.nodup_append.mp nd1
        refine ⟨_, S1, g, ⟨sub1, ndg, o2⟩, ss2, _, eq2, fun vs S2 H2 f2 hl a2 m2 => ?_⟩
        have ng : ∀ a ∈ f, a ∉ g := fun a ha z => dj a ha a z rfl
        have o1' : Ow K S2 H2 n v d f := o1.keep m2.s (fun a ha => by
          obtain ⟨_, x, e⟩ := o1.out a ha
          rw [e]; exact m2.fr a x e (ng a ha)) fun a ha => by
          obtain ⟨z, x, e⟩ := o1.out a ha
          exact m2.sf a x e (ng a ha) z
        have nf : ∀ a ∈ f, a ∉ f2 := fun a ha z => by
          obtain ⟨_, x, e⟩ := o1.out a ha
          rcases m2.new a z with y | y
          · exact ng a ha y
          · rw [e] at y; cases y
        refine q (v :: vs) S2 H2 (f ++ f2) (by rw [List.length_cons, List.length_cons, hl]) ⟨a2.sub, List.nodup_append.mpr ⟨ndf, a2.nd, fun a ha b hb z => nf a ha (z ▸ hb)⟩, .yes o1' a2.ow⟩ (m1.trans ?_)
        refine ⟨m2.s, fun a x e n => m2.fr a x e fun z => n (List.mem_append_right _ z), m2.dom, fun a ha => ?_, fun a x e n => m2.sf a x e fun z => n (List.mem_append_right _ z)⟩
        rcases List.mem_append.mp ha with z | z
        · exact .inl (List.mem_append_left _ z)
        · exact (m2.new a z).imp (fun y => List.mem_append_right _ y) id
    · cases e
  · cases e
theorem qx_nil : PA X [] (LX K xNil) := PA.mono pa_nil fun _ _ _ w => w.nil
theorem qx_cons {e : Expr} {es : List Expr} {α : DO} {β : DX} (ha : PE X e (LO K α)) (hr : PA X es (LX K β)) (hs : starEach (e :: es) X.env = (false, eval e X.env) :: starEach es X.env := by rfl) : PA X (e :: es) (LX K (xCons α β)) :=
  PA.mono (pa_cons ha hr hs) fun _ _ _ w => w.cons
def dPar2 (i j : Nat) (ε : DX) : DS := fun env => match ε env with
  | some ([s, t], e) => some (.nx, (e.set i (some s)).set j (some t))
  | _ => none
def dPar3 (i j k : Nat) (ε : DX) : DS := fun env => match ε env with
  | some ([s, t, u], e) => some (.nx, ((e.set i (some s)).set j (some t)).set k (some u))
  | _ => none
theorem At.two {v w : V} {s t : Sl} {σ : Sg} {env : En} {S H : Hp} {fp : List Addr} (h : At K (some v :: some w :: σ) (some s :: some t :: env) S H fp) (i j : Nat) :
    ∃ fp', (∀ a ∈ fp', a ∈ fp) ∧ At K ((σ.set i (some v)).set j (some w)) ((env.set i (some s)).set j (some t)) S H fp' := by
  obtain ⟨f1, h1, a1⟩ := At.storeIn h (i + 1)
  obtain ⟨f2, h2, a2⟩ := At.storeIn (show At K (some w :: σ.set i (some v)) (some t :: env.set i (some s)) S H f1 from a1) j
  exact ⟨f2, fun a ha => h1 a (h2 a ha), a2⟩
theorem At.three {v w u : V} {s t r : Sl} {σ : Sg} {env : En} {S H : Hp} {fp : List Addr} (h : At K (some v :: some w :: some u :: σ) (some s :: some t :: some r :: env) S H fp) (i j k : Nat) :
    ∃ fp', (∀ a ∈ fp', a ∈ fp) ∧ At K (((σ.set i (some v)).set j (some w)).set k (some u)) (((env.set i (some s)).set j (some t)).set k (some r)) S H fp' := by
  obtain ⟨f1, h1, a1⟩ := At.storeIn h (i + 2)
  obtain ⟨f2, h2, a2⟩ := At.two (show At K (some w :: some u :: σ.set i (some v)) (some t :: some r :: env.set i (some s)) S H f1 from a1) j k
  exact ⟨f2, fun a ha => h1 a (h2 a ha), a2⟩
theorem LS.par2 {i j : Nat} {ε : DX} {D : Ends} {σ : Sg} {H : Hp} (hi : kp.contains i = false) (hj : kp.contains j = false) (h : LS K kp (dPar2 i j ε) D σ H) : LX K ε σ H fun vs H1 => ∃ v w, vs = [v, w] ∧ D.nx ((σ.set i (some v)).set j (some w)) H1 ∧ ∀ p o, H1 p = none → D.nx ((σ.set i (some v)).set j (some w)) (upd H1 p o) := by
  obtain ⟨env, S, fp, a0, fl, env', e, q⟩ := h
  unfold dPar2 at e
  split at e
  · rename_i s t e1 eq1
    cases e
    refine ⟨env, S, fp, a0, _, _, eq1, fun vs S1 H1 f1 hl a1 m1 => ?_⟩
    match vs, hl, a1 with
    | [v, w], _, a1 =>
      obtain ⟨f2, hs, a2⟩ := At.two a1 i j
      refine ⟨v, w, rfl, q _ S1 H1 f2 a2 (m1.less hs) (Kp.trans (.set hi) (.set hj)), fun p o hp => ?_⟩
      exact q _ _ _ f2 (a2.frz hp) ((m1.less hs).trans (.frz hp a2.sub)) (Kp.trans (.set hi) (.set hj))
  · cases e
theorem LS.par3 {i j k : Nat} {ε : DX} {D : Ends} {σ : Sg} {H : Hp} (hi : kp.contains i = false) (hj : kp.contains j = false) (hk : kp.contains k = false) (h : LS K kp (dPar3 i j k ε) D σ H) : LX K ε σ H fun vs H1 => ∃ v w u, vs = [v, w, u] ∧ D.nx (((σ.set i (some v)).set j (some w)).set k (some u)) H1 ∧ ∀ p o, H1 p = none → D.nx (((σ.set i (some v)).set j (some w)).set k (some u)) (upd H1 p o) := by
  obtain ⟨env, S, fp, a0, fl, env', e, q⟩ := h
  unfold dPar3 at e
  split at e
  · rename_i s t r e1 eq1
    cases e
    refine ⟨env, S, fp, a0, _, _, eq1, fun vs S1 H1 f1 hl a1 m1 => ?_⟩
    match vs, hl, a1 with
    | [v, w, u], _, a1 =>
      obtain ⟨f2, hs, a2⟩ := At.three a1 i j k
      refine ⟨v, w, u, rfl, q _ S1 H1 f2 a2 (m1.less hs) (Kp.trans (.set hi) (Kp.trans (.set hj) (.set hk))), fun p o hp => ?_⟩
      exact q _ _ _ f2 (a2.frz hp) ((m1.less hs).trans (.frz hp a2.sub)) (Kp.trans (.set hi) (Kp.trans (.set hj) (.set hk)))
  · cases e
theorem LX.mono {ε : DX} {σ : Sg} {H : Hp} {Q Q' : List V → Hp → Prop} (h : LX K ε σ H Q) (m : ∀ vs H, Q vs H → Q' vs H) : LX K ε σ H Q' := by
  obtain ⟨env, S, fp, a0, ss, env', e, q⟩ := h
  exact ⟨env, S, fp, a0, ss, env', e, fun vs S' H' fp' hl a g => m _ _ (q vs S' H' fp' hl a g)⟩
section
variable {x y z : Str} {a b c : Expr} {px py pz pt pos : Pos} {kt k2 : Nat} {pt2 : Pos} {ε : DX}
theorem qs_par2 (i j : Nat) (hc : X.calm = true) (hN : X.N.Nodup) (ha : PA X [a, b] (LX K ε)) (hx : X.env.scope.names.lookup x = some .local := by rfl) (hy : X.env.scope.names.lookup y = some .local := by rfl) (hki : kp.contains i = false := by rfl) (hkj : kp.contains j = false := by rfl) (hi : X.N[i]? = some x := by rfl) (hj : X.N[j]? = some y := by rfl) (hij : i ≠ j := by decide)
    (hw : swappedStores [.Tuple [.Name x px, .Name y py] kt pt] (.Tuple [a, b] k2 pt2) X.env = pure (some [x, y]) := by rfl)
    (hs : swapsWithSole [.Tuple [.Name x px, .Name y py] kt pt] (.Tuple [a, b] k2 pt2) pos.line X.env = pure false := by rfl) :
    PS X (.Assign [.Tuple [.Name x px, .Name y py] kt pt] (.Tuple [a, b] k2 pt2) pos) (LS K kp (dPar2 i j ε)) :=
  PS.mono (ps_par hc hN hi hj hij hx hy ha hw hs) fun _ _ _ w => (w.par2 hki hkj).mono fun _ _ ⟨v, u, e, q, _⟩ => ⟨v, u, e, q⟩
theorem qs_par3 (i j l : Nat) (hc : X.calm = true) (hN : X.N.Nodup) (ha : PA X [a, b, c] (LX K ε)) (hx : X.env.scope.names.lookup x = some .local := by rfl) (hy : X.env.scope.names.lookup y = some .local := by rfl) (hz : X.env.scope.names.lookup z = some .local := by rfl) (hki : kp.contains i = false := by rfl) (hkj : kp.contains j = false := by rfl) (hkl : kp.contains l = false := by rfl) (hi : X.N[i]? = some x := by rfl) (hj : X.N[j]? = some y := by rfl) (hl : X.N[l]? = some z := by rfl) (hij : i ≠ j := by decide) (hil : i ≠ l := by decide) (hjl : j ≠ l := by decide)
    (hw : swappedStores [.Tuple [.Name x px, .Name y py, .Name z pz] kt pt] (.Tuple [a, b, c] k2 pt2) X.env = pure (some [x, y, z]) := by rfl)
    (hs : swapsWithSole [.Tuple [.Name x px, .Name y py, .Name z pz] kt pt] (.Tuple [a, b, c] k2 pt2) pos.line X.env = pure false := by rfl) :
    PS X (.Assign [.Tuple [.Name x px, .Name y py, .Name z pz] kt pt] (.Tuple [a, b, c] k2 pt2) pos) (LS K kp (dPar3 i j l ε)) :=
  PS.mono (ps_par3 hc hN hi hj hl hij hil hjl hx hy hz ha hw hs) fun _ _ _ w => (w.par3 hki hkj hkl).mono fun _ _ ⟨v, u, t, e, q, _⟩ => ⟨v, u, t, e, q⟩
/-- .. where a name is a cell: by way of the tuple -/
theorem qs_parT2 (i j : Nat) (hc : X.calm = true) (hN : X.N.Nodup) (ha : PA X [a, b] (LX K ε)) (hki : kp.contains i = false := by rfl) (hkj : kp.contains j = false := by rfl) (hi : X.N[i]? = some x := by rfl) (hj : X.N[j]? = some y := by rfl)
    (hx : Loc X.env.scope x := by first | exact Or.inl rfl | exact Or.inr rfl) (hfx : X.fn x = true ∨ X.env.scope.names.lookup x = some .local := by first | exact .inl rfl | exact .inr rfl)
    (hy : Loc X.env.scope y := by first | exact Or.inl rfl | exact Or.inr rfl) (hfy : X.fn y = true ∨ X.env.scope.names.lookup y = some .local := by first | exact .inl rfl | exact .inr rfl)
    (hs : swapsWithSole [.Tuple [.Name x px, .Name y py] kt pt] (.Tuple [a, b] k2 pt2) pos.line X.env = pure false := by rfl) (hw : swappedStores [.Tuple [.Name x px, .Name y py] kt pt] (.Tuple [a, b] k2 pt2) X.env = pure none := by rfl)
    (h1 : (assignEach [.Tuple [.Name x px, .Name y py] kt pt] X.env).map (·.2) = [assign (.Tuple [.Name x px, .Name y py] kt pt) X.env] := by rfl) (hn : (assignEach [.Name x px, .Name y py] X.env).length = 2 := by rfl) (hst : (assignEach [.Name x px, .Name y py] X.env).findIdx? (·.1) = none := by rfl)
    (hg1 : (assignEach [.Name x px, .Name y py] X.env).map (·.2) = assign (.Name x px) X.env :: (assignEach [.Name y py] X.env).map (·.2) := by rfl) (hg2 : (assignEach [.Name y py] X.env).map (·.2) = assign (.Name y py) X.env :: (assignEach [] X.env).map (·.2) := by rfl) :
    PS X (.Assign [.Tuple [.Name x px, .Name y py] kt pt] (.Tuple [a, b] k2 pt2) pos) (LS K kp (dPar2 i j ε)) := by
  refine PS.mono (ps_asg (pe_tup ha) (pg_tup hc (pgs_cons (pg_name hN hi hx hfx) (pgs_cons (pg_name hN hj hy hfy) pgs_nil hg2) hg1) hn hst) hs hw h1) fun D σ H w => (w.par2 hki hkj).mono fun vs H1 ⟨v, u, e, _, q⟩ => ?_
  subst e
  refine ⟨by show 2 ≤ sizeLine; rw [sizeLine_eq]; omega, fun p hp => ?_⟩
  exact ⟨p, [v, u], rfl, .of upd_same, rfl, v, [u], rfl, u, [], rfl, rfl, q p _ hp⟩
theorem qs_parT3 (i j l : Nat) (hc : X.calm = true) (hN : X.N.Nodup) (ha : PA X [a, b, c] (LX K ε)) (hki : kp.contains i = false := by rfl) (hkj : kp.contains j = false := by rfl) (hkl : kp.contains l = false := by rfl) (hi : X.N[i]? = some x := by rfl) (hj : X.N[j]? = some y := by rfl) (hl : X.N[l]? = some z := by rfl)
    (hx : Loc X.env.scope x := by first | exact Or.inl rfl | exact Or.inr rfl) (hfx : X.fn x = true ∨ X.env.scope.names.lookup x = some .local := by first | exact .inl rfl | exact .inr rfl)
    (hy : Loc X.env.scope y := by first | exact Or.inl rfl | exact Or.inr rfl) (hfy : X.fn y = true ∨ X.env.scope.names.lookup y = some .local := by first | exact .inl rfl | exact .inr rfl)
    (hz : Loc X.env.scope z := by first | exact Or.inl rfl | exact Or.inr rfl) (hfz : X.fn z = true ∨ X.env.scope.names.lookup z = some .local := by first | exact .inl rfl | exact .inr rfl)
    (hs : swapsWithSole [.Tuple [.Name x px, .Name y py, .Name z pz] kt pt] (.Tuple [a, b, c] k2 pt2) pos.line X.env = pure false := by rfl) (hw : swappedStores [.Tuple [.Name x px, .Name y py, .Name z pz] kt pt] (.Tuple [a, b, c] k2 pt2) X.env = pure none := by rfl)
    (h1 : (assignEach [.Tuple [.Name x px, .Name y py, .Name z pz] kt pt] X.env).map (·.2) = [assign (.Tuple [.Name x px, .Name y py, .Name z pz] kt pt) X.env] := by rfl) (hn : (assignEach [.Name x px, .Name y py, .Name z pz] X.env).length = 3 := by rfl) (hst : (assignEach [.Name x px, .Name y py, .Name z pz] X.env).findIdx? (·.1) = none := by rfl)
    (hg1 : (assignEach [.Name x px, .Name y py, .Name z pz] X.env).map (·.2) = assign (.Name x px) X.env :: (assignEach [.Name y py, .Name z pz] X.env).map (·.2) := by rfl) (hg2 : (assignEach [.Name y py, .Name z pz] X.env).map (·.2) = assign (.Name y py) X.env :: (assignEach [.Name z pz] X.env).map (·.2) := by rfl) (hg3 : (assignEach [.Name z pz] X.env).map (·.2) = assign (.Name z pz) X.env :: (assignEach [] X.env).map (·.2) := by rfl) :
    PS X (.Assign [.Tuple [.Name x px, .Name y py, .Name z pz] kt pt] (.Tuple [a, b, c] k2 pt2) pos) (LS K kp (dPar3 i j l ε)) := by
  refine PS.mono (ps_asg (pe_tup ha) (pg_tup hc (pgs_cons (pg_name hN hi hx hfx) (pgs_cons (pg_name hN hj hy hfy) (pgs_cons (pg_name hN hl hz hfz) pgs_nil hg3) hg2) hg1) hn hst) hs hw h1) fun D σ H w => (w.par3 hki hkj hkl).mono fun vs H1 ⟨v, u, t, e, _, q⟩ => ?_
  subst e
  refine ⟨by show 3 ≤ sizeLine; rw [sizeLine_eq]; omega, fun p hp => ?_⟩
  exact ⟨p, [v, u, t], rfl, .of upd_same, rfl, v, [u, t], rfl, u, [t], rfl, t, [], rfl, rfl, q p _ hp⟩
end
/-! ### expressions, returns, if -/
def dExpr (ε : DE) : DS := fun env => match ε env with
  | some (_, e) => some (.nx, e)
  | none => none
theorem LS.expr {ε : DE} {D : Ends} {σ : Sg} {H : Hp} (h : LS K kp (dExpr ε) D σ H) : tDrop (LE K ε) D σ H := by
  obtain ⟨env, S, fp, a0, fl, env', e, q⟩ := h
  unfold dExpr at e
  split at e
  · rename_i d e1 eq1
    cases e
    exact ⟨env, S, fp, a0, d, _, eq1, fun v S1 H1 f1 a1 m1 _ => q σ S1 H1 f1 a1 m1 .refl⟩
  · cases e
theorem qs_expr {e : Expr} {pos : Pos} {ε : DE} (he : PE X e (LE K ε)) (hs : swapsWith e none pos.line X.env = pure false := by rfl) : PS X (.Expr e pos) (LS K kp (dExpr ε)) := PS.mono (ps_expr he hs) fun _ _ _ w => w.expr
def dRet (ε : DO) : DS := fun env => match ε env with
  | some (s, e) => some (.rt s, e)
  | none => none
theorem LS.ret {ε : DO} {D : Ends} {σ : Sg} {H : Hp} (h : LS K kp (dRet ε) D σ H) : tRet (LO K ε) D σ H := by
  obtain ⟨env, S, fp, a0, fl, env', e, q⟩ := h
  unfold dRet at e
  split at e
  · rename_i s e1 eq1
    cases e
    exact ⟨env, S, fp, a0, s, _, eq1, fun v S1 H1 f1 a1 m1 => q v σ S1 H1 f1 a1 m1 .refl⟩
  · cases e
theorem qs_ret {e : Expr} {pos : Pos} {ε : DO} (he : PE X e (LO K ε)) : PS X (.Return (some e) pos) (LS K kp (dRet ε)) := PS.mono (ps_ret he) fun _ _ _ w => w.ret
def dRetN : DS := fun env => some (.rt (0, .none), env)
theorem qs_retN {pos : Pos} : PS X (.Return none pos) (LS K kp dRetN) := PS.mono ps_retN fun D σ H h => by
  obtain ⟨env, S, fp, a0, fl, env', e, q⟩ := h
  cases e
  exact q .non σ S H fp (a0.withO .non) .refl .refl
def dIfS (τ : DT) (a b : DS) : DS := fun env => match τ env with
  | some (true, e) => a e
  | some (false, e) => b e
  | none => none
theorem LS.ite {τ : DT} {a b : DS} {D : Ends} {σ : Sg} {H : Hp} (h : LS K kp (dIfS τ a b) D σ H) : tIfS (LT K τ) (LS K kp a) (LS K kp b) D σ H := by
  obtain ⟨env, S, fp, a0, fl, env', e, q⟩ := h
  unfold dIfS at e
  split at e
  · rename_i e1 eq1
    refine ⟨env, S, fp, a0, _, _, eq1, fun S1 H1 f1 a1 m1 => iteT ?_⟩
    exact ⟨_, S1, f1, a1, fl, _, e, q.go m1 .refl (fun _ _ z => z) rfl rfl rfl⟩
  · rename_i e1 eq1
    refine ⟨env, S, fp, a0, _, _, eq1, fun S1 H1 f1 a1 m1 => iteF ?_⟩
    exact ⟨_, S1, f1, a1, fl, _, e, q.go m1 .refl (fun _ _ z => z) rfl rfl rfl⟩
  · cases e
theorem qs_if {c : Expr} {p r : List Stmt} {pos : Pos} {τ : DT} {a b : DS} (hc : PT X c (LT K τ)) (ha : PSs X p (LS K kp a)) (hb : PSs X r (LS K kp b)) : PS X (.If c p r pos) (LS K kp (dIfS τ a b)) := PS.mono (ps_if hc ha hb) fun _ _ _ w => w.ite
/-! ### o[i] = v for one's own list -/
def dStIx (i : Nat) (ι ε : DE) : DS := fun env => match ε env with
  | some (v, e1) => (match ownL e1[i]?, ι e1 with
    | some _, some (.int k, e2) => (match ownL e2[i]? with
      | some ds => (match ixN ds.length k with
        | some j => some (.nx, e2.set i (some (1, .list (ds.set j v))))
        | none => none)
      | none => none)
    | _, _ => none)
  | none => none
theorem LS.stIx {i : Nat} {ι ε : DE} {D : Ends} {σ : Sg} {H : Hp} (h : LS K kp (dStIx i ι ε) D σ H) : tAsg (LE K ε) (gSub (tVar i) (LE K ι) rSetL) D σ H := by
  obtain ⟨env, S, fp, a0, fl, env', e, q⟩ := h
  unfold dStIx at e
  split at e
  · rename_i v e1 eq1
    split at e
    · rename_i ds0 k e2 eo eq2
      split at e
      · rename_i ds eo2
        split at e
        · rename_i j ej
          cases e
          refine ⟨env, S, fp, a0, v, _, eq1, fun w S1 H1 f1 a1 m1 r1 => ?_⟩
          obtain ⟨a, xs0, h1, _, _, _⟩ := a1.lst (ownL_some eo)
          refine ⟨.ref a, h1, _, S1, f1, a1, _, _, eq2, fun u S2 H2 f2 a2 m2 r2 => ?_⟩
          obtain ⟨a', xs, h1', h2', rx, go⟩ := a2.lst (ownL_some eo2)
          rw [h1] at h1'; cases h1'
          cases r2
          refine ⟨a, xs, k, j, rfl, rfl, h2', by rw [rx.len]; exact ej, ?_⟩
          obtain ⟨f3, a3, g3⟩ := go _ _ (rx.set (r1.up m2.s) j)
          exact q σ S2 _ f3 a3 (m1.trans (m2.trans g3)) .refl
        · cases e
      · cases e
    · cases e
  · cases e
theorem qs_stIx (i : Nat) {x : Str} {ie e : Expr} {px ps pos : Pos} {ι ε : DE} (hi : PE X ie (LE K ι)) (he : PE X e (LE K ε))
    (hN : X.N[i]? = some x := by rfl) (hv : Vis X.env.scope x := by first | exact Or.inl rfl | exact Or.inr (Or.inl rfl) | exact Or.inr (Or.inr rfl)) (hd : (x == ("__debug__" : Str)) = false := by decide) (hcd : (x == ("__classdict__" : Str)) = false := by decide)
    (ha : ∀ v, assign (.Subscript (.Name x px) ie ps) X.env v = (do
      let ov ← holding [v] (eval (.Name x px) X.env)
      let iv ← holding [v, ov] (eval ie X.env)
      standAt ps
      holding [v, ov, iv] (setItem ov iv v)
      release [v, ov, iv] []) := by intro _; rfl)
    (hs : swapsWithSole [.Subscript (.Name x px) ie ps] e pos.line X.env = pure false := by rfl) (hw : swappedStores [.Subscript (.Name x px) ie ps] e X.env = pure none := by rfl)
    (h1 : (assignEach [.Subscript (.Name x px) ie ps] X.env).map (·.2) = [assign (.Subscript (.Name x px) ie ps) X.env] := by rfl) :
    PS X (.Assign [.Subscript (.Name x px) ie ps] e pos) (LS K kp (dStIx i ι ε)) := PS.mono (ps_asg he (pg_sub (pv i hN hv hd hcd) hi set_list ha) hs hw h1) fun _ _ _ w => w.stIx
/-! ### targets -/
abbrev DG := PyData → En → Option En
/-- the target's slots: ts -/
def LG (K : Fr) (ts : List Nat) (g : DG) : TG := fun v σ H Q => ∃ env S fp d, At K σ env S H fp ∧ Rp K S v d ∧ ∃ env', g d env = some env' ∧
  ∀ σ' S' H' fp', At K σ' env' S' H' fp' → Go S H fp S' H' fp' → σ'.length = σ.length → (∀ j, j ∉ ts → σ'[j]? = σ[j]?) → Q σ' H'
def LGs (K : Fr) (ts : List Nat) (g : List PyData → En → Option En) : TGs := fun vs σ H Q => ∃ env S fp ds, At K σ env S H fp ∧ RpL K S vs ds ∧ ∃ env', g ds env = some env' ∧
  ∀ σ' S' H' fp', At K σ' env' S' H' fp' → Go S H fp S' H' fp' → σ'.length = σ.length → (∀ j, j ∉ ts → σ'[j]? = σ[j]?) → Q σ' H'
def gNm (i : Nat) : DG := fun d env => some (env.set i (some (0, d)))
def gsNil : List PyData → En → Option En := fun ds env => match ds with
  | [] => some env
  | _ => none
def gsCons (g : DG) (h : List PyData → En → Option En) : List PyData → En → Option En := fun ds env => match ds with
  | d :: r => (match g d env with | some e => h r e | none => none)
  | [] => none
def gTp (n : Nat) (g : List PyData → En → Option En) : DG := fun d env => match d with
  | .tuple ds => if ds.length = n then g ds env else none
  | _ => none
theorem LG.name {i : Nat} {v : V} {σ : Sg} {H : Hp} {Q : Sg → Hp → Prop} (h : LG K [i] (gNm i) v σ H Q) : gName i v σ H Q := by
  obtain ⟨env, S, fp, d, a0, r, env', e, q⟩ := h
  cases e
  obtain ⟨f2, hs, a2⟩ := At.storeIn (a0.withO r) i
  exact q _ S H f2 a2 (Go.refl.less hs) (List.length_set ..) fun j hj => List.getElem?_set_ne fun z => hj (by rw [z]; exact List.mem_cons_self)
theorem LGs.nil {vs : List V} {σ : Sg} {H : Hp} {Q : Sg → Hp → Prop} (h : LGs K [] gsNil vs σ H Q) : gNil vs σ H Q := by
  obtain ⟨env, S, fp, ds, a0, r, env', e, q⟩ := h
  unfold gsNil at e
  split at e
  · cases e
    cases r
    exact ⟨rfl, q σ S H fp a0 .refl rfl fun _ _ => rfl⟩
  · cases e
theorem LGs.cons {t1 t2 : List Nat} {g : DG} {h : List PyData → En → Option En} {vs : List V} {σ : Sg} {H : Hp} {Q : Sg → Hp → Prop} (w : LGs K (t1 ++ t2) (gsCons g h) vs σ H Q) : gCons (LG K t1 g) (LGs K t2 h) vs σ H Q := by
  obtain ⟨env, S, fp, ds, a0, r, env', e, q⟩ := w
  unfold gsCons at e
  split at e
  · rename_i d rd
    split at e
    · rename_i e1 eq1
      cases r with
      | @cons v vs' _ _ r1 r2 =>
        refine ⟨v, vs', rfl, env, S, fp, d, a0, r1, _, eq1, fun σ1 S1 H1 f1 a1 m1 l1 k1 => ?_⟩
        exact ⟨_, S1, f1, rd, a1, r2.up m1.s, _, e, fun σ2 S2 H2 f2 a2 m2 l2 k2 => q σ2 S2 H2 f2 a2 (m1.trans m2) (l2.trans l1) fun j hj => (k2 j fun z => hj (List.mem_append_right _ z)).trans (k1 j fun z => hj (List.mem_append_left _ z))⟩
    · cases e
  · cases e
theorem LG.tup {n : Nat} {ts : List Nat} {g : List PyData → En → Option En} {v : V} {σ : Sg} {H : Hp} {Q : Sg → Hp → Prop} (w : LG K ts (gTp n g) v σ H Q) : gTup K n (LGs K ts g) v σ H Q := by
  obtain ⟨env, S, fp, d, a0, r, env', e, q⟩ := w
  unfold gTp at e
  split at e
  · rename_i ds
    split at e
    · rename_i hl
      cases r with
      | tup hs ha => exact ⟨_, _, rfl, sameT a0.sub hs, by rw [ha.len]; exact hl, env, S, fp, ds, a0, ha, _, e, q⟩
    · cases e
  · cases e
theorem PG.mono {tg : Expr} {t t' : TG} (h : PG X tg t) (m : ∀ v σ H Q, t' v σ H Q → t v σ H Q) : PG X tg t' := ⟨fun pins s σ H v u Q I r w => h.run pins s σ H v u Q I r (m _ _ _ _ w)⟩
theorem PGs.mono {tg : List Expr} {t t' : TGs} (h : PGs X tg t) (m : ∀ v σ H Q, t' v σ H Q → t v σ H Q) : PGs X tg t' := ⟨fun pins s σ H v u Q I r w => h.run pins s σ H v u Q I r (m _ _ _ _ w)⟩
theorem qg_name (i : Nat) {x : Str} {pos : Pos} (hN : X.N.Nodup) (hi : X.N[i]? = some x := by rfl) (hx : Loc X.env.scope x := by first | exact Or.inl rfl | exact Or.inr rfl) (hf : X.fn x = true ∨ X.env.scope.names.lookup x = some .local := by first | exact .inl rfl | exact .inr rfl) : PG X (.Name x pos) (LG K [i] (gNm i)) := PG.mono (pg_name hN hi hx hf) fun _ _ _ _ w => w.name
theorem qgs_nil : PGs X [] (LGs K [] gsNil) := PGs.mono pgs_nil fun _ _ _ _ w => w.nil
theorem qgs_cons {e : Expr} {es : List Expr} {t1 t2 : List Nat} {g : DG} {h : List PyData → En → Option En} (h1 : PG X e (LG K t1 g)) (h2 : PGs X es (LGs K t2 h)) (hs : (assignEach (e :: es) X.env).map (·.2) = assign e X.env :: (assignEach es X.env).map (·.2) := by rfl) : PGs X (e :: es) (LGs K (t1 ++ t2) (gsCons g h)) := PGs.mono (pgs_cons h1 h2 hs) fun _ _ _ _ w => w.cons
theorem qg_tup {es : List Expr} {k : Nat} {pos : Pos} {ts : List Nat} {g : List PyData → En → Option En} {n : Nat} (hc : X.calm = true) (h : PGs X es (LGs X.K ts g)) (hn : (assignEach es X.env).length = n := by rfl) (hst : (assignEach es X.env).findIdx? (·.1) = none := by rfl) : PG X (.Tuple es k pos) (LG X.K ts (gTp n g)) := PG.mono (pg_tup hc h hn hst) fun _ _ _ _ w => w.tup
theorem kp_of {ts kp : List Nat} (h : (ts.all fun i => !kp.contains i) = true) {σ σ' : Sg} (k : ∀ j, j ∉ ts → σ'[j]? = σ[j]?) : Kp kp σ σ' := fun j hj => k j fun z => by
  have q := List.all_eq_true.mp h j z
  rw [List.contains_eq_mem, decide_eq_true hj] at q
  cases q
/-- target = value -/
def dAsg (g : DG) (ε : DE) : DS := fun env => match ε env with
  | some (d, e) => (match g d e with | some e2 => some (.nx, e2) | none => none)
  | none => none
theorem LS.asg {ts : List Nat} {g : DG} {ε : DE} {D : Ends} {σ : Sg} {H : Hp} (hk : (ts.all fun i => !kp.contains i) = true) (h : LS K kp (dAsg g ε) D σ H) : tAsg (LE K ε) (LG K ts g) D σ H := by
  obtain ⟨env, S, fp, a0, fl, env', e, q⟩ := h
  unfold dAsg at e
  split at e
  · rename_i d e1 eq1
    split at e
    · rename_i e2 eq2
      cases e
      refine ⟨env, S, fp, a0, d, _, eq1, fun v S1 H1 f1 a1 m1 r1 => ⟨_, S1, f1, d, a1, r1, _, eq2, fun σ2 S2 H2 f2 a2 m2 l2 k2 => ?_⟩⟩
      exact q σ2 S2 H2 f2 a2 (m1.trans m2) (kp_of hk k2)
    · cases e
  · cases e
theorem qs_asg {tg e : Expr} {pos : Pos} {ts : List Nat} {g : DG} {ε : DE} (he : PE X e (LE K ε)) (hg : PG X tg (LG K ts g)) (hk : (ts.all fun i => !kp.contains i) = true := by rfl) (hs : swapsWithSole [tg] e pos.line X.env = pure false := by rfl) (hw : swappedStores [tg] e X.env = pure none := by rfl)
    (h1 : (assignEach [tg] X.env).map (·.2) = [assign tg X.env] := by rfl) : PS X (.Assign [tg] e pos) (LS K kp (dAsg g ε)) := PS.mono (ps_asg he hg hs hw h1) fun _ _ _ w => w.asg hk
/-! ### while -/
def dWhileN (τ : DT) (b : DS) : Nat → DS
  | 0 => fun _ => none
  | n + 1 => fun env => match τ env with
    | some (false, e) => some (.nx, e)
    | some (true, e) => (match b e with
      | some (.nx, e2) => dWhileN τ b n e2
      | some (.ct, e2) => dWhileN τ b n e2
      | some (.bk, e2) => some (.nx, e2)
      | some (.rt r, e2) => some (.rt r, e2)
      | none => none)
    | none => none
def fuel : Nat := 1000000000
def dWhile (τ : DT) (b : DS) : DS := dWhileN τ b fuel
theorem dWhileN_more {τ : DT} {b : DS} : ∀ {n m : Nat} {env : En} {r : Fl × En}, n ≤ m → dWhileN τ b n env = some r → dWhileN τ b m env = some r
  | 0, _, _, _, _, h => by cases h
  | n + 1, 0, _, _, h, _ => by omega
  | n + 1, m + 1, env, r, h, e => by
    unfold dWhileN at e ⊢
    split at e
    · exact e
    · split at e
      · exact dWhileN_more (by omega) e
      · exact dWhileN_more (by omega) e
      · exact e
      · exact e
      · cases e
    · cases e
theorem dWhile_of {τ : DT} {b : DS} {n : Nat} {env : En} {r : Fl × En} (h : n ≤ 1000000000) (e : dWhileN τ b n env = some r) : dWhile τ b env = some r := dWhileN_more (by unfold fuel; exact h) e
theorem LS.while {τ : DT} {b : DS} {D : Ends} {σ : Sg} {H : Hp} (h : LS K kp (dWhile τ b) D σ H) : tWhile (LT K τ) (LS K kp b) D σ H := by
  obtain ⟨env, S, fp, a0, fl, env', e, q⟩ := h
  refine ⟨fun m σ' H' => ∃ env1 S1 f1, At K σ' env1 S1 H' f1 ∧ Go S H fp S1 H' f1 ∧ Kp kp σ σ' ∧ dWhileN τ b m env1 = some (fl, env'), ⟨fuel, env, S, fp, a0, .refl, .refl, e⟩, ?_⟩
  rintro m σ1 H1 ⟨env1, S1, f1, a1, g1, k1, e1⟩
  cases m with
  | zero => cases e1
  | succ m =>
    unfold dWhileN at e1
    split at e1
    · rename_i e2 eq2
      cases e1
      exact ⟨_, S1, f1, a1, _, _, eq2, fun S2 H2 f2 a2 m2 => iteF (q σ1 S2 H2 f2 a2 (g1.trans m2) k1)⟩
    · rename_i e2 eq2
      refine ⟨_, S1, f1, a1, _, _, eq2, fun S2 H2 f2 a2 m2 => iteT ?_⟩
      refine ⟨fun σ' H' => ∃ env1 S1 f1, At K σ' env1 S1 H' f1 ∧ Go S H fp S1 H' f1 ∧ Kp kp σ σ' ∧ dWhileN τ b m env1 = some (fl, env'), fun σ' H' hN => ⟨m, Nat.lt_succ_self m, hN⟩, ?_⟩
      split at e1
      · rename_i e3 eq3
        exact ⟨_, S2, f2, a2, .nx, _, eq3, fun σ3 S3 H3 f3 a3 m3 k3 => ⟨_, S3, f3, a3, g1.trans (m2.trans m3), k1.trans k3, e1⟩⟩
      · rename_i e3 eq3
        exact ⟨_, S2, f2, a2, .ct, _, eq3, fun σ3 S3 H3 f3 a3 m3 k3 => ⟨_, S3, f3, a3, g1.trans (m2.trans m3), k1.trans k3, e1⟩⟩
      · rename_i e3 eq3
        cases e1
        exact ⟨_, S2, f2, a2, .bk, _, eq3, fun σ3 S3 H3 f3 a3 m3 k3 => q σ3 S3 H3 f3 a3 (g1.trans (m2.trans m3)) (k1.trans k3)⟩
      · rename_i r e3 eq3
        cases e1
        exact ⟨_, S2, f2, a2, .rt r, _, eq3, fun v σ3 S3 H3 f3 a3 m3 k3 => q v σ3 S3 H3 f3 a3 (g1.trans (m2.trans m3)) (k1.trans k3)⟩
      · cases e1
    · cases e1
theorem qs_while {c : Expr} {body : List Stmt} {pos : Pos} {τ : DT} {b : DS} (hp : PassesOwn (model X.prog X.w) X.A X.env X.xe) (hc : PT X c (LT K τ)) (hb : PSs X body (LS K kp b)) : PS X (.While c body [] pos) (LS K kp (dWhile τ b)) := PS.mono (ps_while hp hc hb) fun _ _ _ w => w.while
/-! ### what is walked -/
structure YOk (K : Fr) (S' H' : Hp) (S2 H2 : Hp) (x : V) (d : PyData) : Prop where
  gp : Gp S' H' S2 H2
  rp : Rp K S2 x d
  at' : ∀ σ env fp, At K σ env S' H' fp → At K σ env S2 H2 fp
structure Yl (K : Fr) (J : It) (S : Hp) (ds : List PyData) : Prop where
  go : ∀ S' H', Same S S' → Same S' H' → ∀ i d, ds[i]? = some d → J.go i H' ∧ ∀ x H2, J.yld i H' x H2 → ∃ S2, YOk K S' H' S2 H2 x d
  stop : ∀ S' H', Same S S' → Same S' H' → J.stop ds.length H'
abbrev DI := En → Option (List PyData × En)
def LI (K : Fr) (ι : DI) : TI := fun σ H R => ∃ env S fp, At K σ env S H fp ∧ ∃ ds env', ι env = some (ds, env') ∧
  ∀ J S' H' fp', At K σ env' S' H' fp' → Go S H fp S' H' fp' → Yl K J S' ds → R J H'
theorem PI.mono {tg e : Expr} {w w' : TI} (h : PI X tg e w) (m : ∀ σ H R, w' σ H R → w σ H R) : PI X tg e w' := ⟨fun pins s σ H R I z => h.run pins s σ H R I (m _ _ _ z)⟩
theorem PI.or {tg e : Expr} {w w' : TI} (h : PI X tg e w) (h' : PI X tg e w') : PI X tg e (fun σ H R => w σ H R ∨ w' σ H R) := ⟨fun pins s σ H R I z => z.elim (h.run pins s σ H R I) (h'.run pins s σ H R I)⟩
/-- a frozen list or tuple -/
def iSeq (α : DE) : DI := fun env => match α env with
  | some (.list ds, e) => some (ds, e)
  | some (.tuple ds, e) => some (ds, e)
  | _ => none
theorem rd_list {H : Hp} {a : Addr} {xs ys : List V} (h : H a = some (.lst xs)) (q : SqL K H a ys) (hk : K.lookup a = none ∨ True) : True := trivial
theorem yl_list {S : Hp} {a : Addr} {xs : List V} {ds : List PyData} (h : LstR K S a xs) (r : RpL K S xs ds) : Yl K (Itl K a) S ds := by
  refine ⟨fun S' H' s1 s2 i d e => ?_, fun S' H' s1 s2 => ⟨xs, (lrMono s2 (lrMono s1 h)).sq, by rw [r.len]; exact Nat.le_refl _⟩⟩
  obtain ⟨v, ev, rv⟩ := r.get e
  refine ⟨⟨xs, v, (lrMono s2 (lrMono s1 h)).sq, ev⟩, fun x H2 y => ?_⟩
  obtain ⟨e2, y2⟩ := y
  subst e2
  have q := y2 xs (lrMono s2 (lrMono s1 h)).sq
  rw [ev] at q; cases q
  exact ⟨S', .refl, rv.up s1, fun _ _ _ z => z⟩
theorem yl_tup {S : Hp} {a : Addr} {xs : List V} {ds : List PyData} (h : SqT K S a xs) (r : RpL K S xs ds) : Yl K (Itt K a) S ds := by
  refine ⟨fun S' H' s1 s2 i d e => ?_, fun S' H' s1 s2 => ⟨xs, sameT s2 (sameT s1 h), by rw [r.len]; exact Nat.le_refl _⟩⟩
  obtain ⟨v, ev, rv⟩ := r.get e
  refine ⟨⟨xs, v, sameT s2 (sameT s1 h), ev⟩, fun x H2 y => ?_⟩
  obtain ⟨e2, y2⟩ := y
  subst e2
  have q := y2 xs (sameT s2 (sameT s1 h))
  rw [ev] at q; cases q
  exact ⟨S', .refl, rv.up s1, fun _ _ _ z => z⟩
theorem qi_seq {tg e : Expr} {α : DE} (he : PE X e (LE X.K α)) : PI X tg e (LI X.K (iSeq α)) := by
  refine PI.mono (PI.or (pi_list he) (pi_tup he)) fun σ H R w => ?_
  obtain ⟨env, S, fp, a0, ds, env', e, q⟩ := w
  unfold iSeq at e
  split at e
  · rename_i ds' e1 eq1
    cases e
    refine .inl ⟨env, S, fp, a0, _, _, eq1, fun v S1 H1 f1 a1 m1 r1 => ?_⟩
    cases r1 with
    | lst hs ha => exact ⟨_, rfl, ⟨_, (lrMono a1.sub hs).sq⟩, q _ S1 H1 f1 a1 m1 (yl_list hs ha)⟩
  · rename_i ds' e1 eq1
    cases e
    refine .inr ⟨env, S, fp, a0, _, _, eq1, fun v S1 H1 f1 a1 m1 r1 => ?_⟩
    cases r1 with
    | tup hs ha => exact ⟨_, rfl, ⟨_, sameT a1.sub hs⟩, q _ S1 H1 f1 a1 m1 (yl_tup hs ha)⟩
  · cases e
open scoped Dn.Sz in
/-- range -/
def okR (n : Int) : Bool := decide (-(2 ^ 62) ≤ n ∧ n < 2 ^ 62)
def iRg1 (ε : DL) : DI := fun env => match ε env with
  | some ([.int n], e) => if okR n = true then some (rgD 0 n, e) else none
  | _ => none
def iRg2 (ε : DL) : DI := fun env => match ε env with
  | some ([.int a, .int b], e) => if okR a = true ∧ okR b = true then some (rgD a b, e) else none
  | _ => none
def rdD (a b : Int) : List PyData := (List.range (a - b).toNat).map fun i => PyData.int (a - (i : Nat))
def iRg3 (ε : DL) : DI := fun env => match ε env with
  | some ([.int a, .int b, .int c], e) => if okR a = true ∧ okR b = true ∧ c = -1 then some (rdD a b, e) else none
  | _ => none
theorem yl_rg {S : Hp} (a b : Int) : Yl K (Itr a (b - a).toNat) S (rgD a b) := by
  refine ⟨fun S' H' s1 s2 i d e => ?_, fun S' H' s1 s2 => ?_⟩
  · unfold rgD at e
    rw [List.getElem?_map] at e
    obtain ⟨j, hj, e2⟩ := Option.map_eq_some_iff.mp e
    obtain ⟨hl, ej⟩ := List.getElem?_eq_some_iff.mp hj
    rw [List.length_range] at hl
    rw [List.getElem_range] at ej
    subst ej
    subst e2
    refine ⟨hl, fun x H2 y => ?_⟩
    obtain ⟨e3, e4⟩ := y
    subst e3; subst e4
    exact ⟨S', .refl, .int _, fun _ _ _ z => z⟩
  · unfold rgD
    rw [List.length_map, List.length_range]; exact Nat.le_refl _
theorem yl_rd {S : Hp} (a b : Int) : Yl K (Itc a (-1) (a - b).toNat) S (rdD a b) := by
  refine ⟨fun S' H' s1 s2 i d e => ?_, fun S' H' s1 s2 => ?_⟩
  · unfold rdD at e
    rw [List.getElem?_map] at e
    obtain ⟨j, hj, e2⟩ := Option.map_eq_some_iff.mp e
    obtain ⟨hl, ej⟩ := List.getElem?_eq_some_iff.mp hj
    rw [List.length_range] at hl
    rw [List.getElem_range] at ej
    subst ej
    subst e2
    refine ⟨hl, fun x H2 y => ?_⟩
    obtain ⟨e3, e4⟩ := y
    subst e3; subst e4
    refine ⟨S', .refl, ?_, fun _ _ _ z => z⟩
    rw [show a + ((i : Nat) : Int) * -1 = a - (i : Nat) by omega]
    exact .int _
  · unfold rdD
    rw [List.length_map, List.length_range]; exact Nat.le_refl _
section
variable {tg a b c : Expr} {p pos : Pos} {ε : DL}
theorem qi_rg1 (hm : X.mg "range" = none) (ha : PA X [a] (LA K ε)) (hg : Gl X "range" := by rfl) (hs : starEach [a] X.env = [(false, eval a X.env)] := by rfl) : PI X tg (.Call (.Name "range" p) [a] [] pos) (LI K (iRg1 ε)) := by
  refine PI.mono (pi_range1 hg hm ha hs) fun σ H R w => ?_
  obtain ⟨env, S, fp, a0, ds, env', e, q⟩ := w
  unfold iRg1 at e
  split at e
  · rename_i n e1 eq1
    split at e
    · rename_i ok
      cases e
      refine ⟨env, S, fp, a0, _, _, eq1, fun vs S1 H1 f1 a1 m1 r1 => ?_⟩
      have ev := RpL.ints (ns := [n]) r1
      subst ev
      unfold okR at ok
      have z := decT ok
      refine ⟨n, rfl, z.1, z.2, ?_⟩
      have y := yl_rg (K := K) (S := S1) 0 n
      rw [Int.sub_zero] at y
      exact q _ S1 H1 f1 a1 m1 y
    · cases e
  · cases e
theorem qi_rg2 (hm : X.mg "range" = none) (ha : PA X [a, b] (LA K ε)) (hg : Gl X "range" := by rfl) (hs : starEach [a, b] X.env = [(false, eval a X.env), (false, eval b X.env)] := by rfl) (hs2 : starEach [b] X.env = [(false, eval b X.env)] := by rfl) : PI X tg (.Call (.Name "range" p) [a, b] [] pos) (LI K (iRg2 ε)) := by
  refine PI.mono (pi_range2 hg hm ha hs hs2) fun σ H R w => ?_
  obtain ⟨env, S, fp, a0, ds, env', e, q⟩ := w
  unfold iRg2 at e
  split at e
  · rename_i n m e1 eq1
    split at e
    · rename_i ok
      cases e
      refine ⟨env, S, fp, a0, _, _, eq1, fun vs S1 H1 f1 a1 m1 r1 => ?_⟩
      have ev := RpL.ints (ns := [n, m]) r1
      subst ev
      unfold okR at ok
      have z1 := decT ok.1
      have z2 := decT ok.2
      exact ⟨n, m, rfl, ⟨z1.1, z1.2, z2.1, z2.2⟩, q _ S1 H1 f1 a1 m1 (yl_rg n m)⟩
    · cases e
  · cases e
theorem qi_rg3 (hm : X.mg "range" = none) (ha : PA X [a, b, c] (LA K ε)) (hg : Gl X "range" := by rfl) (hs : starEach [a, b, c] X.env = (false, eval a X.env) :: starEach [b, c] X.env := by rfl) (hs2 : (backTo pos (starEach [b, c] X.env)).any (·.1) = false := by rfl) : PI X tg (.Call (.Name "range" p) [a, b, c] [] pos) (LI K (iRg3 ε)) := by
  refine PI.mono (pi_range3 hg hm ha hs hs2) fun σ H R w => ?_
  obtain ⟨env, S, fp, a0, ds, env', e, q⟩ := w
  unfold iRg3 at e
  split at e
  · rename_i n m l e1 eq1
    split at e
    · rename_i ok
      cases e
      refine ⟨env, S, fp, a0, _, _, eq1, fun vs S1 H1 f1 a1 m1 r1 => ?_⟩
      have ev := RpL.ints (ns := [n, m, l]) r1
      subst ev
      obtain ⟨o1, o2, o3⟩ := ok
      subst o3
      unfold okR at o1 o2
      have z1 := decT o1
      have z2 := decT o2
      exact ⟨n, m, -1, (n - m).toNat, rfl, RgC.neg z1.1 z1.2 z2.1 z2.2, q _ S1 H1 f1 a1 m1 (yl_rd n m)⟩
    · cases e
  · cases e
end
/-! ### for -/
def dForL (g : DG) (b : DS) : List PyData → DS
  | [] => fun env => some (.nx, env)
  | d :: ds => fun env => match g d env with
    | some e1 => (match b e1 with
      | some (.nx, e2) => dForL g b ds e2
      | some (.ct, e2) => dForL g b ds e2
      | some (.bk, e2) => some (.nx, e2)
      | some (.rt r, e2) => some (.rt r, e2)
      | none => none)
    | none => none
def dFor (ι : DI) (g : DG) (b : DS) : DS := fun env => match ι env with
  | some (ds, e) => dForL g b ds e
  | none => none
theorem drop_at {ds : List PyData} {i : Nat} {d : PyData} (h : ds[i]? = some d) : ds.drop i = d :: ds.drop (i + 1) := by
  obtain ⟨hl, e⟩ := List.getElem?_eq_some_iff.mp h
  rw [List.drop_eq_getElem_cons hl, e]
theorem LS.for {ι : DI} {ts : List Nat} {g : DG} {b : DS} {D : Ends} {σ : Sg} {H : Hp} (hk : (ts.all fun i => !kp.contains i) = true) (h : LS K kp (dFor ι g b) D σ H) : tFor (LI K ι) (LG K ts g) (LS K kp b) D σ H := by
  obtain ⟨env, S, fp, a0, fl, env', e, q⟩ := h
  unfold dFor at e
  split at e
  · rename_i ds e1 eq1
    refine ⟨env, S, fp, a0, ds, _, eq1, fun J S1 H1 f1 a1 m1 yl => ?_⟩
    let W : Nat → Nat → Sg → Hp → Prop := fun i m σ' H' => m = ds.length - i ∧ i ≤ ds.length ∧ ∃ env2 S2 f2, At K σ' env2 S2 H' f2 ∧ Go S1 H1 f1 S2 H' f2 ∧ Kp kp σ σ' ∧ dForL g b (ds.drop i) env2 = some (fl, env')
    refine ⟨W, ⟨_, rfl, Nat.zero_le _, _, S1, f1, a1, .refl, .refl, by simpa using e⟩, ?_⟩
    rintro i m σ2 H2 ⟨rfl, hi, env2, S2, f2, a2, g2, k2, e2⟩
    by_cases hlt : i < ds.length
    · have hd : ds[i]? = some ds[i] := List.getElem?_eq_getElem hlt
      rw [drop_at hd] at e2
      obtain ⟨hgo, hy⟩ := yl.go S2 H2 g2.s a2.sub i _ hd
      refine .inr ⟨hgo, W (i + 1) (ds.length - (i + 1)), fun σ' H' hN => ⟨ds.length - (i + 1), by omega, hN⟩, fun x H3 y => ?_⟩
      obtain ⟨S3, ok⟩ := hy x H3 y
      unfold dForL at e2
      split at e2
      · rename_i e3 eq3
        refine ⟨env2, S3, f2, _, ok.at' _ _ _ a2, ok.rp, _, eq3, fun σ4 S4 H4 f4 a4 m4 l4 k4 => ?_⟩
        have kk : Kp kp σ σ4 := k2.trans (kp_of hk k4)
        have gg : Go S1 H1 f1 S4 H4 f4 := g2.trans (ok.gp.go.trans m4)
        split at e2
        · rename_i e5 eq5
          exact ⟨_, S4, f4, a4, .nx, _, eq5, fun σ5 S5 H5 f5 a5 m5 k5 => ⟨rfl, hlt, _, S5, f5, a5, gg.trans m5, kk.trans k5, e2⟩⟩
        · rename_i e5 eq5
          exact ⟨_, S4, f4, a4, .ct, _, eq5, fun σ5 S5 H5 f5 a5 m5 k5 => ⟨rfl, hlt, _, S5, f5, a5, gg.trans m5, kk.trans k5, e2⟩⟩
        · rename_i e5 eq5
          cases e2
          exact ⟨_, S4, f4, a4, .bk, _, eq5, fun σ5 S5 H5 f5 a5 m5 k5 => q σ5 S5 H5 f5 a5 (m1.trans (gg.trans m5)) (kk.trans k5)⟩
        · rename_i r e5 eq5
          cases e2
          exact ⟨_, S4, f4, a4, .rt r, _, eq5, fun v σ5 S5 H5 f5 a5 m5 k5 => q v σ5 S5 H5 f5 a5 (m1.trans (gg.trans m5)) (kk.trans k5)⟩
        · cases e2
      · cases e2
    · have ei : i = ds.length := by omega
      subst ei
      rw [List.drop_length] at e2
      cases e2
      exact .inl ⟨yl.stop S2 H2 g2.s a2.sub, q σ2 S2 H2 f2 a2 (m1.trans g2) k2⟩
  · cases e
theorem qs_for {tg iter : Expr} {body : List Stmt} {pos : Pos} {ι : DI} {ts : List Nat} {g : DG} {b : DS} (hp : PassesOwn (model X.prog X.w) X.A X.env X.xe) (hc : X.calm = true) (hi : PI X tg iter (LI K ι)) (hg : PG X tg (LG K ts g)) (hb : PSs X body (LS K kp b)) (hk : (ts.all fun i => !kp.contains i) = true := by rfl)
    (hs : ∀ x, foldedSetIterable iter X.env x = pure x := by intro _; rfl) : PS X (.For tg iter body [] pos) (LS K kp (dFor ι g b)) := PS.mono (ps_for hp hc hi hg hb hs) fun _ _ _ w => w.for hk
/-! ### a def -/
def outsOf : List Bool → En → Option (List Sl)
  | [], _ => some []
  | true :: br, some s :: env => (match outsOf br env with | some l => some (s :: l) | none => none)
  | false :: br, _ :: env => outsOf br env
  | _, _ => none
def fnSem (n : Nat) (br : List Bool) (body : DS) : FnD := fun ins => match body (ins.map some ++ List.replicate (n - ins.length) none) with
  | some (.rt r, e) => (match outsOf br e with | some outs => some (r, outs) | none => none)
  | some (.nx, e) => (match outsOf br e with | some outs => some ((0, .none), outs) | none => none)
  | _ => none
def brIx : Nat → List Bool → List Nat
  | _, [] => []
  | i, true :: br => i :: brIx (i + 1) br
  | i, false :: br => brIx (i + 1) br
theorem OwE.pad {S H : Hp} {σ : Sg} {env : En} {fp : List Addr} (h : OwE K S H σ env fp) (n : Nat) : OwE K S H (σ ++ List.replicate n none) (env ++ List.replicate n none) fp := by
  have base : ∀ n : Nat, OwE K S H (List.replicate n none) (List.replicate n none) [] := fun n => by
    induction n with
    | zero => exact .nil
    | succ n ih => exact .no ih
  induction h with
  | nil => exact base n
  | no _ ih => exact .no ih
  | yes o _ ih => exact .yes o ih
theorem outs_pick {S H : Hp} : ∀ {br : List Bool} {σ : Sg} {env : En} {fp : List Addr} {outs : List Sl} {vs : List V}, OwE K S H σ env fp → outsOf br env = some outs → vs.length = br.length → (∀ i ∈ brIx 0 br, σ[i]? = (vs.map some)[i]?) →
    ∃ f, (∀ a ∈ f, a ∈ fp) ∧ (fp.Nodup → f.Nodup) ∧ OwE K S H ((pick br vs).map some) (outs.map some) f := by
  have shift : ∀ (br : List Bool) (j i : Nat), i + 1 ∈ brIx (j + 1) br ↔ i ∈ brIx j br := fun br => by
    induction br with
    | nil => intro j i; simp [brIx]
    | cons b br ih =>
      intro j i
      cases b with
      | true => simp only [brIx, List.mem_cons, ih, Nat.add_right_cancel_iff]
      | false => simp only [brIx, ih]
  intro br
  induction br with
  | nil =>
    intro σ env fp outs vs o e hl _
    cases e
    exact ⟨[], (fun a ha => by cases ha), fun _ => List.nodup_nil, by cases vs <;> exact .nil⟩
  | cons b br ih =>
    intro σ env fp outs vs o e hl hv
    cases vs with
    | nil => cases hl
    | cons v vs =>
      cases b with
      | true =>
        cases o with
        | nil => cases e
        | no _ => cases e
        | @yes w n d f σ env g o1 o2 =>
          simp only [outsOf] at e
          split at e
          · rename_i l el
            cases e
            have ev := hv 0 (by simp [brIx])
            have ev' : w = v := by simpa using ev
            subst ev'
            obtain ⟨f2, h1, h2, h3⟩ := ih (vs := vs) o2 el (by simpa using hl) fun i hi => by
              have z := hv (i + 1) (by simp only [brIx, List.mem_cons]; exact .inr ((shift br 0 i).mpr hi))
              simpa using z
            refine ⟨f ++ f2, fun a ha => ?_, fun nd => ?_, .yes o1 h3⟩
            · rcases List.mem_append.mp ha with z | z
              · exact List.mem_append_left _ z
              · exact List.mem_append_right _ (h1 a z)
            · obtain ⟨n1, n2, dj⟩ := List.nodup_append.mp nd
              exact List.nodup_append.mpr ⟨n1, h2 n2, fun a ha b hb => dj a ha b (h1 b hb)⟩
          · cases e
      | false =>
        cases o with
        | nil => cases e
        | @no x σ env fp o2 =>
          obtain ⟨f2, h1, h2, h3⟩ := ih (vs := vs) o2 e (by simpa using hl) fun i hi => by
            have z := hv (i + 1) (by simp only [brIx]; exact (shift br 0 i).mpr hi)
            simpa using z
          exact ⟨f2, h1, h2, h3⟩
        | @yes w n d f σ env g o1 o2 =>
          obtain ⟨f2, h1, h2, h3⟩ := ih (vs := vs) o2 e (by simpa using hl) fun i hi => by
            have z := hv (i + 1) (by simp only [brIx]; exact (shift br 0 i).mpr hi)
            simpa using z
          exact ⟨f2, fun a ha => List.mem_append_right _ (h1 a ha), fun nd => h2 (List.nodup_append.mp nd).2.1, h3⟩
/-- a def keeps the promise of its denotation -/
theorem fn_ok {P : Program} {w : World} {mg : Str → Option Value} {base : Heap} {x qual : Str} {params : Arguments} {bodyS : List Stmt} {scope : Scope} {f : Addr} {fd : FuncData} {N ps : List Str} {k : Nat} {br : List Bool} {body : DS} (F : FunD K x qual params bodyS scope [] [] f fd) (Sc : FnScope N ps scope) (hl : br.length = ps.length)
    (hb : ∀ (cdv : Value) (A : Around) (outer : List Env) (s : Shared) (H : Hp) (E : XK), Room k (A.deeper (envOfC qual scope s.heap.objs.size f cdv)) →
      PSs (cxOf CX0 P w K mg base N qual scope f cdv A outer s H E).nox bodyS (LS K (brIx 0 br) body)) :
    FnOk P w K mg base CX0 (k + 1) f fd ps (PrD K (fnSem N.length br body) br) := by
  refine F.ok Sc (fun vs H Q E h => ?_) (fun cdv A outer s H vs Q E hr h => ⟨_, PSs.nox (hb cdv A outer s H E hr), ?_⟩)
  · obtain ⟨S, ins, fp, _, h2, _⟩ := h
    rw [h2, hl]
  · obtain ⟨S, ins, fp, a0, hv, res, outs, eF, q⟩ := h
    have hlen : vs.length = ins.length := by
      have z := a0.ow.len
      rw [List.length_map, List.length_map] at z
      exact z
    have a1 : At K (start N vs) (ins.map some ++ List.replicate (N.length - ins.length) none) S H fp := by
      refine ⟨a0.sub, a0.nd, ?_⟩
      unfold L2.start
      rw [hlen]
      exact a0.ow.pad _
    have key : ∀ {env' : En} {σ' : Sg} {S' H' : Hp} {fp' : List Addr} {v : V}, outsOf br env' = some outs → AtO K v res σ' env' S' H' fp' → Go S H fp S' H' fp' → Kp (brIx 0 br) (start N vs) σ' → Q v H' := by
      intro env' σ' S' H' fp' v eo a2 g2 k2
      obtain ⟨sub2, nd2, o2⟩ := a2
      cases o2 with
      | @yes _ n d fv _ _ g o1 o2 =>
        have ix : ∀ (br : List Bool) (j i : Nat), i ∈ brIx j br → i < j + br.length := fun br => by
          induction br with
          | nil => intro j i h; cases h
          | cons b br ih =>
            intro j i h
            cases b with
            | true =>
              rcases List.mem_cons.mp (show i ∈ j :: brIx (j + 1) br from h) with z | z
              · subst z; simp
              · have := ih _ _ z; simp only [List.length_cons]; omega
            | false =>
              have := ih _ _ (show i ∈ brIx (j + 1) br from h); simp only [List.length_cons]; omega
        obtain ⟨f2, h1, h2, h3⟩ := outs_pick (vs := vs) o2 eo hv fun i hi => by
          rw [k2 i hi]
          unfold L2.start
          have hlt := ix br 0 i hi
          exact List.getElem?_append_left (by rw [List.length_map]; omega)
        obtain ⟨n1, n2, dj⟩ := List.nodup_append.mp nd2
        refine q v S' H' (fv ++ f2) ⟨sub2, List.nodup_append.mpr ⟨n1, h2 n2, fun a ha b hb => dj a ha b (h1 b hb)⟩, .yes o1 h3⟩ (g2.less fun a ha => ?_)
        rcases List.mem_append.mp ha with z | z
        · exact List.mem_append_left _ z
        · exact List.mem_append_right _ (h1 a z)
    unfold fnSem at eF
    split at eF
    · rename_i r e1 eq1
      split at eF
      · rename_i outs' eo
        cases eF
        exact ⟨_, S, fp, a1, .rt _, _, eq1, fun v σ' S' H' fp' a2 g2 k2 => key eo a2 g2 k2⟩
      · cases eF
    · rename_i e1 eq1
      split at eF
      · rename_i outs' eo
        cases eF
        exact ⟨_, S, fp, a1, .nx, _, eq1, fun σ' S' H' fp' a2 g2 k2 => key eo (At.withO a2 .non) g2 k2⟩
      · cases eF
    · cases eF
end
end Dn

set_option Elab.async false
set_option linter.all false
set_option maxRecDepth 100000
set_option maxHeartbeats 1000000
/-! layer D, 7: list comprehensions -/
namespace Dn
open PySem PySem.Spec PyProof.Rows L2
def wipeE (env : En) : List Nat → En
  | [] => env
  | v :: vs => (wipeE env vs).set v none
def frzAt (vs : List Nat) (env : En) : Bool := vs.all fun i => match (env[i]?).join with
  | some s => s.1 == 0 || flatD s.2
  | none => true
def restE : List Nat → En → En → En
  | [], _, env => env
  | v :: vs, e0, env => restE vs e0 (match env[v]?, (e0[v]?).join with
    | some none, some s => env.set v (some s)
    | _, _ => env)
section
variable {X : Cx} {K : Fr}
theorem wipeE_out {env : En} {i : Nat} : ∀ {vs : List Nat}, i ∉ vs → (wipeE env vs)[i]? = env[i]?
  | [], _ => rfl
  | v :: vs, h => by
    simp only [List.mem_cons, not_or] at h
    show ((wipeE env vs).set v none)[i]? = _
    rw [List.getElem?_set_ne (Ne.symm h.1), wipeE_out h.2]
theorem wipeE_len (env : En) : ∀ vs : List Nat, (wipeE env vs).length = env.length
  | [] => rfl
  | v :: vs => by show ((wipeE env vs).set v none).length = _; rw [List.length_set, wipeE_len env vs]
theorem wipeE_in {env : En} {i : Nat} : ∀ {vs : List Nat}, i ∈ vs → i < env.length → (wipeE env vs)[i]? = some none
  | v :: vs, h, hl => by
    show ((wipeE env vs).set v none)[i]? = _
    by_cases e : v = i
    · subst e; exact List.getElem?_set_self (by rw [wipeE_len]; exact hl)
    · rw [List.getElem?_set_ne e]
      exact wipeE_in ((List.mem_cons.mp h).resolve_left (Ne.symm e)) hl
theorem wipe_in {σ : Sg} {i : Nat} : ∀ {vs : List Nat}, i ∈ vs → i < σ.length → (wipe σ vs)[i]? = some none
  | v :: vs, h, hl => by
    show ((wipe σ vs).set v none)[i]? = _
    by_cases e : v = i
    · subst e; exact List.getElem?_set_self (by rw [wipe_length]; exact hl)
    · rw [List.getElem?_set_ne e]
      exact wipe_in ((List.mem_cons.mp h).resolve_left (Ne.symm e)) hl
theorem wipe_eq {σ τ : Sg} {vs : List Nat} (hl : τ.length = σ.length) (h : ∀ j, j ∉ vs → τ[j]? = (wipe σ vs)[j]?) : wipe τ vs = wipe σ vs := by
  refine List.ext_getElem? fun j => ?_
  by_cases hj : j ∈ vs
  · by_cases hlt : j < σ.length
    · rw [wipe_in hj (by rw [hl]; exact hlt), wipe_in hj hlt]
    · rw [List.getElem?_eq_none (by rw [wipe_length, hl]; omega), List.getElem?_eq_none (by rw [wipe_length]; omega)]
  · rw [wipe_out hj, h j hj]
theorem OwE.wipe1 {S H : Hp} {σ : Sg} {env : En} {fp : List Addr} (h : OwE K S H σ env fp) : ∀ {i : Nat}, (∀ s, (env[i]?).join = some s → s.1 = 0 ∨ flatD s.2 = true) → OwE K S H (σ.set i none) (env.set i none) fp := by
  induction h with
  | nil => intro i _; exact .nil
  | @no x σ env fp t ih =>
    intro i hf
    cases i with
    | zero => exact .no t
    | succ i => exact .no (ih (i := i) fun s e => hf s (by simpa using e))
  | @yes v n d f σ env fp o t ih =>
    intro i hf
    cases i with
    | zero =>
      have ef : f = [] := by
        rcases hf (n, d) (by simp) with z | z
        · have z' : n = 0 := z
          subst z'; exact o.2
        · exact (o.flat z).2
      subst ef
      exact .no t
    | succ i => exact .yes o (ih (i := i) fun s e => hf s (by simpa using e))
theorem frzAt_one {vs : List Nat} {env : En} (h : frzAt vs env = true) {i : Nat} (hi : i ∈ vs) : ∀ s, (env[i]?).join = some s → s.1 = 0 ∨ flatD s.2 = true := fun s e => by
  have q := List.all_eq_true.mp h i hi
  rw [e] at q
  simpa using q
theorem OwE.wipe {S H : Hp} {σ : Sg} {env : En} {fp : List Addr} (h : OwE K S H σ env fp) : ∀ {vs : List Nat}, frzAt vs env = true → OwE K S H (L2.wipe σ vs) (wipeE env vs) fp
  | [], _ => h
  | v :: vs, f => by
    have f2 : frzAt vs env = true := List.all_eq_true.mpr fun i hi => List.all_eq_true.mp f i (List.mem_cons_of_mem _ hi)
    refine (OwE.wipe h f2).wipe1 (i := v) fun s e => ?_
    by_cases hv : v ∈ vs
    · by_cases hl : v < env.length
      · rw [wipeE_in hv hl] at e; cases e
      · rw [List.getElem?_eq_none (by rw [wipeE_len]; omega)] at e; cases e
    · rw [wipeE_out hv] at e
      exact frzAt_one f List.mem_cons_self s e
theorem OwE.unwipe1 {S H : Hp} {env : En} : ∀ {σ : Sg} {fp : List Addr} {i : Nat}, OwE K S H (σ.set i none) env fp → (env[i]?).join = none → OwE K S H σ env fp := by
  induction env with
  | nil =>
    intro σ fp i h _
    cases σ with
    | nil => exact h
    | cons x σ => cases i <;> cases h
  | cons y env ih =>
    intro σ fp i h e
    cases σ with
    | nil => cases i <;> cases h
    | cons x σ =>
      cases i with
      | zero =>
        cases h with
        | no t => exact .no t
      | succ i =>
        have h' : OwE K S H (x :: σ.set i none) (y :: env) fp := h
        have e' : (env[i]?).join = none := by simpa using e
        cases h' with
        | no t => exact .no (ih t e')
        | yes o t => exact .yes o (ih t e')
theorem OwE.unwipe {S H : Hp} {σ : Sg} {env : En} {fp : List Addr} : ∀ {vs : List Nat}, OwE K S H (L2.wipe σ vs) env fp → (∀ i ∈ vs, (env[i]?).join = none) → OwE K S H σ env fp
  | [], h, _ => h
  | v :: vs, h, e => OwE.unwipe (vs := vs) (OwE.unwipe1 (i := v) h (e v List.mem_cons_self)) fun i hi => e i (List.mem_cons_of_mem _ hi)
theorem OwE.rest {S S' H H' : Hp} {σ : Sg} {e0 : En} {f0 : List Addr} (h0 : OwE K S H σ e0 f0) (s : Same S S') : ∀ {vs : List Nat} {env : En} {fp : List Addr}, frzAt vs e0 = true → OwE K S' H' σ env fp → ∃ fp', fp'.Perm fp ∧ OwE K S' H' σ (restE vs e0 env) fp'
  | [], env, fp, _, h => ⟨fp, .refl _, h⟩
  | v :: vs, env, fp, f, h => by
    have f2 : frzAt vs e0 = true := List.all_eq_true.mpr fun i hi => List.all_eq_true.mp f i (List.mem_cons_of_mem _ hi)
    unfold restE
    split
    · rename_i s' e1 e2
      obtain ⟨w, g, h1, h2, _⟩ := h0.look e2
      have fl := frzAt_one f List.mem_cons_self _ e2
      have o : Ow K S' H' s'.1 w s'.2 [] := by
        rcases fl with z | z
        · obtain ⟨n, d⟩ := s'
          have z' : n = 0 := z
          subst z'
          exact ⟨h2.1.up s, rfl⟩
        · exact Ow.ofFlat ((h2.flat z).1.up s) z
      obtain ⟨f1, p1, p2⟩ := h.back e1 h1 o
      obtain ⟨f3, p3, p4⟩ := OwE.rest h0 s f2 p2
      exact ⟨f3, p3.trans p1, p4⟩
    · exact OwE.rest h0 s f2 h
open scoped Dn.Sz in
def dLcL (vs : List Nat) (g : DG) (τ : DT) (ε : DE) : List PyData → En → List PyData → Option (List PyData × En)
  | [], env, acc => some (acc, env)
  | d :: ds, env, acc => match g d env with
    | some e1 => (match τ e1 with
      | some (true, e2) => (match ε e2 with
        | some (y, e3) => if acc.length < sizeLine ∧ frzAt vs e3 = true then dLcL vs g τ ε ds (wipeE e3 vs) (acc ++ [y]) else none
        | none => none)
      | some (false, e2) => if frzAt vs e2 = true then dLcL vs g τ ε ds (wipeE e2 vs) acc else none
      | none => none)
    | none => none
def dLc (ι : DI) (vs : List Nat) (g : DG) (τ : DT) (ε : DE) : DO := fun env => match ι env with
  | some (ds, e1) => if frzAt vs e1 = true then (match dLcL vs g τ ε ds (wipeE e1 vs) [] with
    | some (acc, e2) => some ((1, .list acc), restE vs e1 e2)
    | none => none) else none
  | none => none
theorem Go.new' {S H S1 H1 : Hp} {fp f1 : List Addr} {D : Addr} {o : HO} (g : Go S H fp S1 H1 f1) (e : H D = none) : Go S H fp S1 (upd H1 D o) f1 := by
  refine ⟨g.s, fun a x q n => ?_, fun a q => ?_, g.new, g.sf⟩
  · rw [upd_ne (ne_of_none q e)]; exact g.fr a x q n
  · by_cases z : a = D
    · subst z; exact e
    · rw [upd_ne z] at q; exact g.dom a q
theorem At.upd {σ : Sg} {env : En} {S H : Hp} {fp : List Addr} {D : Addr} {o : HO} (a : At K σ env S H fp) (h1 : S D = none) (h2 : D ∉ fp) : At K σ env S (upd H D o) fp :=
  ⟨fun b x e => by rw [upd_ne (ne_of_none e h1)]; exact a.sub b x e, a.nd, a.ow.keep (.refl _) (fun b hb => upd_ne (show b ≠ D from fun z => h2 (by rw [← z]; exact hb))) fun b hb => (a.ow.out b hb).1⟩
theorem Go.out {S H S1 H1 : Hp} {fp f1 : List Addr} {D : Addr} {o : HO} (g : Go S H fp S1 H1 f1) (h : H D = some o) (n : D ∉ fp) (z : S D = none) : H1 D = some o ∧ D ∉ f1 ∧ S1 D = none :=
  ⟨g.fr D o h n, (fun q => (g.new D q).elim n fun e => by rw [h] at e; cases e), g.sf D o h n z⟩
theorem LO.lc {ι : DI} {vs ts : List Nat} {g : DG} {τ : DT} {ε : DE} {σ : Sg} {H : Hp} {Q : VK} (hts : ∀ i ∈ ts, i ∈ vs) (h : LO K (dLc ι vs g τ ε) σ H Q) : tLc (LI K ι) (LG K ts g) (LT K τ) (LE K ε) vs σ H Q := by
  obtain ⟨env, S, fp, a0, s, env', e, q⟩ := h
  unfold dLc at e
  split at e
  · rename_i ds e1 eq1
    split at e
    · rename_i hf
      split at e
      · rename_i accF e2 eq2
        cases e
        refine ⟨env, S, fp, a0, ds, _, eq1, fun J S1 H1 f1 a1 m1 yl D hD => ?_⟩
        let W : Nat → Nat → Hp → Prop := fun i m H' => m = ds.length - i ∧ i ≤ ds.length ∧ ∃ e3 S' f' acc accV, At K (L2.wipe σ vs) e3 S' H' f' ∧ Go S1 H1 f1 S' H' f' ∧ H' D = some (.lst accV) ∧ RpL K S' accV acc ∧ D ∉ f' ∧ S' D = none ∧
          (∀ i ∈ vs, (e3[i]?).join = none) ∧ dLcL vs g τ ε (ds.drop i) e3 acc = some (accF, e2)
        have blank : ∀ e : En, ∀ i ∈ vs, ((wipeE e vs)[i]?).join = none := fun e i hi => by
          by_cases hl : i < e.length
          · rw [wipeE_in hi hl]; rfl
          · rw [List.getElem?_eq_none (by rw [wipeE_len]; omega)]; rfl
        have hD1 : D ∉ f1 := a1.not_mem hD
        have hS1 : S1 D = none := a1.sub.free hD
        refine ⟨W, ⟨_, rfl, Nat.zero_le _, _, S1, f1, [], [], At.upd ⟨a1.sub, a1.nd, a1.ow.wipe hf⟩ hS1 hD1, Go.new' .refl hD, upd_same, .nil, hD1, hS1, blank _, by simpa using eq2⟩, ?_⟩
        rintro i m H2 ⟨rfl, hi, e3, S2, f2, acc, accV, a2, g2, hD2, r2, nD2, sD2, bl, e4⟩
        by_cases hlt : i < ds.length
        · have hd : ds[i]? = some ds[i] := List.getElem?_eq_getElem hlt
          rw [drop_at hd] at e4
          obtain ⟨hgo, hy⟩ := yl.go S2 H2 g2.s a2.sub i _ hd
          refine .inr ⟨hgo, W (i + 1) (ds.length - (i + 1)), fun H' hN => ⟨ds.length - (i + 1), by omega, hN⟩, fun x H3 y => ?_⟩
          obtain ⟨S3, ok⟩ := hy x H3 y
          have a3 := ok.at' _ _ _ a2
          obtain ⟨hD3, nD3, sD3⟩ := ok.gp.go.out hD2 nD2 sD2
          unfold dLcL at e4
          split at e4
          · rename_i e5 eq5
            refine ⟨e3, S3, f2, _, a3, ok.rp, _, eq5, fun σ4 S4 H4 f4 a4 m4 l4 k4 => ?_⟩
            have wq : L2.wipe σ4 vs = L2.wipe σ vs := wipe_eq (by rw [l4, wipe_length]) fun j hj => k4 j fun z => hj (hts j z)
            obtain ⟨hD4, nD4, sD4⟩ := m4.out hD3 nD3 sD3
            refine ⟨wq, ?_⟩
            split at e4
            · rename_i e6 eq6
              split at e4
              · rename_i y e7 eq7
                split at e4
                · rename_i hc
                  refine ⟨_, S4, f4, a4, _, _, eq6, fun S5 H5 f5 a5 m5 => iteT ?_⟩
                  obtain ⟨hD5, nD5, sD5⟩ := m5.out hD4 nD4 sD4
                  refine ⟨_, S5, f5, a5, y, _, eq7, fun v S6 H6 f6 a6 m6 r6 => ?_⟩
                  obtain ⟨hD6, nD6, sD6⟩ := m6.out hD5 nD5 sD5
                  have gg : Go S1 H1 f1 S6 H6 f6 := g2.trans (ok.gp.go.trans (m4.trans (m5.trans m6)))
                  have ss : Same S2 S6 := ok.gp.s.trans (m4.s.trans (m5.s.trans m6.s))
                  refine ⟨accV, hD6, by rw [r2.len]; exact hc.1, rfl, hlt, wipeE e7 vs, S6, f6, acc ++ [y], accV ++ [v], ?_, Go.new' gg hD, upd_same, (r2.up ss).append (.cons r6 .nil), nD6, sD6, blank _, e4⟩
                  have w6 := a6.ow.wipe hc.2
                  rw [wq] at w6
                  exact At.upd ⟨a6.sub, a6.nd, w6⟩ sD6 nD6
                · cases e4
              · cases e4
            · rename_i e6 eq6
              split at e4
              · rename_i hc
                refine ⟨_, S4, f4, a4, _, _, eq6, fun S5 H5 f5 a5 m5 => iteF ?_⟩
                obtain ⟨hD5, nD5, sD5⟩ := m5.out hD4 nD4 sD4
                have gg : Go S1 H1 f1 S5 H5 f5 := g2.trans (ok.gp.go.trans (m4.trans m5))
                have ss : Same S2 S5 := ok.gp.s.trans (m4.s.trans m5.s)
                refine ⟨rfl, hlt, wipeE e6 vs, S5, f5, acc, accV, ?_, gg, hD5, r2.up ss, nD5, sD5, blank _, e4⟩
                have w5 := a5.ow.wipe hc
                rw [wq] at w5
                exact ⟨a5.sub, a5.nd, w5⟩
              · cases e4
            · cases e4
          · cases e4
        · have ei : i = ds.length := by omega
          subst ei
          rw [List.drop_length] at e4
          cases e4
          refine .inl ⟨yl.stop S2 H2 g2.s a2.sub, ?_⟩
          have u2 := OwE.unwipe a2.ow bl
          obtain ⟨f3, p3, p4⟩ := OwE.rest (H' := H2) a1.ow g2.s hf u2
          have nD3 : D ∉ f3 := fun z => nD2 (p3.mem_iff.mp z)
          refine q (.ref D) S2 H2 (D :: f3) ⟨a2.sub, List.nodup_cons.mpr ⟨nD3, p3.nodup_iff.mpr a2.nd⟩, OwE.yes (f := [D]) (.inr (.inl ⟨D, accV, _, [], rfl, rfl, hD2, sD2, rfl, OwL.of r2⟩)) p4⟩ (m1.trans ?_)
          refine ⟨g2.s, g2.fr, g2.dom, fun a ha => ?_, g2.sf⟩
          rcases List.mem_cons.mp ha with z | z
          · subst z; exact .inr hD
          · exact g2.new a (p3.mem_iff.mp z)
      · cases e
    · cases e
  · cases e
theorem PTs.mono {ifs : List Expr} {t t' : TT} (h : PTs X ifs t) (m : ∀ σ H Q, t' σ H Q → t σ H Q) : PTs X ifs t' := ⟨fun pins s σ H Q I w => h.run pins s σ H Q I (m _ _ _ w)⟩
def dtYes : DT := fun env => some (true, env)
theorem qts_nil : PTs X [] (LT K dtYes) := PTs.mono pts_nil fun σ H Q ⟨env, S, fp, a0, b, env', e, q⟩ => by
  cases e
  exact q S H fp a0 .refl
theorem qts_one {c : Expr} {τ : DT} (h : PT X c (LT K τ)) : PTs X [c] (LT K τ) := pts_one h
theorem subset_of {ts vs : List Nat} (h : (ts.all fun i => vs.contains i) = true) : ∀ i ∈ ts, i ∈ vs := fun i hi => by
  have q := List.all_eq_true.mp h i hi
  rwa [List.contains_eq_mem, decide_eq_true_eq] at q
section
variable {elt tg iter : Expr} {ifs : List Expr} {scope : Scope} {pos : Pos} {ι : DI} {g : DG} {ts : List Nat} {τ : DT} {ε : DE}
theorem qo_lc (own : List (Str × Nat)) (hc : X.calm = true) (hN : X.N.Nodup) (hi : PI X tg iter (LI K ι)) (ok : BlkOk X.N X.env.scope scope own)
    (hg : ∀ (s : Shared) (H : Hp) (C : Addr) (cl : List (Str × Addr)) (fp : List Addr), PG (X.blk s H scope (compEnvC scope cl C X.env) fp) tg (LG K ts g)) (ht : ∀ (s : Shared) (H : Hp) (C : Addr) (cl : List (Str × Addr)) (fp : List Addr), PTs (X.blk s H scope (compEnvC scope cl C X.env) fp) ifs (LT K τ))
    (he : ∀ (s : Shared) (H : Hp) (C : Addr) (cl : List (Str × Addr)) (fp : List Addr), PE (X.blk s H scope (compEnvC scope cl C X.env) fp) elt (LE K ε)) (hts : (ts.all fun i => (own.map (·.2)).contains i) = true := by rfl) (hs : ∀ x, foldedSetIterable iter X.env x = pure x := by intro _; rfl) :
    PE X (.ListComp elt [⟨tg, iter, ifs, 0⟩] scope pos) (LO K (dLc ι (own.map (·.2)) g τ ε)) := PE.mono (pe_lc hc hN hi ok hg ht he hs) fun _ _ _ w => w.lc (subset_of hts)
theorem qs_setLc {kp : List Nat} (i : Nat) (own : List (Str × Nat)) {y : Str} {py spos : Pos} (hc : X.calm = true) (hN : X.N.Nodup) (hi : PI X tg iter (LI K ι)) (ok : BlkOk X.N X.env.scope scope own)
    (hg : ∀ (s : Shared) (H : Hp) (C : Addr) (cl : List (Str × Addr)) (fp : List Addr), PG (X.blk s H scope (compEnvC scope cl C X.env) fp) tg (LG K ts g)) (ht : ∀ (s : Shared) (H : Hp) (C : Addr) (cl : List (Str × Addr)) (fp : List Addr), PTs (X.blk s H scope (compEnvC scope cl C X.env) fp) ifs (LT K τ))
    (he : ∀ (s : Shared) (H : Hp) (C : Addr) (cl : List (Str × Addr)) (fp : List Addr), PE (X.blk s H scope (compEnvC scope cl C X.env) fp) elt (LE K ε)) (hts : (ts.all fun i => (own.map (·.2)).contains i) = true := by rfl)
    (hk : kp.contains i = false := by rfl) (hy : X.N[i]? = some y := by rfl) (hyl : X.env.scope.names.lookup y = some .local := by rfl) (hsw : swapsWith (.ListComp elt [⟨tg, iter, ifs, 0⟩] scope pos) (some (.Name y py)) spos.line X.env = pure true := by first | exact sw_true rfl rfl rfl (by decide +kernel) | rfl) (hs : ∀ x, foldedSetIterable iter X.env x = pure x := by intro _; rfl) :
    PS X (.Assign [.Name y py] (.ListComp elt [⟨tg, iter, ifs, 0⟩] scope pos) spos) (LS K kp (dSetO i (dLc ι (own.map (·.2)) g τ ε))) := by
  refine PS.mono (ps_setLc hc hN hy hyl hsw hi ok hg ht he hs) fun D σ H w => ?_
  have z := LS.setO hk w
  obtain ⟨env, S, fp, a0, s, env', e, q⟩ := z
  exact LO.lc (subset_of hts) ⟨env, S, fp, a0, s, env', e, q⟩
end
end
end Dn

set_option Elab.async false
set_option linter.all false
set_option maxRecDepth 100000
set_option maxHeartbeats 1000000
/-! layer D, 8: more of the operators and the builtins -/
namespace Dn
open PySem PySem.Spec PyProof.Rows L2
section
variable {X : Cx} {K : Fr}
/-! ### what is not reached -/
def dNo {α : Type} : En → Option α := fun _ => none
theorem qp_never {e : Expr} : PE X e (LP K dNo) := ⟨fun _ _ _ _ _ _ h => by obtain ⟨_, _, _, _, _, e, _⟩ := h; cases e⟩
theorem qe_never {e : Expr} : PE X e (LE K dNo) := ⟨fun _ _ _ _ _ _ h => by obtain ⟨_, _, _, _, _, _, e, _⟩ := h; cases e⟩
theorem qo_never {e : Expr} : PE X e (LO K dNo) := ⟨fun _ _ _ _ _ _ h => by obtain ⟨_, _, _, _, _, _, e, _⟩ := h; cases e⟩
theorem qt_never {e : Expr} : PT X e (LT K dNo) := ⟨fun _ _ _ _ _ _ h => by obtain ⟨_, _, _, _, _, _, e, _⟩ := h; cases e⟩
/-! ### chains of values -/
def dChainE (g g' : PyData → PyData → Option PyData) (α β γ : DE) : DE := fun env => match α env with
  | some (x, e1) => (match β e1 with
    | some (y, e2) => (match g x y with
      | some (.bool true) => (match γ e2 with
        | some (z, e3) => (match g' y z with | some d => some (d, e3) | none => none)
        | none => none)
      | some (.bool false) => some (.bool false, e2)
      | _ => none)
    | none => none)
  | none => none
theorem LE.chain {r r' : R2} {g g' : PyData → PyData → Option PyData} (hr : OpG K r g) (hr' : OpG K r' g') {α β γ : DE} {σ : Sg} {H : Hp} {Q : VK} (h : LE K (dChainE g g' α β γ) σ H Q) : tChain r r' (LE K α) (LE K β) (LE K γ) σ H Q := by
  obtain ⟨env, S, fp, a0, d, env', e, q⟩ := h
  unfold dChainE at e
  split at e
  · rename_i x e1 ex
    split at e
    · rename_i y e2 ey
      refine ⟨env, S, fp, a0, x, _, ex, fun v S1 H1 f1 a1 m1 r1 => ?_⟩
      refine ⟨_, S1, f1, a1, y, _, ey, fun u S2 H2 f2 a2 m2 r2 => ?_⟩
      split at e
      · rename_i ed
        split at e
        · rename_i z e3 ez
          split at e
          · rename_i d' ed2
            cases e
            refine hr _ _ _ ed S2 H2 v u _ a2.sub (.inl (r1.up m2.s)) (.inl r2) (Res.ofE a2 fun w S3 H3 f3 a3 m3 r3 => ⟨true, (by cases r3; rfl), ?_⟩)
            refine iteT ?_
            refine ⟨_, S3, f3, a3, z, _, ez, fun t S4 H4 f4 a4 m4 r4 => ?_⟩
            refine hr' _ _ _ ed2 S4 H4 u t Q a4.sub (.inl (r2.up (m3.s.trans m4.s))) (.inl r4) (Res.ofE a4 fun y S5 H5 f5 a5 m5 r5 => ?_)
            exact q y S5 H5 f5 a5 (m1.trans (m2.trans (m3.trans (m4.trans m5)))) r5
          · cases e
        · cases e
      · rename_i ed
        cases e
        refine hr _ _ _ ed S2 H2 v u _ a2.sub (.inl (r1.up m2.s)) (.inl r2) (Res.ofE a2 fun w S3 H3 f3 a3 m3 r3 => ⟨false, (by cases r3; rfl), ?_⟩)
        refine iteF ?_
        exact q _ S3 H3 f3 a3 (m1.trans (m2.trans m3)) (.bl false)
      · cases e
    · cases e
  · cases e
theorem qe_chain {op op' : CmpOp} {r r' : R2} {g g' : PyData → PyData → Option PyData} {a b c : Expr} {pos : Pos} {α β γ : DE} (ho : OpR X (compareOp op) r) (hr : OpG K r g) (ho' : OpR X (compareOp op') r') (hr' : OpG K r' g') (ha : PE X a (LE K α)) (hb : PE X b (LE K β)) (hc : PE X c (LE K γ))
    (hm : lastMarks [op, op'] [b, c] = false := by with_unfolding_all rfl) : PE X (.Compare a [op, op'] [b, c] pos) (LE K (dChainE g g' α β γ)) :=
  PE.mono (pe_chain ho ho' ha hb hc hm) fun _ _ _ w => w.chain hr hr'
theorem qt_chainE {op op' : CmpOp} {r r' : R2} {g g' : PyData → PyData → Option PyData} {a b c : Expr} {pos : Pos} {α β γ : DE} (ho : OpR X (compareOp op) r) (hr : OpG K r g) (ho' : OpR X (compareOp op') r') (hr' : OpG K r' g') (ha : PE X a (LE K α)) (hb : PE X b (LE K β)) (hc : PE X c (LE K γ))
    (hm : lastMarks [op, op'] [b, c] = false := by with_unfolding_all rfl) : PT X (.Compare a [op, op'] [b, c] pos) (LT K (tst (dChainE g g' α β γ))) :=
  PT.mono (pt_chain ho ho' ha hb hc hm) fun _ _ _ w => (w.tst).chain hr hr'
/-! ### tuples of ints: before, not behind; tuple * int -/
theorem RpL.ints' {S : Hp} {ns : List Int} {vs : List V} {ds : List PyData} (h : RpL K S vs ds) (e : intsD ds = some ns) : vs = ns.map V.int := RpL.ints (by rw [← intsD_eq e]; exact h)
def leI : List Int → List Int → Bool
  | [], _ => true
  | _ :: _, [] => false
  | x :: xs, y :: ys => if x = y then leI xs ys else decide (x ≤ y)
def ltI : List Int → List Int → Bool
  | [], [] => false
  | [], _ :: _ => true
  | _ :: _, [] => false
  | x :: xs, y :: ys => if x = y then ltI xs ys else decide (x < y)
theorem lexAt_shift {e r : Nat → Bool} {b : Bool} : ∀ (n i : Nat), Ob.lexAt e r b (i + 1) n = Ob.lexAt (fun j => e (j + 1)) (fun j => r (j + 1)) b i n
  | 0, i => rfl
  | n + 1, i => by
    simp only [Ob.lexAt]
    rw [lexAt_shift n (i + 1)]
theorem lexAt_le : ∀ (ns ms : List Int), Ob.lexAt (fun j => decide (ns.getD j 0 = ms.getD j 0)) (fun j => decide (ns.getD j 0 ≤ ms.getD j 0)) (decide (ns.length ≤ ms.length)) 0 (min ns.length ms.length) = leI ns ms
  | [], ms => by simp [Ob.lexAt, leI]
  | n :: ns, [] => by simp [Ob.lexAt, leI]
  | n :: ns, m :: ms => by
    have e : min (n :: ns).length (m :: ms).length = min ns.length ms.length + 1 := by simp only [List.length_cons]; omega
    rw [e]
    simp only [Ob.lexAt, leI]
    rw [lexAt_shift]
    have ih := lexAt_le ns ms
    simp only [List.getD_cons_zero, List.getD_cons_succ, List.length_cons, Nat.add_le_add_iff_right] at ih ⊢
    rw [ih]
    by_cases h : n = m
    · simp [h]
    · simp [h]
def gTT (f : List Int → List Int → Bool) : PyData → PyData → Option PyData := fun x y => match x, y with
  | .tuple a, .tuple b => (match intsD a, intsD b with
    | some ns, some ms => some (.bool (f ns ms))
    | _, _ => none)
  | _, _ => none
theorem opn_leT : OpN K (rLeT K) (gTT leI) := by
  intro d1 d2 d e S H v u Q sub hv hu hr
  unfold gTT at e
  split at e
  · rename_i a b
    split at e
    · rename_i ns ms h1 h2
      cases e
      obtain ⟨p, xs, rfl, _, t1, r1⟩ := hv.tuple sub
      obtain ⟨q, ys, rfl, _, t2, r2⟩ := hu.tuple sub
      refine ⟨p, q, ns, ms, rfl, rfl, by rw [← r1.ints' h1]; exact t1, by rw [← r2.ints' h2]; exact t2, ?_⟩
      rw [lexAt_le]
      exact hr.old _ (fun _ z => by cases z) (.bl _)
    · cases e
  · cases e
def gLtT := gTT HT.lexLt
theorem opn_ltT : OpN K (rLtT K) gLtT := by
  intro d1 d2 d e S H v u Q sub hv hu hr
  unfold gLtT gTT at e
  split at e
  · rename_i a b
    split at e
    · rename_i ns ms h1 h2
      cases e
      obtain ⟨p, xs, rfl, _, t1, r1⟩ := hv.tuple sub
      obtain ⟨q, ys, rfl, _, t2, r2⟩ := hu.tuple sub
      exact ⟨p, q, ns, ms, rfl, rfl, by rw [← r1.ints' h1]; exact t1, by rw [← r2.ints' h2]; exact t2, hr.old _ (fun _ z => by cases z) (.bl _)⟩
    · cases e
  · cases e
def gLe' := gOr gLe (gTT leI)
def gLt' := gOr gLt gLtT
theorem n_le' : OpN K (fun x y H Q => rI0 (fun i j => V.bl (decide (i ≤ j))) x y H Q ∨ rLeT K x y H Q) gLe' := n_le.or opn_leT
theorem o_le' (hu : X.A.units < cLine) : OpR X (compareOp .LtE) (fun x y H Q => rI0 (fun i j => V.bl (decide (i ≤ j))) x y H Q ∨ rLeT X.K x y H Q) := op_le.or (op_leT hu)
theorem n_lt' : OpN K (fun x y H Q => rI0 (fun i j => V.bl (decide (i < j))) x y H Q ∨ rLtT K x y H Q) gLt' := n_lt.or opn_ltT
theorem o_lt' (hu : X.A.units < cLine) : OpR X (compareOp .Lt) (fun x y H Q => rI0 (fun i j => V.bl (decide (i < j))) x y H Q ∨ rLtT X.K x y H Q) := op_lt.or (op_ltT hu)
def gRepT : PyData → PyData → Option PyData := fun x y => match x, y with
  | .tuple a, .int k => if a ≠ [] ∧ 2 ≤ k ∧ k ≤ 1000 ∧ a.length ≤ 1000 then some (.tuple (List.replicate k.toNat a).flatten) else none
  | _, _ => none
theorem opn_repT : OpN K (rRepT K) gRepT := by
  intro d1 d2 d e S H v u Q sub hv hu hr
  unfold gRepT at e
  split at e
  · rename_i a k
    split at e
    · rename_i hc
      cases e
      obtain ⟨p, xs, rfl, _, t1, r1⟩ := hv.tuple sub
      have hk := hu.int
      subst hk
      refine ⟨p, k, xs, rfl, rfl, t1, fun z => hc.1 (r1.nil_iff.mp z), hc.2.1, hc.2.2.1, by rw [r1.len]; exact hc.2.2.2, fun q hq => ?_⟩
      exact hr.tup q _ _ rfl hq (r1.rep _)
    · cases e
  · cases e
/-- t * 1 is t -/
def gMul' := gOr gMul gRepT
theorem o_mul' : OpR X (binaryOp .Mult) (fun x y H Q => (rI CMulW (fun i j => V.int (i * j)) x y H Q ∨ rRepR X.K x y H Q) ∨ rRepT X.K x y H Q) := o_mul.or op_repT
theorem n_mul' : OpN K (fun x y H Q => (rI CMulW (fun i j => V.int (i * j)) x y H Q ∨ rRepR K x y H Q) ∨ rRepT K x y H Q) gMul' := n_mul.or opn_repT
end
end Dn

set_option Elab.async false
set_option linter.all false
set_option maxRecDepth 100000
set_option maxHeartbeats 1000000
/-! layer D, 8b: tuple * 1, sorted, max, min, remove -/
namespace Dn
open PySem PySem.Spec PyProof.Rows L2
theorem tuple_mul1 (l : Addr) (items : Array Value) (n : Nat) (dd : Option Addr) (sl : Array (Option Value)) (u : Tok) :
    Meets (Builtin.«tuple.__mul__» ⟨[.ref l, .int 1 u], []⟩) (fun _ R s => s.heap.get? l = some { cls := .type "tuple", dict := dd, data := .seq items n, slots := sl } ∧
      R (.ok (.ret (Value.ref l))) s) :=
  .of_wp fun prog w A R s h => by
    obtain ⟨hp, g, d, tk, os⟩ := s
    obtain ⟨hl, h⟩ := h
    have f1 := AutoSeq1.idx_int
    wp_walk using wpAny_loadPart' hl
    repeat (first
      | (refine wpAny_ite_false (decide_eq_false (by decide)) ?_; wp_walk using wpAny_loadPart' hl)
      | (refine wpAny_ite_true (by simp) ?_; wp_walk using wpAny_loadPart' hl))
    exact ⟨_, rfl, h⟩
def rRepT1 (K : Fr) : R2 := fun x y H Q => ∃ l xs, x = .ref l ∧ y = .int 1 ∧ SqT K H l xs ∧ Q (.ref l) H
section
variable {X : Cx} {K : Fr}
theorem op_repT1 : OpR X (binaryOp .Mult) (rRepT1 X.K) := by
  intro pins s σ H x y v u Q I rx ry h
  obtain ⟨l, xs, rfl, rfl, hT, q⟩ := h
  cases rx
  obtain ⟨t, rfl⟩ := ry
  obtain ⟨its, r, ⟨⟨cls, dd, data, sl⟩, ho, hc, n, hd⟩, hs⟩ := I.tuple hT
  simp only at hc hd
  subst hc hd
  refine wpAny_binaryOp_repeat_ref (T := "tuple") (U := "int") (by decide) ⟨_, ho, rfl⟩ (fun s' => typeIs_int s' 1 t) noFill_tuple_mul F.fills_int_mul F.slot_int_rmul repeat_tuple F.slot_int_index.lookup
    (call_meets F.slot_int_rmul (typeIs_int s 1 t) F.entry_int_rmul (F.args_int_rmul_2 _ _) (int_rmul_tuple 1 t l its.toArray n dd sl)
      ⟨ho, rfl, ⟨_, ho, rfl⟩, call_meets F.slot_tuple_mul ⟨_, ho, rfl⟩ F.entry_tuple_mul (F.args_tuple_mul_2 _ _) (tuple_mul1 l its.toArray n dd sl t) ⟨ho, ?_⟩⟩)
  exact ⟨.ref l, H, I, rfl, q⟩
def gRepT1 : PyData → PyData → Option PyData := fun x y => match x, y with
  | .tuple a, .int k => if k = 1 then some (.tuple a) else none
  | _, _ => none
theorem opn_repT1 : OpN K (rRepT1 K) gRepT1 := by
  intro d1 d2 d e S H v u Q sub hv hu hr
  unfold gRepT1 at e
  split at e
  · rename_i a k
    split at e
    · rename_i hc
      cases e
      subst hc
      obtain ⟨p, xs, rfl, t0, t1, r1⟩ := hv.tuple sub
      have hk := hu.int
      subst hk
      exact ⟨p, xs, rfl, rfl, t1, hr.old _ (fun _ z => by cases z) (.tup t0 r1)⟩
    · cases e
  · cases e
def gTimes := gOr gMul' gRepT1
theorem o_times : OpR X (binaryOp .Mult) (fun x y H Q => ((rI CMulW (fun i j => V.int (i * j)) x y H Q ∨ rRepR X.K x y H Q) ∨ rRepT X.K x y H Q) ∨ rRepT1 X.K x y H Q) := o_mul'.or op_repT1
theorem n_times : OpN K (fun x y H Q => ((rI CMulW (fun i j => V.int (i * j)) x y H Q ∨ rRepR K x y H Q) ∨ rRepT K x y H Q) ∨ rRepT1 K x y H Q) gTimes := n_mul'.or opn_repT1
/-! ### sorted(ints) -/
def sortI (ns : List Int) : List Int := ns.mergeSort (fun a b => decide (a ≤ b))
theorem sortI_perm (ns : List Int) : (sortI ns).Perm ns := List.mergeSort_perm ..
theorem sortI_sorted (ns : List Int) : (sortI ns).Pairwise (· ≤ ·) := by
  have := List.pairwise_mergeSort (le := fun a b : Int => decide (a ≤ b)) (fun a b c h1 h2 => by simp at *; omega) (fun a b => by simp; omega) ns
  exact this.imp fun h => by simpa using h
theorem sortI_uniq {ns ms : List Int} (p : ms.Perm ns) (h : ms.Pairwise (· ≤ ·)) : ms = sortI ns :=
  List.Perm.eq_of_pairwise (le := (· ≤ ·)) (fun a b _ _ h1 h2 => Int.le_antisymm h1 h2) h (sortI_sorted ns) (p.trans (sortI_perm ns).symm)
def gSortI : PyData → Option PyData
  | .list ds => (match intsD ds with | some ns => some (.list ((sortI ns).map PyData.int)) | none => none)
  | _ => none
theorem u_sortI : OpU K (rSortedI K) gSortI := by
  intro d1 d e S H v Q sub hv hr
  unfold gSortI at e
  split at e
  · rename_i ds
    split at e
    · rename_i ns hn
      cases e
      obtain ⟨a, xs, rfl, hs, r⟩ := hv.list sub
      refine ⟨a, ns, rfl, (by rw [← r.ints' hn]; exact hs.sq), fun ns' p pm pw hp => ?_⟩
      rw [sortI_uniq pm pw]
      exact hr.lst p _ _ rfl hp (RpL.ofInts _)
    · cases e
  · cases e
def gMaxL : PyData → Option PyData
  | .list ds => (match intsD ds with | some (n :: ns) => some (.int (ns.foldl max n)) | _ => none)
  | _ => none
def gMinL : PyData → Option PyData
  | .list ds => (match intsD ds with | some (n :: ns) => some (.int (ns.foldl min n)) | _ => none)
  | _ => none
theorem foldl_max : ∀ (ns : List Int) (n : Int), (n ≤ ns.foldl max n ∧ ∀ y ∈ ns, y ≤ ns.foldl max n) ∧ (ns.foldl max n = n ∨ ns.foldl max n ∈ ns)
  | [], n => ⟨⟨Int.le_refl _, fun _ h => by cases h⟩, .inl rfl⟩
  | m :: ns, n => by
    obtain ⟨⟨h1, h2⟩, h3⟩ := foldl_max ns (max n m)
    simp only [List.foldl_cons]
    refine ⟨⟨by omega, fun y hy => ?_⟩, ?_⟩
    · rcases List.mem_cons.mp hy with z | z
      · subst z; omega
      · exact h2 y z
    · rcases h3 with z | z
      · rw [z]
        by_cases q : n ≤ m
        · exact .inr (by rw [Int.max_eq_right q]; exact List.mem_cons_self)
        · exact .inl (Int.max_eq_left (by omega))
      · exact .inr (List.mem_cons_of_mem _ z)
theorem foldl_min : ∀ (ns : List Int) (n : Int), (ns.foldl min n ≤ n ∧ ∀ y ∈ ns, ns.foldl min n ≤ y) ∧ (ns.foldl min n = n ∨ ns.foldl min n ∈ ns)
  | [], n => ⟨⟨Int.le_refl _, fun _ h => by cases h⟩, .inl rfl⟩
  | m :: ns, n => by
    obtain ⟨⟨h1, h2⟩, h3⟩ := foldl_min ns (min n m)
    simp only [List.foldl_cons]
    refine ⟨⟨by omega, fun y hy => ?_⟩, ?_⟩
    · rcases List.mem_cons.mp hy with z | z
      · subst z; omega
      · exact h2 y z
    · rcases h3 with z | z
      · rw [z]
        by_cases q : n ≤ m
        · exact .inl (Int.min_eq_left q)
        · exact .inr (by rw [Int.min_eq_right (by omega)]; exact List.mem_cons_self)
      · exact .inr (List.mem_cons_of_mem _ z)
theorem u_maxL : OpU K (rMax K) gMaxL := by
  intro d1 d e S H v Q sub hv hr
  unfold gMaxL at e
  split at e
  · rename_i ds
    split at e
    · rename_i n ns hn
      cases e
      obtain ⟨a, xs, rfl, hs, r⟩ := hv.list sub
      refine ⟨a, n :: ns, rfl, (by rw [← r.ints' hn]; exact hs.sq), by simp, fun m hm hb => ?_⟩
      obtain ⟨⟨h1, h2⟩, h3⟩ := foldl_max ns n
      have e : m = ns.foldl max n := by
        refine Int.le_antisymm ?_ (hb _ ?_)
        · rcases List.mem_cons.mp hm with z | z
          · subst z; exact h1
          · exact h2 m z
        · rcases h3 with z | z
          · rw [z]; exact List.mem_cons_self
          · exact List.mem_cons_of_mem _ z
      rw [e]
      exact hr.old _ (fun _ z => by cases z) (.int _)
    · cases e
  · cases e
theorem u_minL : OpU K (rMin K) gMinL := by
  intro d1 d e S H v Q sub hv hr
  unfold gMinL at e
  split at e
  · rename_i ds
    split at e
    · rename_i n ns hn
      cases e
      obtain ⟨a, xs, rfl, hs, r⟩ := hv.list sub
      refine ⟨a, n :: ns, rfl, (by rw [← r.ints' hn]; exact hs.sq), by simp, fun m hm hb => ?_⟩
      obtain ⟨⟨h1, h2⟩, h3⟩ := foldl_min ns n
      have e : m = ns.foldl min n := by
        refine Int.le_antisymm (hb _ ?_) ?_
        · rcases h3 with z | z
          · rw [z]; exact List.mem_cons_self
          · exact List.mem_cons_of_mem _ z
        · rcases List.mem_cons.mp hm with z | z
          · subst z; exact h1
          · exact h2 m z
      rw [e]
      exact hr.old _ (fun _ z => by cases z) (.int _)
    · cases e
  · cases e
/-! ### xs.remove(k) -/
def remI : Int → List Int → Option Nat
  | _, [] => none
  | k, n :: ns => if n = k then some 0 else (match remI k ns with | some j => some (j + 1) | none => none)
theorem remI_at : ∀ {k : Int} {ns : List Int} {j : Nat}, remI k ns = some j → ns[j]? = some k ∧ ∀ m : Nat, m < j → ns[m]? ≠ some k
  | k, [], j, e => by cases e
  | k, n :: ns, j, e => by
    unfold remI at e
    split at e
    · rename_i h; cases e; subst h; exact ⟨rfl, fun m hm => by omega⟩
    · rename_i h
      split at e
      · rename_i j' ej
        cases e
        obtain ⟨h1, h2⟩ := remI_at ej
        refine ⟨by simpa using h1, fun m hm => ?_⟩
        cases m with
        | zero => simpa using h
        | succ m => simpa using h2 m (by omega)
      · cases e
def mRemove : List PyData → List PyData → Option (PyData × List PyData) := fun ds as => match as with
  | [.int k] => (match intsD ds with
    | some ns => (match remI k ns with | some j => some (.none, ds.eraseIdx j) | none => none)
    | none => none)
  | _ => none
theorem m_remove : OpM K rRemI mRemove := by
  intro ds as res ds' e S H a xs vs Q sub hs r1 r2 q
  unfold mRemove at e
  split at e
  · rename_i k
    split at e
    · rename_i ns hn
      split at e
      · rename_i j hj
        cases e
        cases r2 with
        | cons h1 h2 =>
          cases h1; cases h2
          obtain ⟨e1, e2⟩ := remI_at hj
          refine ⟨a, ns, k, j, rfl, rfl, by rw [hs, r1.ints' hn], e1, e2, ?_⟩
          refine q _ _ .non ?_
          have := r1.erase j
          rw [r1.ints' hn] at this
          rw [erase_mapI] at this
          exact this
      · cases e
    · cases e
  · cases e
end
end Dn

set_option Elab.async false
set_option linter.all false
set_option maxRecDepth 100000
set_option maxHeartbeats 1000000
/-! layer D, 8c: sorted(tuples of ints) -/
namespace Dn
open PySem PySem.Spec PyProof.Rows L2
abbrev sh0 : Nat → Bool := fun _ => false
theorem tupItems_ints : ∀ {us : List Value} {ns : List Int} (i : Nat), IntsAre us ns → tupItems sh0 i us = some (ns.map Sum.inl)
  | _, _, _, .nil => rfl
  | _, _, i, .cons n t h => by
    show (if sh0 i = true then none else (tupItems sh0 (i + 1) _).map (Sum.inl n :: ·)) = _
    rw [if_neg (show ¬ (false = true) by decide), tupItems_ints (i + 1) h]
    rfl
theorem tupKey_ints {h : Heap} {t : Addr} {us : List Value} {ns : List Int} (ht : IsTup h t us.toArray) (hi : IntsAre us ns) : G.tupKeyC h sh0 (.ref t) = some (ns.map Sum.inl) := by
  obtain ⟨o, ho, hc, n, hd⟩ := ht
  have e1 : G.isTupObj h (.ref t) = true := by simp [G.isTupObj, ho, hc]
  unfold G.tupKeyC
  rw [if_pos e1]
  simp only [tupKey, ho, hd]
  exact tupItems_ints 0 hi
theorem lexLt_inl : ∀ (ns ms : List Int), lexLt itemOrd (ns.map Sum.inl) (ms.map Sum.inl) = ltI ns ms
  | [], [] => rfl
  | [], _ :: _ => rfl
  | _ :: _, [] => rfl
  | n :: ns, m :: ms => by
    show (itemOrd.blt (Sum.inl n) (Sum.inl m) || (!itemOrd.blt (Sum.inl m) (Sum.inl n) && lexLt itemOrd (ns.map Sum.inl) (ms.map Sum.inl))) = ltI (n :: ns) (m :: ms)
    rw [lexLt_inl ns ms]
    show (decide (n < m) || (!decide (m < n) && ltI ns ms)) = if n = m then ltI ns ms else decide (n < m)
    by_cases h : n = m
    · subst h; simp
    · rw [if_neg h]
      by_cases q : n < m
      · simp [q]
      · have : m < n := by omega
        simp [q, this]
/-- the values, with their keys -/
theorem sorted_out {h : Heap} {its : List Value} {arr : Array Keyed} (hp : arr.Perm (pairsOf its)) (hs : SortedToK (G.tupKindC h sh0) arr (pairsOf its).size) :
    (arr.map (·.2)).toList.Perm its ∧ (arr.map (·.2)).toList.Pairwise fun u v => lexLt itemOrd ((G.tupKeyC h sh0 v).getD []) ((G.tupKeyC h sh0 u).getD []) = false := by
  have hl := Array.perm_iff_toList_perm.mp hp
  rw [pairsOf_toList] at hl
  have hself : ∀ p ∈ arr.toList, p.1 = p.2 := fun p hp => by
    have hm := hl.mem_iff.mp hp
    obtain ⟨i, hi, e⟩ := List.getElem_of_mem hm
    rw [List.getElem_zip] at e
    rw [← e]
  have hlen : arr.toList.length = its.length := by rw [hl.length_eq]; simp
  refine ⟨?_, ?_⟩
  · rw [Array.toList_map]
    have := hl.map (fun p => p.2)
    refine this.trans ?_
    rw [List.map_snd_zip (by simp)]
  · rw [Array.toList_map, List.pairwise_map, List.pairwise_iff_getElem]
    intro i j hi hj hij
    have k := hs i j (Nat.le_of_lt hij) (by rw [pairsOf_size, ← hlen]; exact hj)
    have ei : arr[i]? = some arr.toList[i] := by rw [← Array.getElem?_toList, List.getElem?_eq_getElem hi]
    have ej : arr[j]? = some arr.toList[j] := by rw [← Array.getElem?_toList, List.getElem?_eq_getElem hj]
    have k0 : KK (G.tupKindC h sh0) arr i = (G.tupKeyC h sh0 arr.toList[i].1).getD [] := by unfold KK; rw [ei]
    have k1 : KK (G.tupKindC h sh0) arr j = (G.tupKeyC h sh0 arr.toList[j].1).getD [] := by unfold KK; rw [ej]
    rw [k0, k1, hself _ (List.getElem_mem hi), hself _ (List.getElem_mem hj)] at k
    exact k
def rSortN (K : Fr) : List V → Hp → VK → Prop := fun vs H Q => ∃ (a : Addr) (xs : List V), vs = [V.ref a] ∧ SqL K H a xs ∧ (∀ x ∈ xs, ∃ ns, TupI K H x ns ∧ ns ≠ []) ∧
  ∀ (ys : List V) (p : Addr), ys.Perm xs → ys.Pairwise (fun x y => ∀ n m, TupI K H x n → TupI K H y m → ltI m n = false) → H p = none → Q (.ref p) (upd H p (.lst ys))
section
variable {X : Cx} {K : Fr}
theorem tupsOf_mk {h : Heap} : ∀ {vs : List Value}, (∀ v ∈ vs, ∃ f, TupOf h sh0 v f) → ∃ fs, TupsOf h sh0 vs fs
  | [], _ => ⟨[], .nil⟩
  | v :: vs, h => by
    obtain ⟨f, hf⟩ := h v List.mem_cons_self
    obtain ⟨fs, hfs⟩ := tupsOf_mk (vs := vs) fun u hu => h u (List.mem_cons_of_mem _ hu)
    exact ⟨f :: fs, .cons hf hfs⟩
theorem cr_sortN : CallR X (.builtin "sorted") (rSortN X.K) := by
  intro pins s σ H vs us Q I r h
  obtain ⟨a, xs, rfl, hs, hx, q⟩ := h
  obtain ⟨its, rv, hl, hz⟩ := I.list hs
  rw [Vals.ref1 r]
  obtain ⟨e1, e2⟩ := bkV_refs rv fun x m => by
    obtain ⟨ns, ⟨t, e, _⟩, _⟩ := hx x m
    exact ⟨t, e⟩
  have key : ∀ v ∈ its, ∃ (t : Addr) (u1 : List Value) (ns : List Int), v = .ref t ∧ IsTup s.heap t u1.toArray ∧ IntsAre u1 ns ∧ ns ≠ [] := fun v hv => by
    obtain ⟨t, rfl⟩ := e2 v hv
    have hm : V.ref t ∈ xs := by rw [e1]; exact List.mem_map.mpr ⟨_, hv, rfl⟩
    obtain ⟨ns, ⟨t', e, ht⟩, hn⟩ := hx _ hm
    cases e
    obtain ⟨u1, ru, hT, _⟩ := I.tuple ht
    exact ⟨t, u1, ns, rfl, hT, by simpa using ru.ints, hn⟩
  obtain ⟨fs, hfs⟩ := tupsOf_mk (h := s.heap) (vs := its) fun v hv => by
    obtain ⟨t, u1, ns, rfl, hT, hi, hn⟩ := key v hv
    obtain ⟨o, ho, hc, n, hd⟩ := hT
    cases hi with
    | nil => exact absurd rfl hn
    | cons m tk hr => exact ⟨.int m tk, t, o, _, n, rfl, ho, hc, hd, rfl, fun _ => ⟨m, tk, rfl⟩, fun z => by cases z⟩
  refine G.sorted_tups (shape := sh0) (fs := fs) hl.isList hfs (fun v hv => ?_) (by rw [← rv.length]; exact hz) fun st' h1 h2 _ => ?_
  · obtain ⟨t, u1, ns, rfl, hT, hi, hn⟩ := key v hv
    exact ⟨_, tupKey_ints hT hi⟩
  · obtain ⟨p1, p2⟩ := sorted_out h1 h2
    obtain ⟨ep, he'⟩ := PyProof.Rows.sortedAll_at s.heap its ((arrOf st').map (·.2))
    have h3 : ∀ u ∈ ((arrOf st').map (·.2)).toList, ∃ a, u = Value.ref a := fun u hu => e2 u (p1.mem_iff.mp hu)
    have hp : (((arrOf st').map (·.2)).toList.map bkV).Perm xs := by
      rw [e1]
      exact p1.map bkV
    have hlen : (((arrOf st').map (·.2)).toList.map bkV).length ≤ sizeLine := by
      rw [hp.length_eq]
      exact hz
    refine ⟨.ref _, upd H (s.heap.objs.size + 1) (.lst (((arrOf st').map (·.2)).toList.map bkV)), I.laid (t' := s.toks) (fun _ _ => PyProof.Rows.sortedAll_old) (Nat.le_succ _) ⟨hlen, ((arrOf st').map (·.2)).toList, ep, bkV_vals h3, he'⟩, rfl, q _ _ hp ?_ (I.hok.fresh (Nat.le_succ _))⟩
    rw [List.pairwise_map]
    refine List.Pairwise.imp (fun {u v} huv n m hn hm => ?_) p2
    obtain ⟨t, et, ht⟩ := hn
    obtain ⟨t', et', ht'⟩ := hm
    have eu := bkV_ref et
    have ev := bkV_ref et'
    subst eu ev
    obtain ⟨u1, ru1, hT1, _⟩ := I.tuple ht
    obtain ⟨u2, ru2, hT2, _⟩ := I.tuple ht'
    rw [tupKey_ints hT1 (by simpa using ru1.ints), tupKey_ints hT2 (by simpa using ru2.ints)] at huv
    rw [← lexLt_inl]
    exact huv
end
/-! the order -/
theorem ltI_iff : ∀ {a b : List Int}, ltI a b = true → ltI b a = false
  | [], [], h => by cases h
  | [], _ :: _, _ => rfl
  | _ :: _, [], h => by cases h
  | x :: xs, y :: ys, h => by
    unfold ltI at h ⊢
    by_cases e : x = y
    · subst e; simp only [if_true] at h ⊢; exact ltI_iff h
    · rw [if_neg e] at h
      rw [if_neg (Ne.symm e)]
      have := of_decide_eq_true h
      exact decide_eq_false (by omega)
theorem ltI_le : ∀ (a b : List Int), (!ltI b a) = leI a b
  | [], [] => rfl
  | [], _ :: _ => rfl
  | _ :: _, [] => rfl
  | x :: xs, y :: ys => by
    unfold ltI leI
    by_cases e : x = y
    · subst e; simp only [if_true]; exact ltI_le xs ys
    · rw [if_neg e, if_neg (Ne.symm e)]
      by_cases q : x ≤ y
      · have : ¬ y < x := by omega
        simp [q, this]
      · have : y < x := by omega
        simp [q, this]
theorem leI_total : ∀ (a b : List Int), (leI a b || leI b a) = true
  | [], _ => by simp [leI]
  | _ :: _, [] => rfl
  | x :: xs, y :: ys => by
    unfold leI
    by_cases e : x = y
    · subst e; simp only [if_true]; exact leI_total xs ys
    · rw [if_neg e, if_neg (Ne.symm e)]
      by_cases q : x ≤ y
      · simp [q]
      · have : y ≤ x := by omega
        simp [this]
theorem leI_trans : ∀ {a b c : List Int}, leI a b = true → leI b c = true → leI a c = true
  | [], _, _, _, _ => rfl
  | _ :: _, [], _, h, _ => by cases h
  | _ :: _, _ :: _, [], _, h => by cases h
  | x :: xs, y :: ys, z :: zs, h1, h2 => by
    unfold leI at h1 h2 ⊢
    by_cases e : x = y
    · subst e
      simp only [if_true] at h1
      by_cases e' : x = z
      · subst e'; simp only [if_true] at h2 ⊢; exact leI_trans h1 h2
      · rw [if_neg e'] at h2 ⊢; exact h2
    · rw [if_neg e] at h1
      have q := of_decide_eq_true h1
      by_cases e' : y = z
      · subst e'; rw [if_neg e]; exact h1
      · rw [if_neg e'] at h2
        have q2 := of_decide_eq_true h2
        rw [if_neg (by omega)]
        exact decide_eq_true (by omega)
theorem leI_anti : ∀ {a b : List Int}, leI a b = true → leI b a = true → a = b
  | [], [], _, _ => rfl
  | [], _ :: _, _, h => by cases h
  | _ :: _, [], h, _ => by cases h
  | x :: xs, y :: ys, h1, h2 => by
    unfold leI at h1 h2
    by_cases e : x = y
    · subst e
      simp only [if_true] at h1 h2
      rw [leI_anti h1 h2]
    · rw [if_neg e] at h1
      rw [if_neg (Ne.symm e)] at h2
      have q := of_decide_eq_true h1
      have q2 := of_decide_eq_true h2
      omega
def sortN (ns : List (List Int)) : List (List Int) := ns.mergeSort leI
theorem sortN_perm (ns : List (List Int)) : (sortN ns).Perm ns := List.mergeSort_perm ..
theorem sortN_sorted (ns : List (List Int)) : (sortN ns).Pairwise (fun a b => leI a b = true) :=
  List.pairwise_mergeSort (le := leI) (fun a b c h1 h2 => leI_trans h1 h2) (fun a b => leI_total a b) ns
theorem sortN_uniq {ns ms : List (List Int)} (p : ms.Perm ns) (h : ms.Pairwise (fun a b => leI a b = true)) : ms = sortN ns :=
  List.Perm.eq_of_pairwise (le := fun a b => leI a b = true) (fun a b _ _ h1 h2 => leI_anti h1 h2) h (sortN_sorted ns) (p.trans (sortN_perm ns).symm)
/-- tuples of ints -/
def tupsD : List PyData → Option (List (List Int))
  | [] => some []
  | .tuple ds :: r => (match intsD ds, tupsD r with | some n, some l => some (n :: l) | _, _ => none)
  | _ => none
def tupD (ns : List Int) : PyData := .tuple (ns.map PyData.int)
theorem tupsD_eq : ∀ {ds : List PyData} {ns : List (List Int)}, tupsD ds = some ns → ds = ns.map tupD
  | [], _, h => by cases h; rfl
  | d :: r, _, h => by
    cases d with
    | tuple ds =>
      unfold tupsD at h
      split at h
      · rename_i n l h1 h2
        cases h
        rw [List.map_cons, ← tupsD_eq h2, tupD, ← intsD_eq h1]
      · cases h
    | _ => cases h
theorem tupsD_map : ∀ ns : List (List Int), tupsD (ns.map tupD) = some ns
  | [] => rfl
  | n :: ns => by simp only [List.map_cons, tupD, tupsD, intsD_map, tupsD_map ns]
section
variable {K : Fr} {S : Hp}
theorem RpL.perm {xs ys : List V} {ds : List PyData} (p : ys.Perm xs) : ∀ {ds : List PyData}, RpL K S xs ds → ∃ ds', ds'.Perm ds ∧ RpL K S ys ds' := by
  induction p with
  | nil => intro ds h; exact ⟨ds, .refl _, h⟩
  | cons x p ih =>
    intro ds h
    cases h with
    | cons r t =>
      obtain ⟨ds', p', t'⟩ := ih t
      exact ⟨_, p'.cons _, .cons r t'⟩
  | swap x y l =>
    intro ds h
    cases h with
    | cons r t =>
      cases t with
      | cons r' t' => exact ⟨_, .swap _ _ _, .cons r' (.cons r t')⟩
  | trans p1 p2 ih1 ih2 =>
    intro ds h
    obtain ⟨d1, q1, t1⟩ := ih2 h
    obtain ⟨d2, q2, t2⟩ := ih1 t1
    exact ⟨d2, q2.trans q1, t2⟩
theorem RpL.tupI {xs : List V} : ∀ {ns : List (List Int)}, RpL K S xs (ns.map tupD) → ∀ x ∈ xs, ∃ n ∈ ns, TupI K S x n
  | [], h => by cases h; intro x hx; cases hx
  | n :: ns, h => by
    cases h with
    | cons r t =>
      intro x hx
      rcases List.mem_cons.mp hx with z | z
      · subst z
        cases r with
        | tup hs ha => exact ⟨n, List.mem_cons_self, _, rfl, by rw [← ha.ints]; exact hs⟩
      · obtain ⟨m, hm, q⟩ := RpL.tupI t x z
        exact ⟨m, List.mem_cons_of_mem _ hm, q⟩
theorem RpL.pairI {R : List Int → List Int → Prop} : ∀ {xs : List V} {ns : List (List Int)}, RpL K S xs (ns.map tupD) → xs.Pairwise (fun x y => ∀ n m, TupI K S x n → TupI K S y m → R n m) → ns.Pairwise R
  | _, [], h, _ => .nil
  | _, n :: ns, h, p => by
    cases h with
    | cons r t =>
      obtain ⟨p1, p2⟩ := List.pairwise_cons.mp p
      refine List.pairwise_cons.mpr ⟨fun m hm => ?_, RpL.pairI t p2⟩
      rename_i v0 vs0
      have hx : TupI K S v0 n := by
        cases r with
        | tup hs ha => exact ⟨_, rfl, by rw [← ha.ints]; exact hs⟩
      obtain ⟨i, hi, e⟩ := List.getElem_of_mem hm
      obtain ⟨v, hv, rv⟩ := t.get (i := i) (d := tupD m) (by rw [List.getElem?_map, List.getElem?_eq_getElem hi, e]; rfl)
      refine p1 v (List.mem_of_getElem? hv) n m hx ?_
      cases rv with
      | tup hs ha => exact ⟨_, rfl, by rw [← ha.ints]; exact hs⟩
end
def gSortN : PyData → Option PyData
  | .list ds => (match tupsD ds with | some ns => if ns.all (fun n => !n.isEmpty) = true then some (.list ((sortN ns).map tupD)) else none | none => none)
  | _ => none
section
variable {X : Cx} {K : Fr}
theorem tupI_mono {S H : Hp} (sub : Same S H) {x : V} {n : List Int} (h : TupI K S x n) : TupI K H x n := by
  obtain ⟨t, e, q⟩ := h; exact ⟨t, e, sameT sub q⟩
theorem u_sortN : OpU K (rSortN K) gSortN := by
  intro d1 d e S H v Q sub hv hr
  unfold gSortN at e
  split at e
  · rename_i ds
    split at e
    · rename_i ns hn
      split at e
      · rename_i hne
        cases e
        obtain ⟨a, xs, rfl, hs, r⟩ := hv.list sub
        have ed := tupsD_eq hn
        subst ed
        refine ⟨a, xs, rfl, hs.sq, fun x hx => ?_, fun ys p pm pw hp => ?_⟩
        · obtain ⟨n, hn, q⟩ := r.tupI x hx
          refine ⟨n, tupI_mono sub q, fun z => ?_⟩
          have := List.all_eq_true.mp hne n hn
          rw [z] at this; cases this
        · obtain ⟨ds', p', r'⟩ := RpL.perm (ds := ns.map tupD) pm r
          have : ∃ ms : List (List Int), ds' = ms.map tupD ∧ ms.Perm ns := by
            have all : ∀ d ∈ ds', ∃ n, d = tupD n := fun d hd => by
              obtain ⟨n, _, e⟩ := List.mem_map.mp (p'.mem_iff.mp hd)
              exact ⟨n, e.symm⟩
            have inj : ∀ n m, tupD n = tupD m → n = m := fun n m h => by
              unfold tupD at h
              injection h with h
              have := intsD_map n
              rw [h, intsD_map] at this
              exact (Option.some.inj this).symm
            have ex : ∃ ms : List (List Int), ds' = ms.map tupD := by
              clear p' r'
              induction ds' with
              | nil => exact ⟨[], rfl⟩
              | cons d ds' ih =>
                obtain ⟨n, en⟩ := all d List.mem_cons_self
                obtain ⟨ms, em⟩ := ih fun d hd => all d (List.mem_cons_of_mem _ hd)
                exact ⟨n :: ms, by rw [List.map_cons, en, em]⟩
            obtain ⟨ms, em⟩ := ex
            subst em
            refine ⟨ms, rfl, ?_⟩
            have f : ∀ ns : List (List Int), (ns.map tupD).filterMap (fun d => match d with | .tuple ds => intsD ds | _ => none) = ns := fun ns => by
              induction ns with
              | nil => rfl
              | cons n ns ih => rw [List.map_cons, List.filterMap_cons]; simp only [tupD, intsD_map]; exact congrArg (n :: ·) ih
            have := p'.filterMap (fun d => match d with | .tuple ds => intsD ds | _ => none)
            rwa [f, f] at this
          obtain ⟨ms, rfl, pm2⟩ := this
          have pw2 := RpL.pairI (R := fun n m => ltI m n = false) r' (pw.imp fun h n m hn hm => h n m (tupI_mono sub hn) (tupI_mono sub hm))
          have em := sortN_uniq pm2 (pw2.imp fun {a b} h => by rw [← ltI_le, h]; rfl)
          rw [em] at r'
          exact hr.lst p ys _ rfl hp r'
      · cases e
    · cases e
  · cases e
def gSort : PyData → Option PyData := fun d => match gSortI d with | some x => some x | none => gSortN d
theorem o_sort : CallR X (.builtin "sorted") (fun vs H Q => rSortedI X.K vs H Q ∨ rSortN X.K vs H Q) := fun pins s σ H vs us Q I r h => h.elim (cr_sortedI pins s σ H vs us Q I r) (cr_sortN pins s σ H vs us Q I r)
theorem u_sort : OpU K (fun vs H Q => rSortedI K vs H Q ∨ rSortN K vs H Q) gSort := by
  intro d1 d e S H v Q sub hv hr
  unfold gSort at e
  split at e
  · rename_i x ex
    cases e
    exact .inl (u_sortI _ _ ex S H v Q sub hv hr)
  · exact .inr (u_sortN _ _ e S H v Q sub hv hr)
end
end Dn

set_option Elab.async false
set_option linter.all false
set_option maxRecDepth 100000
set_option maxHeartbeats 2000000
/-! layer D, 9: enumerate, zip -/
namespace Dn
open PySem PySem.Spec PyProof.Rows L2 RZ
theorem meets_enum1 {v : Value} {o : Obj} {H : Heap → Prop} (B : Begins v o H) :
    Meets (Builtin.«enumerate.__new__» ⟨[.type "enumerate", v], []⟩) (fun _ R s => H s.heap ∧
      R (.ok (.ret (.ref (s.heap.push o).objs.size))) { s with heap := (s.heap.push o).push { cls := .type "enumerate", data := .fields #[.none, .bool false, .ref s.heap.objs.size, rawInt 0, .none, .none] } }) :=
  .of_wp fun prog w A R s h => by
    obtain ⟨hp, g, d, tk, os⟩ := s; obtain ⟨h1, h⟩ := h
    have hsub := sub_enumerate
    have q1 : ∀ {A' : Around} {E : Value → Shared → Prop} {Q : Value → Shared → Prop}, Q (.ref hp.objs.size) ⟨hp.push o, g, d, tk, os⟩ → wpAny (model prog w) A' (pyIter v) Q E ⟨hp, g, d, tk, os⟩ :=
      fun q => B.iter prog w _ _ ⟨hp, g, d, tk, os⟩ _ h1 q
    wp_walk using q1
    refine wpAny_stack_any fun st => wpAny_pure ?_
    split
    · rename_i c _ _ _ _ _
      cases (c == Value.type "enumerate")
      · wp_walk using q1
        exact ⟨_, rfl, h⟩
      · wp_walk using q1
        exact ⟨_, rfl, h⟩
    · wp_walk using q1
      exact ⟨_, rfl, h⟩
section
variable {prog : Program} {w : World} {A : Around} {E : Value → Shared → Prop} {s : Shared}
theorem enum_begins1 {v : Value} {o : Obj} {H : Heap → Prop} {Q : Value → Shared → Prop} (B : Begins v o H) (h1 : H s.heap)
    (h : ∀ h', IsEnum h' (s.heap.objs.size + 1) s.heap.objs.size 0 .none → h'.get? s.heap.objs.size = some o → h'.objs.size = s.heap.objs.size + 2 →
      (∀ b o, s.heap.get? b = some o → h'.get? b = some o) → Q (.ref (s.heap.objs.size + 1)) { s with heap := h' }) :
    wpAny (model prog w) A (call (.type "enumerate") [v]) Q E s := by
  refine callType_new F.called_enumerate (by decide) (F.typeCall_enumerate_1 _) (F.newCall_enumerate_1 _) (fun obj => F.args_object_init_2 obj _) F.entry_enumerate_new
    (meets_enum1 B) ⟨h1, ?_⟩
  have hz : (s.heap.push o).objs.size = s.heap.objs.size + 1 := Heap.size_push ..
  show _ ∧ _
  rw [hz]
  have he : IsEnum ((s.heap.push o).push { cls := .type "enumerate", data := .fields #[.none, .bool false, .ref s.heap.objs.size, rawInt 0, .none, .none] }) (s.heap.objs.size + 1) s.heap.objs.size 0 .none := by
    have := Heap.get?_push_size (s.heap.push o) (o := { cls := .type "enumerate", data := .fields #[.none, .bool false, .ref s.heap.objs.size, rawInt 0, .none, .none] }) rfl
    rw [hz] at this; exact this
  refine ⟨⟨_, he, rfl⟩, h _ he (Heap.get?_push_of_some _ (Heap.get?_push_size _ B.free)) (by rw [Heap.size_push, hz]) fun b o x => Heap.get?_push_of_some _ (Heap.get?_push_of_some _ x)⟩
end
/-- the tuple at a, each item in a new pair with its index -/
def IteT (K : Fr) (a : Addr) : It :=
  ⟨fun i H => ∃ (xs : List V) (x : V), SqT K H a xs ∧ xs[i]? = some x, fun i H v H' => ∃ T x, v = .ref T ∧ H T = none ∧ H' = upd H T (.tup [.int (i : Nat), x]) ∧ ∀ xs, SqT K H a xs → xs[i]? = some x, fun i H => ∃ xs : List V, SqT K H a xs ∧ xs.length = i⟩
theorem turn_enumT {P : Program} {w : World} {K : Fr} {elts : List Expr} {kk : Nat} {tpos : Pos} (a e it : Addr) (hae : a ≠ e) (hai : a ≠ it) :
    Turn P w K (.Tuple elts kk tpos) (IteT K a) [e, it] e (fun i h => (∃ old, IsEnum h e it ((i : Nat) : Int) old) ∧ h.IsTupleIter it a i ∧ e ≠ it) where
  mem := by simp
  obj := fun i h st b hb => by
    obtain ⟨⟨old, he⟩, ⟨o, ho, hc, hd⟩, _⟩ := st
    have e' : b = e ∨ b = it := by simpa using hb
    rcases e' with z | z
    · rw [z]; exact ⟨_, he, fun v q => nomatch q⟩
    · rw [z]; exact ⟨o, ho, fun v q => by rw [hd] at q; cases q⟩
  keep := fun i h h' st k => let ⟨⟨old, he⟩, hi, hne⟩ := st; ⟨⟨old, k e (by simp) _ he⟩, hi.at fun o q => k it (by simp) o q, hne⟩
  item := by
    intro X hP hw hK hc i pins s σ H E I hf st hg
    subst hP hw hK
    obtain ⟨⟨old, he⟩, hit, hne⟩ := st
    obtain ⟨xs, x, hq, hx⟩ := hg
    obtain ⟨its, rv, p, hz⟩ := I.tuple hq
    obtain ⟨u, hu, ru⟩ := rv.get hx
    have hel : e < s.heap.objs.size := Heap.lt_size he
    have hil : it < s.heap.objs.size := by obtain ⟨_, q, _⟩ := hit; exact Heap.lt_size q
    have hp : s.heap.IsTuple a its.toArray := p
    have D := Draws.tuple (prog := X.prog) (w := X.w) (A := X.A.in1) (I.ok.hd hc) it a hai its.toArray
    have hlt : i < its.toArray.size := by
      have := (List.getElem?_eq_some_iff.mp hu).1
      simpa using this
    refine wpAny_pyNext_enum_itemD D he ⟨hit, hp⟩ hlt hne (by simp; exact ⟨hne, Ne.symm hae⟩) fun x' h' tk hP ho hst' hT hsz hk => ?_
    have ex : x' = u := by
      have q : its[i]? = some x' := by simpa using hP
      rw [hu] at q
      exact (Option.some.inj q).symm
    subst ex
    refine ⟨_, rfl, wpAny_letOwnedTupleGo_enum (s := { s with heap := h', toks := tk + 1 }) ho fun h'' he' sb => ?_⟩
    have hT2 : h''.get? s.heap.objs.size = some { cls := .type "tuple", data := .seq #[.int i tk, x'] } := (sb.2 _ (Nat.ne_of_gt hel)).trans hT
    have new : ObjOk X.prog X.w (upd H s.heap.objs.size (.tup [.int (i : Nat), x])) h'' s.heap.objs.size (.tup [.int (i : Nat), x]) :=
      ⟨by show 2 ≤ sizeLine; decide, [.int i tk, x'], .cons ⟨_, rfl⟩ (.cons ru .nil), ⟨_, hT2, rfl, _, rfl⟩⟩
    have I1 : Inv X pins σ (upd H s.heap.objs.size (.tup [.int (i : Nat), x])) { s with heap := h'', toks := tk + 1 } :=
      I.turnedNew (ch := [e, it]) (fun b ob hb q => (sb.2 b (fun z => hb (by simp [z]))).trans (hk b ob (fun z => hb (by simp [z])) (fun z => hb (by simp [z])) q)) hf (Nat.le_refl _) new
    refine ⟨.ref s.heap.objs.size, _, I1, rfl, ⟨_, x, rfl, I.hok.fresh (Nat.le_refl _), rfl, fun ys hy => by rw [I.tuple_inj hy hq]; exact hx⟩, ⟨⟨x', ?_⟩, hst'.1.at fun o q => (sb.2 it (Ne.symm hne)).trans q, hne⟩, fun b hb => ?_⟩
    · have e1 : ((i + 1 : Nat) : Int) = (i : Int) + 1 := by omega
      rw [e1]; exact he'
    · have hb' : b < s.heap.objs.size := by
        have e' : b = e ∨ b = it := by simpa using hb
        rcases e' with z | z
        · rw [z]; exact hel
        · rw [z]; exact hil
      rw [upd_ne (Nat.ne_of_lt hb')]
      exact (hf b hb).1
  done := by
    intro X hP hw hK hc i pins s σ H E I hf st hg
    subst hP hw hK
    obtain ⟨⟨old, he⟩, hit, hne⟩ := st
    obtain ⟨xs, hq, hx⟩ := hg
    obtain ⟨its, rv, p, hz⟩ := I.tuple hq
    have hp : s.heap.IsTuple a its.toArray := p
    obtain ⟨f0, f1, f2, f3, f4, f5⟩ := hf it (by simp)
    have hl := rv.length
    have D := Draws.tuple (prog := X.prog) (w := X.w) (A := X.A.in1) (I.ok.hd hc) it a hai its.toArray
    have en : i = its.toArray.size := by simp; omega
    subst en
    exact wpAny_pyNext_enum_endD D he ⟨hit, hp⟩ fun h' eb => ⟨rfl, I.turned (t' := s.toks) (fun b o hb q => eb b o hb q) f0 f1 f3 f4 f5⟩
  self := fun A i s Q E st h => let ⟨⟨_, he⟩, _⟩ := st; wpAny_pyIter_enum he h
def iEnumA (K : Fr) (ta : TA) : TI := fun σ H R => ta σ H fun vs H1 => ∃ a xs, vs = [.ref a] ∧ ((SqL K H1 a xs ∧ R (Ite K a) H1) ∨ (SqT K H1 a xs ∧ R (IteT K a) H1))
theorem pi_enumA {X : Cx} {e : Expr} {ta : TA} {p pos tpos : Pos} {elts : List Expr} {kk : Nat} (hg : Gl X "enumerate") (hm : X.mg "enumerate" = none) (ha : PA X [e] ta) (hs : starEach [e] X.env = [(false, eval e X.env)] := by rfl) :
    PI X (.Tuple elts kk tpos) (.Call (.Name "enumerate" p) [e] [] pos) (iEnumA X.K ta) := by
  refine ⟨fun pins s σ H R I h => ?_⟩
  refine Call_ (ld_blt I hg hm boot_enumerate (PyProof.Rows.callWith_type1 (thn (ha.run pos pins s σ H _ I h) fun us s1 ⟨vs, H1, I1, r1, q1⟩ => ?_) hs rfl))
  obtain ⟨a, xs, ex, q1⟩ := q1
  subst ex
  cases r1 with
  | cons r rr =>
    cases rr
    cases r
    have fp2 : ∀ b ∈ [s1.heap.objs.size + 1, s1.heap.objs.size], FpOk X pins H1 b := fun b hb => by
      have e' : b = s1.heap.objs.size + 1 ∨ b = s1.heap.objs.size := by simpa using hb
      have hle : s1.heap.objs.size ≤ b := by
        rcases e' with z | z
        · rw [z]; exact Nat.le_add_right _ _
        · rw [z]; exact Nat.le_refl _
      exact I1.fpOk hle (I1.hok.fresh hle)
    rcases q1 with ⟨hq, q⟩ | ⟨hq, q⟩
    · obtain ⟨its, rv, p', hz⟩ := I1.list hq
      refine call_enumerate_list p'.isList fun h' he hit hsz hk => wpAny_pyIter_enum he ?_
      have I2 : Inv X pins σ H1 { s1 with heap := h' } := I1.kept (t' := s1.toks) hk
      exact ⟨s1.heap.objs.size + 1, [s1.heap.objs.size + 1, s1.heap.objs.size], _, _, H1, rfl, I2, turn_enum a (s1.heap.objs.size + 1) s1.heap.objs.size, ⟨⟨.none, he⟩, hit, Nat.succ_ne_self _⟩, fp2, q⟩
    · obtain ⟨its, rv, p', hz⟩ := I1.tuple hq
      have hp : s1.heap.IsTuple a its.toArray := p'
      obtain ⟨o1, ho1, _⟩ := id p'
      have hal := Heap.lt_size ho1
      refine enum_begins1 (begins_tuple a its.toArray) hp fun h' he hit hsz hk => wpAny_pyIter_enum he ?_
      have I2 : Inv X pins σ H1 { s1 with heap := h' } := I1.kept (t' := s1.toks) hk
      exact ⟨s1.heap.objs.size + 1, [s1.heap.objs.size + 1, s1.heap.objs.size], _, _, H1, rfl, I2, turn_enumT a (s1.heap.objs.size + 1) s1.heap.objs.size (Nat.ne_of_lt (Nat.lt_succ_of_lt hal)) (Nat.ne_of_lt hal), ⟨⟨.none, he⟩, ⟨_, hit, rfl, rfl⟩, Nat.succ_ne_self _⟩, fp2, q⟩
/-! ### the same as data -/
def enumD : Nat → List PyData → List PyData
  | _, [] => []
  | i, d :: ds => .tuple [.int (i : Nat), d] :: enumD (i + 1) ds
theorem enumD_len : ∀ (i : Nat) (ds : List PyData), (enumD i ds).length = ds.length
  | _, [] => rfl
  | i, d :: ds => by rw [enumD, List.length_cons, List.length_cons, enumD_len]
theorem enumD_get : ∀ (ds : List PyData) (j i : Nat) (d : PyData), (enumD j ds)[i]? = some d → ∃ x, ds[i]? = some x ∧ d = .tuple [.int ((j + i : Nat)), x]
  | [], _, _, _, h => by simp [enumD] at h
  | x :: ds, j, 0, d, h => by simp [enumD] at h; exact ⟨x, rfl, by simpa using h.symm⟩
  | x :: ds, j, i + 1, d, h => by
    obtain ⟨y, h1, h2⟩ := enumD_get ds (j + 1) i d (by simpa [enumD] using h)
    refine ⟨y, by simpa using h1, ?_⟩
    rw [h2, show j + 1 + i = j + (i + 1) by omega]
def zipD : List PyData → List PyData → List PyData
  | x :: xs, y :: ys => .tuple [x, y] :: zipD xs ys
  | _, _ => []
theorem zipD_get : ∀ (xs ys : List PyData) (i : Nat) (d : PyData), (zipD xs ys)[i]? = some d → ∃ x y, xs[i]? = some x ∧ ys[i]? = some y ∧ d = .tuple [x, y]
  | [], _, _, _, h => by simp [zipD] at h
  | _ :: _, [], _, _, h => by simp [zipD] at h
  | x :: xs, y :: ys, 0, d, h => by simp [zipD] at h; exact ⟨x, y, rfl, rfl, h.symm⟩
  | x :: xs, y :: ys, i + 1, d, h => by
    obtain ⟨a, b, h1, h2, h3⟩ := zipD_get xs ys i d (by simpa [zipD] using h)
    exact ⟨a, b, by simpa using h1, by simpa using h2, h3⟩
theorem zipD_len : ∀ (xs ys : List PyData), (zipD xs ys).length = min xs.length ys.length
  | [], _ => by simp [zipD]
  | _ :: _, [] => by simp [zipD]
  | x :: xs, y :: ys => by simp only [zipD, List.length_cons, zipD_len xs ys]; omega
section
variable {K : Fr}
theorem yok_new {S' H' : Hp} {T : Addr} {xs : List V} {ds : List PyData} (hT : H' T = none) (sub : Same S' H') (r : RpL K S' xs ds) : ∃ S2, YOk K S' H' S2 (upd H' T (.tup xs)) (.ref T) (.tuple ds) :=
  ⟨upd S' T (.tup xs), .frz hT sub, rp_newT (sub.free hT) r, fun _ _ _ a => a.frz hT⟩
theorem yl_enum {S : Hp} {a : Addr} {xs : List V} {ds : List PyData} (h : LstR K S a xs) (r : RpL K S xs ds) : Yl K (Ite K a) S (enumD 0 ds) := by
  refine ⟨fun S' H' s1 s2 i d e => ?_, fun S' H' s1 s2 => ⟨xs, (lrMono s2 (lrMono s1 h)).sq, by rw [enumD_len, r.len]; exact Nat.le_refl _⟩⟩
  obtain ⟨x, ex, ed⟩ := enumD_get _ _ _ _ e
  subst ed
  obtain ⟨v, ev, rv⟩ := r.get ex
  refine ⟨⟨xs, v, (lrMono s2 (lrMono s1 h)).sq, ev⟩, fun y H2 z => ?_⟩
  obtain ⟨T, w, rfl, hT, rfl, q⟩ := z
  have q := q xs ((lrMono s2 (lrMono s1 h)).sq)
  rw [ev] at q; cases q
  exact yok_new hT s2 (.cons (by rw [Nat.zero_add]; exact .int _) (.cons (rv.up s1) .nil))
theorem yl_enumT {S : Hp} {a : Addr} {xs : List V} {ds : List PyData} (h : SqT K S a xs) (r : RpL K S xs ds) : Yl K (IteT K a) S (enumD 0 ds) := by
  refine ⟨fun S' H' s1 s2 i d e => ?_, fun S' H' s1 s2 => ⟨xs, sameT s2 (sameT s1 h), by rw [enumD_len, r.len]⟩⟩
  obtain ⟨x, ex, ed⟩ := enumD_get _ _ _ _ e
  subst ed
  obtain ⟨v, ev, rv⟩ := r.get ex
  refine ⟨⟨xs, v, sameT s2 (sameT s1 h), ev⟩, fun y H2 z => ?_⟩
  obtain ⟨T, w, rfl, hT, rfl, q⟩ := z
  have q := q xs (sameT s2 (sameT s1 h))
  rw [ev] at q; cases q
  exact yok_new hT s2 (.cons (by rw [Nat.zero_add]; exact .int _) (.cons (rv.up s1) .nil))
theorem yl_zip {S : Hp} {a b : Addr} {xs ys : List V} {ds es : List PyData} (h : LstR K S a xs) (r : RpL K S xs ds) (h' : LstR K S b ys) (r' : RpL K S ys es) : Yl K (Itz K a b) S (zipD ds es) := by
  refine ⟨fun S' H' s1 s2 i d e => ?_, fun S' H' s1 s2 => ⟨xs, ys, (lrMono s2 (lrMono s1 h)).sq, (lrMono s2 (lrMono s1 h')).sq, ?_⟩⟩
  · obtain ⟨x, y, ex, ey, ed⟩ := zipD_get _ _ _ _ e
    subst ed
    obtain ⟨v, ev, rv⟩ := r.get ex
    obtain ⟨u, eu, ru⟩ := r'.get ey
    refine ⟨⟨xs, ys, v, u, (lrMono s2 (lrMono s1 h)).sq, (lrMono s2 (lrMono s1 h')).sq, ev, eu⟩, fun y H2 z => ?_⟩
    obtain ⟨T, w1, w2, rfl, hT, rfl, q1, q2⟩ := z
    have q1 := q1 xs ((lrMono s2 (lrMono s1 h)).sq)
    have q2 := q2 ys ((lrMono s2 (lrMono s1 h')).sq)
    rw [ev] at q1; cases q1
    rw [eu] at q2; cases q2
    exact yok_new hT s2 (.cons (rv.up s1) (.cons (ru.up s1) .nil))
  · rw [zipD_len, r.len, r'.len]; omega
theorem yl_zipT {S : Hp} {a b : Addr} {xs ys : List V} {ds es : List PyData} (h : SqT K S a xs) (r : RpL K S xs ds) (h' : SqT K S b ys) (r' : RpL K S ys es) : Yl K (ItzT K a b) S (zipD ds es) := by
  refine ⟨fun S' H' s1 s2 i d e => ?_, fun S' H' s1 s2 => ⟨xs, ys, sameT s2 (sameT s1 h), sameT s2 (sameT s1 h'), ?_⟩⟩
  · obtain ⟨x, y, ex, ey, ed⟩ := zipD_get _ _ _ _ e
    subst ed
    obtain ⟨v, ev, rv⟩ := r.get ex
    obtain ⟨u, eu, ru⟩ := r'.get ey
    refine ⟨⟨xs, ys, v, u, sameT s2 (sameT s1 h), sameT s2 (sameT s1 h'), ev, eu⟩, fun y H2 z => ?_⟩
    obtain ⟨T, w1, w2, rfl, hT, rfl, q1, q2⟩ := z
    have q1 := q1 xs (sameT s2 (sameT s1 h))
    have q2 := q2 ys (sameT s2 (sameT s1 h'))
    rw [ev] at q1; cases q1
    rw [eu] at q2; cases q2
    exact yok_new hT s2 (.cons (rv.up s1) (.cons (ru.up s1) .nil))
  · rw [zipD_len, r.len, r'.len]; omega
end
def iEnumD (ε : DL) : DI := fun env => match ε env with
  | some ([.list ds], e) => some (enumD 0 ds, e)
  | some ([.tuple ds], e) => some (enumD 0 ds, e)
  | _ => none
def iZipD (ε : DL) : DI := fun env => match ε env with
  | some ([.list ds, .list es], e) => some (zipD ds es, e)
  | some ([.tuple ds, .tuple es], e) => some (zipD ds es, e)
  | _ => none
section
variable {X : Cx} {e e2 : Expr} {ε : DL} {p pos tpos : Pos} {elts : List Expr} {kk : Nat}
theorem qi_enum (hm : X.mg "enumerate" = none) (ha : PA X [e] (LA X.K ε)) (hg : Gl X "enumerate" := by rfl) (hs : starEach [e] X.env = [(false, eval e X.env)] := by rfl) :
    PI X (.Tuple elts kk tpos) (.Call (.Name "enumerate" p) [e] [] pos) (LI X.K (iEnumD ε)) := by
  refine PI.mono (pi_enumA hg hm ha hs) fun σ H R w => ?_
  obtain ⟨env, S, fp, a0, ds, env', e, q⟩ := w
  unfold iEnumD at e
  split at e
  · rename_i ds' e1 eq1
    cases e
    refine ⟨env, S, fp, a0, _, _, eq1, fun vs S1 H1 f1 a1 m1 r1 => ?_⟩
    cases r1 with
    | cons r t =>
      cases t
      cases r with
      | lst hs ha => exact ⟨_, _, rfl, .inl ⟨(lrMono a1.sub hs).sq, q _ S1 H1 f1 a1 m1 (yl_enum hs ha)⟩⟩
  · rename_i ds' e1 eq1
    cases e
    refine ⟨env, S, fp, a0, _, _, eq1, fun vs S1 H1 f1 a1 m1 r1 => ?_⟩
    cases r1 with
    | cons r t =>
      cases t
      cases r with
      | tup hs ha => exact ⟨_, _, rfl, .inr ⟨sameT a1.sub hs, q _ S1 H1 f1 a1 m1 (yl_enumT hs ha)⟩⟩
  · cases e
theorem qi_zip (hm : X.mg "zip" = none) (ha : PA X [e, e2] (LA X.K ε)) (hg : Gl X "zip" := by rfl)
    (hs : starEach [e, e2] X.env = (false, eval e X.env) :: starEach [e2] X.env := by rfl) (hpl : (backTo pos (starEach [e2] X.env)).any (·.1) = false := by rfl) :
    PI X (.Tuple elts kk tpos) (.Call (.Name "zip" p) [e, e2] [] pos) (LI X.K (iZipD ε)) := by
  refine PI.mono (pi_zipA hg hm ha hs hpl) fun σ H R w => ?_
  obtain ⟨env, S, fp, a0, ds, env', e, q⟩ := w
  unfold iZipD at e
  split at e
  · rename_i ds' es' e1 eq1
    cases e
    refine ⟨env, S, fp, a0, _, _, eq1, fun vs S1 H1 f1 a1 m1 r1 => ?_⟩
    cases r1 with
    | cons r t =>
      cases t with
      | cons r' t' =>
        cases t'
        cases r with
        | lst hs ha =>
          cases r' with
          | lst hs' ha' => exact ⟨_, _, _, _, rfl, .inl ⟨(lrMono a1.sub hs).sq, (lrMono a1.sub hs').sq, q _ S1 H1 f1 a1 m1 (yl_zip hs ha hs' ha')⟩⟩
  · rename_i ds' es' e1 eq1
    cases e
    refine ⟨env, S, fp, a0, _, _, eq1, fun vs S1 H1 f1 a1 m1 r1 => ?_⟩
    cases r1 with
    | cons r t =>
      cases t with
      | cons r' t' =>
        cases t'
        cases r with
        | tup hs ha =>
          cases r' with
          | tup hs' ha' => exact ⟨_, _, _, _, rfl, .inr ⟨sameT a1.sub hs, sameT a1.sub hs', q _ S1 H1 f1 a1 m1 (yl_zipT hs ha hs' ha')⟩⟩
  · cases e
end
end Dn

set_option Elab.async false
set_option linter.all false
set_option maxRecDepth 100000
set_option maxHeartbeats 2000000
/-! layer D, 10: loops over an own list, targets by index, name op= e, four at once -/
namespace Dn
open PySem PySem.Spec PyProof.Rows L2
section
variable {X : Cx} {K : Fr} {kp : List Nat}
/-! ### for .. in xs, xs one's own, as it stands at each turn -/
def dForVN (i : Nat) (g : DG) (b : DS) : Nat → Nat → DS
  | 0, _ => fun _ => none
  | n + 1, k => fun env => match ownL env[i]? with
    | some ds => (match ds[k]? with
      | none => some (.nx, env)
      | some d => (match g d env with
        | some e1 => (match b e1 with
          | some (.nx, e2) => dForVN i g b n (k + 1) e2
          | some (.ct, e2) => dForVN i g b n (k + 1) e2
          | some (.bk, e2) => some (.nx, e2)
          | some (.rt r, e2) => some (.rt r, e2)
          | none => none)
        | none => none))
    | none => none
def dForV (i : Nat) (g : DG) (b : DS) : DS := dForVN i g b fuel 0
theorem dForVN_more {i : Nat} {g : DG} {b : DS} : ∀ {n m k : Nat} {env : En} {r : Fl × En}, n ≤ m → dForVN i g b n k env = some r → dForVN i g b m k env = some r
  | 0, _, _, _, _, _, h => by cases h
  | n + 1, 0, _, _, _, h, _ => by omega
  | n + 1, m + 1, k, env, r, h, e => by
    unfold dForVN at e ⊢
    split at e
    · rename_i ds eo
      try simp only [eo]
      split at e
      · rename_i ed; (try simp only [ed]); exact e
      · rename_i d ed
        try simp only [ed]
        split at e
        · rename_i e1 eq1
          try simp only [eq1]
          split at e
          · rename_i e2 eq2; (try simp only [eq2]); exact dForVN_more (by omega) e
          · rename_i e2 eq2; (try simp only [eq2]); exact dForVN_more (by omega) e
          · rename_i e2 eq2; (try simp only [eq2]); exact e
          · rename_i e2 eq2; (try simp only [eq2]); exact e
          · cases e
        · cases e
    · cases e
theorem dForV_of {i : Nat} {g : DG} {b : DS} {n : Nat} {env : En} {r : Fl × En} (h : n ≤ 1000000000) (e : dForVN i g b n 0 env = some r) : dForV i g b env = some r := dForVN_more (by unfold fuel; exact h) e
/-- what the list is at slot i -/
theorem ownL_ex {x : Option (Option Sl)} (h : (ownL x).isSome = true) : ∃ ds, ownL x = some ds := by
  cases q : ownL x with
  | none => rw [q] at h; cases h
  | some ds => exact ⟨ds, rfl⟩
theorem LS.forV {i : Nat} {ts : List Nat} {g : DG} {b : DS} {D : Ends} {σ : Sg} {H : Hp} (hk : (ts.all fun j => !(i :: kp).contains j) = true) (h : LS K kp (dForV i g b) D σ H) : tFor (iList K (tVar i)) (LG K ts g) (LS K (i :: kp) b) D σ H := by
  obtain ⟨env, S, fp, a0, fl, env', e, q⟩ := h
  have e0 := e
  unfold dForV fuel dForVN at e0
  split at e0
  · rename_i ds eo
    obtain ⟨a, xs, h1, h2, _, _⟩ := a0.lst (ownL_some eo)
    refine ⟨.ref a, h1, a, rfl, ⟨xs, .of h2⟩, ?_⟩
    clear e0
    have low : ∀ {σ σ' : Sg}, Kp (i :: kp) σ σ' → Kp kp σ σ' := fun k j hj => k j (List.mem_cons_of_mem _ hj)
    let W : Nat → Nat → Sg → Hp → Prop := fun k m σ' H' => ∃ env2 S2 f2, At K σ' env2 S2 H' f2 ∧ Go S H fp S2 H' f2 ∧ Kp (i :: kp) σ σ' ∧ dForVN i g b m k env2 = some (fl, env')
    refine ⟨W, ⟨_, _, S, fp, a0, .refl, .refl, e⟩, ?_⟩
    rintro k m σ2 H2 ⟨env2, S2, f2, a2, g2, k2, e2⟩
    cases m with
    | zero => cases e2
    | succ m =>
      unfold dForVN at e2
      split at e2
      · rename_i ds2 eo2
        obtain ⟨a', xs2, h1', h2', r2, _⟩ := a2.lst (ownL_some eo2)
        have ea : a' = a := by
          have z := k2 i List.mem_cons_self
          rw [h1', h1] at z
          injection z with z; injection z with z; injection z
        subst ea
        split at e2
        · rename_i ed
          cases e2
          have hl : xs2.length ≤ k := by rw [r2.len]; exact List.getElem?_eq_none_iff.mp ed
          exact .inl ⟨⟨xs2, .of h2', hl⟩, q σ2 S2 H2 f2 a2 g2 (low k2)⟩
        · rename_i d ed
          obtain ⟨v, ev, rv⟩ := r2.get ed
          refine .inr ⟨⟨xs2, v, .of h2', ev⟩, W (k + 1) m, fun σ' H' hN => ⟨m, Nat.lt_succ_self _, hN⟩, fun x H3 y => ?_⟩
          obtain ⟨e3, y2⟩ := y
          subst e3
          have qv := y2 xs2 (.of h2')
          rw [ev] at qv; cases qv
          split at e2
          · rename_i e3 eq3
            refine ⟨env2, S2, f2, d, a2, rv, _, eq3, fun σ4 S4 H4 f4 a4 m4 l4 k4 => ?_⟩
            have kk : Kp (i :: kp) σ σ4 := k2.trans (kp_of hk k4)
            have gg : Go S H fp S4 H4 f4 := g2.trans m4
            split at e2
            · rename_i e5 eq5
              exact ⟨_, S4, f4, a4, .nx, _, eq5, fun σ5 S5 H5 f5 a5 m5 k5 => ⟨_, S5, f5, a5, gg.trans m5, kk.trans k5, e2⟩⟩
            · rename_i e5 eq5
              exact ⟨_, S4, f4, a4, .ct, _, eq5, fun σ5 S5 H5 f5 a5 m5 k5 => ⟨_, S5, f5, a5, gg.trans m5, kk.trans k5, e2⟩⟩
            · rename_i e5 eq5
              cases e2
              exact ⟨_, S4, f4, a4, .bk, _, eq5, fun σ5 S5 H5 f5 a5 m5 k5 => q σ5 S5 H5 f5 a5 (gg.trans m5) (low (kk.trans k5))⟩
            · rename_i r e5 eq5
              cases e2
              exact ⟨_, S4, f4, a4, .rt r, _, eq5, fun v σ5 S5 H5 f5 a5 m5 k5 => q v σ5 S5 H5 f5 a5 (gg.trans m5) (low (kk.trans k5))⟩
            · cases e2
          · cases e2
      · cases e2
  · cases e0
theorem qs_forV {tg : Expr} {x : Str} {px : Pos} {body : List Stmt} {pos : Pos} (i : Nat) {ts : List Nat} {g : DG} {b : DS} (hp : PassesOwn (model X.prog X.w) X.A X.env X.xe) (hc : X.calm = true) (hg : PG X tg (LG X.K ts g)) (hb : PSs X body (LS X.K (i :: kp) b)) (hk : (ts.all fun j => !(i :: kp).contains j) = true := by rfl)
    (hN : X.N[i]? = some x := by rfl) (hv : Vis X.env.scope x := by first | exact Or.inl rfl | exact Or.inr (Or.inl rfl) | exact Or.inr (Or.inr rfl)) (hd : (x == ("__debug__" : Str)) = false := by decide) (hcd : (x == ("__classdict__" : Str)) = false := by decide)
    (hs : ∀ v, foldedSetIterable (.Name x px) X.env v = pure v := by intro _; rfl) : PS X (.For tg (.Name x px) body [] pos) (LS X.K kp (dForV i g b)) := PS.mono (ps_for hp hc (pi_list (pv i hN hv hd hcd)) hg hb hs) fun _ _ _ w => w.forV hk
/-! ### targets by index -/
def gIxT (i : Nat) (ι : DE) : DG := fun v env => match ownL env[i]?, ι env with
  | some _, some (.int k, e2) => (match ownL e2[i]? with
    | some ds => (match ixN ds.length k with
      | some j => some (e2.set i (some (1, .list (ds.set j v))))
      | none => none)
    | none => none)
  | _, _ => none
theorem LG.ix {i : Nat} {ι : DE} {v : V} {σ : Sg} {H : Hp} {Q : Sg → Hp → Prop} (h : LG K [] (gIxT i ι) v σ H Q) : gSub (tVar i) (LE K ι) rSetL v σ H Q := by
  obtain ⟨env, S, fp, d, a1, r1, env', e, q⟩ := h
  unfold gIxT at e
  split at e
  · rename_i ds0 k e2 eo eq2
    split at e
    · rename_i ds eo2
      split at e
      · rename_i j ej
        cases e
        obtain ⟨a, xs0, h1, _, _, _⟩ := a1.lst (ownL_some eo)
        refine ⟨.ref a, h1, _, S, fp, a1, _, _, eq2, fun u S2 H2 f2 a2 m2 r2 => ?_⟩
        obtain ⟨a', xs, h1', h2', rx, go⟩ := a2.lst (ownL_some eo2)
        rw [h1] at h1'; cases h1'
        cases r2
        refine ⟨a, xs, k, j, rfl, rfl, h2', by rw [rx.len]; exact ej, ?_⟩
        obtain ⟨f3, a3, g3⟩ := go _ _ (rx.set (r1.up m2.s) j)
        exact q σ S2 _ f3 a3 (m2.trans g3) rfl fun _ _ => rfl
      · cases e
    · cases e
  · cases e
theorem qg_ix (i : Nat) {x : Str} {ie : Expr} {px ps : Pos} {ι : DE} (hi : PE X ie (LE K ι))
    (hN : X.N[i]? = some x := by rfl) (hv : Vis X.env.scope x := by first | exact Or.inl rfl | exact Or.inr (Or.inl rfl) | exact Or.inr (Or.inr rfl)) (hd : (x == ("__debug__" : Str)) = false := by decide) (hcd : (x == ("__classdict__" : Str)) = false := by decide)
    (ha : ∀ v, assign (.Subscript (.Name x px) ie ps) X.env v = (do
      let ov ← holding [v] (eval (.Name x px) X.env)
      let iv ← holding [v, ov] (eval ie X.env)
      standAt ps
      holding [v, ov, iv] (setItem ov iv v)
      release [v, ov, iv] []) := by intro _; rfl) : PG X (.Subscript (.Name x px) ie ps) (LG K [] (gIxT i ι)) :=
  PG.mono (pg_sub (pv i hN hv hd hcd) hi set_list ha) fun _ _ _ _ w => w.ix
/-! ### name op= e -/
def dAug (i : Nat) (f : PyData → PyData → Option PyData) (ε : DE) : DS := fun env => match (env[i]?).join with
  | some s => if flatD s.2 = true then (match ε env with
    | some (d, e) => (match f s.2 d with | some r => if flatD r = true then some (.nx, e.set i (some (0, r))) else none | none => none)
    | none => none) else none
  | none => none
theorem LS.aug {i : Nat} {r : R2} {f : PyData → PyData → Option PyData} (hr : OpG K r f) {ε : DE} {D : Ends} {σ : Sg} {H : Hp} (hk : kp.contains i = false) (h : LS K kp (dAug i f ε) D σ H) : tAug i (LE K ε) r D σ H := by
  obtain ⟨env, S, fp, a0, fl, env', e, q⟩ := h
  unfold dAug at e
  split at e
  · rename_i s es
    split at e
    · rename_i hf
      split at e
      · rename_i d e1 eq1
        split at e
        · rename_i w ew
          split at e
          · cases e
            obtain ⟨v, f0, h1, h2, _⟩ := a0.ow.look es
            have rv := (h2.flat hf).1
            refine ⟨v, h1, env, S, fp, a0, d, _, eq1, fun u S1 H1 f1 a1 m1 r1 => ?_⟩
            refine hr _ _ _ ew S1 H1 v u _ a1.sub (.inl (rv.up m1.s)) (.inl r1) (Res.ofE a1 fun z S2 H2 f2 a2 m2 r2 => ?_)
            obtain ⟨f3, hs, a3⟩ := At.storeIn (a2.withO r2) i
            exact q _ S2 H2 f3 a3 (m1.trans (m2.less hs)) (.set hk)
          · cases e
        · cases e
      · cases e
    · cases e
  · cases e
theorem qs_aug (i : Nat) {x : Str} {e : Expr} {op : Operator} {r : R2} {f : PyData → PyData → Option PyData} {px pos : Pos} {ε : DE} (ho : OpR X (inplaceOp op) r) (hr : OpG K r f) (hN : X.N.Nodup) (he : PE X e (LE K ε)) (hk : kp.contains i = false := by rfl) (hi : X.N[i]? = some x := by rfl) (hx : Loc X.env.scope x := by first | exact Or.inl rfl | exact Or.inr rfl)
    (hf : X.fn x = true ∨ X.env.scope.names.lookup x = some .local := by first | exact .inl rfl | exact .inr rfl) : PS X (.AugAssign (.Name x px) op e pos) (LS K kp (dAug i f ε)) :=
  PS.mono (ps_aug hN hi hx he (show PIp X op r from ho) hf) fun _ _ _ w => w.aug hr hk
theorem n_iadd : OpN K (rI0 fun i j => V.int (i + j)) (gI fun i j => .int (i + j)) := opn_I0 (fun i j _ => .int _) fun _ _ _ z => by cases z
def gIadd : PyData → PyData → Option PyData := gI fun i j => .int (i + j)
end
/-! ### four at once -/
def tPar4 (i j l m : Nat) (ta : TA) : TS := fun D σ H => ta σ H fun vs H1 => ∃ u v w r, vs = [u, v, w, r] ∧ D.nx ((((σ.set i (some u)).set j (some v)).set l (some w)).set m (some r)) H1
section
variable {X : Cx} {K : Fr} {kp : List Nat}
theorem ps_par4 {i j l m : Nat} {x y z t : Str} {a b c d : Expr} {ta : TA} {px py pz pq pt pos : Pos} {kt k2 pt2} (hc : X.calm = true) (hN : X.N.Nodup) (hi : X.N[i]? = some x) (hj : X.N[j]? = some y) (hl : X.N[l]? = some z) (hm : X.N[m]? = some t) (hij : i ≠ j) (hil : i ≠ l) (him : i ≠ m) (hjl : j ≠ l) (hjm : j ≠ m) (hlm : l ≠ m)
    (hx : X.env.scope.names.lookup x = some .local) (hy : X.env.scope.names.lookup y = some .local) (hz : X.env.scope.names.lookup z = some .local) (ht : X.env.scope.names.lookup t = some .local) (ha : PA X [a, b, c, d] ta)
    (hw : swappedStores [.Tuple [.Name x px, .Name y py, .Name z pz, .Name t pq] kt pt] (.Tuple [a, b, c, d] k2 pt2) X.env = pure (some [x, y, z, t]))
    (hs : swapsWithSole [.Tuple [.Name x px, .Name y py, .Name z pz, .Name t pq] kt pt] (.Tuple [a, b, c, d] k2 pt2) pos.line X.env = pure false := by rfl) :
    PS X (.Assign [.Tuple [.Name x px, .Name y py, .Name z pz, .Name t pq] kt pt] (.Tuple [a, b, c, d] k2 pt2) pos) (tPar4 i j l m ta) := by
  refine ⟨fun pins s σ H D I h => ?_⟩
  rw [exec_Assign_arm]
  refine wpAny_bind (wpAny_standAt ?_)
  rw [hs]
  refine wpAny_bind (wpAny_pure ?_)
  rw [if_neg (by decide)]
  refine wpAny_bind (Tuple_ (thn (ha.run _ pins s σ H _ I h) fun us s1 ⟨vs, H1, I1, r1, q1⟩ => ?_))
  obtain ⟨v1, v2, v3, v4, e1, q1⟩ := q1
  subst e1
  obtain ⟨u1, u2, u3, u4, rfl, r1', r2', r3', r4'⟩ : ∃ u1 u2 u3 u4, us = [u1, u2, u3, u4] ∧ RelV v1 u1 ∧ RelV v2 u2 ∧ RelV v3 u3 ∧ RelV v4 u4 := by
    cases r1 with
    | cons p q =>
      cases q with
      | cons p' q' =>
        cases q' with
        | cons p'' q'' =>
          cases q'' with
          | cons p3 q3 =>
            cases q3
            exact ⟨_, _, _, _, rfl, p, p', p'', p3⟩
  refine wpAny_newObj_type ?_ (by show 4 ≤ sizeLine; decide)
  have I2 : Inv X pins σ H1 { s1 with heap := s1.heap.push { cls := .type "tuple", data := .seq [u1, u2, u3, u4].toArray } } := I1.kept (t' := s1.toks) fun b o e => Heap.get?_push_of_some _ e
  rw [hw]
  refine wpAny_bind (wpAny_pure ?_)
  show wpAny (model X.prog X.w) X.A (do rule "assign.swapped-stores"; let items ← unpackItems (.ref s1.heap.objs.size) 4 none; assignInOrder [fun v => bindName X.env t v, fun v => bindName X.env z v, fun v => bindName X.env y v, fun v => bindName X.env x v] items.reverse; pure Flow.next) _ _ _
  refine wpAny_bind (wpAny_rule (wpAny_bind (unpackItems_tuple (items := #[u1, u2, u3, u4]) (I.ok.hd hc) (IsTup.new s1.heap _) fun h' hx' => ?_)))
  have I3 := I2.kept (h' := h') (t' := s1.toks) fun b o e => hx' b o (Nat.ne_of_lt (Heap.lt_size e)) e
  show wpAny _ _ (assignInOrder [fun v => bindName X.env t v, fun v => bindName X.env z v, fun v => bindName X.env y v, fun v => bindName X.env x v] [u4, u3, u2, u1] >>= fun _ => pure Flow.next) _ _ _
  refine wpAny_bind (assignInOrder_cons (wpAny_bindName (store_ok I3 hN hm (.inl ht) r4' (fun s2 I4 => ?_) (.inr ht))))
  refine assignInOrder_cons (wpAny_bindName (store_ok I4 hN hl (.inl hz) r3' (fun s2 I4 => ?_) (.inr hz)))
  refine assignInOrder_cons (wpAny_bindName (store_ok I4 hN hj (.inl hy) r2' (fun s3 I5 => ?_) (.inr hy)))
  refine assignInOrder_cons (wpAny_bindName (store_ok I5 hN hi (.inl hx) r1' (fun s4 I6 => assignInOrder_nil (wpAny_pure ?_)) (.inr hx)))
  have es : (((σ.set m (some v4)).set l (some v3)).set j (some v2)).set i (some v1) = (((σ.set i (some v1)).set j (some v2)).set l (some v3)).set m (some v4) := by
    rw [List.set_comm _ _ (Ne.symm hlm), List.set_comm _ _ (Ne.symm hjm), List.set_comm _ _ (Ne.symm him), List.set_comm _ _ (Ne.symm hjl), List.set_comm _ _ (Ne.symm hil), List.set_comm _ _ (Ne.symm hij)]
  rw [es] at I6
  exact ⟨_, H1, I6, q1⟩
def dPar4 (i j k l : Nat) (ε : DX) : DS := fun env => match ε env with
  | some ([s, t, u, r], e) => some (.nx, (((e.set i (some s)).set j (some t)).set k (some u)).set l (some r))
  | _ => none
theorem LS.par4 {i j k l : Nat} {ε : DX} {D : Ends} {σ : Sg} {H : Hp} (hi : kp.contains i = false) (hj : kp.contains j = false) (hk : kp.contains k = false) (hl : kp.contains l = false) (h : LS K kp (dPar4 i j k l ε) D σ H) : tPar4 i j k l (LX K ε) D σ H := by
  obtain ⟨env, S, fp, a0, fl, env', e, q⟩ := h
  unfold dPar4 at e
  split at e
  · rename_i s t u r e1 eq1
    cases e
    refine ⟨env, S, fp, a0, _, _, eq1, fun vs S1 H1 f1 hl' a1 m1 => ?_⟩
    match vs, hl', a1 with
    | [v, w, x, y], _, a1 =>
      obtain ⟨f1', h1, a1'⟩ := At.storeIn a1 (i + 3)
      obtain ⟨f2, hs, a2⟩ := At.three (show At K (some w :: some x :: some y :: σ.set i (some v)) (some t :: some u :: some r :: e1.set i (some s)) S1 H1 f1' from a1') j k l
      exact ⟨v, w, x, y, rfl, q _ S1 H1 f2 a2 (m1.less fun a ha => h1 a (hs a ha)) (Kp.trans (.set hi) (Kp.trans (.set hj) (Kp.trans (.set hk) (.set hl))))⟩
  · cases e
theorem qs_par4 (i j l m : Nat) {x y z t : Str} {a b c d : Expr} {px py pz pq pt pos : Pos} {kt k2 : Nat} {pt2 : Pos} {ε : DX} (hc : X.calm = true) (hN : X.N.Nodup) (ha : PA X [a, b, c, d] (LX K ε)) (hx : X.env.scope.names.lookup x = some .local := by rfl) (hy : X.env.scope.names.lookup y = some .local := by rfl) (hz : X.env.scope.names.lookup z = some .local := by rfl) (ht : X.env.scope.names.lookup t = some .local := by rfl)
    (hki : kp.contains i = false := by rfl) (hkj : kp.contains j = false := by rfl) (hkl : kp.contains l = false := by rfl) (hkm : kp.contains m = false := by rfl) (hi : X.N[i]? = some x := by rfl) (hj : X.N[j]? = some y := by rfl) (hl : X.N[l]? = some z := by rfl) (hm : X.N[m]? = some t := by rfl) (hij : i ≠ j := by decide) (hil : i ≠ l := by decide) (him : i ≠ m := by decide) (hjl : j ≠ l := by decide) (hjm : j ≠ m := by decide) (hlm : l ≠ m := by decide)
    (hw : swappedStores [.Tuple [.Name x px, .Name y py, .Name z pz, .Name t pq] kt pt] (.Tuple [a, b, c, d] k2 pt2) X.env = pure (some [x, y, z, t]) := by rfl)
    (hs : swapsWithSole [.Tuple [.Name x px, .Name y py, .Name z pz, .Name t pq] kt pt] (.Tuple [a, b, c, d] k2 pt2) pos.line X.env = pure false := by rfl) :
    PS X (.Assign [.Tuple [.Name x px, .Name y py, .Name z pz, .Name t pq] kt pt] (.Tuple [a, b, c, d] k2 pt2) pos) (LS K kp (dPar4 i j l m ε)) :=
  PS.mono (ps_par4 hc hN hi hj hl hm hij hil him hjl hjm hlm hx hy hz ht ha hw hs) fun _ _ _ w => w.par4 hki hkj hkl hkm
end
end Dn

set_option Elab.async false
set_option linter.all false
set_option maxRecDepth 100000
set_option maxHeartbeats 2000000
/-! layer D, 11: own lists in own lists, calls with keywords, len(set(ints)) -/
namespace Dn
open PySem PySem.Spec PyProof.Rows L2
section
variable {X : Cx} {K : Fr} {kp : List Nat}
/-! ### pure arguments -/
abbrev DPL := En → Option (List PyData)
def LPA (K : Fr) (ε : DPL) : TA := fun σ H Q => ∃ env S fp, At K σ env S H fp ∧ ∃ ds, ε env = some ds ∧ ∀ vs S' H', At K σ env S' H' fp → Gp S H S' H' → RpL K S' vs ds → Q vs H'
def pNil : DPL := fun _ => some []
def pCons (α : DP) (β : DPL) : DPL := fun env => match α env, β env with
  | some s, some ds => if s.1 = 0 ∨ flatD s.2 = true then some (s.2 :: ds) else none
  | _, _ => none
theorem LPA.nil {σ : Sg} {H : Hp} {Q : List V → Hp → Prop} (h : LPA K pNil σ H Q) : tNil σ H Q := by
  obtain ⟨env, S, fp, a0, ds, e, q⟩ := h
  cases e
  exact q [] S H a0 .refl .nil
theorem LPA.cons {α : DP} {β : DPL} {σ : Sg} {H : Hp} {Q : List V → Hp → Prop} (h : LPA K (pCons α β) σ H Q) : tCons (LP K α) (LPA K β) σ H Q := by
  obtain ⟨env, S, fp, a0, ds, e, q⟩ := h
  unfold pCons at e
  split at e
  · rename_i s ds' e1 e2
    split at e
    · rename_i hz
      cases e
      refine ⟨env, S, fp, a0, s, e1, fun v S1 H1 f1 a1 m1 o1 k1 => ?_⟩
      have rv : Rp K S1 v s.2 := by
        obtain ⟨n, d⟩ := s
        rcases hz with z | z
        · simp only at z; subst z; exact o1.1
        · exact (o1.flat z).1
      exact ⟨env, S1, fp, a1, ds', e2, fun vs S2 H2 a2 m2 r2 => q (v :: vs) S2 H2 a2 (m1.trans m2) (.cons (rv.up m2.s) r2)⟩
    · cases e
  · cases e
theorem qpa_nil : PA X [] (LPA K pNil) := PA.mono pa_nil fun _ _ _ w => w.nil
theorem qpa_cons {e : Expr} {es : List Expr} {α : DP} {β : DPL} (ha : PE X e (LP K α)) (hr : PA X es (LPA K β)) (hs : starEach (e :: es) X.env = (false, eval e X.env) :: starEach es X.env := by rfl) : PA X (e :: es) (LPA K (pCons α β)) :=
  PA.mono (pa_cons ha hr hs) fun _ _ _ w => w.cons
open scoped Dn.Sz in
def dTupP (ε : DPL) : DP := fun env => match ε env with
  | some ds => if ds.length ≤ sizeLine then some (0, .tuple ds) else none
  | none => none
theorem LP.tup {ε : DPL} {σ : Sg} {H : Hp} {Q : VK} (h : LP K (dTupP ε) σ H Q) : tTup (LPA K ε) σ H Q := by
  obtain ⟨env, S, fp, a0, s, e, q⟩ := h
  unfold dTupP at e
  split at e
  · rename_i ds e1
    split at e
    · rename_i hz
      cases e
      refine ⟨env, S, fp, a0, ds, e1, fun vs S1 H1 a1 m1 r1 => ⟨by rw [r1.len]; exact hz, fun p hp => ?_⟩⟩
      exact q (.ref p) _ _ [] (a1.frz hp) (m1.trans (.frz hp a1.sub)) (Ow.zero (rp_newT (a1.sub.free hp) r1)) (fun _ z => by cases z)
    · cases e
  · cases e
theorem qp_tup {es : List Expr} {x1} {pos : Pos} {ε : DPL} (h : PA X es (LPA K ε)) : PE X (.Tuple es x1 pos) (LP K (dTupP ε)) := PE.mono (pe_tup h) fun _ _ _ w => w.tup
/-! ### an index into an own list of own lists: what stands there -/
def dIxN (i : Nat) (β : DP) : DP := fun env => match (env[i]?).join, β env with
  | some (n, .list ds), some (_, .int k) => (match atI ds k with | some d => some (n - 1, d) | none => none)
  | _, _ => none
theorem OwL.get {R : V → PyData → List Addr → Prop} {xs : List V} {ds : List PyData} {fs : List Addr} (h : OwL R xs ds fs) : ∀ {j : Nat} {d : PyData}, ds[j]? = some d → ∃ v f, xs[j]? = some v ∧ R v d f ∧ ∀ a ∈ f, a ∈ fs := by
  induction h with
  | nil => intro j d e; simp at e
  | cons r t ih =>
    intro j d e
    cases j with
    | zero => simp at e; subst e; exact ⟨_, _, rfl, r, fun a ha => List.mem_append_left _ ha⟩
    | succ j =>
      obtain ⟨v, f, h1, h2, h3⟩ := ih (j := j) (by simpa using e)
      exact ⟨v, f, by simpa using h1, h2, fun a ha => List.mem_append_right _ (h3 a ha)⟩
theorem OwL.atI {R : V → PyData → List Addr → Prop} {xs : List V} {ds : List PyData} {fs : List Addr} (h : OwL R xs ds fs) {k : Int} {d : PyData} (e : L2.atI ds k = some d) : ∃ v f, L2.atI xs k = some v ∧ R v d f ∧ ∀ a ∈ f, a ∈ fs := by
  unfold L2.atI at e ⊢
  rw [h.len]
  cases q : ixN ds.length k with
  | none => rw [q] at e; cases e
  | some j =>
    rw [q] at e
    exact h.get e
theorem Ow.list {S H : Hp} {n : Nat} {v : V} {ds : List PyData} {f : List Addr} (o : Ow K S H n v (.list ds) f) (sub : Same S H) : ∃ a xs, v = .ref a ∧ LstR K H a xs ∧ ∃ fs, OwL (Ow K S H (n - 1)) xs ds fs ∧ ∀ b ∈ fs, b ∈ f := by
  cases n with
  | zero =>
    cases o.1 with
    | lst hs ha => exact ⟨_, _, rfl, lrMono sub hs, [], OwL.of ha, fun _ z => by cases z⟩
  | succ n =>
    rcases o with ⟨fl, _, _⟩ | ⟨a, xs, ds1, f1, e1, e2, e3, e4, e5, e6⟩ | ⟨a, kvs, ds1, e1, e2, _⟩
    · simp [flatD] at fl
    · cases e2; subst e5; exact ⟨a, xs, e1, .of e3, f1, e6, fun b hb => List.mem_cons_of_mem _ hb⟩
    · cases e2
theorem LP.ixN {i : Nat} {β : DP} {σ : Sg} {H : Hp} {Q : VK} (h : LP K (dIxN i β) σ H Q) : tOp (fun x y H Q => rIxL K x y H Q ∨ rIxT K x y H Q) (tVar i) (LP K β) σ H Q := by
  obtain ⟨env, S, fp, a0, s, e, q⟩ := h
  unfold dIxN at e
  split at e
  · rename_i n ds m k es e2
    split at e
    · rename_i d ed
      cases e
      obtain ⟨v, f, h1, h2, h3⟩ := a0.ow.look es
      refine ⟨v, h1, env, S, fp, a0, _, e2, fun u S1 H1 f1 a1 m1 o1 k1 => ?_⟩
      have h2' := h2.more h3 a0 a1 m1
      obtain ⟨a, xs, rfl, hl, fs, hO, hfs⟩ := h2'.list a1.sub
      have eu := (o1.flat (by rfl)).1
      cases eu
      obtain ⟨w, g, ew, ow, hg⟩ := hO.atI ed
      exact .inl ⟨a, xs, k, w, rfl, rfl, hl.sq, ew, q w S1 H1 g a1 m1 ow fun b hb => h3 b (hfs b (hg b hb))⟩
    · cases e
  · cases e
theorem qp_ixN (i : Nat) {x : Str} {b : Expr} {pos pos' : Pos} {β : DP} (hb : PE X b (LP X.K β)) (hs : PlainIx b := by intro _ _; rfl)
    (hN : X.N[i]? = some x := by rfl) (hv : Vis X.env.scope x := by first | exact Or.inl rfl | exact Or.inr (Or.inl rfl) | exact Or.inr (Or.inr rfl)) (hd : (x == ("__debug__" : Str)) = false := by decide) (hcd : (x == ("__classdict__" : Str)) = false := by decide) : PE X (.Subscript (.Name x pos') b pos) (LP X.K (dIxN i β)) :=
  PE.mono (pe_ix o_ix (pv i hN hv hd hcd) hb hs) fun _ _ _ w => w.ixN
/-! ### rows[k].append(x) -/
theorem OwL.upd {R : V → PyData → List Addr → Prop} {xs : List V} {ds : List PyData} {fs : List Addr} (h : OwL R xs ds fs) : ∀ {j : Nat} {d : PyData}, fs.Nodup → ds[j]? = some d →
    ∃ v f, xs[j]? = some v ∧ R v d f ∧ (∀ a ∈ f, a ∈ fs) ∧ ∀ (R' : V → PyData → List Addr → Prop) (d' : PyData), (∀ v d g, R v d g → (∀ a ∈ g, a ∈ fs) → (∀ a ∈ g, a ∉ f) → R' v d g) → R' v d' f → OwL R' xs (ds.set j d') fs := by
  induction h with
  | nil => intro j d nd e; simp at e
  | @cons v d0 f vs ds fs r t ih =>
    intro j d nd e
    obtain ⟨n1, n2, dj⟩ := List.nodup_append.mp nd
    cases j with
    | zero =>
      simp at e; subst e
      refine ⟨_, _, rfl, r, fun a ha => List.mem_append_left _ ha, fun R' d' k hr => ?_⟩
      exact .cons hr (t.imp fun v d g hg q => k v d g q (fun a ha => List.mem_append_right _ (hg a ha)) fun a ha z => dj a z a (hg a ha) rfl)
    | succ j =>
      obtain ⟨v', f', h1, h2, h3, h4⟩ := ih (j := j) n2 (by simpa using e)
      refine ⟨v', f', by simpa using h1, h2, fun a ha => List.mem_append_right _ (h3 a ha), fun R' d' k hr => ?_⟩
      exact .cons (k _ _ _ r (fun a ha => List.mem_append_left _ ha) fun a ha z => dj a ha a (h3 a z) rfl) (h4 R' d' (fun v d g q hg hn => k v d g q (fun a ha => List.mem_append_right _ (hg a ha)) hn) hr)
theorem At.lst2 {σ : Sg} {env : En} {S H : Hp} {fp : List Addr} (h : At K σ env S H fp) {i : Nat} {ds : List PyData} (e : (env[i]?).join = some (2, .list ds)) {j : Nat} {es : List PyData} (ej : ds[j]? = some (.list es)) :
    ∃ a xs b ys, σ[i]? = some (some (.ref a)) ∧ H a = some (.lst xs) ∧ xs.length = ds.length ∧ xs[j]? = some (.ref b) ∧ H b = some (.lst ys) ∧ RpL K S ys es ∧ ∀ ys' es', RpL K S ys' es' →
      ∃ fp', At K σ (env.set i (some (2, .list (ds.set j (.list es'))))) S (L2.upd H b (.lst ys')) fp' ∧ Go S H fp S (L2.upd H b (.lst ys')) fp' := by
  obtain ⟨v, f, g, h1, h2, h3, h4⟩ := h.ow.at (join_some e)
  rcases h2 with ⟨fl, _, _⟩ | ⟨a, xs, ds1, f1, e1, e2, e3, e4, e5, e6⟩ | ⟨a, kvs, ds1, e1, e2, _⟩
  · simp [flatD] at fl
  · cases e2
    subst e5; subst e1
    have nd : (a :: f1 ++ g).Nodup := h3.nodup_iff.mp h.nd
    obtain ⟨nd1, nd2, dj⟩ := List.nodup_append.mp nd
    obtain ⟨na, nf⟩ := List.nodup_cons.mp nd1
    obtain ⟨w, fw, hw, ow, hfw, up⟩ := e6.upd nf ej
    rcases ow with ⟨fl, _, _⟩ | ⟨b, ys, ds2, f2, g1, g2, g3, g4, g5, g6⟩ | ⟨b, kvs, ds2, g1, g2, _⟩
    · simp [flatD] at fl
    · cases g2
      have ef := g6.fp0
      subst ef; subst g5; subst g1
      have hb1 : b ∈ f1 := hfw b List.mem_cons_self
      have bg : b ∉ g := fun z => dj b (List.mem_cons_of_mem _ hb1) b z rfl
      have ba : b ≠ a := fun z => na (z ▸ hb1)
      refine ⟨a, xs, b, ys, h1, e3, e6.len, hw, g3, g6.rp0, fun ys' es' r => ?_⟩
      have hi : i < env.length := by
        cases q : env[i]? with
        | none => rw [q] at e; cases e
        | some x => exact (List.getElem?_eq_some_iff.mp q).1
      have k4 : OwE K S (L2.upd H b (.lst ys')) σ (env.set i none) g := h4.keep (.refl _) (fun c hc => upd_ne (show c ≠ b from fun z => bg (by rw [← z]; exact hc))) fun c hc => (h4.out c hc).1
      have kO : OwL (Ow K S (L2.upd H b (.lst ys')) 1) xs (ds.set j (.list es')) f1 := by
        refine up _ _ (fun v d g' q hg hn => q.keep (.refl _) (fun c hc => upd_ne (show c ≠ b from fun z => hn c hc (by rw [z]; exact List.mem_cons_self))) fun c hc => (q.out c hc).1) ?_
        exact .inr (.inl ⟨b, ys', es', [], rfl, rfl, upd_same, g4, rfl, OwL.of r⟩)
      obtain ⟨fp', p1, p2⟩ := k4.back (n := 2) (d := .list (ds.set j (.list es'))) (f := a :: f1) (List.getElem?_set_self hi) h1
        (.inr (.inl ⟨a, xs, _, f1, rfl, rfl, (upd_ne (Ne.symm ba)).trans e3, e4, rfl, kO⟩))
      rw [set_back] at p2
      have pe : fp.Perm fp' := h3.trans p1.symm
      have hbf : b ∈ fp := h3.mem_iff.mpr (List.mem_append_left _ (List.mem_cons_of_mem _ hb1))
      refine ⟨fp', ⟨fun c x q => ?_, pe.nodup_iff.mp h.nd, p2⟩, (Go.write hbf).less fun c hc => pe.mem_iff.mpr hc⟩
      rw [upd_ne (ne_of_none q g4)]; exact h.sub c x q
    · cases g2
  · cases e2
def dMethIx (i : Nat) (ι : DP) (m : List PyData → List PyData → Option (PyData × List PyData)) (ε : DPL) : DE := fun env => match (env[i]?).join, ι env, ε env with
  | some (2, .list ds), some (_, .int k), some as => (match ixN ds.length k with
    | some j => (match ds[j]? with
      | some (.list es) => (match m es as with
        | some (res, es') => some (res, env.set i (some (2, .list (ds.set j (.list es')))))
        | none => none)
      | _ => none)
    | none => none)
  | _, _, _ => none
theorem LE.methIx {i : Nat} {r : V → List V → Hp → VK → Prop} {m : List PyData → List PyData → Option (PyData × List PyData)} (hr : OpM K r m) {ι : DP} {ε : DPL} {σ : Sg} {H : Hp} {Q : VK} (h : LE K (dMethIx i ι m ε) σ H Q) :
    tBM K "list" r (tOp (fun x y H Q => rIxL K x y H Q ∨ rIxT K x y H Q) (tVar i) (LP K ι)) (LPA K ε) σ H Q := by
  obtain ⟨env, S, fp, a0, d, env', e, q⟩ := h
  unfold dMethIx at e
  split at e
  · rename_i ds n k as es ei ea
    split at e
    · rename_i j ej
      split at e
      · rename_i es0 ed
        split at e
        · rename_i res es' em
          cases e
          obtain ⟨a, xs, b, ys, h1, h2, hl, h3, h4, h5, _⟩ := a0.lst2 es ed
          refine ⟨.ref a, h1, env, S, fp, a0, _, ei, fun u S1 H1 f1 a1 m1 o1 k1 => ?_⟩
          have eu := (o1.flat (by rfl)).1
          cases eu
          obtain ⟨a', xs', b', ys', h1', h2', hl', h3', h4', h5', _⟩ := a1.lst2 es ed
          rw [h1] at h1'; cases h1'
          refine .inl ⟨a, xs', k, .ref b', rfl, rfl, .of h2', ?_, .inl ⟨rfl, ys', .of h4'⟩, env, S1, fp, a1, as, ea, fun vs S2 H2 a2 m2 r2 => ?_⟩
          · unfold L2.atI; rw [hl', ej]; exact h3'
          · obtain ⟨a2', xs2, b2, ys2, h12, h22, hl2, h32, h42, h52, go⟩ := a2.lst2 es ed
            rw [h1] at h12; cases h12
            have e1 := m2.h a _ h2'
            rw [h22] at e1; cases e1
            rw [h3'] at h32; cases h32
            refine hr _ _ _ _ em S2 H2 b' ys2 vs Q a2.sub h42 h52 r2 fun w xs3 rw3 rx3 => ?_
            obtain ⟨f3, a3, g3⟩ := go xs3 es' rx3
            exact q w S2 _ f3 a3 (m1.go.trans (m2.go.trans g3)) rw3
        · cases e
      · cases e
    · cases e
  · cases e
theorem qe_methIx (i : Nat) {name : Str} {mid : String} {r : V → List V → Hp → VK → Prop} {m : List PyData → List PyData → Option (PyData × List PyData)} {x : Str} {ie e : Expr} {es : List Expr} {apos cpos px ps : Pos} {ι : DP} {ε : DPL}
    (slot : Slot "list" name mid) (hty : typeOf (.builtin mid) = pure (.type "method_descriptor")) (hm : MtR X mid r) (hr : OpM X.K r m) (hi : PE X ie (LP X.K ι)) (ha : PA X (e :: es) (LPA X.K ε)) (hix : PlainIx ie := by intro _ _; rfl)
    (hN : X.N[i]? = some x := by rfl) (hv : Vis X.env.scope x := by first | exact Or.inl rfl | exact Or.inr (Or.inl rfl) | exact Or.inr (Or.inr rfl)) (hd : (x == ("__debug__" : Str)) = false := by decide) (hcd : (x == ("__classdict__" : Str)) = false := by decide)
    (hbase : attributeBase (.Subscript (.Name x px) ie ps) name X.env (eval (.Subscript (.Name x px) ie ps) X.env) = eval (.Subscript (.Name x px) ie ps) X.env := by rfl)
    (hfew : ((backTo cpos (starEach (e :: es) X.env)).all (fun x => !x.1) && (backToKw cpos (keywordEach [] X.env)).all (fun x => x.1.isSome)
      && decide ((e :: es).length + ([] : List Keyword).length + (if ([] : List Keyword).isEmpty then 0 else 1) < 30)) = true := by rfl)
    (hline : (apos.endLine == cpos.line) = true := by rfl) (hs : starEach (e :: es) X.env = (false, eval e X.env) :: starEach es X.env := by rfl) (hplain : (backTo cpos (starEach es X.env)).any (·.1) = false := by rfl) :
    PE X (.Call (.Attribute (.Subscript (.Name x px) ie ps) name apos) (e :: es) [] cpos) (LE X.K (dMethIx i ι m ε)) :=
  PE.mono (pe_bm PySem.F.plainAttrs_list slot hty hm (pe_ix o_ix (pv i hN hv hd hcd) hi hix) ha hbase hfew hline hs hplain) fun _ _ _ w => w.methIx hr
end
/-! ### calls with keywords -/
def permL {α : Type} (π : List Nat) (xs : List α) : List α := π.filterMap fun i => xs[i]?
def rPerm (π : List Nat) (ε : DAr) : DAr := fun env => match ε env with
  | some (as, e) => if π.all (fun i => decide (i < as.length)) = true then some (permL π as, e) else none
  | none => none
section
variable {X : Cx} {K : Fr}
theorem ArOk.get {S : Hp} {σ : Sg} {vs : List V} {as : List Ar} (h : ArOk K S σ vs as) : ∀ {i : Nat} {a : Ar}, as[i]? = some a → ∃ v, vs[i]? = some v ∧ ArOk K S σ [v] [a] := by
  induction h with
  | nil => intro i a e; simp at e
  | r q t ih =>
    intro i a e
    cases i with
    | zero => simp at e; subst e; exact ⟨_, rfl, .r q .nil⟩
    | succ i => simpa using ih (i := i) (by simpa using e)
  | v q t ih =>
    intro i a e
    cases i with
    | zero => simp at e; subst e; exact ⟨_, rfl, .v q .nil⟩
    | succ i => simpa using ih (i := i) (by simpa using e)
theorem ArOk.cons {S : Hp} {σ : Sg} {v : V} {a : Ar} {vs : List V} {as : List Ar} (h : ArOk K S σ [v] [a]) (t : ArOk K S σ vs as) : ArOk K S σ (v :: vs) (a :: as) := by
  cases h with
  | r q _ => exact .r q t
  | v q _ => exact .v q t
theorem ArOk.perm {S : Hp} {σ : Sg} {vs : List V} {as : List Ar} (h : ArOk K S σ vs as) : ∀ {π : List Nat}, π.all (fun i => decide (i < as.length)) = true → ArOk K S σ (permL π vs) (permL π as)
  | [], _ => .nil
  | i :: π, e => by
    simp only [List.all_cons, Bool.and_eq_true, decide_eq_true_eq] at e
    have ha : as[i]? = some as[i] := List.getElem?_eq_getElem e.1
    obtain ⟨v, hv, r⟩ := h.get ha
    unfold permL
    rw [List.filterMap_cons, List.filterMap_cons, hv, ha]
    exact r.cons (h.perm e.2)
theorem LR.perm {π : List Nat} {ε : DAr} {σ : Sg} {H : Hp} {Q : List V → Hp → Prop} (h : LR K (rPerm π ε) σ H Q) : LR K ε σ H fun vs H' => Q (permL π vs) H' := by
  obtain ⟨env, S, fp, a0, as, env', e, q⟩ := h
  unfold rPerm at e
  split at e
  · rename_i as' e1 eq1
    split at e
    · rename_i hp
      cases e
      exact ⟨env, S, fp, a0, as', _, eq1, fun vs S1 H1 f1 a1 m1 r1 => q _ S1 H1 f1 a1 m1 (r1.perm hp)⟩
    · cases e
  · cases e
theorem vals_app {vs zs : List V} {us ws : List Value} (h : Vals vs us) (h' : Vals zs ws) : Vals (vs ++ zs) (us ++ ws) := by
  induction h with
  | nil => exact h'
  | cons r t ih => exact .cons r ih
theorem vals_get {vs : List V} {us : List Value} (h : Vals vs us) : ∀ {i : Nat} , (vs[i]? = none ∧ us[i]? = none) ∨ ∃ v u, vs[i]? = some v ∧ us[i]? = some u ∧ RelV v u := by
  induction h with
  | nil => intro i; exact .inl ⟨by simp, by simp⟩
  | cons r t ih =>
    intro i
    cases i with
    | zero => exact .inr ⟨_, _, rfl, rfl, r⟩
    | succ i => simpa using ih (i := i)
theorem vals_perm {vs : List V} {us : List Value} (h : Vals vs us) : ∀ (π : List Nat), Vals (permL π vs) (permL π us)
  | [] => .nil
  | i :: π => by
    unfold permL
    rw [List.filterMap_cons, List.filterMap_cons]
    rcases vals_get h (i := i) with ⟨h1, h2⟩ | ⟨v, u, h1, h2, r⟩
    · rw [h1, h2]; exact vals_perm h π
    · rw [h1, h2]; exact .cons r (vals_perm h π)
theorem kbn_of {x qual : Str} {params : Arguments} {body : List Stmt} {scope : Scope} {f : Addr} {fd : FuncData} {ps : List Str} (F : FunD K x qual params body scope [] [] f fd) (n : Nat) (ks : List Str) (π : List Nat)
    (h : ∀ (kV doc pm : Value) (an : Option Addr) (cdv ct : Value) (us ws : List Value), us.length = n → ws.length = ks.length → bindArgs (PySem.W.fnOf x qual params body scope .none kV doc pm an cdv ct) ⟨us, ks.zip ws⟩ = pure (ps.zip (permL π (us ++ ws)))) :
    KBn K fd ps n ks (fun us ws => permL π (us ++ ws)) (fun vs zs => permL π (vs ++ zs)) := by
  obtain ⟨oc, od, dV, kV, doc, pm, an, cdv, ct, osl, rfl, lk, hcd, hD, hK⟩ := F.ex
  rcases hD with ⟨_, rfl⟩ | ⟨e, _⟩
  · exact ⟨fun s us ws _ l1 l2 => BindsTo.of_eq (h kV doc pm an cdv ct us ws l1 l2), fun r1 r2 => vals_perm (vals_app r1 r2) π⟩
  · exact absurd rfl e
/-- the keywords' values -/
theorem PK.mono {kws : List Keyword} {t t' : TA} (h : PK X kws t) (m : ∀ σ H Q, t' σ H Q → t σ H Q) : PK X kws t' := ⟨fun pos pins s σ H Q I w => h.run pos pins s σ H Q I (m _ _ _ w)⟩
theorem qk_nil : PK X [] (LR K rNil) := PK.mono pk_nil fun _ _ _ w => w.nil
theorem qk_val {e : Expr} {nm : Option Str} {kpos : Pos} {kws : List Keyword} {α : DE} {β : DAr} (ha : PE X e (LE K α)) (hr : PK X kws (LR K β)) : PK X (⟨nm, e, kpos⟩ :: kws) (LR K (rVal α β)) := PK.mono (pk_cons ha hr) fun _ _ _ w => w.val
theorem qk_ref (i : Nat) {x : Str} {pos : Pos} {nm : Option Str} {kpos : Pos} {kws : List Keyword} {β : DAr} (hr : PK X kws (LR K β))
    (hN : X.N[i]? = some x := by rfl) (hv : Vis X.env.scope x := by first | exact Or.inl rfl | exact Or.inr (Or.inl rfl) | exact Or.inr (Or.inr rfl)) (hd : (x == ("__debug__" : Str)) = false := by decide) (hcd : (x == ("__classdict__" : Str)) = false := by decide) : PK X (⟨nm, .Name x pos, kpos⟩ :: kws) (LR K (rRef i β)) := PK.mono (pk_cons (pv i hN hv hd hcd) hr) fun _ _ _ w => w.ref
variable {CX : CXT} {k : Nat} {f : Addr} {fd : FuncData} {ps ks : List Str} {sp : Sp} {E : XK} {x : Str} {p pos : Pos} {kws : List Keyword} {tk : TA} {g : List Value → List Value → List Value} {gV : List V → List V → List V}
/-- f(k = v, ..) -/
theorem pe_callN0 (F : FnOk X.prog X.w X.K X.mg X.base CX k f fd ps sp) (hr : Room k X.A) (hg : Gl X x) (hm : X.mg x = some (.ref f)) (hk : PySem.W.keepIn X.K (.ref f) = true) (hb : KBn X.K fd ps 0 ks g gV) (hx : Passes CX X E)
    (hkw : PK X kws tk) (hall : (backToKw pos (keywordEach kws X.env)).all (·.1.isSome) = true := by rfl) (hks : (backToKw pos (keywordEach kws X.env)).filterMap (·.1) = ks := by rfl) (hdb : (x == ("__debug__" : Str)) = false := by decide)
    (hpl : ((backTo pos (starEach [] X.env)).any (·.1) || (backToKw pos (keywordEach kws X.env)).any (·.1.isNone)) = false := by rfl) :
    PE X (.Call (.Name x p) [] kws pos) (tCallN 0 ks.length sp gV E tNil tk) := by
  refine ⟨fun pins s σ H Q I h => ?_⟩
  refine wpAny_Call_Name_kw (ld_glob I hg hm ?_ hdb)
  refine PySem.W.callWith_KW0 (h₀ := X.base) I.ok.mod.kin hk hall ?_ hpl
  refine thn (hkw.run pos pins s σ H _ I h) fun ws s2 ⟨zs, H2, I2, rz, l1, l2, q2⟩ => ⟨I2.kIn, ?_⟩
  rw [hks]
  exact run_fnN (us := []) (vs := []) F hr hb hx I2 .nil rz rfl l2 q2
theorem arBr_len : ∀ as : List Ar, as.length = (arBr as).length
  | [] => rfl
  | .r _ :: as => by simp only [arBr, List.length_cons, arBr_len as]
  | .v _ :: as => by simp only [arBr, List.length_cons, arBr_len as]
theorem LR.mono {ε : DAr} {σ : Sg} {H : Hp} {Q Q' : List V → Hp → Prop} (h : LR K ε σ H Q) (m : ∀ vs H, Q vs H → Q' vs H) : LR K ε σ H Q' := by
  obtain ⟨env, S, fp, a0, as, env', e, q⟩ := h
  exact ⟨env, S, fp, a0, as, env', e, fun vs S' H' fp' a g r => m _ _ (q vs S' H' fp' a g r)⟩
/-- with how many there are -/
theorem LR.lens {n : Nat} {ε : DAr} {σ : Sg} {H : Hp} {Q : List V → Hp → Prop} (h : LR K ε σ H Q) (hn : ∀ env as e, ε env = some (as, e) → as.length = n) : LR K ε σ H fun vs H => vs.length = n ∧ Q vs H := by
  obtain ⟨env, S, fp, a0, as, env', e, q⟩ := h
  refine ⟨env, S, fp, a0, as, env', e, fun vs S' H' fp' a g r => ⟨?_, q vs S' H' fp' a g r⟩⟩
  rw [← hn _ _ _ e, r.lenB]
  exact (arBr_len as).symm
def arN (n : Nat) (ε : DAr) : Prop := ∀ env as e, ε env = some (as, e) → as.length = n
theorem arN_nil : arN 0 rNil := fun env as e h => by cases h; rfl
theorem arN_val {n : Nat} {α : DE} {β : DAr} (h : arN n β) : arN (n + 1) (rVal α β) := fun env as e q => by
  unfold rVal at q
  split at q
  · split at q
    · rename_i eq; cases q; rw [List.length_cons, h _ _ _ eq]
    · cases q
  · cases q
theorem arN_ref {n i : Nat} {β : DAr} (h : arN n β) : arN (n + 1) (rRef i β) := fun env as e q => by
  unfold rRef at q
  split at q
  · split at q
    · rename_i eq; cases q; rw [List.length_cons, h _ _ _ eq]
    · cases q
  · cases q
theorem qo_callK {F : FnD} {br : List Bool} {ε : DAr} {π : List Nat} {x' qual : Str} {params : Arguments} {bodyS : List Stmt} {scope : Scope} (G : FnOk X.prog X.w X.K X.mg X.base CX0 k f fd ps (PrD X.K F br)) (hr : Room k X.A) (hm : X.mg x = some (.ref f)) (hk : PySem.W.keepIn X.K (.ref f) = true) (FD : FunD X.K x' qual params bodyS scope [] [] f fd)
    (hb : ∀ (kV doc pm : Value) (an : Option Addr) (cdv ct : Value) (us ws : List Value), us.length = 0 → ws.length = ks.length → bindArgs (PySem.W.fnOf x' qual params bodyS scope .none kV doc pm an cdv ct) ⟨us, ks.zip ws⟩ = pure (ps.zip (permL π (us ++ ws))))
    (hkw : PK X kws (LR X.K ε)) (hn : arN ks.length ε) (hg : Gl X x := by rfl) (hall : (backToKw pos (keywordEach kws X.env)).all (·.1.isSome) = true := by rfl) (hks : (backToKw pos (keywordEach kws X.env)).filterMap (·.1) = ks := by rfl) (hdb : (x == ("__debug__" : Str)) = false := by decide)
    (hpl : ((backTo pos (starEach [] X.env)).any (·.1) || (backToKw pos (keywordEach kws X.env)).any (·.1.isNone)) = false := by rfl) :
    PE X (.Call (.Name x p) [] kws pos) (LO X.K (dCall F br (rPerm π ε))) :=
  PE.mono (pe_callN0 G hr hg hm hk (kbn_of FD 0 ks π hb) (show Passes CX0 X E0 from pass0) hkw hall hks hdb hpl) fun σ H Q w => by
    have w1 : tCall (PrD X.K F br) [] E0 (LR X.K (rPerm π ε)) σ H Q := w.call
    have w2 := (LR.perm (show LR X.K (rPerm π ε) σ H (fun vs H1 => PrD X.K F br (vs ++ []) H1 Q E0) from w1)).lens hn
    refine LR.mono w2 fun vs H1 ⟨l, q⟩ => ⟨rfl, l, ?_⟩
    rw [List.append_nil] at q
    exact q
end
/-! ### len(set(xs)) of ints that are all different -/
section
variable {X : Cx} {K : Fr}
open scoped Dn.Sz in
def dLenSet (α : DE) : DE := fun env => match α env with
  | some (.list ds, e) => (match intsD ds with
    | some ns => if decide ns.Nodup = true ∧ ns.length ≤ 4000 then some (.int (ns.length : Nat), e) else none
    | none => none)
  | _ => none
theorem LE.lenSet {α : DE} {σ : Sg} {H : Hp} {Q : VK} (h : LE K (dLenSet α) σ H Q) : RZ.tLenSetI K (LE K α) σ H Q := by
  obtain ⟨env, S, fp, a0, d, env', e, q⟩ := h
  unfold dLenSet at e
  split at e
  · rename_i ds e1 eq1
    split at e
    · rename_i ns en
      split at e
      · rename_i hc
        cases e
        refine ⟨env, S, fp, a0, _, _, eq1, fun v S1 H1 f1 a1 m1 r1 => ?_⟩
        cases r1 with
        | lst hs ha => exact ⟨_, ns, rfl, (by rw [← ha.ints' en]; exact (lrMono a1.sub hs).sq), of_decide_eq_true hc.1, hc.2, q _ S1 H1 f1 a1 m1 (.int _)⟩
      · cases e
    · cases e
  · cases e
theorem qe_lenSet {a : Expr} {p p2 q pos : Pos} {α : DE} (hm : X.mg "len" = none) (hm2 : X.mg "set" = none) (ha : PE X a (LE X.K α)) (hc : X.calm = true) (hg : Gl X "len" := by rfl) (hg2 : Gl X "set" := by rfl)
    (na : starEach [a] X.env = (false, eval a X.env) :: starEach [] X.env := by rfl) : PE X (.Call (.Name "len" p) [.Call (.Name "set" p2) [a] [] q] [] pos) (LE X.K (dLenSet α)) :=
  PE.mono (RZ.pe_lenSetI hg hm hg2 hm2 ha hc na) fun _ _ _ w => w.lenSet
end
end Dn

set_option Elab.async false
set_option linter.all false
set_option maxRecDepth 100000
set_option maxHeartbeats 2000000
/-! layer D, 12: comprehensions of own lists -/
namespace Dn
open PySem PySem.Spec PyProof.Rows L2
section
variable {X : Cx} {K : Fr} {kp : List Nat}
open scoped Dn.Sz in
def dLcOL (m : Nat) (vs : List Nat) (g : DG) (τ : DT) (ε : DO) : List PyData → En → List PyData → Option (List PyData × En)
  | [], env, acc => some (acc, env)
  | d :: ds, env, acc => match g d env with
    | some e1 => (match τ e1 with
      | some (true, e2) => (match ε e2 with
        | some (y, e3) => if acc.length < sizeLine ∧ frzAt vs e3 = true ∧ (y.1 = m ∨ flatD y.2 = true) then dLcOL m vs g τ ε ds (wipeE e3 vs) (acc ++ [y.2]) else none
        | none => none)
      | some (false, e2) => if frzAt vs e2 = true then dLcOL m vs g τ ε ds (wipeE e2 vs) acc else none
      | none => none)
    | none => none
def dLcO (m : Nat) (ι : DI) (vs : List Nat) (g : DG) (τ : DT) (ε : DO) : DO := fun env => match ι env with
  | some (ds, e1) => if frzAt vs e1 = true then (match dLcOL m vs g τ ε ds (wipeE e1 vs) [] with
    | some (acc, e2) => some ((m + 1, .list acc), restE vs e1 e2)
    | none => none) else none
  | none => none
theorem OwL.snoc {R : V → PyData → List Addr → Prop} {v : V} {d : PyData} {f : List Addr} (r : R v d f) {xs : List V} {ds : List PyData} {fs : List Addr} (h : OwL R xs ds fs) : OwL R (xs ++ [v]) (ds ++ [d]) (fs ++ f) := by
  induction h with
  | nil => simpa using OwL.cons r .nil
  | cons q t ih => rw [List.append_assoc]; exact .cons q ih
/-- an own list at D, apart from the slots -/
structure AccO (K : Fr) (m : Nat) (D : Addr) (S H : Hp) (f' : List Addr) (accV : List V) (acc : List PyData) (fa : List Addr) : Prop where
  h : H D = some (.lst accV)
  s : S D = none
  ow : OwL (Ow K S H m) accV acc fa
  nd : (D :: fa).Nodup
  ap : ∀ a ∈ D :: fa, a ∉ f'
theorem AccO.go {m : Nat} {D : Addr} {S H S1 H1 : Hp} {f' f1 : List Addr} {accV : List V} {acc : List PyData} {fa : List Addr} (h : AccO K m D S H f' accV acc fa) (g : Go S H f' S1 H1 f1) : AccO K m D S1 H1 f1 accV acc fa := by
  have out : ∀ a ∈ D :: fa, S a = none ∧ ∃ o, H a = some o := fun a ha => by
    rcases List.mem_cons.mp ha with z | z
    · subst z; exact ⟨h.s, _, h.h⟩
    · exact h.ow.all (fun v d f q => Ow.out q) a z
  refine ⟨g.fr _ _ h.h (h.ap D List.mem_cons_self), g.sf _ _ h.h (h.ap D List.mem_cons_self) h.s, h.ow.imp fun v d f hf q => q.keep g.s (fun a ha => ?_) fun a ha => ?_, h.nd, fun a ha z => ?_⟩
  · obtain ⟨_, o, e⟩ := q.out a ha
    rw [e]; exact g.fr a o e (h.ap a (List.mem_cons_of_mem _ (hf a ha)))
  · obtain ⟨s, o, e⟩ := q.out a ha
    exact g.sf a o e (h.ap a (List.mem_cons_of_mem _ (hf a ha))) s
  · obtain ⟨s, o, e⟩ := out a ha
    rcases g.new a z with q | q
    · exact h.ap a ha q
    · rw [e] at q; cases q
theorem LO.lcO {m : Nat} {ι : DI} {vs ts : List Nat} {g : DG} {τ : DT} {ε : DO} {σ : Sg} {H : Hp} {Q : VK} (hts : ∀ i ∈ ts, i ∈ vs) (h : LO K (dLcO m ι vs g τ ε) σ H Q) : tLc (LI K ι) (LG K ts g) (LT K τ) (LO K ε) vs σ H Q := by
  obtain ⟨env, S, fp, a0, s, env', e, q⟩ := h
  unfold dLcO at e
  split at e
  · rename_i ds e1 eq1
    split at e
    · rename_i hf
      split at e
      · rename_i accF e2 eq2
        cases e
        refine ⟨env, S, fp, a0, ds, _, eq1, fun J S1 H1 f1 a1 m1 yl D hD => ?_⟩
        let W : Nat → Nat → Hp → Prop := fun i n H' => n = ds.length - i ∧ i ≤ ds.length ∧ ∃ e3 S' f' acc accV fa, At K (L2.wipe σ vs) e3 S' H' f' ∧ Go S1 H1 f1 S' H' f' ∧ AccO K m D S' H' f' accV acc fa ∧ (∀ a ∈ D :: fa, a ∈ f1 ∨ H1 a = none) ∧
          (∀ i ∈ vs, (e3[i]?).join = none) ∧ dLcOL m vs g τ ε (ds.drop i) e3 acc = some (accF, e2)
        have blank : ∀ e : En, ∀ i ∈ vs, ((wipeE e vs)[i]?).join = none := fun e i hi => by
          by_cases hl : i < e.length
          · rw [wipeE_in hi hl]; rfl
          · rw [List.getElem?_eq_none (by rw [wipeE_len]; omega)]; rfl
        have hD1 : D ∉ f1 := a1.not_mem hD
        have hS1 : S1 D = none := a1.sub.free hD
        refine ⟨W, ⟨_, rfl, Nat.zero_le _, _, S1, f1, [], [], [], At.upd ⟨a1.sub, a1.nd, a1.ow.wipe hf⟩ hS1 hD1, Go.new' .refl hD, ⟨upd_same, hS1, .nil, by simp, fun a ha => by rw [List.mem_singleton.mp ha]; exact hD1⟩, fun a ha => by rw [List.mem_singleton.mp ha]; exact .inr hD, blank _, by simpa using eq2⟩, ?_⟩
        rintro i n H2 ⟨rfl, hi, e3, S2, f2, acc, accV, fa, a2, g2, ac2, nw, bl, e4⟩
        by_cases hlt : i < ds.length
        · have hd : ds[i]? = some ds[i] := List.getElem?_eq_getElem hlt
          rw [drop_at hd] at e4
          obtain ⟨hgo, hy⟩ := yl.go S2 H2 g2.s a2.sub i _ hd
          refine .inr ⟨hgo, W (i + 1) (ds.length - (i + 1)), fun H' hN => ⟨ds.length - (i + 1), by omega, hN⟩, fun x H3 y => ?_⟩
          obtain ⟨S3, ok⟩ := hy x H3 y
          have a3 := ok.at' _ _ _ a2
          have ac3 := ac2.go (f1 := f2) ok.gp.go
          unfold dLcOL at e4
          split at e4
          · rename_i e5 eq5
            refine ⟨e3, S3, f2, _, a3, ok.rp, _, eq5, fun σ4 S4 H4 f4 a4 m4 l4 k4 => ?_⟩
            have wq : L2.wipe σ4 vs = L2.wipe σ vs := wipe_eq (by rw [l4, wipe_length]) fun j hj => k4 j fun z => hj (hts j z)
            have ac4 := ac3.go m4
            refine ⟨wq, ?_⟩
            split at e4
            · rename_i e6 eq6
              split at e4
              · rename_i y e7 eq7
                split at e4
                · rename_i hc
                  refine ⟨_, S4, f4, a4, _, _, eq6, fun S5 H5 f5 a5 m5 => iteT ?_⟩
                  have ac5 := ac4.go m5
                  refine ⟨_, S5, f5, a5, y, _, eq7, fun v S6 H6 f6 a6 m6 => ?_⟩
                  have ac6 := ac5.go m6
                  have gg : Go S1 H1 f1 S6 H6 f6 := g2.trans (ok.gp.go.trans (m4.trans (m5.trans m6)))
                  obtain ⟨sub6, nd6, o6⟩ := a6
                  cases o6 with
                  | @yes _ ny dy fv _ _ fg ov oe =>
                    obtain ⟨nv, ng, dj⟩ := List.nodup_append.mp nd6
                    have hm : Ow K S6 H6 m v dy fv := by
                      rcases hc.2.2 with z | z
                      · simp only at z; subst z; exact ov
                      · obtain ⟨r, z2⟩ := ov.flat z
                        subst z2; exact Ow.ofFlat r z
                    have Dv : D ∉ fv := fun z => ac6.ap D List.mem_cons_self (List.mem_append_left _ z)
                    have Dg : D ∉ fg := fun z => ac6.ap D List.mem_cons_self (List.mem_append_right _ z)
                    have Da : D ∉ fa := (List.nodup_cons.mp ac6.nd).1
                    have up : ∀ {v d f}, Ow K S6 H6 m v d f → D ∉ f → Ow K S6 (L2.upd H6 D (.lst (accV ++ [v]))) m v d f := fun q n => q.keep (.refl _) (fun b hb => upd_ne (show b ≠ D from fun z => n (by rw [← z]; exact hb))) fun b hb => (q.out b hb).1
                    refine ⟨accV, ac6.h, by rw [ac6.ow.len]; exact hc.1, rfl, hlt, wipeE e7 vs, S6, fg, acc ++ [dy], accV ++ [v], fa ++ fv, ?_, (Go.new' gg hD).less fun a ha => List.mem_append_right _ ha, ⟨upd_same, ac6.s, ?_, ?_, ?_⟩, ?_, blank _, e4⟩
                    · have w6 := oe.wipe hc.2.1
                      rw [wq] at w6
                      exact At.upd ⟨sub6, ng, w6⟩ ac6.s Dg
                    · refine OwL.snoc ?_ (ac6.ow.imp fun v d f hf q => ?_)
                      · exact hm.keep (.refl _) (fun b hb => upd_ne (show b ≠ D from fun z => Dv (by rw [← z]; exact hb))) fun b hb => (hm.out b hb).1
                      · exact q.keep (.refl _) (fun b hb => upd_ne (show b ≠ D from fun z => Da (by rw [← z]; exact hf b hb))) fun b hb => (q.out b hb).1
                    · refine List.nodup_cons.mpr ⟨fun z => (List.mem_append.mp z).elim Da Dv, List.nodup_append.mpr ⟨(List.nodup_cons.mp ac6.nd).2, nv, fun a ha b hb e => ?_⟩⟩
                      subst e
                      exact ac6.ap a (List.mem_cons_of_mem _ ha) (List.mem_append_left _ hb)
                    · intro a ha z
                      rcases List.mem_cons.mp ha with h1 | h1
                      · subst h1; exact Dg z
                      · rcases List.mem_append.mp h1 with h2 | h2
                        · exact ac6.ap a (List.mem_cons_of_mem _ h2) (List.mem_append_right _ z)
                        · exact dj a h2 a z rfl
                    · intro a ha
                      rcases List.mem_cons.mp ha with h1 | h1
                      · subst h1; exact .inr hD
                      · rcases List.mem_append.mp h1 with h2 | h2
                        · exact nw a (List.mem_cons_of_mem _ h2)
                        · exact gg.new a (List.mem_append_left _ h2)
                · cases e4
              · cases e4
            · rename_i e6 eq6
              split at e4
              · rename_i hc
                refine ⟨_, S4, f4, a4, _, _, eq6, fun S5 H5 f5 a5 m5 => iteF ?_⟩
                have gg : Go S1 H1 f1 S5 H5 f5 := g2.trans (ok.gp.go.trans (m4.trans m5))
                refine ⟨rfl, hlt, wipeE e6 vs, S5, f5, acc, accV, fa, ?_, gg, ac4.go m5, nw, blank _, e4⟩
                have w5 := a5.ow.wipe hc
                rw [wq] at w5
                exact ⟨a5.sub, a5.nd, w5⟩
              · cases e4
            · cases e4
          · cases e4
        · have ei : i = ds.length := by omega
          subst ei
          rw [List.drop_length] at e4
          cases e4
          refine .inl ⟨yl.stop S2 H2 g2.s a2.sub, ?_⟩
          have u2 := OwE.unwipe a2.ow bl
          obtain ⟨f3, p3, p4⟩ := OwE.rest (H' := H2) a1.ow g2.s hf u2
          refine q (.ref D) S2 H2 ((D :: fa) ++ f3) ⟨a2.sub, List.nodup_append.mpr ⟨ac2.nd, p3.nodup_iff.mpr a2.nd, fun a ha b hb e => ?_⟩, OwE.yes (f := D :: fa) (.inr (.inl ⟨D, accV, _, fa, rfl, rfl, ac2.h, ac2.s, rfl, ac2.ow⟩)) p4⟩ (m1.trans ?_)
          · subst e
            exact ac2.ap a ha (p3.mem_iff.mp hb)
          · refine ⟨g2.s, g2.fr, g2.dom, fun a ha => ?_, g2.sf⟩
            rcases List.mem_append.mp ha with z | z
            · exact nw a z
            · exact g2.new a (p3.mem_iff.mp z)
      · cases e
    · cases e
  · cases e
variable {elt tg iter : Expr} {ifs : List Expr} {scope : Scope} {pos : Pos} {ι : DI} {g : DG} {ts : List Nat} {τ : DT} {ε : DO}
theorem qo_lcO (m : Nat) (own : List (Str × Nat)) (hc : X.calm = true) (hN : X.N.Nodup) (hi : PI X tg iter (LI K ι)) (ok : BlkOk X.N X.env.scope scope own)
    (hg : ∀ (s : Shared) (H : Hp) (C : Addr) (cl : List (Str × Addr)) (fp : List Addr), PG (X.blk s H scope (compEnvC scope cl C X.env) fp) tg (LG K ts g)) (ht : ∀ (s : Shared) (H : Hp) (C : Addr) (cl : List (Str × Addr)) (fp : List Addr), PTs (X.blk s H scope (compEnvC scope cl C X.env) fp) ifs (LT K τ))
    (he : ∀ (s : Shared) (H : Hp) (C : Addr) (cl : List (Str × Addr)) (fp : List Addr), PE (X.blk s H scope (compEnvC scope cl C X.env) fp) elt (LO K ε)) (hts : (ts.all fun i => (own.map (·.2)).contains i) = true := by rfl) (hs : ∀ x, foldedSetIterable iter X.env x = pure x := by intro _; rfl) :
    PE X (.ListComp elt [⟨tg, iter, ifs, 0⟩] scope pos) (LO K (dLcO m ι (own.map (·.2)) g τ ε)) := PE.mono (pe_lc hc hN hi ok hg ht he hs) fun _ _ _ w => w.lcO (subset_of hts)
theorem qs_setLcO (m : Nat) {kp : List Nat} (i : Nat) (own : List (Str × Nat)) {y : Str} {py spos : Pos} (hc : X.calm = true) (hN : X.N.Nodup) (hi : PI X tg iter (LI K ι)) (ok : BlkOk X.N X.env.scope scope own)
    (hg : ∀ (s : Shared) (H : Hp) (C : Addr) (cl : List (Str × Addr)) (fp : List Addr), PG (X.blk s H scope (compEnvC scope cl C X.env) fp) tg (LG K ts g)) (ht : ∀ (s : Shared) (H : Hp) (C : Addr) (cl : List (Str × Addr)) (fp : List Addr), PTs (X.blk s H scope (compEnvC scope cl C X.env) fp) ifs (LT K τ))
    (he : ∀ (s : Shared) (H : Hp) (C : Addr) (cl : List (Str × Addr)) (fp : List Addr), PE (X.blk s H scope (compEnvC scope cl C X.env) fp) elt (LO K ε)) (hts : (ts.all fun i => (own.map (·.2)).contains i) = true := by rfl)
    (hk : kp.contains i = false := by rfl) (hy : X.N[i]? = some y := by rfl) (hyl : X.env.scope.names.lookup y = some .local := by rfl) (hsw : swapsWith (.ListComp elt [⟨tg, iter, ifs, 0⟩] scope pos) (some (.Name y py)) spos.line X.env = pure true := by first | exact sw_true rfl rfl rfl (by decide +kernel) | rfl) (hs : ∀ x, foldedSetIterable iter X.env x = pure x := by intro _; rfl) :
    PS X (.Assign [.Name y py] (.ListComp elt [⟨tg, iter, ifs, 0⟩] scope pos) spos) (LS K kp (dSetO i (dLcO m ι (own.map (·.2)) g τ ε))) := by
  refine PS.mono (ps_setLc hc hN hy hyl hsw hi ok hg ht he hs) fun D σ H w => ?_
  have z := LS.setO hk w
  obtain ⟨env, S, fp, a0, s, env', e, q⟩ := z
  exact LO.lcO (subset_of hts) ⟨env, S, fp, a0, s, env', e, q⟩
end
end Dn

set_option Elab.async false
set_option linter.all false
set_option maxRecDepth 100000
set_option maxHeartbeats 1000000
/-! layer D, 13: defs by name -/
namespace Dn
open PySem PySem.Spec PyProof.Rows L2
theorem FnOk.up {P : Program} {w : World} {K : Fr} {mg : Str → Option Value} {base : Heap} {CX : CXT} {j k : Nat} {f : Addr} {fd : FuncData} {ps : List Str} {sp : Sp} (F : FnOk P w K mg base CX j f fd ps sp) (h : j ≤ k) : FnOk P w K mg base CX k f fd ps sp :=
  ⟨F.len, fun A outer s H args us vs Q E hr => F.run A outer s H args us vs Q E (hr.mono h)⟩
abbrev FnP (K : Fr) (x : Str) (st : Stmt) (f : Addr) (fd : FuncData) : Prop := FunD K x x (defArgs st) (defBody st) (defScope st) [] [] f fd
/-- the def x stands in the module and keeps its promise -/
structure Df (P : Program) (w : World) (K : Fr) (mg : Str → Option Value) (base : Heap) (k : Nat) (x : Str) (st : Stmt) (ps : List Str) (F : FnD) (br : List Bool) : Prop where
  ex : ∃ f fd, FnP K x st f fd ∧ mg x = some (.ref f) ∧ FnOk P w K mg base CX0 k f fd ps (PrD K F br)
/-- where it stands -/
abbrev At_ (K : Fr) (mg : Str → Option Value) (x : Str) (st : Stmt) : Prop := ∃ f fd, FnP K x st f fd ∧ mg x = some (.ref f)
section
variable {P : Program} {w : World} {K : Fr} {mg : Str → Option Value} {base : Heap} {k : Nat} {x : Str} {st : Stmt} {ps N : List Str} {br : List Bool} {body : DS}
theorem Df.mk' (a : At_ K mg x st) (Sc : FnScope N ps (defScope st)) (hl : br.length = ps.length)
    (hb : ∀ (f : Addr) (cdv : Value) (A : Around) (outer : List Env) (s : Shared) (H : Hp) (E : XK), Room k (A.deeper (envOfC x (defScope st) s.heap.objs.size f cdv)) →
      PSs (cxOf CX0 P w K mg base N x (defScope st) f cdv A outer s H E).nox (defBody st) (LS K (brIx 0 br) body)) : Df P w K mg base (k + 1) x st ps (fnSem N.length br body) br := by
  obtain ⟨f, fd, F, e⟩ := a
  exact ⟨f, fd, F, e, fn_ok F Sc hl (hb f)⟩
end
/-- it binds its parameters as they come -/
def Bd (x : Str) (st : Stmt) (ps : List Str) : Prop := ∀ (kV doc pm : Value) (an : Option Addr) (cdv ct : Value) (us : List Value), us.length = ps.length → bindArgs (PySem.W.fnOf x x (defArgs st) (defBody st) (defScope st) .none kV doc pm an cdv ct) ⟨us, []⟩ = pure (ps.zip us)
section
variable {X : Cx} {k j : Nat} {x : Str} {st : Stmt} {ps ks : List Str} {F : FnD} {br : List Bool} {ε : DAr} {p pos : Pos} {e : Expr} {es : List Expr} {kws : List Keyword} {π : List Nat}
theorem qo_c (c : Df X.prog X.w X.K X.mg X.base k x st ps F br) (b : Bd x st ps) (hr : Room j X.A) (hk : k ≤ j) (ha : PA X (e :: es) (LR X.K ε)) (hg : Gl X x := by rfl) (hdb : (x == ("__debug__" : Str)) = false := by decide) (he : starEach (e :: es) X.env = (false, eval e X.env) :: starEach es X.env := by rfl) (hpl : (backTo pos (starEach es X.env)).any (·.1) = false := by rfl) :
    PE X (.Call (.Name x p) (e :: es) [] pos) (LO X.K (dCall F br ε)) := by
  obtain ⟨f, fd, FD, em, G⟩ := c.ex
  exact qo_call G (hr.mono hk) em FD.kp (FD.bindsN b) ha hg hdb he hpl
theorem qo_ck (π : List Nat) (ks : List Str) (c : Df X.prog X.w X.K X.mg X.base k x st ps F br)
    (hb : ∀ (kV doc pm : Value) (an : Option Addr) (cdv ct : Value) (us ws : List Value), us.length = 0 → ws.length = ks.length → bindArgs (PySem.W.fnOf x x (defArgs st) (defBody st) (defScope st) .none kV doc pm an cdv ct) ⟨us, ks.zip ws⟩ = pure (ps.zip (permL π (us ++ ws))))
    (hr : Room j X.A) (hk : k ≤ j) (hkw : PK X kws (LR X.K ε)) (hn : arN ks.length ε) (hg : Gl X x := by rfl) (hall : (backToKw pos (keywordEach kws X.env)).all (·.1.isSome) = true := by rfl) (hks : (backToKw pos (keywordEach kws X.env)).filterMap (·.1) = ks := by rfl) (hdb : (x == ("__debug__" : Str)) = false := by decide)
    (hpl : ((backTo pos (starEach [] X.env)).any (·.1) || (backToKw pos (keywordEach kws X.env)).any (·.1.isNone)) = false := by rfl) :
    PE X (.Call (.Name x p) [] kws pos) (LO X.K (dCall F br (rPerm π ε))) := by
  obtain ⟨f, fd, FD, em, G⟩ := c.ex
  exact qo_callK G (hr.mono hk) em FD.kp FD hb hkw hn hg hall hks hdb hpl
end
theorem Room.u65 {k : Nat} {A : Around} (r : Room k A) : A.units + 65 < cLine := by have := r.un; omega
end Dn

set_option Elab.async false
set_option linter.all false
set_option maxRecDepth 100000
set_option maxHeartbeats 1000000
/-! layer D, 14: more -/
namespace Dn
open PySem PySem.Spec PyProof.Rows L2
section
variable {X : Cx} {K : Fr} {kp : List Nat}
open scoped Dn.Sz in
/-- a frozen list of pure items -/
def dLstP (ε : DPL) : DP := fun env => match ε env with
  | some ds => if ds.length ≤ sizeLine then some (0, .list ds) else none
  | none => none
theorem LP.lst {ε : DPL} {σ : Sg} {H : Hp} {Q : VK} (h : LP K (dLstP ε) σ H Q) : tLst (LPA K ε) σ H Q := by
  obtain ⟨env, S, fp, a0, s, e, q⟩ := h
  unfold dLstP at e
  split at e
  · rename_i ds e1
    split at e
    · rename_i hz
      cases e
      refine ⟨env, S, fp, a0, ds, e1, fun vs S1 H1 a1 m1 r1 => ⟨by rw [r1.len]; exact hz, fun p hp => ?_⟩⟩
      exact q (.ref p) _ _ [] (a1.frz hp) (m1.trans (.frz hp a1.sub)) (Ow.zero (rp_newL (a1.sub.free hp) r1)) (fun _ z => by cases z)
    · cases e
  · cases e
theorem qp_lst {es : List Expr} {pos : Pos} {ε : DPL} (h : PA X es (LPA K ε)) : PE X (.List es pos) (LP K (dLstP ε)) := PE.mono (pe_lst h) fun _ _ _ w => w.lst
theorem LS.par4T {i j k l : Nat} {ε : DX} {D : Ends} {σ : Sg} {H : Hp} (hi : kp.contains i = false) (hj : kp.contains j = false) (hk : kp.contains k = false) (hl : kp.contains l = false) (h : LS K kp (dPar4 i j k l ε) D σ H) :
    LX K ε σ H fun vs H1 => ∃ v w x y, vs = [v, w, x, y] ∧ ∀ p o, H1 p = none → D.nx ((((σ.set i (some v)).set j (some w)).set k (some x)).set l (some y)) (upd H1 p o) := by
  obtain ⟨env, S, fp, a0, fl, env', e, q⟩ := h
  unfold dPar4 at e
  split at e
  · rename_i s t u r e1 eq1
    cases e
    refine ⟨env, S, fp, a0, _, _, eq1, fun vs S1 H1 f1 hl' a1 m1 => ?_⟩
    match vs, hl', a1 with
    | [v, w, x, y], _, a1 =>
      obtain ⟨f1', h1, a1'⟩ := At.storeIn a1 (i + 3)
      obtain ⟨f2, hs, a2⟩ := At.three (show At K (some w :: some x :: some y :: σ.set i (some v)) (some t :: some u :: some r :: e1.set i (some s)) S1 H1 f1' from a1') j k l
      exact ⟨v, w, x, y, rfl, fun p o hp => q _ _ _ f2 (a2.frz hp) ((m1.less fun a ha => h1 a (hs a ha)).trans (.frz hp a2.sub)) (Kp.trans (.set hi) (Kp.trans (.set hj) (Kp.trans (.set hk) (.set hl))))⟩
  · cases e
theorem qs_parT4 (i j l m : Nat) {x y z t : Str} {a b c d : Expr} {px py pz pq pt pos : Pos} {kt k2 : Nat} {pt2 : Pos} {ε : DX} (hc : X.calm = true) (hN : X.N.Nodup) (ha : PA X [a, b, c, d] (LX X.K ε))
    (hki : kp.contains i = false := by rfl) (hkj : kp.contains j = false := by rfl) (hkl : kp.contains l = false := by rfl) (hkm : kp.contains m = false := by rfl) (hi : X.N[i]? = some x := by rfl) (hj : X.N[j]? = some y := by rfl) (hl : X.N[l]? = some z := by rfl) (hm : X.N[m]? = some t := by rfl)
    (hx : Loc X.env.scope x := by first | exact Or.inl rfl | exact Or.inr rfl) (hfx : X.fn x = true ∨ X.env.scope.names.lookup x = some .local := by first | exact .inl rfl | exact .inr rfl)
    (hy : Loc X.env.scope y := by first | exact Or.inl rfl | exact Or.inr rfl) (hfy : X.fn y = true ∨ X.env.scope.names.lookup y = some .local := by first | exact .inl rfl | exact .inr rfl)
    (hz : Loc X.env.scope z := by first | exact Or.inl rfl | exact Or.inr rfl) (hfz : X.fn z = true ∨ X.env.scope.names.lookup z = some .local := by first | exact .inl rfl | exact .inr rfl)
    (ht : Loc X.env.scope t := by first | exact Or.inl rfl | exact Or.inr rfl) (hft : X.fn t = true ∨ X.env.scope.names.lookup t = some .local := by first | exact .inl rfl | exact .inr rfl)
    (hs : swapsWithSole [.Tuple [.Name x px, .Name y py, .Name z pz, .Name t pq] kt pt] (.Tuple [a, b, c, d] k2 pt2) pos.line X.env = pure false := by rfl) (hw : swappedStores [.Tuple [.Name x px, .Name y py, .Name z pz, .Name t pq] kt pt] (.Tuple [a, b, c, d] k2 pt2) X.env = pure none := by rfl)
    (h1 : (assignEach [.Tuple [.Name x px, .Name y py, .Name z pz, .Name t pq] kt pt] X.env).map (·.2) = [assign (.Tuple [.Name x px, .Name y py, .Name z pz, .Name t pq] kt pt) X.env] := by rfl) (hn : (assignEach [.Name x px, .Name y py, .Name z pz, .Name t pq] X.env).length = 4 := by rfl) (hst : (assignEach [.Name x px, .Name y py, .Name z pz, .Name t pq] X.env).findIdx? (·.1) = none := by rfl)
    (hg1 : (assignEach [.Name x px, .Name y py, .Name z pz, .Name t pq] X.env).map (·.2) = assign (.Name x px) X.env :: (assignEach [.Name y py, .Name z pz, .Name t pq] X.env).map (·.2) := by rfl) (hg2 : (assignEach [.Name y py, .Name z pz, .Name t pq] X.env).map (·.2) = assign (.Name y py) X.env :: (assignEach [.Name z pz, .Name t pq] X.env).map (·.2) := by rfl)
    (hg3 : (assignEach [.Name z pz, .Name t pq] X.env).map (·.2) = assign (.Name z pz) X.env :: (assignEach [.Name t pq] X.env).map (·.2) := by rfl) (hg4 : (assignEach [.Name t pq] X.env).map (·.2) = assign (.Name t pq) X.env :: (assignEach [] X.env).map (·.2) := by rfl) :
    PS X (.Assign [.Tuple [.Name x px, .Name y py, .Name z pz, .Name t pq] kt pt] (.Tuple [a, b, c, d] k2 pt2) pos) (LS X.K kp (dPar4 i j l m ε)) := by
  refine PS.mono (ps_asg (pe_tup ha) (pg_tup hc (pgs_cons (pg_name hN hi hx hfx) (pgs_cons (pg_name hN hj hy hfy) (pgs_cons (pg_name hN hl hz hfz) (pgs_cons (pg_name hN hm ht hft) pgs_nil hg4) hg3) hg2) hg1) hn hst) hs hw h1) fun D σ H w => (w.par4T hki hkj hkl hkm).mono fun vs H1 ⟨v, u, s, r, e, q⟩ => ?_
  subst e
  refine ⟨by show 4 ≤ sizeLine; rw [sizeLine_eq]; omega, fun p hp => ?_⟩
  exact ⟨p, [v, u, s, r], rfl, .of upd_same, rfl, v, [u, s, r], rfl, u, [s, r], rfl, s, [r], rfl, r, [], rfl, rfl, q p _ hp⟩
end
end Dn

set_option Elab.async false
set_option linter.all false
set_option maxRecDepth 100000
set_option maxHeartbeats 2000000
/-! layer D, 15: the law's end -/
namespace Dn
open PySem PySem.Spec PyProof.Rows L2
/-- the law's call, from what its def means at the script -/
theorem lawEnd {P : Program} {w : World} {K : Fr} {mg mb : Str → Option Value} {k : Nat} {fa a : Addr} {fd : FuncData} {x : Str} {F : FnD} {s₁ : Shared} {vs : List Value} {ns : List Int}
    (KX : K.In s₁.heap) (hns : s₁.heap.Ns mainGlobals mg) (hb : s₁.heap.Ns builtinsNs mb) (hbb : ∀ x : Str, x ≠ "__name__" → mb x = bootBuiltins x) (hlim : s₁.heap.NoLimit) (hg : s₁.gens = #[])
    (ha : s₁.heap.get? a = some { cls := .type "list", data := .seq vs.toArray }) (hi : IntsAre vs ns) (hl : ns.length ≤ sizeLine) (hr : Room k callerA)
    (G : ∀ base : Heap, K.In base → base.Ns mainGlobals mg → FnOk P w K mg base CX0 k fa fd [x] (PrD K F [false])) (hbind : ∀ (s : Shared) (u : Value), BindsTo s fd ⟨[u], []⟩ [(x, u)])
    (hF : ∃ outs, F [(0, .list (ns.map PyData.int))] = some ((0, .bool true), outs)) :
    codeAny (model P w) callerA (.call (.ref fa) ⟨[.ref a], []⟩) (fun r s' => r = .ok (.ret (.bool true)) ∧ OldK s₁.heap s'.heap ∧ s'.os = s₁.os ∧ AllBare s'.gens) s₁ := by
  have rv := vals_ints hi
  have hlen := hi.length
  have core : ∀ H : Hp, Only H → LstR K H a (ns.map V.int) → HOk P w H s₁.heap → (∀ b, H b ≠ none → b = a) → (H a ≠ none → K.lookup a = none) →
      codeAny (model P w) callerA (.call (.ref fa) ⟨[.ref a], []⟩) (fun r s' => r = .ok (.ret (.bool true)) ∧ OldK s₁.heap s'.heap ∧ s'.os = s₁.os ∧ AllBare s'.gens) s₁ := by
    intro H hO hS hok hA hK
    have noA : ∀ {b : Addr} {o : Obj} {es : Array DictEntry} {ep : Nat}, s₁.heap.get? b = some o → o.data = .dict es ep → H b = none := fun {b o es ep} e d => by
      cases q : H b with
      | none => rfl
      | some u =>
        have e2 := hA b (by rw [q]; simp)
        subst e2
        rw [ha] at e; cases e; cases d
    have old : ∀ {b : Addr} {m : Str → Option Value}, s₁.heap.Ns b m → (hidT s₁.heap H).Ns b m := fun {b m} ⟨o, es, ep, e, d, r⟩ => ⟨o, es, ep, hidT_get e (noA e d), d, r⟩
    have hKb : K.In (hidT s₁.heap H) := fun b o e => hidT_get (KX b o e) (by
      cases q : H b with
      | none => rfl
      | some u =>
        have e2 := hA b (by rw [q]; simp)
        subst e2
        rw [hK (by rw [q]; simp)] at e; cases e)
    have hM : Mod K mg (hidT s₁.heap H) := ⟨hKb, old hns, ⟨mb, old hb, hbb⟩, let ⟨mc, h1, h2⟩ := hlim; ⟨mc, old h1, h2⟩⟩
    have e0 : Env0 P w K mg (hidT s₁.heap H) callerA [] s₁ H := ⟨rfl, hM, fun b o e => of_hidT e, Nat.le_of_eq (hidT_size _ _), trivial, fun b hb => absurd (show b ∈ ([] : List Addr) from hb) (by simp), hok, .of_eq hg⟩
    obtain ⟨outs, eF⟩ := hF
    have hsp : PrD K F [false] [.ref a] H (fun v _ => v = .bl true) (fun _ _ _ => False) := by
      refine ⟨H, [(0, .list (ns.map PyData.int))], [], ⟨.refl _, List.nodup_nil, OwE.yes (f := []) (Ow.zero (.lst hS (RpL.ofInts ns))) .nil⟩, rfl, _, outs, eF, fun v S' H' fp' a1 _ => ?_⟩
      obtain ⟨_, _, o⟩ := a1
      cases o with
      | yes o1 _ => cases o1.1; rfl
    refine codeAny_mono ((G _ hKb (old hns)).run callerA [] s₁ H ⟨[.ref a], []⟩ [.ref a] [.ref a] _ _ hr e0 (hbind s₁ (.ref a)) (.cons rfl .nil) hsp) fun r s' h => ?_
    cases r with
    | error e => exact False.elim h
    | ok fl =>
      cases fl with
      | next => exact False.elim h
      | brk => exact False.elim h
      | cont => exact False.elim h
      | ret u =>
        obtain ⟨v, H', os, bare, un, hok', r', q⟩ := h
        have q' : v = .bl true := q
        subst q'
        cases (show u = Value.bool true from r')
        refine ⟨rfl, OldK.of_keep fun b o e => ?_, os, bare⟩
        cases q : H b with
        | none => exact un.keep b o e q (fun z => absurd (show b ∈ ([] : List Addr) from z) (by simp)) (by simp)
        | some u =>
          rcases hO b with z | ⟨ob, xs, z⟩
          · rw [q] at z; cases z
          · obtain ⟨e1, _⟩ := hok b _ z
            obtain ⟨e2, _⟩ := hok' b _ (un.frzs b ob _ z)
            rw [e] at e1; cases e1
            exact e2
  cases hk : K.lookup a with
  | some o =>
    have e := KX a o hk
    rw [ha] at e
    cases e
    exact core (fun _ => none) (fun _ => .inl rfl) (.inr ⟨vs.toArray, _, hk, by rw [List.size_toArray, hlen]; exact hl, by simpa using rv⟩) (fun b u z => by cases (show (none : Option HO) = some u from z)) (fun b z => absurd rfl z) fun z => absurd rfl z
  | none =>
    refine core (fun b => if b = a then some (.frz { cls := .type "list", data := .seq vs.toArray } (.lst (ns.map V.int))) else none) (fun b => ?_) (.inl (.inr ⟨{ cls := .type "list", data := .seq vs.toArray }, if_pos rfl⟩)) (fun b u z => ?_) (fun b z => ?_) fun _ => hk
    · by_cases hb : b = a
      · exact .inr ⟨_, _, if_pos hb⟩
      · exact .inl (if_neg hb)
    · by_cases hb : b = a
      · have z2 := (if_pos hb).symm.trans z
        cases z2
        subst hb
        exact ⟨ha, by rw [List.length_map]; exact hl, vs, _, rv, ha⟩
      · have z2 := (if_neg hb).symm.trans z
        cases z2
    · by_cases hb : b = a
      · exact hb
      · exact absurd (if_neg hb) z
/-- a law over layer D: what its def means at every script -/
theorem walkD {l : PySem.W.OpenLaw} {n k : Nat} {q : Program} {loose : List Str} {XP : (Str → Option Value) → Heap → Prop} {YP : World → Heap → Prop} {d : DefRec} {x : Str}
    (hn : l.most = some n) (hn2 : n ≤ sizeLine) (hdf : d.params.defaults = []) (hr : Room k callerA)
    (hF : ∀ (w : World) (mg : Str → Option Value) (fa : Addr) (h : Heap), YP w h → h.Ns mainGlobals mg → mg d.name = some (.ref fa) →
      ∃ (K : Fr) (fd : FuncData) (F : FnD), K.In h ∧ (∀ (s : Shared) (u : Value), BindsTo s fd ⟨[u], []⟩ [(x, u)]) ∧
        (∀ ns : List Int, ns.length ≤ n → ∃ outs, F [(0, .list (ns.map PyData.int))] = some ((0, .bool true), outs)) ∧
        ∀ base : Heap, K.In base → base.Ns mainGlobals mg → FnOk l.prog w K mg base CX0 k fa fd [x] (PrD K F [false])) :
    PySem.W.WalkO q loose XP YP l.row.toRowW d [] (fun f vs => PySem.call f vs) := by
  refine Att.attach_call hn hdf fun w s₀ s₁ mg mb fa o pm cd doc a vs ns G Y ho hd hcd hmg hobj hints hlen hg => ?_
  obtain ⟨K, fd, F, KX, hb, hval, hG⟩ := hF w mg fa _ Y G.T.g hmg
  exact lawEnd KX G.T.g G.T.b G.T.builtins G.T.nolimit hg hobj hints (Nat.le_trans hlen hn2) hr hG hb (hval ns hlen)
end Dn

set_option Elab.async false
set_option linter.all false
set_option maxRecDepth 100000
set_option maxHeartbeats 4000000
/-! layer D, 16: defs that call themselves; own names compared; sets of ints in order; stores two deep -/
namespace Dn
open PySem PySem.Spec PyProof.Rows L2
theorem Df.no {P : Program} {w : World} {K : Fr} {mg : Str → Option Value} {base : Heap} {k : Nat} {x : Str} {st : Stmt} {ps : List Str} {br : List Bool} (a : At_ K mg x st) : Df P w K mg base k x st ps (fun _ => none) br := by
  obtain ⟨f, fd, F, e⟩ := a
  exact ⟨f, fd, F, e, ⟨fun vs H Q E h => (by obtain ⟨_, _, _, _, _, _, _, h, _⟩ := h; cases h), fun A outer s H args us vs Q E hr he hb hv h => (by obtain ⟨_, _, _, _, _, _, _, h, _⟩ := h; cases h)⟩⟩
section
variable {X : Cx} {K : Fr} {cop : CmpOp} {r : R2} {g : PyData → PyData → Option PyData} {a b : Expr} {pos pos' : Pos} {x : Str}
theorem qe_cmpV (i : Nat) {β : DE} (ho : OpR X (compareOp cop) r) (hr : OpG K r g) (hb : PE X b (LE K β)) (hm : behindInMarks cop b = false := by first | exact nomark _ | with_unfolding_all rfl)
    (hN : X.N[i]? = some x := by rfl) (hv : Vis X.env.scope x := by first | exact Or.inl rfl | exact Or.inr (Or.inl rfl) | exact Or.inr (Or.inr rfl)) (hd : (x == ("__debug__" : Str)) = false := by decide) (hcd : (x == ("__classdict__" : Str)) = false := by decide) : PE X (.Compare (.Name x pos') [cop] [b] pos) (LE K (dBinV i g β)) :=
  PE.mono (pe_cmpR ho (pv i hN hv hd hcd) hb hm) fun _ _ _ w => w.binV hr
theorem qt_cmpV (i : Nat) {β : DE} (ho : OpR X (compareOp cop) r) (hr : OpG K r g) (hb : PE X b (LE K β)) (hm : behindInMarks cop b = false := by first | exact nomark _ | with_unfolding_all rfl)
    (hN : X.N[i]? = some x := by rfl) (hv : Vis X.env.scope x := by first | exact Or.inl rfl | exact Or.inr (Or.inl rfl) | exact Or.inr (Or.inr rfl)) (hd : (x == ("__debug__" : Str)) = false := by decide) (hcd : (x == ("__classdict__" : Str)) = false := by decide) : PT X (.Compare (.Name x pos') [cop] [b] pos) (LT K (tst (dBinV i g β))) :=
  PT.mono (pt_cmpR ho (pv i hN hv hd hcd) hb hm) fun _ _ _ w => (w.tst).binV hr
end
end Dn

set_option Elab.async false
set_option linter.all false
set_option maxRecDepth 100000
set_option maxHeartbeats 4000000
/-! layer D: lists of own lists written out; stores two deep -/
namespace Dn
open PySem PySem.Spec PyProof.Rows L2
section
variable {X : Cx} {K : Fr} {kp : List Nat}
def fitS (m : Nat) (s : Sl) : Bool := s.1 == m || flatD s.2
open scoped Dn.Sz in
def dLstOO (m : Nat) (ε : DX) : DO := fun env => match ε env with
  | some (ss, e) => if ss.length ≤ sizeLine ∧ ss.all (fitS m) = true then some ((m + 1, .list (ss.map (·.2))), e) else none
  | none => none
theorem slots_own {m : Nat} {S H : Hp} : ∀ {vs : List V} {ss : List Sl} {σ : Sg} {env : En} {fp : List Addr}, vs.length = ss.length → ss.all (fitS m) = true → OwE K S H (vs.map some ++ σ) (ss.map some ++ env) fp →
    ∃ f g, fp = f ++ g ∧ OwL (Ow K S H m) vs (ss.map (·.2)) f ∧ OwE K S H σ env g
  | [], [], σ, env, fp, _, _, o => ⟨[], fp, rfl, .nil, o⟩
  | v :: vs, s :: ss, σ, env, fp, hl, ha, o => by
    rw [List.all_cons, Bool.and_eq_true] at ha
    obtain ⟨n, d⟩ := s
    cases o with
    | @yes _ _ _ f1 _ _ fr o1 o2 =>
      obtain ⟨f, g, e, oL, oE⟩ := slots_own (by simpa using hl) ha.2 o2
      have q : Ow K S H m v d f1 := by
        rcases Bool.or_eq_true_iff.mp ha.1 with z | z
        · have : n = m := eq_of_beq z
          rw [← this]; exact o1
        · obtain ⟨r, e⟩ := o1.flat z
          subst e
          exact Ow.ofFlat r z
      exact ⟨f1 ++ f, g, by rw [e, List.append_assoc], .cons q oL, oE⟩
theorem LO.lstOO {m : Nat} {ε : DX} {σ : Sg} {H : Hp} {Q : VK} (h : LO K (dLstOO m ε) σ H Q) : tLst (LX K ε) σ H Q := by
  obtain ⟨env, S, fp, a0, d, env', e, q⟩ := h
  unfold dLstOO at e
  split at e
  · rename_i ss e1 eq1
    split at e
    · rename_i hz
      cases e
      refine ⟨env, S, fp, a0, ss, _, eq1, fun vs S1 H1 f1 hl a1 m1 => ⟨by rw [hl]; exact hz.1, fun p hp => ?_⟩⟩
      obtain ⟨sub, nd, o⟩ := a1
      obtain ⟨f, g, ef, oL, oE⟩ := slots_own hl hz.2 o
      subst ef
      have np : p ∉ f ++ g := At.not_mem ⟨sub, nd, o⟩ hp
      have sp : S1 p = none := sub.free hp
      have oL2 : OwL (Ow K S1 (upd H1 p (.lst vs)) m) vs (ss.map (·.2)) f := oL.imp fun v d f' hf r =>
        r.keep (.refl _) (fun a ha => upd_ne (show a ≠ p from fun z => np (by rw [← z]; exact List.mem_append_left _ (hf a ha)))) fun a ha => (r.out a ha).1
      have oE2 : OwE K S1 (upd H1 p (.lst vs)) _ _ g := oE.keep (.refl _) (fun a ha => upd_ne (show a ≠ p from fun z => np (by rw [← z]; exact List.mem_append_right _ ha))) fun a ha => (oE.out a ha).1
      refine q (.ref p) S1 _ (p :: (f ++ g)) ⟨sub.trans (same_new hp), List.nodup_cons.mpr ⟨np, nd⟩, ?_⟩ (m1.trans (.own hp))
      exact OwE.yes (f := p :: f) (.inr (.inl ⟨p, vs, _, f, rfl, rfl, upd_same, sp, rfl, oL2⟩)) oE2
    · cases e
  · cases e
theorem qo_lstOO (m : Nat) {es : List Expr} {pos : Pos} {ε : DX} (h : PA X es (LX K ε)) : PE X (.List es pos) (LO K (dLstOO m ε)) := PE.mono (pe_lst h) fun _ _ _ w => w.lstOO
/-! ### rows[a][b] = v -/
def dStIx2 (i : Nat) (ι κ : DP) (ε : DE) : DS := fun env => match ε env with
  | some (v, e1) => (match (e1[i]?).join, ι e1, κ e1 with
    | some (2, .list ds), some (_, .int k), some (_, .int l) => (match ixN ds.length k with
      | some j => (match ds[j]? with
        | some (.list es) => (match ixN es.length l with
          | some n => some (.nx, e1.set i (some (2, .list (ds.set j (.list (es.set n v))))))
          | none => none)
        | _ => none)
      | none => none)
    | _, _, _ => none)
  | none => none
theorem LS.stIx2 {i : Nat} {ι κ : DP} {ε : DE} {D : Ends} {σ : Sg} {H : Hp} (h : LS K kp (dStIx2 i ι κ ε) D σ H) : tAsg (LE K ε) (gSub (tOp (fun x y H Q => rIxL K x y H Q ∨ rIxT K x y H Q) (tVar i) (LP K ι)) (LP K κ) rSetL) D σ H := by
  obtain ⟨env, S, fp, a0, fl, env', e, q⟩ := h
  unfold dStIx2 at e
  split at e
  · rename_i v e1 eq1
    split at e
    · rename_i ds n1 k n2 l es ei ek
      split at e
      · rename_i j ej
        split at e
        · rename_i es0 ed
          split at e
          · rename_i n en
            cases e
            refine ⟨env, S, fp, a0, v, _, eq1, fun w S1 H1 f1 a1 m1 r1 => ?_⟩
            obtain ⟨a, xs, b, ys, h1, h2, hl, h3, h4, h5, _⟩ := a1.lst2 es ed
            refine ⟨.ref a, h1, e1, S1, f1, a1, _, ei, fun u S2 H2 f2 a2 m2 o2 k2 => ?_⟩
            have eu := (o2.flat (by rfl)).1
            cases eu
            obtain ⟨a', xs', b', ys', h1', h2', hl', h3', h4', h5', _⟩ := a2.lst2 es ed
            rw [h1] at h1'; cases h1'
            refine .inl ⟨a, xs', k, .ref b', rfl, rfl, .of h2', ?_, e1, S2, f1, a2, _, ek, fun u3 S3 H3 f3 a3 m3 o3 k3 => ?_⟩
            · unfold L2.atI; rw [hl', ej]; exact h3'
            · have eu := (o3.flat (by rfl)).1
              cases eu
              obtain ⟨a4, xs4, b4, ys4, h14, h24, hl4, h34, h44, h54, go⟩ := a3.lst2 es ed
              rw [h1] at h14; cases h14
              have q1 := m3.h a _ h2'
              rw [h24] at q1; cases q1
              rw [h3'] at h34; cases h34
              obtain ⟨f5, a5, g5⟩ := go (ys4.set n w) (es0.set n v) (h54.set (r1.up (m2.s.trans m3.s)) n)
              exact ⟨b', ys4, l, n, rfl, rfl, h44, by rw [h54.len]; exact en, q σ S3 _ f5 a5 (m1.trans ((m2.trans m3).go.trans g5)) .refl⟩
          · cases e
        · cases e
      · cases e
    · cases e
  · cases e
theorem qs_stIx2 (i : Nat) {x : Str} {ie je e : Expr} {px ps pq pos : Pos} {ι κ : DP} {ε : DE} (hi : PE X ie (LP X.K ι)) (hj : PE X je (LP X.K κ)) (he : PE X e (LE X.K ε)) (hix : PlainIx ie := by intro _ _; rfl)
    (hN : X.N[i]? = some x := by rfl) (hv : Vis X.env.scope x := by first | exact Or.inl rfl | exact Or.inr (Or.inl rfl) | exact Or.inr (Or.inr rfl)) (hd : (x == ("__debug__" : Str)) = false := by decide) (hcd : (x == ("__classdict__" : Str)) = false := by decide)
    (ha : ∀ v, assign (.Subscript (.Subscript (.Name x px) ie ps) je pq) X.env v = (do
      let ov ← holding [v] (eval (.Subscript (.Name x px) ie ps) X.env)
      let iv ← holding [v, ov] (eval je X.env)
      standAt pq
      holding [v, ov, iv] (setItem ov iv v)
      release [v, ov, iv] []) := by intro _; rfl)
    (hs : swapsWithSole [.Subscript (.Subscript (.Name x px) ie ps) je pq] e pos.line X.env = pure false := by rfl) (hw : swappedStores [.Subscript (.Subscript (.Name x px) ie ps) je pq] e X.env = pure none := by rfl)
    (h1 : (assignEach [.Subscript (.Subscript (.Name x px) ie ps) je pq] X.env).map (·.2) = [assign (.Subscript (.Subscript (.Name x px) ie ps) je pq) X.env] := by rfl) :
    PS X (.Assign [.Subscript (.Subscript (.Name x px) ie ps) je pq] e pos) (LS X.K kp (dStIx2 i ι κ ε)) :=
  PS.mono (ps_asg he (pg_sub (pe_ix o_ix (pv i hN hv hd hcd) hi hix) hj set_list ha) hs hw h1) fun _ _ _ w => w.stIx2
end
end Dn

set_option Elab.async false
set_option linter.all false
set_option maxRecDepth 100000
set_option maxHeartbeats 4000000
/-! layer D: calls that only look at what is handed to them and give back a plain value -/
namespace Dn
open PySem PySem.Spec PyProof.Rows L2
section
variable {X : Cx} {K : Fr} {S H : Hp}
theorem rp_flat {S2 : Hp} {v : V} {d : PyData} (f : flatD d = true) (r : Rp K S v d) : Rp K S2 v d := by
  cases r with
  | non => exact .non
  | bl b => exact .bl b
  | int i => exact .int i
  | str x => exact .str x
  | lst _ _ => simp [flatD] at f
  | tup _ _ => simp [flatD] at f
  | dic _ _ => simp [flatD] at f
def insB (ins : List Sl) : List Sl := ins.map fun s => (0, s.2)
theorem ArOk.frz {σ : Sg} {env : En} {fp : List Addr} (a : At K σ env S H fp) {vs : List V} {as : List Ar} (ok : ArOk K S σ vs as) : ∀ {ins : List Sl}, arIn env as = some ins → OwE K H H (vs.map some) ((insB ins).map some) [] := by
  induction ok with
  | nil => intro ins e; cases e; exact .nil
  | @r i v vs as q t ih =>
    intro ins e
    simp only [arIn] at e
    split at e
    · rename_i s l es el
      cases e
      obtain ⟨v', f, h1, h2, _⟩ := a.ow.look es
      rw [q] at h1; cases h1
      exact OwE.yes (f := []) (Ow.zero (h2.rp a.sub fun _ _ => rfl)) (ih el)
    · cases e
  | @v v d vs as q t ih =>
    intro ins e
    simp only [arIn] at e
    split at e
    · rename_i l el
      cases e
      exact OwE.yes (f := []) (Ow.zero (q.up a.sub)) (ih el)
    · cases e
def dCallB (F : FnD) (br : List Bool) (ε : DAr) : DE := fun env => match ε env with
  | some (as, e1) => (match arIn e1 as with
    | some ins => if (arBr as).length = br.length ∧ br.all (fun b => !b) = true then (match F (insB ins) with
      | some (res, _) => if flatD res.2 = true then some (res.2, e1) else none
      | none => none) else none
    | none => none)
  | none => none
theorem pick_no : ∀ {br : List Bool} {vs : List V}, br.all (fun b => !b) = true → pick br vs = []
  | [], _, _ => by cases ‹List V› <;> rfl
  | false :: br, [], _ => rfl
  | false :: br, v :: vs, h => pick_no (br := br) (vs := vs) (by simpa using h)
  | true :: br, _, h => by simp at h
theorem LE.callB {F : FnD} {br : List Bool} {ε : DAr} {σ : Sg} {H : Hp} {Q : VK} {E : XK} (h : LE K (dCallB F br ε) σ H Q) : tCall (PrD K F br) [] E (LR K ε) σ H Q := by
  obtain ⟨env, S, fp, a0, d, env', e, q⟩ := h
  unfold dCallB at e
  split at e
  · rename_i as e1 eq1
    split at e
    · rename_i ins ei
      split at e
      · rename_i hc
        split at e
        · rename_i res outs eF
          split at e
          · rename_i hf
            cases e
            refine ⟨env, S, fp, a0, as, _, eq1, fun vs S1 H1 f1 a1 m1 ok => ?_⟩
            show PrD K F br (vs ++ []) H1 Q E
            rw [List.append_nil]
            refine ⟨H1, insB ins, [], ⟨.refl _, List.nodup_nil, ok.frz a1 ei⟩, by rw [ok.lenB, hc.1], _, outs, eF, fun v S2 H2 f2 a2 g2 => ?_⟩
            obtain ⟨sub2, nd2, o2⟩ := a2
            cases o2 with
            | @yes _ n d fv _ _ fB o1 o3 =>
              have r2 : Rp K S1 v d := rp_flat hf (o1.flat hf).1
              have kp : ∀ a o, H1 a = some o → H2 a = some o := fun a o e => g2.fr a o e (by simp)
              have oE : OwE K S1 H2 σ env' f1 := a1.ow.keep (.refl _) (fun a ha => by
                obtain ⟨_, x, e⟩ := a1.ow.out a ha
                rw [e]; exact kp a x e) fun a ha => (a1.ow.out a ha).1
              exact q v S1 H2 f1 ⟨fun a o e => kp a o (a1.sub a o e), a1.nd, oE⟩ (m1.trans ⟨.refl _, fun a o e _ => kp a o e, g2.dom, fun a ha => .inl ha, fun a o _ _ z => z⟩) r2
          · cases e
        · cases e
      · cases e
    · cases e
  · cases e
theorem qe_cB {k j : Nat} {x : Str} {st : Stmt} {ps : List Str} {F : FnD} {br : List Bool} {ε : DAr} {p pos : Pos} {e : Expr} {es : List Expr} (c : Df X.prog X.w X.K X.mg X.base k x st ps F br) (b : Bd x st ps) (hr : Room j X.A) (hk : k ≤ j) (ha : PA X (e :: es) (LR X.K ε)) (hg : Gl X x := by rfl) (hdb : (x == ("__debug__" : Str)) = false := by decide) (he : starEach (e :: es) X.env = (false, eval e X.env) :: starEach es X.env := by rfl) (hpl : (backTo pos (starEach es X.env)).any (·.1) = false := by rfl) :
    PE X (.Call (.Name x p) (e :: es) [] pos) (LE X.K (dCallB F br ε)) := by
  obtain ⟨f, fd, FD, em, G⟩ := c.ex
  exact PE.mono (pe_call G (hr.mono hk) hg em FD.kp (FD.bindsN b) .nil pass0 ha hdb he hpl) fun _ _ _ w => w.callB
end
end Dn

set_option Elab.async false
set_option linter.all false
set_option maxRecDepth 100000
set_option maxHeartbeats 4000000
/-! layer D: a result read while all that is one's own is only looked at -/
namespace Dn
open PySem PySem.Spec PyProof.Rows L2
section
variable {X : Cx} {K : Fr} {S H : Hp}
def frzE (env : En) : En := env.map (Option.map fun s => (0, s.2))
theorem OwE.frz (e : Same S H) {σ : Sg} {env : En} {fp : List Addr} (h : OwE K S H σ env fp) : OwE K H H σ (frzE env) [] := by
  induction h with
  | nil => exact .nil
  | no _ ih => exact .no ih
  | yes o _ ih => exact OwE.yes (f := []) (Ow.zero (o.rp e fun _ _ => rfl)) ih
def dBor (ε : DO) : DO := fun env => match ε (frzE env) with
  | some ((1, .list acc), _) => if acc.all flatD = true then some ((1, .list acc), env) else none
  | some ((_, d), _) => if flatD d = true then some ((0, d), env) else none
  | none => none
theorem rpl_flat {S2 : Hp} {vs : List V} {ds : List PyData} (h : RpL K S vs ds) (f : ds.all flatD = true) : RpL K S2 vs ds := by
  induction ds generalizing vs with
  | nil => cases h; exact .nil
  | cons d ds ih =>
    rw [List.all_cons, Bool.and_eq_true] at f
    cases h with
    | cons r t => exact .cons (rp_flat f.1 r) (ih t f.2)
theorem LO.bor {ε : DO} {σ : Sg} {H : Hp} {Q : VK} (h : LO K (dBor ε) σ H Q) : LO K ε σ H Q := by
  obtain ⟨env, S, fp, a0, s, env', e, q⟩ := h
  have keep : ∀ {S1 H1 : Hp} {f1 : List Addr}, Go H H [] S1 H1 f1 → At K σ env S H1 fp ∧ Go S H fp S H1 fp := fun {S1 H1 f1} g => by
    have kp : ∀ a o, H a = some o → H1 a = some o := fun a o e => g.fr a o e (by simp)
    have oE : OwE K S H1 σ env fp := a0.ow.keep (.refl _) (fun a ha => by
      obtain ⟨_, x, e⟩ := a0.ow.out a ha
      rw [e]; exact kp a x e) fun a ha => (a0.ow.out a ha).1
    exact ⟨⟨fun a o e => kp a o (a0.sub a o e), a0.nd, oE⟩, ⟨.refl _, fun a o e _ => kp a o e, g.dom, fun a ha => .inl ha, fun a o _ _ z => z⟩⟩
  unfold dBor at e
  split at e
  · rename_i acc e1 eq1
    split at e
    · rename_i hf
      cases e
      refine ⟨frzE env, H, [], ⟨.refl _, List.nodup_nil, a0.ow.frz a0.sub⟩, _, _, eq1, fun v S1 H1 f1 a1 g1 => ?_⟩
      obtain ⟨k1, k2⟩ := keep g1
      obtain ⟨sub1, nd1, o1⟩ := a1
      cases o1 with
      | @yes _ _ _ f _ _ fr oV oR =>
        rcases oV with ⟨fl, _, _⟩ | ⟨a, xs, ds, g, e1, e2, e3, e4, e5, e6⟩ | ⟨a, kvs, ds, e1, e2, e3, e4, e5, e6⟩
        · simp [flatD] at fl
        · cases e2
          subst e1
          have hg : g = [] := e6.fp0
          subst hg; subst e5
          have na : ∀ o, H a ≠ some o := fun o z => by
            have := g1.s a o z
            rw [e4] at this; cases this
          have nfp : a ∉ fp := fun z => by
            obtain ⟨_, o, e⟩ := a0.ow.out a z
            exact na o e
          have nS : S a = none := by
            cases z : S a with
            | none => rfl
            | some o => exact absurd (a0.sub a o z) (na o)
          have rl : RpL K S xs acc := rpl_flat e6.rp0 hf
          refine q (.ref a) S H1 (a :: fp) ⟨k1.sub, List.nodup_cons.mpr ⟨nfp, k1.nd⟩, OwE.yes (f := [a]) (.inr (.inl ⟨a, xs, acc, [], rfl, rfl, e3, nS, rfl, OwL.of rl⟩)) k1.ow⟩ ⟨k2.s, k2.fr, k2.dom, fun b hb => ?_, k2.sf⟩
          rcases List.mem_cons.mp hb with z | z
          · subst z
            right
            cases z : H b with
            | none => rfl
            | some o => exact absurd z (na o)
          · exact .inl z
        · cases e2
    · cases e
  · rename_i n d e1 _ eq1
    split at e
    · rename_i hf
      cases e
      refine ⟨frzE env, H, [], ⟨.refl _, List.nodup_nil, a0.ow.frz a0.sub⟩, _, _, eq1, fun v S1 H1 f1 a1 g1 => ?_⟩
      obtain ⟨k1, k2⟩ := keep g1
      obtain ⟨sub1, nd1, o1⟩ := a1
      cases o1 with
      | @yes _ _ _ f _ _ fr oV oR => exact q v S H1 fp (k1.withO (rp_flat hf (oV.flat hf).1)) k2
    · cases e
  · cases e
theorem qo_bor {e : Expr} {ε : DO} (h : PE X e (LO K ε)) : PE X e (LO K (dBor ε)) := PE.mono h fun _ _ _ w => w.bor
end
end Dn

set_option Elab.async false
set_option linter.all false
set_option maxRecDepth 100000
set_option maxHeartbeats 4000000
/-! layer D, sets of ints -/
namespace Dn
open PySem PySem.Spec PyProof.Rows L2
/-! ### what is left of a list of ints, each once, in order -/
def insS (k : Int) : List Int → List Int
  | [] => [k]
  | x :: xs => if k < x then k :: x :: xs else if k = x then x :: xs else x :: insS k xs
def ddI (ns : List Int) : List Int := ns.foldr insS []
theorem insS_mem {k j : Int} : ∀ {xs : List Int}, j ∈ insS k xs ↔ j = k ∨ j ∈ xs
  | [] => by simp [insS]
  | x :: xs => by
    unfold insS
    split
    · simp
    · split
      · rename_i e; subst e; simp
      · rw [List.mem_cons, List.mem_cons, insS_mem]
        exact ⟨fun h => by rcases h with h | h | h <;> simp [h], fun h => by rcases h with h | h | h <;> simp [h]⟩
theorem insS_lt {k : Int} : ∀ {xs : List Int}, xs.Pairwise (· < ·) → (insS k xs).Pairwise (· < ·)
  | [], _ => by simp [insS]
  | x :: xs, h => by
    obtain ⟨h1, h2⟩ := List.pairwise_cons.mp h
    unfold insS
    split
    · rename_i q
      refine List.pairwise_cons.mpr ⟨fun y hy => ?_, h⟩
      rcases List.mem_cons.mp hy with e | e
      · rw [e]; exact q
      · have := h1 y e; omega
    · split
      · exact h
      · refine List.pairwise_cons.mpr ⟨fun y hy => ?_, insS_lt h2⟩
        rcases insS_mem.mp hy with e | e
        · rw [e]; omega
        · exact h1 y e
theorem ddI_mem {j : Int} : ∀ {ns : List Int}, j ∈ ddI ns ↔ j ∈ ns
  | [] => by simp [ddI]
  | n :: ns => by
    show j ∈ insS n (ddI ns) ↔ _
    rw [insS_mem, ddI_mem, List.mem_cons]
theorem ddI_lt : ∀ {ns : List Int}, (ddI ns).Pairwise (· < ·)
  | [] => List.Pairwise.nil
  | n :: ns => insS_lt (ddI_lt (ns := ns))
theorem lt_uniq : ∀ {a b : List Int}, a.Pairwise (· < ·) → b.Pairwise (· < ·) → (∀ k, k ∈ a ↔ k ∈ b) → a = b
  | [], [], _, _, _ => rfl
  | [], y :: b, _, _, h => by have := (h y).mpr List.mem_cons_self; cases this
  | x :: a, [], _, _, h => by have := (h x).mp List.mem_cons_self; cases this
  | x :: a, y :: b, ha, hb, h => by
    obtain ⟨a1, a2⟩ := List.pairwise_cons.mp ha
    obtain ⟨b1, b2⟩ := List.pairwise_cons.mp hb
    have e : x = y := by
      rcases List.mem_cons.mp ((h x).mp List.mem_cons_self) with q | q
      · exact q
      · rcases List.mem_cons.mp ((h y).mpr List.mem_cons_self) with p | p
        · exact p.symm
        · have := a1 y p; have := b1 x q; omega
    subst e
    rw [lt_uniq a2 b2 fun k => ⟨fun hk => ?_, fun hk => ?_⟩]
    · rcases List.mem_cons.mp ((h k).mp (List.mem_cons_of_mem _ hk)) with q | q
      · have := a1 k hk; omega
      · exact q
    · rcases List.mem_cons.mp ((h k).mpr (List.mem_cons_of_mem _ hk)) with q | q
      · have := b1 k hk; omega
      · exact q
theorem nodup_lt {a : List Int} (h : a.Pairwise (· < ·)) : a.Nodup := h.imp fun q => by omega
theorem ddI_len {ns : List Int} (h : ns.Nodup) : (ddI ns).length = ns.length :=
  ((List.perm_ext_iff_of_nodup (nodup_lt ddI_lt) h).mpr fun k => ddI_mem).length_eq
theorem ddI_le : ∀ (ns : List Int), (ddI ns).length ≤ ns.length
  | [] => Nat.le_refl _
  | n :: ns => by
    have l : ∀ (k : Int) (xs : List Int), (insS k xs).length ≤ xs.length + 1 := fun k xs => by
      induction xs with
      | nil => simp [insS]
      | cons x xs ih =>
        unfold insS
        split
        · simp
        · split
          · simp
          · simp only [List.length_cons]; omega
    have := l n (ddI ns)
    have := ddI_le ns
    show (insS n (ddI ns)).length ≤ ns.length + 1
    omega
/-! ### a set made of a list of ints -/
abbrev oSet0 (w : World) : Obj := { cls := .type "set", dict := none, data := .set #[] 0 (.fresh 0 0 (!w.params.followText "set-order")) }
section
variable {P : Program} {w : World} {A : Around} {E : Value → Shared → Prop} {s : Shared}
theorem setLI_fill {l : Addr} {its : Array Value} {ns : List Int} (hA : A.handled = none) (isl : s.heap.IsList l its) (ii : IntsAre its.toList ns) (room : ns.length + 1 < scanBound)
    (hp1 : Heap) (e1 : hp1 = (s.heap.push (oSet0 w)).push { cls := .type "list_iterator", data := .fields #[.ref l, .int 0 0] }) {R : Result → Shared → Prop}
    (fin : ∀ (h2 : Heap) (tk c : Nat), SetR w h2 s.heap.objs.size (fun j => decide (j ∈ ns)) c → (∀ b o, s.heap.get? b = some o → h2.get? b = some o) → R (.ok (.ret .none)) { s with heap := h2, toks := tk }) (tk0 : Nat) :
    codeAny (model P w) A (.builtin "set.update.loop" ⟨[.ref s.heap.objs.size, .ref (s.heap.objs.size + 1)], []⟩) R { s with heap := hp1, toks := tk0 } := by
  subst e1
  have many : its.size = ns.length := by rw [← IntsAre.length ii, Array.length_toList]
  obtain ⟨ol, hol, hcl, nl, hdl⟩ := isl
  have lz : l < s.heap.objs.size := Heap.lt_size hol
  have isl2 : (s.heap.push (oSet0 w)).IsList l its := ⟨ol, Heap.get?_push_of_some _ hol, hcl, nl, hdl⟩
  have z1 : (s.heap.push (oSet0 w)).objs.size = s.heap.objs.size + 1 := Heap.size_push ..
  have ne : l ≠ s.heap.objs.size + 1 := Nat.ne_of_lt (Nat.lt_succ_of_lt lz)
  have val : ∀ (i : Nat) (v : Value), its[i]? = some v → ∃ k t, ns[i]? = some k ∧ v = .int k t := fun i v hv => by
    have hi : i < ns.length := by rw [← many]; exact (Array.getElem?_eq_some_iff.mp hv).1
    obtain ⟨t, e⟩ := IntsAre.int_at ii i v (by rw [Array.getElem?_toList]; exact hv)
    exact ⟨ns[i], t, List.getElem?_eq_getElem hi, by rw [e, List.getD_eq_getElem?_getD, List.getElem?_eq_getElem hi]; rfl⟩
  have g0 : (s.heap.push (oSet0 w)).get? s.heap.objs.size = some (oSet0 w) := Heap.get?_push_size _ rfl
  have gI : ((s.heap.push (oSet0 w)).push { cls := .type "list_iterator", data := .fields #[.ref l, .int 0 0] }).get? (s.heap.objs.size + 1) = some { cls := .type "list_iterator", data := .fields #[.ref l, .int 0 0] } :=
    z1 ▸ Heap.get?_push_size (s.heap.push (oSet0 w)) rfl
  have W := (Walks.list (prog := P) (w := w) (A := A.in1) (by simp [hA]) (s.heap.objs.size + 1) l ne its).toS
  refine set_update_ints W s.heap.objs.size (fun z => by rcases List.mem_cons.mp z with z | z; exact absurd z (Nat.ne_of_lt (Nat.lt_succ_self _)); exact absurd (List.mem_singleton.mp z) (Nat.ne_of_gt lz)) ns many room val (its.size - 0) 0 _ (by omega) (Nat.zero_le _) ⟨⟨_, gI, rfl, rfl⟩, (isl2.push _)⟩ ⟨0, Nat.le_refl 0, setR_new_at (Heap.get?_push_of_some _ g0)⟩ ?_
  intro s2 c mv _ R2
  obtain ⟨h2, gs2, dr2, tk2, os2⟩ := s2
  have q1 : gs2 = s.gens := mv.gens
  have q2 : dr2 = s.drawn := mv.drawn
  have q3 : os2 = s.os := mv.os
  subst q1; subst q2; subst q3
  refine fin h2 tk2 c R2 fun b o e => ?_
  have lb : b < s.heap.objs.size := Heap.lt_size e
  exact mv.heap b o (fun z => by rcases List.mem_cons.mp z with z | z; exact absurd z (Nat.ne_of_lt lb); exact absurd (List.mem_singleton.mp z) (Nat.ne_of_lt (Nat.lt_succ_of_lt lb))) (Heap.get?_push_of_some _ (Heap.get?_push_of_some _ e))
theorem call_setLI {l : Addr} {its : Array Value} {ns : List Int} {Q : Value → Shared → Prop} (hA : A.handled = none) (isl : s.heap.IsList l its) (ii : IntsAre its.toList ns) (room : ns.length + 1 < scanBound)
    (fin : ∀ (h2 : Heap) (tk c : Nat), SetR w h2 s.heap.objs.size (fun j => decide (j ∈ ns)) c → (∀ b o, s.heap.get? b = some o → h2.get? b = some o) → Q (.ref s.heap.objs.size) { s with heap := h2, toks := tk }) :
    wpAny (model P w) A (call (.type "set") [.ref l]) Q E s := by
  obtain ⟨c, tl, hmro⟩ := F.called_set.mro
  have f1 := F.called_set.made
  have f2 := F.called_set.sub
  have f3 := F.called_set.notType
  have f4 := F.called_set.canCreate
  have f5 := F.typeCall_set_1 (.ref l)
  refine wpAny_call (codeAny_of_tree ?_)
  show wpAny _ _ (callAny (.type "set") _) _ _ _
  refine wpAny_pure ⟨Code.quiet_builtin _ (by decide +kernel), codeAny_builtin F.entry_type_call ?_⟩
  rw [Around.under_plain (weight_type_call_type "set" [.ref l] []) rfl]
  repeat (any_goals (first | assumption | wp_step))
  refine codeAny_mono (code_set_led1 (.ref l) (E := E) (Q₁ := fun v s1 => v = .ref s.heap.objs.size ∧ s1 = { s with heap := s.heap.push (oSet0 w) }) ⟨rfl, rfl⟩) fun r s1 hr => ?_
  cases r with
  | error e => exact hr
  | ok fl =>
    cases fl with
    | ret v =>
      obtain ⟨rfl, rfl⟩ := hr
      have at0 : (s.heap.push (oSet0 w)).get? s.heap.objs.size = some (oSet0 w) := Heap.get?_push_size _ rfl
      have ty0 : Shared.TypeIs { s with heap := s.heap.push (oSet0 w) } (.ref s.heap.objs.size) "set" := ⟨_, at0, rfl⟩
      have f6 := F.called_set.init.lookup
      have f7 := F.called_set.init.bind (.ref s.heap.objs.size)
      repeat (any_goals (first | assumption | wp_step))
      refine codeAny_mono (codeAny_call_builtin (R := wants (fun r s2 => r = .none ∧ ∃ h2 tk c, s2 = { s with heap := h2, toks := tk } ∧ SetR w h2 s.heap.objs.size (fun j => decide (j ∈ ns)) c ∧
          (∀ b o, s.heap.get? b = some o → h2.get? b = some o)) E) F.called_set.init.plain F.entry_set_init (check_set_init_1 ty0 ?_)) fun r2 s2 hr2 => ?_
      · have isl0 := isl
        obtain ⟨ol, hol, hcl, nl, hdl⟩ := isl
        obtain ⟨ocls, odict, odata, oslots⟩ := ol
        simp only at hcl hdl
        subst hcl; subst hdl
        have hol' : (s.heap.push (oSet0 w)).get? l = some { cls := .type "list", dict := odict, data := .seq its nl, slots := oslots } := Heap.get?_push_of_some _ hol
        have s1 := F.sub_list_set
        have s2 := F.sub_list_frozenset
        have s3 : (Value.type "list" == Value.type "dict") = false := by decide
        have isl1 : (s.heap.push (oSet0 w)).IsList l its := ⟨_, hol', rfl, nl, rfl⟩
        unfold Builtin.«set.__init__» noKeywords Builtin.Frozenset.updateFrom
        generalize hPI : pyIter = PI
        wp_walk
        subst hPI
        refine wpAny_pyIter_list isl1 ?_
        refine wpAny_bind (wpAny_runValue ?_)
        have z1 : (s.heap.push (oSet0 w)).objs.size = s.heap.objs.size + 1 := Heap.size_push ..
        rw [z1]
        refine setLI_fill (by simp [hA]) isl0 ii room _ rfl (fun h2 tk c R2 k => ?_) _
        show wpAny _ _ _ _ _ _
        refine wpAny_pure ?_
        show wpAny _ _ (ret Value.none) _ _ _
        exact wpAny_pure ⟨rfl, h2, tk, c, rfl, R2, k⟩
      · cases r2 with
        | error e => exact hr2
        | ok fl2 =>
          cases fl2 with
          | ret r =>
            obtain ⟨rfl, h2, tk, c, rfl, R2, k⟩ := hr2
            repeat (any_goals (first | assumption | wp_step))
            exact fin _ _ _ R2 k
          | _ => exact hr2.elim
    | _ => exact hr.elim
end
end Dn

set_option Elab.async false
set_option linter.all false
set_option maxRecDepth 100000
set_option maxHeartbeats 4000000
namespace Dn
open PySem PySem.Spec PyProof.Rows L2
section
variable {X : Cx} {K : Fr}
theorem setR_count {w : World} {h : Heap} {a : Addr} {ns : List Int} {c : Nat} (R : SetR w h a (fun j => decide (j ∈ ns)) c) : c = (ddI ns).length := by
  obtain ⟨o, es, ep, t, ho, hex, hd, g, nd, hm, hb, hf, hn, _⟩ := R
  have := ((List.perm_ext_iff_of_nodup nd (nodup_lt (ddI_lt (ns := ns)))).mpr fun k => by rw [← hm k, ddI_mem, decide_eq_true_eq]).length_eq
  rw [← hn, ← this, List.length_map, Array.length_toList]
def tSetL (w : World) (K : Fr) (ta : TE) : TE := fun σ H Q => ta σ H fun x H1 => ∃ (l : Addr) (ns : List Int), x = .ref l ∧ SqL K H1 l (ns.map V.int) ∧ ns.length ≤ 4000 ∧
  ∀ p, H1 p = none → Q (.ref p) (upd H1 p (SetO w p (fun j => decide (j ∈ ns)) (ddI ns).length))
theorem pe_setL {a : Expr} {ta : TE} {p2 q : Pos} (hm2 : X.mg "set" = none) (ha : PE X a ta) (hc : X.calm = true) (hg2 : Gl X "set" := by rfl)
    (na : starEach [a] X.env = (false, eval a X.env) :: starEach [] X.env := by rfl) : PE X (.Call (.Name "set" p2) [a] [] q) (tSetL X.w X.K ta) := by
  refine ⟨fun pins s σ H Q I h => ?_⟩
  refine Call_ (ld_blt I hg2 hm2 PyProof.Rows.boot_set (callWith_type1 (args_cons (thn (ha.run pins s σ H _ I h) fun v s1 ⟨x, H1, I1, r1, q1⟩ => args_nil ?_) na) na rfl))
  obtain ⟨l, ns, rfl, hq, hl, q1⟩ := q1
  cases r1
  obtain ⟨its, r, pl, hz⟩ := I1.list hq
  refine call_setLI (P := X.prog) (w := X.w) (I1.ok.hd hc) pl.isList (by simpa using ints_of_vals r) (by unfold scanBound; omega) fun h2 tk c R k => ?_
  have hn : H1 s1.heap.objs.size = none := I1.hok.fresh (Nat.le_refl _)
  have e := setR_count R
  subst e
  exact ⟨.ref s1.heap.objs.size, upd H1 s1.heap.objs.size (SetO X.w s1.heap.objs.size (fun j => decide (j ∈ ns)) (ddI ns).length), I1.laid (t' := tk) k (Nat.le_refl _) (setO_new R), rfl, q1 _ hn⟩
open scoped Dn.Sz in
def dSortSet (α : DE) : DE := fun env => match α env with
  | some (.list ds, e) => (match intsD ds with
    | some ns => if (ddI ns).length < 64 ∧ ns.length ≤ 4000 then some (.list ((ddI ns).map PyData.int), e) else none
    | none => none)
  | _ => none
theorem LE.sortSet {w : World} {α : DE} {σ : Sg} {H : Hp} {Q : VK} (h : LE K (dSortSet α) σ H Q) : tSetL w K (LE K α) σ H fun v H1 => rSortedSet w [v] H1 Q := by
  obtain ⟨env, S, fp, a0, d, env', e, q⟩ := h
  unfold dSortSet at e
  split at e
  · rename_i ds e1 eq1
    split at e
    · rename_i ns en
      split at e
      · rename_i hc
        cases e
        refine ⟨env, S, fp, a0, _, _, eq1, fun v S1 H1 f1 a1 m1 r1 => ?_⟩
        cases r1 with
        | lst hs ha =>
          refine ⟨_, ns, rfl, (by rw [← ha.ints' en]; exact (lrMono a1.sub hs).sq), hc.2, fun p hp => ⟨p, _, _, rfl, upd_same, hc.1, fun out p2 o1 o2 o3 hp2 => ?_⟩⟩
          have eo : out = ddI ns := lt_uniq o1 ddI_lt fun k => by rw [o2 k, ddI_mem, decide_eq_true_eq]
          subst eo
          have a2 := a1.frz (o := SetO w p (fun j => decide (j ∈ ns)) (ddI ns).length) hp
          have a3 := a2.frz (o := .lst ((ddI ns).map V.int)) hp2
          refine q _ _ _ f1 a3 (m1.trans ((Go.frz hp a1.sub).trans (Go.frz hp2 a2.sub))) ?_
          exact rp_newL (a2.sub.free hp2) (RpL.ofInts _)
      · cases e
    · cases e
  · cases e
theorem qe_sortSet {a : Expr} {p p2 q pos : Pos} {α : DE} (hm : X.mg "sorted" = none) (hm2 : X.mg "set" = none) (ha : PE X a (LE X.K α)) (hc : X.calm = true) (hg : Gl X "sorted" := by rfl) (hg2 : Gl X "set" := by rfl)
    (na : starEach [a] X.env = (false, eval a X.env) :: starEach [] X.env := by rfl)
    (hs : starEach [.Call (.Name "set" p2) [a] [] q] X.env = (false, eval (.Call (.Name "set" p2) [a] [] q) X.env) :: starEach [] X.env := by rfl) (hpl : (backTo pos (starEach [] X.env)).any (·.1) = false := by rfl) :
    PE X (.Call (.Name "sorted" p) [.Call (.Name "set" p2) [a] [] q] [] pos) (LE X.K (dSortSet α)) :=
  PE.mono (pe_callB (cr_sortedSet hc) hg hm boot_sorted (pa_cons (pe_setL hm2 ha hc hg2 na) pa_nil hs) (by decide) (by decide) hs hpl) fun _ _ _ w => w.sortSet
end
end Dn

set_option Elab.async false
set_option linter.all false
set_option maxRecDepth 100000
set_option maxHeartbeats 4000000
/-! layer D: powers of wide numbers -/
namespace Dn
open PySem PySem.Spec PyProof.Rows L2
def CPowW (i j : Int) : Prop := 0 ≤ j ∧ j ≤ 1000 ∧ i.natAbs < 2 ^ 2000
theorem op_powW {X : Cx} : OpR X (binaryOp .Pow) (rI CPowW fun i j => .int (i ^ j.toNat)) := opI fun i j _ _ _ _ _ hc q => by
  have hb : Builtin.Int.intBits i ≤ 2000 := intBits_le hc.2.2
  have h0 : (0 : Int) ≤ j := hc.1
  have h1 : j ≤ 1000 := hc.2.1
  have h2 : (Builtin.Int.intBits i : Int) * j ≤ 2000 * j := Int.mul_le_mul_of_nonneg_right (by omega) h0
  exact pow_int h0 (by omega) q
section
variable {K : Fr}
open scoped Dn.Sz in
def okPowW (i j : Int) : Bool := decide (0 ≤ j ∧ j ≤ 1000 ∧ i.natAbs < 2 ^ 2000)
def gPowW := gIC okPowW fun i j => PyData.int (i ^ j.toNat)
theorem n_powW : OpN K (rI CPowW fun i j => V.int (i ^ j.toNat)) gPowW := opn_IC (fun i j h => by unfold okPowW at h; have z := decT h; exact z) (fun i j _ => .int _) fun _ _ _ z => by cases z
theorem gPowW_int {i j : Int} (h : okPowW i j = true) : gPowW (.int i) (.int j) = some (.int (i ^ j.toNat)) := by simp [gPowW, gIC, h]
end
end Dn

set_option Elab.async false
set_option linter.all false
set_option maxRecDepth 100000
set_option maxHeartbeats 4000000
/-! layer D: the greatest and the least one of a list or a tuple of ints -/
namespace Dn
open PySem PySem.Spec PyProof.Rows L2
section
variable {prog : Program} {w : World} {A : Around} {E : Value → Shared → Prop} {s : Shared} {l : Addr} {its : List Value} {ns : List Int} {Q : Value → Shared → Prop}
theorem iter_tupI {its : Array Value} {Q : Value → Shared → Prop} (isT : s.heap.IsTuple l its)
    (h : ∀ s2 : Shared, s2 = { s with heap := s.heap.push { cls := .type "tuple_iterator", data := .fields #[.ref l, .int 0 0] } } →
      (s2.heap.IsTupleIter s.heap.objs.size l 0 ∧ s2.heap.IsTuple l its) → (∀ b ∈ [s.heap.objs.size, l], b < s2.heap.objs.size) → l ≠ s.heap.objs.size → Q (.ref s.heap.objs.size) s2) :
    wpAny (model prog w) A (pyIter (.ref l)) Q E s := by
  have lt : l < s.heap.objs.size := by obtain ⟨_, e, _⟩ := isT; exact Heap.lt_size e
  refine wpAny_pyIter_tuple isT (h _ rfl ⟨⟨_, Heap.get?_push_size _ rfl, rfl, rfl⟩, isT.push _⟩ (fun b hb => ?_) (Nat.ne_of_lt lt))
  show b < (s.heap.push _).objs.size
  rw [Heap.size_push]
  rcases List.mem_cons.mp hb with e | hb
  · rw [e]; exact Nat.lt_succ_self _
  · rw [List.mem_singleton.mp hb]; exact Nat.lt_succ_of_lt lt
theorem old_keptT {h' : Heap} (hk : ∀ b o, b ∉ [s.heap.objs.size] → (s.heap.push { cls := .type "tuple_iterator", data := .fields #[.ref l, .int 0 0] }).get? b = some o → h'.get? b = some o) :
    ∀ b o, s.heap.get? b = some o → h'.get? b = some o := fun b o e =>
  hk b o (fun hm => absurd ((List.mem_singleton.mp hm) ▸ Heap.lt_size e) (Nat.lt_irrefl _)) (Heap.get?_push_of_some _ e)
theorem max_tupI (hA : A.handled = none) (isT : s.heap.IsTuple l its.toArray) (ii : IntsAre its ns) (ne : 0 < ns.length)
    (h : ∀ h' tk M t', (∀ b o, s.heap.get? b = some o → h'.get? b = some o) → M ∈ ns → (∀ a, a ∈ ns → a ≤ M) → Q (.int M t') { s with heap := h', toks := tk }) : wpAny (model prog w) A (call (.builtin "max") [.ref l]) Q E s := by
  obtain ⟨xs, e⟩ := ii.allInts.items
  have hn : numsOf (intItems xs).toList = ns := by rw [← e]; exact ii.numsOf
  rw [nums_intItems] at hn
  subst hn
  rw [e] at isT
  have pos : 0 < xs.size := by simpa using ne
  refine call_max_walk (iter_tupI isT fun s2 e2 st hf hl => ?_)
  subst e2
  refine ⟨_, _, _, _, _, _, _, rfl, Walks.tuple (A := A.in1) hA _ l hl (intItems xs), st, hf, by simpa [intItems] using pos, CmpOf.ints_gt (numAt xs) (fun _ _ => intItems_at), fun v h' tk hP hk => ?_⟩
  obtain ⟨t, rfl⟩ := intItems_at hP
  have sz : (intItems xs).size = xs.size := by simp [intItems]
  rw [sz]
  obtain ⟨h1, h2⟩ := argBest_gt (numAt xs) (xs.size - 1)
  refine h h' tk _ t (old_keptT hk) ?_ fun a ha => ?_
  · rw [numAt_eq]; exact PySem.getD_mem (by rw [List.length_map, Array.length_toList]; omega)
  · obtain ⟨j, hj, rfl⟩ := mem_getD ha
    rw [List.length_map, Array.length_toList] at hj
    rw [← numAt_eq]; exact h2 j (by omega)
end
section
variable {X : Cx} {K : Fr}
def rMaxS (K : Fr) : List V → Hp → VK → Prop := fun vs H Q => ∃ (a : Addr) (ns : List Int), vs = [V.ref a] ∧ (SqL K H a (ns.map V.int) ∨ SqT K H a (ns.map V.int)) ∧ 0 < ns.length ∧ ∀ m, m ∈ ns → (∀ y, y ∈ ns → y ≤ m) → Q (.int m) H
theorem cr_maxS (hc : X.calm = true) : CallR X (.builtin "max") (rMaxS X.K) := by
  intro pins s σ H vs us Q I r h
  obtain ⟨a, ns, rfl, hs | hs, hne, q⟩ := h
  · exact cr_max hc pins s σ H _ us Q I r ⟨a, ns, rfl, hs, hne, q⟩
  · obtain ⟨its, rv, hl, _⟩ := I.tuple hs
    rw [Vals.ref1 r]
    exact max_tupI (I.ok.hd hc) (show s.heap.IsTuple a its.toArray from hl) rv.ints hne fun h' tk m t' hk h1 h2 => ⟨.int _, H, I.kept hk, ⟨_, rfl⟩, q m h1 h2⟩
def gMaxS : PyData → Option PyData
  | .list ds => (match intsD ds with | some (n :: ns) => some (.int (ns.foldl max n)) | _ => none)
  | .tuple ds => (match intsD ds with | some (n :: ns) => some (.int (ns.foldl max n)) | _ => none)
  | _ => none
theorem foldl_uniq {n m : Int} {ns : List Int} (hm : m ∈ n :: ns) (hb : ∀ y, y ∈ n :: ns → y ≤ m) : m = ns.foldl max n := by
  obtain ⟨⟨h1, h2⟩, h3⟩ := foldl_max ns n
  refine Int.le_antisymm ?_ (hb _ ?_)
  · rcases List.mem_cons.mp hm with z | z
    · subst z; exact h1
    · exact h2 m z
  · rcases h3 with z | z
    · rw [z]; exact List.mem_cons_self
    · exact List.mem_cons_of_mem _ z
theorem u_maxS : OpU K (rMaxS K) gMaxS := by
  intro d1 d e S H v Q sub hv hr
  unfold gMaxS at e
  split at e
  · rename_i ds
    split at e
    · rename_i n ns hn
      cases e
      obtain ⟨a, xs, rfl, hs, r⟩ := hv.list sub
      refine ⟨a, n :: ns, rfl, .inl (by rw [← r.ints' hn]; exact hs.sq), by simp, fun m hm hb => ?_⟩
      rw [foldl_uniq hm hb]
      exact hr.old _ (by intro _ z; cases z) (.int _)
    · cases e
  · rename_i ds
    split at e
    · rename_i n ns hn
      cases e
      obtain ⟨a, xs, rfl, _, hs, r⟩ := hv.tuple sub
      refine ⟨a, n :: ns, rfl, .inr (by rw [← r.ints' hn]; exact hs), by simp, fun m hm hb => ?_⟩
      rw [foldl_uniq hm hb]
      exact hr.old _ (by intro _ z; cases z) (.int _)
    · cases e
  · cases e
end
end Dn

set_option Elab.async false
set_option linter.all false
set_option maxRecDepth 100000
set_option maxHeartbeats 1000000
/-! layer D: what the denotations are, laid open for simp -/
namespace Dn
open PySem PySem.Spec PyProof.Rows L2
@[simp] theorem dOf_ap (ε : DP) (env : En) : dOf ε env = (match ε env with
  | some (n, d) => if n = 0 ∨ flatD d = true then some (d, env) else none
  | none => none) := (rfl : _ = _).trans rfl
@[simp] theorem dFz_ap (ε : DO) (env : En) : dFz ε env = (match ε env with
  | some (s, e) => some (s.2, e)
  | none => none) := (rfl : _ = _).trans rfl
@[simp] theorem dUp_ap (ε : DE) (env : En) : dUp ε env = (match ε env with
  | some (d, e) => some ((0, d), e)
  | none => none) := (rfl : _ = _).trans rfl
@[simp] theorem dVar_ap (i : Nat) (env : En) : dVar i env = ((env[i]?).join) := (rfl : _ = _).trans rfl
@[simp] theorem dC_ap (d : PyData) (env : En) : dC d env = (some (0, d)) := (rfl : _ = _).trans rfl
@[simp] theorem dBin_ap (g : PyData → PyData → Option PyData) (α β : DP) (env : En) : dBin g α β env = (match α env, β env with
  | some s, some t => (match g2 g s t with | some d => some (0, d) | none => none)
  | _, _ => none) := (rfl : _ = _).trans rfl
@[simp] theorem dBinE_ap (g : PyData → PyData → Option PyData) (α β : DE) (env : En) : dBinE g α β env = (match α env with
  | some (x, e1) => (match β e1 with
    | some (y, e2) => (match g x y with | some d => some (d, e2) | none => none)
    | none => none)
  | none => none) := (rfl : _ = _).trans rfl
@[simp] theorem dBinEP_ap (g : PyData → PyData → Option PyData) (α : DE) (β : DP) (env : En) : dBinEP g α β env = (match α env with
  | some (x, e1) => (match β e1 with
    | some t => (match g2 g (0, x) t with | some d => some (d, e1) | none => none)
    | none => none)
  | none => none) := (rfl : _ = _).trans rfl
@[simp] theorem dBinV_ap (i : Nat) (g : PyData → PyData → Option PyData) (β : DE) (env : En) : dBinV i g β env = (match (env[i]?).join, β env with
  | some _, some (y, e2) => (match (e2[i]?).join with
    | some s => (match g2 g s (0, y) with | some d => some (d, e2) | none => none)
    | none => none)
  | _, _ => none) := (rfl : _ = _).trans rfl
@[simp] theorem dBinO_ap (g : PyData → PyData → Option PyData) (α β : DP) (env : En) : dBinO g α β env = (match α env, β env with
  | some s, some t => (match g2 g s t with | some d => some (ownD d, env) | none => none)
  | _, _ => none) := (rfl : _ = _).trans rfl
@[simp] theorem dBinOE_ap (g : PyData → PyData → Option PyData) (α β : DE) (env : En) : dBinOE g α β env = (match α env with
  | some (x, e1) => (match β e1 with
    | some (y, e2) => (match g x y with | some d => some (ownD d, e2) | none => none)
    | none => none)
  | none => none) := (rfl : _ = _).trans rfl
@[simp] theorem tst_ap (ε : DE) (env : En) : tst ε env = (match ε env with
  | some (.bool b, e) => some (b, e)
  | _ => none) := (rfl : _ = _).trans rfl
@[simp] theorem dChain_ap (g g' : PyData → PyData → Option PyData) (α β γ : DP) (env : En) : dChain g g' α β γ env = (match α env, β env with
  | some s, some t => (match g2 g s t with
    | some (.bool true) => (match γ env with
      | some w => (match g2 g' t w with | some d => some (0, d) | none => none)
      | none => none)
    | some (.bool false) => some (0, .bool false)
    | _ => none)
  | _, _ => none) := (rfl : _ = _).trans rfl
@[simp] theorem tru_ap (ε : DE) (env : En) : tru ε env = (match ε env with
  | some (d, e) => (match truD d with | some b => some (b, e) | none => none)
  | none => none) := (rfl : _ = _).trans rfl
@[simp] theorem truP_ap (ε : DP) (env : En) : truP ε env = (match ε env with
  | some s => (match truD s.2 with | some b => some (b, env) | none => none)
  | none => none) := (rfl : _ = _).trans rfl
@[simp] theorem dtNot_ap (τ : DT) (env : En) : dtNot τ env = (match τ env with
  | some (b, e) => some (!b, e)
  | none => none) := (rfl : _ = _).trans rfl
@[simp] theorem dtAnd_ap (τ υ : DT) (env : En) : dtAnd τ υ env = (match τ env with
  | some (true, e) => υ e
  | some (false, e) => some (false, e)
  | none => none) := (rfl : _ = _).trans rfl
@[simp] theorem dtOr_ap (τ υ : DT) (env : En) : dtOr τ υ env = (match τ env with
  | some (true, e) => some (true, e)
  | some (false, e) => υ e
  | none => none) := (rfl : _ = _).trans rfl
@[simp] theorem dAnd_ap (α β : DE) (env : En) : dAnd α β env = (match α env with
  | some (d, e) => (match truD d with
    | some true => β e
    | some false => some (d, e)
    | none => none)
  | none => none) := (rfl : _ = _).trans rfl
@[simp] theorem dOr_ap (α β : DE) (env : En) : dOr α β env = (match α env with
  | some (d, e) => (match truD d with
    | some true => some (d, e)
    | some false => β e
    | none => none)
  | none => none) := (rfl : _ = _).trans rfl
@[simp] theorem dNot_ap (α : DE) (env : En) : dNot α env = (match α env with
  | some (d, e) => (match truD d with
    | some b => some (.bool (!b), e)
    | none => none)
  | none => none) := (rfl : _ = _).trans rfl
@[simp] theorem dIf_ap {α : Type} (τ : DT) (α1 β : En → Option α) (env : En) : dIf τ α1 β env = (match τ env with
  | some (true, e) => α1 e
  | some (false, e) => β e
  | none => none) := (rfl : _ = _).trans rfl
@[simp] theorem dNil_ap (env : En) : dNil  env = (some ([], env)) := (rfl : _ = _).trans rfl
@[simp] theorem dCons_ap (α : DE) (β : DL) (env : En) : dCons α β env = (match α env with
  | some (d, e1) => (match β e1 with
    | some (ds, e2) => some (d :: ds, e2)
    | none => none)
  | none => none) := (rfl : _ = _).trans rfl
open scoped Dn.Sz in
@[simp] theorem dTup_ap (ε : DL) (env : En) : dTup ε env = (match ε env with
  | some (ds, e) => if ds.length ≤ sizeLine then some (.tuple ds, e) else none
  | none => none) := (rfl : _ = _).trans rfl
open scoped Dn.Sz in
@[simp] theorem dLst_ap (ε : DL) (env : En) : dLst ε env = (match ε env with
  | some (ds, e) => if ds.length ≤ sizeLine then some (.list ds, e) else none
  | none => none) := (rfl : _ = _).trans rfl
open scoped Dn.Sz in
@[simp] theorem dLstO_ap (ε : DL) (env : En) : dLstO ε env = (match ε env with
  | some (ds, e) => if ds.length ≤ sizeLine then some ((1, .list ds), e) else none
  | none => none) := (rfl : _ = _).trans rfl
@[simp] theorem dNeg_ap (α : DE) (env : En) : dNeg α env = (match α env with
  | some (.int i, e) => some (.int (-i), e)
  | _ => none) := (rfl : _ = _).trans rfl
@[simp] theorem dUn_ap (g : PyData → Option PyData) (α : DP) (env : En) : dUn g α env = (match α env with
  | some s => if vis s = true then (match g s.2 with | some d => some (0, d) | none => none) else none
  | none => none) := (rfl : _ = _).trans rfl
@[simp] theorem dUnO_ap (g : PyData → Option PyData) (α : DP) (env : En) : dUnO g α env = (match α env with
  | some s => if vis s = true then (match g s.2 with | some d => some (ownD d, env) | none => none) else none
  | none => none) := (rfl : _ = _).trans rfl
@[simp] theorem dUnE_ap (g : PyData → Option PyData) (α : DE) (env : En) : dUnE g α env = (match α env with
  | some (x, e) => (match g x with | some d => some (d, e) | none => none)
  | none => none) := (rfl : _ = _).trans rfl
@[simp] theorem dUnOE_ap (g : PyData → Option PyData) (α : DE) (env : En) : dUnOE g α env = (match α env with
  | some (x, e) => (match g x with | some d => some (ownD d, e) | none => none)
  | none => none) := (rfl : _ = _).trans rfl
@[simp] theorem dFn_ap (g : List PyData → Option PyData) (ε : DL) (env : En) : dFn g ε env = (match ε env with
  | some (ds, e) => (match g ds with | some d => some (d, e) | none => none)
  | none => none) := (rfl : _ = _).trans rfl
@[simp] theorem dFnO_ap (g : List PyData → Option PyData) (ε : DL) (env : En) : dFnO g ε env = (match ε env with
  | some (ds, e) => (match g ds with | some d => some (ownD d, e) | none => none)
  | none => none) := (rfl : _ = _).trans rfl
@[simp] theorem dIsi_ap (f : PyData → Bool) (α : DP) (env : En) : dIsi f α env = (match α env with
  | some s => some (0, .bool (f s.2))
  | none => none) := (rfl : _ = _).trans rfl
@[simp] theorem dRgO_ap (α : DE) (env : En) : dRgO α env = (match α env with
  | some (.int n, e) => if okRg 0 n = true then some ((1, .list (rgD 0 n)), e) else none
  | _ => none) := (rfl : _ = _).trans rfl
@[simp] theorem dNoPart_ap (env : En) : dNoPart  env = (some (none, env)) := (rfl : _ = _).trans rfl
@[simp] theorem dPart_ap (α : DE) (env : En) : dPart α env = (match α env with
  | some (.int i, e) => some (some i, e)
  | _ => none) := (rfl : _ = _).trans rfl
@[simp] theorem dSl_ap (α : DE) (l u : DPo) (env : En) : dSl α l u env = (match α env with
  | some (x, e1) => (match l e1 with
    | some (lo, e2) => (match u e2 with
      | some (hi, e3) => (match gSl lo hi x with | some d => some (d, e3) | none => none)
      | none => none)
    | none => none)
  | none => none) := (rfl : _ = _).trans rfl
@[simp] theorem dSlO_ap (α : DE) (l u : DPo) (env : En) : dSlO α l u env = (match α env with
  | some (x, e1) => (match l e1 with
    | some (lo, e2) => (match u e2 with
      | some (hi, e3) => (match gSl lo hi x with | some d => some (ownD d, e3) | none => none)
      | none => none)
    | none => none)
  | none => none) := (rfl : _ = _).trans rfl
@[simp] theorem dSlV_ap (i : Nat) (l u : DPo) (env : En) : dSlV i l u env = (match (env[i]?).join, l env with
  | some _, some (lo, e2) => (match u e2 with
    | some (hi, e3) => (match (e3[i]?).join with
      | some s => if vis s = true then (match gSl lo hi s.2 with | some d => some (d, e3) | none => none) else none
      | none => none)
    | none => none)
  | _, _ => none) := (rfl : _ = _).trans rfl
@[simp] theorem dSlVO_ap (i : Nat) (l u : DPo) (env : En) : dSlVO i l u env = (match (env[i]?).join, l env with
  | some _, some (lo, e2) => (match u e2 with
    | some (hi, e3) => (match (e3[i]?).join with
      | some s => if vis s = true then (match gSl lo hi s.2 with | some d => some (ownD d, e3) | none => none) else none
      | none => none)
    | none => none)
  | _, _ => none) := (rfl : _ = _).trans rfl
@[simp] theorem dMeth_ap (i : Nat) (m : List PyData → List PyData → Option (PyData × List PyData)) (ε : DL) (env : En) : dMeth i m ε env = (match ownL env[i]?, ε env with
  | some _, some (as, e1) => (match ownL e1[i]? with
    | some ds => (match m ds as with | some (res, ds') => some (res, e1.set i (some (1, .list ds'))) | none => none)
    | none => none)
  | _, _ => none) := (rfl : _ = _).trans rfl
@[simp] theorem rNil_ap (env : En) : rNil  env = (some ([], env)) := (rfl : _ = _).trans rfl
@[simp] theorem rVal_ap (α : DE) (β : DAr) (env : En) : rVal α β env = (match α env with
  | some (d, e1) => (match β e1 with
    | some (as, e2) => some (.v d :: as, e2)
    | none => none)
  | none => none) := (rfl : _ = _).trans rfl
@[simp] theorem rRef_ap (i : Nat) (β : DAr) (env : En) : rRef i β env = (match (env[i]?).join with
  | some _ => (match β env with
    | some (as, e2) => some (.r i :: as, e2)
    | none => none)
  | none => none) := (rfl : _ = _).trans rfl
@[simp] theorem dCall_ap (F : FnD) (br : List Bool) (ε : DAr) (env : En) : dCall F br ε env = (match ε env with
  | some (as, e1) => (match arIn e1 as with
    | some ins => if (arIds as).Nodup ∧ arBr as = br then (match F ins with
      | some (res, outs) => (match setIds (arIds as) outs e1 with
        | some e2 => some (res, e2)
        | none => none)
      | none => none) else none
    | none => none)
  | none => none) := (rfl : _ = _).trans rfl
@[simp] theorem dNext_ap (env : En) : dNext  env = (some (.nx, env)) := (rfl : _ = _).trans rfl
@[simp] theorem dSeq_ap (a b : DS) (env : En) : dSeq a b env = (match a env with
  | some (.nx, e) => b e
  | r => r) := (rfl : _ = _).trans rfl
@[simp] theorem dNever_ap (env : En) : dNever  env = (none) := (rfl : _ = _).trans rfl
@[simp] theorem dBrk_ap (env : En) : dBrk  env = (some (.bk, env)) := (rfl : _ = _).trans rfl
@[simp] theorem dCnt_ap (env : En) : dCnt  env = (some (.ct, env)) := (rfl : _ = _).trans rfl
@[simp] theorem dSet_ap (i : Nat) (ε : DE) (env : En) : dSet i ε env = (match ε env with
  | some (d, e) => some (.nx, e.set i (some (0, d)))
  | none => none) := (rfl : _ = _).trans rfl
@[simp] theorem dSetO_ap (i : Nat) (ε : DO) (env : En) : dSetO i ε env = (match ε env with
  | some (s, e) => some (.nx, e.set i (some s))
  | none => none) := (rfl : _ = _).trans rfl
@[simp] theorem dMv_ap (i : Nat) (env : En) : dMv i env = (match (env[i]?).join with
  | some s => some (s, env.set i none)
  | none => none) := (rfl : _ = _).trans rfl
@[simp] theorem dFrzV_ap (i : Nat) (env : En) : dFrzV i env = (match (env[i]?).join with
  | some s => some (s.2, env.set i (some (0, s.2)))
  | none => none) := (rfl : _ = _).trans rfl
@[simp] theorem xNil_ap (env : En) : xNil  env = (some ([], env)) := (rfl : _ = _).trans rfl
@[simp] theorem xCons_ap (α : DO) (β : DX) (env : En) : xCons α β env = (match α env with
  | some (s, e1) => (match β e1 with
    | some (ss, e2) => some (s :: ss, e2)
    | none => none)
  | none => none) := (rfl : _ = _).trans rfl
@[simp] theorem dPar2_ap (i j : Nat) (ε : DX) (env : En) : dPar2 i j ε env = (match ε env with
  | some ([s, t], e) => some (.nx, (e.set i (some s)).set j (some t))
  | _ => none) := (rfl : _ = _).trans rfl
@[simp] theorem dPar3_ap (i j k : Nat) (ε : DX) (env : En) : dPar3 i j k ε env = (match ε env with
  | some ([s, t, u], e) => some (.nx, ((e.set i (some s)).set j (some t)).set k (some u))
  | _ => none) := (rfl : _ = _).trans rfl
@[simp] theorem dExpr_ap (ε : DE) (env : En) : dExpr ε env = (match ε env with
  | some (_, e) => some (.nx, e)
  | none => none) := (rfl : _ = _).trans rfl
@[simp] theorem dRet_ap (ε : DO) (env : En) : dRet ε env = (match ε env with
  | some (s, e) => some (.rt s, e)
  | none => none) := (rfl : _ = _).trans rfl
@[simp] theorem dRetN_ap (env : En) : dRetN  env = (some (.rt (0, .none), env)) := (rfl : _ = _).trans rfl
@[simp] theorem dIfS_ap (τ : DT) (a b : DS) (env : En) : dIfS τ a b env = (match τ env with
  | some (true, e) => a e
  | some (false, e) => b e
  | none => none) := (rfl : _ = _).trans rfl
@[simp] theorem dStIx_ap (i : Nat) (ι ε : DE) (env : En) : dStIx i ι ε env = (match ε env with
  | some (v, e1) => (match ownL e1[i]?, ι e1 with
    | some _, some (.int k, e2) => (match ownL e2[i]? with
      | some ds => (match ixN ds.length k with
        | some j => some (.nx, e2.set i (some (1, .list (ds.set j v))))
        | none => none)
      | none => none)
    | _, _ => none)
  | none => none) := (rfl : _ = _).trans rfl
@[simp] theorem gNm_ap (i : Nat) (d : PyData) (env : En) : gNm i d env = (some (env.set i (some (0, d)))) := (rfl : _ = _).trans rfl
@[simp] theorem gsNil_ap (ds : List PyData) (env : En) : gsNil  ds env = (match ds with
  | [] => some env
  | _ => none) := (rfl : _ = _).trans rfl
@[simp] theorem gsCons_ap (g : DG) (h : List PyData → En → Option En) (ds : List PyData) (env : En) : gsCons g h ds env = (match ds with
  | d :: r => (match g d env with | some e => h r e | none => none)
  | [] => none) := (rfl : _ = _).trans rfl
@[simp] theorem gTp_ap (n : Nat) (g : List PyData → En → Option En) (d : PyData) (env : En) : gTp n g d env = (match d with
  | .tuple ds => if ds.length = n then g ds env else none
  | _ => none) := (rfl : _ = _).trans rfl
@[simp] theorem dAsg_ap (g : DG) (ε : DE) (env : En) : dAsg g ε env = (match ε env with
  | some (d, e) => (match g d e with | some e2 => some (.nx, e2) | none => none)
  | none => none) := (rfl : _ = _).trans rfl
@[simp] theorem iSeq_ap (α : DE) (env : En) : iSeq α env = (match α env with
  | some (.list ds, e) => some (ds, e)
  | some (.tuple ds, e) => some (ds, e)
  | _ => none) := (rfl : _ = _).trans rfl
@[simp] theorem iRg1_ap (ε : DL) (env : En) : iRg1 ε env = (match ε env with
  | some ([.int n], e) => if okR n = true then some (rgD 0 n, e) else none
  | _ => none) := (rfl : _ = _).trans rfl
@[simp] theorem iRg2_ap (ε : DL) (env : En) : iRg2 ε env = (match ε env with
  | some ([.int a, .int b], e) => if okR a = true ∧ okR b = true then some (rgD a b, e) else none
  | _ => none) := (rfl : _ = _).trans rfl
@[simp] theorem iRg3_ap (ε : DL) (env : En) : iRg3 ε env = (match ε env with
  | some ([.int a, .int b, .int c], e) => if okR a = true ∧ okR b = true ∧ c = -1 then some (rdD a b, e) else none
  | _ => none) := (rfl : _ = _).trans rfl
@[simp] theorem dFor_ap (ι : DI) (g : DG) (b : DS) (env : En) : dFor ι g b env = (match ι env with
  | some (ds, e) => dForL g b ds e
  | none => none) := (rfl : _ = _).trans rfl
@[simp] theorem dLc_ap (ι : DI) (vs : List Nat) (g : DG) (τ : DT) (ε : DE) (env : En) : dLc ι vs g τ ε env = (match ι env with
  | some (ds, e1) => if frzAt vs e1 = true then (match dLcL vs g τ ε ds (wipeE e1 vs) [] with
    | some (acc, e2) => some ((1, .list acc), restE vs e1 e2)
    | none => none) else none
  | none => none) := (rfl : _ = _).trans rfl
@[simp] theorem dtYes_ap (env : En) : dtYes  env = (some (true, env)) := (rfl : _ = _).trans rfl
@[simp] theorem dChainE_ap (g g' : PyData → PyData → Option PyData) (α β γ : DE) (env : En) : dChainE g g' α β γ env = (match α env with
  | some (x, e1) => (match β e1 with
    | some (y, e2) => (match g x y with
      | some (.bool true) => (match γ e2 with
        | some (z, e3) => (match g' y z with | some d => some (d, e3) | none => none)
        | none => none)
      | some (.bool false) => some (.bool false, e2)
      | _ => none)
    | none => none)
  | none => none) := (rfl : _ = _).trans rfl
@[simp] theorem iEnumD_ap (ε : DL) (env : En) : iEnumD ε env = (match ε env with
  | some ([.list ds], e) => some (enumD 0 ds, e)
  | some ([.tuple ds], e) => some (enumD 0 ds, e)
  | _ => none) := (rfl : _ = _).trans rfl
@[simp] theorem iZipD_ap (ε : DL) (env : En) : iZipD ε env = (match ε env with
  | some ([.list ds, .list es], e) => some (zipD ds es, e)
  | some ([.tuple ds, .tuple es], e) => some (zipD ds es, e)
  | _ => none) := (rfl : _ = _).trans rfl
@[simp] theorem gIxT_ap (i : Nat) (ι : DE) (v : PyData) (env : En) : gIxT i ι v env = (match ownL env[i]?, ι env with
  | some _, some (.int k, e2) => (match ownL e2[i]? with
    | some ds => (match ixN ds.length k with
      | some j => some (e2.set i (some (1, .list (ds.set j v))))
      | none => none)
    | none => none)
  | _, _ => none) := (rfl : _ = _).trans rfl
@[simp] theorem dAug_ap (i : Nat) (f : PyData → PyData → Option PyData) (ε : DE) (env : En) : dAug i f ε env = (match (env[i]?).join with
  | some s => if flatD s.2 = true then (match ε env with
    | some (d, e) => (match f s.2 d with | some r => if flatD r = true then some (.nx, e.set i (some (0, r))) else none | none => none)
    | none => none) else none
  | none => none) := (rfl : _ = _).trans rfl
@[simp] theorem dPar4_ap (i j k l : Nat) (ε : DX) (env : En) : dPar4 i j k l ε env = (match ε env with
  | some ([s, t, u, r], e) => some (.nx, (((e.set i (some s)).set j (some t)).set k (some u)).set l (some r))
  | _ => none) := (rfl : _ = _).trans rfl
@[simp] theorem pNil_ap (env : En) : pNil  env = (some []) := (rfl : _ = _).trans rfl
@[simp] theorem pCons_ap (α : DP) (β : DPL) (env : En) : pCons α β env = (match α env, β env with
  | some s, some ds => if s.1 = 0 ∨ flatD s.2 = true then some (s.2 :: ds) else none
  | _, _ => none) := (rfl : _ = _).trans rfl
open scoped Dn.Sz in
@[simp] theorem dTupP_ap (ε : DPL) (env : En) : dTupP ε env = (match ε env with
  | some ds => if ds.length ≤ sizeLine then some (0, .tuple ds) else none
  | none => none) := (rfl : _ = _).trans rfl
@[simp] theorem dIxN_ap (i : Nat) (β : DP) (env : En) : dIxN i β env = (match (env[i]?).join, β env with
  | some (n, .list ds), some (_, .int k) => (match atI ds k with | some d => some (n - 1, d) | none => none)
  | _, _ => none) := (rfl : _ = _).trans rfl
@[simp] theorem dMethIx_ap (i : Nat) (ι : DP) (m : List PyData → List PyData → Option (PyData × List PyData)) (ε : DPL) (env : En) : dMethIx i ι m ε env = (match (env[i]?).join, ι env, ε env with
  | some (2, .list ds), some (_, .int k), some as => (match ixN ds.length k with
    | some j => (match ds[j]? with
      | some (.list es) => (match m es as with
        | some (res, es') => some (res, env.set i (some (2, .list (ds.set j (.list es')))))
        | none => none)
      | _ => none)
    | none => none)
  | _, _, _ => none) := (rfl : _ = _).trans rfl
@[simp] theorem rPerm_ap (π : List Nat) (ε : DAr) (env : En) : rPerm π ε env = (match ε env with
  | some (as, e) => if π.all (fun i => decide (i < as.length)) = true then some (permL π as, e) else none
  | none => none) := (rfl : _ = _).trans rfl
open scoped Dn.Sz in
@[simp] theorem dLenSet_ap (α : DE) (env : En) : dLenSet α env = (match α env with
  | some (.list ds, e) => (match intsD ds with
    | some ns => if decide ns.Nodup = true ∧ ns.length ≤ 4000 then some (.int (ns.length : Nat), e) else none
    | none => none)
  | _ => none) := (rfl : _ = _).trans rfl
@[simp] theorem dLcO_ap (m : Nat) (ι : DI) (vs : List Nat) (g : DG) (τ : DT) (ε : DO) (env : En) : dLcO m ι vs g τ ε env = (match ι env with
  | some (ds, e1) => if frzAt vs e1 = true then (match dLcOL m vs g τ ε ds (wipeE e1 vs) [] with
    | some (acc, e2) => some ((m + 1, .list acc), restE vs e1 e2)
    | none => none) else none
  | none => none) := (rfl : _ = _).trans rfl
open scoped Dn.Sz in
@[simp] theorem dLstP_ap (ε : DPL) (env : En) : dLstP ε env = (match ε env with
  | some ds => if ds.length ≤ sizeLine then some (0, .list ds) else none
  | none => none) := (rfl : _ = _).trans rfl
@[simp] theorem dRev_ap (α : DE) (env : En) : dRev α env = dUnE gRev α env := rfl
theorem fnSem_ap (n : Nat) (br : List Bool) (body : DS) (ins : List Sl) : fnSem n br body ins = (match body (ins.map some ++ List.replicate (n - ins.length) none) with
  | some (.rt r, env) => (match outsOf br env with | some outs => some (r, outs) | none => none)
  | some (.nx, env) => (match outsOf br env with | some outs => some ((0, .none), outs) | none => none)
  | _ => none) := by unfold fnSem; rfl
@[simp] theorem vis_0 (d : PyData) : vis (0, d) = true := rfl
@[simp] theorem vis_1 (d : PyData) : vis (1, d) = true := rfl
@[simp] theorem g2_ap (g : PyData → PyData → Option PyData) (s t : Sl) : g2 g s t = (if vis s = true ∧ vis t = true then g s.2 t.2 else none) := rfl
@[simp] theorem flat_int (i : Int) : flatD (.int i) = true := rfl
@[simp] theorem flat_bool (i : Bool) : flatD (.bool i) = true := rfl
@[simp] theorem flat_str (i : Str) : flatD (.str i) = true := rfl
@[simp] theorem flat_none : flatD .none = true := rfl
@[simp] theorem flat_list (x : List PyData) : flatD (.list x) = false := rfl
@[simp] theorem flat_tuple (x : List PyData) : flatD (.tuple x) = false := rfl
@[simp] theorem ownD_list (x : List PyData) : ownD (.list x) = (1, .list x) := rfl
@[simp] theorem ownD_tuple (x : List PyData) : ownD (.tuple x) = (0, .tuple x) := rfl
@[simp] theorem ownD_int (x : Int) : ownD (.int x) = (0, .int x) := rfl
@[simp] theorem ownD_bool (x : Bool) : ownD (.bool x) = (0, .bool x) := rfl
@[simp] theorem ownD_none : ownD .none = (0, .none) := rfl
@[simp] theorem ownL_ap (ds : List PyData) : ownL (some (some (1, .list ds))) = some ds := rfl
@[simp] theorem truD_bool (b : Bool) : truD (.bool b) = some b := rfl
@[simp] theorem truD_none : truD .none = some false := rfl
@[simp] theorem truD_int (i : Int) : truD (.int i) = some (i != 0) := rfl
@[simp] theorem truD_list (i : List PyData) : truD (.list i) = some (!i.isEmpty) := rfl
@[simp] theorem truD_tuple (i : List PyData) : truD (.tuple i) = some (!i.isEmpty) := rfl
@[simp] theorem gAdd_int (i j : Int) : gAdd (.int i) (.int j) = some (.int (i + j)) := rfl
theorem gAdd_list (a b : List PyData) (h : a.length + b.length ≤ sizeLine) : gAdd (.list a) (.list b) = some (.list (a ++ b)) := by simp [gAdd, gOr, gI, gCatL, h]
theorem gAdd_tuple (a b : List PyData) (h : a.length + b.length ≤ sizeLine) : gAdd (.tuple a) (.tuple b) = some (.tuple (a ++ b)) := by simp [gAdd, gOr, gI, gCatL, gCatT, h]
@[simp] theorem gMinus_int (i j : Int) : gMinus (.int i) (.int j) = some (.int (i - j)) := rfl
theorem gTimes_int {i j : Int} (h : okMul i j = true) : gTimes (.int i) (.int j) = some (.int (i * j)) := by simp [gTimes, gMul', gMul, gOr, gIC, h]
theorem gTimes_list {a : List PyData} {k : Int} (h : -(2 ^ 63) ≤ k ∧ k < 2 ^ 63 ∧ a.length * k.toNat ≤ sizeLine) : gTimes (.list a) (.int k) = some (.list (List.replicate k.toNat a).flatten) := by
  simp only [gTimes, gMul', gMul, gOr, gIC, gRep]
  rw [if_pos h]
theorem gDiv_int {i j : Int} (h : okDiv i j = true) : gDiv (.int i) (.int j) = some (.int (i / j)) := by simp [gDiv, gIC, h]
theorem gMod_int {i j : Int} (h : 0 < j) : gMod (.int i) (.int j) = some (.int (i % j)) := by simp [gMod, gIC, h]
theorem gPow_int {i j : Int} (h : okPow i j = true) : gPow (.int i) (.int j) = some (.int (i ^ j.toNat)) := by simp [gPow, gIC, h]
@[simp] theorem gLt_int (i j : Int) : gLt' (.int i) (.int j) = some (.bool (decide (i < j))) := rfl
@[simp] theorem gLe_int (i j : Int) : gLe' (.int i) (.int j) = some (.bool (decide (i ≤ j))) := rfl
@[simp] theorem gGt_int (i j : Int) : gGt (.int i) (.int j) = some (.bool (decide (j < i))) := rfl
@[simp] theorem gGe_int (i j : Int) : gGe (.int i) (.int j) = some (.bool (decide (j ≤ i))) := rfl
@[simp] theorem gIs_none (d : PyData) : gIs d .none = some (.bool (isN d)) := rfl
@[simp] theorem gIsNot_none (d : PyData) : gIsNot d .none = some (.bool (!isN d)) := rfl
@[simp] theorem gIs_bool (a b : Bool) : gIs (.bool a) (.bool b) = some (.bool (decide (a = b))) := rfl
@[simp] theorem gIsNot_bool (a b : Bool) : gIsNot (.bool a) (.bool b) = some (.bool (!decide (a = b))) := rfl
@[simp] theorem isN_none : isN .none = true := rfl
@[simp] theorem isN_int (i : Int) : isN (.int i) = false := rfl
@[simp] theorem isN_bool (i : Bool) : isN (.bool i) = false := rfl
@[simp] theorem isN_list (i : List PyData) : isN (.list i) = false := rfl
@[simp] theorem isN_tuple (i : List PyData) : isN (.tuple i) = false := rfl
theorem sh_int (i : Int) : SeqAt.shaped (.int i) = true := rfl
theorem sh_bool (i : Bool) : SeqAt.shaped (.bool i) = true := rfl
theorem sh_none : SeqAt.shaped .none = true := rfl
@[simp] theorem gEq_int (i j : Int) : gEq (.int i) (.int j) = some (.bool (decide (i = j))) := by
  simp [gEq, sh_int, PyData.eqv]
  by_cases h : i = j <;> simp [h]
@[simp] theorem gEq_bool (i j : Bool) : gEq (.bool i) (.bool j) = some (.bool (i == j)) := by simp [gEq, sh_bool, PyData.eqv]
@[simp] theorem gEq_int_none (i : Int) : gEq (.int i) .none = some (.bool false) := by simp [gEq, sh_int, sh_none, PyData.eqv]
@[simp] theorem gEq_none_int (i : Int) : gEq .none (.int i) = some (.bool false) := by simp [gEq, sh_int, sh_none, PyData.eqv]
@[simp] theorem gEq_none_none : gEq .none .none = some (.bool true) := by simp [gEq, sh_none, PyData.eqv]
@[simp] theorem gNe_int (i j : Int) : gNe (.int i) (.int j) = some (.bool (decide (i ≠ j))) := by
  simp [gNe, sh_int, PyData.eqv]
  by_cases h : i = j <;> simp [h]
theorem atI_nat {α : Type} (xs : List α) (n : Nat) : L2.atI xs (n : Int) = xs[n]? := by
  unfold L2.atI ixN
  by_cases h : n < xs.length
  · have h2 : (n : Int) < xs.length := by omega
    simp [h2, h]
  · have h2 : ¬ (n : Int) < xs.length := by omega
    simp [h2]
    omega
theorem atI_of {α : Type} (xs : List α) {i : Int} (h0 : 0 ≤ i) : L2.atI xs i = xs[i.toNat]? := by
  obtain ⟨n, rfl⟩ := Int.eq_ofNat_of_zero_le h0
  rw [atI_nat]; rfl
theorem atI_last {α : Type} (xs : List α) : L2.atI xs (-1) = xs.getLast? := by
  unfold L2.atI ixN
  cases xs with
  | nil => rfl
  | cons x xs =>
    have e : ((-1 : Int) + ((x :: xs).length : Nat)).toNat = xs.length := by simp only [List.length_cons]; omega
    have h : -(((x :: xs).length : Nat) : Int) ≤ -1 := by simp only [List.length_cons]; omega
    rw [if_neg (by decide), if_pos h, e]
    simp [List.getLast?_eq_getElem?]
@[simp] theorem gIx_list (xs : List PyData) (i : Int) : gIx (.list xs) (.int i) = L2.atI xs i := rfl
@[simp] theorem gIx_tuple (xs : List PyData) (i : Int) : gIx (.tuple xs) (.int i) = L2.atI xs i := rfl
theorem ixN_nat {n i : Nat} (h : i < n) : ixN n (i : Int) = some i := by
  unfold ixN
  have h2 : (i : Int) < n := by omega
  simp [h2]
theorem ixN_of {n : Nat} {i : Int} (h0 : 0 ≤ i) (h : i < n) : ixN n i = some i.toNat := by
  unfold ixN; simp [h0, h]
@[simp] theorem gLen_list (xs : List PyData) : gLen (.list xs) = some (.int xs.length) := rfl
@[simp] theorem gLen_tuple (xs : List PyData) : gLen (.tuple xs) = some (.int xs.length) := rfl
@[simp] theorem gAbs_int (i : Int) : gAbs (.int i) = some (.int (if i < 0 then -i else i)) := rfl
@[simp] theorem gInt_int (i : Int) : gInt (.int i) = some (.int i) := rfl
@[simp] theorem gList_list (i : List PyData) : gList (.list i) = some (.list i) := rfl
@[simp] theorem gList_tuple (i : List PyData) : gList (.tuple i) = some (.list i) := rfl
@[simp] theorem gTuple_list (i : List PyData) : gTuple (.list i) = some (.tuple i) := rfl
@[simp] theorem gTuple_tuple (i : List PyData) : gTuple (.tuple i) = some (.tuple i) := rfl
@[simp] theorem gMax2_int (i j : Int) : gMax2 [.int i, .int j] = some (.int (if j > i then j else i)) := rfl
@[simp] theorem gMin2_int (i j : Int) : gMin2 [.int i, .int j] = some (.int (if j < i then j else i)) := rfl
@[simp] theorem gRev_list (i : List PyData) : gRev (.list i) = some (.list i.reverse) := rfl
@[simp] theorem gSl_list (lo hi : Option Int) (i : List PyData) : gSl lo hi (.list i) = some (.list (cutD i lo hi)) := rfl
@[simp] theorem gSl_tuple (lo hi : Option Int) (i : List PyData) : gSl lo hi (.tuple i) = some (.tuple (cutD i lo hi)) := rfl
theorem gSum_ints (ns : List Int) : gSum (.list (ns.map PyData.int)) = some (.int ns.sum) := by simp [gSum, intsD_map]
theorem gAll_bls (ns : List Bool) : gAll (.list (ns.map PyData.bool)) = some (.bool (ns.all id)) := by simp [gAll, blsD_map]
theorem gAny_bls (ns : List Bool) : gAny (.list (ns.map PyData.bool)) = some (.bool (ns.any id)) := by simp [gAny, blsD_map]
@[simp] theorem isiInt_int (i : Int) : isiInt (.int i) = true := rfl
@[simp] theorem isiInt_bool (i : Bool) : isiInt (.bool i) = true := rfl
@[simp] theorem isiInt_none : isiInt .none = false := rfl
@[simp] theorem isiInt_list (i : List PyData) : isiInt (.list i) = false := rfl
@[simp] theorem isiInt_tuple (i : List PyData) : isiInt (.tuple i) = false := rfl
@[simp] theorem isiBool_int (i : Int) : isiBool (.int i) = false := rfl
@[simp] theorem isiBool_bool (i : Bool) : isiBool (.bool i) = true := rfl
@[simp] theorem isiBool_none : isiBool .none = false := rfl
@[simp] theorem isiBool_list (i : List PyData) : isiBool (.list i) = false := rfl
@[simp] theorem isiBool_tuple (i : List PyData) : isiBool (.tuple i) = false := rfl
@[simp] theorem isiStr_int (i : Int) : isiStr (.int i) = false := rfl
@[simp] theorem isiStr_bool (i : Bool) : isiStr (.bool i) = false := rfl
@[simp] theorem isiStr_none : isiStr .none = false := rfl
@[simp] theorem isiStr_list (i : List PyData) : isiStr (.list i) = false := rfl
@[simp] theorem isiStr_tuple (i : List PyData) : isiStr (.tuple i) = false := rfl
@[simp] theorem isiList_list (i : List PyData) : isiList (.list i) = true := rfl
@[simp] theorem isiList_tuple (i : List PyData) : isiList (.tuple i) = false := rfl
@[simp] theorem isiList_int (i : Int) : isiList (.int i) = false := rfl
@[simp] theorem isiList_none : isiList .none = false := rfl
@[simp] theorem isiTuple_list (i : List PyData) : isiTuple (.list i) = false := rfl
@[simp] theorem isiTuple_tuple (i : List PyData) : isiTuple (.tuple i) = true := rfl
@[simp] theorem isiTuple_int (i : Int) : isiTuple (.int i) = false := rfl
@[simp] theorem isiTuple_none : isiTuple .none = false := rfl
open scoped Dn.Sz in
@[simp] theorem mAppend_ap (ds : List PyData) (d : PyData) : mAppend ds [d] = (if ds.length < sizeLine then some (.none, ds ++ [d]) else none) := rfl
@[simp] theorem dForL_nil (g : DG) (b : DS) (env : En) : dForL g b [] env = some (.nx, env) := rfl
theorem dForL_cons (g : DG) (b : DS) (d : PyData) (ds : List PyData) (env : En) : dForL g b (d :: ds) env = (match g d env with
    | some e1 => (match b e1 with
      | some (.nx, e2) => dForL g b ds e2
      | some (.ct, e2) => dForL g b ds e2
      | some (.bk, e2) => some (.nx, e2)
      | some (.rt r, e2) => some (.rt r, e2)
      | none => none)
    | none => none) := rfl
@[simp] theorem dLcL_nil (vs : List Nat) (g : DG) (τ : DT) (ε : DE) (env : En) (acc : List PyData) : dLcL vs g τ ε [] env acc = some (acc, env) := rfl
open scoped Dn.Sz in
theorem dLcL_cons (vs : List Nat) (g : DG) (τ : DT) (ε : DE) (d : PyData) (ds : List PyData) (env : En) (acc : List PyData) : dLcL vs g τ ε (d :: ds) env acc = (match g d env with
    | some e1 => (match τ e1 with
      | some (true, e2) => (match ε e2 with
        | some (y, e3) => if acc.length < sizeLine ∧ frzAt vs e3 = true then dLcL vs g τ ε ds (wipeE e3 vs) (acc ++ [y]) else none
        | none => none)
      | some (false, e2) => if frzAt vs e2 = true then dLcL vs g τ ε ds (wipeE e2 vs) acc else none
      | none => none)
    | none => none) := rfl
@[simp] theorem frzAt_nil (env : En) : frzAt [] env = true := rfl
@[simp] theorem frzAt_cons (i : Nat) (vs : List Nat) (env : En) : frzAt (i :: vs) env = ((match (env[i]?).join with
  | some s => decide (s.1 = 0) || flatD s.2
  | none => true) && frzAt vs env) := rfl
@[simp] theorem wipeE_nil (env : En) : wipeE env [] = env := rfl
@[simp] theorem wipeE_cons (env : En) (i : Nat) (vs : List Nat) : wipeE env (i :: vs) = (wipeE env vs).set i none := rfl
@[simp] theorem outsOf_nil (env : En) : outsOf [] env = some [] := by cases env <;> rfl

@[simp] theorem outsOf_ts (br : List Bool) (s : Sl) (env : En) : outsOf (true :: br) (some s :: env) = (match outsOf br env with | some l => some (s :: l) | none => none) := rfl
@[simp] theorem outsOf_f (br : List Bool) (s : Option Sl) (env : En) : outsOf (false :: br) (s :: env) = outsOf br env := by cases s <;> rfl
@[simp] theorem arIn_nil (env : En) : arIn env [] = some [] := rfl
@[simp] theorem arIn_r (env : En) (i : Nat) (as : List Ar) : arIn env (.r i :: as) = (match (env[i]?).join, arIn env as with | some s, some l => some (s :: l) | _, _ => none) := rfl
@[simp] theorem arIn_v (env : En) (d : PyData) (as : List Ar) : arIn env (.v d :: as) = (match arIn env as with | some l => some ((0, d) :: l) | none => none) := rfl
@[simp] theorem arIds_nil : arIds [] = [] := rfl
@[simp] theorem arIds_r (i : Nat) (as : List Ar) : arIds (.r i :: as) = i :: arIds as := rfl
@[simp] theorem arIds_v (d : PyData) (as : List Ar) : arIds (.v d :: as) = arIds as := rfl
@[simp] theorem arBr_nil : arBr [] = [] := rfl
@[simp] theorem arBr_r (i : Nat) (as : List Ar) : arBr (.r i :: as) = true :: arBr as := rfl
@[simp] theorem arBr_v (d : PyData) (as : List Ar) : arBr (.v d :: as) = false :: arBr as := rfl
@[simp] theorem setIds_nil (env : En) : setIds [] [] env = some env := rfl
@[simp] theorem setIds_cons (i : Nat) (ids : List Nat) (o : Sl) (outs : List Sl) (env : En) : setIds (i :: ids) (o :: outs) env = setIds ids outs (env.set i (some o)) := rfl
@[simp] theorem restE_nil (e0 env : En) : restE [] e0 env = env := rfl
@[simp] theorem restE_cons (v : Nat) (vs : List Nat) (e0 env : En) : restE (v :: vs) e0 env = restE vs e0 (match env[v]?, (e0[v]?).join with
    | some none, some s => env.set v (some s)
    | _, _ => env) := rfl
@[simp] theorem sizeLine_pos : 0 < sizeLine := by rw [sizeLine_eq]; omega
end Dn

set_option Elab.async false
set_option linter.all false
set_option maxRecDepth 100000
set_option maxHeartbeats 1000000
/-! layer D: further denotations laid open for simp -/
namespace Dn
open PySem PySem.Spec PyProof.Rows L2
theorem gMaxS_ints (n : Int) (ns : List Int) : gMaxS (.tuple ((n :: ns).map PyData.int)) = some (.int (ns.foldl max n)) := by unfold gMaxS; simp only [intsD_map]
@[simp] theorem insB_nil : insB [] = [] := rfl
@[simp] theorem insB_cons (s : Sl) (l : List Sl) : insB (s :: l) = (0, s.2) :: insB l := rfl
@[simp] theorem dCallB_ap (F : FnD) (br : List Bool) (ε : DAr) (env : En) : dCallB F br ε env = (match ε env with
  | some (as, e1) => (match arIn e1 as with
    | some ins => if (arBr as).length = br.length ∧ br.all (fun b => !b) = true then (match F (insB ins) with
      | some (res, _) => if flatD res.2 = true then some (res.2, e1) else none
      | none => none) else none
    | none => none)
  | none => none) := (rfl : _ = _).trans rfl
open scoped Dn.Sz in
@[simp] theorem dLstOO_ap (m : Nat) (ε : DX) (env : En) : dLstOO m ε env = (match ε env with
  | some (ss, e) => if ss.length ≤ sizeLine ∧ ss.all (fitS m) = true then some ((m + 1, .list (ss.map (·.2))), e) else none
  | none => none) := (rfl : _ = _).trans rfl
@[simp] theorem fitS_ap (m : Nat) (s : Sl) : fitS m s = (s.1 == m || flatD s.2) := rfl
@[simp] theorem dStIx2_ap (i : Nat) (ι κ : DP) (ε : DE) (env : En) : dStIx2 i ι κ ε env = (match ε env with
  | some (v, e1) => (match (e1[i]?).join, ι e1, κ e1 with
    | some (2, .list ds), some (_, .int k), some (_, .int l) => (match ixN ds.length k with
      | some j => (match ds[j]? with
        | some (.list es) => (match ixN es.length l with
          | some n => some (.nx, e1.set i (some (2, .list (ds.set j (.list (es.set n v))))))
          | none => none)
        | _ => none)
      | none => none)
    | _, _, _ => none)
  | none => none) := (rfl : _ = _).trans rfl
open scoped Dn.Sz in
@[simp] theorem dSortSet_ap (α : DE) (env : En) : dSortSet α env = (match α env with
  | some (.list ds, e) => (match intsD ds with
    | some ns => if (ddI ns).length < 64 ∧ ns.length ≤ 4000 then some (.list ((ddI ns).map PyData.int), e) else none
    | none => none)
  | _ => none) := (rfl : _ = _).trans rfl
@[simp] theorem gNe_bool (i j : Bool) : gNe (.bool i) (.bool j) = some (.bool (!(i == j))) := by simp [gNe, sh_bool, PyData.eqv]
@[simp] theorem isiDict_list (x : List PyData) : isiDict (.list x) = false := rfl
@[simp] theorem isiDict_tuple (x : List PyData) : isiDict (.tuple x) = false := rfl
@[simp] theorem isiDict_int (x : Int) : isiDict (.int x) = false := rfl
@[simp] theorem isiDict_str (x : Str) : isiDict (.str x) = false := rfl
@[simp] theorem isiDict_none : isiDict .none = false := rfl
@[simp] theorem isiDict_bool (x : Bool) : isiDict (.bool x) = false := rfl
@[simp] theorem isN_str (x : Str) : isN (.str x) = false := rfl
@[simp] theorem isiBool_str (x : Str) : isiBool (.str x) = false := rfl
@[simp] theorem isiInt_str (x : Str) : isiInt (.str x) = false := rfl
@[simp] theorem isiStr_str (x : Str) : isiStr (.str x) = true := rfl
@[simp] theorem isiList_str (x : Str) : isiList (.str x) = false := rfl
@[simp] theorem isiTuple_str (x : Str) : isiTuple (.str x) = false := rfl
@[simp] theorem dBor_ap (ε : DO) (env : En) : dBor ε env = (match ε (frzE env) with
  | some ((1, .list acc), _) => if acc.all flatD = true then some ((1, .list acc), env) else none
  | some ((_, d), _) => if flatD d = true then some ((0, d), env) else none
  | none => none) := (rfl : _ = _).trans rfl
@[simp] theorem frzE_nil : frzE [] = [] := rfl
@[simp] theorem frzE_none (env : En) : frzE (none :: env) = none :: frzE env := rfl
@[simp] theorem frzE_some (s : Sl) (env : En) : frzE (some s :: env) = some (0, s.2) :: frzE env := rfl
theorem gEq_nil : gEq (.list []) (.list []) = some (.bool true) := by kernel_rfl
theorem gNe_nil : gNe (.list []) (.list []) = some (.bool false) := by kernel_rfl
end Dn

set_option Elab.async false
set_option linter.all false
set_option maxRecDepth 100000
set_option maxHeartbeats 4000000
namespace Dn.W
open PySem PySem.Spec PyProof.Rows L2 Dn
abbrev prog : Program := PySem.Challenge.pw_mapwide_k50_whole_proofs_turned_joined_a
def top (i : Nat) : Stmt := prog.main.body.getD i (.Pass ⟨0, 0, 0, 0⟩)
abbrev s__law_box : Stmt := top 40
abbrev s__law_cell : Stmt := top 39
abbrev s__law_take : Stmt := top 41
abbrev s__law_pick : Stmt := top 43
abbrev s__law_drawn_map : Stmt := top 48
abbrev s__law_far : Stmt := top 45
abbrev s__law_mixed : Stmt := top 44
abbrev s__law_back : Stmt := top 46
abbrev s__law_ends : Stmt := top 52
abbrev s__law_same : Stmt := top 42
abbrev s_is_tuple : Stmt := top 11
abbrev s_is_integer : Stmt := top 7
abbrev s_is_within : Stmt := top 9
abbrev s_is_index : Stmt := top 10
abbrev s_is_count : Stmt := top 8
abbrev s_is_tie : Stmt := top 19
abbrev s_in_order : Stmt := top 14
abbrev s_is_map : Stmt := top 20
abbrev s_check_map : Stmt := top 21
abbrev s_check_place : Stmt := top 22
abbrev s_check_two : Stmt := top 24
abbrev s_ties_from : Stmt := top 26
abbrev s_is_less : Stmt := top 15
abbrev s_search : Stmt := top 27
abbrev s_lengths_from : Stmt := top 28
abbrev s_length_of : Stmt := top 29
abbrev s_check_way : Stmt := top 34
abbrev s_lengths_to : Stmt := top 33
abbrev s_least_proof : Stmt := top 36
abbrev s_greatest_proof : Stmt := top 37
abbrev s__law_told : Stmt := top 53
abbrev s__law_all : Stmt := top 51
abbrev s__law_drawn_proof : Stmt := top 55
abbrev s__law_is : Stmt := top 50
abbrev s_are_counts : Stmt := top 13
abbrev s_proved_by : Stmt := top 30
abbrev s_is_proof : Stmt := top 35
abbrev s__law_taken : Stmt := top 54
abbrev s_check_ends : Stmt := top 23
abbrev s_are_integers : Stmt := top 12
abbrev s_proved : Stmt := top 31
abbrev s__law_scaled : Stmt := top 47
abbrev s__law_tight : Stmt := top 49
abbrev s__law_pair_right : Stmt := top 56
abbrev s__law_row_right : Stmt := top 57
abbrev s_law : Stmt := top 58
/-- what the module holds -/
structure Fx (K : Fr) (mg : Str → Option Value) : Prop where
  d__law_box : At_ K mg "_law_box" s__law_box
  d__law_cell : At_ K mg "_law_cell" s__law_cell
  d__law_take : At_ K mg "_law_take" s__law_take
  d__law_pick : At_ K mg "_law_pick" s__law_pick
  d__law_drawn_map : At_ K mg "_law_drawn_map" s__law_drawn_map
  d__law_far : At_ K mg "_law_far" s__law_far
  d__law_mixed : At_ K mg "_law_mixed" s__law_mixed
  d__law_back : At_ K mg "_law_back" s__law_back
  d__law_ends : At_ K mg "_law_ends" s__law_ends
  d__law_same : At_ K mg "_law_same" s__law_same
  d_is_tuple : At_ K mg "is_tuple" s_is_tuple
  d_is_integer : At_ K mg "is_integer" s_is_integer
  d_is_within : At_ K mg "is_within" s_is_within
  d_is_index : At_ K mg "is_index" s_is_index
  d_is_count : At_ K mg "is_count" s_is_count
  d_is_tie : At_ K mg "is_tie" s_is_tie
  d_in_order : At_ K mg "in_order" s_in_order
  d_is_map : At_ K mg "is_map" s_is_map
  d_check_map : At_ K mg "check_map" s_check_map
  d_check_place : At_ K mg "check_place" s_check_place
  d_check_two : At_ K mg "check_two" s_check_two
  d_ties_from : At_ K mg "ties_from" s_ties_from
  d_is_less : At_ K mg "is_less" s_is_less
  d_search : At_ K mg "search" s_search
  d_lengths_from : At_ K mg "lengths_from" s_lengths_from
  d_length_of : At_ K mg "length_of" s_length_of
  d_check_way : At_ K mg "check_way" s_check_way
  d_lengths_to : At_ K mg "lengths_to" s_lengths_to
  d_least_proof : At_ K mg "least_proof" s_least_proof
  d_greatest_proof : At_ K mg "greatest_proof" s_greatest_proof
  d__law_told : At_ K mg "_law_told" s__law_told
  d__law_all : At_ K mg "_law_all" s__law_all
  d__law_drawn_proof : At_ K mg "_law_drawn_proof" s__law_drawn_proof
  d__law_is : At_ K mg "_law_is" s__law_is
  d_are_counts : At_ K mg "are_counts" s_are_counts
  d_proved_by : At_ K mg "proved_by" s_proved_by
  d_is_proof : At_ K mg "is_proof" s_is_proof
  d__law_taken : At_ K mg "_law_taken" s__law_taken
  d_check_ends : At_ K mg "check_ends" s_check_ends
  d_are_integers : At_ K mg "are_integers" s_are_integers
  d_proved : At_ K mg "proved" s_proved
  d__law_scaled : At_ K mg "_law_scaled" s__law_scaled
  d__law_tight : At_ K mg "_law_tight" s__law_tight
  d__law_pair_right : At_ K mg "_law_pair_right" s__law_pair_right
  d__law_row_right : At_ K mg "_law_row_right" s__law_row_right
  d_law : At_ K mg "law" s_law
  f_abs : mg "abs" = none
  f_all : mg "all" = none
  f_any : mg "any" = none
  f_bool : mg "bool" = none
  f_enumerate : mg "enumerate" = none
  f_int : mg "int" = none
  f_isinstance : mg "isinstance" = none
  f_len : mg "len" = none
  f_list : mg "list" = none
  f_max : mg "max" = none
  f_min : mg "min" = none
  f_range : mg "range" = none
  f_sorted : mg "sorted" = none
  f_str : mg "str" = none
  f_sum : mg "sum" = none
  f_tuple : mg "tuple" = none
  f_zip : mg "zip" = none
  g_MOST_PLACES : ∃ t, mg "MOST_PLACES" = some (.int 20 t)
  g_MOST_TIES : ∃ t, mg "MOST_TIES" = some (.int 120 t)
theorem u_all0 : True := trivial
theorem bd__law_box : Bd "_law_box" s__law_box ["great"] := fun _ _ _ _ _ _ us hl => match us, hl with | [_], _ => rfl
theorem bd__law_cell : Bd "_law_cell" s__law_cell ["script", "k"] := fun _ _ _ _ _ _ us hl => match us, hl with | [_, _], _ => rfl
theorem bd__law_take : Bd "_law_take" s__law_take ["box", "many"] := fun _ _ _ _ _ _ us hl => match us, hl with | [_, _], _ => rfl
theorem bd__law_pick : Bd "_law_pick" s__law_pick ["box", "items"] := fun _ _ _ _ _ _ us hl => match us, hl with | [_, _], _ => rfl
theorem bd__law_drawn_map : Bd "_law_drawn_map" s__law_drawn_map ["box", "most", "count"] := fun _ _ _ _ _ _ us hl => match us, hl with | [_, _, _], _ => rfl
theorem bd__law_far : Bd "_law_far" s__law_far ["roads", "one"] := fun _ _ _ _ _ _ us hl => match us, hl with | [_, _], _ => rfl
theorem bd__law_mixed : Bd "_law_mixed" s__law_mixed ["box", "items"] := fun _ _ _ _ _ _ us hl => match us, hl with | [_, _], _ => rfl
theorem bd__law_back : Bd "_law_back" s__law_back ["roads"] := fun _ _ _ _ _ _ us hl => match us, hl with | [_], _ => rfl
theorem bd__law_ends : Bd "_law_ends" s__law_ends ["roads", "one", "other", "least"] := fun _ _ _ _ _ _ us hl => match us, hl with | [_, _, _, _], _ => rfl
theorem bd__law_same : Bd "_law_same" s__law_same ["given", "due"] := fun _ _ _ _ _ _ us hl => match us, hl with | [_, _], _ => rfl
theorem bd_is_tuple : Bd "is_tuple" s_is_tuple ["value", "many"] := fun _ _ _ _ _ _ us hl => match us, hl with | [_, _], _ => rfl
theorem bd_is_integer : Bd "is_integer" s_is_integer ["value"] := fun _ _ _ _ _ _ us hl => match us, hl with | [_], _ => rfl
theorem bd_is_within : Bd "is_within" s_is_within ["value", "low", "high"] := fun _ _ _ _ _ _ us hl => match us, hl with | [_, _, _], _ => rfl
theorem bd_is_index : Bd "is_index" s_is_index ["value", "many"] := fun _ _ _ _ _ _ us hl => match us, hl with | [_, _], _ => rfl
theorem bd_is_count : Bd "is_count" s_is_count ["value"] := fun _ _ _ _ _ _ us hl => match us, hl with | [_], _ => rfl
theorem bd_is_tie : Bd "is_tie" s_is_tie ["many", "value"] := fun _ _ _ _ _ _ us hl => match us, hl with | [_, _], _ => rfl
theorem bd_in_order : Bd "in_order" s_in_order ["items"] := fun _ _ _ _ _ _ us hl => match us, hl with | [_], _ => rfl
theorem bd_is_map : Bd "is_map" s_is_map ["value"] := fun _ _ _ _ _ _ us hl => match us, hl with | [_], _ => rfl
theorem bd_check_map : Bd "check_map" s_check_map ["roads"] := fun _ _ _ _ _ _ us hl => match us, hl with | [_], _ => rfl
theorem bd_check_place : Bd "check_place" s_check_place ["roads", "place"] := fun _ _ _ _ _ _ us hl => match us, hl with | [_, _], _ => rfl
theorem bd_check_two : Bd "check_two" s_check_two ["roads", "one", "other"] := fun _ _ _ _ _ _ us hl => match us, hl with | [_, _, _], _ => rfl
theorem bd_ties_from : Bd "ties_from" s_ties_from ["many", "ties"] := fun _ _ _ _ _ _ us hl => match us, hl with | [_, _], _ => rfl
theorem bd_is_less : Bd "is_less" s_is_less ["one", "other"] := fun _ _ _ _ _ _ us hl => match us, hl with | [_, _], _ => rfl
theorem bd_search : Bd "search" s_search ["many", "ties", "one"] := fun _ _ _ _ _ _ us hl => match us, hl with | [_, _, _], _ => rfl
theorem bd_lengths_from : Bd "lengths_from" s_lengths_from ["many", "ties", "one"] := fun _ _ _ _ _ _ us hl => match us, hl with | [_, _, _], _ => rfl
theorem bd_length_of : Bd "length_of" s_length_of ["roads", "one", "other"] := fun _ _ _ _ _ _ us hl => match us, hl with | [_, _, _], _ => rfl
theorem bd_check_way : Bd "check_way" s_check_way ["roads", "one", "other"] := fun _ _ _ _ _ _ us hl => match us, hl with | [_, _, _], _ => rfl
theorem bd_lengths_to : Bd "lengths_to" s_lengths_to ["roads", "other"] := fun _ _ _ _ _ _ us hl => match us, hl with | [_, _], _ => rfl
theorem bd_least_proof : Bd "least_proof" s_least_proof ["roads", "one", "other"] := fun _ _ _ _ _ _ us hl => match us, hl with | [_, _, _], _ => rfl
theorem bd_greatest_proof : Bd "greatest_proof" s_greatest_proof ["roads", "one", "other"] := fun _ _ _ _ _ _ us hl => match us, hl with | [_, _, _], _ => rfl
theorem bd__law_told : Bd "_law_told" s__law_told ["roads", "one", "other", "named"] := fun _ _ _ _ _ _ us hl => match us, hl with | [_, _, _, _], _ => rfl
theorem bd__law_all : Bd "_law_all" s__law_all ["roads", "one", "other", "least"] := fun _ _ _ _ _ _ us hl => match us, hl with | [_, _, _, _], _ => rfl
theorem bd__law_drawn_proof : Bd "_law_drawn_proof" s__law_drawn_proof ["box", "roads", "one", "other", "least"] := fun _ _ _ _ _ _ us hl => match us, hl with | [_, _, _, _, _], _ => rfl
theorem bd__law_is : Bd "_law_is" s__law_is ["roads", "one", "other", "least", "value"] := fun _ _ _ _ _ _ us hl => match us, hl with | [_, _, _, _, _], _ => rfl
theorem bd_are_counts : Bd "are_counts" s_are_counts ["value", "many"] := fun _ _ _ _ _ _ us hl => match us, hl with | [_, _], _ => rfl
theorem bd_proved_by : Bd "proved_by" s_proved_by ["roads", "one", "other", "heights"] := fun _ _ _ _ _ _ us hl => match us, hl with | [_, _, _, _], _ => rfl
theorem bd_is_proof : Bd "is_proof" s_is_proof ["roads", "one", "other", "value"] := fun _ _ _ _ _ _ us hl => match us, hl with | [_, _, _, _], _ => rfl
theorem bd__law_taken : Bd "_law_taken" s__law_taken ["roads", "one", "other", "value", "named"] := fun _ _ _ _ _ _ us hl => match us, hl with | [_, _, _, _, _], _ => rfl
theorem bd_check_ends : Bd "check_ends" s_check_ends ["roads", "one", "other"] := fun _ _ _ _ _ _ us hl => match us, hl with | [_, _, _], _ => rfl
theorem bd_are_integers : Bd "are_integers" s_are_integers ["value", "many"] := fun _ _ _ _ _ _ us hl => match us, hl with | [_, _], _ => rfl
theorem bd_proved : Bd "proved" s_proved ["roads", "one", "other", "heights"] := fun _ _ _ _ _ _ us hl => match us, hl with | [_, _, _, _], _ => rfl
theorem bd__law_scaled : Bd "_law_scaled" s__law_scaled ["roads", "by"] := fun _ _ _ _ _ _ us hl => match us, hl with | [_, _], _ => rfl
theorem bd__law_tight : Bd "_law_tight" s__law_tight ["roads", "one", "other"] := fun _ _ _ _ _ _ us hl => match us, hl with | [_, _, _], _ => rfl
theorem bd__law_pair_right : Bd "_law_pair_right" s__law_pair_right ["box", "roads", "one", "other", "named"] := fun _ _ _ _ _ _ us hl => match us, hl with | [_, _, _, _, _], _ => rfl
theorem bd__law_row_right : Bd "_law_row_right" s__law_row_right ["box", "first", "second", "named"] := fun _ _ _ _ _ _ us hl => match us, hl with | [_, _, _, _], _ => rfl
theorem bd_law : Bd "law" s_law ["script"] := fun _ _ _ _ _ _ us hl => match us, hl with | [_], _ => rfl
abbrev N__law_box : List Str := ["great"]
theorem sc__law_box : FnScope N__law_box ["great"] (defScope s__law_box) := ⟨rfl, rfl, rfl, by decide +kernel, rfl, by decide +kernel, by decide +kernel⟩
def b__law_box : DS := dRet (dLstO (dCons (dOf (dUn gAbs (dVar 0))) (dCons (dOf (dBin gGe (dUn gAbs (dVar 0)) (dBin gPow (dC (.int 10)) (dC (.int 18))))) (dCons (dOf (dBin gMod (dUn gInt (dUn gAbs (dVar 0))) (dC (.int 2147483629)))) (dCons (dOf (dC (.int 0))) dNil)))))
theorem O__law_box : ∃ F : FnD, F = fnSem 1 [false] b__law_box := ⟨_, rfl⟩
def D__law_box : FnD := O__law_box.choose
theorem D__law_box_eq : D__law_box = fnSem 1 [false] b__law_box := O__law_box.choose_spec
abbrev N__law_cell : List Str := ["script", "k"]
theorem sc__law_cell : FnScope N__law_cell ["script", "k"] (defScope s__law_cell) := ⟨rfl, rfl, rfl, by decide +kernel, rfl, by decide +kernel, by decide +kernel⟩
def b__law_cell : DS := dRet (dIf (tst (dOf (dBin gLt' (dVar 1) (dUn gLen (dVar 0))))) (dUp (dOf (dBin gIx (dVar 0) (dVar 1)))) (dUp (dBinE gAdd (dOf (dBin gTimes (dC (.int 6373)) (dVar 1))) (dBinEP gMod (dUnE gInt (dUnE gSum (dSl (dOf (dVar 0)) (dNoPart) (dPart (dOf (dC (.int 1))))))) (dC (.int 1000303))))))
theorem O__law_cell : ∃ F : FnD, F = fnSem 2 [false, false] b__law_cell := ⟨_, rfl⟩
def D__law_cell : FnD := O__law_cell.choose
theorem D__law_cell_eq : D__law_cell = fnSem 2 [false, false] b__law_cell := O__law_cell.choose_spec
abbrev N__law_take : List Str := ["box", "many", "digit", "mixed"]
theorem sc__law_take : FnScope N__law_take ["box", "many"] (defScope s__law_take) := ⟨rfl, rfl, rfl, by decide +kernel, rfl, by decide +kernel, by decide +kernel⟩
def b__law_take : DS := dSeq (dIfS (dtAnd (truP (dBin gIx (dVar 0) (dC (.int 1)))) (tst (dOf (dBin gGt (dBin gIx (dVar 0) (dC (.int 0))) (dC (.int 0))))))
  (dSeq (dSet 2 (dOf (dBin gMod (dUn gInt (dBin gIx (dVar 0) (dC (.int 0)))) (dVar 1))))
  (dSeq (dStIx 0 (dOf (dC (.int 0))) (dOf (dBin gDiv (dBin gIx (dVar 0) (dC (.int 0))) (dVar 1))))
  (dRet (dUp (dOf (dVar 2))))))
  (dNext))
  (dSeq (dStIx 0 (dOf (dC (.int 3))) (dOf (dBin gAdd (dBin gIx (dVar 0) (dC (.int 3))) (dC (.int 1)))))
  (dSeq (dSet 3 (dOf (dBin gMod (dUn gInt (dBin gPow (dBin gAdd (dBin gAdd (dBin gIx (dVar 0) (dC (.int 2))) (dBin gTimes (dC (.int 15487161)) (dBin gIx (dVar 0) (dC (.int 3))))) (dC (.int 179429289))) (dC (.int 5)))) (dC (.int 2147483647)))))
  (dRet (dUp (dOf (dBin gMod (dUn gInt (dBin gDiv (dBin gMod (dUn gInt (dBin gPow (dBin gAdd (dBin gTimes (dVar 3) (dC (.int 48271))) (dBin gTimes (dC (.int 6273)) (dBin gIx (dVar 0) (dC (.int 3))))) (dC (.int 3)))) (dC (.int 2147483587))) (dC (.int 64)))) (dVar 1)))))))
theorem O__law_take : ∃ F : FnD, F = fnSem 4 [true, false] b__law_take := ⟨_, rfl⟩
def D__law_take : FnD := O__law_take.choose
theorem D__law_take_eq : D__law_take = fnSem 4 [true, false] b__law_take := O__law_take.choose_spec
abbrev N__law_pick : List Str := ["box", "items"]
theorem sc__law_pick : FnScope N__law_pick ["box", "items"] (defScope s__law_pick) := ⟨rfl, rfl, rfl, by decide +kernel, rfl, by decide +kernel, by decide +kernel⟩
def b__law_pick : DS := dRet (dUp (dBinE gIx (dOf (dVar 1)) (dFz (dCall D__law_take [true, false] (rRef 0 (rVal (dOf (dUn gLen (dVar 1))) rNil))))))
theorem O__law_pick : ∃ F : FnD, F = fnSem 2 [true, false] b__law_pick := ⟨_, rfl⟩
def D__law_pick : FnD := O__law_pick.choose
theorem D__law_pick_eq : D__law_pick = fnSem 2 [true, false] b__law_pick := O__law_pick.choose_spec
abbrev N__law_drawn_map : List Str := ["box", "most", "count", "many", "ties", "way", "turn", "a", "b", "length"]
theorem sc__law_drawn_map : FnScope N__law_drawn_map ["box", "most", "count"] (defScope s__law_drawn_map) := ⟨rfl, rfl, rfl, by decide +kernel, rfl, by decide +kernel, by decide +kernel⟩
def b__law_drawn_map_1 : DS := dSeq (dSet 7 (dFz (dCall D__law_take [true, false] (rRef 0 (rVal (dOf (dVar 3)) rNil)))))
  (dSeq (dSet 8 (dBinEP gMod (dUnE gInt (dBinE gAdd (dOf (dBin gAdd (dVar 7) (dC (.int 1)))) (dFz (dCall D__law_take [true, false] (rRef 0 (rVal (dOf (dBin gMinus (dVar 3) (dC (.int 1)))) rNil)))))) (dVar 3)))
  (dSeq (dIfS (dtAnd (tst (dOf (dBin gLt' (dVar 5) (dC (.int 3))))) (dtAnd (tst (dOf (dBin gLt' (dVar 8) (dVar 7)))) (tst (dBinEP gGt (dFz (dCall D__law_take [true, false] (rRef 0 (rVal (dOf (dC (.int 4))) rNil)))) (dC (.int 0))))))
  (dPar2 7 8 (xCons (dUp (dOf (dVar 8))) (xCons (dUp (dOf (dVar 7))) xNil)))
  (dNext))
  (dSeq (dSet 9 (dIf (tst (dOf (dBin gNe (dVar 5) (dC (.int 1))))) (dFz (dCall D__law_pick [true, false] (rRef 0 (rVal (dLst (dCons (dOf (dC (.int 0))) (dCons (dOf (dC (.int 1))) (dCons (dOf (dC (.int 1))) (dCons (dOf (dC (.int 2))) (dCons (dOf (dC (.int 3))) (dCons (dBinE gAdd (dOf (dC (.int 1))) (dFz (dCall D__law_take [true, false] (rRef 0 (rVal (dOf (dC (.int 6))) rNil))))) dNil))))))) rNil)))) (dOf (dC (.int 1)))))
  (dSeq (dExpr (dMeth 4 mAppend (dCons (dOf (dTupP (pCons (dVar 7) (pCons (dVar 8) (pCons (dVar 9) pNil))))) dNil)))
  (dSeq (dIfS (tst (dBinEP gEq (dFz (dCall D__law_take [true, false] (rRef 0 (rVal (dOf (dC (.int 4))) rNil)))) (dC (.int 0))))
  (dExpr (dMeth 4 mAppend (dCons (dTup (dCons (dOf (dVar 7)) (dCons (dOf (dVar 8)) (dCons (dBinE gAdd (dOf (dVar 9)) (dFz (dCall D__law_pick [true, false] (rRef 0 (rVal (dOf (dLstP (pCons (dC (.int 0)) (pCons (dC (.int 0)) (pCons (dC (.int 1)) pNil))))) rNil))))) dNil)))) dNil)))
  (dNext))
  (dIfS (tst (dBinEP gEq (dFz (dCall D__law_take [true, false] (rRef 0 (rVal (dOf (dC (.int 7))) rNil)))) (dC (.int 0))))
  (dExpr (dMeth 4 mAppend (dCons (dTup (dCons (dOf (dVar 8)) (dCons (dOf (dVar 7)) (dCons (dFz (dCall D__law_pick [true, false] (rRef 0 (rVal (dOf (dLstP (pCons (dC (.int 0)) (pCons (dVar 9) pNil)))) rNil)))) dNil)))) dNil)))
  (dNext)))))))
def b__law_drawn_map : DS := dSeq (dSet 3 (dBinE gAdd (dOf (dC (.int 2))) (dFz (dCall D__law_take [true, false] (rRef 0 (rVal (dOf (dBin gMinus (dVar 1) (dC (.int 1)))) rNil))))))
  (dSeq (dPar2 4 5 (xCons (dLstO (dNil)) (xCons (dUp (dFz (dCall D__law_take [true, false] (rRef 0 (rVal (dOf (dC (.int 4))) rNil))))) xNil)))
  (dSeq (dFor (iRg1 (dCons (dOf (dVar 2)) dNil)) (gNm 6) b__law_drawn_map_1)
  (dRet (dUp (dTup (dCons (dOf (dVar 3)) (dCons (dUnE gTuple (dFz (dUnO gSort (dVar 4)))) dNil)))))))
theorem O__law_drawn_map : ∃ F : FnD, F = fnSem 10 [true, false, false] b__law_drawn_map := ⟨_, rfl⟩
def D__law_drawn_map : FnD := O__law_drawn_map.choose
theorem D__law_drawn_map_eq : D__law_drawn_map = fnSem 10 [true, false, false] b__law_drawn_map := O__law_drawn_map.choose_spec
abbrev N__law_far : List Str := ["roads", "one", "many", "ties", "found", "turn", "before", "a", "b", "length", "place"]
theorem sc__law_far : FnScope N__law_far ["roads", "one"] (defScope s__law_far) := ⟨rfl, rfl, rfl, by decide +kernel, rfl, by decide +kernel, by decide +kernel⟩
def b__law_far_1 : DS := dIfS (dtAnd (tst (dOf (dBin gIsNot (dBin gIx (dVar 4) (dVar 7)) (dC .none)))) (dtOr (tst (dOf (dBin gIs (dBin gIx (dVar 4) (dVar 8)) (dC .none)))) (tst (dOf (dBin gLt' (dBin gAdd (dBin gIx (dVar 4) (dVar 7)) (dVar 9)) (dBin gIx (dVar 4) (dVar 8)))))))
  (dStIx 4 (dOf (dVar 8)) (dOf (dBin gAdd (dBin gIx (dVar 4) (dVar 7)) (dVar 9))))
  (dNext)
def b__law_far_2 : DS := dSeq (dSet 6 (dFz (dUnO gList (dVar 4))))
  (dSeq (dFor (iSeq (dOf (dVar 3))) (gTp 3 (gsCons (gNm 7) (gsCons (gNm 8) (gsCons (gNm 9) gsNil)))) b__law_far_1)
  (dIfS (tst (dOf (dBin gEq (dVar 4) (dVar 6))))
  (dBrk)
  (dNext)))
def b__law_far : DS := dSeq (dAsg (gTp 2 (gsCons (gNm 2) (gsCons (gNm 3) gsNil))) (dOf (dVar 0)))
  (dSeq (dSetO 4 (dLc (iRg1 (dCons (dOf (dVar 2)) dNil)) [10] (gNm 10) (dtYes) (dIf (tst (dOf (dBin gEq (dVar 10) (dVar 1)))) (dOf (dC (.int 0))) (dOf (dC .none)))))
  (dSeq (dFor (iRg1 (dCons (dOf (dVar 2)) dNil)) (gNm 5) b__law_far_2)
  (dRet (dMv 4))))
theorem O__law_far : ∃ F : FnD, F = fnSem 11 [false, false] b__law_far := ⟨_, rfl⟩
def D__law_far : FnD := O__law_far.choose
theorem D__law_far_eq : D__law_far = fnSem 11 [false, false] b__law_far := O__law_far.choose_spec
abbrev N__law_mixed_rr : List Str := ["box", "items", "left", "found", "turn"]
theorem sc__law_mixed_rr : FnScope N__law_mixed_rr ["box", "items"] (defScope s__law_mixed) := ⟨rfl, rfl, rfl, by decide +kernel, rfl, by decide +kernel, by decide +kernel⟩
def b__law_mixed_rr_1 : DS := dExpr (dMeth 3 mAppend (dCons (dMeth 2 mPop (dCons (dFz (dCall D__law_take [true, false] (rRef 0 (rVal (dOf (dUn gLen (dVar 2))) rNil)))) dNil)) dNil))
def b__law_mixed_rr : DS := dSeq (dPar2 2 3 (xCons (dUnO gList (dVar 1)) (xCons (dLstO (dNil)) xNil)))
  (dSeq (dFor (iRg1 (dCons (dOf (dUn gLen (dVar 1))) dNil)) (gNm 4) b__law_mixed_rr_1)
  (dRet (dMv 3)))
theorem O__law_mixed_rr : ∃ F : FnD, F = fnSem 5 [true, true] b__law_mixed_rr := ⟨_, rfl⟩
def D__law_mixed_rr : FnD := O__law_mixed_rr.choose
theorem D__law_mixed_rr_eq : D__law_mixed_rr = fnSem 5 [true, true] b__law_mixed_rr := O__law_mixed_rr.choose_spec
abbrev N__law_back : List Str := ["roads", "a", "b", "length"]
theorem sc__law_back : FnScope N__law_back ["roads"] (defScope s__law_back) := ⟨rfl, rfl, rfl, by decide +kernel, rfl, by decide +kernel, by decide +kernel⟩
def b__law_back : DS := dRet (dUp (dTup (dCons (dOf (dBin gIx (dVar 0) (dC (.int 0)))) (dCons (dUnE gTuple (dUnE gSort (dFz (dLc (iSeq (dOf (dBin gIx (dVar 0) (dC (.int 1))))) [1, 2, 3] (gTp 3 (gsCons (gNm 1) (gsCons (gNm 2) (gsCons (gNm 3) gsNil)))) (dtYes) (dOf (dTupP (pCons (dVar 2) (pCons (dVar 1) (pCons (dVar 3) pNil))))))))) dNil))))
theorem O__law_back : ∃ F : FnD, F = fnSem 4 [false] b__law_back := ⟨_, rfl⟩
def D__law_back : FnD := O__law_back.choose
theorem D__law_back_eq : D__law_back = fnSem 4 [false] b__law_back := O__law_back.choose_spec
abbrev N__law_ends : List Str := ["roads", "one", "other", "least", "first", "last", "low", "far"]
theorem sc__law_ends : FnScope N__law_ends ["roads", "one", "other", "least"] (defScope s__law_ends) := ⟨rfl, rfl, rfl, by decide +kernel, rfl, by decide +kernel, by decide +kernel⟩
def b__law_ends : DS := dSeq (dPar2 4 5 (xCons (dUp (dFz (dCall D__law_far [false, false] (rVal (dOf (dVar 0)) (rVal (dOf (dVar 1)) rNil))))) (xCons (dUp (dFz (dCall D__law_far [false, false] (rVal (dFz (dCall D__law_back [false] (rVal (dOf (dVar 0)) rNil))) (rVal (dOf (dVar 2)) rNil))))) xNil)))
  (dSeq (dSet 6 (dUnE gTuple (dFz (dLc (iSeq (dOf (dVar 5))) [7] (gNm 7) (dtYes) (dIf (tst (dOf (dBin gIs (dVar 7) (dC .none)))) (dOf (dC (.int 0))) (dFn gMax2 (dCons (dOf (dC (.int 0))) (dCons (dOf (dBin gMinus (dVar 3) (dVar 7))) dNil))))))))
  (dRet (dUp (dTup (dCons (dOf (dVar 6)) (dCons (dUnE gTuple (dFz (dLc (iSeq (dOf (dVar 4))) [7] (gNm 7) (dtYes) (dIf (tst (dOf (dBin gIs (dVar 7) (dC .none)))) (dOf (dVar 3)) (dFn gMin2 (dCons (dOf (dVar 3)) (dCons (dOf (dVar 7)) dNil))))))) dNil))))))
theorem O__law_ends : ∃ F : FnD, F = fnSem 8 [false, false, false, false] b__law_ends := ⟨_, rfl⟩
def D__law_ends : FnD := O__law_ends.choose
theorem D__law_ends_eq : D__law_ends = fnSem 8 [false, false, false, false] b__law_ends := O__law_ends.choose_spec
abbrev N__law_same : List Str := ["given", "due", "k"]
theorem sc__law_same : FnScope N__law_same ["given", "due"] (defScope s__law_same) := ⟨rfl, rfl, rfl, by decide +kernel, rfl, by decide +kernel, by decide +kernel⟩
def b__law_same (RR : FnD) : DS := dSeq (dIfS (dtOr (tst (dOf (dBin gIs (dVar 1) (dC .none)))) (truP (dIsi isiBool (dVar 1))))
  (dRet (dIf (tst (dOf (dBin gIs (dVar 1) (dC .none)))) (dUp (dOf (dBin gIs (dVar 0) (dC .none)))) (dUp (dAnd (dOf (dIsi isiBool (dVar 0))) (dOf (dBin gEq (dBin gIs (dVar 0) (dC (.bool true))) (dBin gIs (dVar 1) (dC (.bool true)))))))))
  (dNext))
  (dSeq (dIfS (truP (dIsi isiInt (dVar 1)))
  (dRet (dUp (dAnd (dOf (dIsi isiInt (dVar 0))) (dAnd (dNot (dOf (dIsi isiBool (dVar 0)))) (dOf (dBin gEq (dBin gMinus (dUn gInt (dVar 0)) (dVar 1)) (dC (.int 0))))))))
  (dNext))
  (dSeq (dIfS (truP (dIsi isiStr (dVar 1)))
  (dRet (dUp (dAnd (dOf (dIsi isiStr (dVar 0))) (dAnd (dOf (dBin gEq (dUn gLen (dVar 0)) (dUn gLen (dVar 1)))) (dBinEP gEq (dFz (dLc (iRg1 (dCons (dOf (dUn gLen (dVar 1))) dNil)) [2] (gNm 2) (tst (dBinEP gNe (dSl (dOf (dVar 0)) (dPart (dOf (dVar 2))) (dPart (dOf (dBin gAdd (dVar 2) (dC (.int 1)))))) (dBin gIx (dVar 1) (dVar 2)))) (dOf (dVar 2)))) (dLstP (pNil)))))))
  (dNext))
  (dSeq (dIfS (dtOr (tst (dOf (dBin gNe (dIsi isiList (dVar 0)) (dIsi isiList (dVar 1))))) (tst (dOf (dBin gNe (dIsi isiTuple (dVar 0)) (dIsi isiTuple (dVar 1))))))
  (dRet (dUp (dOf (dC (.bool false)))))
  (dNext))
  (dRet (dUp (dAnd (dOf (dBin gEq (dUn gLen (dVar 0)) (dUn gLen (dVar 1)))) (dBinEP gEq (dFz (dLc (iRg1 (dCons (dOf (dUn gLen (dVar 1))) dNil)) [2] (gNm 2) (dtNot (tru (dCallB RR [false, false] (rVal (dOf (dBin gIx (dVar 0) (dVar 2))) (rVal (dOf (dBin gIx (dVar 1) (dVar 2))) rNil))))) (dOf (dVar 2)))) (dLstP (pNil)))))))))
def F__law_same : Nat → FnD
  | 0 => fun _ => none
  | n + 1 => fnSem 3 [false, false] (b__law_same (F__law_same n))
theorem F__law_same_s (n : Nat) : F__law_same (n + 1) = fnSem 3 [false, false] (b__law_same (F__law_same n)) := rfl
theorem O__law_same : ∃ F : FnD, F = F__law_same 6 := ⟨_, rfl⟩
def D__law_same : FnD := O__law_same.choose
theorem D__law_same_eq : D__law_same = F__law_same 6 := O__law_same.choose_spec
abbrev N_is_tuple : List Str := ["value", "many"]
theorem sc_is_tuple : FnScope N_is_tuple ["value", "many"] (defScope s_is_tuple) := ⟨rfl, rfl, rfl, by decide +kernel, rfl, by decide +kernel, by decide +kernel⟩
def b_is_tuple : DS := dRet (dUp (dAnd (dOf (dIsi isiTuple (dVar 0))) (dOf (dBin gEq (dUn gLen (dVar 0)) (dVar 1)))))
theorem O_is_tuple : ∃ F : FnD, F = fnSem 2 [false, false] b_is_tuple := ⟨_, rfl⟩
def D_is_tuple : FnD := O_is_tuple.choose
theorem D_is_tuple_eq : D_is_tuple = fnSem 2 [false, false] b_is_tuple := O_is_tuple.choose_spec
abbrev N_is_integer : List Str := ["value"]
theorem sc_is_integer : FnScope N_is_integer ["value"] (defScope s_is_integer) := ⟨rfl, rfl, rfl, by decide +kernel, rfl, by decide +kernel, by decide +kernel⟩
def b_is_integer : DS := dRet (dUp (dAnd (dOf (dIsi isiInt (dVar 0))) (dNot (dOf (dIsi isiBool (dVar 0))))))
theorem O_is_integer : ∃ F : FnD, F = fnSem 1 [false] b_is_integer := ⟨_, rfl⟩
def D_is_integer : FnD := O_is_integer.choose
theorem D_is_integer_eq : D_is_integer = fnSem 1 [false] b_is_integer := O_is_integer.choose_spec
abbrev N_is_within : List Str := ["value", "low", "high"]
theorem sc_is_within : FnScope N_is_within ["value", "low", "high"] (defScope s_is_within) := ⟨rfl, rfl, rfl, by decide +kernel, rfl, by decide +kernel, by decide +kernel⟩
def b_is_within : DS := dRet (dUp (dAnd (dFz (dCall D_is_integer [false] (rVal (dOf (dVar 0)) rNil))) (dOf (dChain gLe' gLe' (dVar 1) (dVar 0) (dVar 2)))))
theorem O_is_within : ∃ F : FnD, F = fnSem 3 [false, false, false] b_is_within := ⟨_, rfl⟩
def D_is_within : FnD := O_is_within.choose
theorem D_is_within_eq : D_is_within = fnSem 3 [false, false, false] b_is_within := O_is_within.choose_spec
abbrev N_is_index : List Str := ["value", "many"]
theorem sc_is_index : FnScope N_is_index ["value", "many"] (defScope s_is_index) := ⟨rfl, rfl, rfl, by decide +kernel, rfl, by decide +kernel, by decide +kernel⟩
def b_is_index : DS := dRet (dUp (dAnd (dFz (dCall D_is_integer [false] (rVal (dOf (dVar 0)) rNil))) (dOf (dChain gLe' gLt' (dC (.int 0)) (dVar 0) (dVar 1)))))
theorem O_is_index : ∃ F : FnD, F = fnSem 2 [false, false] b_is_index := ⟨_, rfl⟩
def D_is_index : FnD := O_is_index.choose
theorem D_is_index_eq : D_is_index = fnSem 2 [false, false] b_is_index := O_is_index.choose_spec
abbrev N_is_count : List Str := ["value"]
theorem sc_is_count : FnScope N_is_count ["value"] (defScope s_is_count) := ⟨rfl, rfl, rfl, by decide +kernel, rfl, by decide +kernel, by decide +kernel⟩
def b_is_count : DS := dRet (dUp (dAnd (dFz (dCall D_is_integer [false] (rVal (dOf (dVar 0)) rNil))) (dOf (dBin gGe (dVar 0) (dC (.int 0))))))
theorem O_is_count : ∃ F : FnD, F = fnSem 1 [false] b_is_count := ⟨_, rfl⟩
def D_is_count : FnD := O_is_count.choose
theorem D_is_count_eq : D_is_count = fnSem 1 [false] b_is_count := O_is_count.choose_spec
abbrev N_is_tie : List Str := ["many", "value"]
theorem sc_is_tie : FnScope N_is_tie ["many", "value"] (defScope s_is_tie) := ⟨rfl, rfl, rfl, by decide +kernel, rfl, by decide +kernel, by decide +kernel⟩
def b_is_tie : DS := dSeq (dIfS (dtOr (dtNot (tru (dFz (dCall D_is_tuple [false, false] (rVal (dOf (dVar 1)) (rVal (dOf (dC (.int 3))) rNil)))))) (dtOr (dtNot (tru (dFz (dCall D_is_index [false, false] (rVal (dOf (dBin gIx (dVar 1) (dC (.int 0)))) (rVal (dOf (dVar 0)) rNil)))))) (dtNot (tru (dFz (dCall D_is_index [false, false] (rVal (dOf (dBin gIx (dVar 1) (dC (.int 1)))) (rVal (dOf (dVar 0)) rNil))))))))
  (dRet (dUp (dOf (dC (.bool false)))))
  (dNext))
  (dRet (dUp (dAnd (dOf (dBin gNe (dBin gIx (dVar 1) (dC (.int 0))) (dBin gIx (dVar 1) (dC (.int 1))))) (dFz (dCall D_is_count [false] (rVal (dOf (dBin gIx (dVar 1) (dC (.int 2)))) rNil))))))
theorem O_is_tie : ∃ F : FnD, F = fnSem 2 [false, false] b_is_tie := ⟨_, rfl⟩
def D_is_tie : FnD := O_is_tie.choose
theorem D_is_tie_eq : D_is_tie = fnSem 2 [false, false] b_is_tie := O_is_tie.choose_spec
abbrev N_in_order : List Str := ["items", "at"]
theorem sc_in_order : FnScope N_in_order ["items"] (defScope s_in_order) := ⟨rfl, rfl, rfl, by decide +kernel, rfl, by decide +kernel, by decide +kernel⟩
def b_in_order : DS := dRet (dUp (dUnE gAll (dFz (dLc (iRg2 (dCons (dOf (dC (.int 1))) (dCons (dOf (dUn gLen (dVar 0))) dNil))) [1] (gNm 1) (dtYes) (dOf (dBin gLe' (dBin gIx (dVar 0) (dBin gMinus (dVar 1) (dC (.int 1)))) (dBin gIx (dVar 0) (dVar 1))))))))
theorem O_in_order : ∃ F : FnD, F = fnSem 2 [false] b_in_order := ⟨_, rfl⟩
def D_in_order : FnD := O_in_order.choose
theorem D_in_order_eq : D_in_order = fnSem 2 [false] b_in_order := O_in_order.choose_spec
abbrev N_is_map : List Str := ["value", "many", "ties", "tie"]
theorem sc_is_map : FnScope N_is_map ["value"] (defScope s_is_map) := ⟨rfl, rfl, rfl, by decide +kernel, rfl, by decide +kernel, by decide +kernel⟩
def b_is_map : DS := dSeq (dIfS (dtOr (dtNot (tru (dFz (dCall D_is_tuple [false, false] (rVal (dOf (dVar 0)) (rVal (dOf (dC (.int 2))) rNil)))))) (dtNot (tru (dFz (dCall D_is_within [false, false, false] (rVal (dOf (dBin gIx (dVar 0) (dC (.int 0)))) (rVal (dOf (dC (.int 1))) (rVal (dOf (dC (.int 20))) rNil))))))))
  (dRet (dUp (dOf (dC (.bool false)))))
  (dNext))
  (dSeq (dAsg (gTp 2 (gsCons (gNm 1) (gsCons (gNm 2) gsNil))) (dOf (dVar 0)))
  (dSeq (dIfS (dtOr (dtNot (truP (dIsi isiTuple (dVar 2)))) (tst (dOf (dBin gGt (dUn gLen (dVar 2)) (dC (.int 120))))))
  (dRet (dUp (dOf (dC (.bool false)))))
  (dNext))
  (dRet (dUp (dAnd (dUnE gAll (dFz (dLc (iSeq (dOf (dVar 2))) [3] (gNm 3) (dtYes) (dFz (dCall D_is_tie [false, false] (rVal (dOf (dVar 1)) (rVal (dOf (dVar 3)) rNil))))))) (dFz (dCall D_in_order [false] (rVal (dOf (dVar 2)) rNil))))))))
theorem O_is_map : ∃ F : FnD, F = fnSem 4 [false] b_is_map := ⟨_, rfl⟩
def D_is_map : FnD := O_is_map.choose
theorem D_is_map_eq : D_is_map = fnSem 4 [false] b_is_map := O_is_map.choose_spec
abbrev N_check_map : List Str := ["roads"]
theorem sc_check_map : FnScope N_check_map ["roads"] (defScope s_check_map) := ⟨rfl, rfl, rfl, by decide +kernel, rfl, by decide +kernel, by decide +kernel⟩
def b_check_map : DS := dIfS (dtNot (tru (dFz (dCall D_is_map [false] (rVal (dOf (dVar 0)) rNil)))))
  (dNever)
  (dNext)
theorem O_check_map : ∃ F : FnD, F = fnSem 1 [false] b_check_map := ⟨_, rfl⟩
def D_check_map : FnD := O_check_map.choose
theorem D_check_map_eq : D_check_map = fnSem 1 [false] b_check_map := O_check_map.choose_spec
abbrev N_check_place : List Str := ["roads", "place"]
theorem sc_check_place : FnScope N_check_place ["roads", "place"] (defScope s_check_place) := ⟨rfl, rfl, rfl, by decide +kernel, rfl, by decide +kernel, by decide +kernel⟩
def b_check_place : DS := dIfS (dtNot (tru (dFz (dCall D_is_index [false, false] (rVal (dOf (dVar 1)) (rVal (dOf (dBin gIx (dVar 0) (dC (.int 0)))) rNil))))))
  (dNever)
  (dNext)
theorem O_check_place : ∃ F : FnD, F = fnSem 2 [false, false] b_check_place := ⟨_, rfl⟩
def D_check_place : FnD := O_check_place.choose
theorem D_check_place_eq : D_check_place = fnSem 2 [false, false] b_check_place := O_check_place.choose_spec
abbrev N_check_two : List Str := ["roads", "one", "other"]
theorem sc_check_two : FnScope N_check_two ["roads", "one", "other"] (defScope s_check_two) := ⟨rfl, rfl, rfl, by decide +kernel, rfl, by decide +kernel, by decide +kernel⟩
def b_check_two : DS := dSeq (dExpr (dFz (dCall D_check_place [false, false] (rVal (dOf (dVar 0)) (rVal (dOf (dVar 1)) rNil)))))
  (dSeq (dExpr (dFz (dCall D_check_place [false, false] (rVal (dOf (dVar 0)) (rVal (dOf (dVar 2)) rNil)))))
  (dIfS (tst (dOf (dBin gEq (dVar 1) (dVar 2))))
  (dNever)
  (dNext)))
theorem O_check_two : ∃ F : FnD, F = fnSem 3 [false, false, false] b_check_two := ⟨_, rfl⟩
def D_check_two : FnD := O_check_two.choose
theorem D_check_two_eq : D_check_two = fnSem 3 [false, false, false] b_check_two := O_check_two.choose_spec
abbrev N_ties_from : List Str := ["many", "ties", "found", "index", "a", "b", "length", "_"]
theorem sc_ties_from : FnScope N_ties_from ["many", "ties"] (defScope s_ties_from) := ⟨rfl, rfl, rfl, by decide +kernel, rfl, by decide +kernel, by decide +kernel⟩
def b_ties_from_1 : DS := dExpr (dMethIx 2 (dVar 4) mAppend (pCons (dTupP (pCons (dVar 3) (pCons (dVar 5) (pCons (dVar 6) pNil)))) pNil))
def b_ties_from : DS := dSeq (dSetO 2 (dLcO 1 (iRg1 (dCons (dOf (dVar 0)) dNil)) [7] (gNm 7) (dtYes) (dLstO (dNil))))
  (dSeq (dFor (iEnumD (dCons (dOf (dVar 1)) dNil)) (gTp 2 (gsCons (gNm 3) (gsCons (gTp 3 (gsCons (gNm 4) (gsCons (gNm 5) (gsCons (gNm 6) gsNil)))) gsNil))) b_ties_from_1)
  (dRet (dMv 2)))
theorem O_ties_from : ∃ F : FnD, F = fnSem 8 [false, false] b_ties_from := ⟨_, rfl⟩
def D_ties_from : FnD := O_ties_from.choose
theorem D_ties_from_eq : D_ties_from = fnSem 8 [false, false] b_ties_from := O_ties_from.choose_spec
abbrev N_is_less : List Str := ["one", "other"]
theorem sc_is_less : FnScope N_is_less ["one", "other"] (defScope s_is_less) := ⟨rfl, rfl, rfl, by decide +kernel, rfl, by decide +kernel, by decide +kernel⟩
def b_is_less : DS := dRet (dUp (dAnd (dOf (dBin gIsNot (dVar 0) (dC .none))) (dOr (dOf (dBin gIs (dVar 1) (dC .none))) (dOf (dBin gLt' (dVar 0) (dVar 1))))))
theorem O_is_less : ∃ F : FnD, F = fnSem 2 [false, false] b_is_less := ⟨_, rfl⟩
def D_is_less : FnD := O_is_less.choose
theorem D_is_less_eq : D_is_less = fnSem 2 [false, false] b_is_less := O_is_less.choose_spec
abbrev N_search : List Str := ["many", "ties", "one", "leading", "found", "came", "waiting", "here", "place", "index", "length"]
theorem sc_search : FnScope N_search ["many", "ties", "one"] (defScope s_search) := ⟨rfl, rfl, rfl, by decide +kernel, rfl, by decide +kernel, by decide +kernel⟩
def b_search_1 : DS := dIfS (tru (dFz (dCall D_is_less [false, false] (rVal (dOf (dBin gIx (dVar 4) (dVar 8))) (rVal (dOf (dBin gIx (dVar 4) (dVar 7))) rNil)))))
  (dSet 7 (dOf (dVar 8)))
  (dNext)
def b_search_2 : DS := dIfS (tru (dFz (dCall D_is_less [false, false] (rVal (dOf (dBin gAdd (dBin gIx (dVar 4) (dVar 7)) (dVar 10))) (rVal (dOf (dBin gIx (dVar 4) (dVar 8))) rNil)))))
  (dAsg (gTp 2 (gsCons (gIxT 4 (dOf (dVar 8))) (gsCons (gIxT 5 (dOf (dVar 8))) gsNil))) (dOf (dTupP (pCons (dBin gAdd (dBin gIx (dVar 4) (dVar 7)) (dVar 10)) (pCons (dVar 9) pNil)))))
  (dNext)
def b_search_3 : DS := dSeq (dSet 7 (dOf (dBin gIx (dVar 6) (dC (.int 0)))))
  (dSeq (dForV 6 (gNm 8) b_search_1)
  (dSeq (dExpr (dMeth 6 mRemove (dCons (dOf (dVar 7)) dNil)))
  (dSeq (dIfS (tst (dOf (dBin gIs (dBin gIx (dVar 4) (dVar 7)) (dC .none))))
  (dRet (dUp (dTup (dCons (dFrzV 4) (dCons (dFrzV 5) dNil)))))
  (dNext))
  (dFor (iSeq (dOf (dBin gIx (dVar 3) (dVar 7)))) (gTp 3 (gsCons (gNm 9) (gsCons (gNm 8) (gsCons (gNm 10) gsNil)))) b_search_2))))
def b_search : DS := dSeq (dPar4 3 4 5 6 (xCons (dUp (dFz (dCall D_ties_from [false, false] (rVal (dOf (dVar 0)) (rVal (dOf (dVar 1)) rNil))))) (xCons (dBinO gTimes (dLstP (pCons (dC .none) pNil)) (dVar 0)) (xCons (dBinO gTimes (dLstP (pCons (dC .none) pNil)) (dVar 0)) (xCons (dRgO (dOf (dVar 0))) xNil)))))
  (dSeq (dStIx 4 (dOf (dVar 2)) (dOf (dC (.int 0))))
  (dSeq (dWhile (tst (dOf (dBin gNe (dVar 6) (dLstP (pNil))))) b_search_3)
  (dRet (dUp (dTup (dCons (dFrzV 4) (dCons (dFrzV 5) dNil)))))))
theorem O_search : ∃ F : FnD, F = fnSem 11 [false, false, false] b_search := ⟨_, rfl⟩
def D_search : FnD := O_search.choose
theorem D_search_eq : D_search = fnSem 11 [false, false, false] b_search := O_search.choose_spec
abbrev N_lengths_from : List Str := ["many", "ties", "one"]
theorem sc_lengths_from : FnScope N_lengths_from ["many", "ties", "one"] (defScope s_lengths_from) := ⟨rfl, rfl, rfl, by decide +kernel, rfl, by decide +kernel, by decide +kernel⟩
def b_lengths_from : DS := dRet (dUp (dBinE gIx (dFz (dCall D_search [false, false, false] (rVal (dOf (dVar 0)) (rVal (dOf (dVar 1)) (rVal (dOf (dVar 2)) rNil))))) (dOf (dC (.int 0)))))
theorem O_lengths_from : ∃ F : FnD, F = fnSem 3 [false, false, false] b_lengths_from := ⟨_, rfl⟩
def D_lengths_from : FnD := O_lengths_from.choose
theorem D_lengths_from_eq : D_lengths_from = fnSem 3 [false, false, false] b_lengths_from := O_lengths_from.choose_spec
abbrev N_length_of : List Str := ["roads", "one", "other"]
theorem sc_length_of : FnScope N_length_of ["roads", "one", "other"] (defScope s_length_of) := ⟨rfl, rfl, rfl, by decide +kernel, rfl, by decide +kernel, by decide +kernel⟩
def b_length_of : DS := dRet (dUp (dBinE gIx (dFz (dCall D_lengths_from [false, false, false] (rVal (dOf (dBin gIx (dVar 0) (dC (.int 0)))) (rVal (dOf (dBin gIx (dVar 0) (dC (.int 1)))) (rVal (dOf (dVar 1)) rNil))))) (dOf (dVar 2))))
theorem O_length_of : ∃ F : FnD, F = fnSem 3 [false, false, false] b_length_of := ⟨_, rfl⟩
def D_length_of : FnD := O_length_of.choose
theorem D_length_of_eq : D_length_of = fnSem 3 [false, false, false] b_length_of := O_length_of.choose_spec
abbrev N_check_way : List Str := ["roads", "one", "other"]
theorem sc_check_way : FnScope N_check_way ["roads", "one", "other"] (defScope s_check_way) := ⟨rfl, rfl, rfl, by decide +kernel, rfl, by decide +kernel, by decide +kernel⟩
def b_check_way : DS := dSeq (dExpr (dFz (dCall D_check_map [false] (rVal (dOf (dVar 0)) rNil))))
  (dSeq (dExpr (dFz (dCall D_check_two [false, false, false] (rVal (dOf (dVar 0)) (rVal (dOf (dVar 1)) (rVal (dOf (dVar 2)) rNil))))))
  (dIfS (tst (dBinEP gIs (dFz (dCall D_length_of [false, false, false] (rVal (dOf (dVar 0)) (rVal (dOf (dVar 1)) (rVal (dOf (dVar 2)) rNil))))) (dC .none)))
  (dNever)
  (dNext)))
theorem O_check_way : ∃ F : FnD, F = fnSem 3 [false, false, false] b_check_way := ⟨_, rfl⟩
def D_check_way : FnD := O_check_way.choose
theorem D_check_way_eq : D_check_way = fnSem 3 [false, false, false] b_check_way := O_check_way.choose_spec
abbrev N_lengths_to : List Str := ["roads", "other", "many", "ties", "a", "b", "length"]
theorem sc_lengths_to : FnScope N_lengths_to ["roads", "other"] (defScope s_lengths_to) := ⟨rfl, rfl, rfl, by decide +kernel, rfl, by decide +kernel, by decide +kernel⟩
def b_lengths_to : DS := dSeq (dAsg (gTp 2 (gsCons (gNm 2) (gsCons (gNm 3) gsNil))) (dOf (dVar 0)))
  (dRet (dCall D_lengths_from [false, false, false] (rVal (dOf (dVar 2)) (rVal (dFz (dLc (iSeq (dOf (dVar 3))) [4, 5, 6] (gTp 3 (gsCons (gNm 4) (gsCons (gNm 5) (gsCons (gNm 6) gsNil)))) (dtYes) (dOf (dTupP (pCons (dVar 5) (pCons (dVar 4) (pCons (dVar 6) pNil))))))) (rVal (dOf (dVar 1)) rNil)))))
theorem O_lengths_to : ∃ F : FnD, F = fnSem 7 [false, false] b_lengths_to := ⟨_, rfl⟩
def D_lengths_to : FnD := O_lengths_to.choose
theorem D_lengths_to_eq : D_lengths_to = fnSem 7 [false, false] b_lengths_to := O_lengths_to.choose_spec
abbrev N_least_proof : List Str := ["roads", "one", "other", "least", "length"]
theorem sc_least_proof : FnScope N_least_proof ["roads", "one", "other"] (defScope s_least_proof) := ⟨rfl, rfl, rfl, by decide +kernel, rfl, by decide +kernel, by decide +kernel⟩
def b_least_proof : DS := dSeq (dExpr (dFz (dCall D_check_way [false, false, false] (rVal (dOf (dVar 0)) (rVal (dOf (dVar 1)) (rVal (dOf (dVar 2)) rNil))))))
  (dSeq (dSet 3 (dFz (dCall D_length_of [false, false, false] (rVal (dOf (dVar 0)) (rVal (dOf (dVar 1)) (rVal (dOf (dVar 2)) rNil))))))
  (dRet (dUp (dUnE gTuple (dFz (dLc (iSeq (dFz (dCall D_lengths_to [false, false] (rVal (dOf (dVar 0)) (rVal (dOf (dVar 2)) rNil))))) [4] (gNm 4) (dtYes) (dIf (tst (dOf (dBin gIs (dVar 4) (dC .none)))) (dOf (dC (.int 0))) (dFn gMax2 (dCons (dOf (dC (.int 0))) (dCons (dOf (dBin gMinus (dVar 3) (dVar 4))) dNil))))))))))
theorem O_least_proof : ∃ F : FnD, F = fnSem 5 [false, false, false] b_least_proof := ⟨_, rfl⟩
def D_least_proof : FnD := O_least_proof.choose
theorem D_least_proof_eq : D_least_proof = fnSem 5 [false, false, false] b_least_proof := O_least_proof.choose_spec
abbrev N_greatest_proof : List Str := ["roads", "one", "other", "least", "found", "length"]
theorem sc_greatest_proof : FnScope N_greatest_proof ["roads", "one", "other"] (defScope s_greatest_proof) := ⟨rfl, rfl, rfl, by decide +kernel, rfl, by decide +kernel, by decide +kernel⟩
def b_greatest_proof : DS := dSeq (dExpr (dFz (dCall D_check_way [false, false, false] (rVal (dOf (dVar 0)) (rVal (dOf (dVar 1)) (rVal (dOf (dVar 2)) rNil))))))
  (dSeq (dSet 3 (dFz (dCall D_length_of [false, false, false] (rVal (dOf (dVar 0)) (rVal (dOf (dVar 1)) (rVal (dOf (dVar 2)) rNil))))))
  (dSeq (dSet 4 (dFz (dCall D_lengths_from [false, false, false] (rVal (dOf (dBin gIx (dVar 0) (dC (.int 0)))) (rVal (dOf (dBin gIx (dVar 0) (dC (.int 1)))) (rVal (dOf (dVar 1)) rNil))))))
  (dRet (dUp (dUnE gTuple (dFz (dLc (iSeq (dOf (dVar 4))) [5] (gNm 5) (dtYes) (dIf (tst (dOf (dBin gIs (dVar 5) (dC .none)))) (dOf (dVar 3)) (dFn gMin2 (dCons (dOf (dVar 3)) (dCons (dOf (dVar 5)) dNil)))))))))))
theorem O_greatest_proof : ∃ F : FnD, F = fnSem 6 [false, false, false] b_greatest_proof := ⟨_, rfl⟩
def D_greatest_proof : FnD := O_greatest_proof.choose
theorem D_greatest_proof_eq : D_greatest_proof = fnSem 6 [false, false, false] b_greatest_proof := O_greatest_proof.choose_spec
abbrev N__law_told : List Str := ["roads", "one", "other", "named"]
theorem sc__law_told : FnScope N__law_told ["roads", "one", "other", "named"] (defScope s__law_told) := ⟨rfl, rfl, rfl, by decide +kernel, rfl, by decide +kernel, by decide +kernel⟩
def b__law_told : DS := dSeq (dIfS (truP (dVar 3))
  (dRet (dLstO (dCons (dFz (dCall D_least_proof [false, false, false] (rPerm [2, 1, 0] (rVal (dOf (dVar 2)) (rVal (dOf (dVar 1)) (rVal (dOf (dVar 0)) rNil)))))) (dCons (dFz (dCall D_greatest_proof [false, false, false] (rVal (dOf (dVar 0)) (rVal (dOf (dVar 1)) (rVal (dOf (dVar 2)) rNil))))) dNil))))
  (dNext))
  (dRet (dLstO (dCons (dFz (dCall D_least_proof [false, false, false] (rVal (dOf (dVar 0)) (rVal (dOf (dVar 1)) (rVal (dOf (dVar 2)) rNil))))) (dCons (dFz (dCall D_greatest_proof [false, false, false] (rPerm [2, 1, 0] (rVal (dOf (dVar 2)) (rVal (dOf (dVar 1)) (rVal (dOf (dVar 0)) rNil)))))) dNil))))
theorem O__law_told : ∃ F : FnD, F = fnSem 4 [false, false, false, false] b__law_told := ⟨_, rfl⟩
def D__law_told : FnD := O__law_told.choose
theorem D__law_told_eq : D__law_told = fnSem 4 [false, false, false, false] b__law_told := O__law_told.choose_spec
abbrev N__law_all : List Str := ["roads", "one", "other", "least", "rows", "place", "longer", "row", "x", "a", "b", "length"]
theorem sc__law_all : FnScope N__law_all ["roads", "one", "other", "least"] (defScope s__law_all) := ⟨rfl, rfl, rfl, by decide +kernel, rfl, by decide +kernel, by decide +kernel⟩
def b__law_all_1 : DS := dIfS (tst (dBinEP gEq (dFz (dLc (iSeq (dOf (dBin gIx (dVar 0) (dC (.int 1))))) [9, 10, 11] (gTp 3 (gsCons (gNm 9) (gsCons (gNm 10) (gsCons (gNm 11) gsNil)))) (dtOr (dtAnd (tst (dOf (dBin gLt' (dVar 9) (dVar 5)))) (dtAnd (tst (dOf (dBin gEq (dVar 10) (dVar 5)))) (tst (dOf (dBin gGt (dVar 8) (dBin gAdd (dBin gIx (dVar 7) (dVar 9)) (dVar 11))))))) (dtAnd (tst (dOf (dBin gLt' (dVar 10) (dVar 5)))) (dtAnd (tst (dOf (dBin gEq (dVar 9) (dVar 5)))) (tst (dOf (dBin gGt (dBin gIx (dVar 7) (dVar 10)) (dBin gAdd (dVar 8) (dVar 11)))))))) (dOf (dC (.int 1))))) (dLstP (pNil))))
  (dExpr (dMeth 6 mAppend (dCons (dOf (dBin gAdd (dVar 7) (dTupP (pCons (dVar 8) pNil)))) dNil)))
  (dNext)
def b__law_all_2 : DS := dFor (iSeq (dIf (tst (dOf (dBin gEq (dVar 5) (dVar 1)))) (dOf (dLstP (pCons (dC (.int 0)) pNil))) (dIf (tst (dOf (dBin gEq (dVar 5) (dVar 2)))) (dOf (dLstP (pCons (dVar 3) pNil))) (dFz (dRgO (dOf (dBin gAdd (dVar 3) (dC (.int 1))))))))) (gNm 8) b__law_all_1
def b__law_all_3 : DS := dSeq (dSetO 6 (dLstO (dNil)))
  (dSeq (dFor (iSeq (dOf (dVar 4))) (gNm 7) b__law_all_2)
  (dSeq (dSet 4 (dFrzV 6))
  (dIfS (tst (dOf (dBin gGt (dUn gLen (dVar 4)) (dC (.int 400)))))
  (dRet (dUp (dOf (dC .none))))
  (dNext))))
def b__law_all : DS := dSeq (dSet 4 (dOf (dLstP (pCons (dTupP (pNil)) pNil))))
  (dSeq (dFor (iRg1 (dCons (dOf (dBin gIx (dVar 0) (dC (.int 0)))) dNil)) (gNm 5) b__law_all_3)
  (dRet (dUp (dOf (dVar 4)))))
theorem O__law_all : ∃ F : FnD, F = fnSem 12 [false, false, false, false] b__law_all := ⟨_, rfl⟩
def D__law_all : FnD := O__law_all.choose
theorem D__law_all_eq : D__law_all = fnSem 12 [false, false, false, false] b__law_all := O__law_all.choose_spec
abbrev N__law_drawn_proof : List Str := ["box", "roads", "one", "other", "least", "low", "high", "found", "turn", "place", "again", "a", "b", "length"]
theorem sc__law_drawn_proof : FnScope N__law_drawn_proof ["box", "roads", "one", "other", "least"] (defScope s__law_drawn_proof) := ⟨rfl, rfl, rfl, by decide +kernel, rfl, by decide +kernel, by decide +kernel⟩
def b__law_drawn_proof_1 : DS := dStIx 7 (dOf (dVar 12)) (dFn gMax2 (dCons (dOf (dBin gIx (dVar 5) (dVar 12))) (dCons (dFn gMin2 (dCons (dOf (dBin gIx (dVar 7) (dVar 12))) (dCons (dOf (dBin gAdd (dBin gIx (dVar 7) (dVar 11)) (dVar 13))) dNil))) dNil)))
def b__law_drawn_proof_2 : DS := dFor (iSeq (dOf (dBin gIx (dVar 1) (dC (.int 1))))) (gTp 3 (gsCons (gNm 11) (gsCons (gNm 12) (gsCons (gNm 13) gsNil)))) b__law_drawn_proof_1
def b__law_drawn_proof_3 : DS := dSeq (dSet 9 (dFz (dCall D__law_take [true, false] (rRef 0 (rVal (dOf (dBin gIx (dVar 1) (dC (.int 0)))) rNil)))))
  (dSeq (dStIx 7 (dOf (dVar 9)) (dBinE gAdd (dOf (dBin gIx (dVar 5) (dVar 9))) (dBinEP gMod (dUnE gInt (dFz (dCall D__law_take [true, false] (rRef 0 (rVal (dOf (dC (.int 1000))) rNil))))) (dBin gAdd (dBin gMinus (dBin gIx (dVar 7) (dVar 9)) (dBin gIx (dVar 5) (dVar 9))) (dC (.int 1))))))
  (dFor (iRg1 (dCons (dOf (dBin gIx (dVar 1) (dC (.int 0)))) dNil)) (gNm 10) b__law_drawn_proof_2))
def b__law_drawn_proof : DS := dSeq (dAsg (gTp 2 (gsCons (gNm 5) (gsCons (gNm 6) gsNil))) (dFz (dCall D__law_ends [false, false, false, false] (rVal (dOf (dVar 1)) (rVal (dOf (dVar 2)) (rVal (dOf (dVar 3)) (rVal (dOf (dVar 4)) rNil)))))))
  (dSeq (dSetO 7 (dUnO gList (dVar 6)))
  (dSeq (dFor (iRg1 (dCons (dOf (dC (.int 3))) dNil)) (gNm 8) b__law_drawn_proof_3)
  (dRet (dUp (dOf (dUn gTuple (dVar 7)))))))
theorem O__law_drawn_proof : ∃ F : FnD, F = fnSem 14 [true, false, false, false, false] b__law_drawn_proof := ⟨_, rfl⟩
def D__law_drawn_proof : FnD := O__law_drawn_proof.choose
theorem D__law_drawn_proof_eq : D__law_drawn_proof = fnSem 14 [true, false, false, false, false] b__law_drawn_proof := O__law_drawn_proof.choose_spec
abbrev N__law_mixed : List Str := ["box", "items", "left", "found", "turn"]
theorem sc__law_mixed : FnScope N__law_mixed ["box", "items"] (defScope s__law_mixed) := ⟨rfl, rfl, rfl, by decide +kernel, rfl, by decide +kernel, by decide +kernel⟩
def b__law_mixed_1 : DS := dExpr (dMeth 3 mAppend (dCons (dMeth 2 mPop (dCons (dFz (dCall D__law_take [true, false] (rRef 0 (rVal (dOf (dUn gLen (dVar 2))) rNil)))) dNil)) dNil))
def b__law_mixed : DS := dSeq (dPar2 2 3 (xCons (dUnO gList (dVar 1)) (xCons (dLstO (dNil)) xNil)))
  (dSeq (dFor (iRg1 (dCons (dOf (dUn gLen (dVar 1))) dNil)) (gNm 4) b__law_mixed_1)
  (dRet (dMv 3)))
theorem O__law_mixed : ∃ F : FnD, F = fnSem 5 [true, false] b__law_mixed := ⟨_, rfl⟩
def D__law_mixed : FnD := O__law_mixed.choose
theorem D__law_mixed_eq : D__law_mixed = fnSem 5 [true, false] b__law_mixed := O__law_mixed.choose_spec
abbrev N__law_is : List Str := ["roads", "one", "other", "least", "value", "x", "a", "b", "length"]
theorem sc__law_is : FnScope N__law_is ["roads", "one", "other", "least", "value"] (defScope s__law_is) := ⟨rfl, rfl, rfl, by decide +kernel, rfl, by decide +kernel, by decide +kernel⟩
def b__law_is : DS := dSeq (dIfS (dtOr (tst (dOf (dBin gNe (dBin gIx (dVar 4) (dVar 1)) (dC (.int 0))))) (dtOr (tst (dOf (dBin gNe (dBin gIx (dVar 4) (dVar 2)) (dVar 3)))) (tst (dBinEP gNe (dFz (dLc (iSeq (dOf (dVar 4))) [5] (gNm 5) (dtOr (tst (dOf (dBin gLt' (dVar 5) (dC (.int 0))))) (tst (dOf (dBin gGt (dVar 5) (dVar 3))))) (dOf (dVar 5)))) (dLstP (pNil))))))
  (dRet (dUp (dOf (dC (.bool false)))))
  (dNext))
  (dRet (dUp (dBinEP gEq (dFz (dLc (iSeq (dOf (dBin gIx (dVar 0) (dC (.int 1))))) [6, 7, 8] (gTp 3 (gsCons (gNm 6) (gsCons (gNm 7) (gsCons (gNm 8) gsNil)))) (tst (dOf (dBin gGt (dBin gIx (dVar 4) (dVar 7)) (dBin gAdd (dBin gIx (dVar 4) (dVar 6)) (dVar 8))))) (dOf (dC (.int 1))))) (dLstP (pNil)))))
theorem O__law_is : ∃ F : FnD, F = fnSem 9 [false, false, false, false, false] b__law_is := ⟨_, rfl⟩
def D__law_is : FnD := O__law_is.choose
theorem D__law_is_eq : D__law_is = fnSem 9 [false, false, false, false, false] b__law_is := O__law_is.choose_spec
abbrev N_are_counts : List Str := ["value", "many", "item"]
theorem sc_are_counts : FnScope N_are_counts ["value", "many"] (defScope s_are_counts) := ⟨rfl, rfl, rfl, by decide +kernel, rfl, by decide +kernel, by decide +kernel⟩
def b_are_counts : DS := dRet (dUp (dAnd (dFz (dCall D_is_tuple [false, false] (rVal (dOf (dVar 0)) (rVal (dOf (dVar 1)) rNil)))) (dUnE gAll (dFz (dLc (iSeq (dOf (dVar 0))) [2] (gNm 2) (dtYes) (dFz (dCall D_is_count [false] (rVal (dOf (dVar 2)) rNil))))))))
theorem O_are_counts : ∃ F : FnD, F = fnSem 3 [false, false] b_are_counts := ⟨_, rfl⟩
def D_are_counts : FnD := O_are_counts.choose
theorem D_are_counts_eq : D_are_counts = fnSem 3 [false, false] b_are_counts := O_are_counts.choose_spec
abbrev N_proved_by : List Str := ["roads", "one", "other", "heights", "a", "b", "length"]
theorem sc_proved_by : FnScope N_proved_by ["roads", "one", "other", "heights"] (defScope s_proved_by) := ⟨rfl, rfl, rfl, by decide +kernel, rfl, by decide +kernel, by decide +kernel⟩
def b_proved_by : DS := dSeq (dIfS (tru (dUnE gAny (dFz (dLc (iSeq (dOf (dBin gIx (dVar 0) (dC (.int 1))))) [4, 5, 6] (gTp 3 (gsCons (gNm 4) (gsCons (gNm 5) (gsCons (gNm 6) gsNil)))) (dtYes) (dOf (dBin gGt (dBin gIx (dVar 3) (dVar 5)) (dBin gAdd (dBin gIx (dVar 3) (dVar 4)) (dVar 6))))))))
  (dRet (dUp (dOf (dC .none))))
  (dNext))
  (dRet (dUp (dOf (dBin gMinus (dBin gIx (dVar 3) (dVar 2)) (dBin gIx (dVar 3) (dVar 1))))))
theorem O_proved_by : ∃ F : FnD, F = fnSem 7 [false, false, false, false] b_proved_by := ⟨_, rfl⟩
def D_proved_by : FnD := O_proved_by.choose
theorem D_proved_by_eq : D_proved_by = fnSem 7 [false, false, false, false] b_proved_by := O_proved_by.choose_spec
abbrev N_is_proof : List Str := ["roads", "one", "other", "value", "least"]
theorem sc_is_proof : FnScope N_is_proof ["roads", "one", "other", "value"] (defScope s_is_proof) := ⟨rfl, rfl, rfl, by decide +kernel, rfl, by decide +kernel, by decide +kernel⟩
def b_is_proof : DS := dSeq (dExpr (dFz (dCall D_check_way [false, false, false] (rVal (dOf (dVar 0)) (rVal (dOf (dVar 1)) (rVal (dOf (dVar 2)) rNil))))))
  (dSeq (dSet 4 (dFz (dCall D_length_of [false, false, false] (rVal (dOf (dVar 0)) (rVal (dOf (dVar 1)) (rVal (dOf (dVar 2)) rNil))))))
  (dSeq (dIfS (dtOr (dtNot (tru (dFz (dCall D_are_counts [false, false] (rVal (dOf (dVar 3)) (rVal (dOf (dBin gIx (dVar 0) (dC (.int 0)))) rNil)))))) (dtOr (tst (dOf (dBin gGt (dUn gMaxS (dVar 3)) (dVar 4)))) (tst (dOf (dBin gNe (dBin gIx (dVar 3) (dVar 1)) (dC (.int 0)))))))
  (dRet (dUp (dOf (dC (.bool false)))))
  (dNext))
  (dRet (dUp (dBinEP gEq (dFz (dCall D_proved_by [false, false, false, false] (rVal (dOf (dVar 0)) (rVal (dOf (dVar 1)) (rVal (dOf (dVar 2)) (rVal (dOf (dVar 3)) rNil)))))) (dVar 4))))))
theorem O_is_proof : ∃ F : FnD, F = fnSem 5 [false, false, false, false] b_is_proof := ⟨_, rfl⟩
def D_is_proof : FnD := O_is_proof.choose
theorem D_is_proof_eq : D_is_proof = fnSem 5 [false, false, false, false] b_is_proof := O_is_proof.choose_spec
abbrev N__law_taken : List Str := ["roads", "one", "other", "value", "named"]
theorem sc__law_taken : FnScope N__law_taken ["roads", "one", "other", "value", "named"] (defScope s__law_taken) := ⟨rfl, rfl, rfl, by decide +kernel, rfl, by decide +kernel, by decide +kernel⟩
def b__law_taken : DS := dRet (dIf (truP (dVar 4)) (dCall D_is_proof [false, false, false, false] (rPerm [3, 2, 1, 0] (rVal (dOf (dVar 3)) (rVal (dOf (dVar 2)) (rVal (dOf (dVar 1)) (rVal (dOf (dVar 0)) rNil)))))) (dCall D_is_proof [false, false, false, false] (rVal (dOf (dVar 0)) (rVal (dOf (dVar 1)) (rVal (dOf (dVar 2)) (rVal (dOf (dVar 3)) rNil))))))
theorem O__law_taken : ∃ F : FnD, F = fnSem 5 [false, false, false, false, false] b__law_taken := ⟨_, rfl⟩
def D__law_taken : FnD := O__law_taken.choose
theorem D__law_taken_eq : D__law_taken = fnSem 5 [false, false, false, false, false] b__law_taken := O__law_taken.choose_spec
abbrev N_check_ends : List Str := ["roads", "one", "other"]
theorem sc_check_ends : FnScope N_check_ends ["roads", "one", "other"] (defScope s_check_ends) := ⟨rfl, rfl, rfl, by decide +kernel, rfl, by decide +kernel, by decide +kernel⟩
def b_check_ends : DS := dSeq (dExpr (dFz (dCall D_check_map [false] (rVal (dOf (dVar 0)) rNil))))
  (dSeq (dExpr (dFz (dCall D_check_place [false, false] (rVal (dOf (dVar 0)) (rVal (dOf (dVar 1)) rNil)))))
  (dExpr (dFz (dCall D_check_place [false, false] (rVal (dOf (dVar 0)) (rVal (dOf (dVar 2)) rNil))))))
theorem O_check_ends : ∃ F : FnD, F = fnSem 3 [false, false, false] b_check_ends := ⟨_, rfl⟩
def D_check_ends : FnD := O_check_ends.choose
theorem D_check_ends_eq : D_check_ends = fnSem 3 [false, false, false] b_check_ends := O_check_ends.choose_spec
abbrev N_are_integers : List Str := ["value", "many", "item"]
theorem sc_are_integers : FnScope N_are_integers ["value", "many"] (defScope s_are_integers) := ⟨rfl, rfl, rfl, by decide +kernel, rfl, by decide +kernel, by decide +kernel⟩
def b_are_integers : DS := dRet (dUp (dAnd (dFz (dCall D_is_tuple [false, false] (rVal (dOf (dVar 0)) (rVal (dOf (dVar 1)) rNil)))) (dUnE gAll (dFz (dLc (iSeq (dOf (dVar 0))) [2] (gNm 2) (dtYes) (dFz (dCall D_is_integer [false] (rVal (dOf (dVar 2)) rNil))))))))
theorem O_are_integers : ∃ F : FnD, F = fnSem 3 [false, false] b_are_integers := ⟨_, rfl⟩
def D_are_integers : FnD := O_are_integers.choose
theorem D_are_integers_eq : D_are_integers = fnSem 3 [false, false] b_are_integers := O_are_integers.choose_spec
abbrev N_proved : List Str := ["roads", "one", "other", "heights"]
theorem sc_proved : FnScope N_proved ["roads", "one", "other", "heights"] (defScope s_proved) := ⟨rfl, rfl, rfl, by decide +kernel, rfl, by decide +kernel, by decide +kernel⟩
def b_proved : DS := dSeq (dExpr (dFz (dCall D_check_ends [false, false, false] (rVal (dOf (dVar 0)) (rVal (dOf (dVar 1)) (rVal (dOf (dVar 2)) rNil))))))
  (dSeq (dIfS (dtNot (tru (dFz (dCall D_are_integers [false, false] (rVal (dOf (dVar 3)) (rVal (dOf (dBin gIx (dVar 0) (dC (.int 0)))) rNil))))))
  (dNever)
  (dNext))
  (dRet (dCall D_proved_by [false, false, false, false] (rVal (dOf (dVar 0)) (rVal (dOf (dVar 1)) (rVal (dOf (dVar 2)) (rVal (dOf (dVar 3)) rNil)))))))
theorem O_proved : ∃ F : FnD, F = fnSem 4 [false, false, false, false] b_proved := ⟨_, rfl⟩
def D_proved : FnD := O_proved.choose
theorem D_proved_eq : D_proved = fnSem 4 [false, false, false, false] b_proved := O_proved.choose_spec
abbrev N__law_scaled : List Str := ["roads", "by", "a", "b", "length"]
theorem sc__law_scaled : FnScope N__law_scaled ["roads", "by"] (defScope s__law_scaled) := ⟨rfl, rfl, rfl, by decide +kernel, rfl, by decide +kernel, by decide +kernel⟩
def b__law_scaled : DS := dRet (dUp (dTup (dCons (dOf (dBin gIx (dVar 0) (dC (.int 0)))) (dCons (dUnE gTuple (dUnE gSort (dFz (dLc (iSeq (dOf (dBin gIx (dVar 0) (dC (.int 1))))) [2, 3, 4] (gTp 3 (gsCons (gNm 2) (gsCons (gNm 3) (gsCons (gNm 4) gsNil)))) (dtYes) (dOf (dTupP (pCons (dVar 2) (pCons (dVar 3) (pCons (dBin gTimes (dVar 4) (dVar 1)) pNil))))))))) dNil))))
theorem O__law_scaled : ∃ F : FnD, F = fnSem 5 [false, false] b__law_scaled := ⟨_, rfl⟩
def D__law_scaled : FnD := O__law_scaled.choose
theorem D__law_scaled_eq : D__law_scaled = fnSem 5 [false, false] b__law_scaled := O__law_scaled.choose_spec
abbrev N__law_tight : List Str := ["roads", "one", "other", "first", "last", "least", "k"]
theorem sc__law_tight : FnScope N__law_tight ["roads", "one", "other"] (defScope s__law_tight) := ⟨rfl, rfl, rfl, by decide +kernel, rfl, by decide +kernel, by decide +kernel⟩
def b__law_tight : DS := dSeq (dPar2 3 4 (xCons (dUp (dFz (dCall D__law_far [false, false] (rVal (dOf (dVar 0)) (rVal (dOf (dVar 1)) rNil))))) (xCons (dUp (dFz (dCall D__law_far [false, false] (rVal (dFz (dCall D__law_back [false] (rVal (dOf (dVar 0)) rNil))) (rVal (dOf (dVar 2)) rNil))))) xNil)))
  (dSeq (dSet 5 (dOf (dBin gIx (dVar 3) (dVar 2))))
  (dRet (dLc (iRg1 (dCons (dOf (dUn gLen (dBin gIx (dVar 0) (dC (.int 1))))) dNil)) [6] (gNm 6) (dtAnd (tst (dOf (dBin gIsNot (dBin gIx (dVar 3) (dBin gIx (dBin gIx (dBin gIx (dVar 0) (dC (.int 1))) (dVar 6)) (dC (.int 0)))) (dC .none)))) (dtAnd (tst (dOf (dBin gIsNot (dBin gIx (dVar 4) (dBin gIx (dBin gIx (dBin gIx (dVar 0) (dC (.int 1))) (dVar 6)) (dC (.int 1)))) (dC .none)))) (tst (dOf (dBin gEq (dBin gAdd (dBin gAdd (dBin gIx (dVar 3) (dBin gIx (dBin gIx (dBin gIx (dVar 0) (dC (.int 1))) (dVar 6)) (dC (.int 0)))) (dBin gIx (dBin gIx (dBin gIx (dVar 0) (dC (.int 1))) (dVar 6)) (dC (.int 2)))) (dBin gIx (dVar 4) (dBin gIx (dBin gIx (dBin gIx (dVar 0) (dC (.int 1))) (dVar 6)) (dC (.int 1))))) (dVar 5)))))) (dOf (dVar 6)))))
theorem O__law_tight : ∃ F : FnD, F = fnSem 7 [false, false, false] b__law_tight := ⟨_, rfl⟩
def D__law_tight : FnD := O__law_tight.choose
theorem D__law_tight_eq : D__law_tight = fnSem 7 [false, false, false] b__law_tight := O__law_tight.choose_spec
abbrev N__law_pair_right : List Str := ["box", "roads", "one", "other", "named", "least", "low", "high", "rows", "columns", "some", "value", "at", "by", "near", "first", "second", "back", "told", "loose", "k", "less", "place", "row", "column", "turn", "a", "b", "x"]
theorem sc__law_pair_right : FnScope N__law_pair_right ["box", "roads", "one", "other", "named"] (defScope s__law_pair_right) := ⟨rfl, rfl, rfl, by decide +kernel, rfl, by decide +kernel, by decide +kernel⟩
def b__law_pair_right_1 : DS := dSeq (dIfS (dtOr (dtNot (tru (dFz (dCall D__law_is [false, false, false, false, false] (rVal (dOf (dVar 1)) (rVal (dOf (dVar 2)) (rVal (dOf (dVar 3)) (rVal (dOf (dVar 5)) (rVal (dOf (dVar 11)) rNil))))))))) (dtNot (tru (dCallB D__law_same [false, false] (rVal (dFz (dCall D__law_taken [false, false, false, false, false] (rVal (dOf (dVar 1)) (rVal (dOf (dVar 2)) (rVal (dOf (dVar 3)) (rVal (dOf (dVar 11)) (rVal (dOf (dVar 4)) rNil))))))) (rVal (dOf (dC (.bool true))) rNil))))))
  (dRet (dUp (dOf (dC (.bool false)))))
  (dNext))
  (dSeq (dPar2 12 13 (xCons (dUp (dFz (dCall D__law_take [true, false] (rRef 0 (rVal (dOf (dBin gIx (dVar 1) (dC (.int 0)))) rNil))))) (xCons (dUp (dFz (dCall D__law_pick [true, false] (rRef 0 (rVal (dOf (dLstP (pCons (dC (.int 1)) (pCons (dC (.int (-1))) (pCons (dC (.int 2)) pNil))))) rNil))))) xNil)))
  (dSeq (dSet 14 (dBinE gAdd (dBinEP gAdd (dSl (dOf (dVar 11)) (dNoPart) (dPart (dOf (dVar 12)))) (dTupP (pCons (dBin gAdd (dBin gIx (dVar 11) (dVar 12)) (dVar 13)) pNil))) (dSl (dOf (dVar 11)) (dPart (dOf (dBin gAdd (dVar 12) (dC (.int 1))))) (dNoPart))))
  (dSeq (dIfS (dtNot (tru (dCallB D__law_same [false, false] (rVal (dFz (dCall D__law_taken [false, false, false, false, false] (rVal (dOf (dVar 1)) (rVal (dOf (dVar 2)) (rVal (dOf (dVar 3)) (rVal (dOf (dVar 14)) (rVal (dNot (dOf (dVar 4))) rNil))))))) (rVal (dFz (dCall D__law_is [false, false, false, false, false] (rVal (dOf (dVar 1)) (rVal (dOf (dVar 2)) (rVal (dOf (dVar 3)) (rVal (dOf (dVar 5)) (rVal (dOf (dVar 14)) rNil))))))) rNil)))))
  (dRet (dUp (dOf (dC (.bool false)))))
  (dNext))
  (dSet 4 (dNot (dOf (dVar 4)))))))
def b__law_pair_right_2 : DS := dIfS (dtNot (tru (dCallB D__law_same [false, false] (rVal (dFz (dCall D__law_taken [false, false, false, false, false] (rVal (dOf (dVar 1)) (rVal (dOf (dVar 2)) (rVal (dOf (dVar 3)) (rVal (dOf (dVar 11)) (rVal (dOf (dVar 4)) rNil))))))) (rVal (dOf (dC (.bool true))) rNil)))))
  (dRet (dUp (dOf (dC (.bool false)))))
  (dNext)
def b__law_pair_right_3 : DS := dFor (iSeq (dTup (dCons (dUnE gTuple (dFz (dLc (iZipD (dCons (dOf (dVar 15)) (dCons (dOf (dVar 16)) dNil))) [26, 27] (gTp 2 (gsCons (gNm 26) (gsCons (gNm 27) gsNil))) (dtYes) (dFn gMin2 (dCons (dOf (dVar 26)) (dCons (dOf (dVar 27)) dNil)))))) (dCons (dUnE gTuple (dFz (dLc (iZipD (dCons (dOf (dVar 15)) (dCons (dOf (dVar 16)) dNil))) [26, 27] (gTp 2 (gsCons (gNm 26) (gsCons (gNm 27) gsNil))) (dtYes) (dFn gMax2 (dCons (dOf (dVar 26)) (dCons (dOf (dVar 27)) dNil)))))) dNil)))) (gNm 11) b__law_pair_right_2
def b__law_pair_right_4 : DS := dSeq (dSet 18 (dLst (dCons (dFz (dCall D__law_taken [false, false, false, false, false] (rVal (dOf (dVar 17)) (rVal (dOf (dVar 3)) (rVal (dOf (dVar 2)) (rVal (dUnE gTuple (dFz (dLc (iSeq (dOf (dVar 11))) [28] (gNm 28) (dtYes) (dOf (dBin gMinus (dVar 5) (dVar 28)))))) (rVal (dOf (dVar 4)) rNil))))))) (dCons (dFz (dCall D__law_taken [false, false, false, false, false] (rVal (dFz (dCall D__law_scaled [false, false] (rVal (dOf (dVar 1)) (rVal (dOf (dVar 13)) rNil)))) (rVal (dOf (dVar 2)) (rVal (dOf (dVar 3)) (rVal (dUnE gTuple (dFz (dLc (iSeq (dOf (dVar 11))) [28] (gNm 28) (dtYes) (dOf (dBin gTimes (dVar 28) (dVar 13)))))) (rVal (dNot (dOf (dVar 4))) rNil))))))) dNil))))
  (dIfS (dtNot (tru (dCallB D__law_same [false, false] (rVal (dOf (dVar 18)) (rVal (dOf (dLstP (pCons (dC (.bool true)) (pCons (dC (.bool true)) pNil)))) rNil)))))
  (dRet (dUp (dOf (dC (.bool false)))))
  (dNext))
def b__law_pair_right : DS := dSeq (dSet 5 (dBinE gIx (dFz (dCall D__law_far [false, false] (rVal (dOf (dVar 1)) (rVal (dOf (dVar 2)) rNil)))) (dOf (dVar 3))))
  (dSeq (dAsg (gTp 2 (gsCons (gNm 6) (gsCons (gNm 7) gsNil))) (dFz (dCall D__law_ends [false, false, false, false] (rVal (dOf (dVar 1)) (rVal (dOf (dVar 2)) (rVal (dOf (dVar 3)) (rVal (dOf (dVar 5)) rNil)))))))
  (dSeq (dIfS (dtNot (tru (dCallB D__law_same [false, false] (rVal (dFz (dCall D__law_told [false, false, false, false] (rVal (dOf (dVar 1)) (rVal (dOf (dVar 2)) (rVal (dOf (dVar 3)) (rVal (dOf (dVar 4)) rNil)))))) (rVal (dOf (dLstP (pCons (dVar 6) (pCons (dVar 7) pNil)))) rNil)))))
  (dRet (dUp (dOf (dC (.bool false)))))
  (dNext))
  (dSeq (dSet 8 (dIf (dtAnd (tst (dOf (dBin gLt' (dVar 5) (dC (.int 9))))) (tst (dOf (dBin gLt' (dBin gIx (dVar 1) (dC (.int 0))) (dC (.int 6)))))) (dFz (dCall D__law_all [false, false, false, false] (rVal (dOf (dVar 1)) (rVal (dOf (dVar 2)) (rVal (dOf (dVar 3)) (rVal (dOf (dVar 5)) rNil)))))) (dOf (dC .none))))
  (dSeq (dIfS (tst (dOf (dBin gIsNot (dVar 8) (dC .none))))
  (dSeq (dSetO 9 (dLc (iRg1 (dCons (dOf (dBin gIx (dVar 1) (dC (.int 0)))) dNil)) [22] (gNm 22) (dtYes) (dFz (dLc (iSeq (dOf (dVar 8))) [23] (gNm 23) (dtYes) (dOf (dBin gIx (dVar 23) (dVar 22)))))))
  (dIfS (dtOr (tst (dBinEP gNe (dUnE gTuple (dFz (dBor (dLc (iSeq (dFrzV 9)) [24] (gNm 24) (dtYes) (dOf (dUn gMinL (dVar 24))))))) (dVar 6))) (tst (dBinEP gNe (dUnE gTuple (dFz (dBor (dLc (iSeq (dFrzV 9)) [24] (gNm 24) (dtYes) (dOf (dUn gMaxS (dVar 24))))))) (dVar 7))))
  (dRet (dUp (dOf (dC (.bool false)))))
  (dNext)))
  (dNext))
  (dSeq (dSet 8 (dIf (tst (dOf (dBin gIsNot (dVar 8) (dC .none)))) (dOf (dVar 8)) (dBinEP gAdd (dFz (dLc (iRg1 (dCons (dOf (dC (.int 4))) dNil)) [25] (gNm 25) (dtYes) (dFz (dCall D__law_drawn_proof [true, false, false, false, false] (rRef 0 (rVal (dOf (dVar 1)) (rVal (dOf (dVar 2)) (rVal (dOf (dVar 3)) (rVal (dOf (dVar 5)) rNil))))))))) (dLstP (pCons (dVar 6) (pCons (dVar 7) pNil))))))
  (dSeq (dSet 10 (dSl (dFz (dCall D__law_mixed [true, false] (rRef 0 (rVal (dOf (dVar 8)) rNil)))) (dNoPart) (dPart (dOf (dC (.int 6))))))
  (dSeq (dFor (iSeq (dOf (dVar 10))) (gNm 11) b__law_pair_right_1)
  (dSeq (dFor (iZipD (dCons (dOf (dVar 10)) (dCons (dSl (dOf (dVar 10)) (dPart (dOf (dC (.int 1)))) (dNoPart)) dNil))) (gTp 2 (gsCons (gNm 15) (gsCons (gNm 16) gsNil))) b__law_pair_right_3)
  (dSeq (dIfS (dtAnd (tst (dOf (dBin gIsNot (dBin gIx (dVar 8) (dC (.int 0))) (dC .none)))) (dtAnd (tst (dOf (dBin gGt (dVar 5) (dC (.int 0))))) (tst (dBinEP gNe (dFz (dLc (iSeq (dOf (dVar 10))) [11] (gNm 11) (dtNot (tru (dCallB D__law_same [false, false] (rVal (dFz (dCall D_proved [false, false, false, false] (rVal (dOf (dVar 1)) (rVal (dOf (dVar 2)) (rVal (dOf (dVar 3)) (rVal (dOf (dVar 11)) rNil)))))) (rVal (dOf (dVar 5)) rNil))))) (dOf (dC (.int 1))))) (dLstP (pNil))))))
  (dRet (dUp (dOf (dC (.bool false)))))
  (dNext))
  (dSeq (dSet 17 (dFz (dCall D__law_back [false] (rVal (dOf (dVar 1)) rNil))))
  (dSeq (dIfS (dtNot (tru (dCallB D__law_same [false, false] (rVal (dFz (dCall D__law_told [false, false, false, false] (rVal (dOf (dVar 17)) (rVal (dOf (dVar 3)) (rVal (dOf (dVar 2)) (rVal (dNot (dOf (dVar 4))) rNil)))))) (rVal (dLst (dCons (dUnE gTuple (dFz (dLc (iSeq (dOf (dVar 7))) [28] (gNm 28) (dtYes) (dOf (dBin gMinus (dVar 5) (dVar 28)))))) (dCons (dUnE gTuple (dFz (dLc (iSeq (dOf (dVar 6))) [28] (gNm 28) (dtYes) (dOf (dBin gMinus (dVar 5) (dVar 28)))))) dNil))) rNil)))))
  (dRet (dUp (dOf (dC (.bool false)))))
  (dNext))
  (dSeq (dSet 13 (dFz (dCall D__law_pick [true, false] (rRef 0 (rVal (dOf (dLstP (pCons (dC (.int 3)) (pCons (dBin gPowW (dBin gPow (dC (.int 10)) (dC (.int 50))) (dC (.int 2))) pNil)))) rNil)))))
  (dSeq (dIfS (dtNot (tru (dCallB D__law_same [false, false] (rVal (dFz (dCall D__law_told [false, false, false, false] (rVal (dFz (dCall D__law_scaled [false, false] (rVal (dOf (dVar 1)) (rVal (dOf (dVar 13)) rNil)))) (rVal (dOf (dVar 2)) (rVal (dOf (dVar 3)) (rVal (dOf (dVar 4)) rNil)))))) (rVal (dLst (dCons (dUnE gTuple (dFz (dLc (iSeq (dOf (dVar 6))) [28] (gNm 28) (dtYes) (dOf (dBin gTimes (dVar 28) (dVar 13)))))) (dCons (dUnE gTuple (dFz (dLc (iSeq (dOf (dVar 7))) [28] (gNm 28) (dtYes) (dOf (dBin gTimes (dVar 28) (dVar 13)))))) dNil))) rNil)))))
  (dRet (dUp (dOf (dC (.bool false)))))
  (dNext))
  (dSeq (dFor (iSeq (dSl (dOf (dVar 10)) (dNoPart) (dPart (dOf (dC (.int 3)))))) (gNm 11) b__law_pair_right_4)
  (dSeq (dSetO 19 (dLc (iRg1 (dCons (dOf (dUn gLen (dBin gIx (dVar 1) (dC (.int 1))))) dNil)) [20] (gNm 20) (tst (dBinE gNotIn (dOf (dVar 20)) (dFz (dCall D__law_tight [false, false, false] (rVal (dOf (dVar 1)) (rVal (dOf (dVar 2)) (rVal (dOf (dVar 3)) rNil))))))) (dOf (dVar 20))))
  (dSeq (dIfS (tst (dOf (dBin gNe (dVar 19) (dLstP (pNil)))))
  (dSeq (dSet 20 (dFz (dCall D__law_pick [true, false] (rRef 0 (rVal (dFrzV 19) rNil)))))
  (dSeq (dSet 21 (dTup (dCons (dOf (dBin gIx (dVar 1) (dC (.int 0)))) (dCons (dBinE gAdd (dSl (dOf (dBin gIx (dVar 1) (dC (.int 1)))) (dNoPart) (dPart (dOf (dVar 20)))) (dSl (dOf (dBin gIx (dVar 1) (dC (.int 1)))) (dPart (dOf (dBin gAdd (dVar 20) (dC (.int 1))))) (dNoPart))) dNil))))
  (dSeq (dSet 18 (dFz (dCall D__law_told [false, false, false, false] (rVal (dOf (dVar 21)) (rVal (dOf (dVar 2)) (rVal (dOf (dVar 3)) (rVal (dOf (dVar 4)) rNil)))))))
  (dSeq (dIfS (dtOr (dtNot (tru (dCallB D__law_same [false, false] (rVal (dOf (dVar 18)) (rVal (dUnE gList (dFz (dCall D__law_ends [false, false, false, false] (rVal (dOf (dVar 21)) (rVal (dOf (dVar 2)) (rVal (dOf (dVar 3)) (rVal (dOf (dVar 5)) rNil))))))) rNil))))) (dtOr (tst (dBinEP gNe (dFz (dLc (iZipD (dCons (dOf (dBin gIx (dVar 18) (dC (.int 0)))) (dCons (dOf (dVar 6)) dNil))) [26, 27] (gTp 2 (gsCons (gNm 26) (gsCons (gNm 27) gsNil))) (tst (dOf (dBin gGt (dVar 26) (dVar 27)))) (dOf (dC (.int 1))))) (dLstP (pNil)))) (tst (dBinEP gNe (dFz (dLc (iZipD (dCons (dOf (dBin gIx (dVar 18) (dC (.int 1)))) (dCons (dOf (dVar 7)) dNil))) [26, 27] (gTp 2 (gsCons (gNm 26) (gsCons (gNm 27) gsNil))) (tst (dOf (dBin gLt' (dVar 26) (dVar 27)))) (dOf (dC (.int 1))))) (dLstP (pNil))))))
  (dRet (dUp (dOf (dC (.bool false)))))
  (dNext))
  (dRet (dUp (dCallB D__law_same [false, false] (rVal (dFz (dLc (iSeq (dOf (dVar 10))) [11] (gNm 11) (dtYes) (dFz (dCall D__law_taken [false, false, false, false, false] (rVal (dOf (dVar 21)) (rVal (dOf (dVar 2)) (rVal (dOf (dVar 3)) (rVal (dOf (dVar 11)) (rVal (dOf (dVar 4)) rNil))))))))) (rVal (dOf (dBin gTimes (dLstP (pCons (dC (.bool true)) pNil)) (dUn gLen (dVar 10)))) rNil)))))))))
  (dNext))
  (dRet (dUp (dOf (dC (.bool true)))))))))))))))))))))
theorem O__law_pair_right : ∃ F : FnD, F = fnSem 29 [true, false, false, false, false] b__law_pair_right := ⟨_, rfl⟩
def D__law_pair_right : FnD := O__law_pair_right.choose
theorem D__law_pair_right_eq : D__law_pair_right = fnSem 29 [true, false, false, false, false] b__law_pair_right := O__law_pair_right.choose_spec
abbrev N__law_row_right_rvvv : List Str := ["box", "first", "second", "named", "one", "middle", "leasts", "ties", "roads", "ends", "left", "right", "value", "a", "b", "length", "x"]
theorem sc__law_row_right_rvvv : FnScope N__law_row_right_rvvv ["box", "first", "second", "named"] (defScope s__law_row_right) := ⟨rfl, rfl, rfl, by decide +kernel, rfl, by decide +kernel, by decide +kernel⟩
def b__law_row_right_rvvv_1 : DS := dSeq (dSet 12 (dBinE gAdd (dOf (dVar 10)) (dUnE gTuple (dFz (dLc (iSeq (dSl (dOf (dVar 11)) (dPart (dOf (dC (.int 1)))) (dNoPart))) [16] (gNm 16) (dtYes) (dOf (dBin gAdd (dVar 16) (dBin gIx (dVar 6) (dC (.int 0))))))))))
  (dSeq (dIfS (dtOr (dtNot (tru (dFz (dCall D__law_is [false, false, false, false, false] (rVal (dOf (dVar 8)) (rVal (dOf (dVar 4)) (rVal (dOf (dBin gMinus (dBin gIx (dVar 8) (dC (.int 0))) (dC (.int 1)))) (rVal (dOf (dUn gSum (dVar 6))) (rVal (dOf (dVar 12)) rNil))))))))) (dtNot (tru (dCallB D__law_same [false, false] (rVal (dFz (dCall D__law_taken [false, false, false, false, false] (rVal (dOf (dVar 8)) (rVal (dOf (dVar 4)) (rVal (dOf (dBin gMinus (dBin gIx (dVar 8) (dC (.int 0))) (dC (.int 1)))) (rVal (dOf (dVar 12)) (rVal (dOf (dVar 3)) rNil))))))) (rVal (dOf (dC (.bool true))) rNil))))))
  (dRet (dUp (dOf (dC (.bool false)))))
  (dNext))
  (dSet 3 (dNot (dOf (dVar 3)))))
def b__law_row_right_rvvv_2 : DS := dFor (iSeq (dOf (dBin gIx (dVar 9) (dC (.int 1))))) (gNm 11) b__law_row_right_rvvv_1
def b__law_row_right_rvvv : DS := dSeq (dPar2 4 5 (xCons (dUp (dOf (dC (.int 0)))) (xCons (dUp (dOf (dBin gMinus (dBin gIx (dVar 1) (dC (.int 0))) (dC (.int 1))))) xNil)))
  (dSeq (dSet 6 (dLst (dCons (dBinE gIx (dFz (dCall D__law_far [false, false] (rVal (dOf (dVar 1)) (rVal (dOf (dC (.int 0))) rNil)))) (dOf (dVar 5))) (dCons (dBinE gIx (dFz (dCall D__law_far [false, false] (rVal (dOf (dVar 2)) (rVal (dOf (dC (.int 0))) rNil)))) (dOf (dBin gMinus (dBin gIx (dVar 2) (dC (.int 0))) (dC (.int 1))))) dNil))))
  (dSeq (dIfS (tst (dOf (dBin gIn (dC .none) (dVar 6))))
  (dRet (dUp (dOf (dC (.bool true)))))
  (dNext))
  (dSeq (dSet 7 (dBinE gAdd (dUnE gList (dOf (dBin gIx (dVar 1) (dC (.int 1))))) (dFz (dLc (iSeq (dOf (dBin gIx (dVar 2) (dC (.int 1))))) [13, 14, 15] (gTp 3 (gsCons (gNm 13) (gsCons (gNm 14) (gsCons (gNm 15) gsNil)))) (dtYes) (dOf (dTupP (pCons (dBin gAdd (dVar 13) (dVar 5)) (pCons (dBin gAdd (dVar 14) (dVar 5)) (pCons (dVar 15) pNil)))))))))
  (dSeq (dSet 8 (dTup (dCons (dOf (dBin gMinus (dBin gAdd (dBin gIx (dVar 1) (dC (.int 0))) (dBin gIx (dVar 2) (dC (.int 0)))) (dC (.int 1)))) (dCons (dUnE gTuple (dUnE gSort (dOf (dVar 7)))) dNil))))
  (dSeq (dSet 9 (dLst (dCons (dFz (dCall D__law_ends [false, false, false, false] (rVal (dOf (dVar 1)) (rVal (dOf (dC (.int 0))) (rVal (dOf (dVar 5)) (rVal (dOf (dBin gIx (dVar 6) (dC (.int 0)))) rNil)))))) (dCons (dFz (dCall D__law_ends [false, false, false, false] (rVal (dOf (dVar 2)) (rVal (dOf (dC (.int 0))) (rVal (dOf (dBin gMinus (dBin gIx (dVar 2) (dC (.int 0))) (dC (.int 1)))) (rVal (dOf (dBin gIx (dVar 6) (dC (.int 1)))) rNil)))))) dNil))))
  (dSeq (dFor (iSeq (dOf (dBin gIx (dVar 9) (dC (.int 0))))) (gNm 10) b__law_row_right_rvvv_2)
  (dRet (dUp (dOf (dC (.bool true)))))))))))
theorem O__law_row_right_rvvv : ∃ F : FnD, F = fnSem 17 [true, false, false, false] b__law_row_right_rvvv := ⟨_, rfl⟩
def D__law_row_right_rvvv : FnD := O__law_row_right_rvvv.choose
theorem D__law_row_right_rvvv_eq : D__law_row_right_rvvv = fnSem 17 [true, false, false, false] b__law_row_right_rvvv := O__law_row_right_rvvv.choose_spec
abbrev N_law : List Str := ["script", "k", "box", "named", "maps", "roads", "pairs", "one", "far", "other", "turn"]
theorem sc_law : FnScope N_law ["script"] (defScope s_law) := ⟨rfl, rfl, rfl, by decide +kernel, rfl, by decide +kernel, by decide +kernel⟩
def b_law_1 : DS := dSeq (dSet 8 (dFz (dCall D__law_far [false, false] (rVal (dOf (dVar 5)) (rVal (dOf (dVar 7)) rNil)))))
  (dExpr (dMeth 6 mExtend (dCons (dFz (dLc (iRg1 (dCons (dOf (dBin gIx (dVar 5) (dC (.int 0)))) dNil)) [9] (gNm 9) (dtAnd (tst (dOf (dBin gNe (dVar 9) (dVar 7)))) (tst (dOf (dBin gIsNot (dBin gIx (dVar 8) (dVar 9)) (dC .none))))) (dOf (dTupP (pCons (dVar 7) (pCons (dVar 9) pNil)))))) dNil)))
def b_law_2 : DS := dSeq (dIfS (dtNot (tru (dFz (dCall D__law_pair_right [true, false, false, false, false] (rRef 2 (rVal (dOf (dVar 5)) (rVal (dOf (dVar 7)) (rVal (dOf (dVar 9)) (rVal (dOf (dVar 3)) rNil)))))))))
  (dRet (dUp (dOf (dC (.bool false)))))
  (dNext))
  (dSet 3 (dNot (dOf (dVar 3))))
def b_law_3 : DS := dSeq (dSetO 6 (dLstO (dNil)))
  (dSeq (dFor (iRg1 (dCons (dOf (dBin gIx (dVar 5) (dC (.int 0)))) dNil)) (gNm 7) b_law_1)
  (dFor (iSeq (dSl (dFz (dCall D__law_mixed_rr [true, true] (rRef 2 (rRef 6 rNil)))) (dNoPart) (dPart (dOf (dC (.int 3)))))) (gTp 2 (gsCons (gNm 7) (gsCons (gNm 9) gsNil))) b_law_2))
def b_law_4 : DS := dSeq (dSetO 2 (dCall D__law_box [false] (rVal (dFz (dCall D__law_cell [false, false] (rVal (dOf (dVar 0)) (rVal (dOf (dVar 1)) rNil)))) rNil)))
  (dSeq (dPar2 3 4 (xCons (dUp (dBinEP gEq (dFz (dCall D__law_take [true, false] (rRef 2 (rVal (dOf (dC (.int 2))) rNil)))) (dC (.int 0)))) (xCons (dUp (dFz (dLc (iRg1 (dCons (dOf (dC (.int 2))) dNil)) [10] (gNm 10) (dtYes) (dFz (dCall D__law_drawn_map [true, false, false] (rRef 2 (rVal (dOf (dC (.int 6))) (rVal (dBinE gAdd (dOf (dC (.int 3))) (dFz (dCall D__law_take [true, false] (rRef 2 (rVal (dOf (dC (.int 7))) rNil))))) rNil)))))))) xNil)))
  (dSeq (dFor (iSeq (dOf (dVar 4))) (gNm 5) b_law_3)
  (dIfS (dtNot (tru (dFz (dCall D__law_row_right_rvvv [true, false, false, false] (rRef 2 (rVal (dOf (dBin gIx (dVar 4) (dC (.int 0)))) (rVal (dOf (dBin gIx (dVar 4) (dC (.int 1)))) (rVal (dOf (dVar 3)) rNil))))))))
  (dRet (dUp (dOf (dC (.bool false)))))
  (dNext))))
def b_law : DS := dSeq (dFor (iRg1 (dCons (dFn gMax2 (dCons (dOf (dC (.int 2))) (dCons (dFn gMin2 (dCons (dOf (dC (.int 3))) (dCons (dOf (dUn gLen (dVar 0))) dNil))) dNil))) dNil)) (gNm 1) b_law_4)
  (dRet (dUp (dOf (dC (.bool true)))))
theorem O_law : ∃ F : FnD, F = fnSem 11 [false] b_law := ⟨_, rfl⟩
def D_law : FnD := O_law.choose
theorem D_law_eq : D_law = fnSem 11 [false] b_law := O_law.choose_spec
section
variable {P : Program} {w : World} {K : Fr} {mg : Str → Option Value} {base : Heap}
theorem ok__law_box (T : Fx K mg)  : Df P w K mg base 1 "_law_box" s__law_box ["great"] D__law_box [false] := by
  rw [D__law_box_eq]; exact (
  Df.mk' (N := N__law_box) T.d__law_box sc__law_box rfl fun f cdv A outer s H E hr => qss_one (qs_ret (qo_lst (qa_cons (qe_p (qp_callB call_abs u_abs T.f_abs boot_abs (qp_var 0))) (qa_cons (qe_p (qp_cmp op_ge (OpN.g n_ge) (qp_callB call_abs u_abs T.f_abs boot_abs (qp_var 0)) (qp_bin op_pow (OpN.g n_pow) (qp_int) (qp_int)))) (qa_cons (qe_p (qp_bin op_mod (OpN.g n_mod) (qp_callT call_int1 u_int T.f_int boot_int (qp_callB call_abs u_abs T.f_abs boot_abs (qp_var 0))) (qp_int))) (qa_cons (qe_p (qp_int)) qa_nil)))))))
theorem ok__law_cell (T : Fx K mg)  : Df P w K mg base 1 "_law_cell" s__law_cell ["script", "k"] D__law_cell [false, false] := by
  rw [D__law_cell_eq]; exact (
  Df.mk' (N := N__law_cell) T.d__law_cell sc__law_cell rfl fun f cdv A outer s H E hr => qss_one (qs_ret (qo_if (qt_cmp (o_lt' hr.units0) (OpN.g n_lt') (qp_var 1) (qp_callB call_len u_len T.f_len boot_len (qp_var 0))) (qo_e (qe_p (qp_ix o_ix opg_ix (qp_var 0) (qp_var 1)))) (qo_e (qe_bin o_add (OpN.g n_add) (qe_p (qp_bin o_times (OpN.g n_times) (qp_int) (qp_var 1))) (qe_binEP op_mod (OpN.g n_mod) (qe_callT call_int1 u_int T.f_int boot_int (qe_callB (cr_sum rfl) u_sum T.f_sum boot_sum (qe_sl (qe_p (qp_var 0)) (qo_none) (qo_some (qe_p (qp_int)))))) (qp_int)))))))
theorem ok__law_take (T : Fx K mg)  : Df P w K mg base 1 "_law_take" s__law_take ["box", "many"] D__law_take [true, false] := by
  rw [D__law_take_eq]; exact (
  Df.mk' (N := N__law_take) T.d__law_take sc__law_take rfl fun f cdv A outer s H E hr => qss_cons (qs_if (PW.pt (qw_and (qt_truP (qp_ix o_ix opg_ix (qp_var 0) (qp_int))) (qw_and1 (qt_cmp op_gt (OpN.g n_gt) (qp_ix o_ix opg_ix (qp_var 0) (qp_int)) (qp_int)))))
  (qss_cons (qs_set 2 sc__law_take.nd (qe_p (qp_bin op_mod (OpN.g n_mod) (qp_callT call_int1 u_int T.f_int boot_int (qp_ix o_ix opg_ix (qp_var 0) (qp_int))) (qp_var 1))))
  (qss_cons (qs_stIx 0 (qe_p (qp_int)) (qe_p (qp_bin op_fdivW (OpN.g n_div) (qp_ix o_ix opg_ix (qp_var 0) (qp_int)) (qp_var 1))))
  (qss_one (qs_ret (qo_e (qe_p (qp_var 2)))))))
  (qss_nil))
  (qss_cons (qs_stIx 0 (qe_p (qp_int)) (qe_p (qp_bin o_add (OpN.g n_add) (qp_ix o_ix opg_ix (qp_var 0) (qp_int)) (qp_int))))
  (qss_cons (qs_set 3 sc__law_take.nd (qe_p (qp_bin op_mod (OpN.g n_mod) (qp_callT call_int1 u_int T.f_int boot_int (qp_bin op_pow (OpN.g n_pow) (qp_bin o_add (OpN.g n_add) (qp_bin o_add (OpN.g n_add) (qp_ix o_ix opg_ix (qp_var 0) (qp_int)) (qp_bin o_times (OpN.g n_times) (qp_int) (qp_ix o_ix opg_ix (qp_var 0) (qp_int)))) (qp_int)) (qp_int))) (qp_int))))
  (qss_one (qs_ret (qo_e (qe_p (qp_bin op_mod (OpN.g n_mod) (qp_callT call_int1 u_int T.f_int boot_int (qp_bin op_fdivW (OpN.g n_div) (qp_bin op_mod (OpN.g n_mod) (qp_callT call_int1 u_int T.f_int boot_int (qp_bin op_pow (OpN.g n_pow) (qp_bin o_add (OpN.g n_add) (qp_bin o_times (OpN.g n_times) (qp_var 3) (qp_int)) (qp_bin o_times (OpN.g n_times) (qp_int) (qp_ix o_ix opg_ix (qp_var 0) (qp_int)))) (qp_int))) (qp_int)) (qp_int))) (qp_var 1)))))))))
theorem ok__law_pick (T : Fx K mg) (c__law_take : Df P w K mg base 1 "_law_take" s__law_take ["box", "many"] D__law_take [true, false]) : Df P w K mg base 2 "_law_pick" s__law_pick ["box", "items"] D__law_pick [true, false] := by
  rw [D__law_pick_eq]; exact (
  Df.mk' (N := N__law_pick) T.d__law_pick sc__law_pick rfl fun f cdv A outer s H E hr => qss_one (qs_ret (qo_e (qe_ix o_ix opg_ix (qe_p (qp_var 1)) (qe_o (qo_c c__law_take bd__law_take hr (by decide) (qr_ref 0 (qr_val (qe_p (qp_callB call_len u_len T.f_len boot_len (qp_var 1))) qr_nil))))))))
theorem ok__law_drawn_map (T : Fx K mg) (c__law_take : Df P w K mg base 1 "_law_take" s__law_take ["box", "many"] D__law_take [true, false]) (c__law_pick : Df P w K mg base 2 "_law_pick" s__law_pick ["box", "items"] D__law_pick [true, false]) : Df P w K mg base 3 "_law_drawn_map" s__law_drawn_map ["box", "most", "count"] D__law_drawn_map [true, false, false] := by
  rw [D__law_drawn_map_eq]; exact (
  Df.mk' (N := N__law_drawn_map) T.d__law_drawn_map sc__law_drawn_map rfl fun f cdv A outer s H E hr => qss_cons (qs_set 3 sc__law_drawn_map.nd (qe_bin o_add (OpN.g n_add) (qe_p (qp_int)) (qe_o (qo_c c__law_take bd__law_take hr (by decide) (qr_ref 0 (qr_val (qe_p (qp_bin op_sub (OpN.g n_sub) (qp_var 1) (qp_int))) qr_nil))))))
  (qss_cons (qs_par2 4 5 rfl sc__law_drawn_map.nd (qx_cons (qo_lst (qa_nil)) (qx_cons (qo_e (qe_o (qo_c c__law_take bd__law_take hr (by decide) (qr_ref 0 (qr_val (qe_p (qp_int)) qr_nil))))) qx_nil)))
  (qss_cons (qs_for PassesOwn.never rfl (qi_rg1 T.f_range (qa_cons (qe_p (qp_var 2)) qa_nil)) (qg_name 6 sc__law_drawn_map.nd)
  (qss_cons (qs_set 7 sc__law_drawn_map.nd (qe_o (qo_c c__law_take bd__law_take hr (by decide) (qr_ref 0 (qr_val (qe_p (qp_var 3)) qr_nil)))))
  (qss_cons (qs_set 8 sc__law_drawn_map.nd (qe_binEP op_mod (OpN.g n_mod) (qe_callT call_int1 u_int T.f_int boot_int (qe_bin o_add (OpN.g n_add) (qe_p (qp_bin o_add (OpN.g n_add) (qp_var 7) (qp_int))) (qe_o (qo_c c__law_take bd__law_take hr (by decide) (qr_ref 0 (qr_val (qe_p (qp_bin op_sub (OpN.g n_sub) (qp_var 3) (qp_int))) qr_nil)))))) (qp_var 3)))
  (qss_cons (qs_if (PW.pt (qw_and (qt_cmp (o_lt' hr.units0) (OpN.g n_lt') (qp_var 5) (qp_int)) (qw_and (qt_cmp (o_lt' hr.units0) (OpN.g n_lt') (qp_var 8) (qp_var 7)) (qw_and1 (qt_cmpEP op_gt (OpN.g n_gt) (qe_o (qo_c c__law_take bd__law_take hr (by decide) (qr_ref 0 (qr_val (qe_p (qp_int)) qr_nil)))) (qp_int))))))
  (qss_one (qs_par2 7 8 rfl sc__law_drawn_map.nd (qx_cons (qo_e (qe_p (qp_var 8))) (qx_cons (qo_e (qe_p (qp_var 7))) qx_nil))))
  (qss_nil))
  (qss_cons (qs_set 9 sc__law_drawn_map.nd (qe_if (qt_cmp (op_neD hr.units) (OpN.g opn_ne) (qp_var 5) (qp_int)) (qe_o (qo_c c__law_pick bd__law_pick hr (by decide) (qr_ref 0 (qr_val (qe_lst (qa_cons (qe_p (qp_int)) (qa_cons (qe_p (qp_int)) (qa_cons (qe_p (qp_int)) (qa_cons (qe_p (qp_int)) (qa_cons (qe_p (qp_int)) (qa_cons (qe_bin o_add (OpN.g n_add) (qe_p (qp_int)) (qe_o (qo_c c__law_take bd__law_take hr (by decide) (qr_ref 0 (qr_val (qe_p (qp_int)) qr_nil))))) qa_nil))))))) qr_nil)))) (qe_p (qp_int))))
  (qss_cons (qs_expr (qe_meth 4 PySem.F.slot_list_append PySem.F.type_list_append mt_append m_append (qa_cons (qe_p (qp_tup (qpa_cons (qp_var 7) (qpa_cons (qp_var 8) (qpa_cons (qp_var 9) qpa_nil))))) qa_nil)))
  (qss_cons (qs_if (qt_cmpEP (op_eqD hr.units) (OpN.g opn_eq) (qe_o (qo_c c__law_take bd__law_take hr (by decide) (qr_ref 0 (qr_val (qe_p (qp_int)) qr_nil)))) (qp_int))
  (qss_one (qs_expr (qe_meth 4 PySem.F.slot_list_append PySem.F.type_list_append mt_append m_append (qa_cons (qe_tup (qa_cons (qe_p (qp_var 7)) (qa_cons (qe_p (qp_var 8)) (qa_cons (qe_bin o_add (OpN.g n_add) (qe_p (qp_var 9)) (qe_o (qo_c c__law_pick bd__law_pick hr (by decide) (qr_ref 0 (qr_val (qe_p (qp_lst (qpa_cons (qp_int) (qpa_cons (qp_int) (qpa_cons (qp_int) qpa_nil))))) qr_nil))))) qa_nil)))) qa_nil))))
  (qss_nil))
  (qss_one (qs_if (qt_cmpEP (op_eqD hr.units) (OpN.g opn_eq) (qe_o (qo_c c__law_take bd__law_take hr (by decide) (qr_ref 0 (qr_val (qe_p (qp_int)) qr_nil)))) (qp_int))
  (qss_one (qs_expr (qe_meth 4 PySem.F.slot_list_append PySem.F.type_list_append mt_append m_append (qa_cons (qe_tup (qa_cons (qe_p (qp_var 8)) (qa_cons (qe_p (qp_var 7)) (qa_cons (qe_o (qo_c c__law_pick bd__law_pick hr (by decide) (qr_ref 0 (qr_val (qe_p (qp_lst (qpa_cons (qp_int) (qpa_cons (qp_var 9) qpa_nil)))) qr_nil)))) qa_nil)))) qa_nil))))
  (qss_nil))))))))))
  (qss_one (qs_ret (qo_e (qe_tup (qa_cons (qe_p (qp_var 3)) (qa_cons (qe_callT call_tuple_of u_tuple T.f_tuple boot_tuple (qe_o (qo_callB o_sort u_sort T.f_sorted boot_sorted (qp_var 4)))) qa_nil)))))))))
theorem ok__law_far (T : Fx K mg)  : Df P w K mg base 1 "_law_far" s__law_far ["roads", "one"] D__law_far [false, false] := by
  rw [D__law_far_eq]; exact (
  Df.mk' (N := N__law_far) T.d__law_far sc__law_far rfl fun f cdv A outer s H E hr => qss_cons (qs_asg (qe_p (qp_var 0)) (qg_tup rfl (qgs_cons (qg_name 2 sc__law_far.nd) (qgs_cons (qg_name 3 sc__law_far.nd) qgs_nil))))
  (qss_cons (qs_setLc 4 [("place", 10)] rfl sc__law_far.nd (qi_rg1 T.f_range (qa_cons (qe_p (qp_var 2)) qa_nil)) (blkOk_by (N := N__law_far) (sc := defScope s__law_far) (by decide +kernel)) (fun _ _ _ _ _ => qg_name 10 sc__law_far.nd) (fun _ _ _ _ _ => qts_nil) (fun _ _ _ _ _ => qe_if (qt_cmp (op_eqD hr.units) (OpN.g opn_eq) (qp_var 10) (qp_var 1)) (qe_p (qp_int)) (qe_p (qp_non))))
  (qss_cons (qs_for PassesOwn.never rfl (qi_rg1 T.f_range (qa_cons (qe_p (qp_var 2)) qa_nil)) (qg_name 5 sc__law_far.nd)
  (qss_cons (qs_set 6 sc__law_far.nd (qe_o (qo_callT call_list_of u_list T.f_list boot_list (qp_var 4))))
  (qss_cons (qs_for PassesOwn.never rfl (qi_seq (qe_p (qp_var 3))) (qg_tup rfl (qgs_cons (qg_name 7 sc__law_far.nd) (qgs_cons (qg_name 8 sc__law_far.nd) (qgs_cons (qg_name 9 sc__law_far.nd) qgs_nil))))
  (qss_one (qs_if (PW.pt (qw_and (qt_cmp o_isnot (OpN.g n_isnot) (qp_ix o_ix opg_ix (qp_var 4) (qp_var 7)) (qp_non)) (qw_and1 (PW.pt (qw_or (qt_cmp o_is (OpN.g n_is) (qp_ix o_ix opg_ix (qp_var 4) (qp_var 8)) (qp_non)) (qw_or1 (qt_cmp (o_lt' hr.units0) (OpN.g n_lt') (qp_bin o_add (OpN.g n_add) (qp_ix o_ix opg_ix (qp_var 4) (qp_var 7)) (qp_var 9)) (qp_ix o_ix opg_ix (qp_var 4) (qp_var 8)))))))))
  (qss_one (qs_stIx 4 (qe_p (qp_var 8)) (qe_p (qp_bin o_add (OpN.g n_add) (qp_ix o_ix opg_ix (qp_var 4) (qp_var 7)) (qp_var 9)))))
  (qss_nil))))
  (qss_one (qs_if (qt_cmp (op_eqD hr.units) (OpN.g opn_eq) (qp_var 4) (qp_var 6))
  (qss_one (qs_break))
  (qss_nil))))))
  (qss_one (qs_ret (qo_mv 4))))))
theorem ok__law_mixed_rr (T : Fx K mg) (c__law_take : Df P w K mg base 1 "_law_take" s__law_take ["box", "many"] D__law_take [true, false]) : Df P w K mg base 2 "_law_mixed" s__law_mixed ["box", "items"] D__law_mixed_rr [true, true] := by
  rw [D__law_mixed_rr_eq]; exact (
  Df.mk' (N := N__law_mixed_rr) T.d__law_mixed sc__law_mixed_rr rfl fun f cdv A outer s H E hr => qss_cons (qs_par2 2 3 rfl sc__law_mixed_rr.nd (qx_cons (qo_callT call_list_of u_list T.f_list boot_list (qp_var 1)) (qx_cons (qo_lst (qa_nil)) qx_nil)))
  (qss_cons (qs_for PassesOwn.never rfl (qi_rg1 T.f_range (qa_cons (qe_p (qp_callB call_len u_len T.f_len boot_len (qp_var 1))) qa_nil)) (qg_name 4 sc__law_mixed_rr.nd)
  (qss_one (qs_expr (qe_meth 3 PySem.F.slot_list_append PySem.F.type_list_append mt_append m_append (qa_cons (qe_meth 2 PySem.F.slot_list_pop PySem.F.type_list_pop mt_popB m_pop (qa_cons (qe_o (qo_c c__law_take bd__law_take hr (by decide) (qr_ref 0 (qr_val (qe_p (qp_callB call_len u_len T.f_len boot_len (qp_var 2))) qr_nil)))) qa_nil)) qa_nil)))))
  (qss_one (qs_ret (qo_mv 3)))))
theorem ok__law_back (T : Fx K mg)  : Df P w K mg base 1 "_law_back" s__law_back ["roads"] D__law_back [false] := by
  rw [D__law_back_eq]; exact (
  Df.mk' (N := N__law_back) T.d__law_back sc__law_back rfl fun f cdv A outer s H E hr => qss_one (qs_ret (qo_e (qe_tup (qa_cons (qe_p (qp_ix o_ix opg_ix (qp_var 0) (qp_int))) (qa_cons (qe_callT call_tuple_of u_tuple T.f_tuple boot_tuple (qe_callB o_sort u_sort T.f_sorted boot_sorted (qe_o (qo_lc [("a", 1), ("b", 2), ("length", 3)] rfl sc__law_back.nd (qi_seq (qe_p (qp_ix o_ix opg_ix (qp_var 0) (qp_int)))) (blkOk_by (N := N__law_back) (sc := defScope s__law_back) (by decide +kernel)) (fun _ _ _ _ _ => qg_tup rfl (qgs_cons (qg_name 1 sc__law_back.nd) (qgs_cons (qg_name 2 sc__law_back.nd) (qgs_cons (qg_name 3 sc__law_back.nd) qgs_nil)))) (fun _ _ _ _ _ => qts_nil) (fun _ _ _ _ _ => qe_p (qp_tup (qpa_cons (qp_var 2) (qpa_cons (qp_var 1) (qpa_cons (qp_var 3) qpa_nil))))))))) qa_nil))))))
theorem ok__law_ends (T : Fx K mg) (c__law_far : Df P w K mg base 1 "_law_far" s__law_far ["roads", "one"] D__law_far [false, false]) (c__law_back : Df P w K mg base 1 "_law_back" s__law_back ["roads"] D__law_back [false]) : Df P w K mg base 2 "_law_ends" s__law_ends ["roads", "one", "other", "least"] D__law_ends [false, false, false, false] := by
  rw [D__law_ends_eq]; exact (
  Df.mk' (N := N__law_ends) T.d__law_ends sc__law_ends rfl fun f cdv A outer s H E hr => qss_cons (qs_par2 4 5 rfl sc__law_ends.nd (qx_cons (qo_e (qe_o (qo_c c__law_far bd__law_far hr (by decide) (qr_val (qe_p (qp_var 0)) (qr_val (qe_p (qp_var 1)) qr_nil))))) (qx_cons (qo_e (qe_o (qo_c c__law_far bd__law_far hr (by decide) (qr_val (qe_o (qo_c c__law_back bd__law_back hr (by decide) (qr_val (qe_p (qp_var 0)) qr_nil))) (qr_val (qe_p (qp_var 2)) qr_nil))))) qx_nil)))
  (qss_cons (qs_set 6 sc__law_ends.nd (qe_callT call_tuple_of u_tuple T.f_tuple boot_tuple (qe_o (qo_lc [("far", 7)] rfl sc__law_ends.nd (qi_seq (qe_p (qp_var 5))) (blkOk_by (N := N__law_ends) (sc := defScope s__law_ends) (by decide +kernel)) (fun _ _ _ _ _ => qg_name 7 sc__law_ends.nd) (fun _ _ _ _ _ => qts_nil) (fun _ _ _ _ _ => qe_if (qt_cmp o_is (OpN.g n_is) (qp_var 7) (qp_non)) (qe_p (qp_int)) (qe_callA (call_max2 rfl) a_max2 T.f_max boot_max (qa_cons (qe_p (qp_int)) (qa_cons (qe_p (qp_bin op_sub (OpN.g n_sub) (qp_var 3) (qp_var 7))) qa_nil))))))))
  (qss_one (qs_ret (qo_e (qe_tup (qa_cons (qe_p (qp_var 6)) (qa_cons (qe_callT call_tuple_of u_tuple T.f_tuple boot_tuple (qe_o (qo_lc [("far", 7)] rfl sc__law_ends.nd (qi_seq (qe_p (qp_var 4))) (blkOk_by (N := N__law_ends) (sc := defScope s__law_ends) (by decide +kernel)) (fun _ _ _ _ _ => qg_name 7 sc__law_ends.nd) (fun _ _ _ _ _ => qts_nil) (fun _ _ _ _ _ => qe_if (qt_cmp o_is (OpN.g n_is) (qp_var 7) (qp_non)) (qe_p (qp_var 3)) (qe_callA (call_min2 rfl) a_min2 T.f_min boot_min (qa_cons (qe_p (qp_var 3)) (qa_cons (qe_p (qp_var 7)) qa_nil))))))) qa_nil))))))))
theorem okF__law_same (T : Fx K mg)  : ∀ n : Nat, Df P w K mg base (0 + n) "_law_same" s__law_same ["given", "due"] (F__law_same n) [false, false]
  | 0 => Df.no T.d__law_same
  | n + 1 => by
    have c__law_same := okF__law_same T  n
    show Df P w K mg base (0 + n + 1) "_law_same" s__law_same ["given", "due"] (fnSem N__law_same.length [false, false] (b__law_same (F__law_same n))) [false, false]
    exact (
    Df.mk' (N := N__law_same) T.d__law_same sc__law_same rfl fun f cdv A outer s H E hr => qss_cons (qs_if (PW.pt (qw_or (qt_cmp o_is (OpN.g n_is) (qp_var 1) (qp_non)) (qw_or1 (qt_truP (qp_isi ki_bool T.f_isinstance T.f_bool boot_bool (qp_var 1))))))
  (qss_one (qs_ret (qo_if (qt_cmp o_is (OpN.g n_is) (qp_var 1) (qp_non)) (qo_e (qe_p (qp_cmp o_is (OpN.g n_is) (qp_var 0) (qp_non)))) (qo_e (qe_and (qe_p (qp_isi ki_bool T.f_isinstance T.f_bool boot_bool (qp_var 0))) (qe_one (qe_p (qp_cmp (op_eqD hr.units) (OpN.g opn_eq) (qp_cmp o_is (OpN.g n_is) (qp_var 0) (qp_bl)) (qp_cmp o_is (OpN.g n_is) (qp_var 1) (qp_bl))))))))))
  (qss_nil))
  (qss_cons (qs_if (qt_truP (qp_isi ki_int T.f_isinstance T.f_int boot_int (qp_var 1)))
  (qss_one (qs_ret (qo_e (qe_and (qe_p (qp_isi ki_int T.f_isinstance T.f_int boot_int (qp_var 0))) (qe_and (qe_not (qe_p (qp_isi ki_bool T.f_isinstance T.f_bool boot_bool (qp_var 0)))) (qe_one (qe_p (qp_cmp (op_eqD hr.units) (OpN.g opn_eq) (qp_bin op_sub (OpN.g n_sub) (qp_callT call_int1 u_int T.f_int boot_int (qp_var 0)) (qp_var 1)) (qp_int)))))))))
  (qss_nil))
  (qss_cons (qs_if (qt_truP (qp_isi ki_str T.f_isinstance T.f_str boot_str (qp_var 1)))
  (qss_one (qs_ret (qo_e (qe_and (qe_p (qp_isi ki_str T.f_isinstance T.f_str boot_str (qp_var 0))) (qe_and (qe_p (qp_cmp (op_eqD hr.units) (OpN.g opn_eq) (qp_callB call_len u_len T.f_len boot_len (qp_var 0)) (qp_callB call_len u_len T.f_len boot_len (qp_var 1)))) (qe_one (qe_cmpEP (op_eqD hr.units) (OpN.g opn_eq) (qe_o (qo_lc [("k", 2)] rfl sc__law_same.nd (qi_rg1 T.f_range (qa_cons (qe_p (qp_callB call_len u_len T.f_len boot_len (qp_var 1))) qa_nil)) (blkOk_by (N := N__law_same) (sc := defScope s__law_same) (by decide +kernel)) (fun _ _ _ _ _ => qg_name 2 sc__law_same.nd) (fun _ _ _ _ _ => qts_one (qt_cmpEP (op_neD hr.units) (OpN.g opn_ne) (qe_sl (qe_p (qp_var 0)) (qo_some (qe_p (qp_var 2))) (qo_some (qe_p (qp_bin o_add (OpN.g n_add) (qp_var 2) (qp_int))))) (qp_ix o_ix opg_ix (qp_var 1) (qp_var 2)))) (fun _ _ _ _ _ => qe_p (qp_var 2)))) (qp_lst (qpa_nil)))))))))
  (qss_nil))
  (qss_cons (qs_if (PW.pt (qw_or (qt_cmp (op_neD hr.units) (OpN.g opn_ne) (qp_isi ki_list T.f_isinstance T.f_list boot_list (qp_var 0)) (qp_isi ki_list T.f_isinstance T.f_list boot_list (qp_var 1))) (qw_or1 (qt_cmp (op_neD hr.units) (OpN.g opn_ne) (qp_isi ki_tuple T.f_isinstance T.f_tuple boot_tuple (qp_var 0)) (qp_isi ki_tuple T.f_isinstance T.f_tuple boot_tuple (qp_var 1))))))
  (qss_one (qs_ret (qo_e (qe_p (qp_bl)))))
  (qss_nil))
  (qss_one (qs_ret (qo_e (qe_and (qe_p (qp_cmp (op_eqD hr.units) (OpN.g opn_eq) (qp_callB call_len u_len T.f_len boot_len (qp_var 0)) (qp_callB call_len u_len T.f_len boot_len (qp_var 1)))) (qe_one (qe_cmpEP (op_eqD hr.units) (OpN.g opn_eq) (qe_o (qo_lc [("k", 2)] rfl sc__law_same.nd (qi_rg1 T.f_range (qa_cons (qe_p (qp_callB call_len u_len T.f_len boot_len (qp_var 1))) qa_nil)) (blkOk_by (N := N__law_same) (sc := defScope s__law_same) (by decide +kernel)) (fun _ _ _ _ _ => qg_name 2 sc__law_same.nd) (fun _ _ _ _ _ => qts_one (qt_not (qt_tru (qe_cB c__law_same bd__law_same hr (by omega) (qr_val (qe_p (qp_ix o_ix opg_ix (qp_var 0) (qp_var 2))) (qr_val (qe_p (qp_ix o_ix opg_ix (qp_var 1) (qp_var 2))) qr_nil)))))) (fun _ _ _ _ _ => qe_p (qp_var 2)))) (qp_lst (qpa_nil))))))))))))
theorem ok__law_same (T : Fx K mg)  : Df P w K mg base 6 "_law_same" s__law_same ["given", "due"] D__law_same [false, false] := by
  rw [D__law_same_eq]; exact okF__law_same T  6
theorem ok_is_tuple (T : Fx K mg)  : Df P w K mg base 1 "is_tuple" s_is_tuple ["value", "many"] D_is_tuple [false, false] := by
  rw [D_is_tuple_eq]; exact (
  Df.mk' (N := N_is_tuple) T.d_is_tuple sc_is_tuple rfl fun f cdv A outer s H E hr => qss_one (qs_ret (qo_e (qe_and (qe_p (qp_isi ki_tuple T.f_isinstance T.f_tuple boot_tuple (qp_var 0))) (qe_one (qe_p (qp_cmp (op_eqD hr.units) (OpN.g opn_eq) (qp_callB call_len u_len T.f_len boot_len (qp_var 0)) (qp_var 1))))))))
theorem ok_is_integer (T : Fx K mg)  : Df P w K mg base 1 "is_integer" s_is_integer ["value"] D_is_integer [false] := by
  rw [D_is_integer_eq]; exact (
  Df.mk' (N := N_is_integer) T.d_is_integer sc_is_integer rfl fun f cdv A outer s H E hr => qss_one (qs_ret (qo_e (qe_and (qe_p (qp_isi ki_int T.f_isinstance T.f_int boot_int (qp_var 0))) (qe_one (qe_not (qe_p (qp_isi ki_bool T.f_isinstance T.f_bool boot_bool (qp_var 0)))))))))
theorem ok_is_within (T : Fx K mg) (c_is_integer : Df P w K mg base 1 "is_integer" s_is_integer ["value"] D_is_integer [false]) : Df P w K mg base 2 "is_within" s_is_within ["value", "low", "high"] D_is_within [false, false, false] := by
  rw [D_is_within_eq]; exact (
  Df.mk' (N := N_is_within) T.d_is_within sc_is_within rfl fun f cdv A outer s H E hr => qss_one (qs_ret (qo_e (qe_and (qe_o (qo_c c_is_integer bd_is_integer hr (by decide) (qr_val (qe_p (qp_var 0)) qr_nil))) (qe_one (qe_p (qp_chain (o_le' hr.units0) (OpN.g n_le') (o_le' hr.units0) (OpN.g n_le') (qp_var 1) (qp_var 0) (qp_var 2))))))))
theorem ok_is_index (T : Fx K mg) (c_is_integer : Df P w K mg base 1 "is_integer" s_is_integer ["value"] D_is_integer [false]) : Df P w K mg base 2 "is_index" s_is_index ["value", "many"] D_is_index [false, false] := by
  rw [D_is_index_eq]; exact (
  Df.mk' (N := N_is_index) T.d_is_index sc_is_index rfl fun f cdv A outer s H E hr => qss_one (qs_ret (qo_e (qe_and (qe_o (qo_c c_is_integer bd_is_integer hr (by decide) (qr_val (qe_p (qp_var 0)) qr_nil))) (qe_one (qe_p (qp_chain (o_le' hr.units0) (OpN.g n_le') (o_lt' hr.units0) (OpN.g n_lt') (qp_int) (qp_var 0) (qp_var 1))))))))
theorem ok_is_count (T : Fx K mg) (c_is_integer : Df P w K mg base 1 "is_integer" s_is_integer ["value"] D_is_integer [false]) : Df P w K mg base 2 "is_count" s_is_count ["value"] D_is_count [false] := by
  rw [D_is_count_eq]; exact (
  Df.mk' (N := N_is_count) T.d_is_count sc_is_count rfl fun f cdv A outer s H E hr => qss_one (qs_ret (qo_e (qe_and (qe_o (qo_c c_is_integer bd_is_integer hr (by decide) (qr_val (qe_p (qp_var 0)) qr_nil))) (qe_one (qe_p (qp_cmp op_ge (OpN.g n_ge) (qp_var 0) (qp_int))))))))
theorem ok_is_tie (T : Fx K mg) (c_is_tuple : Df P w K mg base 1 "is_tuple" s_is_tuple ["value", "many"] D_is_tuple [false, false]) (c_is_index : Df P w K mg base 2 "is_index" s_is_index ["value", "many"] D_is_index [false, false]) (c_is_count : Df P w K mg base 2 "is_count" s_is_count ["value"] D_is_count [false]) : Df P w K mg base 3 "is_tie" s_is_tie ["many", "value"] D_is_tie [false, false] := by
  rw [D_is_tie_eq]; exact (
  Df.mk' (N := N_is_tie) T.d_is_tie sc_is_tie rfl fun f cdv A outer s H E hr => qss_cons (qs_if (PW.pt (qw_or (qt_not (qt_tru (qe_o (qo_c c_is_tuple bd_is_tuple hr (by decide) (qr_val (qe_p (qp_var 1)) (qr_val (qe_p (qp_int)) qr_nil)))))) (qw_or (qt_not (qt_tru (qe_o (qo_c c_is_index bd_is_index hr (by decide) (qr_val (qe_p (qp_ix o_ix opg_ix (qp_var 1) (qp_int))) (qr_val (qe_p (qp_var 0)) qr_nil)))))) (qw_or1 (qt_not (qt_tru (qe_o (qo_c c_is_index bd_is_index hr (by decide) (qr_val (qe_p (qp_ix o_ix opg_ix (qp_var 1) (qp_int))) (qr_val (qe_p (qp_var 0)) qr_nil))))))))))
  (qss_one (qs_ret (qo_e (qe_p (qp_bl)))))
  (qss_nil))
  (qss_one (qs_ret (qo_e (qe_and (qe_p (qp_cmp (op_neD hr.units) (OpN.g opn_ne) (qp_ix o_ix opg_ix (qp_var 1) (qp_int)) (qp_ix o_ix opg_ix (qp_var 1) (qp_int)))) (qe_one (qe_o (qo_c c_is_count bd_is_count hr (by decide) (qr_val (qe_p (qp_ix o_ix opg_ix (qp_var 1) (qp_int))) qr_nil)))))))))
theorem ok_in_order (T : Fx K mg)  : Df P w K mg base 1 "in_order" s_in_order ["items"] D_in_order [false] := by
  rw [D_in_order_eq]; exact (
  Df.mk' (N := N_in_order) T.d_in_order sc_in_order rfl fun f cdv A outer s H E hr => qss_one (qs_ret (qo_e (qe_callB (cr_all rfl) u_all T.f_all boot_all (qe_o (qo_lc [("at", 1)] rfl sc_in_order.nd (qi_rg2 T.f_range (qa_cons (qe_p (qp_int)) (qa_cons (qe_p (qp_callB call_len u_len T.f_len boot_len (qp_var 0))) qa_nil))) (blkOk_by (N := N_in_order) (sc := defScope s_in_order) (by decide +kernel)) (fun _ _ _ _ _ => qg_name 1 sc_in_order.nd) (fun _ _ _ _ _ => qts_nil) (fun _ _ _ _ _ => qe_p (qp_cmp (o_le' hr.units0) (OpN.g n_le') (qp_ix o_ix opg_ix (qp_var 0) (qp_bin op_sub (OpN.g n_sub) (qp_var 1) (qp_int))) (qp_ix o_ix opg_ix (qp_var 0) (qp_var 1))))))))))
theorem ok_is_map (T : Fx K mg) (c_is_tuple : Df P w K mg base 1 "is_tuple" s_is_tuple ["value", "many"] D_is_tuple [false, false]) (c_is_within : Df P w K mg base 2 "is_within" s_is_within ["value", "low", "high"] D_is_within [false, false, false]) (c_is_tie : Df P w K mg base 3 "is_tie" s_is_tie ["many", "value"] D_is_tie [false, false]) (c_in_order : Df P w K mg base 1 "in_order" s_in_order ["items"] D_in_order [false]) : Df P w K mg base 4 "is_map" s_is_map ["value"] D_is_map [false] := by
  rw [D_is_map_eq]; exact (
  Df.mk' (N := N_is_map) T.d_is_map sc_is_map rfl fun f cdv A outer s H E hr => qss_cons (qs_if (PW.pt (qw_or (qt_not (qt_tru (qe_o (qo_c c_is_tuple bd_is_tuple hr (by decide) (qr_val (qe_p (qp_var 0)) (qr_val (qe_p (qp_int)) qr_nil)))))) (qw_or1 (qt_not (qt_tru (qe_o (qo_c c_is_within bd_is_within hr (by decide) (qr_val (qe_p (qp_ix o_ix opg_ix (qp_var 0) (qp_int))) (qr_val (qe_p (qp_int)) (qr_val (qe_p (qp_gint T.g_MOST_PLACES.choose_spec)) qr_nil))))))))))
  (qss_one (qs_ret (qo_e (qe_p (qp_bl)))))
  (qss_nil))
  (qss_cons (qs_asg (qe_p (qp_var 0)) (qg_tup rfl (qgs_cons (qg_name 1 sc_is_map.nd) (qgs_cons (qg_name 2 sc_is_map.nd) qgs_nil))))
  (qss_cons (qs_if (PW.pt (qw_or (qt_not (qt_truP (qp_isi ki_tuple T.f_isinstance T.f_tuple boot_tuple (qp_var 2)))) (qw_or1 (qt_cmp op_gt (OpN.g n_gt) (qp_callB call_len u_len T.f_len boot_len (qp_var 2)) (qp_gint T.g_MOST_TIES.choose_spec)))))
  (qss_one (qs_ret (qo_e (qe_p (qp_bl)))))
  (qss_nil))
  (qss_one (qs_ret (qo_e (qe_and (qe_callB (cr_all rfl) u_all T.f_all boot_all (qe_o (qo_lc [("tie", 3)] rfl sc_is_map.nd (qi_seq (qe_p (qp_var 2))) (blkOk_by (N := N_is_map) (sc := defScope s_is_map) (by decide +kernel)) (fun _ _ _ _ _ => qg_name 3 sc_is_map.nd) (fun _ _ _ _ _ => qts_nil) (fun _ _ _ _ _ => qe_o (qo_c c_is_tie bd_is_tie hr (by decide) (qr_val (qe_p (qp_var 1)) (qr_val (qe_p (qp_var 3)) qr_nil))))))) (qe_one (qe_o (qo_c c_in_order bd_in_order hr (by decide) (qr_val (qe_p (qp_var 2)) qr_nil)))))))))))
theorem ok_check_map (T : Fx K mg) (c_is_map : Df P w K mg base 4 "is_map" s_is_map ["value"] D_is_map [false]) : Df P w K mg base 5 "check_map" s_check_map ["roads"] D_check_map [false] := by
  rw [D_check_map_eq]; exact (
  Df.mk' (N := N_check_map) T.d_check_map sc_check_map rfl fun f cdv A outer s H E hr => qss_one (qs_if (qt_not (qt_tru (qe_o (qo_c c_is_map bd_is_map hr (by decide) (qr_val (qe_p (qp_var 0)) qr_nil)))))
  (qss_one (qs_never))
  (qss_nil)))
theorem ok_check_place (T : Fx K mg) (c_is_index : Df P w K mg base 2 "is_index" s_is_index ["value", "many"] D_is_index [false, false]) : Df P w K mg base 3 "check_place" s_check_place ["roads", "place"] D_check_place [false, false] := by
  rw [D_check_place_eq]; exact (
  Df.mk' (N := N_check_place) T.d_check_place sc_check_place rfl fun f cdv A outer s H E hr => qss_one (qs_if (qt_not (qt_tru (qe_o (qo_c c_is_index bd_is_index hr (by decide) (qr_val (qe_p (qp_var 1)) (qr_val (qe_p (qp_ix o_ix opg_ix (qp_var 0) (qp_int))) qr_nil))))))
  (qss_one (qs_never))
  (qss_nil)))
theorem ok_check_two (T : Fx K mg) (c_check_place : Df P w K mg base 3 "check_place" s_check_place ["roads", "place"] D_check_place [false, false]) : Df P w K mg base 4 "check_two" s_check_two ["roads", "one", "other"] D_check_two [false, false, false] := by
  rw [D_check_two_eq]; exact (
  Df.mk' (N := N_check_two) T.d_check_two sc_check_two rfl fun f cdv A outer s H E hr => qss_cons (qs_expr (qe_o (qo_c c_check_place bd_check_place hr (by decide) (qr_val (qe_p (qp_var 0)) (qr_val (qe_p (qp_var 1)) qr_nil)))))
  (qss_cons (qs_expr (qe_o (qo_c c_check_place bd_check_place hr (by decide) (qr_val (qe_p (qp_var 0)) (qr_val (qe_p (qp_var 2)) qr_nil)))))
  (qss_one (qs_if (qt_cmp (op_eqD hr.units) (OpN.g opn_eq) (qp_var 1) (qp_var 2))
  (qss_one (qs_never))
  (qss_nil)))))
theorem ok_ties_from (T : Fx K mg)  : Df P w K mg base 1 "ties_from" s_ties_from ["many", "ties"] D_ties_from [false, false] := by
  rw [D_ties_from_eq]; exact (
  Df.mk' (N := N_ties_from) T.d_ties_from sc_ties_from rfl fun f cdv A outer s H E hr => qss_cons (qs_setLcO 1 2 [("_", 7)] rfl sc_ties_from.nd (qi_rg1 T.f_range (qa_cons (qe_p (qp_var 0)) qa_nil)) (blkOk_by (N := N_ties_from) (sc := defScope s_ties_from) (by decide +kernel)) (fun _ _ _ _ _ => qg_name 7 sc_ties_from.nd) (fun _ _ _ _ _ => qts_nil) (fun _ _ _ _ _ => qo_lst (qa_nil)))
  (qss_cons (qs_for PassesOwn.never rfl (qi_enum T.f_enumerate (qa_cons (qe_p (qp_var 1)) qa_nil)) (qg_tup rfl (qgs_cons (qg_name 3 sc_ties_from.nd) (qgs_cons (qg_tup rfl (qgs_cons (qg_name 4 sc_ties_from.nd) (qgs_cons (qg_name 5 sc_ties_from.nd) (qgs_cons (qg_name 6 sc_ties_from.nd) qgs_nil)))) qgs_nil)))
  (qss_one (qs_expr (qe_methIx 2 PySem.F.slot_list_append PySem.F.type_list_append mt_append m_append (qp_var 4) (qpa_cons (qp_tup (qpa_cons (qp_var 3) (qpa_cons (qp_var 5) (qpa_cons (qp_var 6) qpa_nil)))) qpa_nil)))))
  (qss_one (qs_ret (qo_mv 2)))))
theorem ok_is_less (T : Fx K mg)  : Df P w K mg base 1 "is_less" s_is_less ["one", "other"] D_is_less [false, false] := by
  rw [D_is_less_eq]; exact (
  Df.mk' (N := N_is_less) T.d_is_less sc_is_less rfl fun f cdv A outer s H E hr => qss_one (qs_ret (qo_e (qe_and (qe_p (qp_cmp o_isnot (OpN.g n_isnot) (qp_var 0) (qp_non))) (qe_one (qe_or (qe_p (qp_cmp o_is (OpN.g n_is) (qp_var 1) (qp_non))) (qe_one (qe_p (qp_cmp (o_lt' hr.units0) (OpN.g n_lt') (qp_var 0) (qp_var 1))))))))))
theorem ok_search (T : Fx K mg) (c_ties_from : Df P w K mg base 1 "ties_from" s_ties_from ["many", "ties"] D_ties_from [false, false]) (c_is_less : Df P w K mg base 1 "is_less" s_is_less ["one", "other"] D_is_less [false, false]) : Df P w K mg base 2 "search" s_search ["many", "ties", "one"] D_search [false, false, false] := by
  rw [D_search_eq]; exact (
  Df.mk' (N := N_search) T.d_search sc_search rfl fun f cdv A outer s H E hr => qss_cons (qs_parT4 3 4 5 6 rfl sc_search.nd (qx_cons (qo_e (qe_o (qo_c c_ties_from bd_ties_from hr (by decide) (qr_val (qe_p (qp_var 0)) (qr_val (qe_p (qp_var 1)) qr_nil))))) (qx_cons (qo_bin o_times n_times (qp_lst (qpa_cons (qp_non) qpa_nil)) (qp_var 0)) (qx_cons (qo_bin o_times n_times (qp_lst (qpa_cons (qp_non) qpa_nil)) (qp_var 0)) (qx_cons (qo_listRg rfl T.f_list T.f_range (qe_p (qp_var 0))) qx_nil)))))
  (qss_cons (qs_stIx 4 (qe_p (qp_var 2)) (qe_p (qp_int)))
  (qss_cons (qs_while PassesOwn.never (qt_cmp (op_neD hr.units) (OpN.g opn_ne) (qp_var 6) (qp_lst (qpa_nil)))
  (qss_cons (qs_set 7 sc_search.nd (qe_p (qp_ix o_ix opg_ix (qp_var 6) (qp_int))))
  (qss_cons (qs_forV 6 PassesOwn.never rfl (qg_name 8 sc_search.nd)
  (qss_one (qs_if (qt_tru (qe_o (qo_c c_is_less bd_is_less hr (by decide) (qr_val (qe_p (qp_ix o_ix opg_ix (qp_var 4) (qp_var 8))) (qr_val (qe_p (qp_ix o_ix opg_ix (qp_var 4) (qp_var 7))) qr_nil)))))
  (qss_one (qs_set 7 sc_search.nd (qe_p (qp_var 8))))
  (qss_nil))))
  (qss_cons (qs_expr (qe_meth 6 PySem.F.slot_list_remove PySem.F.type_list_remove mt_remove m_remove (qa_cons (qe_p (qp_var 7)) qa_nil)))
  (qss_cons (qs_if (qt_cmp o_is (OpN.g n_is) (qp_ix o_ix opg_ix (qp_var 4) (qp_var 7)) (qp_non))
  (qss_one (qs_ret (qo_e (qe_tup (qa_cons (qe_frzV 4) (qa_cons (qe_frzV 5) qa_nil))))))
  (qss_nil))
  (qss_one (qs_for PassesOwn.never rfl (qi_seq (qe_p (qp_ix o_ix opg_ix (qp_var 3) (qp_var 7)))) (qg_tup rfl (qgs_cons (qg_name 9 sc_search.nd) (qgs_cons (qg_name 8 sc_search.nd) (qgs_cons (qg_name 10 sc_search.nd) qgs_nil))))
  (qss_one (qs_if (qt_tru (qe_o (qo_c c_is_less bd_is_less hr (by decide) (qr_val (qe_p (qp_bin o_add (OpN.g n_add) (qp_ix o_ix opg_ix (qp_var 4) (qp_var 7)) (qp_var 10))) (qr_val (qe_p (qp_ix o_ix opg_ix (qp_var 4) (qp_var 8))) qr_nil)))))
  (qss_one (qs_asg (qe_p (qp_tup (qpa_cons (qp_bin o_add (OpN.g n_add) (qp_ix o_ix opg_ix (qp_var 4) (qp_var 7)) (qp_var 10)) (qpa_cons (qp_var 9) qpa_nil)))) (qg_tup rfl (qgs_cons (qg_ix 4 (qe_p (qp_var 8))) (qgs_cons (qg_ix 5 (qe_p (qp_var 8))) qgs_nil)))))
  (qss_nil))))))))))
  (qss_one (qs_ret (qo_e (qe_tup (qa_cons (qe_frzV 4) (qa_cons (qe_frzV 5) qa_nil)))))))))
theorem ok_lengths_from (T : Fx K mg) (c_search : Df P w K mg base 2 "search" s_search ["many", "ties", "one"] D_search [false, false, false]) : Df P w K mg base 3 "lengths_from" s_lengths_from ["many", "ties", "one"] D_lengths_from [false, false, false] := by
  rw [D_lengths_from_eq]; exact (
  Df.mk' (N := N_lengths_from) T.d_lengths_from sc_lengths_from rfl fun f cdv A outer s H E hr => qss_one (qs_ret (qo_e (qe_ix o_ix opg_ix (qe_o (qo_c c_search bd_search hr (by decide) (qr_val (qe_p (qp_var 0)) (qr_val (qe_p (qp_var 1)) (qr_val (qe_p (qp_var 2)) qr_nil))))) (qe_p (qp_int))))))
theorem ok_length_of (T : Fx K mg) (c_lengths_from : Df P w K mg base 3 "lengths_from" s_lengths_from ["many", "ties", "one"] D_lengths_from [false, false, false]) : Df P w K mg base 4 "length_of" s_length_of ["roads", "one", "other"] D_length_of [false, false, false] := by
  rw [D_length_of_eq]; exact (
  Df.mk' (N := N_length_of) T.d_length_of sc_length_of rfl fun f cdv A outer s H E hr => qss_one (qs_ret (qo_e (qe_ix o_ix opg_ix (qe_o (qo_c c_lengths_from bd_lengths_from hr (by decide) (qr_val (qe_p (qp_ix o_ix opg_ix (qp_var 0) (qp_int))) (qr_val (qe_p (qp_ix o_ix opg_ix (qp_var 0) (qp_int))) (qr_val (qe_p (qp_var 1)) qr_nil))))) (qe_p (qp_var 2))))))
theorem ok_check_way (T : Fx K mg) (c_check_map : Df P w K mg base 5 "check_map" s_check_map ["roads"] D_check_map [false]) (c_check_two : Df P w K mg base 4 "check_two" s_check_two ["roads", "one", "other"] D_check_two [false, false, false]) (c_length_of : Df P w K mg base 4 "length_of" s_length_of ["roads", "one", "other"] D_length_of [false, false, false]) : Df P w K mg base 6 "check_way" s_check_way ["roads", "one", "other"] D_check_way [false, false, false] := by
  rw [D_check_way_eq]; exact (
  Df.mk' (N := N_check_way) T.d_check_way sc_check_way rfl fun f cdv A outer s H E hr => qss_cons (qs_expr (qe_o (qo_c c_check_map bd_check_map hr (by decide) (qr_val (qe_p (qp_var 0)) qr_nil))))
  (qss_cons (qs_expr (qe_o (qo_c c_check_two bd_check_two hr (by decide) (qr_val (qe_p (qp_var 0)) (qr_val (qe_p (qp_var 1)) (qr_val (qe_p (qp_var 2)) qr_nil))))))
  (qss_one (qs_if (qt_cmpEP o_is (OpN.g n_is) (qe_o (qo_c c_length_of bd_length_of hr (by decide) (qr_val (qe_p (qp_var 0)) (qr_val (qe_p (qp_var 1)) (qr_val (qe_p (qp_var 2)) qr_nil))))) (qp_non))
  (qss_one (qs_never))
  (qss_nil)))))
theorem ok_lengths_to (T : Fx K mg) (c_lengths_from : Df P w K mg base 3 "lengths_from" s_lengths_from ["many", "ties", "one"] D_lengths_from [false, false, false]) : Df P w K mg base 4 "lengths_to" s_lengths_to ["roads", "other"] D_lengths_to [false, false] := by
  rw [D_lengths_to_eq]; exact (
  Df.mk' (N := N_lengths_to) T.d_lengths_to sc_lengths_to rfl fun f cdv A outer s H E hr => qss_cons (qs_asg (qe_p (qp_var 0)) (qg_tup rfl (qgs_cons (qg_name 2 sc_lengths_to.nd) (qgs_cons (qg_name 3 sc_lengths_to.nd) qgs_nil))))
  (qss_one (qs_ret (qo_c c_lengths_from bd_lengths_from hr (by decide) (qr_val (qe_p (qp_var 2)) (qr_val (qe_o (qo_lc [("a", 4), ("b", 5), ("length", 6)] rfl sc_lengths_to.nd (qi_seq (qe_p (qp_var 3))) (blkOk_by (N := N_lengths_to) (sc := defScope s_lengths_to) (by decide +kernel)) (fun _ _ _ _ _ => qg_tup rfl (qgs_cons (qg_name 4 sc_lengths_to.nd) (qgs_cons (qg_name 5 sc_lengths_to.nd) (qgs_cons (qg_name 6 sc_lengths_to.nd) qgs_nil)))) (fun _ _ _ _ _ => qts_nil) (fun _ _ _ _ _ => qe_p (qp_tup (qpa_cons (qp_var 5) (qpa_cons (qp_var 4) (qpa_cons (qp_var 6) qpa_nil))))))) (qr_val (qe_p (qp_var 1)) qr_nil)))))))
theorem ok_least_proof (T : Fx K mg) (c_check_way : Df P w K mg base 6 "check_way" s_check_way ["roads", "one", "other"] D_check_way [false, false, false]) (c_length_of : Df P w K mg base 4 "length_of" s_length_of ["roads", "one", "other"] D_length_of [false, false, false]) (c_lengths_to : Df P w K mg base 4 "lengths_to" s_lengths_to ["roads", "other"] D_lengths_to [false, false]) : Df P w K mg base 7 "least_proof" s_least_proof ["roads", "one", "other"] D_least_proof [false, false, false] := by
  rw [D_least_proof_eq]; exact (
  Df.mk' (N := N_least_proof) T.d_least_proof sc_least_proof rfl fun f cdv A outer s H E hr => qss_cons (qs_expr (qe_o (qo_c c_check_way bd_check_way hr (by decide) (qr_val (qe_p (qp_var 0)) (qr_val (qe_p (qp_var 1)) (qr_val (qe_p (qp_var 2)) qr_nil))))))
  (qss_cons (qs_set 3 sc_least_proof.nd (qe_o (qo_c c_length_of bd_length_of hr (by decide) (qr_val (qe_p (qp_var 0)) (qr_val (qe_p (qp_var 1)) (qr_val (qe_p (qp_var 2)) qr_nil))))))
  (qss_one (qs_ret (qo_e (qe_callT call_tuple_of u_tuple T.f_tuple boot_tuple (qe_o (qo_lc [("length", 4)] rfl sc_least_proof.nd (qi_seq (qe_o (qo_c c_lengths_to bd_lengths_to hr (by decide) (qr_val (qe_p (qp_var 0)) (qr_val (qe_p (qp_var 2)) qr_nil))))) (blkOk_by (N := N_least_proof) (sc := defScope s_least_proof) (by decide +kernel)) (fun _ _ _ _ _ => qg_name 4 sc_least_proof.nd) (fun _ _ _ _ _ => qts_nil) (fun _ _ _ _ _ => qe_if (qt_cmp o_is (OpN.g n_is) (qp_var 4) (qp_non)) (qe_p (qp_int)) (qe_callA (call_max2 rfl) a_max2 T.f_max boot_max (qa_cons (qe_p (qp_int)) (qa_cons (qe_p (qp_bin op_sub (OpN.g n_sub) (qp_var 3) (qp_var 4))) qa_nil))))))))))))
theorem ok_greatest_proof (T : Fx K mg) (c_check_way : Df P w K mg base 6 "check_way" s_check_way ["roads", "one", "other"] D_check_way [false, false, false]) (c_length_of : Df P w K mg base 4 "length_of" s_length_of ["roads", "one", "other"] D_length_of [false, false, false]) (c_lengths_from : Df P w K mg base 3 "lengths_from" s_lengths_from ["many", "ties", "one"] D_lengths_from [false, false, false]) : Df P w K mg base 7 "greatest_proof" s_greatest_proof ["roads", "one", "other"] D_greatest_proof [false, false, false] := by
  rw [D_greatest_proof_eq]; exact (
  Df.mk' (N := N_greatest_proof) T.d_greatest_proof sc_greatest_proof rfl fun f cdv A outer s H E hr => qss_cons (qs_expr (qe_o (qo_c c_check_way bd_check_way hr (by decide) (qr_val (qe_p (qp_var 0)) (qr_val (qe_p (qp_var 1)) (qr_val (qe_p (qp_var 2)) qr_nil))))))
  (qss_cons (qs_set 3 sc_greatest_proof.nd (qe_o (qo_c c_length_of bd_length_of hr (by decide) (qr_val (qe_p (qp_var 0)) (qr_val (qe_p (qp_var 1)) (qr_val (qe_p (qp_var 2)) qr_nil))))))
  (qss_cons (qs_set 4 sc_greatest_proof.nd (qe_o (qo_c c_lengths_from bd_lengths_from hr (by decide) (qr_val (qe_p (qp_ix o_ix opg_ix (qp_var 0) (qp_int))) (qr_val (qe_p (qp_ix o_ix opg_ix (qp_var 0) (qp_int))) (qr_val (qe_p (qp_var 1)) qr_nil))))))
  (qss_one (qs_ret (qo_e (qe_callT call_tuple_of u_tuple T.f_tuple boot_tuple (qe_o (qo_lc [("length", 5)] rfl sc_greatest_proof.nd (qi_seq (qe_p (qp_var 4))) (blkOk_by (N := N_greatest_proof) (sc := defScope s_greatest_proof) (by decide +kernel)) (fun _ _ _ _ _ => qg_name 5 sc_greatest_proof.nd) (fun _ _ _ _ _ => qts_nil) (fun _ _ _ _ _ => qe_if (qt_cmp o_is (OpN.g n_is) (qp_var 5) (qp_non)) (qe_p (qp_var 3)) (qe_callA (call_min2 rfl) a_min2 T.f_min boot_min (qa_cons (qe_p (qp_var 3)) (qa_cons (qe_p (qp_var 5)) qa_nil)))))))))))))
theorem ok__law_told (T : Fx K mg) (c_least_proof : Df P w K mg base 7 "least_proof" s_least_proof ["roads", "one", "other"] D_least_proof [false, false, false]) (c_greatest_proof : Df P w K mg base 7 "greatest_proof" s_greatest_proof ["roads", "one", "other"] D_greatest_proof [false, false, false]) : Df P w K mg base 8 "_law_told" s__law_told ["roads", "one", "other", "named"] D__law_told [false, false, false, false] := by
  rw [D__law_told_eq]; exact (
  Df.mk' (N := N__law_told) T.d__law_told sc__law_told rfl fun f cdv A outer s H E hr => qss_cons (qs_if (qt_truP (qp_var 3))
  (qss_one (qs_ret (qo_lst (qa_cons (qe_o (qo_ck [2, 1, 0] ["other", "one", "roads"] c_least_proof (fun _ _ _ _ _ _ us ws hu hw => match us, hu, ws, hw with | [], _, [_, _, _], _ => rfl) hr (by decide) (qk_val (qe_p (qp_var 2)) (qk_val (qe_p (qp_var 1)) (qk_val (qe_p (qp_var 0)) qk_nil))) (arN_val (arN_val (arN_val arN_nil))))) (qa_cons (qe_o (qo_c c_greatest_proof bd_greatest_proof hr (by decide) (qr_val (qe_p (qp_var 0)) (qr_val (qe_p (qp_var 1)) (qr_val (qe_p (qp_var 2)) qr_nil))))) qa_nil)))))
  (qss_nil))
  (qss_one (qs_ret (qo_lst (qa_cons (qe_o (qo_c c_least_proof bd_least_proof hr (by decide) (qr_val (qe_p (qp_var 0)) (qr_val (qe_p (qp_var 1)) (qr_val (qe_p (qp_var 2)) qr_nil))))) (qa_cons (qe_o (qo_ck [2, 1, 0] ["other", "one", "roads"] c_greatest_proof (fun _ _ _ _ _ _ us ws hu hw => match us, hu, ws, hw with | [], _, [_, _, _], _ => rfl) hr (by decide) (qk_val (qe_p (qp_var 2)) (qk_val (qe_p (qp_var 1)) (qk_val (qe_p (qp_var 0)) qk_nil))) (arN_val (arN_val (arN_val arN_nil))))) qa_nil))))))
theorem ok__law_all (T : Fx K mg)  : Df P w K mg base 1 "_law_all" s__law_all ["roads", "one", "other", "least"] D__law_all [false, false, false, false] := by
  rw [D__law_all_eq]; exact (
  Df.mk' (N := N__law_all) T.d__law_all sc__law_all rfl fun f cdv A outer s H E hr => qss_cons (qs_set 4 sc__law_all.nd (qe_p (qp_lst (qpa_cons (qp_tup (qpa_nil)) qpa_nil))))
  (qss_cons (qs_for PassesOwn.never rfl (qi_rg1 T.f_range (qa_cons (qe_p (qp_ix o_ix opg_ix (qp_var 0) (qp_int))) qa_nil)) (qg_name 5 sc__law_all.nd)
  (qss_cons (qs_setO 6 sc__law_all.nd (qo_lst (qa_nil)))
  (qss_cons (qs_for PassesOwn.never rfl (qi_seq (qe_p (qp_var 4))) (qg_name 7 sc__law_all.nd)
  (qss_one (qs_for PassesOwn.never rfl (qi_seq (qe_if (qt_cmp (op_eqD hr.units) (OpN.g opn_eq) (qp_var 5) (qp_var 1)) (qe_p (qp_lst (qpa_cons (qp_int) qpa_nil))) (qe_if (qt_cmp (op_eqD hr.units) (OpN.g opn_eq) (qp_var 5) (qp_var 2)) (qe_p (qp_lst (qpa_cons (qp_var 3) qpa_nil))) (qe_o (qo_listRg rfl T.f_list T.f_range (qe_p (qp_bin o_add (OpN.g n_add) (qp_var 3) (qp_int)))))))) (qg_name 8 sc__law_all.nd)
  (qss_one (qs_if (qt_cmpEP (op_eqD hr.units) (OpN.g opn_eq) (qe_o (qo_lc [("a", 9), ("b", 10), ("length", 11)] rfl sc__law_all.nd (qi_seq (qe_p (qp_ix o_ix opg_ix (qp_var 0) (qp_int)))) (blkOk_by (N := N__law_all) (sc := defScope s__law_all) (by decide +kernel)) (fun _ _ _ _ _ => qg_tup rfl (qgs_cons (qg_name 9 sc__law_all.nd) (qgs_cons (qg_name 10 sc__law_all.nd) (qgs_cons (qg_name 11 sc__law_all.nd) qgs_nil)))) (fun _ _ _ _ _ => qts_one (PW.pt (qw_or (PW.pt (qw_and (qt_cmp (o_lt' hr.units0) (OpN.g n_lt') (qp_var 9) (qp_var 5)) (qw_and (qt_cmp (op_eqD hr.units) (OpN.g opn_eq) (qp_var 10) (qp_var 5)) (qw_and1 (qt_cmp op_gt (OpN.g n_gt) (qp_var 8) (qp_bin o_add (OpN.g n_add) (qp_ix o_ix opg_ix (qp_var 7) (qp_var 9)) (qp_var 11))))))) (qw_or1 (PW.pt (qw_and (qt_cmp (o_lt' hr.units0) (OpN.g n_lt') (qp_var 10) (qp_var 5)) (qw_and (qt_cmp (op_eqD hr.units) (OpN.g opn_eq) (qp_var 9) (qp_var 5)) (qw_and1 (qt_cmp op_gt (OpN.g n_gt) (qp_ix o_ix opg_ix (qp_var 7) (qp_var 10)) (qp_bin o_add (OpN.g n_add) (qp_var 8) (qp_var 11))))))))))) (fun _ _ _ _ _ => qe_p (qp_int)))) (qp_lst (qpa_nil)))
  (qss_one (qs_expr (qe_meth 6 PySem.F.slot_list_append PySem.F.type_list_append mt_append m_append (qa_cons (qe_p (qp_bin o_add (OpN.g n_add) (qp_var 7) (qp_tup (qpa_cons (qp_var 8) qpa_nil)))) qa_nil))))
  (qss_nil))))))
  (qss_cons (qs_set 4 sc__law_all.nd (qe_frzV 6))
  (qss_one (qs_if (qt_cmp op_gt (OpN.g n_gt) (qp_callB call_len u_len T.f_len boot_len (qp_var 4)) (qp_int))
  (qss_one (qs_ret (qo_e (qe_p (qp_non)))))
  (qss_nil)))))))
  (qss_one (qs_ret (qo_e (qe_p (qp_var 4)))))))
theorem ok__law_drawn_proof (T : Fx K mg) (c__law_ends : Df P w K mg base 2 "_law_ends" s__law_ends ["roads", "one", "other", "least"] D__law_ends [false, false, false, false]) (c__law_take : Df P w K mg base 1 "_law_take" s__law_take ["box", "many"] D__law_take [true, false]) : Df P w K mg base 3 "_law_drawn_proof" s__law_drawn_proof ["box", "roads", "one", "other", "least"] D__law_drawn_proof [true, false, false, false, false] := by
  rw [D__law_drawn_proof_eq]; exact (
  Df.mk' (N := N__law_drawn_proof) T.d__law_drawn_proof sc__law_drawn_proof rfl fun f cdv A outer s H E hr => qss_cons (qs_asg (qe_o (qo_c c__law_ends bd__law_ends hr (by decide) (qr_val (qe_p (qp_var 1)) (qr_val (qe_p (qp_var 2)) (qr_val (qe_p (qp_var 3)) (qr_val (qe_p (qp_var 4)) qr_nil)))))) (qg_tup rfl (qgs_cons (qg_name 5 sc__law_drawn_proof.nd) (qgs_cons (qg_name 6 sc__law_drawn_proof.nd) qgs_nil))))
  (qss_cons (qs_setO 7 sc__law_drawn_proof.nd (qo_callT call_list_of u_list T.f_list boot_list (qp_var 6)))
  (qss_cons (qs_for PassesOwn.never rfl (qi_rg1 T.f_range (qa_cons (qe_p (qp_int)) qa_nil)) (qg_name 8 sc__law_drawn_proof.nd)
  (qss_cons (qs_set 9 sc__law_drawn_proof.nd (qe_o (qo_c c__law_take bd__law_take hr (by decide) (qr_ref 0 (qr_val (qe_p (qp_ix o_ix opg_ix (qp_var 1) (qp_int))) qr_nil)))))
  (qss_cons (qs_stIx 7 (qe_p (qp_var 9)) (qe_bin o_add (OpN.g n_add) (qe_p (qp_ix o_ix opg_ix (qp_var 5) (qp_var 9))) (qe_binEP op_mod (OpN.g n_mod) (qe_callT call_int1 u_int T.f_int boot_int (qe_o (qo_c c__law_take bd__law_take hr (by decide) (qr_ref 0 (qr_val (qe_p (qp_int)) qr_nil))))) (qp_bin o_add (OpN.g n_add) (qp_bin op_sub (OpN.g n_sub) (qp_ix o_ix opg_ix (qp_var 7) (qp_var 9)) (qp_ix o_ix opg_ix (qp_var 5) (qp_var 9))) (qp_int)))))
  (qss_one (qs_for PassesOwn.never rfl (qi_rg1 T.f_range (qa_cons (qe_p (qp_ix o_ix opg_ix (qp_var 1) (qp_int))) qa_nil)) (qg_name 10 sc__law_drawn_proof.nd)
  (qss_one (qs_for PassesOwn.never rfl (qi_seq (qe_p (qp_ix o_ix opg_ix (qp_var 1) (qp_int)))) (qg_tup rfl (qgs_cons (qg_name 11 sc__law_drawn_proof.nd) (qgs_cons (qg_name 12 sc__law_drawn_proof.nd) (qgs_cons (qg_name 13 sc__law_drawn_proof.nd) qgs_nil))))
  (qss_one (qs_stIx 7 (qe_p (qp_var 12)) (qe_callA (call_max2 rfl) a_max2 T.f_max boot_max (qa_cons (qe_p (qp_ix o_ix opg_ix (qp_var 5) (qp_var 12))) (qa_cons (qe_callA (call_min2 rfl) a_min2 T.f_min boot_min (qa_cons (qe_p (qp_ix o_ix opg_ix (qp_var 7) (qp_var 12))) (qa_cons (qe_p (qp_bin o_add (OpN.g n_add) (qp_ix o_ix opg_ix (qp_var 7) (qp_var 11)) (qp_var 13))) qa_nil))) qa_nil))))))))))))
  (qss_one (qs_ret (qo_e (qe_p (qp_callT call_tuple_of u_tuple T.f_tuple boot_tuple (qp_var 7)))))))))
theorem ok__law_mixed (T : Fx K mg) (c__law_take : Df P w K mg base 1 "_law_take" s__law_take ["box", "many"] D__law_take [true, false]) : Df P w K mg base 2 "_law_mixed" s__law_mixed ["box", "items"] D__law_mixed [true, false] := by
  rw [D__law_mixed_eq]; exact (
  Df.mk' (N := N__law_mixed) T.d__law_mixed sc__law_mixed rfl fun f cdv A outer s H E hr => qss_cons (qs_par2 2 3 rfl sc__law_mixed.nd (qx_cons (qo_callT call_list_of u_list T.f_list boot_list (qp_var 1)) (qx_cons (qo_lst (qa_nil)) qx_nil)))
  (qss_cons (qs_for PassesOwn.never rfl (qi_rg1 T.f_range (qa_cons (qe_p (qp_callB call_len u_len T.f_len boot_len (qp_var 1))) qa_nil)) (qg_name 4 sc__law_mixed.nd)
  (qss_one (qs_expr (qe_meth 3 PySem.F.slot_list_append PySem.F.type_list_append mt_append m_append (qa_cons (qe_meth 2 PySem.F.slot_list_pop PySem.F.type_list_pop mt_popB m_pop (qa_cons (qe_o (qo_c c__law_take bd__law_take hr (by decide) (qr_ref 0 (qr_val (qe_p (qp_callB call_len u_len T.f_len boot_len (qp_var 2))) qr_nil)))) qa_nil)) qa_nil)))))
  (qss_one (qs_ret (qo_mv 3)))))
theorem ok__law_is (T : Fx K mg)  : Df P w K mg base 1 "_law_is" s__law_is ["roads", "one", "other", "least", "value"] D__law_is [false, false, false, false, false] := by
  rw [D__law_is_eq]; exact (
  Df.mk' (N := N__law_is) T.d__law_is sc__law_is rfl fun f cdv A outer s H E hr => qss_cons (qs_if (PW.pt (qw_or (qt_cmp (op_neD hr.units) (OpN.g opn_ne) (qp_ix o_ix opg_ix (qp_var 4) (qp_var 1)) (qp_int)) (qw_or (qt_cmp (op_neD hr.units) (OpN.g opn_ne) (qp_ix o_ix opg_ix (qp_var 4) (qp_var 2)) (qp_var 3)) (qw_or1 (qt_cmpEP (op_neD hr.units) (OpN.g opn_ne) (qe_o (qo_lc [("x", 5)] rfl sc__law_is.nd (qi_seq (qe_p (qp_var 4))) (blkOk_by (N := N__law_is) (sc := defScope s__law_is) (by decide +kernel)) (fun _ _ _ _ _ => qg_name 5 sc__law_is.nd) (fun _ _ _ _ _ => qts_one (PW.pt (qw_or (qt_cmp (o_lt' hr.units0) (OpN.g n_lt') (qp_var 5) (qp_int)) (qw_or1 (qt_cmp op_gt (OpN.g n_gt) (qp_var 5) (qp_var 3)))))) (fun _ _ _ _ _ => qe_p (qp_var 5)))) (qp_lst (qpa_nil)))))))
  (qss_one (qs_ret (qo_e (qe_p (qp_bl)))))
  (qss_nil))
  (qss_one (qs_ret (qo_e (qe_cmpEP (op_eqD hr.units) (OpN.g opn_eq) (qe_o (qo_lc [("a", 6), ("b", 7), ("length", 8)] rfl sc__law_is.nd (qi_seq (qe_p (qp_ix o_ix opg_ix (qp_var 0) (qp_int)))) (blkOk_by (N := N__law_is) (sc := defScope s__law_is) (by decide +kernel)) (fun _ _ _ _ _ => qg_tup rfl (qgs_cons (qg_name 6 sc__law_is.nd) (qgs_cons (qg_name 7 sc__law_is.nd) (qgs_cons (qg_name 8 sc__law_is.nd) qgs_nil)))) (fun _ _ _ _ _ => qts_one (qt_cmp op_gt (OpN.g n_gt) (qp_ix o_ix opg_ix (qp_var 4) (qp_var 7)) (qp_bin o_add (OpN.g n_add) (qp_ix o_ix opg_ix (qp_var 4) (qp_var 6)) (qp_var 8)))) (fun _ _ _ _ _ => qe_p (qp_int)))) (qp_lst (qpa_nil)))))))
theorem ok_are_counts (T : Fx K mg) (c_is_tuple : Df P w K mg base 1 "is_tuple" s_is_tuple ["value", "many"] D_is_tuple [false, false]) (c_is_count : Df P w K mg base 2 "is_count" s_is_count ["value"] D_is_count [false]) : Df P w K mg base 3 "are_counts" s_are_counts ["value", "many"] D_are_counts [false, false] := by
  rw [D_are_counts_eq]; exact (
  Df.mk' (N := N_are_counts) T.d_are_counts sc_are_counts rfl fun f cdv A outer s H E hr => qss_one (qs_ret (qo_e (qe_and (qe_o (qo_c c_is_tuple bd_is_tuple hr (by decide) (qr_val (qe_p (qp_var 0)) (qr_val (qe_p (qp_var 1)) qr_nil)))) (qe_one (qe_callB (cr_all rfl) u_all T.f_all boot_all (qe_o (qo_lc [("item", 2)] rfl sc_are_counts.nd (qi_seq (qe_p (qp_var 0))) (blkOk_by (N := N_are_counts) (sc := defScope s_are_counts) (by decide +kernel)) (fun _ _ _ _ _ => qg_name 2 sc_are_counts.nd) (fun _ _ _ _ _ => qts_nil) (fun _ _ _ _ _ => qe_o (qo_c c_is_count bd_is_count hr (by decide) (qr_val (qe_p (qp_var 2)) qr_nil)))))))))))
theorem ok_proved_by (T : Fx K mg)  : Df P w K mg base 1 "proved_by" s_proved_by ["roads", "one", "other", "heights"] D_proved_by [false, false, false, false] := by
  rw [D_proved_by_eq]; exact (
  Df.mk' (N := N_proved_by) T.d_proved_by sc_proved_by rfl fun f cdv A outer s H E hr => qss_cons (qs_if (qt_tru (qe_callB (cr_any rfl) u_any T.f_any boot_any (qe_o (qo_lc [("a", 4), ("b", 5), ("length", 6)] rfl sc_proved_by.nd (qi_seq (qe_p (qp_ix o_ix opg_ix (qp_var 0) (qp_int)))) (blkOk_by (N := N_proved_by) (sc := defScope s_proved_by) (by decide +kernel)) (fun _ _ _ _ _ => qg_tup rfl (qgs_cons (qg_name 4 sc_proved_by.nd) (qgs_cons (qg_name 5 sc_proved_by.nd) (qgs_cons (qg_name 6 sc_proved_by.nd) qgs_nil)))) (fun _ _ _ _ _ => qts_nil) (fun _ _ _ _ _ => qe_p (qp_cmp op_gt (OpN.g n_gt) (qp_ix o_ix opg_ix (qp_var 3) (qp_var 5)) (qp_bin o_add (OpN.g n_add) (qp_ix o_ix opg_ix (qp_var 3) (qp_var 4)) (qp_var 6))))))))
  (qss_one (qs_ret (qo_e (qe_p (qp_non)))))
  (qss_nil))
  (qss_one (qs_ret (qo_e (qe_p (qp_bin op_sub (OpN.g n_sub) (qp_ix o_ix opg_ix (qp_var 3) (qp_var 2)) (qp_ix o_ix opg_ix (qp_var 3) (qp_var 1))))))))
theorem ok_is_proof (T : Fx K mg) (c_check_way : Df P w K mg base 6 "check_way" s_check_way ["roads", "one", "other"] D_check_way [false, false, false]) (c_length_of : Df P w K mg base 4 "length_of" s_length_of ["roads", "one", "other"] D_length_of [false, false, false]) (c_are_counts : Df P w K mg base 3 "are_counts" s_are_counts ["value", "many"] D_are_counts [false, false]) (c_proved_by : Df P w K mg base 1 "proved_by" s_proved_by ["roads", "one", "other", "heights"] D_proved_by [false, false, false, false]) : Df P w K mg base 7 "is_proof" s_is_proof ["roads", "one", "other", "value"] D_is_proof [false, false, false, false] := by
  rw [D_is_proof_eq]; exact (
  Df.mk' (N := N_is_proof) T.d_is_proof sc_is_proof rfl fun f cdv A outer s H E hr => qss_cons (qs_expr (qe_o (qo_c c_check_way bd_check_way hr (by decide) (qr_val (qe_p (qp_var 0)) (qr_val (qe_p (qp_var 1)) (qr_val (qe_p (qp_var 2)) qr_nil))))))
  (qss_cons (qs_set 4 sc_is_proof.nd (qe_o (qo_c c_length_of bd_length_of hr (by decide) (qr_val (qe_p (qp_var 0)) (qr_val (qe_p (qp_var 1)) (qr_val (qe_p (qp_var 2)) qr_nil))))))
  (qss_cons (qs_if (PW.pt (qw_or (qt_not (qt_tru (qe_o (qo_c c_are_counts bd_are_counts hr (by decide) (qr_val (qe_p (qp_var 3)) (qr_val (qe_p (qp_ix o_ix opg_ix (qp_var 0) (qp_int))) qr_nil)))))) (qw_or (qt_cmp op_gt (OpN.g n_gt) (qp_callB (cr_maxS rfl) u_maxS T.f_max boot_max (qp_var 3)) (qp_var 4)) (qw_or1 (qt_cmp (op_neD hr.units) (OpN.g opn_ne) (qp_ix o_ix opg_ix (qp_var 3) (qp_var 1)) (qp_int))))))
  (qss_one (qs_ret (qo_e (qe_p (qp_bl)))))
  (qss_nil))
  (qss_one (qs_ret (qo_e (qe_cmpEP (op_eqD hr.units) (OpN.g opn_eq) (qe_o (qo_c c_proved_by bd_proved_by hr (by decide) (qr_val (qe_p (qp_var 0)) (qr_val (qe_p (qp_var 1)) (qr_val (qe_p (qp_var 2)) (qr_val (qe_p (qp_var 3)) qr_nil)))))) (qp_var 4))))))))
theorem ok__law_taken (T : Fx K mg) (c_is_proof : Df P w K mg base 7 "is_proof" s_is_proof ["roads", "one", "other", "value"] D_is_proof [false, false, false, false]) : Df P w K mg base 8 "_law_taken" s__law_taken ["roads", "one", "other", "value", "named"] D__law_taken [false, false, false, false, false] := by
  rw [D__law_taken_eq]; exact (
  Df.mk' (N := N__law_taken) T.d__law_taken sc__law_taken rfl fun f cdv A outer s H E hr => qss_one (qs_ret (qo_if (qt_truP (qp_var 4)) (qo_ck [3, 2, 1, 0] ["value", "other", "one", "roads"] c_is_proof (fun _ _ _ _ _ _ us ws hu hw => match us, hu, ws, hw with | [], _, [_, _, _, _], _ => rfl) hr (by decide) (qk_val (qe_p (qp_var 3)) (qk_val (qe_p (qp_var 2)) (qk_val (qe_p (qp_var 1)) (qk_val (qe_p (qp_var 0)) qk_nil)))) (arN_val (arN_val (arN_val (arN_val arN_nil))))) (qo_c c_is_proof bd_is_proof hr (by decide) (qr_val (qe_p (qp_var 0)) (qr_val (qe_p (qp_var 1)) (qr_val (qe_p (qp_var 2)) (qr_val (qe_p (qp_var 3)) qr_nil))))))))
theorem ok_check_ends (T : Fx K mg) (c_check_map : Df P w K mg base 5 "check_map" s_check_map ["roads"] D_check_map [false]) (c_check_place : Df P w K mg base 3 "check_place" s_check_place ["roads", "place"] D_check_place [false, false]) : Df P w K mg base 6 "check_ends" s_check_ends ["roads", "one", "other"] D_check_ends [false, false, false] := by
  rw [D_check_ends_eq]; exact (
  Df.mk' (N := N_check_ends) T.d_check_ends sc_check_ends rfl fun f cdv A outer s H E hr => qss_cons (qs_expr (qe_o (qo_c c_check_map bd_check_map hr (by decide) (qr_val (qe_p (qp_var 0)) qr_nil))))
  (qss_cons (qs_expr (qe_o (qo_c c_check_place bd_check_place hr (by decide) (qr_val (qe_p (qp_var 0)) (qr_val (qe_p (qp_var 1)) qr_nil)))))
  (qss_one (qs_expr (qe_o (qo_c c_check_place bd_check_place hr (by decide) (qr_val (qe_p (qp_var 0)) (qr_val (qe_p (qp_var 2)) qr_nil))))))))
theorem ok_are_integers (T : Fx K mg) (c_is_tuple : Df P w K mg base 1 "is_tuple" s_is_tuple ["value", "many"] D_is_tuple [false, false]) (c_is_integer : Df P w K mg base 1 "is_integer" s_is_integer ["value"] D_is_integer [false]) : Df P w K mg base 2 "are_integers" s_are_integers ["value", "many"] D_are_integers [false, false] := by
  rw [D_are_integers_eq]; exact (
  Df.mk' (N := N_are_integers) T.d_are_integers sc_are_integers rfl fun f cdv A outer s H E hr => qss_one (qs_ret (qo_e (qe_and (qe_o (qo_c c_is_tuple bd_is_tuple hr (by decide) (qr_val (qe_p (qp_var 0)) (qr_val (qe_p (qp_var 1)) qr_nil)))) (qe_one (qe_callB (cr_all rfl) u_all T.f_all boot_all (qe_o (qo_lc [("item", 2)] rfl sc_are_integers.nd (qi_seq (qe_p (qp_var 0))) (blkOk_by (N := N_are_integers) (sc := defScope s_are_integers) (by decide +kernel)) (fun _ _ _ _ _ => qg_name 2 sc_are_integers.nd) (fun _ _ _ _ _ => qts_nil) (fun _ _ _ _ _ => qe_o (qo_c c_is_integer bd_is_integer hr (by decide) (qr_val (qe_p (qp_var 2)) qr_nil)))))))))))
theorem ok_proved (T : Fx K mg) (c_check_ends : Df P w K mg base 6 "check_ends" s_check_ends ["roads", "one", "other"] D_check_ends [false, false, false]) (c_are_integers : Df P w K mg base 2 "are_integers" s_are_integers ["value", "many"] D_are_integers [false, false]) (c_proved_by : Df P w K mg base 1 "proved_by" s_proved_by ["roads", "one", "other", "heights"] D_proved_by [false, false, false, false]) : Df P w K mg base 7 "proved" s_proved ["roads", "one", "other", "heights"] D_proved [false, false, false, false] := by
  rw [D_proved_eq]; exact (
  Df.mk' (N := N_proved) T.d_proved sc_proved rfl fun f cdv A outer s H E hr => qss_cons (qs_expr (qe_o (qo_c c_check_ends bd_check_ends hr (by decide) (qr_val (qe_p (qp_var 0)) (qr_val (qe_p (qp_var 1)) (qr_val (qe_p (qp_var 2)) qr_nil))))))
  (qss_cons (qs_if (qt_not (qt_tru (qe_o (qo_c c_are_integers bd_are_integers hr (by decide) (qr_val (qe_p (qp_var 3)) (qr_val (qe_p (qp_ix o_ix opg_ix (qp_var 0) (qp_int))) qr_nil))))))
  (qss_one (qs_never))
  (qss_nil))
  (qss_one (qs_ret (qo_c c_proved_by bd_proved_by hr (by decide) (qr_val (qe_p (qp_var 0)) (qr_val (qe_p (qp_var 1)) (qr_val (qe_p (qp_var 2)) (qr_val (qe_p (qp_var 3)) qr_nil)))))))))
theorem ok__law_scaled (T : Fx K mg)  : Df P w K mg base 1 "_law_scaled" s__law_scaled ["roads", "by"] D__law_scaled [false, false] := by
  rw [D__law_scaled_eq]; exact (
  Df.mk' (N := N__law_scaled) T.d__law_scaled sc__law_scaled rfl fun f cdv A outer s H E hr => qss_one (qs_ret (qo_e (qe_tup (qa_cons (qe_p (qp_ix o_ix opg_ix (qp_var 0) (qp_int))) (qa_cons (qe_callT call_tuple_of u_tuple T.f_tuple boot_tuple (qe_callB o_sort u_sort T.f_sorted boot_sorted (qe_o (qo_lc [("a", 2), ("b", 3), ("length", 4)] rfl sc__law_scaled.nd (qi_seq (qe_p (qp_ix o_ix opg_ix (qp_var 0) (qp_int)))) (blkOk_by (N := N__law_scaled) (sc := defScope s__law_scaled) (by decide +kernel)) (fun _ _ _ _ _ => qg_tup rfl (qgs_cons (qg_name 2 sc__law_scaled.nd) (qgs_cons (qg_name 3 sc__law_scaled.nd) (qgs_cons (qg_name 4 sc__law_scaled.nd) qgs_nil)))) (fun _ _ _ _ _ => qts_nil) (fun _ _ _ _ _ => qe_p (qp_tup (qpa_cons (qp_var 2) (qpa_cons (qp_var 3) (qpa_cons (qp_bin o_times (OpN.g n_times) (qp_var 4) (qp_var 1)) qpa_nil))))))))) qa_nil))))))
theorem ok__law_tight (T : Fx K mg) (c__law_far : Df P w K mg base 1 "_law_far" s__law_far ["roads", "one"] D__law_far [false, false]) (c__law_back : Df P w K mg base 1 "_law_back" s__law_back ["roads"] D__law_back [false]) : Df P w K mg base 2 "_law_tight" s__law_tight ["roads", "one", "other"] D__law_tight [false, false, false] := by
  rw [D__law_tight_eq]; exact (
  Df.mk' (N := N__law_tight) T.d__law_tight sc__law_tight rfl fun f cdv A outer s H E hr => qss_cons (qs_parT2 3 4 rfl sc__law_tight.nd (qx_cons (qo_e (qe_o (qo_c c__law_far bd__law_far hr (by decide) (qr_val (qe_p (qp_var 0)) (qr_val (qe_p (qp_var 1)) qr_nil))))) (qx_cons (qo_e (qe_o (qo_c c__law_far bd__law_far hr (by decide) (qr_val (qe_o (qo_c c__law_back bd__law_back hr (by decide) (qr_val (qe_p (qp_var 0)) qr_nil))) (qr_val (qe_p (qp_var 2)) qr_nil))))) qx_nil)))
  (qss_cons (qs_set 5 sc__law_tight.nd (qe_p (qp_ix o_ix opg_ix (qp_var 3) (qp_var 2))))
  (qss_one (qs_ret (qo_lc [("k", 6)] rfl sc__law_tight.nd (qi_rg1 T.f_range (qa_cons (qe_p (qp_callB call_len u_len T.f_len boot_len (qp_ix o_ix opg_ix (qp_var 0) (qp_int)))) qa_nil)) (blkOk_by (N := N__law_tight) (sc := defScope s__law_tight) (by decide +kernel)) (fun _ _ _ _ _ => qg_name 6 sc__law_tight.nd) (fun _ _ _ _ _ => qts_one (PW.pt (qw_and (qt_cmp o_isnot (OpN.g n_isnot) (qp_ix o_ix opg_ix (qp_var 3) (qp_ix o_ix opg_ix (qp_ix o_ix opg_ix (qp_ix o_ix opg_ix (qp_var 0) (qp_int)) (qp_var 6)) (qp_int))) (qp_non)) (qw_and (qt_cmp o_isnot (OpN.g n_isnot) (qp_ix o_ix opg_ix (qp_var 4) (qp_ix o_ix opg_ix (qp_ix o_ix opg_ix (qp_ix o_ix opg_ix (qp_var 0) (qp_int)) (qp_var 6)) (qp_int))) (qp_non)) (qw_and1 (qt_cmp (op_eqD hr.units) (OpN.g opn_eq) (qp_bin o_add (OpN.g n_add) (qp_bin o_add (OpN.g n_add) (qp_ix o_ix opg_ix (qp_var 3) (qp_ix o_ix opg_ix (qp_ix o_ix opg_ix (qp_ix o_ix opg_ix (qp_var 0) (qp_int)) (qp_var 6)) (qp_int))) (qp_ix o_ix opg_ix (qp_ix o_ix opg_ix (qp_ix o_ix opg_ix (qp_var 0) (qp_int)) (qp_var 6)) (qp_int))) (qp_ix o_ix opg_ix (qp_var 4) (qp_ix o_ix opg_ix (qp_ix o_ix opg_ix (qp_ix o_ix opg_ix (qp_var 0) (qp_int)) (qp_var 6)) (qp_int)))) (qp_var 5))))))) (fun _ _ _ _ _ => qe_p (qp_var 6)))))))
theorem ok__law_pair_right (T : Fx K mg) (c__law_far : Df P w K mg base 1 "_law_far" s__law_far ["roads", "one"] D__law_far [false, false]) (c__law_ends : Df P w K mg base 2 "_law_ends" s__law_ends ["roads", "one", "other", "least"] D__law_ends [false, false, false, false]) (c__law_same : Df P w K mg base 6 "_law_same" s__law_same ["given", "due"] D__law_same [false, false]) (c__law_told : Df P w K mg base 8 "_law_told" s__law_told ["roads", "one", "other", "named"] D__law_told [false, false, false, false]) (c__law_all : Df P w K mg base 1 "_law_all" s__law_all ["roads", "one", "other", "least"] D__law_all [false, false, false, false]) (c__law_drawn_proof : Df P w K mg base 3 "_law_drawn_proof" s__law_drawn_proof ["box", "roads", "one", "other", "least"] D__law_drawn_proof [true, false, false, false, false]) (c__law_mixed : Df P w K mg base 2 "_law_mixed" s__law_mixed ["box", "items"] D__law_mixed [true, false]) (c__law_is : Df P w K mg base 1 "_law_is" s__law_is ["roads", "one", "other", "least", "value"] D__law_is [false, false, false, false, false]) (c__law_taken : Df P w K mg base 8 "_law_taken" s__law_taken ["roads", "one", "other", "value", "named"] D__law_taken [false, false, false, false, false]) (c__law_take : Df P w K mg base 1 "_law_take" s__law_take ["box", "many"] D__law_take [true, false]) (c__law_pick : Df P w K mg base 2 "_law_pick" s__law_pick ["box", "items"] D__law_pick [true, false]) (c_proved : Df P w K mg base 7 "proved" s_proved ["roads", "one", "other", "heights"] D_proved [false, false, false, false]) (c__law_back : Df P w K mg base 1 "_law_back" s__law_back ["roads"] D__law_back [false]) (c__law_scaled : Df P w K mg base 1 "_law_scaled" s__law_scaled ["roads", "by"] D__law_scaled [false, false]) (c__law_tight : Df P w K mg base 2 "_law_tight" s__law_tight ["roads", "one", "other"] D__law_tight [false, false, false]) : Df P w K mg base 9 "_law_pair_right" s__law_pair_right ["box", "roads", "one", "other", "named"] D__law_pair_right [true, false, false, false, false] := by
  rw [D__law_pair_right_eq]; exact (
  Df.mk' (N := N__law_pair_right) T.d__law_pair_right sc__law_pair_right rfl fun f cdv A outer s H E hr => qss_cons (qs_set 5 sc__law_pair_right.nd (qe_ix o_ix opg_ix (qe_o (qo_c c__law_far bd__law_far hr (by decide) (qr_val (qe_p (qp_var 1)) (qr_val (qe_p (qp_var 2)) qr_nil)))) (qe_p (qp_var 3))))
  (qss_cons (qs_asg (qe_o (qo_c c__law_ends bd__law_ends hr (by decide) (qr_val (qe_p (qp_var 1)) (qr_val (qe_p (qp_var 2)) (qr_val (qe_p (qp_var 3)) (qr_val (qe_p (qp_var 5)) qr_nil)))))) (qg_tup rfl (qgs_cons (qg_name 6 sc__law_pair_right.nd) (qgs_cons (qg_name 7 sc__law_pair_right.nd) qgs_nil))))
  (qss_cons (qs_if (qt_not (qt_tru (qe_cB c__law_same bd__law_same hr (by decide) (qr_val (qe_o (qo_c c__law_told bd__law_told hr (by decide) (qr_val (qe_p (qp_var 1)) (qr_val (qe_p (qp_var 2)) (qr_val (qe_p (qp_var 3)) (qr_val (qe_p (qp_var 4)) qr_nil)))))) (qr_val (qe_p (qp_lst (qpa_cons (qp_var 6) (qpa_cons (qp_var 7) qpa_nil)))) qr_nil)))))
  (qss_one (qs_ret (qo_e (qe_p (qp_bl)))))
  (qss_nil))
  (qss_cons (qs_set 8 sc__law_pair_right.nd (qe_if (PW.pt (qw_and (qt_cmp (o_lt' hr.units0) (OpN.g n_lt') (qp_var 5) (qp_int)) (qw_and1 (qt_cmp (o_lt' hr.units0) (OpN.g n_lt') (qp_ix o_ix opg_ix (qp_var 1) (qp_int)) (qp_int))))) (qe_o (qo_c c__law_all bd__law_all hr (by decide) (qr_val (qe_p (qp_var 1)) (qr_val (qe_p (qp_var 2)) (qr_val (qe_p (qp_var 3)) (qr_val (qe_p (qp_var 5)) qr_nil)))))) (qe_p (qp_non))))
  (qss_cons (qs_if (qt_cmp o_isnot (OpN.g n_isnot) (qp_var 8) (qp_non))
  (qss_cons (qs_setLc 9 [("place", 22)] rfl sc__law_pair_right.nd (qi_rg1 T.f_range (qa_cons (qe_p (qp_ix o_ix opg_ix (qp_var 1) (qp_int))) qa_nil)) (blkOk_by (N := N__law_pair_right) (sc := defScope s__law_pair_right) (by decide +kernel)) (fun _ _ _ _ _ => qg_name 22 sc__law_pair_right.nd) (fun _ _ _ _ _ => qts_nil) (fun _ _ _ _ _ => qe_o (qo_lc [("row", 23)] rfl sc__law_pair_right.nd (qi_seq (qe_p (qp_var 8))) (blkOk_by (by kernel_rfl)) (fun _ _ _ _ _ => qg_name 23 sc__law_pair_right.nd) (fun _ _ _ _ _ => qts_nil) (fun _ _ _ _ _ => qe_p (qp_ix o_ix opg_ix (qp_var 23) (qp_var 22))))))
  (qss_one (qs_if (PW.pt (qw_or (qt_cmpEP (op_neD hr.units) (OpN.g opn_ne) (qe_callT call_tuple_of u_tuple T.f_tuple boot_tuple (qe_o (qo_bor (qo_lc [("column", 24)] rfl sc__law_pair_right.nd (qi_seq (qe_frzV 9)) (blkOk_by (N := N__law_pair_right) (sc := defScope s__law_pair_right) (by decide +kernel)) (fun _ _ _ _ _ => qg_name 24 sc__law_pair_right.nd) (fun _ _ _ _ _ => qts_nil) (fun _ _ _ _ _ => qe_p (qp_callB (cr_min rfl) u_minL T.f_min boot_min (qp_var 24))))))) (qp_var 6)) (qw_or1 (qt_cmpEP (op_neD hr.units) (OpN.g opn_ne) (qe_callT call_tuple_of u_tuple T.f_tuple boot_tuple (qe_o (qo_bor (qo_lc [("column", 24)] rfl sc__law_pair_right.nd (qi_seq (qe_frzV 9)) (blkOk_by (N := N__law_pair_right) (sc := defScope s__law_pair_right) (by decide +kernel)) (fun _ _ _ _ _ => qg_name 24 sc__law_pair_right.nd) (fun _ _ _ _ _ => qts_nil) (fun _ _ _ _ _ => qe_p (qp_callB (cr_maxS rfl) u_maxS T.f_max boot_max (qp_var 24))))))) (qp_var 7)))))
  (qss_one (qs_ret (qo_e (qe_p (qp_bl)))))
  (qss_nil))))
  (qss_nil))
  (qss_cons (qs_set 8 sc__law_pair_right.nd (qe_if (qt_cmp o_isnot (OpN.g n_isnot) (qp_var 8) (qp_non)) (qe_p (qp_var 8)) (qe_binEP o_add (OpN.g n_add) (qe_o (qo_lc [("turn", 25)] rfl sc__law_pair_right.nd (qi_rg1 T.f_range (qa_cons (qe_p (qp_int)) qa_nil)) (blkOk_by (N := N__law_pair_right) (sc := defScope s__law_pair_right) (by decide +kernel)) (fun _ _ _ _ _ => qg_name 25 sc__law_pair_right.nd) (fun _ _ _ _ _ => qts_nil) (fun _ _ _ _ _ => qe_o (qo_c c__law_drawn_proof bd__law_drawn_proof hr (by decide) (qr_ref 0 (qr_val (qe_p (qp_var 1)) (qr_val (qe_p (qp_var 2)) (qr_val (qe_p (qp_var 3)) (qr_val (qe_p (qp_var 5)) qr_nil))))))))) (qp_lst (qpa_cons (qp_var 6) (qpa_cons (qp_var 7) qpa_nil))))))
  (qss_cons (qs_set 10 sc__law_pair_right.nd (qe_sl (qe_o (qo_c c__law_mixed bd__law_mixed hr (by decide) (qr_ref 0 (qr_val (qe_p (qp_var 8)) qr_nil)))) (qo_none) (qo_some (qe_p (qp_int)))))
  (qss_cons (qs_for PassesOwn.never rfl (qi_seq (qe_p (qp_var 10))) (qg_name 11 sc__law_pair_right.nd)
  (qss_cons (qs_if (PW.pt (qw_or (qt_not (qt_tru (qe_o (qo_c c__law_is bd__law_is hr (by decide) (qr_val (qe_p (qp_var 1)) (qr_val (qe_p (qp_var 2)) (qr_val (qe_p (qp_var 3)) (qr_val (qe_p (qp_var 5)) (qr_val (qe_p (qp_var 11)) qr_nil))))))))) (qw_or1 (qt_not (qt_tru (qe_cB c__law_same bd__law_same hr (by decide) (qr_val (qe_o (qo_c c__law_taken bd__law_taken hr (by decide) (qr_val (qe_p (qp_var 1)) (qr_val (qe_p (qp_var 2)) (qr_val (qe_p (qp_var 3)) (qr_val (qe_p (qp_var 11)) (qr_val (qe_p (qp_var 4)) qr_nil))))))) (qr_val (qe_p (qp_bl)) qr_nil))))))))
  (qss_one (qs_ret (qo_e (qe_p (qp_bl)))))
  (qss_nil))
  (qss_cons (qs_parT2 12 13 rfl sc__law_pair_right.nd (qx_cons (qo_e (qe_o (qo_c c__law_take bd__law_take hr (by decide) (qr_ref 0 (qr_val (qe_p (qp_ix o_ix opg_ix (qp_var 1) (qp_int))) qr_nil))))) (qx_cons (qo_e (qe_o (qo_c c__law_pick bd__law_pick hr (by decide) (qr_ref 0 (qr_val (qe_p (qp_lst (qpa_cons (qp_int) (qpa_cons (qp_neg) (qpa_cons (qp_int) qpa_nil))))) qr_nil))))) qx_nil)))
  (qss_cons (qs_set 14 sc__law_pair_right.nd (qe_bin o_add (OpN.g n_add) (qe_binEP o_add (OpN.g n_add) (qe_sl (qe_p (qp_var 11)) (qo_none) (qo_some (qe_p (qp_var 12)))) (qp_tup (qpa_cons (qp_bin o_add (OpN.g n_add) (qp_ix o_ix opg_ix (qp_var 11) (qp_var 12)) (qp_var 13)) qpa_nil))) (qe_sl (qe_p (qp_var 11)) (qo_some (qe_p (qp_bin o_add (OpN.g n_add) (qp_var 12) (qp_int)))) (qo_none))))
  (qss_cons (qs_if (qt_not (qt_tru (qe_cB c__law_same bd__law_same hr (by decide) (qr_val (qe_o (qo_c c__law_taken bd__law_taken hr (by decide) (qr_val (qe_p (qp_var 1)) (qr_val (qe_p (qp_var 2)) (qr_val (qe_p (qp_var 3)) (qr_val (qe_p (qp_var 14)) (qr_val (qe_not (qe_p (qp_var 4))) qr_nil))))))) (qr_val (qe_o (qo_c c__law_is bd__law_is hr (by decide) (qr_val (qe_p (qp_var 1)) (qr_val (qe_p (qp_var 2)) (qr_val (qe_p (qp_var 3)) (qr_val (qe_p (qp_var 5)) (qr_val (qe_p (qp_var 14)) qr_nil))))))) qr_nil)))))
  (qss_one (qs_ret (qo_e (qe_p (qp_bl)))))
  (qss_nil))
  (qss_one (qs_set 4 sc__law_pair_right.nd (qe_not (qe_p (qp_var 4))))))))))
  (qss_cons (qs_for PassesOwn.never rfl (qi_zip T.f_zip (qa_cons (qe_p (qp_var 10)) (qa_cons (qe_sl (qe_p (qp_var 10)) (qo_some (qe_p (qp_int))) (qo_none)) qa_nil))) (qg_tup rfl (qgs_cons (qg_name 15 sc__law_pair_right.nd) (qgs_cons (qg_name 16 sc__law_pair_right.nd) qgs_nil)))
  (qss_one (qs_for PassesOwn.never rfl (qi_seq (qe_tup (qa_cons (qe_callT call_tuple_of u_tuple T.f_tuple boot_tuple (qe_o (qo_lc [("a", 26), ("b", 27)] rfl sc__law_pair_right.nd (qi_zip T.f_zip (qa_cons (qe_p (qp_var 15)) (qa_cons (qe_p (qp_var 16)) qa_nil))) (blkOk_by (N := N__law_pair_right) (sc := defScope s__law_pair_right) (by decide +kernel)) (fun _ _ _ _ _ => qg_tup rfl (qgs_cons (qg_name 26 sc__law_pair_right.nd) (qgs_cons (qg_name 27 sc__law_pair_right.nd) qgs_nil))) (fun _ _ _ _ _ => qts_nil) (fun _ _ _ _ _ => qe_callA (call_min2 rfl) a_min2 T.f_min boot_min (qa_cons (qe_p (qp_var 26)) (qa_cons (qe_p (qp_var 27)) qa_nil)))))) (qa_cons (qe_callT call_tuple_of u_tuple T.f_tuple boot_tuple (qe_o (qo_lc [("a", 26), ("b", 27)] rfl sc__law_pair_right.nd (qi_zip T.f_zip (qa_cons (qe_p (qp_var 15)) (qa_cons (qe_p (qp_var 16)) qa_nil))) (blkOk_by (N := N__law_pair_right) (sc := defScope s__law_pair_right) (by decide +kernel)) (fun _ _ _ _ _ => qg_tup rfl (qgs_cons (qg_name 26 sc__law_pair_right.nd) (qgs_cons (qg_name 27 sc__law_pair_right.nd) qgs_nil))) (fun _ _ _ _ _ => qts_nil) (fun _ _ _ _ _ => qe_callA (call_max2 rfl) a_max2 T.f_max boot_max (qa_cons (qe_p (qp_var 26)) (qa_cons (qe_p (qp_var 27)) qa_nil)))))) qa_nil)))) (qg_name 11 sc__law_pair_right.nd)
  (qss_one (qs_if (qt_not (qt_tru (qe_cB c__law_same bd__law_same hr (by decide) (qr_val (qe_o (qo_c c__law_taken bd__law_taken hr (by decide) (qr_val (qe_p (qp_var 1)) (qr_val (qe_p (qp_var 2)) (qr_val (qe_p (qp_var 3)) (qr_val (qe_p (qp_var 11)) (qr_val (qe_p (qp_var 4)) qr_nil))))))) (qr_val (qe_p (qp_bl)) qr_nil)))))
  (qss_one (qs_ret (qo_e (qe_p (qp_bl)))))
  (qss_nil))))))
  (qss_cons (qs_if (PW.pt (qw_and (qt_cmp o_isnot (OpN.g n_isnot) (qp_ix o_ix opg_ix (qp_var 8) (qp_int)) (qp_non)) (qw_and (qt_cmp op_gt (OpN.g n_gt) (qp_var 5) (qp_int)) (qw_and1 (qt_cmpEP (op_neD hr.units) (OpN.g opn_ne) (qe_o (qo_lc [("value", 11)] rfl sc__law_pair_right.nd (qi_seq (qe_p (qp_var 10))) (blkOk_by (N := N__law_pair_right) (sc := defScope s__law_pair_right) (by decide +kernel)) (fun _ _ _ _ _ => qg_name 11 sc__law_pair_right.nd) (fun _ _ _ _ _ => qts_one (qt_not (qt_tru (qe_cB c__law_same bd__law_same hr (by decide) (qr_val (qe_o (qo_c c_proved bd_proved hr (by decide) (qr_val (qe_p (qp_var 1)) (qr_val (qe_p (qp_var 2)) (qr_val (qe_p (qp_var 3)) (qr_val (qe_p (qp_var 11)) qr_nil)))))) (qr_val (qe_p (qp_var 5)) qr_nil)))))) (fun _ _ _ _ _ => qe_p (qp_int)))) (qp_lst (qpa_nil)))))))
  (qss_one (qs_ret (qo_e (qe_p (qp_bl)))))
  (qss_nil))
  (qss_cons (qs_set 17 sc__law_pair_right.nd (qe_o (qo_c c__law_back bd__law_back hr (by decide) (qr_val (qe_p (qp_var 1)) qr_nil))))
  (qss_cons (qs_if (qt_not (qt_tru (qe_cB c__law_same bd__law_same hr (by decide) (qr_val (qe_o (qo_c c__law_told bd__law_told hr (by decide) (qr_val (qe_p (qp_var 17)) (qr_val (qe_p (qp_var 3)) (qr_val (qe_p (qp_var 2)) (qr_val (qe_not (qe_p (qp_var 4))) qr_nil)))))) (qr_val (qe_lst (qa_cons (qe_callT call_tuple_of u_tuple T.f_tuple boot_tuple (qe_o (qo_lc [("x", 28)] rfl sc__law_pair_right.nd (qi_seq (qe_p (qp_var 7))) (blkOk_by (N := N__law_pair_right) (sc := defScope s__law_pair_right) (by decide +kernel)) (fun _ _ _ _ _ => qg_name 28 sc__law_pair_right.nd) (fun _ _ _ _ _ => qts_nil) (fun _ _ _ _ _ => qe_p (qp_bin op_sub (OpN.g n_sub) (qp_var 5) (qp_var 28)))))) (qa_cons (qe_callT call_tuple_of u_tuple T.f_tuple boot_tuple (qe_o (qo_lc [("x", 28)] rfl sc__law_pair_right.nd (qi_seq (qe_p (qp_var 6))) (blkOk_by (N := N__law_pair_right) (sc := defScope s__law_pair_right) (by decide +kernel)) (fun _ _ _ _ _ => qg_name 28 sc__law_pair_right.nd) (fun _ _ _ _ _ => qts_nil) (fun _ _ _ _ _ => qe_p (qp_bin op_sub (OpN.g n_sub) (qp_var 5) (qp_var 28)))))) qa_nil))) qr_nil)))))
  (qss_one (qs_ret (qo_e (qe_p (qp_bl)))))
  (qss_nil))
  (qss_cons (qs_set 13 sc__law_pair_right.nd (qe_o (qo_c c__law_pick bd__law_pick hr (by decide) (qr_ref 0 (qr_val (qe_p (qp_lst (qpa_cons (qp_int) (qpa_cons (qp_bin op_powW (OpN.g n_powW) (qp_bin op_pow (OpN.g n_pow) (qp_int) (qp_int)) (qp_int)) qpa_nil)))) qr_nil)))))
  (qss_cons (qs_if (qt_not (qt_tru (qe_cB c__law_same bd__law_same hr (by decide) (qr_val (qe_o (qo_c c__law_told bd__law_told hr (by decide) (qr_val (qe_o (qo_c c__law_scaled bd__law_scaled hr (by decide) (qr_val (qe_p (qp_var 1)) (qr_val (qe_p (qp_var 13)) qr_nil)))) (qr_val (qe_p (qp_var 2)) (qr_val (qe_p (qp_var 3)) (qr_val (qe_p (qp_var 4)) qr_nil)))))) (qr_val (qe_lst (qa_cons (qe_callT call_tuple_of u_tuple T.f_tuple boot_tuple (qe_o (qo_lc [("x", 28)] rfl sc__law_pair_right.nd (qi_seq (qe_p (qp_var 6))) (blkOk_by (N := N__law_pair_right) (sc := defScope s__law_pair_right) (by decide +kernel)) (fun _ _ _ _ _ => qg_name 28 sc__law_pair_right.nd) (fun _ _ _ _ _ => qts_nil) (fun _ _ _ _ _ => qe_p (qp_bin o_times (OpN.g n_times) (qp_var 28) (qp_var 13)))))) (qa_cons (qe_callT call_tuple_of u_tuple T.f_tuple boot_tuple (qe_o (qo_lc [("x", 28)] rfl sc__law_pair_right.nd (qi_seq (qe_p (qp_var 7))) (blkOk_by (N := N__law_pair_right) (sc := defScope s__law_pair_right) (by decide +kernel)) (fun _ _ _ _ _ => qg_name 28 sc__law_pair_right.nd) (fun _ _ _ _ _ => qts_nil) (fun _ _ _ _ _ => qe_p (qp_bin o_times (OpN.g n_times) (qp_var 28) (qp_var 13)))))) qa_nil))) qr_nil)))))
  (qss_one (qs_ret (qo_e (qe_p (qp_bl)))))
  (qss_nil))
  (qss_cons (qs_for PassesOwn.never rfl (qi_seq (qe_sl (qe_p (qp_var 10)) (qo_none) (qo_some (qe_p (qp_int))))) (qg_name 11 sc__law_pair_right.nd)
  (qss_cons (qs_set 18 sc__law_pair_right.nd (qe_lst (qa_cons (qe_o (qo_c c__law_taken bd__law_taken hr (by decide) (qr_val (qe_p (qp_var 17)) (qr_val (qe_p (qp_var 3)) (qr_val (qe_p (qp_var 2)) (qr_val (qe_callT call_tuple_of u_tuple T.f_tuple boot_tuple (qe_o (qo_lc [("x", 28)] rfl sc__law_pair_right.nd (qi_seq (qe_p (qp_var 11))) (blkOk_by (N := N__law_pair_right) (sc := defScope s__law_pair_right) (by decide +kernel)) (fun _ _ _ _ _ => qg_name 28 sc__law_pair_right.nd) (fun _ _ _ _ _ => qts_nil) (fun _ _ _ _ _ => qe_p (qp_bin op_sub (OpN.g n_sub) (qp_var 5) (qp_var 28)))))) (qr_val (qe_p (qp_var 4)) qr_nil))))))) (qa_cons (qe_o (qo_c c__law_taken bd__law_taken hr (by decide) (qr_val (qe_o (qo_c c__law_scaled bd__law_scaled hr (by decide) (qr_val (qe_p (qp_var 1)) (qr_val (qe_p (qp_var 13)) qr_nil)))) (qr_val (qe_p (qp_var 2)) (qr_val (qe_p (qp_var 3)) (qr_val (qe_callT call_tuple_of u_tuple T.f_tuple boot_tuple (qe_o (qo_lc [("x", 28)] rfl sc__law_pair_right.nd (qi_seq (qe_p (qp_var 11))) (blkOk_by (N := N__law_pair_right) (sc := defScope s__law_pair_right) (by decide +kernel)) (fun _ _ _ _ _ => qg_name 28 sc__law_pair_right.nd) (fun _ _ _ _ _ => qts_nil) (fun _ _ _ _ _ => qe_p (qp_bin o_times (OpN.g n_times) (qp_var 28) (qp_var 13)))))) (qr_val (qe_not (qe_p (qp_var 4))) qr_nil))))))) qa_nil))))
  (qss_one (qs_if (qt_not (qt_tru (qe_cB c__law_same bd__law_same hr (by decide) (qr_val (qe_p (qp_var 18)) (qr_val (qe_p (qp_lst (qpa_cons (qp_bl) (qpa_cons (qp_bl) qpa_nil)))) qr_nil)))))
  (qss_one (qs_ret (qo_e (qe_p (qp_bl)))))
  (qss_nil)))))
  (qss_cons (qs_setLc 19 [("k", 20)] rfl sc__law_pair_right.nd (qi_rg1 T.f_range (qa_cons (qe_p (qp_callB call_len u_len T.f_len boot_len (qp_ix o_ix opg_ix (qp_var 1) (qp_int)))) qa_nil)) (blkOk_by (N := N__law_pair_right) (sc := defScope s__law_pair_right) (by decide +kernel)) (fun _ _ _ _ _ => qg_name 20 sc__law_pair_right.nd) (fun _ _ _ _ _ => qts_one (qt_cmpE (o_notin (Room.u65 hr)) (OpN.g n_notin) (qe_p (qp_var 20)) (qe_o (qo_c c__law_tight bd__law_tight hr (by decide) (qr_val (qe_p (qp_var 1)) (qr_val (qe_p (qp_var 2)) (qr_val (qe_p (qp_var 3)) qr_nil))))))) (fun _ _ _ _ _ => qe_p (qp_var 20)))
  (qss_cons (qs_if (qt_cmp (op_neD hr.units) (OpN.g opn_ne) (qp_var 19) (qp_lst (qpa_nil)))
  (qss_cons (qs_set 20 sc__law_pair_right.nd (qe_o (qo_c c__law_pick bd__law_pick hr (by decide) (qr_ref 0 (qr_val (qe_frzV 19) qr_nil)))))
  (qss_cons (qs_set 21 sc__law_pair_right.nd (qe_tup (qa_cons (qe_p (qp_ix o_ix opg_ix (qp_var 1) (qp_int))) (qa_cons (qe_bin o_add (OpN.g n_add) (qe_sl (qe_p (qp_ix o_ix opg_ix (qp_var 1) (qp_int))) (qo_none) (qo_some (qe_p (qp_var 20)))) (qe_sl (qe_p (qp_ix o_ix opg_ix (qp_var 1) (qp_int))) (qo_some (qe_p (qp_bin o_add (OpN.g n_add) (qp_var 20) (qp_int)))) (qo_none))) qa_nil))))
  (qss_cons (qs_set 18 sc__law_pair_right.nd (qe_o (qo_c c__law_told bd__law_told hr (by decide) (qr_val (qe_p (qp_var 21)) (qr_val (qe_p (qp_var 2)) (qr_val (qe_p (qp_var 3)) (qr_val (qe_p (qp_var 4)) qr_nil)))))))
  (qss_cons (qs_if (PW.pt (qw_or (qt_not (qt_tru (qe_cB c__law_same bd__law_same hr (by decide) (qr_val (qe_p (qp_var 18)) (qr_val (qe_callT call_list_of u_list T.f_list boot_list (qe_o (qo_c c__law_ends bd__law_ends hr (by decide) (qr_val (qe_p (qp_var 21)) (qr_val (qe_p (qp_var 2)) (qr_val (qe_p (qp_var 3)) (qr_val (qe_p (qp_var 5)) qr_nil))))))) qr_nil))))) (qw_or (qt_cmpEP (op_neD hr.units) (OpN.g opn_ne) (qe_o (qo_lc [("a", 26), ("b", 27)] rfl sc__law_pair_right.nd (qi_zip T.f_zip (qa_cons (qe_p (qp_ix o_ix opg_ix (qp_var 18) (qp_int))) (qa_cons (qe_p (qp_var 6)) qa_nil))) (blkOk_by (N := N__law_pair_right) (sc := defScope s__law_pair_right) (by decide +kernel)) (fun _ _ _ _ _ => qg_tup rfl (qgs_cons (qg_name 26 sc__law_pair_right.nd) (qgs_cons (qg_name 27 sc__law_pair_right.nd) qgs_nil))) (fun _ _ _ _ _ => qts_one (qt_cmp op_gt (OpN.g n_gt) (qp_var 26) (qp_var 27))) (fun _ _ _ _ _ => qe_p (qp_int)))) (qp_lst (qpa_nil))) (qw_or1 (qt_cmpEP (op_neD hr.units) (OpN.g opn_ne) (qe_o (qo_lc [("a", 26), ("b", 27)] rfl sc__law_pair_right.nd (qi_zip T.f_zip (qa_cons (qe_p (qp_ix o_ix opg_ix (qp_var 18) (qp_int))) (qa_cons (qe_p (qp_var 7)) qa_nil))) (blkOk_by (N := N__law_pair_right) (sc := defScope s__law_pair_right) (by decide +kernel)) (fun _ _ _ _ _ => qg_tup rfl (qgs_cons (qg_name 26 sc__law_pair_right.nd) (qgs_cons (qg_name 27 sc__law_pair_right.nd) qgs_nil))) (fun _ _ _ _ _ => qts_one (qt_cmp (o_lt' hr.units0) (OpN.g n_lt') (qp_var 26) (qp_var 27))) (fun _ _ _ _ _ => qe_p (qp_int)))) (qp_lst (qpa_nil)))))))
  (qss_one (qs_ret (qo_e (qe_p (qp_bl)))))
  (qss_nil))
  (qss_one (qs_ret (qo_e (qe_cB c__law_same bd__law_same hr (by decide) (qr_val (qe_o (qo_lc [("value", 11)] rfl sc__law_pair_right.nd (qi_seq (qe_p (qp_var 10))) (blkOk_by (N := N__law_pair_right) (sc := defScope s__law_pair_right) (by decide +kernel)) (fun _ _ _ _ _ => qg_name 11 sc__law_pair_right.nd) (fun _ _ _ _ _ => qts_nil) (fun _ _ _ _ _ => qe_o (qo_c c__law_taken bd__law_taken hr (by decide) (qr_val (qe_p (qp_var 21)) (qr_val (qe_p (qp_var 2)) (qr_val (qe_p (qp_var 3)) (qr_val (qe_p (qp_var 11)) (qr_val (qe_p (qp_var 4)) qr_nil))))))))) (qr_val (qe_p (qp_bin o_times (OpN.g n_times) (qp_lst (qpa_cons (qp_bl) qpa_nil)) (qp_callB call_len u_len T.f_len boot_len (qp_var 10)))) qr_nil))))))))))
  (qss_nil))
  (qss_one (qs_ret (qo_e (qe_p (qp_bl))))))))))))))))))))))
theorem ok__law_row_right_rvvv (T : Fx K mg) (c__law_far : Df P w K mg base 1 "_law_far" s__law_far ["roads", "one"] D__law_far [false, false]) (c__law_ends : Df P w K mg base 2 "_law_ends" s__law_ends ["roads", "one", "other", "least"] D__law_ends [false, false, false, false]) (c__law_is : Df P w K mg base 1 "_law_is" s__law_is ["roads", "one", "other", "least", "value"] D__law_is [false, false, false, false, false]) (c__law_same : Df P w K mg base 6 "_law_same" s__law_same ["given", "due"] D__law_same [false, false]) (c__law_taken : Df P w K mg base 8 "_law_taken" s__law_taken ["roads", "one", "other", "value", "named"] D__law_taken [false, false, false, false, false]) : Df P w K mg base 9 "_law_row_right" s__law_row_right ["box", "first", "second", "named"] D__law_row_right_rvvv [true, false, false, false] := by
  rw [D__law_row_right_rvvv_eq]; exact (
  Df.mk' (N := N__law_row_right_rvvv) T.d__law_row_right sc__law_row_right_rvvv rfl fun f cdv A outer s H E hr => qss_cons (qs_parT2 4 5 rfl sc__law_row_right_rvvv.nd (qx_cons (qo_e (qe_p (qp_int))) (qx_cons (qo_e (qe_p (qp_bin op_sub (OpN.g n_sub) (qp_ix o_ix opg_ix (qp_var 1) (qp_int)) (qp_int)))) qx_nil)))
  (qss_cons (qs_set 6 sc__law_row_right_rvvv.nd (qe_lst (qa_cons (qe_ix o_ix opg_ix (qe_o (qo_c c__law_far bd__law_far hr (by decide) (qr_val (qe_p (qp_var 1)) (qr_val (qe_p (qp_int)) qr_nil)))) (qe_p (qp_var 5))) (qa_cons (qe_ix o_ix opg_ix (qe_o (qo_c c__law_far bd__law_far hr (by decide) (qr_val (qe_p (qp_var 2)) (qr_val (qe_p (qp_int)) qr_nil)))) (qe_p (qp_bin op_sub (OpN.g n_sub) (qp_ix o_ix opg_ix (qp_var 2) (qp_int)) (qp_int)))) qa_nil))))
  (qss_cons (qs_if (qt_cmp (o_in (Room.u65 hr)) (OpN.g n_in) (qp_non) (qp_var 6))
  (qss_one (qs_ret (qo_e (qe_p (qp_bl)))))
  (qss_nil))
  (qss_cons (qs_set 7 sc__law_row_right_rvvv.nd (qe_bin o_add (OpN.g n_add) (qe_callT call_list_of u_list T.f_list boot_list (qe_p (qp_ix o_ix opg_ix (qp_var 1) (qp_int)))) (qe_o (qo_lc [("a", 13), ("b", 14), ("length", 15)] rfl sc__law_row_right_rvvv.nd (qi_seq (qe_p (qp_ix o_ix opg_ix (qp_var 2) (qp_int)))) (blkOk_by (N := N__law_row_right_rvvv) (sc := defScope s__law_row_right) (by decide +kernel)) (fun _ _ _ _ _ => qg_tup rfl (qgs_cons (qg_name 13 sc__law_row_right_rvvv.nd) (qgs_cons (qg_name 14 sc__law_row_right_rvvv.nd) (qgs_cons (qg_name 15 sc__law_row_right_rvvv.nd) qgs_nil)))) (fun _ _ _ _ _ => qts_nil) (fun _ _ _ _ _ => qe_p (qp_tup (qpa_cons (qp_bin o_add (OpN.g n_add) (qp_var 13) (qp_var 5)) (qpa_cons (qp_bin o_add (OpN.g n_add) (qp_var 14) (qp_var 5)) (qpa_cons (qp_var 15) qpa_nil)))))))))
  (qss_cons (qs_set 8 sc__law_row_right_rvvv.nd (qe_tup (qa_cons (qe_p (qp_bin op_sub (OpN.g n_sub) (qp_bin o_add (OpN.g n_add) (qp_ix o_ix opg_ix (qp_var 1) (qp_int)) (qp_ix o_ix opg_ix (qp_var 2) (qp_int))) (qp_int))) (qa_cons (qe_callT call_tuple_of u_tuple T.f_tuple boot_tuple (qe_callB o_sort u_sort T.f_sorted boot_sorted (qe_p (qp_var 7)))) qa_nil))))
  (qss_cons (qs_set 9 sc__law_row_right_rvvv.nd (qe_lst (qa_cons (qe_o (qo_c c__law_ends bd__law_ends hr (by decide) (qr_val (qe_p (qp_var 1)) (qr_val (qe_p (qp_int)) (qr_val (qe_p (qp_var 5)) (qr_val (qe_p (qp_ix o_ix opg_ix (qp_var 6) (qp_int))) qr_nil)))))) (qa_cons (qe_o (qo_c c__law_ends bd__law_ends hr (by decide) (qr_val (qe_p (qp_var 2)) (qr_val (qe_p (qp_int)) (qr_val (qe_p (qp_bin op_sub (OpN.g n_sub) (qp_ix o_ix opg_ix (qp_var 2) (qp_int)) (qp_int))) (qr_val (qe_p (qp_ix o_ix opg_ix (qp_var 6) (qp_int))) qr_nil)))))) qa_nil))))
  (qss_cons (qs_for PassesOwn.never rfl (qi_seq (qe_p (qp_ix o_ix opg_ix (qp_var 9) (qp_int)))) (qg_name 10 sc__law_row_right_rvvv.nd)
  (qss_one (qs_for PassesOwn.never rfl (qi_seq (qe_p (qp_ix o_ix opg_ix (qp_var 9) (qp_int)))) (qg_name 11 sc__law_row_right_rvvv.nd)
  (qss_cons (qs_set 12 sc__law_row_right_rvvv.nd (qe_bin o_add (OpN.g n_add) (qe_p (qp_var 10)) (qe_callT call_tuple_of u_tuple T.f_tuple boot_tuple (qe_o (qo_lc [("x", 16)] rfl sc__law_row_right_rvvv.nd (qi_seq (qe_sl (qe_p (qp_var 11)) (qo_some (qe_p (qp_int))) (qo_none))) (blkOk_by (N := N__law_row_right_rvvv) (sc := defScope s__law_row_right) (by decide +kernel)) (fun _ _ _ _ _ => qg_name 16 sc__law_row_right_rvvv.nd) (fun _ _ _ _ _ => qts_nil) (fun _ _ _ _ _ => qe_p (qp_bin o_add (OpN.g n_add) (qp_var 16) (qp_ix o_ix opg_ix (qp_var 6) (qp_int)))))))))
  (qss_cons (qs_if (PW.pt (qw_or (qt_not (qt_tru (qe_o (qo_c c__law_is bd__law_is hr (by decide) (qr_val (qe_p (qp_var 8)) (qr_val (qe_p (qp_var 4)) (qr_val (qe_p (qp_bin op_sub (OpN.g n_sub) (qp_ix o_ix opg_ix (qp_var 8) (qp_int)) (qp_int))) (qr_val (qe_p (qp_callB (cr_sum rfl) u_sum T.f_sum boot_sum (qp_var 6))) (qr_val (qe_p (qp_var 12)) qr_nil))))))))) (qw_or1 (qt_not (qt_tru (qe_cB c__law_same bd__law_same hr (by decide) (qr_val (qe_o (qo_c c__law_taken bd__law_taken hr (by decide) (qr_val (qe_p (qp_var 8)) (qr_val (qe_p (qp_var 4)) (qr_val (qe_p (qp_bin op_sub (OpN.g n_sub) (qp_ix o_ix opg_ix (qp_var 8) (qp_int)) (qp_int))) (qr_val (qe_p (qp_var 12)) (qr_val (qe_p (qp_var 3)) qr_nil))))))) (qr_val (qe_p (qp_bl)) qr_nil))))))))
  (qss_one (qs_ret (qo_e (qe_p (qp_bl)))))
  (qss_nil))
  (qss_one (qs_set 3 sc__law_row_right_rvvv.nd (qe_not (qe_p (qp_var 3))))))))))
  (qss_one (qs_ret (qo_e (qe_p (qp_bl))))))))))))
theorem ok_law (T : Fx K mg) (c__law_box : Df P w K mg base 1 "_law_box" s__law_box ["great"] D__law_box [false]) (c__law_cell : Df P w K mg base 1 "_law_cell" s__law_cell ["script", "k"] D__law_cell [false, false]) (c__law_take : Df P w K mg base 1 "_law_take" s__law_take ["box", "many"] D__law_take [true, false]) (c__law_drawn_map : Df P w K mg base 3 "_law_drawn_map" s__law_drawn_map ["box", "most", "count"] D__law_drawn_map [true, false, false]) (c__law_far : Df P w K mg base 1 "_law_far" s__law_far ["roads", "one"] D__law_far [false, false]) (c__law_mixed_rr : Df P w K mg base 2 "_law_mixed" s__law_mixed ["box", "items"] D__law_mixed_rr [true, true]) (c__law_pair_right : Df P w K mg base 9 "_law_pair_right" s__law_pair_right ["box", "roads", "one", "other", "named"] D__law_pair_right [true, false, false, false, false]) (c__law_row_right_rvvv : Df P w K mg base 9 "_law_row_right" s__law_row_right ["box", "first", "second", "named"] D__law_row_right_rvvv [true, false, false, false]) : Df P w K mg base 10 "law" s_law ["script"] D_law [false] := by
  rw [D_law_eq]; exact (
  Df.mk' (N := N_law) T.d_law sc_law rfl fun f cdv A outer s H E hr => qss_cons (qs_for PassesOwn.never rfl (qi_rg1 T.f_range (qa_cons (qe_callA (call_max2 rfl) a_max2 T.f_max boot_max (qa_cons (qe_p (qp_int)) (qa_cons (qe_callA (call_min2 rfl) a_min2 T.f_min boot_min (qa_cons (qe_p (qp_int)) (qa_cons (qe_p (qp_callB call_len u_len T.f_len boot_len (qp_var 0))) qa_nil))) qa_nil))) qa_nil)) (qg_name 1 sc_law.nd)
  (qss_cons (qs_setO 2 sc_law.nd (qo_c c__law_box bd__law_box hr (by decide) (qr_val (qe_o (qo_c c__law_cell bd__law_cell hr (by decide) (qr_val (qe_p (qp_var 0)) (qr_val (qe_p (qp_var 1)) qr_nil)))) qr_nil)))
  (qss_cons (qs_par2 3 4 rfl sc_law.nd (qx_cons (qo_e (qe_cmpEP (op_eqD hr.units) (OpN.g opn_eq) (qe_o (qo_c c__law_take bd__law_take hr (by decide) (qr_ref 2 (qr_val (qe_p (qp_int)) qr_nil)))) (qp_int))) (qx_cons (qo_e (qe_o (qo_lc [("turn", 10)] rfl sc_law.nd (qi_rg1 T.f_range (qa_cons (qe_p (qp_int)) qa_nil)) (blkOk_by (N := N_law) (sc := defScope s_law) (by decide +kernel)) (fun _ _ _ _ _ => qg_name 10 sc_law.nd) (fun _ _ _ _ _ => qts_nil) (fun _ _ _ _ _ => qe_o (qo_c c__law_drawn_map bd__law_drawn_map hr (by decide) (qr_ref 2 (qr_val (qe_p (qp_int)) (qr_val (qe_bin o_add (OpN.g n_add) (qe_p (qp_int)) (qe_o (qo_c c__law_take bd__law_take hr (by decide) (qr_ref 2 (qr_val (qe_p (qp_int)) qr_nil))))) qr_nil)))))))) qx_nil)))
  (qss_cons (qs_for PassesOwn.never rfl (qi_seq (qe_p (qp_var 4))) (qg_name 5 sc_law.nd)
  (qss_cons (qs_setO 6 sc_law.nd (qo_lst (qa_nil)))
  (qss_cons (qs_for PassesOwn.never rfl (qi_rg1 T.f_range (qa_cons (qe_p (qp_ix o_ix opg_ix (qp_var 5) (qp_int))) qa_nil)) (qg_name 7 sc_law.nd)
  (qss_cons (qs_set 8 sc_law.nd (qe_o (qo_c c__law_far bd__law_far hr (by decide) (qr_val (qe_p (qp_var 5)) (qr_val (qe_p (qp_var 7)) qr_nil)))))
  (qss_one (qs_expr (qe_meth 6 PySem.F.slot_list_extend PySem.F.type_list_extend mt_extendR m_extend (qa_cons (qe_o (qo_lc [("other", 9)] rfl sc_law.nd (qi_rg1 T.f_range (qa_cons (qe_p (qp_ix o_ix opg_ix (qp_var 5) (qp_int))) qa_nil)) (blkOk_by (N := N_law) (sc := defScope s_law) (by decide +kernel)) (fun _ _ _ _ _ => qg_name 9 sc_law.nd) (fun _ _ _ _ _ => qts_one (PW.pt (qw_and (qt_cmp (op_neD hr.units) (OpN.g opn_ne) (qp_var 9) (qp_var 7)) (qw_and1 (qt_cmp o_isnot (OpN.g n_isnot) (qp_ix o_ix opg_ix (qp_var 8) (qp_var 9)) (qp_non)))))) (fun _ _ _ _ _ => qe_p (qp_tup (qpa_cons (qp_var 7) (qpa_cons (qp_var 9) qpa_nil)))))) qa_nil))))))
  (qss_one (qs_for PassesOwn.never rfl (qi_seq (qe_sl (qe_o (qo_c c__law_mixed_rr bd__law_mixed hr (by decide) (qr_ref 2 (qr_ref 6 qr_nil)))) (qo_none) (qo_some (qe_p (qp_int))))) (qg_tup rfl (qgs_cons (qg_name 7 sc_law.nd) (qgs_cons (qg_name 9 sc_law.nd) qgs_nil)))
  (qss_cons (qs_if (qt_not (qt_tru (qe_o (qo_c c__law_pair_right bd__law_pair_right hr (by decide) (qr_ref 2 (qr_val (qe_p (qp_var 5)) (qr_val (qe_p (qp_var 7)) (qr_val (qe_p (qp_var 9)) (qr_val (qe_p (qp_var 3)) qr_nil)))))))))
  (qss_one (qs_ret (qo_e (qe_p (qp_bl)))))
  (qss_nil))
  (qss_one (qs_set 3 sc_law.nd (qe_not (qe_p (qp_var 3)))))))))))
  (qss_one (qs_if (qt_not (qt_tru (qe_o (qo_c c__law_row_right_rvvv bd__law_row_right hr (by decide) (qr_ref 2 (qr_val (qe_p (qp_ix o_ix opg_ix (qp_var 4) (qp_int))) (qr_val (qe_p (qp_ix o_ix opg_ix (qp_var 4) (qp_int))) (qr_val (qe_p (qp_var 3)) qr_nil))))))))
  (qss_one (qs_ret (qo_e (qe_p (qp_bl)))))
  (qss_nil)))))))
  (qss_one (qs_ret (qo_e (qe_p (qp_bl))))))
end
end Dn.W

set_option Elab.async false
set_option linter.all false
set_option maxRecDepth 100000
set_option maxHeartbeats 2000000
namespace Dn.W
open PySem PySem.Spec PyProof.Rows L2 Dn
def boxD (g : Int) (b : Bool) (h c : Int) : PyData := .list [.int g, .bool b, .int h, .int c]
/-- the box of draws: m bounds how many were drawn -/
def Box (m : Int) (d : PyData) : Prop := ∃ g b h c, d = boxD g b h c ∧ 0 ≤ g ∧ 0 ≤ h ∧ h < 2147483629 ∧ 0 ≤ c ∧ c ≤ m
theorem Box.up {m m' : Int} {d : PyData} (h : Box m d) (q : m ≤ m') : Box m' d := by
  obtain ⟨g, b, x, c, e, h1, h2, h3, h4, h5⟩ := h
  exact ⟨g, b, x, c, e, h1, h2, h3, h4, by omega⟩
theorem Box.list {m : Int} {d : PyData} (h : Box m d) : ∃ ds, d = .list ds := by
  obtain ⟨g, b, x, c, e, _⟩ := h
  exact ⟨_, e⟩
theorem log2_small {n : Nat} (h : n < 2 ^ 64) : n.log2 < 64 := by
  rcases Nat.eq_zero_or_pos n with z | z
  · subst z; decide
  · exact (Nat.log2_lt (Nat.ne_of_gt z)).mpr h
theorem okMul_small {i j : Int} (hi : i.natAbs < 2 ^ 64) (hj : j.natAbs < 2 ^ 64) : okMul i j = true := by
  have := log2_small hi
  have := log2_small hj
  unfold okMul; exact decI (by omega)
theorem okPow_small {i j : Int} (hi : i.natAbs < 2 ^ 64) (h0 : 0 ≤ j) (h1 : j ≤ 1000000) : okPow i j = true := by
  unfold okPow; exact decI ⟨h0, h1, hi⟩
theorem okDiv_small {i j : Int} (h : 0 < j) (hj : j < 2 ^ 64) : okDiv i j = true := by
  have := log2_small (n := j.natAbs) (by omega)
  unfold okDiv; exact decI ⟨h, by omega⟩
theorem take_spec {m many : Int} {d : PyData} (hb : Box m d) (hm : m < 10 ^ 11) (h0 : 0 < many) (h1 : many < 2 ^ 64) :
    ∃ (v : Int) (d' : PyData), 0 ≤ v ∧ v < many ∧ Box (m + 1) d' ∧ D__law_take [(1, d), (0, .int many)] = some ((0, .int v), [(1, d')]) := by
  obtain ⟨g, b, h, c, rfl, g0, hh0, hh1, c0, c1⟩ := hb
  by_cases hc : b = true ∧ 0 < g
  · obtain ⟨rfl, hg⟩ := hc
    have e1 : okDiv g many = true := okDiv_small h0 h1
    refine ⟨g % many, boxD (g / many) true h c, Int.emod_nonneg _ (by omega), Int.emod_lt_of_pos _ h0, ⟨_, _, _, _, rfl, Int.ediv_nonneg g0 (by omega), hh0, hh1, c0, by omega⟩, ?_⟩
    simp [D__law_take_eq, fnSem_ap, b__law_take, boxD, L2.atI, ixN, hg, gMod_int h0, gDiv_int e1]
  · have q1 : gTimes (.int 15487161) (.int (c + 1)) = _ := gTimes_int (okMul_small (by omega) (by omega))
    have q2 : gPow (.int (h + 15487161 * (c + 1) + 179429289)) (.int 5) = _ := gPow_int (okPow_small (by omega) (by decide) (by decide))
    have r1 : ∀ x : Int, 0 ≤ x % 2147483647 ∧ x % 2147483647 < 2147483647 := fun x => ⟨Int.emod_nonneg _ (by decide), Int.emod_lt_of_pos _ (by decide)⟩
    obtain ⟨p1, p2⟩ := r1 ((h + 15487161 * (c + 1) + 179429289) ^ 5)
    have q3 : gMod (.int ((h + 15487161 * (c + 1) + 179429289) ^ 5)) (.int 2147483647) = _ := gMod_int (by decide)
    generalize (h + 15487161 * (c + 1) + 179429289) ^ 5 % 2147483647 = mixed at p1 p2 q3
    have q4 : gTimes (.int mixed) (.int 48271) = _ := gTimes_int (okMul_small (by omega) (by decide))
    have q5 : gTimes (.int 6273) (.int (c + 1)) = _ := gTimes_int (okMul_small (by decide) (by omega))
    have q6 : gPow (.int (mixed * 48271 + 6273 * (c + 1))) (.int 3) = _ := gPow_int (okPow_small (by omega) (by decide) (by decide))
    have q7 : ∀ x : Int, gMod (.int x) (.int 2147483587) = some (.int (x % 2147483587)) := fun x => gMod_int (by decide)
    have q8 : ∀ x : Int, gDiv (.int x) (.int 64) = some (.int (x / 64)) := fun x => gDiv_int (okDiv_small (by decide) (by decide))
    have q9 : ∀ x : Int, gMod (.int x) (.int many) = some (.int (x % many)) := fun x => gMod_int h0
    have e5 : ((5 : Int).toNat) = 5 := rfl
    have e3 : ((3 : Int).toNat) = 3 := rfl
    rw [e5] at q2
    rw [e3] at q6
    refine ⟨(mixed * 48271 + 6273 * (c + 1)) ^ 3 % 2147483587 / 64 % many, boxD g b h (c + 1), Int.emod_nonneg _ (by omega), Int.emod_lt_of_pos _ h0, ⟨_, _, _, _, rfl, g0, hh0, hh1, by omega, by omega⟩, ?_⟩
    cases b with
    | false => simp [D__law_take_eq, fnSem_ap, b__law_take, boxD, L2.atI, ixN, q1, q2, q3, q4, q5, q6, q7, q8, q9]
    | true =>
      have hg : ¬ 0 < g := fun z => hc ⟨rfl, z⟩
      simp [D__law_take_eq, fnSem_ap, b__law_take, boxD, L2.atI, ixN, hg, q1, q2, q3, q4, q5, q6, q7, q8, q9]
end Dn.W

set_option Elab.async false
set_option linter.all false
set_option maxRecDepth 100000
set_option maxHeartbeats 2000000
namespace Dn
open PySem PySem.Spec PyProof.Rows L2
/-- a for loop, by an invariant -/
theorem forL {g : DG} {b : DS} (I : Nat → En → Prop) (Ex : Fl → En → Prop) : ∀ (ds : List PyData) (env : En) (k : Nat), I k env →
    (∀ i d env, ds[i]? = some d → I (k + i) env → ∃ e1, g d env = some e1 ∧ ∃ fl e2, b e1 = some (fl, e2) ∧ ((fl = .nx ∨ fl = .ct) ∧ I (k + i + 1) e2 ∨ fl = .bk ∧ Ex .nx e2 ∨ ∃ r, fl = .rt r ∧ Ex (.rt r) e2)) →
    ∃ fl env', dForL g b ds env = some (fl, env') ∧ (fl = .nx ∧ I (k + ds.length) env' ∨ Ex fl env')
  | [], env, k, h, _ => ⟨.nx, env, rfl, .inl ⟨rfl, h⟩⟩
  | d :: ds, env, k, h, st => by
    obtain ⟨e1, h1, fl, e2, h2, h3⟩ := st 0 d env rfl h
    rw [dForL_cons, h1]
    simp only [h2]
    rcases h3 with ⟨hf, hi⟩ | ⟨rfl, hx⟩ | ⟨r, rfl, hx⟩
    · obtain ⟨fl', env', h4, h5⟩ := forL I Ex ds e2 (k + 1) hi fun i d env hd hI => by
        have := st (i + 1) d env (by simpa using hd) (by rw [show k + (i + 1) = k + 1 + i by omega]; exact hI)
        rw [show k + (i + 1) + 1 = k + 1 + i + 1 by omega] at this
        exact this
      refine ⟨fl', env', ?_, ?_⟩
      · rcases hf with rfl | rfl <;> exact h4
      · rw [List.length_cons, show k + (ds.length + 1) = k + 1 + ds.length by omega]; exact h5
    · exact ⟨.nx, e2, rfl, .inr hx⟩
    · exact ⟨.rt r, e2, rfl, .inr hx⟩
/-- .. that is not left early -/
theorem forN {g : DG} {b : DS} (I : Nat → En → Prop) (ds : List PyData) (env : En) (h : I 0 env)
    (st : ∀ i d env, ds[i]? = some d → I i env → ∃ e1, g d env = some e1 ∧ ∃ e2, b e1 = some (.nx, e2) ∧ I (i + 1) e2) : ∃ env', dForL g b ds env = some (.nx, env') ∧ I ds.length env' := by
  obtain ⟨fl, env', h1, h2⟩ := forL (g := g) (b := b) I (fun _ _ => False) ds env 0 h fun i d env hd hI => by
    rw [Nat.zero_add] at hI ⊢
    obtain ⟨e1, q1, e2, q2, q3⟩ := st i d env hd hI
    exact ⟨e1, q1, .nx, e2, q2, .inl ⟨.inl rfl, q3⟩⟩
  rcases h2 with ⟨rfl, h2⟩ | h2
  · exact ⟨env', h1, by simpa using h2⟩
  · exact h2.elim
/-- a while loop, by an invariant and a measure -/
theorem whileN {τ : DT} {b : DS} (I : Nat → En → Prop) (Ex : Fl → En → Prop)
    (st : ∀ m env, I m env → (∃ e1, τ env = some (false, e1) ∧ Ex .nx e1) ∨ ∃ e1, τ env = some (true, e1) ∧ ∃ fl e2, b e1 = some (fl, e2) ∧ ((fl = .nx ∨ fl = .ct) ∧ (∃ m', m' < m ∧ I m' e2) ∨ fl = .bk ∧ Ex .nx e2 ∨ ∃ r, fl = .rt r ∧ Ex (.rt r) e2)) :
    ∀ (n m : Nat) (env : En), I m env → m < n → ∃ fl env', dWhileN τ b n env = some (fl, env') ∧ Ex fl env'
  | 0, m, env, _, h => by omega
  | n + 1, m, env, hI, h => by
    unfold dWhileN
    rcases st m env hI with ⟨e1, h1, hx⟩ | ⟨e1, h1, fl, e2, h2, h3⟩
    · simp only [h1]; exact ⟨_, _, rfl, hx⟩
    · simp only [h1, h2]
      rcases h3 with ⟨hf, m', hm, hI'⟩ | ⟨rfl, hx⟩ | ⟨r, rfl, hx⟩
      · obtain ⟨fl', env', h4, h5⟩ := whileN I Ex st n m' e2 hI' (by omega)
        exact ⟨fl', env', by rcases hf with rfl | rfl <;> exact h4, h5⟩
      · exact ⟨_, _, rfl, hx⟩
      · exact ⟨_, _, rfl, hx⟩
theorem whileD {τ : DT} {b : DS} (I : Nat → En → Prop) (Ex : Fl → En → Prop) (m : Nat) (env : En) (h : I m env) (hm : m < 1000000000)
    (st : ∀ m env, I m env → (∃ e1, τ env = some (false, e1) ∧ Ex .nx e1) ∨ ∃ e1, τ env = some (true, e1) ∧ ∃ fl e2, b e1 = some (fl, e2) ∧ ((fl = .nx ∨ fl = .ct) ∧ (∃ m', m' < m ∧ I m' e2) ∨ fl = .bk ∧ Ex .nx e2 ∨ ∃ r, fl = .rt r ∧ Ex (.rt r) e2)) :
    ∃ fl env', dWhile τ b env = some (fl, env') ∧ Ex fl env' := by
  obtain ⟨fl, env', h1, h2⟩ := whileN I Ex st (m + 1) m env h (Nat.lt_succ_self _)
  exact ⟨fl, env', dWhile_of (by omega) h1, h2⟩
/-- a comprehension that changes nothing -/
theorem lcL {vs : List Nat} {g : DG} {τ : DT} {ε : DE} (F : PyData → Option PyData) (env0 : En) : ∀ (ds acc : List PyData), acc.length + ds.length ≤ sizeLine →
    (∀ d ∈ ds, ∃ e1, g d env0 = some e1 ∧ ∃ b, τ e1 = some (b, e1) ∧ frzAt vs e1 = true ∧ wipeE e1 vs = env0 ∧ (b = true → ∃ y, ε e1 = some (y, e1) ∧ F d = some y) ∧ (b = false → F d = none)) →
    dLcL vs g τ ε ds env0 acc = some (acc ++ ds.filterMap F, env0)
  | [], acc, _, _ => by simp
  | d :: ds, acc, hl, h => by
    obtain ⟨e1, h1, b, h2, h3, h4, h5, h6⟩ := h d List.mem_cons_self
    rw [dLcL_cons, h1]
    simp only [h2]
    simp only [List.length_cons] at hl
    cases b with
    | true =>
      obtain ⟨y, h7, h8⟩ := h5 rfl
      have ha : acc.length < sizeLine := by omega
      simp only [h7, h4]
      rw [if_pos ⟨ha, h3⟩, lcL F env0 ds (acc ++ [y]) (by simp; omega) fun d hd => h d (List.mem_cons_of_mem _ hd), List.filterMap_cons, h8]
      simp
    | false =>
      simp only [h4]
      rw [if_pos h3, lcL F env0 ds acc (by omega) fun d hd => h d (List.mem_cons_of_mem _ hd), List.filterMap_cons, h6 rfl]
/-- .. without a test -/
theorem lcM {vs : List Nat} {g : DG} {ε : DE} (F : PyData → PyData) (env0 : En) (ds : List PyData) (hl : ds.length ≤ sizeLine)
    (h : ∀ d ∈ ds, ∃ e1, g d env0 = some e1 ∧ frzAt vs e1 = true ∧ wipeE e1 vs = env0 ∧ ε e1 = some (F d, e1)) :
    dLcL vs g dtYes ε ds env0 [] = some (ds.map F, env0) := by
  have := lcL (vs := vs) (g := g) (τ := dtYes) (ε := ε) (fun d => some (F d)) env0 ds [] (by simpa using hl) fun d hd => by
    obtain ⟨e1, h1, h2, h3, h4⟩ := h d hd
    exact ⟨e1, h1, true, rfl, h2, h3, fun _ => ⟨_, h4, rfl⟩, fun z => by cases z⟩
  rw [this]
  simp
theorem rgD_len (a b : Int) : (rgD a b).length = (b - a).toNat := by simp [rgD]
theorem rgD_get {a b : Int} {i : Nat} {d : PyData} (h : (rgD a b)[i]? = some d) : d = .int (a + (i : Nat)) ∧ (i : Int) < b - a := by
  unfold rgD at h
  rw [List.getElem?_map] at h
  cases q : (List.range (b - a).toNat)[i]? with
  | none => rw [q] at h; cases h
  | some j =>
    rw [q] at h
    have hl := (List.getElem?_eq_some_iff.mp q).1
    rw [List.length_range] at hl
    have e := (List.getElem?_eq_some_iff.mp q).2
    rw [List.getElem_range] at e
    subst e
    cases h
    exact ⟨rfl, by omega⟩
theorem sizeLine_big : 1000000 ≤ sizeLine := by rw [sizeLine_eq]; omega
namespace W
/-- an item of a list of ints, each of them not below 0 -/
theorem atI_ge {xs : List Int} {v : Int} (h0 : 0 ≤ v) (h1 : v < xs.length) (h : ∀ x ∈ xs, 0 ≤ x) : ∃ x, 0 ≤ x ∧ L2.atI (xs.map PyData.int) v = some (.int x) := by
  rw [atI_of _ h0]
  have hl : v.toNat < xs.length := by omega
  refine ⟨xs[v.toNat], h _ (List.getElem_mem hl), ?_⟩
  rw [List.getElem?_map, List.getElem?_eq_getElem hl]
  rfl
end W
end Dn

set_option Elab.async false
set_option linter.all false
set_option maxRecDepth 100000
set_option maxHeartbeats 2000000
namespace Dn
open PySem PySem.Spec PyProof.Rows L2
theorem mPop_at {ds : List PyData} {v : Int} (h0 : 0 ≤ v) (h1 : v < ds.length) (h2 : ds.length < 2 ^ 63) : ∃ x, ds[v.toNat]? = some x ∧ mPop ds [.int v] = some (x, ds.eraseIdx v.toNat) := by
  have hl : v.toNat < ds.length := by omega
  have hs := (ixN_seq (ixN_of h0 h1)).1
  refine ⟨ds[v.toNat], List.getElem?_eq_getElem hl, ?_⟩
  unfold mPop
  dsimp only
  rw [if_pos ⟨by omega, by omega⟩]
  simp only [hs, List.getElem?_eq_getElem hl]
theorem perm_erase {α : Type} {ds : List α} {i : Nat} {x : α} (h : ds[i]? = some x) : (x :: ds.eraseIdx i).Perm ds := by
  obtain ⟨hl, e⟩ := List.getElem?_eq_some_iff.mp h
  subst e
  rw [List.eraseIdx_eq_take_drop_succ]
  have : ds = ds.take i ++ ds[i] :: ds.drop (i + 1) := by rw [← List.drop_eq_getElem_cons hl, List.take_append_drop]
  conv => rhs; rw [this]
  exact (List.perm_middle).symm
namespace W
theorem mixed_body {m : Int} {d : PyData} {ds : List PyData} {n : Nat} (hn : n ≤ 1) (hb : Box m d) (hl : ds.length ≤ 1000000) (hm : m + ds.length < 10 ^ 11) :
    ∃ (res : List PyData) (d' : PyData) (e' : En), res.Perm ds ∧ Box (m + ds.length) d' ∧ b__law_mixed [some (1, d), some (n, .list ds), none, none, none] = some (.rt (1, .list res), some (1, d') :: some (n, .list ds) :: e') := by
  have hs := sizeLine_big
  have hv : vis (n, .list ds) = true := by unfold vis; simp [hn]
  let I : Nat → En → Prop := fun k env => ∃ left found d' x4, env = [some (1, d'), some (n, .list ds), some (1, .list left), some (1, .list found), x4] ∧ Box (m + k) d' ∧ left.length + k = ds.length ∧ (found ++ left).Perm ds
  obtain ⟨env', h1, left, found, d', x4, rfl, hb', hlen, hp⟩ := forN (g := gNm 4) (b := b__law_mixed_1) I (rgD 0 ds.length)
    [some (1, d), some (n, .list ds), some (1, .list ds), some (1, .list []), none] ⟨ds, [], d, none, rfl, by simpa using hb, by simp, by simp⟩ (by
    rintro i x env hx ⟨left, found, d', x4, rfl, hb', hlen, hp⟩
    obtain ⟨rfl, hi⟩ := rgD_get hx
    have hi : i < ds.length := by omega
    obtain ⟨v, d2, v0, v1, hb2, e2⟩ := take_spec (many := left.length) hb' (by omega) (by omega) (by omega)
    obtain ⟨y, ey, ep⟩ := mPop_at v0 v1 (by omega)
    have hfl : found.length < sizeLine := by
      have := hp.length_eq
      simp at this
      omega
    refine ⟨_, rfl, [some (1, d2), some (n, .list ds), some (1, .list (left.eraseIdx v.toNat)), some (1, .list (found ++ [y])), some (0, .int (0 + (i : Nat)))], ?_, _, _, _, _, rfl, hb2.up (by omega), ?_, ?_⟩
    · simp [b__law_mixed_1, e2, ep, hfl]
    · have := List.getElem?_eq_some_iff.mp ey
      rw [List.length_eraseIdx_of_lt this.1]
      omega
    · refine List.Perm.trans ?_ hp
      rw [List.append_assoc]
      exact (perm_erase ey).append_left found)
  have h0 : left = [] := by
    rw [rgD_len] at hlen
    exact List.eq_nil_of_length_eq_zero (by omega)
  subst h0
  rw [rgD_len] at hb'
  refine ⟨found, d', [some (1, .list []), none, x4], by simpa using hp, hb'.up (by omega), ?_⟩
  have hok : okR (ds.length : Int) = true := by unfold okR; exact decI (by omega)
  simp [b__law_mixed, hv, hok, h1]
theorem mixed_spec {m : Int} {d : PyData} {ds : List PyData} (hb : Box m d) (hl : ds.length ≤ 1000000) (hm : m + ds.length < 10 ^ 11) :
    ∃ (res : List PyData) (d' : PyData), res.Perm ds ∧ Box (m + ds.length) d' ∧ D__law_mixed [(1, d), (0, .list ds)] = some ((1, .list res), [(1, d')]) := by
  obtain ⟨res, d', e', h1, h2, h3⟩ := mixed_body (n := 0) (by decide) hb hl hm
  exact ⟨res, d', h1, h2, by simp [D__law_mixed_eq, fnSem_ap, h3]⟩
theorem mixed_rr_spec {m : Int} {d : PyData} {ds : List PyData} (hb : Box m d) (hl : ds.length ≤ 1000000) (hm : m + ds.length < 10 ^ 11) :
    ∃ (res : List PyData) (d' : PyData), res.Perm ds ∧ Box (m + ds.length) d' ∧ D__law_mixed_rr [(1, d), (1, .list ds)] = some ((1, .list res), [(1, d'), (1, .list ds)]) := by
  obtain ⟨res, d', e', h1, h2, h3⟩ := mixed_body (n := 1) (by decide) hb hl hm
  have e : b__law_mixed_rr = b__law_mixed := rfl
  exact ⟨res, d', h1, h2, by simp [D__law_mixed_rr_eq, fnSem_ap, e, h3]⟩
end W
end Dn

set_option Elab.async false
set_option linter.all false
set_option maxRecDepth 100000
set_option maxHeartbeats 4000000
namespace Dn.W
open PySem PySem.Spec PyProof.Rows L2 Dn
structure Tie where
  a : Nat
  b : Nat
  l : Int
def tieI (t : Tie) : List Int := [(t.a : Int), (t.b : Int), t.l]
def tieD (t : Tie) : PyData := .tuple [.int (t.a : Nat), .int (t.b : Nat), .int t.l]
theorem tieD_eq (t : Tie) : tieD t = tupD (tieI t) := rfl
structure TieOk (n : Nat) (t : Tie) : Prop where
  a : t.a < n
  b : t.b < n
  ne : t.a ≠ t.b
  l : 0 ≤ t.l
end Dn.W

set_option Elab.async false
set_option linter.all false
set_option maxRecDepth 100000
set_option maxHeartbeats 4000000
namespace Dn.W
open PySem PySem.Spec PyProof.Rows L2 Dn
theorem sort_ties (ts : List Tie) : ∃ ts' : List Tie, ts'.Perm ts ∧ ts'.Pairwise (fun s t => leI (tieI s) (tieI t) = true) ∧ gSort (.list (ts.map tieD)) = some (.list (ts'.map tieD)) := by
  cases ts with
  | nil => exact ⟨[], .refl _, .nil, by simp [gSort, gSortI, intsD, sortI]⟩
  | cons t0 r =>
    have e1 : gSortI (.list ((t0 :: r).map tieD)) = none := rfl
    have em : (t0 :: r).map tieD = ((t0 :: r).map tieI).map tupD := by rw [List.map_map]; rfl
    have ht : tupsD ((t0 :: r).map tieD) = some ((t0 :: r).map tieI) := by rw [em, tupsD_map]
    have hne : ((t0 :: r).map tieI).all (fun n => !n.isEmpty) = true := by
      rw [List.all_map]; simp [tieI]
    let back : List Int → Tie := fun l => match l with | [a, b, x] => ⟨a.toNat, b.toNat, x⟩ | _ => ⟨0, 0, 0⟩
    have hb : ∀ t, back (tieI t) = t := fun t => by
      show (⟨((t.a : Int)).toNat, ((t.b : Int)).toNat, t.l⟩ : Tie) = t
      rw [Int.toNat_natCast, Int.toNat_natCast]
    have hp := sortN_perm ((t0 :: r).map tieI)
    have hf : ∀ l ∈ sortN ((t0 :: r).map tieI), tieI (back l) = l := fun l hl => by
      obtain ⟨t, _, e⟩ := List.mem_map.mp (hp.mem_iff.mp hl)
      rw [← e, hb]
    refine ⟨(sortN ((t0 :: r).map tieI)).map back, ?_, ?_, ?_⟩
    · have := hp.map back
      rw [List.map_map] at this
      have e : (back ∘ tieI) = id := funext hb
      rwa [e, List.map_id] at this
    · rw [List.pairwise_map]
      refine List.Pairwise.imp_of_mem (fun {a b} ha hb' h => ?_) (sortN_sorted _)
      rw [hf a ha, hf b hb']; exact h
    · unfold gSort
      rw [e1]
      unfold gSortN
      simp only [ht]
      rw [if_pos hne, List.map_map]
      congr 2
      refine List.map_congr_left fun l hl => ?_
      show tupD l = tieD (back l)
      rw [tieD_eq, hf l hl]
structure MapOk (n : Nat) (ts : List Tie) : Prop where
  n0 : 1 ≤ n
  n1 : n ≤ 20
  len : ts.length ≤ 120
  ok : ∀ t ∈ ts, TieOk n t
  srt : ts.Pairwise (fun s t => leI (tieI s) (tieI t) = true)
structure MapW (n : Nat) (ts : List Tie) : Prop where
  n0 : 1 ≤ n
  n1 : n ≤ 20
  len : ts.length ≤ 120
  ok : ∀ t ∈ ts, TieOk n t
theorem MapOk.w {n : Nat} {ts : List Tie} (h : MapOk n ts) : MapW n ts := ⟨h.n0, h.n1, h.len, h.ok⟩
def mapD (n : Nat) (ts : List Tie) : PyData := .tuple [.int n, .tuple (ts.map tieD)]
theorem cutD_to (ds : List PyData) {v : Int} (h : 0 ≤ v) : cutD ds none (some v) = ds.take v.toNat := by
  have e1 : HT.sIx ds.length 0 none = 0 := rfl
  have e2 : HT.sIx ds.length ds.length (some v) = min v.toNat ds.length := by unfold HT.sIx; simp only; rw [if_neg (by omega)]
  unfold cutD
  rw [e1, e2, List.drop_zero, Nat.sub_zero]
  by_cases q : v.toNat ≤ ds.length
  · rw [Nat.min_eq_left q]
  · rw [Nat.min_eq_right (by omega), List.take_of_length_le (Nat.le_refl _), List.take_of_length_le (by omega)]
theorem cutD_from (ds : List PyData) {v : Int} (h : 0 ≤ v) (h2 : v ≤ ds.length) : cutD ds (some v) none = ds.drop v.toNat := by
  have e1 : HT.sIx ds.length 0 (some v) = min v.toNat ds.length := by unfold HT.sIx; simp only; rw [if_neg (by omega)]
  have e2 : HT.sIx ds.length ds.length none = ds.length := rfl
  unfold cutD
  rw [e1, e2, Nat.min_eq_left (by omega)]
  exact List.take_of_length_le (by rw [List.length_drop]; omega)
theorem perm_map_tie {xs : List PyData} {ts : List Tie} (h : xs.Perm (ts.map tieD)) : ∃ ts' : List Tie, ts'.Perm ts ∧ xs = ts'.map tieD := by
  let back : PyData → Tie := fun d => match d with | .tuple [.int a, .int b, .int x] => ⟨a.toNat, b.toNat, x⟩ | _ => ⟨0, 0, 0⟩
  have hb : ∀ t, back (tieD t) = t := fun t => by
    show (⟨((t.a : Int)).toNat, ((t.b : Int)).toNat, t.l⟩ : Tie) = t
    rw [Int.toNat_natCast, Int.toNat_natCast]
  refine ⟨xs.map back, ?_, ?_⟩
  · have := h.map back
    rw [List.map_map] at this
    have e : (back ∘ tieD) = id := funext hb
    rwa [e, List.map_id] at this
  · rw [List.map_map]
    conv => lhs; rw [← List.map_id xs]
    refine List.map_congr_left fun x hx => ?_
    obtain ⟨t, _, e⟩ := List.mem_map.mp (h.mem_iff.mp hx)
    show x = tieD (back x)
    rw [← e, hb]
theorem perm_ints {xs : List PyData} {ns : List Nat} (h : xs.Perm (ns.map fun o => PyData.int (o : Nat))) : ∃ ms : List Nat, ms.Perm ns ∧ xs = ms.map fun o => PyData.int (o : Nat) := by
  let back : PyData → Nat := fun d => match d with | .int a => a.toNat | _ => 0
  have hb : ∀ t : Nat, back (.int (t : Nat)) = t := fun t => Int.toNat_natCast t
  refine ⟨xs.map back, ?_, ?_⟩
  · have := h.map back
    rw [List.map_map] at this
    have e : (back ∘ fun o : Nat => PyData.int (o : Nat)) = id := funext hb
    rwa [e, List.map_id] at this
  · rw [List.map_map]
    conv => lhs; rw [← List.map_id xs]
    refine List.map_congr_left fun x hx => ?_
    obtain ⟨t, _, e⟩ := List.mem_map.mp (h.mem_iff.mp hx)
    show x = PyData.int ((back x : Nat) : Int)
    rw [← e, hb]
theorem rgD_nat (n : Nat) : rgD 0 (n : Int) = (List.range n).map fun o => PyData.int (o : Nat) := by
  unfold rgD
  rw [show ((n : Int) - 0).toNat = n by omega]
  refine List.map_congr_left fun i _ => ?_
  rw [Int.zero_add]
end Dn.W

set_option Elab.async false
set_option linter.all false
set_option maxRecDepth 100000
set_option maxHeartbeats 4000000
namespace Dn
theorem dSeq_go {a b : DS} {env e : En} (h : a env = some (.nx, e)) : dSeq a b env = b e := by rw [dSeq_ap, h]
theorem dSeq_rt {a b : DS} {env e : En} {r : Sl} (h : a env = some (.rt r, e)) : dSeq a b env = some (.rt r, e) := by rw [dSeq_ap, h]
end Dn
namespace Dn.W
open PySem PySem.Spec PyProof.Rows L2 Dn
end Dn.W

set_option Elab.async false
set_option linter.all false
set_option maxRecDepth 100000
set_option maxHeartbeats 4000000
namespace Dn.W
open PySem PySem.Spec PyProof.Rows L2 Dn
theorem is_integer_int (i : Int) : D_is_integer [(0, .int i)] = some ((0, .bool true), []) := by
  simp [D_is_integer_eq, fnSem_ap, b_is_integer]
theorem is_index_int {i n : Int} (h0 : 0 ≤ i) (h1 : i < n) : D_is_index [(0, .int i), (0, .int n)] = some ((0, .bool true), []) := by
  simp [D_is_index_eq, fnSem_ap, b_is_index, is_integer_int, h0, h1]
theorem is_within_int {i a b : Int} (h0 : a ≤ i) (h1 : i ≤ b) : D_is_within [(0, .int i), (0, .int a), (0, .int b)] = some ((0, .bool true), []) := by
  simp [D_is_within_eq, fnSem_ap, b_is_within, is_integer_int, h0, h1]
theorem is_count_int {i : Int} (h0 : 0 ≤ i) : D_is_count [(0, .int i)] = some ((0, .bool true), []) := by
  simp [D_is_count_eq, fnSem_ap, b_is_count, is_integer_int, h0]
theorem is_tuple_tup (ds : List PyData) (n : Int) : D_is_tuple [(0, .tuple ds), (0, .int n)] = some ((0, .bool (decide ((ds.length : Int) = n))), []) := by
  simp [D_is_tuple_eq, fnSem_ap, b_is_tuple]
theorem is_tie_ok {n : Nat} {t : Tie} (h : TieOk n t) : D_is_tie [(0, .int n), (0, tieD t)] = some ((0, .bool true), []) := by
  have e1 := is_index_int (i := (t.a : Nat)) (n := (n : Nat)) (by omega) (by have := h.a; omega)
  have e2 := is_index_int (i := (t.b : Nat)) (n := (n : Nat)) (by omega) (by have := h.b; omega)
  have e3 := is_count_int h.l
  have e4 := is_tuple_tup [.int (t.a : Nat), .int (t.b : Nat), .int t.l] 3
  have ne : (t.a : Int) ≠ (t.b : Int) := by have := h.ne; omega
  simp at e4
  simp [D_is_tie_eq, fnSem_ap, b_is_tie, tieD, L2.atI, ixN, e1, e2, e3, e4, decide_eq_false ne]
theorem gLe_ties {s t : Tie} : gLe' (tieD s) (tieD t) = some (.bool (leI (tieI s) (tieI t))) := by
  rw [tieD_eq, tieD_eq]
  show (match gLe (tupD (tieI s)) (tupD (tieI t)) with | some d => some d | none => gTT leI (tupD (tieI s)) (tupD (tieI t))) = _
  show gTT leI (tupD (tieI s)) (tupD (tieI t)) = _
  unfold gTT tupD
  simp only [intsD_map]
theorem in_order_ok {ts : List Tie} (hl : ts.length ≤ 120) (h : ts.Pairwise (fun s t => leI (tieI s) (tieI t) = true)) : D_in_order [(0, .tuple (ts.map tieD))] = some ((0, .bool true), []) := by
  have hs := sizeLine_big
  have ok1 : okR (1 : Int) = true := by unfold okR; exact decI (by omega)
  have ok2 : okR (ts.length : Int) = true := by unfold okR; exact decI (by omega)
  have body : b_in_order [some (0, .tuple (ts.map tieD)), none] = some (.rt (0, .bool true), [some (0, .tuple (ts.map tieD)), none]) := by
    simp [b_in_order, ok1, ok2]
    rw [lcM (fun _ => .bool true) [some (0, .tuple (ts.map tieD)), none] (rgD 1 ts.length) (by rw [rgD_len]; omega)]
    · have e : gAll (.list ((rgD 1 ts.length).map fun _ => PyData.bool true)) = some (.bool true) := by
        have : ((rgD 1 ts.length).map fun _ => PyData.bool true) = (List.replicate (rgD 1 ts.length).length true).map PyData.bool := by
          rw [List.map_replicate]
          exact List.map_const' ..
        rw [this, gAll_bls]
        simp
      simp [e]
    · intro x hx
      obtain ⟨i, hi, rfl⟩ := List.mem_iff_getElem.mp hx
      obtain ⟨e, hi2⟩ := rgD_get (List.getElem?_eq_getElem hi)
      rw [e]
      have i1 : i < ts.length := by omega
      have i2 : i + 1 < ts.length := by omega
      have p := List.pairwise_iff_getElem.mp h i (i + 1) i1 i2 (by omega)
      have a1 : L2.atI (ts.map tieD) (1 + (i : Int) - 1) = some (tieD ts[i]) := by
        rw [show (1 + (i : Int) - 1) = ((i : Nat) : Int) by omega, atI_nat, List.getElem?_map, List.getElem?_eq_getElem i1]; rfl
      have a2 : L2.atI (ts.map tieD) (1 + (i : Int)) = some (tieD ts[i + 1]) := by
        rw [show (1 + (i : Int)) = ((i + 1 : Nat) : Int) by omega, atI_nat, List.getElem?_map, List.getElem?_eq_getElem i2]; rfl
      refine ⟨_, rfl, by simp, by simp, ?_⟩
      simp [a1, a2, gLe_ties, p]
  simp [D_in_order_eq, fnSem_ap, body]
theorem all_true (n : Nat) : gAll (.list (List.replicate n (.bool true))) = some (.bool true) := by
  have : List.replicate n (PyData.bool true) = (List.replicate n true).map PyData.bool := by rw [List.map_replicate]
  rw [this, gAll_bls]
  simp
theorem all_mapT {α : Type} {f : α → PyData} (l : List α) (h : ∀ x, f x = .bool true) : gAll (.list (l.map f)) = some (.bool true) := by
  have : l.map f = List.replicate l.length (.bool true) := by
    rw [← List.map_const']; exact List.map_congr_left fun x _ => h x
  rw [this, all_true]
theorem is_map_ok {n : Nat} {ts : List Tie} (h : MapOk n ts) : D_is_map [(0, mapD n ts)] = some ((0, .bool true), []) := by
  have hs := sizeLine_big
  have e1 := is_tuple_tup [.int (n : Nat), .tuple (ts.map tieD)] 2
  simp at e1
  have e2 := is_within_int (i := (n : Nat)) (a := 1) (b := 20) (by have := h.n0; omega) (by have := h.n1; omega)
  have e3 := in_order_ok h.len h.srt
  have hl : ¬ (120 : Int) < ts.length := by have := h.len; omega
  have body : b_is_map [some (0, mapD n ts), none, none, none] = some (.rt (0, .bool true), [some (0, mapD n ts), some (0, .int n), some (0, .tuple (ts.map tieD)), none]) := by
    simp [b_is_map, mapD, L2.atI, ixN, e1, e2, hl]
    rw [lcM (fun _ => .bool true) [some (0, .tuple [.int n, .tuple (ts.map tieD)]), some (0, .int n), some (0, .tuple (ts.map tieD)), none] (ts.map tieD) (by rw [List.length_map]; have := h.len; omega)]
    · simp [all_mapT (f := (fun _ => PyData.bool true) ∘ tieD) ts (fun _ => rfl), e3]
    · intro x hx
      obtain ⟨t, ht, rfl⟩ := List.mem_map.mp hx
      refine ⟨_, rfl, by simp, by simp, ?_⟩
      simp [is_tie_ok (h.ok t ht)]
  simp [D_is_map_eq, fnSem_ap, body]
theorem check_ends_ok {n : Nat} {ts : List Tie} {one other : Int} (h : MapOk n ts) (h0 : 0 ≤ one) (h1 : one < n) (k0 : 0 ≤ other) (k1 : other < n) : D_check_ends [(0, mapD n ts), (0, .int one), (0, .int other)] = some ((0, .none), []) := by
  have e1 : D_check_map [(0, mapD n ts)] = some ((0, .none), []) := by simp [D_check_map_eq, fnSem_ap, b_check_map, is_map_ok h]
  have e2 : ∀ p : Int, 0 ≤ p → p < n → D_check_place [(0, mapD n ts), (0, .int p)] = some ((0, .none), []) := fun p p0 p1 => by
    have := is_index_int p0 p1
    simp [D_check_place_eq, fnSem_ap, b_check_place, mapD, L2.atI, ixN, this]
  simp [D_check_ends_eq, fnSem_ap, b_check_ends, e1, e2 one h0 h1, e2 other k0 k1]
/-! heights -/
def htD (hs : List Int) : PyData := .tuple (hs.map PyData.int)
theorem are_integers_ok {hs : List Int} {n : Nat} (h : hs.length = n) (hn : n ≤ 20) : D_are_integers [(0, htD hs), (0, .int n)] = some ((0, .bool true), []) := by
  have hz := sizeLine_big
  have e1 := is_tuple_tup (hs.map PyData.int) n
  rw [List.length_map, h] at e1
  simp at e1
  have body : b_are_integers [some (0, htD hs), some (0, .int n), none] = some (.rt (0, .bool true), [some (0, htD hs), some (0, .int n), none]) := by
    simp [b_are_integers, htD, e1]
    rw [lcM (fun _ => .bool true) [some (0, .tuple (hs.map PyData.int)), some (0, .int n), none] (hs.map PyData.int) (by rw [List.length_map]; omega)]
    · simp [all_mapT (f := (fun _ => PyData.bool true) ∘ PyData.int) hs (fun _ => rfl)]
    · intro x hx
      obtain ⟨i, hi, rfl⟩ := List.mem_map.mp hx
      exact ⟨_, rfl, by simp, by simp, by simp [is_integer_int]⟩
  simp [D_are_integers_eq, fnSem_ap, body]
end Dn.W

set_option Elab.async false
set_option linter.all false
set_option maxRecDepth 100000
set_option maxHeartbeats 4000000
namespace Dn
open PySem PySem.Spec PyProof.Rows L2
/-- a comprehension over things that stand for x's -/
theorem lcT' {α : Type} {vs : List Nat} {g : DG} {τ : DT} {ε : DE} (f h : α → PyData) (p : α → Bool) (env0 : En) : ∀ (xs : List α) (acc : List PyData), acc.length + xs.length ≤ sizeLine →
    (∀ x ∈ xs, ∃ e1, g (f x) env0 = some e1 ∧ τ e1 = some (p x, e1) ∧ frzAt vs e1 = true ∧ wipeE e1 vs = env0 ∧ (p x = true → ε e1 = some (h x, e1))) →
    dLcL vs g τ ε (xs.map f) env0 acc = some (acc ++ (xs.filter p).map h, env0)
  | [], acc, _, _ => by simp
  | x :: xs, acc, hl, hh => by
    obtain ⟨e1, h1, h2, h3, h4, h5⟩ := hh x List.mem_cons_self
    simp only [List.length_cons] at hl
    rw [List.map_cons, dLcL_cons, h1]
    cases q : p x with
    | true =>
      rw [q] at h2
      have ha : acc.length < sizeLine := by omega
      simp only [h2, h5 q, h4]
      rw [if_pos ⟨ha, h3⟩, lcT' f h p env0 xs (acc ++ [h x]) (by simp; omega) fun y hy => hh y (List.mem_cons_of_mem _ hy), List.filter_cons_of_pos q]
      simp
    | false =>
      rw [q] at h2
      simp only [h2, h4]
      rw [if_pos h3, lcT' f h p env0 xs acc (by omega) fun y hy => hh y (List.mem_cons_of_mem _ hy), List.filter_cons_of_neg (by rw [q]; decide)]
theorem lcT {α : Type} {vs : List Nat} {g : DG} {ε : DE} (f h : α → PyData) (env0 : En) (xs : List α) (hl : xs.length ≤ sizeLine)
    (hh : ∀ x ∈ xs, ∃ e1, g (f x) env0 = some e1 ∧ frzAt vs e1 = true ∧ wipeE e1 vs = env0 ∧ ε e1 = some (h x, e1)) :
    dLcL vs g dtYes ε (xs.map f) env0 [] = some (xs.map h, env0) := by
  have := lcT' (vs := vs) (g := g) (τ := dtYes) (ε := ε) f h (fun _ => true) env0 xs [] (by simpa using hl) fun x hx => by
    obtain ⟨e1, h1, h2, h3, h4⟩ := hh x hx
    exact ⟨e1, h1, rfl, h2, h3, fun _ => h4⟩
  rw [this, List.filter_eq_self.mpr fun _ _ => rfl]
  rfl
theorem lcF {α : Type} {vs : List Nat} {g : DG} {τ : DT} {ε : DE} (f h : α → PyData) (p : α → Bool) (env0 : En) (xs : List α) (hl : xs.length ≤ sizeLine)
    (hh : ∀ x ∈ xs, ∃ e1, g (f x) env0 = some e1 ∧ τ e1 = some (p x, e1) ∧ frzAt vs e1 = true ∧ wipeE e1 vs = env0 ∧ (p x = true → ε e1 = some (h x, e1))) :
    dLcL vs g τ ε (xs.map f) env0 [] = some ((xs.filter p).map h, env0) := by
  rw [lcT' f h p env0 xs [] (by simpa using hl) hh]
  simp
namespace W
theorem atI_ints {hs : List Int} {i : Nat} (h : i < hs.length) : L2.atI (hs.map PyData.int) (i : Int) = some (.int (hs.getD i 0)) := by
  rw [atI_nat, List.getElem?_map, List.getElem?_eq_getElem h]
  simp [List.getD_eq_getElem?_getD, h]
def okT (hs : List Int) (t : Tie) : Bool := !decide (hs.getD t.a 0 + t.l < hs.getD t.b 0)
def valid (hs : List Int) (ts : List Tie) : Bool := ts.all (okT hs)
def pvD (hs : List Int) (ts : List Tie) (one other : Nat) : PyData := if valid hs ts = true then .int (hs.getD other 0 - hs.getD one 0) else .none
theorem gAny_map {α : Type} (p : α → Bool) (xs : List α) : gAny (.list (xs.map fun x => .bool (p x))) = some (.bool (xs.any p)) := by
  have : (xs.map fun x => PyData.bool (p x)) = (xs.map p).map PyData.bool := by rw [List.map_map]; rfl
  rw [this, gAny_bls, List.any_map]
  rfl
theorem proved_by_spec {n : Nat} {ts : List Tie} {hs : List Int} {one other : Nat} (h : MapOk n ts) (hl : hs.length = n) (h1 : one < n) (h2 : other < n) :
    D_proved_by [(0, mapD n ts), (0, .int (one : Nat)), (0, .int (other : Nat)), (0, htD hs)] = some ((0, pvD hs ts one other), []) := by
  have hz := sizeLine_big
  have b1 := atI_ints (hs := hs) (i := one) (by rw [hl]; exact h1)
  have b2 := atI_ints (hs := hs) (i := other) (by rw [hl]; exact h2)
  have e0 : L2.atI [PyData.int (n : Nat), .tuple (ts.map tieD)] 1 = some (.tuple (ts.map tieD)) := by simp [L2.atI, ixN]
  have any : ts.any (fun t => decide (hs.getD t.a 0 + t.l < hs.getD t.b 0)) = !valid hs ts := by
    unfold valid okT
    rw [List.not_all_eq_any_not]
    congr 1
    funext t
    rw [Bool.not_not]
  have body : b_proved_by [some (0, mapD n ts), some (0, .int (one : Nat)), some (0, .int (other : Nat)), some (0, htD hs), none, none, none] = some (.rt (0, pvD hs ts one other), [some (0, mapD n ts), some (0, .int (one : Nat)), some (0, .int (other : Nat)), some (0, htD hs), none, none, none]) := by
    have key : dUnE gAny (dFz (dLc (iSeq (dOf (dBin gIx (dVar 0) (dC (.int 1))))) [4, 5, 6] (gTp 3 (gsCons (gNm 4) (gsCons (gNm 5) (gsCons (gNm 6) gsNil)))) (dtYes) (dOf (dBin gGt (dBin gIx (dVar 3) (dVar 5)) (dBin gAdd (dBin gIx (dVar 3) (dVar 4)) (dVar 6))))))
        [some (0, mapD n ts), some (0, .int (one : Nat)), some (0, .int (other : Nat)), some (0, htD hs), none, none, none] = some (.bool (!valid hs ts), [some (0, mapD n ts), some (0, .int (one : Nat)), some (0, .int (other : Nat)), some (0, htD hs), none, none, none]) := by
      simp [mapD, e0]
      rw [lcT tieD (fun t => .bool (decide (hs.getD t.a 0 + t.l < hs.getD t.b 0))) [some (0, .tuple [.int n, .tuple (ts.map tieD)]), some (0, .int (one : Nat)), some (0, .int (other : Nat)), some (0, htD hs), none, none, none] ts (by have := h.len; omega)]
      · simp [gAny_map (fun t : Tie => decide (hs.getD t.a 0 + t.l < hs.getD t.b 0)) ts, any, -List.getD_eq_getElem?_getD]
      · intro t ht
        have ok := h.ok t ht
        have a1 := atI_ints (hs := hs) (i := t.a) (by rw [hl]; exact ok.a)
        have a2 := atI_ints (hs := hs) (i := t.b) (by rw [hl]; exact ok.b)
        refine ⟨[some (0, .tuple [.int n, .tuple (ts.map tieD)]), some (0, .int (one : Nat)), some (0, .int (other : Nat)), some (0, htD hs), some (0, .int (t.a : Nat)), some (0, .int (t.b : Nat)), some (0, .int t.l)], by simp [tieD], by simp, by simp, by simp [htD, a1, a2, -List.getD_eq_getElem?_getD]⟩
    unfold b_proved_by
    cases v : valid hs ts with
    | true =>
      rw [v] at key
      rw [dSeq_go (by rw [dIfS_ap, tru_ap, key]; rfl)]
      simp [htD, b1, b2, pvD, v, -List.getD_eq_getElem?_getD]
    | false =>
      rw [v] at key
      rw [dSeq_rt (by rw [dIfS_ap, tru_ap, key]; rfl)]
      simp [pvD, v]
  simp [D_proved_by_eq, fnSem_ap, body]
theorem proved_spec {n : Nat} {ts : List Tie} {hs : List Int} {one other : Nat} (h : MapOk n ts) (hl : hs.length = n) (h1 : one < n) (h2 : other < n) :
    D_proved [(0, mapD n ts), (0, .int (one : Nat)), (0, .int (other : Nat)), (0, htD hs)] = some ((0, pvD hs ts one other), []) := by
  have e1 := check_ends_ok (one := (one : Nat)) (other := (other : Nat)) h (by omega) (by omega) (by omega) (by omega)
  have e2 := are_integers_ok hl h.n1
  have e3 := proved_by_spec h hl h1 h2
  have e0 : L2.atI [PyData.int (n : Nat), .tuple (ts.map tieD)] 0 = some (.int n) := by simp [L2.atI, ixN]
  have e4 : gIx (mapD n ts) (.int 0) = some (.int n) := by simp [mapD, e0]
  simp [D_proved_eq, fnSem_ap, b_proved, e1, e2, e3, e4]
end W
end Dn

set_option Elab.async false
set_option linter.all false
set_option maxRecDepth 100000
set_option maxHeartbeats 4000000
namespace Dn.W
open PySem PySem.Spec PyProof.Rows L2 Dn
/-- data alike all through: plain, of so many levels, no dict -/
inductive Sm : Nat → PyData → Prop
  | none {n : Nat} : Sm n .none
  | bool {n : Nat} (b : Bool) : Sm n (.bool b)
  | int {n : Nat} (i : Int) : Sm n (.int i)
  | list {n : Nat} {ds : List PyData} : ds.length ≤ 1000000 → (∀ d ∈ ds, Sm n d) → Sm (n + 1) (.list ds)
  | tuple {n : Nat} {ds : List PyData} : ds.length ≤ 1000000 → (∀ d ∈ ds, Sm n d) → Sm (n + 1) (.tuple ds)
theorem Sm.up {n : Nat} {d : PyData} (h : Sm n d) : ∀ {m : Nat}, n ≤ m → Sm m d := by
  induction h with
  | none => exact fun _ => .none
  | bool b => exact fun _ => .bool b
  | int i => exact fun _ => .int i
  | list h1 h2 ih =>
    intro m hm
    obtain ⟨k, rfl⟩ : ∃ k, m = k + 1 := ⟨m - 1, by omega⟩
    exact .list h1 fun d hd => ih d hd (by omega)
  | tuple h1 h2 ih =>
    intro m hm
    obtain ⟨k, rfl⟩ : ∃ k, m = k + 1 := ⟨m - 1, by omega⟩
    exact .tuple h1 fun d hd => ih d hd (by omega)
theorem same_at {R : FnD} {ds : List PyData} {S0 S1 : PyData} (h0 : ∀ k : Nat, k < ds.length → ∃ x, gIx S0 (.int (k : Nat)) = some x ∧ gIx S1 (.int (k : Nat)) = some x ∧ R [(0, x), (0, x)] = some ((0, .bool true), [])) (hl : ds.length ≤ 1000000) :
    dLcL [2] (gNm 2) (dtNot (tru (dCallB R [false, false] (rVal (dOf (dBin gIx (dVar 0) (dVar 2))) (rVal (dOf (dBin gIx (dVar 1) (dVar 2))) rNil))))) (dOf (dVar 2)) (rgD 0 (ds.length : Int)) [some (0, S0), some (0, S1), none] [] = some ([], [some (0, S0), some (0, S1), none]) := by
  have hs := sizeLine_big
  have := lcL (vs := [2]) (g := gNm 2) (τ := dtNot (tru (dCallB R [false, false] (rVal (dOf (dBin gIx (dVar 0) (dVar 2))) (rVal (dOf (dBin gIx (dVar 1) (dVar 2))) rNil))))) (ε := dOf (dVar 2)) (fun _ => none) [some (0, S0), some (0, S1), none] (rgD 0 (ds.length : Int)) [] (by rw [rgD_len]; simp; omega) fun d hd => by
    obtain ⟨i, hi⟩ := List.mem_iff_getElem?.mp hd
    obtain ⟨rfl, hk⟩ := rgD_get hi
    rw [Int.zero_add]
    obtain ⟨x, e1, e2, e3⟩ := h0 i (by omega)
    refine ⟨[some (0, S0), some (0, S1), some (0, .int (i : Nat))], rfl, false, ?_, by simp, by simp, (fun z => by cases z), fun _ => rfl⟩
    simp [e1, e2, e3]
  rw [this]
  simp
theorem same_F {n : Nat} {d : PyData} (h : Sm n d) : F__law_same (n + 1) [(0, d), (0, d)] = some ((0, .bool true), []) := by
  have hs := sizeLine_big
  induction h with
  | none => simp [F__law_same_s, fnSem_ap, b__law_same]
  | bool b => cases b <;> simp [F__law_same_s, fnSem_ap, b__law_same]
  | int i => simp [F__law_same_s, fnSem_ap, b__law_same]
  | @list n ds h1 h2 ih =>
    have ok : okR (ds.length : Int) = true := by unfold okR; exact decI (by omega)
    have e := same_at (R := F__law_same (n + 1)) (ds := ds) (S0 := .list ds) (S1 := .list ds) (fun k hk => ⟨ds[k], by simp [atI_nat, hk], by simp [atI_nat, hk], ih _ (List.getElem_mem hk)⟩) h1
    rw [F__law_same_s]
    simp [fnSem_ap, b__law_same, ok, e, gEq_nil]
  | @tuple n ds h1 h2 ih =>
    have ok : okR (ds.length : Int) = true := by unfold okR; exact decI (by omega)
    have e := same_at (R := F__law_same (n + 1)) (ds := ds) (S0 := .tuple ds) (S1 := .tuple ds) (fun k hk => ⟨ds[k], by simp [atI_nat, hk], by simp [atI_nat, hk], ih _ (List.getElem_mem hk)⟩) h1
    rw [F__law_same_s]
    simp [fnSem_ap, b__law_same, ok, e, gEq_nil]
theorem same_refl {d : PyData} (h : Sm 5 d) : D__law_same [(0, d), (0, d)] = some ((0, .bool true), []) := by
  rw [D__law_same_eq]
  exact same_F h
end Dn.W

set_option Elab.async false
set_option linter.all false
set_option maxRecDepth 100000
set_option maxHeartbeats 4000000
/-! shortest lengths, in plain words -/
namespace Dn.W
abbrev Row := List (Option Int)
def at_ (r : Row) (v : Nat) : Option Int := r.getD v none
inductive Walk (ts : List Tie) (one : Nat) : Nat → Int → Nat → Prop
  | nil : Walk ts one one 0 0
  | snoc {u x k t} : Walk ts one u x k → t ∈ ts → t.a = u → Walk ts one t.b (x + t.l) (k + 1)
theorem Walk.ge {ts : List Tie} {one : Nat} (h : ∀ t ∈ ts, 0 ≤ t.l) : ∀ {v x k}, Walk ts one v x k → 0 ≤ x
  | _, _, _, .nil => by omega
  | _, _, _, .snoc w ht _ => by
    have := w.ge h
    have := h _ ht
    omega
structure IsDist (n : Nat) (ts : List Tie) (one : Nat) (r : Row) : Prop where
  len : r.length = n
  z : at_ r one = some 0
  cl : ∀ t ∈ ts, ∀ x, at_ r t.a = some x → ∃ y, at_ r t.b = some y ∧ y ≤ x + t.l
  wk : ∀ v x, at_ r v = some x → ∃ k, Walk ts one v x k
theorem IsDist.le {n : Nat} {ts : List Tie} {one : Nat} {r : Row} (h : IsDist n ts one r) : ∀ {v x k}, Walk ts one v x k → ∃ y, at_ r v = some y ∧ y ≤ x
  | _, _, _, .nil => ⟨0, h.z, by omega⟩
  | _, _, _, .snoc w ht e => by
    obtain ⟨y, h1, h2⟩ := h.le w
    obtain ⟨y', h3, h4⟩ := h.cl _ ht y (by rw [e]; exact h1)
    exact ⟨y', h3, by omega⟩
theorem IsDist.uniq {n : Nat} {ts : List Tie} {one : Nat} {r r' : Row} (h : IsDist n ts one r) (h' : IsDist n ts one r') : r = r' := by
  refine List.ext_getElem (by rw [h.len, h'.len]) fun v h1 h2 => ?_
  have e1 : at_ r v = r[v] := by simp [at_, List.getD_eq_getElem?_getD, h1]
  have e2 : at_ r' v = r'[v] := by simp [at_, List.getD_eq_getElem?_getD, h2]
  rw [← e1, ← e2]
  cases q : at_ r v with
  | none =>
    cases q' : at_ r' v with
    | none => rfl
    | some y =>
      obtain ⟨k, w⟩ := h'.wk v y q'
      obtain ⟨z, hz, _⟩ := h.le w
      rw [q] at hz; cases hz
  | some x =>
    obtain ⟨k, w⟩ := h.wk v x q
    obtain ⟨y, hy, l1⟩ := h'.le w
    obtain ⟨k', w'⟩ := h'.wk v y hy
    obtain ⟨x', hx, l2⟩ := h.le w'
    rw [q] at hx; cases hx
    rw [hy]
    congr 1
    omega
/-! paths as lists of ties -/
def Pth (ts : List Tie) : Nat → List Tie → Nat → Prop
  | u, [], v => u = v
  | u, t :: p, v => t ∈ ts ∧ t.a = u ∧ Pth ts t.b p v
def sumT (p : List Tie) : Int := (p.map (·.l)).sum
def nodes (u : Nat) (p : List Tie) : List Nat := u :: p.map (·.b)
theorem Pth.append {ts : List Tie} : ∀ {u p w q v}, Pth ts u p w → Pth ts w q v → Pth ts u (p ++ q) v
  | _, [], _, _, _, h, k => by cases (show _ = _ from h); exact k
  | _, _ :: _, _, _, _, h, k => ⟨h.1, h.2.1, Pth.append h.2.2 k⟩
theorem sumT_append (p q : List Tie) : sumT (p ++ q) = sumT p + sumT q := by simp [sumT]
theorem Pth.split {ts : List Tie} : ∀ {u p v}, Pth ts u p v → ∀ i (hi : i < (nodes u p).length), Pth ts u (p.take i) (nodes u p)[i] ∧ Pth ts (nodes u p)[i] (p.drop i) v
  | u, p, v, h, 0, _ => ⟨rfl, h⟩
  | u, [], v, h, i + 1, hi => by simp [nodes] at hi
  | u, t :: p, v, h, i + 1, hi => by
    have hi' : i < (nodes t.b p).length := by simp [nodes] at hi ⊢; omega
    obtain ⟨h1, h2⟩ := Pth.split h.2.2 i hi'
    have e : (nodes u (t :: p))[i + 1] = (nodes t.b p)[i] := rfl
    rw [e]
    exact ⟨⟨h.1, h.2.1, h1⟩, h2⟩
theorem Walk.pth {ts : List Tie} {one : Nat} : ∀ {v x k}, Walk ts one v x k → ∃ p, Pth ts one p v ∧ p.length = k ∧ sumT p = x
  | _, _, _, .nil => ⟨[], rfl, rfl, rfl⟩
  | _, _, _, .snoc (t := t) w ht e => by
    obtain ⟨p, h1, h2, h3⟩ := w.pth
    exact ⟨p ++ [t], h1.append ⟨ht, e, rfl⟩, by simp [h2], by rw [sumT_append, h3]; simp [sumT]⟩
theorem Walk.append {ts : List Tie} {one : Nat} : ∀ {u x k p v}, Walk ts one u x k → Pth ts u p v → Walk ts one v (x + sumT p) (k + p.length)
  | _, x, k, [], _, w, h => by cases (show _ = _ from h); simpa [sumT] using w
  | _, x, k, t :: p, _, w, h => by
    have := Walk.append (Walk.snoc w h.1 h.2.1) h.2.2
    rw [show x + t.l + sumT p = x + sumT (t :: p) by simp [sumT]; omega, show k + 1 + p.length = k + (t :: p).length by simp; omega] at this
    exact this
theorem nodup_le : ∀ (n : Nat) (l : List Nat), l.Nodup → (∀ x ∈ l, x < n) → l.length ≤ n
  | 0, l, _, h => by
    cases l with
    | nil => simp
    | cons x l => exact absurd (h x List.mem_cons_self) (by omega)
  | n + 1, l, nd, h => by
    have h1 : (l.erase n).Nodup := nd.erase n
    have h2 : ∀ x ∈ l.erase n, x < n := fun x hx => by
      have h3 := h x (List.mem_of_mem_erase hx)
      have h4 : x ≠ n := fun e => by
        subst e
        exact (List.Nodup.not_mem_erase nd) hx
      omega
    have h3 := nodup_le n _ h1 h2
    have h4 : l.length ≤ (l.erase n).length + 1 := by
      rw [List.length_erase]
      split <;> omega
    omega
theorem twice {l : List Nat} (h : ¬ l.Nodup) : ∃ (i j : Nat) (hi : i < l.length) (hj : j < l.length), i < j ∧ l[i] = l[j] := by
  apply Classical.byContradiction
  intro q
  apply h
  rw [List.Nodup, List.pairwise_iff_getElem]
  intro i j hi hj hij e
  exact q ⟨i, j, hi, hj, hij, e⟩
theorem short {n : Nat} {ts : List Tie} {one v : Nat} (ok : ∀ t ∈ ts, TieOk n t) (h1 : one < n) : ∀ (m : Nat) (p : List Tie), p.length ≤ m → Pth ts one p v → ∃ q, Pth ts one q v ∧ q.length < n ∧ sumT q ≤ sumT p
  | m, p, hm, hp => by
    by_cases hl : p.length < n
    · exact ⟨p, hp, hl, by omega⟩
    · have pin : ∀ {u p v}, Pth ts u p v → ∀ t ∈ p, t ∈ ts := fun {u p v} => by
        induction p generalizing u with
        | nil => intro _ t ht; cases ht
        | cons s p ih =>
          intro h t ht
          rcases List.mem_cons.mp ht with e | e
          · rw [e]; exact h.1
          · exact ih h.2.2 t e
      have nl : ¬ (nodes one p).Nodup := fun nd => by
        have := nodup_le n _ nd fun x hx => by
          rcases List.mem_cons.mp hx with e | e
          · rw [e]; exact h1
          · obtain ⟨t, ht, rfl⟩ := List.mem_map.mp e
            exact (ok t (pin hp t ht)).b
        simp [nodes] at this
        omega
      obtain ⟨i, j, hi, hj, hij, e⟩ := twice nl
      obtain ⟨a1, _⟩ := hp.split i hi
      obtain ⟨b1, b2⟩ := hp.split j hj
      rw [← e] at b2
      have hj' : j ≤ p.length := by simp [nodes] at hj; omega
      have hlen : (p.take i ++ p.drop j).length < p.length := by simp; omega
      have hsum : sumT (p.take i ++ p.drop j) ≤ sumT p := by
        have e1 : p = p.take i ++ (p.drop i).take (j - i) ++ p.drop j := by
          rw [List.append_assoc]
          conv => lhs; rw [← List.take_append_drop i p]
          congr 1
          conv => lhs; rw [← List.take_append_drop (j - i) (p.drop i)]
          rw [List.drop_drop]
          congr 2
          omega
        have e2 : sumT p = sumT (p.take i) + sumT ((p.drop i).take (j - i)) + sumT (p.drop j) := by
          conv => lhs; rw [e1]
          rw [sumT_append, sumT_append]
        have pos : ∀ q : List Tie, (∀ t ∈ q, t ∈ ts) → 0 ≤ sumT q := fun q => by
          induction q with
          | nil => intro _; simp [sumT]
          | cons t q ih =>
            intro h
            have := ih fun s hs => h s (List.mem_cons_of_mem _ hs)
            have := (ok t (h t List.mem_cons_self)).l
            simp [sumT] at *
            omega
        have := pos ((p.drop i).take (j - i)) fun t ht => pin hp t (List.mem_of_mem_drop (List.mem_of_mem_take ht))
        rw [sumT_append]
        omega
      match m, hm with
      | 0, hm => omega
      | m + 1, hm =>
        obtain ⟨q, q1, q2, q3⟩ := short ok h1 m (p.take i ++ p.drop j) (by omega) (a1.append b2)
        exact ⟨q, q1, q2, by omega⟩
theorem Walk.short {n : Nat} {ts : List Tie} {one v k : Nat} {x : Int} (ok : ∀ t ∈ ts, TieOk n t) (h1 : one < n) (w : Walk ts one v x k) : ∃ x' k', Walk ts one v x' k' ∧ x' ≤ x ∧ k' < n := by
  obtain ⟨p, hp, hl, hs⟩ := w.pth
  obtain ⟨q, q1, q2, q3⟩ := Dn.W.short ok h1 p.length p (Nat.le_refl _) hp
  have := Walk.append (Walk.nil (ts := ts) (one := one)) q1
  exact ⟨_, _, this, by omega, by omega⟩
/-! rounds -/
def relax (r : Row) (t : Tie) : Row := match at_ r t.a with
  | none => r
  | some x => (match at_ r t.b with
    | none => r.set t.b (some (x + t.l))
    | some y => if x + t.l < y then r.set t.b (some (x + t.l)) else r)
def round (ts : List Tie) (r : Row) : Row := ts.foldl relax r
theorem at_set {r : Row} {v w : Nat} {x : Option Int} (h : v < r.length) : at_ (r.set v x) w = if w = v then x else at_ r w := by
  unfold at_
  rw [List.getD_eq_getElem?_getD, List.getElem?_set, List.getD_eq_getElem?_getD]
  by_cases e : v = w
  · subst e; simp [h]
  · rw [if_neg e, if_neg (Ne.symm e)]
theorem relax_len (r : Row) (t : Tie) : (relax r t).length = r.length := by
  unfold relax
  split
  · rfl
  · split
    · simp
    · split <;> simp
theorem round_len : ∀ (ts : List Tie) (r : Row), (round ts r).length = r.length
  | [], r => rfl
  | t :: ts, r => by
    show (round ts (relax r t)).length = _
    rw [round_len ts, relax_len]
/-- what a step does -/
theorem relax_cases {n : Nat} {r : Row} {t : Tie} (hl : r.length = n) (hb : t.b < n) : (relax r t = r ∧ ∀ x, at_ r t.a = some x → ∃ y, at_ r t.b = some y ∧ y ≤ x + t.l) ∨
    ∃ x, at_ r t.a = some x ∧ (∀ y, at_ r t.b = some y → x + t.l < y) ∧ ∀ w, at_ (relax r t) w = if w = t.b then some (x + t.l) else at_ r w := by
  unfold relax
  cases ha : at_ r t.a with
  | none => exact .inl ⟨rfl, fun x h => by cases h⟩
  | some x =>
    cases hb' : at_ r t.b with
    | none => exact .inr ⟨x, rfl, (fun y h => by cases h), fun w => by simp only; rw [at_set (by omega)]⟩
    | some y =>
      by_cases q : x + t.l < y
      · exact .inr ⟨x, rfl, (fun y' h => by cases h; exact q), fun w => by simp only [q, if_true]; rw [at_set (by omega)]⟩
      · exact .inl ⟨by simp only [q, if_false], fun x' h => by cases h; exact ⟨y, rfl, by omega⟩⟩
theorem relax_le {n : Nat} {r : Row} {t : Tie} (hl : r.length = n) (hb : t.b < n) {v : Nat} {y : Int} (h : at_ r v = some y) : ∃ y', at_ (relax r t) v = some y' ∧ y' ≤ y := by
  rcases relax_cases hl hb with ⟨e, _⟩ | ⟨x, h1, h2, h3⟩
  · rw [e]; exact ⟨y, h, by omega⟩
  · rw [h3]
    by_cases q : v = t.b
    · subst q
      rw [if_pos rfl]
      exact ⟨_, rfl, by have := h2 y h; omega⟩
    · rw [if_neg q]; exact ⟨y, h, by omega⟩
theorem round_le {n : Nat} : ∀ {ts : List Tie} {r : Row}, r.length = n → (∀ t ∈ ts, t.b < n) → ∀ {v : Nat} {y : Int}, at_ r v = some y → ∃ y', at_ (round ts r) v = some y' ∧ y' ≤ y
  | [], r, _, _, v, y, h => ⟨y, h, by omega⟩
  | t :: ts, r, hl, hb, v, y, h => by
    obtain ⟨y1, h1, l1⟩ := relax_le hl (hb t List.mem_cons_self) h
    obtain ⟨y2, h2, l2⟩ := round_le (ts := ts) (r := relax r t) (by rw [relax_len, hl]) (fun s hs => hb s (List.mem_cons_of_mem _ hs)) h1
    exact ⟨y2, h2, by omega⟩
theorem round_tie {n : Nat} : ∀ {ts : List Tie} {r : Row}, r.length = n → (∀ t ∈ ts, t.b < n) → ∀ t ∈ ts, ∀ x, at_ r t.a = some x → ∃ y, at_ (round ts r) t.b = some y ∧ y ≤ x + t.l
  | [], r, _, _, t, ht, _, _ => by cases ht
  | s :: ts, r, hl, hb, t, ht, x, hx => by
    have hl' : (relax r s).length = n := by rw [relax_len, hl]
    have hb' : ∀ t ∈ ts, t.b < n := fun s hs => hb s (List.mem_cons_of_mem _ hs)
    rcases List.mem_cons.mp ht with e | e
    · subst e
      have : ∃ y, at_ (relax r t) t.b = some y ∧ y ≤ x + t.l := by
        rcases relax_cases hl (hb t List.mem_cons_self) with ⟨e, h⟩ | ⟨x', h1, h2, h3⟩
        · rw [e]; exact h x hx
        · rw [h3, if_pos rfl]
          rw [hx] at h1; cases h1
          exact ⟨_, rfl, by omega⟩
      obtain ⟨y, h1, l1⟩ := this
      obtain ⟨y2, h2, l2⟩ := round_le hl' hb' h1
      exact ⟨y2, h2, by omega⟩
    · obtain ⟨x1, h1, l1⟩ := relax_le hl (hb s List.mem_cons_self) hx
      obtain ⟨y, h2, l2⟩ := round_tie hl' hb' t e x1 h1
      exact ⟨y, h2, by omega⟩
/-- what stays -/
structure Half (n : Nat) (ts : List Tie) (one : Nat) (r : Row) : Prop where
  len : r.length = n
  z : at_ r one = some 0
  wk : ∀ v x, at_ r v = some x → ∃ k, Walk ts one v x k
theorem Half.relax {n : Nat} {ts : List Tie} {one : Nat} {r : Row} (ok : ∀ t ∈ ts, TieOk n t) (h : Half n ts one r) {t : Tie} (ht : t ∈ ts) : Half n ts one (relax r t) := by
  have hp : ∀ t ∈ ts, 0 ≤ t.l := fun t ht => (ok t ht).l
  rcases relax_cases h.len (ok t ht).b with ⟨e, _⟩ | ⟨x, h1, h2, h3⟩
  · rw [e]; exact h
  · obtain ⟨k, w⟩ := h.wk _ _ h1
    have x0 := w.ge hp
    have l0 := hp t ht
    refine ⟨by rw [relax_len, h.len], ?_, fun v y hv => ?_⟩
    · rw [h3]
      by_cases q : one = t.b
      · have := h2 0 (by rw [← q]; exact h.z)
        omega
      · rw [if_neg q]; exact h.z
    · rw [h3] at hv
      by_cases q : v = t.b
      · rw [if_pos q] at hv
        cases hv
        subst q
        exact ⟨_, .snoc w ht rfl⟩
      · rw [if_neg q] at hv
        exact h.wk v y hv
theorem Half.round {n : Nat} {ts : List Tie} {one : Nat} (ok : ∀ t ∈ ts, TieOk n t) : ∀ {us : List Tie} {r : Row}, (∀ t ∈ us, t ∈ ts) → Half n ts one r → Half n ts one (round us r)
  | [], r, _, h => h
  | t :: us, r, hs, h => Half.round (us := us) ok (fun s hs' => hs s (List.mem_cons_of_mem _ hs')) (h.relax ok (hs t List.mem_cons_self))
/-- after k rounds: below every walk of at most k ties -/
def Below (ts : List Tie) (one k : Nat) (r : Row) : Prop := ∀ v x j, Walk ts one v x j → j ≤ k → ∃ y, at_ r v = some y ∧ y ≤ x
theorem Below.round {n : Nat} {ts : List Tie} {one k : Nat} {r : Row} (ok : ∀ t ∈ ts, TieOk n t) (hl : r.length = n) (h : Below ts one k r) : Below ts one (k + 1) (round ts r) := by
  intro v x j w hj
  cases w with
  | nil =>
    obtain ⟨y, h1, h2⟩ := h one 0 0 .nil (by omega)
    obtain ⟨y', h3, h4⟩ := round_le hl (fun t ht => (ok t ht).b) h1
    exact ⟨y', h3, by omega⟩
  | snoc w ht e =>
    obtain ⟨y, h1, h2⟩ := h _ _ _ w (by omega)
    obtain ⟨y', h3, h4⟩ := round_tie hl (fun t ht => (ok t ht).b) _ ht y (by rw [e]; exact h1)
    exact ⟨y', h3, by omega⟩
theorem Half.dist {n : Nat} {ts : List Tie} {one k : Nat} {r : Row} (ok : ∀ t ∈ ts, TieOk n t) (h1 : one < n) (h : Half n ts one r) (b : Below ts one k r) (hk : n ≤ k + 1) : IsDist n ts one r := by
  refine ⟨h.len, h.z, fun t ht x hx => ?_, h.wk⟩
  obtain ⟨j, w⟩ := h.wk _ _ hx
  obtain ⟨x', k', w', l1, l2⟩ := Walk.short ok h1 (Walk.snoc w ht rfl)
  obtain ⟨y, hy, l3⟩ := b _ _ _ w' (by omega)
  exact ⟨y, hy, by omega⟩
theorem Half.fix {n : Nat} {ts : List Tie} {one : Nat} {r : Row} (ok : ∀ t ∈ ts, TieOk n t) (h : Half n ts one r) (e : Dn.W.round ts r = r) : IsDist n ts one r := by
  refine ⟨h.len, h.z, fun t ht x hx => ?_, h.wk⟩
  obtain ⟨y, h1, h2⟩ := round_tie h.len (fun t ht => (ok t ht).b) t ht x hx
  rw [e] at h1
  exact ⟨y, h1, h2⟩
end Dn.W

set_option Elab.async false
set_option linter.all false
set_option maxRecDepth 100000
set_option maxHeartbeats 4000000
namespace Dn.W
open PySem PySem.Spec PyProof.Rows L2 Dn
def optD : Option Int → PyData
  | none => .none
  | some x => .int x
@[simp] theorem optD_none : optD none = .none := rfl
@[simp] theorem optD_some (x : Int) : optD (some x) = .int x := rfl
theorem atI_opt {r : Row} {v : Nat} (h : v < r.length) : L2.atI (r.map optD) (v : Int) = some (optD (at_ r v)) := by
  rw [atI_nat, List.getElem?_map, List.getElem?_eq_getElem h]
  simp [at_, List.getD_eq_getElem?_getD, h]
theorem lay_opt : ∀ r : Row, PyData.canLayAll0 (r.map optD) = true ∧ PyData.depthAll (r.map optD) = 0
  | [] => ⟨rfl, rfl⟩
  | x :: r => by
    obtain ⟨h1, h2⟩ := lay_opt r
    cases x with
    | none => exact ⟨by simp only [List.map_cons, PyData.canLayAll0, optD, PyData.canLay0, h1, Bool.and_self], by simp only [List.map_cons, PyData.depthAll, optD, PyData.depth, h2]; rfl⟩
    | some x => exact ⟨by simp only [List.map_cons, PyData.canLayAll0, optD, PyData.canLay0, h1, Bool.and_self], by simp only [List.map_cons, PyData.depthAll, optD, PyData.depth, h2]; rfl⟩
theorem sh_row (r : Row) : SeqAt.shaped (.list (r.map optD)) = true := by
  obtain ⟨h1, h2⟩ := lay_opt r
  unfold SeqAt.shaped
  simp only [PyData.canLay0, PyData.depth, h1, h2]
  decide
theorem eqv_rows : ∀ r r' : Row, PyData.eqvAll (r.map optD) (r'.map optD) = decide (r = r')
  | [], [] => rfl
  | [], _ :: _ => rfl
  | _ :: _, [] => rfl
  | x :: r, y :: r' => by
    simp only [List.map_cons, PyData.eqvAll, eqv_rows r r']
    cases x with
    | none => cases y with
      | none => simp [PyData.eqv]
      | some y => simp [PyData.eqv]
    | some x => cases y with
      | none => simp [PyData.eqv]
      | some y =>
        by_cases e : x = y
        · subst e; simp [PyData.eqv]
        · simp [PyData.eqv, e]
theorem gEq_rows (r r' : Row) : gEq (.list (r.map optD)) (.list (r'.map optD)) = some (.bool (decide (r = r'))) := by
  unfold gEq
  rw [if_pos ⟨sh_row r, sh_row r'⟩]
  simp only [PyData.eqv, eqv_rows]
def rowD (r : Row) : PyData := .tuple (r.map optD)
theorem start_half {n one : Nat} {ts : List Tie} (h1 : one < n) : Half n ts one ((List.replicate n none).set one (some 0)) := by
  have hl : (List.replicate n (none : Option Int)).length = n := List.length_replicate
  refine ⟨by simp, ?_, fun v x hv => ?_⟩
  · rw [at_set (by omega), if_pos rfl]
  · rw [at_set (by omega)] at hv
    by_cases e : v = one
    · rw [if_pos e] at hv; cases hv; subst e; exact ⟨0, .nil⟩
    · rw [if_neg e] at hv
      simp [at_, List.getD_eq_getElem?_getD, List.getElem?_replicate] at hv
      split at hv <;> cases hv
theorem start_below {n one : Nat} {ts : List Tie} (h1 : one < n) : Below ts one 0 ((List.replicate n none).set one (some 0)) := by
  intro v x j w hj
  cases w with
  | nil => exact ⟨0, by rw [at_set (by simpa using h1), if_pos rfl], by omega⟩
  | snoc w ht e => omega
end Dn.W

set_option Elab.async false
set_option linter.all false
set_option maxRecDepth 100000
set_option maxHeartbeats 4000000
/-! the search, in plain words -/
namespace Dn.W
abbrev Came := List (Option Nat)
def cm (c : Came) (v : Nat) : Option Nat := c.getD v none
theorem cm_set {c : Came} {v w : Nat} {x : Option Nat} (h : v < c.length) : cm (c.set v x) w = if w = v then x else cm c w := by
  unfold cm
  rw [List.getD_eq_getElem?_getD, List.getElem?_set, List.getD_eq_getElem?_getD]
  by_cases e : v = w
  · subst e; simp [h]
  · rw [if_neg e, if_neg (Ne.symm e)]
/-- where v's tie comes from: a place that was left ahead of it -/
def FromP (ts : List Tie) (f : Row) (c : Came) (V : List Nat) (v : Nat) (y : Int) : Prop :=
  ∃ i t V1 V2, cm c v = some i ∧ ts[i]? = some t ∧ t.b = v ∧ V = V1 ++ V2 ∧ t.a ∈ V1 ∧ v ∉ V1 ∧ ∃ x, at_ f t.a = some x ∧ y = x + t.l
structure DSt (n : Nat) (ts : List Tie) (one : Nat) (f : Row) (c : Came) (V W : List Nat) : Prop where
  half : Half n ts one f
  lc : c.length = n
  nd : (V ++ W).Nodup
  all : ∀ v, v < n ↔ v ∈ V ++ W
  mono : ∀ u ∈ V, ∃ x, at_ f u = some x ∧ ∀ w ∈ W, ∀ y, at_ f w = some y → x ≤ y
  cl : ∀ t ∈ ts, t.a ∈ V → ∀ x, at_ f t.a = some x → ∃ y, at_ f t.b = some y ∧ y ≤ x + t.l
  came : ∀ v y, v ≠ one → at_ f v = some y → FromP ts f c V v y
/-- all that waits is not reached: the lengths are the shortest ones -/
theorem DSt.dist {n : Nat} {ts : List Tie} {one : Nat} {f : Row} {c : Came} {V W : List Nat} (ok : ∀ t ∈ ts, TieOk n t) (h : DSt n ts one f c V W) (hw : ∀ w ∈ W, at_ f w = none) : IsDist n ts one f := by
  refine ⟨h.half.len, h.half.z, fun t ht x hx => ?_, h.half.wk⟩
  have := (h.all t.a).mp (ok t ht).a
  rcases List.mem_append.mp this with q | q
  · exact h.cl t ht q x hx
  · rw [hw _ q] at hx; cases hx
/-- `here` is taken from what waits; the ties in done are gone through -/
structure DIn (n : Nat) (ts : List Tie) (one : Nat) (f : Row) (c : Came) (V W : List Nat) (here : Nat) (x : Int) (done : List (Nat × Tie)) : Prop where
  half : Half n ts one f
  lc : c.length = n
  nd : ((V ++ [here]) ++ W).Nodup
  all : ∀ v, v < n ↔ v ∈ (V ++ [here]) ++ W
  hx : at_ f here = some x
  mono : ∀ u ∈ V ++ [here], ∃ z, at_ f u = some z ∧ z ≤ x ∧ ∀ w ∈ W, ∀ y, at_ f w = some y → z ≤ y
  cl : ∀ t ∈ ts, t.a ∈ V → ∀ x, at_ f t.a = some x → ∃ y, at_ f t.b = some y ∧ y ≤ x + t.l
  cld : ∀ p ∈ done, ∃ y, at_ f p.2.b = some y ∧ y ≤ x + p.2.l
  came : ∀ v y, v ≠ one → at_ f v = some y → FromP ts f c (V ++ [here]) v y
theorem DSt.take {n : Nat} {ts : List Tie} {one : Nat} {f : Row} {c : Came} {V W : List Nat} {here : Nat} {x : Int} (h : DSt n ts one f c V W) (hh : here ∈ W) (hx : at_ f here = some x) (hm : ∀ w ∈ W, ∀ y, at_ f w = some y → x ≤ y) :
    DIn n ts one f c V (W.erase here) here x [] := by
  have pw : (here :: W.erase here).Perm W := (List.perm_cons_erase hh).symm
  have pp : ((V ++ [here]) ++ W.erase here).Perm (V ++ W) := by
    rw [List.append_assoc]
    exact pw.append_left V
  refine ⟨h.half, h.lc, pp.nodup_iff.mpr h.nd, fun v => (h.all v).trans pp.mem_iff.symm, hx, fun u hu => ?_, h.cl, (fun p hp => by cases hp), fun v y hv hy => ?_⟩
  · rcases List.mem_append.mp hu with q | q
    · obtain ⟨z, z1, z2⟩ := h.mono u q
      exact ⟨z, z1, z2 here hh x hx, fun w hw y hy => z2 w (List.mem_of_mem_erase hw) y hy⟩
    · rw [List.mem_singleton.mp q]
      exact ⟨x, hx, by omega, fun w hw y hy => hm w (List.mem_of_mem_erase hw) y hy⟩
  · obtain ⟨i, t, V1, V2, a1, a2, a3, a4, a5, a6, a7⟩ := h.came v y hv hy
    exact ⟨i, t, V1, V2 ++ [here], a1, a2, a3, by rw [a4, List.append_assoc], a5, a6, a7⟩
theorem DIn.end_ {n : Nat} {ts : List Tie} {one : Nat} {f : Row} {c : Came} {V W : List Nat} {here : Nat} {x : Int} {done : List (Nat × Tie)} (h : DIn n ts one f c V W here x done) (hd : ∀ t ∈ ts, t.a = here → ∃ p ∈ done, p.2 = t) :
    DSt n ts one f c (V ++ [here]) W := by
  refine ⟨h.half, h.lc, h.nd, h.all, fun u hu => ?_, fun t ht ha x' hx' => ?_, h.came⟩
  · obtain ⟨z, z1, _, z2⟩ := h.mono u hu
    exact ⟨z, z1, z2⟩
  · rcases List.mem_append.mp ha with q | q
    · exact h.cl t ht q x' hx'
    · have e := List.mem_singleton.mp q
      obtain ⟨p, hp, rfl⟩ := hd t ht e
      rw [e, h.hx] at hx'
      cases hx'
      exact h.cld p hp
/-- one tie that leads from `here` -/
theorem DIn.step {n : Nat} {ts : List Tie} {one : Nat} {f : Row} {c : Came} {V W : List Nat} {here : Nat} {x : Int} {done : List (Nat × Tie)} (ok : ∀ t ∈ ts, TieOk n t) (h : DIn n ts one f c V W here x done) {i : Nat} {t : Tie} (hi : ts[i]? = some t) (ha : t.a = here) :
    ((∃ y, at_ f t.b = some y ∧ y ≤ x + t.l) → DIn n ts one f c V W here x (done ++ [(i, t)])) ∧
    ((∀ y, at_ f t.b = some y → x + t.l < y) → DIn n ts one (f.set t.b (some (x + t.l))) (c.set t.b (some i)) V W here x (done ++ [(i, t)])) := by
  have ht := List.mem_of_getElem? hi
  have okt := ok t ht
  refine ⟨fun q => ⟨h.half, h.lc, h.nd, h.all, h.hx, h.mono, h.cl, fun p hp => ?_, h.came⟩, fun q => ?_⟩
  · rcases List.mem_append.mp hp with z | z
    · exact h.cld p z
    · rw [List.mem_singleton.mp z]; exact q
  · have lb : t.b < f.length := by rw [h.half.len]; exact okt.b
    have lbc : t.b < c.length := by rw [h.lc]; exact okt.b
    -- a place that was left is not bettered
    have nV : t.b ∉ V ++ [here] := fun z => by
      obtain ⟨z1, e1, e2, _⟩ := h.mono _ z
      have := q z1 e1
      have := okt.l
      omega
    have keep : ∀ u ∈ V ++ [here], at_ (f.set t.b (some (x + t.l))) u = at_ f u := fun u hu => by
      rw [at_set lb, if_neg (fun e : u = t.b => nV (by rw [← e]; exact hu))]
    have x0 : 0 ≤ x := by
      obtain ⟨k, w⟩ := h.half.wk _ _ h.hx
      exact w.ge fun t ht => (ok t ht).l
    have one_ne : one ≠ t.b := fun e => by
      have := q 0 (by rw [← e]; exact h.half.z)
      have := okt.l
      omega
    have dec : ∀ v y, at_ f v = some y → ∃ y', at_ (f.set t.b (some (x + t.l))) v = some y' ∧ y' ≤ y := fun v y hv => by
      rw [at_set lb]
      by_cases e : v = t.b
      · subst e; rw [if_pos rfl]; exact ⟨_, rfl, by have := q y hv; omega⟩
      · rw [if_neg e]; exact ⟨y, hv, by omega⟩
    refine ⟨⟨by simp [h.half.len], ?_, fun v y hv => ?_⟩, by simp [h.lc], h.nd, h.all, ?_, fun u hu => ?_, fun s hs hsa z hz => ?_, fun p hp => ?_, fun v y hv hy => ?_⟩
    · rw [at_set lb, if_neg one_ne]; exact h.half.z
    · rw [at_set lb] at hv
      by_cases e : v = t.b
      · rw [if_pos e] at hv
        cases hv
        subst e
        obtain ⟨k, w⟩ := h.half.wk _ _ h.hx
        exact ⟨_, .snoc w ht ha⟩
      · rw [if_neg e] at hv; exact h.half.wk v y hv
    · rw [keep here (by simp)]; exact h.hx
    · obtain ⟨z, z1, z2, z3⟩ := h.mono u hu
      refine ⟨z, by rw [keep u hu]; exact z1, z2, fun w hw y hy => ?_⟩
      rw [at_set lb] at hy
      by_cases e : w = t.b
      · rw [if_pos e] at hy; cases hy; have := okt.l; omega
      · rw [if_neg e] at hy; exact z3 w hw y hy
    · rw [keep s.a (List.mem_append_left _ hsa)] at hz
      obtain ⟨y, y1, y2⟩ := h.cl s hs hsa z hz
      obtain ⟨y', y3, y4⟩ := dec _ _ y1
      exact ⟨y', y3, by omega⟩
    · rcases List.mem_append.mp hp with z | z
      · obtain ⟨y, y1, y2⟩ := h.cld p z
        obtain ⟨y', y3, y4⟩ := dec _ _ y1
        exact ⟨y', y3, by omega⟩
      · rw [List.mem_singleton.mp z]
        exact ⟨x + t.l, by rw [at_set lb, if_pos rfl], Int.le_refl _⟩
    · rw [at_set lb] at hy
      by_cases e : v = t.b
      · rw [if_pos e] at hy
        cases hy
        subst e
        exact ⟨i, t, V ++ [here], [], by rw [cm_set lbc, if_pos rfl], hi, rfl, by simp, by rw [ha]; simp, nV, x, by rw [ha, keep here (by simp)]; exact h.hx, rfl⟩
      · rw [if_neg e] at hy
        obtain ⟨j, s, V1, V2, a1, a2, a3, a4, a5, a6, z, a7, a8⟩ := h.came v y hv hy
        exact ⟨j, s, V1, V2, by rw [cm_set lbc, if_neg e]; exact a1, a2, a3, a4, a5, a6, z, by rw [keep s.a (by rw [a4]; exact List.mem_append_left _ a5)]; exact a7, a8⟩
/-! the way back -/
inductive Back (ts : List Tie) (c : Came) (one : Nat) : Nat → List Nat → List Nat → Int → Prop
  | nil : Back ts c one one [] [one] 0
  | cons {v i t is ns s} : v ≠ one → cm c v = some i → ts[i]? = some t → t.b = v → Back ts c one t.a is ns s → v ∉ ns → Back ts c one v (i :: is) (v :: ns) (s + t.l)
theorem prefix_cmp {α : Type} {V A B C D : List α} (h1 : V = A ++ B) (h2 : V = C ++ D) {v : α} (hv : v ∈ A) (nv : v ∉ C) : ∃ E, A = C ++ E ∧ C.length < A.length := by
  have e : A ++ B = C ++ D := h1.symm.trans h2
  rcases Nat.lt_or_ge C.length A.length with h | h
  · refine ⟨A.drop C.length, ?_, h⟩
    have h3 := congrArg (List.take C.length) e
    rw [List.take_append_of_le_length (by omega), List.take_append_of_le_length (Nat.le_refl _), List.take_length] at h3
    have h4 := List.take_append_drop C.length A
    rw [h3] at h4
    exact h4.symm
  · exfalso
    have h3 := congrArg (List.take A.length) e
    rw [List.take_append_of_le_length (Nat.le_refl _), List.take_append_of_le_length h, List.take_length] at h3
    exact nv (List.mem_of_mem_take (h3 ▸ hv))
theorem back_ex {n : Nat} {ts : List Tie} {one : Nat} {f : Row} {c : Came} {V : List Nat} (hz : at_ f one = some 0) (hc : ∀ v y, v ≠ one → at_ f v = some y → FromP ts f c V v y) :
    ∀ (m : Nat) (V1 V2 : List Nat), V = V1 ++ V2 → V1.length ≤ m → ∀ v ∈ V1, ∀ y, at_ f v = some y → ∃ is ns, Back ts c one v is ns y ∧ ∀ u ∈ ns, u ∈ V1
  | 0, V1, V2, e, hl, v, hv, y, hy => by
    have := List.eq_nil_of_length_eq_zero (Nat.le_zero.mp hl)
    rw [this] at hv; cases hv
  | m + 1, V1, V2, e, hl, v, hv, y, hy => by
    by_cases q : v = one
    · subst q
      rw [hz] at hy; cases hy
      exact ⟨[], [v], .nil, fun u hu => by rw [List.mem_singleton.mp hu]; exact hv⟩
    · obtain ⟨i, t, U1, U2, a1, a2, a3, a4, a5, a6, x, a7, a8⟩ := hc v y q hy
      obtain ⟨E, e1, e2⟩ := prefix_cmp e a4 hv a6
      obtain ⟨is, ns, b1, b2⟩ := back_ex (n := n) hz hc m U1 U2 a4 (by omega) t.a a5 x a7
      refine ⟨i :: is, v :: ns, ?_, fun u hu => ?_⟩
      · rw [a8]; exact .cons q a1 a2 a3 b1 fun z => a6 (b2 v z)
      · rcases List.mem_cons.mp hu with z | z
        · rw [z]; exact hv
        · rw [e1]; exact List.mem_append_left _ (b2 u z)
end Dn.W

set_option Elab.async false
set_option linter.all false
set_option maxRecDepth 100000
set_option maxHeartbeats 4000000
namespace Dn
open PySem PySem.Spec PyProof.Rows L2
open scoped Dn.Sz in
theorem dLcOL_cons (m : Nat) (vs : List Nat) (g : DG) (τ : DT) (ε : DO) (d : PyData) (ds : List PyData) (env : En) (acc : List PyData) : dLcOL m vs g τ ε (d :: ds) env acc = (match g d env with
    | some e1 => (match τ e1 with
      | some (true, e2) => (match ε e2 with
        | some (y, e3) => if acc.length < sizeLine ∧ frzAt vs e3 = true ∧ (y.1 = m ∨ flatD y.2 = true) then dLcOL m vs g τ ε ds (wipeE e3 vs) (acc ++ [y.2]) else none
        | none => none)
      | some (false, e2) => if frzAt vs e2 = true then dLcOL m vs g τ ε ds (wipeE e2 vs) acc else none
      | none => none)
    | none => none) := rfl
theorem lcO' {m : Nat} {vs : List Nat} {g : DG} {ε : DO} (F : PyData → PyData) (env0 : En) : ∀ (ds acc : List PyData), acc.length + ds.length ≤ sizeLine →
    (∀ d ∈ ds, ∃ e1, g d env0 = some e1 ∧ frzAt vs e1 = true ∧ wipeE e1 vs = env0 ∧ ε e1 = some ((m, F d), e1)) →
    dLcOL m vs g dtYes ε ds env0 acc = some (acc ++ ds.map F, env0)
  | [], acc, _, _ => by simp [dLcOL]
  | d :: ds, acc, hl, h => by
    obtain ⟨e1, h1, h3, h4, h5⟩ := h d List.mem_cons_self
    simp only [List.length_cons] at hl
    have ha : acc.length < sizeLine := by omega
    rw [dLcOL_cons, h1]
    simp only [dtYes_ap, h5, h4]
    rw [if_pos ⟨ha, h3, .inl trivial⟩, lcO' F env0 ds (acc ++ [F d]) (by simp; omega) fun y hy => h y (List.mem_cons_of_mem _ hy)]
    simp
theorem lcO {m : Nat} {vs : List Nat} {g : DG} {ε : DO} (F : PyData → PyData) (env0 : En) (ds : List PyData) (hl : ds.length ≤ sizeLine)
    (h : ∀ d ∈ ds, ∃ e1, g d env0 = some e1 ∧ frzAt vs e1 = true ∧ wipeE e1 vs = env0 ∧ ε e1 = some ((m, F d), e1)) :
    dLcOL m vs g dtYes ε ds env0 [] = some (ds.map F, env0) := by
  rw [lcO' F env0 ds [] (by simpa using hl) h]
  simp
namespace W
def leadL : Nat → List Tie → Nat → List (Nat × Tie)
  | _, [], _ => []
  | i, t :: ts, a => if t.a = a then (i, t) :: leadL (i + 1) ts a else leadL (i + 1) ts a
def leadE (p : Nat × Tie) : PyData := .tuple [.int (p.1 : Nat), .int (p.2.b : Nat), .int p.2.l]
theorem leadL_mem : ∀ {i0 : Nat} {ts : List Tie} {a : Nat} {p : Nat × Tie}, p ∈ leadL i0 ts a → i0 ≤ p.1 ∧ ts[p.1 - i0]? = some p.2 ∧ p.2.a = a
  | i0, [], a, p, h => by cases h
  | i0, t :: ts, a, p, h => by
    unfold leadL at h
    have step : p ∈ leadL (i0 + 1) ts a → i0 ≤ p.1 ∧ (t :: ts)[p.1 - i0]? = some p.2 ∧ p.2.a = a := fun h => by
      obtain ⟨h1, h2, h3⟩ := leadL_mem h
      refine ⟨by omega, ?_, h3⟩
      rw [show p.1 - i0 = p.1 - (i0 + 1) + 1 by omega]
      simpa using h2
    split at h
    · rename_i e
      rcases List.mem_cons.mp h with z | z
      · subst z; exact ⟨Nat.le_refl _, by simp, e⟩
      · exact step z
    · exact step h
theorem leadL_all : ∀ {i0 : Nat} {ts : List Tie} {a : Nat} {t : Tie}, t ∈ ts → t.a = a → ∃ p ∈ leadL i0 ts a, p.2 = t
  | i0, [], a, t, h, _ => by cases h
  | i0, s :: ts, a, t, h, e => by
    unfold leadL
    rcases List.mem_cons.mp h with z | z
    · subst z
      rw [if_pos e]
      exact ⟨_, List.mem_cons_self, rfl⟩
    · obtain ⟨p, h1, h2⟩ := leadL_all (i0 := i0 + 1) z e
      split
      · exact ⟨p, List.mem_cons_of_mem _ h1, h2⟩
      · exact ⟨p, h1, h2⟩
theorem leadL_len : ∀ (i0 : Nat) (ts : List Tie) (a : Nat), (leadL i0 ts a).length ≤ ts.length
  | _, [], _ => by simp [leadL]
  | i0, t :: ts, a => by
    unfold leadL
    have := leadL_len (i0 + 1) ts a
    split <;> simp <;> omega
theorem leadL_snoc : ∀ (i0 : Nat) (ts : List Tie) (t : Tie) (a : Nat), leadL i0 (ts ++ [t]) a = leadL i0 ts a ++ (if t.a = a then [(i0 + ts.length, t)] else [])
  | i0, [], t, a => by simp [leadL]
  | i0, s :: ts, t, a => by
    have := leadL_snoc (i0 + 1) ts t a
    simp only [List.cons_append, leadL, this, List.length_cons]
    rw [show i0 + 1 + ts.length = i0 + (ts.length + 1) by omega]
    split <;> simp
def leadD (n : Nat) (us : List Tie) : List PyData := (List.range n).map fun a => .list ((leadL 0 us a).map leadE)
theorem ties_from_spec {n : Nat} {ts : List Tie} (h : MapW n ts) : D_ties_from [(0, .int n), (0, .tuple (ts.map tieD))] = some ((2, .list (leadD n ts)), []) := by
  have hz := sizeLine_big
  have n1 := h.n1
  have hl := h.len
  let I : Nat → En → Prop := fun k env => ∃ (x3 x4 x5 x6 x7 : Option Sl), env = [some (0, .int n), some (0, .tuple (ts.map tieD)), some (2, .list (leadD n (ts.take k))), x3, x4, x5, x6, x7]
  obtain ⟨env', e, x3, x4, x5, x6, x7, rfl⟩ := forN (g := gTp 2 (gsCons (gNm 3) (gsCons (gTp 3 (gsCons (gNm 4) (gsCons (gNm 5) (gsCons (gNm 6) gsNil)))) gsNil))) (b := b_ties_from_1) I (enumD 0 (ts.map tieD))
    [some (0, .int n), some (0, .tuple (ts.map tieD)), some (2, .list (leadD n [])), none, none, none, none, none] ⟨_, _, _, _, _, rfl⟩ (by
      rintro k x env hx ⟨x3, x4, x5, x6, x7, rfl⟩
      obtain ⟨y, hy, rfl⟩ := enumD_get _ _ _ _ hx
      rw [List.getElem?_map] at hy
      cases hk : ts[k]? with
      | none => rw [hk] at hy; cases hy
      | some t =>
        rw [hk] at hy; cases hy
        have okt := h.ok t (List.mem_of_getElem? hk)
        have hkl := (List.getElem?_eq_some_iff.mp hk).1
        have ek := (List.getElem?_eq_some_iff.mp hk).2
        rw [Nat.zero_add]
        have len : (leadD n (ts.take k)).length = n := by simp [leadD]
        have q1 : ixN n ((t.a : Nat) : Int) = some t.a := ixN_nat okt.a
        have q2 : (leadD n (ts.take k))[t.a]? = some (.list ((leadL 0 (ts.take k) t.a).map leadE)) := by
          unfold leadD
          rw [List.getElem?_map, List.getElem?_range okt.a]
          rfl
        have q3 : (leadL 0 (ts.take k) t.a).length < sizeLine := by
          have := leadL_len 0 (ts.take k) t.a
          rw [List.length_take] at this
          omega
        have q4 : (leadD n (ts.take k)).set t.a (.list ((leadL 0 (ts.take k) t.a).map leadE ++ [leadE (k, t)])) = leadD n (ts.take (k + 1)) := by
          have et : ts.take (k + 1) = ts.take k ++ [t] := by rw [List.take_succ, hk]; rfl
          rw [et]
          unfold leadD
          refine List.ext_getElem (by simp) fun j j1 j2 => ?_
          simp only [List.length_set, List.length_map, List.length_range] at j1
          rw [List.getElem_set]
          simp only [List.getElem_map, List.getElem_range]
          by_cases e : t.a = j
          · subst e
            rw [if_pos rfl, leadL_snoc, if_pos rfl, Nat.zero_add, List.length_take, Nat.min_eq_left (by omega), List.map_append]
            rfl
          · rw [if_neg e, leadL_snoc, if_neg e, List.append_nil]
        refine ⟨[some (0, .int n), some (0, .tuple (ts.map tieD)), some (2, .list (leadD n (ts.take k))), some (0, .int (k : Nat)), some (0, .int (t.a : Nat)), some (0, .int (t.b : Nat)), some (0, .int t.l), x7], by simp [tieD], [some (0, .int n), some (0, .tuple (ts.map tieD)), some (2, .list (leadD n (ts.take (k + 1)))), some (0, .int (k : Nat)), some (0, .int (t.a : Nat)), some (0, .int (t.b : Nat)), some (0, .int t.l), x7], ?_, _, _, _, _, _, rfl⟩
        have h3 : 3 ≤ sizeLine := by omega
        rw [← q4]
        simp [b_ties_from_1, len, q1, q2, q3, h3, leadE])
  rw [enumD_len, List.length_map, List.take_length] at e
  have ok0 : okR (n : Int) = true := by unfold okR; exact decI (by omega)
  have body : b_ties_from [some (0, .int n), some (0, .tuple (ts.map tieD)), none, none, none, none, none, none] = some (.rt (2, .list (leadD n ts)), [some (0, .int n), some (0, .tuple (ts.map tieD)), none, x3, x4, x5, x6, x7]) := by
    unfold b_ties_from
    rw [dSeq_go (e := [some (0, .int n), some (0, .tuple (ts.map tieD)), some (2, .list (leadD n [])), none, none, none, none, none]) (by
      simp [ok0]
      rw [lcO (fun _ => .list []) [some (0, .int n), some (0, .tuple (ts.map tieD)), none, none, none, none, none, none] (rgD 0 n) (by rw [rgD_len]; omega)]
      · have e0 : (rgD 0 (n : Int)).map (fun _ => PyData.list []) = leadD n [] := by
          rw [rgD_nat, List.map_map]
          unfold leadD
          refine List.map_congr_left fun a _ => ?_
          rfl
        simp [e0]
      · intro d hd
        exact ⟨_, rfl, by
          obtain ⟨i, hi, rfl⟩ := List.mem_iff_getElem.mp hd
          obtain ⟨e, _⟩ := rgD_get (List.getElem?_eq_getElem hi)
          rw [e]; simp, by simp, by simp⟩)]
    rw [dSeq_go (e := [some (0, .int n), some (0, .tuple (ts.map tieD)), some (2, .list (leadD n ts)), x3, x4, x5, x6, x7]) (by
      rw [dFor_ap]
      have : iEnumD (dCons (dOf (dVar 1)) dNil) [some (0, .int n), some (0, .tuple (ts.map tieD)), some (2, .list (leadD n [])), none, none, none, none, none] = some (enumD 0 (ts.map tieD), [some (0, .int n), some (0, .tuple (ts.map tieD)), some (2, .list (leadD n [])), none, none, none, none, none]) := by simp
      rw [this]
      exact e)]
    simp
  simp [D_ties_from_eq, fnSem_ap, body]
end W
end Dn

set_option Elab.async false
set_option linter.all false
set_option maxRecDepth 100000
set_option maxHeartbeats 4000000
namespace Dn
open PySem PySem.Spec PyProof.Rows L2
theorem forVN {i : Nat} {g : DG} {b : DS} (ds : List PyData) (I : Nat → En → Prop) (hI : ∀ k env, I k env → ownL env[i]? = some ds)
    (st : ∀ k d env, ds[k]? = some d → I k env → ∃ e1, g d env = some e1 ∧ ∃ e2, b e1 = some (.nx, e2) ∧ I (k + 1) e2) :
    ∀ (m k : Nat) (env : En), k + m = ds.length → I k env → ∃ env', dForVN i g b (m + 1) k env = some (.nx, env') ∧ I ds.length env'
  | 0, k, env, hk, h => by
    have e : ds[k]? = none := List.getElem?_eq_none (by omega)
    refine ⟨env, ?_, by rw [← hk]; exact h⟩
    unfold dForVN
    simp only [hI k env h, e]
  | m + 1, k, env, hk, h => by
    have hlt : k < ds.length := by omega
    obtain ⟨e1, h1, e2, h2, h3⟩ := st k ds[k] env (List.getElem?_eq_getElem hlt) h
    obtain ⟨env', h4, h5⟩ := forVN ds I hI st m (k + 1) e2 (by omega) h3
    refine ⟨env', ?_, h5⟩
    unfold dForVN
    simp only [hI k env h, List.getElem?_eq_getElem hlt, h1, h2]
    exact h4
theorem forV {i : Nat} {g : DG} {b : DS} (ds : List PyData) (hl : ds.length < 1000000000) (I : Nat → En → Prop) (hI : ∀ k env, I k env → ownL env[i]? = some ds) (env : En) (h : I 0 env)
    (st : ∀ k d env, ds[k]? = some d → I k env → ∃ e1, g d env = some e1 ∧ ∃ e2, b e1 = some (.nx, e2) ∧ I (k + 1) e2) : ∃ env', dForV i g b env = some (.nx, env') ∧ I ds.length env' := by
  obtain ⟨env', h1, h2⟩ := forVN ds I hI st ds.length 0 env (by omega) h
  exact ⟨env', dForV_of (by omega) h1, h2⟩
namespace W
def isLess : Option Int → Option Int → Bool
  | none, _ => false
  | some _, none => true
  | some x, some y => decide (x < y)
theorem is_less_spec (a b : Option Int) : D_is_less [(0, optD a), (0, optD b)] = some ((0, .bool (isLess a b)), []) := by
  cases a with
  | none => simp [D_is_less_eq, fnSem_ap, b_is_less, isLess]
  | some x => cases b with
    | none => simp [D_is_less_eq, fnSem_ap, b_is_less, isLess]
    | some y => simp [D_is_less_eq, fnSem_ap, b_is_less, isLess]
def camD : Option Nat → PyData
  | none => .none
  | some i => .int (i : Nat)
def natsD (W : List Nat) : List PyData := W.map fun w => .int (w : Nat)
abbrev ES (A T O L : Option Sl) (f : Row) (c : Came) (W : List Nat) (x7 x8 x9 x10 : Option Sl) : En := [A, T, O, L, some (1, .list (f.map optD)), some (1, .list (c.map camD)), some (1, .list (natsD W)), x7, x8, x9, x10]
theorem natsD_get {W : List Nat} {k : Nat} (h : k < W.length) : (natsD W)[k]? = some (.int (W[k] : Nat)) := by
  unfold natsD; rw [List.getElem?_map, List.getElem?_eq_getElem h]; rfl
theorem search_1 {n : Nat} {A T O L : Option Sl} {f : Row} {c : Came} {W : List Nat} (hf : f.length = n) (hW : ∀ w ∈ W, w < n) (hn : n ≤ 20) (hl : W.length ≤ 20) (x8 x9 x10 : Option Sl) (hne : W ≠ []) :
    ∃ (here : Nat) (y8 : Option Sl), here ∈ W ∧ (∀ w ∈ W, isLess (at_ f w) (at_ f here) = false) ∧
      dForV 6 (gNm 8) b_search_1 (ES A T O L f c W (some (0, .int ((W.headD 0 : Nat) : Int))) x8 x9 x10) = some (.nx, ES A T O L f c W (some (0, .int (here : Nat))) y8 x9 x10) := by
  let I : Nat → En → Prop := fun k env => ∃ (here : Nat) (y8 : Option Sl), env = ES A T O L f c W (some (0, .int (here : Nat))) y8 x9 x10 ∧ here ∈ W ∧ ∀ j w, j < k → W[j]? = some w → isLess (at_ f w) (at_ f here) = false
  have h0 : W.headD 0 ∈ W := by
    cases W with
    | nil => exact absurd rfl hne
    | cons w W => exact List.mem_cons_self
  obtain ⟨env', e, here, y8, rfl, hh, hm⟩ := forV (i := 6) (g := gNm 8) (b := b_search_1) (natsD W) (by simp [natsD]; omega) I (by rintro k env ⟨here, y8, rfl, _⟩; rfl)
    (ES A T O L f c W (some (0, .int ((W.headD 0 : Nat) : Int))) x8 x9 x10) ⟨_, _, rfl, h0, fun j w hj => by omega⟩ (by
      rintro k d env hd ⟨here, y8, rfl, hh, hm⟩
      have hk : k < W.length := by
        have := (List.getElem?_eq_some_iff.mp hd).1
        simpa [natsD] using this
      rw [natsD_get hk] at hd
      cases hd
      have a1 := atI_opt (r := f) (v := W[k]) (by rw [hf]; exact hW _ (List.getElem_mem hk))
      have a2 := atI_opt (r := f) (v := here) (by rw [hf]; exact hW _ hh)
      refine ⟨ES A T O L f c W (some (0, .int (here : Nat))) (some (0, .int (W[k] : Nat))) x9 x10, rfl, ?_⟩
      cases q : isLess (at_ f W[k]) (at_ f here) with
      | true =>
        refine ⟨ES A T O L f c W (some (0, .int (W[k] : Nat))) (some (0, .int (W[k] : Nat))) x9 x10, by simp [b_search_1, a1, a2, is_less_spec, q], _, _, rfl, List.getElem_mem hk, fun j w hj hw => ?_⟩
        by_cases e : j = k
        · subst e
          rw [List.getElem?_eq_getElem hk] at hw; cases hw
          cases at_ f W[j] with
          | none => rfl
          | some x => simp [isLess]
        · have := hm j w (by omega) hw
          revert this q
          cases at_ f w with
          | none => intros; rfl
          | some x =>
            cases at_ f W[k] with
            | none => intro q; cases q
            | some y =>
              cases at_ f here with
              | none => intro _ h; cases h
              | some z => intro h1 h2; simp [isLess] at *; omega
      | false =>
        refine ⟨ES A T O L f c W (some (0, .int (here : Nat))) (some (0, .int (W[k] : Nat))) x9 x10, by simp [b_search_1, a1, a2, is_less_spec, q], _, _, rfl, hh, fun j w hj hw => ?_⟩
        by_cases e : j = k
        · subst e
          rw [List.getElem?_eq_getElem hk] at hw; cases hw
          exact q
        · exact hm j w (by omega) hw)
  refine ⟨here, y8, hh, fun w hw => ?_, e⟩
  obtain ⟨j, hj, rfl⟩ := List.mem_iff_getElem.mp hw
  exact hm j _ (by simp [natsD]; exact hj) (List.getElem?_eq_getElem hj)
theorem map_erase {α β : Type} (f : α → β) : ∀ (l : List α) (j : Nat), (l.map f).eraseIdx j = (l.eraseIdx j).map f
  | [], _ => rfl
  | _ :: _, 0 => rfl
  | x :: l, j + 1 => by simp only [List.map_cons, List.eraseIdx_cons_succ, map_erase f l j]
theorem remI_erase : ∀ {W : List Nat} {h : Nat}, h ∈ W → ∃ j, remI (h : Int) (W.map fun (w : Nat) => (w : Int)) = some j ∧ W.eraseIdx j = W.erase h
  | [], _, hh => by cases hh
  | w :: W, h, hh => by
    by_cases e : w = h
    · subst e
      exact ⟨0, by simp [remI], by simp⟩
    · have hh' : h ∈ W := by
        rcases List.mem_cons.mp hh with z | z
        · exact absurd z.symm e
        · exact z
      obtain ⟨j, h1, h2⟩ := remI_erase hh'
      refine ⟨j + 1, ?_, ?_⟩
      · have ne : ¬ (w : Int) = (h : Int) := by omega
        simp only [List.map_cons, remI, if_neg ne, h1]
      · rw [List.eraseIdx_cons_succ, h2, List.erase_cons_tail (by simpa using e)]
theorem mRemove_nats {W : List Nat} {h : Nat} (hh : h ∈ W) : mRemove (natsD W) [.int (h : Nat)] = some (.none, natsD (W.erase h)) := by
  obtain ⟨j, h1, h2⟩ := remI_erase hh
  have e : natsD W = (W.map fun (w : Nat) => (w : Int)).map PyData.int := by rw [List.map_map]; rfl
  unfold mRemove
  have e2 : intsD (natsD W) = some (W.map fun (w : Nat) => (w : Int)) := by rw [e, intsD_map]
  simp only [e2, h1]
  congr 2
  unfold natsD
  rw [← h2, map_erase]
end W
end Dn

set_option Elab.async false
set_option linter.all false
set_option maxRecDepth 100000
set_option maxHeartbeats 4000000
namespace Dn.W
open PySem PySem.Spec PyProof.Rows L2 Dn
theorem search_2 {n : Nat} {ts : List Tie} {one here : Nat} {x : Int} {V W : List Nat} (ok : ∀ t ∈ ts, TieOk n t) (hh : here < n) (A T O L : Option Sl) (WD : List Nat) :
    ∀ (ls : List (Nat × Tie)) (done : List (Nat × Tie)) (f : Row) (c : Came) (x8 x9 x10 : Option Sl), (∀ p ∈ ls, ts[p.1]? = some p.2 ∧ p.2.a = here) → DIn n ts one f c V W here x done →
      ∃ (f' : Row) (c' : Came) (y8 y9 y10 : Option Sl), DIn n ts one f' c' V W here x (done ++ ls) ∧
        dForL (gTp 3 (gsCons (gNm 9) (gsCons (gNm 8) (gsCons (gNm 10) gsNil)))) b_search_2 (ls.map leadE) (ES A T O L f c WD (some (0, .int (here : Nat))) x8 x9 x10) = some (.nx, ES A T O L f' c' WD (some (0, .int (here : Nat))) y8 y9 y10)
  | [], done, f, c, x8, x9, x10, _, h => ⟨f, c, x8, x9, x10, by rw [List.append_nil]; exact h, rfl⟩
  | p :: ls, done, f, c, x8, x9, x10, hp, h => by
    obtain ⟨i, t⟩ := p
    obtain ⟨hi, ha⟩ := hp (i, t) List.mem_cons_self
    have okt := ok t (List.mem_of_getElem? hi)
    obtain ⟨s1, s2⟩ := h.step ok hi ha
    have lf : f.length = n := h.half.len
    have a1 := atI_opt (r := f) (v := here) (by rw [lf]; exact hh)
    rw [h.hx] at a1
    have a2 := atI_opt (r := f) (v := t.b) (by rw [lf]; exact okt.b)
    have b1 : ixN f.length ((t.b : Nat) : Int) = some t.b := ixN_nat (by rw [lf]; exact okt.b)
    have b2 : ixN c.length ((t.b : Nat) : Int) = some t.b := ixN_nat (by rw [h.lc]; exact okt.b)
    have ls' := is_less_spec (some (x + t.l)) (at_ f t.b)
    simp only [optD_some] at ls'
    have hz := sizeLine_big
    have h2 : 2 ≤ sizeLine := by omega
    have tgt : gTp 3 (gsCons (gNm 9) (gsCons (gNm 8) (gsCons (gNm 10) gsNil))) (leadE (i, t)) (ES A T O L f c WD (some (0, .int (here : Nat))) x8 x9 x10) = some (ES A T O L f c WD (some (0, .int (here : Nat))) (some (0, .int (t.b : Nat))) (some (0, .int (i : Nat))) (some (0, .int t.l))) := by simp [leadE]
    have go : ∃ (f' : Row) (c' : Came), DIn n ts one f' c' V W here x (done ++ [(i, t)]) ∧
        b_search_2 (ES A T O L f c WD (some (0, .int (here : Nat))) (some (0, .int (t.b : Nat))) (some (0, .int (i : Nat))) (some (0, .int t.l))) = some (.nx, ES A T O L f' c' WD (some (0, .int (here : Nat))) (some (0, .int (t.b : Nat))) (some (0, .int (i : Nat))) (some (0, .int t.l))) := by
      cases q : isLess (some (x + t.l)) (at_ f t.b) with
      | true =>
        refine ⟨f.set t.b (some (x + t.l)), c.set t.b (some i), s2 fun y hy => ?_, ?_⟩
        · rw [hy] at q
          simpa [isLess] using q
        · rw [q] at ls'
          simp [b_search_2, a1, a2, ls', h2, b1, b2, List.map_set, camD]
      | false =>
        refine ⟨f, c, s1 ?_, ?_⟩
        · revert q
          cases at_ f t.b with
          | none => intro q; cases q
          | some y => intro q; exact ⟨y, rfl, by simp [isLess] at q; omega⟩
        · rw [q] at ls'
          simp [b_search_2, a1, a2, ls']
    obtain ⟨f1, c1, d1, e1⟩ := go
    obtain ⟨f2, c2, y8, y9, y10, d2, e2⟩ := search_2 ok hh A T O L WD ls (done ++ [(i, t)]) f1 c1 (some (0, .int (t.b : Nat))) (some (0, .int (i : Nat))) (some (0, .int t.l)) (fun p hp' => hp p (List.mem_cons_of_mem _ hp')) d1
    refine ⟨f2, c2, y8, y9, y10, by rw [List.append_assoc] at d2; exact d2, ?_⟩
    rw [List.map_cons, dForL_cons, tgt]
    simp only [e1]
    exact e2
def foundD (f : Row) (c : Came) : PyData := .tuple [.list (f.map optD), .list (c.map camD)]
/-- what the search gives -/
structure Found (n : Nat) (ts : List Tie) (one : Nat) (f : Row) (c : Came) (V : List Nat) : Prop where
  dist : IsDist n ts one f
  lc : c.length = n
  inV : ∀ v y, at_ f v = some y → v ∈ V
  from_ : ∀ v y, v ≠ one → at_ f v = some y → FromP ts f c V v y
theorem at_lt {f : Row} {v : Nat} {y : Int} (h : at_ f v = some y) : v < f.length := by
  apply Classical.byContradiction
  intro q
  unfold at_ at h
  rw [List.getD_eq_getElem?_getD, List.getElem?_eq_none (by omega)] at h
  cases h
theorem DSt.found {n : Nat} {ts : List Tie} {one : Nat} {f : Row} {c : Came} {V W : List Nat} (ok : ∀ t ∈ ts, TieOk n t) (h : DSt n ts one f c V W) (hw : ∀ w ∈ W, at_ f w = none) : Found n ts one f c V := by
  refine ⟨h.dist ok hw, h.lc, fun v y hv => ?_, h.came⟩
  have := (h.all v).mp (by rw [← h.half.len]; exact at_lt hv)
  rcases List.mem_append.mp this with q | q
  · exact q
  · rw [hw v q] at hv; cases hv
theorem search_spec {n one : Nat} {ts : List Tie} (h : MapW n ts) (h1 : one < n) :
    ∃ (f : Row) (c : Came) (V : List Nat), Found n ts one f c V ∧ D_search [(0, .int n), (0, .tuple (ts.map tieD)), (0, .int (one : Nat))] = some ((0, foundD f c), []) := by
  have hz := sizeLine_big
  have n1 := h.n1
  let A : Option Sl := some (0, .int n)
  let T : Option Sl := some (0, .tuple (ts.map tieD))
  let O : Option Sl := some (0, .int (one : Nat))
  let L : Option Sl := some (0, .list (leadD n ts))
  let I : Nat → En → Prop := fun m env => ∃ (f : Row) (c : Came) (V W : List Nat) (x7 x8 x9 x10 : Option Sl), env = ES A T O L f c W x7 x8 x9 x10 ∧ DSt n ts one f c V W ∧ W.length = m
  let Ex : Fl → En → Prop := fun fl env => ∃ (f : Row) (c : Came) (V W : List Nat) (x7 x8 x9 x10 : Option Sl), Found n ts one f c V ∧ ((fl = .nx ∧ env = ES A T O L f c W x7 x8 x9 x10) ∨ (fl = .rt (0, foundD f c) ∧ env.length = 11))
  have f0 : at_ (List.replicate n (none : Option Int)) = fun _ => none := by
    funext v
    simp [at_, List.getD_eq_getElem?_getD, List.getElem?_replicate]
    split <;> rfl
  have start : DSt n ts one ((List.replicate n none).set one (some 0)) (List.replicate n none) [] (List.range n) := by
    refine ⟨start_half h1, by simp, by simpa using List.nodup_range, (fun v => by simp), (fun u hu => by cases hu), (fun t _ ha => by cases ha), fun v y hv hy => ?_⟩
    rw [at_set (by simpa using h1), if_neg hv, f0] at hy
    cases hy
  obtain ⟨fl, env', e, f, c, V, W, x7, x8, x9, x10, hF, hE⟩ := whileD (τ := tst (dOf (dBin gNe (dVar 6) (dLstP (pNil))))) (b := b_search_3) I Ex n
    (ES A T O L ((List.replicate n none).set one (some 0)) (List.replicate n none) (List.range n) none none none none) ⟨_, _, _, _, _, _, _, _, rfl, start, List.length_range⟩ (by omega) (by
      rintro m env ⟨f, c, V, W, x7, x8, x9, x10, rfl, hd, hm⟩
      have shW : SeqAt.shaped (.list (natsD W)) = true := by
        have : natsD W = (W.map fun (w : Nat) => some (w : Int)).map optD := by rw [List.map_map]; rfl
        rw [this]; exact sh_row _
      have test : tst (dOf (dBin gNe (dVar 6) (dLstP (pNil)))) (ES A T O L f c W x7 x8 x9 x10) = some (!W.isEmpty, ES A T O L f c W x7 x8 x9 x10) := by
        have : gNe (.list (natsD W)) (.list []) = some (.bool (!W.isEmpty)) := by
          unfold gNe
          rw [if_pos ⟨shW, by rfl⟩]
          cases W with
          | nil => rfl
          | cons w W => rfl
        have z0 : 0 ≤ sizeLine := by omega
        simp [this]
      rw [test]
      cases W with
      | nil => exact .inl ⟨_, rfl, f, c, V, [], x7, x8, x9, x10, hd.found h.ok (fun w hw => by cases hw), .inl ⟨rfl, rfl⟩⟩
      | cons w0 W0 =>
        refine .inr ⟨_, rfl, ?_⟩
        generalize hWW : w0 :: W0 = W at *
        have hne : W ≠ [] := by rw [← hWW]; simp
        have hW : ∀ w ∈ W, w < n := fun w hw => (hd.all w).mpr (List.mem_append_right _ hw)
        have hlW : W.length ≤ n := nodup_le n W (List.nodup_append.mp hd.nd).2.1 hW
        have lf : f.length = n := hd.half.len
        obtain ⟨here, y8, hh, hmin, e1⟩ := search_1 (n := n) (A := A) (T := T) (O := O) (L := L) (c := c) lf hW n1 (by omega) x8 x9 x10 hne
        have hhn := hW here hh
        have a1 := atI_opt (r := f) (v := here) (by rw [lf]; exact hhn)
        have s1 : dSet 7 (dOf (dBin gIx (dVar 6) (dC (.int 0)))) (ES A T O L f c W x7 x8 x9 x10) = some (.nx, ES A T O L f c W (some (0, .int ((W.headD 0 : Nat) : Int))) x8 x9 x10) := by
          have : L2.atI (natsD W) 0 = some (.int ((W.headD 0 : Nat) : Int)) := by
            rw [show (0 : Int) = ((0 : Nat) : Int) from rfl, atI_nat]
            subst hWW
            rfl
          simp [this]
        have s3 : dExpr (dMeth 6 mRemove (dCons (dOf (dVar 7)) dNil)) (ES A T O L f c W (some (0, .int (here : Nat))) y8 x9 x10) = some (.nx, ES A T O L f c (W.erase here) (some (0, .int (here : Nat))) y8 x9 x10) := by
          simp [mRemove_nats hh]
        have unf : b_search_3 (ES A T O L f c W x7 x8 x9 x10) = (dSeq (dIfS (tst (dOf (dBin gIs (dBin gIx (dVar 4) (dVar 7)) (dC .none)))) (dRet (dUp (dTup (dCons (dFrzV 4) (dCons (dFrzV 5) dNil))))) (dNext)) (dFor (iSeq (dOf (dBin gIx (dVar 3) (dVar 7)))) (gTp 3 (gsCons (gNm 9) (gsCons (gNm 8) (gsCons (gNm 10) gsNil)))) b_search_2)) (ES A T O L f c (W.erase here) (some (0, .int (here : Nat))) y8 x9 x10) := by
          unfold b_search_3
          rw [dSeq_go s1, dSeq_go e1, dSeq_go s3]
        rw [unf]
        have h2 : 2 ≤ sizeLine := by omega
        cases hx : at_ f here with
        | none =>
          rw [hx] at a1
          have allN : ∀ w ∈ W, at_ f w = none := fun w hw => by
            have := hmin w hw
            rw [hx] at this
            cases q : at_ f w with
            | none => rfl
            | some y => rw [q] at this; cases this
          refine ⟨.rt (0, foundD f c), [A, T, O, L, some (0, .list (f.map optD)), some (0, .list (c.map camD)), some (1, .list (natsD (W.erase here))), some (0, .int (here : Nat)), y8, x9, x10], ?_, .inr (.inr ⟨_, rfl, f, c, V, W, x7, x8, x9, x10, hd.found h.ok allN, .inr ⟨rfl, rfl⟩⟩)⟩
          simp [a1, h2, foundD]
        | some x =>
          rw [hx] at a1
          have hin := hd.take hh hx fun w hw y hy => by
            have := hmin w hw
            rw [hx, hy] at this
            simp [isLess] at this
            omega
          obtain ⟨f', c', y8', y9', y10', d', e'⟩ := search_2 h.ok hhn A T O L (W.erase here) (leadL 0 ts here) [] f c y8 x9 x10 (fun p hp => by
            obtain ⟨_, q2, q3⟩ := leadL_mem hp
            exact ⟨by simpa using q2, q3⟩) hin
          rw [List.nil_append] at d'
          have dn := d'.end_ fun t ht ha => leadL_all ht ha
          have lead : L2.atI (leadD n ts) (here : Int) = some (.list ((leadL 0 ts here).map leadE)) := by
            rw [atI_nat]; unfold leadD
            rw [List.getElem?_map, List.getElem?_range hhn]; rfl
          refine ⟨.nx, ES A T O L f' c' (W.erase here) (some (0, .int (here : Nat))) y8' y9' y10', ?_, .inl ⟨.inl rfl, (W.erase here).length, ?_, f', c', _, _, _, _, _, _, rfl, dn, rfl⟩⟩
          · rw [dSeq_go (e := ES A T O L f c (W.erase here) (some (0, .int (here : Nat))) y8 x9 x10) (by simp [a1])]
            rw [dFor_ap]
            have : iSeq (dOf (dBin gIx (dVar 3) (dVar 7))) (ES A T O L f c (W.erase here) (some (0, .int (here : Nat))) y8 x9 x10) = some ((leadL 0 ts here).map leadE, ES A T O L f c (W.erase here) (some (0, .int (here : Nat))) y8 x9 x10) := by
              simp [L, lead]
            rw [this]
            exact e'
          · have := List.length_erase_of_mem hh
            have : 0 < W.length := List.length_pos_of_mem hh
            omega)
  have ok0 : okRg 0 (n : Int) = true := by unfold okRg; exact decI (by omega)
  have z1 : 1 ≤ sizeLine := by omega
  have h2 : 2 ≤ sizeLine := by omega
  have q1 : gTimes (.list [.none]) (.int n) = some (.list (List.replicate n .none)) := by
    rw [gTimes_list ⟨by omega, by omega, by simp; omega⟩]
    simp
  have q2 : ixN n ((one : Nat) : Int) = some one := ixN_nat h1
  have q3 : (List.replicate n PyData.none).set one (.int 0) = ((List.replicate n (none : Option Int)).set one (some 0)).map optD := by
    rw [List.map_set, List.map_replicate]; rfl
  have q4 : rgD 0 (n : Int) = natsD (List.range n) := rgD_nat n
  have q5 : List.replicate n PyData.none = (List.replicate n (none : Option Nat)).map camD := by rw [List.map_replicate]; rfl
  have tf := ties_from_spec h
  refine ⟨f, c, V, hF, ?_⟩
  have s0 : dPar4 3 4 5 6 (xCons (dUp (dFz (dCall D_ties_from [false, false] (rVal (dOf (dVar 0)) (rVal (dOf (dVar 1)) rNil))))) (xCons (dBinO gTimes (dLstP (pCons (dC .none) pNil)) (dVar 0)) (xCons (dBinO gTimes (dLstP (pCons (dC .none) pNil)) (dVar 0)) (xCons (dRgO (dOf (dVar 0))) xNil))))
      [A, T, O, none, none, none, none, none, none, none, none] = some (.nx, [A, T, O, L, some (1, .list (List.replicate n .none)), some (1, .list (List.replicate n .none)), some (1, .list (natsD (List.range n))), none, none, none, none]) := by
    simp [A, T, O, L, tf, z1, q1, ok0, q4]
  have s1 : dStIx 4 (dOf (dVar 2)) (dOf (dC (.int 0))) [A, T, O, L, some (1, .list (List.replicate n .none)), some (1, .list (List.replicate n .none)), some (1, .list (natsD (List.range n))), none, none, none, none] =
      some (.nx, ES A T O L ((List.replicate n none).set one (some 0)) (List.replicate n none) (List.range n) none none none none) := by
    unfold ES
    rw [← q3, ← q5]
    simp [O, q2]
  rcases hE with ⟨rfl, rfl⟩ | ⟨rfl, hlen⟩
  · have body : b_search [A, T, O, none, none, none, none, none, none, none, none] = some (.rt (0, foundD f c), [A, T, O, L, some (0, .list (f.map optD)), some (0, .list (c.map camD)), some (1, .list (natsD W)), x7, x8, x9, x10]) := by
      unfold b_search
      rw [dSeq_go s0, dSeq_go s1, dSeq_go e]
      simp [h2, foundD]
    simp only [A, T, O] at body
    simp [D_search_eq, fnSem_ap, body]
  · have body : b_search [A, T, O, none, none, none, none, none, none, none, none] = some (.rt (0, foundD f c), env') := by
      unfold b_search
      rw [dSeq_go s0, dSeq_go s1, dSeq_rt e]
    simp only [A, T, O] at body
    match env', hlen with
    | [a, b, c', d, e5, f5, g, h5, i, j, k], _ => simp [D_search_eq, fnSem_ap, body]
end Dn.W

set_option Elab.async false
set_option linter.all false
set_option maxRecDepth 100000
set_option maxHeartbeats 4000000
namespace Dn.W
open PySem PySem.Spec PyProof.Rows L2 Dn
theorem valid_iff {hs : List Int} {ts : List Tie} : valid hs ts = true ↔ ∀ t ∈ ts, hs.getD t.b 0 ≤ hs.getD t.a 0 + t.l := by
  unfold valid okT
  rw [List.all_eq_true]
  refine forall₂_congr fun t _ => ?_
  rw [Bool.not_eq_true', decide_eq_false_iff_not]
  omega
theorem getD_map {α : Type} (f : α → Int) (l : List α) {i : Nat} (h : i < l.length) : (l.map f).getD i 0 = f l[i] := by
  rw [List.getD_eq_getElem?_getD, List.getElem?_map, List.getElem?_eq_getElem h]; rfl
theorem getD_lt {hs : List Int} {i : Nat} (h : i < hs.length) : hs.getD i 0 = hs[i] := by
  rw [List.getD_eq_getElem?_getD, List.getElem?_eq_getElem h]; rfl
theorem at_get {r : Row} {v : Nat} (h : v < r.length) : at_ r v = r[v] := by
  unfold at_; rw [List.getD_eq_getElem?_getD, List.getElem?_eq_getElem h]; rfl
/-- a good list of heights -/
structure Good (n : Nat) (ts : List Tie) (hs : List Int) : Prop where
  len : hs.length = n
  v : valid hs ts = true
theorem good_map {n : Nat} {ts : List Tie} {α : Type} {r : List α} (f : α → Int) (ok : ∀ t ∈ ts, TieOk n t) (hl : r.length = n) (h : ∀ t ∈ ts, ∀ (h1 : t.a < r.length) (h2 : t.b < r.length), f r[t.b] ≤ f r[t.a] + t.l) : Good n ts (r.map f) := by
  refine ⟨by simp [hl], valid_iff.mpr fun t ht => ?_⟩
  have o := ok t ht
  have h1 : t.a < r.length := by rw [hl]; exact o.a
  have h2 : t.b < r.length := by rw [hl]; exact o.b
  rw [getD_map f r h1, getD_map f r h2]
  exact h t ht h1 h2
theorem good_shift {n : Nat} {ts : List Tie} {hs : List Int} (by_ : Int) (h : MapOk n ts) (g : Good n ts hs) : Good n ts (hs.map fun x => x + by_) := by
  refine good_map _ h.ok g.len fun t ht h1 h2 => ?_
  have := valid_iff.mp g.v t ht
  rw [getD_lt h1, getD_lt h2] at this
  omega
theorem good_zero {n : Nat} {ts : List Tie} (h : MapOk n ts) : Good n ts (List.replicate n 0) := by
  have : List.replicate n (0 : Int) = (List.replicate n (0 : Int)).map fun x => 0 := by rw [List.map_replicate]
  rw [this]
  exact good_map _ h.ok (by simp) fun t ht h1 h2 => by have := (h.ok t ht).l; omega
def zipI (f : Int → Int → Int) (a b : List Int) : List Int := (a.zip b).map fun p => f p.1 p.2
theorem good_zip {n : Nat} {ts : List Tie} {a b : List Int} (f : Int → Int → Int) (hf : ∀ x y x' y' l : Int, x ≤ x' + l → y ≤ y' + l → f x y ≤ f x' y' + l) (h : MapOk n ts) (ga : Good n ts a) (gb : Good n ts b) : Good n ts (zipI f a b) := by
  have hl : (a.zip b).length = n := by rw [List.length_zip, ga.len, gb.len]; omega
  refine good_map _ h.ok hl fun t ht h1 h2 => ?_
  rw [List.getElem_zip, List.getElem_zip]
  rw [hl] at h1 h2
  have va := valid_iff.mp ga.v t ht
  have vb := valid_iff.mp gb.v t ht
  rw [getD_lt (i := t.b) (by rw [ga.len]; exact h2), getD_lt (i := t.a) (by rw [ga.len]; exact h1)] at va
  rw [getD_lt (i := t.b) (by rw [gb.len]; exact h2), getD_lt (i := t.a) (by rw [gb.len]; exact h1)] at vb
  exact hf _ _ _ _ _ va vb
end Dn.W

set_option Elab.async false
set_option linter.all false
set_option maxRecDepth 100000
set_option maxHeartbeats 4000000
namespace Dn.W
open PySem PySem.Spec PyProof.Rows L2 Dn
theorem row_opt {r : Row} {k : Nat} (h : k < r.length) : gIx (rowD r) (.int (k : Nat)) = some (optD (at_ r k)) := by
  simp [rowD, atI_opt h]
theorem ht_int {hs : List Int} {k : Nat} (h : k < hs.length) : gIx (htD hs) (.int (k : Nat)) = some (.int (hs.getD k 0)) := by
  simp [htD, atI_ints h]
theorem isN_opt (o : Option Int) : isN (optD o) = o.isNone := by cases o <;> rfl
theorem map_rg {α : Type} (f : Option Int → α) (r : Row) {n : Nat} (h : r.length = n) : (List.range n).map (fun k => f (at_ r k)) = r.map f := by
  apply List.ext_getElem
  · simp [h]
  · intro i h1 h2
    rw [List.getElem_map, List.getElem_map, List.getElem_range, at_get (by simpa using h2)]
theorem enum_rg : ∀ (n i : Nat) (w : Nat → PyData), enumD i ((List.range' i n).map w) = (List.range' i n).map fun k => .tuple [.int (k : Nat), w k]
  | 0, i, w => rfl
  | n + 1, i, w => by
    rw [List.range'_succ, List.map_cons, List.map_cons]
    have := enum_rg n (i + 1) w
    simp only [enumD]
    rw [← this]
theorem enum_range (n : Nat) (w : Nat → PyData) : enumD 0 ((List.range n).map w) = (List.range n).map fun k => .tuple [.int (k : Nat), w k] := by
  rw [List.range_eq_range']; exact enum_rg n 0 w
end Dn.W

set_option Elab.async false
set_option linter.all false
set_option maxRecDepth 100000
set_option maxHeartbeats 4000000
namespace Dn.W
open PySem PySem.Spec PyProof.Rows L2 Dn
theorem ties_from_specL {n : Nat} {ts : List Tie} (h : MapW n ts) : D_ties_from [(0, .int n), (0, .list (ts.map tieD))] = some ((2, .list (leadD n ts)), []) := by
  have hz := sizeLine_big
  have n1 := h.n1
  have hl := h.len
  let I : Nat → En → Prop := fun k env => ∃ (x3 x4 x5 x6 x7 : Option Sl), env = [some (0, .int n), some (0, .list (ts.map tieD)), some (2, .list (leadD n (ts.take k))), x3, x4, x5, x6, x7]
  obtain ⟨env', e, x3, x4, x5, x6, x7, rfl⟩ := forN (g := gTp 2 (gsCons (gNm 3) (gsCons (gTp 3 (gsCons (gNm 4) (gsCons (gNm 5) (gsCons (gNm 6) gsNil)))) gsNil))) (b := b_ties_from_1) I (enumD 0 (ts.map tieD))
    [some (0, .int n), some (0, .list (ts.map tieD)), some (2, .list (leadD n [])), none, none, none, none, none] ⟨_, _, _, _, _, rfl⟩ (by
      rintro k x env hx ⟨x3, x4, x5, x6, x7, rfl⟩
      obtain ⟨y, hy, rfl⟩ := enumD_get _ _ _ _ hx
      rw [List.getElem?_map] at hy
      cases hk : ts[k]? with
      | none => rw [hk] at hy; cases hy
      | some t =>
        rw [hk] at hy; cases hy
        have okt := h.ok t (List.mem_of_getElem? hk)
        have hkl := (List.getElem?_eq_some_iff.mp hk).1
        have ek := (List.getElem?_eq_some_iff.mp hk).2
        rw [Nat.zero_add]
        have len : (leadD n (ts.take k)).length = n := by simp [leadD]
        have q1 : ixN n ((t.a : Nat) : Int) = some t.a := ixN_nat okt.a
        have q2 : (leadD n (ts.take k))[t.a]? = some (.list ((leadL 0 (ts.take k) t.a).map leadE)) := by
          unfold leadD
          rw [List.getElem?_map, List.getElem?_range okt.a]
          rfl
        have q3 : (leadL 0 (ts.take k) t.a).length < sizeLine := by
          have := leadL_len 0 (ts.take k) t.a
          rw [List.length_take] at this
          omega
        have q4 : (leadD n (ts.take k)).set t.a (.list ((leadL 0 (ts.take k) t.a).map leadE ++ [leadE (k, t)])) = leadD n (ts.take (k + 1)) := by
          have et : ts.take (k + 1) = ts.take k ++ [t] := by rw [List.take_succ, hk]; rfl
          rw [et]
          unfold leadD
          refine List.ext_getElem (by simp) fun j j1 j2 => ?_
          simp only [List.length_set, List.length_map, List.length_range] at j1
          rw [List.getElem_set]
          simp only [List.getElem_map, List.getElem_range]
          by_cases e : t.a = j
          · subst e
            rw [if_pos rfl, leadL_snoc, if_pos rfl, Nat.zero_add, List.length_take, Nat.min_eq_left (by omega), List.map_append]
            rfl
          · rw [if_neg e, leadL_snoc, if_neg e, List.append_nil]
        refine ⟨[some (0, .int n), some (0, .list (ts.map tieD)), some (2, .list (leadD n (ts.take k))), some (0, .int (k : Nat)), some (0, .int (t.a : Nat)), some (0, .int (t.b : Nat)), some (0, .int t.l), x7], by simp [tieD], [some (0, .int n), some (0, .list (ts.map tieD)), some (2, .list (leadD n (ts.take (k + 1)))), some (0, .int (k : Nat)), some (0, .int (t.a : Nat)), some (0, .int (t.b : Nat)), some (0, .int t.l), x7], ?_, _, _, _, _, _, rfl⟩
        have h3 : 3 ≤ sizeLine := by omega
        rw [← q4]
        simp [b_ties_from_1, len, q1, q2, q3, h3, leadE])
  rw [enumD_len, List.length_map, List.take_length] at e
  have ok0 : okR (n : Int) = true := by unfold okR; exact decI (by omega)
  have body : b_ties_from [some (0, .int n), some (0, .list (ts.map tieD)), none, none, none, none, none, none] = some (.rt (2, .list (leadD n ts)), [some (0, .int n), some (0, .list (ts.map tieD)), none, x3, x4, x5, x6, x7]) := by
    unfold b_ties_from
    rw [dSeq_go (e := [some (0, .int n), some (0, .list (ts.map tieD)), some (2, .list (leadD n [])), none, none, none, none, none]) (by
      simp [ok0]
      rw [lcO (fun _ => .list []) [some (0, .int n), some (0, .list (ts.map tieD)), none, none, none, none, none, none] (rgD 0 n) (by rw [rgD_len]; omega)]
      · have e0 : (rgD 0 (n : Int)).map (fun _ => PyData.list []) = leadD n [] := by
          rw [rgD_nat, List.map_map]
          unfold leadD
          refine List.map_congr_left fun a _ => ?_
          rfl
        simp [e0]
      · intro d hd
        exact ⟨_, rfl, by
          obtain ⟨i, hi, rfl⟩ := List.mem_iff_getElem.mp hd
          obtain ⟨e, _⟩ := rgD_get (List.getElem?_eq_getElem hi)
          rw [e]; simp, by simp, by simp⟩)]
    rw [dSeq_go (e := [some (0, .int n), some (0, .list (ts.map tieD)), some (2, .list (leadD n ts)), x3, x4, x5, x6, x7]) (by
      rw [dFor_ap]
      have : iEnumD (dCons (dOf (dVar 1)) dNil) [some (0, .int n), some (0, .list (ts.map tieD)), some (2, .list (leadD n [])), none, none, none, none, none] = some (enumD 0 (ts.map tieD), [some (0, .int n), some (0, .list (ts.map tieD)), some (2, .list (leadD n [])), none, none, none, none, none]) := by simp
      rw [this]
      exact e)]
    simp
  simp [D_ties_from_eq, fnSem_ap, body]
theorem search_specL {n one : Nat} {ts : List Tie} (h : MapW n ts) (h1 : one < n) :
    ∃ (f : Row) (c : Came) (V : List Nat), Found n ts one f c V ∧ D_search [(0, .int n), (0, .list (ts.map tieD)), (0, .int (one : Nat))] = some ((0, foundD f c), []) := by
  have hz := sizeLine_big
  have n1 := h.n1
  let A : Option Sl := some (0, .int n)
  let T : Option Sl := some (0, .list (ts.map tieD))
  let O : Option Sl := some (0, .int (one : Nat))
  let L : Option Sl := some (0, .list (leadD n ts))
  let I : Nat → En → Prop := fun m env => ∃ (f : Row) (c : Came) (V W : List Nat) (x7 x8 x9 x10 : Option Sl), env = ES A T O L f c W x7 x8 x9 x10 ∧ DSt n ts one f c V W ∧ W.length = m
  let Ex : Fl → En → Prop := fun fl env => ∃ (f : Row) (c : Came) (V W : List Nat) (x7 x8 x9 x10 : Option Sl), Found n ts one f c V ∧ ((fl = .nx ∧ env = ES A T O L f c W x7 x8 x9 x10) ∨ (fl = .rt (0, foundD f c) ∧ env.length = 11))
  have f0 : at_ (List.replicate n (none : Option Int)) = fun _ => none := by
    funext v
    simp [at_, List.getD_eq_getElem?_getD, List.getElem?_replicate]
    split <;> rfl
  have start : DSt n ts one ((List.replicate n none).set one (some 0)) (List.replicate n none) [] (List.range n) := by
    refine ⟨start_half h1, by simp, by simpa using List.nodup_range, (fun v => by simp), (fun u hu => by cases hu), (fun t _ ha => by cases ha), fun v y hv hy => ?_⟩
    rw [at_set (by simpa using h1), if_neg hv, f0] at hy
    cases hy
  obtain ⟨fl, env', e, f, c, V, W, x7, x8, x9, x10, hF, hE⟩ := whileD (τ := tst (dOf (dBin gNe (dVar 6) (dLstP (pNil))))) (b := b_search_3) I Ex n
    (ES A T O L ((List.replicate n none).set one (some 0)) (List.replicate n none) (List.range n) none none none none) ⟨_, _, _, _, _, _, _, _, rfl, start, List.length_range⟩ (by omega) (by
      rintro m env ⟨f, c, V, W, x7, x8, x9, x10, rfl, hd, hm⟩
      have shW : SeqAt.shaped (.list (natsD W)) = true := by
        have : natsD W = (W.map fun (w : Nat) => some (w : Int)).map optD := by rw [List.map_map]; rfl
        rw [this]; exact sh_row _
      have test : tst (dOf (dBin gNe (dVar 6) (dLstP (pNil)))) (ES A T O L f c W x7 x8 x9 x10) = some (!W.isEmpty, ES A T O L f c W x7 x8 x9 x10) := by
        have : gNe (.list (natsD W)) (.list []) = some (.bool (!W.isEmpty)) := by
          unfold gNe
          rw [if_pos ⟨shW, by rfl⟩]
          cases W with
          | nil => rfl
          | cons w W => rfl
        have z0 : 0 ≤ sizeLine := by omega
        simp [this]
      rw [test]
      cases W with
      | nil => exact .inl ⟨_, rfl, f, c, V, [], x7, x8, x9, x10, hd.found h.ok (fun w hw => by cases hw), .inl ⟨rfl, rfl⟩⟩
      | cons w0 W0 =>
        refine .inr ⟨_, rfl, ?_⟩
        generalize hWW : w0 :: W0 = W at *
        have hne : W ≠ [] := by rw [← hWW]; simp
        have hW : ∀ w ∈ W, w < n := fun w hw => (hd.all w).mpr (List.mem_append_right _ hw)
        have hlW : W.length ≤ n := nodup_le n W (List.nodup_append.mp hd.nd).2.1 hW
        have lf : f.length = n := hd.half.len
        obtain ⟨here, y8, hh, hmin, e1⟩ := search_1 (n := n) (A := A) (T := T) (O := O) (L := L) (c := c) lf hW n1 (by omega) x8 x9 x10 hne
        have hhn := hW here hh
        have a1 := atI_opt (r := f) (v := here) (by rw [lf]; exact hhn)
        have s1 : dSet 7 (dOf (dBin gIx (dVar 6) (dC (.int 0)))) (ES A T O L f c W x7 x8 x9 x10) = some (.nx, ES A T O L f c W (some (0, .int ((W.headD 0 : Nat) : Int))) x8 x9 x10) := by
          have : L2.atI (natsD W) 0 = some (.int ((W.headD 0 : Nat) : Int)) := by
            rw [show (0 : Int) = ((0 : Nat) : Int) from rfl, atI_nat]
            subst hWW
            rfl
          simp [this]
        have s3 : dExpr (dMeth 6 mRemove (dCons (dOf (dVar 7)) dNil)) (ES A T O L f c W (some (0, .int (here : Nat))) y8 x9 x10) = some (.nx, ES A T O L f c (W.erase here) (some (0, .int (here : Nat))) y8 x9 x10) := by
          simp [mRemove_nats hh]
        have unf : b_search_3 (ES A T O L f c W x7 x8 x9 x10) = (dSeq (dIfS (tst (dOf (dBin gIs (dBin gIx (dVar 4) (dVar 7)) (dC .none)))) (dRet (dUp (dTup (dCons (dFrzV 4) (dCons (dFrzV 5) dNil))))) (dNext)) (dFor (iSeq (dOf (dBin gIx (dVar 3) (dVar 7)))) (gTp 3 (gsCons (gNm 9) (gsCons (gNm 8) (gsCons (gNm 10) gsNil)))) b_search_2)) (ES A T O L f c (W.erase here) (some (0, .int (here : Nat))) y8 x9 x10) := by
          unfold b_search_3
          rw [dSeq_go s1, dSeq_go e1, dSeq_go s3]
        rw [unf]
        have h2 : 2 ≤ sizeLine := by omega
        cases hx : at_ f here with
        | none =>
          rw [hx] at a1
          have allN : ∀ w ∈ W, at_ f w = none := fun w hw => by
            have := hmin w hw
            rw [hx] at this
            cases q : at_ f w with
            | none => rfl
            | some y => rw [q] at this; cases this
          refine ⟨.rt (0, foundD f c), [A, T, O, L, some (0, .list (f.map optD)), some (0, .list (c.map camD)), some (1, .list (natsD (W.erase here))), some (0, .int (here : Nat)), y8, x9, x10], ?_, .inr (.inr ⟨_, rfl, f, c, V, W, x7, x8, x9, x10, hd.found h.ok allN, .inr ⟨rfl, rfl⟩⟩)⟩
          simp [a1, h2, foundD]
        | some x =>
          rw [hx] at a1
          have hin := hd.take hh hx fun w hw y hy => by
            have := hmin w hw
            rw [hx, hy] at this
            simp [isLess] at this
            omega
          obtain ⟨f', c', y8', y9', y10', d', e'⟩ := search_2 h.ok hhn A T O L (W.erase here) (leadL 0 ts here) [] f c y8 x9 x10 (fun p hp => by
            obtain ⟨_, q2, q3⟩ := leadL_mem hp
            exact ⟨by simpa using q2, q3⟩) hin
          rw [List.nil_append] at d'
          have dn := d'.end_ fun t ht ha => leadL_all ht ha
          have lead : L2.atI (leadD n ts) (here : Int) = some (.list ((leadL 0 ts here).map leadE)) := by
            rw [atI_nat]; unfold leadD
            rw [List.getElem?_map, List.getElem?_range hhn]; rfl
          refine ⟨.nx, ES A T O L f' c' (W.erase here) (some (0, .int (here : Nat))) y8' y9' y10', ?_, .inl ⟨.inl rfl, (W.erase here).length, ?_, f', c', _, _, _, _, _, _, rfl, dn, rfl⟩⟩
          · rw [dSeq_go (e := ES A T O L f c (W.erase here) (some (0, .int (here : Nat))) y8 x9 x10) (by simp [a1])]
            rw [dFor_ap]
            have : iSeq (dOf (dBin gIx (dVar 3) (dVar 7))) (ES A T O L f c (W.erase here) (some (0, .int (here : Nat))) y8 x9 x10) = some ((leadL 0 ts here).map leadE, ES A T O L f c (W.erase here) (some (0, .int (here : Nat))) y8 x9 x10) := by
              simp [L, lead]
            rw [this]
            exact e'
          · have := List.length_erase_of_mem hh
            have : 0 < W.length := List.length_pos_of_mem hh
            omega)
  have ok0 : okRg 0 (n : Int) = true := by unfold okRg; exact decI (by omega)
  have z1 : 1 ≤ sizeLine := by omega
  have h2 : 2 ≤ sizeLine := by omega
  have q1 : gTimes (.list [.none]) (.int n) = some (.list (List.replicate n .none)) := by
    rw [gTimes_list ⟨by omega, by omega, by simp; omega⟩]
    simp
  have q2 : ixN n ((one : Nat) : Int) = some one := ixN_nat h1
  have q3 : (List.replicate n PyData.none).set one (.int 0) = ((List.replicate n (none : Option Int)).set one (some 0)).map optD := by
    rw [List.map_set, List.map_replicate]; rfl
  have q4 : rgD 0 (n : Int) = natsD (List.range n) := rgD_nat n
  have q5 : List.replicate n PyData.none = (List.replicate n (none : Option Nat)).map camD := by rw [List.map_replicate]; rfl
  have tf := ties_from_specL h
  refine ⟨f, c, V, hF, ?_⟩
  have s0 : dPar4 3 4 5 6 (xCons (dUp (dFz (dCall D_ties_from [false, false] (rVal (dOf (dVar 0)) (rVal (dOf (dVar 1)) rNil))))) (xCons (dBinO gTimes (dLstP (pCons (dC .none) pNil)) (dVar 0)) (xCons (dBinO gTimes (dLstP (pCons (dC .none) pNil)) (dVar 0)) (xCons (dRgO (dOf (dVar 0))) xNil))))
      [A, T, O, none, none, none, none, none, none, none, none] = some (.nx, [A, T, O, L, some (1, .list (List.replicate n .none)), some (1, .list (List.replicate n .none)), some (1, .list (natsD (List.range n))), none, none, none, none]) := by
    simp [A, T, O, L, tf, z1, q1, ok0, q4]
  have s1 : dStIx 4 (dOf (dVar 2)) (dOf (dC (.int 0))) [A, T, O, L, some (1, .list (List.replicate n .none)), some (1, .list (List.replicate n .none)), some (1, .list (natsD (List.range n))), none, none, none, none] =
      some (.nx, ES A T O L ((List.replicate n none).set one (some 0)) (List.replicate n none) (List.range n) none none none none) := by
    unfold ES
    rw [← q3, ← q5]
    simp [O, q2]
  rcases hE with ⟨rfl, rfl⟩ | ⟨rfl, hlen⟩
  · have body : b_search [A, T, O, none, none, none, none, none, none, none, none] = some (.rt (0, foundD f c), [A, T, O, L, some (0, .list (f.map optD)), some (0, .list (c.map camD)), some (1, .list (natsD W)), x7, x8, x9, x10]) := by
      unfold b_search
      rw [dSeq_go s0, dSeq_go s1, dSeq_go e]
      simp [h2, foundD]
    simp only [A, T, O] at body
    simp [D_search_eq, fnSem_ap, body]
  · have body : b_search [A, T, O, none, none, none, none, none, none, none, none] = some (.rt (0, foundD f c), env') := by
      unfold b_search
      rw [dSeq_go s0, dSeq_go s1, dSeq_rt e]
    simp only [A, T, O] at body
    match env', hlen with
    | [a, b, c', d, e5, f5, g, h5, i, j, k], _ => simp [D_search_eq, fnSem_ap, body]
theorem natsD_ints (F : List Nat) : natsD F = (F.map fun (w : Nat) => (w : Int)).map PyData.int := by rw [List.map_map]; rfl
theorem natsD_len (F : List Nat) : (natsD F).length = F.length := by simp [natsD]
def pvO (hs : List Int) (ts : List Tie) (one u : Nat) : Option Int := if valid hs ts = true then some (hs.getD u 0 - hs.getD one 0) else none
theorem pvD_eq (hs : List Int) (ts : List Tie) (one u : Nat) : pvD hs ts one u = optD (pvO hs ts one u) := by unfold pvD pvO; split <;> rfl
theorem eq_opt (y : Int) (o : Option Int) : gEq (.int y) (optD o) = some (.bool (decide (o = some y))) := by
  cases o with
  | none => simp
  | some x =>
    rw [optD_some, gEq_int]
    by_cases q : y = x
    · subst q; simp
    · have q2 : ¬ x = y := fun z => q z.symm
      simp [q, q2]
theorem tie_0 (t : Tie) : gIx (tieD t) (.int 0) = some (.int (t.a : Nat)) := by simp [tieD, L2.atI, ixN]
theorem tie_1 (t : Tie) : gIx (tieD t) (.int 1) = some (.int (t.b : Nat)) := by simp [tieD, L2.atI, ixN]
theorem tie_2 (t : Tie) : gIx (tieD t) (.int 2) = some (.int t.l) := by simp [tieD, L2.atI, ixN]
theorem map_0 (n : Nat) (ts : List Tie) : gIx (mapD n ts) (.int 0) = some (.int n) := by simp [mapD, L2.atI, ixN]
theorem map_1' (n : Nat) (ts : List Tie) : gIx (mapD n ts) (.int 1) = some (.tuple (ts.map tieD)) := by simp [mapD, L2.atI, ixN]
theorem proved_opt {n : Nat} {ts : List Tie} {hs : List Int} {one other : Nat} (h : MapOk n ts) (hl : hs.length = n) (h1 : one < n) (h2 : other < n) :
    D_proved [(0, mapD n ts), (0, .int (one : Nat)), (0, .int (other : Nat)), (0, htD hs)] = some ((0, optD (pvO hs ts one other)), []) := by rw [proved_spec h hl h1 h2, pvD_eq]
theorem lengths_from_spec {n one : Nat} {ts : List Tie} {r : Row} (h : MapOk n ts) (h1 : one < n) (hd : IsDist n ts one r) :
    D_lengths_from [(0, .int n), (0, .tuple (ts.map tieD)), (0, .int (one : Nat))] = some ((0, .list (r.map optD)), []) := by
  obtain ⟨f, c, V, hF, es⟩ := search_spec h.w h1
  have e := hF.dist.uniq hd
  subst e
  simp [D_lengths_from_eq, fnSem_ap, b_lengths_from, es, foundD, L2.atI, ixN]
theorem lengths_from_specL {n one : Nat} {ts : List Tie} {r : Row} (h : MapW n ts) (h1 : one < n) (hd : IsDist n ts one r) :
    D_lengths_from [(0, .int n), (0, .list (ts.map tieD)), (0, .int (one : Nat))] = some ((0, .list (r.map optD)), []) := by
  obtain ⟨f, c, V, hF, es⟩ := search_specL h h1
  have e := hF.dist.uniq hd
  subst e
  simp [D_lengths_from_eq, fnSem_ap, b_lengths_from, es, foundD, L2.atI, ixN]
def turnT (t : Tie) : Tie := ⟨t.b, t.a, t.l⟩
theorem turn_turn (t : Tie) : turnT (turnT t) = t := rfl
theorem TieOk.turn {n : Nat} {t : Tie} (h : TieOk n t) : TieOk n (turnT t) := ⟨h.b, h.a, h.ne.symm, h.l⟩
/-- ts' is ts turned about -/
structure Tn (ts ts' : List Tie) : Prop where
  p : ts'.Perm (ts.map turnT)
theorem Tn.mem {ts ts' : List Tie} (h : Tn ts ts') {t : Tie} : t ∈ ts' ↔ turnT t ∈ ts := by
  rw [h.p.mem_iff, List.mem_map]
  exact ⟨fun ⟨s, hs, e⟩ => by rw [← e]; exact hs, fun q => ⟨_, q, rfl⟩⟩
theorem Tn.symm {ts ts' : List Tie} (h : Tn ts ts') : Tn ts' ts := ⟨by
  have := (h.p.map turnT).symm
  rw [List.map_map] at this
  have e : (turnT ∘ turnT) = id := rfl
  rw [e, List.map_id] at this
  exact this⟩
theorem Tn.ok {n : Nat} {ts ts' : List Tie} (h : MapOk n ts) (p : Tn ts ts') (s : ts'.Pairwise (fun s t => leI (tieI s) (tieI t) = true)) : MapOk n ts' :=
  ⟨h.n0, h.n1, by rw [p.p.length_eq, List.length_map]; exact h.len, fun t ht => (h.ok _ (p.mem.mp ht)).turn, s⟩
theorem back_spec {n : Nat} {ts : List Tie} (h : MapOk n ts) : ∃ ts', Tn ts ts' ∧ MapOk n ts' ∧ D__law_back [(0, mapD n ts)] = some ((0, mapD n ts'), []) := by
  have hz := sizeLine_big
  obtain ⟨ts', p, s, e⟩ := sort_ties (ts.map turnT)
  refine ⟨ts', ⟨p⟩, Tn.ok h ⟨p⟩ s, ?_⟩
  have hl := h.len
  have z2 : 2 ≤ sizeLine := by omega
  have lc : dLcL [1, 2, 3] (gTp 3 (gsCons (gNm 1) (gsCons (gNm 2) (gsCons (gNm 3) gsNil)))) dtYes (dOf (dTupP (pCons (dVar 2) (pCons (dVar 1) (pCons (dVar 3) pNil))))) (ts.map tieD) [some (0, mapD n ts), none, none, none] [] = some ((ts.map turnT).map tieD, [some (0, mapD n ts), none, none, none]) := by
    rw [lcT tieD (fun t => tieD (turnT t)) [some (0, mapD n ts), none, none, none] ts (by omega)]
    · rw [List.map_map]; rfl
    · intro t ht
      have z3 : 3 ≤ sizeLine := by omega
      exact ⟨[some (0, mapD n ts), some (0, .int (t.a : Nat)), some (0, .int (t.b : Nat)), some (0, .int t.l)], by simp [tieD], by simp, by simp, by simp [tieD, turnT, z3]⟩
  have body : b__law_back [some (0, mapD n ts), none, none, none] = some (.rt (0, mapD n ts'), [some (0, mapD n ts), none, none, none]) := by
    simp [b__law_back, map_0, map_1', z2, lc, e, -List.map_map]
    rfl
  simp [D__law_back_eq, fnSem_ap, body]
theorem pth_back {n : Nat} {ts ts' : List Tie} (T : Tn ts ts') {v : Nat} : ∀ {p : List Tie} {u : Nat}, Pth ts u p v → ∃ k, Walk ts' v u (sumT p) k
  | [], u, h => by cases (show u = v from h); exact ⟨0, .nil⟩
  | t :: p, u, ⟨ht, ha, hp⟩ => by
    obtain ⟨k, w⟩ := pth_back (n := n) T hp
    have tm : turnT t ∈ ts' := T.mem.mpr (by rw [turn_turn]; exact ht)
    have := w.snoc tm (show (turnT t).a = t.b from rfl)
    refine ⟨k + 1, ?_⟩
    have e : sumT (t :: p) = sumT p + (turnT t).l := by simp [sumT, turnT]; omega
    rw [e, ← ha]
    exact this
theorem IsDist.perm {n one : Nat} {ts ts2 : List Tie} {r : Row} (h : ∀ t, t ∈ ts2 ↔ t ∈ ts) (d : IsDist n ts one r) : IsDist n ts2 one r := by
  have wm : ∀ v x k, Walk ts one v x k → Walk ts2 one v x k := fun v x k w => by
    induction w with
    | nil => exact .nil
    | snoc w ht ha ih => exact .snoc ih ((h _).mpr ht) ha
  exact ⟨d.len, d.z, fun t ht => d.cl t ((h t).mp ht), fun v x hx => by obtain ⟨k, w⟩ := d.wk v x hx; exact ⟨k, wm _ _ _ w⟩⟩
end Dn.W

set_option Elab.async false
set_option linter.all false
set_option maxRecDepth 100000
set_option maxHeartbeats 4000000
namespace Dn.W
open PySem PySem.Spec PyProof.Rows L2 Dn
theorem valid_walk {hs : List Int} {ts : List Tie} {one : Nat} (v : valid hs ts = true) : ∀ {u x k}, Walk ts one u x k → hs.getD u 0 ≤ hs.getD one 0 + x
  | _, _, _, .nil => by omega
  | _, _, _, .snoc w ht ha => by
    have h1 := valid_walk v w
    have h2 := valid_iff.mp v _ ht
    rw [ha] at h2
    omega
/-- a proof of the least length, place by place -/
structure Pf (n : Nat) (ts : List Tie) (one other : Nat) (least : Int) (x : List Int) : Prop where
  len : x.length = n
  v : valid x ts = true
  lo : ∀ v, v < n → 0 ≤ x.getD v 0
  hi : ∀ v, v < n → x.getD v 0 ≤ least
  o : x.getD one 0 = 0
  t : x.getD other 0 = least
def pfB (ts : List Tie) (one other : Nat) (least : Int) (x : List Int) : Bool := decide (x.getD one 0 = 0) && (decide (x.getD other 0 = least) && (x.all (fun v => decide (0 ≤ v ∧ v ≤ least)) && valid x ts))
theorem getD_mem {x : List Int} {v : Nat} (h : v < x.length) : x.getD v 0 ∈ x := by
  rw [getD_lt h]; exact List.getElem_mem h
theorem pf_iff {n : Nat} {ts : List Tie} {one other : Nat} {least : Int} {x : List Int} (hl : x.length = n) : pfB ts one other least x = true ↔ Pf n ts one other least x := by
  unfold pfB
  simp only [Bool.and_eq_true, decide_eq_true_eq, List.all_eq_true]
  refine ⟨fun ⟨h1, h2, h3, h4⟩ => ⟨hl, h4, fun v hv => (h3 _ (getD_mem (by omega))).1, fun v hv => (h3 _ (getD_mem (by omega))).2, h1, h2⟩, fun h => ⟨h.o, h.t, fun y hy => ?_, h.v⟩⟩
  obtain ⟨v, hv, e⟩ := List.mem_iff_getElem.mp hy
  have := h.lo v (by omega)
  have := h.hi v (by omega)
  rw [getD_lt hv, e] at *
  exact ⟨by assumption, by assumption⟩
/-! the least and the greatest one -/
def lowF (least : Int) (o : Option Int) : Int := match o with
  | none => 0
  | some d => if least - d > 0 then least - d else 0
def highF (least : Int) (o : Option Int) : Int := match o with
  | none => least
  | some d => if d < least then d else least
theorem map_at {f : Option Int → Int} {r : Row} {v : Nat} (h : v < r.length) : (r.map f).getD v 0 = f (at_ r v) := by
  rw [getD_map f r h, at_get h]
structure Two (n : Nat) (ts ts' : List Tie) (one other : Nat) (least : Int) (r rT : Row) : Prop where
  ok : ∀ t ∈ ts, TieOk n t
  T : Tn ts ts'
  h1 : one < n
  h2 : other < n
  d : IsDist n ts one r
  dT : IsDist n ts' other rT
  r2 : at_ r other = some least
  rT1 : at_ rT one = some least
theorem Two.l0 {n : Nat} {ts ts' : List Tie} {one other : Nat} {least : Int} {r rT : Row} (w : Two n ts ts' one other least r rT) : 0 ≤ least := by
  obtain ⟨k, wk⟩ := w.d.wk _ _ w.r2
  exact wk.ge fun t ht => (w.ok t ht).l
theorem dist_ge {n : Nat} {ts : List Tie} {one v : Nat} {r : Row} {x : Int} (ok : ∀ t ∈ ts, TieOk n t) (d : IsDist n ts one r) (h : at_ r v = some x) : 0 ≤ x := by
  obtain ⟨k, wk⟩ := d.wk _ _ h
  exact wk.ge fun t ht => (ok t ht).l
theorem low_pf {n : Nat} {ts ts' : List Tie} {one other : Nat} {least : Int} {r rT : Row} (w : Two n ts ts' one other least r rT) : Pf n ts one other least (rT.map (lowF least)) := by
  have l0 := w.l0
  have lT := w.dT.len
  have at' : ∀ v, v < n → (rT.map (lowF least)).getD v 0 = lowF least (at_ rT v) := fun v hv => map_at (by omega)
  have okT : ∀ t ∈ ts', TieOk n t := fun t ht => (w.ok _ (w.T.mem.mp ht)).turn
  refine ⟨by simp [lT], valid_iff.mpr fun t ht => ?_, fun v hv => ?_, fun v hv => ?_, ?_, ?_⟩
  · have okt := w.ok t ht
    rw [at' _ okt.b, at' _ okt.a]
    have tl := okt.l
    have tm : turnT t ∈ ts' := w.T.mem.mpr (by rw [turn_turn]; exact ht)
    cases qb : at_ rT t.b with
    | none =>
      simp only [lowF]
      split <;> (try split) <;> omega
    | some y =>
      obtain ⟨x, hx, le⟩ := w.dT.cl _ tm y qb
      have hx' : at_ rT t.a = some x := hx
      have le' : x ≤ y + t.l := le
      rw [hx']
      simp only [lowF]
      split <;> split <;> omega
  · rw [at' _ hv]
    unfold lowF
    split <;> (try split) <;> omega
  · rw [at' _ hv]
    cases q : at_ rT v with
    | none => simp only [lowF]; omega
    | some d =>
      have := dist_ge okT w.dT q
      simp only [lowF]
      split <;> omega
  · rw [at' _ w.h1, w.rT1]
    simp only [lowF]
    split <;> omega
  · rw [at' _ w.h2, w.dT.z]
    simp only [lowF]
    split <;> omega
theorem high_pf {n : Nat} {ts ts' : List Tie} {one other : Nat} {least : Int} {r rT : Row} (w : Two n ts ts' one other least r rT) : Pf n ts one other least (r.map (highF least)) := by
  have l0 := w.l0
  have lr := w.d.len
  have at' : ∀ v, v < n → (r.map (highF least)).getD v 0 = highF least (at_ r v) := fun v hv => map_at (by omega)
  refine ⟨by simp [lr], valid_iff.mpr fun t ht => ?_, fun v hv => ?_, fun v hv => ?_, ?_, ?_⟩
  · have okt := w.ok t ht
    rw [at' _ okt.b, at' _ okt.a]
    have tl := okt.l
    cases qa : at_ r t.a with
    | none =>
      cases qb : at_ r t.b with
      | none => simp only [highF]; omega
      | some y => simp only [highF]; split <;> omega
    | some x =>
      obtain ⟨y, hy, le⟩ := w.d.cl _ ht x qa
      rw [hy]
      simp only [highF]
      split <;> split <;> omega
  · rw [at' _ hv]
    cases q : at_ r v with
    | none => exact l0
    | some d =>
      have := dist_ge w.ok w.d q
      simp only [highF]
      split <;> omega
  · rw [at' _ hv]
    cases q : at_ r v with
    | none => simp only [highF]; omega
    | some d => simp only [highF]; split <;> omega
  · rw [at' _ w.h1, w.d.z]
    simp only [highF]
    split <;> omega
  · rw [at' _ w.h2, w.r2]
    simp only [highF]
    split <;> omega
theorem valid_neg {n : Nat} {ts ts' : List Tie} {x : List Int} (ok : ∀ t ∈ ts, TieOk n t) (T : Tn ts ts') (hl : x.length = n) (c : Int) (v : valid x ts = true) : valid (x.map fun y => c - y) ts' = true := by
  refine valid_iff.mpr fun t ht => ?_
  have hm := T.mem.mp ht
  have okt := ok _ hm
  have := valid_iff.mp v _ hm
  simp only [turnT] at this
  rw [getD_map _ _ (by rw [hl]; exact okt.a), getD_map _ _ (by rw [hl]; exact okt.b), ← getD_lt, ← getD_lt]
  omega
theorem Pf.between {n : Nat} {ts ts' : List Tie} {one other : Nat} {least : Int} {r rT : Row} {x : List Int} (w : Two n ts ts' one other least r rT) (p : Pf n ts one other least x) :
    ∀ v, v < n → (rT.map (lowF least)).getD v 0 ≤ x.getD v 0 ∧ x.getD v 0 ≤ (r.map (highF least)).getD v 0 := by
  intro v hv
  rw [map_at (by rw [w.dT.len]; exact hv), map_at (by rw [w.d.len]; exact hv)]
  have h1 := p.lo v hv
  have h2 := p.hi v hv
  refine ⟨?_, ?_⟩
  · cases q : at_ rT v with
    | none => exact h1
    | some d =>
      obtain ⟨k, wk⟩ := w.dT.wk _ _ q
      have vn := valid_neg w.ok w.T p.len 0 p.v
      have := valid_walk vn wk
      rw [getD_map _ _ (by rw [p.len]; exact hv), getD_map _ _ (by rw [p.len]; exact w.h2), ← getD_lt, ← getD_lt, p.t] at this
      simp only [lowF]
      split <;> omega
  · cases q : at_ r v with
    | none => exact h2
    | some d =>
      obtain ⟨k, wk⟩ := w.d.wk _ _ q
      have := valid_walk p.v wk
      rw [p.o] at this
      simp only [highF]
      split <;> omega
theorem zipI_get {f : Int → Int → Int} {a b : List Int} {v : Nat} (h1 : v < a.length) (h2 : v < b.length) : (zipI f a b).getD v 0 = f (a.getD v 0) (b.getD v 0) := by
  have e : (a.zip b)[v]? = some (a[v], b[v]) := List.getElem?_eq_some_iff.mpr ⟨by rw [List.length_zip]; omega, by simp⟩
  simp [zipI, List.getD_eq_getElem?_getD, h1, h2, e]
theorem Pf.good {n : Nat} {ts : List Tie} {one other : Nat} {least : Int} {x : List Int} (p : Pf n ts one other least x) : Good n ts x := ⟨p.len, p.v⟩
theorem Pf.zip {n : Nat} {ts : List Tie} {one other : Nat} {least : Int} {x y : List Int} (f : Int → Int → Int) (hf : ∀ x y x' y' l : Int, x ≤ x' + l → y ≤ y' + l → f x y ≤ f x' y' + l) (hc : ∀ a b : Int, f a b = a ∨ f a b = b) (h : MapOk n ts) (h1 : one < n) (h2 : other < n)
    (px : Pf n ts one other least x) (py : Pf n ts one other least y) : Pf n ts one other least (zipI f x y) := by
  have g := good_zip f hf h px.good py.good
  have at' : ∀ v, v < n → (zipI f x y).getD v 0 = f (x.getD v 0) (y.getD v 0) := fun v hv => zipI_get (by rw [px.len]; exact hv) (by rw [py.len]; exact hv)
  refine ⟨g.len, g.v, fun v hv => ?_, fun v hv => ?_, ?_, ?_⟩
  · rw [at' v hv]
    rcases hc (x.getD v 0) (y.getD v 0) with e | e <;> rw [e]
    · exact px.lo v hv
    · exact py.lo v hv
  · rw [at' v hv]
    rcases hc (x.getD v 0) (y.getD v 0) with e | e <;> rw [e]
    · exact px.hi v hv
    · exact py.hi v hv
  · rw [at' _ h1, px.o, py.o]; rcases hc 0 0 with e | e <;> exact e
  · rw [at' _ h2, px.t, py.t]; rcases hc least least with e | e <;> exact e
theorem Pf.turn {n : Nat} {ts ts' : List Tie} {one other : Nat} {least : Int} {x : List Int} (ok : ∀ t ∈ ts, TieOk n t) (T : Tn ts ts') (h1 : one < n) (h2 : other < n) (p : Pf n ts one other least x) : Pf n ts' other one least (x.map fun y => least - y) := by
  have at' : ∀ v, v < n → (x.map fun y => least - y).getD v 0 = least - x.getD v 0 := fun v hv => by rw [getD_map _ _ (by rw [p.len]; exact hv), ← getD_lt]
  refine ⟨by simp [p.len], valid_neg ok T p.len least p.v, fun v hv => ?_, fun v hv => ?_, ?_, ?_⟩
  · rw [at' v hv]; have := p.hi v hv; omega
  · rw [at' v hv]; have := p.lo v hv; omega
  · rw [at' _ h2, p.t]; omega
  · rw [at' _ h1, p.o]; omega
theorem Pf.sub {n : Nat} {ts ts2 : List Tie} {one other : Nat} {least : Int} {x : List Int} (h : ∀ t ∈ ts2, t ∈ ts) (p : Pf n ts one other least x) : Pf n ts2 one other least x :=
  ⟨p.len, valid_iff.mpr fun t ht => valid_iff.mp p.v t (h t ht), p.lo, p.hi, p.o, p.t⟩
def scaleT (by_ : Int) (t : Tie) : Tie := ⟨t.a, t.b, t.l * by_⟩
theorem Pf.scale {n : Nat} {ts ts2 : List Tie} {one other : Nat} {least by_ : Int} {x : List Int} (hb : 0 ≤ by_) (ok : ∀ t ∈ ts, TieOk n t) (h1 : one < n) (h2 : other < n) (h : ∀ t ∈ ts2, ∃ s ∈ ts, t = scaleT by_ s) (p : Pf n ts one other least x) : Pf n ts2 one other (least * by_) (x.map fun y => y * by_) := by
  have at' : ∀ v, v < n → (x.map fun y => y * by_).getD v 0 = x.getD v 0 * by_ := fun v hv => by rw [getD_map _ _ (by rw [p.len]; exact hv), ← getD_lt]
  refine ⟨by simp [p.len], valid_iff.mpr fun t ht => ?_, fun v hv => ?_, fun v hv => ?_, ?_, ?_⟩
  · obtain ⟨s, hs, rfl⟩ := h t ht
    have oks := ok s hs
    have := valid_iff.mp p.v s hs
    simp only [scaleT]
    rw [at' _ oks.b, at' _ oks.a, ← Int.add_mul]
    exact Int.mul_le_mul_of_nonneg_right this hb
  · rw [at' v hv]; exact Int.mul_nonneg (p.lo v hv) hb
  · rw [at' v hv]; exact Int.mul_le_mul_of_nonneg_right (p.hi v hv) hb
  · rw [at' _ h1, p.o, Int.zero_mul]
  · rw [at' _ h2, p.t]
end Dn.W

set_option Elab.async false
set_option linter.all false
set_option maxRecDepth 100000
set_option maxHeartbeats 4000000
namespace Dn.W
open PySem PySem.Spec PyProof.Rows L2 Dn
/-! a proof lowered at one place, and put right -/
def mnI (i j : Int) : Int := if j < i then j else i
def mxI (i j : Int) : Int := if j > i then j else i
def putT (L x : List Int) (t : Tie) : List Int := x.set t.b (mxI (L.getD t.b 0) (mnI (x.getD t.b 0) (x.getD t.a 0 + t.l)))
def putR (L : List Int) (ts : List Tie) (x : List Int) : List Int := ts.foldl (putT L) x
theorem putT_len (L x : List Int) (t : Tie) : (putT L x t).length = x.length := by simp [putT]
theorem putR_len (L : List Int) : ∀ (ts : List Tie) (x : List Int), (putR L ts x).length = x.length
  | [], x => rfl
  | t :: ts, x => by
    show (putR L ts (putT L x t)).length = _
    rw [putR_len L ts, putT_len]
theorem set_get {x : List Int} {v w : Nat} {y : Int} (h : v < x.length) : (x.set v y).getD w 0 = if w = v then y else x.getD w 0 := by
  simp only [List.getD_eq_getElem?_getD, List.getElem?_set]
  by_cases q : w = v
  · subst q; simp [h]
  · have : ¬ v = w := fun z => q z.symm
    simp [q, this]
/-- between g and f; g a valid one not below L -/
structure Mid (n : Nat) (ts : List Tie) (L g f x : List Int) : Prop where
  len : x.length = n
  lo : ∀ v, v < n → g.getD v 0 ≤ x.getD v 0
  hi : ∀ v, v < n → x.getD v 0 ≤ f.getD v 0
theorem Mid.put {n : Nat} {ts : List Tie} {L g f x : List Int} (ok : ∀ t ∈ ts, TieOk n t) (vg : valid g ts = true) (lg : ∀ v, v < n → L.getD v 0 ≤ g.getD v 0) (h : Mid n ts L g f x) {t : Tie} (ht : t ∈ ts) :
    Mid n ts L g f (putT L x t) ∧ (∀ v, v < n → (putT L x t).getD v 0 ≤ x.getD v 0) ∧ (putT L x t).getD t.b 0 ≤ mxI (L.getD t.b 0) (x.getD t.a 0 + t.l) := by
  have okt := ok t ht
  have at' : ∀ v, (putT L x t).getD v 0 = if v = t.b then mxI (L.getD t.b 0) (mnI (x.getD t.b 0) (x.getD t.a 0 + t.l)) else x.getD v 0 := fun v => set_get (by rw [h.len]; exact okt.b)
  have g1 := h.lo _ okt.a
  have g2 := h.lo _ okt.b
  have g3 := valid_iff.mp vg t ht
  have g4 := lg _ okt.b
  have g5 := h.hi _ okt.b
  refine ⟨⟨by rw [putT_len, h.len], fun v hv => ?_, fun v hv => ?_⟩, fun v hv => ?_, ?_⟩
  · rw [at' v]
    split
    · rename_i e; subst e
      unfold mxI mnI; split <;> split <;> omega
    · exact h.lo v hv
  · rw [at' v]
    split
    · rename_i e; subst e
      unfold mxI mnI; split <;> split <;> omega
    · exact h.hi v hv
  · rw [at' v]
    split
    · rename_i e; subst e
      unfold mxI mnI; split <;> split <;> omega
    · omega
  · rw [at' t.b, if_pos rfl]
    unfold mxI mnI; split <;> split <;> (try split) <;> omega
theorem Mid.round {n : Nat} {us : List Tie} {L g f : List Int} (ok : ∀ t ∈ us, TieOk n t) (vg : valid g us = true) (lg : ∀ v, v < n → L.getD v 0 ≤ g.getD v 0) : ∀ {ts : List Tie} {x : List Int}, (∀ t ∈ ts, t ∈ us) → Mid n us L g f x →
    Mid n us L g f (putR L ts x) ∧ (∀ v, v < n → (putR L ts x).getD v 0 ≤ x.getD v 0) ∧ ∀ t ∈ ts, (putR L ts x).getD t.b 0 ≤ mxI (L.getD t.b 0) (x.getD t.a 0 + t.l)
  | [], x, _, h => ⟨h, fun _ _ => Int.le_refl _, fun t ht => by cases ht⟩
  | t :: ts, x, hs, h => by
    obtain ⟨h1, h2, h3⟩ := h.put ok vg lg (hs t List.mem_cons_self)
    obtain ⟨k1, k2, k3⟩ := Mid.round ok vg lg (ts := ts) (fun s q => hs s (List.mem_cons_of_mem _ q)) h1
    refine ⟨k1, fun v hv => Int.le_trans (k2 v hv) (h2 v hv), fun s hs' => ?_⟩
    have oks := ok s (hs s hs')
    rcases List.mem_cons.mp hs' with e | e
    · subst e
      exact Int.le_trans (k2 _ oks.b) h3
    · have a := k3 s e
      have b := h2 _ oks.a
      show (putR L ts (putT L x t)).getD s.b 0 ≤ _
      refine Int.le_trans a ?_
      unfold mxI
      split <;> split <;> omega
/-- rounds, one after another -/
def putN (L : List Int) (ts : List Tie) : Nat → List Int → List Int
  | 0, x => x
  | k + 1, x => putR L ts (putN L ts k x)
def gOf (f : List Int) (c : Int) (rp : Row) : List Int := zipI (fun a b => mnI a b) f ((rp.zip f).map fun p => match p.1 with | none => p.2 | some d => c + d)
theorem lowered {n : Nat} {ts : List Tie} {one other p : Nat} {least c : Int} {L f : List Int} {rp : Row} (ok : ∀ t ∈ ts, TieOk n t) (hp : p < n) (h1 : one < n) (h2 : other < n) (d : IsDist n ts p rp)
    (pL : Pf n ts one other least L) (pf : Pf n ts one other least f) (lf : ∀ v, v < n → L.getD v 0 ≤ f.getD v 0) (c1 : L.getD p 0 ≤ c) (c2 : c ≤ f.getD p 0) : Pf n ts one other least (putN L ts n (f.set p c)) ∧ ∀ v, v < n → L.getD v 0 ≤ (putN L ts n (f.set p c)).getD v 0 ∧ (putN L ts n (f.set p c)).getD v 0 ≤ f.getD v 0 := by
  have lrp := d.len
  let gv : Nat → Int := fun v => match at_ rp v with | none => f.getD v 0 | some d => mnI (f.getD v 0) (c + d)
  let g : List Int := (List.range n).map gv
  have lg : g.length = n := by simp [g]
  have at' : ∀ v, v < n → g.getD v 0 = gv v := fun v hv => by simp [g, List.getD_eq_getElem?_getD, hv]
  have gf : ∀ v, v < n → g.getD v 0 ≤ f.getD v 0 := fun v hv => by
    rw [at' v hv]
    simp only [gv]
    split
    · omega
    · unfold mnI; split <;> omega
  have Ld : ∀ v d, v < n → at_ rp v = some d → L.getD v 0 ≤ c + d := fun v dd hv q => by
    obtain ⟨k, wk⟩ := d.wk _ _ q
    have := valid_walk pL.v wk
    omega
  have gL : ∀ v, v < n → L.getD v 0 ≤ g.getD v 0 := fun v hv => by
    rw [at' v hv]
    have := lf v hv
    simp only [gv]
    split
    · exact this
    · rename_i dd q
      have := Ld v dd hv q
      unfold mnI; split <;> omega
  have vg : valid g ts = true := valid_iff.mpr fun t ht => by
    have okt := ok t ht
    rw [at' _ okt.b, at' _ okt.a]
    have vf := valid_iff.mp pf.v t ht
    have tl := okt.l
    simp only [gv]
    cases qa : at_ rp t.a with
    | none =>
      cases qb : at_ rp t.b with
      | none => simp only; omega
      | some y => simp only; unfold mnI; split <;> omega
    | some x =>
      obtain ⟨y, hy, le⟩ := d.cl t ht x qa
      rw [hy]
      simp only
      unfold mnI
      split <;> split <;> omega
  have m0 : Mid n ts L g f (f.set p c) := by
    have sg : ∀ v, (f.set p c).getD v 0 = if v = p then c else f.getD v 0 := fun v => set_get (by rw [pf.len]; exact hp)
    refine ⟨by simp [pf.len], fun v hv => ?_, fun v hv => ?_⟩
    · rw [sg v]
      split
      · rename_i e; subst e
        rw [at' _ hv]
        simp only [gv, d.z]
        unfold mnI; split <;> omega
      · exact gf v hv
    · rw [sg v]
      split
      · rename_i e; subst e; exact c2
      · omega
  have st : ∀ k, Mid n ts L g f (putN L ts k (f.set p c)) ∧ ∀ v s j, Walk ts p v s j → j ≤ k → v < n → (putN L ts k (f.set p c)).getD v 0 ≤ c + s := by
    intro k
    induction k with
    | zero =>
      refine ⟨m0, fun v s j w hj hv => ?_⟩
      cases w with
      | nil => show (f.set p c).getD p 0 ≤ _; rw [set_get (by rw [pf.len]; exact hp), if_pos rfl]; omega
      | snoc w ht ha => omega
    | succ k ih =>
      obtain ⟨h1, h2⟩ := ih
      obtain ⟨k1, k2, k3⟩ := h1.round ok vg gL (ts := ts) fun t ht => ht
      refine ⟨k1, fun v s j w hj hv => ?_⟩
      cases w with
      | nil => exact Int.le_trans (k2 _ hv) (h2 _ _ _ .nil (by omega) hv)
      | @snoc u x j t w ht ha =>
        have okt := ok t ht
        have a := k3 t ht
        have b := h2 u x j w (by omega) (by rw [← ha]; exact okt.a)
        rw [← ha] at b
        have wL := valid_walk pL.v (Walk.snoc w ht ha)
        show (putR L ts (putN L ts k (f.set p c))).getD t.b 0 ≤ _
        refine Int.le_trans a ?_
        unfold mxI
        split <;> omega
  obtain ⟨m, bl⟩ := st n
  have eq : ∀ v, v < n → (putN L ts n (f.set p c)).getD v 0 = g.getD v 0 := fun v hv => by
    have a := m.lo v hv
    have b := m.hi v hv
    have : (putN L ts n (f.set p c)).getD v 0 ≤ g.getD v 0 := by
      rw [at' v hv]
      simp only [gv]
      split
      · exact b
      · rename_i dd q
        obtain ⟨k, wk⟩ := d.wk _ _ q
        obtain ⟨x', k', w', le, lt⟩ := wk.short ok hp
        have := bl v x' k' w' (by omega) hv
        obtain ⟨y, hy, le2⟩ := d.le w'
        rw [q] at hy; cases hy
        unfold mnI; split <;> omega
    omega
  refine ⟨⟨m.len, valid_iff.mpr fun t ht => ?_, fun v hv => ?_, fun v hv => ?_, ?_, ?_⟩, fun v hv => ?_⟩
  · have okt := ok t ht
    rw [eq _ okt.b, eq _ okt.a]
    exact valid_iff.mp vg t ht
  · rw [eq v hv]; have := gL v hv; have := pL.lo v hv; omega
  · rw [eq v hv]; have := gf v hv; have := pf.hi v hv; omega
  · rw [eq _ h1]; have a := gL _ h1; have b := gf _ h1; rw [pL.o] at a; rw [pf.o] at b; omega
  · rw [eq _ h2]; have a := gL _ h2; have b := gf _ h2; rw [pL.t] at a; rw [pf.t] at b; omega
  · rw [eq v hv]; exact ⟨gL v hv, gf v hv⟩
end Dn.W

set_option Elab.async false
set_option linter.all false
set_option maxRecDepth 100000
set_option maxHeartbeats 4000000
namespace Dn.W
open PySem PySem.Spec PyProof.Rows L2 Dn
/-! all proofs, place by place -/
def badT (k : Nat) (x : Int) (row : List Int) (t : Tie) : Bool :=
  (decide (t.a < k) && (decide (t.b = k) && decide (row.getD t.a 0 + t.l < x))) || (decide (t.b < k) && (decide (t.a = k) && decide (x + t.l < row.getD t.b 0)))
/-- what holds of the first k places -/
structure Part (ts : List Tie) (one other : Nat) (least : Int) (k : Nat) (x : List Int) : Prop where
  len : x.length = k
  v : ∀ t ∈ ts, t.a < k → t.b < k → x.getD t.b 0 ≤ x.getD t.a 0 + t.l
  lo : ∀ v, v < k → 0 ≤ x.getD v 0
  hi : ∀ v, v < k → x.getD v 0 ≤ least
  o : one < k → x.getD one 0 = 0
  t : other < k → x.getD other 0 = least
theorem getD_app {x : List Int} {k v : Nat} {y : Int} (h : x.length = k) : (x ++ [y]).getD v 0 = if v < k then x.getD v 0 else if v = k then y else 0 := by
  simp only [List.getD_eq_getElem?_getD]
  by_cases q : v < k
  · rw [if_pos q, List.getElem?_append_left (by omega)]
  · rw [if_neg q, List.getElem?_append_right (by omega)]
    by_cases e : v = k
    · subst e; simp [h]
    · rw [if_neg e, List.getElem?_eq_none (by simp; omega)]; rfl
theorem Part.zero {ts : List Tie} {one other : Nat} {least : Int} : Part ts one other least 0 [] := ⟨rfl, fun t _ h => by omega, fun v h => by omega, fun v h => by omega, fun h => by omega, fun h => by omega⟩
theorem Part.snoc {ts : List Tie} {one other : Nat} {least : Int} {k : Nat} {x : List Int} {y : Int} (ne : ∀ t ∈ ts, t.a ≠ t.b) (p : Part ts one other least k x) (lo : 0 ≤ y) (hi : y ≤ least) (ho : k = one → y = 0) (ht : k = other → y = least) (hb : ts.all (fun t => !badT k y x t) = true) : Part ts one other least (k + 1) (x ++ [y]) := by
  have g := fun v => getD_app (x := x) (k := k) (v := v) (y := y) p.len
  rw [List.all_eq_true] at hb
  refine ⟨by simp [p.len], fun t tm h1 h2 => ?_, fun v hv => ?_, fun v hv => ?_, fun h => ?_, fun h => ?_⟩
  · have b := hb t tm
    have n := ne t tm
    simp only [badT, Bool.not_eq_true', Bool.or_eq_false_iff, Bool.and_eq_false_iff, decide_eq_false_iff_not] at b
    rw [g, g]
    by_cases a1 : t.a < k
    · by_cases b1 : t.b < k
      · rw [if_pos a1, if_pos b1]; exact p.v t tm a1 b1
      · have e : t.b = k := by omega
        rw [if_pos a1, if_neg b1, if_pos e]
        have := b.1
        omega
    · have e : t.a = k := by omega
      have b1 : t.b < k := by omega
      rw [if_neg a1, if_pos e, if_pos b1]
      have := b.2
      omega
  · rw [g]
    split
    · exact p.lo v (by assumption)
    · rw [if_pos (by omega)]; exact lo
  · rw [g]
    split
    · exact p.hi v (by assumption)
    · rw [if_pos (by omega)]; exact hi
  · rw [g]
    split
    · exact p.o (by assumption)
    · have : one = k := by omega
      rw [if_pos this]; exact ho this.symm
  · rw [g]
    split
    · exact p.t (by assumption)
    · have : other = k := by omega
      rw [if_pos this]; exact ht this.symm
theorem Part.pf {n : Nat} {ts : List Tie} {one other : Nat} {least : Int} {x : List Int} (ok : ∀ t ∈ ts, TieOk n t) (h1 : one < n) (h2 : other < n) (p : Part ts one other least n x) : Pf n ts one other least x :=
  ⟨p.len, valid_iff.mpr fun t ht => p.v t ht (ok t ht).a (ok t ht).b, p.lo, p.hi, p.o h1, p.t h2⟩
theorem take_getD {x : List Int} {k v : Nat} (h : v < k) : (x.take k).getD v 0 = x.getD v 0 := by
  simp [List.getD_eq_getElem?_getD, List.getElem?_take, h]
/-- the next place of a proof is none that is bad -/
theorem Pf.next {n : Nat} {ts : List Tie} {one other : Nat} {least : Int} {x : List Int} (p : Pf n ts one other least x) (k : Nat) : ts.all (fun t => !badT k (x.getD k 0) (x.take k) t) = true := by
  rw [List.all_eq_true]
  intro t ht
  have v := valid_iff.mp p.v t ht
  simp only [badT, Bool.not_eq_true', Bool.or_eq_false_iff, Bool.and_eq_false_iff, decide_eq_false_iff_not]
  refine ⟨?_, ?_⟩
  · by_cases a : t.a < k
    · by_cases b : t.b = k
      · refine .inr (.inr ?_)
        rw [take_getD a, ← b]; omega
      · exact .inr (.inl b)
    · exact .inl a
  · by_cases a : t.b < k
    · by_cases b : t.a = k
      · refine .inr (.inr ?_)
        rw [take_getD a, ← b]; omega
      · exact .inr (.inl b)
    · exact .inl a
def choices (one other : Nat) (least : Int) (k : Nat) : List Int := if k = one then [0] else if k = other then [least] else (List.range (least + 1).toNat).map fun i : Nat => (i : Int)
def longer (ts : List Tie) (one other : Nat) (least : Int) (k : Nat) (rows : List (List Int)) : List (List Int) :=
  rows.flatMap fun row => ((choices one other least k).filter fun x => ts.all (fun t => !badT k x row t)).map fun x => row ++ [x]
structure AllI (n : Nat) (ts : List Tie) (one other : Nat) (least : Int) (k : Nat) (rows : List (List Int)) : Prop where
  p : ∀ x ∈ rows, Part ts one other least k x
  c : ∀ x, Pf n ts one other least x → x.take k ∈ rows
theorem choices_ok {one other : Nat} {least : Int} {k : Nat} (l0 : 0 ≤ least) (ne : one ≠ other) {y : Int} (h : y ∈ choices one other least k) : 0 ≤ y ∧ y ≤ least ∧ (k = one → y = 0) ∧ (k = other → y = least) := by
  unfold choices at h
  split at h
  · rename_i e; simp at h; subst h; exact ⟨by omega, l0, fun _ => rfl, fun z => absurd (e.symm.trans z) ne⟩
  · split at h
    · rename_i e1 e; simp at h; subst h; exact ⟨l0, by omega, fun z => absurd z e1, fun _ => rfl⟩
    · rename_i e1 e2
      obtain ⟨i, hi, rfl⟩ := List.mem_map.mp h
      have := List.mem_range.mp hi
      exact ⟨by omega, by omega, fun z => absurd z e1, fun z => absurd z e2⟩
theorem AllI.step {n : Nat} {ts : List Tie} {one other : Nat} {least : Int} {k : Nat} {rows : List (List Int)} (ok : ∀ t ∈ ts, TieOk n t) (l0 : 0 ≤ least) (ne : one ≠ other) (hk : k < n) (h : AllI n ts one other least k rows) : AllI n ts one other least (k + 1) (longer ts one other least k rows) := by
  refine ⟨fun x hx => ?_, fun x px => ?_⟩
  · obtain ⟨row, hr, hx⟩ := List.mem_flatMap.mp hx
    obtain ⟨y, hy, rfl⟩ := List.mem_map.mp hx
    obtain ⟨hy1, hy2⟩ := List.mem_filter.mp hy
    obtain ⟨c1, c2, c3, c4⟩ := choices_ok l0 ne hy1
    exact (h.p row hr).snoc (fun t ht => (ok t ht).ne) c1 c2 c3 c4 hy2
  · refine List.mem_flatMap.mpr ⟨x.take k, h.c x px, List.mem_map.mpr ⟨x.getD k 0, List.mem_filter.mpr ⟨?_, px.next k⟩, ?_⟩⟩
    · unfold choices
      split
      · rename_i e; subst e; simp only [List.mem_singleton]; exact px.o
      · split
        · rename_i e; subst e; simp only [List.mem_singleton]; exact px.t
        · have a := px.lo k hk
          have b := px.hi k hk
          exact List.mem_map.mpr ⟨(x.getD k 0).toNat, List.mem_range.mpr (by omega), by omega⟩
    · rw [List.take_add_one, List.getElem?_eq_getElem (by rw [px.len]; exact hk), getD_lt (by rw [px.len]; exact hk)]; rfl
theorem AllI.zero {n : Nat} {ts : List Tie} {one other : Nat} {least : Int} : AllI n ts one other least 0 [[]] := ⟨fun x hx => by rw [List.mem_singleton.mp hx]; exact .zero, fun x _ => by simp⟩
/-! a map without a tie of no shortest way -/
def tightB (least : Int) (r rT : Row) (t : Tie) : Bool := match at_ r t.a, at_ rT t.b with
  | some x, some y => decide (x + t.l + y = least)
  | _, _ => false
theorem walk_less {n : Nat} {ts ts' ts2 : List Tie} {one other : Nat} {least : Int} {r rT : Row} (w : Two n ts ts' one other least r rT) (hs : ∀ t ∈ ts, tightB least r rT t = true → t ∈ ts2) : ∀ {v x k y}, Walk ts one v x k → at_ rT v = some y → x + y ≤ least → Walk ts2 one v x k
  | _, _, _, _, .nil, _, _ => .nil
  | _, _, _, y, .snoc (u := u) (x := x) (t := t) wk ht ha, hy, le => by
    have tm : turnT t ∈ ts' := w.T.mem.mpr (by rw [turn_turn]; exact ht)
    obtain ⟨z, hz, le2⟩ := w.dT.cl _ tm y hy
    have hz' : at_ rT u = some z := by rw [← ha]; exact hz
    have le2' : z ≤ y + t.l := le2
    have ih := walk_less w hs wk hz' (by omega)
    obtain ⟨d, hd, le3⟩ := w.d.le wk
    have tt : tightB least r rT t = true := by
      unfold tightB
      rw [ha, hd, hy]
      simp only [decide_eq_true_eq]
      have : least ≤ d + t.l + y := by
        obtain ⟨k1, w1⟩ := w.d.wk _ _ hd
        have w2 := Walk.snoc w1 ht ha
        obtain ⟨k2, w3⟩ := w.dT.wk _ _ hy
        obtain ⟨p, hp, _, hsum⟩ := w3.pth
        obtain ⟨k3, w4⟩ := pth_back (n := n) w.T.symm hp
        obtain ⟨q, hq, _, hsq⟩ := w4.pth
        have w5 := w2.append hq
        obtain ⟨e, he, le4⟩ := w.d.le w5
        rw [w.r2] at he; cases he
        rw [hsq, hsum] at le4
        omega
      omega
    exact .snoc ih (hs t ht tt) ha
theorem less_dist {n : Nat} {ts ts' ts2 : List Tie} {one other : Nat} {least : Int} {r rT r2 : Row} (w : Two n ts ts' one other least r rT) (hs : ∀ t ∈ ts, tightB least r rT t = true → t ∈ ts2) (sub : ∀ t ∈ ts2, t ∈ ts) (d2 : IsDist n ts2 one r2) : at_ r2 other = some least := by
  obtain ⟨k, wk⟩ := w.d.wk _ _ w.r2
  have w2 := walk_less w hs wk w.dT.z (by omega)
  obtain ⟨y, hy, le⟩ := d2.le w2
  obtain ⟨k2, wk2⟩ := d2.wk _ _ hy
  have up : ∀ v x k, Walk ts2 one v x k → Walk ts one v x k := fun v x k w => by
    induction w with
    | nil => exact .nil
    | snoc w ht ha ih => exact .snoc ih (sub _ ht) ha
  obtain ⟨z, hz, le2⟩ := w.d.le (up _ _ _ wk2)
  rw [w.r2] at hz; cases hz
  rw [hy]; congr 1; omega
end Dn.W

set_option Elab.async false
set_option linter.all false
set_option maxRecDepth 100000
set_option maxHeartbeats 4000000
namespace Dn.W
open PySem PySem.Spec PyProof.Rows L2 Dn
/-! two maps one behind the other -/
def shiftT (m : Nat) (t : Tie) : Tie := ⟨t.a + m, t.b + m, t.l⟩
theorem pth_shift {ts tj : List Tie} {m : Nat} (hs : ∀ t ∈ ts, shiftT m t ∈ tj) : ∀ {p : List Tie} {u v : Nat}, Pth ts u p v → Pth tj (u + m) (p.map (shiftT m)) (v + m) ∧ sumT (p.map (shiftT m)) = sumT p
  | [], u, v, h => by cases (show u = v from h); exact ⟨rfl, rfl⟩
  | t :: p, u, v, ⟨ht, ha, hp⟩ => by
    obtain ⟨h1, h2⟩ := pth_shift hs hp
    refine ⟨⟨hs t ht, by show t.a + m = u + m; omega, h1⟩, ?_⟩
    simp only [sumT, List.map_cons, List.sum_cons] at h2 ⊢
    rw [h2]; rfl
theorem walk_sub {ts tj : List Tie} {one : Nat} (hs : ∀ t ∈ ts, t ∈ tj) : ∀ {v x k}, Walk ts one v x k → Walk tj one v x k
  | _, _, _, .nil => .nil
  | _, _, _, .snoc w ht ha => .snoc (walk_sub hs w) (hs _ ht) ha
def rowV (l0 : Int) (left right : List Int) : List Int := left ++ right.tail.map fun x => x + l0
structure Join (n1 n2 : Nat) (t1 t2 tj : List Tie) : Prop where
  ok1 : ∀ t ∈ t1, TieOk n1 t
  ok2 : ∀ t ∈ t2, TieOk n2 t
  m1 : 1 ≤ n1
  m2 : 1 ≤ n2
  mem : ∀ t, t ∈ tj ↔ t ∈ t1 ∨ ∃ s ∈ t2, t = shiftT (n1 - 1) s
theorem Join.ok {n1 n2 : Nat} {t1 t2 tj : List Tie} (j : Join n1 n2 t1 t2 tj) : ∀ t ∈ tj, TieOk (n1 + n2 - 1) t := fun t ht => by
  have := j.m1
  have := j.m2
  rcases (j.mem t).mp ht with h | ⟨s, hs, rfl⟩
  · have o := j.ok1 t h
    exact ⟨by have := o.a; omega, by have := o.b; omega, o.ne, o.l⟩
  · have o := j.ok2 s hs
    exact ⟨by have := o.a; simp only [shiftT]; omega, by have := o.b; simp only [shiftT]; omega, by have := o.ne; simp only [shiftT]; omega, o.l⟩
theorem rowV_get {n1 n2 : Nat} {l0 : Int} {left right : List Int} (h1 : left.length = n1) (h2 : right.length = n2) (m1 : 1 ≤ n1) (m2 : 1 ≤ n2) (e : left.getD (n1 - 1) 0 = l0) (e0 : right.getD 0 0 = 0) {v : Nat} (hv : v < n1 + n2 - 1) :
    (v < n1 → (rowV l0 left right).getD v 0 = left.getD v 0) ∧ (n1 - 1 ≤ v → (rowV l0 left right).getD v 0 = right.getD (v - (n1 - 1)) 0 + l0) := by
  have a : v < n1 → (rowV l0 left right).getD v 0 = left.getD v 0 := fun q => by
    unfold rowV
    simp only [List.getD_eq_getElem?_getD]
    rw [List.getElem?_append_left (by omega)]
  refine ⟨a, fun q => ?_⟩
  by_cases z : v < n1
  · have : v = n1 - 1 := by omega
    subst this
    rw [a z, e, Nat.sub_self, e0]; omega
  · unfold rowV
    simp only [List.getD_eq_getElem?_getD]
    rw [List.getElem?_append_right (by omega), List.getElem?_map, List.getElem?_tail, h1]
    have : v - n1 + 1 = v - (n1 - 1) := by omega
    rw [this]
    have lt : v - (n1 - 1) < right.length := by omega
    rw [List.getElem?_eq_getElem lt]
    rfl
theorem join_pf {n1 n2 : Nat} {t1 t2 tj : List Tie} {l0 l1 : Int} {left right : List Int} (j : Join n1 n2 t1 t2 tj) (p1 : Pf n1 t1 0 (n1 - 1) l0 left) (p2 : Pf n2 t2 0 (n2 - 1) l1 right) :
    Pf (n1 + n2 - 1) tj 0 (n1 + n2 - 2) (l0 + l1) (rowV l0 left right) := by
  have m1 := j.m1
  have m2 := j.m2
  have a0 : 0 ≤ l0 := by have := p1.lo (n1 - 1) (by omega); rw [p1.t] at this; exact this
  have b0 : 0 ≤ l1 := by have := p2.lo (n2 - 1) (by omega); rw [p2.t] at this; exact this
  have g := fun (v : Nat) (hv : v < n1 + n2 - 1) => rowV_get p1.len p2.len m1 m2 p1.t p2.o hv
  have bd : ∀ v, v < n1 + n2 - 1 → 0 ≤ (rowV l0 left right).getD v 0 ∧ (rowV l0 left right).getD v 0 ≤ l0 + l1 := fun v hv => by
    obtain ⟨g1, g2⟩ := g v hv
    by_cases q : v < n1
    · rw [g1 q]; have := p1.lo v q; have := p1.hi v q; omega
    · rw [g2 (by omega)]; have := p2.lo (v - (n1 - 1)) (by omega); have := p2.hi (v - (n1 - 1)) (by omega); omega
  refine ⟨?_, valid_iff.mpr fun t ht => ?_, fun v hv => (bd v hv).1, fun v hv => (bd v hv).2, ?_, ?_⟩
  · unfold rowV; rw [List.length_append, List.length_map, List.length_tail, p1.len, p2.len]; omega
  · rcases (j.mem t).mp ht with h | ⟨s, hs, rfl⟩
    · have o := j.ok1 t h
      rw [(g t.b (by have := o.b; omega)).1 o.b, (g t.a (by have := o.a; omega)).1 o.a]
      exact valid_iff.mp p1.v t h
    · have o := j.ok2 s hs
      have oa := o.a
      have ob := o.b
      have e := valid_iff.mp p2.v s hs
      have q1 := (g (s.b + (n1 - 1)) (by omega)).2 (by omega)
      have q2 := (g (s.a + (n1 - 1)) (by omega)).2 (by omega)
      rw [Nat.add_sub_cancel] at q1 q2
      simp only [shiftT]
      rw [q1, q2]; omega
  · rw [(g 0 (by omega)).1 (by omega)]; exact p1.o
  · rw [(g _ (by omega)).2 (by omega)]
    have : n1 + n2 - 2 - (n1 - 1) = n2 - 1 := by omega
    rw [this, p2.t]; omega
theorem join_dist {n1 n2 : Nat} {t1 t2 tj : List Tie} {l0 l1 : Int} {left right : List Int} {r1 r2 rj : Row} (j : Join n1 n2 t1 t2 tj) (d1 : IsDist n1 t1 0 r1) (d2 : IsDist n2 t2 0 r2) (dj : IsDist (n1 + n2 - 1) tj 0 rj)
    (e1 : at_ r1 (n1 - 1) = some l0) (e2 : at_ r2 (n2 - 1) = some l1) (p : Pf (n1 + n2 - 1) tj 0 (n1 + n2 - 2) (l0 + l1) (rowV l0 left right)) : at_ rj (n1 + n2 - 2) = some (l0 + l1) := by
  have m1 := j.m1
  have m2 := j.m2
  obtain ⟨k1, w1⟩ := d1.wk _ _ e1
  obtain ⟨k2, w2⟩ := d2.wk _ _ e2
  have w1' : Walk tj 0 (n1 - 1) l0 k1 := walk_sub (fun t ht => (j.mem t).mpr (.inl ht)) w1
  obtain ⟨q, hq, _, hs⟩ := w2.pth
  obtain ⟨hq', hs'⟩ := pth_shift (m := n1 - 1) (tj := tj) (fun t ht => (j.mem _).mpr (.inr ⟨t, ht, rfl⟩)) hq
  rw [Nat.zero_add] at hq'
  have w3 := w1'.append hq'
  have e : n2 - 1 + (n1 - 1) = n1 + n2 - 2 := by omega
  rw [e, hs', hs] at w3
  obtain ⟨y, hy, le⟩ := dj.le w3
  obtain ⟨k, w4⟩ := dj.wk _ _ hy
  have := valid_walk p.v w4
  rw [p.t, p.o] at this
  rw [hy]; congr 1; omega
end Dn.W

set_option Elab.async false
set_option linter.all false
set_option maxRecDepth 100000
set_option maxHeartbeats 4000000
namespace Dn.W
open PySem PySem.Spec PyProof.Rows L2 Dn
abbrev EF (R O M T : Option Sl) (r : Row) (x5 x6 x7 x8 x9 : Option Sl) : En := [R, O, M, T, some (1, .list (r.map optD)), x5, x6, x7, x8, x9, none]
theorem far_1 {n : Nat} {us : List Tie} (ok : ∀ t ∈ us, TieOk n t) {r : Row} (hl : r.length = n) (R O M T x5 x6 x7 x8 x9 : Option Sl) :
    ∃ y7 y8 y9, dForL (gTp 3 (gsCons (gNm 7) (gsCons (gNm 8) (gsCons (gNm 9) gsNil)))) b__law_far_1 (us.map tieD) (EF R O M T r x5 x6 x7 x8 x9) = some (.nx, EF R O M T (round us r) x5 x6 y7 y8 y9) := by
  induction us generalizing r x7 x8 x9 with
  | nil => exact ⟨x7, x8, x9, rfl⟩
  | cons t us ih =>
    have okt := ok t List.mem_cons_self
    have a1 := atI_opt (r := r) (v := t.a) (by rw [hl]; exact okt.a)
    have a2 := atI_opt (r := r) (v := t.b) (by rw [hl]; exact okt.b)
    have a3 : ixN r.length ((t.b : Nat) : Int) = some t.b := ixN_nat (by rw [hl]; exact okt.b)
    have step : b__law_far_1 (EF R O M T r x5 x6 (some (0, .int (t.a : Nat))) (some (0, .int (t.b : Nat))) (some (0, .int t.l))) = some (.nx, EF R O M T (relax r t) x5 x6 (some (0, .int (t.a : Nat))) (some (0, .int (t.b : Nat))) (some (0, .int t.l))) := by
      unfold relax
      cases ha : at_ r t.a with
      | none =>
        rw [ha] at a1
        simp [b__law_far_1, a1]
      | some x =>
        rw [ha] at a1
        cases hb : at_ r t.b with
        | none =>
          rw [hb] at a2
          simp [b__law_far_1, a1, a2, a3, List.map_set]
        | some y =>
          rw [hb] at a2
          by_cases q : x + t.l < y
          · simp [b__law_far_1, a1, a2, a3, q, List.map_set]
          · simp [b__law_far_1, a1, a2, q]
    obtain ⟨y7, y8, y9, e⟩ := ih (fun s hs => ok s (List.mem_cons_of_mem _ hs)) (r := relax r t) (by rw [relax_len, hl]) (some (0, .int (t.a : Nat))) (some (0, .int (t.b : Nat))) (some (0, .int t.l))
    refine ⟨y7, y8, y9, ?_⟩
    rw [List.map_cons, dForL_cons]
    have g : gTp 3 (gsCons (gNm 7) (gsCons (gNm 8) (gsCons (gNm 9) gsNil))) (tieD t) (EF R O M T r x5 x6 x7 x8 x9) = some (EF R O M T r x5 x6 (some (0, .int (t.a : Nat))) (some (0, .int (t.b : Nat))) (some (0, .int t.l))) := by simp [tieD]
    rw [g]
    simp only [step]
    exact e
theorem far_2 {n one : Nat} {ts : List Tie} (h : MapW n ts) (h1 : one < n) (R O x5 x6 x7 x8 x9 : Option Sl) {r : Row} (hr : Half n ts one r) (hb : Below ts one 0 r) :
    ∃ (r' : Row) (y5 y6 y7 y8 y9 : Option Sl), IsDist n ts one r' ∧
      dForL (gNm 5) b__law_far_2 (rgD 0 (n : Int)) (EF R O (some (0, .int n)) (some (0, .tuple (ts.map tieD))) r x5 x6 x7 x8 x9) = some (.nx, EF R O (some (0, .int n)) (some (0, .tuple (ts.map tieD))) r' y5 y6 y7 y8 y9) := by
  let I : Nat → En → Prop := fun k env => ∃ (r : Row) (x5 x6 x7 x8 x9 : Option Sl), env = EF R O (some (0, .int n)) (some (0, .tuple (ts.map tieD))) r x5 x6 x7 x8 x9 ∧ Half n ts one r ∧ Below ts one k r
  let Ex : Fl → En → Prop := fun fl env => fl = .nx ∧ ∃ (r : Row) (x5 x6 x7 x8 x9 : Option Sl), env = EF R O (some (0, .int n)) (some (0, .tuple (ts.map tieD))) r x5 x6 x7 x8 x9 ∧ IsDist n ts one r
  obtain ⟨fl, env', e, hx⟩ := forL (g := gNm 5) (b := b__law_far_2) I Ex (rgD 0 (n : Int)) (EF R O (some (0, .int n)) (some (0, .tuple (ts.map tieD))) r x5 x6 x7 x8 x9) 0 ⟨r, _, _, _, _, _, rfl, hr, hb⟩ (by
    rintro i x env hx ⟨r, x5, x6, x7, x8, x9, rfl, hr, hb⟩
    rw [Nat.zero_add] at hb ⊢
    obtain ⟨rfl, hi⟩ := rgD_get hx
    obtain ⟨y7, y8, y9, e⟩ := far_1 (n := n) h.ok hr.len R O (some (0, .int n)) (some (0, .tuple (ts.map tieD))) (some (0, .int (0 + (i : Nat)))) (some (0, .list (r.map optD))) x7 x8 x9
    refine ⟨EF R O (some (0, .int n)) (some (0, .tuple (ts.map tieD))) r (some (0, .int (0 + (i : Nat)))) x6 x7 x8 x9, rfl, ?_⟩
    have hr' := hr.round h.ok (us := ts) fun t ht => ht
    have s1 : dSet 6 (dFz (dUnO gList (dVar 4))) (EF R O (some (0, .int n)) (some (0, .tuple (ts.map tieD))) r (some (0, .int (0 + (i : Nat)))) x6 x7 x8 x9) = some (.nx, EF R O (some (0, .int n)) (some (0, .tuple (ts.map tieD))) r (some (0, .int (0 + (i : Nat)))) (some (0, .list (r.map optD))) x7 x8 x9) := by simp
    have s2 : dFor (iSeq (dOf (dVar 3))) (gTp 3 (gsCons (gNm 7) (gsCons (gNm 8) (gsCons (gNm 9) gsNil)))) b__law_far_1 (EF R O (some (0, .int n)) (some (0, .tuple (ts.map tieD))) r (some (0, .int (0 + (i : Nat)))) (some (0, .list (r.map optD))) x7 x8 x9) =
        some (.nx, EF R O (some (0, .int n)) (some (0, .tuple (ts.map tieD))) (round ts r) (some (0, .int (0 + (i : Nat)))) (some (0, .list (r.map optD))) y7 y8 y9) := by
      rw [dFor_ap]
      have : iSeq (dOf (dVar 3)) (EF R O (some (0, .int n)) (some (0, .tuple (ts.map tieD))) r (some (0, .int (0 + (i : Nat)))) (some (0, .list (r.map optD))) x7 x8 x9) = some (ts.map tieD, EF R O (some (0, .int n)) (some (0, .tuple (ts.map tieD))) r (some (0, .int (0 + (i : Nat)))) (some (0, .list (r.map optD))) x7 x8 x9) := by simp
      rw [this]
      exact e
    unfold b__law_far_2
    rw [dSeq_go s1, dSeq_go s2]
    by_cases q : round ts r = r
    · refine ⟨.bk, EF R O (some (0, .int n)) (some (0, .tuple (ts.map tieD))) (round ts r) (some (0, .int (0 + (i : Nat)))) (some (0, .list (r.map optD))) y7 y8 y9, by simp [gEq_rows, q], .inr (.inl ⟨rfl, rfl, _, _, _, _, _, _, rfl, ?_⟩)⟩
      rw [q]
      exact hr.fix h.ok q
    · exact ⟨.nx, EF R O (some (0, .int n)) (some (0, .tuple (ts.map tieD))) (round ts r) (some (0, .int (0 + (i : Nat)))) (some (0, .list (r.map optD))) y7 y8 y9, by simp [gEq_rows, q], .inl ⟨.inl rfl, _, _, _, _, _, _, rfl, hr', hb.round h.ok hr.len⟩⟩)
  rcases hx with ⟨rfl, r', y5, y6, y7, y8, y9, rfl, hr', hb'⟩ | ⟨rfl, r', y5, y6, y7, y8, y9, rfl, hd⟩
  · rw [rgD_len] at hb'
    exact ⟨r', y5, y6, y7, y8, y9, hr'.dist h.ok h1 hb' (by omega), e⟩
  · exact ⟨r', y5, y6, y7, y8, y9, hd, e⟩
theorem far_spec {n one : Nat} {ts : List Tie} (h : MapW n ts) (h1 : one < n) : ∃ r : Row, IsDist n ts one r ∧ D__law_far [(0, mapD n ts), (0, .int (one : Nat))] = some ((1, .list (r.map optD)), []) := by
  have hz := sizeLine_big
  have n1 := h.n1
  have ok0 : okR (n : Int) = true := by unfold okR; exact decI (by omega)
  obtain ⟨r', y5, y6, y7, y8, y9, hd, e⟩ := far_2 h h1 (some (0, mapD n ts)) (some (0, .int (one : Nat))) none none none none none (start_half h1) (start_below h1)
  refine ⟨r', hd, ?_⟩
  have lc : dLcL [10] (gNm 10) dtYes (dIf (tst (dOf (dBin gEq (dVar 10) (dVar 1)))) (dOf (dC (.int 0))) (dOf (dC .none))) (rgD 0 (n : Int)) [some (0, mapD n ts), some (0, .int (one : Nat)), some (0, .int n), some (0, .tuple (ts.map tieD)), none, none, none, none, none, none, none] [] =
      some (((List.replicate n (none : Option Int)).set one (some 0)).map optD, [some (0, mapD n ts), some (0, .int (one : Nat)), some (0, .int n), some (0, .tuple (ts.map tieD)), none, none, none, none, none, none, none]) := by
    rw [rgD_nat, lcT (fun o : Nat => .int (o : Nat)) (fun o => if o = one then .int 0 else .none) _ (List.range n) (by rw [List.length_range]; omega)]
    · congr 2
      refine List.ext_getElem (by simp) fun i i1 i2 => ?_
      simp only [List.getElem_map, List.getElem_range, List.getElem_set, List.getElem_replicate]
      by_cases q : i = one
      · simp [q]
      · have q' : ¬ one = i := fun z => q z.symm
        simp [q, q']
    · intro o ho
      refine ⟨_, rfl, by simp, by simp, ?_⟩
      by_cases q : o = one
      · subst q; simp
      · have q' : ¬ (o : Int) = one := by omega
        simp [q, q']
  have body : b__law_far [some (0, mapD n ts), some (0, .int (one : Nat)), none, none, none, none, none, none, none, none, none] = some (.rt (1, .list (r'.map optD)), [some (0, mapD n ts), some (0, .int (one : Nat)), some (0, .int n), some (0, .tuple (ts.map tieD)), none, y5, y6, y7, y8, y9, none]) := by
    unfold b__law_far
    rw [dSeq_go (e := [some (0, mapD n ts), some (0, .int (one : Nat)), some (0, .int n), some (0, .tuple (ts.map tieD)), none, none, none, none, none, none, none]) (by simp [mapD])]
    rw [dSeq_go (e := EF (some (0, mapD n ts)) (some (0, .int (one : Nat))) (some (0, .int n)) (some (0, .tuple (ts.map tieD))) ((List.replicate n none).set one (some 0)) none none none none none) (by simp [ok0, lc, -List.map_set, -List.map_replicate])]
    rw [dSeq_go (e := EF (some (0, mapD n ts)) (some (0, .int (one : Nat))) (some (0, .int n)) (some (0, .tuple (ts.map tieD))) r' y5 y6 y7 y8 y9) (by rw [dFor_ap]; simp [ok0]; exact e)]
    simp
  simp [D__law_far_eq, fnSem_ap, body]
end Dn.W

set_option Elab.async false
set_option linter.all false
set_option maxRecDepth 100000
set_option maxHeartbeats 4000000
namespace Dn.W
open PySem PySem.Spec PyProof.Rows L2 Dn
theorem far_of {n one : Nat} {ts : List Tie} {r : Row} (h : MapW n ts) (h1 : one < n) (d : IsDist n ts one r) : D__law_far [(0, mapD n ts), (0, .int (one : Nat))] = some ((1, .list (r.map optD)), []) := by
  obtain ⟨r', d', e⟩ := far_spec h h1
  rw [d.uniq d']; exact e
theorem Pth.walk {ts : List Tie} {u : Nat} {p : List Tie} {v : Nat} (h : Pth ts u p v) : ∃ k, Walk ts u v (sumT p) k := by
  have := Walk.append (.nil : Walk ts u u 0 0) h
  rw [Int.zero_add] at this
  exact ⟨_, this⟩
theorem dist_back {n : Nat} {ts ts' : List Tie} {one other : Nat} {least : Int} {r rT : Row} (T : Tn ts ts') (d : IsDist n ts one r) (dT : IsDist n ts' other rT) (e : at_ r other = some least) : at_ rT one = some least := by
  obtain ⟨k, wk⟩ := d.wk _ _ e
  obtain ⟨p, hp, _, sp⟩ := wk.pth
  obtain ⟨k2, w2⟩ := pth_back (n := n) T hp
  obtain ⟨y, hy, le1⟩ := dT.le w2
  obtain ⟨k3, w3⟩ := dT.wk _ _ hy
  obtain ⟨q, hq, _, sq⟩ := w3.pth
  obtain ⟨k4, w4⟩ := pth_back (n := n) T.symm hq
  obtain ⟨z, hz, le2⟩ := d.le w4
  rw [e] at hz; cases hz
  rw [hy]
  have : y = least := by omega
  rw [this]
/-- one map, two places, a way, and the map turned about -/
structure Wo (n : Nat) (ts ts' : List Tie) (one other : Nat) (least : Int) (r rT : Row) : Prop where
  m : MapOk n ts
  m' : MapOk n ts'
  T : Tn ts ts'
  h1 : one < n
  h2 : other < n
  ne : one ≠ other
  d : IsDist n ts one r
  dT : IsDist n ts' other rT
  r2 : at_ r other = some least
  rT1 : at_ rT one = some least
  B : D__law_back [(0, mapD n ts)] = some ((0, mapD n ts'), [])
theorem Wo.two {n : Nat} {ts ts' : List Tie} {one other : Nat} {least : Int} {r rT : Row} (w : Wo n ts ts' one other least r rT) : Two n ts ts' one other least r rT := ⟨w.m.ok, w.T, w.h1, w.h2, w.d, w.dT, w.r2, w.rT1⟩
theorem wo_of {n : Nat} {ts : List Tie} {one other : Nat} {least : Int} {r : Row} (m : MapOk n ts) (h1 : one < n) (h2 : other < n) (ne : one ≠ other) (d : IsDist n ts one r) (r2 : at_ r other = some least) : ∃ ts' rT, Wo n ts ts' one other least r rT := by
  obtain ⟨ts', T, m', B⟩ := back_spec m
  obtain ⟨rT, dT, _⟩ := far_spec m'.w h2
  exact ⟨ts', rT, m, m', T, h1, h2, ne, d, dT, r2, dist_back T d dT r2, B⟩
theorem ends_spec {n : Nat} {ts ts' : List Tie} {one other : Nat} {r rT : Row} (least : Int) (m : MapOk n ts) (m' : MapOk n ts') (h1 : one < n) (h2 : other < n) (d : IsDist n ts one r) (dT : IsDist n ts' other rT) (B : D__law_back [(0, mapD n ts)] = some ((0, mapD n ts'), [])) :
    D__law_ends [(0, mapD n ts), (0, .int (one : Nat)), (0, .int (other : Nat)), (0, .int least)] = some ((0, .tuple [htD (rT.map (lowF least)), htD (r.map (highF least))]), []) := by
  have hz := sizeLine_big
  have n1 := m.n1
  have z2 : 2 ≤ sizeLine := by omega
  have f1 := far_of m.w h1 d
  have f2 := far_of m'.w h2 dT
  have l1 : ∀ E : En, E = [some (0, mapD n ts), some (0, .int (one : Nat)), some (0, .int (other : Nat)), some (0, .int least), some (0, .list (r.map optD)), some (0, .list (rT.map optD)), none, none] →
      dLcL [7] (gNm 7) dtYes (dIf (tst (dOf (dBin gIs (dVar 7) (dC .none)))) (dOf (dC (.int 0))) (dFn gMax2 (dCons (dOf (dC (.int 0))) (dCons (dOf (dBin gMinus (dVar 3) (dVar 7))) dNil)))) (rT.map optD) E [] = some ((rT.map (lowF least)).map PyData.int, E) := by
    rintro E rfl
    rw [lcT optD (fun o => .int (lowF least o)) _ rT (by rw [dT.len]; omega), List.map_map]
    · rfl
    · intro o _
      cases o with
      | none => exact ⟨_, rfl, by simp, by simp, by simp [lowF]⟩
      | some x => exact ⟨_, rfl, by simp, by simp, by simp [lowF]⟩
  have l2 : ∀ E : En, E = [some (0, mapD n ts), some (0, .int (one : Nat)), some (0, .int (other : Nat)), some (0, .int least), some (0, .list (r.map optD)), some (0, .list (rT.map optD)), some (0, htD (rT.map (lowF least))), none] →
      dLcL [7] (gNm 7) dtYes (dIf (tst (dOf (dBin gIs (dVar 7) (dC .none)))) (dOf (dVar 3)) (dFn gMin2 (dCons (dOf (dVar 3)) (dCons (dOf (dVar 7)) dNil)))) (r.map optD) E [] = some ((r.map (highF least)).map PyData.int, E) := by
    rintro E rfl
    rw [lcT optD (fun o => .int (highF least o)) _ r (by rw [d.len]; omega), List.map_map]
    · rfl
    · intro o _
      cases o with
      | none => exact ⟨_, rfl, by simp, by simp, by simp [highF]⟩
      | some x => exact ⟨_, rfl, by simp, by simp, by simp [highF]⟩
  have l1' := l1 _ rfl
  have l2' := l2 _ rfl
  simp only [htD] at l1' l2'
  have body : b__law_ends [some (0, mapD n ts), some (0, .int (one : Nat)), some (0, .int (other : Nat)), some (0, .int least), none, none, none, none] = some (.rt (0, .tuple [htD (rT.map (lowF least)), htD (r.map (highF least))]), [some (0, mapD n ts), some (0, .int (one : Nat)), some (0, .int (other : Nat)), some (0, .int least), some (0, .list (r.map optD)), some (0, .list (rT.map optD)), some (0, htD (rT.map (lowF least))), none]) := by
    unfold b__law_ends
    rw [dSeq_go (e := [some (0, mapD n ts), some (0, .int (one : Nat)), some (0, .int (other : Nat)), some (0, .int least), some (0, .list (r.map optD)), some (0, .list (rT.map optD)), none, none]) (by simp [f1, f2, B])]
    rw [dSeq_go (e := [some (0, mapD n ts), some (0, .int (one : Nat)), some (0, .int (other : Nat)), some (0, .int least), some (0, .list (r.map optD)), some (0, .list (rT.map optD)), some (0, htD (rT.map (lowF least))), none]) (by simp [l1', htD, -List.map_map])]
    simp [l2', htD, z2, -List.map_map]
  simp [D__law_ends_eq, fnSem_ap, body]
end Dn.W

set_option Elab.async false
set_option linter.all false
set_option maxRecDepth 100000
set_option maxHeartbeats 4000000
namespace Dn.W
open PySem PySem.Spec PyProof.Rows L2 Dn
section
variable {n : Nat} {ts ts' : List Tie} {one other : Nat} {least : Int} {r rT : Row}
theorem check_map_ok (m : MapOk n ts) : D_check_map [(0, mapD n ts)] = some ((0, .none), []) := by
  have em := is_map_ok m
  simp [D_check_map_eq, fnSem_ap, b_check_map, em]
theorem check_place_ok {i : Nat} (h : i < n) : D_check_place [(0, mapD n ts), (0, .int (i : Nat))] = some ((0, .none), []) := by
  have ei := is_index_int (i := (i : Nat)) (n := (n : Nat)) (by omega) (by omega)
  simp [D_check_place_eq, fnSem_ap, b_check_place, map_0, ei]
theorem check_two_ok (h1 : one < n) (h2 : other < n) (ne : one ≠ other) : D_check_two [(0, mapD n ts), (0, .int (one : Nat)), (0, .int (other : Nat))] = some ((0, .none), []) := by
  have e1 := check_place_ok (ts := ts) h1
  have e2 := check_place_ok (ts := ts) h2
  have e3 : ¬ (one : Int) = other := by omega
  simp [D_check_two_eq, fnSem_ap, b_check_two, e1, e2, e3]
theorem length_of_ok (w : Wo n ts ts' one other least r rT) : D_length_of [(0, mapD n ts), (0, .int (one : Nat)), (0, .int (other : Nat))] = some ((0, .int least), []) := by
  have e1 := lengths_from_spec w.m w.h1 w.d
  have a := atI_opt (r := r) (v := other) (by rw [w.d.len]; exact w.h2)
  rw [w.r2] at a
  simp [D_length_of_eq, fnSem_ap, b_length_of, map_0, map_1', e1, a]
theorem check_way_ok (w : Wo n ts ts' one other least r rT) : D_check_way [(0, mapD n ts), (0, .int (one : Nat)), (0, .int (other : Nat))] = some ((0, .none), []) := by
  have e1 := check_map_ok w.m
  have e2 := check_two_ok (ts := ts) w.h1 w.h2 w.ne
  have e3 := length_of_ok w
  simp [D_check_way_eq, fnSem_ap, b_check_way, e1, e2, e3]
theorem lengths_to_ok (w : Wo n ts ts' one other least r rT) : D_lengths_to [(0, mapD n ts), (0, .int (other : Nat))] = some ((0, .list (rT.map optD)), []) := by
  have hz := sizeLine_big
  have ml := w.m.len
  have mw : MapW n (ts.map turnT) := ⟨w.m.n0, w.m.n1, by simpa using w.m.len, fun t ht => by
    obtain ⟨s, hs, rfl⟩ := List.mem_map.mp ht
    exact (w.m.ok s hs).turn⟩
  have d2 : IsDist n (ts.map turnT) other rT := w.dT.perm fun t => w.T.p.mem_iff.symm
  have e1 := lengths_from_specL mw w.h2 d2
  have lc : dLcL [4, 5, 6] (gTp 3 (gsCons (gNm 4) (gsCons (gNm 5) (gsCons (gNm 6) gsNil)))) dtYes (dOf (dTupP (pCons (dVar 5) (pCons (dVar 4) (pCons (dVar 6) pNil))))) (ts.map tieD) [some (0, mapD n ts), some (0, .int (other : Nat)), some (0, .int n), some (0, .tuple (ts.map tieD)), none, none, none] [] = some ((ts.map turnT).map tieD, [some (0, mapD n ts), some (0, .int (other : Nat)), some (0, .int n), some (0, .tuple (ts.map tieD)), none, none, none]) := by
    rw [lcT tieD (fun t => tieD (turnT t)) _ ts (by omega)]
    · rw [List.map_map]; rfl
    · intro t ht
      have z3 : 3 ≤ sizeLine := by omega
      exact ⟨[some (0, mapD n ts), some (0, .int (other : Nat)), some (0, .int n), some (0, .tuple (ts.map tieD)), some (0, .int (t.a : Nat)), some (0, .int (t.b : Nat)), some (0, .int t.l)], by simp [tieD], by simp, by simp, by simp [tieD, turnT, z3]⟩
  have body : b_lengths_to [some (0, mapD n ts), some (0, .int (other : Nat)), none, none, none, none, none] = some (.rt (0, .list (rT.map optD)), [some (0, mapD n ts), some (0, .int (other : Nat)), some (0, .int n), some (0, .tuple (ts.map tieD)), none, none, none]) := by
    unfold b_lengths_to
    rw [dSeq_go (e := [some (0, mapD n ts), some (0, .int (other : Nat)), some (0, .int n), some (0, .tuple (ts.map tieD)), none, none, none]) (by simp [mapD])]
    simp [lc, e1, -List.map_map]
  simp [D_lengths_to_eq, fnSem_ap, body]
theorem least_proof_ok (w : Wo n ts ts' one other least r rT) : D_least_proof [(0, mapD n ts), (0, .int (one : Nat)), (0, .int (other : Nat))] = some ((0, htD (rT.map (lowF least))), []) := by
  have hz := sizeLine_big
  have n1 := w.m.n1
  have e1 := check_way_ok w
  have e2 := length_of_ok w
  have e3 := lengths_to_ok w
  have l1 : ∀ E : En, E = [some (0, mapD n ts), some (0, .int (one : Nat)), some (0, .int (other : Nat)), some (0, .int least), none] →
      dLcL [4] (gNm 4) dtYes (dIf (tst (dOf (dBin gIs (dVar 4) (dC .none)))) (dOf (dC (.int 0))) (dFn gMax2 (dCons (dOf (dC (.int 0))) (dCons (dOf (dBin gMinus (dVar 3) (dVar 4))) dNil)))) (rT.map optD) E [] = some ((rT.map (lowF least)).map PyData.int, E) := by
    rintro E rfl
    rw [lcT optD (fun o => .int (lowF least o)) _ rT (by rw [w.dT.len]; omega), List.map_map]
    · rfl
    · intro o _
      cases o with
      | none => exact ⟨_, rfl, by simp, by simp, by simp [lowF]⟩
      | some x => exact ⟨_, rfl, by simp, by simp, by simp [lowF]⟩
  have l1' := l1 _ rfl
  simp [D_least_proof_eq, fnSem_ap, b_least_proof, e1, e2, e3, l1', htD, -List.map_map]
theorem greatest_proof_ok (w : Wo n ts ts' one other least r rT) : D_greatest_proof [(0, mapD n ts), (0, .int (one : Nat)), (0, .int (other : Nat))] = some ((0, htD (r.map (highF least))), []) := by
  have hz := sizeLine_big
  have n1 := w.m.n1
  have e1 := check_way_ok w
  have e2 := length_of_ok w
  have e3 := lengths_from_spec w.m w.h1 w.d
  have l1 : ∀ E : En, E = [some (0, mapD n ts), some (0, .int (one : Nat)), some (0, .int (other : Nat)), some (0, .int least), some (0, .list (r.map optD)), none] →
      dLcL [5] (gNm 5) dtYes (dIf (tst (dOf (dBin gIs (dVar 5) (dC .none)))) (dOf (dVar 3)) (dFn gMin2 (dCons (dOf (dVar 3)) (dCons (dOf (dVar 5)) dNil)))) (r.map optD) E [] = some ((r.map (highF least)).map PyData.int, E) := by
    rintro E rfl
    rw [lcT optD (fun o => .int (highF least o)) _ r (by rw [w.d.len]; omega), List.map_map]
    · rfl
    · intro o _
      cases o with
      | none => exact ⟨_, rfl, by simp, by simp, by simp [highF]⟩
      | some x => exact ⟨_, rfl, by simp, by simp, by simp [highF]⟩
  have l1' := l1 _ rfl
  simp [D_greatest_proof_eq, fnSem_ap, b_greatest_proof, e1, e2, e3, map_0, map_1', l1', htD, -List.map_map]
theorem told_ok (w : Wo n ts ts' one other least r rT) (named : Bool) : D__law_told [(0, mapD n ts), (0, .int (one : Nat)), (0, .int (other : Nat)), (0, .bool named)] = some ((1, .list [htD (rT.map (lowF least)), htD (r.map (highF least))]), []) := by
  have hz := sizeLine_big
  have z2 : 2 ≤ sizeLine := by omega
  have e1 := least_proof_ok w
  have e2 := greatest_proof_ok w
  cases named <;> simp [D__law_told_eq, fnSem_ap, b__law_told, e1, e2, z2, permL]
/-! is_proof -/
theorem is_count_spec (i : Int) : D_is_count [(0, .int i)] = some ((0, .bool (decide (0 ≤ i))), []) := by
  by_cases h : 0 ≤ i
  · rw [is_count_int h, decide_eq_true h]
  · simp [D_is_count_eq, fnSem_ap, b_is_count, is_integer_int, h]
theorem are_counts_spec {x : List Int} (hl : x.length = n) (n1 : n ≤ 20) : D_are_counts [(0, htD x), (0, .int n)] = some ((0, .bool (x.all fun v => decide (0 ≤ v))), []) := by
  have hz := sizeLine_big
  have e1 := is_tuple_tup (x.map PyData.int) n
  have lc : ∀ E : En, E = [some (0, htD x), some (0, .int n), none] → dLcL [2] (gNm 2) dtYes (dFz (dCall D_is_count [false] (rVal (dOf (dVar 2)) rNil))) (x.map PyData.int) E [] = some ((x.map fun v => decide (0 ≤ v)).map PyData.bool, E) := by
    rintro E rfl
    rw [lcT PyData.int (fun v => .bool (decide (0 ≤ v))) _ x (by omega), List.map_map]
    · rfl
    · intro v _
      exact ⟨_, rfl, by simp, by simp, by simp [is_count_spec]⟩
  have lc' := lc _ rfl
  have ga := gAll_bls (x.map fun v => decide (0 ≤ v))
  have hl' : (x.length : Int) = n := by omega
  simp only [htD] at lc' ⊢
  simp [hl'] at e1
  simp [D_are_counts_eq, fnSem_ap, b_are_counts, e1, lc', ga, htD, -List.map_map]
end
end Dn.W

set_option Elab.async false
set_option linter.all false
set_option maxRecDepth 100000
set_option maxHeartbeats 4000000
namespace Dn.W
open PySem PySem.Spec PyProof.Rows L2 Dn
section
variable {n : Nat} {ts ts' : List Tie} {one other : Nat} {least : Int} {r rT : Row}
theorem eq_opt' (y : Int) (o : Option Int) : gEq (optD o) (.int y) = some (.bool (decide (o = some y))) := by
  cases o with
  | none => simp
  | some x =>
    rw [optD_some, gEq_int]
    by_cases q : x = y
    · subst q; simp
    · simp [q]
theorem foldl_max_le : ∀ (ns : List Int) (a l : Int), ns.foldl max a ≤ l ↔ a ≤ l ∧ ∀ v ∈ ns, v ≤ l
  | [], a, l => by simp
  | b :: ns, a, l => by
    rw [List.foldl_cons, foldl_max_le ns]
    simp only [List.mem_cons, forall_eq_or_imp]
    constructor
    · rintro ⟨h1, h2⟩; exact ⟨by omega, by omega, h2⟩
    · rintro ⟨h1, h2, h3⟩; exact ⟨by omega, h3⟩
theorem is_proof_ok (w : Wo n ts ts' one other least r rT) {x : List Int} (hl : x.length = n) : D_is_proof [(0, mapD n ts), (0, .int (one : Nat)), (0, .int (other : Nat)), (0, htD x)] = some ((0, .bool (pfB ts one other least x)), []) := by
  have e1 := check_way_ok w
  have e2 := length_of_ok w
  have e3 := are_counts_spec hl w.m.n1
  have e4 := proved_by_spec w.m hl w.h1 w.h2
  rw [pvD_eq] at e4
  have n0 := w.m.n0
  obtain ⟨a, as, hx⟩ : ∃ a as, x = a :: as := by
    cases x with
    | nil => simp at hl; omega
    | cons a as => exact ⟨a, as, rfl⟩
  have e5 : gMaxS (htD x) = some (.int (as.foldl max a)) := by rw [hx]; exact gMaxS_ints a as
  have e6 := ht_int (hs := x) (k := one) (by rw [hl]; exact w.h1)
  have mx := foldl_max_le as a least
  have hall : (x.all fun v => decide (0 ≤ v ∧ v ≤ least)) = ((x.all fun v => decide (0 ≤ v)) && decide (as.foldl max a ≤ least)) := by
    rw [Bool.eq_iff_iff]
    simp only [Bool.and_eq_true, List.all_eq_true, decide_eq_true_eq, mx, hx]
    constructor
    · intro h
      exact ⟨fun v hv => (h v hv).1, (h a List.mem_cons_self).2, fun v hv => (h v (List.mem_cons_of_mem _ hv)).2⟩
    · rintro ⟨h1, h2, h3⟩ v hv
      refine ⟨h1 v hv, ?_⟩
      rcases List.mem_cons.mp hv with rfl | hv
      · exact h2
      · exact h3 v hv
  have pf : pfB ts one other least x = (decide (x.getD one 0 = 0) && (decide (x.getD other 0 = least) && (((x.all fun v => decide (0 ≤ v)) && decide (as.foldl max a ≤ least)) && valid x ts))) := by unfold pfB; rw [hall]
  have po : ∀ y, decide (pvO x ts one other = some y) = (valid x ts && decide (x.getD other 0 - x.getD one 0 = y)) := by
    intro y
    unfold pvO
    cases valid x ts <;> simp
  rw [pf]
  generalize htD x = X at *
  generalize valid x ts = vl at *
  generalize x.getD one 0 = xo at *
  generalize x.getD other 0 = xt at *
  generalize as.foldl max a = M at *
  cases hc : (x.all fun v => decide (0 ≤ v)) with
  | false =>
    rw [hc] at e3
    simp [D_is_proof_eq, fnSem_ap, b_is_proof, e1, e2, map_0, e3]
  | true =>
    rw [hc] at e3
    by_cases q1 : least < M
    · have q1' : ¬ M ≤ least := by omega
      simp [D_is_proof_eq, fnSem_ap, b_is_proof, e1, e2, map_0, e3, e5, q1, q1']
    · have q1' : M ≤ least := by omega
      by_cases q2 : xo = 0
      · subst q2
        have q := eq_opt' least (pvO x ts one other)
        rw [po] at q
        simp [D_is_proof_eq, fnSem_ap, b_is_proof, e1, e2, map_0, e3, e5, e6, q1, q1', e4, q, Bool.and_comm]
      · simp [D_is_proof_eq, fnSem_ap, b_is_proof, e1, e2, map_0, e3, e5, e6, q1, q1', q2]
theorem taken_ok (w : Wo n ts ts' one other least r rT) {x : List Int} (hl : x.length = n) (named : Bool) : D__law_taken [(0, mapD n ts), (0, .int (one : Nat)), (0, .int (other : Nat)), (0, htD x), (0, .bool named)] = some ((0, .bool (pfB ts one other least x)), []) := by
  have e1 := is_proof_ok w hl
  cases named <;> simp [D__law_taken_eq, fnSem_ap, b__law_taken, e1, permL]
theorem gEq_emptyL {α : Type} (l : List α) (f : α → PyData) (hs : SeqAt.shaped (.list (l.map f)) = true) : gEq (.list (l.map f)) (.list []) = some (.bool l.isEmpty) := by
  unfold gEq
  rw [if_pos ⟨hs, by rfl⟩]
  cases l <;> rfl
theorem sh_ones {α : Type} (l : List α) (k : Int) : SeqAt.shaped (.list (l.map fun _ => PyData.int k)) = true := by
  have := sh_row (l.map fun _ => some k)
  rwa [List.map_map] at this
theorem sh_ints (l : List Int) : SeqAt.shaped (.list (l.map PyData.int)) = true := by
  have := sh_row (l.map some)
  rwa [List.map_map] at this
theorem law_is_ok (m : MapOk n ts) (h1 : one < n) (h2 : other < n) {x : List Int} (hl : x.length = n) : D__law_is [(0, mapD n ts), (0, .int (one : Nat)), (0, .int (other : Nat)), (0, .int least), (0, htD x)] = some ((0, .bool (pfB ts one other least x)), []) := by
  have hz := sizeLine_big
  have n1 := m.n1
  have ml := m.len
  have z0 : 0 ≤ sizeLine := by omega
  have a1 := atI_ints (hs := x) (i := one) (by omega)
  have a2 := atI_ints (hs := x) (i := other) (by omega)
  have lcx : ∀ E : En, E = [some (0, mapD n ts), some (0, .int (one : Nat)), some (0, .int (other : Nat)), some (0, .int least), some (0, htD x), none, none, none, none] →
      dLcL [5] (gNm 5) (dtOr (tst (dOf (dBin gLt' (dVar 5) (dC (.int 0))))) (tst (dOf (dBin gGt (dVar 5) (dVar 3))))) (dOf (dVar 5)) (x.map PyData.int) E [] = some ((x.filter fun v => !decide (0 ≤ v ∧ v ≤ least)).map PyData.int, E) := by
    rintro E rfl
    rw [lcF PyData.int PyData.int (fun v => !decide (0 ≤ v ∧ v ≤ least)) _ x (by omega)]
    intro v _
    refine ⟨_, rfl, ?_, by simp, by simp, fun _ => by simp⟩
    by_cases q1 : v < 0
    · have : ¬ (0 ≤ v ∧ v ≤ least) := by omega
      simp [q1, this]; try omega
    · by_cases q2 : least < v
      · simp [q1, q2]
      · have : 0 ≤ v ∧ v ≤ least := by omega
        simp [q1, q2, this]; try omega
  have lct : ∀ E : En, E = [some (0, mapD n ts), some (0, .int (one : Nat)), some (0, .int (other : Nat)), some (0, .int least), some (0, htD x), none, none, none, none] →
      dLcL [6, 7, 8] (gTp 3 (gsCons (gNm 6) (gsCons (gNm 7) (gsCons (gNm 8) gsNil)))) (tst (dOf (dBin gGt (dBin gIx (dVar 4) (dVar 7)) (dBin gAdd (dBin gIx (dVar 4) (dVar 6)) (dVar 8))))) (dOf (dC (.int 1))) (ts.map tieD) E [] = some ((ts.filter fun t => !okT x t).map fun _ => PyData.int 1, E) := by
    rintro E rfl
    rw [lcF tieD (fun _ => PyData.int 1) (fun t => !okT x t) _ ts (by omega)]
    intro t ht
    have o := m.ok t ht
    have b1 := ht_int (hs := x) (k := t.a) (by rw [hl]; exact o.a)
    have b2 := ht_int (hs := x) (k := t.b) (by rw [hl]; exact o.b)
    refine ⟨[some (0, mapD n ts), some (0, .int (one : Nat)), some (0, .int (other : Nat)), some (0, .int least), some (0, htD x), none, some (0, .int (t.a : Nat)), some (0, .int (t.b : Nat)), some (0, .int t.l)], by simp [tieD], ?_, by simp, by simp, fun _ => by simp⟩
    simp [b1, b2, okT]
  have lcx' := lcx _ rfl
  have lct' := lct _ rfl
  have g1 : gNe (.list ((x.filter fun v => !decide (0 ≤ v ∧ v ≤ least)).map PyData.int)) (.list []) = some (.bool (!(x.all fun v => decide (0 ≤ v ∧ v ≤ least)))) := by
    unfold gNe
    rw [if_pos ⟨sh_ints _, by rfl⟩]
    have : (x.all fun v => decide (0 ≤ v ∧ v ≤ least)) = (x.filter fun v => !decide (0 ≤ v ∧ v ≤ least)).isEmpty := by
      rw [Bool.eq_iff_iff, List.isEmpty_iff, List.filter_eq_nil_iff, List.all_eq_true]
      simp
    rw [this]
    cases (x.filter fun v => !decide (0 ≤ v ∧ v ≤ least)) <;> rfl
  have g2 : gEq (.list ((ts.filter fun t => !okT x t).map fun _ => PyData.int 1)) (.list []) = some (.bool (valid x ts)) := by
    rw [gEq_emptyL _ _ (sh_ones _ 1)]
    have : valid x ts = (ts.filter fun t => !okT x t).isEmpty := by
      rw [Bool.eq_iff_iff, List.isEmpty_iff, List.filter_eq_nil_iff]
      unfold valid
      rw [List.all_eq_true]
      simp
    rw [this]
  have pf : pfB ts one other least x = (decide (x.getD one 0 = 0) && (decide (x.getD other 0 = least) && ((x.all fun v => decide (0 ≤ v ∧ v ≤ least)) && valid x ts))) := rfl
  rw [pf]
  simp only [htD] at *
  generalize (ts.filter fun t => !okT x t).map (fun _ => PyData.int 1) = L2 at *
  generalize (x.filter fun v => !decide (0 ≤ v ∧ v ≤ least)).map PyData.int = L1 at *
  generalize (x.all fun v => decide (0 ≤ v ∧ v ≤ least)) = al at *
  generalize valid x ts = vl at *
  generalize x.getD one 0 = xo at *
  generalize x.getD other 0 = xt at *
  by_cases q1 : xo = 0
  · by_cases q2 : xt = least
    · cases al
      · simp [D__law_is_eq, fnSem_ap, b__law_is, a1, a2, q1, q2, lcx', g1, z0]
      · simp [D__law_is_eq, fnSem_ap, b__law_is, a1, a2, q1, q2, lcx', g1, z0, map_1', lct', g2]
    · simp [D__law_is_eq, fnSem_ap, b__law_is, a1, a2, q1, q2]
  · simp [D__law_is_eq, fnSem_ap, b__law_is, a1, q1]
end
end Dn.W

set_option Elab.async false
set_option linter.all false
set_option maxRecDepth 100000
set_option maxHeartbeats 4000000
namespace Dn.W
open PySem PySem.Spec PyProof.Rows L2 Dn
theorem pick_spec {m : Int} {d : PyData} {ds : List PyData} (hb : Box m d) (hm : m < 10 ^ 11) (h0 : 0 < ds.length) (h1 : ds.length < 2 ^ 62) :
    ∃ (v : Nat) (x : PyData) (d' : PyData), ds[v]? = some x ∧ Box (m + 1) d' ∧ D__law_pick [(1, d), (0, .list ds)] = some ((0, x), [(1, d')]) := by
  obtain ⟨v, d', v0, v1, hb', e⟩ := take_spec (many := (ds.length : Nat)) hb hm (by omega) (by omega)
  have hv : v.toNat < ds.length := by omega
  have a : L2.atI ds v = some ds[v.toNat] := by
    have q : L2.atI ds ((v.toNat : Nat) : Int) = some ds[v.toNat] := by rw [atI_nat, List.getElem?_eq_getElem hv]
    rwa [Int.toNat_of_nonneg v0] at q
  exact ⟨v.toNat, ds[v.toNat], d', List.getElem?_eq_getElem hv, hb', by simp [D__law_pick_eq, fnSem_ap, b__law_pick, e, a]⟩
theorem pick_ints {m : Int} {d : PyData} (xs : List Int) (hb : Box m d) (hm : m < 10 ^ 11) (h0 : 0 < xs.length) (h1 : xs.length < 2 ^ 62) :
    ∃ (x : Int) (d' : PyData), x ∈ xs ∧ Box (m + 1) d' ∧ D__law_pick [(1, d), (0, .list (xs.map PyData.int))] = some ((0, .int x), [(1, d')]) := by
  obtain ⟨v, x, d', hv, hb', e⟩ := pick_spec (ds := xs.map PyData.int) hb hm (by simpa using h0) (by simpa using h1)
  rw [List.getElem?_map] at hv
  cases hx : xs[v]? with
  | none => rw [hx] at hv; cases hv
  | some y =>
    rw [hx] at hv; cases hv
    exact ⟨y, d', List.mem_of_getElem? hx, hb', e⟩
structure Tsm (n : Nat) (ts : List Tie) : Prop where
  ok : ∀ t ∈ ts, TieOk n t
  s : ∀ t ∈ ts, t.l ≤ 10
theorem Tsm.add {n : Nat} {ts : List Tie} (h : Tsm n ts) {t : Tie} (o : TieOk n t) (l : t.l ≤ 10) : Tsm n (ts ++ [t]) := by
  constructor
  · intro s hs
    rcases List.mem_append.mp hs with q | q
    · exact h.ok s q
    · rw [List.mem_singleton.mp q]; exact o
  · intro s hs
    rcases List.mem_append.mp hs with q | q
    · exact h.s s q
    · rw [List.mem_singleton.mp q]; exact l
abbrev ED (d : PyData) (A B : Option Sl) (n : Nat) (ts : List Tie) (way : Int) (x6 x7 x8 x9 : Option Sl) : En := [some (1, d), A, B, some (0, .int n), some (1, .list (ts.map tieD)), some (0, .int way), x6, x7, x8, x9]
theorem dm_ab {m : Int} {d : PyData} {A B : Option Sl} {n : Nat} {ts : List Tie} {way : Int} {x6 x7 x8 x9 : Option Sl} (hb : Box m d) (hm : m + 100 < 10 ^ 11) (n0 : 2 ≤ n) (n1 : n ≤ 20) :
    ∃ (a b : Nat) (d' : PyData), a < n ∧ b < n ∧ a ≠ b ∧ Box (m + 2) d' ∧
      (dSeq (dSet 7 (dFz (dCall D__law_take [true, false] (rRef 0 (rVal (dOf (dVar 3)) rNil)))))
        (dSet 8 (dBinEP gMod (dUnE gInt (dBinE gAdd (dOf (dBin gAdd (dVar 7) (dC (.int 1)))) (dFz (dCall D__law_take [true, false] (rRef 0 (rVal (dOf (dBin gMinus (dVar 3) (dC (.int 1)))) rNil)))))) (dVar 3)))) (ED d A B n ts way x6 x7 x8 x9)
       = some (.nx, ED d' A B n ts way x6 (some (0, .int (a : Nat))) (some (0, .int (b : Nat))) x9) := by
  obtain ⟨v1, d1, v10, v11, hb1, e1⟩ := take_spec (many := (n : Nat)) hb (by omega) (by omega) (by omega)
  obtain ⟨v2, d2, v20, v21, hb2, e2⟩ := take_spec (many := (n : Nat) - 1) hb1 (by omega) (by omega) (by omega)
  have md : gMod (.int (v1 + 1 + v2)) (.int n) = some (.int ((v1 + 1 + v2) % n)) := gMod_int (by omega)
  have w0 := Int.emod_nonneg (v1 + 1 + v2) (show (n : Int) ≠ 0 by omega)
  have w1 := Int.emod_lt_of_pos (v1 + 1 + v2) (show (0 : Int) < n by omega)
  have ne : (v1 + 1 + v2) % n ≠ v1 := by
    by_cases q : v1 + 1 + v2 < n
    · rw [Int.emod_eq_of_lt (by omega) q]; omega
    · have : (v1 + 1 + v2) % n = v1 + 1 + v2 - n := by
        rw [← Int.sub_emod_right, Int.emod_eq_of_lt (by omega) (by omega)]
      rw [this]; omega
  have ca : ((v1.toNat : Nat) : Int) = v1 := by omega
  have cb : ((((v1 + 1 + v2) % n).toNat : Nat) : Int) = (v1 + 1 + v2) % n := by omega
  refine ⟨v1.toNat, ((v1 + 1 + v2) % n).toNat, d2, by omega, by omega, by omega, hb2.up (by omega), ?_⟩
  rw [ca, cb]
  simp [e1, e2, md]

theorem dm_way {m : Int} {d : PyData} {A B : Option Sl} {n a b : Nat} {ts : List Tie} {way : Int} {x6 x9 : Option Sl} (hb : Box m d) (hm : m + 100 < 10 ^ 11) (ha : a < n) (hbn : b < n) (ne : a ≠ b) :
    ∃ (a' b' : Nat) (d' : PyData), a' < n ∧ b' < n ∧ a' ≠ b' ∧ Box (m + 1) d' ∧
      (dIfS (dtAnd (tst (dOf (dBin gLt' (dVar 5) (dC (.int 3))))) (dtAnd (tst (dOf (dBin gLt' (dVar 8) (dVar 7)))) (tst (dBinEP gGt (dFz (dCall D__law_take [true, false] (rRef 0 (rVal (dOf (dC (.int 4))) rNil)))) (dC (.int 0))))))
  (dPar2 7 8 (xCons (dUp (dOf (dVar 8))) (xCons (dUp (dOf (dVar 7))) xNil)))
  (dNext)) (ED d A B n ts way x6 (some (0, .int (a : Nat))) (some (0, .int (b : Nat))) x9)
       = some (.nx, ED d' A B n ts way x6 (some (0, .int (a' : Nat))) (some (0, .int (b' : Nat))) x9) := by
  by_cases q1 : way < 3
  · by_cases q2 : (b : Int) < a
    · obtain ⟨v, d1, v0, v1, hb1, e1⟩ := take_spec (many := 4) hb (by omega) (by omega) (by omega)
      by_cases q3 : 0 < v
      · exact ⟨b, a, d1, hbn, ha, ne.symm, hb1, by simp [q1, q2, e1, q3]⟩
      · exact ⟨a, b, d1, ha, hbn, ne, hb1, by simp [q1, q2, e1, q3]⟩
    · exact ⟨a, b, d, ha, hbn, ne, hb.up (by omega), by simp [q1, q2]⟩
  · exact ⟨a, b, d, ha, hbn, ne, hb.up (by omega), by simp [q1]⟩
theorem dm_len {m : Int} {d : PyData} {A B : Option Sl} {n : Nat} {ts : List Tie} {way : Int} {x6 x7 x8 x9 : Option Sl} (hb : Box m d) (hm : m + 100 < 10 ^ 11) :
    ∃ (l : Int) (d' : PyData), 0 ≤ l ∧ l ≤ 6 ∧ Box (m + 2) d' ∧
      dSet 9 (dIf (tst (dOf (dBin gNe (dVar 5) (dC (.int 1))))) (dFz (dCall D__law_pick [true, false] (rRef 0 (rVal (dLst (dCons (dOf (dC (.int 0))) (dCons (dOf (dC (.int 1))) (dCons (dOf (dC (.int 1))) (dCons (dOf (dC (.int 2))) (dCons (dOf (dC (.int 3))) (dCons (dBinE gAdd (dOf (dC (.int 1))) (dFz (dCall D__law_take [true, false] (rRef 0 (rVal (dOf (dC (.int 6))) rNil))))) dNil))))))) rNil)))) (dOf (dC (.int 1)))) (ED d A B n ts way x6 x7 x8 x9)
       = some (.nx, ED d' A B n ts way x6 x7 x8 (some (0, .int l))) := by
  have hz := sizeLine_big
  have z6 : 6 ≤ sizeLine := by omega
  by_cases q1 : way = 1
  · exact ⟨1, d, by omega, by omega, hb.up (by omega), by simp [q1]⟩
  · obtain ⟨v, d1, v0, v1, hb1, e1⟩ := take_spec (many := 6) hb (by omega) (by omega) (by omega)
    obtain ⟨x, d2, hx, hb2, e2⟩ := pick_ints [0, 1, 1, 2, 3, 1 + v] hb1 (by omega) (by simp) (by simp)
    simp only [List.map_cons, List.map_nil] at e2
    refine ⟨x, d2, ?_, ?_, hb2.up (by omega), by simp [q1, e1, e2, z6]⟩
    · simp at hx; omega
    · simp at hx; omega
theorem dm_two {m : Int} {d : PyData} {A B : Option Sl} {n a b : Nat} {ts : List Tie} {way l : Int} {x6 : Option Sl} (hb : Box m d) (hm : m + 100 < 10 ^ 11) (T : Tsm n ts) (hl : ts.length < 1000) (ha : a < n) (hbn : b < n) (ne : a ≠ b) (l0 : 0 ≤ l) (l1 : l ≤ 6) :
    ∃ (ts' : List Tie) (d' : PyData), Tsm n ts' ∧ ts'.length ≤ ts.length + 1 ∧ Box (m + 2) d' ∧
      dIfS (tst (dBinEP gEq (dFz (dCall D__law_take [true, false] (rRef 0 (rVal (dOf (dC (.int 4))) rNil)))) (dC (.int 0))))
  (dExpr (dMeth 4 mAppend (dCons (dTup (dCons (dOf (dVar 7)) (dCons (dOf (dVar 8)) (dCons (dBinE gAdd (dOf (dVar 9)) (dFz (dCall D__law_pick [true, false] (rRef 0 (rVal (dOf (dLstP (pCons (dC (.int 0)) (pCons (dC (.int 0)) (pCons (dC (.int 1)) pNil))))) rNil))))) dNil)))) dNil)))
  (dNext) (ED d A B n ts way x6 (some (0, .int (a : Nat))) (some (0, .int (b : Nat))) (some (0, .int l)))
       = some (.nx, ED d' A B n ts' way x6 (some (0, .int (a : Nat))) (some (0, .int (b : Nat))) (some (0, .int l))) := by
  have hz := sizeLine_big
  have z3 : 3 ≤ sizeLine := by omega
  have zl : ts.length < sizeLine := by omega
  obtain ⟨v, d1, v0, v1, hb1, e1⟩ := take_spec (many := 4) hb (by omega) (by omega) (by omega)
  by_cases q : v = 0
  · obtain ⟨x, d2, hx, hb2, e2⟩ := pick_ints [0, 0, 1] hb1 (by omega) (by simp) (by simp)
    simp only [List.map_cons, List.map_nil] at e2
    have hx' : 0 ≤ x ∧ x ≤ 1 := by simp at hx; omega
    exact ⟨ts ++ [⟨a, b, l + x⟩], d2, T.add ⟨ha, hbn, ne, show 0 ≤ l + x by omega⟩ (show l + x ≤ 10 by omega), by simp, hb2.up (by omega), by simp [e1, q, e2, z3, zl, tieD]⟩
  · exact ⟨ts, d1, T, by omega, hb1.up (by omega), by simp [e1, q]⟩
theorem dm_back {m : Int} {d : PyData} {A B : Option Sl} {n a b : Nat} {ts : List Tie} {way l : Int} {x6 : Option Sl} (hb : Box m d) (hm : m + 100 < 10 ^ 11) (T : Tsm n ts) (hl : ts.length < 1000) (ha : a < n) (hbn : b < n) (ne : a ≠ b) (l0 : 0 ≤ l) (l1 : l ≤ 6) :
    ∃ (ts' : List Tie) (d' : PyData), Tsm n ts' ∧ ts'.length ≤ ts.length + 1 ∧ Box (m + 2) d' ∧
      dIfS (tst (dBinEP gEq (dFz (dCall D__law_take [true, false] (rRef 0 (rVal (dOf (dC (.int 7))) rNil)))) (dC (.int 0))))
  (dExpr (dMeth 4 mAppend (dCons (dTup (dCons (dOf (dVar 8)) (dCons (dOf (dVar 7)) (dCons (dFz (dCall D__law_pick [true, false] (rRef 0 (rVal (dOf (dLstP (pCons (dC (.int 0)) (pCons (dVar 9) pNil)))) rNil)))) dNil)))) dNil)))
  (dNext) (ED d A B n ts way x6 (some (0, .int (a : Nat))) (some (0, .int (b : Nat))) (some (0, .int l)))
       = some (.nx, ED d' A B n ts' way x6 (some (0, .int (a : Nat))) (some (0, .int (b : Nat))) (some (0, .int l))) := by
  have hz := sizeLine_big
  have z2 : 2 ≤ sizeLine := by omega
  have z3 : 3 ≤ sizeLine := by omega
  have zl : ts.length < sizeLine := by omega
  obtain ⟨v, d1, v0, v1, hb1, e1⟩ := take_spec (many := 7) hb (by omega) (by omega) (by omega)
  by_cases q : v = 0
  · obtain ⟨x, d2, hx, hb2, e2⟩ := pick_ints [0, l] hb1 (by omega) (by simp) (by simp)
    simp only [List.map_cons, List.map_nil] at e2
    have hx' : 0 ≤ x ∧ x ≤ 6 := by simp at hx; omega
    exact ⟨ts ++ [⟨b, a, x⟩], d2, T.add ⟨hbn, ha, ne.symm, show 0 ≤ x by omega⟩ (show x ≤ 10 by omega), by simp, hb2.up (by omega), by simp [e1, q, e2, z2, z3, zl, tieD]⟩
  · exact ⟨ts, d1, T, by omega, hb1.up (by omega), by simp [e1, q]⟩
theorem dm_1 {m : Int} {d : PyData} {A B : Option Sl} {n : Nat} {ts : List Tie} {way : Int} {x6 x7 x8 x9 : Option Sl} (hb : Box m d) (hm : m + 1000 < 10 ^ 11) (n0 : 2 ≤ n) (n1 : n ≤ 20) (T : Tsm n ts) (hl : ts.length < 500) :
    ∃ (ts' : List Tie) (d' : PyData) (y7 y8 y9 : Option Sl), Tsm n ts' ∧ ts'.length ≤ ts.length + 3 ∧ Box (m + 9) d' ∧ b__law_drawn_map_1 (ED d A B n ts way x6 x7 x8 x9) = some (.nx, ED d' A B n ts' way x6 y7 y8 y9) := by
  have hz := sizeLine_big
  have z3 : 3 ≤ sizeLine := by omega
  have zl : ts.length < sizeLine := by omega
  obtain ⟨a, b, d1, ha, hb_, ne, hb1, e1⟩ := dm_ab (A := A) (B := B) (ts := ts) (way := way) (x6 := x6) (x7 := x7) (x8 := x8) (x9 := x9) hb (by omega) n0 n1
  obtain ⟨a', b', d2, ha', hb', ne', hb2, e2⟩ := dm_way (A := A) (B := B) (ts := ts) (way := way) (x6 := x6) (x9 := x9) hb1 (by omega) ha hb_ ne
  obtain ⟨l, d3, l0, l1, hb3, e3⟩ := dm_len (A := A) (B := B) (n := n) (ts := ts) (way := way) (x6 := x6) (x7 := some (0, .int (a' : Nat))) (x8 := some (0, .int (b' : Nat))) (x9 := x9) hb2 (by omega)
  have T1 := T.add (t := ⟨a', b', l⟩) ⟨ha', hb', ne', l0⟩ (show l ≤ 10 by omega)
  have hl1 : (ts ++ [(⟨a', b', l⟩ : Tie)]).length = ts.length + 1 := by simp
  obtain ⟨ts4, d4, T4, hl4, hb4, e4⟩ := dm_two (A := A) (B := B) (way := way) (x6 := x6) hb3 (by omega) T1 (by omega) ha' hb' ne' l0 l1
  obtain ⟨ts5, d5, T5, hl5, hb5, e5⟩ := dm_back (A := A) (B := B) (way := way) (x6 := x6) hb4 (by omega) T4 (by omega) ha' hb' ne' l0 l1
  refine ⟨ts5, d5, some (0, .int (a' : Nat)), some (0, .int (b' : Nat)), some (0, .int l), T5, by omega, hb5.up (by omega), ?_⟩
  unfold b__law_drawn_map_1
  have e1' : ∀ K : DS, dSeq (dSet 7 (dFz (dCall D__law_take [true, false] (rRef 0 (rVal (dOf (dVar 3)) rNil)))))
        (dSeq (dSet 8 (dBinEP gMod (dUnE gInt (dBinE gAdd (dOf (dBin gAdd (dVar 7) (dC (.int 1)))) (dFz (dCall D__law_take [true, false] (rRef 0 (rVal (dOf (dBin gMinus (dVar 3) (dC (.int 1)))) rNil)))))) (dVar 3))) K) (ED d A B n ts way x6 x7 x8 x9)
       = K (ED d1 A B n ts way x6 (some (0, .int (a : Nat))) (some (0, .int (b : Nat))) x9) := by
    intro K
    rw [dSeq_ap] at e1 ⊢
    revert e1
    cases dSet 7 (dFz (dCall D__law_take [true, false] (rRef 0 (rVal (dOf (dVar 3)) rNil)))) (ED d A B n ts way x6 x7 x8 x9) with
    | none => intro e; cases e
    | some p =>
      obtain ⟨fl, e⟩ := p
      cases fl with
      | nx => intro e1; simp only at e1 ⊢; rw [dSeq_go e1]
      | ct => intro e1; simp only at e1; cases e1
      | bk => intro e1; simp only at e1; cases e1
      | rt r => intro e1; simp only at e1; cases e1
  rw [e1', dSeq_go e2, dSeq_go e3]
  rw [dSeq_go (e := ED d3 A B n (ts ++ [(⟨a', b', l⟩ : Tie)]) way x6 (some (0, .int (a' : Nat))) (some (0, .int (b' : Nat))) (some (0, .int l))) (by simp [z3, zl, tieD])]
  rw [dSeq_go e4, e5]
theorem drawn_map_spec {m : Int} {d : PyData} {most : Int} {cnt : Nat} (hb : Box m d) (hm : m + 5000 < 10 ^ 11) (h0 : 2 ≤ most) (h1 : most ≤ 10) (hc : cnt ≤ 20) :
    ∃ (n : Nat) (ts : List Tie) (d' : PyData), MapOk n ts ∧ 2 ≤ n ∧ (n : Int) ≤ most ∧ (∀ t ∈ ts, t.l ≤ 10) ∧ ts.length ≤ 60 ∧ Box (m + 400) d' ∧ D__law_drawn_map [(1, d), (0, .int most), (0, .int (cnt : Nat))] = some ((0, mapD n ts), [(1, d')]) := by
  have hz := sizeLine_big
  have z2 : 2 ≤ sizeLine := by omega
  obtain ⟨v1, d1, v10, v11, hb1, e1⟩ := take_spec (many := most - 1) hb (by omega) (by omega) (by omega)
  obtain ⟨way, d2, w0, w1, hb2, e2⟩ := take_spec (many := 4) hb1 (by omega) (by omega) (by omega)
  obtain ⟨n, hn⟩ : ∃ n : Nat, 2 + v1 = (n : Int) := ⟨(2 + v1).toNat, by omega⟩
  let I : Nat → En → Prop := fun k env => ∃ (d' : PyData) (ts : List Tie) (x6 x7 x8 x9 : Option Sl), env = ED d' (some (0, .int most)) (some (0, .int (cnt : Nat))) n ts way x6 x7 x8 x9 ∧ Box (m + 2 + 9 * k) d' ∧ Tsm n ts ∧ ts.length ≤ 3 * k
  obtain ⟨env', l1, d3, ts3, x6, x7, x8, x9, rfl, hb3, T3, hl3⟩ := forN (g := gNm 6) (b := b__law_drawn_map_1) I (rgD 0 (cnt : Int)) (ED d2 (some (0, .int most)) (some (0, .int (cnt : Nat))) n [] way none none none none)
    ⟨d2, [], _, _, _, _, rfl, hb2.up (by omega), ⟨(fun t h => by cases h), fun t h => by cases h⟩, by simp⟩ (by
      rintro k x env hx ⟨d', ts, x6, x7, x8, x9, rfl, hb', T, hl⟩
      obtain ⟨rfl, hk⟩ := rgD_get hx
      obtain ⟨ts', d'', y7, y8, y9, T', hl', hb'', e⟩ := dm_1 (A := some (0, .int most)) (B := some (0, .int (cnt : Nat))) (way := way) (x6 := some (0, .int (0 + (k : Nat)))) (x7 := x7) (x8 := x8) (x9 := x9) hb' (by omega) (by omega) (by omega) T (by omega)
      exact ⟨_, rfl, _, e, d'', ts', _, _, _, _, rfl, hb''.up (by omega), T', by omega⟩)
  rw [rgD_len] at hb3 hl3
  obtain ⟨ts4, p4, s4, e4⟩ := sort_ties ts3
  have okr : okR (cnt : Int) = true := by unfold okR; exact decI (by omega)
  refine ⟨n, ts4, d3, ⟨by omega, by omega, by rw [p4.length_eq]; omega, fun t h => T3.ok t (p4.mem_iff.mp h), s4⟩, by omega, by omega, fun t h => T3.s t (p4.mem_iff.mp h), by rw [p4.length_eq]; omega, hb3.up (by omega), ?_⟩
  have body : b__law_drawn_map [some (1, d), some (0, .int most), some (0, .int (cnt : Nat)), none, none, none, none, none, none, none] = some (.rt (0, mapD n ts4), ED d3 (some (0, .int most)) (some (0, .int (cnt : Nat))) n ts3 way x6 x7 x8 x9) := by
    unfold b__law_drawn_map
    rw [dSeq_go (e := [some (1, d1), some (0, .int most), some (0, .int (cnt : Nat)), some (0, .int n), none, none, none, none, none, none]) (by simp [e1, hn])]
    rw [dSeq_go (e := ED d2 (some (0, .int most)) (some (0, .int (cnt : Nat))) n [] way none none none none) (by simp [e2])]
    rw [dSeq_go (e := ED d3 (some (0, .int most)) (some (0, .int (cnt : Nat))) n ts3 way x6 x7 x8 x9) (by rw [dFor_ap]; simp [okr]; exact l1)]
    simp [e4, z2, mapD]
  simp [D__law_drawn_map_eq, fnSem_ap, body]
end Dn.W

set_option Elab.async false
set_option linter.all false
set_option maxRecDepth 100000
set_option maxHeartbeats 4000000
namespace Dn.W
open PySem PySem.Spec PyProof.Rows L2 Dn
section
variable {n : Nat} {ts ts' : List Tie} {one other : Nat} {least : Int} {r rT : Row}
def scO (by_ : Int) (o : Option Int) : Option Int := o.map fun x => x * by_
theorem at_scO (by_ : Int) (r : Row) (v : Nat) : at_ (r.map (scO by_)) v = scO by_ (at_ r v) := by
  unfold at_
  rw [List.getD_eq_getElem?_getD, List.getD_eq_getElem?_getD, List.getElem?_map]
  cases r[v]? <;> rfl
theorem Walk.scale {by_ : Int} : ∀ {v x k}, Walk ts one v x k → Walk (ts.map (scaleT by_)) one v (x * by_) k
  | _, _, _, .nil => by rw [Int.zero_mul]; exact .nil
  | _, _, _, .snoc (t := t) w ht ha => by
    have := (Walk.scale w).snoc (t := scaleT by_ t) (List.mem_map.mpr ⟨t, ht, rfl⟩) ha
    rw [Int.add_mul]
    exact this
theorem IsDist.scale {by_ : Int} (b0 : 0 ≤ by_) (d : IsDist n ts one r) : IsDist n (ts.map (scaleT by_)) one (r.map (scO by_)) := by
  refine ⟨by rw [List.length_map, d.len], by rw [at_scO, d.z]; simp [scO], fun t ht x hx => ?_, fun v x hx => ?_⟩
  · obtain ⟨s, hs, rfl⟩ := List.mem_map.mp ht
    rw [at_scO] at hx ⊢
    show ∃ y, scO by_ (at_ r s.b) = some y ∧ y ≤ x + s.l * by_
    have hx' : scO by_ (at_ r s.a) = some x := hx
    cases ha : at_ r s.a with
    | none => rw [ha] at hx'; cases hx'
    | some z =>
      rw [ha] at hx'
      cases hx'
      obtain ⟨y, hy, le⟩ := d.cl s hs z ha
      refine ⟨y * by_, by rw [hy]; rfl, ?_⟩
      rw [← Int.add_mul]
      exact Int.mul_le_mul_of_nonneg_right le b0
  · rw [at_scO] at hx
    cases ha : at_ r v with
    | none => rw [ha] at hx; cases hx
    | some z =>
      rw [ha] at hx
      cases hx
      obtain ⟨k, wk⟩ := d.wk v z ha
      exact ⟨k, wk.scale⟩
theorem scaled_spec (m : MapOk n ts) {by_ : Int} (b0 : 0 ≤ by_) (hk : ∀ t ∈ ts, okMul t.l by_ = true) : ∃ ts2, ts2.Perm (ts.map (scaleT by_)) ∧ MapOk n ts2 ∧ D__law_scaled [(0, mapD n ts), (0, .int by_)] = some ((0, mapD n ts2), []) := by
  have hz := sizeLine_big
  obtain ⟨ts2, p, s, e⟩ := sort_ties (ts.map (scaleT by_))
  have hl := m.len
  have z2 : 2 ≤ sizeLine := by omega
  refine ⟨ts2, p, ⟨m.n0, m.n1, by rw [p.length_eq, List.length_map]; exact hl, fun t ht => ?_, s⟩, ?_⟩
  · obtain ⟨u, hu, rfl⟩ := List.mem_map.mp (p.mem_iff.mp ht)
    have o := m.ok u hu
    exact ⟨o.a, o.b, o.ne, Int.mul_nonneg o.l b0⟩
  have lc : dLcL [2, 3, 4] (gTp 3 (gsCons (gNm 2) (gsCons (gNm 3) (gsCons (gNm 4) gsNil)))) dtYes (dOf (dTupP (pCons (dVar 2) (pCons (dVar 3) (pCons (dBin gTimes (dVar 4) (dVar 1)) pNil))))) (ts.map tieD) [some (0, mapD n ts), some (0, .int by_), none, none, none] [] = some ((ts.map (scaleT by_)).map tieD, [some (0, mapD n ts), some (0, .int by_), none, none, none]) := by
    rw [lcT tieD (fun t => tieD (scaleT by_ t)) [some (0, mapD n ts), some (0, .int by_), none, none, none] ts (by omega)]
    · rw [List.map_map]; rfl
    · intro t ht
      have z3 : 3 ≤ sizeLine := by omega
      have gt : gTimes (.int t.l) (.int by_) = some (.int (t.l * by_)) := gTimes_int (hk t ht)
      exact ⟨[some (0, mapD n ts), some (0, .int by_), some (0, .int (t.a : Nat)), some (0, .int (t.b : Nat)), some (0, .int t.l)], by simp [tieD], by simp, by simp, by simp [tieD, scaleT, z3, gt]⟩
  have body : b__law_scaled [some (0, mapD n ts), some (0, .int by_), none, none, none] = some (.rt (0, mapD n ts2), [some (0, mapD n ts), some (0, .int by_), none, none, none]) := by
    simp [b__law_scaled, map_0, map_1', z2, lc, e, -List.map_map]
    rfl
  simp [D__law_scaled_eq, fnSem_ap, body]
theorem wo_scale (w : Wo n ts ts' one other least r rT) {ts2 : List Tie} {by_ : Int} (b0 : 0 ≤ by_) (p : ts2.Perm (ts.map (scaleT by_))) (m2 : MapOk n ts2) : ∃ ts2', Wo n ts2 ts2' one other (least * by_) (r.map (scO by_)) (rT.map (scO by_)) := by
  have d2 : IsDist n ts2 one (r.map (scO by_)) := (w.d.scale b0).perm fun t => p.mem_iff
  obtain ⟨ts2', rT2, w2⟩ := wo_of m2 w.h1 w.h2 w.ne d2 (least := least * by_) (by rw [at_scO, w.r2]; rfl)
  have dT2 : IsDist n ts2' other (rT.map (scO by_)) := (w.dT.scale b0).perm fun t => by
    rw [w2.T.p.mem_iff, (p.map turnT).mem_iff, (w.T.p.map (scaleT by_)).mem_iff, List.map_map, List.map_map]
    exact Iff.rfl
  have e := w2.dT.uniq dT2
  subst e
  exact ⟨ts2', w2⟩
theorem low_scale (by_ : Int) (b1 : 0 < by_) (rT : Row) : (rT.map (scO by_)).map (lowF (least * by_)) = (rT.map (lowF least)).map fun x => x * by_ := by
  rw [List.map_map, List.map_map]
  refine List.map_congr_left fun o _ => ?_
  cases o with
  | none => simp [scO, lowF]
  | some d =>
    show (if least * by_ - d * by_ > 0 then least * by_ - d * by_ else 0) = (if least - d > 0 then least - d else 0) * by_
    rw [← Int.sub_mul]
    by_cases q : least - d > 0
    · rw [if_pos q, if_pos (Int.mul_pos q b1)]
    · rw [if_neg q, Int.zero_mul, if_neg]
      have := Int.mul_nonneg (show 0 ≤ -(least - d) by omega) (show 0 ≤ by_ by omega)
      rw [Int.neg_mul] at this
      omega
theorem high_scale (by_ : Int) (b1 : 0 < by_) (r : Row) : (r.map (scO by_)).map (highF (least * by_)) = (r.map (highF least)).map fun x => x * by_ := by
  rw [List.map_map, List.map_map]
  refine List.map_congr_left fun o _ => ?_
  cases o with
  | none => simp [scO, highF]
  | some d =>
    show (if d * by_ < least * by_ then d * by_ else least * by_) = (if d < least then d else least) * by_
    by_cases q : d < least
    · rw [if_pos q, if_pos (Int.mul_lt_mul_of_pos_right q b1)]
    · rw [if_neg q, if_neg]
      have := Int.mul_le_mul_of_nonneg_right (show least ≤ d by omega) (show 0 ≤ by_ by omega)
      omega
theorem wo_back (w : Wo n ts ts' one other least r rT) : ∃ ts'', Wo n ts' ts'' other one least rT r := by
  obtain ⟨ts'', rT2, w2⟩ := wo_of w.m' w.h2 w.h1 w.ne.symm w.dT w.rT1
  have d2 : IsDist n ts'' one r := w.d.perm fun t => by
    rw [w2.T.mem, w.T.mem, turn_turn]
  have e := w2.dT.uniq d2
  subst e
  exact ⟨ts'', w2⟩
theorem low_back (w : Wo n ts ts' one other least r rT) : r.map (lowF least) = (r.map (highF least)).map fun x => least - x := by
  rw [List.map_map]
  refine List.map_congr_left fun o _ => ?_
  cases o with
  | none => simp [lowF, highF]
  | some d =>
    show (if least - d > 0 then least - d else 0) = least - (if d < least then d else least)
    split <;> split <;> omega
theorem high_back (w : Wo n ts ts' one other least r rT) : rT.map (highF least) = (rT.map (lowF least)).map fun x => least - x := by
  rw [List.map_map]
  refine List.map_congr_left fun o _ => ?_
  cases o with
  | none => simp [lowF, highF]
  | some d =>
    show (if d < least then d else least) = least - (if least - d > 0 then least - d else 0)
    split <;> split <;> omega
/-! the tight ties -/
def tkB (ts : List Tie) (least : Int) (r rT : Row) (k : Nat) : Bool := match ts[k]? with | some t => tightB least r rT t | none => false
theorem atI_ties {k : Nat} {t : Tie} (h : ts[k]? = some t) : L2.atI (ts.map tieD) (k : Int) = some (tieD t) := by
  rw [atI_nat, List.getElem?_map, h]; rfl
theorem tight_spec (w : Wo n ts ts' one other least r rT) : D__law_tight [(0, mapD n ts), (0, .int (one : Nat)), (0, .int (other : Nat))] = some ((1, .list (natsD ((List.range ts.length).filter (tkB ts least r rT)))), []) := by
  have hz := sizeLine_big
  have ml := w.m.len
  have f1 := far_of w.m.w w.h1 w.d
  have f2 := far_of w.m'.w w.h2 w.dT
  have a := atI_opt (r := r) (v := other) (by rw [w.d.len]; exact w.h2)
  rw [w.r2] at a
  have okl : okR (ts.length : Int) = true := by unfold okR; exact decI (by omega)
  have lc : ∀ E : En, E = [some (0, mapD n ts), some (0, .int (one : Nat)), some (0, .int (other : Nat)), some (0, .list (r.map optD)), some (0, .list (rT.map optD)), some (0, .int least), none] →
      dLcL [6] (gNm 6) (dtAnd (tst (dOf (dBin gIsNot (dBin gIx (dVar 3) (dBin gIx (dBin gIx (dBin gIx (dVar 0) (dC (.int 1))) (dVar 6)) (dC (.int 0)))) (dC .none)))) (dtAnd (tst (dOf (dBin gIsNot (dBin gIx (dVar 4) (dBin gIx (dBin gIx (dBin gIx (dVar 0) (dC (.int 1))) (dVar 6)) (dC (.int 1)))) (dC .none)))) (tst (dOf (dBin gEq (dBin gAdd (dBin gAdd (dBin gIx (dVar 3) (dBin gIx (dBin gIx (dBin gIx (dVar 0) (dC (.int 1))) (dVar 6)) (dC (.int 0)))) (dBin gIx (dBin gIx (dBin gIx (dVar 0) (dC (.int 1))) (dVar 6)) (dC (.int 2)))) (dBin gIx (dVar 4) (dBin gIx (dBin gIx (dBin gIx (dVar 0) (dC (.int 1))) (dVar 6)) (dC (.int 1))))) (dVar 5)))))) (dOf (dVar 6)) (rgD 0 (ts.length : Int)) E [] = some (natsD ((List.range ts.length).filter (tkB ts least r rT)), E) := by
    rintro E rfl
    rw [rgD_nat, lcF (fun o : Nat => .int (o : Nat)) (fun o : Nat => .int (o : Nat)) (tkB ts least r rT) _ (List.range ts.length) (by rw [List.length_range]; omega)]
    · rfl
    · intro k hk
      have hk' := List.mem_range.mp hk
      have ht : ts[k]? = some ts[k] := List.getElem?_eq_getElem hk'
      have okt := w.m.ok _ (List.getElem_mem hk')
      have t1 := atI_ties ht
      have r1 := atI_opt (r := r) (v := ts[k].a) (by rw [w.d.len]; exact okt.a)
      have r2 := atI_opt (r := rT) (v := ts[k].b) (by rw [w.dT.len]; exact okt.b)
      have tk : tkB ts least r rT k = tightB least r rT ts[k] := by unfold tkB; rw [ht]
      rw [tk]
      generalize ts[k] = t at *
      refine ⟨_, rfl, ?_, by simp, by simp, fun _ => by simp⟩
      unfold tightB
      cases h1 : at_ r t.a with
      | none => rw [h1] at r1; simp [map_1', t1, tie_0, r1]
      | some x =>
        rw [h1] at r1
        cases h2 : at_ rT t.b with
        | none => rw [h2] at r2; simp [map_1', t1, tie_0, tie_1, r1, r2]
        | some y => rw [h2] at r2; simp [map_1', t1, tie_0, tie_1, tie_2, r1, r2]
  have lc' := lc _ rfl
  have body : b__law_tight [some (0, mapD n ts), some (0, .int (one : Nat)), some (0, .int (other : Nat)), none, none, none, none] = some (.rt (1, .list (natsD ((List.range ts.length).filter (tkB ts least r rT)))), [some (0, mapD n ts), some (0, .int (one : Nat)), some (0, .int (other : Nat)), some (0, .list (r.map optD)), some (0, .list (rT.map optD)), some (0, .int least), none]) := by
    unfold b__law_tight
    rw [dSeq_go (e := [some (0, mapD n ts), some (0, .int (one : Nat)), some (0, .int (other : Nat)), some (0, .list (r.map optD)), some (0, .list (rT.map optD)), none, none]) (by simp [f1, f2, w.B])]
    rw [dSeq_go (e := [some (0, mapD n ts), some (0, .int (one : Nat)), some (0, .int (other : Nat)), some (0, .list (r.map optD)), some (0, .list (rT.map optD)), some (0, .int least), none]) (by simp [a])]
    simp [map_1', okl, lc']
  simp [D__law_tight_eq, fnSem_ap, body]
theorem wo_less (w : Wo n ts ts' one other least r rT) {k : Nat} (hk : k < ts.length) (ht : tkB ts least r rT k = false) : ∃ ts2' r2 rT2, Wo n (ts.eraseIdx k) ts2' one other least r2 rT2 ∧ ∀ t ∈ ts.eraseIdx k, t ∈ ts := by
  have sub : ∀ t ∈ ts.eraseIdx k, t ∈ ts := fun t h => (List.eraseIdx_sublist ts k).subset h
  have m2 : MapOk n (ts.eraseIdx k) := ⟨w.m.n0, w.m.n1, by have := w.m.len; have := (List.eraseIdx_sublist ts k).length_le; omega, fun t h => w.m.ok t (sub t h), w.m.srt.sublist (List.eraseIdx_sublist ts k)⟩
  obtain ⟨r2, d2, _⟩ := far_spec m2.w w.h1
  have hs : ∀ t ∈ ts, tightB least r rT t = true → t ∈ ts.eraseIdx k := by
    intro t h q
    obtain ⟨i, hi, rfl⟩ := List.mem_iff_getElem.mp h
    have : i ≠ k := by
      rintro rfl
      unfold tkB at ht
      rw [List.getElem?_eq_getElem hi] at ht
      simp only at ht
      rw [q] at ht; cases ht
    exact List.mem_eraseIdx_iff_getElem.mpr ⟨i, hi, this, rfl⟩
  have e := less_dist w.two hs sub d2
  obtain ⟨ts2', rT2, w2⟩ := wo_of m2 w.h1 w.h2 w.ne d2 e
  exact ⟨ts2', r2, rT2, w2, sub⟩
end
end Dn.W

set_option Elab.async false
set_option linter.all false
set_option maxRecDepth 100000
set_option maxHeartbeats 4000000
namespace Dn.W
open PySem PySem.Spec PyProof.Rows L2 Dn
section
variable {n : Nat} {ts ts' : List Tie} {one other : Nat} {least : Int} {r rT : Row}
abbrev EA (M O T L : Option Sl) (rs : PyData) (x5 : Option Sl) (x6 : Option Sl) (x7 x8 : Option Sl) : En := [M, O, T, L, some (0, rs), x5, x6, x7, x8, none, none, none]
abbrev ownR (rows : List (List Int)) : Option Sl := some (1, .list (rows.map htD))
theorem all_1 (hn : n ≤ 20) (ok : ∀ t ∈ ts, TieOk n t) (hts : ts.length ≤ 120) {k : Nat} (hk : k < n) {row : List Int} (hr : row.length = k) {x : Int} {L : List (List Int)} (hL : L.length < 100000) (O T Le : Option Sl) (rs : PyData) :
    b__law_all_1 (EA (some (0, mapD n ts)) O T Le rs (some (0, .int (k : Nat))) (ownR L) (some (0, htD row)) (some (0, .int x))) =
      some (.nx, EA (some (0, mapD n ts)) O T Le rs (some (0, .int (k : Nat))) (ownR (if ts.all (fun t => !badT k x row t) = true then L ++ [row ++ [x]] else L)) (some (0, htD row)) (some (0, .int x))) := by
  have hz := sizeLine_big
  have z0 : 0 ≤ sizeLine := by omega
  have z1 : 1 ≤ sizeLine := by omega
  have zL : L.length < sizeLine := by omega
  have lc : ∀ E : En, E = EA (some (0, mapD n ts)) O T Le rs (some (0, .int (k : Nat))) (ownR L) (some (0, htD row)) (some (0, .int x)) →
      dLcL [9, 10, 11] (gTp 3 (gsCons (gNm 9) (gsCons (gNm 10) (gsCons (gNm 11) gsNil)))) (dtOr (dtAnd (tst (dOf (dBin gLt' (dVar 9) (dVar 5)))) (dtAnd (tst (dOf (dBin gEq (dVar 10) (dVar 5)))) (tst (dOf (dBin gGt (dVar 8) (dBin gAdd (dBin gIx (dVar 7) (dVar 9)) (dVar 11))))))) (dtAnd (tst (dOf (dBin gLt' (dVar 10) (dVar 5)))) (dtAnd (tst (dOf (dBin gEq (dVar 9) (dVar 5)))) (tst (dOf (dBin gGt (dBin gIx (dVar 7) (dVar 10)) (dBin gAdd (dVar 8) (dVar 11)))))))) (dOf (dC (.int 1))) (ts.map tieD) E [] = some ((ts.filter (badT k x row)).map fun _ => PyData.int 1, E) := by
    rintro E rfl
    rw [lcF tieD (fun _ => PyData.int 1) (badT k x row) _ ts (by omega)]
    intro t ht
    refine ⟨[some (0, mapD n ts), O, T, Le, some (0, rs), some (0, .int (k : Nat)), ownR L, some (0, htD row), some (0, .int x), some (0, .int (t.a : Nat)), some (0, .int (t.b : Nat)), some (0, .int t.l)], by simp [tieD], ?_, by simp, by simp, fun _ => by simp⟩
    unfold badT
    by_cases a1 : t.a < k
    · have i1 := atI_ints (hs := row) (i := t.a) (by omega)
      have a1' : (t.a : Int) < k := by omega
      have a3 : ¬ t.a = k := by omega
      have a3' : ¬ (t.a : Int) = k := by omega
      by_cases b1 : t.b < k
      · have b1' : (t.b : Int) < k := by omega
        have b3 : ¬ t.b = k := by omega
        have b3' : ¬ (t.b : Int) = k := by omega
        simp [a1, a1', a3, a3', b1, b1', b3, b3', htD, i1]
      · have b1' : ¬ (t.b : Int) < k := by omega
        by_cases b3 : t.b = k
        · have b3' : (t.b : Int) = k := by omega
          have nbk : ¬ k < k := by omega
          by_cases q : row.getD t.a 0 + t.l < x
          · simp [a1, a1', b3, b3', htD, i1, q, -List.getD_eq_getElem?_getD]
          · simp [a1, a1', a3, a3', b3, b3', htD, i1, q, -List.getD_eq_getElem?_getD]
        · have b3' : ¬ (t.b : Int) = k := by omega
          simp [a1, a1', a3, a3', b1, b1', b3, b3']
    · have a1' : ¬ (t.a : Int) < k := by omega
      by_cases b1 : t.b < k
      · have i2 := atI_ints (hs := row) (i := t.b) (by omega)
        have b1' : (t.b : Int) < k := by omega
        by_cases a3 : t.a = k
        · have a3' : (t.a : Int) = k := by omega
          simp [a1, a1', a3, a3', b1, b1', htD, i2, -List.getD_eq_getElem?_getD]
        · have a3' : ¬ (t.a : Int) = k := by omega
          simp [a1, a1', a3, a3', b1, b1']
      · have b1' : ¬ (t.b : Int) < k := by omega
        simp [a1, a1', b1, b1']
  have lc' := lc _ rfl
  have g : gEq (.list ((ts.filter (badT k x row)).map fun _ => PyData.int 1)) (.list []) = some (.bool (ts.all (fun t => !badT k x row t))) := by
    rw [gEq_emptyL _ _ (sh_ones _ 1)]
    have : ts.all (fun t => !badT k x row t) = (ts.filter (badT k x row)).isEmpty := by
      rw [Bool.eq_iff_iff, List.isEmpty_iff, List.filter_eq_nil_iff, List.all_eq_true]
      simp
    rw [this]
  generalize (ts.filter (badT k x row)).map (fun _ => PyData.int 1) = F at *
  cases hq : ts.all (fun t => !badT k x row t) with
  | false =>
    rw [hq] at g
    simp [b__law_all_1, map_1', lc', g, z0, hq]
  | true =>
    rw [hq] at g
    have ga : gAdd (htD row) (.tuple [.int x]) = some (htD (row ++ [x])) := by
      unfold htD
      rw [gAdd_tuple _ _ (by simp; omega)]
      simp
    simp [b__law_all_1, map_1', lc', g, z0, z1, hq, ga, zL]
theorem all_2 (hn : n ≤ 20) (ok : ∀ t ∈ ts, TieOk n t) (hts : ts.length ≤ 120) {k : Nat} (hk : k < n) {row : List Int} (hr : row.length = k) (O T Le : Option Sl) (rs : PyData) : ∀ (cs : List Int) (L : List (List Int)) (x8 : Option Sl), L.length + cs.length < 100000 →
    ∃ y8, dForL (gNm 8) b__law_all_1 (cs.map PyData.int) (EA (some (0, mapD n ts)) O T Le rs (some (0, .int (k : Nat))) (ownR L) (some (0, htD row)) x8) =
      some (.nx, EA (some (0, mapD n ts)) O T Le rs (some (0, .int (k : Nat))) (ownR (L ++ (cs.filter fun x => ts.all (fun t => !badT k x row t)).map fun x => row ++ [x])) (some (0, htD row)) y8)
  | [], L, x8, _ => ⟨x8, by simp⟩
  | c :: cs, L, x8, h => by
    rw [List.length_cons] at h
    have e := all_1 (x := c) (L := L) hn ok hts hk hr (by omega) O T Le rs
    obtain ⟨y8, e2⟩ := all_2 hn ok hts hk hr O T Le rs cs (if ts.all (fun t => !badT k c row t) = true then L ++ [row ++ [c]] else L) (some (0, .int c)) (by
      split
      · rw [List.length_append, List.length_singleton]; omega
      · omega)
    refine ⟨y8, ?_⟩
    rw [List.map_cons, dForL_cons]
    have g : gNm 8 (.int c) (EA (some (0, mapD n ts)) O T Le rs (some (0, .int (k : Nat))) (ownR L) (some (0, htD row)) x8) = some (EA (some (0, mapD n ts)) O T Le rs (some (0, .int (k : Nat))) (ownR L) (some (0, htD row)) (some (0, .int c))) := rfl
    rw [g]
    simp only [e]
    rw [e2]
    cases hq : ts.all (fun t => !badT k c row t) with
    | false => simp [hq]
    | true => simp [hq]
theorem all_3 (hn : n ≤ 20) (ok : ∀ t ∈ ts, TieOk n t) (hts : ts.length ≤ 120) (l0 : 0 ≤ least) (l9 : least < 9) {k : Nat} (hk : k < n) (rs : PyData) : ∀ (rows : List (List Int)) (L : List (List Int)) (x7 x8 : Option Sl), (∀ row ∈ rows, row.length = k) → L.length + 9 * rows.length < 50000 →
    ∃ y7 y8, dForL (gNm 7) b__law_all_2 (rows.map htD) (EA (some (0, mapD n ts)) (some (0, .int (one : Nat))) (some (0, .int (other : Nat))) (some (0, .int least)) rs (some (0, .int (k : Nat))) (ownR L) x7 x8) =
      some (.nx, EA (some (0, mapD n ts)) (some (0, .int (one : Nat))) (some (0, .int (other : Nat))) (some (0, .int least)) rs (some (0, .int (k : Nat))) (ownR (L ++ longer ts one other least k rows)) y7 y8)
  | [], L, x7, x8, _, _ => ⟨x7, x8, by simp [longer]⟩
  | row :: rows, L, x7, x8, hl, h => by
    have hz := sizeLine_big
    have z1 : 1 ≤ sizeLine := by omega
    rw [List.length_cons] at h
    have cl : (choices one other least k).length ≤ 9 := by
      unfold choices
      split
      · simp
      · split
        · simp
        · simp; omega
    obtain ⟨w8, e1⟩ := all_2 hn ok hts hk (hl row List.mem_cons_self) (some (0, .int (one : Nat))) (some (0, .int (other : Nat))) (some (0, .int least)) rs (choices one other least k) L x8 (by omega)
    obtain ⟨y7, y8, e2⟩ := all_3 hn ok hts l0 l9 hk rs rows (L ++ ((choices one other least k).filter fun x => ts.all (fun t => !badT k x row t)).map fun x => row ++ [x]) (some (0, htD row)) w8 (fun q hq => hl q (List.mem_cons_of_mem _ hq)) (by
      have := List.length_filter_le (fun x => ts.all (fun t => !badT k x row t)) (choices one other least k)
      simp only [List.length_append, List.length_map]; omega)
    refine ⟨y7, y8, ?_⟩
    rw [List.map_cons, dForL_cons]
    have g : gNm 7 (htD row) (EA (some (0, mapD n ts)) (some (0, .int (one : Nat))) (some (0, .int (other : Nat))) (some (0, .int least)) rs (some (0, .int (k : Nat))) (ownR L) x7 x8) = some (EA (some (0, mapD n ts)) (some (0, .int (one : Nat))) (some (0, .int (other : Nat))) (some (0, .int least)) rs (some (0, .int (k : Nat))) (ownR L) (some (0, htD row)) x8) := rfl
    rw [g]
    have s : b__law_all_2 (EA (some (0, mapD n ts)) (some (0, .int (one : Nat))) (some (0, .int (other : Nat))) (some (0, .int least)) rs (some (0, .int (k : Nat))) (ownR L) (some (0, htD row)) x8) = some (.nx, EA (some (0, mapD n ts)) (some (0, .int (one : Nat))) (some (0, .int (other : Nat))) (some (0, .int least)) rs (some (0, .int (k : Nat))) (ownR (L ++ ((choices one other least k).filter fun x => ts.all (fun t => !badT k x row t)).map fun x => row ++ [x])) (some (0, htD row)) w8) := by
      unfold b__law_all_2
      rw [dFor_ap]
      have it : iSeq (dIf (tst (dOf (dBin gEq (dVar 5) (dVar 1)))) (dOf (dLstP (pCons (dC (.int 0)) pNil))) (dIf (tst (dOf (dBin gEq (dVar 5) (dVar 2)))) (dOf (dLstP (pCons (dVar 3) pNil))) (dFz (dRgO (dOf (dBin gAdd (dVar 3) (dC (.int 1)))))))) (EA (some (0, mapD n ts)) (some (0, .int (one : Nat))) (some (0, .int (other : Nat))) (some (0, .int least)) rs (some (0, .int (k : Nat))) (ownR L) (some (0, htD row)) x8) = some ((choices one other least k).map PyData.int, EA (some (0, mapD n ts)) (some (0, .int (one : Nat))) (some (0, .int (other : Nat))) (some (0, .int least)) rs (some (0, .int (k : Nat))) (ownR L) (some (0, htD row)) x8) := by
        unfold choices
        by_cases q1 : k = one
        · simp [q1, z1]
        · have q1' : ¬ (k : Int) = one := by omega
          by_cases q2 : k = other
          · subst q2
            simp [q1, q1', z1]
          · have q2' : ¬ (k : Int) = other := by omega
            obtain ⟨lN, rfl⟩ : ∃ lN : Nat, least = lN := ⟨least.toNat, by omega⟩
            have okl : okRg 0 ((lN : Int) + 1) = true := by unfold okRg; exact decI (by omega)
            have rg := rgD_nat (lN + 1)
            have zz : lN + 1 ≤ sizeLine := by omega
            rw [Int.natCast_add] at rg
            simp only [Int.cast_ofNat_Int] at rg
            simp [q1, q1', q2, q2', okl, rg, Function.comp_def]
      rw [it]
      exact e1
    simp only [s]
    rw [e2]
    simp [longer, List.append_assoc]
theorem longer_len (l0 : 0 ≤ least) (l9 : least < 9) {k : Nat} : ∀ (rows : List (List Int)), (longer ts one other least k rows).length ≤ 9 * rows.length
  | [] => by simp [longer]
  | row :: rows => by
    have cl : (choices one other least k).length ≤ 9 := by
      unfold choices
      split
      · simp
      · split
        · simp
        · simp; omega
    have ih := longer_len l0 l9 (k := k) rows
    have := List.length_filter_le (fun x => ts.all (fun t => !badT k x row t)) (choices one other least k)
    have e : longer ts one other least k (row :: rows) = (((choices one other least k).filter fun x => ts.all (fun t => !badT k x row t)).map fun x => row ++ [x]) ++ longer ts one other least k rows := rfl
    rw [e, List.length_append, List.length_map, List.length_cons]
    omega
theorem all_spec (m : MapOk n ts) (l0 : 0 ≤ least) (l9 : least < 9) (ne : one ≠ other) : ∃ res : PyData, D__law_all [(0, mapD n ts), (0, .int (one : Nat)), (0, .int (other : Nat)), (0, .int least)] = some ((0, res), []) ∧ (res = .none ∨ ∃ rows : List (List Int), AllI n ts one other least n rows ∧ rows.length ≤ 400 ∧ res = .list (rows.map htD)) := by
  have hz := sizeLine_big
  have n1 := m.n1
  have z0 : 0 ≤ sizeLine := by omega
  have z1 : 1 ≤ sizeLine := by omega
  have okn : okR (n : Int) = true := by unfold okR; exact decI (by omega)
  let I : Nat → En → Prop := fun k env => ∃ (rows : List (List Int)) (x5 x6 x7 x8 : Option Sl), env = EA (some (0, mapD n ts)) (some (0, .int (one : Nat))) (some (0, .int (other : Nat))) (some (0, .int least)) (.list (rows.map htD)) x5 x6 x7 x8 ∧ AllI n ts one other least k rows ∧ rows.length ≤ 400
  let Ex : Fl → En → Prop := fun fl env => fl = .rt (0, .none) ∧ env.length = 12
  obtain ⟨fl, env', e, hx⟩ := forL (g := gNm 5) (b := b__law_all_3) I Ex (rgD 0 (n : Int)) (EA (some (0, mapD n ts)) (some (0, .int (one : Nat))) (some (0, .int (other : Nat))) (some (0, .int least)) (.list [.tuple []]) none none none none) 0 ⟨[[]], _, _, _, _, rfl, AllI.zero, by simp⟩ (by
    rintro i x env hx ⟨rows, x5, x6, x7, x8, rfl, hA, hl⟩
    rw [Nat.zero_add] at hA ⊢
    obtain ⟨rfl, hi⟩ := rgD_get hx
    rw [Int.zero_add]
    have hi' : i < n := by omega
    obtain ⟨y7, y8, e3⟩ := all_3 (one := one) (other := other) n1 m.ok m.len l0 l9 hi' (.list (rows.map htD)) rows [] x7 x8 (fun row hr => (hA.p row hr).len) (by simp; omega)
    rw [List.nil_append] at e3
    have hA' := hA.step m.ok l0 ne hi'
    refine ⟨EA (some (0, mapD n ts)) (some (0, .int (one : Nat))) (some (0, .int (other : Nat))) (some (0, .int least)) (.list (rows.map htD)) (some (0, .int (i : Nat))) x6 x7 x8, rfl, ?_⟩
    have ll := longer_len (ts := ts) (one := one) (other := other) l0 l9 (k := i) rows
    have s1 : dSetO 6 (dLstO (dNil)) (EA (some (0, mapD n ts)) (some (0, .int (one : Nat))) (some (0, .int (other : Nat))) (some (0, .int least)) (.list (rows.map htD)) (some (0, .int (i : Nat))) x6 x7 x8) = some (.nx, EA (some (0, mapD n ts)) (some (0, .int (one : Nat))) (some (0, .int (other : Nat))) (some (0, .int least)) (.list (rows.map htD)) (some (0, .int (i : Nat))) (ownR []) x7 x8) := by simp [z0]
    have s2 : dFor (iSeq (dOf (dVar 4))) (gNm 7) b__law_all_2 (EA (some (0, mapD n ts)) (some (0, .int (one : Nat))) (some (0, .int (other : Nat))) (some (0, .int least)) (.list (rows.map htD)) (some (0, .int (i : Nat))) (ownR []) x7 x8) = some (.nx, EA (some (0, mapD n ts)) (some (0, .int (one : Nat))) (some (0, .int (other : Nat))) (some (0, .int least)) (.list (rows.map htD)) (some (0, .int (i : Nat))) (ownR (longer ts one other least i rows)) y7 y8) := by
      rw [dFor_ap]; simp only [iSeq_ap, dOf_ap, dVar_ap]; exact e3
    have s3 : ∃ y6, dSet 4 (dFrzV 6) (EA (some (0, mapD n ts)) (some (0, .int (one : Nat))) (some (0, .int (other : Nat))) (some (0, .int least)) (.list (rows.map htD)) (some (0, .int (i : Nat))) (ownR (longer ts one other least i rows)) y7 y8) = some (.nx, EA (some (0, mapD n ts)) (some (0, .int (one : Nat))) (some (0, .int (other : Nat))) (some (0, .int least)) (.list ((longer ts one other least i rows).map htD)) (some (0, .int (i : Nat))) y6 y7 y8) := ⟨_, by simp; rfl⟩
    obtain ⟨y6, s3⟩ := s3
    unfold b__law_all_3
    rw [dSeq_go s1, dSeq_go s2, dSeq_go s3]
    by_cases q : (longer ts one other least i rows).length ≤ 400
    · have q' : ¬ (400 : Int) < (longer ts one other least i rows).length := by omega
      exact ⟨.nx, (EA (some (0, mapD n ts)) (some (0, .int (one : Nat))) (some (0, .int (other : Nat))) (some (0, .int least)) (.list ((longer ts one other least i rows).map htD)) (some (0, .int (i : Nat))) y6 y7 y8), by simp [q'], .inl ⟨.inl rfl, _, _, _, _, _, rfl, hA', q⟩⟩
    · have q' : (400 : Int) < (longer ts one other least i rows).length := by omega
      exact ⟨.rt (0, .none), (EA (some (0, mapD n ts)) (some (0, .int (one : Nat))) (some (0, .int (other : Nat))) (some (0, .int least)) (.list ((longer ts one other least i rows).map htD)) (some (0, .int (i : Nat))) y6 y7 y8), by simp [q'], .inr (.inr ⟨_, rfl, rfl, rfl⟩)⟩)
  rcases hx with ⟨rfl, rows, x5, x6, x7, x8, rfl, hA, hl⟩ | ⟨rfl, hlen⟩
  · rw [rgD_len] at hA
    have hn : 0 + ((n : Int) - 0).toNat = n := by omega
    rw [hn] at hA
    refine ⟨.list (rows.map htD), ?_, .inr ⟨rows, hA, hl, rfl⟩⟩
    simp [D__law_all_eq, fnSem_ap, b__law_all, z0, z1, map_0, okn, e]
  · refine ⟨.none, ?_, .inl rfl⟩
    obtain ⟨p0, p1, p2, p3, p4, p5, p6, p7, p8, p9, p10, p11, rfl⟩ : ∃ p0 p1 p2 p3 p4 p5 p6 p7 p8 p9 p10 p11, env' = [p0, p1, p2, p3, p4, p5, p6, p7, p8, p9, p10, p11] := by
      match env', hlen with
      | [p0, p1, p2, p3, p4, p5, p6, p7, p8, p9, p10, p11], _ => exact ⟨_, _, _, _, _, _, _, _, _, _, _, _, rfl⟩
    simp [D__law_all_eq, fnSem_ap, b__law_all, z0, z1, map_0, okn, e]
end
end Dn.W

set_option Elab.async false
set_option linter.all false
set_option maxRecDepth 100000
set_option maxHeartbeats 4000000
namespace Dn.W
open PySem PySem.Spec PyProof.Rows L2 Dn
section
variable {n : Nat} {ts ts' : List Tie} {one other : Nat} {least : Int} {r rT : Row}
abbrev EP (d : PyData) (M O T Le : Option Sl) (L : List Int) (Hd : PyData) (x : List Int) (x8 x9 x10 x11 x12 x13 : Option Sl) : En := [some (1, d), M, O, T, Le, some (0, htD L), some (0, Hd), some (1, .list (x.map PyData.int)), x8, x9, x10, x11, x12, x13]
theorem dp_1 {d : PyData} (M O T Le : Option Sl) {L : List Int} (hL : L.length = n) (Hd : PyData) (x8 x9 x10 : Option Sl) : ∀ (us : List Tie) (x : List Int) (x11 x12 x13 : Option Sl), (∀ t ∈ us, TieOk n t) → x.length = n →
    ∃ y11 y12 y13, dForL (gTp 3 (gsCons (gNm 11) (gsCons (gNm 12) (gsCons (gNm 13) gsNil)))) b__law_drawn_proof_1 (us.map tieD) (EP d M O T Le L Hd x x8 x9 x10 x11 x12 x13) = some (.nx, EP d M O T Le L Hd (putR L us x) x8 x9 x10 y11 y12 y13)
  | [], x, x11, x12, x13, _, _ => ⟨x11, x12, x13, rfl⟩
  | t :: us, x, x11, x12, x13, ok, hx => by
    have okt := ok t List.mem_cons_self
    have a1 := atI_ints (hs := x) (i := t.a) (by rw [hx]; exact okt.a)
    have a2 := atI_ints (hs := x) (i := t.b) (by rw [hx]; exact okt.b)
    have a3 := atI_ints (hs := L) (i := t.b) (by rw [hL]; exact okt.b)
    have a4 : ixN x.length ((t.b : Nat) : Int) = some t.b := ixN_nat (by rw [hx]; exact okt.b)
    have step : b__law_drawn_proof_1 (EP d M O T Le L Hd x x8 x9 x10 (some (0, .int (t.a : Nat))) (some (0, .int (t.b : Nat))) (some (0, .int t.l))) = some (.nx, EP d M O T Le L Hd (putT L x t) x8 x9 x10 (some (0, .int (t.a : Nat))) (some (0, .int (t.b : Nat))) (some (0, .int t.l))) := by
      simp [b__law_drawn_proof_1, htD, a1, a2, a3, a4, putT, mxI, mnI, List.map_set, -List.getD_eq_getElem?_getD]
    obtain ⟨y11, y12, y13, e⟩ := dp_1 (d := d) M O T Le hL Hd x8 x9 x10 us (putT L x t) (some (0, .int (t.a : Nat))) (some (0, .int (t.b : Nat))) (some (0, .int t.l)) (fun s hs => ok s (List.mem_cons_of_mem _ hs)) (by rw [putT_len, hx])
    refine ⟨y11, y12, y13, ?_⟩
    rw [List.map_cons, dForL_cons]
    have g : gTp 3 (gsCons (gNm 11) (gsCons (gNm 12) (gsCons (gNm 13) gsNil))) (tieD t) (EP d M O T Le L Hd x x8 x9 x10 x11 x12 x13) = some (EP d M O T Le L Hd x x8 x9 x10 (some (0, .int (t.a : Nat))) (some (0, .int (t.b : Nat))) (some (0, .int t.l))) := by simp [tieD]
    rw [g]
    simp only [step]
    exact e
theorem putN_len (L : List Int) (ts : List Tie) : ∀ (k : Nat) (x : List Int), (putN L ts k x).length = x.length
  | 0, x => rfl
  | k + 1, x => by show (putR L ts (putN L ts k x)).length = _; rw [putR_len, putN_len]
theorem dp_2 {d : PyData} (ok : ∀ t ∈ ts, TieOk n t) (O T Le : Option Sl) {L : List Int} (hL : L.length = n) (Hd : PyData) (x8 x9 x10 x11 x12 x13 : Option Sl) {x : List Int} (hx : x.length = n) :
    ∃ y10 y11 y12 y13, dForL (gNm 10) b__law_drawn_proof_2 (rgD 0 (n : Int)) (EP d (some (0, mapD n ts)) O T Le L Hd x x8 x9 x10 x11 x12 x13) = some (.nx, EP d (some (0, mapD n ts)) O T Le L Hd (putN L ts n x) x8 x9 y10 y11 y12 y13) := by
  let I : Nat → En → Prop := fun k env => ∃ (x10 x11 x12 x13 : Option Sl), env = EP d (some (0, mapD n ts)) O T Le L Hd (putN L ts k x) x8 x9 x10 x11 x12 x13
  obtain ⟨env', l1, y10, y11, y12, y13, rfl⟩ := forN (g := gNm 10) (b := b__law_drawn_proof_2) I (rgD 0 (n : Int)) (EP d (some (0, mapD n ts)) O T Le L Hd x x8 x9 x10 x11 x12 x13) ⟨_, _, _, _, rfl⟩ (by
    rintro k z env hz ⟨x10, x11, x12, x13, rfl⟩
    obtain ⟨rfl, hk⟩ := rgD_get hz
    obtain ⟨y11, y12, y13, e⟩ := dp_1 (d := d) (some (0, mapD n ts)) O T Le hL Hd x8 x9 (some (0, .int (0 + (k : Nat)))) ts (putN L ts k x) x11 x12 x13 ok (by rw [putN_len, hx])
    refine ⟨_, rfl, EP d (some (0, mapD n ts)) O T Le L Hd (putN L ts (k + 1) x) x8 x9 (some (0, .int (0 + (k : Nat)))) y11 y12 y13, ?_, _, _, _, _, rfl⟩
    unfold b__law_drawn_proof_2
    rw [dFor_ap]
    have it : iSeq (dOf (dBin gIx (dVar 1) (dC (.int 1)))) (EP d (some (0, mapD n ts)) O T Le L Hd (putN L ts k x) x8 x9 (some (0, .int (0 + (k : Nat)))) x11 x12 x13) = some (ts.map tieD, EP d (some (0, mapD n ts)) O T Le L Hd (putN L ts k x) x8 x9 (some (0, .int (0 + (k : Nat)))) x11 x12 x13) := by simp [map_1']
    simp only [List.set_cons_succ, List.set_cons_zero]
    rw [it]; exact e)
  rw [rgD_len] at l1
  rw [show ((n : Int) - 0).toNat = n by omega] at l1
  exact ⟨y10, y11, y12, y13, l1⟩
theorem dp_3 (w : Wo n ts ts' one other least r rT) {m : Int} {d : PyData} (hb : Box m d) (hm : m + 100 < 10 ^ 11) (Hd : PyData) (x8 x9 x10 x11 x12 x13 : Option Sl) {L x : List Int} (pL : Pf n ts one other least L) (px : Pf n ts one other least x) (lx : ∀ v, v < n → L.getD v 0 ≤ x.getD v 0) (O T Le : Option Sl) :
    ∃ (x' : List Int) (d' : PyData) (y9 y10 y11 y12 y13 : Option Sl), Pf n ts one other least x' ∧ (∀ v, v < n → L.getD v 0 ≤ x'.getD v 0) ∧ Box (m + 2) d' ∧
      b__law_drawn_proof_3 (EP d (some (0, mapD n ts)) O T Le L Hd x x8 x9 x10 x11 x12 x13) = some (.nx, EP d' (some (0, mapD n ts)) O T Le L Hd x' x8 y9 y10 y11 y12 y13) := by
  have n0 := w.m.n0
  have n1 := w.m.n1
  have hz := sizeLine_big
  obtain ⟨v, d1, v0, v1, hb1, e1⟩ := take_spec (many := (n : Nat)) hb (by omega) (by omega) (by omega)
  obtain ⟨u, d2, u0, u1, hb2, e2⟩ := take_spec (many := 1000) hb1 (by omega) (by omega) (by omega)
  obtain ⟨p, rfl⟩ : ∃ p : Nat, v = p := ⟨v.toNat, by omega⟩
  have hp : p < n := by omega
  have lp := lx p hp
  have a1 := atI_ints (hs := x) (i := p) (by rw [px.len]; exact hp)
  have a2 := atI_ints (hs := L) (i := p) (by rw [pL.len]; exact hp)
  have a4 : ixN x.length ((p : Nat) : Int) = some p := ixN_nat (by rw [px.len]; exact hp)
  have pos : 0 < x.getD p 0 - L.getD p 0 + 1 := by omega
  have md : gMod (.int u) (.int (x.getD p 0 - L.getD p 0 + 1)) = some (.int (u % (x.getD p 0 - L.getD p 0 + 1))) := gMod_int pos
  have w0 := Int.emod_nonneg u (show x.getD p 0 - L.getD p 0 + 1 ≠ 0 by omega)
  have w1 := Int.emod_lt_of_pos u pos
  obtain ⟨rp, dp, _⟩ := far_spec w.m.w hp
  obtain ⟨q1, q2⟩ := lowered (c := L.getD p 0 + u % (x.getD p 0 - L.getD p 0 + 1)) w.m.ok hp w.h1 w.h2 dp pL px lx (by omega) (by omega)
  have hs : (x.set p (L.getD p 0 + u % (x.getD p 0 - L.getD p 0 + 1))).length = n := by rw [List.length_set, px.len]
  obtain ⟨y10, y11, y12, y13, e3⟩ := dp_2 (d := d2) w.m.ok O T Le pL.len Hd x8 (some (0, .int (p : Nat))) x10 x11 x12 x13 hs
  refine ⟨_, d2, some (0, .int (p : Nat)), y10, y11, y12, y13, q1, fun v hv => (q2 v hv).1, hb2.up (by omega), ?_⟩
  unfold b__law_drawn_proof_3
  have okn : okR (n : Int) = true := by unfold okR; exact decI (by omega)
  rw [dSeq_go (e := EP d1 (some (0, mapD n ts)) O T Le L Hd x x8 (some (0, .int (p : Nat))) x10 x11 x12 x13) (by simp [map_0, e1])]
  rw [dSeq_go (e := EP d2 (some (0, mapD n ts)) O T Le L Hd (x.set p (L.getD p 0 + u % (x.getD p 0 - L.getD p 0 + 1))) x8 (some (0, .int (p : Nat))) x10 x11 x12 x13) (by simp [htD, a1, a2, a4, e2, md, List.map_set, -List.getD_eq_getElem?_getD])]
  rw [dFor_ap]
  have it : iRg1 (dCons (dOf (dBin gIx (dVar 1) (dC (.int 0)))) dNil) (EP d2 (some (0, mapD n ts)) O T Le L Hd (x.set p (L.getD p 0 + u % (x.getD p 0 - L.getD p 0 + 1))) x8 (some (0, .int (p : Nat))) x10 x11 x12 x13) = some (rgD 0 (n : Int), EP d2 (some (0, mapD n ts)) O T Le L Hd (x.set p (L.getD p 0 + u % (x.getD p 0 - L.getD p 0 + 1))) x8 (some (0, .int (p : Nat))) x10 x11 x12 x13) := by simp [map_0, okn]
  rw [it]
  exact e3
theorem drawn_proof_spec (w : Wo n ts ts' one other least r rT) {m : Int} {d : PyData} (hb : Box m d) (hm : m + 1000 < 10 ^ 11) :
    ∃ (x : List Int) (d' : PyData), Pf n ts one other least x ∧ Box (m + 6) d' ∧ D__law_drawn_proof [(1, d), (0, mapD n ts), (0, .int (one : Nat)), (0, .int (other : Nat)), (0, .int least)] = some ((0, htD x), [(1, d')]) := by
  have hz := sizeLine_big
  have n1 := w.m.n1
  have ee := ends_spec least w.m w.m' w.h1 w.h2 w.d w.dT w.B
  have pL := low_pf w.two
  have pH := high_pf w.two
  have lH := fun v hv => ((pH).between w.two v hv).1
  generalize hLL : rT.map (lowF least) = L at *
  generalize hHH : r.map (highF least) = Hh at *
  let I : Nat → En → Prop := fun k env => ∃ (x : List Int) (d' : PyData) (x8 x9 x10 x11 x12 x13 : Option Sl), env = EP d' (some (0, mapD n ts)) (some (0, .int (one : Nat))) (some (0, .int (other : Nat))) (some (0, .int least)) L (htD Hh) x x8 x9 x10 x11 x12 x13 ∧ Box (m + 2 * k) d' ∧ Pf n ts one other least x ∧ ∀ v, v < n → L.getD v 0 ≤ x.getD v 0
  obtain ⟨env', l1, x, d', x8, x9, x10, x11, x12, x13, rfl, hb', px, lx⟩ := forN (g := gNm 8) (b := b__law_drawn_proof_3) I (rgD 0 3) (EP d (some (0, mapD n ts)) (some (0, .int (one : Nat))) (some (0, .int (other : Nat))) (some (0, .int least)) L (htD Hh) Hh none none none none none none)
    ⟨Hh, d, _, _, _, _, _, _, rfl, hb.up (by omega), pH, lH⟩ (by
      rintro k z env hz ⟨x, d', x8, x9, x10, x11, x12, x13, rfl, hb', px, lx⟩
      obtain ⟨rfl, hk⟩ := rgD_get hz
      obtain ⟨x', d'', y9, y10, y11, y12, y13, px', lx', hb'', e⟩ := dp_3 w hb' (by omega) (htD Hh) (some (0, .int (0 + (k : Nat)))) x9 x10 x11 x12 x13 pL px lx (some (0, .int (one : Nat))) (some (0, .int (other : Nat))) (some (0, .int least))
      exact ⟨_, rfl, _, e, x', d'', _, _, _, _, _, _, rfl, hb''.up (by omega), px', lx'⟩)
  rw [rgD_len] at hb'
  have ok3 : okR (3 : Int) = true := by unfold okR; exact decI (by omega)
  refine ⟨x, d', px, hb'.up (by simp), ?_⟩
  have body : b__law_drawn_proof [some (1, d), some (0, mapD n ts), some (0, .int (one : Nat)), some (0, .int (other : Nat)), some (0, .int least), none, none, none, none, none, none, none, none, none] = some (.rt (0, htD x), EP d' (some (0, mapD n ts)) (some (0, .int (one : Nat))) (some (0, .int (other : Nat))) (some (0, .int least)) L (htD Hh) x x8 x9 x10 x11 x12 x13) := by
    unfold b__law_drawn_proof
    rw [dSeq_go (e := [some (1, d), some (0, mapD n ts), some (0, .int (one : Nat)), some (0, .int (other : Nat)), some (0, .int least), some (0, htD L), some (0, htD Hh), none, none, none, none, none, none, none]) (by simp [ee])]
    rw [dSeq_go (e := EP d (some (0, mapD n ts)) (some (0, .int (one : Nat))) (some (0, .int (other : Nat))) (some (0, .int least)) L (htD Hh) Hh none none none none none none) (by simp [htD])]
    rw [dSeq_go (e := EP d' (some (0, mapD n ts)) (some (0, .int (one : Nat))) (some (0, .int (other : Nat))) (some (0, .int least)) L (htD Hh) x x8 x9 x10 x11 x12 x13) (by rw [dFor_ap]; simp [ok3]; exact l1)]
    simp [htD]
  simp [D__law_drawn_proof_eq, fnSem_ap, body]
theorem proved_ok (w : Wo n ts ts' one other least r rT) {x : List Int} (p : Pf n ts one other least x) : D_proved [(0, mapD n ts), (0, .int (one : Nat)), (0, .int (other : Nat)), (0, htD x)] = some ((0, .int least), []) := by
  rw [proved_opt w.m p.len w.h1 w.h2]
  unfold pvO
  rw [if_pos p.v, p.o, p.t, Int.sub_zero]
  rfl
end
end Dn.W

set_option Elab.async false
set_option linter.all false
set_option maxRecDepth 100000
set_option maxHeartbeats 4000000
namespace Dn.W
open PySem PySem.Spec PyProof.Rows L2 Dn
theorem sm_ints {x : List Int} (h : x.length ≤ 1000000) : Sm 1 (htD x) := .tuple (by simpa using h) fun d hd => by
  obtain ⟨i, _, rfl⟩ := List.mem_map.mp hd
  exact .int i
theorem sm_two {x y : List Int} (h : x.length ≤ 1000000) (h' : y.length ≤ 1000000) : Sm 5 (.list [htD x, htD y]) := .list (by simp) fun d hd => by
  simp only [List.mem_cons, List.not_mem_nil, or_false] at hd
  rcases hd with rfl | rfl
  · exact (sm_ints h).up (by omega)
  · exact (sm_ints h').up (by omega)
theorem same_two {x y : List Int} (h : x.length ≤ 1000000) (h' : y.length ≤ 1000000) : D__law_same [(0, .list [htD x, htD y]), (0, .list [htD x, htD y])] = some ((0, .bool true), []) := same_refl (sm_two h h')
theorem same_bool (b : Bool) : D__law_same [(0, .bool b), (0, .bool b)] = some ((0, .bool true), []) := same_refl (.bool b)
theorem same_int (i : Int) : D__law_same [(0, .int i), (0, .int i)] = some ((0, .bool true), []) := same_refl (.int i)
theorem same_tt : D__law_same [(0, .list [.bool true, .bool true]), (0, .list [.bool true, .bool true])] = some ((0, .bool true), []) := same_refl (.list (by simp) fun d hd => by
  simp only [List.mem_cons, List.not_mem_nil, or_false] at hd
  rcases hd with rfl | rfl <;> exact .bool _)
theorem same_rep {k : Nat} (h : k ≤ 1000000) : D__law_same [(0, .list (List.replicate k (.bool true))), (0, .list (List.replicate k (.bool true)))] = some ((0, .bool true), []) := same_refl (.list (by simpa using h) fun d hd => by
  rw [(List.mem_replicate.mp hd).2]; exact .bool _)
theorem image_list {α : Type} {f : α → PyData} {l : List α} : ∀ {xs : List PyData}, (∀ x ∈ xs, x ∈ l.map f) → ∃ ys : List α, xs = ys.map f ∧ ∀ y ∈ ys, y ∈ l
  | [], _ => ⟨[], rfl, fun y h => by cases h⟩
  | x :: xs, h => by
    obtain ⟨y, hy, e⟩ := List.mem_map.mp (h x List.mem_cons_self)
    obtain ⟨ys, e2, h2⟩ := image_list (f := f) (l := l) (xs := xs) fun z hz => h z (List.mem_cons_of_mem _ hz)
    exact ⟨y :: ys, by rw [List.map_cons, e, e2], fun z hz => by
      rcases List.mem_cons.mp hz with rfl | hz
      · exact hy
      · exact h2 z hz⟩
theorem sh_ht (x : List Int) : SeqAt.shaped (htD x) = true := by
  obtain ⟨h1, h2⟩ := lay_opt (x.map some)
  rw [List.map_map] at h1 h2
  have e : (optD ∘ some) = PyData.int := rfl
  rw [e] at h1 h2
  unfold SeqAt.shaped htD
  simp only [PyData.canLay0, PyData.depth, h1, h2]
  decide
theorem eqvAll_ints (x : List Int) : PyData.eqvAll (x.map PyData.int) (x.map PyData.int) = true := by
  have := eqv_rows (x.map some) (x.map some)
  rw [List.map_map] at this
  have e : (optD ∘ some) = PyData.int := rfl
  rw [e] at this
  rw [this]; simp
theorem gNe_ht (x : List Int) : gNe (htD x) (htD x) = some (.bool false) := by
  unfold gNe
  rw [if_pos ⟨sh_ht x, sh_ht x⟩]
  unfold htD
  simp only [PyData.eqv, eqvAll_ints]
  rfl
theorem sh_nats (W : List Nat) : SeqAt.shaped (.list (natsD W)) = true := by rw [natsD_ints]; exact sh_ints _
theorem notin_nats (k : Nat) (W : List Nat) : gNotIn (.int (k : Nat)) (.list (natsD W)) = some (.bool (!decide (k ∈ W))) := by
  unfold gNotIn gOr gInL
  simp only
  rw [if_pos ⟨by rfl, sh_nats W⟩]
  have : ((natsD W).any fun z => PyData.eqv z (.int (k : Nat))) = decide (k ∈ W) := by
    unfold natsD
    rw [List.any_map, Bool.eq_iff_iff, List.any_eq_true, decide_eq_true_eq]
    constructor
    · rintro ⟨w, hw, e⟩
      have e' : (w : Int) = k := by simpa [PyData.eqv] using e
      have : w = k := by omega
      rw [← this]; exact hw
    · intro h
      exact ⟨k, h, by simp [PyData.eqv]⟩
  simp [this]
theorem gNe_nats (W : List Nat) : gNe (.list (natsD W)) (.list []) = some (.bool (!W.isEmpty)) := by
  unfold gNe
  rw [if_pos ⟨sh_nats W, by rfl⟩]
  cases W <;> rfl
/-! the least and the greatest of a column -/
theorem foldl_min_eq : ∀ (ns : List Int) (n y : Int), (∀ z ∈ n :: ns, y ≤ z) → y ∈ n :: ns → ns.foldl min n = y
  | [], n, y, h, m => by rw [List.mem_singleton.mp m]; rfl
  | a :: ns, n, y, h, m => by
    rw [List.foldl_cons]
    refine foldl_min_eq ns (min n a) y (fun z hz => ?_) ?_
    · rcases List.mem_cons.mp hz with rfl | hz
      · have h1 := h n List.mem_cons_self
        have h2 := h a (List.mem_cons_of_mem _ List.mem_cons_self)
        omega
      · exact h z (List.mem_cons_of_mem _ (List.mem_cons_of_mem _ hz))
    · have h1 := h n List.mem_cons_self
      have h2 := h a (List.mem_cons_of_mem _ List.mem_cons_self)
      rcases List.mem_cons.mp m with rfl | m
      · rw [show min y a = y by omega]; exact List.mem_cons_self
      · rcases List.mem_cons.mp m with rfl | m
        · rw [show min n y = y by omega]; exact List.mem_cons_self
        · exact List.mem_cons_of_mem _ m
theorem foldl_max_eq : ∀ (ns : List Int) (n y : Int), (∀ z ∈ n :: ns, z ≤ y) → y ∈ n :: ns → ns.foldl max n = y
  | [], n, y, h, m => by rw [List.mem_singleton.mp m]; rfl
  | a :: ns, n, y, h, m => by
    rw [List.foldl_cons]
    refine foldl_max_eq ns (max n a) y (fun z hz => ?_) ?_
    · rcases List.mem_cons.mp hz with rfl | hz
      · have h1 := h n List.mem_cons_self
        have h2 := h a (List.mem_cons_of_mem _ List.mem_cons_self)
        omega
      · exact h z (List.mem_cons_of_mem _ (List.mem_cons_of_mem _ hz))
    · have h1 := h n List.mem_cons_self
      have h2 := h a (List.mem_cons_of_mem _ List.mem_cons_self)
      rcases List.mem_cons.mp m with rfl | m
      · rw [show max y a = y by omega]; exact List.mem_cons_self
      · rcases List.mem_cons.mp m with rfl | m
        · rw [show max n y = y by omega]; exact List.mem_cons_self
        · exact List.mem_cons_of_mem _ m
theorem gMinL_col {l : List Int} {y : Int} (h : ∀ z ∈ l, y ≤ z) (m : y ∈ l) : gMinL (.list (l.map PyData.int)) = some (.int y) := by
  cases l with
  | nil => cases m
  | cons a as =>
    unfold gMinL
    simp only [intsD_map]
    rw [foldl_min_eq as a y h m]
theorem gMaxS_col {l : List Int} {y : Int} (h : ∀ z ∈ l, z ≤ y) (m : y ∈ l) : gMaxS (.list (l.map PyData.int)) = some (.int y) := by
  cases l with
  | nil => cases m
  | cons a as =>
    unfold gMaxS
    simp only [intsD_map]
    rw [foldl_max_eq as a y h m]
/-! a proof with one place changed -/
def nearI (x : List Int) (at_ : Nat) (by_ : Int) : List Int := x.take at_ ++ [x.getD at_ 0 + by_] ++ x.drop (at_ + 1)
theorem near_len {x : List Int} {a : Nat} (h : a < x.length) (b : Int) : (nearI x a b).length = x.length := by
  unfold nearI
  simp only [List.length_append, List.length_take, List.length_drop, List.length_singleton]
  omega
end Dn.W

set_option Elab.async false
set_option linter.all false
set_option maxRecDepth 100000
set_option maxHeartbeats 4000000
namespace Dn.W
open PySem PySem.Spec PyProof.Rows L2 Dn
abbrev EQ (d M : PyData) (one other : Nat) (nm : Bool) (least : Int) (L H : PyData) (x8 x9 x10 x11 x12 x13 x14 x15 x16 x17 x18 x19 x20 x21 : Option Sl) : En :=
  [some (1, d), some (0, M), some (0, .int (one : Nat)), some (0, .int (other : Nat)), some (0, .bool nm), some (0, .int least), some (0, L), some (0, H), x8, x9, x10, x11, x12, x13, x14, x15, x16, x17, x18, x19, x20, x21, none, none, none, none, none, none, none]
section
variable {n : Nat} {ts ts' : List Tie} {one other : Nat} {least : Int} {r rT : Row}
theorem pr_T4 (w : Wo n ts ts' one other least r rT) (d : PyData) (nm : Bool) (L H : PyData) :
    ∃ rd : PyData, (rd = .none ∨ ∃ rows : List (List Int), AllI n ts one other least n rows ∧ rows.length ≤ 400 ∧ rd = .list (rows.map htD)) ∧
     dSet 8 (dIf (dtAnd (tst (dOf (dBin gLt' (dVar 5) (dC (.int 9))))) (tst (dOf (dBin gLt' (dBin gIx (dVar 1) (dC (.int 0))) (dC (.int 6)))))) (dFz (dCall D__law_all [false, false, false, false] (rVal (dOf (dVar 1)) (rVal (dOf (dVar 2)) (rVal (dOf (dVar 3)) (rVal (dOf (dVar 5)) rNil)))))) (dOf (dC .none)))
      (EQ d (mapD n ts) one other nm least L H none none none none none none none none none none none none none none) = some (.nx, EQ d (mapD n ts) one other nm least L H (some (0, rd)) none none none none none none none none none none none none none) := by
  by_cases q1 : least < 9
  · by_cases q2 : (n : Int) < 6
    · obtain ⟨res, e, h⟩ := all_spec w.m w.two.l0 q1 w.ne
      exact ⟨res, h, by simp [q1, q2, map_0, e]⟩
    · exact ⟨.none, .inl rfl, by simp [q1, q2, map_0]⟩
  · exact ⟨.none, .inl rfl, by simp [q1]⟩
theorem pr_T5 (w : Wo n ts ts' one other least r rT) (d : PyData) (nm : Bool) (rd : PyData) (hrd : rd = .none ∨ ∃ rows : List (List Int), AllI n ts one other least n rows ∧ rows.length ≤ 400 ∧ rd = .list (rows.map htD)) :
    ∃ x9 : Option Sl, dIfS (tst (dOf (dBin gIsNot (dVar 8) (dC .none))))
  (dSeq (dSetO 9 (dLc (iRg1 (dCons (dOf (dBin gIx (dVar 1) (dC (.int 0)))) dNil)) [22] (gNm 22) (dtYes) (dFz (dLc (iSeq (dOf (dVar 8))) [23] (gNm 23) (dtYes) (dOf (dBin gIx (dVar 23) (dVar 22)))))))
  (dIfS (dtOr (tst (dBinEP gNe (dUnE gTuple (dFz (dBor (dLc (iSeq (dFrzV 9)) [24] (gNm 24) (dtYes) (dOf (dUn gMinL (dVar 24))))))) (dVar 6))) (tst (dBinEP gNe (dUnE gTuple (dFz (dBor (dLc (iSeq (dFrzV 9)) [24] (gNm 24) (dtYes) (dOf (dUn gMaxS (dVar 24))))))) (dVar 7))))
  (dRet (dUp (dOf (dC (.bool false)))))
  (dNext)))
  (dNext)
      (EQ d (mapD n ts) one other nm least (htD (rT.map (lowF least))) (htD (r.map (highF least))) (some (0, rd)) none none none none none none none none none none none none none) = some (.nx, EQ d (mapD n ts) one other nm least (htD (rT.map (lowF least))) (htD (r.map (highF least))) (some (0, rd)) x9 none none none none none none none none none none none none) := by
  have hz := sizeLine_big
  have n1 := w.m.n1
  rcases hrd with rfl | ⟨rows, hA, hl, rfl⟩
  · exact ⟨none, by simp⟩
  have pL := low_pf w.two
  have pH := high_pf w.two
  have bt := fun x (p : Pf n ts one other least x) => p.between w.two
  have rp : ∀ x ∈ rows, Pf n ts one other least x := fun x hx => (hA.p x hx).pf w.m.ok w.h1 w.h2
  have inr : ∀ x, Pf n ts one other least x → x ∈ rows := fun x p => by
    have := hA.c x p
    rwa [List.take_of_length_le (by rw [p.len]; exact Nat.le_refl _)] at this
  generalize rT.map (lowF least) = L at *
  generalize r.map (highF least) = Hh at *
  have okn : okR (n : Int) = true := by unfold okR; exact decI (by omega)
  let col : Nat → List Int := fun p => rows.map fun row => row.getD p 0
  have lin : ∀ p : Nat, p < n → ∀ E : En, E = (EQ d (mapD n ts) one other nm least (htD L) (htD Hh) (some (0, .list (rows.map htD))) none none none none none none none none none none none none none).set 22 (some (0, .int (p : Nat))) →
      dLcL [23] (gNm 23) dtYes (dOf (dBin gIx (dVar 23) (dVar 22))) (rows.map htD) E [] = some ((col p).map PyData.int, E) := by
    rintro p hp E rfl
    rw [lcT htD (fun row => .int (row.getD p 0)) _ rows (by omega)]
    · show _ = some ((rows.map fun row => row.getD p 0).map PyData.int, _)
      rw [List.map_map]; rfl
    · intro row hr
      have a := ht_int (hs := row) (k := p) (by rw [(rp row hr).len]; exact hp)
      exact ⟨_, rfl, by simp, by simp, by simp [a, -List.getD_eq_getElem?_getD]⟩
  have lout : ∀ E : En, E = EQ d (mapD n ts) one other nm least (htD L) (htD Hh) (some (0, .list (rows.map htD))) none none none none none none none none none none none none none →
      dLcL [22] (gNm 22) dtYes (dFz (dLc (iSeq (dOf (dVar 8))) [23] (gNm 23) (dtYes) (dOf (dBin gIx (dVar 23) (dVar 22))))) (rgD 0 (n : Int)) E [] = some ((List.range n).map fun p => .list ((col p).map PyData.int), E) := by
    rintro E rfl
    rw [rgD_nat, lcT (fun o : Nat => .int (o : Nat)) (fun p => .list ((col p).map PyData.int)) _ (List.range n) (by rw [List.length_range]; omega)]
    intro p hp
    have e := lin p (List.mem_range.mp hp) _ rfl
    simp only [List.set_cons_succ, List.set_cons_zero] at e
    exact ⟨_, rfl, by simp, by simp, by simp [e, -List.map_map]⟩
  have lout' := lout _ rfl
  have lmin : ∀ E : En, E = [some (0, d), some (0, mapD n ts), some (0, .int (one : Nat)), some (0, .int (other : Nat)), some (0, .bool nm), some (0, .int least), some (0, htD L), some (0, htD Hh), some (0, .list (rows.map htD)), some (0, .list ((List.range n).map fun p => .list ((col p).map PyData.int))), none, none, none, none, none, none, none, none, none, none, none, none, none, none, none, none, none, none, none] →
      dLcL [24] (gNm 24) dtYes (dOf (dUn gMinL (dVar 24))) ((List.range n).map fun p => .list ((col p).map PyData.int)) E [] = some (L.map PyData.int, E) := by
    rintro E rfl
    rw [lcT (fun p : Nat => .list ((col p).map PyData.int)) (fun p => .int (L.getD p 0)) _ (List.range n) (by rw [List.length_range]; omega)]
    · congr 2
      refine List.ext_getElem (by simp [pL.len]) fun i i1 i2 => ?_
      simp only [List.length_map] at i2
      rw [List.getElem_map, List.getElem_map, List.getElem_range, getD_lt i2]
    · intro p hp
      have hp' := List.mem_range.mp hp
      have e : gMinL (.list ((col p).map PyData.int)) = some (.int (L.getD p 0)) := gMinL_col (fun z hz' => by
        obtain ⟨row, hr, rfl⟩ := List.mem_map.mp hz'
        exact (bt row (rp row hr) p hp').1) (List.mem_map.mpr ⟨L, inr L pL, rfl⟩)
      exact ⟨_, rfl, by simp, by simp, by simp [e, -List.map_map, -List.getD_eq_getElem?_getD]⟩
  have lmax : ∀ E : En, E = [some (0, d), some (0, mapD n ts), some (0, .int (one : Nat)), some (0, .int (other : Nat)), some (0, .bool nm), some (0, .int least), some (0, htD L), some (0, htD Hh), some (0, .list (rows.map htD)), some (0, .list ((List.range n).map fun p => .list ((col p).map PyData.int))), none, none, none, none, none, none, none, none, none, none, none, none, none, none, none, none, none, none, none] →
      dLcL [24] (gNm 24) dtYes (dOf (dUn gMaxS (dVar 24))) ((List.range n).map fun p => .list ((col p).map PyData.int)) E [] = some (Hh.map PyData.int, E) := by
    rintro E rfl
    rw [lcT (fun p : Nat => .list ((col p).map PyData.int)) (fun p => .int (Hh.getD p 0)) _ (List.range n) (by rw [List.length_range]; omega)]
    · congr 2
      refine List.ext_getElem (by simp [pH.len]) fun i i1 i2 => ?_
      simp only [List.length_map] at i2
      rw [List.getElem_map, List.getElem_map, List.getElem_range, getD_lt i2]
    · intro p hp
      have hp' := List.mem_range.mp hp
      have e : gMaxS (.list ((col p).map PyData.int)) = some (.int (Hh.getD p 0)) := gMaxS_col (fun z hz' => by
        obtain ⟨row, hr, rfl⟩ := List.mem_map.mp hz'
        exact (bt row (rp row hr) p hp').2) (List.mem_map.mpr ⟨Hh, inr Hh pH, rfl⟩)
      exact ⟨_, rfl, by simp, by simp, by simp [e, -List.map_map, -List.getD_eq_getElem?_getD]⟩
  have lmin' := lmin _ rfl
  have lmax' := lmax _ rfl
  have nl := gNe_ht L
  have nh := gNe_ht Hh
  generalize ((List.range n).map fun p => PyData.list ((col p).map PyData.int)) = C at *
  have fl : ∀ x : List Int, ((x.map PyData.int).all flatD) = true := fun x => by rw [List.all_map, List.all_eq_true]; intro i _; rfl
  have fL := fl L
  have fH := fl Hh
  have hL : htD L = .tuple (L.map PyData.int) := rfl
  have hH : htD Hh = .tuple (Hh.map PyData.int) := rfl
  rw [hL] at nl; rw [hH] at nh
  simp only [hL, hH] at lout' lmin' lmax' ⊢
  generalize L.map PyData.int = LL at *
  generalize Hh.map PyData.int = HL at *
  generalize rows.map htD = RR at *
  refine ⟨some (1, .list C), ?_⟩
  simp [map_0, okn, lout', lmin', lmax', nl, nh, fL, fH]
end
end Dn.W

set_option Elab.async false
set_option linter.all false
set_option maxRecDepth 100000
set_option maxHeartbeats 4000000
namespace Dn.W
open PySem PySem.Spec PyProof.Rows L2 Dn
section
variable {n : Nat} {ts ts' : List Tie} {one other : Nat} {least : Int} {r rT : Row}
theorem pr_T6 (w : Wo n ts ts' one other least r rT) {m : Int} {d : PyData} (hb : Box m d) (hm : m + 2000 < 10 ^ 11) (nm : Bool) (x9 : Option Sl) (rd : PyData) (hrd : rd = .none ∨ ∃ rows : List (List Int), AllI n ts one other least n rows ∧ rows.length ≤ 400 ∧ rd = .list (rows.map htD)) :
    ∃ (R : List (List Int)) (d' : PyData), R ≠ [] ∧ R.length ≤ 400 ∧ (∀ x ∈ R, Pf n ts one other least x) ∧ Box (m + 24) d' ∧
     dSet 8 (dIf (tst (dOf (dBin gIsNot (dVar 8) (dC .none)))) (dOf (dVar 8)) (dBinEP gAdd (dFz (dLc (iRg1 (dCons (dOf (dC (.int 4))) dNil)) [25] (gNm 25) (dtYes) (dFz (dCall D__law_drawn_proof [true, false, false, false, false] (rRef 0 (rVal (dOf (dVar 1)) (rVal (dOf (dVar 2)) (rVal (dOf (dVar 3)) (rVal (dOf (dVar 5)) rNil))))))))) (dLstP (pCons (dVar 6) (pCons (dVar 7) pNil)))))
      (EQ d (mapD n ts) one other nm least (htD (rT.map (lowF least))) (htD (r.map (highF least))) (some (0, rd)) x9 none none none none none none none none none none none none) = some (.nx, EQ d' (mapD n ts) one other nm least (htD (rT.map (lowF least))) (htD (r.map (highF least))) (some (0, .list (R.map htD))) x9 none none none none none none none none none none none none) := by
  have hz := sizeLine_big
  have pL := low_pf w.two
  have pH := high_pf w.two
  rcases hrd with rfl | ⟨rows, hA, hl, rfl⟩
  · obtain ⟨a1, d1, p1, hb1, e1⟩ := drawn_proof_spec w hb (by omega)
    obtain ⟨a2, d2, p2, hb2, e2⟩ := drawn_proof_spec w hb1 (by omega)
    obtain ⟨a3, d3, p3, hb3, e3⟩ := drawn_proof_spec w hb2 (by omega)
    obtain ⟨a4, d4, p4, hb4, e4⟩ := drawn_proof_spec w hb3 (by omega)
    generalize rT.map (lowF least) = L at *
    generalize r.map (highF least) = Hh at *
    have ok4 : okR (4 : Int) = true := by unfold okR; exact decI (by omega)
    have rg : rgD 0 4 = [.int 0, .int 1, .int 2, .int 3] := rfl
    have z0 : 0 < sizeLine := by omega
    have z1 : 1 < sizeLine := by omega
    have z2 : 2 < sizeLine := by omega
    have z3 : 3 < sizeLine := by omega
    have z2' : 2 ≤ sizeLine := by omega
    refine ⟨[a1, a2, a3, a4, L, Hh], d4, by simp, by simp, ?_, hb4.up (by omega), ?_⟩
    · intro x hx
      simp only [List.mem_cons, List.not_mem_nil, or_false] at hx
      rcases hx with rfl | rfl | rfl | rfl | rfl | rfl <;> assumption
    · have ga : gAdd (.list [htD a1, htD a2, htD a3, htD a4]) (.list [htD L, htD Hh]) = some (.list [htD a1, htD a2, htD a3, htD a4, htD L, htD Hh]) := by
        rw [gAdd_list _ _ (by simp; omega)]; rfl
      simp [ok4, rg, dLcL_cons, e1, e2, e3, e4, z0, z1, z2, z3, z2', ga]
  · refine ⟨rows, d, ?_, hl, fun x hx => (hA.p x hx).pf w.m.ok w.h1 w.h2, hb.up (by omega), by simp⟩
    have := hA.c _ pL
    exact List.ne_nil_of_mem this
theorem pr_T7 {m : Int} {d M : PyData} (hb : Box m d) (hm : m + 2000 < 10 ^ 11) (nm : Bool) (L H : PyData) (x9 : Option Sl) {R : List (List Int)} (hR : R ≠ []) (hl : R.length ≤ 400) {P : List Int → Prop} (hp : ∀ x ∈ R, P x) :
    ∃ (S : List (List Int)) (d' : PyData), S.length ≤ 6 ∧ (∀ x ∈ S, P x) ∧ Box (m + 400) d' ∧
      dSet 10 (dSl (dFz (dCall D__law_mixed [true, false] (rRef 0 (rVal (dOf (dVar 8)) rNil)))) (dNoPart) (dPart (dOf (dC (.int 6)))))
      (EQ d M one other nm least L H (some (0, .list (R.map htD))) x9 none none none none none none none none none none none none) = some (.nx, EQ d' M one other nm least L H (some (0, .list (R.map htD))) x9 (some (0, .list (S.map htD))) none none none none none none none none none none none) := by
  obtain ⟨res, d', pr, hb', e⟩ := mixed_spec (ds := R.map htD) hb (by rw [List.length_map]; omega) (by rw [List.length_map]; omega)
  rw [List.length_map] at hb'
  obtain ⟨ys, rfl, hys⟩ := image_list (f := htD) (l := R) (xs := res) fun x hx => pr.mem_iff.mp hx
  have c : cutD (ys.map htD) none (some 6) = (ys.take 6).map htD := by rw [cutD_to _ (by decide), ← List.map_take]; rfl
  refine ⟨ys.take 6, d', by rw [List.length_take]; omega, fun x hx => hp x (hys x (List.mem_of_mem_take hx)), hb'.up (by omega), ?_⟩
  simp [e, c, -List.map_take]
theorem pr_1 (w : Wo n ts ts' one other least r rT) {m : Int} {d : PyData} (hb : Box m d) (hm : m + 2000 < 10 ^ 11) (nm : Bool) (L H : PyData) {x : List Int} (p : Pf n ts one other least x) (x8 x9 x10 x12 x13 x14 x15 x16 x17 x18 x19 x20 x21 : Option Sl) :
    ∃ (d' : PyData) (y12 y13 y14 : Option Sl), Box (m + 2) d' ∧
      b__law_pair_right_1 (EQ d (mapD n ts) one other nm least L H x8 x9 x10 (some (0, htD x)) x12 x13 x14 x15 x16 x17 x18 x19 x20 x21) = some (.nx, EQ d' (mapD n ts) one other (!nm) least L H x8 x9 x10 (some (0, htD x)) y12 y13 y14 x15 x16 x17 x18 x19 x20 x21) := by
  have hz := sizeLine_big
  have n0 := w.m.n0
  have n1 := w.m.n1
  have z3 : 3 ≤ sizeLine := by omega
  have z1 : 1 ≤ sizeLine := by omega
  have hl := p.len
  have i1 := law_is_ok (least := least) w.m w.h1 w.h2 hl
  have t1 := taken_ok w hl nm
  rw [(pf_iff hl).mpr p] at i1 t1
  obtain ⟨v, d1, v0, v1, hb1, e1⟩ := take_spec (many := (n : Nat)) hb (by omega) (by omega) (by omega)
  obtain ⟨by_, d2, _, hb2, e2⟩ := pick_ints [1, -1, 2] hb1 (by omega) (by simp) (by simp)
  simp only [List.map_cons, List.map_nil] at e2
  obtain ⟨a, rfl⟩ : ∃ a : Nat, v = a := ⟨v.toNat, by omega⟩
  have ha : a < x.length := by omega
  have nl := near_len ha by_
  have i2 := law_is_ok (least := least) (x := nearI x a by_) w.m w.h1 w.h2 (by rw [nl, hl])
  have t2 := taken_ok w (x := nearI x a by_) (by rw [nl, hl]) (!nm)
  have s1 := same_bool true
  have s2 := same_bool (pfB ts one other least (nearI x a by_))
  have c1 : cutD (x.map PyData.int) none (some (a : Int)) = (x.take a).map PyData.int := by rw [cutD_to _ (by omega), ← List.map_take]; rfl
  have c2 : cutD (x.map PyData.int) (some ((a : Int) + 1)) none = (x.drop (a + 1)).map PyData.int := by
    rw [cutD_from _ (by omega) (by rw [List.length_map]; omega), ← List.map_drop]
    rfl
  have ai := atI_ints (hs := x) (i := a) ha
  have g1 : gAdd (.tuple ((x.take a).map PyData.int)) (.tuple [.int (x.getD a 0 + by_)]) = some (.tuple ((x.take a).map PyData.int ++ [.int (x.getD a 0 + by_)])) := gAdd_tuple _ _ (by simp; omega)
  have g2 : gAdd (.tuple ((x.take a).map PyData.int ++ [.int (x.getD a 0 + by_)])) (.tuple ((x.drop (a + 1)).map PyData.int)) = some (htD (nearI x a by_)) := by
    rw [gAdd_tuple _ _ (by simp; omega)]
    simp [htD, nearI]
  refine ⟨d2, some (0, .int (a : Nat)), some (0, .int by_), some (0, htD (nearI x a by_)), hb2.up (by omega), ?_⟩
  have hx : htD x = .tuple (x.map PyData.int) := rfl
  generalize nearI x a by_ = nx at *
  unfold b__law_pair_right_1
  rw [dSeq_go (e := EQ d (mapD n ts) one other nm least L H x8 x9 x10 (some (0, htD x)) x12 x13 x14 x15 x16 x17 x18 x19 x20 x21) (by simp [i1, t1, s1])]
  rw [dSeq_go (e := EQ d2 (mapD n ts) one other nm least L H x8 x9 x10 (some (0, htD x)) (some (0, .int (a : Nat))) (some (0, .int by_)) x14 x15 x16 x17 x18 x19 x20 x21) (by simp [map_0, e1, e2, z3])]
  rw [dSeq_go (e := EQ d2 (mapD n ts) one other nm least L H x8 x9 x10 (some (0, htD x)) (some (0, .int (a : Nat))) (some (0, .int by_)) (some (0, htD nx)) x15 x16 x17 x18 x19 x20 x21) (by
    rw [hx]
    generalize htD nx = NX at *
    generalize x.getD a 0 = xa at *
    generalize (x.take a).map PyData.int = X1 at *
    generalize (x.drop (a + 1)).map PyData.int = X2 at *
    generalize x.map PyData.int = X at *
    simp [c1, c2, ai, z1, g1, g2])]
  generalize pfB ts one other least nx = pb at *
  rw [dSeq_go (e := EQ d2 (mapD n ts) one other nm least L H x8 x9 x10 (some (0, htD x)) (some (0, .int (a : Nat))) (some (0, .int by_)) (some (0, htD nx)) x15 x16 x17 x18 x19 x20 x21) (by
    generalize htD nx = NX at *
    cases nm <;> simp at t2 <;> simp [i2, t2, s2])]
  cases nm <;> simp
theorem pr_T8 (w : Wo n ts ts' one other least r rT) {m : Int} {d : PyData} (hb : Box m d) (hm : m + 3000 < 10 ^ 11) (nm : Bool) (L H : PyData) {S : List (List Int)} (hl : S.length ≤ 6) (hp : ∀ x ∈ S, Pf n ts one other least x) (x8 x9 : Option Sl) :
    ∃ (d' : PyData) (nm' : Bool) (y11 y12 y13 y14 : Option Sl), (∀ s, y11 = some s → s.1 = 0) ∧ Box (m + 12) d' ∧
      dFor (iSeq (dOf (dVar 10))) (gNm 11) b__law_pair_right_1 (EQ d (mapD n ts) one other nm least L H x8 x9 (some (0, .list (S.map htD))) none none none none none none none none none none none) = some (.nx, EQ d' (mapD n ts) one other nm' least L H x8 x9 (some (0, .list (S.map htD))) y11 y12 y13 y14 none none none none none none none) := by
  let I : Nat → En → Prop := fun k env => ∃ (d' : PyData) (nm' : Bool) (y11 y12 y13 y14 : Option Sl), env = EQ d' (mapD n ts) one other nm' least L H x8 x9 (some (0, .list (S.map htD))) y11 y12 y13 y14 none none none none none none none ∧ Box (m + 2 * k) d' ∧ ∀ s, y11 = some s → s.1 = 0
  obtain ⟨env', l1, d', nm', y11, y12, y13, y14, rfl, hb', h11⟩ := forN (g := gNm 11) (b := b__law_pair_right_1) I (S.map htD) (EQ d (mapD n ts) one other nm least L H x8 x9 (some (0, .list (S.map htD))) none none none none none none none none none none none)
    ⟨d, nm, _, _, _, _, rfl, hb.up (by omega), fun s h => by cases h⟩ (by
      rintro k z env hz ⟨d', nm', y11, y12, y13, y14, rfl, hb', _⟩
      rw [List.getElem?_map] at hz
      cases hx : S[k]? with
      | none => rw [hx] at hz; cases hz
      | some x =>
        rw [hx] at hz; cases hz
        have hk := (List.getElem?_eq_some_iff.mp hx).1
        obtain ⟨d'', w12, w13, w14, hb'', e⟩ := pr_1 w hb' (by omega) nm' L H (hp x (List.mem_of_getElem? hx)) x8 x9 (some (0, .list (S.map htD))) y12 y13 y14 none none none none none none none
        exact ⟨_, rfl, _, e, d'', !nm', _, _, _, _, rfl, hb''.up (by omega), fun s h => by cases h; rfl⟩)
  rw [List.length_map] at hb'
  refine ⟨d', nm', y11, y12, y13, y14, h11, hb'.up (by omega), ?_⟩
  rw [dFor_ap]
  simp only [iSeq_ap, dOf_ap, dVar_ap]
  exact l1
end
end Dn.W

set_option Elab.async false
set_option linter.all false
set_option maxRecDepth 100000
set_option maxHeartbeats 4000000
namespace Dn.W
open PySem PySem.Spec PyProof.Rows L2 Dn
section
variable {n : Nat} {ts ts' : List Tie} {one other : Nat} {least : Int} {r rT : Row}
theorem cut1 (ds : List PyData) : cutD ds (some 1) none = ds.drop 1 := by
  cases ds with
  | nil => rfl
  | cons a as => rw [cutD_from _ (by decide) (by simp; omega)]; rfl
theorem zipD_ints : ∀ x y : List Int, zipD (x.map PyData.int) (y.map PyData.int) = (x.zip y).map fun p => .tuple [.int p.1, .int p.2]
  | [], _ => by simp [zipD]
  | _ :: _, [] => by simp [zipD]
  | a :: x, b :: y => by simp [zipD, zipD_ints x y]
theorem mn_hf : ∀ x y x' y' l : Int, x ≤ x' + l → y ≤ y' + l → mnI x y ≤ mnI x' y' + l := by
  intro x y x' y' l h1 h2; unfold mnI; split <;> split <;> omega
theorem mx_hf : ∀ x y x' y' l : Int, x ≤ x' + l → y ≤ y' + l → mxI x y ≤ mxI x' y' + l := by
  intro x y x' y' l h1 h2; unfold mxI; split <;> split <;> omega
theorem mn_hc : ∀ a b : Int, mnI a b = a ∨ mnI a b = b := by intro a b; unfold mnI; split <;> simp
theorem mx_hc : ∀ a b : Int, mxI a b = a ∨ mxI a b = b := by intro a b; unfold mxI; split <;> simp
theorem pr_2 (w : Wo n ts ts' one other least r rT) (d : PyData) (nm : Bool) (L H : PyData) {x : List Int} (p : Pf n ts one other least x) (x8 x9 x10 x12 x13 x14 x15 x16 x17 x18 x19 x20 x21 : Option Sl) :
      b__law_pair_right_2 (EQ d (mapD n ts) one other nm least L H x8 x9 x10 (some (0, htD x)) x12 x13 x14 x15 x16 x17 x18 x19 x20 x21) = some (.nx, EQ d (mapD n ts) one other nm least L H x8 x9 x10 (some (0, htD x)) x12 x13 x14 x15 x16 x17 x18 x19 x20 x21) := by
  have t1 := taken_ok w p.len nm
  rw [(pf_iff p.len).mpr p] at t1
  have s1 := same_bool true
  simp [b__law_pair_right_2, t1, s1]
theorem pr_3 (w : Wo n ts ts' one other least r rT) (d : PyData) (nm : Bool) (L H : PyData) {x y : List Int} (px : Pf n ts one other least x) (py : Pf n ts one other least y) (x8 x9 x10 x11 x12 x13 x14 x17 x18 x19 x20 x21 : Option Sl) :
    ∃ v : PyData, b__law_pair_right_3 (EQ d (mapD n ts) one other nm least L H x8 x9 x10 x11 x12 x13 x14 (some (0, htD x)) (some (0, htD y)) x17 x18 x19 x20 x21) = some (.nx, EQ d (mapD n ts) one other nm least L H x8 x9 x10 (some (0, v)) x12 x13 x14 (some (0, htD x)) (some (0, htD y)) x17 x18 x19 x20 x21) := by
  have hz := sizeLine_big
  have n1 := w.m.n1
  have z2 : 2 ≤ sizeLine := by omega
  have p1 := px.zip mnI mn_hf mn_hc w.m w.h1 w.h2 py
  have p2 := px.zip mxI mx_hf mx_hc w.m w.h1 w.h2 py
  refine ⟨htD (zipI mxI x y), ?_⟩
  have lmn : ∀ E : En, E = EQ d (mapD n ts) one other nm least L H x8 x9 x10 x11 x12 x13 x14 (some (0, htD x)) (some (0, htD y)) x17 x18 x19 x20 x21 →
      dLcL [26, 27] (gTp 2 (gsCons (gNm 26) (gsCons (gNm 27) gsNil))) dtYes (dFn gMin2 (dCons (dOf (dVar 26)) (dCons (dOf (dVar 27)) dNil))) (zipD (x.map PyData.int) (y.map PyData.int)) E [] = some ((zipI mnI x y).map PyData.int, E) := by
    rintro E rfl
    rw [zipD_ints, lcT (fun p : Int × Int => .tuple [.int p.1, .int p.2]) (fun p => .int (mnI p.1 p.2)) _ (x.zip y) (by rw [List.length_zip, px.len, py.len]; omega)]
    · unfold zipI; rw [List.map_map]; rfl
    · intro p _
      exact ⟨(EQ d (mapD n ts) one other nm least L H x8 x9 x10 x11 x12 x13 x14 (some (0, htD x)) (some (0, htD y)) x17 x18 x19 x20 x21).set 26 (some (0, .int p.1)) |>.set 27 (some (0, .int p.2)), by simp, by simp, by simp, by simp [mnI]⟩
  have lmx : ∀ E : En, E = EQ d (mapD n ts) one other nm least L H x8 x9 x10 x11 x12 x13 x14 (some (0, htD x)) (some (0, htD y)) x17 x18 x19 x20 x21 →
      dLcL [26, 27] (gTp 2 (gsCons (gNm 26) (gsCons (gNm 27) gsNil))) dtYes (dFn gMax2 (dCons (dOf (dVar 26)) (dCons (dOf (dVar 27)) dNil))) (zipD (x.map PyData.int) (y.map PyData.int)) E [] = some ((zipI mxI x y).map PyData.int, E) := by
    rintro E rfl
    rw [zipD_ints, lcT (fun p : Int × Int => .tuple [.int p.1, .int p.2]) (fun p => .int (mxI p.1 p.2)) _ (x.zip y) (by rw [List.length_zip, px.len, py.len]; omega)]
    · unfold zipI; rw [List.map_map]; rfl
    · intro p _
      exact ⟨(EQ d (mapD n ts) one other nm least L H x8 x9 x10 x11 x12 x13 x14 (some (0, htD x)) (some (0, htD y)) x17 x18 x19 x20 x21).set 26 (some (0, .int p.1)) |>.set 27 (some (0, .int p.2)), by simp, by simp, by simp, by simp [mxI]⟩
  have lmn' := lmn _ rfl
  have lmx' := lmx _ rfl
  have q1 := pr_2 w d nm L H p1 x8 x9 x10 x12 x13 x14 (some (0, htD x)) (some (0, htD y)) x17 x18 x19 x20 x21
  have q2 := pr_2 w d nm L H p2 x8 x9 x10 x12 x13 x14 (some (0, htD x)) (some (0, htD y)) x17 x18 x19 x20 x21
  unfold b__law_pair_right_3
  rw [dFor_ap]
  have hx : htD x = .tuple (x.map PyData.int) := rfl
  have hy : htD y = .tuple (y.map PyData.int) := rfl
  have h1 : htD (zipI mnI x y) = .tuple ((zipI mnI x y).map PyData.int) := rfl
  have h2 : htD (zipI mxI x y) = .tuple ((zipI mxI x y).map PyData.int) := rfl
  simp only [hx, hy, h1, h2] at lmn' lmx' q1 q2 ⊢
  generalize (zipI mnI x y).map PyData.int = Z1 at *
  generalize (zipI mxI x y).map PyData.int = Z2 at *
  generalize x.map PyData.int = X at *
  generalize y.map PyData.int = Y at *
  simp [lmn', lmx', z2, dForL_cons, q1, q2]
theorem pr_T9 (w : Wo n ts ts' one other least r rT) (d : PyData) (nm : Bool) (L H : PyData) {S : List (List Int)} (hl : S.length ≤ 6) (hp : ∀ x ∈ S, Pf n ts one other least x) (x8 x9 x11 x12 x13 x14 : Option Sl) (h11 : ∀ s, x11 = some s → s.1 = 0) :
    ∃ (y11 y15 y16 : Option Sl), (∀ s, y11 = some s → s.1 = 0) ∧
      dFor (iZipD (dCons (dOf (dVar 10)) (dCons (dSl (dOf (dVar 10)) (dPart (dOf (dC (.int 1)))) (dNoPart)) dNil))) (gTp 2 (gsCons (gNm 15) (gsCons (gNm 16) gsNil))) b__law_pair_right_3 (EQ d (mapD n ts) one other nm least L H x8 x9 (some (0, .list (S.map htD))) x11 x12 x13 x14 none none none none none none none) = some (.nx, EQ d (mapD n ts) one other nm least L H x8 x9 (some (0, .list (S.map htD))) y11 x12 x13 x14 y15 y16 none none none none none) := by
  let I : Nat → En → Prop := fun k env => ∃ (y11 y15 y16 : Option Sl), env = EQ d (mapD n ts) one other nm least L H x8 x9 (some (0, .list (S.map htD))) y11 x12 x13 x14 y15 y16 none none none none none ∧ ∀ s, y11 = some s → s.1 = 0
  obtain ⟨env', l1, y11, y15, y16, rfl, h11'⟩ := forN (g := gTp 2 (gsCons (gNm 15) (gsCons (gNm 16) gsNil))) (b := b__law_pair_right_3) I (zipD (S.map htD) ((S.map htD).drop 1)) (EQ d (mapD n ts) one other nm least L H x8 x9 (some (0, .list (S.map htD))) x11 x12 x13 x14 none none none none none none none)
    ⟨_, _, _, rfl, h11⟩ (by
      rintro k z env hz ⟨y11, y15, y16, rfl, _⟩
      obtain ⟨a, b, ha, hb, rfl⟩ := zipD_get _ _ _ _ hz
      have ha' := List.mem_of_getElem? ha
      have hb' := List.mem_of_mem_drop (List.mem_of_getElem? hb)
      obtain ⟨x, hx, rfl⟩ := List.mem_map.mp ha'
      obtain ⟨y, hy, rfl⟩ := List.mem_map.mp hb'
      obtain ⟨v, e⟩ := pr_3 w d nm L H (hp x hx) (hp y hy) x8 x9 (some (0, .list (S.map htD))) y11 x12 x13 x14 none none none none none
      exact ⟨EQ d (mapD n ts) one other nm least L H x8 x9 (some (0, .list (S.map htD))) y11 x12 x13 x14 (some (0, htD x)) (some (0, htD y)) none none none none none, by simp, _, e, _, _, _, rfl, fun s h => by cases h; rfl⟩)
  refine ⟨y11, y15, y16, h11', ?_⟩
  rw [dFor_ap]
  have c := cut1 (S.map htD)
  simp only [iZipD_ap, dCons_ap, dOf_ap, dVar_ap, dSl_ap]
  simp [c, -List.drop_one, -List.map_drop]
  simpa using l1
theorem pr_T10 (w : Wo n ts ts' one other least r rT) (d : PyData) (nm : Bool) (L H : PyData) {R S : List (List Int)} (hR : R ≠ []) (hl : S.length ≤ 6) (hp : ∀ x ∈ S, Pf n ts one other least x) (x9 x11 x12 x13 x14 x15 x16 x17 x18 x19 x20 x21 : Option Sl) (h11 : ∀ s, x11 = some s → s.1 = 0) :
    dIfS (dtAnd (tst (dOf (dBin gIsNot (dBin gIx (dVar 8) (dC (.int 0))) (dC .none)))) (dtAnd (tst (dOf (dBin gGt (dVar 5) (dC (.int 0))))) (tst (dBinEP gNe (dFz (dLc (iSeq (dOf (dVar 10))) [11] (gNm 11) (dtNot (tru (dCallB D__law_same [false, false] (rVal (dFz (dCall D_proved [false, false, false, false] (rVal (dOf (dVar 1)) (rVal (dOf (dVar 2)) (rVal (dOf (dVar 3)) (rVal (dOf (dVar 11)) rNil)))))) (rVal (dOf (dVar 5)) rNil))))) (dOf (dC (.int 1))))) (dLstP (pNil))))))
  (dRet (dUp (dOf (dC (.bool false)))))
  (dNext) (EQ d (mapD n ts) one other nm least L H (some (0, .list (R.map htD))) x9 (some (0, .list (S.map htD))) x11 x12 x13 x14 x15 x16 x17 x18 x19 x20 x21) = some (.nx, EQ d (mapD n ts) one other nm least L H (some (0, .list (R.map htD))) x9 (some (0, .list (S.map htD))) x11 x12 x13 x14 x15 x16 x17 x18 x19 x20 x21) := by
  have hz := sizeLine_big
  have z0 : 0 ≤ sizeLine := by omega
  have a0 : L2.atI (R.map htD) 0 = some (htD (R.headD [])) := by
    cases R with
    | nil => exact absurd rfl hR
    | cons a as => rw [show (0 : Int) = ((0 : Nat) : Int) from rfl, atI_nat]; rfl
  have nn : ∀ v : List Int, gIsNot (htD v) .none = some (.bool true) := fun v => by simp [htD]
  by_cases q : 0 < least
  · have lc : ∀ E : En, E = EQ d (mapD n ts) one other nm least L H (some (0, .list (R.map htD))) x9 (some (0, .list (S.map htD))) none x12 x13 x14 x15 x16 x17 x18 x19 x20 x21 →
        dLcL [11] (gNm 11) (dtNot (tru (dCallB D__law_same [false, false] (rVal (dFz (dCall D_proved [false, false, false, false] (rVal (dOf (dVar 1)) (rVal (dOf (dVar 2)) (rVal (dOf (dVar 3)) (rVal (dOf (dVar 11)) rNil)))))) (rVal (dOf (dVar 5)) rNil))))) (dOf (dC (.int 1))) (S.map htD) E [] = some ([], E) := by
      rintro E rfl
      rw [lcF htD (fun _ => .int 1) (fun _ => false) _ S (by omega)]
      · simp
      · intro x hx
        have e := proved_ok w (hp x hx)
        have s := same_int least
        exact ⟨_, rfl, by simp [e, s], by simp, by simp, fun z => by cases z⟩
    have lc' := lc _ rfl
    have g := gNe_nil
    rcases x11 with _ | ⟨k, v⟩
    · simp [a0, nn, q, lc', g, z0]
    · have : k = 0 := h11 _ rfl
      subst this
      simp [a0, nn, q, lc', g, z0]
  · simp [a0, nn, q]
end
end Dn.W

set_option Elab.async false
set_option linter.all false
set_option maxRecDepth 100000
set_option maxHeartbeats 4000000
namespace Dn.W
open PySem PySem.Spec PyProof.Rows L2 Dn
section
variable {n : Nat} {ts ts' : List Tie} {one other : Nat} {least : Int} {r rT : Row}
theorem sum_small (ok : ∀ t ∈ ts, t.l ≤ 10) : ∀ {p : List Tie} {u v : Nat}, Pth ts u p v → sumT p ≤ 10 * (p.length : Int)
  | [], _, _, _ => by simp [sumT]
  | t :: p, u, v, ⟨ht, _, hp⟩ => by
    have h1 := sum_small ok hp
    have h2 := ok t ht
    have e : sumT (t :: p) = t.l + sumT p := by simp [sumT]
    rw [e, List.length_cons]
    omega
theorem dist_small (m : MapOk n ts) (sm : ∀ t ∈ ts, t.l ≤ 10) (h1 : one < n) (d : IsDist n ts one r) {v : Nat} {x : Int} (h : at_ r v = some x) : x ≤ 200 := by
  obtain ⟨k, wk⟩ := d.wk _ _ h
  obtain ⟨p, hp, _, sp⟩ := wk.pth
  obtain ⟨q, hq, lq, _⟩ := short m.ok h1 p.length p (Nat.le_refl _) hp
  obtain ⟨k2, w2⟩ := hq.walk
  obtain ⟨y, hy, le⟩ := d.le w2
  rw [h] at hy; cases hy
  have := sum_small sm hq
  have := m.n1
  omega
theorem okMul_by {x b : Int} (hx0 : 0 ≤ x) (hx : x ≤ 1000) (hb : b.natAbs < 2 ^ 1000) : okMul x b = true := by
  have h1 : x.natAbs.log2 < 64 := log2_small (by omega)
  have h2 : b.natAbs.log2 ≤ 1000 := by
    by_cases q : b.natAbs = 0
    · rw [q]; decide
    · have := (Nat.log2_lt q).mpr hb
      omega
  unfold okMul
  exact decI (by omega)
theorem big_by : ∃ B C : Int, gPow (.int 10) (.int 50) = some (.int B) ∧ gPowW (.int B) (.int 2) = some (.int C) ∧ 0 < C ∧ C.natAbs < 2 ^ 1000 := by
  have h1 : okPow 10 50 = true := by unfold okPow; exact decI (by decide)
  have hB : ((10 : Int) ^ 50).natAbs = 10 ^ 50 := by rw [Int.natAbs_pow]; rfl
  have h2 : okPowW ((10 : Int) ^ 50) 2 = true := by unfold okPowW; exact decI ⟨by decide, by decide, by rw [hB]; decide⟩
  refine ⟨(10 : Int) ^ 50, ((10 : Int) ^ 50) ^ 2, ?_, ?_, ?_, ?_⟩
  · simp only [gPow, gIC, h1, if_true]; rfl
  · rw [gPowW_int h2]; rfl
  · exact Int.pow_pos (Int.pow_pos (by decide))
  · rw [Int.natAbs_pow, hB]; decide
theorem pr_T13 {m : Int} {d : PyData} (hb : Box m d) (hm : m + 2000 < 10 ^ 11) (M : PyData) (nm : Bool) (L H : PyData) (x8 x9 x10 x11 x12 x13 x14 x15 x16 x17 x18 x19 x20 x21 : Option Sl) :
    ∃ (by_ : Int) (d' : PyData), 0 < by_ ∧ by_.natAbs < 2 ^ 1000 ∧ Box (m + 1) d' ∧
      dSet 13 (dFz (dCall D__law_pick [true, false] (rRef 0 (rVal (dOf (dLstP (pCons (dC (.int 3)) (pCons (dBin gPowW (dBin gPow (dC (.int 10)) (dC (.int 50))) (dC (.int 2))) pNil)))) rNil)))) (EQ d M one other nm least L H x8 x9 x10 x11 x12 x13 x14 x15 x16 x17 x18 x19 x20 x21) = some (.nx, EQ d' M one other nm least L H x8 x9 x10 x11 x12 (some (0, .int by_)) x14 x15 x16 x17 x18 x19 x20 x21) := by
  have hz := sizeLine_big
  have z2 : 2 ≤ sizeLine := by omega
  obtain ⟨B, C, g1, g2, c0, c1⟩ := big_by
  obtain ⟨b, d', hx, hb', e⟩ := pick_ints [3, C] hb (by omega) (by simp) (by simp)
  simp only [List.map_cons, List.map_nil] at e
  have hb3 : ((3 : Int)).natAbs < 2 ^ 1000 := by decide
  simp only [List.mem_cons, List.not_mem_nil, or_false] at hx
  refine ⟨b, d', ?_, ?_, hb', by simp [g1, g2, z2, e]⟩
  · rcases hx with rfl | rfl
    · decide
    · exact c0
  · rcases hx with rfl | rfl
    · exact hb3
    · exact c1
theorem lc_minus {x : List Int} (hx : x.length ≤ 1000) (k : Int) (E E1 : En) (hE : E1 = E) (h28 : E.length = 29) (h5 : E[5]? = some (some (0, .int k))) (hn : E[28]? = some none) :
    dLcL [28] (gNm 28) dtYes (dOf (dBin gMinus (dVar 5) (dVar 28))) (x.map PyData.int) E [] = some ((x.map fun y => k - y).map PyData.int, E) := by
  have hz := sizeLine_big
  rw [lcT PyData.int (fun y => .int (k - y)) E x (by omega)]
  · rw [List.map_map]; rfl
  · intro y _
    match E, h28, h5, hn with
    | [e0, e1, e2, e3, e4, e5, e6, e7, e8, e9, e10, e11, e12, e13, e14, e15, e16, e17, e18, e19, e20, e21, e22, e23, e24, e25, e26, e27, e28], _, h5, hn =>
      simp at h5 hn
      subst h5; subst hn
      exact ⟨_, rfl, by simp, by simp, by simp⟩
theorem lc_times {x : List Int} (hx : x.length ≤ 1000) (k : Int) (ok : ∀ y ∈ x, okMul y k = true) (E E1 : En) (hE : E1 = E) (h28 : E.length = 29) (h5 : E[13]? = some (some (0, .int k))) (hn : E[28]? = some none) :
    dLcL [28] (gNm 28) dtYes (dOf (dBin gTimes (dVar 28) (dVar 13))) (x.map PyData.int) E [] = some ((x.map fun y => y * k).map PyData.int, E) := by
  have hz := sizeLine_big
  rw [lcT PyData.int (fun y => .int (y * k)) E x (by omega)]
  · rw [List.map_map]; rfl
  · intro y hy
    have gt : gTimes (.int y) (.int k) = some (.int (y * k)) := gTimes_int (ok y hy)
    match E, h28, h5, hn with
    | [e0, e1, e2, e3, e4, e5, e6, e7, e8, e9, e10, e11, e12, e13, e14, e15, e16, e17, e18, e19, e20, e21, e22, e23, e24, e25, e26, e27, e28], _, h5, hn =>
      simp at h5 hn
      subst h5; subst hn
      exact ⟨_, rfl, by simp, by simp, by simp [gt]⟩
theorem pr_T12 (w : Wo n ts ts' one other least r rT) (d : PyData) (nm : Bool) (x8 x9 x10 x11 x12 x13 x14 x15 x16 x18 x19 x20 x21 : Option Sl) :
    dIfS (dtNot (tru (dCallB D__law_same [false, false] (rVal (dFz (dCall D__law_told [false, false, false, false] (rVal (dOf (dVar 17)) (rVal (dOf (dVar 3)) (rVal (dOf (dVar 2)) (rVal (dNot (dOf (dVar 4))) rNil)))))) (rVal (dLst (dCons (dUnE gTuple (dFz (dLc (iSeq (dOf (dVar 7))) [28] (gNm 28) (dtYes) (dOf (dBin gMinus (dVar 5) (dVar 28)))))) (dCons (dUnE gTuple (dFz (dLc (iSeq (dOf (dVar 6))) [28] (gNm 28) (dtYes) (dOf (dBin gMinus (dVar 5) (dVar 28)))))) dNil))) rNil)))))
  (dRet (dUp (dOf (dC (.bool false)))))
  (dNext) (EQ d (mapD n ts) one other nm least (htD (rT.map (lowF least))) (htD (r.map (highF least))) x8 x9 x10 x11 x12 x13 x14 x15 x16 (some (0, mapD n ts')) x18 x19 x20 x21) = some (.nx, EQ d (mapD n ts) one other nm least (htD (rT.map (lowF least))) (htD (r.map (highF least))) x8 x9 x10 x11 x12 x13 x14 x15 x16 (some (0, mapD n ts')) x18 x19 x20 x21) := by
  have hz := sizeLine_big
  have n1 := w.m.n1
  have z2 : 2 ≤ sizeLine := by omega
  obtain ⟨ts'', wb⟩ := wo_back w
  have t := told_ok wb (!nm)
  rw [low_back w, high_back w] at t
  have l1 := w.dT.len
  have l2 := w.d.len
  have ll1 : (rT.map (lowF least)).length = n := by rw [List.length_map, l1]
  have ll2 : (r.map (highF least)).length = n := by rw [List.length_map, l2]
  generalize rT.map (lowF least) = L at *
  generalize r.map (highF least) = Hh at *
  have s := same_two (x := Hh.map fun x => least - x) (y := L.map fun x => least - x) (by rw [List.length_map]; omega) (by rw [List.length_map]; omega)
  have c1 := lc_minus (x := L) (by omega) least (EQ d (mapD n ts) one other nm least (htD L) (htD Hh) x8 x9 x10 x11 x12 x13 x14 x15 x16 (some (0, mapD n ts')) x18 x19 x20 x21) _ rfl rfl rfl rfl
  have c2 := lc_minus (x := Hh) (by omega) least (EQ d (mapD n ts) one other nm least (htD L) (htD Hh) x8 x9 x10 x11 x12 x13 x14 x15 x16 (some (0, mapD n ts')) x18 x19 x20 x21) _ rfl rfl rfl rfl
  simp only [htD] at c1 c2 t s ⊢
  generalize (Hh.map fun x => least - x).map PyData.int = HN at *
  generalize (L.map fun x => least - x).map PyData.int = LN at *
  generalize L.map PyData.int = LL at *
  generalize Hh.map PyData.int = HL at *
  cases nm <;> simp at t <;> simp [t, c1, c2, z2, s]
theorem pr_T14 (w : Wo n ts ts' one other least r rT) (sm : ∀ t ∈ ts, t.l ≤ 10) (d : PyData) (nm : Bool) {by_ : Int} (b0 : 0 < by_) (b1 : by_.natAbs < 2 ^ 1000) (x8 x9 x10 x11 x12 x14 x15 x16 x17 x18 x19 x20 x21 : Option Sl) :
    dIfS (dtNot (tru (dCallB D__law_same [false, false] (rVal (dFz (dCall D__law_told [false, false, false, false] (rVal (dFz (dCall D__law_scaled [false, false] (rVal (dOf (dVar 1)) (rVal (dOf (dVar 13)) rNil)))) (rVal (dOf (dVar 2)) (rVal (dOf (dVar 3)) (rVal (dOf (dVar 4)) rNil)))))) (rVal (dLst (dCons (dUnE gTuple (dFz (dLc (iSeq (dOf (dVar 6))) [28] (gNm 28) (dtYes) (dOf (dBin gTimes (dVar 28) (dVar 13)))))) (dCons (dUnE gTuple (dFz (dLc (iSeq (dOf (dVar 7))) [28] (gNm 28) (dtYes) (dOf (dBin gTimes (dVar 28) (dVar 13)))))) dNil))) rNil)))))
  (dRet (dUp (dOf (dC (.bool false)))))
  (dNext) (EQ d (mapD n ts) one other nm least (htD (rT.map (lowF least))) (htD (r.map (highF least))) x8 x9 x10 x11 x12 (some (0, .int by_)) x14 x15 x16 x17 x18 x19 x20 x21) = some (.nx, EQ d (mapD n ts) one other nm least (htD (rT.map (lowF least))) (htD (r.map (highF least))) x8 x9 x10 x11 x12 (some (0, .int by_)) x14 x15 x16 x17 x18 x19 x20 x21) := by
  have hz := sizeLine_big
  have n1 := w.m.n1
  have z2 : 2 ≤ sizeLine := by omega
  obtain ⟨ts2, p2, m2, e2⟩ := scaled_spec w.m (by_ := by_) (by omega) fun t ht => okMul_by (w.m.ok t ht).l (by have := sm t ht; omega) b1
  obtain ⟨ts2', ws⟩ := wo_scale w (by omega) p2 m2
  have t := told_ok ws nm
  rw [low_scale by_ b0, high_scale by_ b0] at t
  have l2 := dist_small w.m sm w.h1 w.d w.r2
  have pL := low_pf w.two
  have pH := high_pf w.two
  generalize rT.map (lowF least) = L at *
  generalize r.map (highF least) = Hh at *
  have bd : ∀ x : List Int, Pf n ts one other least x → ∀ y ∈ x, okMul y by_ = true := fun x p y hy => by
    obtain ⟨i, hi, rfl⟩ := List.mem_iff_getElem.mp hy
    have h1 := p.lo i (by rw [← p.len]; exact hi)
    have h2 := p.hi i (by rw [← p.len]; exact hi)
    rw [getD_lt hi] at h1 h2
    exact okMul_by h1 (by omega) b1
  have lL := pL.len
  have lH := pH.len
  have s := same_two (x := L.map fun x => x * by_) (y := Hh.map fun x => x * by_) (by rw [List.length_map]; omega) (by rw [List.length_map]; omega)
  have c1 := lc_times (x := L) (by omega) by_ (bd L pL) (EQ d (mapD n ts) one other nm least (htD L) (htD Hh) x8 x9 x10 x11 x12 (some (0, .int by_)) x14 x15 x16 x17 x18 x19 x20 x21) _ rfl rfl rfl rfl
  have c2 := lc_times (x := Hh) (by omega) by_ (bd Hh pH) (EQ d (mapD n ts) one other nm least (htD L) (htD Hh) x8 x9 x10 x11 x12 (some (0, .int by_)) x14 x15 x16 x17 x18 x19 x20 x21) _ rfl rfl rfl rfl
  simp only [htD] at c1 c2 t s ⊢
  generalize (Hh.map fun x => x * by_).map PyData.int = HN at *
  generalize (L.map fun x => x * by_).map PyData.int = LN at *
  generalize L.map PyData.int = LL at *
  generalize Hh.map PyData.int = HL at *
  simp [e2, t, c1, c2, z2, s]
theorem pr_4 (w : Wo n ts ts' one other least r rT) (sm : ∀ t ∈ ts, t.l ≤ 10) (d : PyData) (nm : Bool) {by_ : Int} (b0 : 0 < by_) (b1 : by_.natAbs < 2 ^ 1000) (L H : PyData) {x : List Int} (px : Pf n ts one other least x) (x8 x9 x10 x12 x14 x15 x16 x18 x19 x20 x21 : Option Sl) :
    ∃ y18, b__law_pair_right_4 (EQ d (mapD n ts) one other nm least L H x8 x9 x10 (some (0, htD x)) x12 (some (0, .int by_)) x14 x15 x16 (some (0, mapD n ts')) x18 x19 x20 x21) = some (.nx, EQ d (mapD n ts) one other nm least L H x8 x9 x10 (some (0, htD x)) x12 (some (0, .int by_)) x14 x15 x16 (some (0, mapD n ts')) y18 x19 x20 x21) := by
  have hz := sizeLine_big
  have n1 := w.m.n1
  have z2 : 2 ≤ sizeLine := by omega
  obtain ⟨ts'', wb⟩ := wo_back w
  obtain ⟨ts2, p2, m2, e2⟩ := scaled_spec w.m (by_ := by_) (by omega) fun t ht => okMul_by (w.m.ok t ht).l (by have := sm t ht; omega) b1
  obtain ⟨ts2', ws⟩ := wo_scale w (by omega) p2 m2
  have pb := px.turn w.m.ok w.T w.h1 w.h2
  have ps := px.scale (by_ := by_) (ts2 := ts2) (by omega) w.m.ok w.h1 w.h2 fun t ht => by
    obtain ⟨s, hs, e⟩ := List.mem_map.mp (p2.mem_iff.mp ht)
    exact ⟨s, hs, e.symm⟩
  have t1 := taken_ok wb pb.len nm
  have t2 := taken_ok ws ps.len (!nm)
  rw [(pf_iff pb.len).mpr pb] at t1
  rw [(pf_iff ps.len).mpr ps] at t2
  have l2 := dist_small w.m sm w.h1 w.d w.r2
  have lx := px.len
  have bd : ∀ y ∈ x, okMul y by_ = true := fun y hy => by
    obtain ⟨i, hi, rfl⟩ := List.mem_iff_getElem.mp hy
    have h1 := px.lo i (by omega)
    have h2 := px.hi i (by omega)
    rw [getD_lt hi] at h1 h2
    exact okMul_by h1 (by omega) b1
  have c1 := lc_minus (x := x) (by omega) least (EQ d (mapD n ts) one other nm least L H x8 x9 x10 (some (0, htD x)) x12 (some (0, .int by_)) x14 x15 x16 (some (0, mapD n ts')) x18 x19 x20 x21) _ rfl rfl rfl rfl
  have c2 := lc_times (x := x) (by omega) by_ bd (EQ d (mapD n ts) one other nm least L H x8 x9 x10 (some (0, htD x)) x12 (some (0, .int by_)) x14 x15 x16 (some (0, mapD n ts')) x18 x19 x20 x21) _ rfl rfl rfl rfl
  have s := same_tt
  simp only [htD] at c1 c2 t1 t2 ⊢
  generalize (x.map fun x => x * by_).map PyData.int = HN at *
  generalize (x.map fun x => least - x).map PyData.int = LN at *
  generalize x.map PyData.int = X at *
  refine ⟨some (0, .list [.bool true, .bool true]), ?_⟩
  unfold b__law_pair_right_4
  rw [dSeq_go (e := EQ d (mapD n ts) one other nm least L H x8 x9 x10 (some (0, .tuple X)) x12 (some (0, .int by_)) x14 x15 x16 (some (0, mapD n ts')) (some (0, .list [.bool true, .bool true])) x19 x20 x21) (by cases nm <;> simp at t2 <;> simp [t1, t2, e2, c1, c2, z2])]
  simp [s, z2]
theorem pr_T15 (w : Wo n ts ts' one other least r rT) (sm : ∀ t ∈ ts, t.l ≤ 10) (d : PyData) (nm : Bool) {by_ : Int} (b0 : 0 < by_) (b1 : by_.natAbs < 2 ^ 1000) (L H : PyData) {S : List (List Int)} (hp : ∀ x ∈ S, Pf n ts one other least x) (x8 x9 x11 x12 x14 x15 x16 x18 x19 x20 x21 : Option Sl) (h11 : ∀ s, x11 = some s → s.1 = 0) :
    ∃ y11 y18, (∀ s, y11 = some s → s.1 = 0) ∧
      dFor (iSeq (dSl (dOf (dVar 10)) (dNoPart) (dPart (dOf (dC (.int 3)))))) (gNm 11) b__law_pair_right_4 (EQ d (mapD n ts) one other nm least L H x8 x9 (some (0, .list (S.map htD))) x11 x12 (some (0, .int by_)) x14 x15 x16 (some (0, mapD n ts')) x18 x19 x20 x21) = some (.nx, EQ d (mapD n ts) one other nm least L H x8 x9 (some (0, .list (S.map htD))) y11 x12 (some (0, .int by_)) x14 x15 x16 (some (0, mapD n ts')) y18 x19 x20 x21) := by
  let I : Nat → En → Prop := fun k env => ∃ y11 y18, env = EQ d (mapD n ts) one other nm least L H x8 x9 (some (0, .list (S.map htD))) y11 x12 (some (0, .int by_)) x14 x15 x16 (some (0, mapD n ts')) y18 x19 x20 x21 ∧ ∀ s, y11 = some s → s.1 = 0
  obtain ⟨env', l1, y11, y18, rfl, h11'⟩ := forN (g := gNm 11) (b := b__law_pair_right_4) I ((S.map htD).take 3) (EQ d (mapD n ts) one other nm least L H x8 x9 (some (0, .list (S.map htD))) x11 x12 (some (0, .int by_)) x14 x15 x16 (some (0, mapD n ts')) x18 x19 x20 x21)
    ⟨_, _, rfl, h11⟩ (by
      rintro k z env hz ⟨y11, y18, rfl, _⟩
      obtain ⟨x, hx, rfl⟩ := List.mem_map.mp (List.mem_of_mem_take (List.mem_of_getElem? hz))
      obtain ⟨w18, e⟩ := pr_4 w sm d nm b0 b1 L H (hp x hx) x8 x9 (some (0, .list (S.map htD))) x12 x14 x15 x16 y18 x19 x20 x21
      exact ⟨_, rfl, _, e, _, _, rfl, fun s h => by cases h; rfl⟩)
  refine ⟨y11, y18, h11', ?_⟩
  rw [dFor_ap]
  have c : cutD (S.map htD) none (some 3) = (S.map htD).take 3 := cutD_to _ (by decide)
  simp [c, -List.map_take]
  simpa using l1
end
end Dn.W

set_option Elab.async false
set_option linter.all false
set_option maxRecDepth 100000
set_option maxHeartbeats 4000000
namespace Dn.W
open PySem PySem.Spec PyProof.Rows L2 Dn
section
variable {n : Nat} {ts ts' : List Tie} {one other : Nat} {least : Int} {r rT : Row}
def looseL (ts : List Tie) (least : Int) (r rT : Row) : List Nat := (List.range ts.length).filter fun k => !decide (k ∈ (List.range ts.length).filter (tkB ts least r rT))
theorem loose_mem {k : Nat} (h : k ∈ looseL ts least r rT) : k < ts.length ∧ tkB ts least r rT k = false := by
  unfold looseL at h
  rw [List.mem_filter] at h
  obtain ⟨h1, h2⟩ := h
  have h1' := List.mem_range.mp h1
  refine ⟨h1', ?_⟩
  simp only [Bool.not_eq_true', decide_eq_false_iff_not, List.mem_filter, not_and, Bool.not_eq_true] at h2
  exact h2 h1
theorem pr_T16 (w : Wo n ts ts' one other least r rT) (d : PyData) (nm : Bool) (L H : PyData) (x8 x9 x10 x11 x12 x13 x14 x15 x16 x17 x18 x21 : Option Sl) :
    dSetO 19 (dLc (iRg1 (dCons (dOf (dUn gLen (dBin gIx (dVar 1) (dC (.int 1))))) dNil)) [20] (gNm 20) (tst (dBinE gNotIn (dOf (dVar 20)) (dFz (dCall D__law_tight [false, false, false] (rVal (dOf (dVar 1)) (rVal (dOf (dVar 2)) (rVal (dOf (dVar 3)) rNil))))))) (dOf (dVar 20)))
     (EQ d (mapD n ts) one other nm least L H x8 x9 x10 x11 x12 x13 x14 x15 x16 x17 x18 none none x21) = some (.nx, EQ d (mapD n ts) one other nm least L H x8 x9 x10 x11 x12 x13 x14 x15 x16 x17 x18 (some (1, .list (natsD (looseL ts least r rT)))) none x21) := by
  have hz := sizeLine_big
  have ml := w.m.len
  have t := tight_spec w
  have okl : okR (ts.length : Int) = true := by unfold okR; exact decI (by omega)
  have lc : ∀ E : En, E = EQ d (mapD n ts) one other nm least L H x8 x9 x10 x11 x12 x13 x14 x15 x16 x17 x18 none none x21 →
      dLcL [20] (gNm 20) (tst (dBinE gNotIn (dOf (dVar 20)) (dFz (dCall D__law_tight [false, false, false] (rVal (dOf (dVar 1)) (rVal (dOf (dVar 2)) (rVal (dOf (dVar 3)) rNil))))))) (dOf (dVar 20)) (rgD 0 (ts.length : Int)) E [] = some (natsD (looseL ts least r rT), E) := by
    rintro E rfl
    rw [rgD_nat, lcF (fun o : Nat => .int (o : Nat)) (fun o : Nat => .int (o : Nat)) (fun k => !decide (k ∈ (List.range ts.length).filter (tkB ts least r rT))) _ (List.range ts.length) (by rw [List.length_range]; omega)]
    · rfl
    · intro k hk
      have ni := notin_nats k ((List.range ts.length).filter (tkB ts least r rT))
      generalize (List.range ts.length).filter (tkB ts least r rT) = W at *
      exact ⟨_, rfl, by simp [t, ni], by simp, by simp, fun _ => by simp⟩
  have lc' := lc _ rfl
  simp [map_1', okl, lc']
theorem less_cut {k : Nat} (hk : k < ts.length) (ml : ts.length ≤ 120) : gAdd (.tuple (cutD (ts.map tieD) none (some (k : Int)))) (.tuple (cutD (ts.map tieD) (some ((k : Int) + 1)) none)) = some (.tuple ((ts.eraseIdx k).map tieD)) := by
  have hz := sizeLine_big
  rw [cutD_to _ (by omega), cutD_from _ (by omega) (by rw [List.length_map]; omega), gAdd_tuple _ _ (by simp; omega)]
  rw [List.eraseIdx_eq_take_drop_succ]
  simp
theorem zip_none {x y : List Int} (h : ∀ v, v < x.length → v < y.length → x.getD v 0 ≤ y.getD v 0) : ∀ p ∈ x.zip y, p.1 ≤ p.2 := by
  intro p hp
  obtain ⟨i, hi, rfl⟩ := List.mem_iff_getElem.mp hp
  rw [List.length_zip] at hi
  have := h i (by omega) (by omega)
  rw [getD_lt (by omega), getD_lt (by omega)] at this
  rw [List.getElem_zip]
  exact this
theorem pr_T17 (w : Wo n ts ts' one other least r rT) {m : Int} {d : PyData} (hb : Box m d) (hm : m + 2000 < 10 ^ 11) (nm : Bool) {S : List (List Int)} (hl : S.length ≤ 6) (hp : ∀ x ∈ S, Pf n ts one other least x) (x8 x9 x11 x12 x13 x14 x15 x16 x17 x18 x21 : Option Sl) (h11 : ∀ s, x11 = some s → s.1 = 0) :
    ∃ (d' : PyData) (env' : En), Box (m + 1) d' ∧ env'[0]? = some (some (1, d')) ∧ env'.length = 29 ∧
    dSeq (dIfS (tst (dOf (dBin gNe (dVar 19) (dLstP (pNil)))))
  (dSeq (dSet 20 (dFz (dCall D__law_pick [true, false] (rRef 0 (rVal (dFrzV 19) rNil)))))
  (dSeq (dSet 21 (dTup (dCons (dOf (dBin gIx (dVar 1) (dC (.int 0)))) (dCons (dBinE gAdd (dSl (dOf (dBin gIx (dVar 1) (dC (.int 1)))) (dNoPart) (dPart (dOf (dVar 20)))) (dSl (dOf (dBin gIx (dVar 1) (dC (.int 1)))) (dPart (dOf (dBin gAdd (dVar 20) (dC (.int 1))))) (dNoPart))) dNil))))
  (dSeq (dSet 18 (dFz (dCall D__law_told [false, false, false, false] (rVal (dOf (dVar 21)) (rVal (dOf (dVar 2)) (rVal (dOf (dVar 3)) (rVal (dOf (dVar 4)) rNil)))))))
  (dSeq (dIfS (dtOr (dtNot (tru (dCallB D__law_same [false, false] (rVal (dOf (dVar 18)) (rVal (dUnE gList (dFz (dCall D__law_ends [false, false, false, false] (rVal (dOf (dVar 21)) (rVal (dOf (dVar 2)) (rVal (dOf (dVar 3)) (rVal (dOf (dVar 5)) rNil))))))) rNil))))) (dtOr (tst (dBinEP gNe (dFz (dLc (iZipD (dCons (dOf (dBin gIx (dVar 18) (dC (.int 0)))) (dCons (dOf (dVar 6)) dNil))) [26, 27] (gTp 2 (gsCons (gNm 26) (gsCons (gNm 27) gsNil))) (tst (dOf (dBin gGt (dVar 26) (dVar 27)))) (dOf (dC (.int 1))))) (dLstP (pNil)))) (tst (dBinEP gNe (dFz (dLc (iZipD (dCons (dOf (dBin gIx (dVar 18) (dC (.int 1)))) (dCons (dOf (dVar 7)) dNil))) [26, 27] (gTp 2 (gsCons (gNm 26) (gsCons (gNm 27) gsNil))) (tst (dOf (dBin gLt' (dVar 26) (dVar 27)))) (dOf (dC (.int 1))))) (dLstP (pNil))))))
  (dRet (dUp (dOf (dC (.bool false)))))
  (dNext))
  (dRet (dUp (dCallB D__law_same [false, false] (rVal (dFz (dLc (iSeq (dOf (dVar 10))) [11] (gNm 11) (dtYes) (dFz (dCall D__law_taken [false, false, false, false, false] (rVal (dOf (dVar 21)) (rVal (dOf (dVar 2)) (rVal (dOf (dVar 3)) (rVal (dOf (dVar 11)) (rVal (dOf (dVar 4)) rNil))))))))) (rVal (dOf (dBin gTimes (dLstP (pCons (dC (.bool true)) pNil)) (dUn gLen (dVar 10)))) rNil)))))))))
  (dNext))
  (dRet (dUp (dOf (dC (.bool true)))))
     (EQ d (mapD n ts) one other nm least (htD (rT.map (lowF least))) (htD (r.map (highF least))) x8 x9 (some (0, .list (S.map htD))) x11 x12 x13 x14 x15 x16 x17 x18 (some (1, .list (natsD (looseL ts least r rT)))) none x21) = some (.rt (0, .bool true), env') := by
  have hz := sizeLine_big
  have n1 := w.m.n1
  have ml := w.m.len
  have z0 : 0 ≤ sizeLine := by omega
  have z1 : 1 ≤ sizeLine := by omega
  have z2 : 2 ≤ sizeLine := by omega
  have gn := gNe_nats (looseL ts least r rT)
  by_cases hW : looseL ts least r rT = []
  · rw [hW] at gn ⊢
    refine ⟨d, _, hb.up (by omega), ?_, ?_, by simp [gn, z0]; rfl⟩ <;> rfl
  · have gne : (looseL ts least r rT).isEmpty = false := by
      cases h : looseL ts least r rT with
      | nil => exact absurd h hW
      | cons a as => rfl
    rw [gne] at gn
    have lw : (looseL ts least r rT).length ≤ 120 := by
      unfold looseL
      have := List.length_filter_le (fun k => !decide (k ∈ (List.range ts.length).filter (tkB ts least r rT))) (List.range ts.length)
      rw [List.length_range] at this
      omega
    obtain ⟨v, x, d', hv, hb', e⟩ := pick_spec (ds := natsD (looseL ts least r rT)) hb (by omega) (by rw [natsD_len]; cases h : looseL ts least r rT with | nil => exact absurd h hW | cons a as => simp) (by rw [natsD_len]; omega)
    have hvl : v < (looseL ts least r rT).length := by
      have := (List.getElem?_eq_some_iff.mp hv).1
      rwa [natsD_len] at this
    rw [natsD_get hvl] at hv
    cases hv
    have hk := loose_mem (List.getElem_mem hvl)
    generalize (looseL ts least r rT)[v] = k at *
    generalize natsD (looseL ts least r rT) = WD at *
    obtain ⟨hk1, hk2⟩ := hk
    obtain ⟨ts2', r2, rT2, w2, sub⟩ := wo_less w hk1 hk2
    have cc := less_cut hk1 ml
    have t := told_ok w2 nm
    have en := ends_spec least w2.m w2.m' w2.h1 w2.h2 w2.d w2.dT w2.B
    have pL := low_pf w.two
    have pH := high_pf w.two
    have pL2 := low_pf w2.two
    have pH2 := high_pf w2.two
    have bL := fun v hv => ((pL.sub sub).between w2.two v hv).1
    have bH := fun v hv => ((pH.sub sub).between w2.two v hv).2
    generalize rT.map (lowF least) = L at *
    generalize r.map (highF least) = Hh at *
    generalize rT2.map (lowF least) = L2 at *
    generalize r2.map (highF least) = H2 at *
    have q1 := zip_none (x := L2) (y := L) fun v h _ => bL v (by rw [← pL2.len]; exact h)
    have q2 := zip_none (x := Hh) (y := H2) fun v h _ => bH v (by rw [← pH.len]; exact h)
    have lL := pL.len
    have lH := pH.len
    have lL2 := pL2.len
    have lH2 := pH2.len
    have s := same_two (x := L2) (y := H2) (by omega) (by omega)
    have lcz1 : ∀ E : En, E = EQ d' (mapD n ts) one other nm least (htD L) (htD Hh) x8 x9 (some (0, .list (S.map htD))) x11 x12 x13 x14 x15 x16 x17 (some (0, .list [htD L2, htD H2])) (some (0, .list WD)) (some (0, .int (k : Nat))) (some (0, mapD n (ts.eraseIdx k))) →
        dLcL [26, 27] (gTp 2 (gsCons (gNm 26) (gsCons (gNm 27) gsNil))) (tst (dOf (dBin gGt (dVar 26) (dVar 27)))) (dOf (dC (.int 1))) (zipD (L2.map PyData.int) (L.map PyData.int)) E [] = some ([], E) := by
      rintro E rfl
      rw [zipD_ints, lcF (fun p : Int × Int => .tuple [.int p.1, .int p.2]) (fun p => .int 1) (fun _ => false) _ (L2.zip L) (by rw [List.length_zip]; omega)]
      · simp
      · intro p hp'
        have qq := q1 p hp'
        have qq' : ¬ p.2 < p.1 := by omega
        exact ⟨(EQ d' (mapD n ts) one other nm least (htD L) (htD Hh) x8 x9 (some (0, .list (S.map htD))) x11 x12 x13 x14 x15 x16 x17 (some (0, .list [htD L2, htD H2])) (some (0, .list WD)) (some (0, .int (k : Nat))) (some (0, mapD n (ts.eraseIdx k)))).set 26 (some (0, .int p.1)) |>.set 27 (some (0, .int p.2)), by simp, by simp [qq'], by simp, by simp, fun z => by cases z⟩
    have lcz2 : ∀ E : En, E = EQ d' (mapD n ts) one other nm least (htD L) (htD Hh) x8 x9 (some (0, .list (S.map htD))) x11 x12 x13 x14 x15 x16 x17 (some (0, .list [htD L2, htD H2])) (some (0, .list WD)) (some (0, .int (k : Nat))) (some (0, mapD n (ts.eraseIdx k))) →
        dLcL [26, 27] (gTp 2 (gsCons (gNm 26) (gsCons (gNm 27) gsNil))) (tst (dOf (dBin gLt' (dVar 26) (dVar 27)))) (dOf (dC (.int 1))) (zipD (H2.map PyData.int) (Hh.map PyData.int)) E [] = some ([], E) := by
      rintro E rfl
      rw [zipD_ints, lcF (fun p : Int × Int => .tuple [.int p.1, .int p.2]) (fun p => .int 1) (fun _ => false) _ (H2.zip Hh) (by rw [List.length_zip]; omega)]
      · simp
      · intro p hp'
        have q3 := zip_none (x := Hh) (y := H2) fun v h _ => bH v (by rw [← pH.len]; exact h)
        have qq : p.2 ≤ p.1 := by
          obtain ⟨i, hi, rfl⟩ := List.mem_iff_getElem.mp hp'
          rw [List.length_zip] at hi
          have := bH i (by omega)
          rw [getD_lt (by omega), getD_lt (by omega)] at this
          rw [List.getElem_zip]
          exact this
        have qq' : ¬ p.1 < p.2 := by omega
        exact ⟨(EQ d' (mapD n ts) one other nm least (htD L) (htD Hh) x8 x9 (some (0, .list (S.map htD))) x11 x12 x13 x14 x15 x16 x17 (some (0, .list [htD L2, htD H2])) (some (0, .list WD)) (some (0, .int (k : Nat))) (some (0, mapD n (ts.eraseIdx k)))).set 26 (some (0, .int p.1)) |>.set 27 (some (0, .int p.2)), by simp, by simp [qq'], by simp, by simp, fun z => by cases z⟩
    have lct : ∀ E : En, E = EQ d' (mapD n ts) one other nm least (htD L) (htD Hh) x8 x9 (some (0, .list (S.map htD))) none x12 x13 x14 x15 x16 x17 (some (0, .list [htD L2, htD H2])) (some (0, .list WD)) (some (0, .int (k : Nat))) (some (0, mapD n (ts.eraseIdx k))) →
        dLcL [11] (gNm 11) dtYes (dFz (dCall D__law_taken [false, false, false, false, false] (rVal (dOf (dVar 21)) (rVal (dOf (dVar 2)) (rVal (dOf (dVar 3)) (rVal (dOf (dVar 11)) (rVal (dOf (dVar 4)) rNil))))))) (S.map htD) E [] = some (List.replicate S.length (.bool true), E) := by
      rintro E rfl
      rw [lcT htD (fun _ => .bool true) _ S (by omega)]
      · rw [List.map_const']
      · intro y hy
        have p2 := (hp y hy).sub sub
        have t2 := taken_ok w2 p2.len nm
        rw [(pf_iff p2.len).mpr p2] at t2
        exact ⟨_, rfl, by simp, by simp, by simp [t2]⟩
    have lcz1' := lcz1 _ rfl
    have lcz2' := lcz2 _ rfl
    have lct' := lct _ rfl
    have gt : gTimes (.list [.bool true]) (.int (S.length : Nat)) = some (.list (List.replicate S.length (.bool true))) := by
      rw [gTimes_list ⟨by omega, by omega, by simp; omega⟩]
      simp
    have sr := same_rep (k := S.length) (by omega)
    have gnn := gNe_nil
    have hlen : (S.map htD).length = S.length := List.length_map ..
    refine ⟨d', EQ d' (mapD n ts) one other nm least (htD L) (htD Hh) x8 x9 (some (0, .list (S.map htD))) x11 x12 x13 x14 x15 x16 x17 (some (0, .list [htD L2, htD H2])) (some (0, .list WD)) (some (0, .int (k : Nat))) (some (0, mapD n (ts.eraseIdx k))), hb', rfl, rfl, ?_⟩
    have step : ∀ A B : DS, ∀ E e : En, ∀ rr : Sl, A E = some (.rt rr, e) → dSeq A B E = some (.rt rr, e) := fun A B E e rr h => dSeq_rt h
    refine step _ _ _ _ _ ?_
    have ifs : ∀ (τ : DT) (a b : DS) (E : En), τ E = some (true, E) → dIfS τ a b E = a E := fun τ a b E h => by simp [h]
    rw [ifs _ _ _ _ (by simp [gn, z0])]
    rw [dSeq_go (e := EQ d' (mapD n ts) one other nm least (htD L) (htD Hh) x8 x9 (some (0, .list (S.map htD))) x11 x12 x13 x14 x15 x16 x17 x18 (some (0, .list WD)) (some (0, .int (k : Nat))) x21) (by simp [e])]
    rw [dSeq_go (e := EQ d' (mapD n ts) one other nm least (htD L) (htD Hh) x8 x9 (some (0, .list (S.map htD))) x11 x12 x13 x14 x15 x16 x17 x18 (some (0, .list WD)) (some (0, .int (k : Nat))) (some (0, mapD n (ts.eraseIdx k)))) (by simp [map_0, map_1', cc, z2]; simp [mapD])]
    generalize mapD n (ts.eraseIdx k) = ML at *
    rw [dSeq_go (e := EQ d' (mapD n ts) one other nm least (htD L) (htD Hh) x8 x9 (some (0, .list (S.map htD))) x11 x12 x13 x14 x15 x16 x17 (some (0, .list [htD L2, htD H2])) (some (0, .list WD)) (some (0, .int (k : Nat))) (some (0, ML))) (by simp [t])]
    have aL : htD L = .tuple (L.map PyData.int) := rfl
    have aH : htD Hh = .tuple (Hh.map PyData.int) := rfl
    have aL2 : htD L2 = .tuple (L2.map PyData.int) := rfl
    have aH2 : htD H2 = .tuple (H2.map PyData.int) := rfl
    simp only [aL, aH, aL2, aH2] at lcz1' lcz2' lct' s en ⊢
    generalize L.map PyData.int = LL at *
    generalize Hh.map PyData.int = HL at *
    generalize L2.map PyData.int = LL2 at *
    generalize H2.map PyData.int = HL2 at *
    have i0 : atI [PyData.tuple LL2, PyData.tuple HL2] 0 = some (.tuple LL2) := rfl
    have i1 : atI [PyData.tuple LL2, PyData.tuple HL2] 1 = some (.tuple HL2) := rfl
    generalize S.map htD = SD at *
    rw [dSeq_go (e := EQ d' (mapD n ts) one other nm least (.tuple LL) (.tuple HL) x8 x9 (some (0, .list SD)) x11 x12 x13 x14 x15 x16 x17 (some (0, .list [.tuple LL2, .tuple HL2])) (some (0, .list WD)) (some (0, .int (k : Nat))) (some (0, ML))) (by simp [s, en, i0, i1, lcz1', lcz2', gnn, z0])]
    rcases x11 with _ | ⟨kk, vv⟩
    · simp [lct', gt, z1, hlen, sr]
    · have : kk = 0 := h11 _ rfl
      subst this
      simp [lct', gt, z1, hlen, sr]
end
end Dn.W

set_option Elab.async false
set_option linter.all false
set_option maxRecDepth 100000
set_option maxHeartbeats 4000000
namespace Dn.W
open PySem PySem.Spec PyProof.Rows L2 Dn
section
variable {n : Nat} {ts ts' : List Tie} {one other : Nat} {least : Int} {r rT : Row}
theorem outs29 {d : PyData} {env : En} (h0 : env[0]? = some (some (1, d))) (hl : env.length = 29) : outsOf [true, false, false, false, false] env = some [(1, d)] := by
  match env, hl with
  | [e0, e1, e2, e3, e4, e5, e6, e7, e8, e9, e10, e11, e12, e13, e14, e15, e16, e17, e18, e19, e20, e21, e22, e23, e24, e25, e26, e27, e28], _ =>
    simp at h0
    subst h0
    simp
theorem pair_right_spec (w : Wo n ts ts' one other least r rT) (sm : ∀ t ∈ ts, t.l ≤ 10) {m : Int} {d : PyData} (hb : Box m d) (hm : m + 10000 < 10 ^ 11) (nm : Bool) :
    ∃ d', Box (m + 1000) d' ∧ D__law_pair_right [(1, d), (0, mapD n ts), (0, .int (one : Nat)), (0, .int (other : Nat)), (0, .bool nm)] = some ((0, .bool true), [(1, d')]) := by
  have hz := sizeLine_big
  have n1 := w.m.n1
  have z2 : 2 ≤ sizeLine := by omega
  have f1 := far_of w.m.w w.h1 w.d
  have a := atI_opt (r := r) (v := other) (by rw [w.d.len]; exact w.h2)
  rw [w.r2] at a
  have en := ends_spec least w.m w.m' w.h1 w.h2 w.d w.dT w.B
  have tl := told_ok w nm
  have s2 := same_two (x := rT.map (lowF least)) (y := r.map (highF least)) (by rw [List.length_map, w.dT.len]; omega) (by rw [List.length_map, w.d.len]; omega)
  obtain ⟨rd, hrd, e4⟩ := pr_T4 w d nm (htD (rT.map (lowF least))) (htD (r.map (highF least)))
  obtain ⟨x9, e5⟩ := pr_T5 w d nm rd hrd
  obtain ⟨R, d6, hR, hRl, hRp, hb6, e6⟩ := pr_T6 w hb (by omega) nm x9 rd hrd
  obtain ⟨S, d7, hSl, hSp, hb7, e7⟩ := pr_T7 (one := one) (other := other) (least := least) (M := mapD n ts) hb6 (by omega) nm (htD (rT.map (lowF least))) (htD (r.map (highF least))) x9 hR hRl hRp
  obtain ⟨d8, nm8, u11, u12, u13, u14, hu11, hb8, e8⟩ := pr_T8 w hb7 (by omega) nm (htD (rT.map (lowF least))) (htD (r.map (highF least))) hSl hSp (some (0, .list (R.map htD))) x9
  obtain ⟨v11, v15, v16, hv11, e9⟩ := pr_T9 w d8 nm8 (htD (rT.map (lowF least))) (htD (r.map (highF least))) hSl hSp (some (0, .list (R.map htD))) x9 u11 u12 u13 u14 hu11
  have e10 := pr_T10 w d8 nm8 (htD (rT.map (lowF least))) (htD (r.map (highF least))) hR hSl hSp x9 v11 u12 u13 u14 v15 v16 none none none none none hv11
  have e12 := pr_T12 w d8 nm8 (some (0, .list (R.map htD))) x9 (some (0, .list (S.map htD))) v11 u12 u13 u14 v15 v16 none none none none
  obtain ⟨by_, d13, b0, b1, hb13, e13⟩ := pr_T13 (one := one) (other := other) (least := least) hb8 (by omega) (mapD n ts) nm8 (htD (rT.map (lowF least))) (htD (r.map (highF least))) (some (0, .list (R.map htD))) x9 (some (0, .list (S.map htD))) v11 u12 u13 u14 v15 v16 (some (0, mapD n ts')) none none none none
  have e14 := pr_T14 w sm d13 nm8 b0 b1 (some (0, .list (R.map htD))) x9 (some (0, .list (S.map htD))) v11 u12 u14 v15 v16 (some (0, mapD n ts')) none none none none
  obtain ⟨w11, w18, hw11, e15⟩ := pr_T15 w sm d13 nm8 b0 b1 (htD (rT.map (lowF least))) (htD (r.map (highF least))) hSp (some (0, .list (R.map htD))) x9 v11 u12 u14 v15 v16 none none none none hv11
  have e16 := pr_T16 w d13 nm8 (htD (rT.map (lowF least))) (htD (r.map (highF least))) (some (0, .list (R.map htD))) x9 (some (0, .list (S.map htD))) w11 u12 (some (0, .int by_)) u14 v15 v16 (some (0, mapD n ts')) w18 none
  obtain ⟨d17, env', hb17, h0, hl, e17⟩ := pr_T17 w hb13 (by omega) nm8 hSl hSp (some (0, .list (R.map htD))) x9 w11 u12 (some (0, .int by_)) u14 v15 v16 (some (0, mapD n ts')) w18 none hw11
  refine ⟨d17, hb17.up (by omega), ?_⟩
  have body : b__law_pair_right [some (1, d), some (0, mapD n ts), some (0, .int (one : Nat)), some (0, .int (other : Nat)), some (0, .bool nm), none, none, none, none, none, none, none, none, none, none, none, none, none, none, none, none, none, none, none, none, none, none, none, none] = some (.rt (0, .bool true), env') := by
    unfold b__law_pair_right
    rw [dSeq_go (e := [some (1, d), some (0, mapD n ts), some (0, .int (one : Nat)), some (0, .int (other : Nat)), some (0, .bool nm), some (0, .int least), none, none, none, none, none, none, none, none, none, none, none, none, none, none, none, none, none, none, none, none, none, none, none]) (by simp [f1, a])]
    rw [dSeq_go (e := EQ d (mapD n ts) one other nm least (htD (rT.map (lowF least))) (htD (r.map (highF least))) none none none none none none none none none none none none none none) (by simp [en])]
    rw [dSeq_go (e := EQ d (mapD n ts) one other nm least (htD (rT.map (lowF least))) (htD (r.map (highF least))) none none none none none none none none none none none none none none) (by
      generalize htD (rT.map (lowF least)) = A at *
      generalize htD (r.map (highF least)) = B at *
      simp [tl, z2, s2])]
    rw [dSeq_go e4, dSeq_go e5, dSeq_go e6, dSeq_go e7, dSeq_go e8, dSeq_go e9, dSeq_go e10]
    rw [dSeq_go (e := EQ d8 (mapD n ts) one other nm8 least (htD (rT.map (lowF least))) (htD (r.map (highF least))) (some (0, .list (R.map htD))) x9 (some (0, .list (S.map htD))) v11 u12 u13 u14 v15 v16 (some (0, mapD n ts')) none none none none) (by simp [w.B])]
    rw [dSeq_go e12, dSeq_go e13, dSeq_go e14, dSeq_go e15, dSeq_go e16]
    exact e17
  have ou := outs29 h0 hl
  simp only [D__law_pair_right_eq, fnSem_ap]
  simp [body, ou, h0]
end
end Dn.W

set_option Elab.async false
set_option linter.all false
set_option maxRecDepth 100000
set_option maxHeartbeats 4000000
namespace Dn.W
open PySem PySem.Spec PyProof.Rows L2 Dn
section
abbrev ER (d F S : PyData) (nm : Bool) (mid l0 l1 : Int) (T7 J E9 : PyData) (x10 x11 x12 : Option Sl) : En := [some (1, d), some (0, F), some (0, S), some (0, .bool nm), some (0, .int 0), some (0, .int mid), some (0, .list [.int l0, .int l1]), some (0, T7), some (0, J), some (0, E9), x10, x11, x12, none, none, none, none]
theorem gIn_none2 (x y : Option Int) : gIn .none (.list [optD x, optD y]) = some (.bool (x.isNone || y.isNone)) := by
  unfold gIn gOr gInL
  simp only
  rw [if_pos ⟨by rfl, sh_row [x, y]⟩]
  cases x <;> cases y <;> simp [PyData.eqv]
theorem rr_1 {n q : Nat} {tj tj' : List Tie} {l0 l1 : Int} {rj rTj : Row} (w : Wo n tj tj' 0 q (l0 + l1) rj rTj) (hq : (n : Int) - 1 = (q : Int)) (d F S T7 E9 : PyData) (nm : Bool) (mid : Int) {left right : List Int} (p : Pf n tj 0 q (l0 + l1) (rowV l0 left right)) (hr : right.length ≤ 20) (hl : left.length ≤ 20) (x12 : Option Sl) :
    b__law_row_right_rvvv_1 (ER d F S nm mid l0 l1 T7 (mapD n tj) E9 (some (0, htD left)) (some (0, htD right)) x12) = some (.nx, ER d F S (!nm) mid l0 l1 T7 (mapD n tj) E9 (some (0, htD left)) (some (0, htD right)) (some (0, htD (rowV l0 left right)))) := by
  have hz := sizeLine_big
  have i1 := law_is_ok (least := l0 + l1) w.m w.h1 w.h2 p.len
  have t1 := taken_ok w p.len nm
  rw [(pf_iff p.len).mpr p] at i1 t1
  have s1 := same_bool true
  simp only [Int.natCast_zero, Int.cast_ofNat_Int] at i1 t1
  have lc : ∀ E : En, E = ER d F S nm mid l0 l1 T7 (mapD n tj) E9 (some (0, htD left)) (some (0, htD right)) x12 →
      dLcL [16] (gNm 16) dtYes (dOf (dBin gAdd (dVar 16) (dBin gIx (dVar 6) (dC (.int 0))))) (right.tail.map PyData.int) E [] = some ((right.tail.map fun x => x + l0).map PyData.int, E) := by
    rintro E rfl
    rw [lcT PyData.int (fun x => .int (x + l0)) _ right.tail (by rw [List.length_tail]; omega)]
    · rw [List.map_map]; rfl
    · intro x _
      have i0 : atI [PyData.int l0, PyData.int l1] 0 = some (.int l0) := rfl
      exact ⟨_, rfl, by simp, by simp, by simp [i0]⟩
  have lc' := lc _ rfl
  have c : cutD (right.map PyData.int) (some 1) none = right.tail.map PyData.int := by rw [cut1, List.drop_one, List.map_tail]
  have g : gAdd (.tuple (left.map PyData.int)) (.tuple ((right.tail.map fun x => x + l0).map PyData.int)) = some (htD (rowV l0 left right)) := by
    rw [gAdd_tuple _ _ (by simp; omega)]
    unfold htD rowV
    rw [List.map_append]
  have gs : gSum (.list [.int l0, .int l1]) = some (.int (l0 + l1)) := by
    simp [gSum, intsD]
  unfold b__law_row_right_rvvv_1
  have aL : htD left = .tuple (left.map PyData.int) := rfl
  have aR : htD right = .tuple (right.map PyData.int) := rfl
  simp only [aL, aR] at lc' ⊢
  generalize htD (rowV l0 left right) = V at *
  generalize (right.tail.map fun x => x + l0).map PyData.int = R1 at *
  generalize right.tail.map PyData.int = R2 at *
  generalize left.map PyData.int = LL at *
  generalize right.map PyData.int = RR at *
  rw [dSeq_go (e := ER d F S nm mid l0 l1 T7 (mapD n tj) E9 (some (0, .tuple LL)) (some (0, .tuple RR)) (some (0, V))) (by simp [c, lc', g])]
  rw [dSeq_go (e := ER d F S nm mid l0 l1 T7 (mapD n tj) E9 (some (0, .tuple LL)) (some (0, .tuple RR)) (some (0, V))) (by simp [map_0, hq, gs, i1, t1, s1])]
  cases nm <;> simp
end
end Dn.W

set_option Elab.async false
set_option linter.all false
set_option maxRecDepth 100000
set_option maxHeartbeats 4000000
namespace Dn.W
open PySem PySem.Spec PyProof.Rows L2 Dn
section
theorem rr_2 {n q : Nat} {tj tj' : List Tie} {l0 l1 : Int} {rj rTj : Row} (w : Wo n tj tj' 0 q (l0 + l1) rj rTj) (hq : (n : Int) - 1 = (q : Int)) (d F S T7 : PyData) (nm : Bool) (mid : Int) {left : List Int} {A B : List Int} (Z : PyData) (p : ∀ right, right = A ∨ right = B → Pf n tj 0 q (l0 + l1) (rowV l0 left right)) (hA : A.length ≤ 20) (hB : B.length ≤ 20) (hl : left.length ≤ 20) (x11 x12 : Option Sl) :
    ∃ (nm' : Bool) (y11 y12 : Option Sl), b__law_row_right_rvvv_2 (ER d F S nm mid l0 l1 T7 (mapD n tj) (.list [Z, .tuple [htD A, htD B]]) (some (0, htD left)) x11 x12) = some (.nx, ER d F S nm' mid l0 l1 T7 (mapD n tj) (.list [Z, .tuple [htD A, htD B]]) (some (0, htD left)) y11 y12) := by
  have e1 := rr_1 w hq d F S T7 (.list [Z, .tuple [htD A, htD B]]) nm mid (p A (.inl rfl)) hA hl x12
  have e2 := rr_1 w hq d F S T7 (.list [Z, .tuple [htD A, htD B]]) (!nm) mid (p B (.inr rfl)) hB hl (some (0, htD (rowV l0 left A)))
  refine ⟨nm, some (0, htD B), some (0, htD (rowV l0 left B)), ?_⟩
  · unfold b__law_row_right_rvvv_2
    rw [dFor_ap]
    have i1 : atI [Z, .tuple [htD A, htD B]] 1 = some (.tuple [htD A, htD B]) := rfl
    generalize htD (rowV l0 left A) = V1 at *
    generalize htD (rowV l0 left B) = V2 at *
    generalize htD A = AA at *
    generalize htD B = BB at *
    simp only [Bool.not_not] at e2
    simp [i1, dForL_cons, e1]
    rw [e2]
theorem row_right_spec {n1 n2 : Nat} {t1 t2 : List Tie} (m1 : MapOk n1 t1) (m2 : MapOk n2 t2) (g1 : 2 ≤ n1) (k1 : n1 ≤ 8) (g2 : 2 ≤ n2) (k2 : n2 ≤ 8) (s1 : t1.length ≤ 60) (s2 : t2.length ≤ 60) (d : PyData) (nm : Bool) :
    D__law_row_right_rvvv [(1, d), (0, mapD n1 t1), (0, mapD n2 t2), (0, .bool nm)] = some ((0, .bool true), [(1, d)]) := by
  have hz := sizeLine_big
  have z1 : 1 ≤ sizeLine := by omega
  have z2 : 2 ≤ sizeLine := by omega
  obtain ⟨r1, d1, f1⟩ := far_spec m1.w (show 0 < n1 by omega)
  obtain ⟨r2, d2, f2⟩ := far_spec m2.w (show 0 < n2 by omega)
  obtain ⟨q1, hq1⟩ : ∃ q1, q1 = n1 - 1 := ⟨_, rfl⟩
  obtain ⟨q2, hq2⟩ : ∃ q2, q2 = n2 - 1 := ⟨_, rfl⟩
  have c1 : (n1 : Int) - 1 = (q1 : Int) := by omega
  have c2 : (n2 : Int) - 1 = (q2 : Int) := by omega
  have a1 := atI_opt (r := r1) (v := q1) (by rw [d1.len]; omega)
  have a2 := atI_opt (r := r2) (v := q2) (by rw [d2.len]; omega)
  have gn := gIn_none2 (at_ r1 q1) (at_ r2 q2)
  simp only [Int.natCast_zero, Int.cast_ofNat_Int] at f1 f2
  have stA : dSeq (dPar2 4 5 (xCons (dUp (dOf (dC (.int 0)))) (xCons (dUp (dOf (dBin gMinus (dBin gIx (dVar 1) (dC (.int 0))) (dC (.int 1))))) xNil)))
     (dSet 6 (dLst (dCons (dBinE gIx (dFz (dCall D__law_far [false, false] (rVal (dOf (dVar 1)) (rVal (dOf (dC (.int 0))) rNil)))) (dOf (dVar 5))) (dCons (dBinE gIx (dFz (dCall D__law_far [false, false] (rVal (dOf (dVar 2)) (rVal (dOf (dC (.int 0))) rNil)))) (dOf (dBin gMinus (dBin gIx (dVar 2) (dC (.int 0))) (dC (.int 1))))) dNil))))
     [some (1, d), some (0, mapD n1 t1), some (0, mapD n2 t2), some (0, .bool nm), none, none, none, none, none, none, none, none, none, none, none, none, none] = some (.nx, [some (1, d), some (0, mapD n1 t1), some (0, mapD n2 t2), some (0, .bool nm), some (0, .int 0), some (0, .int (q1 : Nat)), some (0, .list [optD (at_ r1 q1), optD (at_ r2 q2)]), none, none, none, none, none, none, none, none, none, none]) := by
    simp [map_0, c1, c2, f1, f2, a1, a2, z2]
  have asc : ∀ (A B C : DS) (E e : En), dSeq A B E = some (.nx, e) → dSeq A (dSeq B C) E = C e := by
    intro A B C E e h
    rw [dSeq_ap] at h ⊢
    revert h
    cases A E with
    | none => intro h; cases h
    | some p =>
      obtain ⟨fl, e'⟩ := p
      cases fl with
      | nx => intro h; simp only at h ⊢; rw [dSeq_go h]
      | ct => intro h; simp only at h; cases h
      | bk => intro h; simp only at h; cases h
      | rt r => intro h; simp only at h; cases h
  have fin : ∀ env' : En, env'[0]? = some (some (1, d)) → env'.length = 17 → b__law_row_right_rvvv [some (1, d), some (0, mapD n1 t1), some (0, mapD n2 t2), some (0, .bool nm), none, none, none, none, none, none, none, none, none, none, none, none, none] = some (.rt (0, .bool true), env') → D__law_row_right_rvvv [(1, d), (0, mapD n1 t1), (0, mapD n2 t2), (0, .bool nm)] = some ((0, .bool true), [(1, d)]) := by
    intro env' h0 hl body
    simp only [D__law_row_right_rvvv_eq, fnSem_ap]
    match env', hl with
    | [e0, e1, e2, e3, e4, e5, e6, e7, e8, e9, e10, e11, e12, e13, e14, e15, e16], _ =>
      simp at h0
      subst h0
      simp [body]
  cases h1 : at_ r1 q1 with
  | none =>
    rw [h1] at gn stA
    refine fin [some (1, d), some (0, mapD n1 t1), some (0, mapD n2 t2), some (0, .bool nm), some (0, .int 0), some (0, .int (q1 : Nat)), some (0, .list [optD none, optD (at_ r2 q2)]), none, none, none, none, none, none, none, none, none, none] rfl rfl ?_
    unfold b__law_row_right_rvvv
    rw [asc _ _ _ _ _ stA]
    generalize optD (at_ r2 q2) = O2 at *
    simp at gn
    simp [gn]
  | some l0 =>
    cases h2 : at_ r2 q2 with
    | none =>
      rw [h1, h2] at gn stA
      refine fin [some (1, d), some (0, mapD n1 t1), some (0, mapD n2 t2), some (0, .bool nm), some (0, .int 0), some (0, .int (q1 : Nat)), some (0, .list [optD (some l0), optD none]), none, none, none, none, none, none, none, none, none, none] rfl rfl ?_
      unfold b__law_row_right_rvvv
      rw [asc _ _ _ _ _ stA]
      simp at gn
      simp [gn]
    | some l1 =>
      rw [h1, h2] at gn stA
      obtain ⟨t1', rT1, w1⟩ := wo_of m1 (show 0 < n1 by omega) (show q1 < n1 by omega) (show 0 ≠ q1 by omega) d1 h1
      obtain ⟨t2', rT2, w2⟩ := wo_of m2 (show 0 < n2 by omega) (show q2 < n2 by omega) (show 0 ≠ q2 by omega) d2 h2
      obtain ⟨tj, pj, sj, ej⟩ := sort_ties (t1 ++ t2.map (shiftT q1))
      obtain ⟨nj, hnj⟩ : ∃ nj, nj = n1 + n2 - 1 := ⟨_, rfl⟩
      obtain ⟨qj, hqj⟩ : ∃ qj, qj = n1 + n2 - 2 := ⟨_, rfl⟩
      have J : Join n1 n2 t1 t2 tj := ⟨m1.ok, m2.ok, by omega, by omega, fun t => by
        rw [pj.mem_iff, List.mem_append, List.mem_map, ← hq1]
        constructor
        · rintro (h | ⟨s, hs, e⟩)
          · exact .inl h
          · exact .inr ⟨s, hs, e.symm⟩
        · rintro (h | ⟨s, hs, e⟩)
          · exact .inl h
          · exact .inr ⟨s, hs, e.symm⟩⟩
      have lj : tj.length ≤ 120 := by rw [pj.length_eq, List.length_append, List.length_map]; omega
      have mj : MapOk nj tj := ⟨by omega, by omega, lj, by rw [hnj]; exact J.ok, sj⟩
      obtain ⟨rj, dj, _⟩ := far_spec mj.w (show 0 < nj by omega)
      have pA1 := low_pf w1.two
      have pB1 := high_pf w1.two
      have pA2 := low_pf w2.two
      have pB2 := high_pf w2.two
      have en1 := ends_spec l0 w1.m w1.m' w1.h1 w1.h2 w1.d w1.dT w1.B
      have en2 := ends_spec l1 w2.m w2.m' w2.h1 w2.h2 w2.d w2.dT w2.B
      simp only [Int.natCast_zero, Int.cast_ofNat_Int] at en1 en2
      generalize rT1.map (lowF l0) = A1 at *
      generalize r1.map (highF l0) = B1 at *
      generalize rT2.map (lowF l1) = A2 at *
      generalize r2.map (highF l1) = B2 at *
      have jp : ∀ x y, Pf n1 t1 0 q1 l0 x → Pf n2 t2 0 q2 l1 y → Pf nj tj 0 qj (l0 + l1) (rowV l0 x y) := by
        intro x y px py
        rw [hq1] at px
        rw [hq2] at py
        rw [hnj, hqj]
        exact join_pf J px py
      have ejd : at_ rj qj = some (l0 + l1) := by
        rw [hqj]
        rw [hnj] at dj
        have := jp A1 A2 pA1 pA2
        rw [hnj, hqj] at this
        exact join_dist J d1 d2 dj (by rw [← hq1]; exact h1) (by rw [← hq2]; exact h2) this
      obtain ⟨tj', rTj, wj⟩ := wo_of mj (show 0 < nj by omega) (show qj < nj by omega) (show 0 ≠ qj by omega) dj ejd
      have hq : (nj : Int) - 1 = (qj : Int) := by omega
      have cj : (n1 : Int) + n2 - 1 = (nj : Int) := by omega
      have la := pA1.len
      have lb := pB1.len
      have la2 := pA2.len
      have lb2 := pB2.len
      have lc : ∀ E : En, E = [some (1, d), some (0, mapD n1 t1), some (0, mapD n2 t2), some (0, .bool nm), some (0, .int 0), some (0, .int (q1 : Nat)), some (0, .list [.int l0, .int l1]), none, none, none, none, none, none, none, none, none, none] →
          dLcL [13, 14, 15] (gTp 3 (gsCons (gNm 13) (gsCons (gNm 14) (gsCons (gNm 15) gsNil)))) dtYes (dOf (dTupP (pCons (dBin gAdd (dVar 13) (dVar 5)) (pCons (dBin gAdd (dVar 14) (dVar 5)) (pCons (dVar 15) pNil))))) (t2.map tieD) E [] = some ((t2.map (shiftT q1)).map tieD, E) := by
        rintro E rfl
        rw [lcT tieD (fun t => tieD (shiftT q1 t)) _ t2 (by omega)]
        · rw [List.map_map]; rfl
        · intro t ht
          have z3 : 3 ≤ sizeLine := by omega
          exact ⟨[some (1, d), some (0, mapD n1 t1), some (0, mapD n2 t2), some (0, .bool nm), some (0, .int 0), some (0, .int (q1 : Nat)), some (0, .list [.int l0, .int l1]), none, none, none, none, none, none, some (0, .int (t.a : Nat)), some (0, .int (t.b : Nat)), some (0, .int t.l), none], by simp [tieD], by simp, by simp, by simp [tieD, shiftT, z3]⟩
      have lc' := lc _ rfl
      have ga : gAdd (.list (t1.map tieD)) (.list ((t2.map (shiftT q1)).map tieD)) = some (.list ((t1 ++ t2.map (shiftT q1)).map tieD)) := by
        rw [gAdd_list _ _ (by simp; omega), List.map_append]
      generalize hT7 : (t1 ++ t2.map (shiftT q1)).map tieD = T7 at *
      generalize (t2.map (shiftT q1)).map tieD = T2S at *
      obtain ⟨nm1, u11, u12, e1⟩ := rr_2 wj hq d (mapD n1 t1) (mapD n2 t2) (.list T7) nm (q1 : Int) (left := A1) (A := A2) (B := B2) (.tuple [htD A1, htD B1]) (fun right h => by
        rcases h with rfl | rfl
        · exact jp _ _ pA1 pA2
        · exact jp _ _ pA1 pB2) (by omega) (by omega) (by omega) none none
      obtain ⟨nm2, v11, v12, e2⟩ := rr_2 wj hq d (mapD n1 t1) (mapD n2 t2) (.list T7) nm1 (q1 : Int) (left := B1) (A := A2) (B := B2) (.tuple [htD A1, htD B1]) (fun right h => by
        rcases h with rfl | rfl
        · exact jp _ _ pB1 pA2
        · exact jp _ _ pB1 pB2) (by omega) (by omega) (by omega) u11 u12
      refine fin (ER d (mapD n1 t1) (mapD n2 t2) nm2 (q1 : Int) l0 l1 (.list T7) (mapD nj tj) (.list [.tuple [htD A1, htD B1], .tuple [htD A2, htD B2]]) (some (0, htD B1)) v11 v12) rfl rfl ?_
      unfold b__law_row_right_rvvv
      rw [asc _ _ _ _ _ stA]
      simp at gn
      have i0 : atI [PyData.int l0, PyData.int l1] 0 = some (.int l0) := rfl
      have i1 : atI [PyData.int l0, PyData.int l1] 1 = some (.int l1) := rfl
      rw [dSeq_go (e := [some (1, d), some (0, mapD n1 t1), some (0, mapD n2 t2), some (0, .bool nm), some (0, .int 0), some (0, .int (q1 : Nat)), some (0, .list [.int l0, .int l1]), none, none, none, none, none, none, none, none, none, none]) (by simp [gn])]
      rw [dSeq_go (e := [some (1, d), some (0, mapD n1 t1), some (0, mapD n2 t2), some (0, .bool nm), some (0, .int 0), some (0, .int (q1 : Nat)), some (0, .list [.int l0, .int l1]), some (0, .list T7), none, none, none, none, none, none, none, none, none]) (by simp [map_1', lc', ga])]
      rw [dSeq_go (e := [some (1, d), some (0, mapD n1 t1), some (0, mapD n2 t2), some (0, .bool nm), some (0, .int 0), some (0, .int (q1 : Nat)), some (0, .list [.int l0, .int l1]), some (0, .list T7), some (0, mapD nj tj), none, none, none, none, none, none, none, none]) (by simp [map_0, ej, cj, z2]; simp [mapD])]
      generalize htD A1 = DA1 at *
      generalize htD B1 = DB1 at *
      generalize htD A2 = DA2 at *
      generalize htD B2 = DB2 at *
      rw [dSeq_go (e := ER d (mapD n1 t1) (mapD n2 t2) nm (q1 : Int) l0 l1 (.list T7) (mapD nj tj) (.list [.tuple [DA1, DB1], .tuple [DA2, DB2]]) none none none) (by simp [map_0, c2, i0, i1, en1, en2, z2])]
      have i2 : atI [PyData.tuple [DA1, DB1], PyData.tuple [DA2, DB2]] 0 = some (.tuple [DA1, DB1]) := rfl
      rw [dSeq_go (e := ER d (mapD n1 t1) (mapD n2 t2) nm2 (q1 : Int) l0 l1 (.list T7) (mapD nj tj) (.list [.tuple [DA1, DB1], .tuple [DA2, DB2]]) (some (0, DB1)) v11 v12) (by
        rw [dFor_ap]
        simp [i2, dForL_cons, e1]
        rw [e2])]
      simp
end
end Dn.W

set_option Elab.async false
set_option linter.all false
set_option maxRecDepth 100000
set_option maxHeartbeats 4000000
namespace Dn.W
open PySem PySem.Spec PyProof.Rows L2 Dn
theorem cell_spec (ns : List Int) {k : Nat} (hk : k ≤ 3) : ∃ x : Int, D__law_cell [(0, .list (ns.map PyData.int)), (0, .int k)] = some ((0, .int x), []) := by
  by_cases h : (k : Int) < ns.length
  · have hk' : k < ns.length := by omega
    refine ⟨ns[k], ?_⟩
    have e : L2.atI (ns.map PyData.int) (k : Int) = some (.int ns[k]) := by
      rw [atI_nat, List.getElem?_map, List.getElem?_eq_getElem hk']; rfl
    simp [D__law_cell_eq, fnSem_ap, b__law_cell, h, e]
  · have c1 : cutD (ns.map PyData.int) none (some 1) = (ns.take 1).map PyData.int := by rw [cutD_to _ (by decide), ← List.map_take]; rfl
    have q1 : gTimes (.int 6373) (.int (k : Int)) = _ := gTimes_int (okMul_small (by decide) (by omega))
    have q2 : ∀ x : Int, gMod (.int x) (.int 1000303) = some (.int (x % 1000303)) := fun x => gMod_int (by decide)
    have s1 := gSum_ints (ns.take 1)
    refine ⟨6373 * (k : Int) + (ns.take 1).sum % 1000303, ?_⟩
    rw [List.map_take] at c1 s1
    simp [D__law_cell_eq, fnSem_ap, b__law_cell, h, c1, q1, q2, s1]
theorem box_spec (x : Int) : ∃ d, Box 0 d ∧ D__law_box [(0, .int x)] = some ((1, d), []) := by
  have z4 : 4 ≤ sizeLine := by have := sizeLine_big; omega
  have q1 : gPow (.int 10) (.int 18) = _ := gPow_int (okPow_small (by decide) (by decide) (by decide))
  have q2 : ∀ x : Int, gMod (.int x) (.int 2147483629) = some (.int (x % 2147483629)) := fun x => gMod_int (by decide)
  have h0 : 0 ≤ (if x < 0 then -x else x) := by split <;> omega
  refine ⟨boxD (if x < 0 then -x else x) (decide (10 ^ 18 ≤ (if x < 0 then -x else x))) ((if x < 0 then -x else x) % 2147483629) 0,
    ⟨_, _, _, _, rfl, h0, Int.emod_nonneg _ (by decide), Int.emod_lt_of_pos _ (by decide), Int.le_refl _, Int.le_refl _⟩, ?_⟩
  simp [D__law_box_eq, fnSem_ap, b__law_box, q1, q2, z4, boxD]

def pairD (p : Nat × Nat) : PyData := .tuple [.int (p.1 : Nat), .int (p.2 : Nat)]
structure Pr (n : Nat) (ts : List Tie) (p : Nat × Nat) : Prop where
  h1 : p.1 < n
  h2 : p.2 < n
  ne : p.1 ≠ p.2
  w : ∃ r x, IsDist n ts p.1 r ∧ at_ r p.2 = some x
abbrev EL (S K : Option Sl) (d : PyData) (nm : Bool) (W M : PyData) (x6 x7 x8 x9 : Option Sl) : En := [S, K, some (1, d), some (0, .bool nm), some (0, W), some (0, M), x6, x7, x8, x9, none]
abbrev ownP (ps : List (Nat × Nat)) : Option Sl := some (1, .list (ps.map pairD))
theorem law_1 {n one : Nat} {ts : List Tie} (m : MapOk n ts) (h1 : one < n) {ps : List (Nat × Nat)} (hp : ∀ p ∈ ps, Pr n ts p) (hl : ps.length ≤ 1000) (S K : Option Sl) (d : PyData) (nm : Bool) (W : PyData) (x8 x9 : Option Sl) (h9 : ∀ s, x9 = some s → s.1 = 0) :
    ∃ (ps' : List (Nat × Nat)) (y8 : Option Sl), (∀ p ∈ ps', Pr n ts p) ∧ ps'.length ≤ ps.length + n ∧
      b_law_1 (EL S K d nm W (mapD n ts) (ownP ps) (some (0, .int (one : Nat))) x8 x9) = some (.nx, EL S K d nm W (mapD n ts) (ownP ps') (some (0, .int (one : Nat))) y8 x9) := by
  have hz := sizeLine_big
  have n1 := m.n1
  have z2 : 2 ≤ sizeLine := by omega
  obtain ⟨r, dr, f⟩ := far_spec m.w h1
  have okn : okR (n : Int) = true := by unfold okR; exact decI (by omega)
  let c : Nat → Bool := fun o => !decide (o = one) && (at_ r o).isSome
  have lc : ∀ E : En, E = EL S K d nm W (mapD n ts) (ownP ps) (some (0, .int (one : Nat))) (some (0, .list (r.map optD))) none →
      dLcL [9] (gNm 9) (dtAnd (tst (dOf (dBin gNe (dVar 9) (dVar 7)))) (tst (dOf (dBin gIsNot (dBin gIx (dVar 8) (dVar 9)) (dC .none))))) (dOf (dTupP (pCons (dVar 7) (pCons (dVar 9) pNil)))) (rgD 0 (n : Int)) E [] = some (((List.range n).filter c).map (fun o => pairD (one, o)), E) := by
    rintro E rfl
    rw [rgD_nat, lcF (fun o : Nat => .int (o : Nat)) (fun o => pairD (one, o)) c _ (List.range n) (by rw [List.length_range]; omega)]
    intro o ho
    have a := atI_opt (r := r) (v := o) (by rw [dr.len]; exact List.mem_range.mp ho)
    refine ⟨_, rfl, ?_, by simp, by simp, fun _ => by simp [z2, pairD]⟩
    by_cases q : o = one
    · simp [c, q]
    · have q' : ¬ (o : Int) = one := by omega
      cases h : at_ r o with
      | none => rw [h] at a; simp [c, q, q', a, h]
      | some x => rw [h] at a; simp [c, q, q', a, h]
  have lc' := lc _ rfl
  refine ⟨ps ++ ((List.range n).filter c).map (fun o => (one, o)), some (0, .list (r.map optD)), fun p h => ?_, ?_, ?_⟩
  · rcases List.mem_append.mp h with h | h
    · exact hp p h
    · obtain ⟨o, ho, rfl⟩ := List.mem_map.mp h
      obtain ⟨ho1, ho2⟩ := List.mem_filter.mp ho
      simp only [c, Bool.and_eq_true, Bool.not_eq_true', decide_eq_false_iff_not] at ho2
      obtain ⟨x, hx⟩ := Option.isSome_iff_exists.mp ho2.2
      exact ⟨h1, List.mem_range.mp ho1, fun e => ho2.1 e.symm, r, x, dr, hx⟩
  · rw [List.length_append, List.length_map]
    have := List.length_filter_le c (List.range n)
    rw [List.length_range] at this
    omega
  · have lf : ((List.range n).filter c).length ≤ n := by
      have := List.length_filter_le c (List.range n)
      rwa [List.length_range] at this
    have e1 : (ps ++ ((List.range n).filter c).map (fun o => (one, o))).map pairD = ps.map pairD ++ ((List.range n).filter c).map (fun o => pairD (one, o)) := by
      rw [List.map_append, List.map_map]; rfl
    have hle : (ps.map pairD).length + (((List.range n).filter c).map (fun o => pairD (one, o))).length ≤ sizeLine := by
      rw [List.length_map, List.length_map]; omega
    unfold ownP at lc' ⊢
    rw [e1]
    generalize ((List.range n).filter c).map (fun o => pairD (one, o)) = Q at *
    generalize ps.map pairD = PD at *
    unfold b_law_1
    rw [dSeq_go (e := EL S K d nm W (mapD n ts) (some (1, .list PD)) (some (0, .int (one : Nat))) (some (0, .list (r.map optD))) x9) (by simp [f])]
    rcases x9 with _ | ⟨k9, v9⟩
    · simp [map_0, okn, lc', mExtend, hle]
    · have : k9 = 0 := h9 _ rfl
      subst this
      simp [map_0, okn, lc', mExtend, hle]
theorem law_2 {n : Nat} {ts : List Tie} (m : MapOk n ts) (sm : ∀ t ∈ ts, t.l ≤ 10) {p : Nat × Nat} (hp : Pr n ts p) {mm : Int} {d : PyData} (hb : Box mm d) (hm : mm + 20000 < 10 ^ 11) (S K : Option Sl) (nm : Bool) (W : PyData) (x6 x8 : Option Sl) :
    ∃ d', Box (mm + 1000) d' ∧ b_law_2 (EL S K d nm W (mapD n ts) x6 (some (0, .int (p.1 : Nat))) x8 (some (0, .int (p.2 : Nat)))) = some (.nx, EL S K d' (!nm) W (mapD n ts) x6 (some (0, .int (p.1 : Nat))) x8 (some (0, .int (p.2 : Nat)))) := by
  obtain ⟨r, x, dr, hx⟩ := hp.w
  obtain ⟨ts', rT, w⟩ := wo_of m hp.h1 hp.h2 hp.ne dr hx
  obtain ⟨d', hb', e⟩ := pair_right_spec w sm hb (by omega) nm
  exact ⟨d', hb', by simp [b_law_2, e]⟩
theorem law_3 {n : Nat} {ts : List Tie} (m : MapOk n ts) (sm : ∀ t ∈ ts, t.l ≤ 10) {mm : Int} {d : PyData} (hb : Box mm d) (hm : mm + 40000 < 10 ^ 11) (S K : Option Sl) (nm : Bool) (W : PyData) (x6 x7 x8 x9 : Option Sl) (h9 : ∀ s, x9 = some s → s.1 = 0) :
    ∃ (d' : PyData) (nm' : Bool) (y6 y7 y8 y9 : Option Sl), (∀ s, y9 = some s → s.1 = 0) ∧ Box (mm + 5000) d' ∧ b_law_3 (EL S K d nm W (mapD n ts) x6 x7 x8 x9) = some (.nx, EL S K d' nm' W (mapD n ts) y6 y7 y8 y9) := by
  have hz := sizeLine_big
  have n1 := m.n1
  have z0 : 0 ≤ sizeLine := by omega
  have okn : okR (n : Int) = true := by unfold okR; exact decI (by omega)
  let I : Nat → En → Prop := fun k env => ∃ ps x7 x8, env = EL S K d nm W (mapD n ts) (ownP ps) x7 x8 x9 ∧ (∀ p ∈ ps, Pr n ts p) ∧ ps.length ≤ n * k
  obtain ⟨env1, l1, ps, u7, u8, rfl, hp, hpl⟩ := forN (g := gNm 7) (b := b_law_1) I (rgD 0 (n : Int)) (EL S K d nm W (mapD n ts) (ownP []) x7 x8 x9) ⟨[], _, _, rfl, (fun p h => by cases h), by simp⟩ (by
    rintro k z env hz' ⟨ps, x7, x8, rfl, hp, hl⟩
    obtain ⟨rfl, hk⟩ := rgD_get hz'
    rw [Int.zero_add]
    have hk' : k < n := by omega
    have nk : n * k ≤ 20 * 20 := Nat.mul_le_mul n1 (by omega)
    obtain ⟨ps', y8, hp', hl', e⟩ := law_1 m hk' hp (by omega) S K d nm W x8 x9 h9
    exact ⟨_, rfl, _, e, ps', _, _, rfl, hp', by rw [Nat.mul_succ]; omega⟩)
  rw [rgD_len] at hpl
  have hpl' : ps.length ≤ 400 := by
    have : n * ((n : Int) - 0).toNat ≤ 20 * 20 := Nat.mul_le_mul n1 (by omega)
    omega
  obtain ⟨res, d2, pr, hb2, e2⟩ := mixed_rr_spec (ds := ps.map pairD) hb (by rw [List.length_map]; omega) (by rw [List.length_map]; omega)
  rw [List.length_map] at hb2
  obtain ⟨qs, rfl, hqs⟩ := image_list (f := pairD) (l := ps) (xs := res) fun x hx => pr.mem_iff.mp hx
  have cq : cutD (qs.map pairD) none (some 3) = (qs.take 3).map pairD := by rw [cutD_to _ (by decide), ← List.map_take]; rfl
  let I2 : Nat → En → Prop := fun k env => ∃ d' nm' y7 y9, env = EL S K d' nm' W (mapD n ts) (ownP ps) y7 u8 y9 ∧ Box (mm + 400 + 1000 * k) d' ∧ ∀ s, y9 = some s → s.1 = 0
  obtain ⟨env2, l2, d3, nm3, y7, y9, rfl, hb3, hy9⟩ := forN (g := gTp 2 (gsCons (gNm 7) (gsCons (gNm 9) gsNil))) (b := b_law_2) I2 ((qs.take 3).map pairD) (EL S K d2 nm W (mapD n ts) (ownP ps) u7 u8 x9) ⟨d2, nm, _, _, rfl, hb2.up (by omega), h9⟩ (by
    rintro k z env hz' ⟨d', nm', y7, y9, rfl, hb', _⟩
    have hk := (List.getElem?_eq_some_iff.mp hz').1
    rw [List.length_map, List.length_take] at hk
    obtain ⟨p, hpm, rfl⟩ := List.mem_map.mp (List.mem_of_getElem? hz')
    have hpp := hp p (hqs p (List.mem_of_mem_take hpm))
    obtain ⟨d'', hb'', e⟩ := law_2 m sm hpp hb' (by omega) S K nm' W (ownP ps) u8
    exact ⟨EL S K d' nm' W (mapD n ts) (ownP ps) (some (0, .int (p.1 : Nat))) u8 (some (0, .int (p.2 : Nat))), by simp [pairD], _, e, d'', !nm', _, _, rfl, hb''.up (by omega), fun s h => by cases h; rfl⟩)
  rw [List.length_map, List.length_take] at hb3
  refine ⟨d3, nm3, ownP ps, y7, u8, y9, hy9, hb3.up (by omega), ?_⟩
  unfold b_law_3
  rw [dSeq_go (e := EL S K d nm W (mapD n ts) (ownP []) x7 x8 x9) (by simp [z0])]
  rw [dSeq_go (e := EL S K d nm W (mapD n ts) (ownP ps) u7 u8 x9) (by rw [dFor_ap]; simp [map_0, okn]; exact l1)]
  rw [dFor_ap]
  unfold ownP at l2 ⊢
  generalize ps.map pairD = PD at *
  generalize qs.map pairD = QD at *
  simp [e2, cq, -List.map_take]
  simpa using l2
end Dn.W

set_option Elab.async false
set_option linter.all false
set_option maxRecDepth 100000
set_option maxHeartbeats 4000000
namespace Dn.W
open PySem PySem.Spec PyProof.Rows L2 Dn
theorem law_4 (ns : List Int) {k : Nat} (hk : k ≤ 3) (x2 x3 x4 x5 x6 x7 x8 x9 : Option Sl) (h9 : ∀ s, x9 = some s → s.1 = 0) : ∃ y2 y3 y4 y5 y6 y7 y8 y9, (∀ s, y9 = some s → s.1 = 0) ∧ b_law_4 [some (0, .list (ns.map PyData.int)), some (0, .int k), x2, x3, x4, x5, x6, x7, x8, x9, none] = some (.nx, [some (0, .list (ns.map PyData.int)), some (0, .int k), y2, y3, y4, y5, y6, y7, y8, y9, none]) := by
  have hz := sizeLine_big
  obtain ⟨x, ec⟩ := cell_spec ns hk
  obtain ⟨d, hb, eb⟩ := box_spec x
  obtain ⟨v, d1, v0, v1, hb1, t1⟩ := take_spec (many := 2) hb (by omega) (by omega) (by omega)
  obtain ⟨u, d2, u0, u1, hb2, t2⟩ := take_spec (many := 7) hb1 (by omega) (by omega) (by omega)
  obtain ⟨c1, hc1⟩ : ∃ c1 : Nat, 3 + u = c1 := ⟨(3 + u).toNat, by omega⟩
  obtain ⟨n1, ts1, d3, m1, g1, k1, sm1, l1, hb3, e3⟩ := drawn_map_spec (most := 6) (cnt := c1) hb2 (by omega) (by omega) (by omega) (by omega)
  obtain ⟨u', d4, u0', u1', hb4, t4⟩ := take_spec (many := 7) hb3 (by omega) (by omega) (by omega)
  obtain ⟨c2, hc2⟩ : ∃ c2 : Nat, 3 + u' = c2 := ⟨(3 + u').toNat, by omega⟩
  obtain ⟨n2, ts2, d5, m2, g2, k2, sm2, l2, hb5, e5⟩ := drawn_map_spec (most := 6) (cnt := c2) hb4 (by omega) (by omega) (by omega) (by omega)
  have z0 : 0 < sizeLine := by omega
  have z1 : 1 < sizeLine := by omega
  have ok2 : okR (2 : Int) = true := by unfold okR; exact decI (by omega)
  have rg : rgD 0 2 = [.int 0, .int 1] := rfl
  let S : Option Sl := some (0, .list (ns.map PyData.int))
  let K : Option Sl := some (0, .int (k : Nat))
  let W : PyData := .list [mapD n1 ts1, mapD n2 ts2]
  obtain ⟨d6, nm6, y6, y7, y8, y9, hy9, hb6, e6⟩ := law_3 m1 sm1 hb5 (by omega) S K (decide (v = 0)) W x6 x7 x8 x9 h9
  obtain ⟨d7, nm7, w6, w7, w8, w9, hw9, hb7, e7⟩ := law_3 m2 sm2 hb6 (by omega) S K nm6 W y6 y7 y8 y9 hy9
  have rr := row_right_spec m1 m2 g1 (by omega) g2 (by omega) l1 l2 d7 nm7
  have i0 : L2.atI [mapD n1 ts1, mapD n2 ts2] 0 = some (mapD n1 ts1) := rfl
  have i1 : L2.atI [mapD n1 ts1, mapD n2 ts2] 1 = some (mapD n2 ts2) := rfl
  refine ⟨some (1, d7), some (0, .bool nm7), some (0, W), some (0, mapD n2 ts2), w6, w7, w8, w9, hw9, ?_⟩
  unfold b_law_4
  rw [dSeq_go (e := [S, K, some (1, d), x3, x4, x5, x6, x7, x8, x9, none]) (by simp [S, K, ec, eb])]
  rw [dSeq_go (e := [S, K, some (1, d5), some (0, .bool (decide (v = 0))), some (0, W), x5, x6, x7, x8, x9, none]) (by simp [S, K, W, t1, ok2, rg, dLcL_cons, t2, hc1, e3, t4, hc2, e5, z0, z1])]
  rw [dSeq_go (e := EL S K d7 nm7 W (mapD n2 ts2) w6 w7 w8 w9) (by
    rw [dFor_ap]
    simp only [iSeq_ap, dOf_ap, dVar_ap]
    simp [W, dForL_cons]
    simp only [W] at e6 e7
    rw [e6]
    simp
    rw [e7])]
  simp [W, i0, i1, rr]
  exact ⟨rfl, rfl⟩
theorem plain (ns : List Int) (_ : ns.length ≤ 63) : ∃ outs, D_law [(0, .list (ns.map PyData.int))] = some ((0, .bool true), outs) := by
  let S : Option Sl := some (0, .list (ns.map PyData.int))
  obtain ⟨t, ht⟩ : ∃ t : Nat, t = max 2 (min 3 ns.length) := ⟨_, rfl⟩
  have t3 : t ≤ 3 := by omega
  let I : Nat → En → Prop := fun _ env => ∃ y1 y2 y3 y4 y5 y6 y7 y8 y9, env = [S, y1, y2, y3, y4, y5, y6, y7, y8, y9, none] ∧ ∀ s, y9 = some s → s.1 = 0
  obtain ⟨env', l1, y1, y2, y3, y4, y5, y6, y7, y8, y9, rfl, _⟩ := forN (g := gNm 1) (b := b_law_4) I (rgD 0 (t : Int)) [S, none, none, none, none, none, none, none, none, none, none] ⟨_, _, _, _, _, _, _, _, _, rfl, fun s h => by cases h⟩ (by
    rintro i x env hx ⟨y1, y2, y3, y4, y5, y6, y7, y8, y9, rfl, h9⟩
    obtain ⟨rfl, hi⟩ := rgD_get hx
    rw [Int.zero_add]
    obtain ⟨z2, z3, z4, z5, z6, z7, z8, z9, hz9, e⟩ := law_4 ns (k := i) (by omega) y2 y3 y4 y5 y6 y7 y8 y9 h9
    exact ⟨_, rfl, _, e, _, _, _, _, _, _, _, _, _, rfl, hz9⟩)
  have okt : okR (t : Int) = true := by unfold okR; exact decI (by omega)
  have e : (if (if (ns.length : Int) < 3 then (ns.length : Int) else 3) > 2 then (if (ns.length : Int) < 3 then (ns.length : Int) else 3) else 2) = (t : Int) := by
    subst ht
    split <;> split <;> omega
  refine ⟨[], ?_⟩
  simp [D_law_eq, fnSem_ap, b_law, S] at l1 ⊢
  simp [e, okt, l1]
end Dn.W

set_option Elab.async false
set_option linter.all false
set_option maxRecDepth 100000
set_option maxHeartbeats 0
namespace Dn.W
open PySem PySem.Spec PyProof.Rows L2 Dn
theorem ok_all {P : Program} {w : World} {K : Fr} {mg : Str → Option Value} {base : Heap} (T : Fx K mg) : Df P w K mg base 10 "law" s_law ["script"] D_law [false] := by
  have c__law_box := ok__law_box (P := P) (w := w) (base := base) T 
  have c__law_cell := ok__law_cell (P := P) (w := w) (base := base) T 
  have c__law_take := ok__law_take (P := P) (w := w) (base := base) T 
  have c__law_pick := ok__law_pick (P := P) (w := w) (base := base) T c__law_take
  have c__law_drawn_map := ok__law_drawn_map (P := P) (w := w) (base := base) T c__law_take c__law_pick
  have c__law_far := ok__law_far (P := P) (w := w) (base := base) T 
  have c__law_mixed_rr := ok__law_mixed_rr (P := P) (w := w) (base := base) T c__law_take
  have c__law_back := ok__law_back (P := P) (w := w) (base := base) T 
  have c__law_ends := ok__law_ends (P := P) (w := w) (base := base) T c__law_far c__law_back
  have c__law_same := ok__law_same (P := P) (w := w) (base := base) T 
  have c_is_tuple := ok_is_tuple (P := P) (w := w) (base := base) T 
  have c_is_integer := ok_is_integer (P := P) (w := w) (base := base) T 
  have c_is_within := ok_is_within (P := P) (w := w) (base := base) T c_is_integer
  have c_is_index := ok_is_index (P := P) (w := w) (base := base) T c_is_integer
  have c_is_count := ok_is_count (P := P) (w := w) (base := base) T c_is_integer
  have c_is_tie := ok_is_tie (P := P) (w := w) (base := base) T c_is_tuple c_is_index c_is_count
  have c_in_order := ok_in_order (P := P) (w := w) (base := base) T 
  have c_is_map := ok_is_map (P := P) (w := w) (base := base) T c_is_tuple c_is_within c_is_tie c_in_order
  have c_check_map := ok_check_map (P := P) (w := w) (base := base) T c_is_map
  have c_check_place := ok_check_place (P := P) (w := w) (base := base) T c_is_index
  have c_check_two := ok_check_two (P := P) (w := w) (base := base) T c_check_place
  have c_ties_from := ok_ties_from (P := P) (w := w) (base := base) T 
  have c_is_less := ok_is_less (P := P) (w := w) (base := base) T 
  have c_search := ok_search (P := P) (w := w) (base := base) T c_ties_from c_is_less
  have c_lengths_from := ok_lengths_from (P := P) (w := w) (base := base) T c_search
  have c_length_of := ok_length_of (P := P) (w := w) (base := base) T c_lengths_from
  have c_check_way := ok_check_way (P := P) (w := w) (base := base) T c_check_map c_check_two c_length_of
  have c_lengths_to := ok_lengths_to (P := P) (w := w) (base := base) T c_lengths_from
  have c_least_proof := ok_least_proof (P := P) (w := w) (base := base) T c_check_way c_length_of c_lengths_to
  have c_greatest_proof := ok_greatest_proof (P := P) (w := w) (base := base) T c_check_way c_length_of c_lengths_from
  have c__law_told := ok__law_told (P := P) (w := w) (base := base) T c_least_proof c_greatest_proof
  have c__law_all := ok__law_all (P := P) (w := w) (base := base) T 
  have c__law_drawn_proof := ok__law_drawn_proof (P := P) (w := w) (base := base) T c__law_ends c__law_take
  have c__law_mixed := ok__law_mixed (P := P) (w := w) (base := base) T c__law_take
  have c__law_is := ok__law_is (P := P) (w := w) (base := base) T 
  have c_are_counts := ok_are_counts (P := P) (w := w) (base := base) T c_is_tuple c_is_count
  have c_proved_by := ok_proved_by (P := P) (w := w) (base := base) T 
  have c_is_proof := ok_is_proof (P := P) (w := w) (base := base) T c_check_way c_length_of c_are_counts c_proved_by
  have c__law_taken := ok__law_taken (P := P) (w := w) (base := base) T c_is_proof
  have c_check_ends := ok_check_ends (P := P) (w := w) (base := base) T c_check_map c_check_place
  have c_are_integers := ok_are_integers (P := P) (w := w) (base := base) T c_is_tuple c_is_integer
  have c_proved := ok_proved (P := P) (w := w) (base := base) T c_check_ends c_are_integers c_proved_by
  have c__law_scaled := ok__law_scaled (P := P) (w := w) (base := base) T 
  have c__law_tight := ok__law_tight (P := P) (w := w) (base := base) T c__law_far c__law_back
  have c__law_pair_right := ok__law_pair_right (P := P) (w := w) (base := base) T c__law_far c__law_ends c__law_same c__law_told c__law_all c__law_drawn_proof c__law_mixed c__law_is c__law_taken c__law_take c__law_pick c_proved c__law_back c__law_scaled c__law_tight
  have c__law_row_right_rvvv := ok__law_row_right_rvvv (P := P) (w := w) (base := base) T c__law_far c__law_ends c__law_is c__law_same c__law_taken
  have c_law := ok_law (P := P) (w := w) (base := base) T c__law_box c__law_cell c__law_take c__law_drawn_map c__law_far c__law_mixed_rr c__law_pair_right c__law_row_right_rvvv
  exact c_law
def dd__law_box : He.DefD := ⟨("_law_box", none), "_law_box", "_law_box", defArgs s__law_box, defBody s__law_box, defScope s__law_box, [], []⟩
def dd__law_cell : He.DefD := ⟨("_law_cell", none), "_law_cell", "_law_cell", defArgs s__law_cell, defBody s__law_cell, defScope s__law_cell, [], []⟩
def dd__law_take : He.DefD := ⟨("_law_take", none), "_law_take", "_law_take", defArgs s__law_take, defBody s__law_take, defScope s__law_take, [], []⟩
def dd__law_pick : He.DefD := ⟨("_law_pick", none), "_law_pick", "_law_pick", defArgs s__law_pick, defBody s__law_pick, defScope s__law_pick, [], []⟩
def dd__law_drawn_map : He.DefD := ⟨("_law_drawn_map", none), "_law_drawn_map", "_law_drawn_map", defArgs s__law_drawn_map, defBody s__law_drawn_map, defScope s__law_drawn_map, [], []⟩
def dd__law_far : He.DefD := ⟨("_law_far", none), "_law_far", "_law_far", defArgs s__law_far, defBody s__law_far, defScope s__law_far, [], []⟩
def dd__law_mixed : He.DefD := ⟨("_law_mixed", none), "_law_mixed", "_law_mixed", defArgs s__law_mixed, defBody s__law_mixed, defScope s__law_mixed, [], []⟩
def dd__law_back : He.DefD := ⟨("_law_back", none), "_law_back", "_law_back", defArgs s__law_back, defBody s__law_back, defScope s__law_back, [], []⟩
def dd__law_ends : He.DefD := ⟨("_law_ends", none), "_law_ends", "_law_ends", defArgs s__law_ends, defBody s__law_ends, defScope s__law_ends, [], []⟩
def dd__law_same : He.DefD := ⟨("_law_same", none), "_law_same", "_law_same", defArgs s__law_same, defBody s__law_same, defScope s__law_same, [], []⟩
def dd_is_tuple : He.DefD := ⟨("is_tuple", none), "is_tuple", "is_tuple", defArgs s_is_tuple, defBody s_is_tuple, defScope s_is_tuple, [], []⟩
def dd_is_integer : He.DefD := ⟨("is_integer", none), "is_integer", "is_integer", defArgs s_is_integer, defBody s_is_integer, defScope s_is_integer, [], []⟩
def dd_is_within : He.DefD := ⟨("is_within", none), "is_within", "is_within", defArgs s_is_within, defBody s_is_within, defScope s_is_within, [], []⟩
def dd_is_index : He.DefD := ⟨("is_index", none), "is_index", "is_index", defArgs s_is_index, defBody s_is_index, defScope s_is_index, [], []⟩
def dd_is_count : He.DefD := ⟨("is_count", none), "is_count", "is_count", defArgs s_is_count, defBody s_is_count, defScope s_is_count, [], []⟩
def dd_is_tie : He.DefD := ⟨("is_tie", none), "is_tie", "is_tie", defArgs s_is_tie, defBody s_is_tie, defScope s_is_tie, [], []⟩
def dd_in_order : He.DefD := ⟨("in_order", none), "in_order", "in_order", defArgs s_in_order, defBody s_in_order, defScope s_in_order, [], []⟩
def dd_is_map : He.DefD := ⟨("is_map", none), "is_map", "is_map", defArgs s_is_map, defBody s_is_map, defScope s_is_map, [], []⟩
def dd_check_map : He.DefD := ⟨("check_map", none), "check_map", "check_map", defArgs s_check_map, defBody s_check_map, defScope s_check_map, [], []⟩
def dd_check_place : He.DefD := ⟨("check_place", none), "check_place", "check_place", defArgs s_check_place, defBody s_check_place, defScope s_check_place, [], []⟩
def dd_check_two : He.DefD := ⟨("check_two", none), "check_two", "check_two", defArgs s_check_two, defBody s_check_two, defScope s_check_two, [], []⟩
def dd_ties_from : He.DefD := ⟨("ties_from", none), "ties_from", "ties_from", defArgs s_ties_from, defBody s_ties_from, defScope s_ties_from, [], []⟩
def dd_is_less : He.DefD := ⟨("is_less", none), "is_less", "is_less", defArgs s_is_less, defBody s_is_less, defScope s_is_less, [], []⟩
def dd_search : He.DefD := ⟨("search", none), "search", "search", defArgs s_search, defBody s_search, defScope s_search, [], []⟩
def dd_lengths_from : He.DefD := ⟨("lengths_from", none), "lengths_from", "lengths_from", defArgs s_lengths_from, defBody s_lengths_from, defScope s_lengths_from, [], []⟩
def dd_length_of : He.DefD := ⟨("length_of", none), "length_of", "length_of", defArgs s_length_of, defBody s_length_of, defScope s_length_of, [], []⟩
def dd_check_way : He.DefD := ⟨("check_way", none), "check_way", "check_way", defArgs s_check_way, defBody s_check_way, defScope s_check_way, [], []⟩
def dd_lengths_to : He.DefD := ⟨("lengths_to", none), "lengths_to", "lengths_to", defArgs s_lengths_to, defBody s_lengths_to, defScope s_lengths_to, [], []⟩
def dd_least_proof : He.DefD := ⟨("least_proof", none), "least_proof", "least_proof", defArgs s_least_proof, defBody s_least_proof, defScope s_least_proof, [], []⟩
def dd_greatest_proof : He.DefD := ⟨("greatest_proof", none), "greatest_proof", "greatest_proof", defArgs s_greatest_proof, defBody s_greatest_proof, defScope s_greatest_proof, [], []⟩
def dd__law_told : He.DefD := ⟨("_law_told", none), "_law_told", "_law_told", defArgs s__law_told, defBody s__law_told, defScope s__law_told, [], []⟩
def dd__law_all : He.DefD := ⟨("_law_all", none), "_law_all", "_law_all", defArgs s__law_all, defBody s__law_all, defScope s__law_all, [], []⟩
def dd__law_drawn_proof : He.DefD := ⟨("_law_drawn_proof", none), "_law_drawn_proof", "_law_drawn_proof", defArgs s__law_drawn_proof, defBody s__law_drawn_proof, defScope s__law_drawn_proof, [], []⟩
def dd__law_is : He.DefD := ⟨("_law_is", none), "_law_is", "_law_is", defArgs s__law_is, defBody s__law_is, defScope s__law_is, [], []⟩
def dd_are_counts : He.DefD := ⟨("are_counts", none), "are_counts", "are_counts", defArgs s_are_counts, defBody s_are_counts, defScope s_are_counts, [], []⟩
def dd_proved_by : He.DefD := ⟨("proved_by", none), "proved_by", "proved_by", defArgs s_proved_by, defBody s_proved_by, defScope s_proved_by, [], []⟩
def dd_is_proof : He.DefD := ⟨("is_proof", none), "is_proof", "is_proof", defArgs s_is_proof, defBody s_is_proof, defScope s_is_proof, [], []⟩
def dd__law_taken : He.DefD := ⟨("_law_taken", none), "_law_taken", "_law_taken", defArgs s__law_taken, defBody s__law_taken, defScope s__law_taken, [], []⟩
def dd_check_ends : He.DefD := ⟨("check_ends", none), "check_ends", "check_ends", defArgs s_check_ends, defBody s_check_ends, defScope s_check_ends, [], []⟩
def dd_are_integers : He.DefD := ⟨("are_integers", none), "are_integers", "are_integers", defArgs s_are_integers, defBody s_are_integers, defScope s_are_integers, [], []⟩
def dd_proved : He.DefD := ⟨("proved", none), "proved", "proved", defArgs s_proved, defBody s_proved, defScope s_proved, [], []⟩
def dd__law_scaled : He.DefD := ⟨("_law_scaled", none), "_law_scaled", "_law_scaled", defArgs s__law_scaled, defBody s__law_scaled, defScope s__law_scaled, [], []⟩
def dd__law_tight : He.DefD := ⟨("_law_tight", none), "_law_tight", "_law_tight", defArgs s__law_tight, defBody s__law_tight, defScope s__law_tight, [], []⟩
def dd__law_pair_right : He.DefD := ⟨("_law_pair_right", none), "_law_pair_right", "_law_pair_right", defArgs s__law_pair_right, defBody s__law_pair_right, defScope s__law_pair_right, [], []⟩
def dd__law_row_right : He.DefD := ⟨("_law_row_right", none), "_law_row_right", "_law_row_right", defArgs s__law_row_right, defBody s__law_row_right, defScope s__law_row_right, [], []⟩
def dd_law : He.DefD := ⟨("law", none), "law", "law", defArgs s_law, defBody s_law, defScope s_law, [], []⟩
def fn : List He.DefD := ([dd__law_box, dd__law_cell, dd__law_take, dd__law_pick, dd__law_drawn_map, dd__law_far, dd__law_mixed, dd__law_back, dd__law_ends, dd__law_same, dd_is_tuple, dd_is_integer, dd_is_within, dd_is_index, dd_is_count, dd_is_tie, dd_in_order, dd_is_map, dd_check_map, dd_check_place, dd_check_two, dd_ties_from, dd_is_less, dd_search, dd_lengths_from, dd_length_of, dd_check_way, dd_lengths_to, dd_least_proof, dd_greatest_proof] : List He.DefD) ++ ([dd__law_told, dd__law_all, dd__law_drawn_proof, dd__law_is, dd_are_counts, dd_proved_by, dd_is_proof, dd__law_taken, dd_check_ends, dd_are_integers, dd_proved, dd__law_scaled, dd__law_tight, dd__law_pair_right, dd__law_row_right, dd_law] : List He.DefD)
def fa : List He.Fa := ([.glo "_law_box", .glo "_law_cell", .glo "_law_take", .glo "_law_pick", .glo "_law_drawn_map", .glo "_law_far", .glo "_law_mixed", .glo "_law_back", .glo "_law_ends", .glo "_law_same", .glo "is_tuple", .glo "is_integer", .glo "is_within", .glo "is_index", .glo "is_count", .glo "is_tie", .glo "in_order", .glo "is_map", .glo "check_map", .glo "check_place", .glo "check_two", .glo "ties_from", .glo "is_less", .glo "search", .glo "lengths_from", .glo "length_of", .glo "check_way", .glo "lengths_to", .glo "least_proof", .glo "greatest_proof"] : List He.Fa) ++ ([.glo "_law_told", .glo "_law_all", .glo "_law_drawn_proof", .glo "_law_is", .glo "are_counts", .glo "proved_by", .glo "is_proof", .glo "_law_taken", .glo "check_ends", .glo "are_integers", .glo "proved", .glo "_law_scaled", .glo "_law_tight", .glo "_law_pair_right", .glo "_law_row_right", .glo "law", .free "abs", .free "all", .free "any", .free "bool", .free "enumerate", .free "int", .free "isinstance", .free "len", .free "list", .free "max", .free "min", .free "range", .free "sorted", .free "str"] : List He.Fa) ++ ([.free "sum", .free "tuple", .free "zip", .int "MOST_PLACES" 20, .int "MOST_TIES" 120] : List He.Fa)
def loose : List Str := (["MapError", "InvalidMap", "InvalidPlace", "InvalidHeights", "NoWay", "is_integer", "is_count", "is_within", "is_index", "is_tuple", "are_integers", "are_counts", "in_order", "is_less", "MOST_PLACES", "MOST_TIES", "is_tie", "is_map", "check_map", "check_place", "check_ends", "check_two", "ties_from", "search", "lengths_from", "length_of", "proved_by", "proved", "lengths_to", "check_way"] : List Str) ++ (["is_proof", "least_proof", "greatest_proof", "_law_cell", "_law_box", "_law_take", "_law_same", "_law_pick", "_law_mixed", "_law_far", "_law_back", "_law_scaled", "_law_drawn_map", "_law_tight", "_law_is", "_law_all", "_law_ends", "_law_told", "_law_taken", "_law_drawn_proof", "_law_pair_right", "_law_row_right"] : List Str)
abbrev R : PySem.W.OpenRow := PySem.W.OpenLaw.row PySem.Challenge.rw_mapwide_k50_whole_proofs_turned_joined_a
abbrev hk : PySem.W.Hook := He.hookD 4 fa fn
def ob (s : PySem.W.SharedT) : He.AlD := He.obsDG 4 fa fn (HandSHeadRun.getT s)
theorem ob_eq (s : PySem.W.SharedT) : ob s = hk.obs s.abs := He.obsDG_eq (HandSHeadRun.getT_eq s)
theorem run (w : World) : HandSHeadRun.RunEq R (PySem.W.view R.prog [58]) hk ob 6000 loose w := by
  intro os
  kernel_rfl
theorem fd_uniq {K : Fr} {x : Str} {st : Stmt} {f : Addr} {fd fd2 : FuncData} (F : FnP K x st f fd) (F2 : FnP K x st f fd2) : fd = fd2 := by
  obtain ⟨_, _, _, _, _, _, _, _, _, _, _, lk, _⟩ := F.ex
  obtain ⟨_, _, _, _, _, _, _, _, _, _, _, lk2, _⟩ := F2.ex
  rw [lk] at lk2
  cases lk2
  rfl
theorem facts {K : Fr} {h : Heap} {mg : Str → Option Value} (X : K.In h) (G : h.Ns mainGlobals mg) (c : He.SaysD fa fn K) : Fx K mg where
  d__law_box := by
    obtain ⟨fd, F⟩ := c.def_ 0 (d := dd__law_box) rfl
    exact ⟨_, fd, F, He.glo_ok X G (c.fact 0 (f := .glo "_law_box") rfl)⟩
  d__law_cell := by
    obtain ⟨fd, F⟩ := c.def_ 1 (d := dd__law_cell) rfl
    exact ⟨_, fd, F, He.glo_ok X G (c.fact 1 (f := .glo "_law_cell") rfl)⟩
  d__law_take := by
    obtain ⟨fd, F⟩ := c.def_ 2 (d := dd__law_take) rfl
    exact ⟨_, fd, F, He.glo_ok X G (c.fact 2 (f := .glo "_law_take") rfl)⟩
  d__law_pick := by
    obtain ⟨fd, F⟩ := c.def_ 3 (d := dd__law_pick) rfl
    exact ⟨_, fd, F, He.glo_ok X G (c.fact 3 (f := .glo "_law_pick") rfl)⟩
  d__law_drawn_map := by
    obtain ⟨fd, F⟩ := c.def_ 4 (d := dd__law_drawn_map) rfl
    exact ⟨_, fd, F, He.glo_ok X G (c.fact 4 (f := .glo "_law_drawn_map") rfl)⟩
  d__law_far := by
    obtain ⟨fd, F⟩ := c.def_ 5 (d := dd__law_far) rfl
    exact ⟨_, fd, F, He.glo_ok X G (c.fact 5 (f := .glo "_law_far") rfl)⟩
  d__law_mixed := by
    obtain ⟨fd, F⟩ := c.def_ 6 (d := dd__law_mixed) rfl
    exact ⟨_, fd, F, He.glo_ok X G (c.fact 6 (f := .glo "_law_mixed") rfl)⟩
  d__law_back := by
    obtain ⟨fd, F⟩ := c.def_ 7 (d := dd__law_back) rfl
    exact ⟨_, fd, F, He.glo_ok X G (c.fact 7 (f := .glo "_law_back") rfl)⟩
  d__law_ends := by
    obtain ⟨fd, F⟩ := c.def_ 8 (d := dd__law_ends) rfl
    exact ⟨_, fd, F, He.glo_ok X G (c.fact 8 (f := .glo "_law_ends") rfl)⟩
  d__law_same := by
    obtain ⟨fd, F⟩ := c.def_ 9 (d := dd__law_same) rfl
    exact ⟨_, fd, F, He.glo_ok X G (c.fact 9 (f := .glo "_law_same") rfl)⟩
  d_is_tuple := by
    obtain ⟨fd, F⟩ := c.def_ 10 (d := dd_is_tuple) rfl
    exact ⟨_, fd, F, He.glo_ok X G (c.fact 10 (f := .glo "is_tuple") rfl)⟩
  d_is_integer := by
    obtain ⟨fd, F⟩ := c.def_ 11 (d := dd_is_integer) rfl
    exact ⟨_, fd, F, He.glo_ok X G (c.fact 11 (f := .glo "is_integer") rfl)⟩
  d_is_within := by
    obtain ⟨fd, F⟩ := c.def_ 12 (d := dd_is_within) rfl
    exact ⟨_, fd, F, He.glo_ok X G (c.fact 12 (f := .glo "is_within") rfl)⟩
  d_is_index := by
    obtain ⟨fd, F⟩ := c.def_ 13 (d := dd_is_index) rfl
    exact ⟨_, fd, F, He.glo_ok X G (c.fact 13 (f := .glo "is_index") rfl)⟩
  d_is_count := by
    obtain ⟨fd, F⟩ := c.def_ 14 (d := dd_is_count) rfl
    exact ⟨_, fd, F, He.glo_ok X G (c.fact 14 (f := .glo "is_count") rfl)⟩
  d_is_tie := by
    obtain ⟨fd, F⟩ := c.def_ 15 (d := dd_is_tie) rfl
    exact ⟨_, fd, F, He.glo_ok X G (c.fact 15 (f := .glo "is_tie") rfl)⟩
  d_in_order := by
    obtain ⟨fd, F⟩ := c.def_ 16 (d := dd_in_order) rfl
    exact ⟨_, fd, F, He.glo_ok X G (c.fact 16 (f := .glo "in_order") rfl)⟩
  d_is_map := by
    obtain ⟨fd, F⟩ := c.def_ 17 (d := dd_is_map) rfl
    exact ⟨_, fd, F, He.glo_ok X G (c.fact 17 (f := .glo "is_map") rfl)⟩
  d_check_map := by
    obtain ⟨fd, F⟩ := c.def_ 18 (d := dd_check_map) rfl
    exact ⟨_, fd, F, He.glo_ok X G (c.fact 18 (f := .glo "check_map") rfl)⟩
  d_check_place := by
    obtain ⟨fd, F⟩ := c.def_ 19 (d := dd_check_place) rfl
    exact ⟨_, fd, F, He.glo_ok X G (c.fact 19 (f := .glo "check_place") rfl)⟩
  d_check_two := by
    obtain ⟨fd, F⟩ := c.def_ 20 (d := dd_check_two) rfl
    exact ⟨_, fd, F, He.glo_ok X G (c.fact 20 (f := .glo "check_two") rfl)⟩
  d_ties_from := by
    obtain ⟨fd, F⟩ := c.def_ 21 (d := dd_ties_from) rfl
    exact ⟨_, fd, F, He.glo_ok X G (c.fact 21 (f := .glo "ties_from") rfl)⟩
  d_is_less := by
    obtain ⟨fd, F⟩ := c.def_ 22 (d := dd_is_less) rfl
    exact ⟨_, fd, F, He.glo_ok X G (c.fact 22 (f := .glo "is_less") rfl)⟩
  d_search := by
    obtain ⟨fd, F⟩ := c.def_ 23 (d := dd_search) rfl
    exact ⟨_, fd, F, He.glo_ok X G (c.fact 23 (f := .glo "search") rfl)⟩
  d_lengths_from := by
    obtain ⟨fd, F⟩ := c.def_ 24 (d := dd_lengths_from) rfl
    exact ⟨_, fd, F, He.glo_ok X G (c.fact 24 (f := .glo "lengths_from") rfl)⟩
  d_length_of := by
    obtain ⟨fd, F⟩ := c.def_ 25 (d := dd_length_of) rfl
    exact ⟨_, fd, F, He.glo_ok X G (c.fact 25 (f := .glo "length_of") rfl)⟩
  d_check_way := by
    obtain ⟨fd, F⟩ := c.def_ 26 (d := dd_check_way) rfl
    exact ⟨_, fd, F, He.glo_ok X G (c.fact 26 (f := .glo "check_way") rfl)⟩
  d_lengths_to := by
    obtain ⟨fd, F⟩ := c.def_ 27 (d := dd_lengths_to) rfl
    exact ⟨_, fd, F, He.glo_ok X G (c.fact 27 (f := .glo "lengths_to") rfl)⟩
  d_least_proof := by
    obtain ⟨fd, F⟩ := c.def_ 28 (d := dd_least_proof) rfl
    exact ⟨_, fd, F, He.glo_ok X G (c.fact 28 (f := .glo "least_proof") rfl)⟩
  d_greatest_proof := by
    obtain ⟨fd, F⟩ := c.def_ 29 (d := dd_greatest_proof) rfl
    exact ⟨_, fd, F, He.glo_ok X G (c.fact 29 (f := .glo "greatest_proof") rfl)⟩
  d__law_told := by
    obtain ⟨fd, F⟩ := c.def_ 30 (d := dd__law_told) rfl
    exact ⟨_, fd, F, He.glo_ok X G (c.fact 30 (f := .glo "_law_told") rfl)⟩
  d__law_all := by
    obtain ⟨fd, F⟩ := c.def_ 31 (d := dd__law_all) rfl
    exact ⟨_, fd, F, He.glo_ok X G (c.fact 31 (f := .glo "_law_all") rfl)⟩
  d__law_drawn_proof := by
    obtain ⟨fd, F⟩ := c.def_ 32 (d := dd__law_drawn_proof) rfl
    exact ⟨_, fd, F, He.glo_ok X G (c.fact 32 (f := .glo "_law_drawn_proof") rfl)⟩
  d__law_is := by
    obtain ⟨fd, F⟩ := c.def_ 33 (d := dd__law_is) rfl
    exact ⟨_, fd, F, He.glo_ok X G (c.fact 33 (f := .glo "_law_is") rfl)⟩
  d_are_counts := by
    obtain ⟨fd, F⟩ := c.def_ 34 (d := dd_are_counts) rfl
    exact ⟨_, fd, F, He.glo_ok X G (c.fact 34 (f := .glo "are_counts") rfl)⟩
  d_proved_by := by
    obtain ⟨fd, F⟩ := c.def_ 35 (d := dd_proved_by) rfl
    exact ⟨_, fd, F, He.glo_ok X G (c.fact 35 (f := .glo "proved_by") rfl)⟩
  d_is_proof := by
    obtain ⟨fd, F⟩ := c.def_ 36 (d := dd_is_proof) rfl
    exact ⟨_, fd, F, He.glo_ok X G (c.fact 36 (f := .glo "is_proof") rfl)⟩
  d__law_taken := by
    obtain ⟨fd, F⟩ := c.def_ 37 (d := dd__law_taken) rfl
    exact ⟨_, fd, F, He.glo_ok X G (c.fact 37 (f := .glo "_law_taken") rfl)⟩
  d_check_ends := by
    obtain ⟨fd, F⟩ := c.def_ 38 (d := dd_check_ends) rfl
    exact ⟨_, fd, F, He.glo_ok X G (c.fact 38 (f := .glo "check_ends") rfl)⟩
  d_are_integers := by
    obtain ⟨fd, F⟩ := c.def_ 39 (d := dd_are_integers) rfl
    exact ⟨_, fd, F, He.glo_ok X G (c.fact 39 (f := .glo "are_integers") rfl)⟩
  d_proved := by
    obtain ⟨fd, F⟩ := c.def_ 40 (d := dd_proved) rfl
    exact ⟨_, fd, F, He.glo_ok X G (c.fact 40 (f := .glo "proved") rfl)⟩
  d__law_scaled := by
    obtain ⟨fd, F⟩ := c.def_ 41 (d := dd__law_scaled) rfl
    exact ⟨_, fd, F, He.glo_ok X G (c.fact 41 (f := .glo "_law_scaled") rfl)⟩
  d__law_tight := by
    obtain ⟨fd, F⟩ := c.def_ 42 (d := dd__law_tight) rfl
    exact ⟨_, fd, F, He.glo_ok X G (c.fact 42 (f := .glo "_law_tight") rfl)⟩
  d__law_pair_right := by
    obtain ⟨fd, F⟩ := c.def_ 43 (d := dd__law_pair_right) rfl
    exact ⟨_, fd, F, He.glo_ok X G (c.fact 43 (f := .glo "_law_pair_right") rfl)⟩
  d__law_row_right := by
    obtain ⟨fd, F⟩ := c.def_ 44 (d := dd__law_row_right) rfl
    exact ⟨_, fd, F, He.glo_ok X G (c.fact 44 (f := .glo "_law_row_right") rfl)⟩
  d_law := by
    obtain ⟨fd, F⟩ := c.def_ 45 (d := dd_law) rfl
    exact ⟨_, fd, F, He.glo_ok X G (c.fact 45 (f := .glo "law") rfl)⟩
  f_abs := He.free_ok X G (c.fact 46 (f := .free "abs") rfl)
  f_all := He.free_ok X G (c.fact 47 (f := .free "all") rfl)
  f_any := He.free_ok X G (c.fact 48 (f := .free "any") rfl)
  f_bool := He.free_ok X G (c.fact 49 (f := .free "bool") rfl)
  f_enumerate := He.free_ok X G (c.fact 50 (f := .free "enumerate") rfl)
  f_int := He.free_ok X G (c.fact 51 (f := .free "int") rfl)
  f_isinstance := He.free_ok X G (c.fact 52 (f := .free "isinstance") rfl)
  f_len := He.free_ok X G (c.fact 53 (f := .free "len") rfl)
  f_list := He.free_ok X G (c.fact 54 (f := .free "list") rfl)
  f_max := He.free_ok X G (c.fact 55 (f := .free "max") rfl)
  f_min := He.free_ok X G (c.fact 56 (f := .free "min") rfl)
  f_range := He.free_ok X G (c.fact 57 (f := .free "range") rfl)
  f_sorted := He.free_ok X G (c.fact 58 (f := .free "sorted") rfl)
  f_str := He.free_ok X G (c.fact 59 (f := .free "str") rfl)
  f_sum := He.free_ok X G (c.fact 60 (f := .free "sum") rfl)
  f_tuple := He.free_ok X G (c.fact 61 (f := .free "tuple") rfl)
  f_zip := He.free_ok X G (c.fact 62 (f := .free "zip") rfl)
  g_MOST_PLACES := He.int_ok X G (c.fact 63 (f := .int "MOST_PLACES" 20) rfl)
  g_MOST_TIES := He.int_ok X G (c.fact 64 (f := .int "MOST_TIES" 120) rfl)
/-- all that is left: what the law means, in plain words -/
theorem holds_of (plain : ∀ ns : List Int, ns.length ≤ 63 → ∃ outs, D_law [(0, .list (ns.map PyData.int))] = some ((0, .bool true), outs)) : PySem.Challenge.rw_mapwide_k50_whole_proofs_turned_joined_a.Holds := by
  w_on; o_law
  refine HandSHeadRun.head_any (r := PySem.W.OpenLaw.row PySem.Challenge.rw_mapwide_k50_whole_proofs_turned_joined_a) (q := PySem.W.view (PySem.W.OpenLaw.row PySem.Challenge.rw_mapwide_k50_whole_proofs_turned_joined_a).prog [58]) (H := hk) (ob := ob) (M := 6000) (loose := loose) (d := HandSHeadRun.topDef (PySem.W.OpenLaw.row PySem.Challenge.rw_mapwide_k50_whole_proofs_turned_joined_a).prog 58) (kwd := []) ob_eq
    (by kernel_rfl) (fun s => by kernel_rfl) run (by kernel_rfl) (by kernel_rfl) (by kernel_rfl) (by rfl) (by first | assumption | decide +kernel) (by decide +kernel) ⟨rfl, rfl, rfl, rfl, rfl, by decide +kernel⟩ ?hw ?hc
  case hw => w_witness2
  case hc =>
    refine walkD (l := PySem.Challenge.rw_mapwide_k50_whole_proofs_turned_joined_a) (n := 63) (k := 10) (x := "script") rfl (by decide) (by kernel_rfl) ⟨rfl, by decide, by decide⟩ ?F
    intro w mg fa h Y G hmg0
    obtain ⟨K, KX, c⟩ := Y
    have hmg : mg ("law" : PySem.Str) = some (.ref fa) := by
      have e : (HandSHeadRun.topDef (PySem.W.OpenLaw.row PySem.Challenge.rw_mapwide_k50_whole_proofs_turned_joined_a).prog 58).name = ("law" : PySem.Str) := by kernel_rfl
      rw [← e]
      exact hmg0
    have T := facts KX G c
    obtain ⟨f, fd, FD, em⟩ := T.d_law
    rw [hmg] at em
    cases em
    have b := FunD.bindsA (ps := ["script"]) FD fun _ _ _ _ _ _ us hl => match us, hl with | [_], _ => rfl
    refine ⟨K, fd, D_law, KX, fun s v => b s [v] rfl, plain, fun base _ _ => ?_⟩
    obtain ⟨f2, fd2, FD2, em2, G2⟩ := (ok_all (P := PySem.Challenge.pw_mapwide_k50_whole_proofs_turned_joined_a) (w := w) (base := base) T).ex
    rw [hmg] at em2
    cases em2
    rw [fd_uniq FD FD2]
    exact G2
end Dn.W

theorem PySem.Challenge.cw_mapwide_k50_whole_proofs_turned_joined_a_holds : PySem.Challenge.rw_mapwide_k50_whole_proofs_turned_joined_a.Holds :=
  Dn.W.holds_of Dn.W.plain
